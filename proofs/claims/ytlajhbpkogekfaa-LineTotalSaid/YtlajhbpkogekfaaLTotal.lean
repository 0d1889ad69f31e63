import Derived.Test.YtlajhbpkogekfaaCon
import Derived.Test.YtlajhbpkogekfaaAvB
import Derived.Test.YtlajhbpkogekfaaRows
import Derived.Test.YtlajhbpkogekfaaLTotalW
/- LineTotal: for every input the law returns true, and the input reads as before. No conditions. -/
/- Texts by numbers. -/
set_option linter.unusedVariables false
namespace Line
def gw (W : Nat) : Nat := 1 + W % 40
def glong (W S : Nat) : Nat := if S % 3 > 0 then 1 + gw W / 2 else gw W
def gmin (W S : Nat) : Nat := if gw W < glong W S then gw W else glong W S
def gwords (W S : Nat) (l : List Nat) : List Int := l.map fun x => ((1 + x % gmin W S : Nat) : Int)
def madeL (W M S : Nat) (l : List Nat) (most : Nat) : List Int := gwords W S (l.take (1 + M % most))
theorem gw_range (W : Nat) : 1 ≤ gw W ∧ gw W ≤ 40 := by unfold gw; omega
theorem gmin_range (W S : Nat) : 1 ≤ gmin W S ∧ gmin W S ≤ gw W := by
  have := gw_range W
  unfold gmin glong
  split <;> split <;> omega
theorem made_len {W M S : Nat} {l : List Nat} {most : Nat} (hl : l.length = 10) (hm : 1 ≤ most ∧ most ≤ 10) : (madeL W M S l most).length = 1 + M % most := by
  have := Nat.mod_lt M (show most > 0 by omega)
  simp [madeL, gwords]; omega
theorem chk_made {W M S : Nat} {l : List Nat} {most : Nat} (hl : l.length = 10) (hm : 1 ≤ most ∧ most ≤ 10) : chk (gw W) (madeL W M S l most) = 0 := by
  have h1 := gw_range W
  have h2 := made_len (W := W) (M := M) (S := S) hl hm
  have h3 := Nat.mod_lt M (show most > 0 by omega)
  unfold chk
  rw [if_neg (by omega), if_neg (by omega), if_neg (by omega), if_pos]
  intro x hx
  simp only [madeL, gwords, List.mem_map] at hx
  obtain ⟨y, _, rfl⟩ := hx
  have h4 := gmin_range W S
  have := Nat.mod_lt y (show gmin W S > 0 by omega)
  omega
end Line

/- Ends in order. -/
set_option linter.unusedVariables false
namespace Line
/-- Ends that ascend, behind one, up to a last place. -/
def asc (n : Int) : Int → List Int → Prop
  | _, [] => True
  | last, e :: r => last < e ∧ 1 ≤ e ∧ e ≤ n ∧ asc n e r
theorem scan_asc {n : Int} : ∀ {l : List Int} {last : Int} (r : List Int), asc n last l → scan n last (l ++ r) = scan n (l.getLastD last) r
  | [], last, r, _ => rfl
  | e :: l, last, r, h => by
    obtain ⟨h1, h2, h3, h4⟩ := h
    rw [List.cons_append, scan, if_neg (by omega), if_neg (by omega), scan_asc r h4, List.getLastD_cons]
theorem asc_snoc {n : Int} : ∀ {l : List Int} {last x : Int}, asc n last l → l.getLastD last < x → 1 ≤ x → x ≤ n → asc n last (l ++ [x])
  | [], last, x, _, h1, h2, h3 => ⟨by simpa using h1, h2, h3, trivial⟩
  | e :: l, last, x, h, h1, h2, h3 => by
    obtain ⟨g1, g2, g3, g4⟩ := h
    rw [List.getLastD_cons] at h1
    exact ⟨g1, g2, g3, asc_snoc g4 h1 h2 h3⟩
theorem asc_of_scan {n : Int} : ∀ {l : List Int} {last : Int}, scan n last l = 0 → asc n last l
  | [], _, _ => trivial
  | e :: r, last, h => by
    rw [scan] at h
    split at h; · omega
    split at h; · omega
    exact ⟨by omega, by omega, by omega, asc_of_scan h⟩
/-- A line begins before it ends. -/
theorem stN_lt {n : Int} {l : List Int} (h : asc n 0 l) {k : Nat} (hk : k < l.length) : stN (toN l) k < (toN l).getD k 0 := by
  have key : ∀ {l : List Int} {last : Int}, 0 ≤ last → asc n last l → ∀ k, k < l.length → (if k = 0 then last.toNat else (toN l).getD (k - 1) 0) < (toN l).getD k 0 := by
    intro l
    induction l with
    | nil => intro last _ _ k hk; simp at hk
    | cons e r ih =>
      intro last hl h k hk
      obtain ⟨h1, h2, h3, h4⟩ := h
      cases k with
      | zero => simp [toN]; omega
      | succ k =>
        have := ih (last := e) (by omega) h4 k (by simpa using hk)
        cases k with
        | zero => simpa [toN] using this
        | succ k => simpa [toN] using this
  have := key (Int.le_refl 0) h k hk
  unfold stN
  simpa using this
theorem asc_le {n : Int} : ∀ {l : List Int} {last : Int}, asc n last l → ∀ e ∈ l, 1 ≤ e ∧ e ≤ n
  | [], _, _ => by simp
  | e :: r, last, h => by
    obtain ⟨h1, h2, h3, h4⟩ := h
    intro x hx
    rcases List.mem_cons.1 hx with rfl | hx
    · exact ⟨h2, h3⟩
    · exact asc_le h4 x hx
theorem up_append (a b : List Nat) : up (a ++ b) = up a ++ up b := by simp [up]
theorem up_snoc (a : List Nat) (q : Nat) : up (a ++ [q]) = up a ++ [(q : Int)] := by simp [up]
theorem toN_up (E : List Nat) : toN (up E) = E := by
  simp only [toN, up, List.map_map]
  conv => rhs; rw [← List.map_id E]
  exact List.map_congr_left fun x _ => by simp
end Line

/- Lines of ends, one by one. -/
set_option linter.unusedVariables false
set_option linter.unusedSimpArgs false
namespace Line
theorem getD_append_lt {E r : List Nat} {k : Nat} (h : k < E.length) : (E ++ r).getD k 0 = E.getD k 0 := by
  rw [List.getD_eq_getElem?_getD, List.getElem?_append_left h, ← List.getD_eq_getElem?_getD]
theorem getD_last (E : List Nat) (h : E ≠ []) : E.getD (E.length - 1) 0 = E.getLastD 0 := by
  rw [List.getLastD_eq_getLast?, List.getD_eq_getElem?_getD, List.getLast?_eq_getElem?]
theorem stN_append {E r : List Nat} : stN (E ++ r) E.length = E.getLastD 0 := by
  unfold stN
  split
  · rename_i h
    have : E = [] := List.eq_nil_of_length_eq_zero h
    subst this; rfl
  · rename_i h
    rw [getD_append_lt (by omega), getD_last E (by rintro rfl; simp at h)]
theorem spansN_append (E r : List Nat) : spansN (E ++ r) E.length = spansN E E.length := by
  unfold spansN
  refine List.map_congr_left fun k hk => ?_
  have hk := List.mem_range.1 hk
  unfold spanN stN
  rw [getD_append_lt hk]
  split
  · rfl
  · rw [getD_append_lt (by omega)]
theorem spansN_snoc (E : List Nat) (x : Nat) : spansN (E ++ [x]) (E.length + 1) = spansN E E.length ++ [(E.getLastD 0, x)] := by
  rw [spansN_succ, spansN_append]
  unfold spanN
  rw [stN_append, List.getD_eq_getElem?_getD, List.getElem?_append_right (Nat.le_refl _)]
  simp
theorem over_snoc (w : Int) (ws : List Int) (E : List Nat) (x : Nat) : over w ws (E ++ [x]) = (over w ws E || decide (lf w ws (E.getLastD 0) x < 0)) := by
  unfold over
  rw [List.length_append, List.length_singleton, spansN_snoc, List.any_append]
  simp
theorem up_lastD (E : List Nat) : (up E).getLastD 0 = (E.getLastD 0 : Nat) := by
  cases E with
  | nil => rfl
  | cons a l => simp [up, List.getLastD_eq_getLast?, List.getLast?_map, List.getLast?_cons]
/-- Ends that ascend, end with the last word, and fit. -/
theorem ended_mk {w : Int} {ws : List Int} {E : List Nat} (hc : chk w ws = 0) (ha : asc ws.length 0 (up E)) (hl : E.getLastD 0 = ws.length) (ho : over w ws E = false) : endedE w ws (up E) = 0 := by
  have hs : scan ws.length 0 (up E) = 0 := by
    have := scan_asc [] ha
    rw [List.append_nil] at this
    rw [this, up_lastD, hl]; simp [scan]
  rw [endedE, hc, hs, toN_up, ho]; simp

/-- What the first lines cost, but for those from a number on. -/
def wantE (w : Int) (ws : List Int) (E : List Nat) (m : Nat) : Nat → Int
  | 0 => 0
  | i + 1 => wantE w ws E m i + if i < m then sqf w ws (stN E i) (E.getD i 0) else 0
theorem costS_append {w : Int} {ws : List Int} {last p : Nat × Nat} {l : List (Nat × Nat)} : costS w ws last (l ++ [p]) = costS w ws last l + if p = last then 0 else sqf w ws p.1 p.2 := by
  simp [costS]
theorem costE_eq {w : Int} {ws : List Int} {E : List Nat} {n : Int} (ha : asc n 0 (up E)) (hne : E ≠ []) : ∀ i, i ≤ E.length → costS w ws (spanN E (E.length - 1)) (spansN E i) = wantE w ws E (E.length - 1) i
  | 0, _ => rfl
  | i + 1, h => by
    have hlen : 0 < E.length := List.length_pos_iff.2 hne
    rw [spansN_succ, costS_append, costE_eq ha hne i (by omega), wantE]
    congr 1
    by_cases hi : i < E.length - 1
    · rw [if_neg, if_pos hi]
      · rfl
      · intro he
        have h1 := congrArg Prod.snd he
        simp only [spanN] at h1
        have mono : ∀ d k, k + d + 1 < E.length → E.getD k 0 < E.getD (k + d + 1) 0 := by
          intro d
          induction d with
          | zero =>
            intro k hk
            have := stN_lt ha (k := k + 1) (by simpa using hk)
            rw [toN_up] at this
            simpa [stN] using this
          | succ d ih =>
            intro k hk
            have a1 := ih k (by omega)
            have := stN_lt ha (k := k + d + 1 + 1) (by simp; omega)
            rw [toN_up] at this
            simp only [stN, Nat.add_one_sub_one] at this
            rw [if_neg (by omega)] at this
            have e : k + (d + 1) + 1 = k + d + 1 + 1 := by omega
            rw [e]
            omega
        have := mono (E.length - 1 - i - 1) i (by omega)
        rw [show i + (E.length - 1 - i - 1) + 1 = E.length - 1 by omega] at this
        omega
    · have : i = E.length - 1 := by omega
      subst this
      rw [if_pos rfl, if_neg (by omega)]
theorem psum_len (ws : List Int) : psum ws ws.length = ws.sum + ws.length := by simp [psum]
theorem ended_up {w : Int} {ws es : List Int} (h : endedE w ws es = 0) : up (toN es) = es := by
  obtain ⟨h1, h2, h3⟩ : chk w ws = 0 ∧ scan ws.length 0 es = 0 ∧ over w ws (toN es) = false := by
    unfold endedE at h
    by_cases h1 : chk w ws = 0 <;> simp only [h1, ne_eq, not_true, not_false_eq_true, if_true, if_false] at h
    · by_cases h2 : scan ws.length 0 es = 0 <;> simp only [h2, ne_eq, not_true, not_false_eq_true, if_true, if_false] at h
      · refine ⟨h1, h2, ?_⟩
        cases h3 : over w ws (toN es) <;> simp [h3] at h ⊢
  exact up_toN fun e he => (scan_range h2 e he).1
end Line

namespace Go.Proofs.Ytlajhbpkogekfaa
open Go.Av Line
set_option linter.unusedVariables false
set_option linter.unusedSimpArgs false
set_option maxRecDepth 4000

theorem slc_reads {H : Heap} {v : AV} {l : List Int} {i j : Nat} (h : Reads H v l) (hij : i < j) (hj : j ≤ l.length) :
    ∃ v', slc 1 v (some (.int .i64 (i : Int))) (some (.int .i64 (j : Int))) none = some v' ∧ Reads H v' ((l.drop i).take (j - i)) := by
  have n1 : ∀ d, natOf (some (.int .i64 (i : Int))) d = some i := fun d => by simp [natOf]
  have n2 : ∀ d, natOf (some (.int .i64 (j : Int))) d = some j := fun d => by simp [natOf]
  cases v <;> simp only [Reads] at h <;> try exact h.elim
  · subst h; simp at hj; omega
  · obtain ⟨rfl, rfl⟩ := h
    simp only [slc, n1, n2, Option.bind_some]
    rw [if_pos ⟨by omega, hj⟩]
    refine ⟨_, rfl, by simp; omega, ?_⟩
    rw [Nat.mul_one, Nat.mul_one, ints_drop, ints_take]
  · rename_i s b off n cp
    obtain ⟨rfl, rfl, cells, hb, hc, ht⟩ := h
    simp only [slc, n1, n2, Option.bind_some]
    rw [if_pos ⟨by trivial, by omega, hj, by omega⟩]
    refine ⟨_, rfl, rfl, by simp; omega, cells, hb, by omega, ?_⟩
    rw [Nat.mul_one, ← ints_take, ← ints_drop, ← ht, List.drop_take, List.take_take, List.drop_drop, Nat.min_eq_left (by omega)]

/-- left, of the law -/
theorem c43 {w : Int} {v : AV} {ws : List Int} {i j : Nat} {H : Heap} {K : AV → Heap → Prop} (hv : Reads H v ws) (hc : chk w ws = 0) (hij : i < j) (hj : j ≤ ws.length) (hk : K (.int .i64 (lf w ws i j)) H) :
    ACalls Try.prog 43 [.agg [.int .i64 w, v], .int .i64 i, .int .i64 j] H K := by
  apply W43_ok
  unfold W43
  obtain ⟨w1, w2, n1, n2, hws⟩ := chk_ok hc
  obtain ⟨v', hs, hr⟩ := slc_reads hv hij hj
  have hll : ((ws.drop i).take (j - i)).length = j - i := by simp; omega
  simp only [letO_some, cellsOf?_agg, cellsOf?_int, cellsOf?_bool, cellsOf?_imm, cellsOf?_ref, cellsOf?_nils, faddr_iptr, faddr_ptr, List.drop_succ_cons, List.drop_zero, List.take_succ_cons, List.take_zero, load1_iptr, loadN_iptr, List.length_cons, List.length_nil, Nat.le_refl, if_true, List.getElem?_cons_zero, List.getElem?_cons_succ, List.getD_cons_zero, List.getD_cons_succ, extrF_tup, binF_add, binF_sub, binF_mul, binF_eql, binF_neq, binF_lss, binF_leq, binF_gtr, binF_geq, true_and, hs, hr.len]
  refine ⟨fun L H' => ∃ (k : Nat), L = [.int .i64 (psum ws (i + k) - psum ws i - 1), .int .i64 k] ∧ i + k ≤ j ∧ H' = H, fun L _ => (j - i - iv L 1).toNat, ⟨0, by simp, by omega, rfl⟩, ?_⟩
  intro L H' hI
  obtain ⟨k, rfl, hk1, rfl⟩ := hI
  simp only [letO_some, cellsOf?_agg, cellsOf?_int, cellsOf?_bool, cellsOf?_imm, cellsOf?_ref, cellsOf?_nils, faddr_iptr, faddr_ptr, List.drop_succ_cons, List.drop_zero, List.take_succ_cons, List.take_zero, load1_iptr, loadN_iptr, List.length_cons, List.length_nil, Nat.le_refl, if_true, List.getElem?_cons_zero, List.getElem?_cons_succ, List.getD_cons_zero, List.getD_cons_succ, extrF_tup, binF_add, binF_sub, binF_mul, binF_eql, binF_neq, binF_lss, binF_leq, binF_gtr, binF_geq, true_and, hll]
  have hb1 := psum_le (ws := ws) (k := i) fun x hx => by have := hws x (List.mem_of_mem_take hx); omega
  have hb2 := psum_le (ws := ws) (k := i + k) fun x hx => by have := hws x (List.mem_of_mem_take hx); omega
  refine condA_t (fun hlt => ?_) (fun hge => ?_)
  · refine hr.get (Heap.le_refl _) (by omega) (by rw [hll]; exact hlt) ?_
    have hk2 : k < j - i := by omega
    have hg : ((ws.drop i).take (j - i)).getD (k : Int).toNat 0 = ws.getD (i + k) 0 := by
      rw [Int.toNat_natCast, List.getD_eq_getElem?_getD, List.getElem?_take_of_lt hk2, List.getElem?_drop, ← List.getD_eq_getElem?_getD]
    rw [hg]
    have hm : ws.getD (i + k) 0 ∈ ws := by rw [List.getD_eq_getElem?_getD]; simp [show i + k < ws.length by omega]
    have hx := hws _ hm
    have hp := psum_succ (show i + k < ws.length by omega)
    simp only [letO_some, cellsOf?_agg, cellsOf?_int, cellsOf?_bool, cellsOf?_imm, cellsOf?_ref, cellsOf?_nils, faddr_iptr, faddr_ptr, List.drop_succ_cons, List.drop_zero, List.take_succ_cons, List.take_zero, load1_iptr, loadN_iptr, List.length_cons, List.length_nil, Nat.le_refl, if_true, List.getElem?_cons_zero, List.getElem?_cons_succ, List.getD_cons_zero, List.getD_cons_succ, extrF_tup, binF_add, binF_sub, binF_mul, binF_eql, binF_neq, binF_lss, binF_leq, binF_gtr, binF_geq, true_and]
    rw [wrap_i64 (n := ws.getD (i + k) 0 + 1) (by omega) (by omega), wrap_i64 (n := psum ws (i + k) - psum ws i - 1 + (ws.getD (i + k) 0 + 1)) (by omega) (by omega), wrap_i64 (n := (k : Int) + 1) (by omega) (by omega)]
    try simp only [true_and, and_true]
    refine ⟨⟨k + 1, ?_, by omega⟩, by simp <;> omega⟩
    have e : psum ws (i + (k + 1)) - psum ws i - 1 = psum ws (i + k) - psum ws i - 1 + (ws.getD (i + k) 0 + 1) := by
      rw [show i + (k + 1) = i + k + 1 by omega, hp]; omega
    rw [e]
    rfl
  · have : i + k = j := by omega
    rw [this] at hb2 ⊢
    rw [wrap_i64 (by omega) (by omega)]
    rw [lf_eq (by omega) hj] at hk
    refine endK_ret ?_
    have e : w - (psum ws j - psum ws i - 1) = w + 1 - (psum ws j - psum ws i) := by omega
    rw [e]; exact hk

theorem conv53 {n : Int} (h : 0 ≤ n ∧ n < 256) : convF Try.prog 5 3 (.int .u8 n) = some (.int .i64 n) := by
  have h1 : Try.prog.underlying 5 = some (.int .u8) := by kernel_rfl
  have h2 : Try.prog.underlying 3 = some (.int .i64) := by kernel_rfl
  simp only [convF, h1, h2]
  rw [wrap_i64 (by omega) (by omega)]
theorem rem_nat {k : IntKind} {t : TypeId} {a b : Nat} (hb : b ≠ 0) : binF Try.prog .rem t (.int k (a : Int)) (.int k (b : Int)) = some (.int k ((a % b : Nat) : Int)) := by
  simp only [binF]
  rw [if_pos ⟨by trivial, by omega⟩, Int.ofNat_tmod]
theorem quo_nat {t : TypeId} {a b : Nat} (hb : b ≠ 0) (ha : a < 1000000000) : binF Try.prog .quo t (.int .i64 (a : Int)) (.int .i64 (b : Int)) = some (.int .i64 ((a / b : Nat) : Int)) := by
  simp only [binF]
  rw [if_pos ⟨by trivial, by omega⟩, ← Int.ofNat_tdiv]
  have := Nat.div_le_self a b
  generalize a / b = q at *
  rw [wrap_i64 (by omega) (by omega)]
theorem b24n {x : AV} (hx : cellsOf? x = some [x]) : buildF Try.prog 24 [(0, x)] = some (.agg [x, .nils]) := by
  rw [buildF_of (show buildPlan Try.prog 24 = some ([.int .i64 0, .nils], [(0, 1), (1, 1)]) by kernel_rfl)]
  simp [fillA, hx, splice]
def u8s (l : List Nat) : List AV := l.map fun (x : Nat) => .int .u8 (x : Int)
@[simp] theorem u8s_length (l : List Nat) : (u8s l).length = l.length := by simp [u8s]

/-- made -/
theorem c34 {W M S most : Nat} {l : List Nat} {H : Heap} {K : AV → Heap → Prop} (hW : W < 256) (hM : M < 256) (hS : S < 256) (hl : l.length = 10) (hlx : ∀ x ∈ l, x < 256) (hm : 1 ≤ most ∧ most ≤ 10)
    (hk : K (.agg [.int .i64 (gw W : Nat), sl (madeL W M S l most)]) H) : ACalls Try.prog 34 [.agg (u8s (W :: M :: S :: l)), .int .i64 most] H K := by
  apply W34_ok
  unfold W34
  have hgw := gw_range W
  have hgm := gmin_range W S
  have hr40 : binF Try.prog .rem 3 (.int .i64 (W : Int)) (.int .i64 40) = some (.int .i64 ((W % 40 : Nat) : Int)) := rem_nat (b := 40) (by decide)
  simp only [letO_some, cellsOf?_agg, cellsOf?_int, cellsOf?_bool, cellsOf?_imm, cellsOf?_ref, cellsOf?_nils, faddr_iptr, faddr_ptr, List.drop_succ_cons, List.drop_zero, List.take_succ_cons, List.take_zero, load1_iptr, loadN_iptr, List.length_cons, List.length_nil, Nat.le_refl, if_true, List.getElem?_cons_zero, List.getElem?_cons_succ, List.getD_cons_zero, List.getD_cons_succ, extrF_tup, binF_add, binF_sub, binF_mul, binF_eql, binF_neq, binF_lss, binF_leq, binF_gtr, binF_geq, true_and, u8s, List.map_cons, conv53 (show (0 : Int) ≤ W ∧ (W : Int) < 256 by omega), hr40]
  intro b4 hb4
  have e1 : (1 : Int) + ((W % 40 : Nat) : Int) = ((gw W : Nat) : Int) := by unfold gw; omega
  rw [e1, wrap_i64 (by omega) (by omega)]
  simp only [b24n cellsOf?_int, letO_some]
  refine alloc_store (cs := [.int .i64 (gw W : Nat), .nils]) rfl rfl rfl rfl fun b5 hb5 => ?_
  have hne : b4 ≠ b5 := Heap.ne_of Heap.put_same hb5
  have hb5' : H b5 = none := by rwa [Heap.put_ne (Ne.symm hne)] at hb5
  generalize hH4 : (H.put b4 [.int .i64 0, .nils]).put b5 [.int .i64 (gw W : Nat), .nils] = H4
  have l50 : load1 (.ptr b5 0) H4 = some (.int .i64 (gw W : Nat)) := load1_at (by subst hH4; exact Heap.put_same) rfl
  have hr3 : binF Try.prog .rem 5 (.int .u8 (S : Int)) (.int .u8 3) = some (.int .u8 ((S % 3 : Nat) : Int)) := rem_nat (b := 3) (by decide)
  have hq2 : binF Try.prog .quo 3 (.int .i64 (gw W : Nat)) (.int .i64 2) = some (.int .i64 ((gw W / 2 : Nat) : Int)) := quo_nat (b := 2) (by decide) (by omega)
  simp only [letO_some, cellsOf?_agg, cellsOf?_int, cellsOf?_bool, cellsOf?_imm, cellsOf?_ref, cellsOf?_nils, faddr_iptr, faddr_ptr, List.drop_succ_cons, List.drop_zero, List.take_succ_cons, List.take_zero, load1_iptr, loadN_iptr, List.length_cons, List.length_nil, Nat.le_refl, if_true, List.getElem?_cons_zero, List.getElem?_cons_succ, List.getD_cons_zero, List.getD_cons_succ, extrF_tup, binF_add, binF_sub, binF_mul, binF_eql, binF_neq, binF_lss, binF_leq, binF_gtr, binF_geq, true_and, Nat.zero_add, l50, hr3, hq2]
  refine ⟨fun L h => L = [.int .i64 (glong W S : Nat)] ∧ h = H4, ?_, ?_⟩
  · refine condA_t (fun hgt => ?_) (fun hle => ?_)
    · have : glong W S = 1 + gw W / 2 := by unfold glong; rw [if_pos (by omega)]
      rw [this, wrap_i64 (by omega) (by omega)]
      exact ⟨by simp, rfl⟩
    · have : glong W S = gw W := by unfold glong; rw [if_neg (by omega)]
      rw [this]
      exact ⟨rfl, rfl⟩
  rintro L h ⟨rfl, rfl⟩
  have hrm : binF Try.prog .rem 3 (.int .i64 (M : Int)) (.int .i64 (most : Int)) = some (.int .i64 ((M % most : Nat) : Int)) := rem_nat (by omega)
  have hmm := Nat.mod_lt M (show most > 0 by omega)
  simp only [letO_some, cellsOf?_agg, cellsOf?_int, cellsOf?_bool, cellsOf?_imm, cellsOf?_ref, cellsOf?_nils, faddr_iptr, faddr_ptr, List.drop_succ_cons, List.drop_zero, List.take_succ_cons, List.take_zero, load1_iptr, loadN_iptr, List.length_cons, List.length_nil, Nat.le_refl, if_true, List.getElem?_cons_zero, List.getElem?_cons_succ, List.getD_cons_zero, List.getD_cons_succ, extrF_tup, binF_add, binF_sub, binF_mul, binF_eql, binF_neq, binF_lss, binF_leq, binF_gtr, binF_geq, true_and, conv53 (show (0 : Int) ≤ M ∧ (M : Int) < 256 by omega), hrm]
  have e2 : (1 : Int) + ((M % most : Nat) : Int) = ((1 + M % most : Nat) : Int) := by omega
  rw [e2, wrap_i64 (by omega) (by omega)]
  generalize hn : 1 + M % most = n at *
  have hsl : slcArr 10 1 (.iptr (l.map fun (x : Nat) => AV.int .u8 (x : Int))) none (some (.int .i64 (n : Int))) none = some (.imm n (n == 10) (u8s (l.take n))) := by
    have e : natOf (some (.int .i64 (n : Int))) 10 = some n := by simp [natOf]
    have e3 : natOf none 0 = some 0 := rfl
    simp only [slcArr, e, e3, Option.bind_some]
    rw [if_pos ⟨by omega, by omega⟩]
    simp [u8s, List.map_take]
  simp only [hsl, letO_some, lenA]
  have hws : ∀ x ∈ madeL W M S l most, 1 ≤ x ∧ x ≤ 40 := fun x hx => by
    have := (chk_ok (chk_made (W := W) (M := M) (S := S) hl hm)).2.2.2.2 x hx
    omega
  let T : AV → List AV := fun X => [.int .i64 (gw W : Nat), X]
  refine ⟨fun L H' => ∃ (i : Nat) (X : AV), L = [.int .i64 i] ∧ i ≤ n ∧ Grow 1 ((H.put b4 [.int .i64 0, .nils]).put b5 (T X)) H' X i (ints (gwords W S (l.take i))), fun L _ => (n - iv L 0).toNat,
    ⟨0, .nils, rfl, by omega, by subst hH4; exact Grow.nils 1 _⟩, ?_⟩
  intro L H' hI
  obtain ⟨i, X, rfl, hi, hg⟩ := hI
  simp only [letO_some, cellsOf?_agg, cellsOf?_int, cellsOf?_bool, cellsOf?_imm, cellsOf?_ref, cellsOf?_nils, faddr_iptr, faddr_ptr, List.drop_succ_cons, List.drop_zero, List.take_succ_cons, List.take_zero, load1_iptr, loadN_iptr, List.length_cons, List.length_nil, Nat.le_refl, if_true, List.getElem?_cons_zero, List.getElem?_cons_succ, List.getD_cons_zero, List.getD_cons_succ, extrF_tup, binF_add, binF_sub, binF_mul, binF_eql, binF_neq, binF_lss, binF_leq, binF_gtr, binF_geq, true_and]
  have hHb : H' b5 = some (T X) := hg.le _ _ Heap.put_same
  refine condA_t (fun hlt => ?_) (fun hge => ?_)
  · have hin : i < n := by omega
    have hil : i < l.length := by omega
    have hx : ((u8s (l.take n)).drop (i * 1))[0]? = some (.int .u8 (l[i] : Nat)) := by
      rw [List.getElem?_drop, Nat.mul_one, Nat.add_zero]
      simp [u8s, hil, hin]
    have hxl : l[i] < 256 := hlx _ (by simp)
    have l1 : load1 (.ptr b5 (0 + 1)) H' = some X := load1_at hHb rfl
    have l0 : load1 (.ptr b5 0) H' = some (.int .i64 (gw W : Nat)) := load1_at hHb rfl
    have hmin : min2F (.int .i64 (glong W S : Nat)) (.int .i64 (gw W : Nat)) = some (.int .i64 (gmin W S : Nat)) := by
      simp only [min2F]
      unfold gmin
      split <;> split <;> first | rfl | omega
    have hrx : binF Try.prog .rem 3 (.int .i64 ((l[i] : Nat) : Int)) (.int .i64 (gmin W S : Nat)) = some (.int .i64 ((l[i] % gmin W S : Nat) : Int)) := rem_nat (by omega)
    simp only [idx_imm hin, letO_some, cellsOf?_agg, cellsOf?_int, cellsOf?_bool, cellsOf?_imm, cellsOf?_ref, cellsOf?_nils, faddr_iptr, faddr_ptr, List.drop_succ_cons, List.drop_zero, List.take_succ_cons, List.take_zero, load1_iptr, loadN_iptr, List.length_cons, List.length_nil, Nat.le_refl, if_true, List.getElem?_cons_zero, List.getElem?_cons_succ, List.getD_cons_zero, List.getD_cons_succ, extrF_tup, binF_add, binF_sub, binF_mul, binF_eql, binF_neq, binF_lss, binF_leq, binF_gtr, binF_geq, true_and, hx, conv53 (show (0 : Int) ≤ (l[i] : Nat) ∧ ((l[i] : Nat) : Int) < 256 by omega), l1, l0, hmin, hrx]
    have hmx := Nat.mod_lt l[i] (show gmin W S > 0 by omega)
    have e3 : (1 : Int) + ((l[i] % gmin W S : Nat) : Int) = ((1 + l[i] % gmin W S : Nat) : Int) := by omega
    rw [e3, wrap_i64 (by omega) (by omega)]
    simp only [l22 cellsOf?_int, letO_some]
    refine appendA_one hg (by omega) fun v' H'' hg' => ?_
    refine storeA_of (cs := [v']) (hg'.le _ _ Heap.put_same) hg'.cells (by simp [hg'.scalar]) rfl (by simp [T]) ?_
    rw [wrap_i64 (by omega) (by omega)]
    refine ⟨⟨i + 1, v', by simp, by omega, ?_⟩, by simp <;> omega⟩
    have e4 : gwords W S (l.take (i + 1)) = gwords W S (l.take i) ++ [((1 + l[i] % gmin W S : Nat) : Int)] := by
      unfold gwords
      rw [List.take_add_one, List.getElem?_eq_getElem hil, List.map_append]
      rfl
    rw [e4]
    have := hg'.put (y := T v') Heap.put_same
    rw [Heap.put_put] at this
    simpa [splice, T] using this
  · have hin : i = n := by omega
    subst hin
    have hL : loadN 2 (.ptr b5 0) H' = some (.agg [.int .i64 (gw W : Nat), X]) := loadN_at hHb
    have hb4H : H' b4 = some [.int .i64 0, .nils] := hg.le _ _ (by rw [Heap.put_ne hne]; exact Heap.put_same)
    simp only [hL, letO_some]
    refine storeA_of (cs := [.int .i64 (gw W : Nat), X]) hb4H rfl (by simp only [List.all_cons, hg.scalar]; rfl) rfl (by simp) ?_
    have e5 : splice [.int .i64 0, .nils] 0 [.int .i64 (gw W : Nat), X] = [.int .i64 (gw W : Nat), X] := rfl
    rw [e5]
    rw [show loadN 2 (.ptr b4 0) (Heap.put H' b4 [.int .i64 (gw W : Nat), X]) = some (.agg [.int .i64 (gw W : Nat), X]) from loadN_at (cells := [.int .i64 (gw W : Nat), X]) Heap.put_same]
    simp only [letO_some]
    have hg1 := hg.put (c := b4) (x := [.int .i64 0, .nils]) (y := [.int .i64 (gw W : Nat), X]) (by rw [Heap.put_ne hne]; exact Heap.put_same)
    obtain ⟨H2, hl2, hg2⟩ := hg1.shrink (H := H) (Heap.le_put (Heap.le_put (Heap.le_put_self hb4) hb5') hb4)
    refine endK_pub (r' := .agg [.int .i64 (gw W : Nat), X]) (Pub.drop hl2) ?_
    refine hg2.endG (f := fun v => .agg [.int .i64 (gw W : Nat), v]) (fun b => ⟨fun e => by subst e; rfl, fun e => by subst e; rfl, fun e => by subst e; have := Grow.frz hg2.1 b; simp only [lift, List.map, this]; rfl⟩) ?_
    have hlen := made_len (W := W) (M := M) (S := S) hl hm
    rw [sl, hlen, hn] at hk
    rw [madeL, hn] at hk
    exact hk
theorem shr_ex {t : TypeId} {k k' : IntKind} {a b : Int} (hb : 0 ≤ b) : ∃ y, binF Try.prog .shr t (.int k a) (.int k' b) = some (.int k y) := by
  simp only [binF]
  rw [if_neg (by omega)]
  exact ⟨_, rfl⟩
theorem and_ex {t : TypeId} {k : IntKind} {a b : Int} : ∃ y, binF Try.prog .and t (.int k a) (.int k b) = some (.int k y) := by
  simp only [binF, if_true]
  exact ⟨_, rfl⟩
theorem slc_pre {H : Heap} {v : AV} {l : List Int} {k : Nat} (h : Reads H v l) (hk : k ≤ l.length) : ∃ v', slc 1 v none (some (.int .i64 (k : Int))) none = some v' ∧ Reads H v' (l.take k) := by
  have n1 : ∀ d, natOf none d = some d := fun d => rfl
  have n2 : ∀ d, natOf (some (.int .i64 (k : Int))) d = some k := fun d => by simp [natOf]
  cases v <;> simp only [Reads] at h <;> try exact h.elim
  · subst h
    have : k = 0 := by simpa using hk
    subst this
    simp only [slc, n1, n2, Option.bind_some]
    exact ⟨_, rfl, rfl⟩
  · obtain ⟨rfl, rfl⟩ := h
    simp only [slc, n1, n2, Option.bind_some]
    rw [if_pos ⟨by omega, hk⟩]
    refine ⟨_, rfl, by simp; omega, ?_⟩
    rw [Nat.mul_one, Nat.zero_mul, List.drop_zero, Nat.sub_zero, ints_take]
  · rename_i s b off n cp
    obtain ⟨rfl, rfl, cells, hb, hc, ht⟩ := h
    simp only [slc, n1, n2, Option.bind_some]
    rw [if_pos ⟨by trivial, by omega, hk, by simp⟩]
    refine ⟨_, rfl, rfl, by simp; omega, cells, hb, by omega, ?_⟩
    rw [Nat.zero_mul, Nat.add_zero, Nat.sub_zero, ← ints_take, ← ht, List.take_take, Nat.min_eq_left hk]

theorem any_succ (F : List Nat) (i : Nat) (g : Nat × Nat → Bool) : (spansN F (i + 1)).any g = ((spansN F i).any g || g (stN F i, F.getD i 0)) := by
  rw [spansN_succ, List.any_append]
  simp [spanN]

@[simp] theorem iv_three {k : IntKind} {n : Int} {x y z : AV} {L : List AV} : iv (x :: y :: z :: .int k n :: L) 3 = n := rfl
theorem wantE_bd {w : Int} {ws : List Int} (hc : chk w ws = 0) (E : List Nat) (m : Nat) : ∀ i, 0 ≤ wantE w ws E m i ∧ wantE w ws E m i ≤ 40000000000 * i
  | 0 => by simp [wantE]
  | i + 1 => by
    have := wantE_bd hc E m i
    have := sqf_bnd hc (stN E i) (E.getD i 0)
    rw [wantE]
    split <;> omega
theorem leftL_get {w : Int} {ws : List Int} {E : List Nat} {n k : Nat} (h : k < n) : (leftL w ws E n).getD k 0 = lf w ws (stN E k) (E.getD k 0) := by
  rw [List.getD_eq_getElem?_getD]
  simp only [leftL, List.getElem?_map]
  rw [List.getElem?_range h]
  rfl
theorem sum_take_succ {ws : List Int} {k : Nat} (h : k < ws.length) : (ws.take (k + 1)).sum = (ws.take k).sum + ws.getD k 0 := by
  rw [List.take_add_one, List.sum_append, List.getD_eq_getElem?_getD, List.getElem?_eq_getElem h]
  simp

end Go.Proofs.Ytlajhbpkogekfaa

namespace Go.Proofs.Ytlajhbpkogekfaa
open Go.Av Line
set_option linter.unusedVariables false
set_option linter.unusedSimpArgs false
set_option maxRecDepth 4000

/-- broken: some ends that fit -/
theorem c39 {w : Int} {v : AV} {ws : List Int} {st : List Nat} {H : Heap} {K : AV → Heap → Prop} (hv : Reads H v ws) (hc : chk w ws = 0) (hst : st.length = 10) (hsx : ∀ x ∈ st, x < 256)
    (hk : ∀ es : List Int, endedE w ws es = 0 → K (sl es) H) : ACalls Try.prog 39 [.agg [.int .i64 w, v], .agg (u8s st)] H K := by
  apply W39_ok
  unfold W39
  obtain ⟨w1, w2, n1, n2, hws⟩ := chk_ok hc
  simp only [letO_some, cellsOf?_agg, cellsOf?_int, cellsOf?_bool, cellsOf?_imm, cellsOf?_ref, cellsOf?_nils, faddr_iptr, faddr_ptr, List.drop_succ_cons, List.drop_zero, List.take_succ_cons, List.take_zero, load1_iptr, loadN_iptr, List.length_cons, List.length_nil, Nat.le_refl, if_true, List.getElem?_cons_zero, List.getElem?_cons_succ, List.getD_cons_zero, List.getD_cons_succ, extrF_tup, binF_add, binF_sub, binF_mul, binF_eql, binF_neq, binF_lss, binF_leq, binF_gtr, binF_geq, true_and]
  refine ⟨fun L H' => ∃ (E : List Nat) (X : AV), L = [X, .int .i64 (E.getLastD 0 : Nat)] ∧ Grow 1 H H' X E.length (ints (up E)) ∧ asc ws.length 0 (up E) ∧ E.length ≤ E.getLastD 0 ∧ E.getLastD 0 ≤ ws.length ∧ over w ws E = false, fun L _ => (ws.length - iv L 1).toNat,
    ⟨[], .nils, rfl, Grow.nils 1 H, trivial, by simp, by simp, rfl⟩, ?_⟩
  intro L H' hI
  obtain ⟨E, X, rfl, hg, ha, hlen, hle, ho⟩ := hI
  have hv' := hv.le hg.le
  simp only [letO_some, cellsOf?_agg, cellsOf?_int, cellsOf?_bool, cellsOf?_imm, cellsOf?_ref, cellsOf?_nils, faddr_iptr, faddr_ptr, List.drop_succ_cons, List.drop_zero, List.take_succ_cons, List.take_zero, load1_iptr, loadN_iptr, List.length_cons, List.length_nil, Nat.le_refl, if_true, List.getElem?_cons_zero, List.getElem?_cons_succ, List.getD_cons_zero, List.getD_cons_succ, extrF_tup, binF_add, binF_sub, binF_mul, binF_eql, binF_neq, binF_lss, binF_leq, binF_gtr, binF_geq, true_and, hv.len]
  generalize hfr : E.getLastD 0 = fr at *
  refine condA_t (fun hlt => ?_) (fun hge => ?_)
  · have hlt : fr < ws.length := by omega
    rw [wrap_i64 (by omega) (by omega)]
    refine ⟨fun L H'' => ∃ to : Nat, L = [.int .i64 to] ∧ fr < to ∧ to ≤ ws.length ∧ 0 ≤ lf w ws fr to ∧ H'' = H', fun L _ => (ws.length - iv L 0).toNat, ⟨fr + 1, by simp, by omega, by omega, lf_one hc hlt, rfl⟩, ?_⟩
    intro L H'' hJ
    obtain ⟨to, rfl, h1, h2, h3, rfl⟩ := hJ
    simp only [letO_some, cellsOf?_agg, cellsOf?_int, cellsOf?_bool, cellsOf?_imm, cellsOf?_ref, cellsOf?_nils, faddr_iptr, faddr_ptr, List.drop_succ_cons, List.drop_zero, List.take_succ_cons, List.take_zero, load1_iptr, loadN_iptr, List.length_cons, List.length_nil, Nat.le_refl, if_true, List.getElem?_cons_zero, List.getElem?_cons_succ, List.getD_cons_zero, List.getD_cons_succ, extrF_tup, binF_add, binF_sub, binF_mul, binF_eql, binF_neq, binF_lss, binF_leq, binF_gtr, binF_geq, true_and]
    -- the line ends here
    have stop : appendA 1 8 X (.imm 1 true [.int .i64 to]) (fun t40 H15 => (∃ (E' : List Nat) (X' : AV), [t40, .int .i64 to] = [X', .int .i64 (E'.getLastD 0 : Nat)] ∧ Grow 1 H H15 X' E'.length (ints (up E')) ∧ asc ws.length 0 (up E') ∧ E'.length ≤ E'.getLastD 0 ∧ E'.getLastD 0 ≤ ws.length ∧ over w ws E' = false) ∧
        (ws.length - iv [t40, .int .i64 to] 1).toNat < (ws.length - iv [X, .int .i64 fr] 1).toNat) H'' := by
      refine appendA_one hg (by omega) fun v' H7 hg7 => ⟨⟨E ++ [to], v', by simp, ?_, ?_, by simp; omega, by simp; omega, ?_⟩, by simp; omega⟩
      · rw [up_snoc]; simpa using hg7
      · rw [up_snoc]
        exact asc_snoc ha (by rw [up_lastD]; omega) (by omega) (by omega)
      · rw [over_snoc, ho, hfr]; simpa using h3
    by_cases ht : to < ws.length
    · have e1 : decide ((to : Int) < (ws.length : Int)) = true := by simp; omega
      have hto1 : IntKind.i64.wrap ((to : Int) + 1) = ((to + 1 : Nat) : Int) := by rw [wrap_i64 (by omega) (by omega)]; simp
      simp only [e1, gval_bool, if_true, letO_some, hto1, binF_add]
      refine exJc ?_
      refine c43 hv' hc (show fr < to + 1 by omega) (by omega) ?_
      simp only [letO_some, cellsOf?_agg, cellsOf?_int, cellsOf?_bool, cellsOf?_imm, cellsOf?_ref, cellsOf?_nils, faddr_iptr, faddr_ptr, List.drop_succ_cons, List.drop_zero, List.take_succ_cons, List.take_zero, load1_iptr, loadN_iptr, List.length_cons, List.length_nil, Nat.le_refl, if_true, List.getElem?_cons_zero, List.getElem?_cons_succ, List.getD_cons_zero, List.getD_cons_succ, extrF_tup, binF_add, binF_sub, binF_mul, binF_eql, binF_neq, binF_lss, binF_leq, binF_gtr, binF_geq, true_and, pickF_true]
      have hx : st[to]? = some (st[to]'(by omega)) := by simp [show to < st.length by omega]
      have hxb : st[to]'(by omega) < 256 := hsx _ (by simp)
      by_cases hn : 0 ≤ lf w ws fr (to + 1)
      · have hia : idxArr 10 1 (.iptr (u8s st)) (.int .i64 (to : Int)) = some (.iptr ((u8s st).drop to)) := by
          simp [idxArr]; omega
        have hla : ((u8s st).drop to)[0]? = some (.int .u8 ((st[to]'(by omega) : Nat) : Int)) := by
          rw [List.getElem?_drop, Nat.add_zero]; simp [u8s, hx]
        have hr4 : binF Try.prog .rem 5 (.int .u8 ((st[to]'(by omega) : Nat) : Int)) (.int .u8 4) = some (.int .u8 ((st[to]'(by omega) % 4 : Nat) : Int)) := rem_nat (b := 4) (by decide)
        simp only [hn, decide_true, gval_bool, if_true, letO_some, hia, load1_iptr, hla, hr4, binF_gtr, pickF_true]
        refine condA_t (fun hgt => ?_) (fun hle4 => ?_)
        · exact ⟨⟨to + 1, rfl, by omega, by omega, hn, by trivial⟩, by simp; omega⟩
        · simp only [l22 cellsOf?_int, letO_some]
          exact stop
      · simp only [hn, decide_false, gval_bool, Bool.false_eq_true, if_false, letO_some, pickF_false]
        simp only [condA_bool, condG_bool]
        refine ⟨fun h => by simp at h, fun _ => ?_⟩
        simp only [l22 cellsOf?_int, letO_some]
        exact stop
    · have e1 : decide ((to : Int) < (ws.length : Int)) = false := by simp; omega
      simp only [e1, gval_bool, Bool.false_eq_true, if_false, letO_some]
      refine ⟨fun r h => r = .tup [] ∧ h = H'', ?_, ?_⟩
      · simp only [condA_bool, condG_bool]
        exact ⟨fun h => by simp at h, fun _ => by simp⟩
      rintro t25 H13 ⟨rfl, rfl⟩
      simp only [pickF_false, gval_bool, Bool.false_eq_true, if_false, letO_some, condA_bool, condG_bool]
      refine ⟨fun h => by simp at h, fun _ => ?_⟩
      simp only [l22 cellsOf?_int, letO_some]
      exact stop
  · have : fr = ws.length := by omega
    have he := ended_mk hc ha (by rw [hfr]; exact this) ho
    have := hk _ he
    refine hg.end1 ?_
    simpa [sl] using this
end Go.Proofs.Ytlajhbpkogekfaa

namespace Go.Proofs.Ytlajhbpkogekfaa
open Go.Av Line
set_option linter.unusedVariables false
set_option linter.unusedSimpArgs false
set_option maxRecDepth 4000

/-- LineTotal -/
theorem c8 {W M S : Nat} {l st : List Nat} {H : Heap} {K : AV → Heap → Prop} (hW : W < 256) (hM : M < 256) (hS : S < 256) (hl : l.length = 10) (hlx : ∀ x ∈ l, x < 256) (hst : st.length = 10) (hsx : ∀ x ∈ st, x < 256) (hk : ∀ H', H.le H' → K (.bool true) H') :
    ACalls Try.prog 8 [.agg (u8s (W :: M :: S :: l)), .agg (u8s st)] H K := by
  apply W8_ok
  unfold W8
  have hc := chk_made (W := W) (M := M) (S := S) (most := 10) hl (by omega)
  have hL13 : loadN 13 (.iptr (u8s (W :: M :: S :: l))) H = some (.agg (u8s (W :: M :: S :: l))) := by
    rw [loadN_iptr, if_pos (by simp [hl]), List.take_of_length_le (by simp [hl])]
  simp only [cellsOf?_agg, letO_some, hL13]
  refine c34 (most := 10) hW hM hS hl hlx (by omega) ?_
  generalize madeL W M S l 10 = ws at *
  generalize ((gw W : Nat) : Int) = w at *
  obtain ⟨w1, w2, n1, n2, hws⟩ := chk_ok hc
  refine alloc_store (cs := [.int .i64 w, sl ws]) rfl rfl rfl rfl fun b5 hb5 => ?_
  have hle5 := Heap.le_put_self (cs := [.int .i64 w, sl ws]) hb5
  have hb : (H.put b5 [.int .i64 w, sl ws]) b5 = some [.int .i64 w, sl ws] := Heap.put_same
  generalize H.put b5 [.int .i64 w, sl ws] = H5 at *
  have hL : loadN 2 (.ptr b5 0) H5 = some (.agg [.int .i64 w, sl ws]) := loadN_at (cells := [.int .i64 w, sl ws]) hb
  have hL10 : loadN 10 (.iptr (u8s st)) H5 = some (.agg (u8s st)) := by
    rw [loadN_iptr, if_pos (by simp [hst]), List.take_of_length_le (by simp [hst])]
  have lw : load1 (.ptr b5 (0 + 1)) H5 = some (sl ws) := load1_at hb rfl
  have l0 : load1 (.ptr b5 0) H5 = some (.int .i64 w) := load1_at hb rfl
  have hv : Reads H5 (sl ws) ws := Reads.sl _ _
  have hlw : ws.length < 2 ^ 60 := by omega
  simp only [hL, hL10, letO_some]
  refine c39 hv hc hst hsx fun es he => ?_
  have hsh := ended_short he
  have hr : Reads H5 (sl es) es := Reads.sl _ _
  have hles : es.length < 2 ^ 60 := by omega
  obtain ⟨_, hsc, hov⟩ := ended_ok he
  have hup := ended_up he
  have hasc : asc ws.length 0 (up (toN es)) := by rw [hup]; exact asc_of_scan hsc
  simp only [hL, letO_some]
  refine c44p hv hr hlw hles ?_
  rw [he, leftO, if_pos he]
  simp only [letO_some, cellsOf?_agg, cellsOf?_int, cellsOf?_bool, cellsOf?_imm, cellsOf?_ref, cellsOf?_nils, faddr_iptr, faddr_ptr, List.drop_succ_cons, List.drop_zero, List.take_succ_cons, List.take_zero, load1_iptr, loadN_iptr, List.length_cons, List.length_nil, Nat.le_refl, if_true, List.getElem?_cons_zero, List.getElem?_cons_succ, List.getD_cons_zero, List.getD_cons_succ, extrF_tup, binF_add, binF_sub, binF_mul, binF_eql, binF_neq, binF_lss, binF_leq, binF_gtr, binF_geq, true_and, hL]
  refine c45 hv hr hlw hles ?_
  rw [he, costO, if_pos he]
  have hll := (Reads.sl H5 (leftL w ws (toN es) es.length)).len
  rw [leftL_length] at hll
  simp only [letO_some, cellsOf?_agg, cellsOf?_int, cellsOf?_bool, cellsOf?_imm, cellsOf?_ref, cellsOf?_nils, faddr_iptr, faddr_ptr, List.drop_succ_cons, List.drop_zero, List.take_succ_cons, List.take_zero, load1_iptr, loadN_iptr, List.length_cons, List.length_nil, Nat.le_refl, if_true, List.getElem?_cons_zero, List.getElem?_cons_succ, List.getD_cons_zero, List.getD_cons_succ, extrF_tup, binF_add, binF_sub, binF_mul, binF_eql, binF_neq, binF_lss, binF_leq, binF_gtr, binF_geq, true_and, gval_bool, Int.reduceBNe, Int.reduceBEq, pickF_true, pickF_false, reduceIte, Bool.true_eq_false, Bool.false_eq_true, if_false, condA_tt, condA_ff, condG_tt, condG_ff, condG_tt', condG_ff', condG_undef, gval_undef, hL, hll, hr.len, bne_self_eq_false]
  refine exJ ?_
  refine c42 hv hr hlw hles ?_
  rw [he]
  simp only [letO_some, cellsOf?_agg, cellsOf?_int, cellsOf?_bool, cellsOf?_imm, cellsOf?_ref, cellsOf?_nils, faddr_iptr, faddr_ptr, List.drop_succ_cons, List.drop_zero, List.take_succ_cons, List.take_zero, load1_iptr, loadN_iptr, List.length_cons, List.length_nil, Nat.le_refl, if_true, List.getElem?_cons_zero, List.getElem?_cons_succ, List.getD_cons_zero, List.getD_cons_succ, extrF_tup, binF_add, binF_sub, binF_mul, binF_eql, binF_neq, binF_lss, binF_leq, binF_gtr, binF_geq, true_and, gval_bool, Int.reduceBNe, Int.reduceBEq, pickF_true, pickF_false, reduceIte, Bool.true_eq_false, Bool.false_eq_true, if_false, condA_tt, condA_ff, condG_tt, condG_ff, condG_tt', condG_ff', condG_undef, gval_undef]
  have hElen : (toN es).length = es.length := toN_len es
  generalize hE : toN es = E at *
  have hE2 : up E = es := hup
  have hEn : E.getD (es.length - 1) 0 = ws.length := by
    have h1 := up_getD E (es.length - 1)
    rw [hE2, scan_last hsc (by rintro rfl; simp at hsh)] at h1
    omega
  have hEle : ∀ e ∈ E, e ≤ ws.length := by
    have := ended_le he
    rw [hE] at this; exact this
  -- the lines
  refine ⟨fun L H' => ∃ i : Nat, L = [.int .i64 (i * (w + 1) - psum ws (stN E i)), .int .i64 (wantE w ws E (es.length - 1) i), .int .i64 (stN E i), .int .i64 i] ∧ i ≤ es.length ∧ H' = H5, fun L _ => (es.length - iv L 3).toNat,
    ⟨0, by simp [stN, psum, wantE], by omega, rfl⟩, ?_⟩
  intro L H' hI
  obtain ⟨i, rfl, hi, rfl⟩ := hI
  simp only [letO_some, cellsOf?_agg, cellsOf?_int, cellsOf?_bool, cellsOf?_imm, cellsOf?_ref, cellsOf?_nils, faddr_iptr, faddr_ptr, List.drop_succ_cons, List.drop_zero, List.take_succ_cons, List.take_zero, load1_iptr, loadN_iptr, List.length_cons, List.length_nil, Nat.le_refl, if_true, List.getElem?_cons_zero, List.getElem?_cons_succ, List.getD_cons_zero, List.getD_cons_succ, extrF_tup, binF_add, binF_sub, binF_mul, binF_eql, binF_neq, binF_lss, binF_leq, binF_gtr, binF_geq, true_and]
  have hst1 := stN_le hEle i
  have hp1 := psum_le (ws := ws) (k := stN E i) fun x hx => by have := hws x (List.mem_of_mem_take hx); omega
  have hmul : 0 ≤ (i : Int) * (w + 1) ∧ (i : Int) * (w + 1) ≤ 410 := by
    constructor
    · exact Int.mul_nonneg (by omega) (by omega)
    · have := Int.mul_le_mul (a := (i : Int)) (b := w + 1) (c := 10) (d := 41) (by omega) (by omega) (by omega) (by omega)
      omega
  have hwt := wantE_bd hc E (es.length - 1) i
  refine condA_t (fun hlt => ?_) (fun hge => ?_)
  · have hil : i < es.length := by omega
    refine hr.get (Heap.le_refl _) (by omega) hlt ?_
    rw [Int.toNat_natCast]
    have hEi : es.getD i 0 = (E.getD i 0 : Nat) := by rw [← up_getD, hE2]
    have hlt2 := stN_lt hasc (k := i) (by rw [hup]; exact hil)
    rw [toN_up] at hlt2
    rw [hEi]
    simp only [hL, letO_some]
    refine c43 hv hc hlt2 hst1.2 ?_
    simp only [letO_some, cellsOf?_agg, cellsOf?_int, cellsOf?_bool, cellsOf?_imm, cellsOf?_ref, cellsOf?_nils, faddr_iptr, faddr_ptr, List.drop_succ_cons, List.drop_zero, List.take_succ_cons, List.take_zero, load1_iptr, loadN_iptr, List.length_cons, List.length_nil, Nat.le_refl, if_true, List.getElem?_cons_zero, List.getElem?_cons_succ, List.getD_cons_zero, List.getD_cons_succ, extrF_tup, binF_add, binF_sub, binF_mul, binF_eql, binF_neq, binF_lss, binF_leq, binF_gtr, binF_geq, true_and]
    refine (Reads.sl H' (leftL w ws E es.length)).get (Heap.le_refl _) (by omega) (by rw [leftL_length]; omega) ?_
    rw [Int.toNat_natCast, leftL_get hil]
    have hlfe := lf_eq (w := w) (ws := ws) hst1.1 hst1.2
    have hp2 := psum_le (ws := ws) (k := E.getD i 0) fun x hx => by have := hws x (List.mem_of_mem_take hx); omega
    have hlb := lf_bnd hc (stN E i) (E.getD i 0)
    have hsq := sqf_bnd hc (stN E i) (E.getD i 0)
    have hstep : (((i + 1 : Nat) : Int)) * (w + 1) - psum ws (stN E (i + 1)) = i * (w + 1) - psum ws (stN E i) + lf w ws (stN E i) (E.getD i 0) := by
      have e1 : (((i + 1 : Nat) : Int)) * (w + 1) = i * (w + 1) + (w + 1) := by
        rw [show ((i + 1 : Nat) : Int) = (i : Int) + 1 by omega, Int.add_mul, Int.one_mul]
      have e2 : stN E (i + 1) = E.getD i 0 := by simp [stN]
      rw [e1, e2, hlfe]; omega
    simp only [letO_some, cellsOf?_agg, cellsOf?_int, cellsOf?_bool, cellsOf?_imm, cellsOf?_ref, cellsOf?_nils, faddr_iptr, faddr_ptr, List.drop_succ_cons, List.drop_zero, List.take_succ_cons, List.take_zero, load1_iptr, loadN_iptr, List.length_cons, List.length_nil, Nat.le_refl, if_true, List.getElem?_cons_zero, List.getElem?_cons_succ, List.getD_cons_zero, List.getD_cons_succ, extrF_tup, binF_add, binF_sub, binF_mul, binF_eql, binF_neq, binF_lss, binF_leq, binF_gtr, binF_geq, true_and, bne_self_eq_false, condA_ff, condG_ff]
    rw [wrap_i64 (n := i * (w + 1) - psum ws (stN E i) + lf w ws (stN E i) (E.getD i 0)) (by omega) (by omega), ← hstep, wrap_i64 (n := (es.length : Int) - 1) (by omega) (by omega)]
    refine ⟨fun L h => L = [.int .i64 (wantE w ws E (es.length - 1) (i + 1))] ∧ h = H', ?_, ?_⟩
    · have hsqf : lf w ws (stN E i) (E.getD i 0) * lf w ws (stN E i) (E.getD i 0) = sqf w ws (stN E i) (E.getD i 0) := rfl
      refine condA_t (fun hlt3 => ?_) (fun hge3 => ?_)
      · rw [hsqf, wrap_i64 (n := sqf w ws (stN E i) (E.getD i 0)) (by omega) (by omega), wrap_i64 (by omega) (by omega)]
        rw [wantE, if_pos (by omega)]
        exact ⟨rfl, by trivial⟩
      · rw [wantE, if_neg (by omega), Int.add_zero]
        exact ⟨rfl, by trivial⟩
    · rintro L h ⟨rfl, rfl⟩
      simp only [letO_some, cellsOf?_agg, cellsOf?_int, cellsOf?_bool, cellsOf?_imm, cellsOf?_ref, cellsOf?_nils, faddr_iptr, faddr_ptr, List.drop_succ_cons, List.drop_zero, List.take_succ_cons, List.take_zero, load1_iptr, loadN_iptr, List.length_cons, List.length_nil, Nat.le_refl, if_true, List.getElem?_cons_zero, List.getElem?_cons_succ, List.getD_cons_zero, List.getD_cons_succ, extrF_tup, binF_add, binF_sub, binF_mul, binF_eql, binF_neq, binF_lss, binF_leq, binF_gtr, binF_geq, true_and]
      rw [wrap_i64 (by omega) (by omega)]
      try simp only [and_true]
      exact ⟨⟨i + 1, by simp [stN], by omega⟩, by simp <;> omega⟩
  have hie : i = es.length := by omega
  subst hie
  have hstn : stN E es.length = ws.length := by
    unfold stN
    rw [if_neg (by omega)]; exact hEn
  rw [hstn]
  simp only [letO_some, cellsOf?_agg, cellsOf?_int, cellsOf?_bool, cellsOf?_imm, cellsOf?_ref, cellsOf?_nils, faddr_iptr, faddr_ptr, List.drop_succ_cons, List.drop_zero, List.take_succ_cons, List.take_zero, load1_iptr, loadN_iptr, List.length_cons, List.length_nil, Nat.le_refl, if_true, List.getElem?_cons_zero, List.getElem?_cons_succ, List.getD_cons_zero, List.getD_cons_succ, extrF_tup, binF_add, binF_sub, binF_mul, binF_eql, binF_neq, binF_lss, binF_leq, binF_gtr, binF_geq, true_and, lw, hv.len]
  -- the words
  refine ⟨fun L H'' => ∃ k : Nat, L = [.int .i64 (es.length * (w + 1) - psum ws ws.length + (ws.take k).sum), .int .i64 k] ∧ k ≤ ws.length ∧ H'' = H', fun L _ => (ws.length - iv L 1).toNat, ⟨0, by simp, by omega, rfl⟩, ?_⟩
  intro L H'' hJ
  obtain ⟨k, rfl, hkn, rfl⟩ := hJ
  simp only [letO_some, cellsOf?_agg, cellsOf?_int, cellsOf?_bool, cellsOf?_imm, cellsOf?_ref, cellsOf?_nils, faddr_iptr, faddr_ptr, List.drop_succ_cons, List.drop_zero, List.take_succ_cons, List.take_zero, load1_iptr, loadN_iptr, List.length_cons, List.length_nil, Nat.le_refl, if_true, List.getElem?_cons_zero, List.getElem?_cons_succ, List.getD_cons_zero, List.getD_cons_succ, extrF_tup, binF_add, binF_sub, binF_mul, binF_eql, binF_neq, binF_lss, binF_leq, binF_gtr, binF_geq, true_and]
  have hpk := psum_le (ws := ws) (k := k) fun x hx => by have := hws x (List.mem_of_mem_take hx); omega
  have hpn := psum_le (ws := ws) (k := ws.length) fun x hx => by have := hws x (List.mem_of_mem_take hx); omega
  have hsk : (ws.take k).sum = psum ws k - k := by unfold psum; omega
  refine condA_t (fun hlt => ?_) (fun hge => ?_)
  · refine hv.get (Heap.le_refl _) (by omega) hlt ?_
    rw [Int.toNat_natCast]
    have hkl : k < ws.length := by omega
    have hm : ws.getD k 0 ∈ ws := by rw [List.getD_eq_getElem?_getD]; simp [hkl]
    have hx := hws _ hm
    simp only [letO_some, cellsOf?_agg, cellsOf?_int, cellsOf?_bool, cellsOf?_imm, cellsOf?_ref, cellsOf?_nils, faddr_iptr, faddr_ptr, List.drop_succ_cons, List.drop_zero, List.take_succ_cons, List.take_zero, load1_iptr, loadN_iptr, List.length_cons, List.length_nil, Nat.le_refl, if_true, List.getElem?_cons_zero, List.getElem?_cons_succ, List.getD_cons_zero, List.getD_cons_succ, extrF_tup, binF_add, binF_sub, binF_mul, binF_eql, binF_neq, binF_lss, binF_leq, binF_gtr, binF_geq, true_and]
    rw [wrap_i64 (n := es.length * (w + 1) - psum ws ws.length + (ws.take k).sum + ws.getD k 0) (by omega) (by omega), wrap_i64 (by omega) (by omega)]
    try simp only [and_true]
    refine ⟨⟨k + 1, ?_, by omega⟩, by simp <;> omega⟩
    rw [sum_take_succ hkl, ← Int.add_assoc]
    rfl
  have hkw : k = ws.length := by omega
  subst hkw
  have hcost : costE w ws es = wantE w ws E (es.length - 1) es.length := by
    unfold costE
    rw [hE]
    have := costE_eq (w := w) (ws := ws) hasc (by rintro rfl; simp at hElen; omega) es.length (by omega)
    rw [hElen] at this
    exact this
  rw [hcost, List.take_length]
  have hpl := psum_len ws
  simp only [letO_some, cellsOf?_agg, cellsOf?_int, cellsOf?_bool, cellsOf?_imm, cellsOf?_ref, cellsOf?_nils, faddr_iptr, faddr_ptr, List.drop_succ_cons, List.drop_zero, List.take_succ_cons, List.take_zero, load1_iptr, loadN_iptr, List.length_cons, List.length_nil, Nat.le_refl, if_true, List.getElem?_cons_zero, List.getElem?_cons_succ, List.getD_cons_zero, List.getD_cons_succ, extrF_tup, binF_add, binF_sub, binF_mul, binF_eql, binF_neq, binF_lss, binF_leq, binF_gtr, binF_geq, true_and, lw, l0, hv.len, hr.len, beq_self_eq_true, gval_bool, Int.reduceBNe, Int.reduceBEq, pickF_true, pickF_false, reduceIte, Bool.true_eq_false, Bool.false_eq_true, if_false, condA_tt, condA_ff, condG_tt, condG_ff, condG_tt', condG_ff', condG_undef, gval_undef]
  rw [wrap_i64 (n := (ws.length : Int) - es.length) (by omega) (by omega)]
  have e3 : (es.length : Int) * (w + 1) - psum ws ws.length + ws.sum + ((ws.length : Int) - es.length) = es.length * w := by
    rw [Int.mul_add, Int.mul_one, hpl]; omega
  have hmul2 : 0 ≤ (es.length : Int) * w ∧ (es.length : Int) * w ≤ 410 := by
    constructor
    · exact Int.mul_nonneg (by omega) (by omega)
    · have := Int.mul_le_mul (a := (es.length : Int)) (b := w) (c := 10) (d := 41) (by omega) (by omega) (by omega) (by omega)
      omega
  rw [e3, wrap_i64 (n := (es.length : Int) * w) (by omega) (by omega)]
  simp only [beq_self_eq_true, letO_some, cellsOf?_agg, cellsOf?_int, cellsOf?_bool, cellsOf?_imm, cellsOf?_ref, cellsOf?_nils, faddr_iptr, faddr_ptr, List.drop_succ_cons, List.drop_zero, List.take_succ_cons, List.take_zero, load1_iptr, loadN_iptr, List.length_cons, List.length_nil, Nat.le_refl, if_true, List.getElem?_cons_zero, List.getElem?_cons_succ, List.getD_cons_zero, List.getD_cons_succ, extrF_tup, binF_add, binF_sub, binF_mul, binF_eql, binF_neq, binF_lss, binF_leq, binF_gtr, binF_geq, true_and, gval_bool, Int.reduceBNe, Int.reduceBEq, pickF_true, pickF_false, reduceIte, Bool.true_eq_false, Bool.false_eq_true, if_false, condA_tt, condA_ff, condG_tt, condG_ff, condG_tt', condG_ff', condG_undef, gval_undef]
  refine exJ ?_
  refine c16 ?_
  try simp only [letO_some, cellsOf?_agg, cellsOf?_int, cellsOf?_bool, cellsOf?_imm, cellsOf?_ref, cellsOf?_nils, faddr_iptr, faddr_ptr, List.drop_succ_cons, List.drop_zero, List.take_succ_cons, List.take_zero, load1_iptr, loadN_iptr, List.length_cons, List.length_nil, Nat.le_refl, if_true, List.getElem?_cons_zero, List.getElem?_cons_succ, List.getD_cons_zero, List.getD_cons_succ, extrF_tup, binF_add, binF_sub, binF_mul, binF_eql, binF_neq, binF_lss, binF_leq, binF_gtr, binF_geq, true_and, gval_bool, Int.reduceBNe, Int.reduceBEq, pickF_true, pickF_false, reduceIte, Bool.true_eq_false, Bool.false_eq_true, if_false, condA_tt, condA_ff, condG_tt, condG_ff, condG_tt', condG_ff', condG_undef, gval_undef]
  exact endK_ret (hk _ hle5)
theorem lineTotal.law {W M S : Nat} {l st : List Nat} (hW : W < 256) (hM : M < 256) (hS : S < 256) (hl : l.length = 10) (hlx : ∀ x ∈ l, x < 256) (hst : st.length = 10) (hsx : ∀ x ∈ st, x < 256) :
    ACalls Try.prog 8 [.agg (u8s (W :: M :: S :: l)), .agg (u8s st)] Heap.none fun r _ => r = .bool true := c8 hW hM hS hl hlx hst hsx fun _ _ => rfl
end Go.Proofs.Ytlajhbpkogekfaa

/- MADE BY PROGRAM (row.py): the row of LineTotal. -/
namespace Go.Proofs.Ytlajhbpkogekfaa.lineTotal
open Go.ChangeShapes Go.WideShapes Go.ChangeAt Go.RowKit Go.Av
set_option linter.unusedVariables false

theorem own : ownKnob Try.prog.godebug = none := by kernel_rfl
theorem laidOut : laidOutB Try.prog = true := by kernel_rfl
theorem split13 {g : List Nat} (h : g.length = 13) : ∃ a b c l, g = a :: b :: c :: l ∧ l.length = 10 := by
  match g, h with
  | a :: b :: c :: l, h => exact ⟨a, b, c, l, rfl, by simpa using h⟩

set_option maxRecDepth 100000 in
theorem lifted (os : Os) (started : os.Started) (H : Type) (enc : TypeId × Value → H) :
    ReturnsInHanded {} Try.checked os 8 .any (Rows.lineTotalSpec.pre6 enc Try.prog Try.f8 Rows.lineTotalRow.domain false) (Rows.lineTotalSpec.post enc Try.prog Try.f8 false true false false) := by
  refine returnsInHanded_of_change (C := Try.checked) own started (by kernel_rfl) Try.func8
    (ChangeSpec.witness6 (enc := enc) (C := Try.checked) false ⟨#[], #[.agg #[.int .u8 0, .int .u8 0, .int .u8 0, .int .u8 0, .int .u8 0, .int .u8 0, .int .u8 0, .int .u8 0, .int .u8 0, .int .u8 0, .int .u8 0, .int .u8 0, .int .u8 0], .agg #[.int .u8 0, .int .u8 0, .int .u8 0, .int .u8 0, .int .u8 0, .int .u8 0, .int .u8 0, .int .u8 0, .int .u8 0, .int .u8 0]], []⟩ 8 (by kernel_rfl) (by kernel_rfl) (by kernel_rfl) (by kernel_rfl)) ?_
  intro W base args ds gs before hval0 hW hcnd _
  have hval : ∀ (j : Nat) t v, Try.f8.params[j]? = some t → args[j]? = some v → Value.okWide Try.prog W .any base t v := hval0
  have hW' := hW
  obtain ⟨p, q, hA0, hV, rfl, hfz, hnd⟩ := hW
  have hA : DataW.TrodAll enc Try.prog W 0 (fun _ => true) true Try.f8.params.toList args.toList ds p := hA0
  have hA1 := hA
  rw [Try.params8] at hA hval
  obtain ⟨rfl, rfl⟩ := trodVars_none hV
  clear hA0 hval0
  simp only [List.append_nil] at hW'
  have hlt : ∀ x ∈ p, x.block < W.heap.size := fun x hx => by simpa using hW'.lt x hx
  obtain ⟨v0, v1, d0, d1, p0, p1, rfl, rfl, rfl, h0, h1⟩ := trodAll_two hA
  obtain ⟨g0, gl0, gx0, r0⟩ := rep_row (E := E0 W) (n := 13) (u := 5) (.inl ⟨_, Try.underlying47⟩) (by kernel_rfl) (by kernel_rfl) Try.underlying5 (hval 0 47 v0 rfl rfl)
  obtain ⟨W0, M0, S0, l0, rfl, hl0⟩ := split13 gl0
  obtain ⟨a1, al1, ax1, r1⟩ := rep_row (E := E0 W) (n := 10) (u := 5) (.inr ⟨_, _, Try.underlying45⟩) (by kernel_rfl) (by kernel_rfl) Try.underlying5 (hval 1 45 v1 rfl rfl)
  refine ((law (gx0 _ (by simp)) (gx0 _ (by simp)) (gx0 _ (by simp)) hl0 (fun x hx => gx0 x (by simp [hx])) al1 ax1).2 (E0 W) W [v0, v1] (st0 W) (RepL.cons r0 (RepL.cons r1 (RepL.nil _)))).mono ?_
  rintro e W' ⟨r, v, E', H', rfl, hr, _, hx, rfl⟩
  cases hr
  exact ⟨_, rfl, _, _, _, [], _, [], hW', trodAll_cons_mk (shut_bool Try.underlying4 _) trodAll_mk0, hx.trodAll laidOut (by kernel_rfl) hA1 hlt, rfl, hx.kept _, fun h => by cases h⟩

theorem over : Rows.lineTotalRow.holds Try.pinned (OpenSpec.ofChange Rows.lineTotalSpec) :=
  OpenClaim.holds_of_wide 8 Try.f8 rfl rfl rfl rfl rfl rfl rfl ⟨rfl, rfl, rfl, rfl, rfl⟩ rfl rfl rfl rfl rfl (by kernel_rfl) Try.func8 (by kernel_rfl)
    (of_decide_eq_true (by kernel_rfl)) (by unfold Func.isWrapper; first | (rw [if_pos (by decide +kernel)]; kernel_rfl) | (rw [if_neg (by decide +kernel)]; exact ⟨rfl, rfl⟩))
    (fun os started H enc _ => lifted os started H enc)

theorem proved : Rows.LineTotalSaid := over
#print axioms proved
end Go.Proofs.Ytlajhbpkogekfaa.lineTotal
