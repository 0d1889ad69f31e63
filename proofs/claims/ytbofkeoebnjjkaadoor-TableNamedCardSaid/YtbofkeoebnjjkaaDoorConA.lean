import Derived.Test.YtbofkeoebnjjkaaDoorAvB
import Derived.KernelRfl
import Derived.Test.YtbofkeoebnjjkaaDoorBase
/- What the functions of the table package compute: a contract each, in plain Lean. Conditions: each theorem names its own. -/
/- Tables: what the functions compute, in plain words. -/
set_option linter.unusedVariables false
namespace Tab
abbrev Tb := List (List Int)
def row (t : Tb) (r : Nat) : List Int := t.getD r []
def cell (t : Tb) (r c : Nat) : Int := (row t r).getD c 0
def badC (x : Int) : Bool := decide (x < 0) || decide (9 < x)
def chkRows (n : Nat) : Tb → Int
  | [] => 0
  | l :: r => if l.length ≠ n then 5 else if l.any badC then 1 else chkRows n r
/-- The error of a table. -/
def chkT (t : Tb) : Int := if t.length = 0 then 4 else if 4 < t.length then 3 else chkRows t.length t
theorem chkRows_vals {n : Nat} : ∀ t : Tb, chkRows n t = 0 ∨ chkRows n t = 5 ∨ chkRows n t = 1
  | [] => .inl rfl
  | l :: r => by
    unfold chkRows
    split
    · simp
    · split
      · simp
      · exact chkRows_vals r
theorem chkRows_ok {n : Nat} : ∀ {t : Tb}, chkRows n t = 0 → ∀ l ∈ t, l.length = n ∧ ∀ x ∈ l, 0 ≤ x ∧ x ≤ 9
  | [], _ => by simp
  | l :: r, h => by
    unfold chkRows at h
    split at h
    · cases h
    · rename_i h1
      split at h
      · cases h
      · rename_i h2
        intro m hm
        rcases List.mem_cons.1 hm with rfl | hm
        · refine ⟨by omega, fun x hx => ?_⟩
          have : badC x = false := by
            cases hb : badC x with
            | false => rfl
            | true => exact absurd (List.any_eq_true.2 ⟨x, hx, hb⟩) h2
          simp [badC] at this
          omega
        · exact chkRows_ok h m hm
theorem chkRows_mk {n : Nat} : ∀ {t : Tb}, (∀ l ∈ t, l.length = n ∧ ∀ x ∈ l, 0 ≤ x ∧ x ≤ 9) → chkRows n t = 0
  | [], _ => rfl
  | l :: r, h => by
    have h1 := h l (by simp)
    unfold chkRows
    rw [if_neg (by omega), if_neg, chkRows_mk fun m hm => h m (by simp [hm])]
    rw [List.any_eq_true]
    rintro ⟨x, hx, hb⟩
    have := h1.2 x hx
    simp [badC] at hb
    omega
theorem chkT_ok {t : Tb} (h : chkT t = 0) : 1 ≤ t.length ∧ t.length ≤ 4 ∧ ∀ l ∈ t, l.length = t.length ∧ ∀ x ∈ l, 0 ≤ x ∧ x ≤ 9 := by
  unfold chkT at h
  split at h
  · cases h
  · split at h
    · cases h
    · exact ⟨by omega, by omega, chkRows_ok h⟩
theorem row_mem {t : Tb} {r : Nat} (h : r < t.length) : row t r ∈ t := by
  rw [row, List.getD_eq_getElem?_getD]; simp [h]
theorem row_len {t : Tb} (h : chkT t = 0) {r : Nat} (hr : r < t.length) : (row t r).length = t.length := ((chkT_ok h).2.2 _ (row_mem hr)).1
theorem cell_rng {t : Tb} (h : chkT t = 0) (r c : Nat) : 0 ≤ cell t r c ∧ cell t r c ≤ 9 := by
  unfold cell
  by_cases hr : r < t.length
  · by_cases hc : c < (row t r).length
    · have : (row t r).getD c 0 ∈ row t r := by rw [List.getD_eq_getElem?_getD]; simp [hc]
      exact ((chkT_ok h).2.2 _ (row_mem hr)).2 _ this
    · rw [List.getD_eq_getElem?_getD, List.getElem?_eq_none (by omega)]; simp
  · have : row t r = [] := by rw [row, List.getD_eq_getElem?_getD, List.getElem?_eq_none (by omega)]; rfl
    rw [this]; simp
def turnE (t : Tb) : Tb := (List.range t.length).map fun c => (List.range t.length).map fun r => cell t r c
@[simp] theorem turnE_length (t : Tb) : (turnE t).length = t.length := by simp [turnE]
/-- Sum and error of a table. -/
def evenE (t : Tb) : Int × Int := if chkT t ≠ 0 then (0, chkT t) else if (turnE t ++ t).all (fun l => decide (l.sum = (row t 0).sum)) then ((row t 0).sum, 0) else (0, 17)
def planS (n : Nat) (seen : List Int) : List Int → Int
  | [] => 0
  | c :: r => if c < 0 ∨ (n : Int) ≤ c then 2 else if c ∈ seen then 6 else planS n (seen ++ [c]) r
/-- The error of a plan. -/
def planE (n : Nat) (p : List Int) : Int := if p.length ≠ n then 5 else planS n [] p
def zeroAt (t : Tb) : Nat → List Int → Bool
  | _, [] => false
  | r, c :: p => decide (cell t r c.toNat = 0) || zeroAt t (r + 1) p
def withE (t : Tb) (p : List Int) : Int := if chkT t ≠ 0 then chkT t else if planE t.length p ≠ 0 then planE t.length p else if zeroAt t 0 p then 12 else 0
abbrev Vis := List Nat × Int × Int
/-- The plans within a table that begin so, with weight and smallest number. -/
def wk (t : Tb) : Nat → List Nat → Int → Int → List Vis
  | 0, p, w, l => [(p, w, l)]
  | f + 1, p, w, l => (List.range t.length).flatMap fun c => if 0 < cell t p.length c ∧ c ∉ p then wk t f (p ++ [c]) (w * cell t p.length c) (if cell t p.length c < l then cell t p.length c else l) else []
def wkAll (t : Tb) : List Vis := wk t t.length [] 1 9
def countE (t : Tb) : Int × Int := if chkT t ≠ 0 then (0, chkT t) else ((wkAll t).length, 0)
def weightE (t : Tb) : Int × Int := if chkT t ≠ 0 then (0, chkT t) else (((wkAll t).map fun v => v.2.1).sum, 0)
end Tab

/- Laws on values and memory that contracts use. -/
set_option linter.unusedVariables false
set_option linter.unusedSimpArgs false
namespace Go.Av
theorem condA_tt {A B : Prop} : condA (.bool true) true A B ↔ A := ⟨fun h => h.1 rfl, fun h => ⟨fun _ => h, fun h' => absurd rfl h'⟩⟩
theorem condA_ff {A B : Prop} : condA (.bool false) true A B ↔ B := ⟨fun h => h.2 (by simp), fun h => ⟨fun h' => by simp at h', fun _ => h⟩⟩
theorem condG_tt {A B : Prop} : condG (.bool true) true A B ↔ A := ⟨fun h => h.1 rfl, fun h => ⟨fun _ => h, fun h' => absurd rfl h'⟩⟩
theorem condG_ff {A B : Prop} : condG (.bool false) true A B ↔ B := ⟨fun h => h.2 (by simp), fun h => ⟨fun h' => by simp at h', fun _ => h⟩⟩
theorem condG_ff' {A B : Prop} : condG (.bool false) false A B ↔ A := ⟨fun h => h.1 rfl, fun h => ⟨fun _ => h, fun h' => absurd rfl h'⟩⟩
theorem condG_tt' {A B : Prop} : condG (.bool true) false A B ↔ B := ⟨fun h => h.2 (by simp), fun h => ⟨fun h' => by simp at h', fun _ => h⟩⟩
theorem exU {H : Heap} {k : AV → Heap → Prop} (h : k (.tup []) H) : ∃ J : AV → Heap → Prop, J (.tup []) H ∧ ∀ t h, J t h → k t h := ⟨k, h, fun _ _ h => h⟩
theorem exJc {P : Program} {f : FuncId} {args : List AV} {H : Heap} {c : Bool} {k : AV → Heap → Prop} (h : ACalls P f args H k) : ∃ J : AV → Heap → Prop, condG (.bool c) c (ACalls P f args H fun t h => J t h) (J (.tup []) H) ∧ ∀ t h, J t h → k t h := ⟨k, ⟨fun _ => h, fun h' => absurd rfl h'⟩, fun _ _ h => h⟩
theorem exJ {P : Program} {f : FuncId} {args : List AV} {H : Heap} {k : AV → Heap → Prop} (h : ACalls P f args H k) : ∃ J : AV → Heap → Prop, (ACalls P f args H fun t h => J t h) ∧ ∀ t h, J t h → k t h := ⟨k, h, fun _ _ h => h⟩
theorem reads_src {H : Heap} {v : AV} {l : List Int} (h : Reads H v l) : srcOf 1 v H = some (l.length, ints l) := by
  cases v <;> simp only [Reads] at h <;> try exact h.elim
  · subst h; rfl
  · obtain ⟨rfl, rfl⟩ := h; simp [srcOf]
  · obtain ⟨rfl, rfl, cells, h1, h2, h3⟩ := h; simp [srcOf, h1, h2, h3]
theorem ints_flat (l : List Int) : ints l = l.flatMap fun x => [AV.int .i64 x] := by
  induction l with
  | nil => rfl
  | cons a l ih => rw [ints_cons, ih]; rfl
theorem grow_at {H0 H : Heap} {v : AV} {n : Nat} {l : List Int} {i : Nat} (h : Grow 1 H0 H v n (ints l)) (hr : isOwn v) (hi : i < n) :
    ∃ b, H0 b = none ∧ idx 1 v (.int .i64 (i : Int)) = some (.ptr b i) ∧ (∀ H', H.le H' → load1 (.ptr b i) H' = some (.int .i64 (l.getD i 0))) ∧
      ∀ (x : Int) (K : Heap → Prop), (∀ H', Grow 1 H0 H' v n (ints (l.set i x)) → load1 (.ptr b i) H' = some (.int .i64 x) → K H') → storeA 1 (.ptr b i) (.int .i64 x) K H := by
  obtain ⟨b, hb, rfl, rfl⟩ := h.own hr
  have hl : l.length = n := by simpa using h.1
  have hx : l[i]? = some (l.getD i 0) := by rw [List.getD_eq_getElem?_getD, List.getElem?_eq_getElem (by omega)]; rfl
  refine ⟨b, hb, ?_, ?_, ?_⟩
  · rw [idx_ref hi]; simp
  · intro H' hle
    exact load1_at (hle _ _ Heap.put_same) (by rw [ints_getElem?, hx]; rfl)
  · intro x K hK
    have e : splice (ints l) i [.int .i64 x] = ints (l.set i x) := by
      have := rows_set (f := fun x : Int => [AV.int .i64 x]) (sz := 1) (fun _ => rfl) (l := l) (i := i) (y := x) (by omega)
      rwa [← ints_flat, ← ints_flat, Nat.mul_one] at this
    refine storeA_of (cs := [.int .i64 x]) Heap.put_same rfl rfl rfl (by simp; omega) ?_
    rw [e, Heap.put_put]
    refine hK _ (Grow.ref hb (by simp [hl])) ?_
    refine load1_at Heap.put_same ?_
    rw [ints_getElem?, List.getElem?_set_self (by omega)]
    rfl
theorem alloc_grow {sz : Nat} {H0 H : Heap} {v : AV} {n b : Nat} {cells cs : List AV} (h : Grow sz H0 H v n cells) (hb : H b = none) : Grow sz (H0.put b cs) (H.put b cs) v n cells := by
  refine ⟨h.1, ?_⟩
  rcases h.2 with ⟨e, e2, rfl⟩ | ⟨e, rfl⟩ | ⟨b3, hb3, e, rfl⟩
  · exact .inl ⟨e, e2, rfl⟩
  · exact .inr (.inl ⟨e, rfl⟩)
  · have hne : b3 ≠ b := Heap.ne_of (Heap.put_same) hb
    exact .inr (.inr ⟨b3, by rw [Heap.put_ne hne]; exact hb3, e, Heap.put_comm hne⟩)
theorem alloc_store_le {n : Nat} {z cs : List AV} {x : AV} {k : AV → Heap → Prop} {H H0 : Heap} (h0 : H0.le H) (hx : cellsOf? x = some cs) (hs : cs.all isScalar = true) (hl : cs.length = n) (hz : z.length = n)
    (hk : ∀ b, H b = none → k (.ptr b 0) (H.put b cs)) : allocA z (fun t H3 => H0.le H3 ∧ storeA n t x (fun H4 => H0.le H4 ∧ k t H4) H3) H := by
  intro b hb
  refine ⟨Heap.le_trans h0 (Heap.le_new hb), ?_⟩
  refine storeA_of Heap.put_same hx hs hl (by simp [hl, hz]) ?_
  have : splice z 0 cs = cs := by simp [splice, hl, hz]
  rw [this, Heap.put_put]
  exact ⟨Heap.le_trans h0 (Heap.le_new hb), hk b hb⟩
theorem none_of_le {H H' : Heap} (h : H.le H') {b : Nat} (hb : H' b = none) : H b = none := by
  cases hx : H b with
  | none => rfl
  | some c => rw [h _ _ hx] at hb; cases hb
theorem slc_suf {H : Heap} {l : List Int} {k : Nat} (hk : k ≤ l.length) : ∃ v', slc 1 (sl l) (some (.int .i64 (k : Int))) none none = some v' ∧ Reads H v' (l.drop k) := by
  have n1 : ∀ d, natOf none d = some d := fun d => rfl
  have n2 : ∀ d, natOf (some (.int .i64 (k : Int))) d = some k := fun d => by simp [natOf]
  simp only [sl, slc, n1, n2, Option.bind_some]
  rw [if_pos ⟨hk, Nat.le_refl _⟩]
  refine ⟨_, rfl, by simp, ?_⟩
  rw [Nat.mul_one, Nat.mul_one, ints_drop, List.take_of_length_le (by simp)]
theorem slc_reads {H : Heap} {v : AV} {l : List Int} {i j : Nat} (h : Reads H v l) (hij : i < j) (hj : j ≤ l.length) :
    ∃ v', slc 1 v (some (.int .i64 (i : Int))) (some (.int .i64 (j : Int))) none = some v' ∧ Reads H v' ((l.drop i).take (j - i)) := by
  have n1 : ∀ d, natOf (some (.int .i64 (i : Int))) d = some i := fun d => by simp [natOf]
  have n2 : ∀ d, natOf (some (.int .i64 (j : Int))) d = some j := fun d => by simp [natOf]
  cases v <;> simp only [Reads] at h <;> try exact h.elim
  · subst h; simp at hj; omega
  · obtain ⟨rfl, rfl⟩ := h
    simp only [slc, n1, n2, Option.bind_some]
    rw [if_pos ⟨by omega, hj⟩]
    refine ⟨_, rfl, by simp; omega, ?_⟩
    rw [Nat.mul_one, Nat.mul_one, ints_drop, ints_take]
  · rename_i s b off n cp
    obtain ⟨rfl, rfl, cells, hb, hc, ht⟩ := h
    simp only [slc, n1, n2, Option.bind_some]
    rw [if_pos ⟨by trivial, by omega, hj, by omega⟩]
    refine ⟨_, rfl, rfl, by simp; omega, cells, hb, by omega, ?_⟩
    rw [Nat.mul_one, ← ints_take, ← ints_drop, ← ht, List.drop_take, List.take_take, List.drop_drop, Nat.min_eq_left (by omega)]
theorem slc_pre {H : Heap} {v : AV} {l : List Int} {k : Nat} (h : Reads H v l) (hk : k ≤ l.length) : ∃ v', slc 1 v none (some (.int .i64 (k : Int))) none = some v' ∧ Reads H v' (l.take k) := by
  have n1 : ∀ d, natOf none d = some d := fun d => rfl
  have n2 : ∀ d, natOf (some (.int .i64 (k : Int))) d = some k := fun d => by simp [natOf]
  cases v <;> simp only [Reads] at h <;> try exact h.elim
  · subst h
    have : k = 0 := by simpa using hk
    subst this
    simp only [slc, n1, n2, Option.bind_some]
    exact ⟨_, rfl, rfl⟩
  · obtain ⟨rfl, rfl⟩ := h
    simp only [slc, n1, n2, Option.bind_some]
    rw [if_pos ⟨by omega, hk⟩]
    refine ⟨_, rfl, by simp; omega, ?_⟩
    rw [Nat.mul_one, Nat.zero_mul, List.drop_zero, Nat.sub_zero, ints_take]
  · rename_i s b off n cp
    obtain ⟨rfl, rfl, cells, hb, hc, ht⟩ := h
    simp only [slc, n1, n2, Option.bind_some]
    rw [if_pos ⟨by trivial, by omega, hk, by simp⟩]
    refine ⟨_, rfl, rfl, by simp; omega, cells, hb, by omega, ?_⟩
    rw [Nat.zero_mul, Nat.add_zero, Nat.sub_zero, ← ints_take, ← ht, List.take_take, Nat.min_eq_left hk]
def lit (l : List Int) : AV := .imm l.length true (ints l)
theorem lit_reads (H : Heap) (l : List Int) : Reads H (lit l) l := ⟨rfl, rfl⟩
def eqt {α : Type} (a b : α) : Prop := a = b
theorem frz_sl {b n : Nat} {l : List Int} (hn : n = l.length) : frz1 b (ints l) (.ref 1 b 0 n none) = sl l := by
  subst hn
  have h : (0 : Nat) + l.length * 1 ≤ (ints l).length := by simp
  show (if b = b ∧ 0 + l.length * 1 ≤ (ints l).length then AV.imm l.length false (((ints l).drop 0).take (l.length * 1)) else .ref 1 b 0 l.length none) = sl l
  rw [if_pos ⟨rfl, h⟩, List.drop_zero, List.take_of_length_le (by simp)]
  rfl
theorem put_eq {H : Heap} {b : Nat} {cs : List AV} (h : H b = some cs) : H.put b cs = H := by
  funext x
  simp only [Heap.put]
  split
  · rename_i e; rw [e, h]
  · rfl
theorem not_v {b : Bool} : unF .not (.bool b) = some (.bool !b) := rfl
theorem conv_grow {H H1 H' : Heap} {X : AV} {n : Nat} {xs : List AV} (h : Grow 1 H1 H' X n xs) (hle : H.le H1) : conv H H' 2 X = .imm n false (xs.map (conv H H' 1)) := by
  have hn : n = xs.length := by have := h.1; omega
  rcases h.2 with ⟨rfl, h0, rfl⟩ | ⟨rfl, rfl⟩ | ⟨b, hb, rfl, rfl⟩
  · have : xs = [] := List.eq_nil_of_length_eq_zero (by omega)
    subst this
    simp [conv, h0]
  · rfl
  · exact conv_out (fresh_of hle hb) Heap.put_same 1 hn

/-- An element of a list of values. -/
theorem ReadsC.get {H H' : Heap} (hl : H.le H') {v : AV} {n : Nat} {cells : List AV} (h : ReadsC 1 H v n cells) {i : Int} {x : AV} {k : AV → Prop} (hi : 0 ≤ i) (hi2 : i < n) (hx : cells[i.toNat]? = some x)
    (hk : k x) : letO (idx 1 v (.int .i64 i)) fun p => letO (load1 p H') k := by
  obtain ⟨h0, h⟩ := h
  cases v <;> simp only at h <;> try exact h.elim
  · subst h; omega
  · obtain ⟨rfl, rfl⟩ := h
    simp only [idx, hi, hi2, and_self, if_true, letO_some, load1_iptr, Nat.mul_one, List.getElem?_drop, Nat.add_zero, hx]
    exact hk
  · rename_i s b off m cp
    obtain ⟨rfl, rfl, cs, h1, h2, h3⟩ := h
    have e : cs[off + i.toNat]? = some x := by
      rw [← h3, List.getElem?_take_of_lt (by omega), List.getElem?_drop] at hx
      exact hx
    simp only [idx, hi, hi2, and_self, if_true, letO_some, load1_ptr, hl _ _ h1, Option.bind_some, Nat.mul_one, e]
    exact hk

abbrev Tbl := List (List Int)
/-- A list of lists of numbers, in a state of memory. -/
def RT (H : Heap) (v : AV) (t : Tbl) : Prop := ∃ rows : List AV, ReadsC 1 H v t.length rows ∧ ∀ r, r < t.length → ∃ a, rows[r]? = some a ∧ Reads H a (t.getD r [])
/-- The list of lists, read and no more. -/
def tl (t : Tbl) : AV := .imm t.length false (t.map sl)
theorem RT.tl (H : Heap) (t : Tbl) : RT H (tl t) t := ⟨t.map sl, ⟨by simp, rfl, rfl⟩, fun r hr => ⟨sl (t.getD r []), by simp [List.getD_eq_getElem?_getD, hr], Reads.sl _ _⟩⟩
theorem RT.le {H H' : Heap} (hl : H.le H') {v : AV} {t : Tbl} (h : RT H v t) : RT H' v t := by
  obtain ⟨rows, h1, h2⟩ := h
  exact ⟨rows, h1.le hl, fun r hr => by obtain ⟨a, h3, h4⟩ := h2 r hr; exact ⟨a, h3, h4.le hl⟩⟩
theorem RT.len {H : Heap} {v : AV} {t : Tbl} (h : RT H v t) : lenA v = some (.int .i64 t.length) := by
  obtain ⟨rows, h1, _⟩ := h; exact h1.len
theorem RT.cells {H : Heap} {v : AV} {t : Tbl} (h : RT H v t) : cellsOf? v = some [v] := by
  obtain ⟨rows, h1, _⟩ := h; exact h1.cells
theorem RT.scalar {H : Heap} {v : AV} {t : Tbl} (h : RT H v t) : isScalar v = true := by
  obtain ⟨rows, h1, _⟩ := h; exact h1.scalar
/-- A row is read. -/
theorem RT.get {H H' : Heap} (hl : H.le H') {v : AV} {t : Tbl} (h : RT H v t) {i : Int} {k : AV → Prop} (hi : 0 ≤ i) (hi2 : i < t.length)
    (hk : ∀ a, Reads H a (t.getD i.toNat []) → k a) : letO (idx 1 v (.int .i64 i)) fun p => letO (load1 p H') k := by
  obtain ⟨rows, h1, h2⟩ := h
  obtain ⟨a, h3, h4⟩ := h2 i.toNat (by omega)
  exact h1.get hl hi hi2 h3 (hk a h4)
end Go.Av

namespace Go.Proofs.YtbofkeoebnjjkaaDoor
open Go.Av Tab
set_option linter.unusedVariables false
set_option linter.unusedSimpArgs false
set_option maxRecDepth 4000

/-- same -/
theorem c24 {v w : AV} {l m : List Int} {H : Heap} {K : AV → Heap → Prop} (hv : Reads H v l) (hw : Reads H w m) (hl : l.length < 2 ^ 63) (hk : K (.bool (decide (l = m))) H) : ACalls Tryd.prog 24 [v, w] H K := by
  apply W24_ok
  unfold W24
  simp only [letO_some, cellsOf?_agg, cellsOf?_int, cellsOf?_bool, cellsOf?_imm, cellsOf?_ref, cellsOf?_nils, faddr_iptr, faddr_ptr, List.drop_succ_cons, List.drop_zero, List.take_succ_cons, List.take_zero, load1_iptr, loadN_iptr, List.length_cons, List.length_nil, Nat.le_refl, if_true, List.getElem?_cons_zero, List.getElem?_cons_succ, List.getD_cons_zero, List.getD_cons_succ, extrF_tup, binF_add, binF_sub, binF_mul, binF_eql, binF_neq, binF_lss, binF_leq, binF_gtr, binF_geq, true_and, hv.len, hw.len]
  by_cases hlen : l.length = m.length
  · have e1 : (((l.length : Nat) : Int) != ((m.length : Nat) : Int)) = false := by simp; omega
    simp only [e1, gval_bool, Int.reduceBNe, Int.reduceBEq, pickF_true, pickF_false, reduceIte, Bool.true_eq_false, Bool.false_eq_true, if_false, condA_tt, condA_ff, condG_tt, condG_ff, condG_tt', condG_ff', condG_undef, gval_undef]
    refine ⟨fun L H' => ∃ i : Nat, eqt L [.int .i64 i] ∧ i ≤ l.length ∧ eqt H' H ∧ l.take i = m.take i, fun L _ => (l.length - iv L 0).toNat, ⟨0, rfl, by omega, rfl, by simp⟩, ?_⟩
    rintro L H' ⟨i, rfl, hi, rfl, he⟩
    simp only [letO_some, cellsOf?_agg, cellsOf?_int, cellsOf?_bool, cellsOf?_imm, cellsOf?_ref, cellsOf?_nils, faddr_iptr, faddr_ptr, List.drop_succ_cons, List.drop_zero, List.take_succ_cons, List.take_zero, load1_iptr, loadN_iptr, List.length_cons, List.length_nil, Nat.le_refl, if_true, List.getElem?_cons_zero, List.getElem?_cons_succ, List.getD_cons_zero, List.getD_cons_succ, extrF_tup, binF_add, binF_sub, binF_mul, binF_eql, binF_neq, binF_lss, binF_leq, binF_gtr, binF_geq, true_and]
    refine condA_t (fun hlt => ?_) (fun hge => ?_)
    · refine hv.get (Heap.le_refl _) (by omega) (by omega) ?_
      refine hw.get (Heap.le_refl _) (by omega) (by omega) ?_
      rw [Int.toNat_natCast]
      have a1 : i < l.length := by omega
      have a2 : i < m.length := by omega
      have g1 : l.getD i 0 = l[i] := by simp [List.getD_eq_getElem?_getD, a1]
      have g2 : m.getD i 0 = m[i] := by simp [List.getD_eq_getElem?_getD, a2]
      rw [g1, g2]
      by_cases hx : l[i] = m[i]
      · have e2 : (l[i] != m[i]) = false := by simp [hx]
        simp only [letO_some, cellsOf?_agg, cellsOf?_int, cellsOf?_bool, cellsOf?_imm, cellsOf?_ref, cellsOf?_nils, faddr_iptr, faddr_ptr, List.drop_succ_cons, List.drop_zero, List.take_succ_cons, List.take_zero, load1_iptr, loadN_iptr, List.length_cons, List.length_nil, Nat.le_refl, if_true, List.getElem?_cons_zero, List.getElem?_cons_succ, List.getD_cons_zero, List.getD_cons_succ, extrF_tup, binF_add, binF_sub, binF_mul, binF_eql, binF_neq, binF_lss, binF_leq, binF_gtr, binF_geq, true_and, e2, gval_bool, Int.reduceBNe, Int.reduceBEq, pickF_true, pickF_false, reduceIte, Bool.true_eq_false, Bool.false_eq_true, if_false, condA_tt, condA_ff, condG_tt, condG_ff, condG_tt', condG_ff', condG_undef, gval_undef]
        rw [wrap_i64 (by omega) (by omega)]
        refine ⟨⟨i + 1, rfl, by omega, rfl, ?_⟩, by simp <;> omega⟩
        rw [List.take_add_one, List.take_add_one, he]
        simp [a1, a2, hx]
      · have e2 : (l[i] != m[i]) = true := by simp [hx]
        simp only [letO_some, cellsOf?_agg, cellsOf?_int, cellsOf?_bool, cellsOf?_imm, cellsOf?_ref, cellsOf?_nils, faddr_iptr, faddr_ptr, List.drop_succ_cons, List.drop_zero, List.take_succ_cons, List.take_zero, load1_iptr, loadN_iptr, List.length_cons, List.length_nil, Nat.le_refl, if_true, List.getElem?_cons_zero, List.getElem?_cons_succ, List.getD_cons_zero, List.getD_cons_succ, extrF_tup, binF_add, binF_sub, binF_mul, binF_eql, binF_neq, binF_lss, binF_leq, binF_gtr, binF_geq, true_and, e2, gval_bool, Int.reduceBNe, Int.reduceBEq, pickF_true, pickF_false, reduceIte, Bool.true_eq_false, Bool.false_eq_true, if_false, condA_tt, condA_ff, condG_tt, condG_ff, condG_tt', condG_ff', condG_undef, gval_undef]
        have : l ≠ m := by rintro rfl; exact hx rfl
        rw [decide_eq_false this] at hk
        exact endK_ret hk
    · have hil : i = l.length := by omega
      subst hil
      rw [List.take_length, hlen, List.take_length] at he
      rw [decide_eq_true he] at hk
      exact endK_ret hk
  · have e1 : (((l.length : Nat) : Int) != ((m.length : Nat) : Int)) = true := by simp; omega
    simp only [e1, gval_bool, Int.reduceBNe, Int.reduceBEq, pickF_true, pickF_false, reduceIte, Bool.true_eq_false, Bool.false_eq_true, if_false, condA_tt, condA_ff, condG_tt, condG_ff, condG_tt', condG_ff', condG_undef, gval_undef]
    have : l ≠ m := by rintro rfl; exact hlen rfl
    rw [decide_eq_false this] at hk
    exact endK_ret hk

/-- alike -/
theorem c29 {v w : AV} {t u : Tbl} {H : Heap} {K : AV → Heap → Prop} (hv : RT H v t) (hw : RT H w u) (hl : t.length < 2 ^ 63) (hl2 : ∀ l ∈ t, l.length < 2 ^ 63) (hk : K (.bool (decide (t = u))) H) : ACalls Tryd.prog 29 [v, w] H K := by
  apply W29_ok
  unfold W29
  simp only [letO_some, cellsOf?_agg, cellsOf?_int, cellsOf?_bool, cellsOf?_imm, cellsOf?_ref, cellsOf?_nils, faddr_iptr, faddr_ptr, List.drop_succ_cons, List.drop_zero, List.take_succ_cons, List.take_zero, load1_iptr, loadN_iptr, List.length_cons, List.length_nil, Nat.le_refl, if_true, List.getElem?_cons_zero, List.getElem?_cons_succ, List.getD_cons_zero, List.getD_cons_succ, extrF_tup, binF_add, binF_sub, binF_mul, binF_eql, binF_neq, binF_lss, binF_leq, binF_gtr, binF_geq, true_and, hv.len, hw.len]
  by_cases hlen : t.length = u.length
  · have e1 : (((t.length : Nat) : Int) != ((u.length : Nat) : Int)) = false := by simp; omega
    simp only [e1, gval_bool, Int.reduceBNe, Int.reduceBEq, pickF_true, pickF_false, reduceIte, Bool.true_eq_false, Bool.false_eq_true, if_false, condA_tt, condA_ff, condG_tt, condG_ff, condG_tt', condG_ff', condG_undef, gval_undef]
    refine ⟨fun L H' => ∃ i : Nat, eqt L [.int .i64 i] ∧ i ≤ t.length ∧ eqt H' H ∧ t.take i = u.take i, fun L _ => (t.length - iv L 0).toNat, ⟨0, rfl, by omega, rfl, by simp⟩, ?_⟩
    rintro L H' ⟨i, rfl, hi, rfl, he⟩
    simp only [letO_some, cellsOf?_agg, cellsOf?_int, cellsOf?_bool, cellsOf?_imm, cellsOf?_ref, cellsOf?_nils, faddr_iptr, faddr_ptr, List.drop_succ_cons, List.drop_zero, List.take_succ_cons, List.take_zero, load1_iptr, loadN_iptr, List.length_cons, List.length_nil, Nat.le_refl, if_true, List.getElem?_cons_zero, List.getElem?_cons_succ, List.getD_cons_zero, List.getD_cons_succ, extrF_tup, binF_add, binF_sub, binF_mul, binF_eql, binF_neq, binF_lss, binF_leq, binF_gtr, binF_geq, true_and]
    refine condA_t (fun hlt => ?_) (fun hge => ?_)
    · refine hv.get (Heap.le_refl _) (by omega) (by omega) fun a ha => ?_
      refine hw.get (Heap.le_refl _) (by omega) (by omega) fun b hb => ?_
      rw [Int.toNat_natCast] at ha hb
      have a1 : i < t.length := by omega
      have a2 : i < u.length := by omega
      have g1 : t.getD i [] = t[i] := by simp [List.getD_eq_getElem?_getD, a1]
      have g2 : u.getD i [] = u[i] := by simp [List.getD_eq_getElem?_getD, a2]
      rw [g1] at ha
      rw [g2] at hb
      refine c24 ha hb (hl2 _ (by simp)) ?_
      by_cases hx : t[i] = u[i]
      · simp only [hx, decide_true, not_v, letO_some, cellsOf?_agg, cellsOf?_int, cellsOf?_bool, cellsOf?_imm, cellsOf?_ref, cellsOf?_nils, faddr_iptr, faddr_ptr, List.drop_succ_cons, List.drop_zero, List.take_succ_cons, List.take_zero, load1_iptr, loadN_iptr, List.length_cons, List.length_nil, Nat.le_refl, if_true, List.getElem?_cons_zero, List.getElem?_cons_succ, List.getD_cons_zero, List.getD_cons_succ, extrF_tup, binF_add, binF_sub, binF_mul, binF_eql, binF_neq, binF_lss, binF_leq, binF_gtr, binF_geq, true_and, gval_bool, Int.reduceBNe, Int.reduceBEq, pickF_true, pickF_false, reduceIte, Bool.true_eq_false, Bool.false_eq_true, if_false, condA_tt, condA_ff, condG_tt, condG_ff, condG_tt', condG_ff', condG_undef, gval_undef, Bool.not_true]
        rw [wrap_i64 (by omega) (by omega)]
        refine ⟨⟨i + 1, rfl, by omega, rfl, ?_⟩, by simp <;> omega⟩
        rw [List.take_add_one, List.take_add_one, he]
        simp [a1, a2, hx]
      · simp only [hx, decide_false, not_v, letO_some, cellsOf?_agg, cellsOf?_int, cellsOf?_bool, cellsOf?_imm, cellsOf?_ref, cellsOf?_nils, faddr_iptr, faddr_ptr, List.drop_succ_cons, List.drop_zero, List.take_succ_cons, List.take_zero, load1_iptr, loadN_iptr, List.length_cons, List.length_nil, Nat.le_refl, if_true, List.getElem?_cons_zero, List.getElem?_cons_succ, List.getD_cons_zero, List.getD_cons_succ, extrF_tup, binF_add, binF_sub, binF_mul, binF_eql, binF_neq, binF_lss, binF_leq, binF_gtr, binF_geq, true_and, gval_bool, Int.reduceBNe, Int.reduceBEq, pickF_true, pickF_false, reduceIte, Bool.true_eq_false, Bool.false_eq_true, if_false, condA_tt, condA_ff, condG_tt, condG_ff, condG_tt', condG_ff', condG_undef, gval_undef, Bool.not_false]
        have : t ≠ u := by rintro rfl; exact hx rfl
        rw [decide_eq_false this] at hk
        exact endK_ret hk
    · have hil : i = t.length := by omega
      subst hil
      rw [List.take_length, hlen, List.take_length] at he
      rw [decide_eq_true he] at hk
      exact endK_ret hk
  · have e1 : (((t.length : Nat) : Int) != ((u.length : Nat) : Int)) = true := by simp; omega
    simp only [e1, gval_bool, Int.reduceBNe, Int.reduceBEq, pickF_true, pickF_false, reduceIte, Bool.true_eq_false, Bool.false_eq_true, if_false, condA_tt, condA_ff, condG_tt, condG_ff, condG_tt', condG_ff', condG_undef, gval_undef]
    have : t ≠ u := by rintro rfl; exact hlen rfl
    rw [decide_eq_false this] at hk
    exact endK_ret hk

/-- slices.IndexFunc of numbers -/
theorem c98 {v : AV} {l : List Int} {p : Int → Bool} {g : FuncId} {caps : List AV} {H : Heap} {K : AV → Heap → Prop} (hv : Reads H v l) (hl : l.length < 2 ^ 63)
    (hf : ∀ x ∈ l, ∀ K : AV → Heap → Prop, K (.bool (p x)) H → ACalls Tryd.prog g ([.int .i64 x] ++ caps) H K)
    (hk : ∀ i : Int, -9223372036854775808 ≤ i → (decide (0 ≤ i) = l.any p) → K (.int .i64 i) H) : ACalls Tryd.prog 98 [v, .fn g caps] H K := by
  apply W98_ok
  unfold W98
  simp only [letO_some, cellsOf?_agg, cellsOf?_int, cellsOf?_bool, cellsOf?_imm, cellsOf?_ref, cellsOf?_nils, faddr_iptr, faddr_ptr, List.drop_succ_cons, List.drop_zero, List.take_succ_cons, List.take_zero, load1_iptr, loadN_iptr, List.length_cons, List.length_nil, Nat.le_refl, if_true, List.getElem?_cons_zero, List.getElem?_cons_succ, List.getD_cons_zero, List.getD_cons_succ, extrF_tup, binF_add, binF_sub, binF_mul, binF_eql, binF_neq, binF_lss, binF_leq, binF_gtr, binF_geq, true_and, hv.len]
  refine ⟨fun L H' => ∃ i : Nat, eqt L [.int .i64 i] ∧ i ≤ l.length ∧ eqt H' H ∧ (l.take i).any p = false, fun L _ => (l.length - iv L 0).toNat, ⟨0, rfl, by omega, rfl, by simp⟩, ?_⟩
  rintro L H' ⟨i, rfl, hi, rfl, he⟩
  simp only [letO_some, cellsOf?_agg, cellsOf?_int, cellsOf?_bool, cellsOf?_imm, cellsOf?_ref, cellsOf?_nils, faddr_iptr, faddr_ptr, List.drop_succ_cons, List.drop_zero, List.take_succ_cons, List.take_zero, load1_iptr, loadN_iptr, List.length_cons, List.length_nil, Nat.le_refl, if_true, List.getElem?_cons_zero, List.getElem?_cons_succ, List.getD_cons_zero, List.getD_cons_succ, extrF_tup, binF_add, binF_sub, binF_mul, binF_eql, binF_neq, binF_lss, binF_leq, binF_gtr, binF_geq, true_and]
  refine condA_t (fun hlt => ?_) (fun hge => ?_)
  · refine hv.get (Heap.le_refl _) (by omega) (by omega) ?_
    rw [Int.toNat_natCast]
    have a1 : i < l.length := by omega
    have g1 : l.getD i 0 = l[i] := by simp [List.getD_eq_getElem?_getD, a1]
    rw [g1, callA_fn]
    refine hf _ (by simp) _ ?_
    cases hp : p l[i] with
    | true =>
      simp only [letO_some, cellsOf?_agg, cellsOf?_int, cellsOf?_bool, cellsOf?_imm, cellsOf?_ref, cellsOf?_nils, faddr_iptr, faddr_ptr, List.drop_succ_cons, List.drop_zero, List.take_succ_cons, List.take_zero, load1_iptr, loadN_iptr, List.length_cons, List.length_nil, Nat.le_refl, if_true, List.getElem?_cons_zero, List.getElem?_cons_succ, List.getD_cons_zero, List.getD_cons_succ, extrF_tup, binF_add, binF_sub, binF_mul, binF_eql, binF_neq, binF_lss, binF_leq, binF_gtr, binF_geq, true_and, condA_tt]
      refine endK_ret (hk _ (by omega) ?_)
      rw [decide_eq_true (by omega), Eq.comm, List.any_eq_true]
      exact ⟨_, by simp, hp⟩
    | false =>
      simp only [letO_some, cellsOf?_agg, cellsOf?_int, cellsOf?_bool, cellsOf?_imm, cellsOf?_ref, cellsOf?_nils, faddr_iptr, faddr_ptr, List.drop_succ_cons, List.drop_zero, List.take_succ_cons, List.take_zero, load1_iptr, loadN_iptr, List.length_cons, List.length_nil, Nat.le_refl, if_true, List.getElem?_cons_zero, List.getElem?_cons_succ, List.getD_cons_zero, List.getD_cons_succ, extrF_tup, binF_add, binF_sub, binF_mul, binF_eql, binF_neq, binF_lss, binF_leq, binF_gtr, binF_geq, true_and, condA_ff]
      rw [wrap_i64 (by omega) (by omega)]
      refine ⟨⟨i + 1, rfl, by omega, rfl, ?_⟩, by simp <;> omega⟩
      rw [List.take_add_one, List.any_append, he]
      simp [a1, hp]
  · have hil : i = l.length := by omega
    subst hil
    rw [List.take_length] at he
    refine endK_ret (hk _ (by omega) ?_)
    rw [he]; simp

/-- slices.ContainsFunc of numbers -/
theorem c55 {v : AV} {l : List Int} {p : Int → Bool} {g : FuncId} {caps : List AV} {H : Heap} {K : AV → Heap → Prop} (hv : Reads H v l) (hl : l.length < 2 ^ 63)
    (hf : ∀ x ∈ l, ∀ K : AV → Heap → Prop, K (.bool (p x)) H → ACalls Tryd.prog g ([.int .i64 x] ++ caps) H K)
    (hk : K (.bool (l.any p)) H) : ACalls Tryd.prog 55 [v, .fn g caps] H K := by
  apply W55_ok
  unfold W55
  simp only [letO_some, cellsOf?_agg, cellsOf?_int, cellsOf?_bool, cellsOf?_imm, cellsOf?_ref, cellsOf?_nils, faddr_iptr, faddr_ptr, List.drop_succ_cons, List.drop_zero, List.take_succ_cons, List.take_zero, load1_iptr, loadN_iptr, List.length_cons, List.length_nil, Nat.le_refl, if_true, List.getElem?_cons_zero, List.getElem?_cons_succ, List.getD_cons_zero, List.getD_cons_succ, extrF_tup, binF_add, binF_sub, binF_mul, binF_eql, binF_neq, binF_lss, binF_leq, binF_gtr, binF_geq, true_and]
  refine c98 hv hl hf fun i _ hi => ?_
  simp only [letO_some, cellsOf?_agg, cellsOf?_int, cellsOf?_bool, cellsOf?_imm, cellsOf?_ref, cellsOf?_nils, faddr_iptr, faddr_ptr, List.drop_succ_cons, List.drop_zero, List.take_succ_cons, List.take_zero, load1_iptr, loadN_iptr, List.length_cons, List.length_nil, Nat.le_refl, if_true, List.getElem?_cons_zero, List.getElem?_cons_succ, List.getD_cons_zero, List.getD_cons_succ, extrF_tup, binF_add, binF_sub, binF_mul, binF_eql, binF_neq, binF_lss, binF_leq, binF_gtr, binF_geq, true_and, hi]
  exact endK_ret hk

/-- slices.Index of numbers -/
theorem c100 {v : AV} {l : List Int} {x : Int} {H : Heap} {K : AV → Heap → Prop} (hv : Reads H v l) (hl : l.length < 2 ^ 63)
    (hk : ∀ i : Int, -9223372036854775808 ≤ i → (decide (0 ≤ i) = decide (x ∈ l)) → K (.int .i64 i) H) : ACalls Tryd.prog 100 [v, .int .i64 x] H K := by
  apply W100_ok
  unfold W100
  simp only [letO_some, cellsOf?_agg, cellsOf?_int, cellsOf?_bool, cellsOf?_imm, cellsOf?_ref, cellsOf?_nils, faddr_iptr, faddr_ptr, List.drop_succ_cons, List.drop_zero, List.take_succ_cons, List.take_zero, load1_iptr, loadN_iptr, List.length_cons, List.length_nil, Nat.le_refl, if_true, List.getElem?_cons_zero, List.getElem?_cons_succ, List.getD_cons_zero, List.getD_cons_succ, extrF_tup, binF_add, binF_sub, binF_mul, binF_eql, binF_neq, binF_lss, binF_leq, binF_gtr, binF_geq, true_and, hv.len]
  refine ⟨fun L H' => ∃ i : Nat, eqt L [.int .i64 i] ∧ i ≤ l.length ∧ eqt H' H ∧ x ∉ l.take i, fun L _ => (l.length - iv L 0).toNat, ⟨0, rfl, by omega, rfl, by simp⟩, ?_⟩
  rintro L H' ⟨i, rfl, hi, rfl, he⟩
  simp only [letO_some, cellsOf?_agg, cellsOf?_int, cellsOf?_bool, cellsOf?_imm, cellsOf?_ref, cellsOf?_nils, faddr_iptr, faddr_ptr, List.drop_succ_cons, List.drop_zero, List.take_succ_cons, List.take_zero, load1_iptr, loadN_iptr, List.length_cons, List.length_nil, Nat.le_refl, if_true, List.getElem?_cons_zero, List.getElem?_cons_succ, List.getD_cons_zero, List.getD_cons_succ, extrF_tup, binF_add, binF_sub, binF_mul, binF_eql, binF_neq, binF_lss, binF_leq, binF_gtr, binF_geq, true_and]
  refine condA_t (fun hlt => ?_) (fun hge => ?_)
  · refine hv.get (Heap.le_refl _) (by omega) (by omega) ?_
    rw [Int.toNat_natCast]
    have a1 : i < l.length := by omega
    have g1 : l.getD i 0 = l[i] := by simp [List.getD_eq_getElem?_getD, a1]
    rw [g1]
    by_cases hx : x = l[i]
    · have e : (x == l[i]) = true := by simp [hx]
      simp only [letO_some, cellsOf?_agg, cellsOf?_int, cellsOf?_bool, cellsOf?_imm, cellsOf?_ref, cellsOf?_nils, faddr_iptr, faddr_ptr, List.drop_succ_cons, List.drop_zero, List.take_succ_cons, List.take_zero, load1_iptr, loadN_iptr, List.length_cons, List.length_nil, Nat.le_refl, if_true, List.getElem?_cons_zero, List.getElem?_cons_succ, List.getD_cons_zero, List.getD_cons_succ, extrF_tup, binF_add, binF_sub, binF_mul, binF_eql, binF_neq, binF_lss, binF_leq, binF_gtr, binF_geq, true_and, e, condA_tt]
      refine endK_ret (hk _ (by omega) ?_)
      rw [decide_eq_true (by omega), decide_eq_true (by rw [hx]; simp)]
    · have e : (x == l[i]) = false := by simp [hx]
      simp only [letO_some, cellsOf?_agg, cellsOf?_int, cellsOf?_bool, cellsOf?_imm, cellsOf?_ref, cellsOf?_nils, faddr_iptr, faddr_ptr, List.drop_succ_cons, List.drop_zero, List.take_succ_cons, List.take_zero, load1_iptr, loadN_iptr, List.length_cons, List.length_nil, Nat.le_refl, if_true, List.getElem?_cons_zero, List.getElem?_cons_succ, List.getD_cons_zero, List.getD_cons_succ, extrF_tup, binF_add, binF_sub, binF_mul, binF_eql, binF_neq, binF_lss, binF_leq, binF_gtr, binF_geq, true_and, e, condA_ff]
      rw [wrap_i64 (by omega) (by omega)]
      refine ⟨⟨i + 1, rfl, by omega, rfl, ?_⟩, by simp <;> omega⟩
      rw [List.take_add_one, List.mem_append, not_or]
      exact ⟨he, by simp [a1, hx]⟩
  · have hil : i = l.length := by omega
    subst hil
    rw [List.take_length] at he
    refine endK_ret (hk _ (by omega) ?_)
    rw [decide_eq_false he]; simp
/-- slices.Contains of numbers -/
theorem c62 {v : AV} {l : List Int} {x : Int} {H : Heap} {K : AV → Heap → Prop} (hv : Reads H v l) (hl : l.length < 2 ^ 63) (hk : K (.bool (decide (x ∈ l))) H) : ACalls Tryd.prog 62 [v, .int .i64 x] H K := by
  apply W62_ok
  unfold W62
  simp only [letO_some, cellsOf?_agg, cellsOf?_int, cellsOf?_bool, cellsOf?_imm, cellsOf?_ref, cellsOf?_nils, faddr_iptr, faddr_ptr, List.drop_succ_cons, List.drop_zero, List.take_succ_cons, List.take_zero, load1_iptr, loadN_iptr, List.length_cons, List.length_nil, Nat.le_refl, if_true, List.getElem?_cons_zero, List.getElem?_cons_succ, List.getD_cons_zero, List.getD_cons_succ, extrF_tup, binF_add, binF_sub, binF_mul, binF_eql, binF_neq, binF_lss, binF_leq, binF_gtr, binF_geq, true_and]
  refine c100 hv hl fun i _ hi => ?_
  simp only [letO_some, cellsOf?_agg, cellsOf?_int, cellsOf?_bool, cellsOf?_imm, cellsOf?_ref, cellsOf?_nils, faddr_iptr, faddr_ptr, List.drop_succ_cons, List.drop_zero, List.take_succ_cons, List.take_zero, load1_iptr, loadN_iptr, List.length_cons, List.length_nil, Nat.le_refl, if_true, List.getElem?_cons_zero, List.getElem?_cons_succ, List.getD_cons_zero, List.getD_cons_succ, extrF_tup, binF_add, binF_sub, binF_mul, binF_eql, binF_neq, binF_lss, binF_leq, binF_gtr, binF_geq, true_and, hi]
  exact endK_ret hk

/-- the closure of Check -/
theorem c77 {x : Int} {H : Heap} {K : AV → Heap → Prop} (hk : K (.bool (badC x)) H) : ACalls Tryd.prog 77 [.int .i64 x] H K := by
  apply W77_ok
  unfold W77
  unfold badC at hk
  by_cases h : x < 0
  · simp only [letO_some, cellsOf?_agg, cellsOf?_int, cellsOf?_bool, cellsOf?_imm, cellsOf?_ref, cellsOf?_nils, faddr_iptr, faddr_ptr, List.drop_succ_cons, List.drop_zero, List.take_succ_cons, List.take_zero, load1_iptr, loadN_iptr, List.length_cons, List.length_nil, Nat.le_refl, if_true, List.getElem?_cons_zero, List.getElem?_cons_succ, List.getD_cons_zero, List.getD_cons_succ, extrF_tup, binF_add, binF_sub, binF_mul, binF_eql, binF_neq, binF_lss, binF_leq, binF_gtr, binF_geq, true_and, h, decide_true, gval_bool, Int.reduceBNe, Int.reduceBEq, pickF_true, pickF_false, reduceIte, Bool.true_eq_false, Bool.false_eq_true, if_false, condA_tt, condA_ff, condG_tt, condG_ff, condG_tt', condG_ff', condG_undef, gval_undef]
    simp only [h, decide_true, Bool.true_or] at hk
    exact endK_ret hk
  · simp only [letO_some, cellsOf?_agg, cellsOf?_int, cellsOf?_bool, cellsOf?_imm, cellsOf?_ref, cellsOf?_nils, faddr_iptr, faddr_ptr, List.drop_succ_cons, List.drop_zero, List.take_succ_cons, List.take_zero, load1_iptr, loadN_iptr, List.length_cons, List.length_nil, Nat.le_refl, if_true, List.getElem?_cons_zero, List.getElem?_cons_succ, List.getD_cons_zero, List.getD_cons_succ, extrF_tup, binF_add, binF_sub, binF_mul, binF_eql, binF_neq, binF_lss, binF_leq, binF_gtr, binF_geq, true_and, h, decide_false, gval_bool, Int.reduceBNe, Int.reduceBEq, pickF_true, pickF_false, reduceIte, Bool.true_eq_false, Bool.false_eq_true, if_false, condA_tt, condA_ff, condG_tt, condG_ff, condG_tt', condG_ff', condG_undef, gval_undef]
    simp only [h, decide_false, Bool.false_or] at hk
    exact endK_ret hk
theorem chkRows_take {n : Nat} : ∀ (t : Tb) (i : Nat), chkRows n (t.take i) = 0 → chkRows n t = chkRows n (t.drop i)
  | [], i, _ => by simp
  | l :: t, 0, _ => by simp
  | l :: t, i + 1, h => by
    simp only [List.take_succ_cons, chkRows] at h
    simp only [List.drop_succ_cons]
    split at h
    · cases h
    · rename_i h1
      split at h
      · cases h
      · rename_i h2
        rw [chkRows, if_neg h1, if_neg h2]
        exact chkRows_take t i h
/-- Check -/
theorem c30 {v : AV} {t : Tbl} {H : Heap} {K : AV → Heap → Prop} (hv : RT H v t) (hl : t.length < 2 ^ 63) (hl2 : ∀ l ∈ t, l.length < 2 ^ 63) (hk : K (.int .i64 (chkT t)) H) : ACalls Tryd.prog 30 [v] H K := by
  apply W30_ok
  unfold W30
  simp only [letO_some, cellsOf?_agg, cellsOf?_int, cellsOf?_bool, cellsOf?_imm, cellsOf?_ref, cellsOf?_nils, faddr_iptr, faddr_ptr, List.drop_succ_cons, List.drop_zero, List.take_succ_cons, List.take_zero, load1_iptr, loadN_iptr, List.length_cons, List.length_nil, Nat.le_refl, if_true, List.getElem?_cons_zero, List.getElem?_cons_succ, List.getD_cons_zero, List.getD_cons_succ, extrF_tup, binF_add, binF_sub, binF_mul, binF_eql, binF_neq, binF_lss, binF_leq, binF_gtr, binF_geq, true_and, hv.len]
  by_cases h0 : t.length = 0
  · have e1 : (((t.length : Nat) : Int) == 0) = true := by simp [h0]
    simp only [e1, condA_tt]
    rw [chkT, if_pos h0] at hk
    exact endK_ret hk
  have e1 : (((t.length : Nat) : Int) == 0) = false := by rw [beq_eq_false_iff_ne]; omega
  simp only [e1, condA_ff]
  by_cases h4 : 4 < t.length
  · have e2 : decide ((4 : Int) < ((t.length : Nat) : Int)) = true := by simp; omega
    simp only [e2, condA_tt]
    rw [chkT, if_neg h0, if_pos h4] at hk
    exact endK_ret hk
  have e2 : decide ((4 : Int) < ((t.length : Nat) : Int)) = false := by simp; omega
  simp only [e2, condA_ff]
  rw [chkT, if_neg h0, if_neg h4] at hk
  refine ⟨fun L H' => ∃ i : Nat, eqt L [.int .i64 i] ∧ i ≤ t.length ∧ eqt H' H ∧ chkRows t.length (t.take i) = 0, fun L _ => (t.length - iv L 0).toNat, ⟨0, rfl, by omega, rfl, by simp [chkRows]⟩, ?_⟩
  rintro L H' ⟨i, rfl, hi, rfl, he⟩
  simp only [letO_some, cellsOf?_agg, cellsOf?_int, cellsOf?_bool, cellsOf?_imm, cellsOf?_ref, cellsOf?_nils, faddr_iptr, faddr_ptr, List.drop_succ_cons, List.drop_zero, List.take_succ_cons, List.take_zero, load1_iptr, loadN_iptr, List.length_cons, List.length_nil, Nat.le_refl, if_true, List.getElem?_cons_zero, List.getElem?_cons_succ, List.getD_cons_zero, List.getD_cons_succ, extrF_tup, binF_add, binF_sub, binF_mul, binF_eql, binF_neq, binF_lss, binF_leq, binF_gtr, binF_geq, true_and]
  refine condA_t (fun hlt => ?_) (fun hge => ?_)
  · refine hv.get (Heap.le_refl _) (by omega) (by omega) fun a ha => ?_
    rw [Int.toNat_natCast] at ha
    have a1 : i < t.length := by omega
    have g1 : t.getD i [] = t[i] := by simp [List.getD_eq_getElem?_getD, a1]
    rw [g1] at ha
    have hk2 := hk
    rw [chkRows_take t i he, List.drop_eq_getElem_cons a1, chkRows] at hk2
    simp only [ha.len, letO_some, cellsOf?_agg, cellsOf?_int, cellsOf?_bool, cellsOf?_imm, cellsOf?_ref, cellsOf?_nils, faddr_iptr, faddr_ptr, List.drop_succ_cons, List.drop_zero, List.take_succ_cons, List.take_zero, load1_iptr, loadN_iptr, List.length_cons, List.length_nil, Nat.le_refl, if_true, List.getElem?_cons_zero, List.getElem?_cons_succ, List.getD_cons_zero, List.getD_cons_succ, extrF_tup, binF_add, binF_sub, binF_mul, binF_eql, binF_neq, binF_lss, binF_leq, binF_gtr, binF_geq, true_and]
    by_cases hlen : t[i].length = t.length
    · have e3 : (((t[i].length : Nat) : Int) != ((t.length : Nat) : Int)) = false := by simp; omega
      simp only [e3, condA_ff, letO_some]
      rw [if_neg (by omega)] at hk2
      refine c55 (p := badC) ha (hl2 _ (by simp)) (fun x _ K hK => c77 hK) ?_
      cases hb : t[i].any badC with
      | true =>
        simp only [letO_some, cellsOf?_agg, cellsOf?_int, cellsOf?_bool, cellsOf?_imm, cellsOf?_ref, cellsOf?_nils, faddr_iptr, faddr_ptr, List.drop_succ_cons, List.drop_zero, List.take_succ_cons, List.take_zero, load1_iptr, loadN_iptr, List.length_cons, List.length_nil, Nat.le_refl, if_true, List.getElem?_cons_zero, List.getElem?_cons_succ, List.getD_cons_zero, List.getD_cons_succ, extrF_tup, binF_add, binF_sub, binF_mul, binF_eql, binF_neq, binF_lss, binF_leq, binF_gtr, binF_geq, true_and, condA_tt]
        rw [if_pos hb] at hk2
        exact endK_ret hk2
      | false =>
        simp only [letO_some, cellsOf?_agg, cellsOf?_int, cellsOf?_bool, cellsOf?_imm, cellsOf?_ref, cellsOf?_nils, faddr_iptr, faddr_ptr, List.drop_succ_cons, List.drop_zero, List.take_succ_cons, List.take_zero, load1_iptr, loadN_iptr, List.length_cons, List.length_nil, Nat.le_refl, if_true, List.getElem?_cons_zero, List.getElem?_cons_succ, List.getD_cons_zero, List.getD_cons_succ, extrF_tup, binF_add, binF_sub, binF_mul, binF_eql, binF_neq, binF_lss, binF_leq, binF_gtr, binF_geq, true_and, condA_ff]
        rw [wrap_i64 (by omega) (by omega)]
        refine ⟨⟨i + 1, rfl, by omega, rfl, ?_⟩, by simp <;> omega⟩
        rw [List.take_add_one]
        have h1 : ∀ (u : Tb) (l : List Int), chkRows t.length u = 0 → l.length = t.length → l.any badC = false → chkRows t.length (u ++ [l]) = 0 := by
          intro u
          induction u with
          | nil => intro l _ h2 h3; simp [chkRows, h2, h3]
          | cons m u ih =>
            intro l h1 h2 h3
            rw [chkRows] at h1
            rw [List.cons_append, chkRows]
            split at h1
            · cases h1
            · rename_i q1
              rw [if_neg q1]
              split at h1
              · cases h1
              · rename_i q2
                rw [if_neg q2]
                exact ih l h1 h2 h3
        have : t[i]?.toList = [t[i]] := by simp [a1]
        rw [this]
        exact h1 _ _ he hlen hb
    · have e3 : (((t[i].length : Nat) : Int) != ((t.length : Nat) : Int)) = true := by simp; omega
      simp only [e3, condA_tt, letO_some]
      rw [if_pos hlen] at hk2
      exact endK_ret hk2
  · have hil : i = t.length := by omega
    subst hil
    rw [List.take_length] at he
    rw [he] at hk
    exact endK_ret hk

/-- total -/
theorem c70 {v : AV} {l : List Int} {H : Heap} {K : AV → Heap → Prop} (hv : Reads H v l) (hl : l.length < 1000000) (hb : ∀ x ∈ l, -1000000 ≤ x ∧ x ≤ 1000000) (hk : K (.int .i64 l.sum) H) : ACalls Tryd.prog 70 [v] H K := by
  apply W70_ok
  unfold W70
  simp only [letO_some, cellsOf?_agg, cellsOf?_int, cellsOf?_bool, cellsOf?_imm, cellsOf?_ref, cellsOf?_nils, faddr_iptr, faddr_ptr, List.drop_succ_cons, List.drop_zero, List.take_succ_cons, List.take_zero, load1_iptr, loadN_iptr, List.length_cons, List.length_nil, Nat.le_refl, if_true, List.getElem?_cons_zero, List.getElem?_cons_succ, List.getD_cons_zero, List.getD_cons_succ, extrF_tup, binF_add, binF_sub, binF_mul, binF_eql, binF_neq, binF_lss, binF_leq, binF_gtr, binF_geq, true_and, hv.len]
  have hs : ∀ m : List Int, (∀ x ∈ m, -1000000 ≤ x ∧ x ≤ 1000000) → -1000000 * (m.length : Int) ≤ m.sum ∧ m.sum ≤ 1000000 * m.length := by
    intro m
    induction m with
    | nil => intro _; simp
    | cons a m ih =>
      intro h
      have := ih fun x hx => h x (by simp [hx])
      have := h a (by simp)
      simp only [List.sum_cons, List.length_cons]
      omega
  refine ⟨fun L H' => ∃ i : Nat, eqt L [.int .i64 (l.take i).sum, .int .i64 i] ∧ i ≤ l.length ∧ eqt H' H, fun L _ => (l.length - iv L 1).toNat, ⟨0, rfl, by omega, rfl⟩, ?_⟩
  rintro L H' ⟨i, rfl, hi, rfl⟩
  simp only [letO_some, cellsOf?_agg, cellsOf?_int, cellsOf?_bool, cellsOf?_imm, cellsOf?_ref, cellsOf?_nils, faddr_iptr, faddr_ptr, List.drop_succ_cons, List.drop_zero, List.take_succ_cons, List.take_zero, load1_iptr, loadN_iptr, List.length_cons, List.length_nil, Nat.le_refl, if_true, List.getElem?_cons_zero, List.getElem?_cons_succ, List.getD_cons_zero, List.getD_cons_succ, extrF_tup, binF_add, binF_sub, binF_mul, binF_eql, binF_neq, binF_lss, binF_leq, binF_gtr, binF_geq, true_and]
  refine condA_t (fun hlt => ?_) (fun hge => ?_)
  · refine hv.get (Heap.le_refl _) (by omega) (by omega) ?_
    rw [Int.toNat_natCast]
    have a1 : i < l.length := by omega
    have g1 : l.getD i 0 = l[i] := by simp [List.getD_eq_getElem?_getD, a1]
    have h1 := hs (l.take i) fun x hx => hb x (List.mem_of_mem_take hx)
    have h2 := hb l[i] (by simp)
    rw [List.length_take] at h1
    rw [g1]
    simp only [letO_some, cellsOf?_agg, cellsOf?_int, cellsOf?_bool, cellsOf?_imm, cellsOf?_ref, cellsOf?_nils, faddr_iptr, faddr_ptr, List.drop_succ_cons, List.drop_zero, List.take_succ_cons, List.take_zero, load1_iptr, loadN_iptr, List.length_cons, List.length_nil, Nat.le_refl, if_true, List.getElem?_cons_zero, List.getElem?_cons_succ, List.getD_cons_zero, List.getD_cons_succ, extrF_tup, binF_add, binF_sub, binF_mul, binF_eql, binF_neq, binF_lss, binF_leq, binF_gtr, binF_geq, true_and]
    rw [wrap_i64 (n := (l.take i).sum + l[i]) (by omega) (by omega), wrap_i64 (by omega) (by omega)]
    have e : (l.take (i + 1)).sum = (l.take i).sum + l[i] := by
      rw [List.take_add_one, List.sum_append]; simp [a1]
    rw [← e]
    exact ⟨⟨i + 1, rfl, by omega, rfl⟩, by simp <;> omega⟩
  · have hil : i = l.length := by omega
    subst hil
    rw [List.take_length]
    exact endK_ret hk
/-- list -/
theorem c68 {v : AV} {H : Heap} {K : AV → Heap → Prop} (hk : K v H) : ACalls Tryd.prog 68 [v] H K := by
  apply W68_ok
  unfold W68
  simp only [letO_some]
  exact endK_ret hk
/-- lists -/
theorem c69 {v : AV} {H : Heap} {K : AV → Heap → Prop} (hk : K v H) : ACalls Tryd.prog 69 [v] H K := by
  apply W69_ok
  unfold W69
  simp only [letO_some]
  exact endK_ret hk
end Go.Proofs.YtbofkeoebnjjkaaDoor

namespace Go.Proofs.YtbofkeoebnjjkaaDoor
open Go.Av Tab
set_option linter.unusedVariables false
set_option linter.unusedSimpArgs false
set_option maxRecDepth 4000

def up (E : List Nat) : List Int := E.map fun (x : Nat) => (x : Int)
@[simp] theorem up_length (E : List Nat) : (up E).length = E.length := by simp [up]
theorem l23 {x : AV} (hx : cellsOf? x = some [x]) : literalF Tryd.prog 23 1 [(0, x)] = some [x] := by
  rw [literalF_of (show literalPlan Tryd.prog 23 = some ([.int .i64 0], 1) by kernel_rfl) (by decide) (by simp)]
  simp [fillA, hx, splice, rowOf]
theorem b113 {x y : AV} (hx : cellsOf? x = some [x]) (hy : cellsOf? y = some [y]) : buildF Tryd.prog 113 [(0, x), (1, y)] = some (.agg [x, y]) := by
  rw [buildF_of (show buildPlan Tryd.prog 113 = some ([.nils, .nilf], [(0, 1), (1, 1)]) by kernel_rfl)]
  simp [fillA, hx, hy, splice]
theorem wk_mem {t : Tb} (hc : chkT t = 0) : ∀ (f : Nat) (p : List Nat) (w l : Int) (x : Vis), x ∈ wk t f p w l → x.1.length = p.length + f ∧ (∀ B : Int, 0 ≤ w → w ≤ B → 0 ≤ x.2.1 ∧ x.2.1 ≤ B * 9 ^ f) ∧ (∀ c ∈ x.1, c ∈ p ∨ c < t.length)
  | 0, p, w, l, x, h => by
    simp only [wk, List.mem_singleton] at h
    subst h
    exact ⟨by simp, fun B h1 h2 => by simp; exact ⟨h1, h2⟩, fun c hc => .inl hc⟩
  | f + 1, p, w, l, x, h => by
    simp only [wk, List.mem_flatMap, List.mem_range] at h
    obtain ⟨c, hcn, h⟩ := h
    split at h
    · rename_i hcc
      obtain ⟨h1, h2, h3⟩ := wk_mem hc f _ _ _ x h
      have hr := cell_rng hc p.length c
      refine ⟨by rw [h1]; simp; omega, fun B hw hB => ?_, fun d hd => ?_⟩
      · have hwc : w * cell t p.length c ≤ B * 9 := by
          have a1 : w * cell t p.length c ≤ w * 9 := Int.mul_le_mul_of_nonneg_left hr.2 hw
          omega
        have := h2 (B * 9) (Int.mul_nonneg hw hr.1) hwc
        rw [Int.pow_succ, Int.mul_comm (9 ^ f) 9, ← Int.mul_assoc]
        exact this
      · rcases h3 d hd with h | h
        · rcases List.mem_append.1 h with h | h
          · exact .inl h
          · rw [List.mem_singleton] at h; subst h; exact .inr hcn
        · exact .inr h
    · cases h
theorem frz_other {H : Heap} {v : AV} {t : Tbl} {b : Nat} {cells : List AV} (h : RT H v t) (hb : H b = none) : frz1 b cells v = v := by
  obtain ⟨rows, h1, _⟩ := h
  have h2 := h1.2
  cases v <;> try rfl
  rename_i s b' off n cp
  obtain ⟨_, _, cs, h3, _⟩ := h2
  have : b' ≠ b := by rintro rfl; rw [h3] at hb; cases hb
  simp [frz1, this]
/-- the walk through the plans within a table -/
theorem c94 {v : AV} {t : Tbl} {g : FuncId} {caps : List AV} {Hs : Heap} (hc : chkT t = 0) (hv : RT Hs v t) (Inv : List Vis → Heap → Prop) (Stop : Heap → Prop) (All : List Vis)
    (hle : ∀ done H, Inv done H → Hs.le H)
    (hvis : ∀ done H (p : List Nat) (w l : Int), p.length = t.length → (done ++ [(p, w, l)]) <+: All → Inv done H → ∀ K : AV → Heap → Prop, (∀ H', Inv (done ++ [(p, w, l)]) H' → K (.bool true) H') → (∀ H', Stop H' → K (.bool false) H') →
      ACalls Tryd.prog g ([sl (up p), .int .i64 w, .int .i64 l] ++ caps) H K) :
    ∀ (f : Nat) (p : List Nat) (w l : Int) (x1 : AV) (done : List Vis) (H : Heap) (K : AV → Heap → Prop), p.length + f = t.length → (x1 = sl (up p) ∨ (x1 = .nils ∧ p = [])) → 0 ≤ w → w ≤ 9 ^ p.length → (done ++ wk t f p w l) <+: All → Inv done H →
      (∀ H', Inv (done ++ wk t f p w l) H' → K (.bool true) H') → (∀ H', Stop H' → K (.bool false) H') → ACalls Tryd.prog 94 [.agg [v, .fn g caps], x1, .int .i64 w, .int .i64 l] H K := by
  obtain ⟨n1, n2, hrows⟩ := chkT_ok hc
  have hrd : ∀ {H : Heap} {p : List Nat} {x1 : AV}, (x1 = sl (up p) ∨ (x1 = .nils ∧ p = [])) → Reads H x1 (up p) := by
    intro H p x1 h
    rcases h with rfl | ⟨rfl, rfl⟩
    · exact Reads.sl _ _
    · rfl
  intro f
  induction f with
  | zero =>
    intro p w l x1 done H K hpl hx1 hw hw2 hpre hI hk hs
    apply W94_ok
    unfold W94
    have e1 : (((p.length : Nat) : Int) == ((t.length : Nat) : Int)) = true := by simp; omega
    have hx : x1 = sl (up p) := by
      rcases hx1 with h | ⟨h, h2⟩
      · exact h
      · subst h2; simp at hpl; omega
    subst hx
    simp only [letO_some, cellsOf?_agg, cellsOf?_int, cellsOf?_bool, cellsOf?_imm, cellsOf?_ref, cellsOf?_nils, faddr_iptr, faddr_ptr, List.drop_succ_cons, List.drop_zero, List.take_succ_cons, List.take_zero, load1_iptr, loadN_iptr, List.length_cons, List.length_nil, Nat.le_refl, if_true, List.getElem?_cons_zero, List.getElem?_cons_succ, List.getD_cons_zero, List.getD_cons_succ, extrF_tup, binF_add, binF_sub, binF_mul, binF_eql, binF_neq, binF_lss, binF_leq, binF_gtr, binF_geq, true_and, (Reads.sl H (up p)).len, up_length, hv.len, e1, condA_tt, callA_fn]
    refine hvis done H p w l (by omega) hpre hI _ (fun H' hI' => ?_) (fun H' hS => ?_)
    · try simp only [letO_some]
      exact endK_ret (hk _ hI')
    · try simp only [letO_some]
      exact endK_ret (hs _ hS)
  | succ f ih =>
    intro p w l x1 done H K hpl hx1 hw hw2 hpre hI hk hs
    apply W94_ok
    unfold W94
    have e1 : (((p.length : Nat) : Int) == ((t.length : Nat) : Int)) = false := by rw [beq_eq_false_iff_ne]; omega
    have hlen1 := (hrd (H := H) hx1).len
    rw [up_length] at hlen1
    have hw9 : w ≤ 6561 := by
      have : (9 : Int) ^ p.length ≤ 9 ^ 4 := by
        have hp : p.length = 0 ∨ p.length = 1 ∨ p.length = 2 ∨ p.length = 3 := by omega
        rcases hp with h | h | h | h <;> rw [h] <;> decide
      have e : (9 : Int) ^ 4 = 6561 := by decide
      omega
    simp only [letO_some, cellsOf?_agg, cellsOf?_int, cellsOf?_bool, cellsOf?_imm, cellsOf?_ref, cellsOf?_nils, faddr_iptr, faddr_ptr, List.drop_succ_cons, List.drop_zero, List.take_succ_cons, List.take_zero, load1_iptr, loadN_iptr, List.length_cons, List.length_nil, Nat.le_refl, if_true, List.getElem?_cons_zero, List.getElem?_cons_succ, List.getD_cons_zero, List.getD_cons_succ, extrF_tup, binF_add, binF_sub, binF_mul, binF_eql, binF_neq, binF_lss, binF_leq, binF_gtr, binF_geq, true_and, hlen1, hv.len, e1, condA_ff]
    refine hv.get (hle _ _ hI) (by omega) (by omega) fun a ha => ?_
    rw [Int.toNat_natCast] at ha
    have hrl : (t.getD p.length []).length = t.length := row_len hc (by omega)
    simp only [ha.len, hrl, letO_some]
    -- the columns
    let seg (c : Nat) : List Vis := if 0 < cell t p.length c ∧ c ∉ p then wk t f (p ++ [c]) (w * cell t p.length c) (if cell t p.length c < l then cell t p.length c else l) else []
    have hwk : wk t (f + 1) p w l = (List.range t.length).flatMap seg := rfl
    have hseg : ∀ c, c < t.length → (List.range (c + 1)).flatMap seg = (List.range c).flatMap seg ++ seg c := fun c _ => by simp [List.range_succ]
    have hpr : ∀ c, c ≤ t.length → (done ++ (List.range c).flatMap seg) <+: (done ++ wk t (f + 1) p w l) := by
      intro c hcn
      rw [hwk, List.prefix_append_right_inj]
      have hmono : ∀ d, (List.range c).flatMap seg <+: (List.range (c + d)).flatMap seg := by
        intro d
        induction d with
        | zero => exact List.prefix_refl _
        | succ d ihd =>
          rw [← Nat.add_assoc, List.range_succ, List.flatMap_append]
          exact ihd.trans (List.prefix_append _ _)
      have := hmono (t.length - c)
      rwa [show c + (t.length - c) = t.length by omega] at this
    refine ⟨fun L H' => ∃ c : Nat, eqt L [.int .i64 c] ∧ c ≤ t.length ∧ Inv (done ++ (List.range c).flatMap seg) H', fun L _ => (t.length - iv L 0).toNat, ⟨0, rfl, by omega, by simpa using hI⟩, ?_⟩
    rintro L H' ⟨c, rfl, hcn, hI'⟩
    simp only [letO_some, cellsOf?_agg, cellsOf?_int, cellsOf?_bool, cellsOf?_imm, cellsOf?_ref, cellsOf?_nils, faddr_iptr, faddr_ptr, List.drop_succ_cons, List.drop_zero, List.take_succ_cons, List.take_zero, load1_iptr, loadN_iptr, List.length_cons, List.length_nil, Nat.le_refl, if_true, List.getElem?_cons_zero, List.getElem?_cons_succ, List.getD_cons_zero, List.getD_cons_succ, extrF_tup, binF_add, binF_sub, binF_mul, binF_eql, binF_neq, binF_lss, binF_leq, binF_gtr, binF_geq, true_and]
    refine condA_t (fun hlt => ?_) (fun hge => ?_)
    · have hc' : c < t.length := by omega
      have hH' := hle _ _ hI'
      refine ha.get hH' (by omega) (by rw [hrl]; omega) ?_
      rw [Int.toNat_natCast]
      have hcell : (t.getD p.length []).getD c 0 = cell t p.length c := rfl
      rw [hcell]
      have hrng := cell_rng hc p.length c
      have hnext : ∀ H'', Inv (done ++ (List.range (c + 1)).flatMap seg) H'' → (∃ c' : Nat, eqt [AV.int .i64 (IntKind.i64.wrap ((c : Int) + 1))] [.int .i64 c'] ∧ c' ≤ t.length ∧ Inv (done ++ (List.range c').flatMap seg) H'') ∧
          (t.length - iv [AV.int .i64 (IntKind.i64.wrap ((c : Int) + 1))] 0).toNat < (t.length - iv [AV.int .i64 (c : Int)] 0).toNat := by
        intro H'' h
        rw [wrap_i64 (by omega) (by omega)]
        exact ⟨⟨c + 1, rfl, by omega, h⟩, by simp <;> omega⟩
      have hskip : seg c = [] → Inv (done ++ (List.range (c + 1)).flatMap seg) H' := by
        intro h
        rw [hseg c hc', h, List.append_nil]; exact hI'
      by_cases hpos : 0 < cell t p.length c
      · have d1 : decide (0 < cell t p.length c) = true := decide_eq_true hpos
        simp only [letO_some, cellsOf?_agg, cellsOf?_int, cellsOf?_bool, cellsOf?_imm, cellsOf?_ref, cellsOf?_nils, faddr_iptr, faddr_ptr, List.drop_succ_cons, List.drop_zero, List.take_succ_cons, List.take_zero, load1_iptr, loadN_iptr, List.length_cons, List.length_nil, Nat.le_refl, if_true, List.getElem?_cons_zero, List.getElem?_cons_succ, List.getD_cons_zero, List.getD_cons_succ, extrF_tup, binF_add, binF_sub, binF_mul, binF_eql, binF_neq, binF_lss, binF_leq, binF_gtr, binF_geq, true_and, d1, gval_bool, Int.reduceBNe, Int.reduceBEq, pickF_true, pickF_false, reduceIte, Bool.true_eq_false, Bool.false_eq_true, if_false, condA_tt, condA_ff, condG_tt, condG_ff, condG_tt', condG_ff', condG_undef, gval_undef]
        refine exJ ?_
        refine c62 (hrd hx1) (by rw [up_length]; omega) ?_
        have hmem : ((c : Int) ∈ up p) ↔ c ∈ p := by
          simp only [up, List.mem_map]
          constructor
          · rintro ⟨y, h1, h2⟩
            have : y = c := by omega
            subst this; exact h1
          · intro h; exact ⟨c, h, rfl⟩
        by_cases hin : c ∈ p
        · rw [decide_eq_true (hmem.2 hin)]
          simp only [letO_some, cellsOf?_agg, cellsOf?_int, cellsOf?_bool, cellsOf?_imm, cellsOf?_ref, cellsOf?_nils, faddr_iptr, faddr_ptr, List.drop_succ_cons, List.drop_zero, List.take_succ_cons, List.take_zero, load1_iptr, loadN_iptr, List.length_cons, List.length_nil, Nat.le_refl, if_true, List.getElem?_cons_zero, List.getElem?_cons_succ, List.getD_cons_zero, List.getD_cons_succ, extrF_tup, binF_add, binF_sub, binF_mul, binF_eql, binF_neq, binF_lss, binF_leq, binF_gtr, binF_geq, true_and, not_v, Bool.not_true, gval_bool, Int.reduceBNe, Int.reduceBEq, pickF_true, pickF_false, reduceIte, Bool.true_eq_false, Bool.false_eq_true, if_false, condA_tt, condA_ff, condG_tt, condG_ff, condG_tt', condG_ff', condG_undef, gval_undef]
          refine exU ?_
          try simp only [letO_some, cellsOf?_agg, cellsOf?_int, cellsOf?_bool, cellsOf?_imm, cellsOf?_ref, cellsOf?_nils, faddr_iptr, faddr_ptr, List.drop_succ_cons, List.drop_zero, List.take_succ_cons, List.take_zero, load1_iptr, loadN_iptr, List.length_cons, List.length_nil, Nat.le_refl, if_true, List.getElem?_cons_zero, List.getElem?_cons_succ, List.getD_cons_zero, List.getD_cons_succ, extrF_tup, binF_add, binF_sub, binF_mul, binF_eql, binF_neq, binF_lss, binF_leq, binF_gtr, binF_geq, true_and, gval_bool, Int.reduceBNe, Int.reduceBEq, pickF_true, pickF_false, reduceIte, Bool.true_eq_false, Bool.false_eq_true, if_false, condA_tt, condA_ff, condG_tt, condG_ff, condG_tt', condG_ff', condG_undef, gval_undef]
          refine exU ?_
          try simp only [letO_some, cellsOf?_agg, cellsOf?_int, cellsOf?_bool, cellsOf?_imm, cellsOf?_ref, cellsOf?_nils, faddr_iptr, faddr_ptr, List.drop_succ_cons, List.drop_zero, List.take_succ_cons, List.take_zero, load1_iptr, loadN_iptr, List.length_cons, List.length_nil, Nat.le_refl, if_true, List.getElem?_cons_zero, List.getElem?_cons_succ, List.getD_cons_zero, List.getD_cons_succ, extrF_tup, binF_add, binF_sub, binF_mul, binF_eql, binF_neq, binF_lss, binF_leq, binF_gtr, binF_geq, true_and, gval_bool, Int.reduceBNe, Int.reduceBEq, pickF_true, pickF_false, reduceIte, Bool.true_eq_false, Bool.false_eq_true, if_false, condA_tt, condA_ff, condG_tt, condG_ff, condG_tt', condG_ff', condG_undef, gval_undef]
          exact hnext _ (hskip (by simp only [seg]; rw [if_neg (by simp [hin])]))
        · rw [decide_eq_false (fun h => hin (hmem.1 h))]
          have hseg2 : seg c = wk t f (p ++ [c]) (w * cell t p.length c) (if cell t p.length c < l then cell t p.length c else l) := by
            simp only [seg]; rw [if_pos ⟨hpos, hin⟩]
          have hwc : 0 ≤ w * cell t p.length c := Int.mul_nonneg hw hrng.1
          have hwc2 : w * cell t p.length c ≤ w * 9 := Int.mul_le_mul_of_nonneg_left hrng.2 hw
          obtain ⟨s1, hs1, hgr⟩ : ∃ s1, slc 1 x1 none (some (.int .i64 (p.length : Int))) (some (.int .i64 (p.length : Int))) = some s1 ∧ isRef s1 = false ∧ Grow 1 H' H' s1 p.length (ints (up p)) := by
            rcases hx1 with rfl | ⟨rfl, rfl⟩
            · refine ⟨.imm p.length true (ints (up p)), ?_, rfl, Grow.imm (by simp)⟩
              have e : ∀ d, natOf (some (.int .i64 (p.length : Int))) d = some p.length := fun d => by simp [natOf]
              have e2 : natOf none 0 = some 0 := rfl
              simp only [slc, sl, e, e2, Option.bind_some, up_length]
              rw [if_pos ⟨by omega, by omega, by omega⟩]
              simp
              rw [List.take_of_length_le (by simp)]
            · exact ⟨.nils, rfl, rfl, Grow.nils 1 H'⟩
          have hmin : min2F (.int .i64 l) (.int .i64 (cell t p.length c)) = some (.int .i64 (if cell t p.length c < l then cell t p.length c else l)) := rfl
          have hN : loadN 2 (.iptr [v, .fn g caps]) Heap.none = some (.agg [v, .fn g caps]) := rfl
          simp only [letO_some, cellsOf?_agg, cellsOf?_int, cellsOf?_bool, cellsOf?_imm, cellsOf?_ref, cellsOf?_nils, faddr_iptr, faddr_ptr, List.drop_succ_cons, List.drop_zero, List.take_succ_cons, List.take_zero, load1_iptr, loadN_iptr, List.length_cons, List.length_nil, Nat.le_refl, if_true, List.getElem?_cons_zero, List.getElem?_cons_succ, List.getD_cons_zero, List.getD_cons_succ, extrF_tup, binF_add, binF_sub, binF_mul, binF_eql, binF_neq, binF_lss, binF_leq, binF_gtr, binF_geq, true_and, not_v, Bool.not_false, gval_bool, Int.reduceBNe, Int.reduceBEq, pickF_true, pickF_false, reduceIte, Bool.true_eq_false, Bool.false_eq_true, if_false, condA_tt, condA_ff, condG_tt, condG_ff, condG_tt', condG_ff', condG_undef, gval_undef, hs1, l23 cellsOf?_int, Option.map_some, hmin]
          rw [wrap_i64 (n := w * cell t p.length c) (by omega) (by omega)]
          refine ⟨fun r h => Grow 1 H' h r (p.length + 1) (ints (up p ++ [(c : Int)])) ∧ isOwn r, ?_, ?_⟩
          · exact ⟨hgr.1, appendA_oneR hgr.2 (by omega) fun v' H7 hg7 ho7 => ⟨hg7, ho7⟩⟩
          rintro t52 H12 ⟨hg12, ho12⟩
          obtain ⟨b, hb, rfl, rfl⟩ := hg12.own ho12
          have hup : up p ++ [(c : Int)] = up (p ++ [c]) := by simp [up]
          rw [hup]
          refine exJ ?_
          have hq : Pub (.tup [.agg [v, .fn g caps], .ref 1 b 0 (p.length + 1) none, .int .i64 (w * cell t p.length c), .int .i64 (if cell t p.length c < l then cell t p.length c else l)]) (H'.put b (ints (up (p ++ [c]))))
              (.tup [.agg [v, .fn g caps], sl (up (p ++ [c])), .int .i64 (w * cell t p.length c), .int .i64 (if cell t p.length c < l then cell t p.length c else l)]) H' := by
            have := Pub.freeze (r := .tup [.agg [v, .fn g caps], .ref 1 b 0 (p.length + 1) none, .int .i64 (w * cell t p.length c), .int .i64 (if cell t p.length c < l then cell t p.length c else l)]) (H := H'.put b (ints (up (p ++ [c])))) (b := b) (cells := ints (up (p ++ [c]))) Heap.put_same
            have f1 := frz_other (cells := ints (up (p ++ [c]))) (hv.le hH') hb
            have f2 : frz1 b (ints (up (p ++ [c]))) (.ref 1 b 0 (p.length + 1) none) = sl (up (p ++ [c])) := frz_sl (by simp)
            have f3 : lift (lift (frz1 b (ints (up (p ++ [c]))))) (.tup [.agg [v, .fn g caps], .ref 1 b 0 (p.length + 1) none, .int .i64 (w * cell t p.length c), .int .i64 (if cell t p.length c < l then cell t p.length c else l)]) =
                .tup [.agg [v, .fn g caps], sl (up (p ++ [c])), .int .i64 (w * cell t p.length c), .int .i64 (if cell t p.length c < l then cell t p.length c else l)] := by
              simp only [lift, List.map, f1, f2]
              rfl
            rwa [f3, Heap.put_del hb] at this
          refine ACalls.pubArgs hq ?_
          have hpre2 : (done ++ (List.range (c + 1)).flatMap seg) <+: All := (hpr (c + 1) (by omega)).trans hpre
          rw [hseg c hc', hseg2, ← List.append_assoc] at hpre2
          have hpow : w * cell t p.length c ≤ 9 ^ (p ++ [c]).length := by
            rw [List.length_append, List.length_singleton, Int.pow_succ]
            have : w * 9 ≤ 9 ^ p.length * 9 := by omega
            omega
          refine ih (p ++ [c]) _ _ _ (done ++ (List.range c).flatMap seg) H' _ (by simp; omega) (.inl rfl) hwc hpow hpre2 hI' (fun H'' hI'' => ?_) (fun H'' hS => ?_)
          · simp only [letO_some, cellsOf?_agg, cellsOf?_int, cellsOf?_bool, cellsOf?_imm, cellsOf?_ref, cellsOf?_nils, faddr_iptr, faddr_ptr, List.drop_succ_cons, List.drop_zero, List.take_succ_cons, List.take_zero, load1_iptr, loadN_iptr, List.length_cons, List.length_nil, Nat.le_refl, if_true, List.getElem?_cons_zero, List.getElem?_cons_succ, List.getD_cons_zero, List.getD_cons_succ, extrF_tup, binF_add, binF_sub, binF_mul, binF_eql, binF_neq, binF_lss, binF_leq, binF_gtr, binF_geq, true_and, not_v, Bool.not_true, gval_bool, Int.reduceBNe, Int.reduceBEq, pickF_true, pickF_false, reduceIte, Bool.true_eq_false, Bool.false_eq_true, if_false, condA_tt, condA_ff, condG_tt, condG_ff, condG_tt', condG_ff', condG_undef, gval_undef]
            refine hnext _ ?_
            rw [hseg c hc', hseg2, ← List.append_assoc]
            exact hI''
          · simp only [letO_some, cellsOf?_agg, cellsOf?_int, cellsOf?_bool, cellsOf?_imm, cellsOf?_ref, cellsOf?_nils, faddr_iptr, faddr_ptr, List.drop_succ_cons, List.drop_zero, List.take_succ_cons, List.take_zero, load1_iptr, loadN_iptr, List.length_cons, List.length_nil, Nat.le_refl, if_true, List.getElem?_cons_zero, List.getElem?_cons_succ, List.getD_cons_zero, List.getD_cons_succ, extrF_tup, binF_add, binF_sub, binF_mul, binF_eql, binF_neq, binF_lss, binF_leq, binF_gtr, binF_geq, true_and, not_v, Bool.not_false, gval_bool, Int.reduceBNe, Int.reduceBEq, pickF_true, pickF_false, reduceIte, Bool.true_eq_false, Bool.false_eq_true, if_false, condA_tt, condA_ff, condG_tt, condG_ff, condG_tt', condG_ff', condG_undef, gval_undef]
            exact endK_ret (hs _ hS)
      · have d1 : decide (0 < cell t p.length c) = false := decide_eq_false hpos
        simp only [letO_some, cellsOf?_agg, cellsOf?_int, cellsOf?_bool, cellsOf?_imm, cellsOf?_ref, cellsOf?_nils, faddr_iptr, faddr_ptr, List.drop_succ_cons, List.drop_zero, List.take_succ_cons, List.take_zero, load1_iptr, loadN_iptr, List.length_cons, List.length_nil, Nat.le_refl, if_true, List.getElem?_cons_zero, List.getElem?_cons_succ, List.getD_cons_zero, List.getD_cons_succ, extrF_tup, binF_add, binF_sub, binF_mul, binF_eql, binF_neq, binF_lss, binF_leq, binF_gtr, binF_geq, true_and, d1, gval_bool, Int.reduceBNe, Int.reduceBEq, pickF_true, pickF_false, reduceIte, Bool.true_eq_false, Bool.false_eq_true, if_false, condA_tt, condA_ff, condG_tt, condG_ff, condG_tt', condG_ff', condG_undef, gval_undef]
        refine exU ?_
        try simp only [letO_some, cellsOf?_agg, cellsOf?_int, cellsOf?_bool, cellsOf?_imm, cellsOf?_ref, cellsOf?_nils, faddr_iptr, faddr_ptr, List.drop_succ_cons, List.drop_zero, List.take_succ_cons, List.take_zero, load1_iptr, loadN_iptr, List.length_cons, List.length_nil, Nat.le_refl, if_true, List.getElem?_cons_zero, List.getElem?_cons_succ, List.getD_cons_zero, List.getD_cons_succ, extrF_tup, binF_add, binF_sub, binF_mul, binF_eql, binF_neq, binF_lss, binF_leq, binF_gtr, binF_geq, true_and, gval_bool, Int.reduceBNe, Int.reduceBEq, pickF_true, pickF_false, reduceIte, Bool.true_eq_false, Bool.false_eq_true, if_false, condA_tt, condA_ff, condG_tt, condG_ff, condG_tt', condG_ff', condG_undef, gval_undef]
        refine exU ?_
        try simp only [letO_some, cellsOf?_agg, cellsOf?_int, cellsOf?_bool, cellsOf?_imm, cellsOf?_ref, cellsOf?_nils, faddr_iptr, faddr_ptr, List.drop_succ_cons, List.drop_zero, List.take_succ_cons, List.take_zero, load1_iptr, loadN_iptr, List.length_cons, List.length_nil, Nat.le_refl, if_true, List.getElem?_cons_zero, List.getElem?_cons_succ, List.getD_cons_zero, List.getD_cons_succ, extrF_tup, binF_add, binF_sub, binF_mul, binF_eql, binF_neq, binF_lss, binF_leq, binF_gtr, binF_geq, true_and, gval_bool, Int.reduceBNe, Int.reduceBEq, pickF_true, pickF_false, reduceIte, Bool.true_eq_false, Bool.false_eq_true, if_false, condA_tt, condA_ff, condG_tt, condG_ff, condG_tt', condG_ff', condG_undef, gval_undef]
        refine exU ?_
        try simp only [letO_some, cellsOf?_agg, cellsOf?_int, cellsOf?_bool, cellsOf?_imm, cellsOf?_ref, cellsOf?_nils, faddr_iptr, faddr_ptr, List.drop_succ_cons, List.drop_zero, List.take_succ_cons, List.take_zero, load1_iptr, loadN_iptr, List.length_cons, List.length_nil, Nat.le_refl, if_true, List.getElem?_cons_zero, List.getElem?_cons_succ, List.getD_cons_zero, List.getD_cons_succ, extrF_tup, binF_add, binF_sub, binF_mul, binF_eql, binF_neq, binF_lss, binF_leq, binF_gtr, binF_geq, true_and, gval_bool, Int.reduceBNe, Int.reduceBEq, pickF_true, pickF_false, reduceIte, Bool.true_eq_false, Bool.false_eq_true, if_false, condA_tt, condA_ff, condG_tt, condG_ff, condG_tt', condG_ff', condG_undef, gval_undef]
        exact hnext _ (hskip (by simp only [seg]; rw [if_neg (by simp [hpos])]))
    · have hct : c = t.length := by omega
      subst hct
      try simp only [letO_some, cellsOf?_agg, cellsOf?_int, cellsOf?_bool, cellsOf?_imm, cellsOf?_ref, cellsOf?_nils, faddr_iptr, faddr_ptr, List.drop_succ_cons, List.drop_zero, List.take_succ_cons, List.take_zero, load1_iptr, loadN_iptr, List.length_cons, List.length_nil, Nat.le_refl, if_true, List.getElem?_cons_zero, List.getElem?_cons_succ, List.getD_cons_zero, List.getD_cons_succ, extrF_tup, binF_add, binF_sub, binF_mul, binF_eql, binF_neq, binF_lss, binF_leq, binF_gtr, binF_geq, true_and]
      exact endK_ret (hk _ hI')
end Go.Proofs.YtbofkeoebnjjkaaDoor

namespace Go.Proofs.YtbofkeoebnjjkaaDoor
open Go.Av Tab
set_option linter.unusedVariables false
set_option linter.unusedSimpArgs false
set_option maxRecDepth 4000

theorem load_cell {b : Nat} {x : AV} {H : Heap} (h : H b = some [x]) : load1 (.ptr b 0) H = some x := load1_at h rfl
theorem self_cell {b : Nat} {x : AV} {H : Heap} (h : H b = some [x]) (hx : cellsOf? x = some [x]) (hs : isScalar x = true) : selfA 1 (.ptr b 0) x H :=
  ⟨[x], [x], h, hx, by simp [hs], rfl, by simp, by simp⟩
def firstV (t : Tb) : AV := match wkAll t with
  | [] => .nils
  | x :: _ => sl (up x.1)
def firstL (t : Tb) : Int := match wkAll t with
  | [] => 0
  | x :: _ => x.2.2
/-- first -/
theorem c73 {v : AV} {t : Tbl} {H : Heap} {K : AV → Heap → Prop} (hc : chkT t = 0) (hv : RT H v t) (hk : K (.tup [firstV t, .int .i64 (firstL t)]) H) : ACalls Tryd.prog 73 [v] H K := by
  apply W73_ok
  unfold W73
  obtain ⟨n1, n2, hrows⟩ := chkT_ok hc
  intro b2 hb2 b3 hb3
  have hle2 := Heap.le_new (c := [.nils]) hb2
  have h2 : (H.put b2 [.nils]) b2 = some [.nils] := Heap.put_same
  generalize H.put b2 [.nils] = H1 at *
  have hle3 := Heap.le_new (c := [.int .i64 0]) hb3
  have h23 := hle3 _ _ h2
  have h3 : (H1.put b3 [.int .i64 0]) b3 = some [.int .i64 0] := Heap.put_same
  have hne : b2 ≠ b3 := by rintro rfl; rw [h2] at hb3; cases hb3
  have hfr2 : H b2 = none := hb2
  have hfr3 : H b3 = none := none_of_le hle2 hb3
  generalize H1.put b3 [.int .i64 0] = H2 at *
  have hHH := Heap.le_trans hle2 hle3
  simp only [letO_some, b113 hv.cells cellsOf?_fn]
  have fin : ∀ (x : AV) (n : Int) (H' : Heap), H.le H' → H' b2 = some [x] → H' b3 = some [.int .i64 n] → cellsOf? x = some [x] → isScalar x = true → K (.tup [x, .int .i64 n]) H →
      (letO (load1 (.ptr b2 0) H') fun t8 => letO (load1 (.ptr b3 0) H') fun t9 => selfA 1 (.ptr b2 0) t8 H' ∧ selfA 1 (.ptr b3 0) t9 H' ∧ letO (load1 (.ptr b2 0) H') fun r4 => letO (load1 (.ptr b3 0) H') fun r5 => endK (.tup [r4, r5]) H' K) := by
    intro x n H' hl h1 h2 hx hs hK
    simp only [load_cell h1, load_cell h2, letO_some]
    exact ⟨self_cell h1 hx hs, self_cell h2 rfl rfl, endK_drop hl hK⟩
  refine c94 (Hs := H) hc hv (fun done H' => done = [] ∧ H.le H' ∧ H' b2 = some [.nils] ∧ H' b3 = some [.int .i64 0]) (fun H' => H.le H' ∧ H' b2 = some [firstV t] ∧ H' b3 = some [.int .i64 (firstL t)] ∧ wkAll t ≠ []) (wkAll t) (fun done H' h => h.2.1) (fun done H' p w l hp hpre hI K' _ hs => ?_)
    t.length [] 1 9 .nils [] H2 _ (by simp) (.inr ⟨rfl, rfl⟩) (by omega) (by simp) (by rw [List.nil_append]; exact List.prefix_refl _) ⟨rfl, hHH, h23, h3⟩ (fun H' hI => ?_) (fun H' hS => ?_)
  · obtain ⟨rfl, hl, hb2', hb3'⟩ := hI
    rw [List.nil_append] at hpre
    obtain ⟨r, hr⟩ := hpre
    have hfv : firstV t = sl (up p) := by rw [firstV, ← hr]; rfl
    have hfl : firstL t = l := by rw [firstL, ← hr]; rfl
    apply W101_ok
    unfold W101
    simp only [letO_some]
    refine storeA_of (cs := [sl (up p)]) hb2' rfl rfl rfl (by simp) ?_
    have e1 : splice [AV.nils] 0 [sl (up p)] = [sl (up p)] := rfl
    rw [e1]
    refine storeA_of (cs := [.int .i64 l]) (by rw [Heap.put_ne (Ne.symm hne)]; exact hb3') rfl rfl rfl (by simp) ?_
    have e2 : splice [AV.int .i64 0] 0 [.int .i64 l] = [.int .i64 l] := rfl
    rw [e2]
    refine endK_ret (hs _ ⟨?_, ?_, ?_, ?_⟩)
    · intro x c hx
      have n2 : x ≠ b2 := by rintro rfl; rw [hfr2] at hx; cases hx
      have n3 : x ≠ b3 := by rintro rfl; rw [hfr3] at hx; cases hx
      rw [Heap.put_ne n3, Heap.put_ne n2]; exact hl _ _ hx
    · rw [Heap.put_ne hne, hfv]; exact Heap.put_same
    · rw [hfl]; exact Heap.put_same
    · rw [← hr]; simp
  · obtain ⟨h1, hl, hb2', hb3'⟩ := hI
    rw [List.nil_append] at h1
    have hw : wkAll t = [] := h1
    have hfv : firstV t = .nils := by rw [firstV, hw]
    have hfl : firstL t = 0 := by rw [firstL, hw]
    rw [hfv, hfl] at hk
    simp only [true_and]
    exact fin _ _ _ hl hb2' hb3' rfl rfl hk
  · obtain ⟨hl, hb2', hb3', hne'⟩ := hS
    simp only [true_and]
    refine fin _ _ _ hl hb2' hb3' ?_ ?_ hk
    · unfold firstV; split <;> rfl
    · unfold firstV; split <;> rfl

theorem wk_len {t : Tb} : ∀ (f : Nat) (p : List Nat) (w l : Int), (wk t f p w l).length ≤ t.length ^ f
  | 0, p, w, l => by simp [wk]
  | f + 1, p, w, l => by
    have key : ∀ m (g : Nat → List Vis), (∀ c, (g c).length ≤ t.length ^ f) → ((List.range m).flatMap g).length ≤ m * t.length ^ f := by
      intro m g hg
      induction m with
      | zero => simp
      | succ m ih =>
        rw [List.range_succ, List.flatMap_append, List.length_append, Nat.add_mul, Nat.one_mul]
        have := hg m
        simp only [List.flatMap_cons, List.flatMap_nil, List.append_nil]
        omega
    rw [Nat.pow_succ, Nat.mul_comm]
    refine key _ _ fun c => ?_
    split
    · exact wk_len f _ _ _
    · simp
theorem pow_le4 {n f : Nat} (h1 : n ≤ 4) (h2 : f ≤ 4) : n ^ f ≤ 256 := by
  have a : n ^ f ≤ 4 ^ f := Nat.pow_le_pow_left h1 f
  have b : 4 ^ f ≤ 4 ^ 4 := Nat.pow_le_pow_right (by omega) h2
  have : 4 ^ 4 = 256 := by decide
  omega
def sumW (l : List Vis) : Int := (l.map fun v => v.2.1).sum
theorem sumW_snoc (l : List Vis) (x : Vis) : sumW (l ++ [x]) = sumW l + x.2.1 := by simp [sumW]
theorem sumW_bd {l : List Vis} {B : Int} (hB : 0 ≤ B) (h : ∀ x ∈ l, 0 ≤ x.2.1 ∧ x.2.1 ≤ B) : 0 ≤ sumW l ∧ sumW l ≤ l.length * B := by
  induction l with
  | nil => simp [sumW]
  | cons a l ih =>
    have h1 := ih fun x hx => h x (by simp [hx])
    have h2 := h a (by simp)
    have e : sumW (a :: l) = a.2.1 + sumW l := by simp [sumW]
    have e2 : (((a :: l).length : Nat) : Int) * B = l.length * B + B := by rw [List.length_cons, Int.natCast_add, Int.add_mul]; simp
    rw [e, e2]; omega
theorem wkAll_bd {t : Tb} (hc : chkT t = 0) : (wkAll t).length ≤ 256 ∧ ∀ x ∈ wkAll t, 0 ≤ x.2.1 ∧ x.2.1 ≤ 6561 := by
  obtain ⟨n1, n2, hrows⟩ := chkT_ok hc
  refine ⟨Nat.le_trans (wk_len _ _ _ _) (pow_le4 n2 n2), fun x hx => ?_⟩
  have := (wk_mem hc _ _ _ _ x hx).2.1 1 (by omega) (by omega)
  have h9 : (1 : Int) * 9 ^ t.length ≤ 6561 := by
    have hp : t.length = 1 ∨ t.length = 2 ∨ t.length = 3 ∨ t.length = 4 := by omega
    rcases hp with h | h | h | h <;> rw [h] <;> decide
  omega
/-- counted -/
theorem c75 {v : AV} {t : Tbl} {H : Heap} {K : AV → Heap → Prop} (hv : RT H v t) (hl : t.length < 2 ^ 63) (hl2 : ∀ l ∈ t, l.length < 2 ^ 63) (hk : K (.tup [.int .i64 (countE t).1, .int .i64 (weightE t).1, .int .i64 (chkT t)]) H) : ACalls Tryd.prog 75 [v] H K := by
  apply W75_ok
  unfold W75
  intro b2 hb2 b3 hb3
  have hle2 := Heap.le_new (c := [.int .i64 0]) hb2
  have h2 : (H.put b2 [.int .i64 0]) b2 = some [.int .i64 0] := Heap.put_same
  generalize H.put b2 [.int .i64 0] = H1 at *
  have hle3 := Heap.le_new (c := [.int .i64 0]) hb3
  have h23 := hle3 _ _ h2
  have h3 : (H1.put b3 [.int .i64 0]) b3 = some [.int .i64 0] := Heap.put_same
  have hne : b2 ≠ b3 := by rintro rfl; rw [h2] at hb3; cases hb3
  have hfr2 : H b2 = none := hb2
  have hfr3 : H b3 = none := none_of_le hle2 hb3
  generalize H1.put b3 [.int .i64 0] = H2 at *
  have hHH := Heap.le_trans hle2 hle3
  simp only [letO_some]
  refine c30 (hv.le hHH) hl hl2 ?_
  simp only [letO_some, cellsOf?_agg, cellsOf?_int, cellsOf?_bool, cellsOf?_imm, cellsOf?_ref, cellsOf?_nils, faddr_iptr, faddr_ptr, List.drop_succ_cons, List.drop_zero, List.take_succ_cons, List.take_zero, load1_iptr, loadN_iptr, List.length_cons, List.length_nil, Nat.le_refl, if_true, List.getElem?_cons_zero, List.getElem?_cons_succ, List.getD_cons_zero, List.getD_cons_succ, extrF_tup, binF_add, binF_sub, binF_mul, binF_eql, binF_neq, binF_lss, binF_leq, binF_gtr, binF_geq, true_and]
  have two : ∀ {H' : Heap} {x y x' y' : AV}, H.le H' → H.le ((H'.put b2 [x]).put b3 [y]) := by
    intro H' x y x' y' hl z c hx
    have n2 : z ≠ b2 := by rintro rfl; rw [hfr2] at hx; cases hx
    have n3 : z ≠ b3 := by rintro rfl; rw [hfr3] at hx; cases hx
    rw [Heap.put_ne n3, Heap.put_ne n2]; exact hl _ _ hx
  by_cases hc : chkT t = 0
  · have e1 : (chkT t != 0) = false := by rw [hc]; rfl
    simp only [e1, condA_ff, b113 hv.cells cellsOf?_fn, letO_some]
    obtain ⟨n1, n2, hrows⟩ := chkT_ok hc
    obtain ⟨hlen, hw⟩ := wkAll_bd hc
    refine c94 (Hs := H) hc hv (fun done H' => H.le H' ∧ H' b2 = some [.int .i64 done.length] ∧ H' b3 = some [.int .i64 (sumW done)]) (fun H' => False) (wkAll t) (fun done H' h => h.1) (fun done H' p w l hp hpre hI K' hkk _ => ?_)
      t.length [] 1 9 .nils [] H2 _ (by simp) (.inr ⟨rfl, rfl⟩) (by omega) (by simp) (by rw [List.nil_append]; exact List.prefix_refl _) ⟨hHH, h23, h3⟩ (fun H' hI => ?_) (fun H' hS => hS.elim)
    · obtain ⟨hl', hb2', hb3'⟩ := hI
      have hpl := hpre.length_le
      rw [List.length_append, List.length_singleton] at hpl
      have hmem : ∀ x ∈ done ++ [(p, w, l)], 0 ≤ x.2.1 ∧ x.2.1 ≤ 6561 := fun x hx => hw x (hpre.subset hx)
      have hw1 := hmem (p, w, l) (by simp)
      have hsd := sumW_bd (l := done) (B := 6561) (by omega) fun x hx => hmem x (by simp [hx])
      have hdl : (done.length : Int) * 6561 ≤ 256 * 6561 := by omega
      simp only at hw1
      apply W102_ok
      unfold W102
      simp only [letO_some, load_cell hb2', binF_add]
      rw [wrap_i64 (by omega) (by omega)]
      refine storeA_of (cs := [.int .i64 ((done.length : Int) + 1)]) hb2' rfl rfl rfl (by simp) ?_
      have e1 : splice [AV.int .i64 (done.length : Int)] 0 [.int .i64 ((done.length : Int) + 1)] = [.int .i64 ((done.length : Int) + 1)] := rfl
      rw [e1]
      have hb3'' : (H'.put b2 [.int .i64 ((done.length : Int) + 1)]) b3 = some [.int .i64 (sumW done)] := by rw [Heap.put_ne (Ne.symm hne)]; exact hb3'
      simp only [letO_some, load_cell hb3'', binF_add]
      rw [wrap_i64 (by omega) (by omega)]
      refine storeA_of (cs := [.int .i64 (sumW done + w)]) hb3'' rfl rfl rfl (by simp) ?_
      have e2 : splice [AV.int .i64 (sumW done)] 0 [.int .i64 (sumW done + w)] = [.int .i64 (sumW done + w)] := rfl
      rw [e2]
      refine endK_ret (hkk _ ⟨two (x' := .any) (y' := .any) hl', ?_, ?_⟩)
      · rw [Heap.put_ne hne, Heap.put_same, List.length_append, List.length_singleton]; rfl
      · rw [Heap.put_same, sumW_snoc]
    · obtain ⟨hl', hb2', hb3'⟩ := hI
      rw [List.nil_append] at hb2' hb3'
      simp only [true_and, letO_some, load_cell hb2', load_cell hb3']
      refine ⟨self_cell hb2' rfl rfl, self_cell hb3' rfl rfl, endK_drop hl' ?_⟩
      rw [countE, if_neg (by simp [hc]), weightE, if_neg (by simp [hc]), hc] at hk
      exact hk
  · have e1 : (chkT t != 0) = true := by simp [hc]
    simp only [e1, condA_tt, letO_some]
    rw [countE, if_pos hc, weightE, if_pos hc] at hk
    refine storeA_of (cs := [.int .i64 0]) h23 rfl rfl rfl (by simp) ?_
    have e2 : splice [AV.int .i64 0] 0 [.int .i64 0] = [.int .i64 0] := rfl
    rw [e2]
    refine storeA_of (cs := [.int .i64 0]) (by rw [Heap.put_ne (Ne.symm hne)]; exact h3) rfl rfl rfl (by simp) ?_
    rw [e2]
    have q2 : ((H2.put b2 [.int .i64 0]).put b3 [.int .i64 0]) b2 = some [.int .i64 0] := by rw [Heap.put_ne hne]; exact Heap.put_same
    have q3 : ((H2.put b2 [.int .i64 0]).put b3 [.int .i64 0]) b3 = some [.int .i64 0] := Heap.put_same
    simp only [load_cell q2, load_cell q3, letO_some]
    exact endK_drop (two (x' := .any) (y' := .any) hHH) hk

/-- First: plan and error -/
theorem c20 {v : AV} {t : Tbl} {H : Heap} {K : AV → Heap → Prop} (hv : RT H v t) (hl : t.length < 2 ^ 63) (hl2 : ∀ l ∈ t, l.length < 2 ^ 63)
    (hk : K (.tup [sl (if chkT t ≠ 0 then [] else match wkAll t with | [] => [] | x :: _ => up x.1), .int .i64 (if chkT t ≠ 0 then chkT t else if wkAll t = [] then 12 else 0)]) H) : ACalls Tryd.prog 20 [v] H K := by
  apply W20_ok
  unfold W20
  simp only [letO_some, cellsOf?_agg, cellsOf?_int, cellsOf?_bool, cellsOf?_imm, cellsOf?_ref, cellsOf?_nils, faddr_iptr, faddr_ptr, List.drop_succ_cons, List.drop_zero, List.take_succ_cons, List.take_zero, load1_iptr, loadN_iptr, List.length_cons, List.length_nil, Nat.le_refl, if_true, List.getElem?_cons_zero, List.getElem?_cons_succ, List.getD_cons_zero, List.getD_cons_succ, extrF_tup, binF_add, binF_sub, binF_mul, binF_eql, binF_neq, binF_lss, binF_leq, binF_gtr, binF_geq, true_and]
  refine c30 hv hl hl2 ?_
  simp only [letO_some, cellsOf?_agg, cellsOf?_int, cellsOf?_bool, cellsOf?_imm, cellsOf?_ref, cellsOf?_nils, faddr_iptr, faddr_ptr, List.drop_succ_cons, List.drop_zero, List.take_succ_cons, List.take_zero, load1_iptr, loadN_iptr, List.length_cons, List.length_nil, Nat.le_refl, if_true, List.getElem?_cons_zero, List.getElem?_cons_succ, List.getD_cons_zero, List.getD_cons_succ, extrF_tup, binF_add, binF_sub, binF_mul, binF_eql, binF_neq, binF_lss, binF_leq, binF_gtr, binF_geq, true_and]
  have hnil : ∀ e : Int, K (.tup [sl [], .int .i64 e]) H → endK (.tup [.nils, .int .i64 e]) H K := fun e h => endK_weak (endK_ret h)
  by_cases hc : chkT t = 0
  · have e1 : (chkT t != 0) = false := by rw [hc]; rfl
    simp only [e1, condA_ff]
    refine c73 hc hv ?_
    rw [if_neg (by simp [hc]), if_neg (by simp [hc])] at hk
    obtain ⟨n1, n2, hrows⟩ := chkT_ok hc
    have hu : ∃ e, Tryd.prog.underlying 23 = some (.slice e) := ⟨3, by kernel_rfl⟩
    obtain ⟨e, hu⟩ := hu
    cases hw : wkAll t with
    | nil =>
      have hfv : firstV t = .nils := by rw [firstV, hw]
      have en : binF Tryd.prog .eql 23 .nils .nils = some (.bool true) := by simp [binF, eqF, hu]
      rw [hw] at hk
      simp only [letO_some, cellsOf?_agg, cellsOf?_int, cellsOf?_bool, cellsOf?_imm, cellsOf?_ref, cellsOf?_nils, faddr_iptr, faddr_ptr, List.drop_succ_cons, List.drop_zero, List.take_succ_cons, List.take_zero, load1_iptr, loadN_iptr, List.length_cons, List.length_nil, Nat.le_refl, if_true, List.getElem?_cons_zero, List.getElem?_cons_succ, List.getD_cons_zero, List.getD_cons_succ, extrF_tup, binF_add, binF_sub, binF_mul, binF_eql, binF_neq, binF_lss, binF_leq, binF_gtr, binF_geq, true_and, hfv, en, condA_tt]
      exact hnil _ hk
    | cons x r =>
      have hfv : firstV t = sl (up x.1) := by rw [firstV, hw]
      have hxl := (wk_mem hc t.length [] 1 9 x (by have : x ∈ wkAll t := by rw [hw]; simp
                                                   exact this)).1
      have en : binF Tryd.prog .eql 23 (sl (up x.1)) .nils = some (.bool false) := by
        cases hx1 : x.1 with
        | nil => rw [hx1] at hxl; simp at hxl; omega
        | cons a b => simp [binF, eqF, hu, sl, up, ints]
      rw [hw] at hk
      simp only [letO_some, cellsOf?_agg, cellsOf?_int, cellsOf?_bool, cellsOf?_imm, cellsOf?_ref, cellsOf?_nils, faddr_iptr, faddr_ptr, List.drop_succ_cons, List.drop_zero, List.take_succ_cons, List.take_zero, load1_iptr, loadN_iptr, List.length_cons, List.length_nil, Nat.le_refl, if_true, List.getElem?_cons_zero, List.getElem?_cons_succ, List.getD_cons_zero, List.getD_cons_succ, extrF_tup, binF_add, binF_sub, binF_mul, binF_eql, binF_neq, binF_lss, binF_leq, binF_gtr, binF_geq, true_and, hfv, en, condA_ff]
      rw [if_neg (by simp)] at hk
      exact endK_ret hk
  · have e1 : (chkT t != 0) = true := by simp [hc]
    simp only [e1, condA_tt]
    rw [if_pos hc, if_pos hc] at hk
    exact hnil _ hk
/-- Count -/
theorem c22 {v : AV} {t : Tbl} {H : Heap} {K : AV → Heap → Prop} (hv : RT H v t) (hl : t.length < 2 ^ 63) (hl2 : ∀ l ∈ t, l.length < 2 ^ 63) (hk : K (.tup [.int .i64 (countE t).1, .int .i64 (chkT t)]) H) : ACalls Tryd.prog 22 [v] H K := by
  apply W22_ok
  unfold W22
  simp only [letO_some, cellsOf?_agg, cellsOf?_int, cellsOf?_bool, cellsOf?_imm, cellsOf?_ref, cellsOf?_nils, faddr_iptr, faddr_ptr, List.drop_succ_cons, List.drop_zero, List.take_succ_cons, List.take_zero, load1_iptr, loadN_iptr, List.length_cons, List.length_nil, Nat.le_refl, if_true, List.getElem?_cons_zero, List.getElem?_cons_succ, List.getD_cons_zero, List.getD_cons_succ, extrF_tup, binF_add, binF_sub, binF_mul, binF_eql, binF_neq, binF_lss, binF_leq, binF_gtr, binF_geq, true_and]
  refine c75 hv hl hl2 ?_
  simp only [letO_some, cellsOf?_agg, cellsOf?_int, cellsOf?_bool, cellsOf?_imm, cellsOf?_ref, cellsOf?_nils, faddr_iptr, faddr_ptr, List.drop_succ_cons, List.drop_zero, List.take_succ_cons, List.take_zero, load1_iptr, loadN_iptr, List.length_cons, List.length_nil, Nat.le_refl, if_true, List.getElem?_cons_zero, List.getElem?_cons_succ, List.getD_cons_zero, List.getD_cons_succ, extrF_tup, binF_add, binF_sub, binF_mul, binF_eql, binF_neq, binF_lss, binF_leq, binF_gtr, binF_geq, true_and]
  exact endK_ret hk
/-- Weight -/
theorem c25 {v : AV} {t : Tbl} {H : Heap} {K : AV → Heap → Prop} (hv : RT H v t) (hl : t.length < 2 ^ 63) (hl2 : ∀ l ∈ t, l.length < 2 ^ 63) (hk : K (.tup [.int .i64 (weightE t).1, .int .i64 (chkT t)]) H) : ACalls Tryd.prog 25 [v] H K := by
  apply W25_ok
  unfold W25
  simp only [letO_some, cellsOf?_agg, cellsOf?_int, cellsOf?_bool, cellsOf?_imm, cellsOf?_ref, cellsOf?_nils, faddr_iptr, faddr_ptr, List.drop_succ_cons, List.drop_zero, List.take_succ_cons, List.take_zero, load1_iptr, loadN_iptr, List.length_cons, List.length_nil, Nat.le_refl, if_true, List.getElem?_cons_zero, List.getElem?_cons_succ, List.getD_cons_zero, List.getD_cons_succ, extrF_tup, binF_add, binF_sub, binF_mul, binF_eql, binF_neq, binF_lss, binF_leq, binF_gtr, binF_geq, true_and]
  refine c75 hv hl hl2 ?_
  simp only [letO_some, cellsOf?_agg, cellsOf?_int, cellsOf?_bool, cellsOf?_imm, cellsOf?_ref, cellsOf?_nils, faddr_iptr, faddr_ptr, List.drop_succ_cons, List.drop_zero, List.take_succ_cons, List.take_zero, load1_iptr, loadN_iptr, List.length_cons, List.length_nil, Nat.le_refl, if_true, List.getElem?_cons_zero, List.getElem?_cons_succ, List.getD_cons_zero, List.getD_cons_succ, extrF_tup, binF_add, binF_sub, binF_mul, binF_eql, binF_neq, binF_lss, binF_leq, binF_gtr, binF_geq, true_and]
  exact endK_ret hk
end Go.Proofs.YtbofkeoebnjjkaaDoor

namespace Go.Proofs.YtbofkeoebnjjkaaDoor
open Go.Av Tab
set_option linter.unusedVariables false
set_option linter.unusedSimpArgs false
set_option maxRecDepth 4000

/-- A list of lists of one's own: a block of rows, each nothing or a block. -/
structure PT (H0 H : Heap) (bo : Nat) (cells : List AV) (t : Tbl) : Prop where
  le : H0.le H
  fo : H0 bo = none
  out : H bo = some cells
  len : cells.length = t.length
  row : ∀ k, k < t.length → (cells[k]? = some .nils ∧ t.getD k [] = []) ∨ ∃ b cp, cells[k]? = some (.ref 1 b 0 (t.getD k []).length cp) ∧ H b = some (ints (t.getD k [])) ∧ H0 b = none ∧ b ≠ bo
  dis : ∀ (j k bj bk nj nk : Nat) (cj ck : Option Nat), j ≠ k → cells[j]? = some (AV.ref 1 bj 0 nj cj) → cells[k]? = some (AV.ref 1 bk 0 nk ck) → bj ≠ bk
theorem PT.rt {H0 H : Heap} {bo : Nat} {cells : List AV} {t : Tbl} (h : PT H0 H bo cells t) (cp : Option Nat) : RT H (.ref 1 bo 0 t.length cp) t := by
  refine ⟨cells, ⟨by rw [h.len, Nat.mul_one], rfl, rfl, cells, h.out, by rw [h.len]; omega, by rw [List.drop_zero, List.take_of_length_le (by rw [h.len]; omega)]⟩, fun r hr => ?_⟩
  rcases h.row r hr with ⟨h1, h2⟩ | ⟨b, cp, h1, h2, h3, h4⟩
  · exact ⟨_, h1, h2⟩
  · exact ⟨_, h1, rfl, rfl, _, h2, by simp, by rw [List.drop_zero, List.take_of_length_le (by simp)]⟩
theorem PT.scalars {H0 H : Heap} {bo : Nat} {cells : List AV} {t : Tbl} (h : PT H0 H bo cells t) : cells.all isScalar = true := by
  rw [List.all_eq_true]
  intro x hx
  obtain ⟨k, hk, rfl⟩ := List.getElem_of_mem hx
  have hk2 : k < t.length := by rw [← h.len]; exact hk
  rcases h.row k hk2 with ⟨h1, _⟩ | ⟨b, cp, h1, _⟩
  · rw [List.getElem?_eq_getElem hk] at h1
    rw [Option.some.inj h1]; rfl
  · rw [List.getElem?_eq_getElem hk] at h1
    rw [Option.some.inj h1]; rfl
theorem PT.pub {H0 H : Heap} {bo : Nat} {cells : List AV} {t : Tbl} (h : PT H0 H bo cells t) (cp : Option Nat) (d : Nat) : conv H0 H (d + 2) (.ref 1 bo 0 t.length cp) = tl t := by
  have e : conv H0 H (d + 2) (.ref 1 bo 0 t.length cp) = .imm t.length false (cells.map (conv H0 H (d + 1))) := by
    show (match H0 bo, H bo with
      | none, some cells => if 0 + t.length * 1 ≤ cells.length then AV.imm t.length false (((cells.drop 0).take (t.length * 1)).map (conv H0 H (d + 1))) else .ref 1 bo 0 t.length cp
      | _, _ => .ref 1 bo 0 t.length cp) = _
    rw [h.fo, h.out]
    simp only
    rw [if_pos (by rw [h.len]; omega), List.drop_zero, List.take_of_length_le (by rw [h.len]; omega)]
  rw [e, tl]
  congr 1
  refine List.ext_getElem? fun k => ?_
  rw [List.getElem?_map, List.getElem?_map]
  by_cases hk : k < t.length
  · have g1 : t[k]? = some (t.getD k []) := by simp [List.getD_eq_getElem?_getD, hk]
    rw [g1]
    rcases h.row k hk with ⟨h1, h2⟩ | ⟨b, cp', h1, h2, h3, h4⟩
    · rw [h1, h2]; rfl
    · rw [h1]
      simp only [Option.map_some]
      congr 1
      show (match H0 b, H b with
        | none, some cells => if 0 + (t.getD k []).length * 1 ≤ cells.length then AV.imm (t.getD k []).length false (((cells.drop 0).take ((t.getD k []).length * 1)).map (conv H0 H d)) else .ref 1 b 0 (t.getD k []).length cp'
        | _, _ => .ref 1 b 0 (t.getD k []).length cp') = _
      rw [h3, h2]
      simp only
      rw [if_pos (by simp), List.drop_zero, List.take_of_length_le (by simp), conv_ints]
      rfl
  · rw [List.getElem?_eq_none (by rw [h.len]; omega), List.getElem?_eq_none (by omega)]; rfl
theorem getT_set {t : Tbl} {c k : Nat} {l : List Int} (hc : c < t.length) : (t.set c l).getD k [] = if k = c then l else t.getD k [] := by
  rw [List.getD_eq_getElem?_getD, List.getD_eq_getElem?_getD, List.getElem?_set]
  by_cases h : c = k
  · subst h; simp [hc]
  · rw [if_neg h, if_neg (by omega)]
theorem splice_set {cells : List AV} {k : Nat} {x : AV} (hk : k < cells.length) : splice cells k [x] = cells.set k x := by
  unfold splice
  rw [List.set_eq_take_append_cons_drop, if_pos hk]
  simp
/-- A number is put behind a row. -/
theorem PT.append {H0 H : Heap} {bo : Nat} {cells : List AV} {t : Tbl} {c : Nat} {x : Int} {n : Nat} {cp : Option Nat} {K : Heap → Prop} (h : PT H0 H bo cells t) (hc : c < t.length) (hb : (t.getD c []).length < 1000000) (hcap : ∀ (b n : Nat) (cp : Option Nat), cells[c]? = some (AV.ref 1 b 0 n cp) → cp = none)
    (hn : n = t.length) (hk : ∀ H' v', PT H0 H' bo (cells.set c v') (t.set c (t.getD c [] ++ [x])) → (∀ (b n : Nat) (cp : Option Nat), v' = AV.ref 1 b 0 n cp → cp = none) → K H') :
    letO (idx 1 (.ref 1 bo 0 n cp) (.int .i64 (c : Int))) fun a => letO (load1 a H) fun v => appendA 1 8 v (.imm 1 true [.int .i64 x]) (fun v' H' => letO (idx 1 (.ref 1 bo 0 n cp) (.int .i64 (c : Int))) fun a => storeA 1 a v' K H') H := by
  subst hn
  have hcl : c < cells.length := by rw [h.len]; exact hc
  rw [idx_ref hc]
  simp only [letO_some]
  -- what is there, and where the new row lies
  have key : ∀ (v : AV) (Hx : Heap), cells[c]? = some v → Grow 1 Hx H v (t.getD c []).length (ints (t.getD c [])) → H0.le Hx → Hx bo = some cells → (∀ j b nj cj, j ≠ c → cells[j]? = some (.ref 1 b 0 nj cj) → Hx b = H b) →
      letO (load1 (.ptr bo (0 + c * 1)) H) fun v => appendA 1 8 v (.imm 1 true [.int .i64 x]) (fun v' H' => storeA 1 (.ptr bo (0 + c * 1)) v' K H') H := by
    intro v Hx hv hg hle hxo hoth
    rw [load1_at h.out (by rw [Nat.zero_add, Nat.mul_one]; exact hv)]
    simp only [letO_some]
    refine appendA_oneR hg (by omega) fun v' H' hg' ho' => ?_
    obtain ⟨b', hb', rfl, rfl⟩ := hg'.own ho'
    have hbo' : b' ≠ bo := by rintro rfl; rw [hxo] at hb'; cases hb'
    have hout : (Hx.put b' (ints (t.getD c [] ++ [x]))) bo = some cells := by rw [Heap.put_ne (Ne.symm hbo')]; exact hxo
    refine storeA_of (cs := [.ref 1 b' 0 ((t.getD c []).length + 1) none]) hout rfl rfl rfl (by simp; omega) ?_
    rw [Nat.zero_add, Nat.mul_one, splice_set hcl]
    have hH0b' : H0 b' = none := none_of_le hle hb'
    refine hk _ _ ⟨?_, h.fo, Heap.put_same, by simp [h.len], fun k hk' => ?_, fun j k bj bk nj nk cj ck hjk hj hk' => ?_⟩ (fun b n cp e => by cases e; rfl)
    · intro y z hy
      have y1 : y ≠ b' := by rintro rfl; rw [hH0b'] at hy; cases hy
      have y2 : y ≠ bo := by rintro rfl; rw [h.fo] at hy; cases hy
      rw [Heap.put_ne y2, Heap.put_ne y1]; exact hle _ _ hy
    · rw [List.length_set] at hk'
      rw [getT_set hc]
      by_cases hkc : k = c
      · subst hkc
        right
        refine ⟨b', none, by simp [hcl], ?_, hH0b', hbo'⟩
        rw [if_pos rfl, Heap.put_ne hbo']; exact Heap.put_same
      · rw [if_neg hkc, List.getElem?_set_ne (Ne.symm hkc)]
        rcases h.row k hk' with h1 | ⟨b, cp, h1, h2, h3, h4⟩
        · exact .inl h1
        · right
          have hxb := hoth k b _ _ hkc h1
          have hbb : b ≠ b' := by rintro rfl; rw [hxb, h2] at hb'; cases hb'
          exact ⟨b, cp, h1, by rw [Heap.put_ne h4, Heap.put_ne hbb, hxb]; exact h2, h3, h4⟩
    · by_cases hjc : j = c
      · subst hjc
        rw [List.getElem?_set_ne hjk] at hk'
        simp [hcl] at hj
        obtain ⟨rfl, _⟩ := hj
        have hkt : k < t.length := by
          have := (List.getElem?_eq_some_iff.1 hk').1
          rw [← h.len]; exact this
        rcases h.row k hkt with ⟨h1, _⟩ | ⟨b, cp, h1, h2, h3, h4⟩
        · rw [h1] at hk'; cases hk'
        · have hxb := hoth k b _ _ (Ne.symm hjk) h1
          rw [h1] at hk'
          cases hk'
          rintro rfl
          rw [hxb, h2] at hb'; cases hb'
      · rw [List.getElem?_set_ne (Ne.symm hjc)] at hj
        by_cases hkc : k = c
        · subst hkc
          simp [hcl] at hk'
          obtain ⟨rfl, _⟩ := hk'
          have hjt : j < t.length := by
            have := (List.getElem?_eq_some_iff.1 hj).1
            rw [← h.len]; exact this
          rcases h.row j hjt with ⟨h1, _⟩ | ⟨b, cp, h1, h2, h3, h4⟩
          · rw [h1] at hj; cases hj
          · have hxb := hoth j b _ _ hjc h1
            rw [h1] at hj
            cases hj
            rintro rfl
            rw [hxb, h2] at hb'; cases hb'
        · rw [List.getElem?_set_ne (Ne.symm hkc)] at hk'
          exact h.dis j k bj bk nj nk cj ck hjk hj hk'
  rcases h.row c hc with ⟨h1, h2⟩ | ⟨b, cp', h1, h2, h3, h4⟩
  · refine key .nils H h1 ?_ h.le h.out (fun _ _ _ _ _ _ => rfl)
    rw [h2]; exact Grow.nils 1 H
  · have hcp := hcap _ _ _ h1
    subst hcp
    have hd : (H.del b) b = none := by simp [Heap.del]
    have hput : H = (H.del b).put b (ints (t.getD c [])) := by
      rw [Heap.del_put]
      funext y
      simp only [Heap.put]
      split
      · rename_i e; rw [e, h2]
      · rfl
    have hg : Grow 1 (H.del b) H (.ref 1 b 0 (t.getD c []).length none) (t.getD c []).length (ints (t.getD c [])) := by
      have := Grow.ref (sz := 1) (H := H.del b) (b := b) (n := (t.getD c []).length) (cells := ints (t.getD c [])) hd (by simp)
      rwa [← hput] at this
    refine key _ (H.del b) h1 hg (fun y z hy => ?_) ?_ (fun j bj nj cj hj hjj => ?_)
    · have : y ≠ b := by rintro rfl; rw [h3] at hy; cases hy
      simp only [Heap.del, if_neg this]; exact h.le _ _ hy
    · simp only [Heap.del, if_neg (Ne.symm h4)]; exact h.out
    · have := h.dis j c bj b nj _ cj _ hj hjj h1
      simp only [Heap.del, if_neg this]

/-- Rows that are ready, one that is not, and none. -/
def prt (t : Tb) (c r : Nat) : Tb := (List.range t.length).map fun k => if k < c then (List.range t.length).map (fun r => cell t r k) else if k = c then (List.range r).map (fun r => cell t r k) else []
@[simp] theorem prt_length (t : Tb) (c r : Nat) : (prt t c r).length = t.length := by simp [prt]
theorem prt_get {t : Tb} {c r k : Nat} (hk : k < t.length) : (prt t c r).getD k [] = if k < c then (List.range t.length).map (fun r => cell t r k) else if k = c then (List.range r).map (fun r => cell t r k) else [] := by
  simp [prt, List.getD_eq_getElem?_getD, hk]
theorem ext_T {t u : Tb} (h : t.length = u.length) (h2 : ∀ k, k < t.length → t.getD k [] = u.getD k []) : t = u := by
  refine List.ext_getElem h fun k h3 h4 => ?_
  have := h2 k h3
  simpa [List.getD_eq_getElem?_getD, h3, h4] using this
theorem prt_step {t : Tb} {c r : Nat} (hc : c < t.length) : (prt t c r).set c ((prt t c r).getD c [] ++ [cell t r c]) = prt t c (r + 1) := by
  refine ext_T (by simp) fun k hk => ?_
  simp only [List.length_set, prt_length] at hk
  rw [getT_set (by simpa using hc), prt_get hk, prt_get hk, prt_get hc]
  by_cases h : k = c
  · subst h
    rw [if_pos rfl, if_neg (by omega), if_pos rfl, if_neg (by omega), if_pos rfl, List.range_succ, List.map_append]; rfl
  · rw [if_neg h]
    by_cases h2 : k < c
    · rw [if_pos h2, if_pos h2]
    · rw [if_neg h2, if_neg h2, if_neg h, if_neg h]
theorem prt_next {t : Tb} {c : Nat} : prt t c t.length = prt t (c + 1) 0 := by
  refine ext_T (by simp) fun k hk => ?_
  rw [prt_length] at hk
  rw [prt_get hk, prt_get hk]
  by_cases h : k < c
  · rw [if_pos h, if_pos (by omega)]
  · rw [if_neg h]
    by_cases h2 : k = c
    · rw [if_pos h2, if_pos (by omega)]
    · rw [if_neg h2, if_neg (by omega)]
      split <;> rfl
theorem prt_end (t : Tb) : prt t t.length 0 = turnE t := by
  refine ext_T (by simp) fun k hk => ?_
  rw [prt_length] at hk
  rw [prt_get hk, if_pos hk]
  simp [turnE, List.getD_eq_getElem?_getD, hk]
theorem rowOf_nils (n : Nat) : rowOf [.nils] (n * 1) = List.replicate n .nils := by
  refine List.ext_getElem (by simp [rowOf]) fun k h1 h2 => ?_
  simp [rowOf, Nat.mod_one]
def noCap (cells : List AV) : Prop := ∀ (k b n : Nat) (cp : Option Nat), cells[k]? = some (AV.ref 1 b 0 n cp) → cp = none
/-- turned -/
theorem c71 {v : AV} {t : Tbl} {H : Heap} {K : AV → Heap → Prop} (hc : chkT t = 0) (hv : RT H v t) (hk : ∀ bo cells H', PT H H' bo cells (turnE t) → K (.ref 1 bo 0 t.length (some t.length)) H') : ACalls Tryd.prog 71 [v] H K := by
  apply W71_ok
  unfold W71
  obtain ⟨n1, n2, hrows⟩ := chkT_ok hc
  simp only [letO_some, cellsOf?_agg, cellsOf?_int, cellsOf?_bool, cellsOf?_imm, cellsOf?_ref, cellsOf?_nils, faddr_iptr, faddr_ptr, List.drop_succ_cons, List.drop_zero, List.take_succ_cons, List.take_zero, load1_iptr, loadN_iptr, List.length_cons, List.length_nil, Nat.le_refl, if_true, List.getElem?_cons_zero, List.getElem?_cons_succ, List.getD_cons_zero, List.getD_cons_succ, extrF_tup, binF_add, binF_sub, binF_mul, binF_eql, binF_neq, binF_lss, binF_leq, binF_gtr, binF_geq, true_and, hv.len]
  refine ⟨by omega, by omega, by omega, by omega, ?_⟩
  rw [Int.toNat_natCast, rowOf_nils]
  intro bo hbo
  have hP0 : PT H (H.put bo (List.replicate t.length .nils)) bo (List.replicate t.length .nils) (prt t 0 0) := by
    refine ⟨Heap.le_new hbo, hbo, Heap.put_same, by simp, fun k hk => .inl ?_, fun j k bj bk nj nk cj ck hjk hj hk => ?_⟩
    · rw [prt_length] at hk
      refine ⟨by simp [hk], ?_⟩
      rw [prt_get hk, if_neg (by omega)]
      split <;> rfl
    · rw [List.getElem?_replicate] at hj
      split at hj <;> cases hj
  try simp only [letO_some]
  refine ⟨fun L H' => ∃ (c : Nat) (cells : List AV), eqt L [.int .i64 c] ∧ c ≤ t.length ∧ PT H H' bo cells (prt t c 0) ∧ noCap cells, fun L _ => (t.length - iv L 0).toNat,
    ⟨0, _, rfl, by omega, hP0, fun k b n cp h => by rw [List.getElem?_replicate] at h; split at h <;> cases h⟩, ?_⟩
  rintro L H' ⟨c, cells, rfl, hcn, hP, hcap⟩
  simp only [letO_some, cellsOf?_agg, cellsOf?_int, cellsOf?_bool, cellsOf?_imm, cellsOf?_ref, cellsOf?_nils, faddr_iptr, faddr_ptr, List.drop_succ_cons, List.drop_zero, List.take_succ_cons, List.take_zero, load1_iptr, loadN_iptr, List.length_cons, List.length_nil, Nat.le_refl, if_true, List.getElem?_cons_zero, List.getElem?_cons_succ, List.getD_cons_zero, List.getD_cons_succ, extrF_tup, binF_add, binF_sub, binF_mul, binF_eql, binF_neq, binF_lss, binF_leq, binF_gtr, binF_geq, true_and]
  refine condA_t (fun hlt => ?_) (fun hge => ?_)
  · have hct : c < t.length := by omega
    refine ⟨fun L H'' => ∃ (r : Nat) (cells : List AV), eqt L [.int .i64 r] ∧ r ≤ t.length ∧ PT H H'' bo cells (prt t c r) ∧ noCap cells, fun L _ => (t.length - iv L 0).toNat, ⟨0, cells, rfl, by omega, hP, hcap⟩, ?_⟩
    rintro L H'' ⟨r, cells, rfl, hrn, hP, hcap⟩
    simp only [letO_some, cellsOf?_agg, cellsOf?_int, cellsOf?_bool, cellsOf?_imm, cellsOf?_ref, cellsOf?_nils, faddr_iptr, faddr_ptr, List.drop_succ_cons, List.drop_zero, List.take_succ_cons, List.take_zero, load1_iptr, loadN_iptr, List.length_cons, List.length_nil, Nat.le_refl, if_true, List.getElem?_cons_zero, List.getElem?_cons_succ, List.getD_cons_zero, List.getD_cons_succ, extrF_tup, binF_add, binF_sub, binF_mul, binF_eql, binF_neq, binF_lss, binF_leq, binF_gtr, binF_geq, true_and]
    refine condA_t (fun hlt2 => ?_) (fun hge2 => ?_)
    · have hrt : r < t.length := by omega
      have hpr := PT.append (x := cell t r c) (cp := some t.length) (n := t.length) hP (c := c) (by simpa using hct) (by rw [prt_get hct]; split; simp; omega; split <;> simp; omega) (hcap c) (by simp) (K := fun H12 =>
          (∃ (r' : Nat) (cells : List AV), eqt [AV.int .i64 (IntKind.i64.wrap ((r : Int) + 1))] [.int .i64 r'] ∧ r' ≤ t.length ∧ PT H H12 bo cells (prt t c r') ∧ noCap cells) ∧
            (t.length - iv [AV.int .i64 (IntKind.i64.wrap ((r : Int) + 1))] 0).toNat < (t.length - iv [AV.int .i64 (r : Int)] 0).toNat) (fun H' v' hP' hv' => by
        rw [prt_step hct] at hP'
        rw [wrap_i64 (by omega) (by omega)]
        refine ⟨⟨r + 1, _, rfl, by omega, hP', fun k b n cp hk => ?_⟩, by simp <;> omega⟩
        by_cases hkc : k = c
        · subst hkc
          have hcl : k < cells.length := by rw [hP.len, prt_length]; exact hct
          simp [hcl] at hk
          exact hv' b n cp hk
        · rw [List.getElem?_set_ne (Ne.symm hkc)] at hk
          exact hcap k b n cp hk)
      have hidx : idx 1 (.ref 1 bo 0 t.length (some t.length)) (.int .i64 (c : Int)) = some (.ptr bo (0 + c * 1)) := idx_ref hct
      obtain ⟨w, hw⟩ : ∃ w, load1 (.ptr bo (0 + c * 1)) H'' = some w := by
        have hcl : c < cells.length := by rw [hP.len, prt_length]; exact hct
        exact ⟨cells[c], load1_at hP.out (by rw [Nat.zero_add, Nat.mul_one]; simp [hcl])⟩
      simp only [hidx, letO_some, hw] at hpr ⊢
      refine hv.get hP.le (by omega) (by omega) fun a ha => ?_
      rw [Int.toNat_natCast] at ha
      have hrl : (t.getD r []).length = t.length := row_len hc hrt
      refine ha.get hP.le (by omega) (by omega) ?_
      rw [Int.toNat_natCast, show (t.getD r []).getD c 0 = cell t r c from rfl]
      simp only [l23 cellsOf?_int, letO_some, binF_add]
      exact hpr
    · have hre : r = t.length := by omega
      subst hre
      rw [prt_next] at hP
      try simp only [letO_some, cellsOf?_agg, cellsOf?_int, cellsOf?_bool, cellsOf?_imm, cellsOf?_ref, cellsOf?_nils, faddr_iptr, faddr_ptr, List.drop_succ_cons, List.drop_zero, List.take_succ_cons, List.take_zero, load1_iptr, loadN_iptr, List.length_cons, List.length_nil, Nat.le_refl, if_true, List.getElem?_cons_zero, List.getElem?_cons_succ, List.getD_cons_zero, List.getD_cons_succ, extrF_tup, binF_add, binF_sub, binF_mul, binF_eql, binF_neq, binF_lss, binF_leq, binF_gtr, binF_geq, true_and]
      rw [wrap_i64 (by omega) (by omega)]
      exact ⟨⟨c + 1, cells, rfl, by omega, hP, hcap⟩, by simp <;> omega⟩
  · have hce : c = t.length := by omega
    subst hce
    rw [prt_end] at hP
    try simp only [letO_some]
    exact endK_ret (hk bo cells H' hP)
end Go.Proofs.YtbofkeoebnjjkaaDoor

namespace Go.Proofs.YtbofkeoebnjjkaaDoor
open Go.Av Tab
set_option linter.unusedVariables false
set_option linter.unusedSimpArgs false
set_option maxRecDepth 4000

theorem RT.src {H : Heap} {v : AV} {t : Tbl} (h : RT H v t) : ∃ rows : List AV, srcOf 1 v H = some (t.length, rows) ∧ rows.length = t.length ∧ rows.all isScalar = true ∧ ∀ r, r < t.length → ∃ a, rows[r]? = some a ∧ Reads H a (t.getD r []) := by
  obtain ⟨rows, h1, h2⟩ := h
  have hl : rows.length = t.length := by have := h1.1; omega
  have hs : rows.all isScalar = true := by
    rw [List.all_eq_true]
    intro x hx
    obtain ⟨k, hk, rfl⟩ := List.getElem_of_mem hx
    obtain ⟨a, h3, h4⟩ := h2 k (by omega)
    rw [List.getElem?_eq_getElem hk] at h3
    rw [Option.some.inj h3]; exact h4.scalar
  refine ⟨rows, ?_, hl, hs, h2⟩
  have h3 := h1.2
  cases v <;> simp only at h3 <;> try exact h3.elim
  · have : rows = [] := List.eq_nil_of_length_eq_zero (by omega)
    rw [this, h3]; rfl
  · obtain ⟨rfl, rfl⟩ := h3
    simp only [srcOf]
    rw [if_pos (by omega)]
  · obtain ⟨rfl, rfl, cs, h4, h5, h6⟩ := h3
    simp only [srcOf, h4, if_true, Option.bind_some]
    rw [if_pos h5, h6]
theorem sum_turn (t : Tb) (k : Nat) : True := trivial
theorem sums_bd {t : Tb} (hc : chkT t = 0) : (∀ l ∈ turnE t ++ t, ∀ x ∈ l, 0 ≤ x ∧ x ≤ 9) ∧ ∀ l ∈ turnE t ++ t, l.length ≤ 4 := by
  obtain ⟨n1, n2, hrows⟩ := chkT_ok hc
  constructor
  · intro l hl x hx
    rcases List.mem_append.1 hl with h | h
    · simp only [turnE, List.mem_map] at h
      obtain ⟨c, _, rfl⟩ := h
      simp only [List.mem_map] at hx
      obtain ⟨r, _, rfl⟩ := hx
      exact cell_rng hc r c
    · exact (hrows l h).2 x hx
  · intro l hl
    rcases List.mem_append.1 hl with h | h
    · simp only [turnE, List.mem_map] at h
      obtain ⟨c, _, rfl⟩ := h
      simp; omega
    · have := (hrows l h).1; omega
/-- Even -/
theorem c18 {v : AV} {t : Tbl} {H : Heap} {K : AV → Heap → Prop} (hv : RT H v t) (hl : t.length < 2 ^ 63) (hl2 : ∀ l ∈ t, l.length < 2 ^ 63) (hk : K (.tup [.int .i64 (evenE t).1, .int .i64 (evenE t).2]) H) : ACalls Tryd.prog 18 [v] H K := by
  apply W18_ok
  unfold W18
  try simp only [letO_some, cellsOf?_agg, cellsOf?_int, cellsOf?_bool, cellsOf?_imm, cellsOf?_ref, cellsOf?_nils, faddr_iptr, faddr_ptr, List.drop_succ_cons, List.drop_zero, List.take_succ_cons, List.take_zero, load1_iptr, loadN_iptr, List.length_cons, List.length_nil, Nat.le_refl, if_true, List.getElem?_cons_zero, List.getElem?_cons_succ, List.getD_cons_zero, List.getD_cons_succ, extrF_tup, binF_add, binF_sub, binF_mul, binF_eql, binF_neq, binF_lss, binF_leq, binF_gtr, binF_geq, true_and]
  refine c30 hv hl hl2 ?_
  try simp only [letO_some, cellsOf?_agg, cellsOf?_int, cellsOf?_bool, cellsOf?_imm, cellsOf?_ref, cellsOf?_nils, faddr_iptr, faddr_ptr, List.drop_succ_cons, List.drop_zero, List.take_succ_cons, List.take_zero, load1_iptr, loadN_iptr, List.length_cons, List.length_nil, Nat.le_refl, if_true, List.getElem?_cons_zero, List.getElem?_cons_succ, List.getD_cons_zero, List.getD_cons_succ, extrF_tup, binF_add, binF_sub, binF_mul, binF_eql, binF_neq, binF_lss, binF_leq, binF_gtr, binF_geq, true_and]
  by_cases hc : chkT t = 0
  · have e1 : (chkT t != 0) = false := by rw [hc]; rfl
    simp only [e1, condA_ff, letO_some]
    rw [evenE, if_neg (by simp [hc])] at hk
    obtain ⟨n1, n2, hrows⟩ := chkT_ok hc
    obtain ⟨sb, sl4⟩ := sums_bd hc
    refine hv.get (i := 0) (Heap.le_refl _) (by omega) (by omega) fun a ha => ?_
    have h0 : t.getD (0 : Int).toNat [] = row t 0 := rfl
    rw [h0] at ha
    have hr0 : row t 0 ∈ t := row_mem (by omega)
    refine c70 ha (by have := (hrows _ hr0).1; omega) (fun x hx => by have := (hrows _ hr0).2 x hx; omega) ?_
    try simp only [letO_some]
    refine c71 hc hv fun bo cells H' hP => ?_
    try simp only [letO_some]
    obtain ⟨rows, hsrc, hrl, hrs, hrr⟩ := RT.src (hv.le hP.le)
    have htl : (turnE t).length = t.length := turnE_length t
    have hcl : cells.length = t.length := by rw [hP.len, htl]
    refine ⟨t.length, rows, hsrc, hrs, rfl, rfl, cells, hP.out, by omega, by omega, by omega, ?_⟩
    dsimp only
    rw [if_neg (by omega)]
    intro b hb
    have htake : cells.take (t.length * 1) = cells := List.take_of_length_le (by omega)
    rw [htake]
    have hle' := Heap.le_new (c := cells ++ rows) hb
    have hbb : (H'.put b (cells ++ rows)) b = some (cells ++ rows) := Heap.put_same
    generalize H'.put b (cells ++ rows) = H2 at *
    have hR : RT H2 (.ref 1 b 0 (t.length + t.length) none) (turnE t ++ t) := by
      refine ⟨cells ++ rows, ⟨by simp; omega, rfl, by simp, cells ++ rows, hbb, by simp; omega, by rw [List.drop_zero, List.take_of_length_le (by simp; omega)]⟩, fun r hr => ?_⟩
      rw [List.length_append, htl] at hr
      by_cases h : r < t.length
      · obtain ⟨rows1, q1, q2⟩ := hP.rt none
        have q3 := q1.2
        obtain ⟨_, _, cs, q4, q5, q6⟩ := q3
        rw [hP.out] at q4
        cases q4
        obtain ⟨a, q7, q8⟩ := q2 r (by omega)
        refine ⟨a, ?_, ?_⟩
        · rw [List.getElem?_append_left (by omega), ← q7, ← q6, List.drop_zero, List.getElem?_take_of_lt (by omega)]
        · rw [List.getD_eq_getElem?_getD, List.getElem?_append_left (by omega), ← List.getD_eq_getElem?_getD]
          exact q8.le hle'
      · obtain ⟨a, q7, q8⟩ := hrr (r - t.length) (by omega)
        refine ⟨a, ?_, ?_⟩
        · rw [List.getElem?_append_right (by omega), hcl]; exact q7
        · rw [List.getD_eq_getElem?_getD, List.getElem?_append_right (by omega), htl, ← List.getD_eq_getElem?_getD]
          exact q8.le hle'
    have hlen : lenA (.ref 1 b 0 (t.length + t.length) none) = some (.int .i64 ((t.length + t.length : Nat) : Int)) := rfl
    simp only [hlen, letO_some]
    have hle2 := Heap.le_trans hP.le hle'
    refine ⟨fun L H'' => ∃ i : Nat, eqt L [.int .i64 i] ∧ i ≤ t.length + t.length ∧ eqt H'' H2 ∧ ((turnE t ++ t).take i).all (fun l => decide (l.sum = (row t 0).sum)) = true, fun L _ => (t.length + t.length - iv L 0).toNat, ⟨0, rfl, by omega, rfl, by simp⟩, ?_⟩
    rintro L H'' ⟨i, rfl, hi, rfl, hall⟩
    try simp only [letO_some, cellsOf?_agg, cellsOf?_int, cellsOf?_bool, cellsOf?_imm, cellsOf?_ref, cellsOf?_nils, faddr_iptr, faddr_ptr, List.drop_succ_cons, List.drop_zero, List.take_succ_cons, List.take_zero, load1_iptr, loadN_iptr, List.length_cons, List.length_nil, Nat.le_refl, if_true, List.getElem?_cons_zero, List.getElem?_cons_succ, List.getD_cons_zero, List.getD_cons_succ, extrF_tup, binF_add, binF_sub, binF_mul, binF_eql, binF_neq, binF_lss, binF_leq, binF_gtr, binF_geq, true_and]
    refine condA_t (fun hlt => ?_) (fun hge => ?_)
    · have hil : i < (turnE t ++ t).length := by simp; omega
      refine hR.get (Heap.le_refl _) (by omega) (by omega) fun a ha => ?_
      rw [Int.toNat_natCast] at ha
      have g1 : (turnE t ++ t).getD i [] = (turnE t ++ t)[i] := by rw [List.getD_eq_getElem?_getD, List.getElem?_eq_getElem hil]; rfl
      rw [g1] at ha
      have hm : (turnE t ++ t)[i] ∈ turnE t ++ t := List.getElem_mem hil
      refine c70 ha (by have := sl4 _ hm; omega) (fun x hx => by have := sb _ hm x hx; omega) ?_
      try simp only [letO_some, cellsOf?_agg, cellsOf?_int, cellsOf?_bool, cellsOf?_imm, cellsOf?_ref, cellsOf?_nils, faddr_iptr, faddr_ptr, List.drop_succ_cons, List.drop_zero, List.take_succ_cons, List.take_zero, load1_iptr, loadN_iptr, List.length_cons, List.length_nil, Nat.le_refl, if_true, List.getElem?_cons_zero, List.getElem?_cons_succ, List.getD_cons_zero, List.getD_cons_succ, extrF_tup, binF_add, binF_sub, binF_mul, binF_eql, binF_neq, binF_lss, binF_leq, binF_gtr, binF_geq, true_and]
      by_cases hx : (turnE t ++ t)[i].sum = (row t 0).sum
      · have e : ((turnE t ++ t)[i].sum != (row t 0).sum) = false := by rw [hx]; simp
        simp only [e, condA_ff]
        rw [wrap_i64 (by omega) (by omega)]
        refine ⟨⟨i + 1, rfl, by omega, rfl, ?_⟩, by simp <;> omega⟩
        rw [List.take_add_one, List.all_append, hall, List.getElem?_eq_getElem hil]
        simp [hx]
      · have e : ((turnE t ++ t)[i].sum != (row t 0).sum) = true := by rw [bne_iff_ne]; exact hx
        simp only [e, condA_tt]
        rw [if_neg] at hk
        · exact endK_drop hle2 hk
        · intro h
          rw [List.all_eq_true] at h
          exact hx (of_decide_eq_true (h _ hm))
    · have hie : i = t.length + t.length := by omega
      subst hie
      rw [List.take_of_length_le (by simp)] at hall
      rw [if_pos hall] at hk
      try simp only [letO_some]
      exact endK_drop hle2 hk
  · have e1 : (chkT t != 0) = true := by simp [hc]
    simp only [e1, condA_tt]
    rw [evenE, if_pos hc] at hk
    exact endK_ret hk
/-- Turn -/
theorem c27 {v : AV} {t : Tbl} {H : Heap} {K : AV → Heap → Prop} (hv : RT H v t) (hl : t.length < 2 ^ 63) (hl2 : ∀ l ∈ t, l.length < 2 ^ 63) (hk : K (.tup [tl (if chkT t ≠ 0 then [] else turnE t), .int .i64 (chkT t)]) H) : ACalls Tryd.prog 27 [v] H K := by
  apply W27_ok
  unfold W27
  try simp only [letO_some, cellsOf?_agg, cellsOf?_int, cellsOf?_bool, cellsOf?_imm, cellsOf?_ref, cellsOf?_nils, faddr_iptr, faddr_ptr, List.drop_succ_cons, List.drop_zero, List.take_succ_cons, List.take_zero, load1_iptr, loadN_iptr, List.length_cons, List.length_nil, Nat.le_refl, if_true, List.getElem?_cons_zero, List.getElem?_cons_succ, List.getD_cons_zero, List.getD_cons_succ, extrF_tup, binF_add, binF_sub, binF_mul, binF_eql, binF_neq, binF_lss, binF_leq, binF_gtr, binF_geq, true_and]
  refine c30 hv hl hl2 ?_
  try simp only [letO_some, cellsOf?_agg, cellsOf?_int, cellsOf?_bool, cellsOf?_imm, cellsOf?_ref, cellsOf?_nils, faddr_iptr, faddr_ptr, List.drop_succ_cons, List.drop_zero, List.take_succ_cons, List.take_zero, load1_iptr, loadN_iptr, List.length_cons, List.length_nil, Nat.le_refl, if_true, List.getElem?_cons_zero, List.getElem?_cons_succ, List.getD_cons_zero, List.getD_cons_succ, extrF_tup, binF_add, binF_sub, binF_mul, binF_eql, binF_neq, binF_lss, binF_leq, binF_gtr, binF_geq, true_and]
  by_cases hc : chkT t = 0
  · have e1 : (chkT t != 0) = false := by rw [hc]; rfl
    simp only [e1, condA_ff]
    rw [if_neg (by simp [hc]), hc] at hk
    refine c71 hc hv fun bo cells H' hP => ?_
    try simp only [letO_some]
    refine endK_all hP.le 3 ?_
    have := hP.pub (some t.length) 0
    rw [turnE_length] at this
    show K (.tup [conv H H' 2 (.ref 1 bo 0 t.length (some t.length)), .int .i64 0]) H
    rw [this]; exact hk
  · have e1 : (chkT t != 0) = true := by simp [hc]
    simp only [e1, condA_tt]
    rw [if_pos hc] at hk
    exact endK_weak (endK_ret hk)
/-- planned -/
theorem c79 {v : AV} {p : List Int} {n : Nat} {H : Heap} {K : AV → Heap → Prop} (hv : Reads H v p) (hl : p.length < 2 ^ 63) (hk : K (.int .i64 (planE n p)) H) : ACalls Tryd.prog 79 [.int .i64 n, v] H K := by
  apply W79_ok
  unfold W79
  simp only [letO_some, cellsOf?_agg, cellsOf?_int, cellsOf?_bool, cellsOf?_imm, cellsOf?_ref, cellsOf?_nils, faddr_iptr, faddr_ptr, List.drop_succ_cons, List.drop_zero, List.take_succ_cons, List.take_zero, load1_iptr, loadN_iptr, List.length_cons, List.length_nil, Nat.le_refl, if_true, List.getElem?_cons_zero, List.getElem?_cons_succ, List.getD_cons_zero, List.getD_cons_succ, extrF_tup, binF_add, binF_sub, binF_mul, binF_eql, binF_neq, binF_lss, binF_leq, binF_gtr, binF_geq, true_and, hv.len]
  by_cases hlen : p.length = n
  · have e1 : (((p.length : Nat) : Int) != (n : Int)) = false := by rw [hlen]; simp
    simp only [e1, condA_ff]
    rw [planE, if_neg (by omega)] at hk
    refine ⟨fun L H' => ∃ i : Nat, eqt L [.int .i64 i] ∧ i ≤ p.length ∧ eqt H' H ∧ planS n [] p = planS n (p.take i) (p.drop i), fun L _ => (p.length - iv L 0).toNat, ⟨0, rfl, by omega, rfl, by simp⟩, ?_⟩
    rintro L H' ⟨i, rfl, hi, rfl, he⟩
    try simp only [letO_some, cellsOf?_agg, cellsOf?_int, cellsOf?_bool, cellsOf?_imm, cellsOf?_ref, cellsOf?_nils, faddr_iptr, faddr_ptr, List.drop_succ_cons, List.drop_zero, List.take_succ_cons, List.take_zero, load1_iptr, loadN_iptr, List.length_cons, List.length_nil, Nat.le_refl, if_true, List.getElem?_cons_zero, List.getElem?_cons_succ, List.getD_cons_zero, List.getD_cons_succ, extrF_tup, binF_add, binF_sub, binF_mul, binF_eql, binF_neq, binF_lss, binF_leq, binF_gtr, binF_geq, true_and]
    refine condA_t (fun hlt => ?_) (fun hge => ?_)
    · refine hv.get (Heap.le_refl _) (by omega) (by omega) ?_
      rw [Int.toNat_natCast]
      have a1 : i < p.length := by omega
      have g1 : p.getD i 0 = p[i] := by simp [List.getD_eq_getElem?_getD, a1]
      rw [g1]
      rw [List.drop_eq_getElem_cons a1, planS] at he
      rw [he] at hk
      by_cases hbad : p[i] < 0 ∨ (n : Int) ≤ p[i]
      · rw [if_pos hbad] at hk
        by_cases hneg : p[i] < 0
        · simp only [letO_some, cellsOf?_agg, cellsOf?_int, cellsOf?_bool, cellsOf?_imm, cellsOf?_ref, cellsOf?_nils, faddr_iptr, faddr_ptr, List.drop_succ_cons, List.drop_zero, List.take_succ_cons, List.take_zero, load1_iptr, loadN_iptr, List.length_cons, List.length_nil, Nat.le_refl, if_true, List.getElem?_cons_zero, List.getElem?_cons_succ, List.getD_cons_zero, List.getD_cons_succ, extrF_tup, binF_add, binF_sub, binF_mul, binF_eql, binF_neq, binF_lss, binF_leq, binF_gtr, binF_geq, true_and, hneg, decide_true, gval_bool, Int.reduceBNe, Int.reduceBEq, pickF_true, pickF_false, reduceIte, Bool.true_eq_false, Bool.false_eq_true, if_false, condA_tt, condA_ff, condG_tt, condG_ff, condG_tt', condG_ff', condG_undef, gval_undef]
          exact endK_ret hk
        · have e2 : decide ((n : Int) ≤ p[i]) = true := decide_eq_true (by omega)
          simp only [letO_some, cellsOf?_agg, cellsOf?_int, cellsOf?_bool, cellsOf?_imm, cellsOf?_ref, cellsOf?_nils, faddr_iptr, faddr_ptr, List.drop_succ_cons, List.drop_zero, List.take_succ_cons, List.take_zero, load1_iptr, loadN_iptr, List.length_cons, List.length_nil, Nat.le_refl, if_true, List.getElem?_cons_zero, List.getElem?_cons_succ, List.getD_cons_zero, List.getD_cons_succ, extrF_tup, binF_add, binF_sub, binF_mul, binF_eql, binF_neq, binF_lss, binF_leq, binF_gtr, binF_geq, true_and, hneg, decide_false, gval_bool, Int.reduceBNe, Int.reduceBEq, pickF_true, pickF_false, reduceIte, Bool.true_eq_false, Bool.false_eq_true, if_false, condA_tt, condA_ff, condG_tt, condG_ff, condG_tt', condG_ff', condG_undef, gval_undef, e2]
          exact endK_ret hk
      · rw [if_neg hbad] at hk
        have e2 : decide ((n : Int) ≤ p[i]) = false := decide_eq_false (by omega)
        have hneg : ¬ p[i] < 0 := by omega
        obtain ⟨y, hy, hry⟩ := slc_pre hv (k := i) (by omega)
        simp only [letO_some, cellsOf?_agg, cellsOf?_int, cellsOf?_bool, cellsOf?_imm, cellsOf?_ref, cellsOf?_nils, faddr_iptr, faddr_ptr, List.drop_succ_cons, List.drop_zero, List.take_succ_cons, List.take_zero, load1_iptr, loadN_iptr, List.length_cons, List.length_nil, Nat.le_refl, if_true, List.getElem?_cons_zero, List.getElem?_cons_succ, List.getD_cons_zero, List.getD_cons_succ, extrF_tup, binF_add, binF_sub, binF_mul, binF_eql, binF_neq, binF_lss, binF_leq, binF_gtr, binF_geq, true_and, hneg, decide_false, gval_bool, Int.reduceBNe, Int.reduceBEq, pickF_true, pickF_false, reduceIte, Bool.true_eq_false, Bool.false_eq_true, if_false, condA_tt, condA_ff, condG_tt, condG_ff, condG_tt', condG_ff', condG_undef, gval_undef, e2, hy]
        refine c62 hry (by rw [List.length_take]; omega) ?_
        by_cases hin : p[i] ∈ p.take i
        · rw [if_pos hin] at hk
          simp only [letO_some, cellsOf?_agg, cellsOf?_int, cellsOf?_bool, cellsOf?_imm, cellsOf?_ref, cellsOf?_nils, faddr_iptr, faddr_ptr, List.drop_succ_cons, List.drop_zero, List.take_succ_cons, List.take_zero, load1_iptr, loadN_iptr, List.length_cons, List.length_nil, Nat.le_refl, if_true, List.getElem?_cons_zero, List.getElem?_cons_succ, List.getD_cons_zero, List.getD_cons_succ, extrF_tup, binF_add, binF_sub, binF_mul, binF_eql, binF_neq, binF_lss, binF_leq, binF_gtr, binF_geq, true_and, hin, decide_true, condA_tt]
          exact endK_ret hk
        · simp only [letO_some, cellsOf?_agg, cellsOf?_int, cellsOf?_bool, cellsOf?_imm, cellsOf?_ref, cellsOf?_nils, faddr_iptr, faddr_ptr, List.drop_succ_cons, List.drop_zero, List.take_succ_cons, List.take_zero, load1_iptr, loadN_iptr, List.length_cons, List.length_nil, Nat.le_refl, if_true, List.getElem?_cons_zero, List.getElem?_cons_succ, List.getD_cons_zero, List.getD_cons_succ, extrF_tup, binF_add, binF_sub, binF_mul, binF_eql, binF_neq, binF_lss, binF_leq, binF_gtr, binF_geq, true_and, hin, decide_false, condA_ff]
          rw [wrap_i64 (by omega) (by omega)]
          refine ⟨⟨i + 1, rfl, by omega, rfl, ?_⟩, by simp <;> omega⟩
          rw [he, if_neg hbad, if_neg hin, List.take_add_one, List.getElem?_eq_getElem a1]; rfl
    · have hie : i = p.length := by omega
      subst hie
      rw [List.drop_length, planS] at he
      rw [he] at hk
      exact endK_ret hk
  · have e1 : (((p.length : Nat) : Int) != (n : Int)) = true := by rw [bne_iff_ne]; omega
    simp only [e1, condA_tt]
    rw [planE, if_pos hlen] at hk
    exact endK_ret hk
theorem planS_rng {n : Nat} : ∀ {p seen : List Int}, planS n seen p = 0 → ∀ c ∈ p, 0 ≤ c ∧ c < n
  | [], _, _ => by simp
  | a :: p, seen, h => by
    unfold planS at h
    split at h
    · cases h
    · rename_i h1
      split at h
      · cases h
      · intro c hc
        rcases List.mem_cons.1 hc with rfl | hc
        · omega
        · exact planS_rng h c hc
theorem zeroAt_drop {t : Tb} : ∀ (p : List Int) (r i : Nat), zeroAt t r (p.take i) = false → zeroAt t r p = zeroAt t (r + i) (p.drop i)
  | [], r, i, _ => by simp [zeroAt]
  | c :: p, r, 0, _ => rfl
  | c :: p, r, i + 1, h => by
    simp only [List.take_succ_cons, zeroAt, Bool.or_eq_false_iff] at h
    simp only [List.drop_succ_cons, zeroAt, h.1, Bool.false_or]
    rw [zeroAt_drop p (r + 1) i h.2, show r + (i + 1) = r + 1 + i by omega]
theorem zeroAt_snoc {t : Tb} : ∀ (p : List Int) (r : Nat) (c : Int), zeroAt t r (p ++ [c]) = (zeroAt t r p || decide (cell t (r + p.length) c.toNat = 0))
  | [], r, c => by simp [zeroAt]
  | a :: p, r, c => by
    rw [List.cons_append, zeroAt, zeroAt, zeroAt_snoc, Bool.or_assoc, List.length_cons, show r + (p.length + 1) = r + 1 + p.length by omega]
/-- Within -/
theorem c32 {v u : AV} {t : Tbl} {p : List Int} {H : Heap} {K : AV → Heap → Prop} (hv : RT H v t) (hu : Reads H u p) (hl : t.length < 2 ^ 63) (hl2 : ∀ l ∈ t, l.length < 2 ^ 63) (hl3 : p.length < 2 ^ 63) (hk : K (.int .i64 (withE t p)) H) : ACalls Tryd.prog 32 [v, u] H K := by
  apply W32_ok
  unfold W32
  try simp only [letO_some, cellsOf?_agg, cellsOf?_int, cellsOf?_bool, cellsOf?_imm, cellsOf?_ref, cellsOf?_nils, faddr_iptr, faddr_ptr, List.drop_succ_cons, List.drop_zero, List.take_succ_cons, List.take_zero, load1_iptr, loadN_iptr, List.length_cons, List.length_nil, Nat.le_refl, if_true, List.getElem?_cons_zero, List.getElem?_cons_succ, List.getD_cons_zero, List.getD_cons_succ, extrF_tup, binF_add, binF_sub, binF_mul, binF_eql, binF_neq, binF_lss, binF_leq, binF_gtr, binF_geq, true_and]
  refine c30 hv hl hl2 ?_
  try simp only [letO_some, cellsOf?_agg, cellsOf?_int, cellsOf?_bool, cellsOf?_imm, cellsOf?_ref, cellsOf?_nils, faddr_iptr, faddr_ptr, List.drop_succ_cons, List.drop_zero, List.take_succ_cons, List.take_zero, load1_iptr, loadN_iptr, List.length_cons, List.length_nil, Nat.le_refl, if_true, List.getElem?_cons_zero, List.getElem?_cons_succ, List.getD_cons_zero, List.getD_cons_succ, extrF_tup, binF_add, binF_sub, binF_mul, binF_eql, binF_neq, binF_lss, binF_leq, binF_gtr, binF_geq, true_and]
  by_cases hc : chkT t = 0
  · have e1 : (chkT t != 0) = false := by rw [hc]; rfl
    simp only [e1, condA_ff, hv.len, letO_some]
    rw [withE, if_neg (by simp [hc])] at hk
    obtain ⟨n1, n2, hrows⟩ := chkT_ok hc
    refine c79 hu hl3 ?_
    try simp only [letO_some, cellsOf?_agg, cellsOf?_int, cellsOf?_bool, cellsOf?_imm, cellsOf?_ref, cellsOf?_nils, faddr_iptr, faddr_ptr, List.drop_succ_cons, List.drop_zero, List.take_succ_cons, List.take_zero, load1_iptr, loadN_iptr, List.length_cons, List.length_nil, Nat.le_refl, if_true, List.getElem?_cons_zero, List.getElem?_cons_succ, List.getD_cons_zero, List.getD_cons_succ, extrF_tup, binF_add, binF_sub, binF_mul, binF_eql, binF_neq, binF_lss, binF_leq, binF_gtr, binF_geq, true_and]
    by_cases hp : planE t.length p = 0
    · have e2 : (planE t.length p != 0) = false := by rw [hp]; rfl
      simp only [e2, condA_ff, hu.len, letO_some]
      rw [if_neg (by simp [hp])] at hk
      have hpl : p.length = t.length ∧ planS t.length [] p = 0 := by
        unfold planE at hp
        split at hp
        · cases hp
        · exact ⟨by omega, hp⟩
      have hrng := planS_rng hpl.2
      refine ⟨fun L H' => ∃ i : Nat, eqt L [.int .i64 i] ∧ i ≤ p.length ∧ eqt H' H ∧ zeroAt t 0 (p.take i) = false, fun L _ => (p.length - iv L 0).toNat, ⟨0, rfl, by omega, rfl, by simp [zeroAt]⟩, ?_⟩
      rintro L H' ⟨i, rfl, hi, rfl, he⟩
      try simp only [letO_some, cellsOf?_agg, cellsOf?_int, cellsOf?_bool, cellsOf?_imm, cellsOf?_ref, cellsOf?_nils, faddr_iptr, faddr_ptr, List.drop_succ_cons, List.drop_zero, List.take_succ_cons, List.take_zero, load1_iptr, loadN_iptr, List.length_cons, List.length_nil, Nat.le_refl, if_true, List.getElem?_cons_zero, List.getElem?_cons_succ, List.getD_cons_zero, List.getD_cons_succ, extrF_tup, binF_add, binF_sub, binF_mul, binF_eql, binF_neq, binF_lss, binF_leq, binF_gtr, binF_geq, true_and]
      refine condA_t (fun hlt => ?_) (fun hge => ?_)
      · refine hu.get (Heap.le_refl _) (by omega) (by omega) ?_
        rw [Int.toNat_natCast]
        have a1 : i < p.length := by omega
        have g1 : p.getD i 0 = p[i] := by simp [List.getD_eq_getElem?_getD, a1]
        rw [g1]
        have hr := hrng p[i] (by simp)
        try simp only [letO_some, cellsOf?_agg, cellsOf?_int, cellsOf?_bool, cellsOf?_imm, cellsOf?_ref, cellsOf?_nils, faddr_iptr, faddr_ptr, List.drop_succ_cons, List.drop_zero, List.take_succ_cons, List.take_zero, load1_iptr, loadN_iptr, List.length_cons, List.length_nil, Nat.le_refl, if_true, List.getElem?_cons_zero, List.getElem?_cons_succ, List.getD_cons_zero, List.getD_cons_succ, extrF_tup, binF_add, binF_sub, binF_mul, binF_eql, binF_neq, binF_lss, binF_leq, binF_gtr, binF_geq, true_and]
        refine hv.get (Heap.le_refl _) (by omega) (by omega) fun a ha => ?_
        rw [Int.toNat_natCast] at ha
        have hrl : (t.getD i []).length = t.length := row_len hc (by omega)
        refine ha.get (Heap.le_refl _) hr.1 (by omega) ?_
        rw [show (t.getD i []).getD p[i].toNat 0 = cell t i p[i].toNat from rfl]
        try simp only [letO_some, cellsOf?_agg, cellsOf?_int, cellsOf?_bool, cellsOf?_imm, cellsOf?_ref, cellsOf?_nils, faddr_iptr, faddr_ptr, List.drop_succ_cons, List.drop_zero, List.take_succ_cons, List.take_zero, load1_iptr, loadN_iptr, List.length_cons, List.length_nil, Nat.le_refl, if_true, List.getElem?_cons_zero, List.getElem?_cons_succ, List.getD_cons_zero, List.getD_cons_succ, extrF_tup, binF_add, binF_sub, binF_mul, binF_eql, binF_neq, binF_lss, binF_leq, binF_gtr, binF_geq, true_and]
        have hz := zeroAt_drop p 0 i he
        rw [List.drop_eq_getElem_cons a1, zeroAt, Nat.zero_add] at hz
        by_cases hzero : cell t i p[i].toNat = 0
        · have e : (cell t i p[i].toNat == 0) = true := by rw [hzero]; rfl
          simp only [e, condA_tt]
          rw [hzero] at hz
          simp only [decide_true, Bool.true_or] at hz
          rw [if_pos hz] at hk
          exact endK_ret hk
        · have e : (cell t i p[i].toNat == 0) = false := by rw [beq_eq_false_iff_ne]; exact hzero
          simp only [e, condA_ff]
          rw [wrap_i64 (by omega) (by omega)]
          refine ⟨⟨i + 1, rfl, by omega, rfl, ?_⟩, by simp <;> omega⟩
          have : p.take (i + 1) = p.take i ++ [p[i]] := by rw [List.take_add_one, List.getElem?_eq_getElem a1]; rfl
          rw [this, zeroAt_snoc, he, List.length_take, Nat.min_eq_left (by omega), Nat.zero_add]
          simp [hzero]
      · have hie : i = p.length := by omega
        subst hie
        rw [List.take_length] at he
        rw [he, if_neg (by simp)] at hk
        exact endK_ret hk
    · have e2 : (planE t.length p != 0) = true := by rw [bne_iff_ne]; exact hp
      simp only [e2, condA_tt]
      rw [if_pos hp] at hk
      exact endK_ret hk
  · have e1 : (chkT t != 0) = true := by simp [hc]
    simp only [e1, condA_tt]
    rw [withE, if_pos hc] at hk
    exact endK_ret hk
end Go.Proofs.YtbofkeoebnjjkaaDoor

namespace Go.Proofs.YtbofkeoebnjjkaaDoor
open Go.Av Tab
set_option linter.unusedVariables false
set_option linter.unusedSimpArgs false
set_option maxRecDepth 4000

theorem nilq {H : Heap} {v : AV} {l : List Int} (h : Reads H v l) (hne : l ≠ []) : binF Tryd.prog .eql 23 v .nils = some (.bool false) := by
  have h1 : ∃ e, Tryd.prog.underlying 23 = some (.slice e) := ⟨3, by kernel_rfl⟩
  obtain ⟨e, h1⟩ := h1
  cases v <;> simp only [Reads] at h <;> try exact h.elim
  · exact absurd h hne
  · obtain ⟨_, rfl⟩ := h
    cases l with
    | nil => exact absurd rfl hne
    | cons a l => simp [binF, eqF, h1, ints]
  · simp [binF, eqF, h1]
theorem l23n : literalF Tryd.prog 23 0 [] = some [] := by
  rw [literalF_of (show literalPlan Tryd.prog 23 = some ([.int .i64 0], 1) by kernel_rfl) (by decide) (by simp)]
  simp [fillA, rowOf]
theorem l22 {x : AV} (hx : cellsOf? x = some [x]) : literalF Tryd.prog 22 1 [(0, x)] = some [x] := by
  rw [literalF_of (show literalPlan Tryd.prog 22 = some ([.nils], 1) by kernel_rfl) (by decide) (by simp)]
  simp [fillA, hx, splice, rowOf]
/-- slices.Clone of numbers -/
theorem c59 {v : AV} {l : List Int} {H : Heap} {K : AV → Heap → Prop} (hv : Reads H v l) (hne : l ≠ []) (hl : l.length < 1000000)
    (hk : ∀ b, H b = none → K (.ref 1 b 0 l.length none) (H.put b (ints l))) : ACalls Tryd.prog 59 [v] H K := by
  apply W59_ok
  unfold W59
  simp only [letO_some, cellsOf?_agg, cellsOf?_int, cellsOf?_bool, cellsOf?_imm, cellsOf?_ref, cellsOf?_nils, faddr_iptr, faddr_ptr, List.drop_succ_cons, List.drop_zero, List.take_succ_cons, List.take_zero, load1_iptr, loadN_iptr, List.length_cons, List.length_nil, Nat.le_refl, if_true, List.getElem?_cons_zero, List.getElem?_cons_succ, List.getD_cons_zero, List.getD_cons_succ, extrF_tup, binF_add, binF_sub, binF_mul, binF_eql, binF_neq, binF_lss, binF_leq, binF_gtr, binF_geq, true_and, nilq hv hne, condA_bool, condG_bool, l23n]
  refine ⟨fun h => by simp at h, fun _ => ?_⟩
  have hpos : 0 < l.length := List.length_pos_iff.2 hne
  refine appendA_growR (Grow.imm (sz := 1) (n := 0) (cells := []) rfl) (reads_src hv) ?_ (by simp) hpos (by omega) (by omega) fun v' H' hg hr => ?_
  · simp [ints, isScalar]
  · have hg2 : Grow 1 H H' v' l.length (ints l) := by simpa using hg
    obtain ⟨b, hb, rfl, rfl⟩ := hg2.own hr
    exact endK_ret (hk b hb)

/-- A number of a row is changed in place. -/
theorem PT.cell {H0 H : Heap} {bo : Nat} {cells : List AV} {t : Tbl} {r c : Nat} (cp : Option Nat) (h : PT H0 H bo cells t) (hr : r < t.length) (hc : c < (t.getD r []).length) :
    ∃ w q, idx 1 (.ref 1 bo 0 t.length cp) (.int .i64 (r : Int)) = some (.ptr bo (0 + r * 1)) ∧ load1 (.ptr bo (0 + r * 1)) H = some w ∧ idx 1 w (.int .i64 (c : Int)) = some q ∧ load1 q H = some (.int .i64 ((t.getD r []).getD c 0)) ∧
      ∀ (y : Int) (K : Heap → Prop), (∀ H', PT H0 H' bo cells (t.set r ((t.getD r []).set c y)) → K H') → storeA 1 q (.int .i64 y) K H := by
  rcases h.row r hr with ⟨h1, h2⟩ | ⟨b, cp', h1, h2, h3, h4⟩
  · rw [h2] at hc; simp at hc
  · have hx : (ints (t.getD r []))[0 + c * 1]? = some (.int .i64 ((t.getD r []).getD c 0)) := by
      rw [Nat.zero_add, Nat.mul_one, ints_getElem?, List.getElem?_eq_getElem hc, List.getD_eq_getElem?_getD (l := t.getD r []), List.getElem?_eq_getElem hc]; rfl
    refine ⟨_, _, idx_ref hr, load1_at h.out (by rw [Nat.zero_add, Nat.mul_one]; exact h1), idx_ref hc, load1_at h2 hx, fun y K hk => ?_⟩
    refine storeA_of (cs := [.int .i64 y]) h2 rfl rfl rfl (by rw [ints_length, List.length_singleton]; omega) ?_
    have e : splice (ints (t.getD r [])) (0 + c * 1) [.int .i64 y] = ints ((t.getD r []).set c y) := by
      rw [Nat.zero_add, Nat.mul_one, splice_set (by rw [ints_length]; exact hc)]
      simp [ints, List.map_set]
    rw [e]
    refine hk _ ⟨?_, h.fo, by rw [Heap.put_ne (Ne.symm h4)]; exact h.out, by simp [h.len], fun k hk => ?_, h.dis⟩
    · intro z w hz
      have : z ≠ b := by rintro rfl; rw [h3] at hz; cases hz
      rw [Heap.put_ne this]; exact h.le _ _ hz
    · rw [List.length_set] at hk
      rw [getT_set hr]
      by_cases hkr : k = r
      · subst hkr
        right
        refine ⟨b, cp', by rw [if_pos rfl, List.length_set]; exact h1, by rw [if_pos rfl]; exact Heap.put_same, h3, h4⟩
      · rw [if_neg hkr]
        rcases h.row k hk with h5 | ⟨b2, cp2, q1, q2, q3, q4⟩
        · exact .inl h5
        · right
          have := h.dis k r b2 b _ _ _ _ hkr q1 h1
          exact ⟨b2, cp2, q1, by rw [Heap.put_ne this]; exact q2, q3, q4⟩

/-- The first rows of a table from which a plan is taken. -/
def takeK (t : Tb) (p : List Int) (x : Int) (i : Nat) : Tb := (List.range t.length).map fun r => if r < i then (row t r).set (p.getD r 0).toNat (cell t r (p.getD r 0).toNat - x) else row t r
def takeT (t : Tb) (p : List Int) (x : Int) : Tb := takeK t p x p.length
@[simp] theorem takeK_length (t : Tb) (p : List Int) (x : Int) (i : Nat) : (takeK t p x i).length = t.length := by simp [takeK]
theorem takeK_get {t : Tb} {p : List Int} {x : Int} {i r : Nat} (hr : r < t.length) : (takeK t p x i).getD r [] = if r < i then (row t r).set (p.getD r 0).toNat (cell t r (p.getD r 0).toNat - x) else row t r := by
  simp [takeK, List.getD_eq_getElem?_getD, hr]
theorem takeK_zero (t : Tb) (p : List Int) (x : Int) : takeK t p x 0 = t := by
  refine ext_T (by simp) fun r hr => ?_
  rw [takeK_length] at hr
  rw [takeK_get hr, if_neg (by omega)]; rfl
theorem takeK_step {t : Tb} {p : List Int} {x : Int} {i : Nat} (hi : i < t.length) : (takeK t p x i).set i ((row t i).set (p.getD i 0).toNat (cell t i (p.getD i 0).toNat - x)) = takeK t p x (i + 1) := by
  refine ext_T (by simp) fun r hr => ?_
  simp only [List.length_set, takeK_length] at hr
  rw [getT_set (by simpa using hi), takeK_get hr, takeK_get hr]
  by_cases h : r = i
  · subst h; rw [if_pos rfl, if_pos (by omega)]
  · rw [if_neg h]
    by_cases h2 : r < i
    · rw [if_pos h2, if_pos (by omega)]
    · rw [if_neg h2, if_neg (by omega)]
/-- take -/
theorem c91 {H0 H : Heap} {bo : Nat} {cells : List AV} {t : Tbl} {n : Nat} {cp : Option Nat} {u : AV} {p : List Int} {x : Int} {K : AV → Heap → Prop} (h : PT H0 H bo cells t) (hn : n = t.length) (hu : Reads H0 u p) (hpl : p.length ≤ t.length)
    (hp : ∀ r, r < p.length → 0 ≤ p.getD r 0 ∧ (p.getD r 0).toNat < (t.getD r []).length) (hb : ∀ r c, -1000000 ≤ cell t r c ∧ cell t r c ≤ 1000000) (hx : -1000000 ≤ x ∧ x ≤ 1000000) (hl : t.length < 1000)
    (hk : ∀ H', PT H0 H' bo cells (takeT t p x) → K (.tup []) H') : ACalls Tryd.prog 91 [.ref 1 bo 0 n cp, u, .int .i64 x] H K := by
  apply W91_ok
  unfold W91
  simp only [letO_some, cellsOf?_agg, cellsOf?_int, cellsOf?_bool, cellsOf?_imm, cellsOf?_ref, cellsOf?_nils, faddr_iptr, faddr_ptr, List.drop_succ_cons, List.drop_zero, List.take_succ_cons, List.take_zero, load1_iptr, loadN_iptr, List.length_cons, List.length_nil, Nat.le_refl, if_true, List.getElem?_cons_zero, List.getElem?_cons_succ, List.getD_cons_zero, List.getD_cons_succ, extrF_tup, binF_add, binF_sub, binF_mul, binF_eql, binF_neq, binF_lss, binF_leq, binF_gtr, binF_geq, true_and, hu.len]
  refine ⟨fun L H' => ∃ i : Nat, eqt L [.int .i64 i] ∧ i ≤ p.length ∧ PT H0 H' bo cells (takeK t p x i), fun L _ => (p.length - iv L 0).toNat, ⟨0, rfl, by omega, by rw [takeK_zero]; exact h⟩, ?_⟩
  rintro L H' ⟨i, rfl, hi, hP⟩
  try simp only [letO_some, cellsOf?_agg, cellsOf?_int, cellsOf?_bool, cellsOf?_imm, cellsOf?_ref, cellsOf?_nils, faddr_iptr, faddr_ptr, List.drop_succ_cons, List.drop_zero, List.take_succ_cons, List.take_zero, load1_iptr, loadN_iptr, List.length_cons, List.length_nil, Nat.le_refl, if_true, List.getElem?_cons_zero, List.getElem?_cons_succ, List.getD_cons_zero, List.getD_cons_succ, extrF_tup, binF_add, binF_sub, binF_mul, binF_eql, binF_neq, binF_lss, binF_leq, binF_gtr, binF_geq, true_and]
  refine condA_t (fun hlt => ?_) (fun hge => ?_)
  · have a1 : i < p.length := by omega
    have hit : i < t.length := by omega
    refine hu.get hP.le (by omega) (by omega) ?_
    rw [Int.toNat_natCast]
    have hpi := hp i a1
    have hc2 : ((takeK t p x i).getD i []).length = (t.getD i []).length := by rw [takeK_get hit, if_neg (by omega)]; rfl
    have hrow : (takeK t p x i).getD i [] = row t i := by rw [takeK_get hit, if_neg (by omega)]
    have hcell : ((takeK t p x i).getD i []).getD (p.getD i 0).toNat 0 = cell t i (p.getD i 0).toNat := by rw [hrow]; rfl
    have hbb := hb i (p.getD i 0).toNat
    obtain ⟨w, q, q1, q2, q3, q4, q5⟩ := PT.cell cp hP (r := i) (c := (p.getD i 0).toNat) (by simpa using hit) (by rw [hc2]; exact hpi.2)
    rw [takeK_length, ← hn] at q1
    rw [show ((p.getD i 0).toNat : Int) = p.getD i 0 by omega] at q3
    rw [hcell] at q4
    rw [hrow] at q5
    simp only [q1, q2, q3, q4, letO_some, binF_sub, binF_add]
    rw [wrap_i64 (n := cell t i (p.getD i 0).toNat - x) (by omega) (by omega)]
    refine q5 _ _ fun H5 hP5 => ?_
    rw [takeK_step hit] at hP5
    rw [wrap_i64 (by omega) (by omega)]
    exact ⟨⟨i + 1, rfl, by omega, hP5⟩, by simp <;> omega⟩
  · have hie : i = p.length := by omega
    subst hie
    exact endK_ret (hk _ hP)
end Go.Proofs.YtbofkeoebnjjkaaDoor

namespace Go.Proofs.YtbofkeoebnjjkaaDoor
open Go.Av Tab
set_option linter.unusedVariables false
set_option linter.unusedSimpArgs false
set_option maxRecDepth 4000

/-- Rows of one's own. -/
structure PR (H0 H : Heap) (cells : List AV) (t : Tbl) : Prop where
  le : H0.le H
  len : cells.length = t.length
  row : ∀ k, k < t.length → ∃ b cp, cells[k]? = some (.ref 1 b 0 (t.getD k []).length cp) ∧ H b = some (ints (t.getD k [])) ∧ H0 b = none
  dis : ∀ (j k bj bk nj nk : Nat) (cj ck : Option Nat), j ≠ k → cells[j]? = some (AV.ref 1 bj 0 nj cj) → cells[k]? = some (AV.ref 1 bk 0 nk ck) → bj ≠ bk
theorem PR.nil (H : Heap) : PR H H [] [] := ⟨Heap.le_refl H, rfl, fun k hk => by simp at hk, fun j k bj bk nj nk cj ck _ h => by simp at h⟩
theorem PR.push {H0 H : Heap} {cells : List AV} {t : Tbl} {b : Nat} {l : List Int} {cp : Option Nat} (h : PR H0 H cells t) (hb : H b = none) : PR H0 (H.put b (ints l)) (cells ++ [.ref 1 b 0 l.length cp]) (t ++ [l]) := by
  have hb0 : H0 b = none := none_of_le h.le hb
  have hrow : ∀ k, k < t.length → ∀ b2 n cp, cells[k]? = some (AV.ref 1 b2 0 n cp) → b2 ≠ b := by
    intro k hk b2 n cp h2
    obtain ⟨b3, cp3, q1, q2, _⟩ := h.row k hk
    rw [q1] at h2
    cases h2
    rintro rfl
    rw [q2] at hb; cases hb
  refine ⟨Heap.le_trans h.le (Heap.le_new hb), by simp [h.len], fun k hk => ?_, fun j k bj bk nj nk cj ck hjk hj hk => ?_⟩
  · rw [List.length_append, List.length_singleton] at hk
    by_cases hkt : k < t.length
    · obtain ⟨b2, cp2, q1, q2, q3⟩ := h.row k hkt
      have hne := hrow k hkt _ _ _ q1
      have e : (t ++ [l]).getD k [] = t.getD k [] := by rw [List.getD_eq_getElem?_getD, List.getElem?_append_left hkt, ← List.getD_eq_getElem?_getD]
      rw [e]
      exact ⟨b2, cp2, by rw [List.getElem?_append_left (by rw [h.len]; exact hkt)]; exact q1, by rw [Heap.put_ne hne]; exact q2, q3⟩
    · have : k = t.length := by omega
      subst this
      have e : (t ++ [l]).getD t.length [] = l := by rw [List.getD_eq_getElem?_getD, List.getElem?_append_right (Nat.le_refl _)]; simp
      rw [e]
      exact ⟨b, cp, by rw [List.getElem?_append_right (by rw [h.len]; omega), h.len]; simp, Heap.put_same, hb0⟩
  · have lt : ∀ {k : Nat} {x : AV}, (cells ++ [AV.ref 1 b 0 l.length cp])[k]? = some x → k < t.length ∧ cells[k]? = some x ∨ k = t.length ∧ x = .ref 1 b 0 l.length cp := by
      intro k x hx
      by_cases hkt : k < t.length
      · rw [List.getElem?_append_left (by rw [h.len]; exact hkt)] at hx
        exact .inl ⟨hkt, hx⟩
      · rw [List.getElem?_append_right (by rw [h.len]; omega), h.len] at hx
        have hk2 : k - t.length = 0 := by
          have := (List.getElem?_eq_some_iff.1 hx).1
          simp at this; omega
        rw [hk2] at hx
        simp at hx
        exact .inr ⟨by omega, hx.symm⟩
    rcases lt hj with ⟨j1, j2⟩ | ⟨j1, j2⟩
    · rcases lt hk with ⟨k1, k2⟩ | ⟨k1, k2⟩
      · exact h.dis j k bj bk nj nk cj ck hjk j2 k2
      · cases k2
        exact hrow j j1 _ _ _ j2
    · rcases lt hk with ⟨k1, k2⟩ | ⟨k1, k2⟩
      · cases j2
        exact Ne.symm (hrow k k1 _ _ _ k2)
      · omega
theorem PR.pt {H0 H : Heap} {cells : List AV} {t : Tbl} {bo : Nat} (h : PR H0 H cells t) (hb : H bo = none) : PT H0 (H.put bo cells) bo cells t := by
  refine ⟨Heap.le_trans h.le (Heap.le_new hb), none_of_le h.le hb, Heap.put_same, h.len, fun k hk => .inr ?_, h.dis⟩
  obtain ⟨b, cp, q1, q2, q3⟩ := h.row k hk
  have hne : b ≠ bo := by rintro rfl; rw [q2] at hb; cases hb
  exact ⟨b, cp, q1, by rw [Heap.put_ne hne]; exact q2, q3, hne⟩
theorem PT.pr {H0 H : Heap} {cells : List AV} {t : Tbl} {bo : Nat} (h : PT H0 H bo cells t) (hn : ∀ l ∈ t, l ≠ []) : PR H0 (H.del bo) cells t := by
  refine ⟨fun z w hz => ?_, h.len, fun k hk => ?_, h.dis⟩
  · have : z ≠ bo := by rintro rfl; rw [h.fo] at hz; cases hz
    simp only [Heap.del, if_neg this]; exact h.le _ _ hz
  · rcases h.row k hk with ⟨_, h2⟩ | ⟨b, cp, q1, q2, q3, q4⟩
    · have : t.getD k [] ∈ t := by rw [List.getD_eq_getElem?_getD]; simp [hk]
      exact absurd h2 (hn _ this)
    · exact ⟨b, cp, q1, by simp only [Heap.del, if_neg q4]; exact q2, q3⟩
/-- copied -/
theorem c90 {v : AV} {t : Tbl} {H : Heap} {K : AV → Heap → Prop} (hv : RT H v t) (hl : t.length < 1000) (hn : 1 ≤ t.length) (hr : ∀ l ∈ t, l ≠ [] ∧ l.length < 1000) (hk : ∀ bo cells H', PT H H' bo cells t → K (.ref 1 bo 0 t.length none) H') : ACalls Tryd.prog 90 [v] H K := by
  apply W90_ok
  unfold W90
  simp only [letO_some, cellsOf?_agg, cellsOf?_int, cellsOf?_bool, cellsOf?_imm, cellsOf?_ref, cellsOf?_nils, faddr_iptr, faddr_ptr, List.drop_succ_cons, List.drop_zero, List.take_succ_cons, List.take_zero, load1_iptr, loadN_iptr, List.length_cons, List.length_nil, Nat.le_refl, if_true, List.getElem?_cons_zero, List.getElem?_cons_succ, List.getD_cons_zero, List.getD_cons_succ, extrF_tup, binF_add, binF_sub, binF_mul, binF_eql, binF_neq, binF_lss, binF_leq, binF_gtr, binF_geq, true_and, hv.len]
  refine ⟨fun L H' => ∃ (i : Nat) (X : AV), eqt L [X, .int .i64 i] ∧ i ≤ t.length ∧ ((i = 0 ∧ X = .nils ∧ eqt H' H) ∨ ∃ bo cells, X = .ref 1 bo 0 i none ∧ PT H H' bo cells (t.take i)), fun L _ => (t.length - iv L 1).toNat, ⟨0, .nils, rfl, by omega, .inl ⟨rfl, rfl, rfl⟩⟩, ?_⟩
  rintro L H' ⟨i, X, rfl, hi, hX⟩
  try simp only [letO_some, cellsOf?_agg, cellsOf?_int, cellsOf?_bool, cellsOf?_imm, cellsOf?_ref, cellsOf?_nils, faddr_iptr, faddr_ptr, List.drop_succ_cons, List.drop_zero, List.take_succ_cons, List.take_zero, load1_iptr, loadN_iptr, List.length_cons, List.length_nil, Nat.le_refl, if_true, List.getElem?_cons_zero, List.getElem?_cons_succ, List.getD_cons_zero, List.getD_cons_succ, extrF_tup, binF_add, binF_sub, binF_mul, binF_eql, binF_neq, binF_lss, binF_leq, binF_gtr, binF_geq, true_and]
  have hle : H.le H' := by
    rcases hX with ⟨_, _, rfl⟩ | ⟨bo, cells, _, hP⟩
    · exact Heap.le_refl _
    · exact hP.le
  refine condA_t (fun hlt => ?_) (fun hge => ?_)
  · have a1 : i < t.length := by omega
    refine hv.get hle (by omega) (by omega) fun a ha => ?_
    rw [Int.toNat_natCast] at ha
    have hm : t.getD i [] ∈ t := by rw [List.getD_eq_getElem?_getD]; simp [a1]
    have htk : t.take (i + 1) = t.take i ++ [t.getD i []] := by
      rw [List.take_add_one, List.getElem?_eq_getElem a1, List.getD_eq_getElem?_getD, List.getElem?_eq_getElem a1]; rfl
    obtain ⟨r1, r2⟩ := hr _ hm
    generalize t.getD i [] = l at *
    refine c59 (ha.le hle) r1 (by omega) fun b hb => ?_
    try simp only [l22 (show cellsOf? (.ref 1 b 0 l.length none) = some [.ref 1 b 0 l.length none] from rfl), letO_some]
    rw [wrap_i64 (by omega) (by omega)]
    -- the rows, and the block that held them
    have key : ∀ (Hx : Heap) (cells : List AV) (X : AV), PR H Hx cells (t.take i) → Hx b = none → Grow 1 (Hx.put b (ints l)) (H'.put b (ints l)) X i cells → appendA 1 24 X (.imm 1 true [.ref 1 b 0 l.length none]) (fun t16 H7 =>
        (∃ (i' : Nat) (X : AV), eqt [t16, .int .i64 ((i : Int) + 1)] [X, .int .i64 i'] ∧ i' ≤ t.length ∧ ((i' = 0 ∧ X = .nils ∧ eqt H7 H) ∨ ∃ bo cells, X = .ref 1 bo 0 i' none ∧ PT H H7 bo cells (t.take i'))) ∧
          (t.length - iv [t16, .int .i64 ((i : Int) + 1)] 1).toNat < (t.length - iv [X, .int .i64 (i : Int)] 1).toNat) (H'.put b (ints l)) := by
      intro Hx cells X hPR hbx hg
      refine appendA_growR hg (m := 1) (new := [.ref 1 b 0 l.length none]) (by simp [srcOf]) rfl rfl (by omega) (by omega) (by omega) fun v2 H2 hg2 ho2 => ?_
      obtain ⟨b2, hb2, rfl, rfl⟩ := hg2.own ho2
      have hP2 := (hPR.push (l := l) (cp := none) hbx).pt hb2
      rw [← htk] at hP2
      exact ⟨⟨i + 1, _, rfl, by omega, .inr ⟨b2, _, rfl, hP2⟩⟩, by simp <;> omega⟩
    rcases hX with ⟨rfl, rfl, rfl⟩ | ⟨bo, cells, rfl, hP⟩
    · exact key H' [] .nils (PR.nil H') hb (Grow.nils 1 _)
    · have hbo : b ≠ bo := by rintro rfl; rw [hP.out] at hb; cases hb
      refine key (H'.del bo) cells _ (hP.pr fun l hl => (hr l (List.mem_of_mem_take hl)).1) (by simp only [Heap.del, if_neg hbo]; exact hb) ?_
      have hd : ((H'.del bo).put b (ints l)) bo = none := by rw [Heap.put_ne (Ne.symm hbo)]; simp [Heap.del]
      have hput : H'.put b (ints l) = ((H'.del bo).put b (ints l)).put bo cells := by
        funext y
        simp only [Heap.put, Heap.del]
        by_cases hy : y = bo
        · subst hy; rw [if_pos rfl, if_neg (Ne.symm hbo)]; exact hP.out
        · rw [if_neg hy, if_neg hy]
      have := Grow.ref (sz := 1) (H := (H'.del bo).put b (ints l)) (b := bo) (n := i) (cells := cells) hd (by rw [hP.len, List.length_take]; omega)
      rwa [← hput] at this
  · have hie : i = t.length := by omega
    subst hie
    rcases hX with ⟨h0, _, _⟩ | ⟨bo, cells, rfl, hP⟩
    · omega
    · rw [List.take_length] at hP
      try simp only [letO_some]
      exact endK_ret (hk bo cells H' hP)
end Go.Proofs.YtbofkeoebnjjkaaDoor

namespace Go.Proofs.YtbofkeoebnjjkaaDoor
open Go.Av Tab
set_option linter.unusedVariables false
set_option linter.unusedSimpArgs false
set_option maxRecDepth 4000

theorem lt16 {s : Nat} (h : s < 16) : s = 0 ∨ s = 1 ∨ s = 2 ∨ s = 3 ∨ s = 4 ∨ s = 5 ∨ s = 6 ∨ s = 7 ∨ s = 8 ∨ s = 9 ∨ s = 10 ∨ s = 11 ∨ s = 12 ∨ s = 13 ∨ s = 14 ∨ s = 15 := by omega
theorem lt4 {s : Nat} (h : s < 4) : s = 0 ∨ s = 1 ∨ s = 2 ∨ s = 3 := by omega
/-- A set as a list. -/
def lst (s : Nat) : List Nat := (List.range 4).filter fun c => s.testBit c
def tzN (s : Nat) : Nat := (lst s).headD 0
def clr (s : Nat) : Nat := s &&& (s - 1)
theorem lst_step {s : Nat} (h : s < 16) (h0 : s ≠ 0) : lst s = tzN s :: lst (clr s) ∧ clr s < s := by
  rcases lt16 h with rfl | rfl | rfl | rfl | rfl | rfl | rfl | rfl | rfl | rfl | rfl | rfl | rfl | rfl | rfl | rfl <;> first | exact absurd rfl h0 | decide
theorem sub_one {s : Nat} (h : s < 16) (h0 : s ≠ 0) : binF Tryd.prog .sub 101 (.int .u64 (s : Int)) (.int .u64 1) = some (.int .u64 ((s - 1 : Nat) : Int)) := by
  rcases lt16 h with rfl | rfl | rfl | rfl | rfl | rfl | rfl | rfl | rfl | rfl | rfl | rfl | rfl | rfl | rfl | rfl <;> first | exact absurd rfl h0 | kernel_rfl
theorem and_clr {s : Nat} (h : s < 16) (h0 : s ≠ 0) : binF Tryd.prog .and 101 (.int .u64 (s : Int)) (.int .u64 ((s - 1 : Nat) : Int)) = some (.int .u64 (clr s : Nat)) := by
  rcases lt16 h with rfl | rfl | rfl | rfl | rfl | rfl | rfl | rfl | rfl | rfl | rfl | rfl | rfl | rfl | rfl | rfl <;> first | exact absurd rfl h0 | kernel_rfl
/-- math/bits.TrailingZeros -/
theorem c103 {s : Nat} {H : Heap} {K : AV → Heap → Prop} (h : s < 16) (h0 : s ≠ 0) (hk : K (.int .i64 (tzN s : Nat)) H) : ACalls Tryd.prog 103 [.int .u64 (s : Int)] H K := by
  apply W103_ok
  unfold W103
  simp only [letO_some, condA_ff]
  apply W108_ok
  unfold W108
  have hne : ((s : Int) == 0) = false := by rw [beq_eq_false_iff_ne]; omega
  simp only [letO_some, binF_eql, hne, condA_ff]
  have hk2 : endK (.int .i64 (tzN s : Nat)) H K := endK_ret hk
  have hk3 : endK (.int .i64 (tzN s : Nat)) H fun r H' => endK r H' K := endK_ret hk2
  revert hk3
  generalize (fun r H' => endK r H' K) = K'
  rcases lt16 h with rfl | rfl | rfl | rfl | rfl | rfl | rfl | rfl | rfl | rfl | rfl | rfl | rfl | rfl | rfl | rfl <;> first | exact absurd rfl h0 | exact fun hk3 => Eq.mpr (by kernel_rfl) hk3
def popN (s : Nat) : Nat := (lst s).length
/-- math/bits.OnesCount -/
theorem c84 {s : Nat} {H : Heap} {K : AV → Heap → Prop} (h : s < 16) (hk : K (.int .i64 (popN s : Nat)) H) : ACalls Tryd.prog 84 [.int .u64 (s : Int)] H K := by
  apply W84_ok
  unfold W84
  simp only [letO_some, condA_ff]
  apply W105_ok
  unfold W105
  have hk2 : endK (.int .i64 (popN s : Nat)) H K := endK_ret hk
  have hk3 : endK (.int .i64 (popN s : Nat)) H fun r H' => endK r H' K := endK_ret hk2
  revert hk3
  generalize (fun r H' => endK r H' K) = K'
  rcases lt16 h with rfl | rfl | rfl | rfl | rfl | rfl | rfl | rfl | rfl | rfl | rfl | rfl | rfl | rfl | rfl | rfl <;> exact fun hk3 => Eq.mpr (by kernel_rfl) hk3
theorem lst_len (s : Nat) : (lst s).length ≤ 4 := by
  unfold lst
  have := List.length_filter_le (fun c => s.testBit c) (List.range 4)
  simpa using this
/-- list -/
theorem c83 {s : Nat} {H : Heap} {K : AV → Heap → Prop} (h : s < 16) (hk : K (sl (up (lst s))) H) : ACalls Tryd.prog 83 [.int .u64 (s : Int)] H K := by
  apply W83_ok
  unfold W83
  simp only [letO_some, List.getD_cons_zero, List.getD_cons_succ, binF_neq, true_and]
  refine ⟨fun L H' => ∃ (s' : Nat) (done : List Nat) (X : AV), eqt L [X, .int .u64 (s' : Int)] ∧ s' < 16 ∧ Grow 1 H H' X done.length (ints (up done)) ∧ done ++ lst s' = lst s, fun L _ => (iv L 1).toNat, ⟨s, [], .nils, rfl, h, Grow.nils 1 H, rfl⟩, ?_⟩
  rintro L H' ⟨s', done, X, rfl, hs', hg, hd⟩
  simp only [letO_some, List.getD_cons_zero, List.getD_cons_succ, binF_neq, true_and]
  by_cases h0 : s' = 0
  · subst h0
    have e : (((0 : Nat) : Int) != 0) = false := rfl
    simp only [e, condA_ff]
    have hl0 : lst 0 = [] := by decide
    rw [hl0, List.append_nil] at hd
    subst hd
    refine hg.end1 ?_
    simpa [sl] using hk
  · have e : ((s' : Int) != 0) = true := by rw [bne_iff_ne]; omega
    simp only [e, condA_tt]
    obtain ⟨l1, l2⟩ := lst_step hs' h0
    have hdl : done.length ≤ 4 := by
      have := lst_len s
      rw [← hd, List.length_append] at this; omega
    refine c103 hs' h0 ?_
    simp only [l23 cellsOf?_int, letO_some]
    refine appendA_one hg (by omega) fun v' H7 hg7 => ?_
    try simp only [sub_one hs' h0, and_clr hs' h0, letO_some]
    refine ⟨⟨clr s', done ++ [tzN s'], v', rfl, by omega, ?_, ?_⟩, by simp; omega⟩
    · have : up (done ++ [tzN s']) = up done ++ [((tzN s' : Nat) : Int)] := by simp [up]
      rw [this]; simpa using hg7
    · rw [← hd, l1]; simp
/-- A set of columns. -/
def b4 (a b c d : Bool) : Nat := cond a 1 0 + cond b 2 0 + cond c 4 0 + cond d 8 0
def bits4 (f : Nat → Bool) : Nat := b4 (f 0) (f 1) (f 2) (f 3)
theorem bits4_lt (f : Nat → Bool) : bits4 f < 16 := by
  unfold bits4
  generalize f 0 = a
  generalize f 1 = b
  generalize f 2 = c
  generalize f 3 = d
  cases a <;> cases b <;> cases c <;> cases d <;> decide
theorem bits4_test {f : Nat → Bool} {c : Nat} (h : c < 4) : (bits4 f).testBit c = f c := by
  unfold bits4
  have key : ∀ a b c' d : Bool, ∀ k, k < 4 → (b4 a b c' d).testBit k = (match k with | 0 => a | 1 => b | 2 => c' | _ => d) := by
    intro a b c' d k hk
    rcases lt4 hk with rfl | rfl | rfl | rfl <;> cases a <;> cases b <;> cases c' <;> cases d <;> rfl
  rw [key _ _ _ _ c h]
  rcases lt4 h with rfl | rfl | rfl | rfl <;> rfl
theorem bits4_congr {f g : Nat → Bool} (h : ∀ c, c < 4 → f c = g c) : bits4 f = bits4 g := by
  unfold bits4
  rw [h 0 (by omega), h 1 (by omega), h 2 (by omega), h 3 (by omega)]
theorem lst_bits (f : Nat → Bool) : lst (bits4 f) = (List.range 4).filter f := by
  unfold lst
  refine List.filter_congr fun c hc => ?_
  exact bits4_test (List.mem_range.1 hc)
theorem bits4_eq {s : Nat} (h : s < 16) : bits4 s.testBit = s := by
  rcases lt16 h with rfl | rfl | rfl | rfl | rfl | rfl | rfl | rfl | rfl | rfl | rfl | rfl | rfl | rfl | rfl | rfl <;> decide
theorem shl_one {c : Nat} (h : c ≤ 4) : binF Tryd.prog .shl 101 (.int .u64 1) (.int .i64 (c : Int)) = some (.int .u64 ((2 ^ c : Nat) : Int)) := by
  have : c = 0 ∨ c = 1 ∨ c = 2 ∨ c = 3 ∨ c = 4 := by omega
  rcases this with rfl | rfl | rfl | rfl | rfl <;> rfl
theorem full_set {n : Nat} (h : n ≤ 4) : binF Tryd.prog .sub 101 (.int .u64 ((2 ^ n : Nat) : Int)) (.int .u64 1) = some (.int .u64 ((bits4 (fun c => decide (c < n)) : Nat) : Int)) := by
  have : n = 0 ∨ n = 1 ∨ n = 2 ∨ n = 3 ∨ n = 4 := by omega
  rcases this with rfl | rfl | rfl | rfl | rfl <;> rfl
theorem andNot_bit {f : Nat → Bool} {c : Nat} (h : c < 4) : binF Tryd.prog .andNot 101 (.int .u64 ((bits4 f : Nat) : Int)) (.int .u64 ((2 ^ c : Nat) : Int)) = some (.int .u64 ((bits4 (fun k => f k && k != c) : Nat) : Int)) := by
  have key : ∀ a b c' d : Bool, ∀ k, k < 4 → binF Tryd.prog .andNot 101 (.int .u64 ((b4 a b c' d : Nat) : Int)) (.int .u64 ((2 ^ k : Nat) : Int)) = some (.int .u64 ((b4 (a && 0 != k) (b && 1 != k) (c' && 2 != k) (d && 3 != k) : Nat) : Int)) := by
    intro a b c' d k hk
    rcases lt4 hk with rfl | rfl | rfl | rfl <;> cases a <;> cases b <;> cases c' <;> cases d <;> rfl
  exact key _ _ _ _ c h
theorem or_bit {f : Nat → Bool} {c : Nat} (h : c < 4) : binF Tryd.prog .or 101 (.int .u64 ((bits4 f : Nat) : Int)) (.int .u64 ((2 ^ c : Nat) : Int)) = some (.int .u64 ((bits4 (fun k => f k || k == c) : Nat) : Int)) := by
  have key : ∀ a b c' d : Bool, ∀ k, k < 4 → binF Tryd.prog .or 101 (.int .u64 ((b4 a b c' d : Nat) : Int)) (.int .u64 ((2 ^ k : Nat) : Int)) = some (.int .u64 ((b4 (a || 0 == k) (b || 1 == k) (c' || 2 == k) (d || 3 == k) : Nat) : Int)) := by
    intro a b c' d k hk
    rcases lt4 hk with rfl | rfl | rfl | rfl <;> cases a <;> cases b <;> cases c' <;> cases d <;> rfl
  exact key _ _ _ _ c h

/-- Columns that have nothing in some rows. -/
def zerosB (t : Tb) (rows : List Nat) (c : Nat) : Bool := decide (c < t.length) && rows.all fun r => decide (¬ 0 < cell t r c)
def zerosN (t : Tb) (s : Nat) : Nat := bits4 (zerosB t (lst s))
theorem lst_mem {s c n : Nat} (hs : s < 2 ^ n) (h : c ∈ lst s) : c < n := by
  simp only [lst, List.mem_filter] at h
  have := Nat.ge_two_pow_of_testBit h.2
  have h3 : 2 ^ c < 2 ^ n := by omega
  exact (Nat.pow_lt_pow_iff_right (by omega)).1 h3
/-- zeros -/
theorem c82 {v : AV} {t : Tbl} {s : Nat} {H : Heap} {K : AV → Heap → Prop} (hc : chkT t = 0) (hv : RT H v t) (hs : s < 2 ^ t.length) (hk : K (.int .u64 ((zerosN t s : Nat) : Int)) H) : ACalls Tryd.prog 82 [v, .int .u64 (s : Int)] H K := by
  apply W82_ok
  unfold W82
  obtain ⟨n1, n2, hrows⟩ := chkT_ok hc
  have hs16 : s < 16 := by
    have : 2 ^ t.length ≤ 2 ^ 4 := Nat.pow_le_pow_right (by omega) n2
    have e : 2 ^ 4 = 16 := by decide
    omega
  simp only [letO_some, cellsOf?_agg, cellsOf?_int, cellsOf?_bool, cellsOf?_imm, cellsOf?_ref, cellsOf?_nils, faddr_iptr, faddr_ptr, List.drop_succ_cons, List.drop_zero, List.take_succ_cons, List.take_zero, load1_iptr, loadN_iptr, List.length_cons, List.length_nil, Nat.le_refl, if_true, List.getElem?_cons_zero, List.getElem?_cons_succ, List.getD_cons_zero, List.getD_cons_succ, extrF_tup, binF_add, binF_sub, binF_mul, binF_eql, binF_neq, binF_lss, binF_leq, binF_gtr, binF_geq, true_and, hv.len, shl_one n2, full_set n2]
  refine c83 hs16 ?_
  have q1 : lenA (sl (up (lst s))) = some (.int .i64 (lst s).length) := by simpa using (Reads.sl H (up (lst s))).len
  have hll := lst_len s
  simp only [q1, letO_some]
  refine ⟨fun L H' => ∃ i : Nat, eqt L [.int .u64 ((bits4 (zerosB t ((lst s).take i)) : Nat) : Int), .int .i64 i] ∧ i ≤ (lst s).length ∧ eqt H' H, fun L _ => ((lst s).length - iv L 1).toNat, ⟨0, ?_, by omega, rfl⟩, ?_⟩
  · have : bits4 (zerosB t ((lst s).take 0)) = bits4 (fun c => decide (c < t.length)) := bits4_congr fun c _ => by simp [zerosB]
    rw [this]; rfl
  rintro L H' ⟨i, rfl, hi, rfl⟩
  try simp only [letO_some, cellsOf?_agg, cellsOf?_int, cellsOf?_bool, cellsOf?_imm, cellsOf?_ref, cellsOf?_nils, faddr_iptr, faddr_ptr, List.drop_succ_cons, List.drop_zero, List.take_succ_cons, List.take_zero, load1_iptr, loadN_iptr, List.length_cons, List.length_nil, Nat.le_refl, if_true, List.getElem?_cons_zero, List.getElem?_cons_succ, List.getD_cons_zero, List.getD_cons_succ, extrF_tup, binF_add, binF_sub, binF_mul, binF_eql, binF_neq, binF_lss, binF_leq, binF_gtr, binF_geq, true_and]
  refine condA_t (fun hlt => ?_) (fun hge => ?_)
  · have a1 : i < (lst s).length := by omega
    refine (Reads.sl H' (up (lst s))).get (Heap.le_refl _) (by omega) (by simp; omega) ?_
    rw [Int.toNat_natCast]
    have g1 : (up (lst s)).getD i 0 = ((lst s)[i] : Nat) := by simp [up, List.getD_eq_getElem?_getD, a1]
    have hm := lst_mem hs (List.getElem_mem a1)
    have htk : (lst s).take (i + 1) = (lst s).take i ++ [(lst s)[i]] := by rw [List.take_add_one, List.getElem?_eq_getElem a1]; rfl
    rw [g1]
    generalize (lst s)[i] = r at *
    try simp only [letO_some, cellsOf?_agg, cellsOf?_int, cellsOf?_bool, cellsOf?_imm, cellsOf?_ref, cellsOf?_nils, faddr_iptr, faddr_ptr, List.drop_succ_cons, List.drop_zero, List.take_succ_cons, List.take_zero, load1_iptr, loadN_iptr, List.length_cons, List.length_nil, Nat.le_refl, if_true, List.getElem?_cons_zero, List.getElem?_cons_succ, List.getD_cons_zero, List.getD_cons_succ, extrF_tup, binF_add, binF_sub, binF_mul, binF_eql, binF_neq, binF_lss, binF_leq, binF_gtr, binF_geq, true_and]
    refine hv.get (Heap.le_refl _) (by omega) (by omega) fun a ha => ?_
    rw [Int.toNat_natCast] at ha
    have hrl : (t.getD r []).length = t.length := row_len hc hm
    simp only [ha.len, hrl, letO_some]
    refine ⟨fun L H'' => ∃ c : Nat, eqt L [.int .u64 ((bits4 (fun k => zerosB t ((lst s).take i) k && (decide (c ≤ k) || decide (¬ 0 < cell t r k))) : Nat) : Int), .int .i64 c] ∧ c ≤ t.length ∧ eqt H'' H', fun L _ => (t.length - iv L 1).toNat, ⟨0, ?_, by omega, rfl⟩, ?_⟩
    · have : bits4 (zerosB t ((lst s).take i)) = bits4 (fun k => zerosB t ((lst s).take i) k && (decide (0 ≤ k) || decide (¬ 0 < cell t r k))) := bits4_congr fun k _ => by simp
      rw [this]; rfl
    rintro L H'' ⟨c, rfl, hcn, rfl⟩
    try simp only [letO_some, cellsOf?_agg, cellsOf?_int, cellsOf?_bool, cellsOf?_imm, cellsOf?_ref, cellsOf?_nils, faddr_iptr, faddr_ptr, List.drop_succ_cons, List.drop_zero, List.take_succ_cons, List.take_zero, load1_iptr, loadN_iptr, List.length_cons, List.length_nil, Nat.le_refl, if_true, List.getElem?_cons_zero, List.getElem?_cons_succ, List.getD_cons_zero, List.getD_cons_succ, extrF_tup, binF_add, binF_sub, binF_mul, binF_eql, binF_neq, binF_lss, binF_leq, binF_gtr, binF_geq, true_and]
    refine condA_t (fun hlt2 => ?_) (fun hge2 => ?_)
    · have hct : c < t.length := by omega
      have hc4 : c < 4 := by omega
      refine ⟨fun L h => L = [.int .u64 ((bits4 (fun k => zerosB t ((lst s).take i) k && (decide (c + 1 ≤ k) || decide (¬ 0 < cell t r k))) : Nat) : Int)] ∧ h = H'', ?_, ?_⟩
      · refine ha.get (Heap.le_refl _) (by omega) (by rw [hrl]; omega) ?_
        rw [Int.toNat_natCast, show (t.getD r []).getD c 0 = cell t r c from rfl]
        try simp only [letO_some, cellsOf?_agg, cellsOf?_int, cellsOf?_bool, cellsOf?_imm, cellsOf?_ref, cellsOf?_nils, faddr_iptr, faddr_ptr, List.drop_succ_cons, List.drop_zero, List.take_succ_cons, List.take_zero, load1_iptr, loadN_iptr, List.length_cons, List.length_nil, Nat.le_refl, if_true, List.getElem?_cons_zero, List.getElem?_cons_succ, List.getD_cons_zero, List.getD_cons_succ, extrF_tup, binF_add, binF_sub, binF_mul, binF_eql, binF_neq, binF_lss, binF_leq, binF_gtr, binF_geq, true_and]
        refine condA_t (fun hpos => ?_) (fun hnp => ?_)
        · simp only [letO_some, cellsOf?_agg, cellsOf?_int, cellsOf?_bool, cellsOf?_imm, cellsOf?_ref, cellsOf?_nils, faddr_iptr, faddr_ptr, List.drop_succ_cons, List.drop_zero, List.take_succ_cons, List.take_zero, load1_iptr, loadN_iptr, List.length_cons, List.length_nil, Nat.le_refl, if_true, List.getElem?_cons_zero, List.getElem?_cons_succ, List.getD_cons_zero, List.getD_cons_succ, extrF_tup, binF_add, binF_sub, binF_mul, binF_eql, binF_neq, binF_lss, binF_leq, binF_gtr, binF_geq, true_and, shl_one (Nat.le_of_lt hc4), andNot_bit hc4]
          refine ⟨?_, by trivial⟩
          have : bits4 (fun k => zerosB t ((lst s).take i) k && (decide (c ≤ k) || decide (¬ 0 < cell t r k)) && k != c) = bits4 (fun k => zerosB t ((lst s).take i) k && (decide (c + 1 ≤ k) || decide (¬ 0 < cell t r k))) := bits4_congr fun k _ => by
            by_cases hkc : k = c
            · subst hkc; simp [hpos]
            · have e : decide (c ≤ k) = decide (c + 1 ≤ k) := by rw [decide_eq_decide]; omega
              rw [e]
              have : (k != c) = true := by simp [hkc]
              rw [this, Bool.and_true]
          rw [this]
        · refine ⟨?_, by trivial⟩
          have : bits4 (fun k => zerosB t ((lst s).take i) k && (decide (c ≤ k) || decide (¬ 0 < cell t r k))) = bits4 (fun k => zerosB t ((lst s).take i) k && (decide (c + 1 ≤ k) || decide (¬ 0 < cell t r k))) := bits4_congr fun k _ => by
            by_cases hkc : k = c
            · subst hkc; simp [hnp]
            · have e : decide (c ≤ k) = decide (c + 1 ≤ k) := by rw [decide_eq_decide]; omega
              rw [e]
          rw [this]
      · rintro L h ⟨rfl, rfl⟩
        try simp only [letO_some, cellsOf?_agg, cellsOf?_int, cellsOf?_bool, cellsOf?_imm, cellsOf?_ref, cellsOf?_nils, faddr_iptr, faddr_ptr, List.drop_succ_cons, List.drop_zero, List.take_succ_cons, List.take_zero, load1_iptr, loadN_iptr, List.length_cons, List.length_nil, Nat.le_refl, if_true, List.getElem?_cons_zero, List.getElem?_cons_succ, List.getD_cons_zero, List.getD_cons_succ, extrF_tup, binF_add, binF_sub, binF_mul, binF_eql, binF_neq, binF_lss, binF_leq, binF_gtr, binF_geq, true_and]
        rw [wrap_i64 (by omega) (by omega)]
        exact ⟨⟨c + 1, rfl, by omega, rfl⟩, by simp <;> omega⟩
    · have hce : c = t.length := by omega
      subst hce
      try simp only [letO_some, cellsOf?_agg, cellsOf?_int, cellsOf?_bool, cellsOf?_imm, cellsOf?_ref, cellsOf?_nils, faddr_iptr, faddr_ptr, List.drop_succ_cons, List.drop_zero, List.take_succ_cons, List.take_zero, load1_iptr, loadN_iptr, List.length_cons, List.length_nil, Nat.le_refl, if_true, List.getElem?_cons_zero, List.getElem?_cons_succ, List.getD_cons_zero, List.getD_cons_succ, extrF_tup, binF_add, binF_sub, binF_mul, binF_eql, binF_neq, binF_lss, binF_leq, binF_gtr, binF_geq, true_and]
      rw [wrap_i64 (by omega) (by omega)]
      refine ⟨⟨i + 1, ?_, by omega, rfl⟩, by simp <;> omega⟩
      have : bits4 (fun k => zerosB t ((lst s).take i) k && (decide (t.length ≤ k) || decide (¬ 0 < cell t r k))) = bits4 (zerosB t ((lst s).take (i + 1))) := bits4_congr fun k _ => by
        rw [htk]
        unfold zerosB
        rw [List.all_append]
        by_cases hk : k < t.length
        · have e : decide (t.length ≤ k) = false := decide_eq_false (by omega)
          simp [hk, e]
        · simp [hk]
      rw [this]; rfl
  · have hie : i = (lst s).length := by omega
    subst hie
    rw [List.take_length]
    try simp only [letO_some, cellsOf?_agg, cellsOf?_int, cellsOf?_bool, cellsOf?_imm, cellsOf?_ref, cellsOf?_nils, faddr_iptr, faddr_ptr, List.drop_succ_cons, List.drop_zero, List.take_succ_cons, List.take_zero, load1_iptr, loadN_iptr, List.length_cons, List.length_nil, Nat.le_refl, if_true, List.getElem?_cons_zero, List.getElem?_cons_succ, List.getD_cons_zero, List.getD_cons_succ, extrF_tup, binF_add, binF_sub, binF_mul, binF_eql, binF_neq, binF_lss, binF_leq, binF_gtr, binF_geq, true_and]
    exact endK_ret hk
end Go.Proofs.YtbofkeoebnjjkaaDoor

namespace Go.Proofs.YtbofkeoebnjjkaaDoor
open Go.Av Tab
set_option linter.unusedVariables false
set_option linter.unusedSimpArgs false
set_option maxRecDepth 4000

theorem wrap_u64 {n : Int} (h1 : 0 ≤ n) (h2 : n ≤ 9223372036854775807) : IntKind.u64.wrap n = n := by
  have e1 : (2 : Int) ^ 64 = 18446744073709551616 := by decide
  simp only [IntKind.wrap, IntKind.signed, IntKind.bits, Bool.false_and, e1, Bool.false_eq_true, if_false]
  omega
/-- The order of lists. -/
def cmpL : List Int → List Int → Int
  | [], [] => 0
  | [], _ :: _ => -1
  | _ :: _, [] => 1
  | a :: l, b :: m => if a < b then -1 else if b < a then 1 else cmpL l m
/-- cmp.isNaN, cmp.Compare -/
theorem c106 {a : Int} {H : Heap} {K : AV → Heap → Prop} (hk : K (.bool false) H) : ACalls Tryd.prog 106 [.int .i64 a] H K := by
  apply W106_ok
  unfold W106
  simp only [letO_some, cellsOf?_agg, cellsOf?_int, cellsOf?_bool, cellsOf?_imm, cellsOf?_ref, cellsOf?_nils, faddr_iptr, faddr_ptr, List.drop_succ_cons, List.drop_zero, List.take_succ_cons, List.take_zero, load1_iptr, loadN_iptr, List.length_cons, List.length_nil, Nat.le_refl, if_true, List.getElem?_cons_zero, List.getElem?_cons_succ, List.getD_cons_zero, List.getD_cons_succ, extrF_tup, binF_add, binF_sub, binF_mul, binF_eql, binF_neq, binF_lss, binF_leq, binF_gtr, binF_geq, true_and, bne_self_eq_false]
  exact endK_ret hk
theorem c99 {a b : Int} {H : Heap} {K : AV → Heap → Prop} (hk : K (.int .i64 (if a < b then -1 else if b < a then 1 else 0)) H) : ACalls Tryd.prog 99 [.int .i64 a, .int .i64 b] H K := by
  apply W99_ok
  unfold W99
  try simp only [letO_some, cellsOf?_agg, cellsOf?_int, cellsOf?_bool, cellsOf?_imm, cellsOf?_ref, cellsOf?_nils, faddr_iptr, faddr_ptr, List.drop_succ_cons, List.drop_zero, List.take_succ_cons, List.take_zero, load1_iptr, loadN_iptr, List.length_cons, List.length_nil, Nat.le_refl, if_true, List.getElem?_cons_zero, List.getElem?_cons_succ, List.getD_cons_zero, List.getD_cons_succ, extrF_tup, binF_add, binF_sub, binF_mul, binF_eql, binF_neq, binF_lss, binF_leq, binF_gtr, binF_geq, true_and]
  refine c106 ?_
  try simp only [letO_some, cellsOf?_agg, cellsOf?_int, cellsOf?_bool, cellsOf?_imm, cellsOf?_ref, cellsOf?_nils, faddr_iptr, faddr_ptr, List.drop_succ_cons, List.drop_zero, List.take_succ_cons, List.take_zero, load1_iptr, loadN_iptr, List.length_cons, List.length_nil, Nat.le_refl, if_true, List.getElem?_cons_zero, List.getElem?_cons_succ, List.getD_cons_zero, List.getD_cons_succ, extrF_tup, binF_add, binF_sub, binF_mul, binF_eql, binF_neq, binF_lss, binF_leq, binF_gtr, binF_geq, true_and]
  refine c106 ?_
  simp only [letO_some, cellsOf?_agg, cellsOf?_int, cellsOf?_bool, cellsOf?_imm, cellsOf?_ref, cellsOf?_nils, faddr_iptr, faddr_ptr, List.drop_succ_cons, List.drop_zero, List.take_succ_cons, List.take_zero, load1_iptr, loadN_iptr, List.length_cons, List.length_nil, Nat.le_refl, if_true, List.getElem?_cons_zero, List.getElem?_cons_succ, List.getD_cons_zero, List.getD_cons_succ, extrF_tup, binF_add, binF_sub, binF_mul, binF_eql, binF_neq, binF_lss, binF_leq, binF_gtr, binF_geq, true_and, condA_ff]
  refine condA_t (fun h => ?_) (fun h => ?_)
  · rw [if_pos h] at hk; exact endK_ret hk
  · rw [if_neg h] at hk
    try simp only [letO_some, cellsOf?_agg, cellsOf?_int, cellsOf?_bool, cellsOf?_imm, cellsOf?_ref, cellsOf?_nils, faddr_iptr, faddr_ptr, List.drop_succ_cons, List.drop_zero, List.take_succ_cons, List.take_zero, load1_iptr, loadN_iptr, List.length_cons, List.length_nil, Nat.le_refl, if_true, List.getElem?_cons_zero, List.getElem?_cons_succ, List.getD_cons_zero, List.getD_cons_succ, extrF_tup, binF_add, binF_sub, binF_mul, binF_eql, binF_neq, binF_lss, binF_leq, binF_gtr, binF_geq, true_and]
    refine condA_t (fun h2 => ?_) (fun h2 => ?_)
    · rw [if_pos h2] at hk; exact endK_ret hk
    · rw [if_neg h2] at hk; exact endK_ret hk
/-- slices.Compare -/
theorem c57 {v w : AV} {l m : List Int} {H : Heap} {K : AV → Heap → Prop} (hv : Reads H v l) (hw : Reads H w m) (hl : l.length < 2 ^ 63) (hk : K (.int .i64 (cmpL l m)) H) : ACalls Tryd.prog 57 [v, w] H K := by
  apply W57_ok
  unfold W57
  simp only [letO_some, cellsOf?_agg, cellsOf?_int, cellsOf?_bool, cellsOf?_imm, cellsOf?_ref, cellsOf?_nils, faddr_iptr, faddr_ptr, List.drop_succ_cons, List.drop_zero, List.take_succ_cons, List.take_zero, load1_iptr, loadN_iptr, List.length_cons, List.length_nil, Nat.le_refl, if_true, List.getElem?_cons_zero, List.getElem?_cons_succ, List.getD_cons_zero, List.getD_cons_succ, extrF_tup, binF_add, binF_sub, binF_mul, binF_eql, binF_neq, binF_lss, binF_leq, binF_gtr, binF_geq, true_and, hv.len]
  refine ⟨fun L H' => ∃ i : Nat, eqt L [.int .i64 i] ∧ i ≤ l.length ∧ i ≤ m.length ∧ eqt H' H ∧ cmpL l m = cmpL (l.drop i) (m.drop i), fun L _ => (l.length - iv L 0).toNat, ⟨0, rfl, by omega, by omega, rfl, by simp⟩, ?_⟩
  rintro L H' ⟨i, rfl, hi, him, rfl, he⟩
  try simp only [letO_some, cellsOf?_agg, cellsOf?_int, cellsOf?_bool, cellsOf?_imm, cellsOf?_ref, cellsOf?_nils, faddr_iptr, faddr_ptr, List.drop_succ_cons, List.drop_zero, List.take_succ_cons, List.take_zero, load1_iptr, loadN_iptr, List.length_cons, List.length_nil, Nat.le_refl, if_true, List.getElem?_cons_zero, List.getElem?_cons_succ, List.getD_cons_zero, List.getD_cons_succ, extrF_tup, binF_add, binF_sub, binF_mul, binF_eql, binF_neq, binF_lss, binF_leq, binF_gtr, binF_geq, true_and]
  refine condA_t (fun hlt => ?_) (fun hge => ?_)
  · have a1 : i < l.length := by omega
    refine hv.get (Heap.le_refl _) (by omega) (by omega) ?_
    rw [Int.toNat_natCast]
    have g1 : l.getD i 0 = l[i] := by simp [List.getD_eq_getElem?_getD, a1]
    rw [g1]
    rw [List.drop_eq_getElem_cons a1] at he
    simp only [letO_some, cellsOf?_agg, cellsOf?_int, cellsOf?_bool, cellsOf?_imm, cellsOf?_ref, cellsOf?_nils, faddr_iptr, faddr_ptr, List.drop_succ_cons, List.drop_zero, List.take_succ_cons, List.take_zero, load1_iptr, loadN_iptr, List.length_cons, List.length_nil, Nat.le_refl, if_true, List.getElem?_cons_zero, List.getElem?_cons_succ, List.getD_cons_zero, List.getD_cons_succ, extrF_tup, binF_add, binF_sub, binF_mul, binF_eql, binF_neq, binF_lss, binF_leq, binF_gtr, binF_geq, true_and, hw.len]
    refine condA_t (fun hge2 => ?_) (fun hlt2 => ?_)
    · have : m.drop i = [] := List.drop_of_length_le (by omega)
      rw [this, cmpL] at he
      rw [he] at hk
      exact endK_ret hk
    · have a2 : i < m.length := by omega
      refine hw.get (Heap.le_refl _) (by omega) (by omega) ?_
      rw [Int.toNat_natCast]
      have g2 : m.getD i 0 = m[i] := by simp [List.getD_eq_getElem?_getD, a2]
      rw [g2]
      rw [List.drop_eq_getElem_cons a2, cmpL] at he
      try simp only [letO_some, cellsOf?_agg, cellsOf?_int, cellsOf?_bool, cellsOf?_imm, cellsOf?_ref, cellsOf?_nils, faddr_iptr, faddr_ptr, List.drop_succ_cons, List.drop_zero, List.take_succ_cons, List.take_zero, load1_iptr, loadN_iptr, List.length_cons, List.length_nil, Nat.le_refl, if_true, List.getElem?_cons_zero, List.getElem?_cons_succ, List.getD_cons_zero, List.getD_cons_succ, extrF_tup, binF_add, binF_sub, binF_mul, binF_eql, binF_neq, binF_lss, binF_leq, binF_gtr, binF_geq, true_and]
      refine c99 ?_
      try simp only [letO_some, cellsOf?_agg, cellsOf?_int, cellsOf?_bool, cellsOf?_imm, cellsOf?_ref, cellsOf?_nils, faddr_iptr, faddr_ptr, List.drop_succ_cons, List.drop_zero, List.take_succ_cons, List.take_zero, load1_iptr, loadN_iptr, List.length_cons, List.length_nil, Nat.le_refl, if_true, List.getElem?_cons_zero, List.getElem?_cons_succ, List.getD_cons_zero, List.getD_cons_succ, extrF_tup, binF_add, binF_sub, binF_mul, binF_eql, binF_neq, binF_lss, binF_leq, binF_gtr, binF_geq, true_and]
      by_cases h1 : l[i] < m[i]
      · rw [if_pos h1] at he
        rw [he] at hk
        rw [if_pos h1]
        have e : ((-1 : Int) != 0) = true := by decide
        simp only [e, condA_tt]
        exact endK_ret hk
      · rw [if_neg h1] at he
        rw [if_neg h1]
        by_cases h2 : m[i] < l[i]
        · rw [if_pos h2] at he
          rw [he] at hk
          rw [if_pos h2]
          have e : ((1 : Int) != 0) = true := by decide
          simp only [e, condA_tt]
          exact endK_ret hk
        · rw [if_neg h2] at he
          rw [if_neg h2]
          have e : ((0 : Int) != 0) = false := by decide
          simp only [e, condA_ff]
          rw [wrap_i64 (by omega) (by omega)]
          exact ⟨⟨i + 1, rfl, by omega, by omega, rfl, he⟩, by simp <;> omega⟩
  · have hie : i = l.length := by omega
    subst hie
    rw [List.drop_length] at he
    simp only [hw.len, letO_some, binF_lss]
    refine condA_t (fun hlt => ?_) (fun hge => ?_)
    · have a2 : l.length < m.length := by omega
      rw [List.drop_eq_getElem_cons a2, cmpL] at he
      rw [he] at hk
      exact endK_ret hk
    · have : m.drop l.length = [] := List.drop_of_length_le (by omega)
      rw [this, cmpL] at he
      rw [he] at hk
      exact endK_ret hk

def rdE (n : Nat) : Int → List Int → Int
  | _, [] => 0
  | last, x :: r => if x < 0 ∨ (n : Int) ≤ x then 2 else if x ≤ last then 7 else rdE n x r
def memB (l : List Int) (c : Nat) : Bool := decide ((c : Int) ∈ l)
/-- A list of rows or columns as a set. -/
def readE (n : Nat) (l : List Int) : Nat × Int := if rdE n (-1) l = 0 then (bits4 (memB l), 0) else (0, rdE n (-1) l)
/-- read -/
theorem c87 {v : AV} {l : List Int} {n : Nat} {H : Heap} {K : AV → Heap → Prop} (hv : Reads H v l) (hn : n ≤ 4) (hl : l.length < 2 ^ 63) (hk : K (.tup [.int .u64 ((readE n l).1 : Nat), .int .i64 (readE n l).2]) H) : ACalls Tryd.prog 87 [.int .i64 n, v] H K := by
  apply W87_ok
  unfold W87
  simp only [letO_some, cellsOf?_agg, cellsOf?_int, cellsOf?_bool, cellsOf?_imm, cellsOf?_ref, cellsOf?_nils, faddr_iptr, faddr_ptr, List.drop_succ_cons, List.drop_zero, List.take_succ_cons, List.take_zero, load1_iptr, loadN_iptr, List.length_cons, List.length_nil, Nat.le_refl, if_true, List.getElem?_cons_zero, List.getElem?_cons_succ, List.getD_cons_zero, List.getD_cons_succ, extrF_tup, binF_add, binF_sub, binF_mul, binF_eql, binF_neq, binF_lss, binF_leq, binF_gtr, binF_geq, true_and, hv.len]
  refine ⟨fun L H' => ∃ (i : Nat) (last : Int), eqt L [.int .u64 ((bits4 (memB (l.take i)) : Nat) : Int), .int .i64 last, .int .i64 i] ∧ i ≤ l.length ∧ eqt H' H ∧ rdE n (-1) l = rdE n last (l.drop i), fun L _ => (l.length - iv L 2).toNat, ⟨0, -1, ?_, by omega, rfl, by simp⟩, ?_⟩
  · have : bits4 (memB (l.take 0)) = 0 := by rw [show memB (l.take 0) = fun _ => false from by funext c; simp [memB]]; rfl
    rw [this]; rfl
  rintro L H' ⟨i, last, rfl, hi, rfl, he⟩
  try simp only [letO_some, cellsOf?_agg, cellsOf?_int, cellsOf?_bool, cellsOf?_imm, cellsOf?_ref, cellsOf?_nils, faddr_iptr, faddr_ptr, List.drop_succ_cons, List.drop_zero, List.take_succ_cons, List.take_zero, load1_iptr, loadN_iptr, List.length_cons, List.length_nil, Nat.le_refl, if_true, List.getElem?_cons_zero, List.getElem?_cons_succ, List.getD_cons_zero, List.getD_cons_succ, extrF_tup, binF_add, binF_sub, binF_mul, binF_eql, binF_neq, binF_lss, binF_leq, binF_gtr, binF_geq, true_and]
  refine condA_t (fun hlt => ?_) (fun hge => ?_)
  · have a1 : i < l.length := by omega
    refine hv.get (Heap.le_refl _) (by omega) (by omega) ?_
    rw [Int.toNat_natCast]
    have g1 : l.getD i 0 = l[i] := by simp [List.getD_eq_getElem?_getD, a1]
    rw [g1]
    rw [List.drop_eq_getElem_cons a1, rdE] at he
    by_cases hbad : l[i] < 0 ∨ (n : Int) ≤ l[i]
    · rw [if_pos hbad] at he
      rw [readE, he, if_neg (by decide)] at hk
      by_cases hneg : l[i] < 0
      · simp only [letO_some, cellsOf?_agg, cellsOf?_int, cellsOf?_bool, cellsOf?_imm, cellsOf?_ref, cellsOf?_nils, faddr_iptr, faddr_ptr, List.drop_succ_cons, List.drop_zero, List.take_succ_cons, List.take_zero, load1_iptr, loadN_iptr, List.length_cons, List.length_nil, Nat.le_refl, if_true, List.getElem?_cons_zero, List.getElem?_cons_succ, List.getD_cons_zero, List.getD_cons_succ, extrF_tup, binF_add, binF_sub, binF_mul, binF_eql, binF_neq, binF_lss, binF_leq, binF_gtr, binF_geq, true_and, hneg, decide_true, gval_bool, Int.reduceBNe, Int.reduceBEq, pickF_true, pickF_false, reduceIte, Bool.true_eq_false, Bool.false_eq_true, if_false, condA_tt, condA_ff, condG_tt, condG_ff, condG_tt', condG_ff', condG_undef, gval_undef]
        exact endK_ret hk
      · have e2 : decide ((n : Int) ≤ l[i]) = true := decide_eq_true (by omega)
        simp only [letO_some, cellsOf?_agg, cellsOf?_int, cellsOf?_bool, cellsOf?_imm, cellsOf?_ref, cellsOf?_nils, faddr_iptr, faddr_ptr, List.drop_succ_cons, List.drop_zero, List.take_succ_cons, List.take_zero, load1_iptr, loadN_iptr, List.length_cons, List.length_nil, Nat.le_refl, if_true, List.getElem?_cons_zero, List.getElem?_cons_succ, List.getD_cons_zero, List.getD_cons_succ, extrF_tup, binF_add, binF_sub, binF_mul, binF_eql, binF_neq, binF_lss, binF_leq, binF_gtr, binF_geq, true_and, hneg, decide_false, gval_bool, Int.reduceBNe, Int.reduceBEq, pickF_true, pickF_false, reduceIte, Bool.true_eq_false, Bool.false_eq_true, if_false, condA_tt, condA_ff, condG_tt, condG_ff, condG_tt', condG_ff', condG_undef, gval_undef, e2]
        exact endK_ret hk
    · rw [if_neg hbad] at he
      have e2 : decide ((n : Int) ≤ l[i]) = false := decide_eq_false (by omega)
      have hneg : ¬ l[i] < 0 := by omega
      simp only [letO_some, cellsOf?_agg, cellsOf?_int, cellsOf?_bool, cellsOf?_imm, cellsOf?_ref, cellsOf?_nils, faddr_iptr, faddr_ptr, List.drop_succ_cons, List.drop_zero, List.take_succ_cons, List.take_zero, load1_iptr, loadN_iptr, List.length_cons, List.length_nil, Nat.le_refl, if_true, List.getElem?_cons_zero, List.getElem?_cons_succ, List.getD_cons_zero, List.getD_cons_succ, extrF_tup, binF_add, binF_sub, binF_mul, binF_eql, binF_neq, binF_lss, binF_leq, binF_gtr, binF_geq, true_and, hneg, decide_false, gval_bool, Int.reduceBNe, Int.reduceBEq, pickF_true, pickF_false, reduceIte, Bool.true_eq_false, Bool.false_eq_true, if_false, condA_tt, condA_ff, condG_tt, condG_ff, condG_tt', condG_ff', condG_undef, gval_undef, e2]
      refine condA_t (fun hle => ?_) (fun hgt => ?_)
      · rw [if_pos hle] at he
        rw [readE, he, if_neg (by decide)] at hk
        exact endK_ret hk
      · rw [if_neg hgt] at he
        obtain ⟨c, hc⟩ : ∃ c : Nat, l[i] = (c : Int) := ⟨l[i].toNat, by omega⟩
        have hc4 : c < 4 := by omega
        have htk : l.take (i + 1) = l.take i ++ [(c : Int)] := by rw [List.take_add_one, List.getElem?_eq_getElem a1, hc]; rfl
        rw [hc]
        simp only [shl_one (Nat.le_of_lt hc4), or_bit hc4, letO_some]
        rw [wrap_i64 (by omega) (by omega)]
        refine ⟨⟨i + 1, c, ?_, by omega, rfl, by rw [he, hc]⟩, by simp <;> omega⟩
        have : bits4 (fun k => memB (l.take i) k || k == c) = bits4 (memB (l.take (i + 1))) := bits4_congr fun k _ => by
          rw [htk]
          simp only [memB, List.mem_append, List.mem_singleton, Bool.decide_or]
          congr 1
          by_cases hkc : k = c
          · subst hkc; simp
          · have : ¬ ((k : Int) = (c : Int)) := by omega
            simp [hkc, this]
        rw [this]; rfl
  · have hie : i = l.length := by omega
    subst hie
    rw [List.drop_length, rdE] at he
    rw [readE, if_pos he] at hk
    rw [List.take_length]
    exact endK_ret hk
def andN (a b : Nat) : Nat := bits4 fun k => a.testBit k && !b.testBit k
theorem andNot_set {a b : Nat} (ha : a < 16) (hb : b < 16) : binF Tryd.prog .andNot 101 (.int .u64 (a : Int)) (.int .u64 (b : Int)) = some (.int .u64 ((andN a b : Nat) : Int)) := by
  rcases lt16 ha with rfl | rfl | rfl | rfl | rfl | rfl | rfl | rfl | rfl | rfl | rfl | rfl | rfl | rfl | rfl | rfl <;> rcases lt16 hb with rfl | rfl | rfl | rfl | rfl | rfl | rfl | rfl | rfl | rfl | rfl | rfl | rfl | rfl | rfl | rfl <;> rfl
/-- The error of a block. -/
def provesE (t : Tb) (rows cols : List Int) : Int :=
  if chkT t ≠ 0 then chkT t else if (readE t.length rows).2 ≠ 0 then (readE t.length rows).2 else if (readE t.length cols).2 ≠ 0 then (readE t.length cols).2 else
  if andN (readE t.length cols).1 (zerosN t (readE t.length rows).1) ≠ 0 ∨ popN (readE t.length rows).1 + popN (readE t.length cols).1 ≤ t.length then 14 else 0
theorem rdE_mem {n : Nat} : ∀ {l : List Int} {last : Int}, rdE n last l = 0 → ∀ x ∈ l, 0 ≤ x ∧ x < n
  | [], _, _ => by simp
  | a :: l, last, h => by
    unfold rdE at h
    split at h
    · cases h
    · rename_i h1
      split at h
      · cases h
      · intro x hx
        rcases List.mem_cons.1 hx with rfl | hx
        · omega
        · exact rdE_mem h x hx
theorem bits4_below {f : Nat → Bool} {n : Nat} (hn : n ≤ 4) (h : ∀ c, f c = true → c < n) : bits4 f < 2 ^ n := by
  have h0 := h 0
  have h1 := h 1
  have h2 := h 2
  have h3 := h 3
  unfold bits4
  revert h0 h1 h2 h3
  generalize f 0 = a
  generalize f 1 = b
  generalize f 2 = c
  generalize f 3 = d
  have : n = 0 ∨ n = 1 ∨ n = 2 ∨ n = 3 ∨ n = 4 := by omega
  rcases this with rfl | rfl | rfl | rfl | rfl <;> cases a <;> cases b <;> cases c <;> cases d <;> simp [b4]
theorem readE_lt {n : Nat} {l : List Int} (hn : n ≤ 4) : (readE n l).1 < 2 ^ n := by
  unfold readE
  split
  · rename_i h
    refine bits4_below hn fun c hc => ?_
    have := rdE_mem h _ (of_decide_eq_true hc)
    omega
  · exact Nat.pow_pos (by omega)
theorem lt16_of {s n : Nat} (hn : n ≤ 4) (h : s < 2 ^ n) : s < 16 := by
  have : 2 ^ n ≤ 2 ^ 4 := Nat.pow_le_pow_right (by omega) hn
  have e : 2 ^ 4 = 16 := by decide
  omega
theorem popN_le (s : Nat) : popN s ≤ 4 := lst_len s
/-- Proves -/
theorem c36 {v u w : AV} {t : Tbl} {rows cols : List Int} {H : Heap} {K : AV → Heap → Prop} (hv : RT H v t) (hu : Reads H u rows) (hw : Reads H w cols) (hl : t.length < 2 ^ 63) (hl2 : ∀ l ∈ t, l.length < 2 ^ 63) (hl3 : rows.length < 2 ^ 63) (hl4 : cols.length < 2 ^ 63) (hk : K (.int .i64 (provesE t rows cols)) H) : ACalls Tryd.prog 36 [v, u, w] H K := by
  apply W36_ok
  unfold W36
  simp only [letO_some, cellsOf?_agg, cellsOf?_int, cellsOf?_bool, cellsOf?_imm, cellsOf?_ref, cellsOf?_nils, faddr_iptr, faddr_ptr, List.drop_succ_cons, List.drop_zero, List.take_succ_cons, List.take_zero, load1_iptr, loadN_iptr, List.length_cons, List.length_nil, Nat.le_refl, if_true, List.getElem?_cons_zero, List.getElem?_cons_succ, List.getD_cons_zero, List.getD_cons_succ, extrF_tup, binF_add, binF_sub, binF_mul, binF_eql, binF_neq, binF_lss, binF_leq, binF_gtr, binF_geq, true_and]
  refine c30 hv hl hl2 ?_
  try simp only [letO_some, cellsOf?_agg, cellsOf?_int, cellsOf?_bool, cellsOf?_imm, cellsOf?_ref, cellsOf?_nils, faddr_iptr, faddr_ptr, List.drop_succ_cons, List.drop_zero, List.take_succ_cons, List.take_zero, load1_iptr, loadN_iptr, List.length_cons, List.length_nil, Nat.le_refl, if_true, List.getElem?_cons_zero, List.getElem?_cons_succ, List.getD_cons_zero, List.getD_cons_succ, extrF_tup, binF_add, binF_sub, binF_mul, binF_eql, binF_neq, binF_lss, binF_leq, binF_gtr, binF_geq, true_and]
  unfold provesE at hk
  by_cases hc : chkT t = 0
  · have e1 : (chkT t != 0) = false := by rw [hc]; rfl
    simp only [e1, condA_ff, hv.len, letO_some]
    rw [if_neg (by simp [hc])] at hk
    obtain ⟨n1, n2, hrows⟩ := chkT_ok hc
    refine c87 hu n2 hl3 ?_
    try simp only [letO_some, cellsOf?_agg, cellsOf?_int, cellsOf?_bool, cellsOf?_imm, cellsOf?_ref, cellsOf?_nils, faddr_iptr, faddr_ptr, List.drop_succ_cons, List.drop_zero, List.take_succ_cons, List.take_zero, load1_iptr, loadN_iptr, List.length_cons, List.length_nil, Nat.le_refl, if_true, List.getElem?_cons_zero, List.getElem?_cons_succ, List.getD_cons_zero, List.getD_cons_succ, extrF_tup, binF_add, binF_sub, binF_mul, binF_eql, binF_neq, binF_lss, binF_leq, binF_gtr, binF_geq, true_and]
    have hr2 := readE_lt (l := rows) n2
    have hc2 := readE_lt (l := cols) n2
    generalize hR : readE t.length rows = R at *
    generalize hC : readE t.length cols = C at *
    by_cases h2 : R.2 = 0
    · have e2 : (R.2 != 0) = false := by rw [h2]; rfl
      simp only [e2, condA_ff]
      rw [if_neg (by simp [h2])] at hk
      refine c87 hw n2 hl4 ?_
      rw [hC]
      try simp only [letO_some, cellsOf?_agg, cellsOf?_int, cellsOf?_bool, cellsOf?_imm, cellsOf?_ref, cellsOf?_nils, faddr_iptr, faddr_ptr, List.drop_succ_cons, List.drop_zero, List.take_succ_cons, List.take_zero, load1_iptr, loadN_iptr, List.length_cons, List.length_nil, Nat.le_refl, if_true, List.getElem?_cons_zero, List.getElem?_cons_succ, List.getD_cons_zero, List.getD_cons_succ, extrF_tup, binF_add, binF_sub, binF_mul, binF_eql, binF_neq, binF_lss, binF_leq, binF_gtr, binF_geq, true_and]
      by_cases h3 : C.2 = 0
      · have e3 : (C.2 != 0) = false := by rw [h3]; rfl
        simp only [e3, condA_ff]
        rw [if_neg (by simp [h3])] at hk
        refine c82 hc hv hr2 ?_
        have hR16 := lt16_of n2 hr2
        have hC16 := lt16_of n2 hc2
        have hZ16 : zerosN t R.1 < 16 := bits4_lt _
        simp only [andNot_set hC16 hZ16, letO_some, binF_neq]
        have hp1 := popN_le R.1
        have hp2 := popN_le C.1
        by_cases h4 : andN C.1 (zerosN t R.1) = 0
        · have e4 : (((andN C.1 (zerosN t R.1) : Nat) : Int) != 0) = false := by rw [h4]; rfl
          simp only [e4, letO_some, cellsOf?_agg, cellsOf?_int, cellsOf?_bool, cellsOf?_imm, cellsOf?_ref, cellsOf?_nils, faddr_iptr, faddr_ptr, List.drop_succ_cons, List.drop_zero, List.take_succ_cons, List.take_zero, load1_iptr, loadN_iptr, List.length_cons, List.length_nil, Nat.le_refl, if_true, List.getElem?_cons_zero, List.getElem?_cons_succ, List.getD_cons_zero, List.getD_cons_succ, extrF_tup, binF_add, binF_sub, binF_mul, binF_eql, binF_neq, binF_lss, binF_leq, binF_gtr, binF_geq, true_and, gval_bool, Int.reduceBNe, Int.reduceBEq, pickF_true, pickF_false, reduceIte, Bool.true_eq_false, Bool.false_eq_true, if_false, condA_tt, condA_ff, condG_tt, condG_ff, condG_tt', condG_ff', condG_undef, gval_undef]
          refine exJ ?_
          refine c84 hR16 ?_
          try simp only [letO_some, cellsOf?_agg, cellsOf?_int, cellsOf?_bool, cellsOf?_imm, cellsOf?_ref, cellsOf?_nils, faddr_iptr, faddr_ptr, List.drop_succ_cons, List.drop_zero, List.take_succ_cons, List.take_zero, load1_iptr, loadN_iptr, List.length_cons, List.length_nil, Nat.le_refl, if_true, List.getElem?_cons_zero, List.getElem?_cons_succ, List.getD_cons_zero, List.getD_cons_succ, extrF_tup, binF_add, binF_sub, binF_mul, binF_eql, binF_neq, binF_lss, binF_leq, binF_gtr, binF_geq, true_and, gval_bool, Int.reduceBNe, Int.reduceBEq, pickF_true, pickF_false, reduceIte, Bool.true_eq_false, Bool.false_eq_true, if_false, condA_tt, condA_ff, condG_tt, condG_ff, condG_tt', condG_ff', condG_undef, gval_undef]
          refine exJ ?_
          refine c84 hC16 ?_
          simp only [letO_some, cellsOf?_agg, cellsOf?_int, cellsOf?_bool, cellsOf?_imm, cellsOf?_ref, cellsOf?_nils, faddr_iptr, faddr_ptr, List.drop_succ_cons, List.drop_zero, List.take_succ_cons, List.take_zero, load1_iptr, loadN_iptr, List.length_cons, List.length_nil, Nat.le_refl, if_true, List.getElem?_cons_zero, List.getElem?_cons_succ, List.getD_cons_zero, List.getD_cons_succ, extrF_tup, binF_add, binF_sub, binF_mul, binF_eql, binF_neq, binF_lss, binF_leq, binF_gtr, binF_geq, true_and, gval_bool, Int.reduceBNe, Int.reduceBEq, pickF_true, pickF_false, reduceIte, Bool.true_eq_false, Bool.false_eq_true, if_false, condA_tt, condA_ff, condG_tt, condG_ff, condG_tt', condG_ff', condG_undef, gval_undef, hv.len]
          rw [wrap_i64 (by omega) (by omega)]
          refine condA_t (fun h5 => ?_) (fun h5 => ?_)
          · rw [if_pos (.inr (by omega))] at hk
            exact endK_ret hk
          · rw [if_neg (by intro h; rcases h with h | h; exact h h4; omega)] at hk
            exact endK_ret hk
        · have e4 : (((andN C.1 (zerosN t R.1) : Nat) : Int) != 0) = true := by rw [bne_iff_ne]; omega
          simp only [e4, letO_some, cellsOf?_agg, cellsOf?_int, cellsOf?_bool, cellsOf?_imm, cellsOf?_ref, cellsOf?_nils, faddr_iptr, faddr_ptr, List.drop_succ_cons, List.drop_zero, List.take_succ_cons, List.take_zero, load1_iptr, loadN_iptr, List.length_cons, List.length_nil, Nat.le_refl, if_true, List.getElem?_cons_zero, List.getElem?_cons_succ, List.getD_cons_zero, List.getD_cons_succ, extrF_tup, binF_add, binF_sub, binF_mul, binF_eql, binF_neq, binF_lss, binF_leq, binF_gtr, binF_geq, true_and, gval_bool, Int.reduceBNe, Int.reduceBEq, pickF_true, pickF_false, reduceIte, Bool.true_eq_false, Bool.false_eq_true, if_false, condA_tt, condA_ff, condG_tt, condG_ff, condG_tt', condG_ff', condG_undef, gval_undef]
          rw [if_pos (.inl h4)] at hk
          refine exU ?_
          try simp only [letO_some, cellsOf?_agg, cellsOf?_int, cellsOf?_bool, cellsOf?_imm, cellsOf?_ref, cellsOf?_nils, faddr_iptr, faddr_ptr, List.drop_succ_cons, List.drop_zero, List.take_succ_cons, List.take_zero, load1_iptr, loadN_iptr, List.length_cons, List.length_nil, Nat.le_refl, if_true, List.getElem?_cons_zero, List.getElem?_cons_succ, List.getD_cons_zero, List.getD_cons_succ, extrF_tup, binF_add, binF_sub, binF_mul, binF_eql, binF_neq, binF_lss, binF_leq, binF_gtr, binF_geq, true_and, gval_bool, Int.reduceBNe, Int.reduceBEq, pickF_true, pickF_false, reduceIte, Bool.true_eq_false, Bool.false_eq_true, if_false, condA_tt, condA_ff, condG_tt, condG_ff, condG_tt', condG_ff', condG_undef, gval_undef]
          refine exU ?_
          try simp only [letO_some, cellsOf?_agg, cellsOf?_int, cellsOf?_bool, cellsOf?_imm, cellsOf?_ref, cellsOf?_nils, faddr_iptr, faddr_ptr, List.drop_succ_cons, List.drop_zero, List.take_succ_cons, List.take_zero, load1_iptr, loadN_iptr, List.length_cons, List.length_nil, Nat.le_refl, if_true, List.getElem?_cons_zero, List.getElem?_cons_succ, List.getD_cons_zero, List.getD_cons_succ, extrF_tup, binF_add, binF_sub, binF_mul, binF_eql, binF_neq, binF_lss, binF_leq, binF_gtr, binF_geq, true_and, gval_bool, Int.reduceBNe, Int.reduceBEq, pickF_true, pickF_false, reduceIte, Bool.true_eq_false, Bool.false_eq_true, if_false, condA_tt, condA_ff, condG_tt, condG_ff, condG_tt', condG_ff', condG_undef, gval_undef]
          exact endK_ret hk
      · have e3 : (C.2 != 0) = true := by rw [bne_iff_ne]; exact h3
        simp only [e3, condA_tt]
        rw [if_pos h3] at hk
        exact endK_ret hk
    · have e2 : (R.2 != 0) = true := by rw [bne_iff_ne]; exact h2
      simp only [e2, condA_tt]
      rw [if_pos h2] at hk
      exact endK_ret hk
  · have e1 : (chkT t != 0) = true := by simp [hc]
    simp only [e1, condA_tt]
    rw [if_pos hc] at hk
    exact endK_ret hk
end Go.Proofs.YtbofkeoebnjjkaaDoor
