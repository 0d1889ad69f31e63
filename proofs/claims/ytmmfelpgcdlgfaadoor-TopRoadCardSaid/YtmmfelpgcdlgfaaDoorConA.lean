import Derived.Test.YtmmfelpgcdlgfaaDoorAvB
import Derived.KernelRfl
import Derived.Test.YtmmfelpgcdlgfaaDoorBase
import Derived.Laws.Strings
/- What the functions that the statements across layers reach compute: a contract each, in plain Lean. Conditions: each theorem names its own. -/
/- Laws on values and memory that contracts use. -/
set_option linter.unusedVariables false
set_option linter.unusedSimpArgs false
namespace Go.Av
theorem condA_tt {A B : Prop} : condA (.bool true) true A B ↔ A := ⟨fun h => h.1 rfl, fun h => ⟨fun _ => h, fun h' => absurd rfl h'⟩⟩
theorem condA_ff {A B : Prop} : condA (.bool false) true A B ↔ B := ⟨fun h => h.2 (by simp), fun h => ⟨fun h' => by simp at h', fun _ => h⟩⟩
theorem condG_tt {A B : Prop} : condG (.bool true) true A B ↔ A := ⟨fun h => h.1 rfl, fun h => ⟨fun _ => h, fun h' => absurd rfl h'⟩⟩
theorem condG_ff {A B : Prop} : condG (.bool false) true A B ↔ B := ⟨fun h => h.2 (by simp), fun h => ⟨fun h' => by simp at h', fun _ => h⟩⟩
theorem condG_ff' {A B : Prop} : condG (.bool false) false A B ↔ A := ⟨fun h => h.1 rfl, fun h => ⟨fun _ => h, fun h' => absurd rfl h'⟩⟩
theorem condG_tt' {A B : Prop} : condG (.bool true) false A B ↔ B := ⟨fun h => h.2 (by simp), fun h => ⟨fun h' => by simp at h', fun _ => h⟩⟩
theorem exU {H : Heap} {k : AV → Heap → Prop} (h : k (.tup []) H) : ∃ J : AV → Heap → Prop, J (.tup []) H ∧ ∀ t h, J t h → k t h := ⟨k, h, fun _ _ h => h⟩
theorem exJc {P : Program} {f : FuncId} {args : List AV} {H : Heap} {c : Bool} {k : AV → Heap → Prop} (h : ACalls P f args H k) : ∃ J : AV → Heap → Prop, condG (.bool c) c (ACalls P f args H fun t h => J t h) (J (.tup []) H) ∧ ∀ t h, J t h → k t h := ⟨k, ⟨fun _ => h, fun h' => absurd rfl h'⟩, fun _ _ h => h⟩
theorem exJ {P : Program} {f : FuncId} {args : List AV} {H : Heap} {k : AV → Heap → Prop} (h : ACalls P f args H k) : ∃ J : AV → Heap → Prop, (ACalls P f args H fun t h => J t h) ∧ ∀ t h, J t h → k t h := ⟨k, h, fun _ _ h => h⟩
theorem reads_src {H : Heap} {v : AV} {l : List Int} (h : Reads H v l) : srcOf 1 v H = some (l.length, ints l) := by
  cases v <;> simp only [Reads] at h <;> try exact h.elim
  · subst h; rfl
  · obtain ⟨rfl, rfl⟩ := h; simp [srcOf]
  · obtain ⟨rfl, rfl, cells, h1, h2, h3⟩ := h; simp [srcOf, h1, h2, h3]
theorem ints_flat (l : List Int) : ints l = l.flatMap fun x => [AV.int .i64 x] := by
  induction l with
  | nil => rfl
  | cons a l ih => rw [ints_cons, ih]; rfl
theorem grow_at {H0 H : Heap} {v : AV} {n : Nat} {l : List Int} {i : Nat} (h : Grow 1 H0 H v n (ints l)) (hr : isOwn v) (hi : i < n) :
    ∃ b, H0 b = none ∧ idx 1 v (.int .i64 (i : Int)) = some (.ptr b i) ∧ (∀ H', H.le H' → load1 (.ptr b i) H' = some (.int .i64 (l.getD i 0))) ∧
      ∀ (x : Int) (K : Heap → Prop), (∀ H', Grow 1 H0 H' v n (ints (l.set i x)) → load1 (.ptr b i) H' = some (.int .i64 x) → K H') → storeA 1 (.ptr b i) (.int .i64 x) K H := by
  obtain ⟨b, hb, rfl, rfl⟩ := h.own hr
  have hl : l.length = n := by simpa using h.1
  have hx : l[i]? = some (l.getD i 0) := by rw [List.getD_eq_getElem?_getD, List.getElem?_eq_getElem (by omega)]; rfl
  refine ⟨b, hb, ?_, ?_, ?_⟩
  · rw [idx_ref hi]; simp
  · intro H' hle
    exact load1_at (hle _ _ Heap.put_same) (by rw [ints_getElem?, hx]; rfl)
  · intro x K hK
    have e : splice (ints l) i [.int .i64 x] = ints (l.set i x) := by
      have := rows_set (f := fun x : Int => [AV.int .i64 x]) (sz := 1) (fun _ => rfl) (l := l) (i := i) (y := x) (by omega)
      rwa [← ints_flat, ← ints_flat, Nat.mul_one] at this
    refine storeA_of (cs := [.int .i64 x]) Heap.put_same rfl rfl rfl (by simp; omega) ?_
    rw [e, Heap.put_put]
    refine hK _ (Grow.ref hb (by simp [hl])) ?_
    refine load1_at Heap.put_same ?_
    rw [ints_getElem?, List.getElem?_set_self (by omega)]
    rfl
theorem alloc_grow {sz : Nat} {H0 H : Heap} {v : AV} {n b : Nat} {cells cs : List AV} (h : Grow sz H0 H v n cells) (hb : H b = none) : Grow sz (H0.put b cs) (H.put b cs) v n cells := by
  refine ⟨h.1, ?_⟩
  rcases h.2 with ⟨e, e2, rfl⟩ | ⟨e, rfl⟩ | ⟨b3, hb3, e, rfl⟩
  · exact .inl ⟨e, e2, rfl⟩
  · exact .inr (.inl ⟨e, rfl⟩)
  · have hne : b3 ≠ b := Heap.ne_of (Heap.put_same) hb
    exact .inr (.inr ⟨b3, by rw [Heap.put_ne hne]; exact hb3, e, Heap.put_comm hne⟩)
theorem alloc_store_le {n : Nat} {z cs : List AV} {x : AV} {k : AV → Heap → Prop} {H H0 : Heap} (h0 : H0.le H) (hx : cellsOf? x = some cs) (hs : cs.all isScalar = true) (hl : cs.length = n) (hz : z.length = n)
    (hk : ∀ b, H b = none → k (.ptr b 0) (H.put b cs)) : allocA z (fun t H3 => H0.le H3 ∧ storeA n t x (fun H4 => H0.le H4 ∧ k t H4) H3) H := by
  intro b hb
  refine ⟨Heap.le_trans h0 (Heap.le_new hb), ?_⟩
  refine storeA_of Heap.put_same hx hs hl (by simp [hl, hz]) ?_
  have : splice z 0 cs = cs := by simp [splice, hl, hz]
  rw [this, Heap.put_put]
  exact ⟨Heap.le_trans h0 (Heap.le_new hb), hk b hb⟩
theorem none_of_le {H H' : Heap} (h : H.le H') {b : Nat} (hb : H' b = none) : H b = none := by
  cases hx : H b with
  | none => rfl
  | some c => rw [h _ _ hx] at hb; cases hb
theorem slc_suf {H : Heap} {l : List Int} {k : Nat} (hk : k ≤ l.length) : ∃ v', slc 1 (sl l) (some (.int .i64 (k : Int))) none none = some v' ∧ Reads H v' (l.drop k) := by
  have n1 : ∀ d, natOf none d = some d := fun d => rfl
  have n2 : ∀ d, natOf (some (.int .i64 (k : Int))) d = some k := fun d => by simp [natOf]
  simp only [sl, slc, n1, n2, Option.bind_some]
  rw [if_pos ⟨hk, Nat.le_refl _⟩]
  refine ⟨_, rfl, by simp, ?_⟩
  rw [Nat.mul_one, Nat.mul_one, ints_drop, List.take_of_length_le (by simp)]
theorem slc_reads {H : Heap} {v : AV} {l : List Int} {i j : Nat} (h : Reads H v l) (hij : i < j) (hj : j ≤ l.length) :
    ∃ v', slc 1 v (some (.int .i64 (i : Int))) (some (.int .i64 (j : Int))) none = some v' ∧ Reads H v' ((l.drop i).take (j - i)) := by
  have n1 : ∀ d, natOf (some (.int .i64 (i : Int))) d = some i := fun d => by simp [natOf]
  have n2 : ∀ d, natOf (some (.int .i64 (j : Int))) d = some j := fun d => by simp [natOf]
  cases v <;> simp only [Reads] at h <;> try exact h.elim
  · subst h; simp at hj; omega
  · obtain ⟨rfl, rfl⟩ := h
    simp only [slc, n1, n2, Option.bind_some]
    rw [if_pos ⟨by omega, hj⟩]
    refine ⟨_, rfl, by simp; omega, ?_⟩
    rw [Nat.mul_one, Nat.mul_one, ints_drop, ints_take]
  · rename_i s b off n cp
    obtain ⟨rfl, rfl, cells, hb, hc, ht⟩ := h
    simp only [slc, n1, n2, Option.bind_some]
    rw [if_pos ⟨by trivial, by omega, hj, by omega⟩]
    refine ⟨_, rfl, rfl, by simp; omega, cells, hb, by omega, ?_⟩
    rw [Nat.mul_one, ← ints_take, ← ints_drop, ← ht, List.drop_take, List.take_take, List.drop_drop, Nat.min_eq_left (by omega)]
theorem slc_pre {H : Heap} {v : AV} {l : List Int} {k : Nat} (h : Reads H v l) (hk : k ≤ l.length) : ∃ v', slc 1 v none (some (.int .i64 (k : Int))) none = some v' ∧ Reads H v' (l.take k) := by
  have n1 : ∀ d, natOf none d = some d := fun d => rfl
  have n2 : ∀ d, natOf (some (.int .i64 (k : Int))) d = some k := fun d => by simp [natOf]
  cases v <;> simp only [Reads] at h <;> try exact h.elim
  · subst h
    have : k = 0 := by simpa using hk
    subst this
    simp only [slc, n1, n2, Option.bind_some]
    exact ⟨_, rfl, rfl⟩
  · obtain ⟨rfl, rfl⟩ := h
    simp only [slc, n1, n2, Option.bind_some]
    rw [if_pos ⟨by omega, hk⟩]
    refine ⟨_, rfl, by simp; omega, ?_⟩
    rw [Nat.mul_one, Nat.zero_mul, List.drop_zero, Nat.sub_zero, ints_take]
  · rename_i s b off n cp
    obtain ⟨rfl, rfl, cells, hb, hc, ht⟩ := h
    simp only [slc, n1, n2, Option.bind_some]
    rw [if_pos ⟨by trivial, by omega, hk, by simp⟩]
    refine ⟨_, rfl, rfl, by simp; omega, cells, hb, by omega, ?_⟩
    rw [Nat.zero_mul, Nat.add_zero, Nat.sub_zero, ← ints_take, ← ht, List.take_take, Nat.min_eq_left hk]
def lit (l : List Int) : AV := .imm l.length true (ints l)
theorem lit_reads (H : Heap) (l : List Int) : Reads H (lit l) l := ⟨rfl, rfl⟩
def eqt {α : Type} (a b : α) : Prop := a = b
theorem frz_sl {b n : Nat} {l : List Int} (hn : n = l.length) : frz1 b (ints l) (.ref 1 b 0 n none) = sl l := by
  subst hn
  have h : (0 : Nat) + l.length * 1 ≤ (ints l).length := by simp
  show (if b = b ∧ 0 + l.length * 1 ≤ (ints l).length then AV.imm l.length false (((ints l).drop 0).take (l.length * 1)) else .ref 1 b 0 l.length none) = sl l
  rw [if_pos ⟨rfl, h⟩, List.drop_zero, List.take_of_length_le (by simp)]
  rfl
theorem put_eq {H : Heap} {b : Nat} {cs : List AV} (h : H b = some cs) : H.put b cs = H := by
  funext x
  simp only [Heap.put]
  split
  · rename_i e; rw [e, h]
  · rfl
theorem not_v {b : Bool} : unF .not (.bool b) = some (.bool !b) := rfl
theorem conv_grow {H H1 H' : Heap} {X : AV} {n : Nat} {xs : List AV} (h : Grow 1 H1 H' X n xs) (hle : H.le H1) : conv H H' 2 X = .imm n false (xs.map (conv H H' 1)) := by
  have hn : n = xs.length := by have := h.1; omega
  rcases h.2 with ⟨rfl, h0, rfl⟩ | ⟨rfl, rfl⟩ | ⟨b, hb, rfl, rfl⟩
  · have : xs = [] := List.eq_nil_of_length_eq_zero (by omega)
    subst this
    simp [conv, h0]
  · rfl
  · exact conv_out (fresh_of hle hb) Heap.put_same 1 hn

/-- An element of a list of values. -/
theorem ReadsC.get {H H' : Heap} (hl : H.le H') {v : AV} {n : Nat} {cells : List AV} (h : ReadsC 1 H v n cells) {i : Int} {x : AV} {k : AV → Prop} (hi : 0 ≤ i) (hi2 : i < n) (hx : cells[i.toNat]? = some x)
    (hk : k x) : letO (idx 1 v (.int .i64 i)) fun p => letO (load1 p H') k := by
  obtain ⟨h0, h⟩ := h
  cases v <;> simp only at h <;> try exact h.elim
  · subst h; omega
  · obtain ⟨rfl, rfl⟩ := h
    simp only [idx, hi, hi2, and_self, if_true, letO_some, load1_iptr, Nat.mul_one, List.getElem?_drop, Nat.add_zero, hx]
    exact hk
  · rename_i s b off m cp
    obtain ⟨rfl, rfl, cs, h1, h2, h3⟩ := h
    have e : cs[off + i.toNat]? = some x := by
      rw [← h3, List.getElem?_take_of_lt (by omega), List.getElem?_drop] at hx
      exact hx
    simp only [idx, hi, hi2, and_self, if_true, letO_some, load1_ptr, hl _ _ h1, Option.bind_some, Nat.mul_one, e]
    exact hk

abbrev Tbl := List (List Int)
/-- A list of lists of numbers, in a state of memory. -/
def RT (H : Heap) (v : AV) (t : Tbl) : Prop := ∃ rows : List AV, ReadsC 1 H v t.length rows ∧ ∀ r, r < t.length → ∃ a, rows[r]? = some a ∧ Reads H a (t.getD r [])
/-- The list of lists, read and no more. -/
def tl (t : Tbl) : AV := .imm t.length false (t.map sl)
theorem RT.tl (H : Heap) (t : Tbl) : RT H (tl t) t := ⟨t.map sl, ⟨by simp, rfl, rfl⟩, fun r hr => ⟨sl (t.getD r []), by simp [List.getD_eq_getElem?_getD, hr], Reads.sl _ _⟩⟩
theorem RT.le {H H' : Heap} (hl : H.le H') {v : AV} {t : Tbl} (h : RT H v t) : RT H' v t := by
  obtain ⟨rows, h1, h2⟩ := h
  exact ⟨rows, h1.le hl, fun r hr => by obtain ⟨a, h3, h4⟩ := h2 r hr; exact ⟨a, h3, h4.le hl⟩⟩
theorem RT.len {H : Heap} {v : AV} {t : Tbl} (h : RT H v t) : lenA v = some (.int .i64 t.length) := by
  obtain ⟨rows, h1, _⟩ := h; exact h1.len
theorem RT.cells {H : Heap} {v : AV} {t : Tbl} (h : RT H v t) : cellsOf? v = some [v] := by
  obtain ⟨rows, h1, _⟩ := h; exact h1.cells
theorem RT.scalar {H : Heap} {v : AV} {t : Tbl} (h : RT H v t) : isScalar v = true := by
  obtain ⟨rows, h1, _⟩ := h; exact h1.scalar
/-- A row is read. -/
theorem RT.get {H H' : Heap} (hl : H.le H') {v : AV} {t : Tbl} (h : RT H v t) {i : Int} {k : AV → Prop} (hi : 0 ≤ i) (hi2 : i < t.length)
    (hk : ∀ a, Reads H a (t.getD i.toNat []) → k a) : letO (idx 1 v (.int .i64 i)) fun p => letO (load1 p H') k := by
  obtain ⟨rows, h1, h2⟩ := h
  obtain ⟨a, h3, h4⟩ := h2 i.toNat (by omega)
  exact h1.get hl hi hi2 h3 (hk a h4)
end Go.Av

namespace Go.Proofs.YtmmfelpgcdlgfaaDoor
open Go.Av
set_option linter.unusedVariables false
set_option linter.unusedSimpArgs false
set_option maxRecDepth 4000

/- Strings as lists of bytes. -/
def bs (l : List Nat) : ByteArray := ⟨(l.map UInt8.ofNat).toArray⟩
def st (l : List Nat) : AV := .str (bs l)
/-- All bytes are letters and the like. -/
def asc (l : List Nat) : Prop := ∀ x ∈ l, x < 128
theorem bs_size (l : List Nat) : (bs l).size = l.length := by
  show ((l.map UInt8.ofNat).toArray).size = _
  simp
theorem st_len (l : List Nat) : lenS (st l) = some (.int .i64 l.length) := by
  show some (AV.int .i64 ((bs l).size : Int)) = _
  rw [bs_size]
theorem bs_get {l : List Nat} {i : Nat} (h : i < l.length) : (bs l)[i]? = some (UInt8.ofNat (l.getD i 0)) := by
  have h2 : i < (bs l).size := by rw [bs_size]; exact h
  rw [getElem?_pos (bs l) i h2]
  congr 1
  show ((l.map UInt8.ofNat).toArray)[i]'(by simpa using h) = _
  simp [List.getD_eq_getElem?_getD, h]
theorem bs_none {l : List Nat} {i : Nat} (h : l.length ≤ i) : (bs l)[i]? = none := by
  rw [getElem?_neg]
  rw [bs_size]; omega
theorem ofNat_toNat {x : Nat} (h : x < 128) : (UInt8.ofNat x).toNat = x := by simp [UInt8.toNat_ofNat]; omega
theorem asc.get {l : List Nat} (h : asc l) {i : Nat} (hi : i < l.length) : l.getD i 0 < 128 := by
  rw [List.getD_eq_getElem?_getD, List.getElem?_eq_getElem hi]; exact h _ (List.getElem_mem hi)
theorem bs_ext {l : List Nat} {k : Nat} (hk : k ≤ l.length) : (bs l).extract k l.length = bs (l.drop k) := by
  apply ByteArray.ext
  simp [bs, ByteArray.data_extract, List.extract_eq_take_drop]
  rw [List.take_of_length_le (by simp)]
theorem st_drop {l : List Nat} {k : Nat} (hk : k ≤ l.length) : slcS (st l) (some (.int .i64 (k : Int))) none none = some (st (l.drop k)) := by
  have n1 : ∀ d, natOf none d = some d := fun d => rfl
  have n2 : ∀ d, natOf (some (.int .i64 (k : Int))) d = some k := fun d => by simp [natOf]
  show ((natOf (some (.int .i64 (k : Int))) 0).bind fun a => (natOf none (bs l).size).bind fun b => if a ≤ b ∧ b ≤ (bs l).size then some (AV.str ((bs l).extract a b)) else none) = _
  rw [n1, n2, Option.bind_some, Option.bind_some, bs_size, if_pos ⟨hk, Nat.le_refl _⟩, bs_ext hk]
  rfl
theorem bs_list (l : List Nat) : (bs l).toList = l.map UInt8.ofNat := ByteArray.toList_mk _
theorem st_eql {t : TypeId} {l m : List Nat} (hl : asc l) (hm : asc m) : binF Tryd.prog .eql t (st l) (st m) = some (.bool (decide (l = m))) := by
  show some (AV.bool ((bs l).toList == (bs m).toList)) = _
  rw [bs_list, bs_list]
  congr 2
  rw [Bool.eq_iff_iff, beq_iff_eq, decide_eq_true_iff]
  constructor
  · intro h
    have h2 := congrArg (List.map UInt8.toNat) h
    rw [List.map_map, List.map_map] at h2
    have e : ∀ l : List Nat, asc l → l.map (UInt8.toNat ∘ UInt8.ofNat) = l := fun l hl => by
      refine (List.map_congr_left fun x hx => ?_).trans (List.map_id l)
      exact ofNat_toNat (hl x hx)
    rw [e l hl, e m hm] at h2
    exact h2
  · rintro rfl; rfl
theorem st_neq {t : TypeId} {l m : List Nat} (hl : asc l) (hm : asc m) : binF Tryd.prog .neq t (st l) (st m) = some (.bool (decide (l ≠ m))) := by
  have h := st_eql (t := t) hl hm
  have h2 : binF Tryd.prog .eql t (st l) (st m) = some (.bool ((bs l).toList == (bs m).toList)) := rfl
  rw [h2] at h
  have h3 : ((bs l).toList == (bs m).toList) = decide (l = m) := by injection h with h; injection h
  show some (AV.bool !((bs l).toList == (bs m).toList)) = _
  rw [h3]
  by_cases e : l = m <;> simp [e]
theorem st_at {l : List Nat} (hl : asc l) {i : Nat} (hi : i < l.length) : indexF Tryd.prog 9 (st l) (.int .i64 (i : Int)) = some (.int .u8 (l.getD i 0 : Nat)) := by
  have h9 : Tryd.prog.underlying 9 = some .string := by kernel_rfl
  simp only [indexF, h9, st]
  rw [if_pos (by omega), Int.toNat_natCast, bs_get hi]
  simp only [Option.map_some]
  rw [ofNat_toNat (hl.get hi)]
/-- Bytes, as they are handed over. -/
def u8l (l : List Nat) : List AV := l.map fun (x : Nat) => .int .u8 (x : Int)
theorem bytes_st {l : List Nat} (hl : asc l) : bytesA (bs l) = u8l l := by
  unfold bytesA u8l bs
  rw [List.map_map]
  refine List.map_congr_left fun x hx => ?_
  simp only [Function.comp]
  rw [ofNat_toNat (hl x hx)]
theorem strOf_u8 : ∀ {l : List Nat}, asc l → strOf (u8l l) = some (l.map UInt8.ofNat)
  | [], _ => rfl
  | x :: l, h => by
    have h1 := h x (by simp)
    have h2 := strOf_u8 (l := l) fun y hy => h y (by simp [hy])
    show (if 0 ≤ (x : Int) ∧ (x : Int) < 256 then (strOf (u8l l)).map fun r => UInt8.ofNat ((x : Int)).toNat :: r else none) = _
    rw [if_pos (by omega), h2]; rfl

/-- One step of a range over a string. -/
theorem next_in {l : List Nat} (hl : asc l) {b pos : Nat} {put : AV → Heap → Prop} {H : Heap} (hb : H b = some [.int .i64 (pos : Int)]) (hp : pos < l.length)
    (hk : put (.tup [.bool true, .int .i64 (pos : Int), .int .i32 (l.getD pos 0 : Nat)]) (H.put b [.int .i64 ((pos + 1 : Nat) : Int)])) : nextA (.iter b (bs l)) put H := by
  refine ⟨pos, hb, ?_⟩
  rw [bs_get hp]
  have := hl.get hp
  simp only
  rw [ofNat_toNat this]
  exact ⟨this, hk⟩
theorem next_out {l : List Nat} {b pos : Nat} {put : AV → Heap → Prop} {H : Heap} (hb : H b = some [.int .i64 (pos : Int)]) (hp : l.length ≤ pos)
    (hk : put (.tup [.bool false]) H) : nextA (.iter b (bs l)) put H := by
  refine ⟨pos, hb, ?_⟩
  rw [bs_none hp]
  exact hk
def posOf (H : Heap) (b : Nat) : Nat := match H b with
  | some [.int _ n] => n.toNat
  | _ => 0
theorem posOf_put {H : Heap} {b n : Nat} : posOf (H.put b [.int .i64 (n : Int)]) b = n := by simp [posOf, Heap.put]
theorem posOf_eq {H : Heap} {b n : Nat} (h : H b = some [.int .i64 (n : Int)]) : posOf H b = n := by simp [posOf, h]
/-- What a word's check says. -/
def wordE (l : List Nat) : Int := if 10 < l.length then 19 else if l.all fun x => decide (97 ≤ x) && decide (x < 103) then 0 else 10
/-- short.Check -/
theorem c68 {l : List Nat} (hl : asc l) {H : Heap} {K : AV → Heap → Prop} (hk : K (.int .i64 (wordE l)) H) : ACalls Tryd.prog 68 [st l] H K := by
  apply W68_ok
  unfold W68
  simp only [letO_some, cellsOf?_agg, cellsOf?_int, cellsOf?_bool, cellsOf?_imm, cellsOf?_ref, cellsOf?_nils, faddr_iptr, faddr_ptr, List.drop_succ_cons, List.drop_zero, List.take_succ_cons, List.take_zero, load1_iptr, loadN_iptr, List.length_cons, List.length_nil, Nat.le_refl, if_true, List.getElem?_cons_zero, List.getElem?_cons_succ, List.getD_cons_zero, List.getD_cons_succ, extrF_tup, binF_add, binF_sub, binF_mul, binF_eql, binF_neq, binF_lss, binF_leq, binF_gtr, binF_geq, true_and, st_len]
  unfold wordE at hk
  refine condA_t (fun h10 => ?_) (fun h10 => ?_)
  · rw [if_pos (by omega)] at hk
    exact endK_ret hk
  rw [if_neg (by omega)] at hk
  intro b hb
  have hle0 := Heap.le_new (c := [.int .i64 0]) hb
  refine ⟨fun L H' => ∃ pos : Nat, H' b = some [.int .i64 (pos : Int)] ∧ pos ≤ l.length ∧ H.le H' ∧ (l.take pos).all (fun x => decide (97 ≤ x) && decide (x < 103)) = true, fun _ H' => l.length - posOf H' b, ⟨0, Heap.put_same, by omega, hle0, by simp⟩, ?_⟩
  rintro L H' ⟨pos, hpos, hple, hle, hall⟩
  have fin : ∀ {Hz : Heap} {e : Int}, H.le Hz → K (.int .i64 e) H → endK (.int .i64 e) Hz K := fun hz h => endK_pub (Pub.drop hz) (endK_ret h)
  by_cases hlt : pos < l.length
  · refine next_in hl hpos hlt ?_
    have hx : l.getD pos 0 = l[pos] := by simp [List.getD_eq_getElem?_getD, hlt]
    have hle1 : H.le (H'.put b [.int .i64 ((pos + 1 : Nat) : Int)]) := Heap.le_put hle hb
    simp only [letO_some, cellsOf?_agg, cellsOf?_int, cellsOf?_bool, cellsOf?_imm, cellsOf?_ref, cellsOf?_nils, faddr_iptr, faddr_ptr, List.drop_succ_cons, List.drop_zero, List.take_succ_cons, List.take_zero, load1_iptr, loadN_iptr, List.length_cons, List.length_nil, Nat.le_refl, if_true, List.getElem?_cons_zero, List.getElem?_cons_succ, List.getD_cons_zero, List.getD_cons_succ, extrF_tup, binF_add, binF_sub, binF_mul, binF_eql, binF_neq, binF_lss, binF_leq, binF_gtr, binF_geq, true_and, condA_tt]
    by_cases h1 : l.getD pos 0 < 97
    · have e1 : decide (((l.getD pos 0 : Nat) : Int) < 97) = true := decide_eq_true (by omega)
      simp only [e1, gval_bool, Int.reduceBNe, Int.reduceBEq, pickF_true, pickF_false, reduceIte, Bool.true_eq_false, Bool.false_eq_true, if_false, condA_tt, condA_ff, condG_tt, condG_ff, condG_tt', condG_ff', condG_undef, gval_undef, letO_some, cellsOf?_agg, cellsOf?_int, cellsOf?_bool, cellsOf?_imm, cellsOf?_ref, cellsOf?_nils, faddr_iptr, faddr_ptr, List.drop_succ_cons, List.drop_zero, List.take_succ_cons, List.take_zero, load1_iptr, loadN_iptr, List.length_cons, List.length_nil, Nat.le_refl, if_true, List.getElem?_cons_zero, List.getElem?_cons_succ, List.getD_cons_zero, List.getD_cons_succ, extrF_tup, binF_add, binF_sub, binF_mul, binF_eql, binF_neq, binF_lss, binF_leq, binF_gtr, binF_geq, true_and]
      refine fin hle1 ?_
      rw [if_neg] at hk
      · exact hk
      · rw [List.all_eq_true]
        intro h
        have := h l[pos] (List.getElem_mem hlt)
        simp only [Bool.and_eq_true, decide_eq_true_eq] at this
        omega
    · have e1 : decide (((l.getD pos 0 : Nat) : Int) < 97) = false := decide_eq_false (by omega)
      simp only [e1, gval_bool, Int.reduceBNe, Int.reduceBEq, pickF_true, pickF_false, reduceIte, Bool.true_eq_false, Bool.false_eq_true, if_false, condA_tt, condA_ff, condG_tt, condG_ff, condG_tt', condG_ff', condG_undef, gval_undef, letO_some, cellsOf?_agg, cellsOf?_int, cellsOf?_bool, cellsOf?_imm, cellsOf?_ref, cellsOf?_nils, faddr_iptr, faddr_ptr, List.drop_succ_cons, List.drop_zero, List.take_succ_cons, List.take_zero, load1_iptr, loadN_iptr, List.length_cons, List.length_nil, Nat.le_refl, if_true, List.getElem?_cons_zero, List.getElem?_cons_succ, List.getD_cons_zero, List.getD_cons_succ, extrF_tup, binF_add, binF_sub, binF_mul, binF_eql, binF_neq, binF_lss, binF_leq, binF_gtr, binF_geq, true_and]
      refine condA_t (fun h2 => ?_) (fun h2 => ?_)
      · refine fin hle1 ?_
        rw [if_neg] at hk
        · exact hk
        · rw [List.all_eq_true]
          intro h
          have := h l[pos] (List.getElem_mem hlt)
          simp only [Bool.and_eq_true, decide_eq_true_eq] at this
          omega
      · refine ⟨⟨pos + 1, Heap.put_same, by omega, hle1, ?_⟩, ?_⟩
        · rw [List.take_add_one, List.all_append, hall, List.getElem?_eq_getElem hlt]
          have : 97 ≤ l[pos] ∧ l[pos] < 103 := by omega
          simp [this]
        · rw [posOf_put, posOf_eq hpos]; omega
  · refine next_out hpos (by omega) ?_
    have hpe : pos = l.length := by omega
    subst hpe
    rw [List.take_length] at hall
    simp only [letO_some, cellsOf?_agg, cellsOf?_int, cellsOf?_bool, cellsOf?_imm, cellsOf?_ref, cellsOf?_nils, faddr_iptr, faddr_ptr, List.drop_succ_cons, List.drop_zero, List.take_succ_cons, List.take_zero, load1_iptr, loadN_iptr, List.length_cons, List.length_nil, Nat.le_refl, if_true, List.getElem?_cons_zero, List.getElem?_cons_succ, List.getD_cons_zero, List.getD_cons_succ, extrF_tup, binF_add, binF_sub, binF_mul, binF_eql, binF_neq, binF_lss, binF_leq, binF_gtr, binF_geq, true_and, condA_ff]
    refine fin hle ?_
    rw [if_pos hall] at hk
    exact hk
end Go.Proofs.YtmmfelpgcdlgfaaDoor

namespace Go.Proofs.YtmmfelpgcdlgfaaDoor
open Go.Av
set_option linter.unusedVariables false
set_option linter.unusedSimpArgs false
set_option maxRecDepth 4000

theorem l182 {x y : AV} (hx : cellsOf? x = some [x]) (hy : cellsOf? y = some [y]) : literalF Tryd.prog 182 2 [(0, x), (1, y)] = some [x, y] := by
  rw [literalF_of (show literalPlan Tryd.prog 182 = some ([.str (ByteArray.mk #[])], 1) by kernel_rfl) (by decide) (by simp)]
  simp [fillA, hx, hy, splice, rowOf, List.range_succ]
theorem l35 {x : AV} (hx : cellsOf? x = some [x]) : literalF Tryd.prog 35 1 [(0, x)] = some [x] := by
  rw [literalF_of (show literalPlan Tryd.prog 35 = some ([.int .i64 0], 1) by kernel_rfl) (by decide) (by simp)]
  simp [fillA, hx, splice, rowOf]
theorem l49 {x : AV} (hx : cellsOf? x = some [x]) : literalF Tryd.prog 49 1 [(0, x)] = some [x] := by
  rw [literalF_of (show literalPlan Tryd.prog 49 = some ([.int .u8 0], 1) by kernel_rfl) (by decide) (by simp)]
  simp [fillA, hx, splice, rowOf]
/-- short.checked, of two words -/
theorem c107 {l m : List Nat} (hl : asc l) (hm : asc m) {H : Heap} {K : AV → Heap → Prop} (hk : K (.int .i64 (if wordE l ≠ 0 then wordE l else wordE m)) H) : ACalls Tryd.prog 107 [.imm 2 true [st l, st m]] H K := by
  apply W107_ok
  unfold W107
  have h2 : lenA (.imm 2 true [st l, st m]) = some (.int .i64 2) := rfl
  simp only [letO_some, cellsOf?_agg, cellsOf?_int, cellsOf?_bool, cellsOf?_imm, cellsOf?_ref, cellsOf?_nils, faddr_iptr, faddr_ptr, List.drop_succ_cons, List.drop_zero, List.take_succ_cons, List.take_zero, load1_iptr, loadN_iptr, List.length_cons, List.length_nil, Nat.le_refl, if_true, List.getElem?_cons_zero, List.getElem?_cons_succ, List.getD_cons_zero, List.getD_cons_succ, extrF_tup, binF_add, binF_sub, binF_mul, binF_eql, binF_neq, binF_lss, binF_leq, binF_gtr, binF_geq, true_and, h2]
  refine ⟨fun L H' => ∃ i : Nat, eqt L [.int .i64 i] ∧ i ≤ 2 ∧ eqt H' H ∧ (0 < i → wordE l = 0) ∧ (1 < i → wordE m = 0), fun L _ => (2 - iv L 0).toNat, ⟨0, rfl, by omega, rfl, by omega, by omega⟩, ?_⟩
  rintro L H' ⟨i, rfl, hi, rfl, h1, h3⟩
  try simp only [letO_some, cellsOf?_agg, cellsOf?_int, cellsOf?_bool, cellsOf?_imm, cellsOf?_ref, cellsOf?_nils, faddr_iptr, faddr_ptr, List.drop_succ_cons, List.drop_zero, List.take_succ_cons, List.take_zero, load1_iptr, loadN_iptr, List.length_cons, List.length_nil, Nat.le_refl, if_true, List.getElem?_cons_zero, List.getElem?_cons_succ, List.getD_cons_zero, List.getD_cons_succ, extrF_tup, binF_add, binF_sub, binF_mul, binF_eql, binF_neq, binF_lss, binF_leq, binF_gtr, binF_geq, true_and]
  refine condA_t (fun hlt => ?_) (fun hge => ?_)
  · have a1 : i < 2 := by omega
    have step : ∀ (w : List Nat), asc w → ([st l, st m] : List AV)[i]? = some (st w) → (wordE w ≠ 0 → (if wordE l ≠ 0 then wordE l else wordE m) = wordE w) → (wordE w = 0 → (0 < i + 1 → wordE l = 0) ∧ (1 < i + 1 → wordE m = 0)) →
        letO (idx 1 (.imm 2 true [st l, st m]) (.int .i64 (i : Int))) fun t10 => letO (load1 t10 H') fun t12 => ACalls Tryd.prog 68 [t12] H' fun t14 H5 => letO (binF Tryd.prog .neq 32 t14 (.int .i64 0)) fun t15 =>
          condA t15 true (endK t14 H5 K) (letO (binF Tryd.prog .add 3 (.int .i64 (i : Int)) (.int .i64 1)) fun t8 => (∃ i : Nat, eqt [t8] [.int .i64 i] ∧ i ≤ 2 ∧ eqt H5 H' ∧ (0 < i → wordE l = 0) ∧ (1 < i → wordE m = 0)) ∧ (2 - iv [t8] 0).toNat < (2 - iv [AV.int .i64 (i : Int)] 0).toNat) := by
      intro w hw hx q1 q2
      refine ReadsC.get (v := .imm 2 true [st l, st m]) (Heap.le_refl H') (n := 2) (cells := [st l, st m]) ⟨rfl, rfl, rfl⟩ (x := st w) (by omega) (by omega) (by rw [Int.toNat_natCast]; exact hx) ?_
      refine c68 hw ?_
      simp only [letO_some, cellsOf?_agg, cellsOf?_int, cellsOf?_bool, cellsOf?_imm, cellsOf?_ref, cellsOf?_nils, faddr_iptr, faddr_ptr, List.drop_succ_cons, List.drop_zero, List.take_succ_cons, List.take_zero, load1_iptr, loadN_iptr, List.length_cons, List.length_nil, Nat.le_refl, if_true, List.getElem?_cons_zero, List.getElem?_cons_succ, List.getD_cons_zero, List.getD_cons_succ, extrF_tup, binF_add, binF_sub, binF_mul, binF_eql, binF_neq, binF_lss, binF_leq, binF_gtr, binF_geq, true_and]
      by_cases h0 : wordE w = 0
      · have e : (wordE w != 0) = false := by rw [h0]; rfl
        simp only [e, condA_ff]
        rw [wrap_i64 (by omega) (by omega)]
        exact ⟨⟨i + 1, rfl, by omega, rfl, (q2 h0).1, (q2 h0).2⟩, by simp [iv] <;> omega⟩
      · have e : (wordE w != 0) = true := by rw [bne_iff_ne]; exact h0
        simp only [e, condA_tt]
        rw [q1 h0] at hk
        exact endK_ret hk
    have hii : i = 0 ∨ i = 1 := by omega
    rcases hii with rfl | rfl
    · have := step l hl rfl (fun h => if_pos h) fun h => ⟨fun _ => h, fun h => by omega⟩
      simpa only [letO_some, cellsOf?_agg, cellsOf?_int, cellsOf?_bool, cellsOf?_imm, cellsOf?_ref, cellsOf?_nils, faddr_iptr, faddr_ptr, List.drop_succ_cons, List.drop_zero, List.take_succ_cons, List.take_zero, load1_iptr, loadN_iptr, List.length_cons, List.length_nil, Nat.le_refl, if_true, List.getElem?_cons_zero, List.getElem?_cons_succ, List.getD_cons_zero, List.getD_cons_succ, extrF_tup, binF_add, binF_sub, binF_mul, binF_eql, binF_neq, binF_lss, binF_leq, binF_gtr, binF_geq, true_and] using this
    · have := step m hm rfl (fun h => by rw [h1 (by omega), if_neg (by simp)]) fun h => ⟨fun _ => h1 (by omega), fun _ => h⟩
      simpa only [letO_some, cellsOf?_agg, cellsOf?_int, cellsOf?_bool, cellsOf?_imm, cellsOf?_ref, cellsOf?_nils, faddr_iptr, faddr_ptr, List.drop_succ_cons, List.drop_zero, List.take_succ_cons, List.take_zero, load1_iptr, loadN_iptr, List.length_cons, List.length_nil, Nat.le_refl, if_true, List.getElem?_cons_zero, List.getElem?_cons_succ, List.getD_cons_zero, List.getD_cons_succ, extrF_tup, binF_add, binF_sub, binF_mul, binF_eql, binF_neq, binF_lss, binF_leq, binF_gtr, binF_geq, true_and] using this
  · have : i = 2 := by omega
    subst this
    rw [h1 (by omega), h3 (by omega), if_neg (by simp)] at hk
    exact endK_ret hk
/-- What a word of the first letters' check says. -/
def letE (l : List Nat) (n : Int) : Int := if wordE l ≠ 0 then wordE l else if n < 1 ∨ 6 < n then 1 else if l.all fun x => decide ((x : Int) < 97 + n) then 0 else 2
theorem conv21 {n : Int} (h : 0 ≤ n ∧ n < 256) : convF Tryd.prog 3 21 (.int .i64 n) = some (.int .i32 n) := by
  have h1 : (Tryd.prog.underlying 3).isSome = true := by kernel_rfl
  have h2 : Tryd.prog.underlying 21 = some (.int .i32) := by kernel_rfl
  obtain ⟨d, h1⟩ := Option.isSome_iff_exists.1 h1
  have key : ∀ x : Fin 256, IntKind.i32.wrap (x.val : Int) = (x.val : Int) := by decide +kernel
  have := key ⟨n.toNat, by omega⟩
  have hn : ((n.toNat : Nat) : Int) = n := by omega
  simp only [hn] at this
  simp only [convF, h1, h2, this]
theorem wrap_i32 {n : Int} (h : 0 ≤ n ∧ n < 256) : IntKind.i32.wrap n = n := by
  have key : ∀ x : Fin 256, IntKind.i32.wrap (x.val : Int) = (x.val : Int) := by decide +kernel
  have := key ⟨n.toNat, by omega⟩
  have hn : ((n.toNat : Nat) : Int) = n := by omega
  simpa only [hn] using this
/-- short.lettered -/
theorem c41 {l : List Nat} (hl : asc l) {n : Int} {H : Heap} {K : AV → Heap → Prop} (hk : K (.int .i64 (letE l n)) H) : ACalls Tryd.prog 41 [st l, .int .i64 n] H K := by
  apply W41_ok
  unfold W41
  simp only [letO_some, cellsOf?_agg, cellsOf?_int, cellsOf?_bool, cellsOf?_imm, cellsOf?_ref, cellsOf?_nils, faddr_iptr, faddr_ptr, List.drop_succ_cons, List.drop_zero, List.take_succ_cons, List.take_zero, load1_iptr, loadN_iptr, List.length_cons, List.length_nil, Nat.le_refl, if_true, List.getElem?_cons_zero, List.getElem?_cons_succ, List.getD_cons_zero, List.getD_cons_succ, extrF_tup, binF_add, binF_sub, binF_mul, binF_eql, binF_neq, binF_lss, binF_leq, binF_gtr, binF_geq, true_and]
  refine c68 hl ?_
  unfold letE at hk
  simp only [letO_some, cellsOf?_agg, cellsOf?_int, cellsOf?_bool, cellsOf?_imm, cellsOf?_ref, cellsOf?_nils, faddr_iptr, faddr_ptr, List.drop_succ_cons, List.drop_zero, List.take_succ_cons, List.take_zero, load1_iptr, loadN_iptr, List.length_cons, List.length_nil, Nat.le_refl, if_true, List.getElem?_cons_zero, List.getElem?_cons_succ, List.getD_cons_zero, List.getD_cons_succ, extrF_tup, binF_add, binF_sub, binF_mul, binF_eql, binF_neq, binF_lss, binF_leq, binF_gtr, binF_geq, true_and]
  by_cases h0 : wordE l = 0
  case neg =>
    have e : (wordE l != 0) = true := by rw [bne_iff_ne]; exact h0
    rw [if_pos h0] at hk
    simp only [e, condA_tt]
    exact endK_ret hk
  have e : (wordE l != 0) = false := by rw [h0]; rfl
  rw [if_neg (by simp [h0])] at hk
  simp only [e, condA_ff]
  by_cases hn : n < 1 ∨ 6 < n
  · rw [if_pos hn] at hk
    by_cases h1 : n < 1
    · simp only [decide_eq_true h1, gval_bool, Int.reduceBNe, Int.reduceBEq, pickF_true, pickF_false, reduceIte, Bool.true_eq_false, Bool.false_eq_true, if_false, condA_tt, condA_ff, condG_tt, condG_ff, condG_tt', condG_ff', condG_undef, gval_undef, letO_some, cellsOf?_agg, cellsOf?_int, cellsOf?_bool, cellsOf?_imm, cellsOf?_ref, cellsOf?_nils, faddr_iptr, faddr_ptr, List.drop_succ_cons, List.drop_zero, List.take_succ_cons, List.take_zero, load1_iptr, loadN_iptr, List.length_cons, List.length_nil, Nat.le_refl, if_true, List.getElem?_cons_zero, List.getElem?_cons_succ, List.getD_cons_zero, List.getD_cons_succ, extrF_tup, binF_add, binF_sub, binF_mul, binF_eql, binF_neq, binF_lss, binF_leq, binF_gtr, binF_geq, true_and]
      exact endK_ret hk
    · have e2 : decide ((6 : Int) < n) = true := decide_eq_true (by omega)
      simp only [decide_eq_false h1, e2, gval_bool, Int.reduceBNe, Int.reduceBEq, pickF_true, pickF_false, reduceIte, Bool.true_eq_false, Bool.false_eq_true, if_false, condA_tt, condA_ff, condG_tt, condG_ff, condG_tt', condG_ff', condG_undef, gval_undef, letO_some, cellsOf?_agg, cellsOf?_int, cellsOf?_bool, cellsOf?_imm, cellsOf?_ref, cellsOf?_nils, faddr_iptr, faddr_ptr, List.drop_succ_cons, List.drop_zero, List.take_succ_cons, List.take_zero, load1_iptr, loadN_iptr, List.length_cons, List.length_nil, Nat.le_refl, if_true, List.getElem?_cons_zero, List.getElem?_cons_succ, List.getD_cons_zero, List.getD_cons_succ, extrF_tup, binF_add, binF_sub, binF_mul, binF_eql, binF_neq, binF_lss, binF_leq, binF_gtr, binF_geq, true_and]
      exact endK_ret hk
  rw [if_neg hn] at hk
  have e1 : decide (n < 1) = false := decide_eq_false (by omega)
  have e2 : decide ((6 : Int) < n) = false := decide_eq_false (by omega)
  simp only [e1, e2, gval_bool, Int.reduceBNe, Int.reduceBEq, pickF_true, pickF_false, reduceIte, Bool.true_eq_false, Bool.false_eq_true, if_false, condA_tt, condA_ff, condG_tt, condG_ff, condG_tt', condG_ff', condG_undef, gval_undef, letO_some, cellsOf?_agg, cellsOf?_int, cellsOf?_bool, cellsOf?_imm, cellsOf?_ref, cellsOf?_nils, faddr_iptr, faddr_ptr, List.drop_succ_cons, List.drop_zero, List.take_succ_cons, List.take_zero, load1_iptr, loadN_iptr, List.length_cons, List.length_nil, Nat.le_refl, if_true, List.getElem?_cons_zero, List.getElem?_cons_succ, List.getD_cons_zero, List.getD_cons_succ, extrF_tup, binF_add, binF_sub, binF_mul, binF_eql, binF_neq, binF_lss, binF_leq, binF_gtr, binF_geq, true_and]
  intro b hb
  have hle0 := Heap.le_new (c := [.int .i64 0]) hb
  refine ⟨fun L H' => ∃ pos : Nat, H' b = some [.int .i64 (pos : Int)] ∧ pos ≤ l.length ∧ H.le H' ∧ (l.take pos).all (fun x => decide ((x : Int) < 97 + n)) = true, fun _ H' => l.length - posOf H' b, ⟨0, Heap.put_same, by omega, hle0, by simp⟩, ?_⟩
  rintro L H' ⟨pos, hpos, hple, hle, hall⟩
  have fin : ∀ {Hz : Heap} {e : Int}, H.le Hz → K (.int .i64 e) H → endK (.int .i64 e) Hz K := fun hz h => endK_pub (Pub.drop hz) (endK_ret h)
  by_cases hlt : pos < l.length
  · refine next_in hl hpos hlt ?_
    have hx : l.getD pos 0 = l[pos] := by simp [List.getD_eq_getElem?_getD, hlt]
    have hle1 : H.le (H'.put b [.int .i64 ((pos + 1 : Nat) : Int)]) := Heap.le_put hle hb
    simp only [letO_some, cellsOf?_agg, cellsOf?_int, cellsOf?_bool, cellsOf?_imm, cellsOf?_ref, cellsOf?_nils, faddr_iptr, faddr_ptr, List.drop_succ_cons, List.drop_zero, List.take_succ_cons, List.take_zero, load1_iptr, loadN_iptr, List.length_cons, List.length_nil, Nat.le_refl, if_true, List.getElem?_cons_zero, List.getElem?_cons_succ, List.getD_cons_zero, List.getD_cons_succ, extrF_tup, binF_add, binF_sub, binF_mul, binF_eql, binF_neq, binF_lss, binF_leq, binF_gtr, binF_geq, true_and, condA_tt, conv21 (n := n) (by omega)]
    rw [wrap_i32 (n := 97 + n) (by omega)]
    refine condA_t (fun h2 => ?_) (fun h2 => ?_)
    · refine fin hle1 ?_
      rw [if_neg] at hk
      · exact hk
      · rw [List.all_eq_true]
        intro h
        have := h l[pos] (List.getElem_mem hlt)
        simp only [decide_eq_true_eq] at this
        omega
    · refine ⟨⟨pos + 1, Heap.put_same, by omega, hle1, ?_⟩, ?_⟩
      · rw [List.take_add_one, List.all_append, hall, List.getElem?_eq_getElem hlt]
        have : (l[pos] : Int) < 97 + n := by omega
        simp [this]
      · rw [posOf_put, posOf_eq hpos]; omega
  · refine next_out hpos (by omega) ?_
    have hpe : pos = l.length := by omega
    subst hpe
    rw [List.take_length] at hall
    simp only [letO_some, cellsOf?_agg, cellsOf?_int, cellsOf?_bool, cellsOf?_imm, cellsOf?_ref, cellsOf?_nils, faddr_iptr, faddr_ptr, List.drop_succ_cons, List.drop_zero, List.take_succ_cons, List.take_zero, load1_iptr, loadN_iptr, List.length_cons, List.length_nil, Nat.le_refl, if_true, List.getElem?_cons_zero, List.getElem?_cons_succ, List.getD_cons_zero, List.getD_cons_succ, extrF_tup, binF_add, binF_sub, binF_mul, binF_eql, binF_neq, binF_lss, binF_leq, binF_gtr, binF_geq, true_and, condA_ff]
    refine fin hle ?_
    rw [if_pos hall] at hk
    exact hk
/-- What is left of a part. -/
def lfS : List Nat → List Nat → List Nat
  | [], p => p
  | _ :: _, [] => []
  | x :: w, y :: p => if x = y then lfS w p else lfS w (y :: p)
theorem lfS_nil : ∀ w, lfS w [] = []
  | [] => rfl
  | _ :: _ => rfl
/-- short.Left -/
theorem c97 {l m : List Nat} (hl : asc l) (hm : asc m) (hll : l.length < 2 ^ 63) {H : Heap} {K : AV → Heap → Prop} (hk : K (.bool (decide (lfS l m = []))) H) : ACalls Tryd.prog 97 [st l, st m] H K := by
  apply W97_ok
  unfold W97
  have hnil : (AV.str (ByteArray.mk #[])) = st [] := rfl
  try simp only [letO_some, cellsOf?_agg, cellsOf?_int, cellsOf?_bool, cellsOf?_imm, cellsOf?_ref, cellsOf?_nils, faddr_iptr, faddr_ptr, List.drop_succ_cons, List.drop_zero, List.take_succ_cons, List.take_zero, load1_iptr, loadN_iptr, List.length_cons, List.length_nil, Nat.le_refl, if_true, List.getElem?_cons_zero, List.getElem?_cons_succ, List.getD_cons_zero, List.getD_cons_succ, extrF_tup, binF_add, binF_sub, binF_mul, binF_eql, binF_neq, binF_lss, binF_leq, binF_gtr, binF_geq, true_and, hnil]
  refine ⟨fun L H' => ∃ (i : Nat) (p : List Nat), eqt L [st p, .int .i64 i] ∧ i ≤ l.length ∧ eqt H' H ∧ asc p ∧ lfS (l.drop i) p = lfS l m, fun L _ => (l.length - iv L 1).toNat, ⟨0, m, rfl, by omega, rfl, hm, rfl⟩, ?_⟩
  rintro L H' ⟨i, p, rfl, hi, rfl, hp, hlf⟩
  simp only [letO_some, cellsOf?_agg, cellsOf?_int, cellsOf?_bool, cellsOf?_imm, cellsOf?_ref, cellsOf?_nils, faddr_iptr, faddr_ptr, List.drop_succ_cons, List.drop_zero, List.take_succ_cons, List.take_zero, load1_iptr, loadN_iptr, List.length_cons, List.length_nil, Nat.le_refl, if_true, List.getElem?_cons_zero, List.getElem?_cons_succ, List.getD_cons_zero, List.getD_cons_succ, extrF_tup, binF_add, binF_sub, binF_mul, binF_eql, binF_neq, binF_lss, binF_leq, binF_gtr, binF_geq, true_and, st_len]
  have h0 : asc [] := fun x hx => by cases hx
  by_cases hlt : i < l.length
  · have e1 : decide ((i : Int) < (l.length : Int)) = true := decide_eq_true (by omega)
    simp only [e1, gval_bool, Int.reduceBNe, Int.reduceBEq, pickF_true, pickF_false, reduceIte, Bool.true_eq_false, Bool.false_eq_true, if_false, condA_tt, condA_ff, condG_tt, condG_ff, condG_tt', condG_ff', condG_undef, gval_undef, letO_some, cellsOf?_agg, cellsOf?_int, cellsOf?_bool, cellsOf?_imm, cellsOf?_ref, cellsOf?_nils, faddr_iptr, faddr_ptr, List.drop_succ_cons, List.drop_zero, List.take_succ_cons, List.take_zero, load1_iptr, loadN_iptr, List.length_cons, List.length_nil, Nat.le_refl, if_true, List.getElem?_cons_zero, List.getElem?_cons_succ, List.getD_cons_zero, List.getD_cons_succ, extrF_tup, binF_add, binF_sub, binF_mul, binF_eql, binF_neq, binF_lss, binF_leq, binF_gtr, binF_geq, true_and, st_neq hp h0]
    cases p with
    | nil =>
      simp only [ne_eq, not_true_eq_false, decide_false, gval_bool, Int.reduceBNe, Int.reduceBEq, pickF_true, pickF_false, reduceIte, Bool.true_eq_false, Bool.false_eq_true, if_false, condA_tt, condA_ff, condG_tt, condG_ff, condG_tt', condG_ff', condG_undef, gval_undef, letO_some, cellsOf?_agg, cellsOf?_int, cellsOf?_bool, cellsOf?_imm, cellsOf?_ref, cellsOf?_nils, faddr_iptr, faddr_ptr, List.drop_succ_cons, List.drop_zero, List.take_succ_cons, List.take_zero, load1_iptr, loadN_iptr, List.length_cons, List.length_nil, Nat.le_refl, if_true, List.getElem?_cons_zero, List.getElem?_cons_succ, List.getD_cons_zero, List.getD_cons_succ, extrF_tup, binF_add, binF_sub, binF_mul, binF_eql, binF_neq, binF_lss, binF_leq, binF_gtr, binF_geq, true_and, st_eql h0 h0]
      rw [lfS_nil] at hlf
      rw [← hlf] at hk
      exact endK_ret hk
    | cons y p =>
      have e2 : decide (y :: p ≠ []) = true := decide_eq_true (by simp)
      simp only [e2, gval_bool, Int.reduceBNe, Int.reduceBEq, pickF_true, pickF_false, reduceIte, Bool.true_eq_false, Bool.false_eq_true, if_false, condA_tt, condA_ff, condG_tt, condG_ff, condG_tt', condG_ff', condG_undef, gval_undef, letO_some, cellsOf?_agg, cellsOf?_int, cellsOf?_bool, cellsOf?_imm, cellsOf?_ref, cellsOf?_nils, faddr_iptr, faddr_ptr, List.drop_succ_cons, List.drop_zero, List.take_succ_cons, List.take_zero, load1_iptr, loadN_iptr, List.length_cons, List.length_nil, Nat.le_refl, if_true, List.getElem?_cons_zero, List.getElem?_cons_succ, List.getD_cons_zero, List.getD_cons_succ, extrF_tup, binF_add, binF_sub, binF_mul, binF_eql, binF_neq, binF_lss, binF_leq, binF_gtr, binF_geq, true_and, st_at hl hlt]
      have hy := st_at hp (i := 0) (by simp)
      simp only [Int.natCast_zero, Int.ofNat_zero, List.getD_cons_zero] at hy
      have hy' : indexF Tryd.prog 9 (st (y :: p)) (.int .i64 0) = some (.int .u8 (y : Nat)) := hy
      simp only [hy', letO_some, cellsOf?_agg, cellsOf?_int, cellsOf?_bool, cellsOf?_imm, cellsOf?_ref, cellsOf?_nils, faddr_iptr, faddr_ptr, List.drop_succ_cons, List.drop_zero, List.take_succ_cons, List.take_zero, load1_iptr, loadN_iptr, List.length_cons, List.length_nil, Nat.le_refl, if_true, List.getElem?_cons_zero, List.getElem?_cons_succ, List.getD_cons_zero, List.getD_cons_succ, extrF_tup, binF_add, binF_sub, binF_mul, binF_eql, binF_neq, binF_lss, binF_leq, binF_gtr, binF_geq, true_and]
      have hd : l.drop i = l.getD i 0 :: l.drop (i + 1) := by rw [List.drop_eq_getElem_cons hlt]; simp [List.getD_eq_getElem?_getD, hlt]
      rw [hd, lfS] at hlf
      refine ⟨fun L H2 => ∃ q, eqt L [st q] ∧ eqt H2 H' ∧ asc q ∧ lfS (l.drop (i + 1)) q = lfS l m, ?_, ?_⟩
      · by_cases he : l.getD i 0 = y
        · have e3 : (((l.getD i 0 : Nat) : Int) == ((y : Nat) : Int)) = true := by rw [he]; exact beq_self_eq_true _
          have hs := st_drop (l := y :: p) (k := 1) (by simp)
          have hs' : slcS (st (y :: p)) (some (.int .i64 1)) none none = some (st p) := hs
          simp only [e3, condA_tt, hs', letO_some, cellsOf?_agg, cellsOf?_int, cellsOf?_bool, cellsOf?_imm, cellsOf?_ref, cellsOf?_nils, faddr_iptr, faddr_ptr, List.drop_succ_cons, List.drop_zero, List.take_succ_cons, List.take_zero, load1_iptr, loadN_iptr, List.length_cons, List.length_nil, Nat.le_refl, if_true, List.getElem?_cons_zero, List.getElem?_cons_succ, List.getD_cons_zero, List.getD_cons_succ, extrF_tup, binF_add, binF_sub, binF_mul, binF_eql, binF_neq, binF_lss, binF_leq, binF_gtr, binF_geq, true_and]
          rw [if_pos he] at hlf
          exact ⟨p, rfl, rfl, fun x hx => hp x (by simp [hx]), hlf⟩
        · have e3 : (((l.getD i 0 : Nat) : Int) == ((y : Nat) : Int)) = false := by rw [beq_eq_false_iff_ne]; omega
          simp only [e3, condA_ff]
          rw [if_neg he] at hlf
          exact ⟨y :: p, rfl, rfl, hp, hlf⟩
      · rintro L H2 ⟨q, rfl, rfl, hq, hlf2⟩
        simp only [letO_some, cellsOf?_agg, cellsOf?_int, cellsOf?_bool, cellsOf?_imm, cellsOf?_ref, cellsOf?_nils, faddr_iptr, faddr_ptr, List.drop_succ_cons, List.drop_zero, List.take_succ_cons, List.take_zero, load1_iptr, loadN_iptr, List.length_cons, List.length_nil, Nat.le_refl, if_true, List.getElem?_cons_zero, List.getElem?_cons_succ, List.getD_cons_zero, List.getD_cons_succ, extrF_tup, binF_add, binF_sub, binF_mul, binF_eql, binF_neq, binF_lss, binF_leq, binF_gtr, binF_geq, true_and]
        rw [wrap_i64 (by omega) (by omega)]
        exact ⟨⟨i + 1, q, rfl, by omega, rfl, hq, hlf2⟩, by simp [iv] <;> omega⟩
  · have e1 : decide ((i : Int) < (l.length : Int)) = false := decide_eq_false (by omega)
    have hie : i = l.length := by omega
    subst hie
    simp only [e1, gval_bool, Int.reduceBNe, Int.reduceBEq, pickF_true, pickF_false, reduceIte, Bool.true_eq_false, Bool.false_eq_true, if_false, condA_tt, condA_ff, condG_tt, condG_ff, condG_tt', condG_ff', condG_undef, gval_undef, letO_some, cellsOf?_agg, cellsOf?_int, cellsOf?_bool, cellsOf?_imm, cellsOf?_ref, cellsOf?_nils, faddr_iptr, faddr_ptr, List.drop_succ_cons, List.drop_zero, List.take_succ_cons, List.take_zero, load1_iptr, loadN_iptr, List.length_cons, List.length_nil, Nat.le_refl, if_true, List.getElem?_cons_zero, List.getElem?_cons_succ, List.getD_cons_zero, List.getD_cons_succ, extrF_tup, binF_add, binF_sub, binF_mul, binF_eql, binF_neq, binF_lss, binF_leq, binF_gtr, binF_geq, true_and, st_eql hp h0]
    rw [List.drop_length, lfS] at hlf
    rw [← hlf] at hk
    exact endK_ret hk
end Go.Proofs.YtmmfelpgcdlgfaaDoor

namespace Go.Proofs.YtmmfelpgcdlgfaaDoor
open Go.Av
set_option linter.unusedVariables false
set_option linter.unusedSimpArgs false
set_option maxRecDepth 4000

theorem upd_grow {sz : Nat} {H0 H : Heap} {v : AV} {n b : Nat} {cells cs c0 : List AV} (h : Grow sz H0 H v n cells) (hb : H0 b = some c0) : Grow sz (H0.put b cs) (H.put b cs) v n cells := by
  refine ⟨h.1, ?_⟩
  rcases h.2 with ⟨e, e2, rfl⟩ | ⟨e, rfl⟩ | ⟨b3, hb3, e, rfl⟩
  · exact .inl ⟨e, e2, rfl⟩
  · exact .inr (.inl ⟨e, rfl⟩)
  · right; right
    have hne : b3 ≠ b := by rintro rfl; rw [hb] at hb3; cases hb3
    refine ⟨b3, by rw [Heap.put_ne hne]; exact hb3, e, ?_⟩
    funext y
    simp only [Heap.put]
    by_cases h1 : y = b
    · subst h1; rw [if_pos rfl, if_neg (Ne.symm hne), if_pos rfl]
    · rw [if_neg h1]
      by_cases h2 : y = b3
      · rw [if_pos h2, if_pos h2]
      · rw [if_neg h2, if_neg h2, if_neg h1]
/-- Where arches end. -/
def addM (met : List Nat) (c : Nat) : List Nat := if c ∈ met then met else met ++ [c]
def arcS (n : Int) : Nat → List Nat → List Nat → List Int
  | _, _, [] => []
  | pos, met, c :: r => if ((addM met c).length : Int) = n then ((pos : Int) + 1) :: arcS n (pos + 1) [] r else arcS n (pos + 1) (addM met c) r
def mcs (met : List Nat) : List AV := met.flatMap fun (c : Nat) => [AV.int .i32 (c : Int), .bool true]
theorem mcs_len (met : List Nat) : (mcs met).length = 2 * met.length := by
  induction met with
  | nil => rfl
  | cons a l ih => simp only [mcs, List.flatMap_cons, List.length_append, List.length_cons, List.length_nil] at ih ⊢; omega
theorem mapSet_mcs (c : Nat) : ∀ met : List Nat, mapSet .i32 (c : Int) (.bool true) (mcs met) = some (mcs (addM met c))
  | [] => rfl
  | a :: l => by
    have ih := mapSet_mcs c l
    have e : mcs (a :: l) = .int .i32 (a : Int) :: .bool true :: mcs l := rfl
    rw [e]
    show (if IntKind.i32 = IntKind.i32 then (if (c : Int) = (a : Int) then some (AV.int .i32 (c : Int) :: .bool true :: mcs l) else (mapSet .i32 (c : Int) (.bool true) (mcs l)).map fun r => AV.int .i32 (a : Int) :: .bool true :: r) else none) = _
    rw [if_pos rfl]
    by_cases h : c = a
    · subst h
      rw [if_pos rfl, addM, if_pos (by simp)]; rfl
    · rw [if_neg (by omega), ih]
      simp only [Option.map_some, addM, List.mem_cons, h, false_or]
      split
      · rfl
      · simp [mcs]
/-- short.arches -/
theorem c42 {l : List Nat} (hl : asc l) (hll : l.length < 1000000) {n : Int} {H : Heap} {K : AV → Heap → Prop} (hk : K (sl (arcS n 0 [] l)) H) : ACalls Tryd.prog 42 [st l, .int .i64 n] H K := by
  apply W42_ok
  unfold W42
  try simp only [letO_some]
  intro bm hbm
  have hle1 := Heap.le_new (c := []) hbm
  have hm1 : (H.put bm []) bm = some [] := Heap.put_same
  generalize H.put bm [] = H1 at *
  try simp only [letO_some]
  intro bi hbi
  have hle2 := Heap.le_new (c := [.int .i64 0]) hbi
  have hi2 : (H1.put bi [.int .i64 0]) bi = some [.int .i64 0] := Heap.put_same
  have hm2 := hle2 _ _ hm1
  have hne : bm ≠ bi := by rintro rfl; rw [hm1] at hbi; cases hbi
  have hbiH := none_of_le hle1 hbi
  generalize H1.put bi [.int .i64 0] = H2 at *
  have hleH := Heap.le_trans hle1 hle2
  try simp only [letO_some, cellsOf?_agg, cellsOf?_int, cellsOf?_bool, cellsOf?_imm, cellsOf?_ref, cellsOf?_nils, faddr_iptr, faddr_ptr, List.drop_succ_cons, List.drop_zero, List.take_succ_cons, List.take_zero, load1_iptr, loadN_iptr, List.length_cons, List.length_nil, Nat.le_refl, if_true, List.getElem?_cons_zero, List.getElem?_cons_succ, List.getD_cons_zero, List.getD_cons_succ, extrF_tup, binF_add, binF_sub, binF_mul, binF_eql, binF_neq, binF_lss, binF_leq, binF_gtr, binF_geq, true_and]
  refine ⟨fun L H' => ∃ (pos : Nat) (met : List Nat) (out : List Int) (X : AV) (B : Heap), eqt L [X] ∧ pos ≤ l.length ∧ H.le B ∧ B bm = some (mcs met) ∧ B bi = some [.int .i64 (pos : Int)] ∧ Grow 1 B H' X out.length (ints out) ∧ out.length ≤ pos ∧ out ++ arcS n pos met (l.drop pos) = arcS n 0 [] l,
    fun _ H' => l.length - posOf H' bi, ⟨0, [], [], .nils, H2, rfl, by omega, hleH, hm2, hi2, Grow.nils 1 H2, by simp, rfl⟩, ?_⟩
  rintro L H' ⟨pos, met, out, X, B, rfl, hpos, hleB, hBm, hBi, hg, hout, hspec⟩
  have hpi := hg.le _ _ hBi
  by_cases hlt : pos < l.length
  · refine next_in hl hpi hlt ?_
    have hg2 := upd_grow (cs := [.int .i64 ((pos + 1 : Nat) : Int)]) hg hBi
    have hleB2 := Heap.le_put (cs := [.int .i64 ((pos + 1 : Nat) : Int)]) hleB hbiH
    have hBm2 : (B.put bi [.int .i64 ((pos + 1 : Nat) : Int)]) bm = some (mcs met) := by rw [Heap.put_ne hne]; exact hBm
    have hBi2 : (B.put bi [.int .i64 ((pos + 1 : Nat) : Int)]) bi = some [.int .i64 ((pos + 1 : Nat) : Int)] := Heap.put_same
    generalize B.put bi [.int .i64 ((pos + 1 : Nat) : Int)] = B2 at *
    generalize H'.put bi [.int .i64 ((pos + 1 : Nat) : Int)] = H3 at *
    have hpo : posOf H' bi = pos := posOf_eq hpi
    simp only [letO_some, cellsOf?_agg, cellsOf?_int, cellsOf?_bool, cellsOf?_imm, cellsOf?_ref, cellsOf?_nils, faddr_iptr, faddr_ptr, List.drop_succ_cons, List.drop_zero, List.take_succ_cons, List.take_zero, load1_iptr, loadN_iptr, List.length_cons, List.length_nil, Nat.le_refl, if_true, List.getElem?_cons_zero, List.getElem?_cons_succ, List.getD_cons_zero, List.getD_cons_succ, extrF_tup, binF_add, binF_sub, binF_mul, binF_eql, binF_neq, binF_lss, binF_leq, binF_gtr, binF_geq, true_and, condA_tt]
    refine ⟨rfl, _, _, hg2.le _ _ hBm2, mapSet_mcs (l.getD pos 0) met, ?_⟩
    have hg3 := upd_grow (cs := mcs (addM met (l.getD pos 0))) hg2 hBm2
    have hleB3 := Heap.le_put (cs := mcs (addM met (l.getD pos 0))) hleB2 hbm
    have hBm3 : (B2.put bm (mcs (addM met (l.getD pos 0)))) bm = some (mcs (addM met (l.getD pos 0))) := Heap.put_same
    have hBi3 : (B2.put bm (mcs (addM met (l.getD pos 0)))) bi = some [.int .i64 ((pos + 1 : Nat) : Int)] := by rw [Heap.put_ne (Ne.symm hne)]; exact hBi2
    generalize B2.put bm (mcs (addM met (l.getD pos 0))) = B3 at *
    generalize H3.put bm (mcs (addM met (l.getD pos 0))) = H4 at *
    have hd : l.drop pos = l.getD pos 0 :: l.drop (pos + 1) := by rw [List.drop_eq_getElem_cons hlt]; simp [List.getD_eq_getElem?_getD, hlt]
    rw [hd, arcS] at hspec
    refine ⟨_, hg3.le _ _ hBm3, ?_⟩
    have hlen : (mcs (addM met (l.getD pos 0))).length / 2 = (addM met (l.getD pos 0)).length := by rw [mcs_len]; omega
    rw [hlen]
    simp only [letO_some, cellsOf?_agg, cellsOf?_int, cellsOf?_bool, cellsOf?_imm, cellsOf?_ref, cellsOf?_nils, faddr_iptr, faddr_ptr, List.drop_succ_cons, List.drop_zero, List.take_succ_cons, List.take_zero, load1_iptr, loadN_iptr, List.length_cons, List.length_nil, Nat.le_refl, if_true, List.getElem?_cons_zero, List.getElem?_cons_succ, List.getD_cons_zero, List.getD_cons_succ, extrF_tup, binF_add, binF_sub, binF_mul, binF_eql, binF_neq, binF_lss, binF_leq, binF_gtr, binF_geq, true_and]
    by_cases he : ((addM met (l.getD pos 0)).length : Int) = n
    · have e1 : (((addM met (l.getD pos 0)).length : Int) == n) = true := by rw [he]; exact beq_self_eq_true _
      rw [if_pos he] at hspec
      simp only [e1, condA_tt, l35 cellsOf?_int, letO_some]
      rw [wrap_i64 (by omega) (by omega)]
      refine appendA_one hg3 (by omega) fun v' H5 hg5 => ?_
      have e2 : ints out ++ [] = ints out := by simp
      try simp only [letO_some]
      refine ⟨by rw [hg5.le _ _ hBm3]; simp, ?_⟩
      have hg6 := upd_grow (cs := []) hg5 hBm3
      have hBi6 : (B3.put bm []) bi = some [.int .i64 ((pos + 1 : Nat) : Int)] := by rw [Heap.put_ne (Ne.symm hne)]; exact hBi3
      have hpo6 := posOf_eq (hg6.le _ _ hBi6)
      refine ⟨⟨pos + 1, [], out ++ [(pos : Int) + 1], v', B3.put bm [], rfl, by omega, Heap.le_put hleB3 hbm, Heap.put_same, hBi6, by rw [List.length_append]; exact hg6, by simp; omega, by rw [List.append_assoc]; exact hspec⟩, ?_⟩
      rw [hpo6, hpo]; omega
    · have e1 : (((addM met (l.getD pos 0)).length : Int) == n) = false := by rw [beq_eq_false_iff_ne]; exact he
      rw [if_neg he] at hspec
      simp only [e1, condA_ff]
      have hpo6 := posOf_eq (hg3.le _ _ hBi3)
      refine ⟨⟨pos + 1, _, out, X, B3, rfl, by omega, hleB3, hBm3, hBi3, hg3, by omega, hspec⟩, ?_⟩
      rw [hpo6, hpo]; omega
  · refine next_out hpi (by omega) ?_
    have hpe : pos = l.length := by omega
    subst hpe
    rw [List.drop_length, arcS, List.append_nil] at hspec
    simp only [letO_some, cellsOf?_agg, cellsOf?_int, cellsOf?_bool, cellsOf?_imm, cellsOf?_ref, cellsOf?_nils, faddr_iptr, faddr_ptr, List.drop_succ_cons, List.drop_zero, List.take_succ_cons, List.take_zero, load1_iptr, loadN_iptr, List.length_cons, List.length_nil, Nat.le_refl, if_true, List.getElem?_cons_zero, List.getElem?_cons_succ, List.getD_cons_zero, List.getD_cons_succ, extrF_tup, binF_add, binF_sub, binF_mul, binF_eql, binF_neq, binF_lss, binF_leq, binF_gtr, binF_geq, true_and, condA_ff]
    refine endK_all (Heap.le_trans hleB hg.le) 2 ?_
    rw [conv_grow hg hleB, conv_ints, hspec]
    exact hk
/-- slices.Index of bytes -/
theorem c108 {l : List Nat} {fl : Bool} {c : Nat} (hll : l.length < 2 ^ 63) {H : Heap} {K : AV → Heap → Prop} (hk : K (.int .i64 (if c ∈ l then ((l.idxOf c : Nat) : Int) else -1)) H) : ACalls Tryd.prog 108 [.imm l.length fl (u8l l), .int .u8 (c : Int)] H K := by
  apply W108_ok
  unfold W108
  have hlen : lenA (.imm l.length fl (u8l l)) = some (.int .i64 l.length) := rfl
  simp only [letO_some, cellsOf?_agg, cellsOf?_int, cellsOf?_bool, cellsOf?_imm, cellsOf?_ref, cellsOf?_nils, faddr_iptr, faddr_ptr, List.drop_succ_cons, List.drop_zero, List.take_succ_cons, List.take_zero, load1_iptr, loadN_iptr, List.length_cons, List.length_nil, Nat.le_refl, if_true, List.getElem?_cons_zero, List.getElem?_cons_succ, List.getD_cons_zero, List.getD_cons_succ, extrF_tup, binF_add, binF_sub, binF_mul, binF_eql, binF_neq, binF_lss, binF_leq, binF_gtr, binF_geq, true_and, hlen]
  refine ⟨fun L H' => ∃ i : Nat, eqt L [.int .i64 i] ∧ i ≤ l.length ∧ eqt H' H ∧ c ∉ l.take i, fun L _ => (l.length - iv L 0).toNat, ⟨0, rfl, by omega, rfl, by simp⟩, ?_⟩
  rintro L H' ⟨i, rfl, hi, rfl, hnot⟩
  try simp only [letO_some, cellsOf?_agg, cellsOf?_int, cellsOf?_bool, cellsOf?_imm, cellsOf?_ref, cellsOf?_nils, faddr_iptr, faddr_ptr, List.drop_succ_cons, List.drop_zero, List.take_succ_cons, List.take_zero, load1_iptr, loadN_iptr, List.length_cons, List.length_nil, Nat.le_refl, if_true, List.getElem?_cons_zero, List.getElem?_cons_succ, List.getD_cons_zero, List.getD_cons_succ, extrF_tup, binF_add, binF_sub, binF_mul, binF_eql, binF_neq, binF_lss, binF_leq, binF_gtr, binF_geq, true_and]
  refine condA_t (fun hlt => ?_) (fun hge => ?_)
  · have a1 : i < l.length := by omega
    refine ReadsC.get (v := .imm l.length fl (u8l l)) (Heap.le_refl H') (n := l.length) (cells := u8l l) ⟨by simp [u8l], rfl, rfl⟩ (x := .int .u8 ((l[i] : Nat) : Int)) (by omega) (by omega) (by rw [Int.toNat_natCast]; simp [u8l, a1]) ?_
    simp only [letO_some, cellsOf?_agg, cellsOf?_int, cellsOf?_bool, cellsOf?_imm, cellsOf?_ref, cellsOf?_nils, faddr_iptr, faddr_ptr, List.drop_succ_cons, List.drop_zero, List.take_succ_cons, List.take_zero, load1_iptr, loadN_iptr, List.length_cons, List.length_nil, Nat.le_refl, if_true, List.getElem?_cons_zero, List.getElem?_cons_succ, List.getD_cons_zero, List.getD_cons_succ, extrF_tup, binF_add, binF_sub, binF_mul, binF_eql, binF_neq, binF_lss, binF_leq, binF_gtr, binF_geq, true_and]
    by_cases he : c = l[i]
    · have e1 : ((c : Int) == ((l[i] : Nat) : Int)) = true := by rw [← he]; exact beq_self_eq_true _
      simp only [e1, condA_tt]
      have hmem : c ∈ l := by rw [he]; exact List.getElem_mem a1
      have hidx : l.idxOf c = i := by
        have h1 : l = l.take i ++ l[i] :: l.drop (i + 1) := by rw [← List.drop_eq_getElem_cons a1, List.take_append_drop]
        rw [h1, List.idxOf_append, if_neg hnot, ← he, List.idxOf_cons_self, List.length_take]; omega
      rw [if_pos hmem, hidx] at hk
      exact endK_ret hk
    · have e1 : ((c : Int) == ((l[i] : Nat) : Int)) = false := by rw [beq_eq_false_iff_ne]; omega
      simp only [e1, condA_ff]
      rw [wrap_i64 (by omega) (by omega)]
      refine ⟨⟨i + 1, rfl, by omega, rfl, ?_⟩, by simp <;> omega⟩
      rw [List.take_add_one, List.getElem?_eq_getElem a1, List.mem_append]
      rintro (h | h)
      · exact hnot h
      · simp at h; exact he h
  · have hie : i = l.length := by omega
    subst hie
    rw [List.take_length] at hnot
    rw [if_neg hnot] at hk
    exact endK_ret hk
end Go.Proofs.YtmmfelpgcdlgfaaDoor

namespace Go.Proofs.YtmmfelpgcdlgfaaDoor
open Go.Av
set_option linter.unusedVariables false
set_option linter.unusedSimpArgs false
set_option maxRecDepth 4000

theorem toBytes_st {l : List Nat} (hl : asc l) {put : AV → Heap → Prop} {H : Heap} (h : put (.imm l.length false (u8l l)) H) : toBytesA (st l) put H := by
  show put (.imm (bs l).size false (bytesA (bs l))) H
  rw [bs_size, bytes_st hl]; exact h
theorem src_cells {H : Heap} {v : AV} {n : Nat} {cs : List AV} (h : ReadsC 1 H v n cs) : srcOf 1 v H = some (n, cs) := by
  have h1 := h.1
  have h2 := h.2
  cases v <;> simp only at h2 <;> try exact h2.elim
  · subst h2
    have : cs = [] := List.eq_nil_of_length_eq_zero (by simpa using h1)
    rw [this]; rfl
  · obtain ⟨rfl, rfl⟩ := h2
    simp [srcOf, h1]
  · obtain ⟨rfl, rfl, cc, q1, q2, q3⟩ := h2
    simp only [srcOf, if_true, q1, Option.bind_some, if_pos q2, q3]
/-- short.Ways, of a part of one letter -/
theorem c95 {l : List Nat} {c : Nat} (hl : asc l) (hc : c < 128) (h1 : wordE l = 0) (h2 : wordE [c] = 0) (hll : l.length < 1000000) {H : Heap} {K : AV → Heap → Prop} (hk : K (.tup [.int .i64 (l.count c : Nat), .int .i64 0]) H) : ACalls Tryd.prog 95 [st l, st [c]] H K := by
  apply W95_ok
  unfold W95
  have hcc : asc [c] := fun x hx => by simp at hx; omega
  simp only [letO_some, cellsOf?_agg, cellsOf?_int, cellsOf?_bool, cellsOf?_imm, cellsOf?_ref, cellsOf?_nils, faddr_iptr, faddr_ptr, List.drop_succ_cons, List.drop_zero, List.take_succ_cons, List.take_zero, load1_iptr, loadN_iptr, List.length_cons, List.length_nil, Nat.le_refl, if_true, List.getElem?_cons_zero, List.getElem?_cons_succ, List.getD_cons_zero, List.getD_cons_succ, extrF_tup, binF_add, binF_sub, binF_mul, binF_eql, binF_neq, binF_lss, binF_leq, binF_gtr, binF_geq, true_and, l182 (show cellsOf? (st l) = some [st l] from rfl) (show cellsOf? (st [c]) = some [st [c]] from rfl)]
  refine c107 hl hcc ?_
  rw [if_neg (by simp [h1]), h2]
  have hl1 : lenS (st [c]) = some (.int .i64 1) := st_len [c]
  simp only [letO_some, cellsOf?_agg, cellsOf?_int, cellsOf?_bool, cellsOf?_imm, cellsOf?_ref, cellsOf?_nils, faddr_iptr, faddr_ptr, List.drop_succ_cons, List.drop_zero, List.take_succ_cons, List.take_zero, load1_iptr, loadN_iptr, List.length_cons, List.length_nil, Nat.le_refl, if_true, List.getElem?_cons_zero, List.getElem?_cons_succ, List.getD_cons_zero, List.getD_cons_succ, extrF_tup, binF_add, binF_sub, binF_mul, binF_eql, binF_neq, binF_lss, binF_leq, binF_gtr, binF_geq, true_and, bne_self_eq_false, condA_ff, hl1]
  rw [wrap_i64 (by omega) (by omega)]
  refine ⟨by omega, by omega, by omega, by omega, ?_⟩
  have hrow : rowOf [.int .i64 0] ((1 + 1 : Int).toNat * 1) = [.int .i64 0, .int .i64 0] := rfl
  rw [hrow]
  intro b hb
  have hle1 := Heap.le_new (c := [.int .i64 0, .int .i64 0]) hb
  have hb1 : (H.put b [.int .i64 0, .int .i64 0]) b = some [.int .i64 0, .int .i64 0] := Heap.put_same
  generalize H.put b [.int .i64 0, .int .i64 0] = H1 at *
  have i0 : ∀ {k : IntKind}, idx 1 (.ref 1 b 0 2 (some 2)) (.int k 0) = some (.ptr b 0) := fun {k} => by simp [idx]
  have i1 : ∀ {k : IntKind}, idx 1 (.ref 1 b 0 2 (some 2)) (.int k 1) = some (.ptr b 1) := fun {k} => by simp [idx]
  have e2 : (1 + 1 : Int).toNat = 2 := rfl
  simp only [letO_some, e2, i0]
  refine storeA_of (cs := [.int .i64 1]) hb1 rfl rfl rfl (by simp) ?_
  have hsp : splice [AV.int .i64 0, .int .i64 0] 0 [.int .i64 1] = [.int .i64 1, .int .i64 0] := rfl
  rw [hsp]
  have hle2 : H.le (H1.put b [.int .i64 1, .int .i64 0]) := Heap.le_put hle1 hb
  have hb2 : (H1.put b [.int .i64 1, .int .i64 0]) b = some [.int .i64 1, .int .i64 0] := Heap.put_same
  generalize H1.put b [.int .i64 1, .int .i64 0] = H2 at *
  try simp only [letO_some]
  refine toBytes_st hl ?_
  have hlb : lenA (.imm l.length false (u8l l)) = some (.int .i64 l.length) := rfl
  simp only [letO_some, cellsOf?_agg, cellsOf?_int, cellsOf?_bool, cellsOf?_imm, cellsOf?_ref, cellsOf?_nils, faddr_iptr, faddr_ptr, List.drop_succ_cons, List.drop_zero, List.take_succ_cons, List.take_zero, load1_iptr, loadN_iptr, List.length_cons, List.length_nil, Nat.le_refl, if_true, List.getElem?_cons_zero, List.getElem?_cons_succ, List.getD_cons_zero, List.getD_cons_succ, extrF_tup, binF_add, binF_sub, binF_mul, binF_eql, binF_neq, binF_lss, binF_leq, binF_gtr, binF_geq, true_and, hlb]
  refine ⟨fun L H' => ∃ i : Nat, eqt L [.int .i64 i] ∧ i ≤ l.length ∧ H.le H' ∧ H' b = some [.int .i64 1, .int .i64 ((l.take i).count c : Nat)], fun L _ => (l.length - iv L 0).toNat, ⟨0, rfl, by omega, hle2, by simpa using hb2⟩, ?_⟩
  rintro L H' ⟨i, rfl, hi, hle, hb'⟩
  try simp only [letO_some, cellsOf?_agg, cellsOf?_int, cellsOf?_bool, cellsOf?_imm, cellsOf?_ref, cellsOf?_nils, faddr_iptr, faddr_ptr, List.drop_succ_cons, List.drop_zero, List.take_succ_cons, List.take_zero, load1_iptr, loadN_iptr, List.length_cons, List.length_nil, Nat.le_refl, if_true, List.getElem?_cons_zero, List.getElem?_cons_succ, List.getD_cons_zero, List.getD_cons_succ, extrF_tup, binF_add, binF_sub, binF_mul, binF_eql, binF_neq, binF_lss, binF_leq, binF_gtr, binF_geq, true_and]
  refine condA_t (fun hlt => ?_) (fun hge => ?_)
  · have a1 : i < l.length := by omega
    refine ReadsC.get (v := .imm l.length false (u8l l)) (Heap.le_refl H') (n := l.length) (cells := u8l l) ⟨by simp [u8l], rfl, rfl⟩ (x := .int .u8 ((l[i] : Nat) : Int)) (by omega) (by omega) (by rw [Int.toNat_natCast]; simp [u8l, a1]) ?_
    have hcnt : (l.take (i + 1)).count c = (l.take i).count c + if l[i] = c then 1 else 0 := by
      rw [List.take_add_one, List.getElem?_eq_getElem a1, List.count_append]
      simp [List.count_singleton]
    have hcl : (l.take i).count c ≤ i := Nat.le_trans List.count_le_length (by rw [List.length_take]; omega)
    try simp only [letO_some, cellsOf?_agg, cellsOf?_int, cellsOf?_bool, cellsOf?_imm, cellsOf?_ref, cellsOf?_nils, faddr_iptr, faddr_ptr, List.drop_succ_cons, List.drop_zero, List.take_succ_cons, List.take_zero, load1_iptr, loadN_iptr, List.length_cons, List.length_nil, Nat.le_refl, if_true, List.getElem?_cons_zero, List.getElem?_cons_succ, List.getD_cons_zero, List.getD_cons_succ, extrF_tup, binF_add, binF_sub, binF_mul, binF_eql, binF_neq, binF_lss, binF_leq, binF_gtr, binF_geq, true_and, hl1]
    refine ⟨fun L H'' => ∃ k : Nat, eqt L [.int .i64 k] ∧ k ≤ 1 ∧ H.le H'' ∧ H'' b = some [.int .i64 1, .int .i64 ((l.take (if k = 1 then i else i + 1)).count c : Nat)], fun L _ => (iv L 0).toNat, ⟨1, rfl, by omega, hle, hb'⟩, ?_⟩
    rintro L H3 ⟨k, rfl, hk1, hle3, hb3⟩
    have hk2 : k = 0 ∨ k = 1 := by omega
    rcases hk2 with rfl | rfl
    · have e3 : decide ((0 : Int) < ((0 : Nat) : Int)) = false := rfl
      simp only [letO_some, cellsOf?_agg, cellsOf?_int, cellsOf?_bool, cellsOf?_imm, cellsOf?_ref, cellsOf?_nils, faddr_iptr, faddr_ptr, List.drop_succ_cons, List.drop_zero, List.take_succ_cons, List.take_zero, load1_iptr, loadN_iptr, List.length_cons, List.length_nil, Nat.le_refl, if_true, List.getElem?_cons_zero, List.getElem?_cons_succ, List.getD_cons_zero, List.getD_cons_succ, extrF_tup, binF_add, binF_sub, binF_mul, binF_eql, binF_neq, binF_lss, binF_leq, binF_gtr, binF_geq, true_and, e3, condA_ff]
      rw [wrap_i64 (by omega) (by omega)]
      exact ⟨⟨i + 1, rfl, by omega, hle3, hb3⟩, by simp [iv] <;> omega⟩
    · have e3 : decide ((0 : Int) < ((1 : Nat) : Int)) = true := rfl
      have hix : indexF Tryd.prog 9 (st [c]) (.int .i64 0) = some (.int .u8 (c : Nat)) := st_at hcc (i := 0) (by simp)
      have e4 : IntKind.i64.wrap (((1 : Nat) : Int) - 1) = 0 := by decide
      have e5 : (((1 : Nat) : Int)) = 1 := rfl
      have e3b : decide ((0 : Int) < 1) = true := rfl
      have e4b : IntKind.i64.wrap ((1 : Int) - 1) = 0 := by decide
      rw [if_pos rfl] at hb3
      simp only [letO_some, cellsOf?_agg, cellsOf?_int, cellsOf?_bool, cellsOf?_imm, cellsOf?_ref, cellsOf?_nils, faddr_iptr, faddr_ptr, List.drop_succ_cons, List.drop_zero, List.take_succ_cons, List.take_zero, load1_iptr, loadN_iptr, List.length_cons, List.length_nil, Nat.le_refl, if_true, List.getElem?_cons_zero, List.getElem?_cons_succ, List.getD_cons_zero, List.getD_cons_succ, extrF_tup, binF_add, binF_sub, binF_mul, binF_eql, binF_neq, binF_lss, binF_leq, binF_gtr, binF_geq, true_and, e3, e3b, condA_tt, e4, e4b, e5, hix, i0, i1]
      refine ⟨fun L H4 => H.le H4 ∧ H4 b = some [.int .i64 1, .int .i64 ((l.take (i + 1)).count c : Nat)], ?_, ?_⟩
      · by_cases he : l[i] = c
        · have e6 : ((c : Int) == ((l[i] : Nat) : Int)) = true := by rw [he]; exact beq_self_eq_true _
          rw [if_pos he] at hcnt
          have q0 : load1 (.ptr b 0) H3 = some (.int .i64 1) := load1_at hb3 rfl
          have q1 : load1 (.ptr b 1) H3 = some (.int .i64 ((l.take i).count c : Nat)) := load1_at hb3 rfl
          have e7 : IntKind.i64.wrap ((1 : Int) - 1) = 0 := by decide
          simp only [e6, condA_tt, i1, i0, q0, q1, letO_some, binF_add, binF_sub, e7]
          rw [wrap_i64 (by omega) (by omega)]
          refine storeA_of (cs := [.int .i64 (((l.take i).count c : Nat) + 1 : Int)]) hb3 rfl rfl rfl (by simp) ?_
          refine ⟨Heap.le_put hle3 hb, ?_⟩
          rw [Heap.put_same, hcnt, Int.natCast_add]
          rfl
        · have e6 : ((c : Int) == ((l[i] : Nat) : Int)) = false := by rw [beq_eq_false_iff_ne]; omega
          rw [if_neg he] at hcnt
          simp only [e6, condA_ff]
          exact ⟨hle3, by rw [hcnt, Nat.add_zero]; exact hb3⟩
      · rintro L H4 ⟨hle4, hb4⟩
        have e7 : IntKind.i64.wrap ((1 : Int) - 1) = 0 := by decide
        try simp only [binF_sub, letO_some, e7]
        refine ⟨⟨0, rfl, by omega, hle4, by rw [if_neg (by omega)]; exact hb4⟩, by simp [iv]⟩
  · have hie : i = l.length := by omega
    subst hie
    rw [List.take_length] at hb'
    have q1 : load1 (.ptr b 1) H' = some (.int .i64 (l.count c : Nat)) := load1_at hb' rfl
    simp only [hl1, letO_some, i1, q1]
    exact endK_pub (Pub.drop hle) (endK_ret hk)
end Go.Proofs.YtmmfelpgcdlgfaaDoor

namespace Go.Proofs.YtmmfelpgcdlgfaaDoor
open Go.Av
set_option linter.unusedVariables false
set_option linter.unusedSimpArgs false
set_option maxRecDepth 4000

/- short.Missing, of the example. -/
def abW (j : Nat) : List Nat := if j = 0 then [97, 98, 98, 97] else if j = 1 then [98, 98, 97] else []
def abL (j : Nat) : Int := if j = 0 then 2 else if j = 1 then 1 else 0
theorem abW_asc (j : Nat) : asc (abW j) := by
  unfold abW
  split
  · intro x hx; simp at hx; omega
  · split
    · intro x hx; simp at hx; omega
    · intro x hx; cases hx
theorem abW_arc : ∀ j : Fin 3, ((arcS 2 0 [] (abW j.val)).length : Int) = abL j.val := by decide
theorem abW_len : ∀ j : Fin 3, (abW j.val).length ≤ 4 := by decide
theorem conv5 {n : Int} (h : 0 ≤ n ∧ n < 256) : convF Tryd.prog 3 5 (.int .i64 n) = some (.int .u8 n) := by
  have h1 : (Tryd.prog.underlying 3).isSome = true := by kernel_rfl
  have h2 : Tryd.prog.underlying 5 = some (.int .u8) := by kernel_rfl
  obtain ⟨d, h1⟩ := Option.isSome_iff_exists.1 h1
  have key : ∀ x : Fin 256, IntKind.u8.wrap (x.val : Int) = (x.val : Int) := by decide +kernel
  have := key ⟨n.toNat, by omega⟩
  have hn : ((n.toNat : Nat) : Int) = n := by omega
  simp only [hn] at this
  simp only [convF, h1, h2, this]
def xlen : AV → Nat
  | .ref _ _ _ n _ => n
  | .imm n _ _ => n
  | _ => 0
theorem xlen_grow {sz : Nat} {H H' : Heap} {X : AV} {n : Nat} {cs : List AV} (h : Grow sz H H' X n cs) : xlen X = n := by
  rcases h.2 with ⟨h, h2, _⟩ | ⟨h, _⟩ | ⟨b, _, h, _⟩
  · rw [h, h2]; rfl
  · rw [h]; rfl
  · rw [h]; rfl
theorem u8l_snoc (l : List Nat) (x : Nat) : u8l (l ++ [x]) = u8l l ++ [.int .u8 (x : Int)] := by simp [u8l]
def abA (j : Nat) : Nat := if j = 0 then 0 else 2
theorem abW_at : ∀ j : Fin 2, 97 ∈ abW j.val ∧ (abW j.val).idxOf 97 = abA j.val ∧ (abW j.val).drop (abA j.val + 1) = abW (j.val + 1) ∧ abA j.val + 1 ≤ (abW j.val).length ∧ abL (j.val + 1) = abL j.val - 1 ∧ 0 < abL j.val := by decide
theorem c96 {H : Heap} {K : AV → Heap → Prop} (hk : K (.tup [st [97, 97, 97], .int .i64 0]) H) : ACalls Tryd.prog 96 [st [97, 98, 98, 97], .int .i64 2] H K := by
  apply W96_ok
  unfold W96
  try simp only [letO_some, cellsOf?_agg, cellsOf?_int, cellsOf?_bool, cellsOf?_imm, cellsOf?_ref, cellsOf?_nils, faddr_iptr, faddr_ptr, List.drop_succ_cons, List.drop_zero, List.take_succ_cons, List.take_zero, load1_iptr, loadN_iptr, List.length_cons, List.length_nil, Nat.le_refl, if_true, List.getElem?_cons_zero, List.getElem?_cons_succ, List.getD_cons_zero, List.getD_cons_succ, extrF_tup, binF_add, binF_sub, binF_mul, binF_eql, binF_neq, binF_lss, binF_leq, binF_gtr, binF_geq, true_and]
  refine c41 (abW_asc 0) ?_
  have hle : letE (abW 0) 2 = 0 := by decide
  rw [hle]
  simp only [letO_some, cellsOf?_agg, cellsOf?_int, cellsOf?_bool, cellsOf?_imm, cellsOf?_ref, cellsOf?_nils, faddr_iptr, faddr_ptr, List.drop_succ_cons, List.drop_zero, List.take_succ_cons, List.take_zero, load1_iptr, loadN_iptr, List.length_cons, List.length_nil, Nat.le_refl, if_true, List.getElem?_cons_zero, List.getElem?_cons_succ, List.getD_cons_zero, List.getD_cons_succ, extrF_tup, binF_add, binF_sub, binF_mul, binF_eql, binF_neq, binF_lss, binF_leq, binF_gtr, binF_geq, true_and, bne_self_eq_false, condA_ff]
  refine ⟨fun L H' => ∃ (j : Nat) (X : AV), eqt L [X, st (abW j)] ∧ j ≤ 2 ∧ Grow 1 H H' X j (u8l (List.replicate j 97)), fun L _ => 2 - xlen (L.getD 0 .any), ⟨0, .nils, rfl, by omega, Grow.nils 1 H⟩, ?_⟩
  rintro L H1 ⟨j, X, rfl, hj, hg⟩
  try simp only [letO_some, cellsOf?_agg, cellsOf?_int, cellsOf?_bool, cellsOf?_imm, cellsOf?_ref, cellsOf?_nils, faddr_iptr, faddr_ptr, List.drop_succ_cons, List.drop_zero, List.take_succ_cons, List.take_zero, load1_iptr, loadN_iptr, List.length_cons, List.length_nil, Nat.le_refl, if_true, List.getElem?_cons_zero, List.getElem?_cons_succ, List.getD_cons_zero, List.getD_cons_succ, extrF_tup, binF_add, binF_sub, binF_mul, binF_eql, binF_neq, binF_lss, binF_leq, binF_gtr, binF_geq, true_and]
  refine c42 (abW_asc j) (by have := abW_len ⟨j, by omega⟩; simp only at this; omega) ?_
  have hls : ∀ l : List Int, lenA (sl l) = some (.int .i64 l.length) := fun l => rfl
  have harc := abW_arc ⟨j, by omega⟩
  simp only at harc
  simp only [letO_some, cellsOf?_agg, cellsOf?_int, cellsOf?_bool, cellsOf?_imm, cellsOf?_ref, cellsOf?_nils, faddr_iptr, faddr_ptr, List.drop_succ_cons, List.drop_zero, List.take_succ_cons, List.take_zero, load1_iptr, loadN_iptr, List.length_cons, List.length_nil, Nat.le_refl, if_true, List.getElem?_cons_zero, List.getElem?_cons_succ, List.getD_cons_zero, List.getD_cons_succ, extrF_tup, binF_add, binF_sub, binF_mul, binF_eql, binF_neq, binF_lss, binF_leq, binF_gtr, binF_geq, true_and, hls, harc]
  refine ⟨fun L H' => ∃ (d : Bool) (X' : AV), eqt L [X', st (abW (if d then j + 1 else j)), .bool d, .int .u8 (if d then 98 else 97)] ∧ (d = true → j < 2) ∧ Grow 1 H H' X' (if d then j + 1 else j) (u8l (List.replicate (if d then j + 1 else j) 97)) ∧ (d = false → eqt H' H1 ∧ eqt X' X), fun L _ => (match L.getD 2 .any with | .bool true => 0 | _ => 1),
    ⟨false, X, rfl, by simp, hg, fun _ => ⟨rfl, rfl⟩⟩, ?_⟩
  rintro L H2 ⟨d, X', rfl, hd, hg2, hsame⟩
  have e99 : IntKind.i64.wrap ((97 : Int) + 2) = 99 := by decide
  cases d with
  | true =>
    have e1 : decide ((98 : Int) < 99) = true := rfl
    simp only [if_true, letO_some, cellsOf?_agg, cellsOf?_int, cellsOf?_bool, cellsOf?_imm, cellsOf?_ref, cellsOf?_nils, faddr_iptr, faddr_ptr, List.drop_succ_cons, List.drop_zero, List.take_succ_cons, List.take_zero, load1_iptr, loadN_iptr, List.length_cons, List.length_nil, Nat.le_refl, if_true, List.getElem?_cons_zero, List.getElem?_cons_succ, List.getD_cons_zero, List.getD_cons_succ, extrF_tup, binF_add, binF_sub, binF_mul, binF_eql, binF_neq, binF_lss, binF_leq, binF_gtr, binF_geq, true_and, e99, conv5 (show (0 : Int) ≤ 99 ∧ (99 : Int) < 256 by omega), e1, gval_bool, Int.reduceBNe, Int.reduceBEq, pickF_true, pickF_false, reduceIte, Bool.true_eq_false, Bool.false_eq_true, if_false, condA_tt, condA_ff, condG_tt, condG_ff, condG_tt', condG_ff', condG_undef, gval_undef, not_v, Bool.not_true]
    simp only [if_true] at hg2
    refine ⟨⟨j + 1, X', rfl, by have := hd rfl; omega, hg2⟩, ?_⟩
    rw [xlen_grow hg2, xlen_grow hg]
    have := hd rfl
    omega
  | false =>
    obtain ⟨rfl, rfl⟩ := hsame rfl
    have e1 : decide ((97 : Int) < 99) = true := rfl
    have e98 : IntKind.u8.wrap ((97 : Int) + 1) = 98 := by decide
    have hwl : (abW j).length < 2 ^ 63 := by have := abW_len ⟨j, by omega⟩; simp only at this; omega
    simp only [Bool.false_eq_true, if_false, letO_some, cellsOf?_agg, cellsOf?_int, cellsOf?_bool, cellsOf?_imm, cellsOf?_ref, cellsOf?_nils, faddr_iptr, faddr_ptr, List.drop_succ_cons, List.drop_zero, List.take_succ_cons, List.take_zero, load1_iptr, loadN_iptr, List.length_cons, List.length_nil, Nat.le_refl, if_true, List.getElem?_cons_zero, List.getElem?_cons_succ, List.getD_cons_zero, List.getD_cons_succ, extrF_tup, binF_add, binF_sub, binF_mul, binF_eql, binF_neq, binF_lss, binF_leq, binF_gtr, binF_geq, true_and, e99, conv5 (show (0 : Int) ≤ 99 ∧ (99 : Int) < 256 by omega), e1, gval_bool, Int.reduceBNe, Int.reduceBEq, pickF_true, pickF_false, reduceIte, Bool.true_eq_false, Bool.false_eq_true, if_false, condA_tt, condA_ff, condG_tt, condG_ff, condG_tt', condG_ff', condG_undef, gval_undef, not_v, Bool.not_false]
    refine ⟨fun L H' => ∃ X2, eqt L [X2, st (abW (j + 1)), .bool true] ∧ j < 2 ∧ Grow 1 H H' X2 (j + 1) (u8l (List.replicate (j + 1) 97)), ?_, ?_⟩
    · refine toBytes_st (abW_asc j) ?_
      refine c108 (c := 97) hwl ?_
      by_cases hj2 : j = 2
      · subst hj2
        have hno : ¬ 97 ∈ abW 2 := by decide
        rw [if_neg hno]
        have e2 : decide ((-1 : Int) < 0) = true := rfl
        simp only [letO_some, cellsOf?_agg, cellsOf?_int, cellsOf?_bool, cellsOf?_imm, cellsOf?_ref, cellsOf?_nils, faddr_iptr, faddr_ptr, List.drop_succ_cons, List.drop_zero, List.take_succ_cons, List.take_zero, load1_iptr, loadN_iptr, List.length_cons, List.length_nil, Nat.le_refl, if_true, List.getElem?_cons_zero, List.getElem?_cons_succ, List.getD_cons_zero, List.getD_cons_succ, extrF_tup, binF_add, binF_sub, binF_mul, binF_eql, binF_neq, binF_lss, binF_leq, binF_gtr, binF_geq, true_and, e2, condA_tt, l49 cellsOf?_int]
        refine appendA_grow hg (m := 1) (new := [.int .u8 97]) (by simp [srcOf]) rfl rfl (by omega) (by omega) fun v' H3 hg3 => ?_
        have e3 : u8l (List.replicate 2 97) ++ [AV.int .u8 97] = u8l [97, 97, 97] := rfl
        rw [e3] at hg3
        refine ⟨_, _, _, src_cells hg3.readsC, strOf_u8 (l := [97, 97, 97]) (by intro x hx; simp at hx; omega), ?_⟩
        try simp only [letO_some]
        exact endK_pub (Pub.drop hg3.le) (endK_ret hk)
      · obtain ⟨w1, w2, w3, w4, w5, w6⟩ := abW_at ⟨j, by omega⟩
        simp only at w1 w2 w3 w4 w5 w6
        rw [if_pos w1, w2]
        have hA : abA j ≤ 2 := by unfold abA; split <;> omega
        have e2 : decide (((abA j : Nat) : Int) < 0) = false := decide_eq_false (by omega)
        have e3 : decide ((0 : Int) < abL j) = true := decide_eq_true w6
        have e4 : IntKind.i64.wrap (((abA j : Nat) : Int) + 1) = ((abA j + 1 : Nat) : Int) := by rw [wrap_i64 (by omega) (by omega)]; omega
        have hs := st_drop (l := abW j) (k := abA j + 1) w4
        rw [w3] at hs
        have hL2 : abL j ≤ 2 := by unfold abL; split <;> (try split) <;> omega
        simp only [letO_some, cellsOf?_agg, cellsOf?_int, cellsOf?_bool, cellsOf?_imm, cellsOf?_ref, cellsOf?_nils, faddr_iptr, faddr_ptr, List.drop_succ_cons, List.drop_zero, List.take_succ_cons, List.take_zero, load1_iptr, loadN_iptr, List.length_cons, List.length_nil, Nat.le_refl, if_true, List.getElem?_cons_zero, List.getElem?_cons_succ, List.getD_cons_zero, List.getD_cons_succ, extrF_tup, binF_add, binF_sub, binF_mul, binF_eql, binF_neq, binF_lss, binF_leq, binF_gtr, binF_geq, true_and, e2, condA_ff, e3, gval_bool, Int.reduceBNe, Int.reduceBEq, pickF_true, pickF_false, reduceIte, Bool.true_eq_false, Bool.false_eq_true, if_false, condA_tt, condA_ff, condG_tt, condG_ff, condG_tt', condG_ff', condG_undef, gval_undef, e4, hs]
        refine exJ ?_
        refine c42 (abW_asc (j + 1)) (by have := abW_len ⟨j + 1, by omega⟩; simp only at this; omega) ?_
        have harc2 := abW_arc ⟨j + 1, by omega⟩
        simp only at harc2
        have e5 : IntKind.i64.wrap (abL j - 1) = abL (j + 1) := by rw [wrap_i64 (by omega) (by omega), w5]
        simp only [letO_some, cellsOf?_agg, cellsOf?_int, cellsOf?_bool, cellsOf?_imm, cellsOf?_ref, cellsOf?_nils, faddr_iptr, faddr_ptr, List.drop_succ_cons, List.drop_zero, List.take_succ_cons, List.take_zero, load1_iptr, loadN_iptr, List.length_cons, List.length_nil, Nat.le_refl, if_true, List.getElem?_cons_zero, List.getElem?_cons_succ, List.getD_cons_zero, List.getD_cons_succ, extrF_tup, binF_add, binF_sub, binF_mul, binF_eql, binF_neq, binF_lss, binF_leq, binF_gtr, binF_geq, true_and, gval_bool, Int.reduceBNe, Int.reduceBEq, pickF_true, pickF_false, reduceIte, Bool.true_eq_false, Bool.false_eq_true, if_false, condA_tt, condA_ff, condG_tt, condG_ff, condG_tt', condG_ff', condG_undef, gval_undef, hls, harc2, e5, beq_self_eq_true, l49 cellsOf?_int, e4, hs]
        refine appendA_grow hg (m := 1) (new := [.int .u8 97]) (by simp [srcOf]) rfl rfl (by omega) (by omega) fun v' H3 hg3 => ?_
        have e6 : u8l (List.replicate j 97) ++ [AV.int .u8 97] = u8l (List.replicate (j + 1) 97) := by rw [List.replicate_succ', u8l_snoc]; rfl
        rw [e6] at hg3
        try simp only [letO_some]
        exact ⟨v', rfl, by omega, hg3⟩
    · rintro L H3 ⟨X2, rfl, hj3, hg3⟩
      simp only [letO_some, cellsOf?_agg, cellsOf?_int, cellsOf?_bool, cellsOf?_imm, cellsOf?_ref, cellsOf?_nils, faddr_iptr, faddr_ptr, List.drop_succ_cons, List.drop_zero, List.take_succ_cons, List.take_zero, load1_iptr, loadN_iptr, List.length_cons, List.length_nil, Nat.le_refl, if_true, List.getElem?_cons_zero, List.getElem?_cons_succ, List.getD_cons_zero, List.getD_cons_succ, extrF_tup, binF_add, binF_sub, binF_mul, binF_eql, binF_neq, binF_lss, binF_leq, binF_gtr, binF_geq, true_and, e98]
      refine ⟨⟨true, X2, rfl, fun _ => hj3, hg3, fun h => by cases h⟩, ?_⟩
      show (0 : Nat) < 1
      omega
/-- shortsWork -/
theorem c67 {H : Heap} {K : AV → Heap → Prop} (hk : K (.bool true) H) : ACalls Tryd.prog 67 [] H K := by
  apply W67_ok
  unfold W67
  have a1 : asc [97, 98, 99, 97] := by intro x hx; simp at hx; omega
  have s1 : (AV.str (ByteArray.mk #[97, 98, 99, 97])) = st [97, 98, 99, 97] := rfl
  have s2 : (AV.str (ByteArray.mk #[97])) = st [97] := rfl
  have s3 : (AV.str (ByteArray.mk #[97, 98, 98, 97])) = st [97, 98, 98, 97] := rfl
  have s4 : (AV.str (ByteArray.mk #[97, 97, 97])) = st [97, 97, 97] := rfl
  have s5 : (AV.str (ByteArray.mk #[100, 97, 121, 45, 98, 111, 111, 107])) = st [100, 97, 121, 45, 98, 111, 111, 107] := rfl
  have s6 : (AV.str (ByteArray.mk #[121, 98, 107])) = st [121, 98, 107] := rfl
  simp only [letO_some, cellsOf?_agg, cellsOf?_int, cellsOf?_bool, cellsOf?_imm, cellsOf?_ref, cellsOf?_nils, faddr_iptr, faddr_ptr, List.drop_succ_cons, List.drop_zero, List.take_succ_cons, List.take_zero, load1_iptr, loadN_iptr, List.length_cons, List.length_nil, Nat.le_refl, if_true, List.getElem?_cons_zero, List.getElem?_cons_succ, List.getD_cons_zero, List.getD_cons_succ, extrF_tup, binF_add, binF_sub, binF_mul, binF_eql, binF_neq, binF_lss, binF_leq, binF_gtr, binF_geq, true_and, s1, s2, s3, s4, s5, s6]
  refine c95 a1 (by omega) (by decide) (by decide) (by simp) ?_
  simp only [letO_some, cellsOf?_agg, cellsOf?_int, cellsOf?_bool, cellsOf?_imm, cellsOf?_ref, cellsOf?_nils, faddr_iptr, faddr_ptr, List.drop_succ_cons, List.drop_zero, List.take_succ_cons, List.take_zero, load1_iptr, loadN_iptr, List.length_cons, List.length_nil, Nat.le_refl, if_true, List.getElem?_cons_zero, List.getElem?_cons_succ, List.getD_cons_zero, List.getD_cons_succ, extrF_tup, binF_add, binF_sub, binF_mul, binF_eql, binF_neq, binF_lss, binF_leq, binF_gtr, binF_geq, true_and]
  refine c96 ?_
  have a3 : asc [97, 97, 97] := by intro x hx; simp at hx; omega
  have e2 : ((List.count 97 [97, 98, 99, 97] : Nat) : Int) = 2 := by decide
  simp only [letO_some, cellsOf?_agg, cellsOf?_int, cellsOf?_bool, cellsOf?_imm, cellsOf?_ref, cellsOf?_nils, faddr_iptr, faddr_ptr, List.drop_succ_cons, List.drop_zero, List.take_succ_cons, List.take_zero, load1_iptr, loadN_iptr, List.length_cons, List.length_nil, Nat.le_refl, if_true, List.getElem?_cons_zero, List.getElem?_cons_succ, List.getD_cons_zero, List.getD_cons_succ, extrF_tup, binF_add, binF_sub, binF_mul, binF_eql, binF_neq, binF_lss, binF_leq, binF_gtr, binF_geq, true_and, gval_bool, Int.reduceBNe, Int.reduceBEq, pickF_true, pickF_false, reduceIte, Bool.true_eq_false, Bool.false_eq_true, if_false, condA_tt, condA_ff, condG_tt, condG_ff, condG_tt', condG_ff', condG_undef, gval_undef, beq_self_eq_true, e2, st_eql a3 a3, decide_true]
  refine exJ ?_
  refine c97 (by intro x hx; simp at hx; omega) (by intro x hx; simp at hx; omega) (by simp) ?_
  have e3 : decide (lfS [100, 97, 121, 45, 98, 111, 111, 107] [121, 98, 107] = []) = true := by decide
  simp only [e3, letO_some, cellsOf?_agg, cellsOf?_int, cellsOf?_bool, cellsOf?_imm, cellsOf?_ref, cellsOf?_nils, faddr_iptr, faddr_ptr, List.drop_succ_cons, List.drop_zero, List.take_succ_cons, List.take_zero, load1_iptr, loadN_iptr, List.length_cons, List.length_nil, Nat.le_refl, if_true, List.getElem?_cons_zero, List.getElem?_cons_succ, List.getD_cons_zero, List.getD_cons_succ, extrF_tup, binF_add, binF_sub, binF_mul, binF_eql, binF_neq, binF_lss, binF_leq, binF_gtr, binF_geq, true_and, gval_bool, Int.reduceBNe, Int.reduceBEq, pickF_true, pickF_false, reduceIte, Bool.true_eq_false, Bool.false_eq_true, if_false, condA_tt, condA_ff, condG_tt, condG_ff, condG_tt', condG_ff', condG_undef, gval_undef]
  exact endK_ret hk
end Go.Proofs.YtmmfelpgcdlgfaaDoor

namespace Go.Proofs.YtmmfelpgcdlgfaaDoor
open Go.Av
set_option linter.unusedVariables false
set_option linter.unusedSimpArgs false
set_option maxRecDepth 20000

/- Sets as numbers, a bit each. -/
theorem wrap_u64 {n : Int} (h1 : 0 ≤ n) (h2 : n < 18446744073709551616) : IntKind.u64.wrap n = n := by
  have e1 : (2 : Int) ^ 64 = 18446744073709551616 := by decide
  simp only [IntKind.wrap, IntKind.signed, IntKind.bits, Bool.false_and, e1, Bool.false_eq_true, if_false]
  omega
theorem u64_nat {a : Nat} (ha : a < 2 ^ 64) : (BitVec.ofInt 64 (a : Int)).toNat = a := by
  rw [BitVec.ofInt_natCast, BitVec.toNat_ofNat]; exact Nat.mod_eq_of_lt ha
theorem u64_and {t : TypeId} {a b : Nat} (ha : a < 2 ^ 64) (hb : b < 2 ^ 64) : binF Tryd.prog .and t (.int .u64 (a : Int)) (.int .u64 (b : Int)) = some (.int .u64 ((a &&& b : Nat) : Int)) := by
  show (if IntKind.u64 = IntKind.u64 then some (AV.int .u64 (IntKind.u64.wrap ((BitVec.ofInt 64 (a : Int) &&& BitVec.ofInt 64 (b : Int)).toNat))) else none) = _
  rw [if_pos rfl, BitVec.toNat_and, u64_nat ha, u64_nat hb, wrap_u64 (by omega)]
  have h1 : a &&& b ≤ a := Nat.and_le_left
  have : (2 : Nat) ^ 64 = 18446744073709551616 := by decide
  omega
theorem u64_or {t : TypeId} {a b : Nat} (ha : a < 2 ^ 63) (hb : b < 2 ^ 63) : binF Tryd.prog .or t (.int .u64 (a : Int)) (.int .u64 (b : Int)) = some (.int .u64 ((a ||| b : Nat) : Int)) := by
  have e : (2 : Nat) ^ 63 ≤ 2 ^ 64 := by decide
  show (if IntKind.u64 = IntKind.u64 then some (AV.int .u64 (IntKind.u64.wrap ((BitVec.ofInt 64 (a : Int) ||| BitVec.ofInt 64 (b : Int)).toNat))) else none) = _
  rw [if_pos rfl, BitVec.toNat_or, u64_nat (Nat.lt_of_lt_of_le ha e), u64_nat (Nat.lt_of_lt_of_le hb e), wrap_u64 (by omega)]
  have h1 : a ||| b < 2 ^ 63 := Nat.or_lt_two_pow ha hb
  have : (2 : Nat) ^ 63 = 9223372036854775808 := by decide
  omega
theorem u64_shr {t : TypeId} {a k : Nat} (hk : k < 64) : binF Tryd.prog .shr t (.int .u64 (a : Int)) (.int .i64 (k : Int)) = some (.int .u64 ((a / 2 ^ k : Nat) : Int)) := by
  have e : min (k : Int).toNat 64 = k := by omega
  show (if (k : Int) < 0 then none else some (AV.int .u64 ((a : Int).fdiv (2 ^ min (k : Int).toNat 64)))) = _
  rw [if_neg (by omega), e]
  have : ((2 : Int) ^ k) = ((2 ^ k : Nat) : Int) := by simp
  rw [this, Int.ofNat_fdiv]
theorem u64_shl {t : TypeId} {k : Nat} (hk : k < 8) : binF Tryd.prog .shl t (.int .u64 1) (.int .i64 (k : Int)) = some (.int .u64 ((2 ^ k : Nat) : Int)) := by
  have h : k = 0 ∨ k = 1 ∨ k = 2 ∨ k = 3 ∨ k = 4 ∨ k = 5 ∨ k = 6 ∨ k = 7 := by omega
  rcases h with rfl | rfl | rfl | rfl | rfl | rfl | rfl | rfl <;> rfl
theorem u64_bit (s k : Nat) : (((s / 2 ^ k &&& 1 : Nat) : Int) == 1) = s.testBit k := by
  have h1 : s / 2 ^ k &&& 1 = s / 2 ^ k % 2 := Nat.and_one_is_mod _
  rw [h1]
  have h2 : s.testBit k = decide (s / 2 ^ k % 2 = 1) := Nat.testBit_eq_decide_div_mod_eq
  rw [h2, Bool.eq_iff_iff, beq_iff_eq, decide_eq_true_iff]
  omega
/-- A set's members. -/
def lsN (s : Nat) : List Nat := (List.range 7).filter fun c => s.testBit c
def tzN (s : Nat) : Nat := (lsN s).headD 0
theorem ls_step : ∀ s : Fin 128, s.val ≠ 0 → lsN s.val = tzN s.val :: lsN (s.val &&& (s.val - 1)) ∧ s.val &&& (s.val - 1) < s.val := by decide +kernel
theorem ls_len (s : Nat) : (lsN s).length ≤ 7 := by
  unfold lsN
  have := List.length_filter_le (fun c => s.testBit c) (List.range 7)
  simpa using this
theorem tz_and : ∀ s : Fin 128, s.val ≠ 0 → IntKind.u64.wrap ((BitVec.ofInt 64 (s.val : Int) &&& BitVec.ofInt 64 (IntKind.u64.wrap (0 - (s.val : Int)))).toNat) = ((2 ^ tzN s.val : Nat) : Int) ∧ tzN s.val < 7 := by decide +kernel
theorem tz_mul : ∀ k : Fin 7, ∃ j : Fin 64, (IntKind.u64.wrap (((2 ^ k.val : Nat) : Int) * 285870213051353865)).fdiv (2 ^ 58) = (j.val : Int) ∧ (match tz64[j.val]? with | some (.int .u8 n) => n == (k.val : Int) | _ => false) = true := by decide +kernel
theorem conv53 {n : Int} (h : 0 ≤ n ∧ n < 256) : convF Tryd.prog 5 3 (.int .u8 n) = some (.int .i64 n) := by
  have h1 : (Tryd.prog.underlying 5).isSome = true := by kernel_rfl
  have h2 : Tryd.prog.underlying 3 = some (.int .i64) := by kernel_rfl
  obtain ⟨d, h1⟩ := Option.isSome_iff_exists.1 h1
  simp only [convF, h1, h2]
  rw [wrap_i64 (by omega) (by omega)]
/-- math/bits.TrailingZeros -/
theorem c48 {s : Nat} {H : Heap} {K : AV → Heap → Prop} (h : s < 128) (h0 : s ≠ 0) (hk : K (.int .i64 (tzN s : Nat)) H) : ACalls Tryd.prog 48 [.int .u64 (s : Int)] H K := by
  apply W48_ok
  unfold W48
  simp only [letO_some, condA_ff]
  apply W76_ok
  unfold W76
  have hne : ((s : Int) == 0) = false := by rw [beq_eq_false_iff_ne]; omega
  obtain ⟨t1, t2⟩ := tz_and ⟨s, h⟩ h0
  simp only at t1 t2
  obtain ⟨j, j1, j2⟩ := tz_mul ⟨tzN s, t2⟩
  simp only at j1 j2
  have hneg : unF .neg (.int .u64 (s : Int)) = some (.int .u64 (IntKind.u64.wrap (0 - (s : Int)))) := rfl
  have hand : binF Tryd.prog .and 141 (.int .u64 (s : Int)) (.int .u64 (IntKind.u64.wrap (0 - (s : Int)))) = some (.int .u64 ((2 ^ tzN s : Nat) : Int)) := by
    show (if IntKind.u64 = IntKind.u64 then some (AV.int .u64 (IntKind.u64.wrap ((BitVec.ofInt 64 (s : Int) &&& BitVec.ofInt 64 (IntKind.u64.wrap (0 - (s : Int)))).toNat))) else none) = _
    rw [if_pos rfl, t1]
  have hshr : binF Tryd.prog .shr 141 (.int .u64 (IntKind.u64.wrap (((2 ^ tzN s : Nat) : Int) * 285870213051353865))) (.int .u64 58) = some (.int .u64 (j.val : Int)) := by
    show (if (58 : Int) < 0 then none else some (AV.int .u64 ((IntKind.u64.wrap (((2 ^ tzN s : Nat) : Int) * 285870213051353865)).fdiv (2 ^ min (58 : Int).toNat 64)))) = _
    rw [if_neg (by omega)]
    have : min (58 : Int).toNat 64 = 58 := by decide
    rw [this, j1]
  have hix : idxArr 64 1 (.iptr tz64) (.int .u64 (j.val : Int)) = some (.iptr (tz64.drop j.val)) := by
    have := j.isLt
    simp only [idxArr]
    rw [if_pos (by omega)]
    simp
  simp only [letO_some, binF_eql, hne, condA_ff, hneg, hand, binF_mul, hshr, hix, load1_iptr, List.getElem?_drop, Nat.add_zero]
  cases hz : tz64[j.val]? with
  | none => rw [hz] at j2; cases j2
  | some v =>
    rw [hz] at j2
    cases v <;> try (simp at j2; done)
    rename_i kk n
    cases kk <;> try (simp at j2; done)
    have hn : n = (tzN s : Int) := by simpa using j2
    subst hn
    simp only [letO_some, conv53 (show (0 : Int) ≤ (tzN s : Int) ∧ (tzN s : Int) < 256 by omega)]
    exact endK_ret (endK_ret hk)
def up (l : List Nat) : List Int := l.map fun (x : Nat) => (x : Int)
@[simp] theorem up_length (l : List Nat) : (up l).length = l.length := by simp [up]
/-- see.list -/
theorem c33 {s : Nat} {H : Heap} {K : AV → Heap → Prop} (h : s < 128) (hk : K (sl (up (lsN s))) H) : ACalls Tryd.prog 33 [.int .u64 (s : Int)] H K := by
  apply W33_ok
  unfold W33
  try simp only [letO_some, cellsOf?_agg, cellsOf?_int, cellsOf?_bool, cellsOf?_imm, cellsOf?_ref, cellsOf?_nils, faddr_iptr, faddr_ptr, List.drop_succ_cons, List.drop_zero, List.take_succ_cons, List.take_zero, load1_iptr, loadN_iptr, List.length_cons, List.length_nil, Nat.le_refl, if_true, List.getElem?_cons_zero, List.getElem?_cons_succ, List.getD_cons_zero, List.getD_cons_succ, extrF_tup, binF_add, binF_sub, binF_mul, binF_eql, binF_neq, binF_lss, binF_leq, binF_gtr, binF_geq, true_and]
  refine ⟨fun L H' => ∃ (s' : Nat) (done : List Nat) (X : AV), eqt L [X, .int .u64 (s' : Int)] ∧ s' < 128 ∧ Grow 1 H H' X done.length (ints (up done)) ∧ done ++ lsN s' = lsN s, fun L _ => (iv L 1).toNat, ⟨s, [], .nils, rfl, h, Grow.nils 1 H, rfl⟩, ?_⟩
  rintro L H' ⟨s', done, X, rfl, hs', hg, hd⟩
  try simp only [letO_some, cellsOf?_agg, cellsOf?_int, cellsOf?_bool, cellsOf?_imm, cellsOf?_ref, cellsOf?_nils, faddr_iptr, faddr_ptr, List.drop_succ_cons, List.drop_zero, List.take_succ_cons, List.take_zero, load1_iptr, loadN_iptr, List.length_cons, List.length_nil, Nat.le_refl, if_true, List.getElem?_cons_zero, List.getElem?_cons_succ, List.getD_cons_zero, List.getD_cons_succ, extrF_tup, binF_add, binF_sub, binF_mul, binF_eql, binF_neq, binF_lss, binF_leq, binF_gtr, binF_geq, true_and]
  by_cases h0 : s' = 0
  · subst h0
    have e : (((0 : Nat) : Int) != 0) = false := rfl
    simp only [e, condA_ff]
    have hl0 : lsN 0 = [] := by decide
    rw [hl0, List.append_nil] at hd
    subst hd
    refine hg.end1 ?_
    simpa [sl] using hk
  · have e : ((s' : Int) != 0) = true := by rw [bne_iff_ne]; omega
    simp only [e, condA_tt]
    obtain ⟨l1, l2⟩ := ls_step ⟨s', hs'⟩ h0
    simp only at l1 l2
    have hdl : done.length ≤ 7 := by
      have := ls_len s
      rw [← hd, List.length_append] at this; omega
    refine c48 hs' h0 ?_
    simp only [l35 cellsOf?_int, letO_some]
    refine appendA_one hg (by omega) fun v' H7 hg7 => ?_
    have hsub : IntKind.u64.wrap ((s' : Int) - 1) = ((s' - 1 : Nat) : Int) := by rw [wrap_u64 (by omega) (by omega)]; omega
    have p64 : (2 : Nat) ^ 64 = 18446744073709551616 := by decide
    simp only [letO_some, binF_sub, hsub, u64_and (a := s') (b := s' - 1) (by omega) (by omega)]
    refine ⟨⟨s' &&& (s' - 1), done ++ [tzN s'], v', rfl, by omega, ?_, ?_⟩, by simp [iv]; omega⟩
    · have : up (done ++ [tzN s']) = up done ++ [((tzN s' : Nat) : Int)] := by simp [up]
      rw [this]; simpa using hg7
    · rw [← hd, l1]; simp
end Go.Proofs.YtmmfelpgcdlgfaaDoor
