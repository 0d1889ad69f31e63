import Derived.Test.YtmmfelpgcdlgfaaDoorConB
import Derived.Test.YtmmfelpgcdlgfaaDoorBase
import Derived.Test.YtmmfelpgcdlgfaaDoorAvB
import Derived.Test.YtmmfelpgcdlgfaaDoorRows
import Derived.MakeChecks
import Derived.LaidLaws
import Derived.Deep.DeepLaidRun
import Derived.LaidHandle
import Derived.Test.YtmmfelpgcdlgfaaDoorTie
import Derived.Test.YtmmfelpgcdlgfaaDoorCards
import Derived.SevenTiedAt
import Derived.Test.YtmmfelpgcdlgfaaDoorLMutualW
/- TopMutual: for every input the law returns true, and the input reads as before. No conditions. -/
/- The choices of a graph of seven points are at most twelve. -/
namespace Go.Proofs.YtmmfelpgcdlgfaaDoor
set_option linter.unusedVariables false

/-- A set of points, a bit each, that is a choice among the points of a list. -/
structure Mis (adj : Nat → Nat → Bool) (V : List Nat) (S : Nat) : Prop where
  sub : ∀ x, S.testBit x = true → x ∈ V
  free : ∀ x y, S.testBit x = true → S.testBit y = true → adj x y = false
  full : ∀ x, x ∈ V → S.testBit x = false → ∃ y, S.testBit y = true ∧ adj x y = true
def gB (n : Nat) : Nat := [1, 1, 2, 3, 4, 6, 9, 12].getD n 0
theorem gB_step : ∀ n : Fin 8, ∀ k : Fin 8, 1 ≤ k.val → k.val ≤ n.val → k.val * gB (n.val - k.val) ≤ gB n.val := by decide +kernel
theorem gB_mono : ∀ a : Fin 8, ∀ b : Fin 8, a.val ≤ b.val → gB a.val ≤ gB b.val := by decide +kernel
theorem filter_both {α : Type} (p : α → Bool) (L : List α) : (L.filter p).length + (L.filter fun x => !p x).length = L.length := by
  induction L with
  | nil => rfl
  | cons a L ih => cases h : p a <;> simp [h] <;> omega
theorem cover_le (N : List Nat) : ∀ (L : List Nat) (b : Nat), (∀ S ∈ L, ∃ u ∈ N, S.testBit u = true) → (∀ u ∈ N, (L.filter fun S => S.testBit u).length ≤ b) → L.length ≤ N.length * b := by
  induction N with
  | nil =>
    intro L b h1 _
    cases L with
    | nil => simp
    | cons S L => obtain ⟨u, hu, _⟩ := h1 S (by simp); cases hu
  | cons u N ih =>
    intro L b h1 h2
    have h3 := ih (L.filter fun S => !S.testBit u) b
      (fun S hS => by
        rw [List.mem_filter] at hS
        obtain ⟨w, hw, hw2⟩ := h1 S hS.1
        rcases List.mem_cons.1 hw with rfl | hw
        · rw [hw2] at hS; simp at hS
        · exact ⟨w, hw, hw2⟩)
      (fun w hw => by
        refine Nat.le_trans (List.Sublist.length_le ?_) (h2 w (List.mem_cons_of_mem _ hw))
        exact List.Sublist.filter _ List.filter_sublist)
    have h4 := h2 u (by simp)
    have h5 := filter_both (fun S : Nat => S.testBit u) L
    rw [List.length_cons, Nat.succ_mul]
    omega
theorem least_in {α : Type} (f : α → Nat) : ∀ (L : List α), L ≠ [] → ∃ a ∈ L, ∀ b ∈ L, f a ≤ f b := by
  intro L
  induction L with
  | nil => intro h; exact absurd rfl h
  | cons a L ih =>
    intro _
    cases L with
    | nil => exact ⟨a, by simp, by simp⟩
    | cons c L =>
      obtain ⟨m, hm, h⟩ := ih (by simp)
      by_cases hc : f a ≤ f m
      · refine ⟨a, by simp, fun b hb => ?_⟩
        rcases List.mem_cons.1 hb with rfl | hb
        · exact Nat.le_refl _
        · exact Nat.le_trans hc (h b hb)
      · refine ⟨m, List.mem_cons_of_mem _ hm, fun b hb => ?_⟩
        rcases List.mem_cons.1 hb with rfl | hb
        · omega
        · exact h b hb
theorem xor_bit (S u x : Nat) : (S ^^^ 2 ^ u).testBit x = (S.testBit x ^^ decide (u = x)) := by
  rw [Nat.testBit_xor, Nat.testBit_two_pow]
theorem nodup_map {α β : Type} {f : α → β} : ∀ {L : List α}, (∀ a ∈ L, ∀ b ∈ L, f a = f b → a = b) → L.Pairwise (· ≠ ·) → (L.map f).Pairwise (· ≠ ·) := by
  intro L
  induction L with
  | nil => intro _ _; exact List.Pairwise.nil
  | cons a L ih =>
    intro h hp
    rw [List.pairwise_cons] at hp
    rw [List.map_cons, List.pairwise_cons]
    refine ⟨fun b hb => ?_, ih (fun x hx y hy => h x (List.mem_cons_of_mem _ hx) y (List.mem_cons_of_mem _ hy)) hp.2⟩
    obtain ⟨c, hc, rfl⟩ := List.mem_map.1 hb
    intro he
    exact hp.1 c hc (h a (by simp) c (List.mem_cons_of_mem _ hc) he)
/-- There are at most so many choices. -/
theorem mis_le {adj : Nat → Nat → Bool} (hs : ∀ x y, adj x y = adj y x) (hi : ∀ x, adj x x = false) :
    ∀ (k : Nat) (V L : List Nat), V.length = k → k ≤ 7 → L.Pairwise (· ≠ ·) → (∀ S ∈ L, Mis adj V S) → L.length ≤ gB k := by
  intro k
  induction k using Nat.strongRecOn with
  | _ k ih =>
    intro V L hV hk hnd hL
    by_cases hV0 : V = []
    · subst hV0
      simp at hV
      subst hV
      have h0 : ∀ S ∈ L, S = 0 := fun S hS => by
        apply Nat.eq_of_testBit_eq
        intro i
        rw [Nat.zero_testBit]
        cases h : S.testBit i
        · rfl
        · exact absurd ((hL S hS).sub i h) (by simp)
      cases L with
      | nil => simp
      | cons a L =>
        cases L with
        | nil => simp [gB]
        | cons b L =>
          rw [List.pairwise_cons] at hnd
          exact absurd ((h0 a (by simp)).trans (h0 b (by simp)).symm) (hnd.1 b (by simp))
    · obtain ⟨v, hv, hmin⟩ := least_in (fun u => (V.filter fun w => w == u || adj u w).length) V hV0
      have hcov : L.length ≤ (V.filter fun w => w == v || adj v w).length * gB (k - (V.filter fun w => w == v || adj v w).length) := by
        refine cover_le _ _ _ (fun S hS => ?_) (fun u hu => ?_)
        · cases h : S.testBit v
          · obtain ⟨y, y1, y2⟩ := (hL S hS).full v hv h
            exact ⟨y, List.mem_filter.2 ⟨(hL S hS).sub y y1, by simp [y2]⟩, y1⟩
          · exact ⟨v, List.mem_filter.2 ⟨hv, by simp⟩, h⟩
        · have huV : u ∈ V := (List.mem_filter.1 hu).1
          have hsum := filter_both (fun w => w == u || adj u w) V
          have hlow := hmin u huV
          have hpos : 1 ≤ (V.filter fun w => w == u || adj u w).length := List.length_pos_of_mem (List.mem_filter.2 ⟨huV, by simp⟩)
          have hmap := ih (V.filter fun w => !(w == u || adj u w)).length (by omega) (V.filter fun w => !(w == u || adj u w)) ((L.filter fun S => S.testBit u).map fun S => S ^^^ 2 ^ u) rfl (by omega)
            (nodup_map (fun a _ b _ h => by
              have : a ^^^ 2 ^ u ^^^ 2 ^ u = b ^^^ 2 ^ u ^^^ 2 ^ u := by rw [h]
              simpa [Nat.xor_assoc] using this) (hnd.filter _))
            (fun T hT => by
              obtain ⟨S, hS, rfl⟩ := List.mem_map.1 hT
              rw [List.mem_filter] at hS
              obtain ⟨hS, hSu⟩ := hS
              have hm := hL S hS
              refine ⟨fun x hx => ?_, fun x y hx hy => ?_, fun x hx hnx => ?_⟩
              · rw [xor_bit] at hx
                by_cases hux : u = x
                · subst hux; rw [hSu] at hx; simp at hx
                · simp [hux] at hx
                  refine List.mem_filter.2 ⟨hm.sub x hx, ?_⟩
                  have := hm.free u x hSu hx
                  simp [this]; exact fun h => hux h.symm
              · rw [xor_bit] at hx hy
                by_cases hux : u = x
                · subst hux; rw [hSu] at hx; simp at hx
                · by_cases huy : u = y
                  · subst huy; rw [hSu] at hy; simp at hy
                  · simp [hux] at hx; simp [huy] at hy
                    exact hm.free x y hx hy
              · rw [List.mem_filter] at hx
                have hx2 := hx.2
                simp at hx2
                rw [xor_bit] at hnx
                have hux : ¬ u = x := fun h => hx2.1 h.symm
                simp [hux] at hnx
                obtain ⟨y, y1, y2⟩ := hm.full x hx.1 hnx
                have huy : ¬ u = y := by
                  rintro rfl
                  rw [hs, hx2.2] at y2; cases y2
                exact ⟨y, by rw [xor_bit]; simp [huy, y1], y2⟩)
          rw [List.length_map] at hmap
          have hmono := gB_mono ⟨(V.filter fun w => !(w == u || adj u w)).length, by omega⟩ ⟨k - (V.filter fun w => w == v || adj v w).length, by omega⟩ (by simp only; omega)
          exact Nat.le_trans hmap hmono
      have hv1 : 1 ≤ (V.filter fun w => w == v || adj v w).length := List.length_pos_of_mem (List.mem_filter.2 ⟨hv, by simp⟩)
      have hvk : (V.filter fun w => w == v || adj v w).length ≤ k := by rw [← hV]; exact List.length_filter_le _ _
      have := gB_step ⟨k, by omega⟩ ⟨(V.filter fun w => w == v || adj v w).length, by omega⟩ hv1 hvk
      exact Nat.le_trans hcov this
end Go.Proofs.YtmmfelpgcdlgfaaDoor

/- Choices of words that see each other both ways, and lists of wrong articles. -/
namespace Go.Proofs.YtmmfelpgcdlgfaaDoor
set_option linter.unusedVariables false

theorem cmpL_tri : ∀ (a b : List Int), cmpL a b = -1 ∨ cmpL a b = 0 ∨ cmpL a b = 1 := by
  intro a
  induction a with
  | nil => intro b; cases b <;> simp [cmpL]
  | cons x a ih =>
    intro b
    cases b with
    | nil => simp [cmpL]
    | cons y b =>
      rw [cmpL]
      split
      · simp
      · split
        · simp
        · exact ih b
/-- What the search for the shortest lists knows. -/
theorem sh_inv (R : List (Nat × Nat)) (L : List Nat) :
    (L.foldl (shF R) ([], 0)).2 = L.countP (fun s => expl R s && (lsN s).length == (L.foldl (shF R) ([], 0)).1.length) ∧
    (∀ s ∈ L, expl R s = true → (L.foldl (shF R) ([], 0)).1.length ≤ (lsN s).length ∧ 0 < (L.foldl (shF R) ([], 0)).2) ∧
    (0 < (L.foldl (shF R) ([], 0)).2 → ∃ s ∈ L, expl R s = true ∧ lsN s = (L.foldl (shF R) ([], 0)).1) := by
  induction L using snoc_ind with
  | h0 => simp
  | h1 L a ih =>
    rw [List.foldl_append]
    simp only [List.foldl_cons, List.foldl_nil]
    generalize L.foldl (shF R) ([], 0) = st at *
    obtain ⟨best, many⟩ := st
    obtain ⟨i1, i2, i3⟩ := ih
    simp only at i1 i2 i3
    have hsame : ∀ {b : List Nat} {m : Nat}, (0 < m → ∃ s ∈ L, expl R s = true ∧ lsN s = b) → 0 < m → ∃ s ∈ L ++ [a], expl R s = true ∧ lsN s = b := by
      intro b m h hm
      obtain ⟨s, s1, s2⟩ := h hm
      exact ⟨s, List.mem_append_left _ s1, s2⟩
    rw [shF]
    by_cases hc : expl R a = false ∨ (0 < many ∧ best.length < (lsN a).length)
    · rw [if_pos hc]
      refine ⟨?_, ?_, ?_⟩
      · rw [List.countP_append, ← i1]
        rcases hc with h | h
        · simp [h]
        · have : ¬ (lsN a).length = best.length := by omega
          simp [this]
      · intro s hs he
        rcases List.mem_append.1 hs with hs | hs
        · exact i2 s hs he
        · simp at hs; subst hs
          rcases hc with h | h
          · rw [he] at h; cases h
          · exact ⟨by simp only; omega, h.1⟩
      · exact hsame i3
    · rw [if_neg hc]
      have he : expl R a = true := by
        cases h : expl R a
        · exact absurd (.inl h) hc
        · rfl
      have hle : 0 < many → (lsN a).length ≤ best.length := fun h => by
        apply Nat.le_of_not_lt
        intro h2
        exact hc (.inr ⟨h, h2⟩)
      try simp only
      by_cases hd : many = 0 ∨ (lsN a).length < best.length
      · rw [if_pos hd]
        simp only
        refine ⟨?_, ?_, fun _ => ⟨a, by simp, he, rfl⟩⟩
        · rw [List.countP_append]
          have : L.countP (fun s => expl R s && (lsN s).length == (lsN a).length) = 0 := by
            rw [List.countP_eq_zero]
            intro s hs h
            simp at h
            obtain ⟨h1, h2⟩ := i2 s hs h.1
            omega
          rw [this]; simp [he]
        · intro s hs hes
          rcases List.mem_append.1 hs with hs | hs
          · obtain ⟨h1, h2⟩ := i2 s hs hes
            omega
          · simp at hs; subst hs; omega
      · rw [if_neg hd]
        have h1 : (lsN a).length = best.length := by
          have := hle (by omega)
          omega
        have hlen : (if cmpL (up (lsN a)) (up best) < 0 then lsN a else best).length = best.length := by split <;> simp [h1]
        simp only [hlen]
        refine ⟨?_, ?_, ?_⟩
        · rw [List.countP_append, ← i1]; simp [he, h1]
        · intro s hs hes
          rcases List.mem_append.1 hs with hs | hs
          · obtain ⟨h1, h2⟩ := i2 s hs hes
            omega
          · simp at hs; subst hs; omega
        · intro _
          split
          · exact ⟨a, by simp, he, rfl⟩
          · exact hsame i3 (by omega)
/-- The pairs, both ways. -/
def both (P : List (Nat × Nat)) : List (Nat × Nat) := P.flatMap fun p => [p, (p.2, p.1)]
theorem mem_both {P : List (Nat × Nat)} {x y : Nat} : (x, y) ∈ both P ↔ (x, y) ∈ P ∨ (y, x) ∈ P := by
  simp only [both, List.mem_flatMap]
  constructor
  · rintro ⟨⟨a, b⟩, h, h2⟩
    simp at h2
    rcases h2 with ⟨rfl, rfl⟩ | ⟨rfl, rfl⟩
    · exact .inl h
    · exact .inr h
  · rintro (h | h)
    · exact ⟨_, h, by simp⟩
    · exact ⟨_, h, by simp⟩
/-- The other points. -/
def oth (n s : Nat) : Nat := 2 ^ n - (s + 1)
theorem oth_bit {n s : Nat} (h : s < 2 ^ n) (x : Nat) : (oth n s).testBit x = (decide (x < n) && !s.testBit x) := Nat.testBit_two_pow_sub_succ h x
theorem oth_lt {n s : Nat} (h : s < 2 ^ n) : oth n s < 2 ^ n := by unfold oth; omega
theorem oth_oth {n s : Nat} (h : s < 2 ^ n) : oth n (oth n s) = s := by unfold oth; omega
theorem oth_len : ∀ n : Fin 8, ∀ s : Fin 128, s.val < 2 ^ n.val → (lsN s.val).length + (lsN (oth n.val s.val)).length = n.val := by decide +kernel
theorem oth_list : ∀ n : Fin 8, ∀ s : Fin 128, s.val < 2 ^ n.val → lsN (oth n.val s.val) = (List.range n.val).filter fun a => !s.val.testBit a := by decide +kernel
theorem bit_lt {n s x : Nat} (h : s < 2 ^ n) (hx : s.testBit x = true) : x < n := by
  apply Nat.lt_of_not_le
  intro hn
  have := Nat.testBit_lt_two_pow (Nat.lt_of_lt_of_le h (Nat.pow_le_pow_right (by omega) hn))
  rw [hx] at this; cases this
theorem and_zero {a b : Nat} : (a &&& b = 0) ↔ ∀ y, a.testBit y = true → b.testBit y = false := by
  constructor
  · intro h y hy
    have : (a &&& b).testBit y = false := by rw [h, Nat.zero_testBit]
    rw [Nat.testBit_and, hy] at this
    simpa using this
  · intro h
    apply Nat.eq_of_testBit_eq
    intro y
    rw [Nat.testBit_and, Nat.zero_testBit]
    cases hy : a.testBit y
    · rfl
    · rw [h y hy]; rfl
def adjB (P : List (Nat × Nat)) (x y : Nat) : Bool := decide ((x, y) ∈ both P)
/-- A choice, said without the bits. -/
theorem kern_iff {n : Nat} {P : List (Nat × Nat)} (hr : ∀ r ∈ P, r.1 < r.2 ∧ r.2 < n) {s : Nat} (hs : s < 2 ^ n) : judE n (both P) s = 0 ↔
    (∀ p ∈ P, ¬ (s.testBit p.1 = true ∧ s.testBit p.2 = true)) ∧ ∀ x, x < n → s.testBit x = false → ∃ y, s.testBit y = true ∧ (x, y) ∈ both P := by
  have hj : judE n (both P) s = 0 ↔ (List.range n).any (clashAt (both P) s) = false ∧ (List.range n).any (openAt (both P) s) = false := by
    unfold judE
    cases (List.range n).any (clashAt (both P) s) <;> cases (List.range n).any (openAt (both P) s) <;> simp
  rw [hj, List.any_eq_false, List.any_eq_false]
  refine and_congr ?_ ?_
  · constructor
    · rintro h ⟨a, b⟩ hp ⟨h1, h2⟩
      have ha := bit_lt hs h1
      have := h a (List.mem_range.2 ha)
      simp only at h1 h2
      simp only [clashAt, h1, Bool.true_and, bne_iff_ne, ne_eq, Classical.not_not] at this
      rw [and_zero] at this
      have := this b (by rw [sw_bit]; exact decide_eq_true (mem_both.2 (.inl hp)))
      rw [h2] at this; cases this
    · intro h x hx hc
      simp only [clashAt, Bool.and_eq_true, bne_iff_ne, ne_eq] at hc
      refine hc.2 (and_zero.2 fun y hy => ?_)
      rw [sw_bit, decide_eq_true_iff, mem_both] at hy
      cases hb : s.testBit y
      · rfl
      · rcases hy with hy | hy
        · exact absurd ⟨hc.1, hb⟩ (h _ hy)
        · exact absurd ⟨hb, hc.1⟩ (h _ hy)
  · constructor
    · intro h x hx hb
      have := h x (List.mem_range.2 hx)
      simp only [openAt, hb, Bool.not_false, Bool.true_and, beq_iff_eq] at this
      rw [and_zero] at this
      apply Classical.byContradiction
      intro hne
      refine this fun y hy => ?_
      rw [sw_bit, decide_eq_true_iff] at hy
      cases hby : s.testBit y
      · rfl
      · exact absurd ⟨y, hby, hy⟩ hne
    · intro h x hx hc
      simp only [openAt, Bool.and_eq_true, Bool.not_eq_true', beq_iff_eq] at hc
      obtain ⟨y, y1, y2⟩ := h x (List.mem_range.1 hx) hc.1
      have := and_zero.1 hc.2 y (by rw [sw_bit]; exact decide_eq_true y2)
      rw [y1] at this; cases this
theorem expl_oth {n : Nat} {P : List (Nat × Nat)} (hr : ∀ r ∈ P, r.1 < r.2 ∧ r.2 < n) {s : Nat} (hs : s < 2 ^ n) : expl P (oth n s) = true ↔ ∀ p ∈ P, ¬ (s.testBit p.1 = true ∧ s.testBit p.2 = true) := by
  rw [expl, List.all_eq_true]
  constructor
  · intro h p hp hc
    have := h p hp
    rw [oth_bit hs, oth_bit hs, hc.1, hc.2] at this
    simp at this
  · intro h p hp
    have := h p hp
    obtain ⟨r1, r2⟩ := hr p hp
    rw [oth_bit hs, oth_bit hs, decide_eq_true (show p.1 < n by omega), decide_eq_true r2]
    cases h1 : s.testBit p.1
    · rfl
    · cases h2 : s.testBit p.2
      · rfl
      · exact absurd ⟨h1, h2⟩ this
/-- At most twelve choices. -/
theorem kern_le {n : Nat} {P : List (Nat × Nat)} (hn : n ≤ 7) (hr : ∀ r ∈ P, r.1 < r.2 ∧ r.2 < n) : (kern n (both P)).length ≤ 12 := by
  have h := mis_le (adj := adjB P) (fun x y => by simp only [adjB]; rw [decide_eq_decide, mem_both, mem_both, or_comm])
    (fun x => by
      simp only [adjB]
      rw [decide_eq_false_iff_not, mem_both, or_self]
      intro h
      have := hr _ h
      simp at this) n (List.range n) (kern n (both P)) List.length_range hn (List.Pairwise.filter _ List.nodup_range) (fun s hs => by
      obtain ⟨h1, h2⟩ := List.mem_filter.1 hs
      have h1 := List.mem_range.1 h1
      have hk := (kern_iff hr h1).1 (by simpa using h2)
      refine ⟨fun x hx => List.mem_range.2 (bit_lt h1 hx), fun x y hx hy => ?_, fun x hx hb => ?_⟩
      · simp only [adjB]
        rw [decide_eq_false_iff_not, mem_both]
        rintro (h | h)
        · exact hk.1 _ h ⟨hx, hy⟩
        · exact hk.1 _ h ⟨hy, hx⟩
      · obtain ⟨y, y1, y2⟩ := hk.2 x (List.mem_range.1 hx) hb
        exact ⟨y, y1, by simp only [adjB]; exact decide_eq_true y2⟩)
  have : ∀ k : Fin 8, gB k.val ≤ 12 := by decide
  exact Nat.le_trans h (this ⟨n, by omega⟩)
theorem ls_or : ∀ s : Fin 128, ∀ x : Fin 7, s.val.testBit x.val = false → (lsN (s.val ||| 2 ^ x.val)).length = (lsN s.val).length + 1 := by decide +kernel
theorem full_bit {n x : Nat} (h : x < n) : (2 ^ n - 1).testBit x = true := by
  rw [Nat.testBit_two_pow_sub_one]; exact decide_eq_true h
/-- The longest choices leave the shortest lists. -/
theorem mutual_law {n : Nat} {P : List (Nat × Nat)} (hn : n ≤ 7) (hr : ∀ r ∈ P, r.1 < r.2 ∧ r.2 < n) :
    (shS n P).1.length ≤ n ∧ (∀ s ∈ kern n (both P), (lsN s).length ≤ n - (shS n P).1.length) ∧
    (∃ s ∈ kern n (both P), (lsN s).length = n - (shS n P).1.length ∧ lsN (oth n s) = (shS n P).1) ∧
    (kern n (both P)).countP (fun s => (lsN s).length == n - (shS n P).1.length) = (shS n P).2 ∧ ∀ s ∈ kern n (both P), expl P (oth n s) = true := by
  obtain ⟨i1, i2, i3⟩ := sh_inv P (List.range (2 ^ n))
  have hd : (List.range (2 ^ n)).foldl (shF P) ([], 0) = shS n P := rfl
  rw [hd] at i1 i2 i3
  have p2 : 2 ^ n ≤ 2 ^ 7 := Nat.pow_le_pow_right (by omega) hn
  have p1 : 1 ≤ 2 ^ n := Nat.one_le_two_pow
  have hfull : expl P (2 ^ n - 1) = true := by
    rw [expl, List.all_eq_true]
    intro p hp
    obtain ⟨r1, r2⟩ := hr p hp
    rw [full_bit r2, Bool.or_true]
  obtain ⟨-, hpos⟩ := i2 (2 ^ n - 1) (List.mem_range.2 (by omega)) hfull
  obtain ⟨c, hc, ce, cl⟩ := i3 hpos
  have hc := List.mem_range.1 hc
  have hcn := oth_len ⟨n, by omega⟩ ⟨c, by omega⟩ hc
  simp only at hcn
  rw [cl] at hcn
  have hcov : ∀ s, s < 2 ^ n → judE n (both P) s = 0 → expl P (oth n s) = true := fun s hs hj => (expl_oth hr hs).2 ((kern_iff hr hs).1 hj).1
  have hmax : ∀ s, s < 2 ^ n → expl P (oth n s) = true → (lsN s).length = n - (shS n P).1.length → judE n (both P) s = 0 := by
    intro s hs he hl
    have hind := (expl_oth hr hs).1 he
    refine (kern_iff hr hs).2 ⟨hind, fun x hx hb => ?_⟩
    apply Classical.byContradiction
    intro hne
    have h1 := ls_or ⟨s, by omega⟩ ⟨x, by omega⟩ hb
    simp only at h1
    have hs2 : s ||| 2 ^ x < 2 ^ n := Nat.or_lt_two_pow hs (Nat.pow_lt_pow_right (by omega) hx)
    have he2 : expl P (oth n (s ||| 2 ^ x)) = true := by
      refine (expl_oth hr hs2).2 fun p hp hc => ?_
      obtain ⟨a, b⟩ := p
      simp only [Nat.testBit_or, Nat.testBit_two_pow, Bool.or_eq_true, decide_eq_true_eq] at hc
      have hab := hr _ hp
      simp only at hab
      rcases hc with ⟨h1 | h1, h2 | h2⟩
      · exact hind _ hp ⟨h1, h2⟩
      · subst h2; exact hne ⟨a, h1, mem_both.2 (.inr hp)⟩
      · subst h1; exact hne ⟨b, h2, mem_both.2 (.inl hp)⟩
      · omega
    have h2 := i2 _ (List.mem_range.2 (oth_lt hs2)) he2
    have h3 := oth_len ⟨n, by omega⟩ ⟨s ||| 2 ^ x, by omega⟩ hs2
    simp only at h3
    omega
  have hle : ∀ s, s < 2 ^ n → judE n (both P) s = 0 → (lsN s).length ≤ n - (shS n P).1.length := by
    intro s hs hj
    have h2 := (i2 _ (List.mem_range.2 (oth_lt hs)) (hcov s hs hj)).1
    have h3 := oth_len ⟨n, by omega⟩ ⟨s, by omega⟩ hs
    simp only at h3
    omega
  have hkm : ∀ s, s ∈ kern n (both P) ↔ s < 2 ^ n ∧ judE n (both P) s = 0 := by
    intro s
    rw [kern, List.mem_filter, List.mem_range, beq_iff_eq]
  refine ⟨by omega, fun s hs => hle s ((hkm s).1 hs).1 ((hkm s).1 hs).2, ⟨oth n c, ?_, ?_, ?_⟩, ?_, fun s hs => hcov s ((hkm s).1 hs).1 ((hkm s).1 hs).2⟩
  · exact (hkm _).2 ⟨oth_lt hc, hmax _ (oth_lt hc) (by rw [oth_oth hc]; exact ce) (by omega)⟩
  · omega
  · rw [oth_oth hc, cl]
  · rw [i1, kern, List.countP_filter]
    have hrev : (List.range (2 ^ n)).countP (fun s => expl P s && (lsN s).length == (shS n P).1.length) = ((List.range (2 ^ n)).map (oth n)).countP (fun s => expl P s && (lsN s).length == (shS n P).1.length) := by
      have : (List.range (2 ^ n)).map (oth n) = (List.range (2 ^ n)).reverse := by
        apply List.ext_getElem
        · simp
        · intro i h1 h2
          simp at h1
          simp [oth]
          omega
      rw [this, List.countP_reverse]
    rw [hrev, List.countP_map]
    apply List.countP_congr
    intro s hs
    have hs := List.mem_range.1 hs
    have h3 := oth_len ⟨n, by omega⟩ ⟨s, by omega⟩ hs
    simp only at h3
    simp only [Function.comp, Bool.and_eq_true, beq_iff_eq]
    constructor
    · rintro ⟨h1, h2⟩
      exact ⟨hcov s hs h2, by omega⟩
    · rintro ⟨h1, h2⟩
      exact ⟨by omega, hmax s hs h1 (by omega)⟩
/-- What the law counts among the choices. -/
def muF (n : Nat) (l : List Nat) (st : Nat × Nat × Bool) (s : Nat) : Nat × Nat × Bool :=
  if st.1 < (lsN s).length then ((lsN s).length, 1, decide (lsN (oth n s) = l))
  else if (lsN s).length < st.1 then st
  else (st.1, st.2.1 + 1, st.2.2 || decide (lsN (oth n s) = l))
theorem mu_inv (n : Nat) (l : List Nat) (L : List Nat) :
    (∀ s ∈ L, (lsN s).length ≤ (L.foldl (muF n l) (0, 0, false)).1) ∧
    (L.foldl (muF n l) (0, 0, false)).2.1 = L.countP (fun s => (lsN s).length == (L.foldl (muF n l) (0, 0, false)).1) ∧
    (L.foldl (muF n l) (0, 0, false)).2.2 = L.any (fun s => (lsN s).length == (L.foldl (muF n l) (0, 0, false)).1 && decide (lsN (oth n s) = l)) ∧
    ((L.foldl (muF n l) (0, 0, false)).1 = 0 ∨ ∃ s ∈ L, (lsN s).length = (L.foldl (muF n l) (0, 0, false)).1) := by
  induction L using snoc_ind with
  | h0 => simp
  | h1 L a ih =>
    rw [List.foldl_append]
    simp only [List.foldl_cons, List.foldl_nil]
    generalize L.foldl (muF n l) (0, 0, false) = st at *
    obtain ⟨most, many, found⟩ := st
    obtain ⟨i1, i2, i3, i4⟩ := ih
    simp only at i1 i2 i3 i4
    rw [muF]
    simp only
    by_cases h1 : most < (lsN a).length
    · rw [if_pos h1]
      simp only
      have hno : ∀ s ∈ L, ((lsN s).length == (lsN a).length) = false := fun s hs => by
        have := i1 s hs
        rw [beq_eq_false_iff_ne]; omega
      refine ⟨fun s hs => ?_, ?_, ?_, .inr ⟨a, by simp, rfl⟩⟩
      · rcases List.mem_append.1 hs with hs | hs
        · have := i1 s hs; omega
        · simp at hs; subst hs; exact Nat.le_refl _
      · rw [List.countP_append, List.countP_eq_zero.2 fun s hs => by simp [hno s hs]]
        simp
      · rw [List.any_append, List.any_eq_false.2 fun s hs => by simp [hno s hs]]
        simp
    · rw [if_neg h1]
      by_cases h2 : (lsN a).length < most
      · rw [if_pos h2]
        simp only
        have hno : ((lsN a).length == most) = false := by rw [beq_eq_false_iff_ne]; omega
        refine ⟨fun s hs => ?_, ?_, ?_, ?_⟩
        · rcases List.mem_append.1 hs with hs | hs
          · exact i1 s hs
          · simp at hs; subst hs; omega
        · rw [List.countP_append, i2]; simp [hno]
        · rw [List.any_append, i3]; simp [hno]
        · rcases i4 with h | ⟨s, hs, h⟩
          · exact .inl h
          · exact .inr ⟨s, List.mem_append_left _ hs, h⟩
      · rw [if_neg h2]
        simp only
        have he : (lsN a).length = most := by omega
        refine ⟨fun s hs => ?_, ?_, ?_, .inr ⟨a, by simp, he⟩⟩
        · rcases List.mem_append.1 hs with hs | hs
          · exact i1 s hs
          · simp at hs; subst hs; omega
        · rw [List.countP_append, i2]; simp [he]
        · rw [List.any_append, i3]; simp [he]
theorem mu_end {n : Nat} {P : List (Nat × Nat)} (hn : n ≤ 7) (hr : ∀ r ∈ P, r.1 < r.2 ∧ r.2 < n) {Ks : List Nat} (hp : Ks.Perm (kern n (both P))) :
    Ks.foldl (muF n (shS n P).1) (0, 0, false) = (n - (shS n P).1.length, (shS n P).2, true) ∧ (shS n P).1.length ≤ n := by
  obtain ⟨m0, m1, ⟨c, c1, c2, c3⟩, m3, m4⟩ := mutual_law hn hr
  obtain ⟨i1, i2, i3, i4⟩ := mu_inv n (shS n P).1 Ks
  generalize Ks.foldl (muF n (shS n P).1) (0, 0, false) = st at *
  obtain ⟨most, many, found⟩ := st
  simp only at i1 i2 i3 i4
  have hmost : most = n - (shS n P).1.length := by
    have h1 := i1 c (hp.mem_iff.2 c1)
    rcases i4 with h | ⟨s, hs, h⟩
    · omega
    · have := m1 s (hp.mem_iff.1 hs)
      omega
  refine ⟨?_, m0⟩
  subst hmost
  have h2 : many = (shS n P).2 := by rw [i2, hp.countP_eq, m3]
  have h3 : found = true := by
    rw [i3, List.any_eq_true]
    exact ⟨c, hp.mem_iff.2 c1, by simp [c2, c3]⟩
  rw [h2, h3]
end Go.Proofs.YtmmfelpgcdlgfaaDoor

namespace Go.Proofs.YtmmfelpgcdlgfaaDoor
open Go.Av
set_option linter.unusedVariables false
set_option linter.unusedSimpArgs false
set_option maxRecDepth 8000

/-- The set of a list. -/
def accS (l : List Nat) : Nat := l.foldl (fun a x => a ||| 2 ^ x) 0
theorem acc_ls : ∀ s : Fin 128, accS (lsN s.val) = s.val := by decide +kernel
theorem acc_lt : ∀ s : Fin 128, ∀ i : Fin 8, accS ((lsN s.val).take i.val) < 128 := by decide +kernel
theorem ls_asc : ∀ s : Fin 128, ∀ i : Fin 7, i.val < (lsN s.val).length → (lsN s.val).getD i.val 0 < 7 ∧ (if i.val = 0 then (-1 : Int) else (((lsN s.val).getD (i.val - 1) 0 : Nat) : Int)) < (((lsN s.val).getD i.val 0 : Nat) : Int) := by decide +kernel
theorem ls_mem {s x : Nat} : x ∈ lsN s ↔ x < 7 ∧ s.testBit x = true := by simp [lsN]
theorem up_getD (l : List Nat) (i : Nat) : (up l).getD i 0 = ((l.getD i 0 : Nat) : Int) := by
  simp only [up, List.getD_eq_getElem?_getD, List.getElem?_map]
  cases l[i]? <;> rfl
/-- fact.Valid of a list in order -/
theorem c13 {v w : AV} {n s : Nat} {R : List (Nat × Nat)} {H : Heap} {K : AV → Heap → Prop} (h : Fd n R) (hv : RP H v R) (hw : Reads H w (up (lsN s))) (hs : s < 2 ^ n) (hk : K (.int .i64 (if expl R s then 0 else 21)) H) :
    ACalls Tryd.prog 13 [.agg [.int .i64 (n : Int), v], w] H K := by
  apply W13_ok
  unfold W13
  have hn7 := h.n7
  have hc := ReadsC.cells hv
  have e0 : ((0 : Int) != 0) = false := rfl
  have e21 : ((21 : Int) != 0) = true := rfl
  have h2n : 2 ^ n ≤ 2 ^ 7 := Nat.pow_le_pow_right (by omega) hn7
  have hld : ∀ H', loadN 2 (.iptr [.int .i64 (n : Int), v]) H' = some (.agg [.int .i64 (n : Int), v]) := fun _ => rfl
  have hlen := hw.len
  rw [up_length] at hlen
  have hl7 := ls_len s
  simp only [letO_some, cellsOf?_agg, cellsOf?_int, cellsOf?_bool, cellsOf?_imm, cellsOf?_ref, cellsOf?_nils, faddr_iptr, faddr_ptr, List.drop_succ_cons, List.drop_zero, List.take_succ_cons, List.take_zero, load1_iptr, loadN_iptr, List.length_cons, List.length_nil, Nat.le_refl, if_true, List.getElem?_cons_zero, List.getElem?_cons_succ, List.getD_cons_zero, List.getD_cons_succ, extrF_tup, binF_add, binF_sub, binF_mul, binF_eql, binF_neq, binF_lss, binF_leq, binF_gtr, binF_geq, true_and, hld]
  refine c36 h hv ?_
  simp only [letO_some, cellsOf?_agg, cellsOf?_int, cellsOf?_bool, cellsOf?_imm, cellsOf?_ref, cellsOf?_nils, faddr_iptr, faddr_ptr, List.drop_succ_cons, List.drop_zero, List.take_succ_cons, List.take_zero, load1_iptr, loadN_iptr, List.length_cons, List.length_nil, Nat.le_refl, if_true, List.getElem?_cons_zero, List.getElem?_cons_succ, List.getD_cons_zero, List.getD_cons_succ, extrF_tup, binF_add, binF_sub, binF_mul, binF_eql, binF_neq, binF_lss, binF_leq, binF_gtr, binF_geq, true_and, e0, condA_ff, hlen]
  refine ⟨fun L H' => ∃ i : Nat, eqt L [.int .u64 (accS ((lsN s).take i) : Nat), .int .i64 (if i = 0 then (-1 : Int) else (((lsN s).getD (i - 1) 0 : Nat) : Int)), .int .i64 i] ∧ i ≤ (lsN s).length ∧ eqt H' H, fun L _ => ((lsN s).length - iv L 2).toNat, ⟨0, rfl, by omega, rfl⟩, ?_⟩
  rintro L H1 ⟨i, rfl, hi, rfl⟩
  try simp only [letO_some, cellsOf?_agg, cellsOf?_int, cellsOf?_bool, cellsOf?_imm, cellsOf?_ref, cellsOf?_nils, faddr_iptr, faddr_ptr, List.drop_succ_cons, List.drop_zero, List.take_succ_cons, List.take_zero, load1_iptr, loadN_iptr, List.length_cons, List.length_nil, Nat.le_refl, if_true, List.getElem?_cons_zero, List.getElem?_cons_succ, List.getD_cons_zero, List.getD_cons_succ, extrF_tup, binF_add, binF_sub, binF_mul, binF_eql, binF_neq, binF_lss, binF_leq, binF_gtr, binF_geq, true_and]
  refine condA_t (fun hlt => ?_) (fun hge => ?_)
  · have a1 : i < (lsN s).length := by omega
    obtain ⟨o1, o2⟩ := ls_asc ⟨s, by omega⟩ ⟨i, by omega⟩ a1
    simp only at o1 o2
    have hmem : (lsN s).getD i 0 ∈ lsN s := by
      rw [List.getD_eq_getElem?_getD, List.getElem?_eq_getElem a1]; exact List.getElem_mem a1
    have hb : (lsN s).getD i 0 < n := bit_lt hs (ls_mem.1 hmem).2
    have hacc := acc_lt ⟨s, by omega⟩ ⟨i, by omega⟩
    simp only at hacc
    have htk : accS ((lsN s).take (i + 1)) = accS ((lsN s).take i) ||| 2 ^ (lsN s).getD i 0 := by
      rw [List.take_add_one, List.getElem?_eq_getElem a1, List.getD_eq_getElem?_getD, List.getElem?_eq_getElem a1, accS, accS, Option.toList_some, List.foldl_append]
      rfl
    refine Reads.get (Heap.le_refl _) hw (by omega) (by rw [up_length]; omega) ?_
    rw [Int.toNat_natCast, up_getD]
    have hgi : (if i + 1 = 0 then (-1 : Int) else (((lsN s).getD (i + 1 - 1) 0 : Nat) : Int)) = (((lsN s).getD i 0 : Nat) : Int) := by simp
    rw [← hgi] 
    rw [hgi]
    generalize (lsN s).getD i 0 = x at *
    have e1 : decide ((x : Int) < 0) = false := decide_eq_false (by omega)
    have e2 : decide ((n : Int) ≤ (x : Int)) = false := decide_eq_false (by omega)
    have e3 : decide ((x : Int) ≤ (if i = 0 then (-1 : Int) else (((lsN s).getD (i - 1) 0 : Nat) : Int))) = false := decide_eq_false (by omega)
    have p2 : 2 ^ x < 2 ^ 63 := Nat.pow_lt_pow_right (by omega) (by omega)
    have p63 : (2 : Nat) ^ 63 = 9223372036854775808 := by decide
    simp only [letO_some, cellsOf?_agg, cellsOf?_int, cellsOf?_bool, cellsOf?_imm, cellsOf?_ref, cellsOf?_nils, faddr_iptr, faddr_ptr, List.drop_succ_cons, List.drop_zero, List.take_succ_cons, List.take_zero, load1_iptr, loadN_iptr, List.length_cons, List.length_nil, Nat.le_refl, if_true, List.getElem?_cons_zero, List.getElem?_cons_succ, List.getD_cons_zero, List.getD_cons_succ, extrF_tup, binF_add, binF_sub, binF_mul, binF_eql, binF_neq, binF_lss, binF_leq, binF_gtr, binF_geq, true_and, e1, e2, e3, gval_bool, Int.reduceBNe, Int.reduceBEq, pickF_true, pickF_false, reduceIte, Bool.true_eq_false, Bool.false_eq_true, if_false, condA_tt, condA_ff, condG_tt, condG_ff, condG_tt', condG_ff', condG_undef, gval_undef, condA_ff, u64_shl (show x < 8 by omega), u64_or (a := accS ((lsN s).take i)) (b := 2 ^ x) (by omega) p2]
    rw [wrap_i64 (by omega) (by omega)]
    refine ⟨⟨i + 1, ?_, by omega, rfl⟩, by simp [iv]; omega⟩
    rw [htk, hgi]; rfl
  · have hie : i = (lsN s).length := by omega
    subst hie
    rw [List.take_length]
    have := acc_ls ⟨s, by omega⟩
    simp only at this
    simp only [this, hld, letO_some]
    refine c39 h hv (by omega) ?_
    cases he : expl R s
    · rw [he] at hk
      simp only [not_v, Bool.not_false, letO_some, condA_tt]
      exact endK_ret hk
    · rw [he] at hk
      simp only [not_v, Bool.not_true, letO_some, condA_ff]
      exact endK_ret hk
/-- One pair more, by numbers. -/
def quP (n : Nat) (x : Nat × Nat) : Nat × Nat := (min (x.1 % n) (x.2 % n), max (x.1 % n) (x.2 % n))
def quF (n : Nat) (out : List (Nat × Nat)) (x : Nat × Nat) : List (Nat × Nat) := if x.1 % n ≠ x.2 % n ∧ quP n x ∉ out then out ++ [quP n x] else out
def quS (n : Nat) (E : List (Nat × Nat)) : List (Nat × Nat) := E.foldl (quF n) []
theorem qu_ok {n : Nat} (hn : 0 < n) (E : List (Nat × Nat)) : (∀ r ∈ quS n E, r.1 < r.2 ∧ r.2 < n) ∧ (quS n E).Pairwise (· ≠ ·) ∧ (quS n E).length ≤ E.length := by
  induction E using snoc_ind with
  | h0 => simp [quS]
  | h1 E x ih =>
    obtain ⟨i1, i2, i3⟩ := ih
    have e : quS n (E ++ [x]) = quF n (quS n E) x := by simp [quS]
    rw [e, quF]
    split
    · rename_i h
      have m1 := Nat.mod_lt x.1 hn
      have m2 := Nat.mod_lt x.2 hn
      refine ⟨fun r hr => ?_, ?_, by simp; omega⟩
      · rcases List.mem_append.1 hr with hr | hr
        · exact i1 r hr
        · simp at hr; subst hr
          simp only [quP]
          have := h.1
          omega
      · rw [List.pairwise_append]
        refine ⟨i2, by simp, fun a ha b hb => ?_⟩
        simp at hb; subst hb
        exact fun h2 => h.2 (h2 ▸ ha)
    · exact ⟨i1, i2, by simp; omega⟩
def pr8 (p : Nat × Nat) : List AV := [.int .u8 (p.1 : Int), .int .u8 (p.2 : Int)]
theorem pr8_len (p : Nat × Nat) : (pr8 p).length = 2 := rfl
theorem rem_nat {k : IntKind} {t : TypeId} {a b : Nat} (hb : 0 < b) : binF Tryd.prog .rem t (.int k (a : Int)) (.int k (b : Int)) = some (.int k ((a % b : Nat) : Int)) := by
  show (if k = k ∧ (b : Int) ≠ 0 then some (AV.int k ((a : Int).tmod (b : Int))) else none) = _
  rw [if_pos ⟨rfl, by omega⟩]
  rfl
theorem conv_outN {H H' : Heap} {b sz : Nat} {cells : List AV} (h1 : H b = none) (h2 : H' b = some cells) (d : Nat) {n : Nat} (hn : cells.length = n * sz) : conv H H' (d + 1) (.ref sz b 0 n none) = .imm n false (cells.map (conv H H' d)) := by
  simp only [conv, h1, h2]
  rw [if_pos (by omega), List.drop_zero, List.take_of_length_le (by omega)]
theorem conv_prC {H H' : Heap} (d : Nat) (R : List (Nat × Nat)) : (R.flatMap prC).map (conv H H' d) = R.flatMap prC := by
  induction R with
  | nil => rfl
  | cons a R ih => rw [List.flatMap_cons, List.map_append, ih]; simp [prC, conv_int]
/-- The list of pairs is given back. -/
theorem grow_pairs {H H1 H' : Heap} {X : AV} {R : List (Nat × Nat)} (hg : Grow 2 H1 H' X R.length (R.flatMap prC)) (hle : H.le H1) : conv H H' 2 X = .imm R.length false (R.flatMap prC) := by
  rcases hg.2 with ⟨rfl, h0, rfl⟩ | ⟨rfl, rfl⟩ | ⟨b, hb, rfl, rfl⟩
  · have : R = [] := List.eq_nil_of_length_eq_zero h0
    subst this; rfl
  · rw [conv]; simp only [conv_prC]
  · rw [conv_outN (none_of_le hle hb) Heap.put_same 1 hg.1, conv_prC]
theorem l24_dec {p : Nat × Nat} {R : List (Nat × Nat)} : (R ++ [p]).flatMap prC = R.flatMap prC ++ prC p := by simp
/-- quarrel -/
theorem c8 {n : Nat} {E : List (Nat × Nat)} {H : Heap} {K : AV → Heap → Prop} (hn : 0 < n) (hn7 : n ≤ 7) (hE : E.length = 8) (hE2 : ∀ x ∈ E, x.1 < 256 ∧ x.2 < 256) (hk : K (.imm (quS n E).length false ((quS n E).flatMap prC)) H) :
    ACalls Tryd.prog 8 [.int .i64 (n : Int), .int .i64 8, .agg (E.flatMap pr8)] H K := by
  apply W8_ok
  unfold W8
  have hfl : (E.flatMap pr8).length = 16 := by rw [rows_len pr8_len, hE]
  have hs : slcArr 8 2 (.iptr (E.flatMap pr8)) none (some (.int .i64 8)) none = some (.imm 8 true (E.flatMap pr8)) := by
    have n1 : ∀ d, natOf none d = some d := fun d => rfl
    have n2 : ∀ d, natOf (some (.int .i64 8)) d = some 8 := fun d => rfl
    simp only [slcArr, n1, n2, Option.bind_some]
    rw [if_pos ⟨by omega, by omega⟩]
    simp only [Nat.sub_zero, Nat.zero_mul, List.drop_zero]
    rw [List.take_of_length_le (by omega)]
    rfl
  have hl : lenA (.imm 8 true (E.flatMap pr8)) = some (.int .i64 8) := rfl
  have hrd : ∀ H', ReadsC 2 H' (.imm 8 true (E.flatMap pr8)) 8 (E.flatMap pr8) := fun H' => ReadsC.imm (by omega)
  simp only [letO_some, cellsOf?_agg, cellsOf?_int, cellsOf?_bool, cellsOf?_imm, cellsOf?_ref, cellsOf?_nils, faddr_iptr, faddr_ptr, List.drop_succ_cons, List.drop_zero, List.take_succ_cons, List.take_zero, load1_iptr, loadN_iptr, List.length_cons, List.length_nil, Nat.le_refl, if_true, List.getElem?_cons_zero, List.getElem?_cons_succ, List.getD_cons_zero, List.getD_cons_succ, extrF_tup, binF_add, binF_sub, binF_mul, binF_eql, binF_neq, binF_lss, binF_leq, binF_gtr, binF_geq, true_and, hs, hl]
  refine ⟨fun L H' => ∃ (i : Nat) (X : AV) (Hg : Heap), eqt L [X, .int .i64 (i : Int)] ∧ i ≤ 8 ∧ H.le Hg ∧ Grow 2 Hg H' X (quS n (E.take i)).length ((quS n (E.take i)).flatMap prC), fun L _ => (8 - iv L 1).toNat, ⟨0, .nils, H, rfl, by omega, Heap.le_refl _, Grow.nils 2 H⟩, ?_⟩
  rintro L H1 ⟨i, X, Hg, rfl, hi, hle, hg⟩
  obtain ⟨-, -, q3⟩ := qu_ok hn (E.take i)
  rw [List.length_take, hE] at q3
  try simp only [letO_some, cellsOf?_agg, cellsOf?_int, cellsOf?_bool, cellsOf?_imm, cellsOf?_ref, cellsOf?_nils, faddr_iptr, faddr_ptr, List.drop_succ_cons, List.drop_zero, List.take_succ_cons, List.take_zero, load1_iptr, loadN_iptr, List.length_cons, List.length_nil, Nat.le_refl, if_true, List.getElem?_cons_zero, List.getElem?_cons_succ, List.getD_cons_zero, List.getD_cons_succ, extrF_tup, binF_add, binF_sub, binF_mul, binF_eql, binF_neq, binF_lss, binF_leq, binF_gtr, binF_geq, true_and]
  refine condA_t (fun hlt => ?_) (fun hge => ?_)
  · have a1 : i < E.length := by omega
    have htk : quS n (E.take (i + 1)) = quF n (quS n (E.take i)) E[i] := by
      rw [List.take_add_one, List.getElem?_eq_getElem a1, quS, quS, Option.toList_some, List.foldl_append]; rfl
    refine ⟨fun L H' => ∃ (X' : AV) (Hg' : Heap), eqt L [X'] ∧ H.le Hg' ∧ Grow 2 Hg' H' X' (quS n (E.take (i + 1))).length ((quS n (E.take (i + 1))).flatMap prC), ?_, ?_⟩
    · rw [htk]
      generalize quS n (E.take i) = R at *
      refine ReadsC.getN (Heap.le_refl _) (hrd H1) (by omega) (by omega) ?_
      rw [Int.toNat_natCast, rows_get pr8_len (x := E[i]) (by simp [a1])]
      obtain ⟨r1, r2⟩ := hE2 _ (List.getElem_mem a1)
      generalize hp : E[i] = p at *
      refine alloc_store (cs := pr8 p) rfl rfl rfl rfl fun b4 hb4 => ?_
      have h4 : (H1.put b4 (pr8 p)) b4 = some (pr8 p) := Heap.put_same
      have hg4 : Grow 2 (Hg.put b4 (pr8 p)) (H1.put b4 (pr8 p)) X R.length (R.flatMap prC) := alloc_grow hg hb4
      have hle4 : H.le (Hg.put b4 (pr8 p)) := Heap.le_trans hle (Heap.le_new (none_of_le hg.le hb4))
      generalize H1.put b4 (pr8 p) = H2 at *
      generalize Hg.put b4 (pr8 p) = Hg2 at *
      have x0 : idxArr 2 1 (.ptr b4 0) (.int .i64 0) = some (.ptr b4 0) := rfl
      have x1 : idxArr 2 1 (.ptr b4 0) (.int .i64 1) = some (.ptr b4 1) := rfl
      have l0 : load1 (.ptr b4 0) H2 = some (.int .u8 (p.1 : Int)) := load1_at h4 rfl
      have l1 : load1 (.ptr b4 1) H2 = some (.int .u8 (p.2 : Int)) := load1_at h4 rfl
      have m1 := Nat.mod_lt p.1 hn
      have m2 := Nat.mod_lt p.2 hn
      have hmin : min2F (.int .i64 ((p.1 % n : Nat) : Int)) (.int .i64 ((p.2 % n : Nat) : Int)) = some (.int .i64 ((min (p.1 % n) (p.2 % n) : Nat) : Int)) := by
        show some (AV.int .i64 (if ((p.2 % n : Nat) : Int) < ((p.1 % n : Nat) : Int) then ((p.2 % n : Nat) : Int) else ((p.1 % n : Nat) : Int))) = _
        congr 2; split <;> omega
      have hmax : max2F (.int .i64 ((p.1 % n : Nat) : Int)) (.int .i64 ((p.2 % n : Nat) : Int)) = some (.int .i64 ((max (p.1 % n) (p.2 % n) : Nat) : Int)) := by
        show some (AV.int .i64 (if ((p.2 % n : Nat) : Int) > ((p.1 % n : Nat) : Int) then ((p.2 % n : Nat) : Int) else ((p.1 % n : Nat) : Int))) = _
        congr 2; split <;> omega
      simp only [letO_some, cellsOf?_agg, cellsOf?_int, cellsOf?_bool, cellsOf?_imm, cellsOf?_ref, cellsOf?_nils, faddr_iptr, faddr_ptr, List.drop_succ_cons, List.drop_zero, List.take_succ_cons, List.take_zero, load1_iptr, loadN_iptr, List.length_cons, List.length_nil, Nat.le_refl, if_true, List.getElem?_cons_zero, List.getElem?_cons_succ, List.getD_cons_zero, List.getD_cons_succ, extrF_tup, binF_add, binF_sub, binF_mul, binF_eql, binF_neq, binF_lss, binF_leq, binF_gtr, binF_geq, true_and, x0, x1, l0, l1, conv53 (n := (p.1 : Int)) (by omega), conv53 (n := (p.2 : Int)) (by omega), rem_nat hn, hmin, hmax, b30]
      refine alloc_store (cs := prC (quP n p)) rfl rfl rfl rfl fun b5 hb5 => ?_
      have h5 : (H2.put b5 (prC (quP n p))) b5 = some (prC (quP n p)) := Heap.put_same
      have hg5 : Grow 2 (Hg2.put b5 (prC (quP n p))) (H2.put b5 (prC (quP n p))) X R.length (R.flatMap prC) := alloc_grow hg4 hb5
      have hle5 : H.le (Hg2.put b5 (prC (quP n p))) := Heap.le_trans hle4 (Heap.le_new (none_of_le hg4.le hb5))
      generalize H2.put b5 (prC (quP n p)) = H3 at *
      generalize Hg2.put b5 (prC (quP n p)) = Hg3 at *
      have lN : loadN 2 (.ptr b5 0) H3 = some (.agg (prC (quP n p))) := by simp [loadN, cellsAt?, h5, prC]
      rw [quF]
      by_cases hne : p.1 % n = p.2 % n
      · have e : (((p.1 % n : Nat) : Int) != ((p.2 % n : Nat) : Int)) = false := by rw [hne]; simp
        simp only [letO_some, cellsOf?_agg, cellsOf?_int, cellsOf?_bool, cellsOf?_imm, cellsOf?_ref, cellsOf?_nils, faddr_iptr, faddr_ptr, List.drop_succ_cons, List.drop_zero, List.take_succ_cons, List.take_zero, load1_iptr, loadN_iptr, List.length_cons, List.length_nil, Nat.le_refl, if_true, List.getElem?_cons_zero, List.getElem?_cons_succ, List.getD_cons_zero, List.getD_cons_succ, extrF_tup, binF_add, binF_sub, binF_mul, binF_eql, binF_neq, binF_lss, binF_leq, binF_gtr, binF_geq, true_and, e, gval_bool, Int.reduceBNe, Int.reduceBEq, pickF_true, pickF_false, reduceIte, Bool.true_eq_false, Bool.false_eq_true, if_false, condA_tt, condA_ff, condG_tt, condG_ff, condG_tt', condG_ff', condG_undef, gval_undef]
        rw [if_neg (by simp [hne])]
        refine exU ?_
        try simp only [gval_bool, Int.reduceBNe, Int.reduceBEq, pickF_true, pickF_false, reduceIte, Bool.true_eq_false, Bool.false_eq_true, if_false, condA_tt, condA_ff, condG_tt, condG_ff, condG_tt', condG_ff', condG_undef, gval_undef, letO_some]
        exact ⟨X, Hg3, rfl, hle5, hg5⟩
      · have e : (((p.1 % n : Nat) : Int) != ((p.2 % n : Nat) : Int)) = true := by rw [bne_iff_ne]; omega
        simp only [letO_some, cellsOf?_agg, cellsOf?_int, cellsOf?_bool, cellsOf?_imm, cellsOf?_ref, cellsOf?_nils, faddr_iptr, faddr_ptr, List.drop_succ_cons, List.drop_zero, List.take_succ_cons, List.take_zero, load1_iptr, loadN_iptr, List.length_cons, List.length_nil, Nat.le_refl, if_true, List.getElem?_cons_zero, List.getElem?_cons_succ, List.getD_cons_zero, List.getD_cons_succ, extrF_tup, binF_add, binF_sub, binF_mul, binF_eql, binF_neq, binF_lss, binF_leq, binF_gtr, binF_geq, true_and, e, gval_bool, Int.reduceBNe, Int.reduceBEq, pickF_true, pickF_false, reduceIte, Bool.true_eq_false, Bool.false_eq_true, if_false, condA_tt, condA_ff, condG_tt, condG_ff, condG_tt', condG_ff', condG_undef, gval_undef, lN]
        refine exJ (c30 (p := quP n p) (R := R) hg5.readsC (by omega) ?_)
        by_cases hin : quP n p ∈ R
        · rw [decide_eq_true hin, if_neg (by simp [hin])]
          simp only [not_v, Bool.not_true, gval_bool, Int.reduceBNe, Int.reduceBEq, pickF_true, pickF_false, reduceIte, Bool.true_eq_false, Bool.false_eq_true, if_false, condA_tt, condA_ff, condG_tt, condG_ff, condG_tt', condG_ff', condG_undef, gval_undef, letO_some]
          exact ⟨X, Hg3, rfl, hle5, hg5⟩
        · rw [decide_eq_false hin, if_pos ⟨hne, hin⟩]
          simp only [not_v, Bool.not_false, gval_bool, Int.reduceBNe, Int.reduceBEq, pickF_true, pickF_false, reduceIte, Bool.true_eq_false, Bool.false_eq_true, if_false, condA_tt, condA_ff, condG_tt, condG_ff, condG_tt', condG_ff', condG_undef, gval_undef, letO_some, lN, l24_1]
          refine appendA_growR hg5 (m := 1) (new := prC (quP n p)) (by simp [srcOf, prC]) rfl rfl (by omega) (by omega) (by omega) fun v' H7 hg7 ho7 => ?_
          try simp only [letO_some]
          refine ⟨v', Hg3, rfl, hle5, ?_⟩
          rw [l24_dec, List.length_append]
          exact hg7
    · rintro L H2 ⟨X', Hg', rfl, hle', hg'⟩
      simp only [letO_some, cellsOf?_agg, cellsOf?_int, cellsOf?_bool, cellsOf?_imm, cellsOf?_ref, cellsOf?_nils, faddr_iptr, faddr_ptr, List.drop_succ_cons, List.drop_zero, List.take_succ_cons, List.take_zero, load1_iptr, loadN_iptr, List.length_cons, List.length_nil, Nat.le_refl, if_true, List.getElem?_cons_zero, List.getElem?_cons_succ, List.getD_cons_zero, List.getD_cons_succ, extrF_tup, binF_add, binF_sub, binF_mul, binF_eql, binF_neq, binF_lss, binF_leq, binF_gtr, binF_geq, true_and]
      rw [wrap_i64 (by omega) (by omega)]
      exact ⟨⟨i + 1, X', Hg', rfl, by omega, hle', hg'⟩, by simp [iv]; omega⟩
  · have hie : i = 8 := by omega
    subst hie
    rw [List.take_of_length_le (by omega)] at hg
    refine endK_all (Heap.le_trans hle hg.le) 2 ?_
    rw [grow_pairs hg hle]
    exact hk
end Go.Proofs.YtmmfelpgcdlgfaaDoor

namespace Go.Proofs.YtmmfelpgcdlgfaaDoor
open Go.Av
set_option linter.unusedVariables false
set_option linter.unusedSimpArgs false
set_option maxRecDepth 8000

theorem both_snoc (P : List (Nat × Nat)) (p : Nat × Nat) : both (P ++ [p]) = both P ++ [p, (p.2, p.1)] := by simp [both]
theorem both_len (P : List (Nat × Nat)) : (both P).length = 2 * P.length := by
  induction P with
  | nil => rfl
  | cons p P ih => rw [both, List.flatMap_cons, List.length_append, ← both, ih]; simp; omega
theorem both_ok {n : Nat} {P : List (Nat × Nat)} (h : Fd n P) (hl : P.length ≤ 8) : Vd n (both P) := by
  refine ⟨h.n1, h.n7, ?_, ?_, ?_, by rw [both_len]; omega⟩
  · rintro ⟨a, b⟩ hr
    rcases mem_both.1 hr with h1 | h1
    · have := h.rng _ h1; simp only at this ⊢; omega
    · have := h.rng _ h1; simp only at this ⊢; omega
  · rintro ⟨a, b⟩ hr
    rcases mem_both.1 hr with h1 | h1
    · have := h.rng _ h1; simp only at this ⊢; omega
    · have := h.rng _ h1; simp only at this ⊢; omega
  · have hrng := h.rng
    have hnd := h.nd
    clear hl h
    induction P with
    | nil => simp [both]
    | cons p P ih =>
      rw [List.pairwise_cons] at hnd
      have hp := hrng p (by simp)
      have ih := ih (fun r hr => hrng r (List.mem_cons_of_mem _ hr)) hnd.2
      have e : both (p :: P) = p :: (p.2, p.1) :: both P := by simp [both]
      rw [e, List.pairwise_cons, List.pairwise_cons]
      obtain ⟨a, b⟩ := p
      simp only at hp
      have no : ∀ q ∈ both P, q ≠ (a, b) ∧ q ≠ (b, a) := by
        rintro ⟨x, y⟩ hq
        rcases mem_both.1 hq with h1 | h1
        · have r := hrng _ (List.mem_cons_of_mem _ h1)
          have ne := hnd.1 _ h1
          simp only [ne_eq, Prod.mk.injEq] at r ne ⊢
          omega
        · have r := hrng _ (List.mem_cons_of_mem _ h1)
          have ne := hnd.1 _ h1
          simp only [ne_eq, Prod.mk.injEq] at r ne ⊢
          omega
      refine ⟨fun q hq => ?_, fun q hq => fun h => (no q hq).2 h.symm, ih⟩
      rcases List.mem_cons.1 hq with rfl | hq
      · simp only [ne_eq, Prod.mk.injEq]; omega
      · exact fun h => (no q hq).1 h.symm
theorem b29n {x : AV} (hx : cellsOf? x = some [x]) : buildF Tryd.prog 29 [(0, x)] = some (.agg [x, .nils]) := by
  rw [buildF_of (show buildPlan Tryd.prog 29 = some ([.int .i64 0, .nils], [(0, 1), (1, 1)]) by kernel_rfl)]
  simp [fillA, hx, splice]
theorem up_mem {a s : Nat} (h : a < 7) : decide ((a : Int) ∈ up (lsN s)) = s.testBit a := by
  have : (a : Int) ∈ up (lsN s) ↔ s.testBit a = true := by
    simp only [up, List.mem_map]
    constructor
    · rintro ⟨x, hx, he⟩
      have : x = a := by omega
      subst this
      exact (ls_mem.1 hx).2
    · intro hb
      exact ⟨a, ls_mem.2 ⟨h, hb⟩, rfl⟩
  by_cases hb : s.testBit a = true
  · rw [hb]; exact decide_eq_true (this.2 hb)
  · rw [Bool.not_eq_true] at hb
    rw [hb]; exact decide_eq_false fun h => by rw [this.1 h] at hb; cases hb
theorem up_inj {a b : List Nat} : up a = up b ↔ a = b := by
  constructor
  · intro h
    have := congrArg (List.map Int.toNat) h
    simpa [up, List.map_map, Function.comp_def] using this
  · rintro rfl; rfl
/-- TopMutual -/
theorem c3 {x : Nat} {E : List (Nat × Nat)} {H : Heap} {K : AV → Heap → Prop} (hx : x < 256) (hE : E.length = 8) (hE2 : ∀ x ∈ E, x.1 < 256 ∧ x.2 < 256) (hk : K (.bool true) H) :
    ACalls Tryd.prog 3 [.int .u8 (x : Int), .agg (E.flatMap pr8)] H K := by
  apply W3_ok
  unfold W3
  have hfl : (E.flatMap pr8).length = 16 := by rw [rows_len pr8_len, hE]
  have hld : (16 ≤ (E.flatMap pr8).length) = True := by simp [hfl]
  have htk16 : (E.flatMap pr8).take 16 = E.flatMap pr8 := List.take_of_length_le (by omega)
  have hm7 : x % 7 < 7 := Nat.mod_lt _ (by omega)
  have hadd : IntKind.i64.wrap (1 + ((x % 7 : Nat) : Int)) = ((1 + x % 7 : Nat) : Int) := by rw [wrap_i64 (by omega) (by omega)]; omega
  have hrem : binF Tryd.prog .rem 3 (.int .i64 (x : Int)) (.int .i64 7) = some (.int .i64 ((x % 7 : Nat) : Int)) := rem_nat (b := 7) (by omega)
  have hc16 : cellsOf? (.agg (E.flatMap pr8)) = some (E.flatMap pr8) := rfl
  simp only [letO_some, cellsOf?_agg, cellsOf?_int, cellsOf?_bool, cellsOf?_imm, cellsOf?_ref, cellsOf?_nils, faddr_iptr, faddr_ptr, List.drop_succ_cons, List.drop_zero, List.take_succ_cons, List.take_zero, load1_iptr, loadN_iptr, List.length_cons, List.length_nil, Nat.le_refl, if_true, List.getElem?_cons_zero, List.getElem?_cons_succ, List.getD_cons_zero, List.getD_cons_succ, extrF_tup, binF_add, binF_sub, binF_mul, binF_eql, binF_neq, binF_lss, binF_leq, binF_gtr, binF_geq, true_and, conv53 (n := (x : Int)) (by omega), hrem, hadd, hld, htk16]
  generalize hn : 1 + x % 7 = n at *
  have hn1 : 0 < n := by omega
  have hn7 : n ≤ 7 := by omega
  obtain ⟨q1, q2, q3⟩ := qu_ok hn1 E
  refine c8 hn1 hn7 hE hE2 ?_
  generalize quS n E = R at *
  rw [hE] at q3
  have hF : Fd n R := ⟨by omega, hn7, q1, q2, by omega⟩
  have hV := both_ok hF q3
  have h12 := kern_le hn7 q1
  have hv : ∀ H, RP H (.imm R.length false (R.flatMap prC)) R := fun H => ReadsC.imm (by rw [rows_len prC_len])
  have hvc : cellsOf? (.imm R.length false (R.flatMap prC)) = some [.imm R.length false (R.flatMap prC)] := rfl
  generalize AV.imm R.length false (R.flatMap prC) = v at *
  have hvs : isScalar v = true := ReadsC.scalar (hv H)
  have hvl : lenA v = some (.int .i64 R.length) := ReadsC.len (hv H)
  simp only [b27 (x := .int .i64 (n : Int)) (y := v) rfl hvc, b29n (x := .int .i64 (n : Int)) rfl, letO_some]
  refine alloc_store (cs := [.int .i64 (n : Int), v]) rfl (by rw [List.all_cons, List.all_cons, hvs]; rfl) rfl rfl fun b6 hb6 => ?_
  have hle6 := Heap.le_new (c := [.int .i64 (n : Int), v]) hb6
  have h6 : (H.put b6 [.int .i64 (n : Int), v]) b6 = some [.int .i64 (n : Int), v] := Heap.put_same
  generalize H.put b6 [.int .i64 (n : Int), v] = H6 at *
  refine alloc_store (cs := [.int .i64 (n : Int), .nils]) rfl rfl rfl rfl fun b7 hb7 => ?_
  have hle7 := Heap.le_new (c := [.int .i64 (n : Int), .nils]) hb7
  have h7 : (H6.put b7 [.int .i64 (n : Int), .nils]) b7 = some [.int .i64 (n : Int), .nils] := Heap.put_same
  have h67 := hle7 _ _ h6
  have hne : b6 ≠ b7 := by rintro rfl; rw [h6] at hb7; cases hb7
  have hbH : H b7 = none := none_of_le hle6 hb7
  have hleH := Heap.le_trans hle6 hle7
  generalize H6.put b7 [.int .i64 (n : Int), .nils] = H7 at *
  have f6 : ∀ b, faddr 1 (.ptr b 0) = some (.ptr b 1) := fun b => rfl
  have l6 : load1 (.ptr b6 1) H7 = some v := load1_at h67 rfl
  simp only [f6, l6, letO_some, hvl]
  refine ⟨fun L H' => ∃ (i : Nat) (X : AV) (Hg : Heap), eqt L [.int .i64 (i : Int)] ∧ i ≤ R.length ∧ Grow 2 Hg H' X (both (R.take i)).length ((both (R.take i)).flatMap prC) ∧ Hg b7 = some [.int .i64 (n : Int), X] ∧ Hg b6 = some [.int .i64 (n : Int), v] ∧ H.le Hg,
    fun L _ => (R.length - iv L 0).toNat, ⟨0, .nils, H7, rfl, by omega, Grow.nils 2 H7, h7, h67, hleH⟩, ?_⟩
  rintro L H8 ⟨i, X, Hg, rfl, hi, hg, g7, g6, hle⟩
  try simp only [letO_some, cellsOf?_agg, cellsOf?_int, cellsOf?_bool, cellsOf?_imm, cellsOf?_ref, cellsOf?_nils, faddr_iptr, faddr_ptr, List.drop_succ_cons, List.drop_zero, List.take_succ_cons, List.take_zero, load1_iptr, loadN_iptr, List.length_cons, List.length_nil, Nat.le_refl, if_true, List.getElem?_cons_zero, List.getElem?_cons_succ, List.getD_cons_zero, List.getD_cons_succ, extrF_tup, binF_add, binF_sub, binF_mul, binF_eql, binF_neq, binF_lss, binF_leq, binF_gtr, binF_geq, true_and]
  refine condA_t (fun hlt => ?_) (fun hge => ?_)
  · have a1 : i < R.length := by omega
    have hl16 : (both (R.take i)).length ≤ 16 := by rw [both_len, List.length_take]; omega
    refine ReadsC.getN (Heap.le_refl _) (hv H8) (by omega) (by omega) ?_
    rw [Int.toNat_natCast, rows_get prC_len (x := R[i]) (by simp [a1])]
    have htk : both (R.take (i + 1)) = both (R.take i) ++ [R[i], (R[i].2, R[i].1)] := by
      rw [List.take_add_one, List.getElem?_eq_getElem a1, Option.toList_some, both_snoc]
    generalize R[i] = p at *
    refine alloc_store (cs := prC p) rfl rfl rfl rfl fun b9 hb9 => ?_
    have h9 : (H8.put b9 (prC p)) b9 = some (prC p) := Heap.put_same
    have hg9 : Grow 2 (Hg.put b9 (prC p)) (H8.put b9 (prC p)) X _ _ := alloc_grow hg hb9
    have hln := Heap.le_new (c := prC p) (none_of_le hg.le hb9)
    have hle9 : H.le (Hg.put b9 (prC p)) := Heap.le_trans hle hln
    have g79 := hln _ _ g7
    have g69 := hln _ _ g6
    generalize H8.put b9 (prC p) = H9 at *
    generalize Hg.put b9 (prC p) = Hg9 at *
    have x0 : idxArr 2 1 (.ptr b9 0) (.int .i64 0) = some (.ptr b9 0) := rfl
    have x1 : idxArr 2 1 (.ptr b9 0) (.int .i64 1) = some (.ptr b9 1) := rfl
    have l0 : load1 (.ptr b9 0) H9 = some (.int .i64 (p.1 : Int)) := load1_at h9 rfl
    have l1 : load1 (.ptr b9 1) H9 = some (.int .i64 (p.2 : Int)) := load1_at h9 rfl
    have lN : loadN 2 (.ptr b9 0) H9 = some (.agg (prC p)) := by simp [loadN, cellsAt?, h9, prC]
    have lX : load1 (.ptr b7 1) H9 = some X := load1_at (hg9.le _ _ g79) rfl
    simp only [x0, x1, l0, l1, lN, lX, f6, letO_some, b30, l24_2]
    refine appendA_growR hg9 (m := 2) (new := prC p ++ prC (p.2, p.1)) (by simp [srcOf, prC]) rfl rfl (by omega) (by omega) (by omega) fun v' H10 hg10 ho10 => ?_
    try simp only [f6, letO_some]
    refine storeA_of (cs := [v']) (hg10.le _ _ g79) hg10.cells (by simp [hg10.scalar]) rfl (by simp) ?_
    have hsp : splice [.int .i64 (n : Int), X] 1 [v'] = [.int .i64 (n : Int), v'] := rfl
    rw [hsp]
    try simp only [letO_some, binF_add]
    rw [wrap_i64 (by omega) (by omega)]
    have hg11 := hg10.put g79 (y := [.int .i64 (n : Int), v'])
    refine ⟨⟨i + 1, v', Hg9.put b7 [.int .i64 (n : Int), v'], rfl, by omega, ?_, Heap.put_same, by rw [Heap.put_ne hne]; exact g69, Heap.le_put hle9 hbH⟩, by simp [iv]; omega⟩
    rw [htk]
    have e1 : ((both (R.take i) ++ [p, (p.2, p.1)]).flatMap prC) = (both (R.take i)).flatMap prC ++ (prC p ++ prC (p.2, p.1)) := by simp
    have e2 : (both (R.take i) ++ [p, (p.2, p.1)]).length = (both (R.take i)).length + 2 := by simp
    rw [e1, e2]
    exact hg11
  · have hie : i = R.length := by omega
    subst hie
    rw [List.take_length] at hg
    have hX : RP H8 X (both R) := hg.readsC
    have l7 : loadN 2 (.ptr b7 0) H8 = some (.agg [.int .i64 (n : Int), X]) := loadN_at (hg.le _ _ g7)
    have l6 : loadN 2 (.ptr b6 0) H8 = some (.agg [.int .i64 (n : Int), v]) := loadN_at (hg.le _ _ g6)
    have h68 := hg.le _ _ g6
    have hle8 := Heap.le_trans hle hg.le
    clear hg
    simp only [l7, letO_some]
    refine c9 hV hX h12 fun Ks hp => ?_
    simp only [letO_some, cellsOf?_agg, cellsOf?_int, cellsOf?_bool, cellsOf?_imm, cellsOf?_ref, cellsOf?_nils, faddr_iptr, faddr_ptr, List.drop_succ_cons, List.drop_zero, List.take_succ_cons, List.take_zero, load1_iptr, loadN_iptr, List.length_cons, List.length_nil, Nat.le_refl, if_true, List.getElem?_cons_zero, List.getElem?_cons_succ, List.getD_cons_zero, List.getD_cons_succ, extrF_tup, binF_add, binF_sub, binF_mul, binF_eql, binF_neq, binF_lss, binF_leq, binF_gtr, binF_geq, true_and, l6]
    refine c10 hF (hv _) ?_
    simp only [letO_some, cellsOf?_agg, cellsOf?_int, cellsOf?_bool, cellsOf?_imm, cellsOf?_ref, cellsOf?_nils, faddr_iptr, faddr_ptr, List.drop_succ_cons, List.drop_zero, List.take_succ_cons, List.take_zero, load1_iptr, loadN_iptr, List.length_cons, List.length_nil, Nat.le_refl, if_true, List.getElem?_cons_zero, List.getElem?_cons_succ, List.getD_cons_zero, List.getD_cons_succ, extrF_tup, binF_add, binF_sub, binF_mul, binF_eql, binF_neq, binF_lss, binF_leq, binF_gtr, binF_geq, true_and, l6]
    refine c11 hF (hv _) ?_
    have hme := mu_end hn7 q1 hp
    have hKl : Ks.length ≤ 12 := by rw [hp.length_eq]; exact h12
    have hKm : ∀ s ∈ Ks, s < 2 ^ n ∧ judE n (both R) s = 0 := by
      intro s hs
      have := hp.mem_iff.1 hs
      rw [kern, List.mem_filter, List.mem_range, beq_iff_eq] at this
      exact this
    have hcov : ∀ s ∈ Ks, expl R (oth n s) = true := fun s hs => (expl_oth q1 (hKm s hs).1).2 ((kern_iff q1 (hKm s hs).1).1 (hKm s hs).2).1
    have hll7 : (shS n R).1.length ≤ 7 := by have := hme.2; omega
    have e0 : ((0 : Int) != 0) = false := rfl
    have hlK : lenA (tl Ks) = some (.int .i64 Ks.length) := rfl
    simp only [letO_some, cellsOf?_agg, cellsOf?_int, cellsOf?_bool, cellsOf?_imm, cellsOf?_ref, cellsOf?_nils, faddr_iptr, faddr_ptr, List.drop_succ_cons, List.drop_zero, List.take_succ_cons, List.take_zero, load1_iptr, loadN_iptr, List.length_cons, List.length_nil, Nat.le_refl, if_true, List.getElem?_cons_zero, List.getElem?_cons_succ, List.getD_cons_zero, List.getD_cons_succ, extrF_tup, binF_add, binF_sub, binF_mul, binF_eql, binF_neq, binF_lss, binF_leq, binF_gtr, binF_geq, true_and, e0, gval_bool, Int.reduceBNe, Int.reduceBEq, pickF_true, pickF_false, reduceIte, Bool.true_eq_false, Bool.false_eq_true, if_false, condA_tt, condA_ff, condG_tt, condG_ff, condG_tt', condG_ff', condG_undef, gval_undef, hlK]
    generalize hl : (shS n R).1 = l at *
    generalize hm : (shS n R).2 = m at *
    have h2n : 2 ^ n ≤ 2 ^ 7 := Nat.pow_le_pow_right (by omega) hn7
    refine ⟨fun L H' => ∃ (i : Nat), eqt L [.int .i64 (((Ks.take i).foldl (muF n l) (0, 0, false)).1 : Nat), .int .i64 (((Ks.take i).foldl (muF n l) (0, 0, false)).2.1 : Nat), .bool ((Ks.take i).foldl (muF n l) (0, 0, false)).2.2, .int .i64 (i : Int)] ∧ i ≤ Ks.length ∧ H8.le H',
      fun L _ => (Ks.length - iv L 3).toNat, ⟨0, rfl, by omega, Heap.le_refl _⟩, ?_⟩
    rintro L H11 ⟨i, rfl, hi, hle11⟩
    have hmu : ∀ (L : List Nat), (L.foldl (muF n l) (0, 0, false)).1 ≤ 7 ∧ (L.foldl (muF n l) (0, 0, false)).2.1 ≤ L.length := by
      intro L
      obtain ⟨i1, i2, i3, i4⟩ := mu_inv n l L
      refine ⟨?_, ?_⟩
      · rcases i4 with h | ⟨s, hs, h⟩
        · omega
        · have := ls_len s; omega
      · rw [i2]; exact List.countP_le_length
    obtain ⟨w1, w2⟩ := hmu (Ks.take i)
    rw [List.length_take] at w2
    try simp only [letO_some, cellsOf?_agg, cellsOf?_int, cellsOf?_bool, cellsOf?_imm, cellsOf?_ref, cellsOf?_nils, faddr_iptr, faddr_ptr, List.drop_succ_cons, List.drop_zero, List.take_succ_cons, List.take_zero, load1_iptr, loadN_iptr, List.length_cons, List.length_nil, Nat.le_refl, if_true, List.getElem?_cons_zero, List.getElem?_cons_succ, List.getD_cons_zero, List.getD_cons_succ, extrF_tup, binF_add, binF_sub, binF_mul, binF_eql, binF_neq, binF_lss, binF_leq, binF_gtr, binF_geq, true_and]
    refine condA_t (fun hlt => ?_) (fun hge => ?_)
    · have a1 : i < Ks.length := by omega
      have htk : (Ks.take (i + 1)).foldl (muF n l) (0, 0, false) = muF n l ((Ks.take i).foldl (muF n l) (0, 0, false)) Ks[i] := by
        rw [List.take_add_one, List.getElem?_eq_getElem a1, Option.toList_some, List.foldl_append]; rfl
      have hmem := List.getElem_mem a1
      have hs2 := (hKm _ hmem).1
      have hcv := hcov _ hmem
      refine ⟨fun L H' => eqt L [.int .i64 (((Ks.take (i + 1)).foldl (muF n l) (0, 0, false)).1 : Nat), .int .i64 (((Ks.take (i + 1)).foldl (muF n l) (0, 0, false)).2.1 : Nat), .bool ((Ks.take (i + 1)).foldl (muF n l) (0, 0, false)).2.2] ∧ H8.le H', ?_, ?_⟩
      · rw [htk]
        generalize (Ks.take i).foldl (muF n l) (0, 0, false) = st at *
        obtain ⟨most, many, found⟩ := st
        simp only at w1 w2
        refine ReadsC.get (v := tl Ks) (Heap.le_refl H11) (n := Ks.length) (cells := Ks.map kl) ⟨by simp, rfl, rfl⟩ (x := kl Ks[i]) (by omega) (by omega) (by rw [Int.toNat_natCast]; simp [a1]) ?_
        generalize Ks[i] = s at *
        have hls := ls_len s
        have hlk : lenA (kl s) = some (.int .i64 ((lsN s).length : Nat)) := by simp [kl, sl, lenA]
        rw [muF]
        simp only [letO_some]
        refine ⟨fun L H' => eqt L (if most < (lsN s).length then [.int .i64 ((lsN s).length : Nat), .int .i64 0, .bool false] else [.int .i64 (most : Nat), .int .i64 (many : Nat), .bool found]) ∧ eqt H' H11, ?_, ?_⟩
        · simp only [hlk, letO_some, letO_some, cellsOf?_agg, cellsOf?_int, cellsOf?_bool, cellsOf?_imm, cellsOf?_ref, cellsOf?_nils, faddr_iptr, faddr_ptr, List.drop_succ_cons, List.drop_zero, List.take_succ_cons, List.take_zero, load1_iptr, loadN_iptr, List.length_cons, List.length_nil, Nat.le_refl, if_true, List.getElem?_cons_zero, List.getElem?_cons_succ, List.getD_cons_zero, List.getD_cons_succ, extrF_tup, binF_add, binF_sub, binF_mul, binF_eql, binF_neq, binF_lss, binF_leq, binF_gtr, binF_geq, true_and]
          refine condA_t (fun hc => ?_) (fun hc => ?_)
          · rw [if_pos (by omega)]; exact ⟨rfl, rfl⟩
          · rw [if_neg (by omega)]; exact ⟨rfl, rfl⟩
        · rintro L H12 ⟨rfl, rfl⟩
          have hst : ∃ (m2 k2 : Nat) (f2 : Bool), (if most < (lsN s).length then [AV.int .i64 ((lsN s).length : Nat), .int .i64 0, .bool false] else [.int .i64 (most : Nat), .int .i64 (many : Nat), .bool found]) = [AV.int .i64 (m2 : Int), .int .i64 (k2 : Int), .bool f2] ∧ m2 ≤ 7 ∧ k2 ≤ 12 ∧
              (if most < (lsN s).length then ((lsN s).length, 1, decide (lsN (oth n s) = l)) else if (lsN s).length < most then (most, many, found) else (most, many + 1, found || decide (lsN (oth n s) = l))) = (if (lsN s).length < m2 then (m2, k2, f2) else (m2, k2 + 1, f2 || decide (lsN (oth n s) = l))) := by
            by_cases hc : most < (lsN s).length
            · refine ⟨(lsN s).length, 0, false, by rw [if_pos hc]; rfl, by omega, by omega, ?_⟩
              rw [if_pos hc, if_neg (by omega)]; simp
            · refine ⟨most, many, found, by rw [if_neg hc], by omega, by omega, ?_⟩
              rw [if_neg hc]
          obtain ⟨m2, k2, f2, t1, t2, t3, t4⟩ := hst
          rw [t1, t4]
          simp only [hlk, letO_some, letO_some, cellsOf?_agg, cellsOf?_int, cellsOf?_bool, cellsOf?_imm, cellsOf?_ref, cellsOf?_nils, faddr_iptr, faddr_ptr, List.drop_succ_cons, List.drop_zero, List.take_succ_cons, List.take_zero, load1_iptr, loadN_iptr, List.length_cons, List.length_nil, Nat.le_refl, if_true, List.getElem?_cons_zero, List.getElem?_cons_succ, List.getD_cons_zero, List.getD_cons_succ, extrF_tup, binF_add, binF_sub, binF_mul, binF_eql, binF_neq, binF_lss, binF_leq, binF_gtr, binF_geq, true_and]
          refine condA_t (fun hc => ?_) (fun hc => ?_)
          · rw [if_pos (by omega)]; exact ⟨rfl, hle11⟩
          · rw [if_neg (by omega)]
            have hoth := oth_list ⟨n, by omega⟩ ⟨s, by omega⟩ hs2
            simp only at hoth
            have hflen : ∀ a, a ≤ n → ((List.range a).filter fun a => !s.testBit a).length ≤ a := fun a _ => by
              have := List.length_filter_le (fun a => !s.testBit a) (List.range a)
              simpa using this
            rw [wrap_i64 (by omega) (by omega)]
            refine ⟨fun L H' => ∃ (a : Nat) (Y : AV), eqt L [Y, .int .i64 (a : Int)] ∧ a ≤ n ∧ Grow 1 H12 H' Y ((List.range a).filter fun a => !s.testBit a).length (ints (up ((List.range a).filter fun a => !s.testBit a))), fun L _ => (n - iv L 1).toNat, ⟨0, .nils, rfl, by omega, Grow.nils 1 H12⟩, ?_⟩
            rintro L H13 ⟨a, Y, rfl, ha, hgY⟩
            have hfa := hflen a ha
            try simp only [letO_some, cellsOf?_agg, cellsOf?_int, cellsOf?_bool, cellsOf?_imm, cellsOf?_ref, cellsOf?_nils, faddr_iptr, faddr_ptr, List.drop_succ_cons, List.drop_zero, List.take_succ_cons, List.take_zero, load1_iptr, loadN_iptr, List.length_cons, List.length_nil, Nat.le_refl, if_true, List.getElem?_cons_zero, List.getElem?_cons_succ, List.getD_cons_zero, List.getD_cons_succ, extrF_tup, binF_add, binF_sub, binF_mul, binF_eql, binF_neq, binF_lss, binF_leq, binF_gtr, binF_geq, true_and]
            refine condA_t (fun hlt2 => ?_) (fun hge2 => ?_)
            · have ha1 : a < n := by omega
              have hr : (List.range (a + 1)).filter (fun a => !s.testBit a) = (List.range a).filter (fun a => !s.testBit a) ++ [a].filter (fun a => !s.testBit a) := by rw [List.range_succ, List.filter_append]
              refine ⟨fun L H' => ∃ Y', eqt L [Y'] ∧ Grow 1 H12 H' Y' ((List.range (a + 1)).filter fun a => !s.testBit a).length (ints (up ((List.range (a + 1)).filter fun a => !s.testBit a))), ?_, ?_⟩
              · refine c12 (Reads.sl _ _) (by rw [up_length]; omega) ?_
                rw [up_mem (by omega)]
                cases hb : s.testBit a
                · have hf : [a].filter (fun a => !s.testBit a) = [a] := by simp [hb]
                  rw [hr, hf]
                  simp only [not_v, Bool.not_false, condA_tt, letO_some, l35 cellsOf?_int]
                  refine appendA_oneR hgY (by omega) fun v' H14 hg14 ho14 => ?_
                  try simp only [letO_some]
                  refine ⟨v', rfl, ?_⟩
                  have e1 : up ((List.range a).filter (fun a => !s.testBit a) ++ [a]) = up ((List.range a).filter (fun a => !s.testBit a)) ++ [(a : Int)] := by simp [up]
                  rw [e1, List.length_append]
                  exact hg14
                · have hf : [a].filter (fun a => !s.testBit a) = [] := by simp [hb]
                  rw [hr, hf, List.append_nil]
                  simp only [not_v, Bool.not_true, condA_ff, letO_some]
                  exact ⟨Y, rfl, hgY⟩
              · rintro L H14 ⟨Y', rfl, hgY'⟩
                simp only [letO_some, cellsOf?_agg, cellsOf?_int, cellsOf?_bool, cellsOf?_imm, cellsOf?_ref, cellsOf?_nils, faddr_iptr, faddr_ptr, List.drop_succ_cons, List.drop_zero, List.take_succ_cons, List.take_zero, load1_iptr, loadN_iptr, List.length_cons, List.length_nil, Nat.le_refl, if_true, List.getElem?_cons_zero, List.getElem?_cons_succ, List.getD_cons_zero, List.getD_cons_succ, extrF_tup, binF_add, binF_sub, binF_mul, binF_eql, binF_neq, binF_lss, binF_leq, binF_gtr, binF_geq, true_and]
                rw [wrap_i64 (by omega) (by omega)]
                exact ⟨⟨a + 1, Y', rfl, by omega, hgY'⟩, by simp [iv]; omega⟩
            · have han : a = n := by omega
              subst han
              rw [← hoth] at hgY
              have hYr := hgY.reads
              have hle13 := Heap.le_trans hle11 hgY.le
              have l6 : loadN 2 (.ptr b6 0) H13 = some (.agg [.int .i64 (a : Int), v]) := loadN_at (hle13 _ _ h68)
              simp only [l6, letO_some]
              refine c13 hF (hv _) hYr (oth_lt hs2) ?_
              rw [hcv]
              have e0' : (((if true = true then (0 : Int) else 21)) != 0) = false := rfl
              simp only [letO_some, binF_neq, e0', condA_ff]
              have ec : ((k2 : Int) + 1) = ((k2 + 1 : Nat) : Int) := by omega
              rw [ec]
              cases f2
              · simp only [gval_bool, Int.reduceBNe, Int.reduceBEq, pickF_true, pickF_false, reduceIte, Bool.true_eq_false, Bool.false_eq_true, if_false, condA_tt, condA_ff, condG_tt, condG_ff, condG_tt', condG_ff', condG_undef, gval_undef, letO_some]
                refine exJ (c14 hYr (Reads.sl _ _) (by rw [up_length]; have := ls_len (oth a s); omega) (by rw [up_length]; omega) ?_)
                have : decide (up (lsN (oth a s)) = up l) = decide (lsN (oth a s) = l) := by rw [decide_eq_decide]; exact up_inj
                rw [this]
                simp only [gval_bool, Int.reduceBNe, Int.reduceBEq, pickF_true, pickF_false, reduceIte, Bool.true_eq_false, Bool.false_eq_true, if_false, condA_tt, condA_ff, condG_tt, condG_ff, condG_tt', condG_ff', condG_undef, gval_undef, letO_some, Bool.false_or]
                exact ⟨rfl, hle13⟩
              · simp only [gval_bool, Int.reduceBNe, Int.reduceBEq, pickF_true, pickF_false, reduceIte, Bool.true_eq_false, Bool.false_eq_true, if_false, condA_tt, condA_ff, condG_tt, condG_ff, condG_tt', condG_ff', condG_undef, gval_undef, letO_some]
                refine exU ?_
                simp only [gval_bool, Int.reduceBNe, Int.reduceBEq, pickF_true, pickF_false, reduceIte, Bool.true_eq_false, Bool.false_eq_true, if_false, condA_tt, condA_ff, condG_tt, condG_ff, condG_tt', condG_ff', condG_undef, gval_undef, letO_some, Bool.true_or]
                exact ⟨rfl, hle13⟩
      · rintro L H12 ⟨rfl, hle12⟩
        simp only [letO_some, cellsOf?_agg, cellsOf?_int, cellsOf?_bool, cellsOf?_imm, cellsOf?_ref, cellsOf?_nils, faddr_iptr, faddr_ptr, List.drop_succ_cons, List.drop_zero, List.take_succ_cons, List.take_zero, load1_iptr, loadN_iptr, List.length_cons, List.length_nil, Nat.le_refl, if_true, List.getElem?_cons_zero, List.getElem?_cons_succ, List.getD_cons_zero, List.getD_cons_succ, extrF_tup, binF_add, binF_sub, binF_mul, binF_eql, binF_neq, binF_lss, binF_leq, binF_gtr, binF_geq, true_and]
        rw [wrap_i64 (by omega) (by omega)]
        exact ⟨⟨i + 1, rfl, by omega, hle12⟩, by simp [iv]; omega⟩
    · have hie : i = Ks.length := by omega
      subst hie
      rw [List.take_length, hme.1]
      have hsub : IntKind.i64.wrap ((n : Int) - ((n - l.length : Nat) : Int)) = (l.length : Int) := by
        have := hme.2
        rw [wrap_i64 (by omega) (by omega)]; omega
      have hll : lenA (sl (up l)) = some (.int .i64 (l.length : Int)) := by simp [sl, lenA]
      have em : ((m : Int) == (m : Int)) = true := by simp
      have el : ((l.length : Int) == (l.length : Int)) = true := by simp
      simp only [letO_some, cellsOf?_agg, cellsOf?_int, cellsOf?_bool, cellsOf?_imm, cellsOf?_ref, cellsOf?_nils, faddr_iptr, faddr_ptr, List.drop_succ_cons, List.drop_zero, List.take_succ_cons, List.take_zero, load1_iptr, loadN_iptr, List.length_cons, List.length_nil, Nat.le_refl, if_true, List.getElem?_cons_zero, List.getElem?_cons_succ, List.getD_cons_zero, List.getD_cons_succ, extrF_tup, binF_add, binF_sub, binF_mul, binF_eql, binF_neq, binF_lss, binF_leq, binF_gtr, binF_geq, true_and, gval_bool, Int.reduceBNe, Int.reduceBEq, pickF_true, pickF_false, reduceIte, Bool.true_eq_false, Bool.false_eq_true, if_false, condA_tt, condA_ff, condG_tt, condG_ff, condG_tt', condG_ff', condG_undef, gval_undef, em, hll, hsub, el]
      refine exJ (c15 ?_)
      try simp only [letO_some, cellsOf?_agg, cellsOf?_int, cellsOf?_bool, cellsOf?_imm, cellsOf?_ref, cellsOf?_nils, faddr_iptr, faddr_ptr, List.drop_succ_cons, List.drop_zero, List.take_succ_cons, List.take_zero, load1_iptr, loadN_iptr, List.length_cons, List.length_nil, Nat.le_refl, if_true, List.getElem?_cons_zero, List.getElem?_cons_succ, List.getD_cons_zero, List.getD_cons_succ, extrF_tup, binF_add, binF_sub, binF_mul, binF_eql, binF_neq, binF_lss, binF_leq, binF_gtr, binF_geq, true_and, gval_bool, Int.reduceBNe, Int.reduceBEq, pickF_true, pickF_false, reduceIte, Bool.true_eq_false, Bool.false_eq_true, if_false, condA_tt, condA_ff, condG_tt, condG_ff, condG_tt', condG_ff', condG_undef, gval_undef]
      exact endK_pub (Pub.drop (Heap.le_trans hle8 hle11)) (endK_ret hk)
end Go.Proofs.YtmmfelpgcdlgfaaDoor

namespace Go.Proofs.YtmmfelpgcdlgfaaDoor
open Go.Av
set_option linter.unusedVariables false

/-- Numbers, two by two. -/
theorem pairs_of : ∀ (k : Nat) (l : List Nat), l.length = 2 * k → (∀ x ∈ l, x < 256) → ∃ E : List (Nat × Nat), E.length = k ∧ (l.map fun (x : Nat) => AV.int .u8 (x : Int)) = E.flatMap pr8 ∧ ∀ x ∈ E, x.1 < 256 ∧ x.2 < 256
  | 0, l, h, _ => ⟨[], rfl, by have : l = [] := List.eq_nil_of_length_eq_zero (by omega); subst this; rfl, by simp⟩
  | k + 1, l, h, hx => by
    match l, h, hx with
    | a :: b :: l, h, hx =>
      obtain ⟨E, e1, e2, e3⟩ := pairs_of k l (by simp at h; omega) (fun x hm => hx x (by simp [hm]))
      refine ⟨(a, b) :: E, by simp [e1], ?_, fun x hm => ?_⟩
      · rw [List.flatMap_cons, ← e2]; rfl
      · rcases List.mem_cons.1 hm with rfl | hm
        · exact ⟨hx _ (by simp), hx _ (by simp)⟩
        · exact e3 x hm
namespace topMutual
theorem law {b : Nat} {g : List Nat} (h : b < 256) (h0 : g.length = 16) (h1 : ∀ x ∈ g, x < 256) : ACalls Tryd.prog 3 [.int .u8 (b : Int), .agg (g.map fun (x : Nat) => .int .u8 (x : Int))] Heap.none fun r _ => r = .bool true := by
  obtain ⟨E, e1, e2, e3⟩ := pairs_of 8 g h0 h1
  rw [e2]
  exact c3 h e1 e3 rfl
end topMutual
end Go.Proofs.YtmmfelpgcdlgfaaDoor

/- From a walk to a tied row: what the listed variables hold. -/
set_option linter.unusedVariables false
namespace Go.Proofs.YtmmfelpgcdlgfaaDoor
open Go.ChangeShapes Go.WideShapes Go.ChangeAt Go.RowKit Go.Av

theorem ownK : ownKnob Tryd.prog.godebug = none := by kernel_rfl
theorem laidOutK : laidOutB Tryd.prog = true := by kernel_rfl
theorem g64 : Tryd.prog.globalNamed "math/bits.deBruijn64tab" = some 1 := by kernel_rfl
theorem g64t : (Tryd.prog.globals[1]?).map (·.type) = some 168 := by kernel_rfl
theorem u168 : Tryd.prog.underlying 168 = some (.array 64 5) := by kernel_rfl
theorem u5 : Tryd.prog.underlying 5 = some (.int .u8) := by kernel_rfl
theorem k5 : Tryd.prog.cellsOf 5 = 1 := by kernel_rfl
theorem k168 : Tryd.prog.cellsOf 168 = 64 := by kernel_rfl
abbrev laidL : List (String × DataW Unit) := [("math/bits.deBruijn32tab", Rows.laid_math_bits_deBruijn32tab), ("math/bits.deBruijn64tab", Rows.laid_math_bits_deBruijn64tab)]
def vals64 : List Int := [0, 1, 56, 2, 57, 49, 28, 3, 61, 58, 42, 50, 38, 29, 17, 4, 62, 47, 59, 36, 45, 43, 51, 22, 53, 39, 33, 30, 24, 18, 12, 5, 63, 55, 48, 27, 60, 41, 37, 16, 46, 35, 44, 21, 52, 32, 23, 11, 54, 26, 40, 15, 34, 20, 31, 10, 25, 14, 19, 9, 13, 8, 7, 6]
theorem laid64 : (Rows.laid_math_bits_deBruijn64tab : DataW Unit) = .agg (vals64.map fun n => .lit (.int .u8 n)) := by rfl
theorem tz64_eq : tz64 = vals64.map (.int .u8) := by rfl
/-- WHAT THE CONDITION GIVES A WALK. -/
theorem glb_of_laid {W : World} (h : laidMetH Tryd.prog laidL W) : Glb Tryd.prog (E0 W) := by
  rw [MakeChecks.laidMetH_plain _ _ _ (by kernel_rfl)] at h
  obtain ⟨ps, h1, _⟩ := h
  obtain ⟨_, _, _, _, _, _, _, _, _, _, h2, _⟩ := h1
  obtain ⟨g, t, cs, fuel, p, q, e1, e2, e3, e4, _, _⟩ := h2
  obtain rfl : (1 : Nat) = g := Option.some.inj (g64.symm.trans e1)
  obtain rfl : 168 = t := Option.some.inj (g64t.symm.trans e2)
  intro g cells hg
  unfold globs at hg
  rw [g64] at hg
  split at hg
  · rename_i hh
    cases hh
    cases hg
    obtain ⟨xs, m, _, hx, hl, hxl, hel⟩ := DataW.trod_array u168 e4
    rw [k168] at hl
    have hcs : ∀ i, i < 64 → cs[i]? = some (.int .u8 (vals64.getD i 0)) := by
      intro i hi
      have h5 := hel i hi
      rw [k5, Nat.mul_one] at h5
      have hxi : xs[i]? = some xs[i] := by simp [hxl, hi]
      rw [hxi] at h5
      obtain ⟨n, hn, hx5, _⟩ := DataW.trod_int u5 h5
      have hval : n = vals64.getD i 0 := by
        have h6 : (xs.map (·.1))[i]? = some (DataW.lit (.int .u8 n)) := by
          rw [List.getElem?_map, hxi, hx5]; rfl
        have h7 : (xs.map (·.1)) = vals64.map fun n => DataW.lit (.int .u8 n) := by
          have := congrArg Prod.fst hx
          rw [laid64] at this
          injection this with this
          exact this.symm
        rw [h7, List.getElem?_map] at h6
        have h8 : vals64[i]? = some (vals64.getD i 0) := by
          have : i < vals64.length := hi
          rw [List.getD_eq_getElem?_getD, List.getElem?_eq_getElem this]; rfl
        rw [h8] at h6
        simp only [Option.map_some, Option.some.injEq, DataW.lit.injEq, Lit.int.injEq, true_and] at h6
        exact h6.symm
      have h9 : ((cs.toList.drop i).take 1)[0]? = some (.int .u8 n) := by rw [hn]; rfl
      rw [List.getElem?_take_of_lt (by omega), List.getElem?_drop, Nat.add_zero] at h9
      rw [← hval]
      simpa using h9
    -- the block
    have hblk : ∃ T fr, W.heap[1]? = some (.cells cs T fr) := by
      unfold World.var? at e3
      rw [g64] at e3
      simp only [Option.bind_some] at e3
      split at e3
      · rename_i c T fr hh
        cases e3
        exact ⟨T, fr, hh⟩
      · cases e3
    obtain ⟨T, fr, hblk⟩ := hblk
    refine Rep.iptr tz64 1 0 cs T fr (fun i => .int .u8 (vals64.getD i 0)) hblk (fun i hi => ?_) (fun i hi => ?_)
    · rw [Nat.zero_add]; exact hcs i hi
    · have h1 : i < vals64.length := hi
      have : tz64[i] = .int .u8 (vals64.getD i 0) := by
        have e : tz64[i]? = some (.int .u8 (vals64.getD i 0)) := by
          rw [tz64_eq, List.getElem?_map, List.getD_eq_getElem?_getD, List.getElem?_eq_getElem h1]; rfl
        rw [List.getElem?_eq_getElem hi] at e
        exact Option.some.inj e
      exact Eq.mpr (congrArg (fun z => Rep (E0 W) z (Value.int .u8 (vals64.getD i 0))) this) (Rep.int _ _)
  · cases hg
end Go.Proofs.YtmmfelpgcdlgfaaDoor

/- A world that meets the condition; the row's builder. -/
set_option linter.unusedVariables false
namespace Go.Proofs.YtmmfelpgcdlgfaaDoor
open Go.ChangeShapes Go.WideShapes Go.ChangeAt Go.RowKit Go.Av

def vals32 : List Int := [0, 1, 28, 2, 29, 14, 24, 3, 30, 22, 20, 15, 25, 17, 4, 8, 31, 27, 13, 23, 21, 19, 16, 7, 26, 12, 18, 6, 11, 5, 10, 9]
/-- A world that meets the condition: the settled one, the two tables laid. -/
noncomputable def laidWorld (os : Os) (blocks : Array Obj) : World :=
  let w0 := World.holding Tryd.prog os ⟨blocks, #[], []⟩
  { w0 with heap := (w0.heap.modify 0 fun
      | .cells _ t frozen => .cells (vals32.map (Value.int .u8)).toArray t frozen
      | o => o).modify 1 fun
      | .cells _ t frozen => .cells (vals64.map (Value.int .u8)).toArray t frozen
      | o => o }
set_option maxRecDepth 100000 in
theorem laidWorld_met0 (os : Os) (args : Array Value) : laidMetH Tryd.prog laidL ((laidWorld os #[]).forCall (fun _ _ => 0) ⟨#[], args, []⟩).memory :=
  laidMetH_of_parts (laidMet_of_run3 80 (by kernel_rfl) (by kernel_rfl) (by kernel_rfl)) (by kernel_rfl)
end Go.Proofs.YtmmfelpgcdlgfaaDoor

/- MADE BY PROGRAM (rowt.py): the row and the tied card of TopMutual. -/
namespace Go.Proofs.YtmmfelpgcdlgfaaDoor.topMutual
open Go.ChangeShapes Go.WideShapes Go.ChangeAt Go.RowKit Go.Av
set_option linter.unusedVariables false

set_option maxRecDepth 100000 in
theorem lifted (os : Os) (started : os.Started) (H : Type) (enc : TypeId × Value → H) :
    ReturnsInHanded {} Tryd.checked os 3 .any (fun w args => (Rows.topMutualSpec.pre enc Tryd.prog Tryd.f3 [] false w args ∧ laidMetH Tryd.prog laidL w) ∧ sizedMet enc Tryd.prog Tryd.f3 (OpenSpec.ofChange Rows.topMutualSpec) false w args)
      (Rows.topMutualSpec.post enc Tryd.prog Tryd.f3 false true false false) := by
  refine returnsInHanded_of_change_and (C := Tryd.checked) (X := fun w _ => laidMetH Tryd.prog laidL w) (fun _ _ _ hh h => h.of_heap hh) ownK started (by kernel_rfl) Tryd.func3
    (ChangeSpec.witness_at (enc := enc) (C := Tryd.checked) (os := os) (X := fun w _ => laidMetH Tryd.prog laidL w) false (laidWorld os #[]) #[.int .u8 0, .agg #[.int .u8 0, .int .u8 0, .int .u8 0, .int .u8 0, .int .u8 0, .int .u8 0, .int .u8 0, .int .u8 0, .int .u8 0, .int .u8 0, .int .u8 0, .int .u8 0, .int .u8 0, .int .u8 0, .int .u8 0, .int .u8 0]] 8 rfl (by kernel_rfl) (by kernel_rfl) (by kernel_rfl) (by kernel_rfl) (by kernel_rfl) (laidWorld_met0 os _)) ?_
  intro W base args ds gs before hval0 hW hcnd _ hL _
  have hval : ∀ (j : Nat) t v, Tryd.f3.params[j]? = some t → args[j]? = some v → Value.okWide Tryd.prog W .any base t v := hval0
  have hW' := hW
  obtain ⟨p, q, hA0, hV, rfl, hfz, hnd⟩ := hW
  have hA : DataW.TrodAll enc Tryd.prog W 0 (fun _ => true) true Tryd.f3.params.toList args.toList ds p := hA0
  have hA1 := hA
  rw [Tryd.params3] at hA hval
  obtain ⟨rfl, rfl⟩ := trodVars_none hV
  clear hA0 hval0
  simp only [List.append_nil] at hW'
  have hlt : ∀ x ∈ p, x.block < W.heap.size := fun x hx => by simpa using hW'.lt x hx
  obtain ⟨v0, v1, d0, d1, p0, p1, rfl, rfl, rfl, h0, h1⟩ := trodAll_two hA
  obtain ⟨b0, rfl, bx0⟩ := rep_u8 Tryd.underlying5 (hval 0 5 v0 rfl rfl)
  obtain ⟨a1, al1, ax1, r1⟩ := rep_row (E := E0 W) (n := 16) (u := 5) (.inr ⟨_, _, Tryd.underlying23⟩) (by kernel_rfl) (by kernel_rfl) Tryd.underlying5 (hval 1 23 v1 rfl rfl)
  refine ((law bx0 al1 ax1).2 (E0 W) W [.int .u8 (b0 : Int), v1] (glb_of_laid hL) (st0 W) (RepL.cons (.int _ _) (RepL.cons r1 (RepL.nil _)))).mono ?_
  rintro e W' ⟨r, v, E', H', rfl, hr, _, hx, rfl⟩
  cases hr
  exact ⟨_, rfl, _, _, _, [], _, [], hW', trodAll_cons_mk (shut_bool Tryd.underlying4 _) trodAll_mk0, hx.trodAll laidOutK (by kernel_rfl) hA1 hlt, rfl, hx.kept _, fun h => by cases h⟩

theorem over : Rows.topMutualRow.holds Tryd.pinned (OpenSpec.ofChange Rows.topMutualSpec) :=
  OpenClaim.holds_of_wide 3 Tryd.f3 rfl rfl rfl rfl rfl rfl rfl ⟨rfl, rfl, rfl, rfl, rfl⟩ rfl rfl rfl rfl rfl (by kernel_rfl) Tryd.func3 (by kernel_rfl)
    (of_decide_eq_true (by kernel_rfl)) (by unfold Func.isWrapper; first | (rw [if_pos (by decide +kernel)]; kernel_rfl) | (rw [if_neg (by decide +kernel)]; exact ⟨rfl, rfl⟩))
    (fun os started H enc _ => lifted os started H enc)

theorem carded : Rows.TopMutualCardSaid :=
  Claim7.holds_tied_plain_at .later [] [.data, .data] true (true, "64ee42def1c4c9e2e1db2cd06d55cd9155fc815a171a87a85e890809892ccc74") true
    over (fun _ h => by cases h) (by kernel_rfl) (fun _ h => by cases h) topMutual_row_tie rfl ⟨rfl, rfl⟩ (by kernel_rfl) rfl
    (fun f fn hf hfn => by
      obtain rfl : f = 3 := Option.some.inj ((show Tryd.prog.funcNamed "headword/headwordtop.TopMutual" = some 3 by kernel_rfl).symm.trans hf) |>.symm
      obtain rfl : fn = Tryd.f3 := (Option.some.inj (Tryd.func3.symm.trans hfn)).symm
      exact ⟨by kernel_rfl, fun j t ht => by
        rw [Tryd.params3] at ht
        have hm := Array.mem_of_getElem? ht
        rcases (show t = 5 ∨ t = 23 by simpa [or_assoc] using hm) with rfl | rfl
        · exact (show Tryd.prog.wantsStandIn 5 = false by kernel_rfl)
        · exact (show Tryd.prog.wantsStandIn 23 = false by kernel_rfl)⟩)
    (by kernel_rfl)
#print axioms carded
end Go.Proofs.YtmmfelpgcdlgfaaDoor.topMutual
