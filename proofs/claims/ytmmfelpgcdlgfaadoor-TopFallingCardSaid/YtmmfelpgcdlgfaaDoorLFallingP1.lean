import Derived.Test.YtmmfelpgcdlgfaaDoorConB
import Derived.Test.YtmmfelpgcdlgfaaDoorLFallingW
/- The contracts that TopFalling uses. Conditions: each theorem names its own. -/
/- The choices of a graph of seven points are at most twelve. -/
namespace Go.Proofs.YtmmfelpgcdlgfaaDoor
set_option linter.unusedVariables false

/-- A set of points, a bit each, that is a choice among the points of a list. -/
structure Mis (adj : Nat → Nat → Bool) (V : List Nat) (S : Nat) : Prop where
  sub : ∀ x, S.testBit x = true → x ∈ V
  free : ∀ x y, S.testBit x = true → S.testBit y = true → adj x y = false
  full : ∀ x, x ∈ V → S.testBit x = false → ∃ y, S.testBit y = true ∧ adj x y = true
def gB (n : Nat) : Nat := [1, 1, 2, 3, 4, 6, 9, 12].getD n 0
theorem gB_step : ∀ n : Fin 8, ∀ k : Fin 8, 1 ≤ k.val → k.val ≤ n.val → k.val * gB (n.val - k.val) ≤ gB n.val := by decide +kernel
theorem gB_mono : ∀ a : Fin 8, ∀ b : Fin 8, a.val ≤ b.val → gB a.val ≤ gB b.val := by decide +kernel
theorem filter_both {α : Type} (p : α → Bool) (L : List α) : (L.filter p).length + (L.filter fun x => !p x).length = L.length := by
  induction L with
  | nil => rfl
  | cons a L ih => cases h : p a <;> simp [h] <;> omega
theorem cover_le (N : List Nat) : ∀ (L : List Nat) (b : Nat), (∀ S ∈ L, ∃ u ∈ N, S.testBit u = true) → (∀ u ∈ N, (L.filter fun S => S.testBit u).length ≤ b) → L.length ≤ N.length * b := by
  induction N with
  | nil =>
    intro L b h1 _
    cases L with
    | nil => simp
    | cons S L => obtain ⟨u, hu, _⟩ := h1 S (by simp); cases hu
  | cons u N ih =>
    intro L b h1 h2
    have h3 := ih (L.filter fun S => !S.testBit u) b
      (fun S hS => by
        rw [List.mem_filter] at hS
        obtain ⟨w, hw, hw2⟩ := h1 S hS.1
        rcases List.mem_cons.1 hw with rfl | hw
        · rw [hw2] at hS; simp at hS
        · exact ⟨w, hw, hw2⟩)
      (fun w hw => by
        refine Nat.le_trans (List.Sublist.length_le ?_) (h2 w (List.mem_cons_of_mem _ hw))
        exact List.Sublist.filter _ List.filter_sublist)
    have h4 := h2 u (by simp)
    have h5 := filter_both (fun S : Nat => S.testBit u) L
    rw [List.length_cons, Nat.succ_mul]
    omega
theorem least_in {α : Type} (f : α → Nat) : ∀ (L : List α), L ≠ [] → ∃ a ∈ L, ∀ b ∈ L, f a ≤ f b := by
  intro L
  induction L with
  | nil => intro h; exact absurd rfl h
  | cons a L ih =>
    intro _
    cases L with
    | nil => exact ⟨a, by simp, by simp⟩
    | cons c L =>
      obtain ⟨m, hm, h⟩ := ih (by simp)
      by_cases hc : f a ≤ f m
      · refine ⟨a, by simp, fun b hb => ?_⟩
        rcases List.mem_cons.1 hb with rfl | hb
        · exact Nat.le_refl _
        · exact Nat.le_trans hc (h b hb)
      · refine ⟨m, List.mem_cons_of_mem _ hm, fun b hb => ?_⟩
        rcases List.mem_cons.1 hb with rfl | hb
        · omega
        · exact h b hb
theorem xor_bit (S u x : Nat) : (S ^^^ 2 ^ u).testBit x = (S.testBit x ^^ decide (u = x)) := by
  rw [Nat.testBit_xor, Nat.testBit_two_pow]
theorem nodup_map {α β : Type} {f : α → β} : ∀ {L : List α}, (∀ a ∈ L, ∀ b ∈ L, f a = f b → a = b) → L.Pairwise (· ≠ ·) → (L.map f).Pairwise (· ≠ ·) := by
  intro L
  induction L with
  | nil => intro _ _; exact List.Pairwise.nil
  | cons a L ih =>
    intro h hp
    rw [List.pairwise_cons] at hp
    rw [List.map_cons, List.pairwise_cons]
    refine ⟨fun b hb => ?_, ih (fun x hx y hy => h x (List.mem_cons_of_mem _ hx) y (List.mem_cons_of_mem _ hy)) hp.2⟩
    obtain ⟨c, hc, rfl⟩ := List.mem_map.1 hb
    intro he
    exact hp.1 c hc (h a (by simp) c (List.mem_cons_of_mem _ hc) he)
/-- There are at most so many choices. -/
theorem mis_le {adj : Nat → Nat → Bool} (hs : ∀ x y, adj x y = adj y x) (hi : ∀ x, adj x x = false) :
    ∀ (k : Nat) (V L : List Nat), V.length = k → k ≤ 7 → L.Pairwise (· ≠ ·) → (∀ S ∈ L, Mis adj V S) → L.length ≤ gB k := by
  intro k
  induction k using Nat.strongRecOn with
  | _ k ih =>
    intro V L hV hk hnd hL
    by_cases hV0 : V = []
    · subst hV0
      simp at hV
      subst hV
      have h0 : ∀ S ∈ L, S = 0 := fun S hS => by
        apply Nat.eq_of_testBit_eq
        intro i
        rw [Nat.zero_testBit]
        cases h : S.testBit i
        · rfl
        · exact absurd ((hL S hS).sub i h) (by simp)
      cases L with
      | nil => simp
      | cons a L =>
        cases L with
        | nil => simp [gB]
        | cons b L =>
          rw [List.pairwise_cons] at hnd
          exact absurd ((h0 a (by simp)).trans (h0 b (by simp)).symm) (hnd.1 b (by simp))
    · obtain ⟨v, hv, hmin⟩ := least_in (fun u => (V.filter fun w => w == u || adj u w).length) V hV0
      have hcov : L.length ≤ (V.filter fun w => w == v || adj v w).length * gB (k - (V.filter fun w => w == v || adj v w).length) := by
        refine cover_le _ _ _ (fun S hS => ?_) (fun u hu => ?_)
        · cases h : S.testBit v
          · obtain ⟨y, y1, y2⟩ := (hL S hS).full v hv h
            exact ⟨y, List.mem_filter.2 ⟨(hL S hS).sub y y1, by simp [y2]⟩, y1⟩
          · exact ⟨v, List.mem_filter.2 ⟨hv, by simp⟩, h⟩
        · have huV : u ∈ V := (List.mem_filter.1 hu).1
          have hsum := filter_both (fun w => w == u || adj u w) V
          have hlow := hmin u huV
          have hpos : 1 ≤ (V.filter fun w => w == u || adj u w).length := List.length_pos_of_mem (List.mem_filter.2 ⟨huV, by simp⟩)
          have hmap := ih (V.filter fun w => !(w == u || adj u w)).length (by omega) (V.filter fun w => !(w == u || adj u w)) ((L.filter fun S => S.testBit u).map fun S => S ^^^ 2 ^ u) rfl (by omega)
            (nodup_map (fun a _ b _ h => by
              have : a ^^^ 2 ^ u ^^^ 2 ^ u = b ^^^ 2 ^ u ^^^ 2 ^ u := by rw [h]
              simpa [Nat.xor_assoc] using this) (hnd.filter _))
            (fun T hT => by
              obtain ⟨S, hS, rfl⟩ := List.mem_map.1 hT
              rw [List.mem_filter] at hS
              obtain ⟨hS, hSu⟩ := hS
              have hm := hL S hS
              refine ⟨fun x hx => ?_, fun x y hx hy => ?_, fun x hx hnx => ?_⟩
              · rw [xor_bit] at hx
                by_cases hux : u = x
                · subst hux; rw [hSu] at hx; simp at hx
                · simp [hux] at hx
                  refine List.mem_filter.2 ⟨hm.sub x hx, ?_⟩
                  have := hm.free u x hSu hx
                  simp [this]; exact fun h => hux h.symm
              · rw [xor_bit] at hx hy
                by_cases hux : u = x
                · subst hux; rw [hSu] at hx; simp at hx
                · by_cases huy : u = y
                  · subst huy; rw [hSu] at hy; simp at hy
                  · simp [hux] at hx; simp [huy] at hy
                    exact hm.free x y hx hy
              · rw [List.mem_filter] at hx
                have hx2 := hx.2
                simp at hx2
                rw [xor_bit] at hnx
                have hux : ¬ u = x := fun h => hx2.1 h.symm
                simp [hux] at hnx
                obtain ⟨y, y1, y2⟩ := hm.full x hx.1 hnx
                have huy : ¬ u = y := by
                  rintro rfl
                  rw [hs, hx2.2] at y2; cases y2
                exact ⟨y, by rw [xor_bit]; simp [huy, y1], y2⟩)
          rw [List.length_map] at hmap
          have hmono := gB_mono ⟨(V.filter fun w => !(w == u || adj u w)).length, by omega⟩ ⟨k - (V.filter fun w => w == v || adj v w).length, by omega⟩ (by simp only; omega)
          exact Nat.le_trans hmap hmono
      have hv1 : 1 ≤ (V.filter fun w => w == v || adj v w).length := List.length_pos_of_mem (List.mem_filter.2 ⟨hv, by simp⟩)
      have hvk : (V.filter fun w => w == v || adj v w).length ≤ k := by rw [← hV]; exact List.length_filter_le _ _
      have := gB_step ⟨k, by omega⟩ ⟨(V.filter fun w => w == v || adj v w).length, by omega⟩ hv1 hvk
      exact Nat.le_trans hcov this
end Go.Proofs.YtmmfelpgcdlgfaaDoor

/- Choices of words that see each other both ways, and lists of wrong articles. -/
namespace Go.Proofs.YtmmfelpgcdlgfaaDoor
set_option linter.unusedVariables false

theorem cmpL_tri : ∀ (a b : List Int), cmpL a b = -1 ∨ cmpL a b = 0 ∨ cmpL a b = 1 := by
  intro a
  induction a with
  | nil => intro b; cases b <;> simp [cmpL]
  | cons x a ih =>
    intro b
    cases b with
    | nil => simp [cmpL]
    | cons y b =>
      rw [cmpL]
      split
      · simp
      · split
        · simp
        · exact ih b
/-- What the search for the shortest lists knows. -/
theorem sh_inv (R : List (Nat × Nat)) (L : List Nat) :
    (L.foldl (shF R) ([], 0)).2 = L.countP (fun s => expl R s && (lsN s).length == (L.foldl (shF R) ([], 0)).1.length) ∧
    (∀ s ∈ L, expl R s = true → (L.foldl (shF R) ([], 0)).1.length ≤ (lsN s).length ∧ 0 < (L.foldl (shF R) ([], 0)).2) ∧
    (0 < (L.foldl (shF R) ([], 0)).2 → ∃ s ∈ L, expl R s = true ∧ lsN s = (L.foldl (shF R) ([], 0)).1) := by
  induction L using snoc_ind with
  | h0 => simp
  | h1 L a ih =>
    rw [List.foldl_append]
    simp only [List.foldl_cons, List.foldl_nil]
    generalize L.foldl (shF R) ([], 0) = st at *
    obtain ⟨best, many⟩ := st
    obtain ⟨i1, i2, i3⟩ := ih
    simp only at i1 i2 i3
    have hsame : ∀ {b : List Nat} {m : Nat}, (0 < m → ∃ s ∈ L, expl R s = true ∧ lsN s = b) → 0 < m → ∃ s ∈ L ++ [a], expl R s = true ∧ lsN s = b := by
      intro b m h hm
      obtain ⟨s, s1, s2⟩ := h hm
      exact ⟨s, List.mem_append_left _ s1, s2⟩
    rw [shF]
    by_cases hc : expl R a = false ∨ (0 < many ∧ best.length < (lsN a).length)
    · rw [if_pos hc]
      refine ⟨?_, ?_, ?_⟩
      · rw [List.countP_append, ← i1]
        rcases hc with h | h
        · simp [h]
        · have : ¬ (lsN a).length = best.length := by omega
          simp [this]
      · intro s hs he
        rcases List.mem_append.1 hs with hs | hs
        · exact i2 s hs he
        · simp at hs; subst hs
          rcases hc with h | h
          · rw [he] at h; cases h
          · exact ⟨by simp only; omega, h.1⟩
      · exact hsame i3
    · rw [if_neg hc]
      have he : expl R a = true := by
        cases h : expl R a
        · exact absurd (.inl h) hc
        · rfl
      have hle : 0 < many → (lsN a).length ≤ best.length := fun h => by
        apply Nat.le_of_not_lt
        intro h2
        exact hc (.inr ⟨h, h2⟩)
      try simp only
      by_cases hd : many = 0 ∨ (lsN a).length < best.length
      · rw [if_pos hd]
        simp only
        refine ⟨?_, ?_, fun _ => ⟨a, by simp, he, rfl⟩⟩
        · rw [List.countP_append]
          have : L.countP (fun s => expl R s && (lsN s).length == (lsN a).length) = 0 := by
            rw [List.countP_eq_zero]
            intro s hs h
            simp at h
            obtain ⟨h1, h2⟩ := i2 s hs h.1
            omega
          rw [this]; simp [he]
        · intro s hs hes
          rcases List.mem_append.1 hs with hs | hs
          · obtain ⟨h1, h2⟩ := i2 s hs hes
            omega
          · simp at hs; subst hs; omega
      · rw [if_neg hd]
        have h1 : (lsN a).length = best.length := by
          have := hle (by omega)
          omega
        have hlen : (if cmpL (up (lsN a)) (up best) < 0 then lsN a else best).length = best.length := by split <;> simp [h1]
        simp only [hlen]
        refine ⟨?_, ?_, ?_⟩
        · rw [List.countP_append, ← i1]; simp [he, h1]
        · intro s hs hes
          rcases List.mem_append.1 hs with hs | hs
          · obtain ⟨h1, h2⟩ := i2 s hs hes
            omega
          · simp at hs; subst hs; omega
        · intro _
          split
          · exact ⟨a, by simp, he, rfl⟩
          · exact hsame i3 (by omega)
/-- The pairs, both ways. -/
def both (P : List (Nat × Nat)) : List (Nat × Nat) := P.flatMap fun p => [p, (p.2, p.1)]
theorem mem_both {P : List (Nat × Nat)} {x y : Nat} : (x, y) ∈ both P ↔ (x, y) ∈ P ∨ (y, x) ∈ P := by
  simp only [both, List.mem_flatMap]
  constructor
  · rintro ⟨⟨a, b⟩, h, h2⟩
    simp at h2
    rcases h2 with ⟨rfl, rfl⟩ | ⟨rfl, rfl⟩
    · exact .inl h
    · exact .inr h
  · rintro (h | h)
    · exact ⟨_, h, by simp⟩
    · exact ⟨_, h, by simp⟩
/-- The other points. -/
def oth (n s : Nat) : Nat := 2 ^ n - (s + 1)
theorem oth_bit {n s : Nat} (h : s < 2 ^ n) (x : Nat) : (oth n s).testBit x = (decide (x < n) && !s.testBit x) := Nat.testBit_two_pow_sub_succ h x
theorem oth_lt {n s : Nat} (h : s < 2 ^ n) : oth n s < 2 ^ n := by unfold oth; omega
theorem oth_oth {n s : Nat} (h : s < 2 ^ n) : oth n (oth n s) = s := by unfold oth; omega
theorem oth_len : ∀ n : Fin 8, ∀ s : Fin 128, s.val < 2 ^ n.val → (lsN s.val).length + (lsN (oth n.val s.val)).length = n.val := by decide +kernel
theorem oth_list : ∀ n : Fin 8, ∀ s : Fin 128, s.val < 2 ^ n.val → lsN (oth n.val s.val) = (List.range n.val).filter fun a => !s.val.testBit a := by decide +kernel
theorem and_zero {a b : Nat} : (a &&& b = 0) ↔ ∀ y, a.testBit y = true → b.testBit y = false := by
  constructor
  · intro h y hy
    have : (a &&& b).testBit y = false := by rw [h, Nat.zero_testBit]
    rw [Nat.testBit_and, hy] at this
    simpa using this
  · intro h
    apply Nat.eq_of_testBit_eq
    intro y
    rw [Nat.testBit_and, Nat.zero_testBit]
    cases hy : a.testBit y
    · rfl
    · rw [h y hy]; rfl
def adjB (P : List (Nat × Nat)) (x y : Nat) : Bool := decide ((x, y) ∈ both P)
/-- A choice, said without the bits. -/
theorem kern_iff {n : Nat} {P : List (Nat × Nat)} (hr : ∀ r ∈ P, r.1 < r.2 ∧ r.2 < n) {s : Nat} (hs : s < 2 ^ n) : judE n (both P) s = 0 ↔
    (∀ p ∈ P, ¬ (s.testBit p.1 = true ∧ s.testBit p.2 = true)) ∧ ∀ x, x < n → s.testBit x = false → ∃ y, s.testBit y = true ∧ (x, y) ∈ both P := by
  have hj : judE n (both P) s = 0 ↔ (List.range n).any (clashAt (both P) s) = false ∧ (List.range n).any (openAt (both P) s) = false := by
    unfold judE
    cases (List.range n).any (clashAt (both P) s) <;> cases (List.range n).any (openAt (both P) s) <;> simp
  rw [hj, List.any_eq_false, List.any_eq_false]
  refine and_congr ?_ ?_
  · constructor
    · rintro h ⟨a, b⟩ hp ⟨h1, h2⟩
      have ha := bit_lt hs h1
      have := h a (List.mem_range.2 ha)
      simp only at h1 h2
      simp only [clashAt, h1, Bool.true_and, bne_iff_ne, ne_eq, Classical.not_not] at this
      rw [and_zero] at this
      have := this b (by rw [sw_bit]; exact decide_eq_true (mem_both.2 (.inl hp)))
      rw [h2] at this; cases this
    · intro h x hx hc
      simp only [clashAt, Bool.and_eq_true, bne_iff_ne, ne_eq] at hc
      refine hc.2 (and_zero.2 fun y hy => ?_)
      rw [sw_bit, decide_eq_true_iff, mem_both] at hy
      cases hb : s.testBit y
      · rfl
      · rcases hy with hy | hy
        · exact absurd ⟨hc.1, hb⟩ (h _ hy)
        · exact absurd ⟨hb, hc.1⟩ (h _ hy)
  · constructor
    · intro h x hx hb
      have := h x (List.mem_range.2 hx)
      simp only [openAt, hb, Bool.not_false, Bool.true_and, beq_iff_eq] at this
      rw [and_zero] at this
      apply Classical.byContradiction
      intro hne
      refine this fun y hy => ?_
      rw [sw_bit, decide_eq_true_iff] at hy
      cases hby : s.testBit y
      · rfl
      · exact absurd ⟨y, hby, hy⟩ hne
    · intro h x hx hc
      simp only [openAt, Bool.and_eq_true, Bool.not_eq_true', beq_iff_eq] at hc
      obtain ⟨y, y1, y2⟩ := h x (List.mem_range.1 hx) hc.1
      have := and_zero.1 hc.2 y (by rw [sw_bit]; exact decide_eq_true y2)
      rw [y1] at this; cases this
theorem expl_oth {n : Nat} {P : List (Nat × Nat)} (hr : ∀ r ∈ P, r.1 < r.2 ∧ r.2 < n) {s : Nat} (hs : s < 2 ^ n) : expl P (oth n s) = true ↔ ∀ p ∈ P, ¬ (s.testBit p.1 = true ∧ s.testBit p.2 = true) := by
  rw [expl, List.all_eq_true]
  constructor
  · intro h p hp hc
    have := h p hp
    rw [oth_bit hs, oth_bit hs, hc.1, hc.2] at this
    simp at this
  · intro h p hp
    have := h p hp
    obtain ⟨r1, r2⟩ := hr p hp
    rw [oth_bit hs, oth_bit hs, decide_eq_true (show p.1 < n by omega), decide_eq_true r2]
    cases h1 : s.testBit p.1
    · rfl
    · cases h2 : s.testBit p.2
      · rfl
      · exact absurd ⟨h1, h2⟩ this
/-- At most twelve choices. -/
theorem kern_le {n : Nat} {P : List (Nat × Nat)} (hn : n ≤ 7) (hr : ∀ r ∈ P, r.1 < r.2 ∧ r.2 < n) : (kern n (both P)).length ≤ 12 := by
  have h := mis_le (adj := adjB P) (fun x y => by simp only [adjB]; rw [decide_eq_decide, mem_both, mem_both, or_comm])
    (fun x => by
      simp only [adjB]
      rw [decide_eq_false_iff_not, mem_both, or_self]
      intro h
      have := hr _ h
      simp at this) n (List.range n) (kern n (both P)) List.length_range hn (List.Pairwise.filter _ List.nodup_range) (fun s hs => by
      obtain ⟨h1, h2⟩ := List.mem_filter.1 hs
      have h1 := List.mem_range.1 h1
      have hk := (kern_iff hr h1).1 (by simpa using h2)
      refine ⟨fun x hx => List.mem_range.2 (bit_lt h1 hx), fun x y hx hy => ?_, fun x hx hb => ?_⟩
      · simp only [adjB]
        rw [decide_eq_false_iff_not, mem_both]
        rintro (h | h)
        · exact hk.1 _ h ⟨hx, hy⟩
        · exact hk.1 _ h ⟨hy, hx⟩
      · obtain ⟨y, y1, y2⟩ := hk.2 x (List.mem_range.1 hx) hb
        exact ⟨y, y1, by simp only [adjB]; exact decide_eq_true y2⟩)
  have : ∀ k : Fin 8, gB k.val ≤ 12 := by decide
  exact Nat.le_trans h (this ⟨n, by omega⟩)
theorem ls_or : ∀ s : Fin 128, ∀ x : Fin 7, s.val.testBit x.val = false → (lsN (s.val ||| 2 ^ x.val)).length = (lsN s.val).length + 1 := by decide +kernel
theorem full_bit {n x : Nat} (h : x < n) : (2 ^ n - 1).testBit x = true := by
  rw [Nat.testBit_two_pow_sub_one]; exact decide_eq_true h
/-- The longest choices leave the shortest lists. -/
theorem mutual_law {n : Nat} {P : List (Nat × Nat)} (hn : n ≤ 7) (hr : ∀ r ∈ P, r.1 < r.2 ∧ r.2 < n) :
    (shS n P).1.length ≤ n ∧ (∀ s ∈ kern n (both P), (lsN s).length ≤ n - (shS n P).1.length) ∧
    (∃ s ∈ kern n (both P), (lsN s).length = n - (shS n P).1.length ∧ lsN (oth n s) = (shS n P).1) ∧
    (kern n (both P)).countP (fun s => (lsN s).length == n - (shS n P).1.length) = (shS n P).2 ∧ ∀ s ∈ kern n (both P), expl P (oth n s) = true := by
  obtain ⟨i1, i2, i3⟩ := sh_inv P (List.range (2 ^ n))
  have hd : (List.range (2 ^ n)).foldl (shF P) ([], 0) = shS n P := rfl
  rw [hd] at i1 i2 i3
  have p2 : 2 ^ n ≤ 2 ^ 7 := Nat.pow_le_pow_right (by omega) hn
  have p1 : 1 ≤ 2 ^ n := Nat.one_le_two_pow
  have hfull : expl P (2 ^ n - 1) = true := by
    rw [expl, List.all_eq_true]
    intro p hp
    obtain ⟨r1, r2⟩ := hr p hp
    rw [full_bit r2, Bool.or_true]
  obtain ⟨-, hpos⟩ := i2 (2 ^ n - 1) (List.mem_range.2 (by omega)) hfull
  obtain ⟨c, hc, ce, cl⟩ := i3 hpos
  have hc := List.mem_range.1 hc
  have hcn := oth_len ⟨n, by omega⟩ ⟨c, by omega⟩ hc
  simp only at hcn
  rw [cl] at hcn
  have hcov : ∀ s, s < 2 ^ n → judE n (both P) s = 0 → expl P (oth n s) = true := fun s hs hj => (expl_oth hr hs).2 ((kern_iff hr hs).1 hj).1
  have hmax : ∀ s, s < 2 ^ n → expl P (oth n s) = true → (lsN s).length = n - (shS n P).1.length → judE n (both P) s = 0 := by
    intro s hs he hl
    have hind := (expl_oth hr hs).1 he
    refine (kern_iff hr hs).2 ⟨hind, fun x hx hb => ?_⟩
    apply Classical.byContradiction
    intro hne
    have h1 := ls_or ⟨s, by omega⟩ ⟨x, by omega⟩ hb
    simp only at h1
    have hs2 : s ||| 2 ^ x < 2 ^ n := Nat.or_lt_two_pow hs (Nat.pow_lt_pow_right (by omega) hx)
    have he2 : expl P (oth n (s ||| 2 ^ x)) = true := by
      refine (expl_oth hr hs2).2 fun p hp hc => ?_
      obtain ⟨a, b⟩ := p
      simp only [Nat.testBit_or, Nat.testBit_two_pow, Bool.or_eq_true, decide_eq_true_eq] at hc
      have hab := hr _ hp
      simp only at hab
      rcases hc with ⟨h1 | h1, h2 | h2⟩
      · exact hind _ hp ⟨h1, h2⟩
      · subst h2; exact hne ⟨a, h1, mem_both.2 (.inr hp)⟩
      · subst h1; exact hne ⟨b, h2, mem_both.2 (.inl hp)⟩
      · omega
    have h2 := i2 _ (List.mem_range.2 (oth_lt hs2)) he2
    have h3 := oth_len ⟨n, by omega⟩ ⟨s ||| 2 ^ x, by omega⟩ hs2
    simp only at h3
    omega
  have hle : ∀ s, s < 2 ^ n → judE n (both P) s = 0 → (lsN s).length ≤ n - (shS n P).1.length := by
    intro s hs hj
    have h2 := (i2 _ (List.mem_range.2 (oth_lt hs)) (hcov s hs hj)).1
    have h3 := oth_len ⟨n, by omega⟩ ⟨s, by omega⟩ hs
    simp only at h3
    omega
  have hkm : ∀ s, s ∈ kern n (both P) ↔ s < 2 ^ n ∧ judE n (both P) s = 0 := by
    intro s
    rw [kern, List.mem_filter, List.mem_range, beq_iff_eq]
  refine ⟨by omega, fun s hs => hle s ((hkm s).1 hs).1 ((hkm s).1 hs).2, ⟨oth n c, ?_, ?_, ?_⟩, ?_, fun s hs => hcov s ((hkm s).1 hs).1 ((hkm s).1 hs).2⟩
  · exact (hkm _).2 ⟨oth_lt hc, hmax _ (oth_lt hc) (by rw [oth_oth hc]; exact ce) (by omega)⟩
  · omega
  · rw [oth_oth hc, cl]
  · rw [i1, kern, List.countP_filter]
    have hrev : (List.range (2 ^ n)).countP (fun s => expl P s && (lsN s).length == (shS n P).1.length) = ((List.range (2 ^ n)).map (oth n)).countP (fun s => expl P s && (lsN s).length == (shS n P).1.length) := by
      have : (List.range (2 ^ n)).map (oth n) = (List.range (2 ^ n)).reverse := by
        apply List.ext_getElem
        · simp
        · intro i h1 h2
          simp at h1
          simp [oth]
          omega
      rw [this, List.countP_reverse]
    rw [hrev, List.countP_map]
    apply List.countP_congr
    intro s hs
    have hs := List.mem_range.1 hs
    have h3 := oth_len ⟨n, by omega⟩ ⟨s, by omega⟩ hs
    simp only at h3
    simp only [Function.comp, Bool.and_eq_true, beq_iff_eq]
    constructor
    · rintro ⟨h1, h2⟩
      exact ⟨hcov s hs h2, by omega⟩
    · rintro ⟨h1, h2⟩
      exact ⟨by omega, hmax s hs h1 (by omega)⟩
/-- What the law counts among the choices. -/
def muF (n : Nat) (l : List Nat) (st : Nat × Nat × Bool) (s : Nat) : Nat × Nat × Bool :=
  if st.1 < (lsN s).length then ((lsN s).length, 1, decide (lsN (oth n s) = l))
  else if (lsN s).length < st.1 then st
  else (st.1, st.2.1 + 1, st.2.2 || decide (lsN (oth n s) = l))
theorem mu_inv (n : Nat) (l : List Nat) (L : List Nat) :
    (∀ s ∈ L, (lsN s).length ≤ (L.foldl (muF n l) (0, 0, false)).1) ∧
    (L.foldl (muF n l) (0, 0, false)).2.1 = L.countP (fun s => (lsN s).length == (L.foldl (muF n l) (0, 0, false)).1) ∧
    (L.foldl (muF n l) (0, 0, false)).2.2 = L.any (fun s => (lsN s).length == (L.foldl (muF n l) (0, 0, false)).1 && decide (lsN (oth n s) = l)) ∧
    ((L.foldl (muF n l) (0, 0, false)).1 = 0 ∨ ∃ s ∈ L, (lsN s).length = (L.foldl (muF n l) (0, 0, false)).1) := by
  induction L using snoc_ind with
  | h0 => simp
  | h1 L a ih =>
    rw [List.foldl_append]
    simp only [List.foldl_cons, List.foldl_nil]
    generalize L.foldl (muF n l) (0, 0, false) = st at *
    obtain ⟨most, many, found⟩ := st
    obtain ⟨i1, i2, i3, i4⟩ := ih
    simp only at i1 i2 i3 i4
    rw [muF]
    simp only
    by_cases h1 : most < (lsN a).length
    · rw [if_pos h1]
      simp only
      have hno : ∀ s ∈ L, ((lsN s).length == (lsN a).length) = false := fun s hs => by
        have := i1 s hs
        rw [beq_eq_false_iff_ne]; omega
      refine ⟨fun s hs => ?_, ?_, ?_, .inr ⟨a, by simp, rfl⟩⟩
      · rcases List.mem_append.1 hs with hs | hs
        · have := i1 s hs; omega
        · simp at hs; subst hs; exact Nat.le_refl _
      · rw [List.countP_append, List.countP_eq_zero.2 fun s hs => by simp [hno s hs]]
        simp
      · rw [List.any_append, List.any_eq_false.2 fun s hs => by simp [hno s hs]]
        simp
    · rw [if_neg h1]
      by_cases h2 : (lsN a).length < most
      · rw [if_pos h2]
        simp only
        have hno : ((lsN a).length == most) = false := by rw [beq_eq_false_iff_ne]; omega
        refine ⟨fun s hs => ?_, ?_, ?_, ?_⟩
        · rcases List.mem_append.1 hs with hs | hs
          · exact i1 s hs
          · simp at hs; subst hs; omega
        · rw [List.countP_append, i2]; simp [hno]
        · rw [List.any_append, i3]; simp [hno]
        · rcases i4 with h | ⟨s, hs, h⟩
          · exact .inl h
          · exact .inr ⟨s, List.mem_append_left _ hs, h⟩
      · rw [if_neg h2]
        simp only
        have he : (lsN a).length = most := by omega
        refine ⟨fun s hs => ?_, ?_, ?_, .inr ⟨a, by simp, he⟩⟩
        · rcases List.mem_append.1 hs with hs | hs
          · exact i1 s hs
          · simp at hs; subst hs; omega
        · rw [List.countP_append, i2]; simp [he]
        · rw [List.any_append, i3]; simp [he]
theorem mu_end {n : Nat} {P : List (Nat × Nat)} (hn : n ≤ 7) (hr : ∀ r ∈ P, r.1 < r.2 ∧ r.2 < n) {Ks : List Nat} (hp : Ks.Perm (kern n (both P))) :
    Ks.foldl (muF n (shS n P).1) (0, 0, false) = (n - (shS n P).1.length, (shS n P).2, true) ∧ (shS n P).1.length ≤ n := by
  obtain ⟨m0, m1, ⟨c, c1, c2, c3⟩, m3, m4⟩ := mutual_law hn hr
  obtain ⟨i1, i2, i3, i4⟩ := mu_inv n (shS n P).1 Ks
  generalize Ks.foldl (muF n (shS n P).1) (0, 0, false) = st at *
  obtain ⟨most, many, found⟩ := st
  simp only at i1 i2 i3 i4
  have hmost : most = n - (shS n P).1.length := by
    have h1 := i1 c (hp.mem_iff.2 c1)
    rcases i4 with h | ⟨s, hs, h⟩
    · omega
    · have := m1 s (hp.mem_iff.1 hs)
      omega
  refine ⟨?_, m0⟩
  subst hmost
  have h2 : many = (shS n P).2 := by rw [i2, hp.countP_eq, m3]
  have h3 : found = true := by
    rw [i3, List.any_eq_true]
    exact ⟨c, hp.mem_iff.2 c1, by simp [c2, c3]⟩
  rw [h2, h3]
end Go.Proofs.YtmmfelpgcdlgfaaDoor

/- Years that fall, and lists of wrong sources. -/
namespace Go.Proofs.YtmmfelpgcdlgfaaDoor
set_option linter.unusedVariables false

/-- One source more. -/
def gdF (Y : List Nat) (s : Nat) (st : Bool × Int) (i : Nat) : Bool × Int := if s.testBit i then st else (st.1 && decide (((Y.getD i 0 : Nat) : Int) ≥ st.2), ((Y.getD i 0 : Nat) : Int))
/-- The others do not fall. -/
def goodN (Y : List Nat) (s : Nat) : Bool := ((List.range Y.length).foldl (gdF Y s) (true, -1)).1
theorem gd_snoc (Y : List Nat) (s i : Nat) : (List.range (i + 1)).foldl (gdF Y s) (true, -1) = gdF Y s ((List.range i).foldl (gdF Y s) (true, -1)) i := by
  rw [List.range_succ, List.foldl_append]; rfl
theorem gd_inv (Y : List Nat) (s : Nat) : ∀ i : Nat, (((List.range i).foldl (gdF Y s) (true, -1)).1 = true ↔ ∀ a b, a < b → b < i → s.testBit a = false → s.testBit b = false → Y.getD a 0 ≤ Y.getD b 0) ∧
    (((List.range i).foldl (gdF Y s) (true, -1)).1 = true → ∀ a, a < i → s.testBit a = false → ((Y.getD a 0 : Nat) : Int) ≤ ((List.range i).foldl (gdF Y s) (true, -1)).2) ∧
    (((List.range i).foldl (gdF Y s) (true, -1)).2 = -1 ∨ ∃ a, a < i ∧ s.testBit a = false ∧ ((List.range i).foldl (gdF Y s) (true, -1)).2 = ((Y.getD a 0 : Nat) : Int)) := by
  intro i
  induction i with
  | zero => simp
  | succ i ih =>
    rw [gd_snoc]
    generalize (List.range i).foldl (gdF Y s) (true, -1) = st at *
    obtain ⟨good, last⟩ := st
    obtain ⟨i1, i2, i3⟩ := ih
    simp only at i1 i2 i3
    rw [gdF]
    cases hb : s.testBit i
    · simp only [Bool.false_eq_true, if_false, Bool.and_eq_true, decide_eq_true_eq]
      refine ⟨?_, ?_, .inr ⟨i, by omega, hb, rfl⟩⟩
      · constructor
        · rintro ⟨hg, hl⟩ a b hab hbi ha hbb
          by_cases he : b = i
          · subst he
            have := i2 hg a hab ha
            omega
          · exact i1.1 hg a b hab (by omega) ha hbb
        · intro h
          have hg : good = true := i1.2 fun a b hab hbi => h a b hab (by omega)
          refine ⟨hg, ?_⟩
          rcases i3 with h3 | ⟨a, ha, hba, h3⟩
          · omega
          · have := h a i ha (by omega) hba hb
            omega
      · rintro ⟨hg, hl⟩ a ha hba
        by_cases he : a = i
        · subst he; exact Int.le_refl _
        · have := i2 hg a (by omega) hba
          omega
    · simp only [if_true]
      refine ⟨?_, ?_, ?_⟩
      · rw [i1]
        constructor
        · intro h a b hab hbi ha hbb
          by_cases he : b = i
          · subst he; rw [hb] at hbb; cases hbb
          · exact h a b hab (by omega) ha hbb
        · intro h a b hab hbi ha hbb
          exact h a b hab (by omega) ha hbb
      · intro hg a ha hba
        by_cases he : a = i
        · subst he; rw [hb] at hba; cases hba
        · exact i2 hg a (by omega) hba
      · rcases i3 with h3 | ⟨a, ha, hba, h3⟩
        · exact .inl h3
        · exact .inr ⟨a, by omega, hba, h3⟩
def faF (Y : List Nat) (i k : Nat) : Option (Nat × Nat) := if Y.getD (i + 1 + k) 0 < Y.getD i 0 then some (i, i + 1 + k) else none
def faP (Y : List Nat) (i : Nat) : List (Nat × Nat) := (List.range (Y.length - (i + 1))).filterMap (faF Y i)
/-- The pairs that fall. -/
def falls (Y : List Nat) : List (Nat × Nat) := (List.range Y.length).flatMap (faP Y)
theorem mem_faP {Y : List Nat} {i : Nat} {r : Nat × Nat} : r ∈ faP Y i ↔ r.1 = i ∧ i < r.2 ∧ r.2 < Y.length ∧ Y.getD r.2 0 < Y.getD i 0 := by
  unfold faP faF
  rw [List.mem_filterMap]
  constructor
  · rintro ⟨k, hk, he⟩
    have hk := List.mem_range.1 hk
    split at he <;> cases he
    exact ⟨rfl, by simp only; omega, by simp only; omega, by assumption⟩
  · rintro ⟨h1, h2, h3, h4⟩
    obtain ⟨a, b⟩ := r
    simp only at h1 h2 h3 h4
    subst h1
    refine ⟨b - (a + 1), List.mem_range.2 (by omega), ?_⟩
    have e : a + 1 + (b - (a + 1)) = b := by omega
    rw [e, if_pos h4]
theorem mem_falls {Y : List Nat} {r : Nat × Nat} : r ∈ falls Y ↔ r.1 < r.2 ∧ r.2 < Y.length ∧ Y.getD r.2 0 < Y.getD r.1 0 := by
  unfold falls
  rw [List.mem_flatMap]
  constructor
  · rintro ⟨i, hi, h⟩
    obtain ⟨h1, h2, h3, h4⟩ := mem_faP.1 h
    subst h1
    exact ⟨h2, h3, h4⟩
  · rintro ⟨h1, h2, h3⟩
    exact ⟨r.1, List.mem_range.2 (by omega), mem_faP.2 ⟨rfl, h1, h2, h3⟩⟩
theorem falls_nd (Y : List Nat) : (falls Y).Pairwise (· ≠ ·) := by
  unfold falls
  rw [List.pairwise_flatMap]
  refine ⟨fun i _ => ?_, ?_⟩
  · unfold faP
    rw [List.pairwise_filterMap]
    refine List.Pairwise.imp ?_ (List.nodup_range (n := Y.length - (i + 1)))
    intro a b hab x hx y hy he
    unfold faF at hx hy
    split at hx <;> cases hx
    split at hy <;> cases hy
    simp at he
    omega
  · refine List.Pairwise.imp ?_ (List.nodup_range (n := Y.length))
    intro a b hab x hx y hy he
    have h1 := (mem_faP.1 hx).1
    have h2 := (mem_faP.1 hy).1
    subst he
    omega
theorem faP_len (Y : List Nat) (i : Nat) : (faP Y i).length ≤ Y.length - (i + 1) := by
  have := List.length_filterMap_le (faF Y i) (List.range (Y.length - (i + 1)))
  rw [List.length_range] at this
  exact this
theorem falls_ten {Y : List Nat} (h : Y.length ≤ 5) : ∀ i, i ≤ Y.length → 2 * ((List.range i).flatMap (faP Y)).length + (Y.length - i) * (Y.length - i - 1) ≤ Y.length * (Y.length - 1) := by
  intro i
  induction i with
  | zero => intro _; simp
  | succ i ih =>
    intro hi
    have := ih (by omega)
    have h2 := faP_len Y i
    rw [List.range_succ, List.flatMap_append, List.length_append]
    have h3 : ([i].flatMap (faP Y)).length = (faP Y i).length := by simp
    rw [h3]
    obtain ⟨d, hd⟩ : ∃ d, Y.length - i = d + 1 := ⟨Y.length - i - 1, by omega⟩
    have hd2 : Y.length - (i + 1) = d := by omega
    rw [hd] at this
    rw [hd2] at h2 ⊢
    have e : (d + 1) * (d + 1 - 1) = d * (d - 1) + 2 * d := by
      cases d with
      | zero => rfl
      | succ d =>
        simp only [Nat.add_sub_cancel]
        rw [Nat.add_mul, Nat.add_mul, Nat.mul_comm d (d + 1), Nat.add_mul]
        omega
    omega
theorem falls_fd {Y : List Nat} (h1 : 1 ≤ Y.length) (h5 : Y.length ≤ 5) : Fd Y.length (falls Y) := by
  refine ⟨h1, by omega, fun r hr => ?_, falls_nd Y, ?_⟩
  · have := mem_falls.1 hr; omega
  · have := falls_ten h5 Y.length (Nat.le_refl _)
    simp only [Nat.sub_self, Nat.zero_mul, Nat.add_zero] at this
    have h20 : Y.length * (Y.length - 1) ≤ 5 * 4 := Nat.mul_le_mul h5 (by omega)
    unfold falls
    omega
theorem good_expl {Y : List Nat} {s : Nat} : goodN Y s = expl (falls Y) s := by
  rw [Bool.eq_iff_iff]
  unfold goodN
  rw [(gd_inv Y s Y.length).1, expl, List.all_eq_true]
  constructor
  · intro h r hr
    obtain ⟨r1, r2, r3⟩ := mem_falls.1 hr
    cases ha : s.testBit r.1
    · cases hb : s.testBit r.2
      · have := h r.1 r.2 r1 r2 ha hb
        omega
      · rfl
    · rfl
  · intro h a b hab hb ha hbb
    apply Nat.le_of_not_lt
    intro hlt
    have := h (a, b) (mem_falls.2 ⟨hab, hb, hlt⟩)
    simp only [ha, hbb] at this
    cases this
/-- No two years one after the other fall just if none do. -/
theorem falls_nil {Y : List Nat} : falls Y = [] ↔ ∀ i, i + 1 < Y.length → Y.getD i 0 ≤ Y.getD (i + 1) 0 := by
  constructor
  · intro h i hi
    apply Nat.le_of_not_lt
    intro hlt
    have := mem_falls.2 (show (i, i + 1).1 < (i, i + 1).2 ∧ (i, i + 1).2 < Y.length ∧ Y.getD (i, i + 1).2 0 < Y.getD (i, i + 1).1 0 from ⟨by simp, hi, hlt⟩)
    rw [h] at this; cases this
  · intro h
    have hm : ∀ d a, a + d < Y.length → Y.getD a 0 ≤ Y.getD (a + d) 0 := by
      intro d
      induction d with
      | zero => intro a _; exact Nat.le_refl _
      | succ d ih =>
        intro a ha
        exact Nat.le_trans (ih a (by omega)) (h (a + d) (by omega))
    cases hc : falls Y with
    | nil => rfl
    | cons r l =>
      obtain ⟨r1, r2, r3⟩ := mem_falls.1 (show r ∈ falls Y by rw [hc]; simp)
      have := hm (r.2 - r.1) r.1 (by omega)
      rw [show r.1 + (r.2 - r.1) = r.2 by omega] at this
      omega
end Go.Proofs.YtmmfelpgcdlgfaaDoor

namespace Go.Proofs.YtmmfelpgcdlgfaaDoor
open Go.Av
set_option linter.unusedVariables false
set_option linter.unusedSimpArgs false
set_option maxRecDepth 8000

/- How many bits a number has. -/
def po1 (s : Nat) : Nat := (s / 2 ^ 1 &&& 6148914691236517205) + (s &&& 6148914691236517205)
def po2 (s : Nat) : Nat := (s / 2 ^ 2 &&& 3689348814741910323) + (s &&& 3689348814741910323)
def po3 (s : Nat) : Nat := (s / 2 ^ 4 + s) &&& 1085102592571150095
def po4 (s : Nat) : Nat := s + s / 2 ^ 8
def po5 (s : Nat) : Nat := s + s / 2 ^ 16
def po6 (s : Nat) : Nat := s + s / 2 ^ 32
theorem po_ok : ∀ s : Fin 128, po1 s.val < 1000 ∧ po2 (po1 s.val) < 1000 ∧ po3 (po2 (po1 s.val)) < 1000 ∧ po4 (po3 (po2 (po1 s.val))) < 1000 ∧ po5 (po4 (po3 (po2 (po1 s.val)))) < 1000 ∧
    po6 (po5 (po4 (po3 (po2 (po1 s.val))))) = (lsN s.val).length := by decide +kernel
theorem and_u64 {t : TypeId} {a b : Nat} (ha : a < 1000000) (hb : b < 2 ^ 64) : binF Tryd.prog .and t (.int .u64 (a : Int)) (.int .u64 (b : Int)) = some (.int .u64 ((a &&& b : Nat) : Int)) :=
  u64_and (by omega) hb
theorem shr_u64 {t : TypeId} {a k : Nat} (hk : k < 64) : binF Tryd.prog .shr t (.int .u64 (a : Int)) (.int .u64 (k : Int)) = some (.int .u64 ((a / 2 ^ k : Nat) : Int)) := by
  have e : min (k : Int).toNat 64 = k := by omega
  show (if (k : Int) < 0 then none else some (AV.int .u64 ((a : Int).fdiv (2 ^ min (k : Int).toNat 64)))) = _
  rw [if_neg (by omega), e]
  have : ((2 : Int) ^ k) = ((2 ^ k : Nat) : Int) := by simp
  rw [this, Int.ofNat_fdiv]
theorem add_u64 {t : TypeId} {a b : Nat} (h : a + b < 1000000) : binF Tryd.prog .add t (.int .u64 (a : Int)) (.int .u64 (b : Int)) = some (.int .u64 ((a + b : Nat) : Int)) := by
  show (if IntKind.u64 = IntKind.u64 then some (AV.int .u64 (IntKind.u64.wrap ((a : Int) + (b : Int)))) else none) = _
  rw [if_pos rfl, wrap_u64 (by omega) (by omega)]
  rfl
theorem and_le_l (a b : Nat) : a &&& b ≤ a := Nat.and_le_left
theorem conv141 {n : Int} (h : 0 ≤ n ∧ n < 256) : convF Tryd.prog 141 3 (.int .u64 n) = some (.int .i64 n) := by
  have h1 : (Tryd.prog.underlying 141).isSome = true := by kernel_rfl
  have h2 : Tryd.prog.underlying 3 = some (.int .i64) := by kernel_rfl
  obtain ⟨d, h1⟩ := Option.isSome_iff_exists.1 h1
  simp only [convF, h1, h2]
  rw [wrap_i64 (by omega) (by omega)]
theorem and127 : ∀ n : Fin 8, IntKind.i64.wrap ((BitVec.ofInt 64 (n.val : Int) &&& BitVec.ofInt 64 127).toNat) = (n.val : Int) := by decide +kernel
/-- bits.OnesCount -/
theorem c99 {s : Nat} {H : Heap} {K : AV → Heap → Prop} (h : s < 128) (hk : K (.int .i64 ((lsN s).length : Nat)) H) : ACalls Tryd.prog 99 [.int .u64 (s : Int)] H K := by
  apply W99_ok
  unfold W99
  simp only [letO_some, condA_ff]
  apply W110_ok
  unfold W110
  obtain ⟨p1, p2, p3, p4, p5, p6⟩ := po_ok ⟨s, h⟩
  simp only at p1 p2 p3 p4 p5 p6
  have hl7 := ls_len s
  have m0 : (6148914691236517205 : Nat) < 2 ^ 64 := by decide
  have m1 : (3689348814741910323 : Nat) < 2 ^ 64 := by decide
  have m2 : (1085102592571150095 : Nat) < 2 ^ 64 := by decide
  have d1 : ∀ a k : Nat, a / 2 ^ k ≤ a := fun a k => Nat.div_le_self _ _
  have a1 := fun t => shr_u64 (t := t) (a := s) (k := 1) (by omega)
  have a2 := fun t => and_u64 (t := t) (a := s / 2 ^ 1) (b := 6148914691236517205) (by have := d1 s 1; omega) m0
  have a3 := fun t => and_u64 (t := t) (a := s) (b := 6148914691236517205) (by omega) m0
  have a4 := fun t => add_u64 (t := t) (a := s / 2 ^ 1 &&& 6148914691236517205) (b := s &&& 6148914691236517205) (by have : po1 s < 1000 := p1; unfold po1 at this; omega)
  have f1 : (s / 2 ^ 1 &&& 6148914691236517205) + (s &&& 6148914691236517205) = po1 s := rfl
  rw [f1] at a4
  simp only [letO_some, Int.cast_ofNat_Int, Int.natCast_one] at a1 a2 a3 a4 ⊢
  simp only [a1, a2, a3, a4, letO_some]
  generalize po1 s = x1 at *
  have b1 := fun t => shr_u64 (t := t) (a := x1) (k := 2) (by omega)
  have b2 := fun t => and_u64 (t := t) (a := x1 / 2 ^ 2) (b := 3689348814741910323) (by have := d1 x1 2; omega) m1
  have b3 := fun t => and_u64 (t := t) (a := x1) (b := 3689348814741910323) (by omega) m1
  have b4 := fun t => add_u64 (t := t) (a := x1 / 2 ^ 2 &&& 3689348814741910323) (b := x1 &&& 3689348814741910323) (by have : po2 x1 < 1000 := p2; unfold po2 at this; omega)
  have f2 : (x1 / 2 ^ 2 &&& 3689348814741910323) + (x1 &&& 3689348814741910323) = po2 x1 := rfl
  rw [f2] at b4
  simp only [Int.cast_ofNat_Int] at b1 b2 b3 b4
  simp only [b1, b2, b3, b4, letO_some]
  generalize po2 x1 = x2 at *
  have c1 := fun t => shr_u64 (t := t) (a := x2) (k := 4) (by omega)
  have c2 := fun t => add_u64 (t := t) (a := x2 / 2 ^ 4) (b := x2) (by have := d1 x2 4; omega)
  have c3 := fun t => and_u64 (t := t) (a := x2 / 2 ^ 4 + x2) (b := 1085102592571150095) (by have := d1 x2 4; omega) m2
  have f3 : (x2 / 2 ^ 4 + x2) &&& 1085102592571150095 = po3 x2 := rfl
  rw [f3] at c3
  simp only [Int.cast_ofNat_Int] at c1 c2 c3
  simp only [c1, c2, c3, letO_some]
  generalize po3 x2 = x3 at *
  have e1 := fun t => shr_u64 (t := t) (a := x3) (k := 8) (by omega)
  have e2 := fun t => add_u64 (t := t) (a := x3) (b := x3 / 2 ^ 8) (by have := d1 x3 8; omega)
  have f4 : x3 + x3 / 2 ^ 8 = po4 x3 := rfl
  rw [f4] at e2
  simp only [Int.cast_ofNat_Int] at e1 e2
  simp only [e1, e2, letO_some]
  generalize po4 x3 = x4 at *
  have g1 := fun t => shr_u64 (t := t) (a := x4) (k := 16) (by omega)
  have g2 := fun t => add_u64 (t := t) (a := x4) (b := x4 / 2 ^ 16) (by have := d1 x4 16; omega)
  have f5 : x4 + x4 / 2 ^ 16 = po5 x4 := rfl
  rw [f5] at g2
  simp only [Int.cast_ofNat_Int] at g1 g2
  simp only [g1, g2, letO_some]
  generalize po5 x4 = x5 at *
  have i1 := fun t => shr_u64 (t := t) (a := x5) (k := 32) (by omega)
  have i2 := fun t => add_u64 (t := t) (a := x5) (b := x5 / 2 ^ 32) (by have := d1 x5 32; omega)
  have f6 : x5 + x5 / 2 ^ 32 = (lsN s).length := p6
  rw [f6] at i2
  simp only [Int.cast_ofNat_Int] at i1 i2
  have hlast : ∀ t, binF Tryd.prog .and t (.int .i64 ((lsN s).length : Int)) (.int .i64 127) = some (.int .i64 ((lsN s).length : Int)) := by
    intro t
    show (if IntKind.i64 = IntKind.i64 then some (AV.int .i64 (IntKind.i64.wrap ((BitVec.ofInt 64 ((lsN s).length : Int) &&& BitVec.ofInt 64 127).toNat))) else none) = _
    rw [if_pos rfl, and127 ⟨(lsN s).length, by omega⟩]
  simp only [i1, i2, letO_some, conv141 (n := ((lsN s).length : Int)) (by omega), hlast]
  exact endK_ret (endK_ret hk)
/-- A page stands not, and there is no room. -/
def fullB (s p room : Nat) : Bool := !s.testBit p && decide (room ≤ (lsN s).length)
theorem c71 {s p room : Nat} {H : Heap} {K : AV → Heap → Prop} (h : s < 128) (hp : p < 64) (hk : K (.bool (fullB s p room)) H) : ACalls Tryd.prog 71 [.agg [.int .u64 (s : Int)], .int .i64 (p : Int), .int .i64 (room : Int)] H K := by
  apply W71_ok
  unfold W71
  have f0 : faddr 0 (.iptr [.int .u64 (s : Int)]) = some (.iptr [.int .u64 (s : Int)]) := rfl
  have g0 : load1 (.iptr [.int .u64 (s : Int)]) H = some (.int .u64 (s : Int)) := rfl
  have hc : cellsOf? (.agg [.int .u64 (s : Int)]) = some [.int .u64 (s : Int)] := rfl
  have hone : ∀ t k, binF Tryd.prog .and t (.int .u64 ((s / 2 ^ k : Nat) : Int)) (.int .u64 1) = some (.int .u64 ((s / 2 ^ k &&& 1 : Nat) : Int)) := fun t k => u64_and (t := t) (b := 1) (by have := Nat.div_le_self s (2 ^ k); omega) (by decide)
  simp only [letO_some, hc, f0, g0, u64_shr hp, hone, binF_eql, u64_bit0]
  unfold fullB at hk
  cases hb : s.testBit p
  · rw [hb] at hk
    have e : (!false) = true := rfl
    simp only [e, gval_bool, Int.reduceBNe, Int.reduceBEq, pickF_true, pickF_false, reduceIte, Bool.true_eq_false, Bool.false_eq_true, if_false, condA_tt, condA_ff, condG_tt, condG_ff, condG_tt', condG_ff', condG_undef, gval_undef, f0, g0, letO_some]
    refine exJ (c99 h ?_)
    simp only [letO_some, gval_bool, Int.reduceBNe, Int.reduceBEq, pickF_true, pickF_false, reduceIte, Bool.true_eq_false, Bool.false_eq_true, if_false, condA_tt, condA_ff, condG_tt, condG_ff, condG_tt', condG_ff', condG_undef, gval_undef, binF_geq]
    have : decide (((lsN s).length : Int) ≥ (room : Int)) = decide (room ≤ (lsN s).length) := by rw [decide_eq_decide]; omega
    rw [this]
    refine endK_ret ?_
    simpa using hk
  · rw [hb] at hk
    have e : (!true) = false := rfl
    simp only [e, gval_bool, Int.reduceBNe, Int.reduceBEq, pickF_true, pickF_false, reduceIte, Bool.true_eq_false, Bool.false_eq_true, if_false, condA_tt, condA_ff, condG_tt, condG_ff, condG_tt', condG_ff', condG_undef, gval_undef, letO_some]
    refine exU ?_
    try simp only [letO_some, gval_bool, Int.reduceBNe, Int.reduceBEq, pickF_true, pickF_false, reduceIte, Bool.true_eq_false, Bool.false_eq_true, if_false, condA_tt, condA_ff, condG_tt, condG_ff, condG_tt', condG_ff', condG_undef, gval_undef]
    exact endK_ret hk
/-- A set without a number; with one. -/
def clrN (s g : Nat) : Nat := if s.testBit g then s - 2 ^ g else s
theorem clr_ok : ∀ s : Fin 64, ∀ g : Fin 6, IntKind.u64.wrap ((BitVec.ofInt 64 (s.val : Int) &&& ~~~BitVec.ofInt 64 ((2 ^ g.val : Nat) : Int)).toNat) = ((clrN s.val g.val : Nat) : Int) ∧ clrN s.val g.val < 64 := by decide +kernel
theorem with_ok : ∀ s : Fin 64, ∀ p : Fin 6, s.val ||| 2 ^ p.val < 64 := by decide +kernel
/-- floor.with, none gone -/
theorem c72n {s p : Nat} {H : Heap} {K : AV → Heap → Prop} (h : s < 64) (hp : p < 6) (hk : K (.agg [.int .u64 ((s ||| 2 ^ p : Nat) : Int)]) H) : ACalls Tryd.prog 72 [.agg [.int .u64 (s : Int)], .int .i64 (p : Int), .int .i64 (-1)] H K := by
  apply W72_ok
  unfold W72
  have hc : cellsOf? (.agg [.int .u64 (s : Int)]) = some [.int .u64 (s : Int)] := rfl
  have p2 : 2 ^ p < 2 ^ 63 := Nat.pow_lt_pow_right (by omega) (by omega)
  have p63 : (2 : Nat) ^ 63 = 9223372036854775808 := by decide
  simp only [letO_some, hc]
  refine alloc_ fun b3 hb3 => ?_
  have hle3 := Heap.le_new (c := [.int .u64 (s : Int)]) hb3
  have h3 : (H.put b3 [.int .u64 (s : Int)]) b3 = some [.int .u64 (s : Int)] := Heap.put_same
  generalize hH3 : H.put b3 [.int .u64 (s : Int)] = H3 at *
  refine alloc_ fun b6 hb6 => ?_
  have hle6 := Heap.le_new (c := [.int .u64 0]) hb6
  have h36 := hle6 _ _ h3
  have h6 : (H3.put b6 [.int .u64 0]) b6 = some [.int .u64 0] := Heap.put_same
  have hne : b3 ≠ b6 := by rintro rfl; rw [h3] at hb6; cases hb6
  have hb6H := none_of_le hle3 hb6
  generalize H3.put b6 [.int .u64 0] = H6 at *
  have hleH := Heap.le_trans hle3 hle6
  have e1 : decide ((-1 : Int) ≥ 0) = false := by decide
  simp only [true_and, letO_some, binF_geq, e1, condA_ff]
  refine ⟨fun L H' => eqt L [] ∧ eqt H' H6, ⟨rfl, rfl⟩, ?_⟩
  rintro L H' ⟨rfl, rfl⟩
  have f0 : faddr 0 (.ptr b3 0) = some (.ptr b3 0) := rfl
  have g0 : load1 (.ptr b3 0) H' = some (.int .u64 (s : Int)) := load1_at h36 rfl
  simp only [letO_some, f0, g0, u64_shl (show p < 8 by omega), u64_or (a := s) (b := 2 ^ p) (by omega) p2]
  refine storeA_of (cs := [.int .u64 ((s ||| 2 ^ p : Nat) : Int)]) h36 rfl rfl rfl (by simp) ?_
  have hsp : splice [.int .u64 (s : Int)] 0 [.int .u64 ((s ||| 2 ^ p : Nat) : Int)] = [.int .u64 ((s ||| 2 ^ p : Nat) : Int)] := rfl
  rw [hsp]
  have l1 : loadN 1 (.ptr b3 0) (H'.put b3 [.int .u64 ((s ||| 2 ^ p : Nat) : Int)]) = some (.agg [.int .u64 ((s ||| 2 ^ p : Nat) : Int)]) := loadN_at (cells := [.int .u64 ((s ||| 2 ^ p : Nat) : Int)]) Heap.put_same
  simp only [l1, letO_some]
  refine storeA_of (cs := [.int .u64 ((s ||| 2 ^ p : Nat) : Int)]) (cells := [.int .u64 0]) (by rw [Heap.put_ne (Ne.symm hne)]; exact h6) rfl rfl rfl (by simp) ?_
  have hsp : splice [.int .u64 0] 0 [.int .u64 ((s ||| 2 ^ p : Nat) : Int)] = [.int .u64 ((s ||| 2 ^ p : Nat) : Int)] := rfl
  rw [hsp]
  have l1 : loadN 1 (.ptr b6 0) ((H'.put b3 [.int .u64 ((s ||| 2 ^ p : Nat) : Int)]).put b6 [.int .u64 ((s ||| 2 ^ p : Nat) : Int)]) = some (.agg [.int .u64 ((s ||| 2 ^ p : Nat) : Int)]) := loadN_at (cells := [.int .u64 ((s ||| 2 ^ p : Nat) : Int)]) Heap.put_same
  simp only [l1, letO_some]
  exact endK_pub (Pub.drop (Heap.le_put (Heap.le_put hleH hb3) hb6H)) (endK_ret hk)
/-- floor.with, a page gone -/
theorem c72 {s p g : Nat} {H : Heap} {K : AV → Heap → Prop} (h : s < 64) (hp : p < 6) (hg : g < 6) (hk : K (.agg [.int .u64 ((clrN s g ||| 2 ^ p : Nat) : Int)]) H) : ACalls Tryd.prog 72 [.agg [.int .u64 (s : Int)], .int .i64 (p : Int), .int .i64 (g : Int)] H K := by
  apply W72_ok
  unfold W72
  have hc : cellsOf? (.agg [.int .u64 (s : Int)]) = some [.int .u64 (s : Int)] := rfl
  have p2 : 2 ^ p < 2 ^ 63 := Nat.pow_lt_pow_right (by omega) (by omega)
  have p63 : (2 : Nat) ^ 63 = 9223372036854775808 := by decide
  obtain ⟨k1, k2⟩ := clr_ok ⟨s, h⟩ ⟨g, hg⟩
  simp only at k1 k2
  have hand : ∀ t, binF Tryd.prog .andNot t (.int .u64 (s : Int)) (.int .u64 ((2 ^ g : Nat) : Int)) = some (.int .u64 ((clrN s g : Nat) : Int)) := by
    intro t
    show (if IntKind.u64 = IntKind.u64 then some (AV.int .u64 (IntKind.u64.wrap ((BitVec.ofInt 64 (s : Int) &&& ~~~BitVec.ofInt 64 ((2 ^ g : Nat) : Int)).toNat))) else none) = _
    rw [if_pos rfl, k1]
  simp only [letO_some, hc]
  refine alloc_ fun b3 hb3 => ?_
  have hle3 := Heap.le_new (c := [.int .u64 (s : Int)]) hb3
  have h3 : (H.put b3 [.int .u64 (s : Int)]) b3 = some [.int .u64 (s : Int)] := Heap.put_same
  generalize hH3 : H.put b3 [.int .u64 (s : Int)] = H3 at *
  refine alloc_ fun b6 hb6 => ?_
  have hle6 := Heap.le_new (c := [.int .u64 0]) hb6
  have h36 := hle6 _ _ h3
  have h6 : (H3.put b6 [.int .u64 0]) b6 = some [.int .u64 0] := Heap.put_same
  have hne : b3 ≠ b6 := by rintro rfl; rw [h3] at hb6; cases hb6
  have hb6H := none_of_le hle3 hb6
  generalize H3.put b6 [.int .u64 0] = H6 at *
  have hleH := Heap.le_trans hle3 hle6
  have e1 : decide ((g : Int) ≥ 0) = true := decide_eq_true (by omega)
  have f0 : faddr 0 (.ptr b3 0) = some (.ptr b3 0) := rfl
  have g0 : load1 (.ptr b3 0) H6 = some (.int .u64 (s : Int)) := load1_at h36 rfl
  simp only [true_and, letO_some, binF_geq, e1, condA_tt, f0, g0, u64_shl (show g < 8 by omega), hand]
  refine ⟨fun L H' => eqt L [] ∧ eqt H' (H6.put b3 [.int .u64 ((clrN s g : Nat) : Int)]), ?_, ?_⟩
  · refine storeA_of (cs := [.int .u64 ((clrN s g : Nat) : Int)]) h36 rfl rfl rfl (by simp) ?_
    exact ⟨rfl, rfl⟩
  rintro L H' ⟨rfl, rfl⟩
  have g1 : load1 (.ptr b3 0) (H6.put b3 [.int .u64 ((clrN s g : Nat) : Int)]) = some (.int .u64 ((clrN s g : Nat) : Int)) := load1_at Heap.put_same rfl
  simp only [letO_some, f0, g1, u64_shl (show p < 8 by omega), u64_or (a := clrN s g) (b := 2 ^ p) (by omega) p2]
  refine storeA_of (cs := [.int .u64 ((clrN s g ||| 2 ^ p : Nat) : Int)]) (cells := [.int .u64 ((clrN s g : Nat) : Int)]) Heap.put_same rfl rfl rfl (by simp) ?_
  have hsp : splice [.int .u64 ((clrN s g : Nat) : Int)] 0 [.int .u64 ((clrN s g ||| 2 ^ p : Nat) : Int)] = [.int .u64 ((clrN s g ||| 2 ^ p : Nat) : Int)] := rfl
  rw [hsp, Heap.put_put]
  have l1 : loadN 1 (.ptr b3 0) (H6.put b3 [.int .u64 ((clrN s g ||| 2 ^ p : Nat) : Int)]) = some (.agg [.int .u64 ((clrN s g ||| 2 ^ p : Nat) : Int)]) := loadN_at (cells := [.int .u64 ((clrN s g ||| 2 ^ p : Nat) : Int)]) Heap.put_same
  simp only [l1, letO_some]
  refine storeA_of (cs := [.int .u64 ((clrN s g ||| 2 ^ p : Nat) : Int)]) (cells := [.int .u64 0]) (by rw [Heap.put_ne (Ne.symm hne)]; exact h6) rfl rfl rfl (by simp) ?_
  have hsp : splice [.int .u64 0] 0 [.int .u64 ((clrN s g ||| 2 ^ p : Nat) : Int)] = [.int .u64 ((clrN s g ||| 2 ^ p : Nat) : Int)] := rfl
  rw [hsp]
  have l1 : loadN 1 (.ptr b6 0) ((H6.put b3 [.int .u64 ((clrN s g ||| 2 ^ p : Nat) : Int)]).put b6 [.int .u64 ((clrN s g ||| 2 ^ p : Nat) : Int)]) = some (.agg [.int .u64 ((clrN s g ||| 2 ^ p : Nat) : Int)]) := loadN_at (cells := [.int .u64 ((clrN s g ||| 2 ^ p : Nat) : Int)]) Heap.put_same
  simp only [l1, letO_some]
  exact endK_pub (Pub.drop (Heap.le_put (Heap.le_put hleH hb3) hb6H)) (endK_ret hk)
/-- stand.list -/
theorem c73 {s : Nat} {H : Heap} {K : AV → Heap → Prop} (h : s < 128) (hk : K (sl (up (lsN s))) H) : ACalls Tryd.prog 73 [.int .u64 (s : Int)] H K := by
  apply W73_ok
  unfold W73
  try simp only [letO_some, cellsOf?_agg, cellsOf?_int, cellsOf?_bool, cellsOf?_imm, cellsOf?_ref, cellsOf?_nils, faddr_iptr, faddr_ptr, List.drop_succ_cons, List.drop_zero, List.take_succ_cons, List.take_zero, load1_iptr, loadN_iptr, List.length_cons, List.length_nil, Nat.le_refl, if_true, List.getElem?_cons_zero, List.getElem?_cons_succ, List.getD_cons_zero, List.getD_cons_succ, extrF_tup, binF_add, binF_sub, binF_mul, binF_eql, binF_neq, binF_lss, binF_leq, binF_gtr, binF_geq, true_and]
  refine ⟨fun L H' => ∃ (s' : Nat) (done : List Nat) (X : AV), eqt L [X, .int .u64 (s' : Int)] ∧ s' < 128 ∧ Grow 1 H H' X done.length (ints (up done)) ∧ done ++ lsN s' = lsN s, fun L _ => (iv L 1).toNat, ⟨s, [], .nils, rfl, h, Grow.nils 1 H, rfl⟩, ?_⟩
  rintro L H' ⟨s', done, X, rfl, hs', hg, hd⟩
  try simp only [letO_some, cellsOf?_agg, cellsOf?_int, cellsOf?_bool, cellsOf?_imm, cellsOf?_ref, cellsOf?_nils, faddr_iptr, faddr_ptr, List.drop_succ_cons, List.drop_zero, List.take_succ_cons, List.take_zero, load1_iptr, loadN_iptr, List.length_cons, List.length_nil, Nat.le_refl, if_true, List.getElem?_cons_zero, List.getElem?_cons_succ, List.getD_cons_zero, List.getD_cons_succ, extrF_tup, binF_add, binF_sub, binF_mul, binF_eql, binF_neq, binF_lss, binF_leq, binF_gtr, binF_geq, true_and]
  by_cases h0 : s' = 0
  · subst h0
    have e : (((0 : Nat) : Int) != 0) = false := rfl
    simp only [e, condA_ff]
    have hl0 : lsN 0 = [] := by decide
    rw [hl0, List.append_nil] at hd
    subst hd
    refine hg.end1 ?_
    simpa [sl] using hk
  · have e : ((s' : Int) != 0) = true := by rw [bne_iff_ne]; omega
    simp only [e, condA_tt]
    obtain ⟨l1, l2⟩ := ls_step ⟨s', hs'⟩ h0
    simp only at l1 l2
    have hdl : done.length ≤ 7 := by
      have := ls_len s
      rw [← hd, List.length_append] at this; omega
    refine c48 hs' h0 ?_
    simp only [l35 cellsOf?_int, letO_some]
    refine appendA_one hg (by omega) fun v' H7 hg7 => ?_
    have hsub : IntKind.u64.wrap ((s' : Int) - 1) = ((s' - 1 : Nat) : Int) := by rw [wrap_u64 (by omega) (by omega)]; omega
    have p64 : (2 : Nat) ^ 64 = 18446744073709551616 := by decide
    simp only [letO_some, binF_sub, hsub, u64_and (a := s') (b := s' - 1) (by omega) (by omega)]
    refine ⟨⟨s' &&& (s' - 1), done ++ [tzN s'], v', rfl, by omega, ?_, ?_⟩, by simp [iv]; omega⟩
    · have : up (done ++ [tzN s']) = up done ++ [((tzN s' : Nat) : Int)] := by simp [up]
      rw [this]; simpa using hg7
    · rw [← hd, l1]; simp
/-- stand.Check -/
theorem c43 {room : Nat} {pv : AV} {pg : List Nat} {H : Heap} {K : AV → Heap → Prop} (h1 : 1 ≤ room) (h5 : room ≤ 5) (hv : Reads H pv (up pg)) (hl : pg.length ≤ 12) (hp : ∀ p ∈ pg, p < 6) (hk : K (.int .i64 0) H) :
    ACalls Tryd.prog 43 [.agg [.int .i64 (room : Int), pv]] H K := by
  apply W43_ok
  unfold W43
  have hc := hv.cells
  have hlen := hv.len
  rw [up_length] at hlen
  have e1 : decide ((room : Int) < 1) = false := decide_eq_false (by omega)
  have e2 : decide ((5 : Int) < (room : Int)) = false := decide_eq_false (by omega)
  have e3 : decide ((12 : Int) < (pg.length : Int)) = false := decide_eq_false (by omega)
  simp only [letO_some, cellsOf?_agg, cellsOf?_int, cellsOf?_bool, cellsOf?_imm, cellsOf?_ref, cellsOf?_nils, faddr_iptr, faddr_ptr, List.drop_succ_cons, List.drop_zero, List.take_succ_cons, List.take_zero, load1_iptr, loadN_iptr, List.length_cons, List.length_nil, Nat.le_refl, if_true, List.getElem?_cons_zero, List.getElem?_cons_succ, List.getD_cons_zero, List.getD_cons_succ, extrF_tup, binF_add, binF_sub, binF_mul, binF_eql, binF_neq, binF_lss, binF_leq, binF_gtr, binF_geq, true_and, e1, e2, gval_bool, Int.reduceBNe, Int.reduceBEq, pickF_true, pickF_false, reduceIte, Bool.true_eq_false, Bool.false_eq_true, if_false, condA_tt, condA_ff, condG_tt, condG_ff, condG_tt', condG_ff', condG_undef, gval_undef, hlen, e3, condA_ff]
  apply W69_ok
  unfold W69
  try simp only [letO_some, cellsOf?_agg, cellsOf?_int, cellsOf?_bool, cellsOf?_imm, cellsOf?_ref, cellsOf?_nils, faddr_iptr, faddr_ptr, List.drop_succ_cons, List.drop_zero, List.take_succ_cons, List.take_zero, load1_iptr, loadN_iptr, List.length_cons, List.length_nil, Nat.le_refl, if_true, List.getElem?_cons_zero, List.getElem?_cons_succ, List.getD_cons_zero, List.getD_cons_succ, extrF_tup, binF_add, binF_sub, binF_mul, binF_eql, binF_neq, binF_lss, binF_leq, binF_gtr, binF_geq, true_and]
  apply W98_ok
  unfold W98
  simp only [letO_some, cellsOf?_agg, cellsOf?_int, cellsOf?_bool, cellsOf?_imm, cellsOf?_ref, cellsOf?_nils, faddr_iptr, faddr_ptr, List.drop_succ_cons, List.drop_zero, List.take_succ_cons, List.take_zero, load1_iptr, loadN_iptr, List.length_cons, List.length_nil, Nat.le_refl, if_true, List.getElem?_cons_zero, List.getElem?_cons_succ, List.getD_cons_zero, List.getD_cons_succ, extrF_tup, binF_add, binF_sub, binF_mul, binF_eql, binF_neq, binF_lss, binF_leq, binF_gtr, binF_geq, true_and, hlen]
  refine ⟨fun L H' => ∃ i : Nat, eqt L [.int .i64 i] ∧ i ≤ pg.length ∧ eqt H' H, fun L _ => (pg.length - iv L 0).toNat, ⟨0, rfl, by omega, rfl⟩, ?_⟩
  rintro L H' ⟨i, rfl, hi, rfl⟩
  try simp only [letO_some, cellsOf?_agg, cellsOf?_int, cellsOf?_bool, cellsOf?_imm, cellsOf?_ref, cellsOf?_nils, faddr_iptr, faddr_ptr, List.drop_succ_cons, List.drop_zero, List.take_succ_cons, List.take_zero, load1_iptr, loadN_iptr, List.length_cons, List.length_nil, Nat.le_refl, if_true, List.getElem?_cons_zero, List.getElem?_cons_succ, List.getD_cons_zero, List.getD_cons_succ, extrF_tup, binF_add, binF_sub, binF_mul, binF_eql, binF_neq, binF_lss, binF_leq, binF_gtr, binF_geq, true_and]
  refine condA_t (fun hlt => ?_) (fun hge => ?_)
  · have a1 : i < pg.length := by omega
    have hpi : pg.getD i 0 < 6 := by
      rw [List.getD_eq_getElem?_getD, List.getElem?_eq_getElem a1]; exact hp _ (List.getElem_mem a1)
    refine Reads.get (Heap.le_refl _) hv (by omega) (by rw [up_length]; omega) ?_
    rw [Int.toNat_natCast, up_getD]
    try simp only [callA, letO_some, cellsOf?_agg, cellsOf?_int, cellsOf?_bool, cellsOf?_imm, cellsOf?_ref, cellsOf?_nils, faddr_iptr, faddr_ptr, List.drop_succ_cons, List.drop_zero, List.take_succ_cons, List.take_zero, load1_iptr, loadN_iptr, List.length_cons, List.length_nil, Nat.le_refl, if_true, List.getElem?_cons_zero, List.getElem?_cons_succ, List.getD_cons_zero, List.getD_cons_succ, extrF_tup, binF_add, binF_sub, binF_mul, binF_eql, binF_neq, binF_lss, binF_leq, binF_gtr, binF_geq, true_and]
    apply W70_ok
    unfold W70
    have x1 : decide (((pg.getD i 0 : Nat) : Int) < 0) = false := decide_eq_false (by omega)
    have x2 : decide ((6 : Int) ≤ ((pg.getD i 0 : Nat) : Int)) = false := decide_eq_false (by omega)
    simp only [letO_some, cellsOf?_agg, cellsOf?_int, cellsOf?_bool, cellsOf?_imm, cellsOf?_ref, cellsOf?_nils, faddr_iptr, faddr_ptr, List.drop_succ_cons, List.drop_zero, List.take_succ_cons, List.take_zero, load1_iptr, loadN_iptr, List.length_cons, List.length_nil, Nat.le_refl, if_true, List.getElem?_cons_zero, List.getElem?_cons_succ, List.getD_cons_zero, List.getD_cons_succ, extrF_tup, binF_add, binF_sub, binF_mul, binF_eql, binF_neq, binF_lss, binF_leq, binF_gtr, binF_geq, true_and, x1, x2, gval_bool, Int.reduceBNe, Int.reduceBEq, pickF_true, pickF_false, reduceIte, Bool.true_eq_false, Bool.false_eq_true, if_false, condA_tt, condA_ff, condG_tt, condG_ff, condG_tt', condG_ff', condG_undef, gval_undef]
    refine endK_ret ?_
    simp only [condA_ff, letO_some, cellsOf?_agg, cellsOf?_int, cellsOf?_bool, cellsOf?_imm, cellsOf?_ref, cellsOf?_nils, faddr_iptr, faddr_ptr, List.drop_succ_cons, List.drop_zero, List.take_succ_cons, List.take_zero, load1_iptr, loadN_iptr, List.length_cons, List.length_nil, Nat.le_refl, if_true, List.getElem?_cons_zero, List.getElem?_cons_succ, List.getD_cons_zero, List.getD_cons_succ, extrF_tup, binF_add, binF_sub, binF_mul, binF_eql, binF_neq, binF_lss, binF_leq, binF_gtr, binF_geq, true_and]
    rw [wrap_i64 (by omega) (by omega)]
    exact ⟨⟨i + 1, rfl, by omega, rfl⟩, by simp [iv]; omega⟩
  · refine endK_ret ?_
    have x1 : decide ((0 : Int) ≤ -1) = false := by decide
    simp only [letO_some, cellsOf?_agg, cellsOf?_int, cellsOf?_bool, cellsOf?_imm, cellsOf?_ref, cellsOf?_nils, faddr_iptr, faddr_ptr, List.drop_succ_cons, List.drop_zero, List.take_succ_cons, List.take_zero, load1_iptr, loadN_iptr, List.length_cons, List.length_nil, Nat.le_refl, if_true, List.getElem?_cons_zero, List.getElem?_cons_succ, List.getD_cons_zero, List.getD_cons_succ, extrF_tup, binF_add, binF_sub, binF_mul, binF_eql, binF_neq, binF_lss, binF_leq, binF_gtr, binF_geq, true_and, x1]
    refine endK_ret ?_
    simp only [letO_some, cellsOf?_agg, cellsOf?_int, cellsOf?_bool, cellsOf?_imm, cellsOf?_ref, cellsOf?_nils, faddr_iptr, faddr_ptr, List.drop_succ_cons, List.drop_zero, List.take_succ_cons, List.take_zero, load1_iptr, loadN_iptr, List.length_cons, List.length_nil, Nat.le_refl, if_true, List.getElem?_cons_zero, List.getElem?_cons_succ, List.getD_cons_zero, List.getD_cons_succ, extrF_tup, binF_add, binF_sub, binF_mul, binF_eql, binF_neq, binF_lss, binF_leq, binF_gtr, binF_geq, true_and, condA_ff]
    exact endK_ret hk
end Go.Proofs.YtmmfelpgcdlgfaaDoor

namespace Go.Proofs.YtmmfelpgcdlgfaaDoor
open Go.Av
set_option linter.unusedVariables false
set_option linter.unusedSimpArgs false
set_option maxRecDepth 8000

/-- The smallest number of a list. -/
def minL : List Nat → Nat
  | [] => 0
  | a :: l => l.foldl min a
/-- The fewest settings, from a floor on. -/
def fewF (room : Nat) : List Nat → Nat → Nat
  | [], _ => 0
  | p :: ps, s => if s.testBit p then fewF room ps s else if (lsN s).length < room then 1 + fewF room ps (s ||| 2 ^ p) else minL ((lsN s).map fun g => 1 + fewF room ps (clrN s g ||| 2 ^ p))
theorem min_snoc {l : List Nat} {a : Nat} (h : l ≠ []) : minL (l ++ [a]) = min (minL l) a := by
  cases l with
  | nil => exact absurd rfl h
  | cons x l => simp [minL, List.foldl_append]
theorem fewF_le (room : Nat) : ∀ (ps : List Nat) (s : Nat), fewF room ps s ≤ ps.length := by
  intro ps
  induction ps with
  | nil => intro s; simp [fewF]
  | cons p ps ih =>
    intro s
    rw [fewF]
    split
    · have := ih s; simp; omega
    · split
      · have := ih (s ||| 2 ^ p); simp; omega
      · have hm : ∀ l : List Nat, (∀ x ∈ l, x ≤ ps.length + 1) → minL l ≤ ps.length + 1 := by
          intro l
          induction l using snoc_ind with
          | h0 => intro _; simp [minL]
          | h1 l a ih2 =>
            intro h
            by_cases hl : l = []
            · subst hl; exact h a (by simp)
            · rw [min_snoc hl]
              have := h a (by simp)
              omega
        refine Nat.le_trans (hm _ fun x hx => ?_) (by simp)
        obtain ⟨g, _, rfl⟩ := List.mem_map.1 hx
        have := ih (clrN s g ||| 2 ^ p)
        omega

def prI (p : Int × Int) : List AV := [.int .i64 p.1, .int .i64 p.2]
theorem prI_len (p : Int × Int) : (prI p).length = 2 := rfl
/-- The table's block. -/
def tcC (room : Nat) (pv : AV) (Kn : List (Int × Int)) : List AV := .int .i64 (room : Int) :: pv :: Kn.flatMap prI
theorem tcC_len {room : Nat} {pv : AV} {Kn : List (Int × Int)} : (tcC room pv Kn).length = 2 + Kn.length * 2 := by
  rw [tcC, List.length_cons, List.length_cons, rows_len prI_len]; omega
/-- What the table knows is right. -/
structure TI (room : Nat) (pg : List Nat) (Kn : List (Int × Int)) : Prop where
  len : Kn.length = 768
  ok : ∀ t s, t < 12 → s < 64 → Kn.getD (t * 64 + s) (0, 0) ≠ (0, 0) → (Kn.getD (t * 64 + s) (0, 0)).1 = (fewF room (pg.drop t) s : Nat)
theorem TI.set {room : Nat} {pg : List Nat} {Kn : List (Int × Int)} (h : TI room pg Kn) {t s : Nat} (ht : t < 12) (hs : s < 64) (c : Int) : TI room pg (Kn.set (t * 64 + s) (((fewF room (pg.drop t) s : Nat) : Int), c)) := by
  refine ⟨by rw [List.length_set]; exact h.len, fun t' s' ht' hs' hne => ?_⟩
  have hl := h.len
  by_cases he : t' * 64 + s' = t * 64 + s
  · have h1 : t' = t := by omega
    have h2 : s' = s := by omega
    subst h1; subst h2
    rw [List.getD_eq_getElem?_getD, List.getElem?_set_self (by omega)]
    rfl
  · have e : (Kn.set (t * 64 + s) (((fewF room (pg.drop t) s : Nat) : Int), c)).getD (t' * 64 + s') (0, 0) = Kn.getD (t' * 64 + s') (0, 0) := by
      rw [List.getD_eq_getElem?_getD, List.getElem?_set_ne (by omega), ← List.getD_eq_getElem?_getD]
    rw [e] at hne ⊢
    exact h.ok t' s' ht' hs' hne
/-- A value that does not lie in a block. -/
def Off (b : Nat) (v : AV) : Prop := match v with
  | .ref _ b' _ _ _ => b' ≠ b
  | _ => True
theorem reads_off {H : Heap} {v : AV} {l : List Int} {b : Nat} {cs : List AV} (h : Reads H v l) (ho : Off b v) : Reads (H.put b cs) v l := by
  cases v <;> simp only [Reads] at h ⊢ <;> try exact h
  obtain ⟨h1, h2, cells, h3, h4, h5⟩ := h
  exact ⟨h1, h2, cells, by rw [Heap.put_ne ho]; exact h3, h4, h5⟩
theorem reads_isOff {H : Heap} {v : AV} {l : List Int} {b : Nat} (h : Reads H v l) (hb : H b = none) : Off b v := by
  cases v <;> simp only [Reads, Off] at h ⊢
  obtain ⟨h1, h2, cells, h3, _⟩ := h
  rintro rfl
  rw [hb] at h3; cases h3
theorem eq96 (a b c d : Int) : eqF Tryd.prog 96 (.agg [.int .i64 a, .int .i64 b]) (.agg [.int .i64 c, .int .i64 d]) = some ((a == c) && (b == d)) := by
  have h1 : (match Tryd.prog.underlying 96 with | some (.struct fs) => fieldInts Tryd.prog fs.toList 0 && fs.size == 2 | _ => false) = true := by kernel_rfl
  have h2 : Tryd.prog.eqGuardType Tryd.prog.depth 96 = false := by kernel_rfl
  have h3 : Tryd.prog.stoodInHeld 96 = false := by kernel_rfl
  unfold eqF
  split at h1 <;> try cases h1
  rename_i fs hu
  simp only [Bool.and_eq_true, beq_iff_eq] at h1
  rw [hu]
  simp only
  rw [if_pos ⟨h1.1, h1.2.symm, h1.2.symm, h2, h3⟩]
  simp [eqInts]
theorem b96_0 : buildF Tryd.prog 96 [] = some (.agg [.int .i64 0, .int .i64 0]) := by
  rw [buildF_of (show buildPlan Tryd.prog 96 = some ([.int .i64 0, .int .i64 0], [(0, 1), (1, 1)]) by kernel_rfl)]
  simp [fillA]
theorem b96_1 : buildF Tryd.prog 96 [(1, .int .i64 1)] = some (.agg [.int .i64 0, .int .i64 1]) := by
  rw [buildF_of (show buildPlan Tryd.prog 96 = some ([.int .i64 0, .int .i64 0], [(0, 1), (1, 1)]) by kernel_rfl)]
  simp [fillA, splice]
theorem loadN_off {H : Heap} {b o n : Nat} {cells r : List AV} (hb : H b = some cells) (h : (cells.drop o).take n = r) (hl : r.length = n) : loadN n (.ptr b o) H = some (.agg r) := by
  rw [loadN_ptr, hb, Option.bind_some]
  have : n ≤ (cells.drop o).length := by
    rw [← h, List.length_take] at hl; omega
  rw [if_pos this, h]
theorem tcC_get {room : Nat} {pv : AV} {Kn : List (Int × Int)} {i : Nat} {x : Int × Int} (h : Kn[i]? = some x) : ((tcC room pv Kn).drop (2 + i * 2)).take 2 = prI x := by
  rw [tcC, show 2 + i * 2 = (i * 2 + 1) + 1 by omega, List.drop_succ_cons, List.drop_succ_cons]
  exact rows_get prI_len h
theorem tcC_set {room : Nat} {pv : AV} {Kn : List (Int × Int)} {i : Nat} {x : Int × Int} (h : i < Kn.length) : splice (tcC room pv Kn) (2 + i * 2) (prI x) = tcC room pv (Kn.set i x) := by
  have := rows_set (f := prI) prI_len (l := Kn) (i := i) (y := x) h
  rw [tcC, tcC, ← this]
  unfold splice
  rw [show 2 + i * 2 = (i * 2 + 1) + 1 by omega, List.take_succ_cons, List.take_succ_cons, show i * 2 + 1 + 1 + (prI x).length = (i * 2 + (prI x).length) + 1 + 1 by omega, List.drop_succ_cons, List.drop_succ_cons]
  rfl
theorem tcC_all {room : Nat} {pv : AV} {Kn : List (Int × Int)} : isScalar pv = true → (tcC room pv Kn).all isScalar = true := by
  intro h
  rw [tcC, List.all_cons, List.all_cons, h]
  simp only [isScalar, Bool.true_and, List.all_eq_true, List.mem_flatMap]
  rintro x ⟨p, _, hp⟩
  simp [prI] at hp
  rcases hp with rfl | rfl <;> rfl
theorem set_drop {pg : List Nat} {t : Nat} (h : t < pg.length) : pg.drop t = pg.getD t 0 :: pg.drop (t + 1) := by
  rw [List.drop_eq_getElem_cons h, List.getD_eq_getElem?_getD, List.getElem?_eq_getElem h]; rfl
theorem ls_lt6 : ∀ s : Fin 64, ∀ i : Fin 7, i.val < (lsN s.val).length → (lsN s.val).getD i.val 0 < 6 := by decide +kernel
/-- stand.least -/
theorem c44 {room : Nat} {pg : List Nat} {pv : AV} (hr1 : 1 ≤ room) (hr5 : room ≤ 5) (hp : ∀ p ∈ pg, p < 6) (hl : pg.length ≤ 12) (hps : isScalar pv = true) :
    ∀ (n t s : Nat) {Kn : List (Int × Int)} {H : Heap} {b : Nat} {K : AV → Heap → Prop}, t + n = pg.length → s < 64 → H b = some (tcC room pv Kn) → TI room pg Kn → Reads H pv (up pg) → Off b pv →
    (∀ (c : Int) (Kn' : List (Int × Int)), TI room pg Kn' → K (.agg [.int .i64 (fewF room (pg.drop t) s : Nat), .int .i64 c]) (H.put b (tcC room pv Kn'))) →
    ACalls Tryd.prog 44 [.ptr b 0, .int .i64 (t : Int), .agg [.int .u64 (s : Int)]] H K := by
  intro n
  induction n with
  | zero =>
    intro t s Kn H b K htn hs hb hti hpv hoff hk
    apply W44_ok
    unfold W44
    have hlen := hpv.len
    rw [up_length] at hlen
    have hc : cellsOf? (.agg [.int .u64 (s : Int)]) = some [.int .u64 (s : Int)] := rfl
    have n1 : nilF (.ptr b 0) = some (.ptr b 0) := rfl
    have f0 : faddr 0 (.ptr b 0) = some (.ptr b 0) := rfl
    have f1 : faddr 1 (.ptr b 0) = some (.ptr b 1) := rfl
    try simp only [letO_some, hc]
    refine alloc_ fun b6 hb6 => ?_
    have hle6 := Heap.le_new (c := [.int .i64 0, .int .i64 0]) hb6
    have h6 : (H.put b6 [.int .i64 0, .int .i64 0]) b6 = some [.int .i64 0, .int .i64 0] := Heap.put_same
    generalize H.put b6 [.int .i64 0, .int .i64 0] = H6 at *
    have l1 : load1 (.ptr b 1) H6 = some pv := load1_at (hle6 _ _ hb) rfl
    have e1 : ((t : Int) == (pg.length : Int)) = true := by rw [beq_iff_eq]; omega
    try simp only [letO_some, n1, f0, f1, l1, hlen, binF_eql, e1, condA_tt, b96_1]
    refine storeA_of (cs := [.int .i64 0, .int .i64 1]) h6 rfl rfl rfl (by simp) ?_
    have hsp : splice [.int .i64 0, .int .i64 0] 0 [.int .i64 0, .int .i64 1] = [.int .i64 0, .int .i64 1] := rfl
    rw [hsp]
    have l2 : loadN 2 (.ptr b6 0) (H6.put b6 [.int .i64 0, .int .i64 1]) = some (.agg [.int .i64 0, .int .i64 1]) := loadN_at (cells := [.int .i64 0, .int .i64 1]) Heap.put_same
    simp only [l2, letO_some]
    have hd : pg.drop t = [] := List.drop_of_length_le (by omega)
    have := hk 1 Kn hti
    rw [hd, put_eq hb] at this
    exact endK_pub (Pub.drop (Heap.le_put hle6 hb6)) (endK_ret this)
  | succ n ih =>
    intro t s Kn H b K htn hs hb hti hpv hoff hk
    apply W44_ok
    unfold W44
    have hlen := hpv.len
    rw [up_length] at hlen
    have htl : t < pg.length := by omega
    have ht12 : t < 12 := by omega
    have hc : cellsOf? (.agg [.int .u64 (s : Int)]) = some [.int .u64 (s : Int)] := rfl
    have n1 : nilF (.ptr b 0) = some (.ptr b 0) := rfl
    have f0 : faddr 0 (.ptr b 0) = some (.ptr b 0) := rfl
    have f1 : faddr 1 (.ptr b 0) = some (.ptr b 1) := rfl
    have f2 : faddr 2 (.ptr b 0) = some (.ptr b 2) := rfl
    have fs : faddr 0 (.iptr [.int .u64 (s : Int)]) = some (.iptr [.int .u64 (s : Int)]) := rfl
    have ls1 : ∀ H', load1 (.iptr [.int .u64 (s : Int)]) H' = some (.int .u64 (s : Int)) := fun _ => rfl
    have lsN1 : ∀ H', loadN 1 (.iptr [.int .u64 (s : Int)]) H' = some (.agg [.int .u64 (s : Int)]) := fun _ => rfl
    have i12 : idxArr 12 128 (.ptr b 2) (.int .i64 (t : Int)) = some (.ptr b (2 + t * 128)) := by
      simp only [idxArr]; rw [if_pos (by omega)]; simp
    have i64' : idxArr 64 2 (.ptr b (2 + t * 128)) (.int .u64 (s : Int)) = some (.ptr b (2 + (t * 64 + s) * 2)) := by
      simp only [idxArr]; rw [if_pos (by omega)]; simp; omega
    have hdr := set_drop htl
    have hpm : pg.getD t 0 < 6 := by
      rw [List.getD_eq_getElem?_getD, List.getElem?_eq_getElem htl]; exact hp _ (List.getElem_mem htl)
    try simp only [letO_some, hc]
    refine alloc_ fun b6 hb6 => ?_
    have hle6 := Heap.le_new (c := [.int .i64 0, .int .i64 0]) hb6
    have h6 : (H.put b6 [.int .i64 0, .int .i64 0]) b6 = some [.int .i64 0, .int .i64 0] := Heap.put_same
    generalize H.put b6 [.int .i64 0, .int .i64 0] = H6 at *
    have l1 : load1 (.ptr b 1) H6 = some pv := load1_at (hle6 _ _ hb) rfl
    have e1 : ((t : Int) == (pg.length : Int)) = false := by rw [beq_eq_false_iff_ne]; omega
    have hkn : Kn[t * 64 + s]? = some (Kn.getD (t * 64 + s) (0, 0)) := by
      have := hti.len
      rw [List.getD_eq_getElem?_getD, List.getElem?_eq_getElem (by omega)]; rfl
    have lk : loadN 2 (.ptr b (2 + (t * 64 + s) * 2)) H6 = some (.agg (prI (Kn.getD (t * 64 + s) (0, 0)))) := loadN_off (hle6 _ _ hb) (tcC_get hkn) rfl
    have hok := hti.ok t s ht12 hs
    generalize Kn.getD (t * 64 + s) (0, 0) = kp at *
    try simp only [letO_some, n1, f0, f1, f2, fs, ls1, l1, hlen, binF_eql, e1, condA_ff, true_and, i12, i64', lk]
    refine alloc_store (cs := prI kp) rfl rfl rfl rfl fun b7 hb7 => ?_
    have hle7 := Heap.le_new (c := prI kp) hb7
    have h7 : (H6.put b7 (prI kp)) b7 = some (prI kp) := Heap.put_same
    have h67 := hle7 _ _ h6
    have hb6H := hb6
    have hb7H := none_of_le hle6 hb7
    have hle17 := Heap.le_trans hle6 hle7
    generalize H6.put b7 (prI kp) = H7 at *
    have l7 : loadN 2 (.ptr b7 0) H7 = some (.agg (prI kp)) := loadN_at (cells := prI kp) h7
    have eqk : binF Tryd.prog .neq 96 (.agg (prI kp)) (.agg [.int .i64 0, .int .i64 0]) = some (.bool !((kp.1 == 0) && (kp.2 == 0))) := by
      show (eqF Tryd.prog 96 (.agg (prI kp)) (.agg [.int .i64 0, .int .i64 0])).map (fun r => AV.bool !r) = _
      rw [prI, eq96]; rfl
    have lp : load1 (.ptr b 1) H7 = some pv := load1_at (hle17 _ _ hb) rfl
    have lr : load1 (.ptr b 0) H7 = some (.int .i64 (room : Int)) := load1_at (hle17 _ _ hb) rfl
    try simp only [letO_some, l7, b96_0, eqk]
    by_cases hz : kp = (0, 0)
    · subst hz
      have : (!(((0 : Int), (0 : Int)).1 == 0 && ((0 : Int), (0 : Int)).2 == 0)) = false := rfl
      simp only [this, condA_ff, letO_some, lp]
      refine (hpv.le hle17).get (Heap.le_refl _) (by omega) (by rw [up_length]; omega) ?_
      rw [Int.toNat_natCast, up_getD]
      rw [hdr] at hk
      have hti' : ∀ {K2} c, TI room pg K2 → TI room pg (K2.set (t * 64 + s) (((fewF room (pg.getD t 0 :: pg.drop (t + 1)) s : Nat) : Int), c)) := by
        intro K2 c h
        have := h.set ht12 hs c
        rwa [hdr] at this
      generalize pg.getD t 0 = p at *
      try simp only [letO_some]
      refine alloc_ fun b9 hb9 => ?_
      have hle9 := Heap.le_new (c := [.int .i64 0, .int .i64 0]) hb9
      have h9 : (H7.put b9 [.int .i64 0, .int .i64 0]) b9 = some [.int .i64 0, .int .i64 0] := Heap.put_same
      have hb9H := none_of_le hle17 hb9
      have hle19 := Heap.le_trans hle17 hle9
      have h69 := hle9 _ _ h67
      generalize H7.put b9 [.int .i64 0, .int .i64 0] = H9 at *
      have hbne : ∀ {x}, H x = none → x ≠ b := fun h e => by subst e; rw [hb] at h; cases h
      have n6 := hbne hb6H
      have n9 := hbne hb9H
      have n69 : b6 ≠ b9 := by rintro rfl; rw [h67] at hb9; cases hb9
      have hb3 : H9 b = some (tcC room pv Kn) := hle19 _ _ hb
      have hpv9 : Reads H9 pv (up pg) := hpv.le hle19
      have w1 : IntKind.i64.wrap ((t : Int) + 1) = ((t + 1 : Nat) : Int) := by rw [wrap_i64 (by omega) (by omega)]; omega
      have f9 : faddr 0 (.ptr b9 0) = some (.ptr b9 0) := rfl
      have f91 : faddr 1 (.ptr b9 0) = some (.ptr b9 1) := rfl
      have hfl : fewF room (p :: pg.drop (t + 1)) s ≤ 12 := by
        have := fewF_le room (p :: pg.drop (t + 1)) s
        simp at this; omega
      refine ⟨fun L H' => eqt L [] ∧ ∃ c Kn', TI room pg Kn' ∧ (H.put b (tcC room pv Kn')).le H' ∧ H' b9 = some [.int .i64 (fewF room (p :: pg.drop (t + 1)) s : Nat), .int .i64 c] ∧ H' b6 = some [.int .i64 0, .int .i64 0], ?_, ?_⟩
      · have hone : ∀ t, binF Tryd.prog .and t (.int .u64 ((s / 2 ^ p : Nat) : Int)) (.int .u64 1) = some (.int .u64 ((s / 2 ^ p &&& 1 : Nat) : Int)) := fun t => u64_and (t := t) (b := 1) (by have := Nat.div_le_self s (2 ^ p); omega) (by decide)
        try simp only [letO_some, fs, ls1, u64_shr (show p < 64 by omega), hone, binF_eql, u64_bit]
        cases hbit : s.testBit p
        · -- the page does not stand
          have lr9 : load1 (.ptr b 0) H9 = some (.int .i64 (room : Int)) := load1_at hb3 rfl
          simp only [condA_ff, true_and, letO_some, lsN1, n1, f0, lr9]
          refine c71 (by omega) (by omega) ?_
          have hfull : fullB s p room = decide (room ≤ (lsN s).length) := by simp [fullB, hbit]
          rw [hfull]
          try simp only [letO_some, not_v]
          by_cases hroom : room ≤ (lsN s).length
          · -- one goes
            have hfew : fewF room (p :: pg.drop (t + 1)) s = minL ((lsN s).map fun g => 1 + fewF room (pg.drop (t + 1)) (clrN s g ||| 2 ^ p)) := by
              rw [fewF, if_neg (by simp [hbit]), if_neg (by omega)]
            rw [hfew]
            rw [decide_eq_true hroom]
            simp only [Bool.not_true, condA_ff, letO_some, fs, ls1]
            refine c73 (by omega) ?_
            have hll : lenA (sl (up (lsN s))) = some (.int .i64 ((lsN s).length : Int)) := by simp [sl, lenA]
            have hl7 := ls_len s
            try simp only [letO_some, hll, true_and]
            refine ⟨fun L H' => ∃ (i : Nat) (c : Int) (Kn' : List (Int × Int)), eqt L [.int .i64 (i : Int)] ∧ i ≤ (lsN s).length ∧ TI room pg Kn' ∧ (H.put b (tcC room pv Kn')).le H' ∧
                H' b9 = some [.int .i64 (minL (((lsN s).take i).map fun g => 1 + fewF room (pg.drop (t + 1)) (clrN s g ||| 2 ^ p)) : Nat), .int .i64 (if i = 0 then 0 else c)] ∧ H' b6 = some [.int .i64 0, .int .i64 0],
              fun L _ => ((lsN s).length - iv L 0).toNat, ⟨0, 0, Kn, rfl, by omega, hti, by rw [put_eq hb]; exact hle19, h9, h69⟩, ?_⟩
            rintro L H22 ⟨i, c, Kn', rfl, hi, hti2, hle22, hb9', hb6'⟩
            try simp only [letO_some, cellsOf?_agg, cellsOf?_int, cellsOf?_bool, cellsOf?_imm, cellsOf?_ref, cellsOf?_nils, faddr_iptr, faddr_ptr, List.drop_succ_cons, List.drop_zero, List.take_succ_cons, List.take_zero, load1_iptr, loadN_iptr, List.length_cons, List.length_nil, Nat.le_refl, if_true, List.getElem?_cons_zero, List.getElem?_cons_succ, List.getD_cons_zero, List.getD_cons_succ, extrF_tup, binF_add, binF_sub, binF_mul, binF_eql, binF_neq, binF_lss, binF_leq, binF_gtr, binF_geq, true_and]
            refine condA_t (fun hlt => ?_) (fun hge => ?_)
            · have a1 : i < (lsN s).length := by omega
              have hg6 := ls_lt6 ⟨s, hs⟩ ⟨i, by omega⟩ a1
              simp only at hg6
              have htk : (lsN s).take (i + 1) = (lsN s).take i ++ [(lsN s).getD i 0] := by
                rw [List.take_add_one, List.getElem?_eq_getElem a1, List.getD_eq_getElem?_getD, List.getElem?_eq_getElem a1]; rfl
              have hb22 : H22 b = some (tcC room pv Kn') := hle22 _ _ Heap.put_same
              have hpv22 : Reads H22 pv (up pg) := (reads_off hpv hoff).le hle22
              refine ⟨fun L H' => eqt L [] ∧ ∃ (c : Int) (Kn' : List (Int × Int)), TI room pg Kn' ∧ (H.put b (tcC room pv Kn')).le H' ∧
                H' b9 = some [.int .i64 (minL (((lsN s).take (i + 1)).map fun g => 1 + fewF room (pg.drop (t + 1)) (clrN s g ||| 2 ^ p)) : Nat), .int .i64 c] ∧ H' b6 = some [.int .i64 0, .int .i64 0], ?_, ?_⟩
              · refine Reads.get (Heap.le_refl _) (Reads.sl H22 (up (lsN s))) (by omega) (by rw [up_length]; omega) ?_
                rw [Int.toNat_natCast, up_getD, htk, List.map_append, List.map_cons, List.map_nil]
                have hmi : minL (((lsN s).take i).map fun g => 1 + fewF room (pg.drop (t + 1)) (clrN s g ||| 2 ^ p)) ≤ 13 := by
                  have hm : ∀ l : List Nat, (∀ x ∈ l, x ≤ 13) → minL l ≤ 13 := by
                    intro l
                    induction l using snoc_ind with
                    | h0 => intro _; simp [minL]
                    | h1 l a ih2 =>
                      intro h
                      by_cases hl : l = []
                      · subst hl; exact h a (by simp)
                      · rw [min_snoc hl]
                        have := h a (by simp)
                        omega
                  refine hm _ fun x hx => ?_
                  obtain ⟨g, _, rfl⟩ := List.mem_map.1 hx
                  have := fewF_le room (pg.drop (t + 1)) (clrN s g ||| 2 ^ p)
                  simp at this; omega
                have hne0 : i ≠ 0 → ((lsN s).take i).map (fun g => 1 + fewF room (pg.drop (t + 1)) (clrN s g ||| 2 ^ p)) ≠ [] := by
                  intro h h2
                  have := congrArg List.length h2
                  rw [List.length_map, List.length_take, List.length_nil] at this
                  omega
                have hpos : i ≠ 0 → 1 ≤ minL (((lsN s).take i).map fun g => 1 + fewF room (pg.drop (t + 1)) (clrN s g ||| 2 ^ p)) := by
                  intro h
                  have hm : ∀ l : List Nat, l ≠ [] → (∀ x ∈ l, 1 ≤ x) → 1 ≤ minL l := by
                    intro l
                    induction l using snoc_ind with
                    | h0 => intro h; exact absurd rfl h
                    | h1 l a ih2 =>
                      intro _ h
                      by_cases hl : l = []
                      · subst hl; exact h a (by simp)
                      · rw [min_snoc hl]
                        have := h a (by simp)
                        have := ih2 hl fun x hx => h x (by simp [hx])
                        omega
                  refine hm _ (hne0 h) fun x hx => ?_
                  obtain ⟨g, _, rfl⟩ := List.mem_map.1 hx
                  omega
                have hmn : minL (((lsN s).take i).map (fun g => 1 + fewF room (pg.drop (t + 1)) (clrN s g ||| 2 ^ p)) ++ [1 + fewF room (pg.drop (t + 1)) (clrN s ((lsN s).getD i 0) ||| 2 ^ p)]) =
                    if i = 0 then 1 + fewF room (pg.drop (t + 1)) (clrN s ((lsN s).getD i 0) ||| 2 ^ p) else min (minL (((lsN s).take i).map fun g => 1 + fewF room (pg.drop (t + 1)) (clrN s g ||| 2 ^ p))) (1 + fewF room (pg.drop (t + 1)) (clrN s ((lsN s).getD i 0) ||| 2 ^ p)) := by
                  by_cases h : i = 0
                  · subst h; rfl
                  · rw [if_neg h, min_snoc (hne0 h)]
                rw [hmn]
                generalize (lsN s).getD i 0 = g at *
                obtain ⟨-, hcl⟩ := clr_ok ⟨s, hs⟩ ⟨g, hg6⟩
                have hs64 := with_ok ⟨clrN s g, hcl⟩ ⟨p, hpm⟩
                simp only at hcl hs64
                try simp only [letO_some, binF_add, w1, lsN1]
                refine c72 hs hpm hg6 ?_
                refine ih (t + 1) _ (by omega) hs64 hb22 hti2 hpv22 hoff fun c2 Kn2 hti3 => ?_
                have hxl : fewF room (pg.drop (t + 1)) (clrN s g ||| 2 ^ p) ≤ 12 := by
                  have := fewF_le room (pg.drop (t + 1)) (clrN s g ||| 2 ^ p)
                  simp at this; omega
                generalize fewF room (pg.drop (t + 1)) (clrN s g ||| 2 ^ p) = x at *
                have hm0 : i = 0 → minL (((lsN s).take i).map fun g => 1 + fewF room (pg.drop (t + 1)) (clrN s g ||| 2 ^ p)) = 0 := by rintro rfl; rfl
                generalize minL (((lsN s).take i).map fun g => 1 + fewF room (pg.drop (t + 1)) (clrN s g ||| 2 ^ p)) = m at *
                have hle23 : (H.put b (tcC room pv Kn2)).le (H22.put b (tcC room pv Kn2)) := by
                  have := Heap.put_mono (b := b) (cs := tcC room pv Kn2) hle22
                  rwa [Heap.put_put] at this
                have hb9'' : (H22.put b (tcC room pv Kn2)) b9 = _ := (Heap.put_ne n9).trans hb9'
                have hb6'' : (H22.put b (tcC room pv Kn2)) b6 = _ := (Heap.put_ne n6).trans hb6'
                generalize H22.put b (tcC room pv Kn2) = H23 at *
                refine alloc_store (cs := [.int .i64 (x : Int), .int .i64 c2]) rfl rfl rfl rfl fun b12 hb12 => ?_
                have hle24 := Heap.le_new (c := [.int .i64 (x : Int), .int .i64 c2]) hb12
                have h12 : (H23.put b12 [.int .i64 (x : Int), .int .i64 c2]) b12 = some [.int .i64 (x : Int), .int .i64 c2] := Heap.put_same
                have hbP : (H.put b (tcC room pv Kn2)) b12 = none := none_of_le hle23 hb12
                have h9c := hle24 _ _ hb9''
                have h6c := hle24 _ _ hb6''
                have hle25 := Heap.le_trans hle23 hle24
                have n129 : b12 ≠ b9 := by rintro rfl; rw [hb9''] at hb12; cases hb12
                have n126 : b12 ≠ b6 := by rintro rfl; rw [hb6''] at hb12; cases hb12
                generalize H23.put b12 [.int .i64 (x : Int), .int .i64 c2] = H24 at *
                have f12 : faddr 0 (.ptr b12 0) = some (.ptr b12 0) := rfl
                have f121 : faddr 1 (.ptr b12 0) = some (.ptr b12 1) := rfl
                have l12 : load1 (.ptr b12 0) H24 = some (.int .i64 (x : Int)) := load1_at h12 rfl
                have wx : IntKind.i64.wrap ((x : Int) + 1) = ((1 + x : Nat) : Int) := by rw [wrap_i64 (by omega) (by omega)]; omega
                try simp only [letO_some, f12, l12, binF_add, wx]
                refine storeA_of (cs := [.int .i64 ((1 + x : Nat) : Int)]) h12 rfl rfl rfl (by simp) ?_
                have hsp : splice [.int .i64 (x : Int), .int .i64 c2] 0 [.int .i64 ((1 + x : Nat) : Int)] = [.int .i64 ((1 + x : Nat) : Int), .int .i64 c2] := rfl
                rw [hsp]
                have h12' : (H24.put b12 [.int .i64 ((1 + x : Nat) : Int), .int .i64 c2]) b12 = some [.int .i64 ((1 + x : Nat) : Int), .int .i64 c2] := Heap.put_same
                have hle26 := Heap.le_put hle25 hbP (cs := [.int .i64 ((1 + x : Nat) : Int), .int .i64 c2])
                have h9d : (H24.put b12 [.int .i64 ((1 + x : Nat) : Int), .int .i64 c2]) b9 = _ := (Heap.put_ne (Ne.symm n129)).trans h9c
                have h6d : (H24.put b12 [.int .i64 ((1 + x : Nat) : Int), .int .i64 c2]) b6 = _ := (Heap.put_ne (Ne.symm n126)).trans h6c
                generalize H24.put b12 [.int .i64 ((1 + x : Nat) : Int), .int .i64 c2] = H25 at *
                have l9 : loadN 2 (.ptr b9 0) H25 = some (.agg [.int .i64 (m : Int), .int .i64 (if i = 0 then 0 else c)]) := loadN_at (cells := [.int .i64 (m : Int), .int .i64 (if i = 0 then 0 else c)]) h9d
                have eqo : binF Tryd.prog .eql 96 (.agg [.int .i64 (m : Int), .int .i64 (if i = 0 then 0 else c)]) (.agg [.int .i64 0, .int .i64 0]) = some (.bool (((m : Int) == 0) && ((if i = 0 then 0 else c) == 0))) := by
                  show (eqF Tryd.prog 96 _ _).map AV.bool = _
                  rw [eq96]; rfl
                have l120 : load1 (.ptr b12 0) H25 = some (.int .i64 ((1 + x : Nat) : Int)) := load1_at h12' rfl
                have l121 : load1 (.ptr b12 1) H25 = some (.int .i64 c2) := load1_at h12' rfl
                have l90 : load1 (.ptr b9 0) H25 = some (.int .i64 (m : Int)) := load1_at h9d rfl
                have l91 : load1 (.ptr b9 1) H25 = some (.int .i64 (if i = 0 then 0 else c)) := load1_at h9d rfl
                have l12N : loadN 2 (.ptr b12 0) H25 = some (.agg [.int .i64 ((1 + x : Nat) : Int), .int .i64 c2]) := loadN_at (cells := [.int .i64 ((1 + x : Nat) : Int), .int .i64 c2]) h12'
                have hbP9 : (H.put b (tcC room pv Kn2)) b9 = none := by rw [Heap.put_ne n9]; exact hb9H
                have fin : ∀ (a' c' : Int) (H' : Heap), a' = ((if i = 0 then 1 + x else min m (1 + x) : Nat) : Int) → H' = H25.put b9 [.int .i64 a', .int .i64 c'] →
                    (fun L H' => eqt L [] ∧ ∃ (c : Int) (Kn' : List (Int × Int)), TI room pg Kn' ∧ (H.put b (tcC room pv Kn')).le H' ∧ H' b9 = some [.int .i64 ((if i = 0 then 1 + x else min m (1 + x) : Nat) : Int), .int .i64 c] ∧ H' b6 = some [.int .i64 0, .int .i64 0]) ([] : List AV) H' := by
                  rintro a' c' H' rfl rfl
                  exact ⟨rfl, c', Kn2, hti3, Heap.le_put hle26 hbP9, Heap.put_same, by rw [Heap.put_ne n69]; exact h6d⟩
                try simp only [letO_some, l9, b96_0, eqo]
                by_cases hi0 : i = 0
                · have hm := hm0 hi0
                  have e : (((m : Int) == 0) && ((if i = 0 then 0 else c) == 0)) = true := by rw [if_pos hi0, hm]; rfl
                  try simp only [e, gval_bool, Int.reduceBNe, Int.reduceBEq, pickF_true, pickF_false, reduceIte, Bool.true_eq_false, Bool.false_eq_true, if_false, condA_tt, condA_ff, condG_tt, condG_ff, condG_tt', condG_ff', condG_undef, gval_undef, letO_some, l12N]
                  refine storeA_of (cs := [.int .i64 ((1 + x : Nat) : Int), .int .i64 c2]) h9d rfl rfl rfl (by simp) ?_
                  exact fin ((1 + x : Nat) : Int) c2 _ (by rw [if_pos hi0]) rfl
                · have hm := hpos hi0
                  have e : (((m : Int) == 0) && ((if i = 0 then 0 else c) == 0)) = false := by
                    have : ((m : Int) == 0) = false := by rw [beq_eq_false_iff_ne]; omega
                    rw [this]; rfl
                  try simp only [e, gval_bool, Int.reduceBNe, Int.reduceBEq, pickF_true, pickF_false, reduceIte, Bool.true_eq_false, Bool.false_eq_true, if_false, condA_tt, condA_ff, condG_tt, condG_ff, condG_tt', condG_ff', condG_undef, gval_undef, letO_some, f12, f9, l120, l90, binF_lss]
                  by_cases hlt2 : 1 + x < m
                  · have e2 : decide (((1 + x : Nat) : Int) < (m : Int)) = true := decide_eq_true (by omega)
                    try simp only [e2, gval_bool, Int.reduceBNe, Int.reduceBEq, pickF_true, pickF_false, reduceIte, Bool.true_eq_false, Bool.false_eq_true, if_false, condA_tt, condA_ff, condG_tt, condG_ff, condG_tt', condG_ff', condG_undef, gval_undef, letO_some, l12N]
                    refine storeA_of (cs := [.int .i64 ((1 + x : Nat) : Int), .int .i64 c2]) h9d rfl rfl rfl (by simp) ?_
                    exact fin ((1 + x : Nat) : Int) c2 _ (by rw [if_neg hi0]; omega) rfl
                  · have e2 : decide (((1 + x : Nat) : Int) < (m : Int)) = false := decide_eq_false (by omega)
                    try simp only [e2, gval_bool, Int.reduceBNe, Int.reduceBEq, pickF_true, pickF_false, reduceIte, Bool.true_eq_false, Bool.false_eq_true, if_false, condA_tt, condA_ff, condG_tt, condG_ff, condG_tt', condG_ff', condG_undef, gval_undef, letO_some, f12, f9, l120, l90, binF_eql]
                    by_cases heq : 1 + x = m
                    · have e3 : (((1 + x : Nat) : Int) == (m : Int)) = true := by rw [beq_iff_eq]; omega
                      try simp only [e3, condA_tt, letO_some, f91, f121, l91, l121, binF_add]
                      rw [if_neg hi0] at h9d ⊢
                      refine storeA_of (cs := [.int .i64 (IntKind.i64.wrap (c + c2))]) h9d rfl rfl rfl (by simp) ?_
                      exact fin (m : Int) (IntKind.i64.wrap (c + c2)) _ (by rw [if_neg hi0]; omega) rfl
                    · have e3 : (((1 + x : Nat) : Int) == (m : Int)) = false := by rw [beq_eq_false_iff_ne]; omega
                      try simp only [e3, condA_ff]
                      rw [if_neg hi0] at h9d
                      have hmm : min m (1 + x) = m := by omega
                      refine ⟨rfl, c, Kn2, hti3, hle26, ?_, h6d⟩
                      rw [if_neg hi0, hmm]; exact h9d
              · rintro L H23 ⟨rfl, c', Kn2, hti3, hle23, hb9'', hb6''⟩
                try simp only [letO_some, cellsOf?_agg, cellsOf?_int, cellsOf?_bool, cellsOf?_imm, cellsOf?_ref, cellsOf?_nils, faddr_iptr, faddr_ptr, List.drop_succ_cons, List.drop_zero, List.take_succ_cons, List.take_zero, load1_iptr, loadN_iptr, List.length_cons, List.length_nil, Nat.le_refl, if_true, List.getElem?_cons_zero, List.getElem?_cons_succ, List.getD_cons_zero, List.getD_cons_succ, extrF_tup, binF_add, binF_sub, binF_mul, binF_eql, binF_neq, binF_lss, binF_leq, binF_gtr, binF_geq, true_and]
                rw [wrap_i64 (by omega) (by omega)]
                exact ⟨⟨i + 1, c', Kn2, rfl, by omega, hti3, hle23, by rw [if_neg (by omega)]; exact hb9'', hb6''⟩, by simp [iv]; omega⟩
            · have hie : i = (lsN s).length := by omega
              subst hie
              rw [List.take_length] at hb9'
              exact ⟨rfl, _, Kn', hti2, hle22, hb9', hb6'⟩
          · -- there is room
            have hfew : fewF room (p :: pg.drop (t + 1)) s = 1 + fewF room (pg.drop (t + 1)) (s ||| 2 ^ p) := by
              rw [fewF, if_neg (by simp [hbit]), if_pos (by omega)]
            rw [hfew] at hfl ⊢
            rw [decide_eq_false hroom]
            have hs64 := with_ok ⟨s, hs⟩ ⟨p, hpm⟩
            simp only at hs64
            simp only [Bool.not_false, condA_tt, letO_some, binF_add, w1, lsN1]
            refine c72n hs hpm ?_
            refine ih (t + 1) _ (by omega) hs64 hb3 hti hpv9 hoff fun c2 Kn2 hti3 => ?_
            generalize fewF room (pg.drop (t + 1)) (s ||| 2 ^ p) = x at *
            have hle23 : (H.put b (tcC room pv Kn2)).le (H9.put b (tcC room pv Kn2)) := Heap.put_mono hle19
            have h9' : (H9.put b (tcC room pv Kn2)) b9 = _ := (Heap.put_ne n9).trans h9
            have h6' : (H9.put b (tcC room pv Kn2)) b6 = _ := (Heap.put_ne n6).trans h69
            have hbP9 : (H.put b (tcC room pv Kn2)) b9 = none := by rw [Heap.put_ne n9]; exact hb9H
            generalize H9.put b (tcC room pv Kn2) = H23 at *
            refine storeA_of (cs := [.int .i64 (x : Int), .int .i64 c2]) h9' rfl rfl rfl (by simp) ?_
            have hsp : splice [.int .i64 0, .int .i64 0] 0 [.int .i64 (x : Int), .int .i64 c2] = [.int .i64 (x : Int), .int .i64 c2] := rfl
            rw [hsp]
            have l90 : load1 (.ptr b9 0) (H23.put b9 [.int .i64 (x : Int), .int .i64 c2]) = some (.int .i64 (x : Int)) := load1_at Heap.put_same rfl
            have wx : IntKind.i64.wrap ((x : Int) + 1) = ((1 + x : Nat) : Int) := by rw [wrap_i64 (by omega) (by omega)]; omega
            try simp only [letO_some, f9, l90, binF_add, wx]
            refine storeA_of (cs := [.int .i64 ((1 + x : Nat) : Int)]) (cells := [.int .i64 (x : Int), .int .i64 c2]) Heap.put_same rfl rfl rfl (by simp) ?_
            have hsp : splice [.int .i64 (x : Int), .int .i64 c2] 0 [.int .i64 ((1 + x : Nat) : Int)] = [.int .i64 ((1 + x : Nat) : Int), .int .i64 c2] := rfl
            rw [hsp, Heap.put_put]
            exact ⟨rfl, c2, Kn2, hti3, Heap.le_put hle23 hbP9, Heap.put_same, by rw [Heap.put_ne n69]; exact h6'⟩
        · -- the page stands
          have hfew : fewF room (p :: pg.drop (t + 1)) s = fewF room (pg.drop (t + 1)) s := by
            rw [fewF, if_pos hbit]
          rw [hfew] at hfl ⊢
          simp only [condA_tt, letO_some, binF_add, w1, lsN1]
          refine ih (t + 1) _ (by omega) hs hb3 hti hpv9 hoff fun c2 Kn2 hti3 => ?_
          generalize fewF room (pg.drop (t + 1)) s = x at *
          have hle23 : (H.put b (tcC room pv Kn2)).le (H9.put b (tcC room pv Kn2)) := Heap.put_mono hle19
          have h9' : (H9.put b (tcC room pv Kn2)) b9 = _ := (Heap.put_ne n9).trans h9
          have h6' : (H9.put b (tcC room pv Kn2)) b6 = _ := (Heap.put_ne n6).trans h69
          have hbP9 : (H.put b (tcC room pv Kn2)) b9 = none := by rw [Heap.put_ne n9]; exact hb9H
          generalize H9.put b (tcC room pv Kn2) = H23 at *
          refine storeA_of (cs := [.int .i64 (x : Int), .int .i64 c2]) h9' rfl rfl rfl (by simp) ?_
          have hsp : splice [.int .i64 0, .int .i64 0] 0 [.int .i64 (x : Int), .int .i64 c2] = [.int .i64 (x : Int), .int .i64 c2] := rfl
          rw [hsp]
          exact ⟨rfl, c2, Kn2, hti3, Heap.le_put hle23 hbP9, Heap.put_same, by rw [Heap.put_ne n69]; exact h6'⟩
      · rintro L H33 ⟨rfl, c, Kn', hti2, hle33, hb9', hb6'⟩
        have hb33 : H33 b = some (tcC room pv Kn') := hle33 _ _ Heap.put_same
        have l9 : loadN 2 (.ptr b9 0) H33 = some (.agg (prI (((fewF room (p :: pg.drop (t + 1)) s : Nat) : Int), c))) := loadN_at (cells := prI (((fewF room (p :: pg.drop (t + 1)) s : Nat) : Int), c)) hb9'
        try simp only [letO_some, true_and, n1, f2, fs, ls1, i12, i64', l9]
        refine storeA_of (cs := prI (((fewF room (p :: pg.drop (t + 1)) s : Nat) : Int), c)) hb33 rfl rfl rfl (by rw [tcC_len, hti2.len]; simp [prI]; omega) ?_
        rw [tcC_set (by rw [hti2.len]; omega)]
        have hti4 := hti' c hti2
        generalize Kn'.set (t * 64 + s) (((fewF room (p :: pg.drop (t + 1)) s : Nat) : Int), c) = Kn4 at *
        have hle4 : (H.put b (tcC room pv Kn4)).le (H33.put b (tcC room pv Kn4)) := by
          have := Heap.put_mono (b := b) (cs := tcC room pv Kn4) hle33
          rwa [Heap.put_put] at this
        have h9' : (H33.put b (tcC room pv Kn4)) b9 = _ := (Heap.put_ne n9).trans hb9'
        have h6' : (H33.put b (tcC room pv Kn4)) b6 = _ := (Heap.put_ne n6).trans hb6'
        have hbP6 : (H.put b (tcC room pv Kn4)) b6 = none := by rw [Heap.put_ne n6]; exact hb6H
        generalize H33.put b (tcC room pv Kn4) = H34 at *
        have l9 : loadN 2 (.ptr b9 0) H34 = some (.agg (prI (((fewF room (p :: pg.drop (t + 1)) s : Nat) : Int), c))) := loadN_at (cells := prI (((fewF room (p :: pg.drop (t + 1)) s : Nat) : Int), c)) h9'
        try simp only [letO_some, l9]
        refine storeA_of (cs := prI (((fewF room (p :: pg.drop (t + 1)) s : Nat) : Int), c)) h6' rfl rfl rfl (by simp [prI]) ?_
        have hsp : splice [.int .i64 0, .int .i64 0] 0 (prI (((fewF room (p :: pg.drop (t + 1)) s : Nat) : Int), c)) = prI (((fewF room (p :: pg.drop (t + 1)) s : Nat) : Int), c) := rfl
        rw [hsp]
        have l6 : loadN 2 (.ptr b6 0) (H34.put b6 (prI (((fewF room (p :: pg.drop (t + 1)) s : Nat) : Int), c))) = some (.agg (prI (((fewF room (p :: pg.drop (t + 1)) s : Nat) : Int), c))) := loadN_at (cells := prI (((fewF room (p :: pg.drop (t + 1)) s : Nat) : Int), c)) Heap.put_same
        try simp only [letO_some, l6]
        exact endK_pub (Pub.drop (Heap.le_put hle4 hbP6)) (endK_ret (hk c Kn4 hti4))
    · have : (!((kp.1 == 0) && (kp.2 == 0))) = true := by
        obtain ⟨x, y⟩ := kp
        simp only [Bool.not_eq_true', Bool.and_eq_false_iff, beq_eq_false_iff_ne]
        by_cases hx : x = 0
        · subst hx
          right
          rintro rfl
          exact hz rfl
        · exact .inl hx
      simp only [this, condA_tt, letO_some, l7]
      refine storeA_of (cs := prI kp) h67 rfl rfl rfl (by simp [prI]) ?_
      have hsp : splice [.int .i64 0, .int .i64 0] 0 (prI kp) = prI kp := rfl
      rw [hsp]
      have l6 : loadN 2 (.ptr b6 0) (H7.put b6 (prI kp)) = some (.agg (prI kp)) := loadN_at (cells := prI kp) Heap.put_same
      simp only [l6, letO_some]
      have hk2 := hk kp.2 Kn hti
      rw [put_eq hb, ← hok hz] at hk2
      exact endK_pub (Pub.drop (Heap.le_put hle17 hb6H)) (endK_ret hk2)
end Go.Proofs.YtmmfelpgcdlgfaaDoor

namespace Go.Proofs.YtmmfelpgcdlgfaaDoor
open Go.Av
set_option linter.unusedVariables false
set_option linter.unusedSimpArgs false
set_option maxRecDepth 8000

theorem rep_prI : ∀ n : Nat, (List.replicate n ((0 : Int), (0 : Int))).flatMap prI = List.replicate (2 * n) (AV.int .i64 0)
  | 0 => rfl
  | n + 1 => by
    rw [List.replicate_succ, List.flatMap_cons, rep_prI n, show 2 * (n + 1) = 2 * n + 1 + 1 by omega, List.replicate_succ, List.replicate_succ]
    rfl
theorem b100 {room : Nat} {pv : AV} (hpv : cellsOf? pv = some [pv]) : buildF Tryd.prog 100 [(0, .agg [.int .i64 (room : Int), pv])] = some (.agg (tcC room pv (List.replicate 768 (0, 0)))) := by
  rw [buildF_of (show buildPlan Tryd.prog 100 = some (.int .i64 0 :: .nils :: List.replicate 1536 (.int .i64 0), [(0, 2), (2, 1536)]) by kernel_rfl)]
  have hc : cellsOf? (.agg [.int .i64 (room : Int), pv]) = some [.int .i64 (room : Int), pv] := rfl
  simp only [fillA, List.getElem?_cons_zero, hc]
  rw [if_pos ⟨rfl, by simp⟩, tcC, rep_prI]
  rfl
theorem b103 : buildF Tryd.prog 103 [] = some (.agg [.int .u64 0]) := by
  rw [buildF_of (show buildPlan Tryd.prog 103 = some ([.int .u64 0], [(0, 1)]) by kernel_rfl)]
  simp [fillA]
theorem f96_0 (a b : AV) : fieldF Tryd.prog 96 (.agg [a, b]) 0 = some a := by
  have h : (match Tryd.prog.underlying 96 with | some (.struct fs) => (match fs[0]? with | some f => f.offset == 0 && (match Tryd.prog.underlying f.type with | some d => !isAggD d | none => false) | none => false) | _ => false) = true := by kernel_rfl
  split at h <;> try cases h
  rename_i fs hu
  split at h <;> try cases h
  rename_i f hf
  simp only [Bool.and_eq_true, beq_iff_eq] at h
  obtain ⟨ho, h⟩ := h
  split at h <;> try cases h
  rename_i d hd
  simp only [fieldF, hu, hf, partF, hd, ho]
  have : isAggD d = false := by simpa using h
  rw [this]
  rfl
/-- stand.Fewest -/
theorem c17 {room : Nat} {pv : AV} {pg : List Nat} {H : Heap} {K : AV → Heap → Prop} (h1 : 1 ≤ room) (h5 : room ≤ 5) (hv : Reads H pv (up pg)) (hl : pg.length ≤ 12) (hp : ∀ p ∈ pg, p < 6) (hk : K (.tup [.int .i64 (fewF room pg 0 : Nat), .int .i64 0]) H) :
    ACalls Tryd.prog 17 [.agg [.int .i64 (room : Int), pv]] H K := by
  apply W17_ok
  unfold W17
  have hc := hv.cells
  have hld : ∀ H', loadN 2 (.iptr [.int .i64 (room : Int), pv]) H' = some (.agg [.int .i64 (room : Int), pv]) := fun _ => rfl
  have e0 : ((0 : Int) != 0) = false := rfl
  simp only [letO_some, cellsOf?_agg, cellsOf?_int, cellsOf?_bool, cellsOf?_imm, cellsOf?_ref, cellsOf?_nils, faddr_iptr, faddr_ptr, List.drop_succ_cons, List.drop_zero, List.take_succ_cons, List.take_zero, load1_iptr, loadN_iptr, List.length_cons, List.length_nil, Nat.le_refl, if_true, List.getElem?_cons_zero, List.getElem?_cons_succ, List.getD_cons_zero, List.getD_cons_succ, extrF_tup, binF_add, binF_sub, binF_mul, binF_eql, binF_neq, binF_lss, binF_leq, binF_gtr, binF_geq, true_and, hld]
  refine c43 h1 h5 hv hl hp ?_
  simp only [letO_some, cellsOf?_agg, cellsOf?_int, cellsOf?_bool, cellsOf?_imm, cellsOf?_ref, cellsOf?_nils, faddr_iptr, faddr_ptr, List.drop_succ_cons, List.drop_zero, List.take_succ_cons, List.take_zero, load1_iptr, loadN_iptr, List.length_cons, List.length_nil, Nat.le_refl, if_true, List.getElem?_cons_zero, List.getElem?_cons_succ, List.getD_cons_zero, List.getD_cons_succ, extrF_tup, binF_add, binF_sub, binF_mul, binF_eql, binF_neq, binF_lss, binF_leq, binF_gtr, binF_geq, true_and, e0, condA_ff, hld, b100 hc, b103]
  refine alloc_ fun b hb => ?_
  have hoff := reads_isOff hv hb
  have hle := Heap.le_new (c := tcC room pv (List.replicate 768 (0, 0))) hb
  try simp only [letO_some, cellsOf?_agg, cellsOf?_int, cellsOf?_bool, cellsOf?_imm, cellsOf?_ref, cellsOf?_nils, faddr_iptr, faddr_ptr, List.drop_succ_cons, List.drop_zero, List.take_succ_cons, List.take_zero, load1_iptr, loadN_iptr, List.length_cons, List.length_nil, Nat.le_refl, if_true, List.getElem?_cons_zero, List.getElem?_cons_succ, List.getD_cons_zero, List.getD_cons_succ, extrF_tup, binF_add, binF_sub, binF_mul, binF_eql, binF_neq, binF_lss, binF_leq, binF_gtr, binF_geq, true_and]
  refine c44 h1 h5 hp hl hv.scalar pg.length 0 0 (by omega) (by omega) Heap.put_same ⟨by simp, fun t s ht hs hne => ?_⟩ (hv.le hle) hoff fun c Kn' _ => ?_
  · have : t * 64 + s < 768 := by omega
    rw [List.getD_eq_getElem?_getD, List.getElem?_replicate, if_pos this] at hne
    exact absurd rfl hne
  · rw [List.drop_zero, Heap.put_put]
    simp only [f96_0, letO_some, cellsOf?_agg, cellsOf?_int, cellsOf?_bool, cellsOf?_imm, cellsOf?_ref, cellsOf?_nils, faddr_iptr, faddr_ptr, List.drop_succ_cons, List.drop_zero, List.take_succ_cons, List.take_zero, load1_iptr, loadN_iptr, List.length_cons, List.length_nil, Nat.le_refl, if_true, List.getElem?_cons_zero, List.getElem?_cons_succ, List.getD_cons_zero, List.getD_cons_succ, extrF_tup, binF_add, binF_sub, binF_mul, binF_eql, binF_neq, binF_lss, binF_leq, binF_gtr, binF_geq, true_and]
    exact endK_pub (Pub.drop (Heap.le_new hb)) (endK_ret hk)
theorem b47 {x y : AV} (hx : cellsOf? x = some [x]) (hy : cellsOf? y = some [y]) : buildF Tryd.prog 47 [(0, x), (1, y)] = some (.agg [x, y]) := by
  rw [buildF_of (show buildPlan Tryd.prog 47 = some ([.int .i64 0, .nils], [(0, 1), (1, 1)]) by kernel_rfl)]
  simp [fillA, hx, hy, splice]
theorem b47n {x : AV} (hx : cellsOf? x = some [x]) : buildF Tryd.prog 47 [(0, x)] = some (.agg [x, .nils]) := by
  rw [buildF_of (show buildPlan Tryd.prog 47 = some ([.int .i64 0, .nils], [(0, 1), (1, 1)]) by kernel_rfl)]
  simp [fillA, hx, splice]
theorem l35_5 (a b c d e : Int) : literalF Tryd.prog 35 5 [(0, .int .i64 a), (1, .int .i64 b), (2, .int .i64 c), (3, .int .i64 d), (4, .int .i64 e)] = some (ints [a, b, c, d, e]) := by
  rw [literalF_of (show literalPlan Tryd.prog 35 = some ([.int .i64 0], 1) by kernel_rfl) (by decide) (by simp)]
  simp [fillA, splice, rowOf, ints, List.range_succ]
/-- standsWork -/
theorem c18 {H : Heap} {K : AV → Heap → Prop} (hk : K (.bool true) H) : ACalls Tryd.prog 18 [] H K := by
  apply W18_ok
  unfold W18
  simp only [letO_some, cellsOf?_agg, cellsOf?_int, cellsOf?_bool, cellsOf?_imm, cellsOf?_ref, cellsOf?_nils, faddr_iptr, faddr_ptr, List.drop_succ_cons, List.drop_zero, List.take_succ_cons, List.take_zero, load1_iptr, loadN_iptr, List.length_cons, List.length_nil, Nat.le_refl, if_true, List.getElem?_cons_zero, List.getElem?_cons_succ, List.getD_cons_zero, List.getD_cons_succ, extrF_tup, binF_add, binF_sub, binF_mul, binF_eql, binF_neq, binF_lss, binF_leq, binF_gtr, binF_geq, true_and, l35_5]
  refine c24 ?_
  have hb := b47 (x := .int .i64 2) (y := .imm 5 true (ints [0, 1, 2, 0, 1])) rfl rfl
  simp only [letO_some, cellsOf?_agg, cellsOf?_int, cellsOf?_bool, cellsOf?_imm, cellsOf?_ref, cellsOf?_nils, faddr_iptr, faddr_ptr, List.drop_succ_cons, List.drop_zero, List.take_succ_cons, List.take_zero, load1_iptr, loadN_iptr, List.length_cons, List.length_nil, Nat.le_refl, if_true, List.getElem?_cons_zero, List.getElem?_cons_succ, List.getD_cons_zero, List.getD_cons_succ, extrF_tup, binF_add, binF_sub, binF_mul, binF_eql, binF_neq, binF_lss, binF_leq, binF_gtr, binF_geq, true_and, hb]
  refine c17 (room := 2) (pg := [0, 1, 2, 0, 1]) (by omega) (by omega) ⟨rfl, rfl⟩ (by decide) (by decide) ?_
  have hf : fewF 2 [0, 1, 2, 0, 1] 0 = 4 := by decide +kernel
  have e0 : ((0 : Int) == 0) = true := rfl
  have e4 : ((4 : Int) == 4) = true := rfl
  rw [hf]
  simp only [letO_some, cellsOf?_agg, cellsOf?_int, cellsOf?_bool, cellsOf?_imm, cellsOf?_ref, cellsOf?_nils, faddr_iptr, faddr_ptr, List.drop_succ_cons, List.drop_zero, List.take_succ_cons, List.take_zero, load1_iptr, loadN_iptr, List.length_cons, List.length_nil, Nat.le_refl, if_true, List.getElem?_cons_zero, List.getElem?_cons_succ, List.getD_cons_zero, List.getD_cons_succ, extrF_tup, binF_add, binF_sub, binF_mul, binF_eql, binF_neq, binF_lss, binF_leq, binF_gtr, binF_geq, true_and, e0, gval_bool, Int.reduceBNe, Int.reduceBEq, pickF_true, pickF_false, reduceIte, Bool.true_eq_false, Bool.false_eq_true, if_false, condA_tt, condA_ff, condG_tt, condG_ff, condG_tt', condG_ff', condG_undef, gval_undef, Int.cast_ofNat_Int, e4]
  refine exJ (c15 ?_)
  try simp only [letO_some, cellsOf?_agg, cellsOf?_int, cellsOf?_bool, cellsOf?_imm, cellsOf?_ref, cellsOf?_nils, faddr_iptr, faddr_ptr, List.drop_succ_cons, List.drop_zero, List.take_succ_cons, List.take_zero, load1_iptr, loadN_iptr, List.length_cons, List.length_nil, Nat.le_refl, if_true, List.getElem?_cons_zero, List.getElem?_cons_succ, List.getD_cons_zero, List.getD_cons_succ, extrF_tup, binF_add, binF_sub, binF_mul, binF_eql, binF_neq, binF_lss, binF_leq, binF_gtr, binF_geq, true_and, gval_bool, Int.reduceBNe, Int.reduceBEq, pickF_true, pickF_false, reduceIte, Bool.true_eq_false, Bool.false_eq_true, if_false, condA_tt, condA_ff, condG_tt, condG_ff, condG_tt', condG_ff', condG_undef, gval_undef]
  exact endK_ret hk
theorem slc_drop {H : Heap} {v : AV} {l : List Int} {k : Nat} (h : Reads H v l) (hk : k ≤ l.length) : ∃ v', slc 1 v (some (.int .i64 (k : Int))) none none = some v' ∧ Reads H v' (l.drop k) := by
  have n1 : ∀ d, natOf none d = some d := fun d => rfl
  have n2 : ∀ d, natOf (some (.int .i64 (k : Int))) d = some k := fun d => by simp [natOf]
  cases v <;> simp only [Reads] at h <;> try exact h.elim
  · subst h
    have : k = 0 := by simpa using hk
    subst this
    simp only [slc, n1, n2, Option.bind_some]
    exact ⟨_, rfl, rfl⟩
  · obtain ⟨rfl, rfl⟩ := h
    simp only [slc, n1, n2, Option.bind_some]
    rw [if_pos ⟨hk, Nat.le_refl _⟩]
    refine ⟨_, rfl, by simp, ?_⟩
    rw [Nat.mul_one, Nat.mul_one, ints_drop, List.take_of_length_le (by simp)]
  · rename_i s b off n cp
    obtain ⟨rfl, rfl, cells, hb, hc, ht⟩ := h
    simp only [slc, n1, n2, Option.bind_some]
    by_cases hlt : k = 0 ∨ k < l.length
    · rw [if_pos ⟨by trivial, hk, by omega, hlt⟩]
      refine ⟨_, rfl, rfl, by simp, cells, hb, by omega, ?_⟩
      rw [Nat.mul_one, ← ints_drop, ← ht, List.drop_take, List.drop_drop]
    · rw [if_neg (by omega), if_pos ⟨by omega, by omega⟩]
      have : l.drop k = [] := List.drop_of_length_le (by omega)
      rw [this]
      exact ⟨_, rfl, rfl, rfl⟩
theorem idx_of {l : List Int} {x : Int} {n : Nat} (h1 : n < l.length) (h2 : l.getD n 0 = x) (h3 : x ∉ l.take n) : l.idxOf x = n := by
  induction l generalizing n with
  | nil => simp at h1
  | cons a l ih =>
    cases n with
    | zero =>
      simp at h2; subst h2; simp
    | succ n =>
      simp at h1 h2 h3
      have e : (a == x) = false := by rw [beq_eq_false_iff_ne]; exact fun h => h3.1 h.symm
      rw [List.idxOf_cons, e, cond_false, ih h1 (by simpa using h2) h3.2]
/-- When a number is met next, from a place on. -/
def aftI (l : List Int) (x : Int) (t : Nat) : Nat := if x ∈ l.drop t then t + (l.drop t).idxOf x else 12
/-- stand.after -/
theorem c74 {room : Nat} {pv : AV} {l : List Int} {x : Int} {t : Nat} {H : Heap} {K : AV → Heap → Prop} (hv : Reads H pv l) (hl : l.length ≤ 12) (ht : t ≤ l.length) (hk : K (.int .i64 (aftI l x t : Nat)) H) :
    ACalls Tryd.prog 74 [.agg [.int .i64 (room : Int), pv], .int .i64 x, .int .i64 (t : Int)] H K := by
  apply W74_ok
  unfold W74
  have hc := hv.cells
  obtain ⟨v', s1, s2⟩ := slc_drop hv ht
  simp only [letO_some, cellsOf?_agg, cellsOf?_int, cellsOf?_bool, cellsOf?_imm, cellsOf?_ref, cellsOf?_nils, faddr_iptr, faddr_ptr, List.drop_succ_cons, List.drop_zero, List.take_succ_cons, List.take_zero, load1_iptr, loadN_iptr, List.length_cons, List.length_nil, Nat.le_refl, if_true, List.getElem?_cons_zero, List.getElem?_cons_succ, List.getD_cons_zero, List.getD_cons_succ, extrF_tup, binF_add, binF_sub, binF_mul, binF_eql, binF_neq, binF_lss, binF_leq, binF_gtr, binF_geq, true_and, s1]
  refine c38 s2 (by rw [List.length_drop]; omega) fun i h1 h2 => ?_
  try simp only [letO_some, cellsOf?_agg, cellsOf?_int, cellsOf?_bool, cellsOf?_imm, cellsOf?_ref, cellsOf?_nils, faddr_iptr, faddr_ptr, List.drop_succ_cons, List.drop_zero, List.take_succ_cons, List.take_zero, load1_iptr, loadN_iptr, List.length_cons, List.length_nil, Nat.le_refl, if_true, List.getElem?_cons_zero, List.getElem?_cons_succ, List.getD_cons_zero, List.getD_cons_succ, extrF_tup, binF_add, binF_sub, binF_mul, binF_eql, binF_neq, binF_lss, binF_leq, binF_gtr, binF_geq, true_and]
  refine condA_t (fun hc => ?_) (fun hc => ?_)
  · obtain ⟨q1, q2, q3, q4⟩ := h1 hc
    have hi := idx_of q2 q3 q4
    rw [List.length_drop] at q2
    rw [wrap_i64 (by omega) (by omega)]
    unfold aftI at hk
    rw [if_pos q1, hi] at hk
    have : (t : Int) + i = ((t + i.toNat : Nat) : Int) := by omega
    rw [this]
    exact endK_ret hk
  · obtain ⟨-, q⟩ := h2 (by omega)
    unfold aftI at hk
    rw [if_neg q] at hk
    exact endK_ret hk
def spF (l : List Int) (t : Nat) : Option (Nat × Nat) := if aftI l (l.getD t 0) (t + 1) < 12 then some (t, aftI l (l.getD t 0) (t + 1)) else none
/-- The spans. -/
def spans (l : List Int) : List (Nat × Nat) := (List.range l.length).filterMap (spF l)
theorem sp_snoc (l : List Int) (t : Nat) : (List.range (t + 1)).filterMap (spF l) = (List.range t).filterMap (spF l) ++ (spF l t).toList := by
  rw [List.range_succ, List.filterMap_append]
  congr 1
theorem sp_len (l : List Int) (t : Nat) : ((List.range t).filterMap (spF l)).length ≤ t := by
  have := List.length_filterMap_le (spF l) (List.range t)
  simpa using this
/-- stand.spans -/
theorem c45 {room : Nat} {pv : AV} {l : List Int} {H : Heap} {K : AV → Heap → Prop} (hv : Reads H pv l) (hl : l.length ≤ 12) (hk : K (.imm (spans l).length false ((spans l).flatMap prC)) H) :
    ACalls Tryd.prog 45 [.agg [.int .i64 (room : Int), pv]] H K := by
  apply W45_ok
  unfold W45
  have hc := hv.cells
  have hlen := hv.len
  have hld : ∀ H', loadN 2 (.iptr [.int .i64 (room : Int), pv]) H' = some (.agg [.int .i64 (room : Int), pv]) := fun _ => rfl
  simp only [letO_some, cellsOf?_agg, cellsOf?_int, cellsOf?_bool, cellsOf?_imm, cellsOf?_ref, cellsOf?_nils, faddr_iptr, faddr_ptr, List.drop_succ_cons, List.drop_zero, List.take_succ_cons, List.take_zero, load1_iptr, loadN_iptr, List.length_cons, List.length_nil, Nat.le_refl, if_true, List.getElem?_cons_zero, List.getElem?_cons_succ, List.getD_cons_zero, List.getD_cons_succ, extrF_tup, binF_add, binF_sub, binF_mul, binF_eql, binF_neq, binF_lss, binF_leq, binF_gtr, binF_geq, true_and, hlen]
  refine ⟨fun L H' => ∃ (i : Nat) (X : AV), eqt L [X, .int .i64 (i : Int)] ∧ i ≤ l.length ∧ Grow 2 H H' X ((List.range i).filterMap (spF l)).length (((List.range i).filterMap (spF l)).flatMap prC),
    fun L _ => (l.length - iv L 1).toNat, ⟨0, .nils, rfl, by omega, Grow.nils 2 H⟩, ?_⟩
  rintro L H1 ⟨i, X, rfl, hi, hg⟩
  have hsl := sp_len l i
  try simp only [letO_some, cellsOf?_agg, cellsOf?_int, cellsOf?_bool, cellsOf?_imm, cellsOf?_ref, cellsOf?_nils, faddr_iptr, faddr_ptr, List.drop_succ_cons, List.drop_zero, List.take_succ_cons, List.take_zero, load1_iptr, loadN_iptr, List.length_cons, List.length_nil, Nat.le_refl, if_true, List.getElem?_cons_zero, List.getElem?_cons_succ, List.getD_cons_zero, List.getD_cons_succ, extrF_tup, binF_add, binF_sub, binF_mul, binF_eql, binF_neq, binF_lss, binF_leq, binF_gtr, binF_geq, true_and]
  refine condA_t (fun hlt => ?_) (fun hge => ?_)
  · have a1 : i < l.length := by omega
    refine ⟨fun L H' => ∃ X', eqt L [X'] ∧ Grow 2 H H' X' ((List.range (i + 1)).filterMap (spF l)).length (((List.range (i + 1)).filterMap (spF l)).flatMap prC), ?_, ?_⟩
    · refine Reads.get hg.le hv (by omega) (by omega) ?_
      rw [Int.toNat_natCast]
      have w1 : IntKind.i64.wrap ((i : Int) + 1) = ((i + 1 : Nat) : Int) := by rw [wrap_i64 (by omega) (by omega)]; omega
      simp only [letO_some, cellsOf?_agg, cellsOf?_int, cellsOf?_bool, cellsOf?_imm, cellsOf?_ref, cellsOf?_nils, faddr_iptr, faddr_ptr, List.drop_succ_cons, List.drop_zero, List.take_succ_cons, List.take_zero, load1_iptr, loadN_iptr, List.length_cons, List.length_nil, Nat.le_refl, if_true, List.getElem?_cons_zero, List.getElem?_cons_succ, List.getD_cons_zero, List.getD_cons_succ, extrF_tup, binF_add, binF_sub, binF_mul, binF_eql, binF_neq, binF_lss, binF_leq, binF_gtr, binF_geq, true_and, hld, w1]
      refine c74 (hv.le hg.le) hl (by omega) ?_
      rw [sp_snoc]
      unfold spF
      generalize aftI l (l.getD i 0) (i + 1) = u
      try simp only [letO_some, cellsOf?_agg, cellsOf?_int, cellsOf?_bool, cellsOf?_imm, cellsOf?_ref, cellsOf?_nils, faddr_iptr, faddr_ptr, List.drop_succ_cons, List.drop_zero, List.take_succ_cons, List.take_zero, load1_iptr, loadN_iptr, List.length_cons, List.length_nil, Nat.le_refl, if_true, List.getElem?_cons_zero, List.getElem?_cons_succ, List.getD_cons_zero, List.getD_cons_succ, extrF_tup, binF_add, binF_sub, binF_mul, binF_eql, binF_neq, binF_lss, binF_leq, binF_gtr, binF_geq, true_and]
      refine condA_t (fun hc => ?_) (fun hc => ?_)
      · rw [if_pos (by omega)]
        simp only [b30, letO_some, l24_1]
        refine appendA_growR hg (m := 1) (new := prC (i, u)) (by simp [srcOf, prC]) rfl rfl (by omega) (by omega) (by omega) fun v' H7 hg7 ho7 => ?_
        try simp only [letO_some, cellsOf?_agg, cellsOf?_int, cellsOf?_bool, cellsOf?_imm, cellsOf?_ref, cellsOf?_nils, faddr_iptr, faddr_ptr, List.drop_succ_cons, List.drop_zero, List.take_succ_cons, List.take_zero, load1_iptr, loadN_iptr, List.length_cons, List.length_nil, Nat.le_refl, if_true, List.getElem?_cons_zero, List.getElem?_cons_succ, List.getD_cons_zero, List.getD_cons_succ, extrF_tup, binF_add, binF_sub, binF_mul, binF_eql, binF_neq, binF_lss, binF_leq, binF_gtr, binF_geq, true_and]
        refine ⟨v', rfl, ?_⟩
        rw [Option.toList_some, l24_dec, List.length_append]
        exact hg7
      · rw [if_neg (by omega), Option.toList_none, List.append_nil]
        exact ⟨X, rfl, hg⟩
    · rintro L H2 ⟨X', rfl, hg'⟩
      try simp only [letO_some, cellsOf?_agg, cellsOf?_int, cellsOf?_bool, cellsOf?_imm, cellsOf?_ref, cellsOf?_nils, faddr_iptr, faddr_ptr, List.drop_succ_cons, List.drop_zero, List.take_succ_cons, List.take_zero, load1_iptr, loadN_iptr, List.length_cons, List.length_nil, Nat.le_refl, if_true, List.getElem?_cons_zero, List.getElem?_cons_succ, List.getD_cons_zero, List.getD_cons_succ, extrF_tup, binF_add, binF_sub, binF_mul, binF_eql, binF_neq, binF_lss, binF_leq, binF_gtr, binF_geq, true_and]
      rw [wrap_i64 (by omega) (by omega)]
      exact ⟨⟨i + 1, X', rfl, by omega, hg'⟩, by simp [iv]; omega⟩
  · have hie : i = l.length := by omega
    subst hie
    exact hg.end1 hk
/-- stand.Spans -/
theorem c19 {room : Nat} {pv : AV} {pg : List Nat} {H : Heap} {K : AV → Heap → Prop} (h1 : 1 ≤ room) (h5 : room ≤ 5) (hv : Reads H pv (up pg)) (hl : pg.length ≤ 12) (hp : ∀ p ∈ pg, p < 6) (hk : K (.tup [.imm (spans (up pg)).length false ((spans (up pg)).flatMap prC), .int .i64 0]) H) :
    ACalls Tryd.prog 19 [.agg [.int .i64 (room : Int), pv]] H K := by
  apply W19_ok
  unfold W19
  have hc := hv.cells
  have hld : ∀ H', loadN 2 (.iptr [.int .i64 (room : Int), pv]) H' = some (.agg [.int .i64 (room : Int), pv]) := fun _ => rfl
  have e0 : ((0 : Int) != 0) = false := rfl
  simp only [letO_some, cellsOf?_agg, cellsOf?_int, cellsOf?_bool, cellsOf?_imm, cellsOf?_ref, cellsOf?_nils, faddr_iptr, faddr_ptr, List.drop_succ_cons, List.drop_zero, List.take_succ_cons, List.take_zero, load1_iptr, loadN_iptr, List.length_cons, List.length_nil, Nat.le_refl, if_true, List.getElem?_cons_zero, List.getElem?_cons_succ, List.getD_cons_zero, List.getD_cons_succ, extrF_tup, binF_add, binF_sub, binF_mul, binF_eql, binF_neq, binF_lss, binF_leq, binF_gtr, binF_geq, true_and, hld]
  refine c43 h1 h5 hv hl hp ?_
  simp only [letO_some, cellsOf?_agg, cellsOf?_int, cellsOf?_bool, cellsOf?_imm, cellsOf?_ref, cellsOf?_nils, faddr_iptr, faddr_ptr, List.drop_succ_cons, List.drop_zero, List.take_succ_cons, List.take_zero, load1_iptr, loadN_iptr, List.length_cons, List.length_nil, Nat.le_refl, if_true, List.getElem?_cons_zero, List.getElem?_cons_succ, List.getD_cons_zero, List.getD_cons_succ, extrF_tup, binF_add, binF_sub, binF_mul, binF_eql, binF_neq, binF_lss, binF_leq, binF_gtr, binF_geq, true_and, e0, condA_ff, hld]
  refine c45 hv (by rw [up_length]; omega) ?_
  try simp only [letO_some, cellsOf?_agg, cellsOf?_int, cellsOf?_bool, cellsOf?_imm, cellsOf?_ref, cellsOf?_nils, faddr_iptr, faddr_ptr, List.drop_succ_cons, List.drop_zero, List.take_succ_cons, List.take_zero, load1_iptr, loadN_iptr, List.length_cons, List.length_nil, Nat.le_refl, if_true, List.getElem?_cons_zero, List.getElem?_cons_succ, List.getD_cons_zero, List.getD_cons_succ, extrF_tup, binF_add, binF_sub, binF_mul, binF_eql, binF_neq, binF_lss, binF_leq, binF_gtr, binF_geq, true_and]
  exact endK_ret hk
end Go.Proofs.YtmmfelpgcdlgfaaDoor

/- Spans that cannot both be saved: all lists of at most six pages are tried. -/
namespace Go.Proofs.YtmmfelpgcdlgfaaDoor
set_option linter.unusedVariables false

/-- Two spans have a time in common. -/
def clash (x y : Nat × Nat) : Bool := decide (max x.1 y.1 + 1 < min x.2 y.2)
def conF (l : List (Nat × Nat)) (i k : Nat) : Option (Nat × Nat) := if clash (l.getD i (0, 0)) (l.getD k (0, 0)) then some (k, i) else none
def conP (l : List (Nat × Nat)) (i : Nat) : List (Nat × Nat) := (List.range i).filterMap (conF l i)
/-- The pairs that clash. -/
def confP (l : List (Nat × Nat)) : List (Nat × Nat) := (List.range l.length).flatMap (conP l)
def ndB : List (Nat × Nat) → Bool
  | [] => true
  | a :: l => l.all (fun b => !(a.1 == b.1 && a.2 == b.2)) && ndB l
theorem nd_of : ∀ {l : List (Nat × Nat)}, ndB l = true → l.Pairwise (· ≠ ·)
  | [], _ => List.Pairwise.nil
  | a :: l, h => by
    rw [ndB, Bool.and_eq_true, List.all_eq_true] at h
    rw [List.pairwise_cons]
    refine ⟨fun b hb he => ?_, nd_of h.2⟩
    subst he
    have := h.1 a hb
    simp at this
def pop5 (s : Nat) : Nat := s % 2 + s / 2 % 2 + s / 4 % 2 + s / 8 % 2 + s / 16 % 2
theorem pop_ok : ∀ s : Fin 32, pop5 s.val = (lsN s.val).length := by decide +kernel
/-- What is tried for each list of pages. -/
def chkS (pg : List Nat) : Bool :=
  match spans (up pg) with
  | l => match confP l with
    | P => match fewF 2 pg 0 + l.length - pg.length with
      | m => decide (l.length ≤ 5) && decide (pg.length ≤ fewF 2 pg 0 + l.length) && decide (P.length ≤ 10) && ndB P && P.all (fun r => decide (r.1 < r.2) && decide (r.2 < l.length)) &&
        (List.range (2 ^ l.length)).any (fun s => expl P s && pop5 s == m) && (List.range (2 ^ l.length)).all (fun s => !expl P s || decide (m ≤ pop5 s))
def allL : Nat → List (List Nat)
  | 0 => [[]]
  | n + 1 => (allL n).flatMap fun l => [0 :: l, 1 :: l, 2 :: l, 3 :: l]
theorem mem_allL : ∀ (l : List Nat), (∀ p ∈ l, p < 4) → l ∈ allL l.length
  | [], _ => by simp [allL]
  | p :: l, h => by
    rw [List.length_cons, allL, List.mem_flatMap]
    refine ⟨l, mem_allL l fun q hq => h q (List.mem_cons_of_mem _ hq), ?_⟩
    have : p < 4 := h p (by simp)
    have : p = 0 ∨ p = 1 ∨ p = 2 ∨ p = 3 := by omega
    rcases this with rfl | rfl | rfl | rfl <;> simp
set_option maxRecDepth 100000
theorem try0 : (allL 0).all chkS = true := by decide +kernel
theorem try1 : (allL 1).all chkS = true := by decide +kernel
theorem try2 : (allL 2).all chkS = true := by decide +kernel
theorem try3 : (allL 3).all chkS = true := by decide +kernel
theorem try4 : (allL 4).all chkS = true := by decide +kernel
theorem try5 : (allL 5).all chkS = true := by decide +kernel
theorem try60 : (allL 5).all (fun l => chkS (0 :: l)) = true := by decide +kernel
theorem try61 : (allL 5).all (fun l => chkS (1 :: l)) = true := by decide +kernel
theorem try62 : (allL 5).all (fun l => chkS (2 :: l)) = true := by decide +kernel
theorem try63 : (allL 5).all (fun l => chkS (3 :: l)) = true := by decide +kernel
theorem try_all {pg : List Nat} (hl : pg.length ≤ 6) (hp : ∀ p ∈ pg, p < 4) : chkS pg = true := by
  have hm := mem_allL pg hp
  have h : pg.length = 0 ∨ pg.length = 1 ∨ pg.length = 2 ∨ pg.length = 3 ∨ pg.length = 4 ∨ pg.length = 5 ∨ pg.length = 6 := by omega
  rcases h with h | h | h | h | h | h | h
  · rw [h] at hm; exact List.all_eq_true.1 try0 _ hm
  · rw [h] at hm; exact List.all_eq_true.1 try1 _ hm
  · rw [h] at hm; exact List.all_eq_true.1 try2 _ hm
  · rw [h] at hm; exact List.all_eq_true.1 try3 _ hm
  · rw [h] at hm; exact List.all_eq_true.1 try4 _ hm
  · rw [h] at hm; exact List.all_eq_true.1 try5 _ hm
  · match pg, h, hp with
    | p :: l, h, hp =>
      have h5 : l.length = 5 := by simpa using h
      have hm5 := mem_allL l fun q hq => hp q (List.mem_cons_of_mem _ hq)
      rw [h5] at hm5
      have : p < 4 := hp p (by simp)
      have : p = 0 ∨ p = 1 ∨ p = 2 ∨ p = 3 := by omega
      rcases this with rfl | rfl | rfl | rfl
      · exact List.all_eq_true.1 try60 _ hm5
      · exact List.all_eq_true.1 try61 _ hm5
      · exact List.all_eq_true.1 try62 _ hm5
      · exact List.all_eq_true.1 try63 _ hm5
/-- What TopSpans says. -/
theorem spans_law {pg : List Nat} (hl : pg.length ≤ 6) (hp : ∀ p ∈ pg, p < 4) :
    (spans (up pg)).length ≤ 5 ∧ pg.length ≤ fewF 2 pg 0 + (spans (up pg)).length ∧ (1 ≤ (spans (up pg)).length → Fd (spans (up pg)).length (confP (spans (up pg)))) ∧
    fewF 2 pg 0 + (spans (up pg)).length = pg.length + (shS (spans (up pg)).length (confP (spans (up pg)))).1.length := by
  have h := try_all hl hp
  rw [chkS] at h
  generalize spans (up pg) = l at *
  generalize confP l = P at *
  simp only [Bool.and_eq_true, decide_eq_true_eq, List.all_eq_true, List.any_eq_true, beq_iff_eq, List.mem_range, Bool.or_eq_true, Bool.not_eq_true'] at h
  obtain ⟨⟨⟨⟨⟨⟨h1, h2⟩, h3⟩, h4⟩, h5⟩, s, hs, he, hm⟩, h7⟩ := h
  have h32 : 2 ^ l.length ≤ 2 ^ 5 := Nat.pow_le_pow_right (by omega) h1
  have pok : ∀ s, s < 2 ^ l.length → pop5 s = (lsN s).length := fun s hs => pop_ok ⟨s, by omega⟩
  refine ⟨h1, h2, fun h0 => ⟨h0, by omega, fun r hr => h5 r hr, nd_of h4, h3⟩, ?_⟩
  obtain ⟨-, i2, i3⟩ := sh_inv P (List.range (2 ^ l.length))
  have hd : (List.range (2 ^ l.length)).foldl (shF P) ([], 0) = shS l.length P := rfl
  rw [hd] at i2 i3
  obtain ⟨i4, i5⟩ := i2 s (List.mem_range.2 hs) he
  obtain ⟨t, t1, t2, t3⟩ := i3 i5
  have ht := List.mem_range.1 t1
  have h8 : fewF 2 pg 0 + l.length - pg.length ≤ (lsN t).length := by
    rcases h7 t ht with h9 | h9
    · rw [t2] at h9; cases h9
    · rw [pok t ht] at h9; exact h9
  rw [pok s hs] at hm
  rw [t3] at h8
  omega
end Go.Proofs.YtmmfelpgcdlgfaaDoor

/- Settings, from below. -/
namespace Go.Proofs.YtmmfelpgcdlgfaaDoor
set_option linter.unusedVariables false

/-- Settings if nothing ever goes. -/
def infF : List Nat → Nat → Nat
  | [], _ => 0
  | p :: ps, s => if s.testBit p then infF ps s else 1 + infF ps (s ||| 2 ^ p)
theorem or_bit (s p x : Nat) : (s ||| 2 ^ p).testBit x = (s.testBit x || decide (p = x)) := by
  rw [Nat.testBit_or, Nat.testBit_two_pow]
theorem inf_mono : ∀ (ps : List Nat) (s t : Nat), (∀ x, s.testBit x = true → t.testBit x = true) → infF ps t ≤ infF ps s := by
  intro ps
  induction ps with
  | nil => intro s t _; exact Nat.le_refl _
  | cons p ps ih =>
    intro s t h
    rw [infF, infF]
    by_cases ht : t.testBit p = true
    · rw [if_pos ht]
      by_cases hs : s.testBit p = true
      · rw [if_pos hs]; exact ih s t h
      · rw [if_neg hs]
        refine Nat.le_trans (ih (s ||| 2 ^ p) t fun x hx => ?_) (by omega)
        rw [or_bit, Bool.or_eq_true, decide_eq_true_eq] at hx
        rcases hx with hx | rfl
        · exact h x hx
        · exact ht
    · have hs : ¬ s.testBit p = true := fun hs => ht (h p hs)
      rw [if_neg ht, if_neg hs]
      have := ih (s ||| 2 ^ p) (t ||| 2 ^ p) fun x hx => by
        rw [or_bit, Bool.or_eq_true] at hx ⊢
        exact hx.imp (h x) id
      omega
theorem clr_sub : ∀ s : Fin 64, ∀ g : Fin 6, ∀ x : Fin 7, (clrN s.val g.val).testBit x.val = (s.val.testBit x.val && decide (x.val ≠ g.val)) := by decide +kernel
theorem bit64 {s x : Nat} (h : s < 64) (hx : s.testBit x = true) : x < 6 := bit_lt (n := 6) h hx
theorem clr_bit {s g x : Nat} (hs : s < 64) (hg : g < 6) (h : (clrN s g).testBit x = true) : s.testBit x = true ∧ x ≠ g := by
  obtain ⟨-, hc⟩ := clr_ok ⟨s, hs⟩ ⟨g, hg⟩
  have hx := bit64 hc h
  have := clr_sub ⟨s, hs⟩ ⟨g, hg⟩ ⟨x, by omega⟩
  simp only at this
  rw [this] at h
  simpa using h
theorem min_mem {l : List Nat} (h : l ≠ []) : minL l ∈ l := by
  induction l using snoc_ind with
  | h0 => exact absurd rfl h
  | h1 l a ih =>
    by_cases hl : l = []
    · subst hl; simp [minL]
    · rw [min_snoc hl, List.mem_append]
      have := ih hl
      by_cases hm : minL l ≤ a
      · rw [Nat.min_eq_left hm]; exact .inl this
      · rw [Nat.min_eq_right (by omega)]; simp
theorem ls_add : ∀ s : Fin 64, ∀ p : Fin 6, s.val.testBit p.val = false → (lsN (s.val ||| 2 ^ p.val)).length = (lsN s.val).length + 1 := by decide +kernel
theorem ls_swap : ∀ s : Fin 64, ∀ p : Fin 6, ∀ g : Fin 6, s.val.testBit p.val = false → s.val.testBit g.val = true → (lsN (clrN s.val g.val ||| 2 ^ p.val)).length = (lsN s.val).length := by decide +kernel
/-- One setting more. -/
theorem few_step {room p s : Nat} {ps : List Nat} (hr : 1 ≤ room) (hs : s < 64) (hp : p < 6) (hb : s.testBit p = false) (hc : (lsN s).length ≤ room) :
    ∃ s', fewF room (p :: ps) s = 1 + fewF room ps s' ∧ s' < 64 ∧ (lsN s').length ≤ room ∧ ∀ x, s'.testBit x = true → x = p ∨ s.testBit x = true := by
  rw [fewF, if_neg (by simp [hb])]
  split
  · rename_i hlt
    refine ⟨s ||| 2 ^ p, rfl, with_ok ⟨s, hs⟩ ⟨p, hp⟩, ?_, fun x hx => ?_⟩
    · have := ls_add ⟨s, hs⟩ ⟨p, hp⟩ hb
      simp only at this; omega
    · rw [or_bit, Bool.or_eq_true, decide_eq_true_eq] at hx
      rcases hx with hx | rfl
      · exact .inr hx
      · exact .inl rfl
  · rename_i hge
    have hne : (lsN s).map (fun g => 1 + fewF room ps (clrN s g ||| 2 ^ p)) ≠ [] := by
      intro h
      have := congrArg List.length h
      rw [List.length_map, List.length_nil] at this
      omega
    obtain ⟨g, hg, he⟩ := List.mem_map.1 (min_mem hne)
    have hgm := ls_mem.1 hg
    have hg6 := bit64 hs hgm.2
    obtain ⟨-, hcl⟩ := clr_ok ⟨s, hs⟩ ⟨g, hg6⟩
    refine ⟨clrN s g ||| 2 ^ p, he.symm, with_ok ⟨clrN s g, hcl⟩ ⟨p, hp⟩, ?_, fun x hx => ?_⟩
    · have := ls_swap ⟨s, hs⟩ ⟨p, hp⟩ ⟨g, hg6⟩ hb hgm.2
      simp only at this; omega
    · rw [or_bit, Bool.or_eq_true, decide_eq_true_eq] at hx
      rcases hx with hx | rfl
      · exact .inr (clr_bit hs hg6 hx).1
      · exact .inl rfl
theorem few_in {room p s : Nat} {ps : List Nat} (hb : s.testBit p = true) : fewF room (p :: ps) s = fewF room ps s := by rw [fewF, if_pos hb]
/-- At least as many as different pages. -/
theorem few_ge {room : Nat} (hr : 1 ≤ room) : ∀ (ps : List Nat) (s : Nat), (∀ p ∈ ps, p < 6) → s < 64 → (lsN s).length ≤ room → infF ps s ≤ fewF room ps s := by
  intro ps
  induction ps with
  | nil => intro s _ _ _; simp [infF]
  | cons p ps ih =>
    intro s hp hs hc
    have hp' := fun q hq => hp q (List.mem_cons_of_mem _ hq)
    rw [infF]
    cases hb : s.testBit p
    · obtain ⟨s', e1, e2, e3, e4⟩ := few_step (ps := ps) hr hs (hp p (by simp)) hb hc
      rw [e1]
      simp only [Bool.false_eq_true, if_false]
      have h1 := ih s' hp' e2 e3
      have h2 := inf_mono ps s' (s ||| 2 ^ p) fun x hx => by
        rw [or_bit, Bool.or_eq_true, decide_eq_true_eq]
        rcases e4 x hx with rfl | h
        · exact .inr rfl
        · exact .inl h
      omega
    · rw [few_in hb]
      simp only [if_true]
      exact ih s hp' hs hc
theorem room_ok : ∀ k : Fin 7, ∀ s : Fin 64, ∀ p : Fin 6, s.val < 2 ^ k.val → p.val < k.val → s.val.testBit p.val = false → (lsN s.val).length < k.val := by decide +kernel
/-- With room for all. -/
theorem few_all {k : Nat} (hk : k ≤ 6) : ∀ (ps : List Nat) (s : Nat), (∀ p ∈ ps, p < k) → s < 2 ^ k → fewF k ps s = infF ps s := by
  intro ps
  induction ps with
  | nil => intro s _ _; rfl
  | cons p ps ih =>
    intro s hp hs
    have hp' := fun q hq => hp q (List.mem_cons_of_mem _ hq)
    have hpk := hp p (by simp)
    have h2 : 2 ^ k ≤ 2 ^ 6 := Nat.pow_le_pow_right (by omega) hk
    rw [infF, fewF]
    cases hb : s.testBit p
    · simp only [Bool.false_eq_true, if_false]
      have := room_ok ⟨k, by omega⟩ ⟨s, by omega⟩ ⟨p, by omega⟩ hs hpk hb
      simp only at this
      rw [if_pos this, ih (s ||| 2 ^ p) hp' (Nat.or_lt_two_pow hs (Nat.pow_lt_pow_right (by omega) hpk))]
    · simp only [if_true]
      exact ih s hp' hs
/-- Different pages are counted. -/
def dcF (st : Nat × Nat) (p : Nat) : Nat × Nat := if st.1.testBit p then st else (st.1 ||| 2 ^ p, st.2 + 1)
theorem dc_inf : ∀ (ps : List Nat) (s m : Nat), (ps.foldl dcF (s, m)).2 = m + infF ps s := by
  intro ps
  induction ps with
  | nil => intro s m; rfl
  | cons p ps ih =>
    intro s m
    rw [List.foldl_cons, infF, dcF]
    cases hb : s.testBit p
    · simp only [Bool.false_eq_true, if_false]
      rw [ih]; omega
    · simp only [if_true]
      exact ih s m
/-- How many arches. -/
def arcC (k : Nat) : List Nat → List Nat → Nat
  | _, [] => 0
  | met, p :: ps => if (addM met p).length = k then 1 + arcC k [] ps else arcC k (addM met p) ps
theorem addM_map (met : List Nat) (p : Nat) : addM (met.map (97 + ·)) (97 + p) = (addM met p).map (97 + ·) := by
  unfold addM
  have : 97 + p ∈ met.map (97 + ·) ↔ p ∈ met := by
    rw [List.mem_map]
    constructor
    · rintro ⟨a, h1, h2⟩
      have : a = p := by omega
      exact this ▸ h1
    · exact fun h => ⟨p, h, rfl⟩
  by_cases h : p ∈ met
  · rw [if_pos h, if_pos (this.2 h)]
  · rw [if_neg h, if_neg fun h2 => h (this.1 h2)]; simp
theorem arc_len (k : Nat) : ∀ (ps met : List Nat) (pos : Nat), (arcS (k : Int) pos (met.map (97 + ·)) (ps.map (97 + ·))).length = arcC k met ps := by
  intro ps
  induction ps with
  | nil => intro met pos; rfl
  | cons p ps ih =>
    intro met pos
    rw [List.map_cons, arcS, arcC, addM_map, List.length_map]
    by_cases h : (addM met p).length = k
    · rw [if_pos (by omega), if_pos h, List.length_cons]
      have := ih [] (pos + 1)
      rw [List.map_nil] at this
      rw [this]; omega
    · rw [if_neg (by omega), if_neg h]
      exact ih _ _
theorem arc_le (k : Nat) : ∀ (ps met : List Nat), arcC k met ps ≤ ps.length := by
  intro ps
  induction ps with
  | nil => intro met; exact Nat.le_refl _
  | cons p ps ih =>
    intro met
    rw [arcC, List.length_cons]
    split
    · have := ih []; omega
    · have := ih (addM met p); omega
theorem sub_len : ∀ (a b : List Nat), a.Nodup → (∀ x ∈ a, x ∈ b) → a.length ≤ b.length := by
  intro a
  induction a with
  | nil => intro b _ _; simp
  | cons x a ih =>
    intro b hn hs
    rw [List.nodup_cons] at hn
    have hx := hs x (by simp)
    have h1 := ih (b.erase x) hn.2 fun y hy => by
      have hne : y ≠ x := fun h => hn.1 (h ▸ hy)
      exact (List.mem_erase_of_ne hne).2 (hs y (List.mem_cons_of_mem _ hy))
    rw [List.length_erase_of_mem hx] at h1
    have := List.length_pos_of_mem hx
    rw [List.length_cons]
    omega
theorem addM_mem {met : List Nat} {p x : Nat} : x ∈ addM met p ↔ x ∈ met ∨ x = p := by
  unfold addM
  split
  · rename_i h
    constructor
    · exact .inl
    · rintro (h2 | rfl)
      · exact h2
      · exact h
  · simp
theorem addM_nodup {met : List Nat} {p : Nat} (h : met.Nodup) : (addM met p).Nodup := by
  unfold addM
  split
  · exact h
  · rename_i hn
    rw [List.nodup_append]
    exact ⟨h, by simp, fun a ha b hb => by simp at hb; subst hb; exact fun e => hn (e ▸ ha)⟩
/-- Each arch has a setting. -/
theorem arc_few {k : Nat} (hk : 2 ≤ k) : ∀ (ps met : List Nat) (s : Nat), (∀ p ∈ ps, p < 6) → met.Nodup → s < 64 → (lsN s).length ≤ k - 1 →
    ((∀ x ∈ met, s.testBit x = true) → arcC k met ps ≤ fewF (k - 1) ps s) ∧ arcC k met ps ≤ fewF (k - 1) ps s + 1 := by
  intro ps
  induction ps with
  | nil => intro met s _ _ _ _; simp [arcC]
  | cons p ps ih =>
    intro met s hp hn hs hc
    have hp' := fun q hq => hp q (List.mem_cons_of_mem _ hq)
    have hpp := hp p (by simp)
    have hn' := addM_nodup (p := p) hn
    rw [arcC]
    cases hb : s.testBit p
    · obtain ⟨s', e1, e2, e3, e4⟩ := few_step (ps := ps) (room := k - 1) (by omega) hs hpp hb hc
      rw [e1]
      have i0 := (ih [] s' hp' List.nodup_nil e2 e3).1 (by simp)
      have i1 := (ih (addM met p) s' hp' hn' e2 e3).2
      constructor
      · intro _; split <;> omega
      · split <;> omega
    · rw [few_in hb]
      have i0 := ih [] s hp' List.nodup_nil hs hc
      have i1 := ih (addM met p) s hp' hn' hs hc
      have i0a := i0.1 (by simp)
      constructor
      · intro hm
        have hsub : ∀ x ∈ addM met p, s.testBit x = true := fun x hx => by
          rcases addM_mem.1 hx with h | rfl
          · exact hm x h
          · exact hb
        have hlen := sub_len (addM met p) (lsN s) hn' fun x hx => by
          have := bit64 hs (hsub x hx)
          exact ls_mem.2 ⟨by omega, hsub x hx⟩
        rw [if_neg (by omega)]
        exact i1.1 hsub
      · split
        · omega
        · exact i1.2
/-- From the begin. -/
theorem arc_all {k : Nat} (hk : 2 ≤ k) : ∀ (ps met : List Nat) (s : Nat), (∀ p ∈ ps, p < 6) → met.Nodup → met.length < k → s < 64 → (lsN s).length ≤ k - 1 → (∀ x, s.testBit x = true → x ∈ met) →
    1 ≤ arcC k met ps → k + arcC k met ps ≤ fewF (k - 1) ps s + 1 + met.length := by
  intro ps
  induction ps with
  | nil => intro met s _ _ _ _ _ _ h; simp [arcC] at h
  | cons p ps ih =>
    intro met s hp hn hl hs hc hm h1
    have hp' := fun q hq => hp q (List.mem_cons_of_mem _ hq)
    have hpp := hp p (by simp)
    have hn' := addM_nodup (p := p) hn
    rw [arcC] at h1 ⊢
    by_cases hpm : p ∈ met
    · have ha : addM met p = met := by unfold addM; rw [if_pos hpm]
      rw [ha, if_neg (by omega)] at h1 ⊢
      cases hb : s.testBit p
      · obtain ⟨s', e1, e2, e3, e4⟩ := few_step (ps := ps) (room := k - 1) (by omega) hs hpp hb hc
        rw [e1]
        have := ih met s' hp' hn hl e2 e3 (fun x hx => by
          rcases e4 x hx with rfl | h
          · exact hpm
          · exact hm x h) h1
        omega
      · rw [few_in hb]
        exact ih met s hp' hn hl hs hc hm h1
    · have hb : s.testBit p = false := by
        cases h : s.testBit p
        · rfl
        · exact absurd (hm p h) hpm
      have hal : (addM met p).length = met.length + 1 := by unfold addM; rw [if_neg hpm]; simp
      obtain ⟨s', e1, e2, e3, e4⟩ := few_step (ps := ps) (room := k - 1) (by omega) hs hpp hb hc
      rw [e1]
      by_cases hk2 : (addM met p).length = k
      · rw [if_pos hk2]
        have := (arc_few hk ps [] s' hp' List.nodup_nil e2 e3).1 (by simp)
        omega
      · rw [if_neg hk2] at h1 ⊢
        have := ih (addM met p) s' hp' hn' (by omega) e2 e3 (fun x hx => by
          rcases e4 x hx with rfl | h
          · exact addM_mem.2 (.inr rfl)
          · exact addM_mem.2 (.inl (hm x h))) h1
        omega
/-- What TopArches says. -/
theorem arches_law {k : Nat} (hk : 2 ≤ k) (hk5 : k ≤ 5) {pg : List Nat} (hp : ∀ p ∈ pg, p < k) : fewF k pg 0 = (pg.foldl dcF (0, 0)).2 ∧ (arcS (k : Int) 0 [] (pg.map (97 + ·))).length ≤ pg.length ∧
    ((arcS (k : Int) 0 [] (pg.map (97 + ·))).length = 0 ∨ k - 1 + (arcS (k : Int) 0 [] (pg.map (97 + ·))).length ≤ fewF (k - 1) pg 0) ∧ (pg.foldl dcF (0, 0)).2 ≤ fewF (k - 1) pg 0 := by
  have hal : (arcS (k : Int) 0 [] (pg.map (97 + ·))).length = arcC k [] pg := arc_len k pg [] 0
  have hp6 : ∀ p ∈ pg, p < 6 := fun p h => by have := hp p h; omega
  have h0 : (lsN 0).length = 0 := by decide
  rw [hal, dc_inf]
  refine ⟨?_, arc_le k pg [], ?_, ?_⟩
  · rw [few_all (by omega) pg 0 hp (Nat.two_pow_pos k)]; omega
  · by_cases h : arcC k [] pg = 0
    · exact .inl h
    · right
      have := arc_all hk pg [] 0 hp6 List.nodup_nil (by simp; omega) (by omega) (by omega) (by simp) (by omega)
      simp at this
      omega
  · have := few_ge (room := k - 1) (by omega) pg 0 hp6 (by omega) (by omega)
    omega
end Go.Proofs.YtmmfelpgcdlgfaaDoor

namespace Go.Proofs.YtmmfelpgcdlgfaaDoor
open Go.Av
set_option linter.unusedVariables false
set_option linter.unusedSimpArgs false
set_option maxRecDepth 8000

/-- short.Arches of a word in order -/
theorem c16 {l : List Nat} {k : Nat} {H : Heap} {K : AV → Heap → Prop} (hl : asc l) (hll : l.length < 1000000) (h0 : letE l (k : Int) = 0) (hk : K (.tup [sl (arcS (k : Int) 0 [] l), .int .i64 0]) H) : ACalls Tryd.prog 16 [st l, .int .i64 (k : Int)] H K := by
  apply W16_ok
  unfold W16
  have e0 : ((0 : Int) != 0) = false := rfl
  try simp only [letO_some, cellsOf?_agg, cellsOf?_int, cellsOf?_bool, cellsOf?_imm, cellsOf?_ref, cellsOf?_nils, faddr_iptr, faddr_ptr, List.drop_succ_cons, List.drop_zero, List.take_succ_cons, List.take_zero, load1_iptr, loadN_iptr, List.length_cons, List.length_nil, Nat.le_refl, if_true, List.getElem?_cons_zero, List.getElem?_cons_succ, List.getD_cons_zero, List.getD_cons_succ, extrF_tup, binF_add, binF_sub, binF_mul, binF_eql, binF_neq, binF_lss, binF_leq, binF_gtr, binF_geq, true_and]
  refine c41 hl ?_
  rw [h0]
  simp only [letO_some, cellsOf?_agg, cellsOf?_int, cellsOf?_bool, cellsOf?_imm, cellsOf?_ref, cellsOf?_nils, faddr_iptr, faddr_ptr, List.drop_succ_cons, List.drop_zero, List.take_succ_cons, List.take_zero, load1_iptr, loadN_iptr, List.length_cons, List.length_nil, Nat.le_refl, if_true, List.getElem?_cons_zero, List.getElem?_cons_succ, List.getD_cons_zero, List.getD_cons_succ, extrF_tup, binF_add, binF_sub, binF_mul, binF_eql, binF_neq, binF_lss, binF_leq, binF_gtr, binF_geq, true_and, e0, condA_ff]
  refine c42 hl hll ?_
  try simp only [letO_some, cellsOf?_agg, cellsOf?_int, cellsOf?_bool, cellsOf?_imm, cellsOf?_ref, cellsOf?_nils, faddr_iptr, faddr_ptr, List.drop_succ_cons, List.drop_zero, List.take_succ_cons, List.take_zero, load1_iptr, loadN_iptr, List.length_cons, List.length_nil, Nat.le_refl, if_true, List.getElem?_cons_zero, List.getElem?_cons_succ, List.getD_cons_zero, List.getD_cons_succ, extrF_tup, binF_add, binF_sub, binF_mul, binF_eql, binF_neq, binF_lss, binF_leq, binF_gtr, binF_geq, true_and]
  exact endK_ret hk
theorem bs_append (l m : List Nat) : bs l ++ bs m = bs (l ++ m) := by
  apply ByteArray.ext
  simp [bs, ByteArray.data_append]
theorem st_add {t : TypeId} {l m : List Nat} (h : l.length + m.length < 1000) : binF Tryd.prog .add t (st l) (st m) = some (st (l ++ m)) := by
  show (if (bs l).size + (bs m).size ≤ 9223372036854775807 then some (AV.str (bs l ++ bs m)) else none) = _
  rw [bs_size, bs_size, if_pos (by omega), bs_append]; rfl
theorem abc_cut : ∀ p : Fin 5, (bs [97, 98, 99, 100, 101]).extract p.val (p.val + 1) = bs [97 + p.val] := by decide
theorem abc_slc {p : Nat} (h : p < 5) : slcS (.str (ByteArray.mk #[97, 98, 99, 100, 101])) (some (.int .i64 (p : Int))) (some (.int .i64 ((p + 1 : Nat) : Int))) none = some (st [97 + p]) := by
  have n1 : ∀ d, natOf (some (.int .i64 (p : Int))) d = some p := fun d => by simp [natOf]
  have n2 : ∀ d, natOf (some (.int .i64 ((p + 1 : Nat) : Int))) d = some (p + 1) := fun d => by simp only [natOf]; rw [if_pos (by omega)]; simp
  have hb : ByteArray.mk #[97, 98, 99, 100, 101] = bs [97, 98, 99, 100, 101] := rfl
  simp only [slcS, n1, n2, Option.bind_some]
  rw [hb, bs_size, if_pos ⟨by omega, by simp; omega⟩]
  have := abc_cut ⟨p, h⟩
  simp only at this
  rw [this]; rfl
def metC (s : Nat) : List AV := (List.range 5).map fun x => .bool (s.testBit x)
theorem metC_len (s : Nat) : (metC s).length = 5 := by simp [metC]
theorem metC_get (s : Nat) {x : Nat} (h : x < 5) : (metC s)[x]? = some (.bool (s.testBit x)) := by simp [metC, h]
theorem metC_set (s : Nat) {p : Nat} (h : p < 5) : splice (metC s) p [.bool true] = metC (s ||| 2 ^ p) := by
  have e : splice (metC s) p [.bool true] = (metC s).set p (.bool true) := splice_set (by rw [metC_len]; exact h)
  rw [e]
  apply List.ext_getElem?
  intro i
  rw [List.getElem?_set]
  by_cases hi : i < 5
  · by_cases hx : p = i
    · subst hx; simp [metC, hi]
    · simp [metC, hi, hx]
  · have : ¬ p = i := by omega
    simp [metC, this, hi]
def u8a (a : List Nat) : List AV := a.map fun (x : Nat) => .int .u8 (x : Int)
theorem u8a_len (a : List Nat) : (u8a a).length = a.length := by simp [u8a]
/-- TopArches -/
theorem c4 {x y : Nat} {a : List Nat} {H : Heap} {K : AV → Heap → Prop} (hx : x < 256) (hy : y < 256) (ha : a.length = 10) (ha2 : ∀ x ∈ a, x < 256) (hk : K (.bool true) H) :
    ACalls Tryd.prog 4 [.int .u8 (x : Int), .int .u8 (y : Int), .agg (u8a a)] H K := by
  apply W4_ok
  unfold W4
  have hm4 : x % 4 < 4 := Nat.mod_lt _ (by omega)
  have hm11 : y % 11 < 11 := Nat.mod_lt _ (by omega)
  have hadd : IntKind.i64.wrap (2 + ((x % 4 : Nat) : Int)) = ((2 + x % 4 : Nat) : Int) := by rw [wrap_i64 (by omega) (by omega)]; omega
  have hrem : binF Tryd.prog .rem 3 (.int .i64 (x : Int)) (.int .i64 4) = some (.int .i64 ((x % 4 : Nat) : Int)) := rem_nat (b := 4) (by omega)
  have hrem2 : binF Tryd.prog .rem 3 (.int .i64 (y : Int)) (.int .i64 11) = some (.int .i64 ((y % 11 : Nat) : Int)) := rem_nat (b := 11) (by omega)
  have hc1 : cellsOf? (.agg (u8a a)) = some (u8a a) := rfl
  simp only [letO_some, cellsOf?_agg, cellsOf?_int, cellsOf?_bool, cellsOf?_imm, cellsOf?_ref, cellsOf?_nils, faddr_iptr, faddr_ptr, List.drop_succ_cons, List.drop_zero, List.take_succ_cons, List.take_zero, load1_iptr, loadN_iptr, List.length_cons, List.length_nil, Nat.le_refl, if_true, List.getElem?_cons_zero, List.getElem?_cons_succ, List.getD_cons_zero, List.getD_cons_succ, extrF_tup, binF_add, binF_sub, binF_mul, binF_eql, binF_neq, binF_lss, binF_leq, binF_gtr, binF_geq, true_and, conv53 (n := (x : Int)) (by omega), conv53 (n := (y : Int)) (by omega), hrem, hadd, hc1]
  generalize hkk : 2 + x % 4 = k at *
  have hk2 : 2 ≤ k := by omega
  have hk5 : k ≤ 5 := by omega
  have wsub : IntKind.i64.wrap ((k : Int) - 1) = ((k - 1 : Nat) : Int) := by rw [wrap_i64 (by omega) (by omega)]; omega
  simp only [wsub, b47n (x := .int .i64 ((k - 1 : Nat) : Int)) rfl, letO_some]
  refine alloc_store (cs := [.int .i64 ((k - 1 : Nat) : Int), .nils]) rfl rfl rfl rfl fun b9 hb9 => ?_
  have hle9 := Heap.le_new (c := [.int .i64 ((k - 1 : Nat) : Int), .nils]) hb9
  have h9 : (H.put b9 [.int .i64 ((k - 1 : Nat) : Int), .nils]) b9 = some [.int .i64 ((k - 1 : Nat) : Int), .nils] := Heap.put_same
  generalize H.put b9 [.int .i64 ((k - 1 : Nat) : Int), .nils] = H9 at *
  refine alloc_ fun b10 hb10 => ?_
  have hz : [AV.bool false, .bool false, .bool false, .bool false, .bool false] = metC 0 := rfl
  rw [hz]
  have hle10 := Heap.le_new (c := metC 0) hb10
  have h10 : (H9.put b10 (metC 0)) b10 = some (metC 0) := Heap.put_same
  have h910 := hle10 _ _ h9
  have hb10H := none_of_le hle9 hb10
  have hne : b9 ≠ b10 := by rintro rfl; rw [h9] at hb10; cases hb10
  have hleH := Heap.le_trans hle9 hle10
  generalize H9.put b10 (metC 0) = H10 at *
  generalize hmm : y % 11 = m at *
  have hsl : slcArr 10 1 (.iptr (u8a a)) none (some (.int .i64 (m : Int))) none = some (.imm m (m == 10) ((u8a a).take m)) := by
    have n1 : ∀ d, natOf none d = some d := fun d => rfl
    have n2 : ∀ d, natOf (some (.int .i64 (m : Int))) d = some m := fun d => by simp [natOf]
    simp only [slcArr, n1, n2, Option.bind_some]
    rw [if_pos ⟨by omega, by omega⟩]
    simp
  have hln : lenA (.imm m (m == 10) ((u8a a).take m)) = some (.int .i64 m) := rfl
  have hrd : ∀ H', ReadsC 1 H' (.imm m (m == 10) ((u8a a).take m)) m ((u8a a).take m) := fun H' => ⟨by rw [List.length_take, u8a_len]; omega, rfl, rfl⟩
  simp only [hrem2, hsl, hln, letO_some, true_and]
  have hst0 : AV.str (ByteArray.mk #[]) = st [] := rfl
  rw [hst0]
  have hkl : ∀ i, ((a.take i).map (· % k)).length ≤ 10 := fun i => by rw [List.length_map, List.length_take]; omega
  have hkp : ∀ i, ∀ p ∈ (a.take i).map (· % k), p < k := fun i p hp => by
    obtain ⟨q, _, rfl⟩ := List.mem_map.1 hp
    exact Nat.mod_lt _ (by omega)
  refine ⟨fun L H' => ∃ (i : Nat) (X : AV) (Hg : Heap), eqt L [st (((a.take i).map (· % k)).map (97 + ·)), .int .i64 ((((a.take i).map (· % k)).foldl dcF (0, 0)).2 : Nat), .int .i64 (i : Int)] ∧ i ≤ m ∧
      Grow 1 Hg H' X ((a.take i).map (· % k)).length (ints (up ((a.take i).map (· % k)))) ∧ Hg b9 = some [.int .i64 ((k - 1 : Nat) : Int), X] ∧ Hg b10 = some (metC (((a.take i).map (· % k)).foldl dcF (0, 0)).1) ∧ H.le Hg,
    fun L _ => (m - iv L 2).toNat, ⟨0, .nils, H10, rfl, by omega, Grow.nils 1 H10, h910, h10, hleH⟩, ?_⟩
  rintro L H1 ⟨i, X, Hg, rfl, hi, hg, g9, g10, hle⟩
  have hdc2 : (((a.take i).map (· % k)).foldl dcF (0, 0)).2 ≤ 10 := by
    rw [dc_inf]
    have h1 := few_ge (room := 6) (by omega) ((a.take i).map (· % k)) 0 (fun p hp => by have := hkp i p hp; omega) (by omega) (by decide)
    have h2 := fewF_le 6 ((a.take i).map (· % k)) 0
    have h3 := hkl i
    omega
  try simp only [letO_some, cellsOf?_agg, cellsOf?_int, cellsOf?_bool, cellsOf?_imm, cellsOf?_ref, cellsOf?_nils, faddr_iptr, faddr_ptr, List.drop_succ_cons, List.drop_zero, List.take_succ_cons, List.take_zero, load1_iptr, loadN_iptr, List.length_cons, List.length_nil, Nat.le_refl, if_true, List.getElem?_cons_zero, List.getElem?_cons_succ, List.getD_cons_zero, List.getD_cons_succ, extrF_tup, binF_add, binF_sub, binF_mul, binF_eql, binF_neq, binF_lss, binF_leq, binF_gtr, binF_geq, true_and]
  refine condA_t (fun hlt => ?_) (fun hge => ?_)
  · have a1 : i < a.length := by omega
    have htk : (a.take (i + 1)).map (· % k) = (a.take i).map (· % k) ++ [a[i] % k] := by
      rw [List.take_add_one, List.getElem?_eq_getElem a1, Option.toList_some, List.map_append]; rfl
    refine ⟨fun L H' => ∃ (X : AV) (Hg : Heap), eqt L [st (((a.take (i + 1)).map (· % k)).map (97 + ·)), .int .i64 ((((a.take (i + 1)).map (· % k)).foldl dcF (0, 0)).2 : Nat)] ∧
      Grow 1 Hg H' X ((a.take (i + 1)).map (· % k)).length (ints (up ((a.take (i + 1)).map (· % k)))) ∧ Hg b9 = some [.int .i64 ((k - 1 : Nat) : Int), X] ∧ Hg b10 = some (metC (((a.take (i + 1)).map (· % k)).foldl dcF (0, 0)).1) ∧ H.le Hg, ?_, ?_⟩
    · refine ReadsC.get (Heap.le_refl _) (hrd H1) (x := .int .u8 (a[i] : Int)) (by omega) (by omega) (by rw [Int.toNat_natCast, List.getElem?_take_of_lt (by omega)]; simp [u8a, a1]) ?_
      rw [htk]
      have hai := ha2 _ (List.getElem_mem a1)
      have hkl := hkl i
      generalize (a.take i).map (· % k) = pg at *
      generalize a[i] = z at *
      have hpk : z % k < k := Nat.mod_lt _ (by omega)
      have wp1 : IntKind.i64.wrap (((z % k : Nat) : Int) + 1) = ((z % k + 1 : Nat) : Int) := by rw [wrap_i64 (by omega) (by omega)]; omega
      simp only [letO_some, conv53 (n := (z : Int)) (by omega), rem_nat (show 0 < k by omega), binF_add, wp1]
      generalize z % k = p at *
      have f9 : faddr 1 (.ptr b9 0) = some (.ptr b9 1) := rfl
      have hsa := st_add (t := 9) (l := pg.map (97 + ·)) (m := [97 + p]) (by simp; omega)
      have lX : load1 (.ptr b9 1) H1 = some X := load1_at (hg.le _ _ g9) rfl
      simp only [abc_slc (show p < 5 by omega), letO_some, hsa, f9, lX, l35 cellsOf?_int]
      refine appendA_oneR hg (by omega) fun v' H7 hg7 ho7 => ?_
      try simp only [f9, letO_some]
      refine storeA_of (cs := [v']) (hg7.le _ _ g9) hg7.cells (by simp [hg7.scalar]) rfl (by simp) ?_
      have hsp : splice [.int .i64 ((k - 1 : Nat) : Int), X] 1 [v'] = [.int .i64 ((k - 1 : Nat) : Int), v'] := rfl
      rw [hsp]
      have hg8 := hg7.put g9 (y := [.int .i64 ((k - 1 : Nat) : Int), v'])
      have g98 : (Hg.put b9 [.int .i64 ((k - 1 : Nat) : Int), v']) b9 = some [.int .i64 ((k - 1 : Nat) : Int), v'] := Heap.put_same
      have g108 : (Hg.put b9 [.int .i64 ((k - 1 : Nat) : Int), v']) b10 = _ := (Heap.put_ne (Ne.symm hne)).trans g10
      have hle8 : H.le (Hg.put b9 [.int .i64 ((k - 1 : Nat) : Int), v']) := Heap.le_put hle hb9
      generalize Hg.put b9 [.int .i64 ((k - 1 : Nat) : Int), v'] = Hg8 at *
      generalize H7.put b9 [.int .i64 ((k - 1 : Nat) : Int), v'] = H8 at *
      have x10 : idxArr 5 1 (.ptr b10 0) (.int .i64 (p : Int)) = some (.ptr b10 p) := by
        simp only [idxArr]; rw [if_pos (by omega)]; simp
      have hfold : (pg ++ [p]).foldl dcF (0, 0) = dcF (pg.foldl dcF (0, 0)) p := by rw [List.foldl_append]; rfl
      have hup : up (pg ++ [p]) = up pg ++ [(p : Int)] := by simp [up]
      have hmp : (pg ++ [p]).map (97 + ·) = pg.map (97 + ·) ++ [97 + p] := by simp
      rw [hfold, hup, hmp, List.length_append]
      generalize pg.foldl dcF (0, 0) = stt at *
      obtain ⟨s, mn⟩ := stt
      simp only at g108 hdc2
      have l10 : load1 (.ptr b10 p) H8 = some (.bool (s.testBit p)) := load1_at (hg8.le _ _ g108) (metC_get s (by omega))
      simp only [x10, l10, letO_some, not_v, dcF]
      cases hb : s.testBit p
      · simp only [Bool.not_false, condA_tt, letO_some, x10, Bool.false_eq_true, if_false]
        refine storeA_of (cs := [.bool true]) (hg8.le _ _ g108) rfl rfl rfl (by rw [metC_len]; simp; omega) ?_
        rw [metC_set s (by omega)]
        try simp only [letO_some, binF_add]
        rw [wrap_i64 (by omega) (by omega)]
        exact ⟨v', Hg8.put b10 (metC (s ||| 2 ^ p)), rfl, hg8.put g108, by rw [Heap.put_ne hne]; exact g98, Heap.put_same, Heap.le_put hle8 hb10H⟩
      · simp only [Bool.not_true, condA_ff, if_true]
        exact ⟨v', Hg8, rfl, hg8, g98, g108, hle8⟩
    · rintro L H2 ⟨X', Hg', rfl, hg', g9', g10', hle'⟩
      try simp only [letO_some, cellsOf?_agg, cellsOf?_int, cellsOf?_bool, cellsOf?_imm, cellsOf?_ref, cellsOf?_nils, faddr_iptr, faddr_ptr, List.drop_succ_cons, List.drop_zero, List.take_succ_cons, List.take_zero, load1_iptr, loadN_iptr, List.length_cons, List.length_nil, Nat.le_refl, if_true, List.getElem?_cons_zero, List.getElem?_cons_succ, List.getD_cons_zero, List.getD_cons_succ, extrF_tup, binF_add, binF_sub, binF_mul, binF_eql, binF_neq, binF_lss, binF_leq, binF_gtr, binF_geq, true_and]
      rw [wrap_i64 (by omega) (by omega)]
      exact ⟨⟨i + 1, X', Hg', rfl, by omega, hg', g9', g10', hle'⟩, by simp [iv]; omega⟩
  · have hie : i = m := by omega
    subst hie
    have hkl := hkl i
    have hkp := hkp i
    obtain ⟨q1, q2, q3, q4⟩ := arches_law hk2 hk5 hkp
    generalize (a.take i).map (· % k) = pg at *
    have hasc : asc (pg.map (97 + ·)) := fun x hx => by
      obtain ⟨p, hp, rfl⟩ := List.mem_map.1 hx
      have := hkp p hp; omega
    have hwl : (pg.map (97 + ·)).length = pg.length := List.length_map _
    have hwE : wordE (pg.map (97 + ·)) = 0 := by
      unfold wordE
      rw [hwl, if_neg (by omega), if_pos]
      rw [List.all_eq_true]
      intro x hx
      obtain ⟨p, hp, rfl⟩ := List.mem_map.1 hx
      have := hkp p hp
      simp; omega
    have hlE : letE (pg.map (97 + ·)) (k : Int) = 0 := by
      unfold letE
      rw [hwE, if_neg (by simp), if_neg (by omega), if_pos]
      rw [List.all_eq_true]
      intro x hx
      obtain ⟨p, hp, rfl⟩ := List.mem_map.1 hx
      have := hkp p hp
      simp only [decide_eq_true_eq]
      omega
    have e0 : ((0 : Int) != 0) = false := rfl
    refine c16 hasc (by rw [hwl]; omega) hlE ?_
    have hp6 : ∀ p ∈ pg, p < 6 := fun p hp => by have := hkp p hp; omega
    have l9 : loadN 2 (.ptr b9 0) H1 = some (.agg [.int .i64 ((k - 1 : Nat) : Int), X]) := loadN_at (cells := [.int .i64 ((k - 1 : Nat) : Int), X]) (hg.le _ _ g9)
    have f9 : faddr 0 (.ptr b9 0) = some (.ptr b9 0) := rfl
    simp only [letO_some, cellsOf?_agg, cellsOf?_int, cellsOf?_bool, cellsOf?_imm, cellsOf?_ref, cellsOf?_nils, faddr_iptr, faddr_ptr, List.drop_succ_cons, List.drop_zero, List.take_succ_cons, List.take_zero, load1_iptr, loadN_iptr, List.length_cons, List.length_nil, Nat.le_refl, if_true, List.getElem?_cons_zero, List.getElem?_cons_succ, List.getD_cons_zero, List.getD_cons_succ, extrF_tup, binF_add, binF_sub, binF_mul, binF_eql, binF_neq, binF_lss, binF_leq, binF_gtr, binF_geq, true_and, l9, f9]
    refine c17 (by omega) (by omega) hg.reads (by omega) hp6 ?_
    simp only [letO_some, cellsOf?_agg, cellsOf?_int, cellsOf?_bool, cellsOf?_imm, cellsOf?_ref, cellsOf?_nils, faddr_iptr, faddr_ptr, List.drop_succ_cons, List.drop_zero, List.take_succ_cons, List.take_zero, load1_iptr, loadN_iptr, List.length_cons, List.length_nil, Nat.le_refl, if_true, List.getElem?_cons_zero, List.getElem?_cons_succ, List.getD_cons_zero, List.getD_cons_succ, extrF_tup, binF_add, binF_sub, binF_mul, binF_eql, binF_neq, binF_lss, binF_leq, binF_gtr, binF_geq, true_and, f9]
    refine storeA_of (cs := [.int .i64 (k : Int)]) (hg.le _ _ g9) rfl rfl rfl (by simp) ?_
    have hsp : splice [.int .i64 ((k - 1 : Nat) : Int), X] 0 [.int .i64 (k : Int)] = [.int .i64 (k : Int), X] := rfl
    rw [hsp]
    have hg2 := hg.put g9 (y := [.int .i64 (k : Int), X])
    have hle2 : H.le (H1.put b9 [.int .i64 (k : Int), X]) := Heap.le_put (Heap.le_trans hle hg.le) hb9
    have l9 : loadN 2 (.ptr b9 0) (H1.put b9 [.int .i64 (k : Int), X]) = some (.agg [.int .i64 (k : Int), X]) := loadN_at (cells := [.int .i64 (k : Int), X]) Heap.put_same
    simp only [letO_some, cellsOf?_agg, cellsOf?_int, cellsOf?_bool, cellsOf?_imm, cellsOf?_ref, cellsOf?_nils, faddr_iptr, faddr_ptr, List.drop_succ_cons, List.drop_zero, List.take_succ_cons, List.take_zero, load1_iptr, loadN_iptr, List.length_cons, List.length_nil, Nat.le_refl, if_true, List.getElem?_cons_zero, List.getElem?_cons_succ, List.getD_cons_zero, List.getD_cons_succ, extrF_tup, binF_add, binF_sub, binF_mul, binF_eql, binF_neq, binF_lss, binF_leq, binF_gtr, binF_geq, true_and, l9]
    refine c17 (by omega) (by omega) hg2.reads (by omega) hp6 ?_
    have hls := st_len (pg.map (97 + ·))
    rw [hwl] at hls
    have hla : ∀ l : List Int, lenA (sl l) = some (.int .i64 (l.length : Int)) := fun l => by simp [sl, lenA]
    have hF1 := fewF_le (k - 1) pg 0
    generalize arcS (k : Int) 0 [] (pg.map (97 + ·)) = ar at *
    generalize (pg.foldl dcF (0, 0)).2 = many at *
    generalize fewF (k - 1) pg 0 = n1 at *
    generalize fewF k pg 0 = n2 at *
    subst q1
    have e1 : ((n2 : Int) != (n2 : Int)) = false := by simp
    have e2 : decide ((pg.length : Int) < (ar.length : Int)) = false := decide_eq_false (by omega)
    simp only [letO_some, cellsOf?_agg, cellsOf?_int, cellsOf?_bool, cellsOf?_imm, cellsOf?_ref, cellsOf?_nils, faddr_iptr, faddr_ptr, List.drop_succ_cons, List.drop_zero, List.take_succ_cons, List.take_zero, load1_iptr, loadN_iptr, List.length_cons, List.length_nil, Nat.le_refl, if_true, List.getElem?_cons_zero, List.getElem?_cons_succ, List.getD_cons_zero, List.getD_cons_succ, extrF_tup, binF_add, binF_sub, binF_mul, binF_eql, binF_neq, binF_lss, binF_leq, binF_gtr, binF_geq, true_and, e0, gval_bool, Int.reduceBNe, Int.reduceBEq, pickF_true, pickF_false, reduceIte, Bool.true_eq_false, Bool.false_eq_true, if_false, condA_tt, condA_ff, condG_tt, condG_ff, condG_tt', condG_ff', condG_undef, gval_undef, e1, hla, hls, e2]
    have wsub : IntKind.i64.wrap ((k : Int) - 1) = ((k - 1 : Nat) : Int) := by rw [wrap_i64 (by omega) (by omega)]; omega
    have wadd : IntKind.i64.wrap (((k - 1 : Nat) : Int) + (ar.length : Int)) = ((k - 1 + ar.length : Nat) : Int) := by rw [wrap_i64 (by omega) (by omega)]; omega
    have e4 : decide ((n2 : Int) ≤ (n1 : Int)) = true := decide_eq_true (by omega)
    by_cases h0 : ar.length = 0
    · have e3 : ((ar.length : Int) == 0) = true := by rw [beq_iff_eq]; omega
      simp only [e3, gval_bool, Int.reduceBNe, Int.reduceBEq, pickF_true, pickF_false, reduceIte, Bool.true_eq_false, Bool.false_eq_true, if_false, condA_tt, condA_ff, condG_tt, condG_ff, condG_tt', condG_ff', condG_undef, gval_undef, letO_some, binF_geq, e4]
      refine exJ (c18 ?_)
      try simp only [letO_some, cellsOf?_agg, cellsOf?_int, cellsOf?_bool, cellsOf?_imm, cellsOf?_ref, cellsOf?_nils, faddr_iptr, faddr_ptr, List.drop_succ_cons, List.drop_zero, List.take_succ_cons, List.take_zero, load1_iptr, loadN_iptr, List.length_cons, List.length_nil, Nat.le_refl, if_true, List.getElem?_cons_zero, List.getElem?_cons_succ, List.getD_cons_zero, List.getD_cons_succ, extrF_tup, binF_add, binF_sub, binF_mul, binF_eql, binF_neq, binF_lss, binF_leq, binF_gtr, binF_geq, true_and, gval_bool, Int.reduceBNe, Int.reduceBEq, pickF_true, pickF_false, reduceIte, Bool.true_eq_false, Bool.false_eq_true, if_false, condA_tt, condA_ff, condG_tt, condG_ff, condG_tt', condG_ff', condG_undef, gval_undef]
      exact endK_pub (Pub.drop hle2) (endK_ret hk)
    · have e3 : ((ar.length : Int) == 0) = false := by rw [beq_eq_false_iff_ne]; omega
      have e5 : decide (((k - 1 + ar.length : Nat) : Int) ≤ (n1 : Int)) = true := decide_eq_true (by omega)
      simp only [e3, gval_bool, Int.reduceBNe, Int.reduceBEq, pickF_true, pickF_false, reduceIte, Bool.true_eq_false, Bool.false_eq_true, if_false, condA_tt, condA_ff, condG_tt, condG_ff, condG_tt', condG_ff', condG_undef, gval_undef, letO_some, binF_sub, binF_add, wsub, wadd, binF_geq, hla, e5, e4]
      refine exJ (c18 ?_)
      try simp only [letO_some, cellsOf?_agg, cellsOf?_int, cellsOf?_bool, cellsOf?_imm, cellsOf?_ref, cellsOf?_nils, faddr_iptr, faddr_ptr, List.drop_succ_cons, List.drop_zero, List.take_succ_cons, List.take_zero, load1_iptr, loadN_iptr, List.length_cons, List.length_nil, Nat.le_refl, if_true, List.getElem?_cons_zero, List.getElem?_cons_succ, List.getD_cons_zero, List.getD_cons_succ, extrF_tup, binF_add, binF_sub, binF_mul, binF_eql, binF_neq, binF_lss, binF_leq, binF_gtr, binF_geq, true_and, gval_bool, Int.reduceBNe, Int.reduceBEq, pickF_true, pickF_false, reduceIte, Bool.true_eq_false, Bool.false_eq_true, if_false, condA_tt, condA_ff, condG_tt, condG_ff, condG_tt', condG_ff', condG_undef, gval_undef]
      exact endK_pub (Pub.drop hle2) (endK_ret hk)
namespace topArches
theorem law {b0 b1 : Nat} {g : List Nat} (h : b0 < 256) (h' : b1 < 256) (h0 : g.length = 10) (h1 : ∀ x ∈ g, x < 256) : ACalls Tryd.prog 4 [.int .u8 (b0 : Int), .int .u8 (b1 : Int), .agg (g.map fun (x : Nat) => .int .u8 (x : Int))] Heap.none fun r _ => r = .bool true :=
  c4 h h' h0 h1 rfl
end topArches
end Go.Proofs.YtmmfelpgcdlgfaaDoor

namespace Go.Proofs.YtmmfelpgcdlgfaaDoor
open Go.Av
set_option linter.unusedVariables false
set_option linter.unusedSimpArgs false
set_option maxRecDepth 8000

theorem neq30 (p : Nat × Nat) : binF Tryd.prog .neq 30 (.agg (prC p)) (.agg (prC p)) = some (.bool false) := by
  have h : binF Tryd.prog .eql 30 (.agg (prC p)) (.agg (prC p)) = some (.bool (decide (p = p))) := eq30 p p
  have h1 : (eqF Tryd.prog 30 (.agg (prC p)) (.agg (prC p))).map AV.bool = some (.bool (decide (p = p))) := h
  show (eqF Tryd.prog 30 (.agg (prC p)) (.agg (prC p))).map (fun r => AV.bool !r) = _
  cases hx : eqF Tryd.prog 30 (.agg (prC p)) (.agg (prC p)) with
  | none => rw [hx] at h1; cases h1
  | some r =>
    rw [hx] at h1
    simp at h1
    subst h1; rfl
theorem b27n {x : AV} (hx : cellsOf? x = some [x]) : buildF Tryd.prog 27 [(0, x)] = some (.agg [x, .nils]) := by
  rw [buildF_of (show buildPlan Tryd.prog 27 = some ([.int .i64 0, .nils], [(0, 1), (1, 1)]) by kernel_rfl)]
  simp [fillA, hx, splice]
theorem con_snoc (l : List (Nat × Nat)) (i k : Nat) : (List.range (k + 1)).filterMap (conF l i) = (List.range k).filterMap (conF l i) ++ (conF l i k).toList := by
  rw [List.range_succ, List.filterMap_append]
  congr 1
theorem con_len (l : List (Nat × Nat)) (i k : Nat) : ((List.range k).filterMap (conF l i)).length ≤ k := by
  have := List.length_filterMap_le (conF l i) (List.range k)
  simpa using this
theorem conP_len (l : List (Nat × Nat)) : ∀ (i : Nat), i ≤ 5 → ((List.range i).flatMap (conP l)).length ≤ 5 * i := by
  intro i
  induction i with
  | zero => intro _; simp
  | succ i ih =>
    intro h
    have := con_len l i i
    rw [List.range_succ, List.flatMap_append, List.length_append]
    have h1 := ih (by omega)
    have h2 : ([i].flatMap (conP l)).length ≤ i := by simpa [conP] using this
    omega
theorem aft_at {l : List Int} {x : Int} {t u : Nat} (h1 : t ≤ u) (h2 : u < l.length) (h3 : l.getD u 0 = x) (h4 : x ∉ (l.drop t).take (u - t)) : aftI l x t = u := by
  have hg : (l.drop t).getD (u - t) 0 = x := by
    rw [List.getD_eq_getElem?_getD, List.getElem?_drop, show t + (u - t) = u by omega, ← List.getD_eq_getElem?_getD]; exact h3
  have hm : x ∈ l.drop t := by
    rw [← hg, List.getD_eq_getElem?_getD, List.getElem?_eq_getElem (by rw [List.length_drop]; omega)]
    exact List.getElem_mem _
  unfold aftI
  rw [if_pos hm, idx_of (n := u - t) (by rw [List.length_drop]; omega) hg h4]
  omega
/-- TopSpans -/
theorem c5 {y : Nat} {a : List Nat} {H : Heap} {K : AV → Heap → Prop} (hy : y < 256) (ha : a.length = 8) (ha2 : ∀ x ∈ a, x < 256) (hk : K (.bool true) H) :
    ACalls Tryd.prog 5 [.int .u8 (y : Int), .agg (u8a a)] H K := by
  apply W5_ok
  unfold W5
  have hm7 : y % 7 < 7 := Nat.mod_lt _ (by omega)
  have hrem2 : binF Tryd.prog .rem 3 (.int .i64 (y : Int)) (.int .i64 7) = some (.int .i64 ((y % 7 : Nat) : Int)) := rem_nat (b := 7) (by omega)
  have hc1 : cellsOf? (.agg (u8a a)) = some (u8a a) := rfl
  simp only [letO_some, hc1, b47n (x := .int .i64 2) rfl]
  refine alloc_store (cs := [.int .i64 2, .nils]) rfl rfl rfl rfl fun b5 hb5 => ?_
  have hle5 := Heap.le_new (c := [.int .i64 2, .nils]) hb5
  have h5 : (H.put b5 [.int .i64 2, .nils]) b5 = some [.int .i64 2, .nils] := Heap.put_same
  generalize H.put b5 [.int .i64 2, .nils] = H5 at *
  generalize hmm : y % 7 = m at *
  have hsl : slcArr 8 1 (.iptr (u8a a)) none (some (.int .i64 (m : Int))) none = some (.imm m (m == 8) ((u8a a).take m)) := by
    have n1 : ∀ d, natOf none d = some d := fun d => rfl
    have n2 : ∀ d, natOf (some (.int .i64 (m : Int))) d = some m := fun d => by simp [natOf]
    simp only [slcArr, n1, n2, Option.bind_some]
    rw [if_pos ⟨by omega, by omega⟩]
    simp
  have hln : lenA (.imm m (m == 8) ((u8a a).take m)) = some (.int .i64 m) := rfl
  have hrd : ∀ H', ReadsC 1 H' (.imm m (m == 8) ((u8a a).take m)) m ((u8a a).take m) := fun H' => ⟨by rw [List.length_take, u8a_len]; omega, rfl, rfl⟩
  simp only [letO_some, conv53 (n := (y : Int)) (by omega), hrem2, hsl, hln, true_and]
  have hkl : ∀ i, ((a.take i).map (· % 4)).length ≤ i := fun i => by rw [List.length_map, List.length_take]; omega
  have hkp : ∀ i, ∀ p ∈ (a.take i).map (· % 4), p < 4 := fun i p hp => by
    obtain ⟨q, _, rfl⟩ := List.mem_map.1 hp
    exact Nat.mod_lt _ (by omega)
  refine ⟨fun L H' => ∃ (i : Nat) (X : AV) (Hg : Heap), eqt L [.int .i64 (i : Int)] ∧ i ≤ m ∧ Grow 1 Hg H' X ((a.take i).map (· % 4)).length (ints (up ((a.take i).map (· % 4)))) ∧ Hg b5 = some [.int .i64 2, X] ∧ H.le Hg,
    fun L _ => (m - iv L 0).toNat, ⟨0, .nils, H5, rfl, by omega, Grow.nils 1 H5, h5, hle5⟩, ?_⟩
  rintro L H1 ⟨i, X, Hg, rfl, hi, hg, g5, hle⟩
  try simp only [letO_some, cellsOf?_agg, cellsOf?_int, cellsOf?_bool, cellsOf?_imm, cellsOf?_ref, cellsOf?_nils, faddr_iptr, faddr_ptr, List.drop_succ_cons, List.drop_zero, List.take_succ_cons, List.take_zero, load1_iptr, loadN_iptr, List.length_cons, List.length_nil, Nat.le_refl, if_true, List.getElem?_cons_zero, List.getElem?_cons_succ, List.getD_cons_zero, List.getD_cons_succ, extrF_tup, binF_add, binF_sub, binF_mul, binF_eql, binF_neq, binF_lss, binF_leq, binF_gtr, binF_geq, true_and]
  have f5 : faddr 1 (.ptr b5 0) = some (.ptr b5 1) := rfl
  refine condA_t (fun hlt => ?_) (fun hge => ?_)
  · have a1 : i < a.length := by omega
    have htk : (a.take (i + 1)).map (· % 4) = (a.take i).map (· % 4) ++ [a[i] % 4] := by
      rw [List.take_add_one, List.getElem?_eq_getElem a1, Option.toList_some, List.map_append]; rfl
    refine ReadsC.get (Heap.le_refl _) (hrd H1) (x := .int .u8 (a[i] : Int)) (by omega) (by omega) (by rw [Int.toNat_natCast, List.getElem?_take_of_lt (by omega)]; simp [u8a, a1]) ?_
    have hai := ha2 _ (List.getElem_mem a1)
    have hkl := hkl i
    generalize (a.take i).map (· % 4) = pg at *
    generalize a[i] = z at *
    have lX : load1 (.ptr b5 1) H1 = some X := load1_at (hg.le _ _ g5) rfl
    have hrem4 : binF Tryd.prog .rem 3 (.int .i64 (z : Int)) (.int .i64 4) = some (.int .i64 ((z % 4 : Nat) : Int)) := rem_nat (b := 4) (by omega)
    simp only [letO_some, f5, lX, conv53 (n := (z : Int)) (by omega), hrem4, l35 cellsOf?_int]
    generalize z % 4 = p at *
    refine appendA_oneR hg (by omega) fun v' H7 hg7 ho7 => ?_
    try simp only [f5, letO_some]
    refine storeA_of (cs := [v']) (hg7.le _ _ g5) hg7.cells (by simp [hg7.scalar]) rfl (by simp) ?_
    have hsp : splice [.int .i64 2, X] 1 [v'] = [.int .i64 2, v'] := rfl
    rw [hsp]
    have hg8 := hg7.put g5 (y := [.int .i64 2, v'])
    try simp only [letO_some, binF_add]
    rw [wrap_i64 (by omega) (by omega)]
    refine ⟨⟨i + 1, v', Hg.put b5 [.int .i64 2, v'], rfl, by omega, ?_, Heap.put_same, Heap.le_put hle hb5⟩, by simp [iv]; omega⟩
    have hup : up (pg ++ [p]) = up pg ++ [(p : Int)] := by simp [up]
    rw [htk, hup, List.length_append]
    exact hg8
  have hie : i = m := by omega
  subst hie
  have hkl := hkl i
  have hkp := hkp i
  generalize (a.take i).map (· % 4) = pg at *
  have hpl : pg.length ≤ 6 := by omega
  obtain ⟨q1, q2, q3, q4⟩ := spans_law hpl hkp
  have hXr := hg.reads
  have h15 := hg.le _ _ g5
  have hle1 := Heap.le_trans hle hg.le
  have hXs := hg.scalar
  have hXc := hg.cells
  clear hg
  have hXl := hXr.len
  rw [up_length] at hXl
  have lX : ∀ H', H1.le H' → load1 (.ptr b5 1) H' = some X := fun H' h => load1_at (h _ _ h15) rfl
  have lX1 := lX H1 (Heap.le_refl _)
  simp only [letO_some, cellsOf?_agg, cellsOf?_int, cellsOf?_bool, cellsOf?_imm, cellsOf?_ref, cellsOf?_nils, faddr_iptr, faddr_ptr, List.drop_succ_cons, List.drop_zero, List.take_succ_cons, List.take_zero, load1_iptr, loadN_iptr, List.length_cons, List.length_nil, Nat.le_refl, if_true, List.getElem?_cons_zero, List.getElem?_cons_succ, List.getD_cons_zero, List.getD_cons_succ, extrF_tup, binF_add, binF_sub, binF_mul, binF_eql, binF_neq, binF_lss, binF_leq, binF_gtr, binF_geq, true_and, f5, lX1, hXl]
  refine ⟨fun L H' => ∃ (t : Nat) (Y : AV), eqt L [Y, .int .i64 (t : Int)] ∧ t ≤ pg.length ∧ Grow 2 H1 H' Y ((List.range t).filterMap (spF (up pg))).length (((List.range t).filterMap (spF (up pg))).flatMap prC),
    fun L _ => (pg.length - iv L 1).toNat, ⟨0, .nils, rfl, by omega, Grow.nils 2 H1⟩, ?_⟩
  rintro L H2 ⟨t, Y, rfl, ht, hg⟩
  have hsl2 := sp_len (up pg) t
  try simp only [letO_some, cellsOf?_agg, cellsOf?_int, cellsOf?_bool, cellsOf?_imm, cellsOf?_ref, cellsOf?_nils, faddr_iptr, faddr_ptr, List.drop_succ_cons, List.drop_zero, List.take_succ_cons, List.take_zero, load1_iptr, loadN_iptr, List.length_cons, List.length_nil, Nat.le_refl, if_true, List.getElem?_cons_zero, List.getElem?_cons_succ, List.getD_cons_zero, List.getD_cons_succ, extrF_tup, binF_add, binF_sub, binF_mul, binF_eql, binF_neq, binF_lss, binF_leq, binF_gtr, binF_geq, true_and]
  refine condA_t (fun hlt => ?_) (fun hge => ?_)
  · have t1 : t < pg.length := by omega
    refine ⟨fun L H' => ∃ Y', eqt L [Y'] ∧ Grow 2 H1 H' Y' ((List.range (t + 1)).filterMap (spF (up pg))).length (((List.range (t + 1)).filterMap (spF (up pg))).flatMap prC), ?_, ?_⟩
    · refine Reads.get hg.le hXr (by omega) (by rw [up_length]; omega) ?_
      rw [Int.toNat_natCast, sp_snoc]
      unfold spF
      generalize hx : (up pg).getD t 0 = x
      have w1 : IntKind.i64.wrap ((t : Int) + 1) = ((t + 1 : Nat) : Int) := by rw [wrap_i64 (by omega) (by omega)]; omega
      simp only [letO_some, cellsOf?_agg, cellsOf?_int, cellsOf?_bool, cellsOf?_imm, cellsOf?_ref, cellsOf?_nils, faddr_iptr, faddr_ptr, List.drop_succ_cons, List.drop_zero, List.take_succ_cons, List.take_zero, load1_iptr, loadN_iptr, List.length_cons, List.length_nil, Nat.le_refl, if_true, List.getElem?_cons_zero, List.getElem?_cons_succ, List.getD_cons_zero, List.getD_cons_succ, extrF_tup, binF_add, binF_sub, binF_mul, binF_eql, binF_neq, binF_lss, binF_leq, binF_gtr, binF_geq, true_and, w1]
      refine ⟨fun L H' => ∃ (u : Nat), eqt L [Y, .int .i64 (u : Int)] ∧ t + 1 ≤ u ∧ u ≤ pg.length ∧ eqt H' H2 ∧ x ∉ ((up pg).drop (t + 1)).take (u - (t + 1)), fun L _ => (pg.length - iv L 1).toNat, ⟨t + 1, rfl, by omega, by omega, rfl, by simp⟩, ?_⟩
      rintro L H3 ⟨u, rfl, hu1, hu2, rfl, hnot⟩
      have lX3 := lX H3 hg.le
      simp only [letO_some, cellsOf?_agg, cellsOf?_int, cellsOf?_bool, cellsOf?_imm, cellsOf?_ref, cellsOf?_nils, faddr_iptr, faddr_ptr, List.drop_succ_cons, List.drop_zero, List.take_succ_cons, List.take_zero, load1_iptr, loadN_iptr, List.length_cons, List.length_nil, Nat.le_refl, if_true, List.getElem?_cons_zero, List.getElem?_cons_succ, List.getD_cons_zero, List.getD_cons_succ, extrF_tup, binF_add, binF_sub, binF_mul, binF_eql, binF_neq, binF_lss, binF_leq, binF_gtr, binF_geq, true_and, f5, lX3, hXl]
      refine condA_t (fun hlt2 => ?_) (fun hge2 => ?_)
      · have u1 : u < pg.length := by omega
        refine Reads.get hg.le hXr (by omega) (by rw [up_length]; omega) ?_
        rw [Int.toNat_natCast]
        try simp only [letO_some, cellsOf?_agg, cellsOf?_int, cellsOf?_bool, cellsOf?_imm, cellsOf?_ref, cellsOf?_nils, faddr_iptr, faddr_ptr, List.drop_succ_cons, List.drop_zero, List.take_succ_cons, List.take_zero, load1_iptr, loadN_iptr, List.length_cons, List.length_nil, Nat.le_refl, if_true, List.getElem?_cons_zero, List.getElem?_cons_succ, List.getD_cons_zero, List.getD_cons_succ, extrF_tup, binF_add, binF_sub, binF_mul, binF_eql, binF_neq, binF_lss, binF_leq, binF_gtr, binF_geq, true_and]
        by_cases he : (up pg).getD u 0 = x
        · have e : ((up pg).getD u 0 == x) = true := by rw [beq_iff_eq]; exact he
          have haf := aft_at hu1 (by rw [up_length]; exact u1) he hnot
          simp only [e, condA_tt, letO_some, b30, l24_1]
          rw [haf, if_pos (by omega)]
          refine appendA_growR hg (m := 1) (new := prC (t, u)) (by simp [srcOf, prC]) rfl rfl (by omega) (by omega) (by omega) fun v' H7 hg7 ho7 => ?_
          try simp only [letO_some, cellsOf?_agg, cellsOf?_int, cellsOf?_bool, cellsOf?_imm, cellsOf?_ref, cellsOf?_nils, faddr_iptr, faddr_ptr, List.drop_succ_cons, List.drop_zero, List.take_succ_cons, List.take_zero, load1_iptr, loadN_iptr, List.length_cons, List.length_nil, Nat.le_refl, if_true, List.getElem?_cons_zero, List.getElem?_cons_succ, List.getD_cons_zero, List.getD_cons_succ, extrF_tup, binF_add, binF_sub, binF_mul, binF_eql, binF_neq, binF_lss, binF_leq, binF_gtr, binF_geq, true_and]
          refine ⟨v', rfl, ?_⟩
          rw [Option.toList_some, l24_dec, List.length_append]
          exact hg7
        · have e : ((up pg).getD u 0 == x) = false := by rw [beq_eq_false_iff_ne]; exact he
          simp only [e, condA_ff, letO_some, binF_add]
          rw [wrap_i64 (by omega) (by omega)]
          refine ⟨⟨u + 1, rfl, by omega, by omega, rfl, ?_⟩, by simp [iv]; omega⟩
          have hud : u - (t + 1) < ((up pg).drop (t + 1)).length := by rw [List.length_drop, up_length]; omega
          rw [show u + 1 - (t + 1) = u - (t + 1) + 1 by omega, List.take_add_one, List.getElem?_eq_getElem hud, Option.toList_some, List.mem_append]
          rintro (h | h)
          · exact hnot h
          · simp only [List.mem_singleton] at h
            rw [List.getElem_drop] at h
            apply he
            have e2 : t + 1 + (u - (t + 1)) = u := by omega
            simp only [e2] at h
            rw [List.getD_eq_getElem?_getD, List.getElem?_eq_getElem (by rw [up_length]; exact u1)]
            exact h.symm
      · have hue : u = pg.length := by omega
        subst hue
        have hno : x ∉ (up pg).drop (t + 1) := by
          rwa [List.take_of_length_le (by rw [List.length_drop, up_length]; omega)] at hnot
        have haf : aftI (up pg) x (t + 1) = 12 := by unfold aftI; rw [if_neg hno]
        rw [haf, if_neg (by omega), Option.toList_none, List.append_nil]
        exact ⟨Y, rfl, hg⟩
    · rintro L H3 ⟨Y', rfl, hg'⟩
      try simp only [letO_some, cellsOf?_agg, cellsOf?_int, cellsOf?_bool, cellsOf?_imm, cellsOf?_ref, cellsOf?_nils, faddr_iptr, faddr_ptr, List.drop_succ_cons, List.drop_zero, List.take_succ_cons, List.take_zero, load1_iptr, loadN_iptr, List.length_cons, List.length_nil, Nat.le_refl, if_true, List.getElem?_cons_zero, List.getElem?_cons_succ, List.getD_cons_zero, List.getD_cons_succ, extrF_tup, binF_add, binF_sub, binF_mul, binF_eql, binF_neq, binF_lss, binF_leq, binF_gtr, binF_geq, true_and]
      rw [wrap_i64 (by omega) (by omega)]
      exact ⟨⟨t + 1, Y', rfl, by omega, hg'⟩, by simp [iv]; omega⟩
  have hte : t = (up pg).length := by rw [up_length]; omega
  have hsd : (List.range t).filterMap (spF (up pg)) = spans (up pg) := by rw [hte]; rfl
  rw [hsd] at hg
  clear hsl2 hge ht hte hsd
  have hp6 : ∀ p ∈ pg, p < 6 := fun p hp => by have := hkp p hp; omega
  have hXr2 := hXr.le hg.le
  have h52 := hg.le _ _ h15
  have hYr := hg.readsC
  have hYl := hg.len
  have hle2 := Heap.le_trans hle1 hg.le
  have lX2 := fun H' (h : H2.le H') => lX H' (Heap.le_trans hg.le h)
  clear hg
  have l5 : loadN 2 (.ptr b5 0) H2 = some (.agg [.int .i64 2, X]) := loadN_at (cells := [.int .i64 2, X]) h52
  simp only [l5, letO_some]
  refine c19 (room := 2) (by omega) (by omega) hXr2 (by omega) hp6 ?_
  simp only [letO_some, cellsOf?_agg, cellsOf?_int, cellsOf?_bool, cellsOf?_imm, cellsOf?_ref, cellsOf?_nils, faddr_iptr, faddr_ptr, List.drop_succ_cons, List.drop_zero, List.take_succ_cons, List.take_zero, load1_iptr, loadN_iptr, List.length_cons, List.length_nil, Nat.le_refl, if_true, List.getElem?_cons_zero, List.getElem?_cons_succ, List.getD_cons_zero, List.getD_cons_succ, extrF_tup, binF_add, binF_sub, binF_mul, binF_eql, binF_neq, binF_lss, binF_leq, binF_gtr, binF_geq, true_and, l5]
  refine c17 (room := 2) (by omega) (by omega) hXr2 (by omega) hp6 ?_
  have e0 : ((0 : Int) != 0) = false := rfl
  have hfl := fewF_le 2 pg 0
  have hcp := conP_len (spans (up pg))
  have hrng : ∀ r ∈ spans (up pg), r.1 < 6 ∧ r.2 < 12 := by
    intro r hr
    obtain ⟨t, ht, he⟩ := List.mem_filterMap.1 hr
    have ht := List.mem_range.1 ht
    rw [up_length] at ht
    unfold spF at he
    split at he <;> cases he
    exact ⟨by simp only; omega, by simpa using ‹_›⟩
  generalize hcf : confP (spans (up pg)) = P at *
  generalize hsp : spans (up pg) = l at *
  have hvl : lenA (.imm l.length false (l.flatMap prC)) = some (.int .i64 l.length) := rfl
  have en : ((l.length : Int) != (l.length : Int)) = false := by simp
  simp only [letO_some, cellsOf?_agg, cellsOf?_int, cellsOf?_bool, cellsOf?_imm, cellsOf?_ref, cellsOf?_nils, faddr_iptr, faddr_ptr, List.drop_succ_cons, List.drop_zero, List.take_succ_cons, List.take_zero, load1_iptr, loadN_iptr, List.length_cons, List.length_nil, Nat.le_refl, if_true, List.getElem?_cons_zero, List.getElem?_cons_succ, List.getD_cons_zero, List.getD_cons_succ, extrF_tup, binF_add, binF_sub, binF_mul, binF_eql, binF_neq, binF_lss, binF_leq, binF_gtr, binF_geq, true_and, e0, gval_bool, Int.reduceBNe, Int.reduceBEq, pickF_true, pickF_false, reduceIte, Bool.true_eq_false, Bool.false_eq_true, if_false, condA_tt, condA_ff, condG_tt, condG_ff, condG_tt', condG_ff', condG_undef, gval_undef, hvl, hYl, en]
  refine ⟨fun L H' => ∃ (i : Nat), eqt L [.int .i64 (i : Int)] ∧ i ≤ l.length ∧ eqt H' H2, fun L _ => (l.length - iv L 0).toNat, ⟨0, rfl, by omega, rfl⟩, ?_⟩
  rintro L H3 ⟨j, rfl, hj, rfl⟩
  try simp only [letO_some, cellsOf?_agg, cellsOf?_int, cellsOf?_bool, cellsOf?_imm, cellsOf?_ref, cellsOf?_nils, faddr_iptr, faddr_ptr, List.drop_succ_cons, List.drop_zero, List.take_succ_cons, List.take_zero, load1_iptr, loadN_iptr, List.length_cons, List.length_nil, Nat.le_refl, if_true, List.getElem?_cons_zero, List.getElem?_cons_succ, List.getD_cons_zero, List.getD_cons_succ, extrF_tup, binF_add, binF_sub, binF_mul, binF_eql, binF_neq, binF_lss, binF_leq, binF_gtr, binF_geq, true_and]
  have hv : ∀ H, RP H (.imm l.length false (l.flatMap prC)) l := fun H => ReadsC.imm (by rw [rows_len prC_len])
  refine condA_t (fun hlt => ?_) (fun hge => ?_)
  · have j1 : j < l.length := by omega
    refine ReadsC.getN (Heap.le_refl _) (hv H3) (by omega) (by omega) ?_
    rw [Int.toNat_natCast, rows_get prC_len (x := l[j]) (by simp [j1])]
    try simp only [letO_some, cellsOf?_agg, cellsOf?_int, cellsOf?_bool, cellsOf?_imm, cellsOf?_ref, cellsOf?_nils, faddr_iptr, faddr_ptr, List.drop_succ_cons, List.drop_zero, List.take_succ_cons, List.take_zero, load1_iptr, loadN_iptr, List.length_cons, List.length_nil, Nat.le_refl, if_true, List.getElem?_cons_zero, List.getElem?_cons_succ, List.getD_cons_zero, List.getD_cons_succ, extrF_tup, binF_add, binF_sub, binF_mul, binF_eql, binF_neq, binF_lss, binF_leq, binF_gtr, binF_geq, true_and]
    refine ReadsC.getN (Heap.le_refl _) hYr (by omega) (by omega) ?_
    rw [Int.toNat_natCast, rows_get prC_len (x := l[j]) (by simp [j1])]
    simp only [neq30, letO_some, condA_ff, binF_add]
    rw [wrap_i64 (by omega) (by omega)]
    exact ⟨⟨j + 1, rfl, by omega, rfl⟩, by simp [iv]; omega⟩
  clear hge hj
  have hvc : cellsOf? (.imm l.length false (l.flatMap prC)) = some [.imm l.length false (l.flatMap prC)] := rfl
  generalize AV.imm l.length false (l.flatMap prC) = v at *
  have lX3 := lX2 H3 (Heap.le_refl _)
  try simp only [hvl, letO_some, binF_eql]
  by_cases h0 : l.length = 0
  · have e : ((l.length : Int) == 0) = true := by rw [beq_iff_eq]; omega
    have hl0 : l = [] := List.eq_nil_of_length_eq_zero h0
    have hP : P = [] := by rw [← hcf, hl0]; rfl
    have hn : fewF 2 pg 0 = pg.length := by
      rw [hl0, hP] at q4
      have : (shS ([] : List (Nat × Nat)).length []).1.length = 0 := by decide +kernel
      rw [this] at q4
      simpa using q4
    have e2 : ((fewF 2 pg 0 : Int) == (pg.length : Int)) = true := by rw [beq_iff_eq]; omega
    simp only [e, condA_tt, letO_some, f5, lX3, hXl, binF_eql, e2, gval_bool, Int.reduceBNe, Int.reduceBEq, pickF_true, pickF_false, reduceIte, Bool.true_eq_false, Bool.false_eq_true, if_false, condA_tt, condA_ff, condG_tt, condG_ff, condG_tt', condG_ff', condG_undef, gval_undef]
    refine exJ (c18 ?_)
    try simp only [letO_some, cellsOf?_agg, cellsOf?_int, cellsOf?_bool, cellsOf?_imm, cellsOf?_ref, cellsOf?_nils, faddr_iptr, faddr_ptr, List.drop_succ_cons, List.drop_zero, List.take_succ_cons, List.take_zero, load1_iptr, loadN_iptr, List.length_cons, List.length_nil, Nat.le_refl, if_true, List.getElem?_cons_zero, List.getElem?_cons_succ, List.getD_cons_zero, List.getD_cons_succ, extrF_tup, binF_add, binF_sub, binF_mul, binF_eql, binF_neq, binF_lss, binF_leq, binF_gtr, binF_geq, true_and, gval_bool, Int.reduceBNe, Int.reduceBEq, pickF_true, pickF_false, reduceIte, Bool.true_eq_false, Bool.false_eq_true, if_false, condA_tt, condA_ff, condG_tt, condG_ff, condG_tt', condG_ff', condG_undef, gval_undef]
    exact endK_pub (Pub.drop hle2) (endK_ret hk)
  have e : ((l.length : Int) == 0) = false := by rw [beq_eq_false_iff_ne]; omega
  have hF := q3 (by omega)
  simp only [e, condA_ff, b27n (x := .int .i64 (l.length : Int)) rfl, letO_some]
  refine alloc_store (cs := [.int .i64 (l.length : Int), .nils]) rfl rfl rfl rfl fun b7 hb7 => ?_
  have hle7 := Heap.le_new (c := [.int .i64 (l.length : Int), .nils]) hb7
  have h7 : (H3.put b7 [.int .i64 (l.length : Int), .nils]) b7 = some [.int .i64 (l.length : Int), .nils] := Heap.put_same
  generalize H3.put b7 [.int .i64 (l.length : Int), .nils] = H7 at *
  have f7 : faddr 1 (.ptr b7 0) = some (.ptr b7 1) := rfl
  try simp only [hvl, letO_some]
  refine ⟨fun L H' => ∃ (i : Nat) (Z : AV) (Hg : Heap), eqt L [.int .i64 (i : Int)] ∧ i ≤ l.length ∧ Grow 2 Hg H' Z ((List.range i).flatMap (conP l)).length (((List.range i).flatMap (conP l)).flatMap prC) ∧ Hg b7 = some [.int .i64 (l.length : Int), Z] ∧ H3.le Hg,
    fun L _ => (l.length - iv L 0).toNat, ⟨0, .nils, H7, rfl, by omega, Grow.nils 2 H7, h7, hle7⟩, ?_⟩
  rintro L H8 ⟨i, Z, Hg, rfl, hi, hg, g7, hle8⟩
  have hcpi := hcp i (by omega)
  try simp only [letO_some, cellsOf?_agg, cellsOf?_int, cellsOf?_bool, cellsOf?_imm, cellsOf?_ref, cellsOf?_nils, faddr_iptr, faddr_ptr, List.drop_succ_cons, List.drop_zero, List.take_succ_cons, List.take_zero, load1_iptr, loadN_iptr, List.length_cons, List.length_nil, Nat.le_refl, if_true, List.getElem?_cons_zero, List.getElem?_cons_succ, List.getD_cons_zero, List.getD_cons_succ, extrF_tup, binF_add, binF_sub, binF_mul, binF_eql, binF_neq, binF_lss, binF_leq, binF_gtr, binF_geq, true_and]
  refine condA_t (fun hlt => ?_) (fun hge => ?_)
  · have i1 : i < l.length := by omega
    refine ReadsC.getN (Heap.le_refl _) (hv H8) (by omega) (by omega) ?_
    rw [Int.toNat_natCast, rows_get prC_len (x := l[i]) (by simp [i1])]
    have hli : l.getD i (0, 0) = l[i] := by rw [List.getD_eq_getElem?_getD, List.getElem?_eq_getElem i1]; rfl
    have hsn : (List.range (i + 1)).flatMap (conP l) = (List.range i).flatMap (conP l) ++ (List.range i).filterMap (conF l i) := by
      rw [List.range_succ, List.flatMap_append]; simp [conP]
    generalize hpx : l[i] = p at *
    refine alloc_store (cs := prC p) rfl rfl rfl rfl fun b9 hb9 => ?_
    have h9 : (H8.put b9 (prC p)) b9 = some (prC p) := Heap.put_same
    have hg9 : Grow 2 (Hg.put b9 (prC p)) (H8.put b9 (prC p)) Z _ _ := alloc_grow hg hb9
    have hln := Heap.le_new (c := prC p) (none_of_le hg.le hb9)
    have hle9 : H3.le (Hg.put b9 (prC p)) := Heap.le_trans hle8 hln
    have g79 := hln _ _ g7
    have g99 : (Hg.put b9 (prC p)) b9 = some (prC p) := Heap.put_same
    generalize H8.put b9 (prC p) = H9 at *
    generalize Hg.put b9 (prC p) = Hg9 at *
    have hne79 : b7 ≠ b9 := by rintro rfl; rw [hg.le _ _ g7] at hb9; cases hb9
    have hb7H : H3 b7 = none := hb7
    obtain ⟨v', s1, s2⟩ := slcP (hv Heap.none) (k := i) (by omega)
    have hv' : ∀ H, RP H v' (l.take i) := fun H => s2.le (fun _ _ h => by cases h)
    have hv'l := ReadsC.len s2
    rw [List.length_take, Nat.min_eq_left (by omega)] at hv'l
    simp only [letO_some, s1, hv'l]
    refine ⟨fun L H' => ∃ (k : Nat) (Z : AV) (Hg : Heap), eqt L [.int .i64 (k : Int)] ∧ k ≤ i ∧ Grow 2 Hg H' Z ((List.range i).flatMap (conP l) ++ (List.range k).filterMap (conF l i)).length (((List.range i).flatMap (conP l) ++ (List.range k).filterMap (conF l i)).flatMap prC) ∧
        Hg b7 = some [.int .i64 (l.length : Int), Z] ∧ Hg b9 = some (prC p) ∧ H3.le Hg,
      fun L _ => (i - iv L 0).toNat, ⟨0, Z, Hg9, rfl, by omega, by simpa using hg9, g79, g99, hle9⟩, ?_⟩
    rintro L H10 ⟨k, Z2, Hg10, rfl, hk2, hg10, g710, g910, hle10⟩
    have hcl := con_len l i k
    try simp only [letO_some, cellsOf?_agg, cellsOf?_int, cellsOf?_bool, cellsOf?_imm, cellsOf?_ref, cellsOf?_nils, faddr_iptr, faddr_ptr, List.drop_succ_cons, List.drop_zero, List.take_succ_cons, List.take_zero, load1_iptr, loadN_iptr, List.length_cons, List.length_nil, Nat.le_refl, if_true, List.getElem?_cons_zero, List.getElem?_cons_succ, List.getD_cons_zero, List.getD_cons_succ, extrF_tup, binF_add, binF_sub, binF_mul, binF_eql, binF_neq, binF_lss, binF_leq, binF_gtr, binF_geq, true_and]
    refine condA_t (fun hlt2 => ?_) (fun hge2 => ?_)
    · have k1 : k < i := by omega
      have k2 : k < l.length := by omega
      refine ⟨fun L H' => eqt L [] ∧ ∃ (Z : AV) (Hg : Heap), Grow 2 Hg H' Z ((List.range i).flatMap (conP l) ++ (List.range (k + 1)).filterMap (conF l i)).length (((List.range i).flatMap (conP l) ++ (List.range (k + 1)).filterMap (conF l i)).flatMap prC) ∧
        Hg b7 = some [.int .i64 (l.length : Int), Z] ∧ Hg b9 = some (prC p) ∧ H3.le Hg, ?_, ?_⟩
      · refine ReadsC.getN (Heap.le_refl _) (hv' H10) (by omega) (by rw [List.length_take]; omega) ?_
        rw [Int.toNat_natCast, rows_get prC_len (x := l[k]) (by simp [k1, k2])]
        have hlk : l.getD k (0, 0) = l[k] := by rw [List.getD_eq_getElem?_getD, List.getElem?_eq_getElem k2]; rfl
        rw [con_snoc, ← List.append_assoc]
        have hcF : conF l i k = if clash p l[k] then some (k, i) else none := by unfold conF; rw [hli, hlk]
        rw [hcF]
        generalize hq : l[k] = q at *
        have hlen0 : ((List.range i).flatMap (conP l) ++ (List.range k).filterMap (conF l i)).length ≤ 100 := by rw [List.length_append]; omega
        generalize (List.range i).flatMap (conP l) ++ (List.range k).filterMap (conF l i) = R at *
        refine alloc_store (cs := prC q) rfl rfl rfl rfl fun b11 hb11 => ?_
        have h11 : (H10.put b11 (prC q)) b11 = some (prC q) := Heap.put_same
        have hg11 : Grow 2 (Hg10.put b11 (prC q)) (H10.put b11 (prC q)) Z2 _ _ := alloc_grow hg10 hb11
        have hln2 := Heap.le_new (c := prC q) (none_of_le hg10.le hb11)
        have hle11 : H3.le (Hg10.put b11 (prC q)) := Heap.le_trans hle10 hln2
        have g711 := hln2 _ _ g710
        have g911 := hln2 _ _ g910
        generalize H10.put b11 (prC q) = H11 at *
        generalize Hg10.put b11 (prC q) = Hg11 at *
        have x0 : ∀ b, idxArr 2 1 (.ptr b 0) (.int .i64 0) = some (.ptr b 0) := fun b => rfl
        have x1 : ∀ b, idxArr 2 1 (.ptr b 0) (.int .i64 1) = some (.ptr b 1) := fun b => rfl
        have h9' := hg11.le _ _ g911
        have l90 : load1 (.ptr b9 0) H11 = some (.int .i64 (p.1 : Int)) := load1_at h9' rfl
        have l91 : load1 (.ptr b9 1) H11 = some (.int .i64 (p.2 : Int)) := load1_at h9' rfl
        have l110 : load1 (.ptr b11 0) H11 = some (.int .i64 (q.1 : Int)) := load1_at h11 rfl
        have l111 : load1 (.ptr b11 1) H11 = some (.int .i64 (q.2 : Int)) := load1_at h11 rfl
        have hmax : max2F (.int .i64 (p.1 : Int)) (.int .i64 (q.1 : Int)) = some (.int .i64 ((max p.1 q.1 : Nat) : Int)) := by
          show some (AV.int .i64 (if (q.1 : Int) > (p.1 : Int) then (q.1 : Int) else (p.1 : Int))) = _
          congr 2; split <;> omega
        have hmin : min2F (.int .i64 (p.2 : Int)) (.int .i64 (q.2 : Int)) = some (.int .i64 ((min p.2 q.2 : Nat) : Int)) := by
          show some (AV.int .i64 (if (q.2 : Int) < (p.2 : Int) then (q.2 : Int) else (p.2 : Int))) = _
          congr 2; split <;> omega
        have hpb := hrng p (by rw [← hpx]; exact List.getElem_mem i1)
        have hqb := hrng q (by rw [← hq]; exact List.getElem_mem k2)
        have wm : IntKind.i64.wrap (((max p.1 q.1 : Nat) : Int) + 1) = ((max p.1 q.1 + 1 : Nat) : Int) := by rw [wrap_i64 (by omega) (by omega)]; omega
        have hlss : decide (((max p.1 q.1 + 1 : Nat) : Int) < ((min p.2 q.2 : Nat) : Int)) = clash p q := by
          unfold clash; rw [decide_eq_decide]; omega
        have lZ : load1 (.ptr b7 1) H11 = some Z2 := load1_at (hg11.le _ _ g711) rfl
        simp only [letO_some, x0, x1, l90, l91, l110, l111, hmax, hmin, binF_add, wm, binF_lss, hlss]
        cases hcc : clash p q
        · simp only [condA_ff, Bool.false_eq_true, if_false, Option.toList_none, List.append_nil]
          exact ⟨rfl, Z2, Hg11, hg11, g711, g911, hle11⟩
        · simp only [condA_tt, if_true, letO_some, f7, lZ, b30, l24_1, Option.toList_some]
          refine appendA_growR hg11 (m := 1) (new := prC (k, i)) (by simp [srcOf, prC]) rfl rfl (by omega) (by omega) (by omega) fun v2 H12 hg12 ho12 => ?_
          try simp only [f7, letO_some]
          refine storeA_of (cs := [v2]) (hg12.le _ _ g711) hg12.cells (by simp [hg12.scalar]) rfl (by simp) ?_
          have hspl : splice [.int .i64 (l.length : Int), Z2] 1 [v2] = [.int .i64 (l.length : Int), v2] := rfl
          rw [hspl]
          have hg13 := hg12.put g711 (y := [.int .i64 (l.length : Int), v2])
          refine ⟨rfl, v2, Hg11.put b7 [.int .i64 (l.length : Int), v2], ?_, Heap.put_same, by rw [Heap.put_ne (Ne.symm hne79)]; exact g911, Heap.le_put hle11 hb7H⟩
          rw [l24_dec, List.length_append]
          exact hg13
      · rintro L H11 ⟨rfl, Z3, Hg11, hg11, g711, g911, hle11⟩
        try simp only [letO_some, cellsOf?_agg, cellsOf?_int, cellsOf?_bool, cellsOf?_imm, cellsOf?_ref, cellsOf?_nils, faddr_iptr, faddr_ptr, List.drop_succ_cons, List.drop_zero, List.take_succ_cons, List.take_zero, load1_iptr, loadN_iptr, List.length_cons, List.length_nil, Nat.le_refl, if_true, List.getElem?_cons_zero, List.getElem?_cons_succ, List.getD_cons_zero, List.getD_cons_succ, extrF_tup, binF_add, binF_sub, binF_mul, binF_eql, binF_neq, binF_lss, binF_leq, binF_gtr, binF_geq, true_and]
        rw [wrap_i64 (by omega) (by omega)]
        exact ⟨⟨k + 1, Z3, Hg11, rfl, by omega, hg11, g711, g911, hle11⟩, by simp [iv]; omega⟩
    · have hke : k = i := by omega
      subst hke
      try simp only [letO_some, cellsOf?_agg, cellsOf?_int, cellsOf?_bool, cellsOf?_imm, cellsOf?_ref, cellsOf?_nils, faddr_iptr, faddr_ptr, List.drop_succ_cons, List.drop_zero, List.take_succ_cons, List.take_zero, load1_iptr, loadN_iptr, List.length_cons, List.length_nil, Nat.le_refl, if_true, List.getElem?_cons_zero, List.getElem?_cons_succ, List.getD_cons_zero, List.getD_cons_succ, extrF_tup, binF_add, binF_sub, binF_mul, binF_eql, binF_neq, binF_lss, binF_leq, binF_gtr, binF_geq, true_and]
      rw [wrap_i64 (by omega) (by omega)]
      exact ⟨⟨k + 1, Z2, Hg10, rfl, by omega, by rw [hsn]; exact hg10, g710, hle10⟩, by simp [iv]; omega⟩
  have hie : i = l.length := by omega
  subst hie
  have hcfl : (List.range l.length).flatMap (conP l) = P := by rw [← hcf]; rfl
  rw [hcfl] at hg
  have hZ : RP H8 Z P := hg.readsC
  have l7 : loadN 2 (.ptr b7 0) H8 = some (.agg [.int .i64 (l.length : Int), Z]) := loadN_at (cells := [.int .i64 (l.length : Int), Z]) (hg.le _ _ g7)
  have hle9 := Heap.le_trans hle8 hg.le
  have lX8 := lX2 H8 hle9
  simp only [l7, letO_some]
  refine c10 hF hZ ?_
  have e0' : ((0 : Int) == 0) = true := rfl
  have hls := (sh_len P (List.range (2 ^ l.length))).1
  have hls' : (shS l.length P).1.length ≤ 7 := hls
  have hll : lenA (sl (up (shS l.length P).1)) = some (.int .i64 ((shS l.length P).1.length : Int)) := by simp [sl, lenA]
  have w1 : IntKind.i64.wrap ((pg.length : Int) - (l.length : Int)) = (pg.length : Int) - (l.length : Int) := wrap_i64 (by omega) (by omega)
  have w2 : IntKind.i64.wrap ((pg.length : Int) - (l.length : Int) + ((shS l.length P).1.length : Int)) = (fewF 2 pg 0 : Int) := by rw [wrap_i64 (by omega) (by omega)]; omega
  have ee : ((fewF 2 pg 0 : Int) == (fewF 2 pg 0 : Int)) = true := by simp
  simp only [letO_some, cellsOf?_agg, cellsOf?_int, cellsOf?_bool, cellsOf?_imm, cellsOf?_ref, cellsOf?_nils, faddr_iptr, faddr_ptr, List.drop_succ_cons, List.drop_zero, List.take_succ_cons, List.take_zero, load1_iptr, loadN_iptr, List.length_cons, List.length_nil, Nat.le_refl, if_true, List.getElem?_cons_zero, List.getElem?_cons_succ, List.getD_cons_zero, List.getD_cons_succ, extrF_tup, binF_add, binF_sub, binF_mul, binF_eql, binF_neq, binF_lss, binF_leq, binF_gtr, binF_geq, true_and, e0', gval_bool, Int.reduceBNe, Int.reduceBEq, pickF_true, pickF_false, reduceIte, Bool.true_eq_false, Bool.false_eq_true, if_false, condA_tt, condA_ff, condG_tt, condG_ff, condG_tt', condG_ff', condG_undef, gval_undef, f5, lX8, hXl, hvl, w1, hll, w2, ee]
  refine exJ (c18 ?_)
  try simp only [letO_some, cellsOf?_agg, cellsOf?_int, cellsOf?_bool, cellsOf?_imm, cellsOf?_ref, cellsOf?_nils, faddr_iptr, faddr_ptr, List.drop_succ_cons, List.drop_zero, List.take_succ_cons, List.take_zero, load1_iptr, loadN_iptr, List.length_cons, List.length_nil, Nat.le_refl, if_true, List.getElem?_cons_zero, List.getElem?_cons_succ, List.getD_cons_zero, List.getD_cons_succ, extrF_tup, binF_add, binF_sub, binF_mul, binF_eql, binF_neq, binF_lss, binF_leq, binF_gtr, binF_geq, true_and, gval_bool, Int.reduceBNe, Int.reduceBEq, pickF_true, pickF_false, reduceIte, Bool.true_eq_false, Bool.false_eq_true, if_false, condA_tt, condA_ff, condG_tt, condG_ff, condG_tt', condG_ff', condG_undef, gval_undef]
  exact endK_pub (Pub.drop (Heap.le_trans hle2 hle9)) (endK_ret hk)
namespace topSpans
theorem law {b0 : Nat} {g : List Nat} (h : b0 < 256) (h0 : g.length = 8) (h1 : ∀ x ∈ g, x < 256) : ACalls Tryd.prog 5 [.int .u8 (b0 : Int), .agg (g.map fun (x : Nat) => .int .u8 (x : Int))] Heap.none fun r _ => r = .bool true :=
  c5 h h0 h1 rfl
end topSpans
end Go.Proofs.YtmmfelpgcdlgfaaDoor

namespace Go.Proofs.YtmmfelpgcdlgfaaDoor
open Go.Av
set_option linter.unusedVariables false
set_option linter.unusedSimpArgs false
set_option maxRecDepth 8000

def srs (Y : List Nat) : List (Nat × Nat) := Y.map fun y => (y, 1)
@[simp] theorem srs_len (Y : List Nat) : (srs Y).length = Y.length := by simp [srs]
theorem srs_get {Y : List Nat} {i : Nat} (h : i < Y.length) : (srs Y)[i]? = some (Y.getD i 0, 1) := by
  rw [srs, List.getElem?_map, List.getElem?_eq_getElem h, List.getD_eq_getElem?_getD, List.getElem?_eq_getElem h]; rfl
/-- reign.Check -/
theorem c46 {v : AV} {Y : List Nat} {H : Heap} {K : AV → Heap → Prop} (hv : RP H v (srs Y)) (h1 : 1 ≤ Y.length) (h8 : Y.length ≤ 8) (hy : ∀ y ∈ Y, y ≤ 100) (hk : K (.int .i64 0) H) : ACalls Tryd.prog 46 [v] H K := by
  apply W46_ok
  unfold W46
  have hlen := ReadsC.len hv
  rw [srs_len] at hlen
  have e1 : ((Y.length : Int) == 0) = false := by rw [beq_eq_false_iff_ne]; omega
  have e2 : decide ((8 : Int) < (Y.length : Int)) = false := decide_eq_false (by omega)
  simp only [letO_some, cellsOf?_agg, cellsOf?_int, cellsOf?_bool, cellsOf?_imm, cellsOf?_ref, cellsOf?_nils, faddr_iptr, faddr_ptr, List.drop_succ_cons, List.drop_zero, List.take_succ_cons, List.take_zero, load1_iptr, loadN_iptr, List.length_cons, List.length_nil, Nat.le_refl, if_true, List.getElem?_cons_zero, List.getElem?_cons_succ, List.getD_cons_zero, List.getD_cons_succ, extrF_tup, binF_add, binF_sub, binF_mul, binF_eql, binF_neq, binF_lss, binF_leq, binF_gtr, binF_geq, true_and, hlen, e1, e2, condA_ff]
  refine ⟨fun L H' => ∃ i : Nat, eqt L [.int .i64 i] ∧ i ≤ Y.length ∧ H.le H', fun L _ => (Y.length - iv L 0).toNat, ⟨0, rfl, by omega, Heap.le_refl _⟩, ?_⟩
  rintro L H1 ⟨i, rfl, hi, hle⟩
  try simp only [letO_some, cellsOf?_agg, cellsOf?_int, cellsOf?_bool, cellsOf?_imm, cellsOf?_ref, cellsOf?_nils, faddr_iptr, faddr_ptr, List.drop_succ_cons, List.drop_zero, List.take_succ_cons, List.take_zero, load1_iptr, loadN_iptr, List.length_cons, List.length_nil, Nat.le_refl, if_true, List.getElem?_cons_zero, List.getElem?_cons_succ, List.getD_cons_zero, List.getD_cons_succ, extrF_tup, binF_add, binF_sub, binF_mul, binF_eql, binF_neq, binF_lss, binF_leq, binF_gtr, binF_geq, true_and]
  refine condA_t (fun hlt => ?_) (fun hge => ?_)
  · have a1 : i < Y.length := by omega
    refine ReadsC.getN hle hv (by omega) (by rw [srs_len]; omega) ?_
    rw [Int.toNat_natCast, rows_get prC_len (srs_get a1)]
    have hyi : Y.getD i 0 ≤ 100 := by
      rw [List.getD_eq_getElem?_getD, List.getElem?_eq_getElem a1]; exact hy _ (List.getElem_mem a1)
    generalize Y.getD i 0 = y at *
    refine alloc_store (cs := prC (y, 1)) rfl rfl rfl rfl fun b4 hb4 => ?_
    have hle2 := Heap.le_trans hle (Heap.le_new (c := prC (y, 1)) hb4)
    have h4 : (H1.put b4 (prC (y, 1))) b4 = some (prC (y, 1)) := Heap.put_same
    generalize H1.put b4 (prC (y, 1)) = H2 at *
    have f0 : faddr 0 (.ptr b4 0) = some (.ptr b4 0) := rfl
    have f1 : faddr 1 (.ptr b4 0) = some (.ptr b4 1) := rfl
    have l0 : load1 (.ptr b4 0) H2 = some (.int .i64 (y : Int)) := load1_at h4 rfl
    have l1 : load1 (.ptr b4 1) H2 = some (.int .i64 1) := load1_at h4 rfl
    have x1 : decide ((y : Int) < 0) = false := decide_eq_false (by omega)
    have x2 : decide ((100 : Int) < (y : Int)) = false := decide_eq_false (by omega)
    have x3 : decide ((1 : Int) < 1) = false := by decide
    have x4 : decide ((9 : Int) < 1) = false := by decide
    simp only [letO_some, cellsOf?_agg, cellsOf?_int, cellsOf?_bool, cellsOf?_imm, cellsOf?_ref, cellsOf?_nils, faddr_iptr, faddr_ptr, List.drop_succ_cons, List.drop_zero, List.take_succ_cons, List.take_zero, load1_iptr, loadN_iptr, List.length_cons, List.length_nil, Nat.le_refl, if_true, List.getElem?_cons_zero, List.getElem?_cons_succ, List.getD_cons_zero, List.getD_cons_succ, extrF_tup, binF_add, binF_sub, binF_mul, binF_eql, binF_neq, binF_lss, binF_leq, binF_gtr, binF_geq, true_and, f0, f1, l0, l1, x1, x2, x3, x4, gval_bool, Int.reduceBNe, Int.reduceBEq, pickF_true, pickF_false, reduceIte, Bool.true_eq_false, Bool.false_eq_true, if_false, condA_tt, condA_ff, condG_tt, condG_ff, condG_tt', condG_ff', condG_undef, gval_undef]
    rw [wrap_i64 (by omega) (by omega)]
    exact ⟨⟨i + 1, rfl, by omega, hle2⟩, by simp [iv]; omega⟩
  · exact endK_pub (Pub.drop hle) (endK_ret hk)
theorem i64_shl {t : TypeId} {k : Nat} (hk : k < 8) : binF Tryd.prog .shl t (.int .i64 1) (.int .i64 (k : Int)) = some (.int .i64 ((2 ^ k : Nat) : Int)) := by
  have h : k = 0 ∨ k = 1 ∨ k = 2 ∨ k = 3 ∨ k = 4 ∨ k = 5 ∨ k = 6 ∨ k = 7 := by omega
  rcases h with rfl | rfl | rfl | rfl | rfl | rfl | rfl | rfl <;> rfl
theorem i64_shr {t : TypeId} {a k : Nat} (hk : k < 64) : binF Tryd.prog .shr t (.int .i64 (a : Int)) (.int .i64 (k : Int)) = some (.int .i64 ((a / 2 ^ k : Nat) : Int)) := by
  have e : min (k : Int).toNat 64 = k := by omega
  show (if (k : Int) < 0 then none else some (AV.int .i64 ((a : Int).fdiv (2 ^ min (k : Int).toNat 64)))) = _
  rw [if_neg (by omega), e]
  have : ((2 : Int) ^ k) = ((2 ^ k : Nat) : Int) := by simp
  rw [this, Int.ofNat_fdiv]
theorem i64_and1 {t : TypeId} {a : Nat} (ha : a < 2 ^ 64) : binF Tryd.prog .and t (.int .i64 (a : Int)) (.int .i64 1) = some (.int .i64 ((a &&& 1 : Nat) : Int)) := by
  show (if IntKind.i64 = IntKind.i64 then some (AV.int .i64 (IntKind.i64.wrap ((BitVec.ofInt 64 (a : Int) &&& BitVec.ofInt 64 1).toNat))) else none) = _
  have h1 : (BitVec.ofInt 64 1).toNat = 1 := by decide
  rw [if_pos rfl, BitVec.toNat_and, u64_nat ha, h1]
  have h2 : a &&& 1 ≤ 1 := Nat.and_le_right
  rw [wrap_i64 (by omega) (by omega)]
theorem eqs_nil : binF Tryd.prog .eql 35 .nils .nils = some (.bool true) := by
  have h : Tryd.prog.underlying 35 = some (.slice 3) := by kernel_rfl
  show (eqF Tryd.prog 35 .nils .nils).map AV.bool = _
  simp only [eqF, h]; rfl
theorem eqs_ref {s b o n : Nat} {c : Option Nat} : binF Tryd.prog .eql 35 (.ref s b o n c) .nils = some (.bool false) := by
  have h : Tryd.prog.underlying 35 = some (.slice 3) := by kernel_rfl
  show (eqF Tryd.prog 35 (.ref s b o n c) .nils).map AV.bool = _
  simp only [eqF, h]; rfl
theorem flt_ls : ∀ n : Fin 8, ∀ s : Fin 128, s.val < 2 ^ n.val → (List.range n.val).filter (fun i => s.val.testBit i) = lsN s.val := by decide +kernel
theorem ls_ne : ∀ s : Fin 128, s.val ≠ 0 → lsN s.val ≠ [] := by decide +kernel
/-- The best list so far, as a value. -/
def BX (H H' : Heap) (X : AV) (st : List Nat × Nat) : Prop := (st.2 = 0 ∧ X = .nils) ∨ (st.2 ≠ 0 ∧ ∃ b, H b = none ∧ X = .ref 1 b 0 st.1.length none ∧ H' b = some (ints (up st.1)))
theorem BX.le {H H' H'' : Heap} {X : AV} {st : List Nat × Nat} (h : BX H H' X st) (hl : H'.le H'') : BX H H'' X st := by
  rcases h with h | ⟨h1, b, h2, h3, h4⟩
  · exact .inl h
  · exact .inr ⟨h1, b, h2, h3, hl _ _ h4⟩
/-- reign.Wrong -/
theorem c20 {v : AV} {Y : List Nat} {H : Heap} {K : AV → Heap → Prop} (hv : RP H v (srs Y)) (h1 : 1 ≤ Y.length) (h5 : Y.length ≤ 5) (hy : ∀ y ∈ Y, y ≤ 100) (hk : K (.tup [sl (up (shS Y.length (falls Y)).1), .int .i64 0]) H) :
    ACalls Tryd.prog 20 [v] H K := by
  apply W20_ok
  unfold W20
  have hlen := ReadsC.len hv
  rw [srs_len] at hlen
  have e0 : ((0 : Int) != 0) = false := rfl
  have h2n : 2 ^ Y.length ≤ 2 ^ 5 := Nat.pow_le_pow_right (by omega) h5
  have hF := falls_fd h1 h5
  try simp only [letO_some, cellsOf?_agg, cellsOf?_int, cellsOf?_bool, cellsOf?_imm, cellsOf?_ref, cellsOf?_nils, faddr_iptr, faddr_ptr, List.drop_succ_cons, List.drop_zero, List.take_succ_cons, List.take_zero, load1_iptr, loadN_iptr, List.length_cons, List.length_nil, Nat.le_refl, if_true, List.getElem?_cons_zero, List.getElem?_cons_succ, List.getD_cons_zero, List.getD_cons_succ, extrF_tup, binF_add, binF_sub, binF_mul, binF_eql, binF_neq, binF_lss, binF_leq, binF_gtr, binF_geq, true_and]
  refine c46 hv h1 (by omega) hy ?_
  simp only [letO_some, cellsOf?_agg, cellsOf?_int, cellsOf?_bool, cellsOf?_imm, cellsOf?_ref, cellsOf?_nils, faddr_iptr, faddr_ptr, List.drop_succ_cons, List.drop_zero, List.take_succ_cons, List.take_zero, load1_iptr, loadN_iptr, List.length_cons, List.length_nil, Nat.le_refl, if_true, List.getElem?_cons_zero, List.getElem?_cons_succ, List.getD_cons_zero, List.getD_cons_succ, extrF_tup, binF_add, binF_sub, binF_mul, binF_eql, binF_neq, binF_lss, binF_leq, binF_gtr, binF_geq, true_and, e0, condA_ff, hlen, i64_shl (show Y.length < 8 by omega)]
  refine ⟨fun L H' => ∃ (s : Nat) (X : AV), eqt L [X, .int .i64 (s : Int)] ∧ s ≤ 2 ^ Y.length ∧ H.le H' ∧ BX H H' X ((List.range s).foldl (shF (falls Y)) ([], 0)) ∧ (1 ≤ s → expl (falls Y) 0 = false),
    fun L _ => (2 ^ Y.length - iv L 1).toNat, ⟨0, .nils, rfl, Nat.zero_le _, Heap.le_refl _, .inl ⟨rfl, rfl⟩, by omega⟩, ?_⟩
  rintro L H5 ⟨s, X, rfl, hs, hle5, hbx, hz⟩
  have p2 : ((2 ^ Y.length : Nat) : Int) = (2 : Int) ^ Y.length := by simp
  obtain ⟨q1, q2⟩ := sh_len (falls Y) (List.range s)
  rw [List.length_range] at q2
  try simp only [letO_some, cellsOf?_agg, cellsOf?_int, cellsOf?_bool, cellsOf?_imm, cellsOf?_ref, cellsOf?_nils, faddr_iptr, faddr_ptr, List.drop_succ_cons, List.drop_zero, List.take_succ_cons, List.take_zero, load1_iptr, loadN_iptr, List.length_cons, List.length_nil, Nat.le_refl, if_true, List.getElem?_cons_zero, List.getElem?_cons_succ, List.getD_cons_zero, List.getD_cons_succ, extrF_tup, binF_add, binF_sub, binF_mul, binF_eql, binF_neq, binF_lss, binF_leq, binF_gtr, binF_geq, true_and]
  refine condA_t (fun hlt => ?_) (fun hge => ?_)
  · have hs2 : s < 2 ^ Y.length := by omega
    have hr : (List.range (s + 1)).foldl (shF (falls Y)) ([], 0) = shF (falls Y) ((List.range s).foldl (shF (falls Y)) ([], 0)) s := by rw [List.range_succ, List.foldl_append]; rfl
    have hfl := flt_ls ⟨Y.length, by omega⟩ ⟨s, by omega⟩ hs2
    simp only at hfl
    refine ⟨fun L H' => ∃ X', eqt L [X'] ∧ H.le H' ∧ BX H H' X' ((List.range (s + 1)).foldl (shF (falls Y)) ([], 0)) ∧ expl (falls Y) 0 = false, ?_, ?_⟩
    · rw [hr]
      generalize (List.range s).foldl (shF (falls Y)) ([], 0) = st at *
      refine ⟨fun L H' => ∃ (i : Nat) (O : AV) (Hg : Heap), eqt L [O, .bool ((List.range i).foldl (gdF Y s) (true, -1)).1, .int .i64 ((List.range i).foldl (gdF Y s) (true, -1)).2, .int .i64 (i : Int)] ∧ i ≤ Y.length ∧ H5.le Hg ∧
          Grow 1 Hg H' O ((List.range i).filter fun x => s.testBit x).length (ints (up ((List.range i).filter fun x => s.testBit x))) ∧ (((List.range i).filter fun x => s.testBit x) = [] ∧ O = .nils ∨ ((List.range i).filter fun x => s.testBit x) ≠ [] ∧ isOwn O),
        fun L _ => (Y.length - iv L 3).toNat, ⟨0, .nils, H5, rfl, by omega, Heap.le_refl _, Grow.nils 1 H5, .inl ⟨rfl, rfl⟩⟩, ?_⟩
      rintro L H10 ⟨i, O, Hg, rfl, hi, hleg, hg, hO⟩
      have hfle : ((List.range i).filter fun x => s.testBit x).length ≤ i := by
        have := List.length_filter_le (fun x => s.testBit x) (List.range i)
        simpa using this
      try simp only [letO_some, cellsOf?_agg, cellsOf?_int, cellsOf?_bool, cellsOf?_imm, cellsOf?_ref, cellsOf?_nils, faddr_iptr, faddr_ptr, List.drop_succ_cons, List.drop_zero, List.take_succ_cons, List.take_zero, load1_iptr, loadN_iptr, List.length_cons, List.length_nil, Nat.le_refl, if_true, List.getElem?_cons_zero, List.getElem?_cons_succ, List.getD_cons_zero, List.getD_cons_succ, extrF_tup, binF_add, binF_sub, binF_mul, binF_eql, binF_neq, binF_lss, binF_leq, binF_gtr, binF_geq, true_and]
      refine condA_t (fun hlt2 => ?_) (fun hge2 => ?_)
      · have i1 : i < Y.length := by omega
        have hfs : (List.range (i + 1)).filter (fun x => s.testBit x) = (List.range i).filter (fun x => s.testBit x) ++ [i].filter (fun x => s.testBit x) := by rw [List.range_succ, List.filter_append]
        refine ⟨fun L H' => ∃ (O : AV) (Hg : Heap), eqt L [O, .bool ((List.range (i + 1)).foldl (gdF Y s) (true, -1)).1, .int .i64 ((List.range (i + 1)).foldl (gdF Y s) (true, -1)).2] ∧ H5.le Hg ∧
          Grow 1 Hg H' O ((List.range (i + 1)).filter fun x => s.testBit x).length (ints (up ((List.range (i + 1)).filter fun x => s.testBit x))) ∧ (((List.range (i + 1)).filter fun x => s.testBit x) = [] ∧ O = .nils ∨ ((List.range (i + 1)).filter fun x => s.testBit x) ≠ [] ∧ isOwn O), ?_, ?_⟩
        · refine ReadsC.getN (Heap.le_trans (Heap.le_trans hle5 hleg) hg.le) hv (by omega) (by rw [srs_len]; omega) ?_
          rw [Int.toNat_natCast, rows_get prC_len (srs_get i1), gd_snoc, hfs]
          rw [gdF]
          generalize (List.range i).foldl (gdF Y s) (true, -1) = gl at *
          obtain ⟨good, last⟩ := gl
          generalize (List.range i).filter (fun x => s.testBit x) = fl at *
          generalize Y.getD i 0 = y at *
          refine alloc_store (cs := prC (y, 1)) rfl rfl rfl rfl fun b11 hb11 => ?_
          have h11 : (H10.put b11 (prC (y, 1))) b11 = some (prC (y, 1)) := Heap.put_same
          have hg11 : Grow 1 (Hg.put b11 (prC (y, 1))) (H10.put b11 (prC (y, 1))) O _ _ := alloc_grow hg hb11
          have hle11 : H5.le (Hg.put b11 (prC (y, 1))) := Heap.le_trans hleg (Heap.le_new (none_of_le hg.le hb11))
          generalize H10.put b11 (prC (y, 1)) = H11 at *
          generalize Hg.put b11 (prC (y, 1)) = Hg11 at *
          have f0 : faddr 0 (.ptr b11 0) = some (.ptr b11 0) := rfl
          have l0 : load1 (.ptr b11 0) H11 = some (.int .i64 (y : Int)) := load1_at h11 rfl
          have p64 : (2 : Nat) ^ 64 = 18446744073709551616 := by decide
          have hand : ∀ t, binF Tryd.prog .and t (.int .i64 ((s / 2 ^ i : Nat) : Int)) (.int .i64 1) = some (.int .i64 ((s / 2 ^ i &&& 1 : Nat) : Int)) := fun t => i64_and1 (by have := Nat.div_le_self s (2 ^ i); omega)
          simp only [letO_some, i64_shr (show i < 64 by omega), hand, binF_eql, u64_bit, f0, l0]
          cases hb : s.testBit i
          · have hf1 : [i].filter (fun x => s.testBit x) = [] := by simp [hb]
            simp only [condA_ff, letO_some, hf1, List.append_nil, Bool.false_eq_true, if_false]
            cases good
            · simp only [gval_bool, Int.reduceBNe, Int.reduceBEq, pickF_true, pickF_false, reduceIte, Bool.true_eq_false, Bool.false_eq_true, if_false, condA_tt, condA_ff, condG_tt, condG_ff, condG_tt', condG_ff', condG_undef, gval_undef, letO_some, Bool.false_and]
              exact ⟨O, Hg11, rfl, hle11, hg11, hO⟩
            · simp only [gval_bool, Int.reduceBNe, Int.reduceBEq, pickF_true, pickF_false, reduceIte, Bool.true_eq_false, Bool.false_eq_true, if_false, condA_tt, condA_ff, condG_tt, condG_ff, condG_tt', condG_ff', condG_undef, gval_undef, letO_some, f0, l0, binF_geq, Bool.true_and]
              exact ⟨O, Hg11, rfl, hle11, hg11, hO⟩
          · have hf1 : [i].filter (fun x => s.testBit x) = [i] := by simp [hb]
            simp only [condA_tt, letO_some, hf1, if_true, l35 cellsOf?_int]
            refine appendA_oneR hg11 (by omega) fun v' H12 hg12 ho12 => ?_
            try simp only [letO_some]
            have hup : up (fl ++ [i]) = up fl ++ [(i : Int)] := by simp [up]
            refine ⟨v', Hg11, rfl, hle11, ?_, .inr ⟨by simp, ho12⟩⟩
            rw [hup, List.length_append]
            exact hg12
        · rintro L H11 ⟨O', Hg', rfl, hle', hg', hO'⟩
          try simp only [letO_some, cellsOf?_agg, cellsOf?_int, cellsOf?_bool, cellsOf?_imm, cellsOf?_ref, cellsOf?_nils, faddr_iptr, faddr_ptr, List.drop_succ_cons, List.drop_zero, List.take_succ_cons, List.take_zero, load1_iptr, loadN_iptr, List.length_cons, List.length_nil, Nat.le_refl, if_true, List.getElem?_cons_zero, List.getElem?_cons_succ, List.getD_cons_zero, List.getD_cons_succ, extrF_tup, binF_add, binF_sub, binF_mul, binF_eql, binF_neq, binF_lss, binF_leq, binF_gtr, binF_geq, true_and]
          rw [wrap_i64 (by omega) (by omega)]
          exact ⟨⟨i + 1, O', Hg', rfl, by omega, hle', hg', hO'⟩, by simp [iv]; omega⟩
      · have hie : i = Y.length := by omega
        subst hie
        have hgood : ((List.range Y.length).foldl (gdF Y s) (true, -1)).1 = expl (falls Y) s := good_expl
        rw [hgood]
        rw [hfl] at hg hO
        have hleH : H.le H10 := Heap.le_trans (Heap.le_trans hle5 hleg) hg.le
        have hbx' : BX H H10 X st := hbx.le (Heap.le_trans hleg hg.le)
        have hOl := hg.len
        have hll := ls_len s
        -- the list that is taken
        have take : ∀ (m : Nat), m ≠ 0 → s ≠ 0 → BX H H10 O (lsN s, m) := by
          intro m hm hs0
          have hne := ls_ne ⟨s, by omega⟩ hs0
          simp only at hne
          rcases hO with ⟨h, _⟩ | ⟨_, ho⟩
          · exact absurd h hne
          · obtain ⟨b, hb, hO2, hH⟩ := hg.own ho
            exact .inr ⟨hm, b, none_of_le (Heap.le_trans hle5 hleg) hb, hO2, by rw [hH]; exact Heap.put_same⟩
        have hown : s ≠ 0 → ∃ b, O = .ref 1 b 0 (lsN s).length none := by
          intro hs0
          have hne := ls_ne ⟨s, by omega⟩ hs0
          simp only at hne
          rcases hO with ⟨h, _⟩ | ⟨_, ho⟩
          · exact absurd h hne
          · obtain ⟨b, hb, hO2, hH⟩ := hg.own ho
            exact ⟨b, hO2⟩
        obtain ⟨best, many⟩ := st
        simp only at q1 q2
        rw [shF]
        have hz0 : s = 0 ∨ expl (falls Y) 0 = false := by
          by_cases h : s = 0
          · exact .inl h
          · exact .inr (hz (by omega))
        cases hE : expl (falls Y) s
        · -- it falls
          have hz1 : expl (falls Y) 0 = false := by
            rcases hz0 with h | h
            · rw [← h]; exact hE
            · exact h
          try simp only [gval_bool, Int.reduceBNe, Int.reduceBEq, pickF_true, pickF_false, reduceIte, Bool.true_eq_false, Bool.false_eq_true, if_false, condA_tt, condA_ff, condG_tt, condG_ff, condG_tt', condG_ff', condG_undef, gval_undef, letO_some]
          refine exU ?_
          try simp only [gval_bool, Int.reduceBNe, Int.reduceBEq, pickF_true, pickF_false, reduceIte, Bool.true_eq_false, Bool.false_eq_true, if_false, condA_tt, condA_ff, condG_tt, condG_ff, condG_tt', condG_ff', condG_undef, gval_undef, letO_some]
          rw [if_pos (.inl trivial)]
          exact ⟨X, rfl, hleH, hbx', hz1⟩
        · rcases hbx' with ⟨hm0, hX⟩ | ⟨hm0, b, hb, hX, hHb⟩
          · simp only at hm0
            subst hm0; subst hX
            simp only [gval_bool, Int.reduceBNe, Int.reduceBEq, pickF_true, pickF_false, reduceIte, Bool.true_eq_false, Bool.false_eq_true, if_false, condA_tt, condA_ff, condG_tt, condG_ff, condG_tt', condG_ff', condG_undef, gval_undef, letO_some, eqs_nil]
            refine exU ?_
            try simp only [gval_bool, Int.reduceBNe, Int.reduceBEq, pickF_true, pickF_false, reduceIte, Bool.true_eq_false, Bool.false_eq_true, if_false, condA_tt, condA_ff, condG_tt, condG_ff, condG_tt', condG_ff', condG_undef, gval_undef, letO_some]
            rw [if_neg (by simp), if_pos (.inl trivial)]
            by_cases hs0 : s = 0
            · subst hs0
              have hOn : O = .nils := by
                have hl0 : lsN 0 = [] := by decide
                rcases hO with ⟨_, h⟩ | ⟨h, _⟩
                · exact h
                · exact absurd hl0 h
              subst hOn
              simp only [eqs_nil, condA_tt, letO_some]
              obtain ⟨-, i2, -⟩ := sh_inv (falls Y) (List.range (2 ^ Y.length))
              have hd : (List.range (2 ^ Y.length)).foldl (shF (falls Y)) ([], 0) = shS Y.length (falls Y) := rfl
              rw [hd] at i2
              have p1 : 1 ≤ 2 ^ Y.length := Nat.one_le_two_pow
              have h3 := (i2 0 (List.mem_range.2 (by omega)) hE).1
              have hl0 : lsN 0 = [] := by decide
              rw [hl0] at h3
              have h4 : (shS Y.length (falls Y)).1 = [] := List.eq_nil_of_length_eq_zero (by simpa using h3)
              rw [h4] at hk
              refine endK_all hleH 2 ?_
              exact hk
            · obtain ⟨b, hO2⟩ := hown hs0
              have htk := take 1 (by omega) hs0
              subst hO2
              simp only [eqs_ref, condA_ff, letO_some]
              exact ⟨_, rfl, hleH, htk, hz (by omega)⟩
          · simp only at hm0 hX hHb
            subst hX
            have hs0 : s ≠ 0 := by
              rintro rfl
              simp at q2
              exact hm0 q2
            obtain ⟨bo, hO2⟩ := hown hs0
            have hXl : lenA (.ref 1 b 0 best.length none) = some (.int .i64 (best.length : Int)) := rfl
            have hXr : Reads H10 (.ref 1 b 0 best.length none) (up best) := ⟨rfl, by simp, ints (up best), hHb, by simp, by rw [List.drop_zero, List.take_of_length_le (by simp)]⟩
            have hbxk : ∀ m, m ≠ 0 → BX H H10 (.ref 1 b 0 best.length none) (best, m) := fun m hm => .inr ⟨hm, b, hb, rfl, hHb⟩
            simp only [gval_bool, Int.reduceBNe, Int.reduceBEq, pickF_true, pickF_false, reduceIte, Bool.true_eq_false, Bool.false_eq_true, if_false, condA_tt, condA_ff, condG_tt, condG_ff, condG_tt', condG_ff', condG_undef, gval_undef, letO_some, eqs_ref, hOl, hXl, binF_lss]
            by_cases h2 : (lsN s).length < best.length
            · have e1 : decide (((lsN s).length : Int) < (best.length : Int)) = true := decide_eq_true (by omega)
              have htk := take 1 (by omega) hs0
              simp only [e1, gval_bool, Int.reduceBNe, Int.reduceBEq, pickF_true, pickF_false, reduceIte, Bool.true_eq_false, Bool.false_eq_true, if_false, condA_tt, condA_ff, condG_tt, condG_ff, condG_tt', condG_ff', condG_undef, gval_undef, letO_some]
              refine exU ?_
              try simp only [gval_bool, Int.reduceBNe, Int.reduceBEq, pickF_true, pickF_false, reduceIte, Bool.true_eq_false, Bool.false_eq_true, if_false, condA_tt, condA_ff, condG_tt, condG_ff, condG_tt', condG_ff', condG_undef, gval_undef, letO_some]
              rw [if_neg (by simp; omega), if_pos (.inr h2)]
              subst hO2
              simp only [eqs_ref, condA_ff, letO_some]
              exact ⟨_, rfl, hleH, htk, hz (by omega)⟩
            · have e1 : decide (((lsN s).length : Int) < (best.length : Int)) = false := decide_eq_false (by omega)
              simp only [e1, gval_bool, Int.reduceBNe, Int.reduceBEq, pickF_true, pickF_false, reduceIte, Bool.true_eq_false, Bool.false_eq_true, if_false, condA_tt, condA_ff, condG_tt, condG_ff, condG_tt', condG_ff', condG_undef, gval_undef, letO_some, hOl, hXl, binF_eql]
              by_cases h3 : (lsN s).length = best.length
              · have e2 : (((lsN s).length : Int) == (best.length : Int)) = true := by rw [beq_iff_eq]; omega
                simp only [e2, gval_bool, Int.reduceBNe, Int.reduceBEq, pickF_true, pickF_false, reduceIte, Bool.true_eq_false, Bool.false_eq_true, if_false, condA_tt, condA_ff, condG_tt, condG_ff, condG_tt', condG_ff', condG_undef, gval_undef, letO_some]
                refine exJ (c35 hg.reads hXr (by simp; omega) (by simp; omega) ?_)
                rw [if_neg (by simp; omega), if_neg (by omega)]
                simp only [gval_bool, Int.reduceBNe, Int.reduceBEq, pickF_true, pickF_false, reduceIte, Bool.true_eq_false, Bool.false_eq_true, if_false, condA_tt, condA_ff, condG_tt, condG_ff, condG_tt', condG_ff', condG_undef, gval_undef, letO_some, binF_lss]
                by_cases hc : cmpL (up (lsN s)) (up best) < 0
                · have e3 : decide (cmpL (up (lsN s)) (up best) < 0) = true := decide_eq_true hc
                  have htk := take (many + 1) (by omega) hs0
                  simp only [e3, gval_bool, Int.reduceBNe, Int.reduceBEq, pickF_true, pickF_false, reduceIte, Bool.true_eq_false, Bool.false_eq_true, if_false, condA_tt, condA_ff, condG_tt, condG_ff, condG_tt', condG_ff', condG_undef, gval_undef, letO_some]
                  rw [if_pos hc]
                  subst hO2
                  simp only [eqs_ref, condA_ff, letO_some]
                  exact ⟨_, rfl, hleH, htk, hz (by omega)⟩
                · have e3 : decide (cmpL (up (lsN s)) (up best) < 0) = false := decide_eq_false hc
                  simp only [e3, gval_bool, Int.reduceBNe, Int.reduceBEq, pickF_true, pickF_false, reduceIte, Bool.true_eq_false, Bool.false_eq_true, if_false, condA_tt, condA_ff, condG_tt, condG_ff, condG_tt', condG_ff', condG_undef, gval_undef, letO_some]
                  rw [if_neg hc]
                  exact ⟨_, rfl, hleH, hbxk _ (by omega), hz (by omega)⟩
              · have e2 : (((lsN s).length : Int) == (best.length : Int)) = false := by rw [beq_eq_false_iff_ne]; omega
                simp only [e2, gval_bool, Int.reduceBNe, Int.reduceBEq, pickF_true, pickF_false, reduceIte, Bool.true_eq_false, Bool.false_eq_true, if_false, condA_tt, condA_ff, condG_tt, condG_ff, condG_tt', condG_ff', condG_undef, gval_undef, letO_some]
                refine exU ?_
                try simp only [gval_bool, Int.reduceBNe, Int.reduceBEq, pickF_true, pickF_false, reduceIte, Bool.true_eq_false, Bool.false_eq_true, if_false, condA_tt, condA_ff, condG_tt, condG_ff, condG_tt', condG_ff', condG_undef, gval_undef, letO_some]
                rw [if_pos (.inr ⟨by omega, by omega⟩)]
                exact ⟨_, rfl, hleH, hbxk _ hm0, hz (by omega)⟩
    · rintro L H6 ⟨X', rfl, hle6, hbx6, hz6⟩
      try simp only [letO_some, cellsOf?_agg, cellsOf?_int, cellsOf?_bool, cellsOf?_imm, cellsOf?_ref, cellsOf?_nils, faddr_iptr, faddr_ptr, List.drop_succ_cons, List.drop_zero, List.take_succ_cons, List.take_zero, load1_iptr, loadN_iptr, List.length_cons, List.length_nil, Nat.le_refl, if_true, List.getElem?_cons_zero, List.getElem?_cons_succ, List.getD_cons_zero, List.getD_cons_succ, extrF_tup, binF_add, binF_sub, binF_mul, binF_eql, binF_neq, binF_lss, binF_leq, binF_gtr, binF_geq, true_and]
      rw [wrap_i64 (by omega) (by omega)]
      exact ⟨⟨s + 1, X', rfl, by omega, hle6, hbx6, fun _ => hz6⟩, by simp [iv]; omega⟩
  · have hse : s = 2 ^ Y.length := by omega
    subst hse
    have hd : (List.range (2 ^ Y.length)).foldl (shF (falls Y)) ([], 0) = shS Y.length (falls Y) := rfl
    rw [hd] at hbx
    have p1 : 1 ≤ 2 ^ Y.length := Nat.one_le_two_pow
    have hpos : (shS Y.length (falls Y)).2 ≠ 0 := sh_pos (full_expl hF) (List.mem_range.2 (by omega))
    rcases hbx with ⟨h, _⟩ | ⟨_, b, hb, hX, hHb⟩
    · exact absurd h hpos
    · subst hX
      refine endK_all hle5 2 ?_
      have hc := conv_own (H := H) (H' := H5) hb hHb 0 (n := (shS Y.length (falls Y)).1.length) (by simp)
      have : conv H H5 2 (.tup [.ref 1 b 0 (shS Y.length (falls Y)).1.length none, .int .i64 0]) = .tup [sl (up (shS Y.length (falls Y)).1), .int .i64 0] := by
        rw [conv]
        simp only [List.map, hc, conv_int]
      rw [this]
      exact hk
end Go.Proofs.YtmmfelpgcdlgfaaDoor
