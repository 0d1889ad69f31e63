import Derived.Test.YtmmfelpgcdlgfaaGreatDoorConB
import Derived.Test.YtmmfelpgcdlgfaaGreatDoorBase
import Derived.Test.YtmmfelpgcdlgfaaGreatDoorAvB
import Derived.Test.YtmmfelpgcdlgfaaGreatDoorRows
import Derived.MakeChecks
import Derived.LaidLaws
import Derived.Deep.DeepLaidRun
import Derived.LaidHandle
import Derived.Test.YtmmfelpgcdlgfaaGreatDoorTie
import Derived.Test.YtmmfelpgcdlgfaaGreatDoorCards
import Derived.SevenTiedAt
import Derived.Test.YtmmfelpgcdlgfaaGreatDoorLDividedW
/- TopDivided: for every input the law returns true, and the input reads as before. No conditions. -/
/- The choices of a graph of seven points are at most twelve. -/
namespace Go.Proofs.YtmmfelpgcdlgfaaGreatDoor
set_option linter.unusedVariables false

/-- A set of points, a bit each, that is a choice among the points of a list. -/
structure Mis (adj : Nat → Nat → Bool) (V : List Nat) (S : Nat) : Prop where
  sub : ∀ x, S.testBit x = true → x ∈ V
  free : ∀ x y, S.testBit x = true → S.testBit y = true → adj x y = false
  full : ∀ x, x ∈ V → S.testBit x = false → ∃ y, S.testBit y = true ∧ adj x y = true
def gB (n : Nat) : Nat := [1, 1, 2, 3, 4, 6, 9, 12].getD n 0
theorem gB_step : ∀ n : Fin 8, ∀ k : Fin 8, 1 ≤ k.val → k.val ≤ n.val → k.val * gB (n.val - k.val) ≤ gB n.val := by decide +kernel
theorem gB_mono : ∀ a : Fin 8, ∀ b : Fin 8, a.val ≤ b.val → gB a.val ≤ gB b.val := by decide +kernel
theorem filter_both {α : Type} (p : α → Bool) (L : List α) : (L.filter p).length + (L.filter fun x => !p x).length = L.length := by
  induction L with
  | nil => rfl
  | cons a L ih => cases h : p a <;> simp [h] <;> omega
theorem cover_le (N : List Nat) : ∀ (L : List Nat) (b : Nat), (∀ S ∈ L, ∃ u ∈ N, S.testBit u = true) → (∀ u ∈ N, (L.filter fun S => S.testBit u).length ≤ b) → L.length ≤ N.length * b := by
  induction N with
  | nil =>
    intro L b h1 _
    cases L with
    | nil => simp
    | cons S L => obtain ⟨u, hu, _⟩ := h1 S (by simp); cases hu
  | cons u N ih =>
    intro L b h1 h2
    have h3 := ih (L.filter fun S => !S.testBit u) b
      (fun S hS => by
        rw [List.mem_filter] at hS
        obtain ⟨w, hw, hw2⟩ := h1 S hS.1
        rcases List.mem_cons.1 hw with rfl | hw
        · rw [hw2] at hS; simp at hS
        · exact ⟨w, hw, hw2⟩)
      (fun w hw => by
        refine Nat.le_trans (List.Sublist.length_le ?_) (h2 w (List.mem_cons_of_mem _ hw))
        exact List.Sublist.filter _ List.filter_sublist)
    have h4 := h2 u (by simp)
    have h5 := filter_both (fun S : Nat => S.testBit u) L
    rw [List.length_cons, Nat.succ_mul]
    omega
theorem least_in {α : Type} (f : α → Nat) : ∀ (L : List α), L ≠ [] → ∃ a ∈ L, ∀ b ∈ L, f a ≤ f b := by
  intro L
  induction L with
  | nil => intro h; exact absurd rfl h
  | cons a L ih =>
    intro _
    cases L with
    | nil => exact ⟨a, by simp, by simp⟩
    | cons c L =>
      obtain ⟨m, hm, h⟩ := ih (by simp)
      by_cases hc : f a ≤ f m
      · refine ⟨a, by simp, fun b hb => ?_⟩
        rcases List.mem_cons.1 hb with rfl | hb
        · exact Nat.le_refl _
        · exact Nat.le_trans hc (h b hb)
      · refine ⟨m, List.mem_cons_of_mem _ hm, fun b hb => ?_⟩
        rcases List.mem_cons.1 hb with rfl | hb
        · omega
        · exact h b hb
theorem xor_bit (S u x : Nat) : (S ^^^ 2 ^ u).testBit x = (S.testBit x ^^ decide (u = x)) := by
  rw [Nat.testBit_xor, Nat.testBit_two_pow]
theorem nodup_map {α β : Type} {f : α → β} : ∀ {L : List α}, (∀ a ∈ L, ∀ b ∈ L, f a = f b → a = b) → L.Pairwise (· ≠ ·) → (L.map f).Pairwise (· ≠ ·) := by
  intro L
  induction L with
  | nil => intro _ _; exact List.Pairwise.nil
  | cons a L ih =>
    intro h hp
    rw [List.pairwise_cons] at hp
    rw [List.map_cons, List.pairwise_cons]
    refine ⟨fun b hb => ?_, ih (fun x hx y hy => h x (List.mem_cons_of_mem _ hx) y (List.mem_cons_of_mem _ hy)) hp.2⟩
    obtain ⟨c, hc, rfl⟩ := List.mem_map.1 hb
    intro he
    exact hp.1 c hc (h a (by simp) c (List.mem_cons_of_mem _ hc) he)
/-- There are at most so many choices. -/
theorem mis_le {adj : Nat → Nat → Bool} (hs : ∀ x y, adj x y = adj y x) (hi : ∀ x, adj x x = false) :
    ∀ (k : Nat) (V L : List Nat), V.length = k → k ≤ 7 → L.Pairwise (· ≠ ·) → (∀ S ∈ L, Mis adj V S) → L.length ≤ gB k := by
  intro k
  induction k using Nat.strongRecOn with
  | _ k ih =>
    intro V L hV hk hnd hL
    by_cases hV0 : V = []
    · subst hV0
      simp at hV
      subst hV
      have h0 : ∀ S ∈ L, S = 0 := fun S hS => by
        apply Nat.eq_of_testBit_eq
        intro i
        rw [Nat.zero_testBit]
        cases h : S.testBit i
        · rfl
        · exact absurd ((hL S hS).sub i h) (by simp)
      cases L with
      | nil => simp
      | cons a L =>
        cases L with
        | nil => simp [gB]
        | cons b L =>
          rw [List.pairwise_cons] at hnd
          exact absurd ((h0 a (by simp)).trans (h0 b (by simp)).symm) (hnd.1 b (by simp))
    · obtain ⟨v, hv, hmin⟩ := least_in (fun u => (V.filter fun w => w == u || adj u w).length) V hV0
      have hcov : L.length ≤ (V.filter fun w => w == v || adj v w).length * gB (k - (V.filter fun w => w == v || adj v w).length) := by
        refine cover_le _ _ _ (fun S hS => ?_) (fun u hu => ?_)
        · cases h : S.testBit v
          · obtain ⟨y, y1, y2⟩ := (hL S hS).full v hv h
            exact ⟨y, List.mem_filter.2 ⟨(hL S hS).sub y y1, by simp [y2]⟩, y1⟩
          · exact ⟨v, List.mem_filter.2 ⟨hv, by simp⟩, h⟩
        · have huV : u ∈ V := (List.mem_filter.1 hu).1
          have hsum := filter_both (fun w => w == u || adj u w) V
          have hlow := hmin u huV
          have hpos : 1 ≤ (V.filter fun w => w == u || adj u w).length := List.length_pos_of_mem (List.mem_filter.2 ⟨huV, by simp⟩)
          have hmap := ih (V.filter fun w => !(w == u || adj u w)).length (by omega) (V.filter fun w => !(w == u || adj u w)) ((L.filter fun S => S.testBit u).map fun S => S ^^^ 2 ^ u) rfl (by omega)
            (nodup_map (fun a _ b _ h => by
              have : a ^^^ 2 ^ u ^^^ 2 ^ u = b ^^^ 2 ^ u ^^^ 2 ^ u := by rw [h]
              simpa [Nat.xor_assoc] using this) (hnd.filter _))
            (fun T hT => by
              obtain ⟨S, hS, rfl⟩ := List.mem_map.1 hT
              rw [List.mem_filter] at hS
              obtain ⟨hS, hSu⟩ := hS
              have hm := hL S hS
              refine ⟨fun x hx => ?_, fun x y hx hy => ?_, fun x hx hnx => ?_⟩
              · rw [xor_bit] at hx
                by_cases hux : u = x
                · subst hux; rw [hSu] at hx; simp at hx
                · simp [hux] at hx
                  refine List.mem_filter.2 ⟨hm.sub x hx, ?_⟩
                  have := hm.free u x hSu hx
                  simp [this]; exact fun h => hux h.symm
              · rw [xor_bit] at hx hy
                by_cases hux : u = x
                · subst hux; rw [hSu] at hx; simp at hx
                · by_cases huy : u = y
                  · subst huy; rw [hSu] at hy; simp at hy
                  · simp [hux] at hx; simp [huy] at hy
                    exact hm.free x y hx hy
              · rw [List.mem_filter] at hx
                have hx2 := hx.2
                simp at hx2
                rw [xor_bit] at hnx
                have hux : ¬ u = x := fun h => hx2.1 h.symm
                simp [hux] at hnx
                obtain ⟨y, y1, y2⟩ := hm.full x hx.1 hnx
                have huy : ¬ u = y := by
                  rintro rfl
                  rw [hs, hx2.2] at y2; cases y2
                exact ⟨y, by rw [xor_bit]; simp [huy, y1], y2⟩)
          rw [List.length_map] at hmap
          have hmono := gB_mono ⟨(V.filter fun w => !(w == u || adj u w)).length, by omega⟩ ⟨k - (V.filter fun w => w == v || adj v w).length, by omega⟩ (by simp only; omega)
          exact Nat.le_trans hmap hmono
      have hv1 : 1 ≤ (V.filter fun w => w == v || adj v w).length := List.length_pos_of_mem (List.mem_filter.2 ⟨hv, by simp⟩)
      have hvk : (V.filter fun w => w == v || adj v w).length ≤ k := by rw [← hV]; exact List.length_filter_le _ _
      have := gB_step ⟨k, by omega⟩ ⟨(V.filter fun w => w == v || adj v w).length, by omega⟩ hv1 hvk
      exact Nat.le_trans hcov this
end Go.Proofs.YtmmfelpgcdlgfaaGreatDoor

/- Choices of words that see each other both ways, and lists of wrong articles. -/
namespace Go.Proofs.YtmmfelpgcdlgfaaGreatDoor
set_option linter.unusedVariables false

theorem cmpL_tri : ∀ (a b : List Int), cmpL a b = -1 ∨ cmpL a b = 0 ∨ cmpL a b = 1 := by
  intro a
  induction a with
  | nil => intro b; cases b <;> simp [cmpL]
  | cons x a ih =>
    intro b
    cases b with
    | nil => simp [cmpL]
    | cons y b =>
      rw [cmpL]
      split
      · simp
      · split
        · simp
        · exact ih b
/-- What the search for the shortest lists knows. -/
theorem sh_inv (R : List (Nat × Nat)) (L : List Nat) :
    (L.foldl (shF R) ([], 0)).2 = L.countP (fun s => expl R s && (lsN s).length == (L.foldl (shF R) ([], 0)).1.length) ∧
    (∀ s ∈ L, expl R s = true → (L.foldl (shF R) ([], 0)).1.length ≤ (lsN s).length ∧ 0 < (L.foldl (shF R) ([], 0)).2) ∧
    (0 < (L.foldl (shF R) ([], 0)).2 → ∃ s ∈ L, expl R s = true ∧ lsN s = (L.foldl (shF R) ([], 0)).1) := by
  induction L using snoc_ind with
  | h0 => simp
  | h1 L a ih =>
    rw [List.foldl_append]
    simp only [List.foldl_cons, List.foldl_nil]
    generalize L.foldl (shF R) ([], 0) = st at *
    obtain ⟨best, many⟩ := st
    obtain ⟨i1, i2, i3⟩ := ih
    simp only at i1 i2 i3
    have hsame : ∀ {b : List Nat} {m : Nat}, (0 < m → ∃ s ∈ L, expl R s = true ∧ lsN s = b) → 0 < m → ∃ s ∈ L ++ [a], expl R s = true ∧ lsN s = b := by
      intro b m h hm
      obtain ⟨s, s1, s2⟩ := h hm
      exact ⟨s, List.mem_append_left _ s1, s2⟩
    rw [shF]
    by_cases hc : expl R a = false ∨ (0 < many ∧ best.length < (lsN a).length)
    · rw [if_pos hc]
      refine ⟨?_, ?_, ?_⟩
      · rw [List.countP_append, ← i1]
        rcases hc with h | h
        · simp [h]
        · have : ¬ (lsN a).length = best.length := by omega
          simp [this]
      · intro s hs he
        rcases List.mem_append.1 hs with hs | hs
        · exact i2 s hs he
        · simp at hs; subst hs
          rcases hc with h | h
          · rw [he] at h; cases h
          · exact ⟨by simp only; omega, h.1⟩
      · exact hsame i3
    · rw [if_neg hc]
      have he : expl R a = true := by
        cases h : expl R a
        · exact absurd (.inl h) hc
        · rfl
      have hle : 0 < many → (lsN a).length ≤ best.length := fun h => by
        apply Nat.le_of_not_lt
        intro h2
        exact hc (.inr ⟨h, h2⟩)
      try simp only
      by_cases hd : many = 0 ∨ (lsN a).length < best.length
      · rw [if_pos hd]
        simp only
        refine ⟨?_, ?_, fun _ => ⟨a, by simp, he, rfl⟩⟩
        · rw [List.countP_append]
          have : L.countP (fun s => expl R s && (lsN s).length == (lsN a).length) = 0 := by
            rw [List.countP_eq_zero]
            intro s hs h
            simp at h
            obtain ⟨h1, h2⟩ := i2 s hs h.1
            omega
          rw [this]; simp [he]
        · intro s hs hes
          rcases List.mem_append.1 hs with hs | hs
          · obtain ⟨h1, h2⟩ := i2 s hs hes
            omega
          · simp at hs; subst hs; omega
      · rw [if_neg hd]
        have h1 : (lsN a).length = best.length := by
          have := hle (by omega)
          omega
        have hlen : (if cmpL (up (lsN a)) (up best) < 0 then lsN a else best).length = best.length := by split <;> simp [h1]
        simp only [hlen]
        refine ⟨?_, ?_, ?_⟩
        · rw [List.countP_append, ← i1]; simp [he, h1]
        · intro s hs hes
          rcases List.mem_append.1 hs with hs | hs
          · obtain ⟨h1, h2⟩ := i2 s hs hes
            omega
          · simp at hs; subst hs; omega
        · intro _
          split
          · exact ⟨a, by simp, he, rfl⟩
          · exact hsame i3 (by omega)
/-- The pairs, both ways. -/
def both (P : List (Nat × Nat)) : List (Nat × Nat) := P.flatMap fun p => [p, (p.2, p.1)]
theorem mem_both {P : List (Nat × Nat)} {x y : Nat} : (x, y) ∈ both P ↔ (x, y) ∈ P ∨ (y, x) ∈ P := by
  simp only [both, List.mem_flatMap]
  constructor
  · rintro ⟨⟨a, b⟩, h, h2⟩
    simp at h2
    rcases h2 with ⟨rfl, rfl⟩ | ⟨rfl, rfl⟩
    · exact .inl h
    · exact .inr h
  · rintro (h | h)
    · exact ⟨_, h, by simp⟩
    · exact ⟨_, h, by simp⟩
/-- The other points. -/
def oth (n s : Nat) : Nat := 2 ^ n - (s + 1)
theorem oth_bit {n s : Nat} (h : s < 2 ^ n) (x : Nat) : (oth n s).testBit x = (decide (x < n) && !s.testBit x) := Nat.testBit_two_pow_sub_succ h x
theorem oth_lt {n s : Nat} (h : s < 2 ^ n) : oth n s < 2 ^ n := by unfold oth; omega
theorem oth_oth {n s : Nat} (h : s < 2 ^ n) : oth n (oth n s) = s := by unfold oth; omega
theorem oth_len : ∀ n : Fin 8, ∀ s : Fin 128, s.val < 2 ^ n.val → (lsN s.val).length + (lsN (oth n.val s.val)).length = n.val := by decide +kernel
theorem oth_list : ∀ n : Fin 8, ∀ s : Fin 128, s.val < 2 ^ n.val → lsN (oth n.val s.val) = (List.range n.val).filter fun a => !s.val.testBit a := by decide +kernel
theorem and_zero {a b : Nat} : (a &&& b = 0) ↔ ∀ y, a.testBit y = true → b.testBit y = false := by
  constructor
  · intro h y hy
    have : (a &&& b).testBit y = false := by rw [h, Nat.zero_testBit]
    rw [Nat.testBit_and, hy] at this
    simpa using this
  · intro h
    apply Nat.eq_of_testBit_eq
    intro y
    rw [Nat.testBit_and, Nat.zero_testBit]
    cases hy : a.testBit y
    · rfl
    · rw [h y hy]; rfl
def adjB (P : List (Nat × Nat)) (x y : Nat) : Bool := decide ((x, y) ∈ both P)
/-- A choice, said without the bits. -/
theorem kern_iff {n : Nat} {P : List (Nat × Nat)} (hr : ∀ r ∈ P, r.1 < r.2 ∧ r.2 < n) {s : Nat} (hs : s < 2 ^ n) : judE n (both P) s = 0 ↔
    (∀ p ∈ P, ¬ (s.testBit p.1 = true ∧ s.testBit p.2 = true)) ∧ ∀ x, x < n → s.testBit x = false → ∃ y, s.testBit y = true ∧ (x, y) ∈ both P := by
  have hj : judE n (both P) s = 0 ↔ (List.range n).any (clashAt (both P) s) = false ∧ (List.range n).any (openAt (both P) s) = false := by
    unfold judE
    cases (List.range n).any (clashAt (both P) s) <;> cases (List.range n).any (openAt (both P) s) <;> simp
  rw [hj, List.any_eq_false, List.any_eq_false]
  refine and_congr ?_ ?_
  · constructor
    · rintro h ⟨a, b⟩ hp ⟨h1, h2⟩
      have ha := bit_lt hs h1
      have := h a (List.mem_range.2 ha)
      simp only at h1 h2
      simp only [clashAt, h1, Bool.true_and, bne_iff_ne, ne_eq, Classical.not_not] at this
      rw [and_zero] at this
      have := this b (by rw [sw_bit]; exact decide_eq_true (mem_both.2 (.inl hp)))
      rw [h2] at this; cases this
    · intro h x hx hc
      simp only [clashAt, Bool.and_eq_true, bne_iff_ne, ne_eq] at hc
      refine hc.2 (and_zero.2 fun y hy => ?_)
      rw [sw_bit, decide_eq_true_iff, mem_both] at hy
      cases hb : s.testBit y
      · rfl
      · rcases hy with hy | hy
        · exact absurd ⟨hc.1, hb⟩ (h _ hy)
        · exact absurd ⟨hb, hc.1⟩ (h _ hy)
  · constructor
    · intro h x hx hb
      have := h x (List.mem_range.2 hx)
      simp only [openAt, hb, Bool.not_false, Bool.true_and, beq_iff_eq] at this
      rw [and_zero] at this
      apply Classical.byContradiction
      intro hne
      refine this fun y hy => ?_
      rw [sw_bit, decide_eq_true_iff] at hy
      cases hby : s.testBit y
      · rfl
      · exact absurd ⟨y, hby, hy⟩ hne
    · intro h x hx hc
      simp only [openAt, Bool.and_eq_true, Bool.not_eq_true', beq_iff_eq] at hc
      obtain ⟨y, y1, y2⟩ := h x (List.mem_range.1 hx) hc.1
      have := and_zero.1 hc.2 y (by rw [sw_bit]; exact decide_eq_true y2)
      rw [y1] at this; cases this
theorem expl_oth {n : Nat} {P : List (Nat × Nat)} (hr : ∀ r ∈ P, r.1 < r.2 ∧ r.2 < n) {s : Nat} (hs : s < 2 ^ n) : expl P (oth n s) = true ↔ ∀ p ∈ P, ¬ (s.testBit p.1 = true ∧ s.testBit p.2 = true) := by
  rw [expl, List.all_eq_true]
  constructor
  · intro h p hp hc
    have := h p hp
    rw [oth_bit hs, oth_bit hs, hc.1, hc.2] at this
    simp at this
  · intro h p hp
    have := h p hp
    obtain ⟨r1, r2⟩ := hr p hp
    rw [oth_bit hs, oth_bit hs, decide_eq_true (show p.1 < n by omega), decide_eq_true r2]
    cases h1 : s.testBit p.1
    · rfl
    · cases h2 : s.testBit p.2
      · rfl
      · exact absurd ⟨h1, h2⟩ this
/-- At most twelve choices. -/
theorem kern_le {n : Nat} {P : List (Nat × Nat)} (hn : n ≤ 7) (hr : ∀ r ∈ P, r.1 < r.2 ∧ r.2 < n) : (kern n (both P)).length ≤ 12 := by
  have h := mis_le (adj := adjB P) (fun x y => by simp only [adjB]; rw [decide_eq_decide, mem_both, mem_both, or_comm])
    (fun x => by
      simp only [adjB]
      rw [decide_eq_false_iff_not, mem_both, or_self]
      intro h
      have := hr _ h
      simp at this) n (List.range n) (kern n (both P)) List.length_range hn (List.Pairwise.filter _ List.nodup_range) (fun s hs => by
      obtain ⟨h1, h2⟩ := List.mem_filter.1 hs
      have h1 := List.mem_range.1 h1
      have hk := (kern_iff hr h1).1 (by simpa using h2)
      refine ⟨fun x hx => List.mem_range.2 (bit_lt h1 hx), fun x y hx hy => ?_, fun x hx hb => ?_⟩
      · simp only [adjB]
        rw [decide_eq_false_iff_not, mem_both]
        rintro (h | h)
        · exact hk.1 _ h ⟨hx, hy⟩
        · exact hk.1 _ h ⟨hy, hx⟩
      · obtain ⟨y, y1, y2⟩ := hk.2 x (List.mem_range.1 hx) hb
        exact ⟨y, y1, by simp only [adjB]; exact decide_eq_true y2⟩)
  have : ∀ k : Fin 8, gB k.val ≤ 12 := by decide
  exact Nat.le_trans h (this ⟨n, by omega⟩)
theorem ls_or : ∀ s : Fin 128, ∀ x : Fin 7, s.val.testBit x.val = false → (lsN (s.val ||| 2 ^ x.val)).length = (lsN s.val).length + 1 := by decide +kernel
theorem full_bit {n x : Nat} (h : x < n) : (2 ^ n - 1).testBit x = true := by
  rw [Nat.testBit_two_pow_sub_one]; exact decide_eq_true h
/-- The longest choices leave the shortest lists. -/
theorem mutual_law {n : Nat} {P : List (Nat × Nat)} (hn : n ≤ 7) (hr : ∀ r ∈ P, r.1 < r.2 ∧ r.2 < n) :
    (shS n P).1.length ≤ n ∧ (∀ s ∈ kern n (both P), (lsN s).length ≤ n - (shS n P).1.length) ∧
    (∃ s ∈ kern n (both P), (lsN s).length = n - (shS n P).1.length ∧ lsN (oth n s) = (shS n P).1) ∧
    (kern n (both P)).countP (fun s => (lsN s).length == n - (shS n P).1.length) = (shS n P).2 ∧ ∀ s ∈ kern n (both P), expl P (oth n s) = true := by
  obtain ⟨i1, i2, i3⟩ := sh_inv P (List.range (2 ^ n))
  have hd : (List.range (2 ^ n)).foldl (shF P) ([], 0) = shS n P := rfl
  rw [hd] at i1 i2 i3
  have p2 : 2 ^ n ≤ 2 ^ 7 := Nat.pow_le_pow_right (by omega) hn
  have p1 : 1 ≤ 2 ^ n := Nat.one_le_two_pow
  have hfull : expl P (2 ^ n - 1) = true := by
    rw [expl, List.all_eq_true]
    intro p hp
    obtain ⟨r1, r2⟩ := hr p hp
    rw [full_bit r2, Bool.or_true]
  obtain ⟨-, hpos⟩ := i2 (2 ^ n - 1) (List.mem_range.2 (by omega)) hfull
  obtain ⟨c, hc, ce, cl⟩ := i3 hpos
  have hc := List.mem_range.1 hc
  have hcn := oth_len ⟨n, by omega⟩ ⟨c, by omega⟩ hc
  simp only at hcn
  rw [cl] at hcn
  have hcov : ∀ s, s < 2 ^ n → judE n (both P) s = 0 → expl P (oth n s) = true := fun s hs hj => (expl_oth hr hs).2 ((kern_iff hr hs).1 hj).1
  have hmax : ∀ s, s < 2 ^ n → expl P (oth n s) = true → (lsN s).length = n - (shS n P).1.length → judE n (both P) s = 0 := by
    intro s hs he hl
    have hind := (expl_oth hr hs).1 he
    refine (kern_iff hr hs).2 ⟨hind, fun x hx hb => ?_⟩
    apply Classical.byContradiction
    intro hne
    have h1 := ls_or ⟨s, by omega⟩ ⟨x, by omega⟩ hb
    simp only at h1
    have hs2 : s ||| 2 ^ x < 2 ^ n := Nat.or_lt_two_pow hs (Nat.pow_lt_pow_right (by omega) hx)
    have he2 : expl P (oth n (s ||| 2 ^ x)) = true := by
      refine (expl_oth hr hs2).2 fun p hp hc => ?_
      obtain ⟨a, b⟩ := p
      simp only [Nat.testBit_or, Nat.testBit_two_pow, Bool.or_eq_true, decide_eq_true_eq] at hc
      have hab := hr _ hp
      simp only at hab
      rcases hc with ⟨h1 | h1, h2 | h2⟩
      · exact hind _ hp ⟨h1, h2⟩
      · subst h2; exact hne ⟨a, h1, mem_both.2 (.inr hp)⟩
      · subst h1; exact hne ⟨b, h2, mem_both.2 (.inl hp)⟩
      · omega
    have h2 := i2 _ (List.mem_range.2 (oth_lt hs2)) he2
    have h3 := oth_len ⟨n, by omega⟩ ⟨s ||| 2 ^ x, by omega⟩ hs2
    simp only at h3
    omega
  have hle : ∀ s, s < 2 ^ n → judE n (both P) s = 0 → (lsN s).length ≤ n - (shS n P).1.length := by
    intro s hs hj
    have h2 := (i2 _ (List.mem_range.2 (oth_lt hs)) (hcov s hs hj)).1
    have h3 := oth_len ⟨n, by omega⟩ ⟨s, by omega⟩ hs
    simp only at h3
    omega
  have hkm : ∀ s, s ∈ kern n (both P) ↔ s < 2 ^ n ∧ judE n (both P) s = 0 := by
    intro s
    rw [kern, List.mem_filter, List.mem_range, beq_iff_eq]
  refine ⟨by omega, fun s hs => hle s ((hkm s).1 hs).1 ((hkm s).1 hs).2, ⟨oth n c, ?_, ?_, ?_⟩, ?_, fun s hs => hcov s ((hkm s).1 hs).1 ((hkm s).1 hs).2⟩
  · exact (hkm _).2 ⟨oth_lt hc, hmax _ (oth_lt hc) (by rw [oth_oth hc]; exact ce) (by omega)⟩
  · omega
  · rw [oth_oth hc, cl]
  · rw [i1, kern, List.countP_filter]
    have hrev : (List.range (2 ^ n)).countP (fun s => expl P s && (lsN s).length == (shS n P).1.length) = ((List.range (2 ^ n)).map (oth n)).countP (fun s => expl P s && (lsN s).length == (shS n P).1.length) := by
      have : (List.range (2 ^ n)).map (oth n) = (List.range (2 ^ n)).reverse := by
        apply List.ext_getElem
        · simp
        · intro i h1 h2
          simp at h1
          simp [oth]
          omega
      rw [this, List.countP_reverse]
    rw [hrev, List.countP_map]
    apply List.countP_congr
    intro s hs
    have hs := List.mem_range.1 hs
    have h3 := oth_len ⟨n, by omega⟩ ⟨s, by omega⟩ hs
    simp only at h3
    simp only [Function.comp, Bool.and_eq_true, beq_iff_eq]
    constructor
    · rintro ⟨h1, h2⟩
      exact ⟨hcov s hs h2, by omega⟩
    · rintro ⟨h1, h2⟩
      exact ⟨by omega, hmax s hs h1 (by omega)⟩
/-- What the law counts among the choices. -/
def muF (n : Nat) (l : List Nat) (st : Nat × Nat × Bool) (s : Nat) : Nat × Nat × Bool :=
  if st.1 < (lsN s).length then ((lsN s).length, 1, decide (lsN (oth n s) = l))
  else if (lsN s).length < st.1 then st
  else (st.1, st.2.1 + 1, st.2.2 || decide (lsN (oth n s) = l))
theorem mu_inv (n : Nat) (l : List Nat) (L : List Nat) :
    (∀ s ∈ L, (lsN s).length ≤ (L.foldl (muF n l) (0, 0, false)).1) ∧
    (L.foldl (muF n l) (0, 0, false)).2.1 = L.countP (fun s => (lsN s).length == (L.foldl (muF n l) (0, 0, false)).1) ∧
    (L.foldl (muF n l) (0, 0, false)).2.2 = L.any (fun s => (lsN s).length == (L.foldl (muF n l) (0, 0, false)).1 && decide (lsN (oth n s) = l)) ∧
    ((L.foldl (muF n l) (0, 0, false)).1 = 0 ∨ ∃ s ∈ L, (lsN s).length = (L.foldl (muF n l) (0, 0, false)).1) := by
  induction L using snoc_ind with
  | h0 => simp
  | h1 L a ih =>
    rw [List.foldl_append]
    simp only [List.foldl_cons, List.foldl_nil]
    generalize L.foldl (muF n l) (0, 0, false) = st at *
    obtain ⟨most, many, found⟩ := st
    obtain ⟨i1, i2, i3, i4⟩ := ih
    simp only at i1 i2 i3 i4
    rw [muF]
    simp only
    by_cases h1 : most < (lsN a).length
    · rw [if_pos h1]
      simp only
      have hno : ∀ s ∈ L, ((lsN s).length == (lsN a).length) = false := fun s hs => by
        have := i1 s hs
        rw [beq_eq_false_iff_ne]; omega
      refine ⟨fun s hs => ?_, ?_, ?_, .inr ⟨a, by simp, rfl⟩⟩
      · rcases List.mem_append.1 hs with hs | hs
        · have := i1 s hs; omega
        · simp at hs; subst hs; exact Nat.le_refl _
      · rw [List.countP_append, List.countP_eq_zero.2 fun s hs => by simp [hno s hs]]
        simp
      · rw [List.any_append, List.any_eq_false.2 fun s hs => by simp [hno s hs]]
        simp
    · rw [if_neg h1]
      by_cases h2 : (lsN a).length < most
      · rw [if_pos h2]
        simp only
        have hno : ((lsN a).length == most) = false := by rw [beq_eq_false_iff_ne]; omega
        refine ⟨fun s hs => ?_, ?_, ?_, ?_⟩
        · rcases List.mem_append.1 hs with hs | hs
          · exact i1 s hs
          · simp at hs; subst hs; omega
        · rw [List.countP_append, i2]; simp [hno]
        · rw [List.any_append, i3]; simp [hno]
        · rcases i4 with h | ⟨s, hs, h⟩
          · exact .inl h
          · exact .inr ⟨s, List.mem_append_left _ hs, h⟩
      · rw [if_neg h2]
        simp only
        have he : (lsN a).length = most := by omega
        refine ⟨fun s hs => ?_, ?_, ?_, .inr ⟨a, by simp, he⟩⟩
        · rcases List.mem_append.1 hs with hs | hs
          · exact i1 s hs
          · simp at hs; subst hs; omega
        · rw [List.countP_append, i2]; simp [he]
        · rw [List.any_append, i3]; simp [he]
theorem mu_end {n : Nat} {P : List (Nat × Nat)} (hn : n ≤ 7) (hr : ∀ r ∈ P, r.1 < r.2 ∧ r.2 < n) {Ks : List Nat} (hp : Ks.Perm (kern n (both P))) :
    Ks.foldl (muF n (shS n P).1) (0, 0, false) = (n - (shS n P).1.length, (shS n P).2, true) ∧ (shS n P).1.length ≤ n := by
  obtain ⟨m0, m1, ⟨c, c1, c2, c3⟩, m3, m4⟩ := mutual_law hn hr
  obtain ⟨i1, i2, i3, i4⟩ := mu_inv n (shS n P).1 Ks
  generalize Ks.foldl (muF n (shS n P).1) (0, 0, false) = st at *
  obtain ⟨most, many, found⟩ := st
  simp only at i1 i2 i3 i4
  have hmost : most = n - (shS n P).1.length := by
    have h1 := i1 c (hp.mem_iff.2 c1)
    rcases i4 with h | ⟨s, hs, h⟩
    · omega
    · have := m1 s (hp.mem_iff.1 hs)
      omega
  refine ⟨?_, m0⟩
  subst hmost
  have h2 : many = (shS n P).2 := by rw [i2, hp.countP_eq, m3]
  have h3 : found = true := by
    rw [i3, List.any_eq_true]
    exact ⟨c, hp.mem_iff.2 c1, by simp [c2, c3]⟩
  rw [h2, h3]
end Go.Proofs.YtmmfelpgcdlgfaaGreatDoor

namespace Go.Proofs.YtmmfelpgcdlgfaaGreatDoor
open Go.Av
set_option linter.unusedVariables false
set_option linter.unusedSimpArgs false
set_option maxRecDepth 8000

/- Sets of small numbers. -/
/-- Is a set a part of another one? -/
def subB (a b : Nat) : Bool := a &&& b == a
theorem wrap_u8 {n : Int} (h1 : 0 ≤ n) (h2 : n < 256) : IntKind.u8.wrap n = n := by
  have e1 : (2 : Int) ^ 8 = 256 := by decide
  simp only [IntKind.wrap, IntKind.signed, IntKind.bits, Bool.false_and, e1, Bool.false_eq_true, if_false]
  omega
theorem wrap_u16 {n : Int} (h1 : 0 ≤ n) (h2 : n < 65536) : IntKind.u16.wrap n = n := by
  have e1 : (2 : Int) ^ 16 = 65536 := by decide
  simp only [IntKind.wrap, IntKind.signed, IntKind.bits, Bool.false_and, e1, Bool.false_eq_true, if_false]
  omega
theorem bv_nat {w a : Nat} (ha : a < 2 ^ w) : (BitVec.ofInt w (a : Int)).toNat = a := by
  rw [BitVec.ofInt_natCast, BitVec.toNat_ofNat]; exact Nat.mod_eq_of_lt ha
theorem andn8 : ∀ a b : Fin 128, (IntKind.u8.wrap ((BitVec.ofInt 8 (a.val : Int) &&& ~~~BitVec.ofInt 8 (b.val : Int)).toNat) == 0) = subB a.val b.val := by decide +kernel
theorem andn16 : ∀ a b : Fin 128, (IntKind.u16.wrap ((BitVec.ofInt 16 (a.val : Int) &&& ~~~BitVec.ofInt 16 (b.val : Int)).toNat) == 0) = subB a.val b.val := by decide +kernel
theorem andn64 : ∀ a b : Fin 128, (IntKind.i64.wrap ((BitVec.ofInt 64 (a.val : Int) &&& ~~~BitVec.ofInt 64 (b.val : Int)).toNat) == 0) = subB a.val b.val := by decide +kernel
theorem u8_and {t : TypeId} {a b : Nat} (ha : a < 256) (hb : b < 256) : binF Tryz.prog .and t (.int .u8 (a : Int)) (.int .u8 (b : Int)) = some (.int .u8 ((a &&& b : Nat) : Int)) := by
  show (if IntKind.u8 = IntKind.u8 then some (AV.int .u8 (IntKind.u8.wrap ((BitVec.ofInt 8 (a : Int) &&& BitVec.ofInt 8 (b : Int)).toNat))) else none) = _
  have h1 : a &&& b ≤ a := Nat.and_le_left
  rw [if_pos rfl, BitVec.toNat_and, bv_nat ha, bv_nat hb, wrap_u8 (by omega) (by omega)]
theorem u8_or {t : TypeId} {a b : Nat} (ha : a < 128) (hb : b < 128) : binF Tryz.prog .or t (.int .u8 (a : Int)) (.int .u8 (b : Int)) = some (.int .u8 ((a ||| b : Nat) : Int)) := by
  show (if IntKind.u8 = IntKind.u8 then some (AV.int .u8 (IntKind.u8.wrap ((BitVec.ofInt 8 (a : Int) ||| BitVec.ofInt 8 (b : Int)).toNat))) else none) = _
  have h1 : a ||| b < 2 ^ 7 := Nat.or_lt_two_pow ha hb
  rw [if_pos rfl, BitVec.toNat_or, bv_nat (by omega), bv_nat (by omega), wrap_u8 (by omega) (by omega)]
theorem u16_or {t : TypeId} {a b : Nat} (ha : a < 128) (hb : b < 128) : binF Tryz.prog .or t (.int .u16 (a : Int)) (.int .u16 (b : Int)) = some (.int .u16 ((a ||| b : Nat) : Int)) := by
  show (if IntKind.u16 = IntKind.u16 then some (AV.int .u16 (IntKind.u16.wrap ((BitVec.ofInt 16 (a : Int) ||| BitVec.ofInt 16 (b : Int)).toNat))) else none) = _
  have h1 : a ||| b < 2 ^ 7 := Nat.or_lt_two_pow ha hb
  rw [if_pos rfl, BitVec.toNat_or, bv_nat (by omega), bv_nat (by omega), wrap_u16 (by omega) (by omega)]
theorem i64_and {t : TypeId} {a b : Nat} (ha : a < 1000000) (hb : b < 1000000) : binF Tryz.prog .and t (.int .i64 (a : Int)) (.int .i64 (b : Int)) = some (.int .i64 ((a &&& b : Nat) : Int)) := by
  show (if IntKind.i64 = IntKind.i64 then some (AV.int .i64 (IntKind.i64.wrap ((BitVec.ofInt 64 (a : Int) &&& BitVec.ofInt 64 (b : Int)).toNat))) else none) = _
  have h1 : a &&& b ≤ a := Nat.and_le_left
  rw [if_pos rfl, BitVec.toNat_and, bv_nat (by omega), bv_nat (by omega), wrap_i64 (by omega) (by omega)]
theorem u8_shl {t : TypeId} {k : Nat} (hk : k < 8) : binF Tryz.prog .shl t (.int .u8 1) (.int .i64 (k : Int)) = some (.int .u8 ((2 ^ k : Nat) : Int)) := by
  have h : k = 0 ∨ k = 1 ∨ k = 2 ∨ k = 3 ∨ k = 4 ∨ k = 5 ∨ k = 6 ∨ k = 7 := by omega
  rcases h with rfl | rfl | rfl | rfl | rfl | rfl | rfl | rfl <;> rfl
theorem u16_shl {t : TypeId} {k : Nat} (hk : k < 8) : binF Tryz.prog .shl t (.int .u16 1) (.int .i64 (k : Int)) = some (.int .u16 ((2 ^ k : Nat) : Int)) := by
  have h : k = 0 ∨ k = 1 ∨ k = 2 ∨ k = 3 ∨ k = 4 ∨ k = 5 ∨ k = 6 ∨ k = 7 := by omega
  rcases h with rfl | rfl | rfl | rfl | rfl | rfl | rfl | rfl <;> rfl
theorem i64_shl {t : TypeId} {k : Nat} (hk : k < 8) : binF Tryz.prog .shl t (.int .i64 1) (.int .i64 (k : Int)) = some (.int .i64 ((2 ^ k : Nat) : Int)) := by
  have h : k = 0 ∨ k = 1 ∨ k = 2 ∨ k = 3 ∨ k = 4 ∨ k = 5 ∨ k = 6 ∨ k = 7 := by omega
  rcases h with rfl | rfl | rfl | rfl | rfl | rfl | rfl | rfl <;> rfl
theorem u8_shr {t : TypeId} {a k : Nat} (hk : k < 8) : binF Tryz.prog .shr t (.int .u8 (a : Int)) (.int .i64 (k : Int)) = some (.int .u8 ((a / 2 ^ k : Nat) : Int)) := by
  have e : min (k : Int).toNat 8 = k := by omega
  show (if (k : Int) < 0 then none else some (AV.int .u8 ((a : Int).fdiv (2 ^ min (k : Int).toNat 8)))) = _
  rw [if_neg (by omega), e]
  have : ((2 : Int) ^ k) = ((2 ^ k : Nat) : Int) := by simp
  rw [this, Int.ofNat_fdiv]
theorem i64_shr {t : TypeId} {a k : Nat} (hk : k < 64) : binF Tryz.prog .shr t (.int .i64 (a : Int)) (.int .i64 (k : Int)) = some (.int .i64 ((a / 2 ^ k : Nat) : Int)) := by
  have e : min (k : Int).toNat 64 = k := by omega
  show (if (k : Int) < 0 then none else some (AV.int .i64 ((a : Int).fdiv (2 ^ min (k : Int).toNat 64)))) = _
  rw [if_neg (by omega), e]
  have : ((2 : Int) ^ k) = ((2 ^ k : Nat) : Int) := by simp
  rw [this, Int.ofNat_fdiv]
/-- Two divisions agree. -/
def agrB (a b : Nat) : Bool := subB a b || subB b a || a &&& b == 0
theorem nat_eq0 (n : Nat) : ((n : Int) == 0) = (n == 0) := by
  rw [Bool.eq_iff_iff, beq_iff_eq, beq_iff_eq]; omega
/-- agree, of the law -/
theorem d4 {a b : Nat} {H : Heap} {K : AV → Heap → Prop} (ha : a < 128) (hb : b < 128) (hk : K (.bool (agrB a b)) H) : ACalls Tryz.prog 4 [.int .i64 (a : Int), .int .i64 (b : Int)] H K := by
  apply W4_ok
  unfold W4
  have n1 : ∃ x, (∀ t, binF Tryz.prog .andNot t (.int .i64 (a : Int)) (.int .i64 (b : Int)) = some (.int .i64 x)) ∧ (x == 0) = subB a b := ⟨_, fun t => rfl, andn64 ⟨a, ha⟩ ⟨b, hb⟩⟩
  have n2 : ∃ x, (∀ t, binF Tryz.prog .andNot t (.int .i64 (b : Int)) (.int .i64 (a : Int)) = some (.int .i64 x)) ∧ (x == 0) = subB b a := ⟨_, fun t => rfl, andn64 ⟨b, hb⟩ ⟨a, ha⟩⟩
  obtain ⟨x, x1, x2⟩ := n1
  obtain ⟨y, y1, y2⟩ := n2
  have hag : agrB a b = (a &&& b == 0 || subB a b || subB b a) := by
    unfold agrB
    cases subB a b <;> cases subB b a <;> cases (a &&& b == 0) <;> rfl
  rw [hag] at hk
  simp only [letO_some, i64_and (show a < 1000000 by omega) (show b < 1000000 by omega), binF_eql, nat_eq0]
  cases h1 : (a &&& b == 0)
  · simp only [gval_bool, Int.reduceBNe, Int.reduceBEq, pickF_true, pickF_false, reduceIte, Bool.true_eq_false, Bool.false_eq_true, if_false, condA_tt, condA_ff, condG_tt, condG_ff, condG_tt', condG_ff', condG_undef, gval_undef, letO_some, x1, binF_eql, x2]
    cases h2 : subB a b
    · simp only [gval_bool, Int.reduceBNe, Int.reduceBEq, pickF_true, pickF_false, reduceIte, Bool.true_eq_false, Bool.false_eq_true, if_false, condA_tt, condA_ff, condG_tt, condG_ff, condG_tt', condG_ff', condG_undef, gval_undef, letO_some, y1, binF_eql, y2]
      rw [h1, h2] at hk
      exact endK_ret hk
    · simp only [gval_bool, Int.reduceBNe, Int.reduceBEq, pickF_true, pickF_false, reduceIte, Bool.true_eq_false, Bool.false_eq_true, if_false, condA_tt, condA_ff, condG_tt, condG_ff, condG_tt', condG_ff', condG_undef, gval_undef, letO_some]
      rw [h1, h2] at hk
      exact endK_ret hk
  · simp only [gval_bool, Int.reduceBNe, Int.reduceBEq, pickF_true, pickF_false, reduceIte, Bool.true_eq_false, Bool.false_eq_true, if_false, condA_tt, condA_ff, condG_tt, condG_ff, condG_tt', condG_ff', condG_undef, gval_undef, letO_some]
    rw [h1] at hk
    exact endK_ret hk
/-- A list of pairs is copied. -/
theorem d6 {v : AV} {R : List (Nat × Nat)} {H : Heap} {K : AV → Heap → Prop} (hv : v = .nils ∧ R = [] ∨ (R ≠ [] ∧ RP H v R ∧ ∃ b, v = .ref 2 b 0 R.length none)) (hl : R.length < 1000)
    (hk : ∀ v' H', Grow 2 H H' v' R.length (R.flatMap prC) → (R = [] ∧ v' = .nils ∨ R ≠ [] ∧ isOwn v') → K v' H') : ACalls Tryz.prog 6 [v] H K := by
  have hu : Tryz.prog.underlying 25 = some (.slice 29) := by kernel_rfl
  apply W6_ok
  unfold W6
  rcases hv with ⟨rfl, rfl⟩ | ⟨hne, hv, b, rfl⟩
  · have e : binF Tryz.prog .eql 25 .nils .nils = some (.bool true) := by
      show (eqF Tryz.prog 25 .nils .nils).map AV.bool = _
      simp only [eqF, hu]; rfl
    simp only [letO_some, e, condA_tt]
    exact endK_ret (hk _ _ (Grow.nils 2 H) (.inl ⟨rfl, rfl⟩))
  · have e : binF Tryz.prog .eql 25 (.ref 2 b 0 R.length none) .nils = some (.bool false) := by
      show (eqF Tryz.prog 25 (.ref 2 b 0 R.length none) .nils).map AV.bool = _
      simp only [eqF, hu]; rfl
    have hl0 : literalF Tryz.prog 25 0 [] = some [] := by
      rw [literalF_of (show literalPlan Tryz.prog 25 = some ([.int .i64 0, .int .i64 0], 2) by kernel_rfl) (by decide) (by simp)]
      simp [fillA, rowOf]
    have hsrc : srcOf 2 (.ref 2 b 0 R.length none) H = some (R.length, R.flatMap prC) := by
      obtain ⟨h0, h1, h2, cs, h3, h4, h5⟩ := hv
      simp [srcOf, h3]
      rw [List.drop_zero] at h5
      exact ⟨by omega, h5⟩
    have hpos : 0 < R.length := List.length_pos_iff.2 hne
    simp only [letO_some, e, condA_ff, hl0]
    refine appendA_growR (Grow.imm (sz := 2) (H := H) (n := 0) (cells := []) rfl) hsrc ?_ (by rw [rows_len prC_len]) hpos (by omega) (by omega) fun v' H' hg ho => ?_
    · rw [List.all_eq_true]
      intro x hx
      obtain ⟨p, _, hp⟩ := List.mem_flatMap.1 hx
      simp [prC] at hp
      rcases hp with rfl | rfl <;> rfl
    · try simp only [letO_some]
      refine endK_ret (hk _ _ ?_ (.inr ⟨hne, ho⟩))
      simpa using hg
/-- has -/
theorem d34 {s x : Nat} {H : Heap} {K : AV → Heap → Prop} (hs : s < 256) (hx : x < 8) (hk : K (.bool (s.testBit x)) H) : ACalls Tryz.prog 34 [.agg [.int .u8 (s : Int)], .int .i64 (x : Int)] H K := by
  apply W34_ok
  unfold W34
  have hc : cellsOf? (.agg [.int .u8 (s : Int)]) = some [.int .u8 (s : Int)] := rfl
  have f0 : faddr 0 (.iptr [.int .u8 (s : Int)]) = some (.iptr [.int .u8 (s : Int)]) := rfl
  have l0 : load1 (.iptr [.int .u8 (s : Int)]) H = some (.int .u8 (s : Int)) := rfl
  have hone : ∀ t k, binF Tryz.prog .and t (.int .u8 ((s / 2 ^ k : Nat) : Int)) (.int .u8 1) = some (.int .u8 ((s / 2 ^ k &&& 1 : Nat) : Int)) := fun t k => u8_and (b := 1) (by have := Nat.div_le_self s (2 ^ k); omega) (by omega)
  simp only [letO_some, hc, f0, l0, u8_shr hx, hone, binF_eql, u64_bit]
  exact endK_ret hk
/-- within -/
theorem d36 {a b : Nat} {H : Heap} {K : AV → Heap → Prop} (ha : a < 128) (hb : b < 128) (hk : K (.bool (subB a b)) H) : ACalls Tryz.prog 36 [.agg [.int .u8 (a : Int)], .agg [.int .u8 (b : Int)]] H K := by
  apply W36_ok
  unfold W36
  have hc : ∀ s : Nat, cellsOf? (.agg [.int .u8 (s : Int)]) = some [.int .u8 (s : Int)] := fun s => rfl
  have f0 : ∀ s : Nat, faddr 0 (.iptr [.int .u8 (s : Int)]) = some (.iptr [.int .u8 (s : Int)]) := fun s => rfl
  have l0 : ∀ s : Nat, load1 (.iptr [.int .u8 (s : Int)]) H = some (.int .u8 (s : Int)) := fun s => rfl
  have n1 : ∃ x, (∀ t, binF Tryz.prog .andNot t (.int .u8 (a : Int)) (.int .u8 (b : Int)) = some (.int .u8 x)) ∧ (x == 0) = subB a b := ⟨_, fun t => rfl, andn8 ⟨a, ha⟩ ⟨b, hb⟩⟩
  obtain ⟨x, x1, x2⟩ := n1
  simp only [letO_some, hc, f0, l0, x1, binF_eql, x2]
  exact endK_ret hk
/-- agree -/
theorem d17 {a b : Nat} {H : Heap} {K : AV → Heap → Prop} (ha : a < 128) (hb : b < 128) (hk : K (.bool (agrB a b)) H) : ACalls Tryz.prog 17 [.agg [.int .u8 (a : Int)], .agg [.int .u8 (b : Int)]] H K := by
  apply W17_ok
  unfold W17
  have hc : ∀ s : Nat, cellsOf? (.agg [.int .u8 (s : Int)]) = some [.int .u8 (s : Int)] := fun s => rfl
  have f0 : ∀ s : Nat, faddr 0 (.iptr [.int .u8 (s : Int)]) = some (.iptr [.int .u8 (s : Int)]) := fun s => rfl
  have l0 : ∀ s : Nat, load1 (.iptr [.int .u8 (s : Int)]) H = some (.int .u8 (s : Int)) := fun s => rfl
  have lN : ∀ s : Nat, loadN 1 (.iptr [.int .u8 (s : Int)]) H = some (.agg [.int .u8 (s : Int)]) := fun s => rfl
  simp only [letO_some, hc, lN]
  refine d36 ha hb ?_
  unfold agrB at hk
  cases h1 : subB a b
  · simp only [gval_bool, Int.reduceBNe, Int.reduceBEq, pickF_true, pickF_false, reduceIte, Bool.true_eq_false, Bool.false_eq_true, if_false, condA_tt, condA_ff, condG_tt, condG_ff, condG_tt', condG_ff', condG_undef, gval_undef, letO_some, lN]
    refine exJ (d36 hb ha ?_)
    cases h2 : subB b a
    · simp only [gval_bool, Int.reduceBNe, Int.reduceBEq, pickF_true, pickF_false, reduceIte, Bool.true_eq_false, Bool.false_eq_true, if_false, condA_tt, condA_ff, condG_tt, condG_ff, condG_tt', condG_ff', condG_undef, gval_undef, letO_some, f0, l0, u8_and (show a < 256 by omega) (show b < 256 by omega), binF_eql, nat_eq0]
      rw [h1, h2] at hk
      exact endK_ret (by simpa using hk)
    · simp only [gval_bool, Int.reduceBNe, Int.reduceBEq, pickF_true, pickF_false, reduceIte, Bool.true_eq_false, Bool.false_eq_true, if_false, condA_tt, condA_ff, condG_tt, condG_ff, condG_tt', condG_ff', condG_undef, gval_undef, letO_some]
      rw [h1, h2] at hk
      exact endK_ret hk
  · simp only [gval_bool, Int.reduceBNe, Int.reduceBEq, pickF_true, pickF_false, reduceIte, Bool.true_eq_false, Bool.false_eq_true, if_false, condA_tt, condA_ff, condG_tt, condG_ff, condG_tt', condG_ff', condG_undef, gval_undef, letO_some]
    refine exU ?_
    try simp only [gval_bool, Int.reduceBNe, Int.reduceBEq, pickF_true, pickF_false, reduceIte, Bool.true_eq_false, Bool.false_eq_true, if_false, condA_tt, condA_ff, condG_tt, condG_ff, condG_tt', condG_ff', condG_undef, gval_undef, letO_some]
    rw [h1] at hk
    exact endK_ret hk
theorem eq52 (a b : Nat) : binF Tryz.prog .eql 52 (.agg [.int .u8 (a : Int)]) (.agg [.int .u8 (b : Int)]) = some (.bool (decide (a = b))) := by
  have h1 : (match Tryz.prog.underlying 52 with | some (.struct fs) => fieldInts Tryz.prog fs.toList 0 && fs.size == 1 | _ => false) = true := by kernel_rfl
  have h2 : Tryz.prog.eqGuardType Tryz.prog.depth 52 = false := by kernel_rfl
  have h3 : Tryz.prog.stoodInHeld 52 = false := by kernel_rfl
  show (eqF Tryz.prog 52 (.agg [.int .u8 (a : Int)]) (.agg [.int .u8 (b : Int)])).map AV.bool = _
  unfold eqF
  split at h1 <;> try cases h1
  rename_i fs hu
  simp only [Bool.and_eq_true, beq_iff_eq] at h1
  rw [hu]
  simp only
  rw [if_pos ⟨h1.1, h1.2.symm, h1.2.symm, h2, h3⟩]
  simp [eqInts]
  rw [Bool.eq_iff_iff, beq_iff_eq, decide_eq_true_iff]; omega
theorem u8l_get {T : List Nat} {i : Nat} (h : i < T.length) : ((u8l T).drop (i * 1)).take 1 = [.int .u8 ((T[i] : Nat) : Int)] := by
  rw [Nat.mul_one, List.drop_eq_getElem_cons (by simpa [u8l] using h), List.take_succ_cons, List.take_zero]
  simp [u8l]
/-- slices.Contains of sets -/
theorem d35 {v : AV} {T : List Nat} {s : Nat} {H : Heap} {K : AV → Heap → Prop} (hv : ReadsC 1 H v T.length (u8l T)) (hl : T.length < 1000) (hk : K (.bool (decide (s ∈ T))) H) : ACalls Tryz.prog 35 [v, .agg [.int .u8 (s : Int)]] H K := by
  apply W35_ok
  unfold W35
  have hc : ∀ s : Nat, cellsOf? (.agg [.int .u8 (s : Int)]) = some [.int .u8 (s : Int)] := fun s => rfl
  have lN : ∀ H', loadN 1 (.iptr [.int .u8 (s : Int)]) H' = some (.agg [.int .u8 (s : Int)]) := fun s => rfl
  have hlen := ReadsC.len hv
  simp only [letO_some, hc, lN]
  apply W50_ok
  unfold W50
  simp only [letO_some, hc, hlen, true_and]
  refine ⟨fun L H' => ∃ i : Nat, eqt L [.int .i64 i] ∧ i ≤ T.length ∧ eqt H' H ∧ s ∉ T.take i, fun L _ => (T.length - iv L 0).toNat, ⟨0, rfl, by omega, rfl, by simp⟩, ?_⟩
  rintro L H' ⟨i, rfl, hi, rfl, hnot⟩
  try simp only [letO_some, cellsOf?_agg, cellsOf?_int, cellsOf?_bool, cellsOf?_imm, cellsOf?_ref, cellsOf?_nils, faddr_iptr, faddr_ptr, List.drop_succ_cons, List.drop_zero, List.take_succ_cons, List.take_zero, load1_iptr, loadN_iptr, List.length_cons, List.length_nil, Nat.le_refl, if_true, List.getElem?_cons_zero, List.getElem?_cons_succ, List.getD_cons_zero, List.getD_cons_succ, extrF_tup, binF_add, binF_sub, binF_mul, binF_eql, binF_neq, binF_lss, binF_leq, binF_gtr, binF_geq, true_and]
  refine condA_t (fun hlt => ?_) (fun hge => ?_)
  · have a1 : i < T.length := by omega
    try simp only [letO_some]
    refine hv.getN (Heap.le_refl _) (by omega) (by omega) ?_
    rw [Int.toNat_natCast, u8l_get a1]
    simp only [letO_some, List.take_succ_cons, List.take_zero, eq52]
    by_cases he : s = T[i]
    · rw [decide_eq_true he]
      simp only [condA_tt]
      refine endK_ret ?_
      have : decide (((i : Nat) : Int) ≥ 0) = true := decide_eq_true (by omega)
      simp only [letO_some, binF_geq, this]
      rw [decide_eq_true (by rw [he]; exact List.getElem_mem a1)] at hk
      exact endK_ret hk
    · rw [decide_eq_false he]
      simp only [condA_ff]
      rw [wrap_i64 (by omega) (by omega)]
      refine ⟨⟨i + 1, rfl, by omega, rfl, ?_⟩, by simp [iv] <;> omega⟩
      rw [List.take_add_one, List.getElem?_eq_getElem a1, List.mem_append]
      rintro (h | h)
      · exact hnot h
      · simp at h; exact he h
  · have hie : i = T.length := by omega
    subst hie
    rw [List.take_length] at hnot
    refine endK_ret ?_
    have : decide ((-1 : Int) ≥ 0) = false := by decide
    simp only [letO_some, binF_geq, this]
    rw [decide_eq_false hnot] at hk
    exact endK_ret hk
/-- The set of a list. -/
def accS (l : List Nat) : Nat := l.foldl (fun a x => a ||| 2 ^ x) 0
theorem acc_ls : ∀ s : Fin 128, accS (lsN s.val) = s.val := by decide +kernel
theorem acc_lt : ∀ s : Fin 128, ∀ i : Fin 8, accS ((lsN s.val).take i.val) < 128 := by decide +kernel
theorem ls_at7 : ∀ s : Fin 128, ∀ i : Fin 7, i.val < (lsN s.val).length → (lsN s.val).getD i.val 0 < 7 := by decide +kernel
/-- class.of -/
theorem d33 {v : AV} {s : Nat} {H : Heap} {K : AV → Heap → Prop} (hv : Reads H v (up (lsN s))) (hs : s < 128) (hk : K (.agg [.int .u8 (s : Int)]) H) : ACalls Tryz.prog 33 [v] H K := by
  apply W33_ok
  unfold W33
  have hlen := hv.len
  rw [up_length] at hlen
  have hl7 := ls_len s
  refine alloc_ fun b2 hb2 => ?_
  have hle2 := Heap.le_new (c := [.int .u8 0]) hb2
  have h2 : (H.put b2 [.int .u8 0]) b2 = some [.int .u8 0] := Heap.put_same
  generalize H.put b2 [.int .u8 0] = H2 at *
  refine alloc_ fun b3 hb3 => ?_
  have hle3 := Heap.le_new (c := [.int .u8 0]) hb3
  have h3 : (H2.put b3 [.int .u8 0]) b3 = some [.int .u8 0] := Heap.put_same
  have h23 := hle3 _ _ h2
  have hne : b2 ≠ b3 := by rintro rfl; rw [h2] at hb3; cases hb3
  have hb3H := none_of_le hle2 hb3
  have hleH := Heap.le_trans hle2 hle3
  generalize H2.put b3 [.int .u8 0] = H3 at *
  simp only [letO_some, hlen, true_and]
  refine ⟨fun L H' => ∃ i : Nat, eqt L [.int .i64 i] ∧ i ≤ (lsN s).length ∧ H.le H' ∧ H' b3 = some [.int .u8 (accS ((lsN s).take i) : Nat)] ∧ H' b2 = some [.int .u8 0], fun L _ => ((lsN s).length - iv L 0).toNat, ⟨0, rfl, by omega, hleH, h3, h23⟩, ?_⟩
  rintro L H1 ⟨i, rfl, hi, hle, g3, g2⟩
  try simp only [letO_some, cellsOf?_agg, cellsOf?_int, cellsOf?_bool, cellsOf?_imm, cellsOf?_ref, cellsOf?_nils, faddr_iptr, faddr_ptr, List.drop_succ_cons, List.drop_zero, List.take_succ_cons, List.take_zero, load1_iptr, loadN_iptr, List.length_cons, List.length_nil, Nat.le_refl, if_true, List.getElem?_cons_zero, List.getElem?_cons_succ, List.getD_cons_zero, List.getD_cons_succ, extrF_tup, binF_add, binF_sub, binF_mul, binF_eql, binF_neq, binF_lss, binF_leq, binF_gtr, binF_geq, true_and]
  refine condA_t (fun hlt => ?_) (fun hge => ?_)
  · have a1 : i < (lsN s).length := by omega
    have h7 := ls_at7 ⟨s, hs⟩ ⟨i, by omega⟩ a1
    have hacc := acc_lt ⟨s, hs⟩ ⟨i, by omega⟩
    simp only at h7 hacc
    have htk : accS ((lsN s).take (i + 1)) = accS ((lsN s).take i) ||| 2 ^ (lsN s).getD i 0 := by
      rw [List.take_add_one, List.getElem?_eq_getElem a1, List.getD_eq_getElem?_getD, List.getElem?_eq_getElem a1, accS, accS, Option.toList_some, List.foldl_append]
      rfl
    refine Reads.get hle hv (by omega) (by rw [up_length]; omega) ?_
    rw [Int.toNat_natCast, up_getD]
    generalize (lsN s).getD i 0 = x at *
    have hx2 : 2 ^ x < 128 := Nat.pow_lt_pow_right (n := 7) (by omega) h7
    have f0 : faddr 0 (.ptr b3 0) = some (.ptr b3 0) := rfl
    have l0 : load1 (.ptr b3 0) H1 = some (.int .u8 (accS ((lsN s).take i) : Nat)) := load1_at g3 rfl
    simp only [letO_some, f0, l0, u8_shl (show x < 8 by omega), u8_or hacc hx2]
    refine storeA_of (cs := [.int .u8 ((accS ((lsN s).take i) ||| 2 ^ x : Nat) : Int)]) g3 rfl rfl rfl (by simp) ?_
    have hsp : splice [.int .u8 (accS ((lsN s).take i) : Nat)] 0 [.int .u8 ((accS ((lsN s).take i) ||| 2 ^ x : Nat) : Int)] = [.int .u8 ((accS ((lsN s).take i) ||| 2 ^ x : Nat) : Int)] := rfl
    rw [hsp]
    try simp only [letO_some, binF_add]
    rw [wrap_i64 (by omega) (by omega)]
    exact ⟨⟨i + 1, rfl, by omega, Heap.le_put hle hb3H, by rw [htk]; exact Heap.put_same, by rw [Heap.put_ne hne]; exact g2⟩, by simp [iv]; omega⟩
  · have hie : i = (lsN s).length := by omega
    subst hie
    rw [List.take_length] at g3
    have := acc_ls ⟨s, hs⟩
    simp only at this
    rw [this] at g3
    have lN : loadN 1 (.ptr b3 0) H1 = some (.agg [.int .u8 (s : Int)]) := loadN_at (cells := [.int .u8 (s : Int)]) g3
    simp only [letO_some, lN]
    refine storeA_of (cs := [.int .u8 (s : Int)]) g2 rfl rfl rfl (by simp) ?_
    have hsp : splice [.int .u8 0] 0 [.int .u8 (s : Int)] = [.int .u8 (s : Int)] := rfl
    rw [hsp]
    have lN : loadN 1 (.ptr b2 0) (H1.put b2 [.int .u8 (s : Int)]) = some (.agg [.int .u8 (s : Int)]) := loadN_at (cells := [.int .u8 (s : Int)]) Heap.put_same
    simp only [letO_some, lN]
    exact endK_pub (Pub.drop (Heap.le_put hle hb2)) (endK_ret hk)
end Go.Proofs.YtmmfelpgcdlgfaaGreatDoor

namespace Go.Proofs.YtmmfelpgcdlgfaaGreatDoor
open Go.Av
set_option linter.unusedVariables false
set_option linter.unusedSimpArgs false
set_option maxRecDepth 8000

theorem ls_inc : ∀ s : Fin 128, ∀ i : Fin 7, i.val + 1 < (lsN s.val).length → (lsN s.val).getD i.val 0 < (lsN s.val).getD (i.val + 1) 0 := by decide +kernel
theorem ls_nz : ∀ s : Fin 128, s.val ≠ 0 → (lsN s.val).length ≠ 0 := by decide +kernel
theorem l47_1 (s : Nat) : literalF Tryz.prog 47 1 [(0, .agg [.int .u8 (s : Int)])] = some [.int .u8 (s : Int)] := by
  rw [literalF_of (show literalPlan Tryz.prog 47 = some ([.int .u8 0], 1) by kernel_rfl) (by decide) (by simp)]
  simp [fillA, splice, rowOf]
/-- Small sides. -/
structure Sd (n : Nat) (T : List Nat) : Prop where
  n2 : 2 ≤ n
  n7 : n ≤ 7
  rng : ∀ s ∈ T, s ≠ 0 ∧ s < 2 ^ n ∧ s.testBit 0 = false
  nd : T.Pairwise (· ≠ ·)
  len : T.length ≤ 7
def lst (T : List Nat) : Tbl := T.map fun s => up (lsN s)
theorem u8l_len (T : List Nat) : (u8l T).length = T.length := by simp [u8l]
/-- opened -/
theorem d16 {v : AV} {n : Nat} {T : List Nat} {H : Heap} {K : AV → Heap → Prop} (h : Sd n T) (hv : RT H v (lst T)) (hk : K (.tup [.imm T.length false (u8l T), .int .i64 0]) H) :
    ACalls Tryz.prog 16 [.int .i64 (n : Int), v] H K := by
  apply W16_ok
  unfold W16
  have hn2 := h.n2
  have hn7 := h.n7
  have hl7 := h.len
  have h2n : 2 ^ n ≤ 2 ^ 7 := Nat.pow_le_pow_right (by omega) hn7
  have hlen := hv.len
  have hll : (lst T).length = T.length := by simp [lst]
  rw [hll] at hlen
  have e1 : decide ((n : Int) < 2) = false := decide_eq_false (by omega)
  have e2 : decide ((8 : Int) < (n : Int)) = false := decide_eq_false (by omega)
  have e3 : decide ((13 : Int) < (T.length : Int)) = false := decide_eq_false (by omega)
  have esub : ∃ x, ∀ t, binF Tryz.prog .sub t (.int .u8 ((2 ^ n : Nat) : Int)) (.int .u8 1) = some (.int .u8 x) := ⟨_, fun t => rfl⟩
  obtain ⟨full, esub⟩ := esub
  have esub' := esub 5
  try simp only [letO_some, cellsOf?_agg, cellsOf?_int, cellsOf?_bool, cellsOf?_imm, cellsOf?_ref, cellsOf?_nils, faddr_iptr, faddr_ptr, List.drop_succ_cons, List.drop_zero, List.take_succ_cons, List.take_zero, load1_iptr, loadN_iptr, List.length_cons, List.length_nil, Nat.le_refl, if_true, List.getElem?_cons_zero, List.getElem?_cons_succ, List.getD_cons_zero, List.getD_cons_succ, extrF_tup, binF_add, binF_sub, binF_mul, binF_eql, binF_neq, binF_lss, binF_leq, binF_gtr, binF_geq, true_and] at esub'
  simp only [letO_some, cellsOf?_agg, cellsOf?_int, cellsOf?_bool, cellsOf?_imm, cellsOf?_ref, cellsOf?_nils, faddr_iptr, faddr_ptr, List.drop_succ_cons, List.drop_zero, List.take_succ_cons, List.take_zero, load1_iptr, loadN_iptr, List.length_cons, List.length_nil, Nat.le_refl, if_true, List.getElem?_cons_zero, List.getElem?_cons_succ, List.getD_cons_zero, List.getD_cons_succ, extrF_tup, binF_add, binF_sub, binF_mul, binF_eql, binF_neq, binF_lss, binF_leq, binF_gtr, binF_geq, true_and, e1, e2, gval_bool, Int.reduceBNe, Int.reduceBEq, pickF_true, pickF_false, reduceIte, Bool.true_eq_false, Bool.false_eq_true, if_false, condA_tt, condA_ff, condG_tt, condG_ff, condG_tt', condG_ff', condG_undef, gval_undef, hlen, e3, condA_ff, u8_shl (show n < 8 by omega)]
  simp only [Option.some.injEq, AV.int.injEq, true_and] at esub'
  simp only [esub']
  refine ⟨fun L H' => ∃ (i : Nat) (X : AV) (Hg : Heap), eqt L [X, .int .i64 (i : Int)] ∧ i ≤ T.length ∧ H.le Hg ∧ Grow 1 Hg H' X (T.take i).length (u8l (T.take i)), fun L _ => (T.length - iv L 1).toNat, ⟨0, .nils, H, rfl, by omega, Heap.le_refl _, Grow.nils 1 H⟩, ?_⟩
  rintro L H4 ⟨i, X, Hg, rfl, hi, hle, hg⟩
  have htl : (T.take i).length = i := by rw [List.length_take]; omega
  try simp only [letO_some, cellsOf?_agg, cellsOf?_int, cellsOf?_bool, cellsOf?_imm, cellsOf?_ref, cellsOf?_nils, faddr_iptr, faddr_ptr, List.drop_succ_cons, List.drop_zero, List.take_succ_cons, List.take_zero, load1_iptr, loadN_iptr, List.length_cons, List.length_nil, Nat.le_refl, if_true, List.getElem?_cons_zero, List.getElem?_cons_succ, List.getD_cons_zero, List.getD_cons_succ, extrF_tup, binF_add, binF_sub, binF_mul, binF_eql, binF_neq, binF_lss, binF_leq, binF_gtr, binF_geq, true_and]
  refine condA_t (fun hlt => ?_) (fun hge => ?_)
  · have a1 : i < T.length := by omega
    have hle4 := Heap.le_trans hle hg.le
    refine RT.get hle4 hv (by omega) (by rw [hll]; omega) fun a ha => ?_
    have hrow : (lst T).getD (i : Int).toNat [] = up (lsN T[i]) := by
      rw [Int.toNat_natCast, List.getD_eq_getElem?_getD]; simp [lst, a1]
    rw [hrow] at ha
    have hm := List.getElem_mem a1
    obtain ⟨s0, s1, s2⟩ := h.rng _ hm
    have hnot : T[i] ∉ T.take i := by
      intro hin
      have hnd := h.nd
      rw [← List.take_append_drop i T, List.pairwise_append] at hnd
      exact hnd.2.2 _ hin _ (List.mem_iff_getElem.2 ⟨0, by simp; omega, by simp⟩) rfl
    have htk : T.take (i + 1) = T.take i ++ [T[i]] := by rw [List.take_add_one, List.getElem?_eq_getElem a1]; rfl
    generalize hs : T[i] = s at *
    have hs128 : s < 128 := by omega
    have hal := ha.len
    rw [up_length] at hal
    have hz := ls_nz ⟨s, hs128⟩ s0
    simp only at hz
    have hlls := ls_len s
    have e4 : (((lsN s).length : Int) == 0) = false := by rw [beq_eq_false_iff_ne]; omega
    have ha4 := ha.le hle4
    simp only [letO_some, cellsOf?_agg, cellsOf?_int, cellsOf?_bool, cellsOf?_imm, cellsOf?_ref, cellsOf?_nils, faddr_iptr, faddr_ptr, List.drop_succ_cons, List.drop_zero, List.take_succ_cons, List.take_zero, load1_iptr, loadN_iptr, List.length_cons, List.length_nil, Nat.le_refl, if_true, List.getElem?_cons_zero, List.getElem?_cons_succ, List.getD_cons_zero, List.getD_cons_succ, extrF_tup, binF_add, binF_sub, binF_mul, binF_eql, binF_neq, binF_lss, binF_leq, binF_gtr, binF_geq, true_and, hal, e4, condA_ff]
    refine ⟨fun L H' => ∃ k : Nat, eqt L [.int .i64 (k : Int)] ∧ k ≤ (lsN s).length ∧ eqt H' H4, fun L _ => ((lsN s).length - iv L 0).toNat, ⟨0, rfl, by omega, rfl⟩, ?_⟩
    rintro L H8 ⟨k, rfl, hk2, rfl⟩
    try simp only [letO_some, cellsOf?_agg, cellsOf?_int, cellsOf?_bool, cellsOf?_imm, cellsOf?_ref, cellsOf?_nils, faddr_iptr, faddr_ptr, List.drop_succ_cons, List.drop_zero, List.take_succ_cons, List.take_zero, load1_iptr, loadN_iptr, List.length_cons, List.length_nil, Nat.le_refl, if_true, List.getElem?_cons_zero, List.getElem?_cons_succ, List.getD_cons_zero, List.getD_cons_succ, extrF_tup, binF_add, binF_sub, binF_mul, binF_eql, binF_neq, binF_lss, binF_leq, binF_gtr, binF_geq, true_and]
    refine condA_t (fun hlt2 => ?_) (fun hge2 => ?_)
    · have k1 : k < (lsN s).length := by omega
      have hmem : (lsN s).getD k 0 ∈ lsN s := by
        rw [List.getD_eq_getElem?_getD, List.getElem?_eq_getElem k1]; exact List.getElem_mem k1
      have hb : (lsN s).getD k 0 < n := bit_lt s1 (ls_mem.1 hmem).2
      refine Reads.get (Heap.le_refl _) ha4 (by omega) (by rw [up_length]; omega) ?_
      rw [Int.toNat_natCast, up_getD]
      have x1 : decide ((((lsN s).getD k 0 : Nat) : Int) < 0) = false := decide_eq_false (by omega)
      have x2 : decide ((n : Int) ≤ (((lsN s).getD k 0 : Nat) : Int)) = false := decide_eq_false (by omega)
      simp only [letO_some, cellsOf?_agg, cellsOf?_int, cellsOf?_bool, cellsOf?_imm, cellsOf?_ref, cellsOf?_nils, faddr_iptr, faddr_ptr, List.drop_succ_cons, List.drop_zero, List.take_succ_cons, List.take_zero, load1_iptr, loadN_iptr, List.length_cons, List.length_nil, Nat.le_refl, if_true, List.getElem?_cons_zero, List.getElem?_cons_succ, List.getD_cons_zero, List.getD_cons_succ, extrF_tup, binF_add, binF_sub, binF_mul, binF_eql, binF_neq, binF_lss, binF_leq, binF_gtr, binF_geq, true_and, x1, x2, gval_bool, Int.reduceBNe, Int.reduceBEq, pickF_true, pickF_false, reduceIte, Bool.true_eq_false, Bool.false_eq_true, if_false, condA_tt, condA_ff, condG_tt, condG_ff, condG_tt', condG_ff', condG_undef, gval_undef, condA_ff]
      by_cases hk0 : k = 0
      · subst hk0
        have x3 : decide ((0 : Int) < ((0 : Nat) : Int)) = false := by decide
        have x3' : decide (((0 : Nat) : Int) > 0) = false := by decide
        simp only [x3, x3', gval_bool, Int.reduceBNe, Int.reduceBEq, pickF_true, pickF_false, reduceIte, Bool.true_eq_false, Bool.false_eq_true, if_false, condA_tt, condA_ff, condG_tt, condG_ff, condG_tt', condG_ff', condG_undef, gval_undef, condA_ff, letO_some]
        rw [wrap_i64 (by omega) (by omega)]
        exact ⟨⟨0 + 1, rfl, by omega, rfl⟩, by simp [iv]; omega⟩
      · have x3 : decide ((0 : Int) < (k : Int)) = true := decide_eq_true (by omega)
        have x3' : decide ((k : Int) > 0) = true := decide_eq_true (by omega)
        have wk : IntKind.i64.wrap ((k : Int) - 1) = ((k - 1 : Nat) : Int) := by rw [wrap_i64 (by omega) (by omega)]; omega
        simp only [x3, x3', gval_bool, Int.reduceBNe, Int.reduceBEq, pickF_true, pickF_false, reduceIte, Bool.true_eq_false, Bool.false_eq_true, if_false, condA_tt, condA_ff, condG_tt, condG_ff, condG_tt', condG_ff', condG_undef, gval_undef, letO_some, binF_sub, wk]
        refine Reads.get (Heap.le_refl _) ha4 (by omega) (by rw [up_length]; omega) ?_
        rw [Int.toNat_natCast, up_getD]
        have hinc := ls_inc ⟨s, hs128⟩ ⟨k - 1, by omega⟩ (by simp only; omega)
        simp only at hinc
        rw [show k - 1 + 1 = k by omega] at hinc
        have x4 : decide ((((lsN s).getD k 0 : Nat) : Int) ≤ (((lsN s).getD (k - 1) 0 : Nat) : Int)) = false := decide_eq_false (by omega)
        simp only [letO_some, cellsOf?_agg, cellsOf?_int, cellsOf?_bool, cellsOf?_imm, cellsOf?_ref, cellsOf?_nils, faddr_iptr, faddr_ptr, List.drop_succ_cons, List.drop_zero, List.take_succ_cons, List.take_zero, load1_iptr, loadN_iptr, List.length_cons, List.length_nil, Nat.le_refl, if_true, List.getElem?_cons_zero, List.getElem?_cons_succ, List.getD_cons_zero, List.getD_cons_succ, extrF_tup, binF_add, binF_sub, binF_mul, binF_eql, binF_neq, binF_lss, binF_leq, binF_gtr, binF_geq, true_and, x4, gval_bool, Int.reduceBNe, Int.reduceBEq, pickF_true, pickF_false, reduceIte, Bool.true_eq_false, Bool.false_eq_true, if_false, condA_tt, condA_ff, condG_tt, condG_ff, condG_tt', condG_ff', condG_undef, gval_undef, condA_ff]
        rw [wrap_i64 (by omega) (by omega)]
        exact ⟨⟨k + 1, rfl, by omega, rfl⟩, by simp [iv]; omega⟩
    · refine d33 ha4 hs128 ?_
      refine alloc_store (cs := [.int .u8 (s : Int)]) rfl rfl rfl rfl fun b12 hb12 => ?_
      have h12 : (H8.put b12 [.int .u8 (s : Int)]) b12 = some [.int .u8 (s : Int)] := Heap.put_same
      have hg12 : Grow 1 (Hg.put b12 [.int .u8 (s : Int)]) (H8.put b12 [.int .u8 (s : Int)]) X _ _ := alloc_grow hg hb12
      have hle12 : H.le (Hg.put b12 [.int .u8 (s : Int)]) := Heap.le_trans hle (Heap.le_new (none_of_le hg.le hb12))
      generalize H8.put b12 [.int .u8 (s : Int)] = H12 at *
      generalize Hg.put b12 [.int .u8 (s : Int)] = Hg12 at *
      have lN : loadN 1 (.ptr b12 0) H12 = some (.agg [.int .u8 (s : Int)]) := loadN_at (cells := [.int .u8 (s : Int)]) h12
      have f0 : faddr 0 (.ptr b12 0) = some (.ptr b12 0) := rfl
      have l0 : load1 (.ptr b12 0) H12 = some (.int .u8 (s : Int)) := load1_at h12 rfl
      try simp only [true_and]
      refine ⟨fun L H' => eqt L [] ∧ eqt H' H12, ?_, ?_⟩
      · simp only [letO_some, lN]
        refine d34 (x := 0) (by omega) (by omega) ?_
        rw [s2]
        simp only [condA_ff]
        exact ⟨rfl, rfl⟩
      · rintro L H16 ⟨rfl, rfl⟩
        have e5 : ((s : Int) == 0) = false := by rw [beq_eq_false_iff_ne]; omega
        simp only [letO_some, f0, l0, lN, binF_eql, e5, condA_ff]
        refine d35 hg12.readsC (by omega) ?_
        rw [decide_eq_false hnot]
        simp only [letO_some, condA_ff, lN, l47_1]
        refine appendA_growR hg12 (m := 1) (new := [.int .u8 (s : Int)]) (by simp [srcOf]) rfl rfl (by omega) (by omega) (by omega) fun v' H7 hg7 ho7 => ?_
        try simp only [letO_some, binF_add]
        rw [wrap_i64 (by omega) (by omega)]
        refine ⟨⟨i + 1, v', Hg12, rfl, by omega, hle12, ?_⟩, by simp [iv]; omega⟩
        rw [htk, u8l_snoc, List.length_append]
        exact hg7
  · have hie : i = T.length := by omega
    subst hie
    rw [List.take_length] at hg
    obtain ⟨H3, hle3, hg3⟩ := hg.shrink hle
    exact endK_pub (Pub.drop hle3) (hg3.end2 hk)
theorem neqb4 (a b : Bool) : binF Tryz.prog .neq 4 (.bool a) (.bool b) = some (.bool (a != b)) := by
  have h : Tryz.prog.underlying 4 = some .bool := by kernel_rfl
  show (eqF Tryz.prog 4 (.bool a) (.bool b)).map (fun r => AV.bool !r) = _
  simp only [eqF, h]; rfl
/-- parted -/
theorem d29 {v : AV} {T : List Nat} {a b : Nat} {H : Heap} {K : AV → Heap → Prop} (hv : ReadsC 1 H v T.length (u8l T)) (hT : ∀ s ∈ T, s < 256) (hl : T.length < 1000) (ha : a < 8) (hb : b < 8) (hk : K (.int .i64 (T.countP fun s => s.testBit a != s.testBit b : Nat)) H) :
    ACalls Tryz.prog 29 [v, .int .i64 (a : Int), .int .i64 (b : Int)] H K := by
  apply W29_ok
  unfold W29
  have hlen := ReadsC.len hv
  simp only [letO_some, hlen, true_and]
  refine ⟨fun L H' => ∃ i : Nat, eqt L [.int .i64 ((T.take i).countP fun s => s.testBit a != s.testBit b : Nat), .int .i64 i] ∧ i ≤ T.length ∧ H.le H', fun L _ => (T.length - iv L 1).toNat, ⟨0, rfl, by omega, Heap.le_refl _⟩, ?_⟩
  rintro L H4 ⟨i, rfl, hi, hle⟩
  have hcl := List.countP_le_length (p := fun s : Nat => s.testBit a != s.testBit b) (l := T.take i)
  rw [List.length_take] at hcl
  try simp only [letO_some, cellsOf?_agg, cellsOf?_int, cellsOf?_bool, cellsOf?_imm, cellsOf?_ref, cellsOf?_nils, faddr_iptr, faddr_ptr, List.drop_succ_cons, List.drop_zero, List.take_succ_cons, List.take_zero, load1_iptr, loadN_iptr, List.length_cons, List.length_nil, Nat.le_refl, if_true, List.getElem?_cons_zero, List.getElem?_cons_succ, List.getD_cons_zero, List.getD_cons_succ, extrF_tup, binF_add, binF_sub, binF_mul, binF_eql, binF_neq, binF_lss, binF_leq, binF_gtr, binF_geq, true_and]
  refine condA_t (fun hlt => ?_) (fun hge => ?_)
  · have a1 : i < T.length := by omega
    refine ⟨fun L H' => eqt L [.int .i64 ((T.take (i + 1)).countP fun s => s.testBit a != s.testBit b : Nat)] ∧ H.le H', ?_, ?_⟩
    · refine hv.getN hle (by omega) (by omega) ?_
      have hs := hT _ (List.getElem_mem a1)
      rw [Int.toNat_natCast, u8l_get a1, List.take_add_one, List.getElem?_eq_getElem a1, Option.toList_some, List.countP_append]
      generalize T[i] = s at *
      refine alloc_store (cs := [.int .u8 (s : Int)]) rfl rfl rfl rfl fun b9 hb9 => ?_
      have hle9 := Heap.le_trans hle (Heap.le_new (c := [.int .u8 (s : Int)]) hb9)
      have h9 : (H4.put b9 [.int .u8 (s : Int)]) b9 = some [.int .u8 (s : Int)] := Heap.put_same
      generalize H4.put b9 [.int .u8 (s : Int)] = H9 at *
      have lN : loadN 1 (.ptr b9 0) H9 = some (.agg [.int .u8 (s : Int)]) := loadN_at (cells := [.int .u8 (s : Int)]) h9
      simp only [letO_some, lN, true_and]
      refine ⟨.bool (s.testBit a), d34 hs ha ⟨rfl, rfl⟩, ?_⟩
      refine d34 hs hb ?_
      simp only [letO_some, neqb4]
      cases hx : (s.testBit a != s.testBit b)
      · simp only [condA_ff]
        refine ⟨?_, hle9⟩
        have : [s].countP (fun s => s.testBit a != s.testBit b) = 0 := by simp only [List.countP_cons, List.countP_nil, hx]; rfl
        rw [this]; rfl
      · simp only [condA_tt, letO_some, binF_add]
        rw [wrap_i64 (by omega) (by omega)]
        refine ⟨?_, hle9⟩
        have : [s].countP (fun s => s.testBit a != s.testBit b) = 1 := by simp only [List.countP_cons, List.countP_nil, hx]; rfl
        rw [this]; rfl
    · rintro L H10 ⟨rfl, hle10⟩
      try simp only [letO_some, cellsOf?_agg, cellsOf?_int, cellsOf?_bool, cellsOf?_imm, cellsOf?_ref, cellsOf?_nils, faddr_iptr, faddr_ptr, List.drop_succ_cons, List.drop_zero, List.take_succ_cons, List.take_zero, load1_iptr, loadN_iptr, List.length_cons, List.length_nil, Nat.le_refl, if_true, List.getElem?_cons_zero, List.getElem?_cons_succ, List.getD_cons_zero, List.getD_cons_succ, extrF_tup, binF_add, binF_sub, binF_mul, binF_eql, binF_neq, binF_lss, binF_leq, binF_gtr, binF_geq, true_and]
      rw [wrap_i64 (by omega) (by omega)]
      exact ⟨⟨i + 1, rfl, by omega, hle10⟩, by simp [iv]; omega⟩
  · have hie : i = T.length := by omega
    subst hie
    rw [List.take_length]
    exact endK_pub (Pub.drop hle) (endK_ret hk)
/-- class.Parted -/
theorem d13 {v : AV} {n a b : Nat} {T : List Nat} {H : Heap} {K : AV → Heap → Prop} (h : Sd n T) (hv : RT H v (lst T)) (ha : a < n) (hb : b < n) (hk : K (.tup [.int .i64 (T.countP fun s => s.testBit a != s.testBit b : Nat), .int .i64 0]) H) :
    ACalls Tryz.prog 13 [.int .i64 (n : Int), v, .int .i64 (a : Int), .int .i64 (b : Int)] H K := by
  apply W13_ok
  unfold W13
  have hn7 := h.n7
  have h2n : 2 ^ n ≤ 2 ^ 7 := Nat.pow_le_pow_right (by omega) hn7
  have e0 : ((0 : Int) != 0) = false := rfl
  try simp only [letO_some, cellsOf?_agg, cellsOf?_int, cellsOf?_bool, cellsOf?_imm, cellsOf?_ref, cellsOf?_nils, faddr_iptr, faddr_ptr, List.drop_succ_cons, List.drop_zero, List.take_succ_cons, List.take_zero, load1_iptr, loadN_iptr, List.length_cons, List.length_nil, Nat.le_refl, if_true, List.getElem?_cons_zero, List.getElem?_cons_succ, List.getD_cons_zero, List.getD_cons_succ, extrF_tup, binF_add, binF_sub, binF_mul, binF_eql, binF_neq, binF_lss, binF_leq, binF_gtr, binF_geq, true_and]
  refine d16 h hv ?_
  have hmin : min2F (.int .i64 (a : Int)) (.int .i64 (b : Int)) = some (.int .i64 (if (b : Int) < (a : Int) then (b : Int) else (a : Int))) := rfl
  have hmax : max2F (.int .i64 (a : Int)) (.int .i64 (b : Int)) = some (.int .i64 (if (b : Int) > (a : Int) then (b : Int) else (a : Int))) := rfl
  have e4 : decide ((if (b : Int) < (a : Int) then (b : Int) else (a : Int)) < 0) = false := decide_eq_false (by split <;> omega)
  have e5 : decide ((n : Int) ≤ (if (b : Int) > (a : Int) then (b : Int) else (a : Int))) = false := decide_eq_false (by split <;> omega)
  simp only [letO_some, cellsOf?_agg, cellsOf?_int, cellsOf?_bool, cellsOf?_imm, cellsOf?_ref, cellsOf?_nils, faddr_iptr, faddr_ptr, List.drop_succ_cons, List.drop_zero, List.take_succ_cons, List.take_zero, load1_iptr, loadN_iptr, List.length_cons, List.length_nil, Nat.le_refl, if_true, List.getElem?_cons_zero, List.getElem?_cons_succ, List.getD_cons_zero, List.getD_cons_succ, extrF_tup, binF_add, binF_sub, binF_mul, binF_eql, binF_neq, binF_lss, binF_leq, binF_gtr, binF_geq, true_and, e0, condA_ff, hmin, e4, gval_bool, Int.reduceBNe, Int.reduceBEq, pickF_true, pickF_false, reduceIte, Bool.true_eq_false, Bool.false_eq_true, if_false, condA_tt, condA_ff, condG_tt, condG_ff, condG_tt', condG_ff', condG_undef, gval_undef, hmax, e5]
  refine d29 ⟨by rw [u8l_len]; omega, rfl, rfl⟩ (fun s hs => by have := h.rng s hs; omega) (by have := h.len; omega) (by omega) (by omega) ?_
  try simp only [letO_some, cellsOf?_agg, cellsOf?_int, cellsOf?_bool, cellsOf?_imm, cellsOf?_ref, cellsOf?_nils, faddr_iptr, faddr_ptr, List.drop_succ_cons, List.drop_zero, List.take_succ_cons, List.take_zero, load1_iptr, loadN_iptr, List.length_cons, List.length_nil, Nat.le_refl, if_true, List.getElem?_cons_zero, List.getElem?_cons_succ, List.getD_cons_zero, List.getD_cons_succ, extrF_tup, binF_add, binF_sub, binF_mul, binF_eql, binF_neq, binF_lss, binF_leq, binF_gtr, binF_geq, true_and]
  exact endK_ret hk
end Go.Proofs.YtmmfelpgcdlgfaaGreatDoor

namespace Go.Proofs.YtmmfelpgcdlgfaaGreatDoor
open Go.Av
set_option linter.unusedVariables false
set_option linter.unusedSimpArgs false
set_option maxRecDepth 8000

theorem conv5465 {n : Nat} (h : n < 65536) : convF Tryz.prog 54 65 (.int .u16 (n : Int)) = some (.int .u64 (n : Int)) := by
  have h1 : (Tryz.prog.underlying 54).isSome = true := by kernel_rfl
  have h2 : Tryz.prog.underlying 65 = some (.int .u64) := by kernel_rfl
  obtain ⟨d, h1⟩ := Option.isSome_iff_exists.1 h1
  simp only [convF, h1, h2]
  rw [wrap_u64 (by omega) (by omega)]
theorem conv354 {n : Nat} (h : n < 65536) : convF Tryz.prog 3 54 (.int .i64 (n : Int)) = some (.int .u16 (n : Int)) := by
  have h1 : (Tryz.prog.underlying 3).isSome = true := by kernel_rfl
  have h2 : Tryz.prog.underlying 54 = some (.int .u16) := by kernel_rfl
  obtain ⟨d, h1⟩ := Option.isSome_iff_exists.1 h1
  simp only [convF, h1, h2]
  rw [wrap_u16 (by omega) (by omega)]
/-- list of a set of divisions -/
theorem d18 {s : Nat} {H : Heap} {K : AV → Heap → Prop} (h : s < 128) (hk : K (sl (up (lsN s))) H) : ACalls Tryz.prog 18 [.agg [.int .u16 (s : Int)]] H K := by
  apply W18_ok
  unfold W18
  have hc : cellsOf? (.agg [.int .u16 (s : Int)]) = some [.int .u16 (s : Int)] := rfl
  have f0 : faddr 0 (.iptr [.int .u16 (s : Int)]) = some (.iptr [.int .u16 (s : Int)]) := rfl
  have l0 : load1 (.iptr [.int .u16 (s : Int)]) H = some (.int .u16 (s : Int)) := rfl
  try simp only [letO_some, hc, f0, l0, conv5465 (show s < 65536 by omega), true_and]
  refine ⟨fun L H' => ∃ (s' : Nat) (done : List Nat) (X : AV), eqt L [X, .int .u64 (s' : Int)] ∧ s' < 128 ∧ Grow 1 H H' X done.length (ints (up done)) ∧ done ++ lsN s' = lsN s, fun L _ => (iv L 1).toNat, ⟨s, [], .nils, rfl, h, Grow.nils 1 H, rfl⟩, ?_⟩
  rintro L H' ⟨s', done, X, rfl, hs', hg, hd⟩
  try simp only [letO_some, cellsOf?_agg, cellsOf?_int, cellsOf?_bool, cellsOf?_imm, cellsOf?_ref, cellsOf?_nils, faddr_iptr, faddr_ptr, List.drop_succ_cons, List.drop_zero, List.take_succ_cons, List.take_zero, load1_iptr, loadN_iptr, List.length_cons, List.length_nil, Nat.le_refl, if_true, List.getElem?_cons_zero, List.getElem?_cons_succ, List.getD_cons_zero, List.getD_cons_succ, extrF_tup, binF_add, binF_sub, binF_mul, binF_eql, binF_neq, binF_lss, binF_leq, binF_gtr, binF_geq, true_and]
  by_cases h0 : s' = 0
  · subst h0
    have e : (((0 : Nat) : Int) != 0) = false := rfl
    simp only [e, condA_ff]
    have hl0 : lsN 0 = [] := by decide
    rw [hl0, List.append_nil] at hd
    subst hd
    refine hg.end1 ?_
    simpa [sl] using hk
  · have e : ((s' : Int) != 0) = true := by rw [bne_iff_ne]; omega
    simp only [e, condA_tt]
    obtain ⟨l1, l2⟩ := ls_step ⟨s', hs'⟩ h0
    simp only at l1 l2
    have hdl : done.length ≤ 7 := by
      have := ls_len s
      rw [← hd, List.length_append] at this; omega
    refine c48 hs' h0 ?_
    simp only [l35 cellsOf?_int, letO_some]
    refine appendA_one hg (by omega) fun v' H7 hg7 => ?_
    have hsub : IntKind.u64.wrap ((s' : Int) - 1) = ((s' - 1 : Nat) : Int) := by rw [wrap_u64 (by omega) (by omega)]; omega
    have p64 : (2 : Nat) ^ 64 = 18446744073709551616 := by decide
    try simp only [letO_some, binF_sub, hsub, u64_and (a := s') (b := s' - 1) (by omega) (by omega)]
    refine ⟨⟨s' &&& (s' - 1), done ++ [tzN s'], v', rfl, by omega, ?_, ?_⟩, by simp [iv]; omega⟩
    · have : up (done ++ [tzN s']) = up done ++ [((tzN s' : Nat) : Int)] := by simp [up]
      rw [this]; simpa using hg7
    · rw [← hd, l1]; simp
theorem d21 {a b : Nat} {H : Heap} {K : AV → Heap → Prop} (ha : a < 128) (hb : b < 128) (hk : K (.bool (subB a b)) H) : ACalls Tryz.prog 21 [.agg [.int .u16 (a : Int)], .agg [.int .u16 (b : Int)]] H K := by
  apply W21_ok
  unfold W21
  have hc : ∀ s : Nat, cellsOf? (.agg [.int .u16 (s : Int)]) = some [.int .u16 (s : Int)] := fun s => rfl
  have f0 : ∀ s : Nat, faddr 0 (.iptr [.int .u16 (s : Int)]) = some (.iptr [.int .u16 (s : Int)]) := fun s => rfl
  have l0 : ∀ s : Nat, load1 (.iptr [.int .u16 (s : Int)]) H = some (.int .u16 (s : Int)) := fun s => rfl
  have n1 : ∃ x, (∀ t, binF Tryz.prog .andNot t (.int .u16 (a : Int)) (.int .u16 (b : Int)) = some (.int .u16 x)) ∧ (x == 0) = subB a b := ⟨_, fun t => rfl, andn16 ⟨a, ha⟩ ⟨b, hb⟩⟩
  obtain ⟨x, x1, x2⟩ := n1
  try simp only [letO_some, hc, f0, l0, x1, binF_eql, x2]
  exact endK_ret hk
def u16l (l : List Nat) : List AV := l.map fun (x : Nat) => .int .u16 (x : Int)
theorem u16l_len (l : List Nat) : (u16l l).length = l.length := by simp [u16l]
theorem u16l_get {l : List Nat} {i : Nat} (h : i < l.length) : (u16l l)[i]? = some (.int .u16 (l.getD i 0 : Nat)) := by
  simp [u16l, List.getD_eq_getElem?_getD, h]
/-- The friends, in memory. -/
structure FrH (H : Heap) (b8 bf : Nat) (fr : List Nat) : Prop where
  h8 : H b8 = some [.ref 1 bf 0 fr.length (some fr.length)]
  hf : H bf = some (u16l fr)
theorem FrH.le {H H' : Heap} {b8 bf : Nat} {fr : List Nat} (h : FrH H b8 bf fr) (hl : H.le H') : FrH H' b8 bf fr := ⟨hl _ _ h.h8, hl _ _ h.hf⟩
theorem idx_fr {bf i n : Nat} (h : i < n) : idx 1 (.ref 1 bf 0 n (some n)) (.int .i64 (i : Int)) = some (.ptr bf i) := by
  simp only [idx]
  rw [if_pos (by omega)]
  simp
/-- Does a set hold one that does not agree with all of it? -/
def badB (fr : List Nat) (s : Nat) : Bool := (lsN s).any fun i => !subB s (fr.getD i 0)
theorem d20 {b15 b8 bf s i : Nat} {fr : List Nat} {H : Heap} {K : AV → Heap → Prop} (h : FrH H b8 bf fr) (h15 : H b15 = some [.int .u16 (s : Int)]) (hs : s < 128) (hi : i < fr.length) (hf : ∀ x ∈ fr, x < 128) (hk : K (.bool (!subB s (fr.getD i 0))) H) :
    ACalls Tryz.prog 20 [.int .i64 (i : Int), .ptr b15 0, .ptr b8 0] H K := by
  apply W20_ok
  unfold W20
  have l15 : loadN 1 (.ptr b15 0) H = some (.agg [.int .u16 (s : Int)]) := loadN_at (cells := [.int .u16 (s : Int)]) h15
  have l8 : load1 (.ptr b8 0) H = some (.ref 1 bf 0 fr.length (some fr.length)) := load1_at h.h8 rfl
  have lf : loadN 1 (.ptr bf i) H = some (.agg [.int .u16 (fr.getD i 0 : Nat)]) := by
    rw [loadN_ptr, h.hf, Option.bind_some, if_pos (by rw [List.length_drop, u16l_len]; omega)]
    rw [List.drop_eq_getElem_cons (by rw [u16l_len]; exact hi), List.take_succ_cons, List.take_zero]
    have := u16l_get hi
    rw [List.getElem?_eq_getElem (by rw [u16l_len]; exact hi)] at this
    rw [Option.some.inj this]
  have hx : fr.getD i 0 < 128 := by
    rw [List.getD_eq_getElem?_getD, List.getElem?_eq_getElem hi]; exact hf _ (List.getElem_mem hi)
  try simp only [letO_some, l15, l8, idx_fr hi, lf, true_and]
  refine d21 hs hx ?_
  try simp only [letO_some, not_v]
  exact endK_ret hk
/-- slices.ContainsFunc of a set's members -/
theorem d19 {b15 b8 bf s : Nat} {fr : List Nat} {H : Heap} {K : AV → Heap → Prop} (h : FrH H b8 bf fr) (h15 : H b15 = some [.int .u16 (s : Int)]) (hs : s < 128) (hi : ∀ i ∈ lsN s, i < fr.length) (hf : ∀ x ∈ fr, x < 128) (hk : K (.bool (badB fr s)) H) :
    ACalls Tryz.prog 19 [sl (up (lsN s)), .fn 20 [.ptr b15 0, .ptr b8 0]] H K := by
  apply W19_ok
  unfold W19
  try simp only [letO_some]
  apply W38_ok
  unfold W38
  have hll : lenA (sl (up (lsN s))) = some (.int .i64 ((lsN s).length : Int)) := by simp [sl, lenA]
  have hl7 := ls_len s
  try simp only [letO_some, hll, true_and]
  refine ⟨fun L H' => ∃ i : Nat, eqt L [.int .i64 i] ∧ i ≤ (lsN s).length ∧ eqt H' H ∧ ((lsN s).take i).any (fun i => !subB s (fr.getD i 0)) = false, fun L _ => ((lsN s).length - iv L 0).toNat, ⟨0, rfl, by omega, rfl, rfl⟩, ?_⟩
  rintro L H' ⟨i, rfl, hi2, rfl, hnot⟩
  try simp only [letO_some, cellsOf?_agg, cellsOf?_int, cellsOf?_bool, cellsOf?_imm, cellsOf?_ref, cellsOf?_nils, faddr_iptr, faddr_ptr, List.drop_succ_cons, List.drop_zero, List.take_succ_cons, List.take_zero, load1_iptr, loadN_iptr, List.length_cons, List.length_nil, Nat.le_refl, if_true, List.getElem?_cons_zero, List.getElem?_cons_succ, List.getD_cons_zero, List.getD_cons_succ, extrF_tup, binF_add, binF_sub, binF_mul, binF_eql, binF_neq, binF_lss, binF_leq, binF_gtr, binF_geq, true_and]
  refine condA_t (fun hlt => ?_) (fun hge => ?_)
  · have a1 : i < (lsN s).length := by omega
    try simp only [letO_some]
    refine Reads.get (Heap.le_refl _) (Reads.sl H' (up (lsN s))) (by omega) (by rw [up_length]; omega) ?_
    rw [Int.toNat_natCast, up_getD]
    have hm : (lsN s).getD i 0 ∈ lsN s := by
      rw [List.getD_eq_getElem?_getD, List.getElem?_eq_getElem a1]; exact List.getElem_mem a1
    have htk : (lsN s).take (i + 1) = (lsN s).take i ++ [(lsN s).getD i 0] := by
      rw [List.take_add_one, List.getElem?_eq_getElem a1, List.getD_eq_getElem?_getD, List.getElem?_eq_getElem a1]; rfl
    simp only [callA, letO_some]
    refine d20 h h15 hs (hi _ hm) hf ?_
    cases hx : subB s (fr.getD ((lsN s).getD i 0) 0)
    · simp only [Bool.not_false, condA_tt, letO_some]
      refine endK_ret ?_
      have e : decide (((i : Nat) : Int) ≥ 0) = true := decide_eq_true (by omega)
      try simp only [letO_some, binF_geq, e]
      have : badB fr s = true := by
        rw [badB, List.any_eq_true]
        exact ⟨_, hm, by rw [hx]; rfl⟩
      rw [this] at hk
      exact endK_ret hk
    · simp only [Bool.not_true, condA_ff, letO_some, binF_add]
      rw [wrap_i64 (by omega) (by omega)]
      refine ⟨⟨i + 1, rfl, by omega, rfl, ?_⟩, by simp [iv]; omega⟩
      rw [htk, List.any_append, hnot]
      simp only [List.any_cons, List.any_nil, hx]; rfl
  · have hie : i = (lsN s).length := by omega
    subst hie
    rw [List.take_length] at hnot
    have : badB fr s = false := hnot
    rw [this] at hk
    refine endK_ret ?_
    have e : decide ((-1 : Int) ≥ 0) = false := by decide
    try simp only [letO_some, binF_geq, e]
    exact endK_ret hk
/-- The friends of a division, among the first. -/
def frP (T : List Nat) (i m : Nat) : Nat := (List.range m).foldl (fun a j => if agrB (T.getD i 0) (T.getD j 0) then a ||| 2 ^ j else a) 0
theorem frP_succ (T : List Nat) (i m : Nat) : frP T i (m + 1) = if agrB (T.getD i 0) (T.getD m 0) then frP T i m ||| 2 ^ m else frP T i m := by
  unfold frP
  rw [List.range_succ, List.foldl_append]; rfl
theorem frP_bit (T : List Nat) (i : Nat) : ∀ m x, (frP T i m).testBit x = (decide (x < m) && agrB (T.getD i 0) (T.getD x 0)) := by
  intro m
  induction m with
  | zero => intro x; simp [frP]
  | succ m ih =>
    intro x
    rw [frP_succ]
    by_cases hx : x = m
    · subst hx
      have hlt : decide (x < x + 1) = true := decide_eq_true (by omega)
      have hnl : decide (x < x) = false := decide_eq_false (by omega)
      rw [hlt, Bool.true_and]
      split
      · rename_i h
        rw [Nat.testBit_or, Nat.testBit_two_pow, decide_eq_true rfl, Bool.or_true, h]
      · rename_i h
        rw [ih, hnl, Bool.false_and]; exact (Bool.eq_false_iff.2 h).symm
    · have hd : decide (x < m + 1) = decide (x < m) := by rw [decide_eq_decide]; omega
      rw [hd]
      split
      · rw [Nat.testBit_or, Nat.testBit_two_pow, ih]
        have : decide (m = x) = false := decide_eq_false (fun h => hx h.symm)
        rw [this, Bool.or_false]
      · exact ih x
theorem frP_lt (T : List Nat) (i : Nat) : ∀ m, m ≤ 7 → frP T i m < 128 := by
  intro m
  induction m with
  | zero => intro _; simp [frP]
  | succ m ih =>
    intro h
    rw [frP_succ]
    have := ih (by omega)
    split
    · exact Nat.or_lt_two_pow (n := 7) this (Nat.pow_lt_pow_right (by omega) (by omega))
    · exact this
/-- The table of friends while it is made. -/
def frL (T : List Nat) (i m : Nat) : List Nat := (List.range T.length).map fun a => if a < i then frP T a T.length else if a = i then frP T i m else 0
theorem frL_len (T : List Nat) (i m : Nat) : (frL T i m).length = T.length := by simp [frL]
theorem frL_get {T : List Nat} {i m : Nat} (h : i < T.length) : (frL T i m).getD i 0 = frP T i m := by
  simp [frL, List.getD_eq_getElem?_getD, h]
theorem frL_next (T : List Nat) (i : Nat) : frL T i T.length = frL T (i + 1) 0 := by
  unfold frL
  apply List.map_congr_left
  intro a _
  by_cases h1 : a < i
  · rw [if_pos h1, if_pos (by omega)]
  · by_cases h2 : a = i
    · subst h2; rw [if_neg (by omega), if_pos rfl, if_pos (by omega)]
    · rw [if_neg h1, if_neg h2, if_neg (by omega)]
      have : frP T (i + 1) 0 = 0 := rfl
      rw [this]; split <;> rfl
theorem frL_set {T : List Nat} {i m x : Nat} (h : i < T.length) (hx : x = frP T i (m + 1)) : (u16l (frL T i m)).set i (.int .u16 (x : Int)) = u16l (frL T i (m + 1)) := by
  subst hx
  apply List.ext_getElem?
  intro a
  rw [List.getElem?_set]
  by_cases ha : a < T.length
  · rw [u16l_get (by rw [frL_len]; exact ha), u16l_get (by rw [frL_len]; exact ha)]
    by_cases he : i = a
    · subst he
      rw [if_pos rfl, if_pos (by rw [u16l_len, frL_len]; exact h), frL_get h]
    · rw [if_neg he]
      have : (frL T i m).getD a 0 = (frL T i (m + 1)).getD a 0 := by
        simp only [frL, List.getD_eq_getElem?_getD, List.getElem?_map, List.getElem?_range ha, Option.map_some, Option.getD_some]
        rw [if_neg (show ¬ a = i from fun h => he h.symm), if_neg (show ¬ a = i from fun h => he h.symm)]
      rw [this]
  · have h1 : (u16l (frL T i m))[a]? = none := List.getElem?_eq_none (by rw [u16l_len, frL_len]; omega)
    have h2 : (u16l (frL T i (m + 1)))[a]? = none := List.getElem?_eq_none (by rw [u16l_len, frL_len]; omega)
    rw [h1, h2, if_neg (by omega)]
/-- All friends. -/
def frA (T : List Nat) : List Nat := (List.range T.length).map fun a => frP T a T.length
theorem frL_all (T : List Nat) : frL T T.length 0 = frA T := by
  unfold frL frA
  apply List.map_congr_left
  intro a ha
  rw [if_pos (List.mem_range.1 ha)]
/-- One set more in the search for the most that agree. -/
def moF (fr : List Nat) (best : List Nat) (s : Nat) : List Nat :=
  if (lsN s).length < best.length ∨ badB fr s = true then best
  else if best.length < (lsN s).length ∨ cmpL (up (lsN s)) (up best) < 0 then lsN s else best
def moS (T : List Nat) : List Nat := (List.range (2 ^ T.length)).foldl (moF (frA T)) []
theorem mo_len (fr : List Nat) (L : List Nat) : (L.foldl (moF fr) []).length ≤ 7 := by
  induction L using snoc_ind with
  | h0 => simp
  | h1 L a ih =>
    rw [List.foldl_append]
    simp only [List.foldl_cons, List.foldl_nil]
    have := ls_len a
    unfold moF
    split
    · exact ih
    · split
      · exact this
      · exact ih
theorem b56 (s : Nat) : buildF Tryz.prog 56 [(0, .int .u16 (s : Int))] = some (.agg [.int .u16 (s : Int)]) := by
  rw [buildF_of (show buildPlan Tryz.prog 56 = some ([.int .u16 0], [(0, 1)]) by kernel_rfl)]
  simp [fillA, splice]
/-- class.Most -/
theorem d8 {v : AV} {n : Nat} {T : List Nat} {H : Heap} {K : AV → Heap → Prop} (h : Sd n T) (hv : RT H v (lst T)) (hk : K (.tup [sl (up (moS T)), .int .i64 0]) H) :
    ACalls Tryz.prog 8 [.int .i64 (n : Int), v] H K := by
  apply W8_ok
  unfold W8
  have hn7 := h.n7
  have hl7 := h.len
  have h2n : 2 ^ n ≤ 2 ^ 7 := Nat.pow_le_pow_right (by omega) hn7
  have h2k : 2 ^ T.length ≤ 2 ^ 7 := Nat.pow_le_pow_right (by omega) hl7
  have e0 : ((0 : Int) != 0) = false := rfl
  have hT128 : ∀ s ∈ T, s < 128 := fun s hs => by have := h.rng s hs; omega
  have hTg : ∀ i, T.getD i 0 < 128 := fun i => by
    rw [List.getD_eq_getElem?_getD]
    cases hx : T[i]? with
    | none => simp
    | some x => exact hT128 x (List.mem_of_getElem? hx)
  try simp only [letO_some, cellsOf?_agg, cellsOf?_int, cellsOf?_bool, cellsOf?_imm, cellsOf?_ref, cellsOf?_nils, faddr_iptr, faddr_ptr, List.drop_succ_cons, List.drop_zero, List.take_succ_cons, List.take_zero, load1_iptr, loadN_iptr, List.length_cons, List.length_nil, Nat.le_refl, if_true, List.getElem?_cons_zero, List.getElem?_cons_succ, List.getD_cons_zero, List.getD_cons_succ, extrF_tup, binF_add, binF_sub, binF_mul, binF_eql, binF_neq, binF_lss, binF_leq, binF_gtr, binF_geq, true_and]
  refine d16 h hv ?_
  have hvl : lenA (.imm T.length false (u8l T)) = some (.int .i64 T.length) := rfl
  have hvr : ∀ H, ReadsC 1 H (.imm T.length false (u8l T)) T.length (u8l T) := fun H => ⟨by rw [u8l_len]; omega, rfl, rfl⟩
  generalize AV.imm T.length false (u8l T) = tv at *
  simp only [letO_some, cellsOf?_agg, cellsOf?_int, cellsOf?_bool, cellsOf?_imm, cellsOf?_ref, cellsOf?_nils, faddr_iptr, faddr_ptr, List.drop_succ_cons, List.drop_zero, List.take_succ_cons, List.take_zero, load1_iptr, loadN_iptr, List.length_cons, List.length_nil, Nat.le_refl, if_true, List.getElem?_cons_zero, List.getElem?_cons_succ, List.getD_cons_zero, List.getD_cons_succ, extrF_tup, binF_add, binF_sub, binF_mul, binF_eql, binF_neq, binF_lss, binF_leq, binF_gtr, binF_geq, true_and, e0, condA_ff, hvl]
  refine ⟨by omega, by omega, by omega, by omega, fun bf hbf => ?_⟩
  have hrow : rowOf [AV.int .u16 0] (((T.length : Int)).toNat * 1) = u16l (frL T 0 0) := by
    unfold rowOf u16l frL
    rw [Int.toNat_natCast, Nat.mul_one, List.map_map]
    apply List.map_congr_left
    intro a _
    have h0 : frP T 0 0 = 0 := rfl
    simp only [Function.comp, h0, Nat.not_lt_zero, if_false, ite_self, List.length_cons, List.length_nil, Nat.zero_add, Nat.mod_one, List.getD_cons_zero]
    rfl
  rw [hrow, Int.toNat_natCast]
  have hlef := Heap.le_new (c := u16l (frL T 0 0)) hbf
  have hf0 : (H.put bf (u16l (frL T 0 0))) bf = some (u16l (frL T 0 0)) := Heap.put_same
  generalize H.put bf (u16l (frL T 0 0)) = Hf at *
  have hcr : cellsOf? (.ref 1 bf 0 T.length (some T.length)) = some [.ref 1 bf 0 T.length (some T.length)] := rfl
  refine alloc_store (cs := [.ref 1 bf 0 T.length (some T.length)]) hcr rfl rfl rfl fun b8 hb8 => ?_
  have hle8 := Heap.le_new (c := [.ref 1 bf 0 T.length (some T.length)]) hb8
  have h8 : (Hf.put b8 [.ref 1 bf 0 T.length (some T.length)]) b8 = some [.ref 1 bf 0 T.length (some T.length)] := Heap.put_same
  have hf8 := hle8 _ _ hf0
  have hb8H := none_of_le hlef hb8
  have hne : bf ≠ b8 := by rintro rfl; rw [hf0] at hb8; cases hb8
  have hleH := Heap.le_trans hlef hle8
  generalize Hf.put b8 [.ref 1 bf 0 T.length (some T.length)] = H8 at *
  have hFr : ∀ {H'} i m, H' b8 = some [.ref 1 bf 0 T.length (some T.length)] → H' bf = some (u16l (frL T i m)) → FrH H' b8 bf (frL T i m) := fun i m h1 h2 => ⟨by rw [frL_len]; exact h1, h2⟩
  try simp only [letO_some, hvl, true_and]
  refine ⟨fun L H' => ∃ i : Nat, eqt L [.int .i64 i] ∧ i ≤ T.length ∧ H.le H' ∧ H' b8 = some [.ref 1 bf 0 T.length (some T.length)] ∧ H' bf = some (u16l (frL T i 0)), fun L _ => (T.length - iv L 0).toNat, ⟨0, rfl, by omega, hleH, h8, hf8⟩, ?_⟩
  rintro L H5 ⟨i, rfl, hi, hle5, g8, gf⟩
  try simp only [letO_some, cellsOf?_agg, cellsOf?_int, cellsOf?_bool, cellsOf?_imm, cellsOf?_ref, cellsOf?_nils, faddr_iptr, faddr_ptr, List.drop_succ_cons, List.drop_zero, List.take_succ_cons, List.take_zero, load1_iptr, loadN_iptr, List.length_cons, List.length_nil, Nat.le_refl, if_true, List.getElem?_cons_zero, List.getElem?_cons_succ, List.getD_cons_zero, List.getD_cons_succ, extrF_tup, binF_add, binF_sub, binF_mul, binF_eql, binF_neq, binF_lss, binF_leq, binF_gtr, binF_geq, true_and]
  refine condA_t (fun hlt => ?_) (fun hge => ?_)
  · have a1 : i < T.length := by omega
    refine (hvr H5).getN (Heap.le_refl _) (by omega) (by omega) ?_
    rw [Int.toNat_natCast, u8l_get a1]
    have hti : T[i] = T.getD i 0 := by rw [List.getD_eq_getElem?_getD, List.getElem?_eq_getElem a1]; rfl
    rw [hti]
    have ha128 := hTg i
    refine alloc_store (cs := [.int .u8 (T.getD i 0 : Nat)]) rfl rfl rfl rfl fun b10 hb10 => ?_
    have hle10 := Heap.le_new (c := [.int .u8 (T.getD i 0 : Nat)]) hb10
    have h10 : (H5.put b10 [.int .u8 (T.getD i 0 : Nat)]) b10 = some [.int .u8 (T.getD i 0 : Nat)] := Heap.put_same
    have g810 := hle10 _ _ g8
    have gf10 := hle10 _ _ gf
    have hle510 := Heap.le_trans hle5 hle10
    have nf10 : bf ≠ b10 := by rintro rfl; rw [gf] at hb10; cases hb10
    generalize H5.put b10 [.int .u8 (T.getD i 0 : Nat)] = H10 at *
    try simp only [letO_some, hvl, true_and]
    refine ⟨fun L H' => ∃ j : Nat, eqt L [.int .i64 j] ∧ j ≤ T.length ∧ H.le H' ∧ H' b8 = some [.ref 1 bf 0 T.length (some T.length)] ∧ H' bf = some (u16l (frL T i j)) ∧ H' b10 = some [.int .u8 (T.getD i 0 : Nat)], fun L _ => (T.length - iv L 0).toNat, ⟨0, rfl, by omega, hle510, g810, gf10, h10⟩, ?_⟩
    rintro L H11 ⟨j, rfl, hj, hle11, k8, kf, k10⟩
    try simp only [letO_some, cellsOf?_agg, cellsOf?_int, cellsOf?_bool, cellsOf?_imm, cellsOf?_ref, cellsOf?_nils, faddr_iptr, faddr_ptr, List.drop_succ_cons, List.drop_zero, List.take_succ_cons, List.take_zero, load1_iptr, loadN_iptr, List.length_cons, List.length_nil, Nat.le_refl, if_true, List.getElem?_cons_zero, List.getElem?_cons_succ, List.getD_cons_zero, List.getD_cons_succ, extrF_tup, binF_add, binF_sub, binF_mul, binF_eql, binF_neq, binF_lss, binF_leq, binF_gtr, binF_geq, true_and]
    refine condA_t (fun hlt2 => ?_) (fun hge2 => ?_)
    · have j1 : j < T.length := by omega
      refine ⟨fun L H' => eqt L [] ∧ H.le H' ∧ H' b8 = some [.ref 1 bf 0 T.length (some T.length)] ∧ H' bf = some (u16l (frL T i (j + 1))) ∧ H' b10 = some [.int .u8 (T.getD i 0 : Nat)], ?_, ?_⟩
      · refine (hvr H11).getN (Heap.le_refl _) (by omega) (by omega) ?_
        rw [Int.toNat_natCast, u8l_get j1]
        have htj : T[j] = T.getD j 0 := by rw [List.getD_eq_getElem?_getD, List.getElem?_eq_getElem j1]; rfl
        rw [htj]
        have hb128 := hTg j
        refine alloc_store (cs := [.int .u8 (T.getD j 0 : Nat)]) rfl rfl rfl rfl fun b12 hb12 => ?_
        have hle12 := Heap.le_new (c := [.int .u8 (T.getD j 0 : Nat)]) hb12
        have h12 : (H11.put b12 [.int .u8 (T.getD j 0 : Nat)]) b12 = some [.int .u8 (T.getD j 0 : Nat)] := Heap.put_same
        have m8 := hle12 _ _ k8
        have mf := hle12 _ _ kf
        have m10 := hle12 _ _ k10
        have hle1112 := Heap.le_trans hle11 hle12
        generalize H11.put b12 [.int .u8 (T.getD j 0 : Nat)] = H12 at *
        have l10 : loadN 1 (.ptr b10 0) H12 = some (.agg [.int .u8 (T.getD i 0 : Nat)]) := loadN_at (cells := [.int .u8 (T.getD i 0 : Nat)]) m10
        have l12 : loadN 1 (.ptr b12 0) H12 = some (.agg [.int .u8 (T.getD j 0 : Nat)]) := loadN_at (cells := [.int .u8 (T.getD j 0 : Nat)]) h12
        try simp only [letO_some, l10, l12]
        refine d17 ha128 hb128 ?_
        have hsu := frP_succ T i j
        have hpl := frP_lt T i j (by omega)
        cases hag : agrB (T.getD i 0) (T.getD j 0)
        · simp only [condA_ff]
          rw [hag, if_neg (by simp)] at hsu
          have : frL T i (j + 1) = frL T i j := by unfold frL; rw [hsu]
          rw [this]
          exact ⟨rfl, hle1112, m8, mf, m10⟩
        · rw [hag, if_pos rfl] at hsu
          have l8 : load1 (.ptr b8 0) H12 = some (.ref 1 bf 0 T.length (some T.length)) := load1_at m8 rfl
          have fz : faddr 0 (.ptr bf i) = some (.ptr bf i) := rfl
          have lf : load1 (.ptr bf i) H12 = some (.int .u16 (frP T i j : Nat)) := load1_at mf (by rw [u16l_get (by rw [frL_len]; exact a1), frL_get a1])
          have hp2 : 2 ^ j < 128 := Nat.pow_lt_pow_right (n := 7) (by omega) (by omega)
          simp only [condA_tt, letO_some, l8, idx_fr a1, fz, lf, u16_shl (show j < 8 by omega), u16_or hpl hp2, true_and]
          refine storeA_of (cs := [.int .u16 ((frP T i j ||| 2 ^ j : Nat) : Int)]) mf rfl rfl rfl (by rw [u16l_len, frL_len]; simp; omega) ?_
          rw [splice_set (by rw [u16l_len, frL_len]; exact a1), frL_set a1 hsu.symm]
          exact ⟨rfl, Heap.le_put hle1112 hbf, by rw [Heap.put_ne (Ne.symm hne)]; exact m8, Heap.put_same, by rw [Heap.put_ne (Ne.symm nf10)]; exact m10⟩
      · rintro L H12 ⟨rfl, hle12, m8, mf, m10⟩
        try simp only [letO_some, cellsOf?_agg, cellsOf?_int, cellsOf?_bool, cellsOf?_imm, cellsOf?_ref, cellsOf?_nils, faddr_iptr, faddr_ptr, List.drop_succ_cons, List.drop_zero, List.take_succ_cons, List.take_zero, load1_iptr, loadN_iptr, List.length_cons, List.length_nil, Nat.le_refl, if_true, List.getElem?_cons_zero, List.getElem?_cons_succ, List.getD_cons_zero, List.getD_cons_succ, extrF_tup, binF_add, binF_sub, binF_mul, binF_eql, binF_neq, binF_lss, binF_leq, binF_gtr, binF_geq, true_and]
        rw [wrap_i64 (by omega) (by omega)]
        exact ⟨⟨j + 1, rfl, by omega, hle12, m8, mf, m10⟩, by simp [iv]; omega⟩
    · have hje : j = T.length := by omega
      subst hje
      rw [frL_next] at kf
      try simp only [letO_some, binF_add]
      rw [wrap_i64 (by omega) (by omega)]
      exact ⟨⟨i + 1, rfl, by omega, hle11, k8, kf⟩, by simp [iv]; omega⟩
  have hie : i = T.length := by omega
  subst hie
  rw [frL_all] at gf
  have hfl : (frA T).length = T.length := by simp [frA]
  have hF : FrH H5 b8 bf (frA T) := ⟨by rw [hfl]; exact g8, gf⟩
  have hf128 : ∀ x ∈ frA T, x < 128 := fun x hx => by
    obtain ⟨a, _, rfl⟩ := List.mem_map.1 hx
    exact frP_lt T a _ hl7
  try simp only [hvl, letO_some, i64_shl (show T.length < 8 by omega), true_and]
  refine ⟨fun L H' => ∃ (s : Nat) (X : AV), eqt L [X, .int .i64 (s : Int)] ∧ s ≤ 2 ^ T.length ∧ H5.le H' ∧ (((List.range s).foldl (moF (frA T)) []) = [] ∧ X = .nils ∨ X = sl (up ((List.range s).foldl (moF (frA T)) []))),
    fun L _ => (2 ^ T.length - iv L 1).toNat, ⟨0, .nils, rfl, Nat.zero_le _, Heap.le_refl _, .inl ⟨rfl, rfl⟩⟩, ?_⟩
  rintro L H6 ⟨s, X, rfl, hs, hle6, hX⟩
  have p2 : ((2 ^ T.length : Nat) : Int) = (2 : Int) ^ T.length := by simp
  have hml := mo_len (frA T) (List.range s)
  try simp only [letO_some, cellsOf?_agg, cellsOf?_int, cellsOf?_bool, cellsOf?_imm, cellsOf?_ref, cellsOf?_nils, faddr_iptr, faddr_ptr, List.drop_succ_cons, List.drop_zero, List.take_succ_cons, List.take_zero, load1_iptr, loadN_iptr, List.length_cons, List.length_nil, Nat.le_refl, if_true, List.getElem?_cons_zero, List.getElem?_cons_succ, List.getD_cons_zero, List.getD_cons_succ, extrF_tup, binF_add, binF_sub, binF_mul, binF_eql, binF_neq, binF_lss, binF_leq, binF_gtr, binF_geq, true_and]
  refine condA_t (fun hlt => ?_) (fun hge2 => ?_)
  · have hs2 : s < 2 ^ T.length := by omega
    have hs128 : s < 128 := by omega
    have hr : (List.range (s + 1)).foldl (moF (frA T)) [] = moF (frA T) ((List.range s).foldl (moF (frA T)) []) s := by rw [List.range_succ, List.foldl_append]; rfl
    refine ⟨fun L H' => ∃ X', eqt L [X'] ∧ H5.le H' ∧ (((List.range (s + 1)).foldl (moF (frA T)) []) = [] ∧ X' = .nils ∨ X' = sl (up ((List.range (s + 1)).foldl (moF (frA T)) []))), ?_, ?_⟩
    · rw [hr]
      generalize (List.range s).foldl (moF (frA T)) [] = best at *
      try simp only [letO_some, conv354 (show s < 65536 by omega), b56]
      refine alloc_store (cs := [.int .u16 (s : Int)]) rfl rfl rfl rfl fun b15 hb15 => ?_
      have hle15 := Heap.le_trans hle6 (Heap.le_new (c := [.int .u16 (s : Int)]) hb15)
      have h15 : (H6.put b15 [.int .u16 (s : Int)]) b15 = some [.int .u16 (s : Int)] := Heap.put_same
      generalize H6.put b15 [.int .u16 (s : Int)] = H15 at *
      have l15 : loadN 1 (.ptr b15 0) H15 = some (.agg [.int .u16 (s : Int)]) := loadN_at (cells := [.int .u16 (s : Int)]) h15
      try simp only [letO_some, l15]
      refine d18 hs128 ?_
      have hll : lenA (sl (up (lsN s))) = some (.int .i64 ((lsN s).length : Int)) := by simp [sl, lenA]
      have hXl : lenA X = some (.int .i64 (best.length : Int)) := by
        rcases hX with ⟨h1, h2⟩ | h1
        · subst h1; subst h2; rfl
        · subst h1; simp [sl, lenA]
      have hXr : Reads H15 X (up best) := by
        rcases hX with ⟨h1, h2⟩ | h1
        · subst h1; subst h2; rfl
        · subst h1; exact Reads.sl _ _
      have hlls := ls_len s
      rw [moF]
      try simp only [letO_some, hll, hXl, binF_lss]
      have same : (best = [] ∧ X = .nils ∨ X = sl (up best)) := hX
      by_cases h1 : (lsN s).length < best.length
      · have e1 : decide (((lsN s).length : Int) < (best.length : Int)) = true := decide_eq_true (by omega)
        simp only [e1, gval_bool, Int.reduceBNe, Int.reduceBEq, pickF_true, pickF_false, reduceIte, Bool.true_eq_false, Bool.false_eq_true, if_false, condA_tt, condA_ff, condG_tt, condG_ff, condG_tt', condG_ff', condG_undef, gval_undef, letO_some]
        refine exU ?_
        try simp only [gval_bool, Int.reduceBNe, Int.reduceBEq, pickF_true, pickF_false, reduceIte, Bool.true_eq_false, Bool.false_eq_true, if_false, condA_tt, condA_ff, condG_tt, condG_ff, condG_tt', condG_ff', condG_undef, gval_undef, letO_some]
        rw [if_pos (.inl h1)]
        exact ⟨X, rfl, hle15, hX⟩
      · have e1 : decide (((lsN s).length : Int) < (best.length : Int)) = false := decide_eq_false (by omega)
        simp only [e1, gval_bool, Int.reduceBNe, Int.reduceBEq, pickF_true, pickF_false, reduceIte, Bool.true_eq_false, Bool.false_eq_true, if_false, condA_tt, condA_ff, condG_tt, condG_ff, condG_tt', condG_ff', condG_undef, gval_undef, letO_some]
        refine exJ (d19 (hF.le hle15) h15 hs128 (fun i hi => by rw [hfl]; exact bit_lt hs2 (ls_mem.1 hi).2) hf128 ?_)
        cases hbad : badB (frA T) s
        · try simp only [gval_bool, Int.reduceBNe, Int.reduceBEq, pickF_true, pickF_false, reduceIte, Bool.true_eq_false, Bool.false_eq_true, if_false, condA_tt, condA_ff, condG_tt, condG_ff, condG_tt', condG_ff', condG_undef, gval_undef, letO_some, hll, hXl, binF_gtr]
          rw [if_neg (show ¬ ((lsN s).length < best.length ∨ False) from fun h => h.elim h1 id)]
          by_cases h2 : best.length < (lsN s).length
          · have e2 : decide (((lsN s).length : Int) > (best.length : Int)) = true := decide_eq_true (by omega)
            simp only [e2, gval_bool, Int.reduceBNe, Int.reduceBEq, pickF_true, pickF_false, reduceIte, Bool.true_eq_false, Bool.false_eq_true, if_false, condA_tt, condA_ff, condG_tt, condG_ff, condG_tt', condG_ff', condG_undef, gval_undef, letO_some]
            refine exU ?_
            try simp only [gval_bool, Int.reduceBNe, Int.reduceBEq, pickF_true, pickF_false, reduceIte, Bool.true_eq_false, Bool.false_eq_true, if_false, condA_tt, condA_ff, condG_tt, condG_ff, condG_tt', condG_ff', condG_undef, gval_undef, letO_some]
            rw [if_pos (.inl h2)]
            exact ⟨_, rfl, hle15, .inr rfl⟩
          · have e2 : decide (((lsN s).length : Int) > (best.length : Int)) = false := decide_eq_false (by omega)
            simp only [e2, gval_bool, Int.reduceBNe, Int.reduceBEq, pickF_true, pickF_false, reduceIte, Bool.true_eq_false, Bool.false_eq_true, if_false, condA_tt, condA_ff, condG_tt, condG_ff, condG_tt', condG_ff', condG_undef, gval_undef, letO_some]
            refine exJ (c35 (Reads.sl _ _) hXr (by simp; omega) (by simp; omega) ?_)
            try simp only [gval_bool, Int.reduceBNe, Int.reduceBEq, pickF_true, pickF_false, reduceIte, Bool.true_eq_false, Bool.false_eq_true, if_false, condA_tt, condA_ff, condG_tt, condG_ff, condG_tt', condG_ff', condG_undef, gval_undef, letO_some, binF_lss]
            by_cases hc : cmpL (up (lsN s)) (up best) < 0
            · have e3 : decide (cmpL (up (lsN s)) (up best) < 0) = true := decide_eq_true hc
              simp only [e3, gval_bool, Int.reduceBNe, Int.reduceBEq, pickF_true, pickF_false, reduceIte, Bool.true_eq_false, Bool.false_eq_true, if_false, condA_tt, condA_ff, condG_tt, condG_ff, condG_tt', condG_ff', condG_undef, gval_undef, letO_some]
              rw [if_pos (.inr hc)]
              exact ⟨_, rfl, hle15, .inr rfl⟩
            · have e3 : decide (cmpL (up (lsN s)) (up best) < 0) = false := decide_eq_false hc
              simp only [e3, gval_bool, Int.reduceBNe, Int.reduceBEq, pickF_true, pickF_false, reduceIte, Bool.true_eq_false, Bool.false_eq_true, if_false, condA_tt, condA_ff, condG_tt, condG_ff, condG_tt', condG_ff', condG_undef, gval_undef, letO_some]
              rw [if_neg (fun h => h.elim h2 hc)]
              exact ⟨X, rfl, hle15, hX⟩
        · try simp only [gval_bool, Int.reduceBNe, Int.reduceBEq, pickF_true, pickF_false, reduceIte, Bool.true_eq_false, Bool.false_eq_true, if_false, condA_tt, condA_ff, condG_tt, condG_ff, condG_tt', condG_ff', condG_undef, gval_undef, letO_some]
          rw [if_pos (.inr trivial)]
          exact ⟨X, rfl, hle15, hX⟩
    · rintro L H7 ⟨X', rfl, hle7, hX'⟩
      try simp only [letO_some, cellsOf?_agg, cellsOf?_int, cellsOf?_bool, cellsOf?_imm, cellsOf?_ref, cellsOf?_nils, faddr_iptr, faddr_ptr, List.drop_succ_cons, List.drop_zero, List.take_succ_cons, List.take_zero, load1_iptr, loadN_iptr, List.length_cons, List.length_nil, Nat.le_refl, if_true, List.getElem?_cons_zero, List.getElem?_cons_succ, List.getD_cons_zero, List.getD_cons_succ, extrF_tup, binF_add, binF_sub, binF_mul, binF_eql, binF_neq, binF_lss, binF_leq, binF_gtr, binF_geq, true_and]
      rw [wrap_i64 (by omega) (by omega)]
      exact ⟨⟨s + 1, X', rfl, by omega, hle7, hX'⟩, by simp [iv]; omega⟩
  · have hse : s = 2 ^ T.length := by omega
    subst hse
    have hd : (List.range (2 ^ T.length)).foldl (moF (frA T)) [] = moS T := rfl
    rw [hd] at hX
    refine endK_all (Heap.le_trans hle5 hle6) 2 ?_
    have : conv H H6 2 (.tup [X, .int .i64 0]) = .tup [sl (up (moS T)), .int .i64 0] := by
      rcases hX with ⟨h1, h2⟩ | h1
      · rw [h1, h2]; rfl
      · rw [h1, conv]
        simp only [List.map, conv_sl, conv_int]
    rw [this]
    exact hk
end Go.Proofs.YtmmfelpgcdlgfaaGreatDoor

namespace Go.Proofs.YtmmfelpgcdlgfaaGreatDoor
open Go.Av
set_option linter.unusedVariables false
set_option linter.unusedSimpArgs false
set_option maxRecDepth 8000

/- The choices come in order. -/
theorem cmp_neg : ∀ a b : List Int, cmpL b a = - cmpL a b
  | [], [] => rfl
  | [], _ :: _ => rfl
  | _ :: _, [] => rfl
  | x :: a, y :: b => by
    rw [cmpL, cmpL]
    by_cases h1 : x < y
    · have h2 : ¬ y < x := by omega
      simp only [h1, h2, if_true, if_false]; rfl
    · by_cases h2 : y < x
      · simp only [h1, h2, if_true, if_false]
      · simp only [h1, h2, if_false]; exact cmp_neg a b
theorem cmp_eq : ∀ a b : List Int, cmpL a b = 0 → a = b
  | [], [], _ => rfl
  | [], _ :: _, h => by simp [cmpL] at h
  | _ :: _, [], h => by simp [cmpL] at h
  | x :: a, y :: b, h => by
    rw [cmpL] at h
    by_cases h1 : x < y
    · rw [if_pos h1] at h; cases h
    · rw [if_neg h1] at h
      by_cases h2 : y < x
      · rw [if_pos h2] at h; cases h
      · rw [if_neg h2] at h
        rw [cmp_eq a b h, show x = y by omega]
theorem cmp_trans : ∀ a b c : List Int, cmpL a b ≤ 0 → cmpL b c ≤ 0 → cmpL a c ≤ 0
  | [], _, [], _, _ => by simp [cmpL]
  | [], _, _ :: _, _, _ => by simp [cmpL]
  | _ :: _, [], _, h, _ => by simp [cmpL] at h
  | x :: a, y :: b, [], _, h => by simp [cmpL] at h
  | x :: a, y :: b, z :: c, h1, h2 => by
    rw [cmpL] at h1 h2 ⊢
    by_cases p1 : x < y
    · by_cases p2 : z < y
      · rw [if_neg (by omega), if_pos p2] at h2; omega
      · rw [if_pos (show x < z by omega)]; omega
    · rw [if_neg p1] at h1
      by_cases p3 : y < x
      · rw [if_pos p3] at h1; omega
      · rw [if_neg p3] at h1
        have hxy : x = y := by omega
        subst hxy
        by_cases p4 : x < z
        · rw [if_pos p4]; omega
        · rw [if_neg p4] at h2 ⊢
          by_cases p5 : z < x
          · rw [if_pos p5] at h2; omega
          · rw [if_neg p5] at h2 ⊢
            exact cmp_trans a b c h1 h2
def lek (a b : Nat) : Prop := cmpL (up (lsN a)) (up (lsN b)) ≤ 0
theorem lek_trans {a b c : Nat} (h1 : lek a b) (h2 : lek b c) : lek a c := cmp_trans _ _ _ h1 h2
/-- In order, among the first. -/
def Srt (Ks : List Nat) (m : Nat) : Prop := ∀ a b, a < b → b < m → lek (Ks.getD a 0) (Ks.getD b 0)
def SrtB (Ks : List Nat) (j i : Nat) : Prop := ∀ a b, a < b → b ≤ i → b ≠ j → lek (Ks.getD a 0) (Ks.getD b 0)
theorem srt_stop {Ks : List Nat} {i j A B : Nat} (hj : 0 < j) (hA : Ks.getD j 0 = A) (hB : Ks.getD (j - 1) 0 = B) (hc : ¬ cmpL (up (lsN A)) (up (lsN B)) < 0) (h : SrtB Ks j i) : Srt Ks (i + 1) := by
  intro a b hab hb
  by_cases he : b = j
  · subst he
    have hBA : lek (Ks.getD (b - 1) 0) (Ks.getD b 0) := by
      rw [hA, hB]
      have := cmp_neg (up (lsN A)) (up (lsN B))
      unfold lek; omega
    by_cases h2 : a = b - 1
    · subst h2; exact hBA
    · exact lek_trans (h a (b - 1) (by omega) (by omega) (by omega)) hBA
  · exact h a b hab (by omega) he
theorem srt_swap {Ks : List Nat} {i j A B : Nat} (hj : 0 < j) (hji : j ≤ i) (hl : j < Ks.length) (hA : Ks.getD j 0 = A) (hB : Ks.getD (j - 1) 0 = B) (hc : cmpL (up (lsN A)) (up (lsN B)) < 0) (h : SrtB Ks j i) :
    SrtB ((Ks.set j B).set (j - 1) A) (j - 1) i := by
  have hg : ∀ x, ((Ks.set j B).set (j - 1) A).getD x 0 = if x = j - 1 then A else if x = j then B else Ks.getD x 0 := by
    intro x
    rw [List.getD_eq_getElem?_getD, List.getElem?_set]
    by_cases h1 : x = j - 1
    · subst h1
      rw [if_pos rfl, if_pos (by rw [List.length_set]; omega), if_pos rfl]; rfl
    · rw [if_neg (fun e => h1 e.symm), if_neg h1, List.getElem?_set]
      by_cases h2 : x = j
      · subst h2
        rw [if_pos rfl, if_pos hl, if_pos rfl]; rfl
      · rw [if_neg (fun e => h2 e.symm), if_neg h2, List.getD_eq_getElem?_getD]
  intro a b hab hb hbj
  rw [hg, hg]
  rw [if_neg hbj]
  by_cases hbe : b = j
  · subst hbe
    rw [if_pos rfl]
    by_cases ha : a = b - 1
    · rw [if_pos ha]; unfold lek; omega
    · rw [if_neg ha, if_neg (by omega), ← hB]
      exact h a (b - 1) (by omega) (by omega) (by omega)
  · rw [if_neg hbe]
    by_cases ha : a = j - 1
    · rw [if_pos ha, ← hA]
      exact h j b (by omega) hb hbe
    · rw [if_neg ha]
      by_cases ha2 : a = j
      · rw [if_pos ha2, ← hB]
        exact h (j - 1) b (by omega) hb hbe
      · rw [if_neg ha2]
        exact h a b hab hb hbe
/-- insertionSort -/
theorem c83s {H0 H : Heap} {X : AV} {Ks : List Nat} {K : AV → Heap → Prop} (hg : Grow 1 H0 H X Ks.length (Ks.map kl)) (ho : isOwn X ∨ Ks = []) (hn : Ks.length ≤ 12)
    (hk : ∀ (Ks' : List Nat) (H' : Heap), Ks'.Perm Ks → Srt Ks' Ks.length → Grow 1 H0 H' X Ks.length (Ks'.map kl) → K (.tup []) H') : ACalls Tryz.prog 57 [X, .int .i64 0, .int .i64 (Ks.length : Int), .fn 22 []] H K := by
  apply W57_ok
  unfold W57
  have ew : IntKind.i64.wrap ((0 : Int) + 1) = ((1 : Nat) : Int) := by decide
  simp only [letO_some, cellsOf?_agg, cellsOf?_int, cellsOf?_bool, cellsOf?_imm, cellsOf?_ref, cellsOf?_nils, faddr_iptr, faddr_ptr, List.drop_succ_cons, List.drop_zero, List.take_succ_cons, List.take_zero, load1_iptr, loadN_iptr, List.length_cons, List.length_nil, Nat.le_refl, if_true, List.getElem?_cons_zero, List.getElem?_cons_succ, List.getD_cons_zero, List.getD_cons_succ, extrF_tup, binF_add, binF_sub, binF_mul, binF_eql, binF_neq, binF_lss, binF_leq, binF_gtr, binF_geq, true_and, ew]
  refine ⟨fun L H' => ∃ (i : Nat) (Ks' : List Nat), eqt L [.int .i64 i] ∧ 1 ≤ i ∧ Ks'.Perm Ks ∧ Srt Ks' i ∧ Grow 1 H0 H' X Ks.length (Ks'.map kl), fun L _ => (Ks.length - iv L 0).toNat, ⟨1, Ks, rfl, by omega, List.Perm.refl _, fun a b h1 h2 => by omega, hg⟩, ?_⟩
  rintro L H1 ⟨i, Ks1, rfl, hi, hp1, hs1, hg1⟩
  try simp only [letO_some, cellsOf?_agg, cellsOf?_int, cellsOf?_bool, cellsOf?_imm, cellsOf?_ref, cellsOf?_nils, faddr_iptr, faddr_ptr, List.drop_succ_cons, List.drop_zero, List.take_succ_cons, List.take_zero, load1_iptr, loadN_iptr, List.length_cons, List.length_nil, Nat.le_refl, if_true, List.getElem?_cons_zero, List.getElem?_cons_succ, List.getD_cons_zero, List.getD_cons_succ, extrF_tup, binF_add, binF_sub, binF_mul, binF_eql, binF_neq, binF_lss, binF_leq, binF_gtr, binF_geq, true_and]
  refine condA_t (fun hlt => ?_) (fun hge => ?_)
  · have hin : i < Ks.length := by omega
    have hown : isOwn X := by rcases ho with h | h; exact h; rw [h] at hin; simp at hin
    refine ⟨fun L H' => ∃ (j : Nat) (Ks' : List Nat), eqt L [.int .i64 j] ∧ j ≤ i ∧ Ks'.Perm Ks ∧ SrtB Ks' j i ∧ Grow 1 H0 H' X Ks.length (Ks'.map kl), fun L _ => (iv L 0).toNat, ⟨i, Ks1, rfl, by omega, hp1, fun a b h1 h2 h3 => hs1 a b h1 (by omega), hg1⟩, ?_⟩
    rintro L H2 ⟨j, Ks2, rfl, hj, hp2, hs2, hg2⟩
    have hl2 : Ks2.length = Ks.length := hp2.length_eq
    try simp only [letO_some, cellsOf?_agg, cellsOf?_int, cellsOf?_bool, cellsOf?_imm, cellsOf?_ref, cellsOf?_nils, faddr_iptr, faddr_ptr, List.drop_succ_cons, List.drop_zero, List.take_succ_cons, List.take_zero, load1_iptr, loadN_iptr, List.length_cons, List.length_nil, Nat.le_refl, if_true, List.getElem?_cons_zero, List.getElem?_cons_succ, List.getD_cons_zero, List.getD_cons_succ, extrF_tup, binF_add, binF_sub, binF_mul, binF_eql, binF_neq, binF_lss, binF_leq, binF_gtr, binF_geq, true_and]
    by_cases hj0 : j = 0
    · subst hj0
      have e : decide (((0 : Nat) : Int) > 0) = false := by decide
      have e' : decide (0 < ((0 : Nat) : Int)) = false := by decide
      simp only [e, e', gval_bool, Int.reduceBNe, Int.reduceBEq, pickF_true, pickF_false, reduceIte, Bool.true_eq_false, Bool.false_eq_true, if_false, condA_tt, condA_ff, condG_tt, condG_ff, condG_tt', condG_ff', condG_undef, gval_undef]
      refine exU ?_
      simp only [gval_bool, Int.reduceBNe, Int.reduceBEq, pickF_true, pickF_false, reduceIte, Bool.true_eq_false, Bool.false_eq_true, if_false, condA_tt, condA_ff, condG_tt, condG_ff, condG_tt', condG_ff', condG_undef, gval_undef, letO_some]
      rw [wrap_i64 (by omega) (by omega)]
      exact ⟨⟨i + 1, Ks2, rfl, by omega, hp2, fun a b h1 h2 => hs2 a b h1 (by omega) (by omega), hg2⟩, by simp [iv]; omega⟩
    · have e : decide ((j : Int) > 0) = true := decide_eq_true (by omega)
      have e' : decide (0 < (j : Int)) = true := decide_eq_true (by omega)
      have hjn : j < Ks2.length := by omega
      obtain ⟨b1, hb1, x1, l1, s1⟩ := growC_at hg2 hown (show j < Ks.length by omega)
      obtain ⟨b0, hb0, x0, l0, s0⟩ := growC_at hg2 hown (show j - 1 < Ks.length by omega)
      have ej : (((j - 1 : Nat)) : Int) = (j : Int) - 1 := by omega
      have ew2 : IntKind.i64.wrap ((j : Int) - 1) = ((j - 1 : Nat) : Int) := by rw [wrap_i64 (by omega) (by omega)]; omega
      have g1 : Ks2[j]? = some Ks2[j] := List.getElem?_eq_getElem _
      have g0 : Ks2[j - 1]? = some (Ks2[j - 1]'(by omega)) := List.getElem?_eq_getElem _
      have l1' := l1 (kl Ks2[j]) (by rw [List.getElem?_map, g1]; rfl)
      have l0' := l0 (kl (Ks2[j - 1]'(by omega))) (by rw [List.getElem?_map, g0]; rfl)
      have hdA : Ks2.getD j 0 = Ks2[j] := by rw [List.getD_eq_getElem?_getD, g1]; rfl
      have hdB : Ks2.getD (j - 1) 0 = Ks2[j - 1]'(by omega) := by rw [List.getD_eq_getElem?_getD, g0]; rfl
      generalize Ks2[j] = A at *
      generalize Ks2[j - 1]'(by omega) = B at *
      simp only [e, e', gval_bool, Int.reduceBNe, Int.reduceBEq, pickF_true, pickF_false, reduceIte, Bool.true_eq_false, Bool.false_eq_true, if_false, condA_tt, condA_ff, condG_tt, condG_ff, condG_tt', condG_ff', condG_undef, gval_undef, letO_some, binF_sub, ew2, x1, x0, l1', l0', callA, List.append_nil]
      refine exJ ?_
      have hle : ∀ s, (up (lsN s)).length < 2 ^ 62 := fun s => by have := ls_len s; simp; omega
      refine c35 (Reads.sl _ _) (Reads.sl _ _) (hle _) (hle _) ?_
      try simp only [letO_some, cellsOf?_agg, cellsOf?_int, cellsOf?_bool, cellsOf?_imm, cellsOf?_ref, cellsOf?_nils, faddr_iptr, faddr_ptr, List.drop_succ_cons, List.drop_zero, List.take_succ_cons, List.take_zero, load1_iptr, loadN_iptr, List.length_cons, List.length_nil, Nat.le_refl, if_true, List.getElem?_cons_zero, List.getElem?_cons_succ, List.getD_cons_zero, List.getD_cons_succ, extrF_tup, binF_add, binF_sub, binF_mul, binF_eql, binF_neq, binF_lss, binF_leq, binF_gtr, binF_geq, true_and, gval_bool, Int.reduceBNe, Int.reduceBEq, pickF_true, pickF_false, reduceIte, Bool.true_eq_false, Bool.false_eq_true, if_false, condA_tt, condA_ff, condG_tt, condG_ff, condG_tt', condG_ff', condG_undef, gval_undef]
      refine condA_t (fun hc => ?_) (fun hc => ?_)
      · have hk1 : cellsOf? (kl B) = some [kl B] := rfl
        have hk2 : cellsOf? (kl A) = some [kl A] := rfl
        simp only [x1, x0, l0', l1', letO_some]
        refine s1 _ _ hk1 rfl fun H3 hg3 => ?_
        obtain ⟨b2, hb2, x2, l2, s2⟩ := growC_at hg3 hown (show j - 1 < Ks.length by omega)
        have : AV.ptr b2 (j - 1) = .ptr b0 (j - 1) := by
          have := x2.symm.trans x0
          exact Option.some.inj this
        rw [← this]
        refine s2 _ _ hk2 rfl fun H4 hg4 => ?_
        refine ⟨⟨j - 1, (Ks2.set j B).set (j - 1) A, rfl, by omega, (perm_swap (by omega) g0 g1).trans hp2, srt_swap (by omega) (by omega) (by omega) hdA hdB hc hs2, ?_⟩, by simp [iv]; omega⟩
        rw [List.map_set, List.map_set]; exact hg4
      · rw [wrap_i64 (by omega) (by omega)]
        exact ⟨⟨i + 1, Ks2, rfl, by omega, hp2, srt_stop (by omega) hdA hdB hc hs2, hg2⟩, by simp [iv]; omega⟩
  · exact endK_ret (hk _ _ hp1 (fun a b h1 h2 => hs1 a b h1 (by omega)) hg1)
/-- slices.SortFunc of lists, at most 12 -/
theorem c34s {H0 H : Heap} {X : AV} {Ks : List Nat} {K : AV → Heap → Prop} (hg : Grow 1 H0 H X Ks.length (Ks.map kl)) (ho : isOwn X ∨ Ks = []) (hn : Ks.length ≤ 12)
    (hk : ∀ (Ks' : List Nat) (H' : Heap), Ks'.Perm Ks → Srt Ks' Ks.length → Grow 1 H0 H' X Ks.length (Ks'.map kl) → K (.tup []) H') : ACalls Tryz.prog 28 [X, .fn 22 []] H K := by
  apply W28_ok
  unfold W28
  have hlen := hg.len
  have hcv : convF Tryz.prog 3 65 (.int .i64 (Ks.length : Int)) = some (.int .u64 (Ks.length : Int)) := by
    have h1 : (Tryz.prog.underlying 3).isSome = true := by kernel_rfl
    have h2 : Tryz.prog.underlying 65 = some (.int .u64) := by kernel_rfl
    obtain ⟨d, h1⟩ := Option.isSome_iff_exists.1 h1
    simp only [convF, h1, h2]
    rw [wrap_u64 (by omega) (by omega)]
  simp only [letO_some, cellsOf?_agg, cellsOf?_int, cellsOf?_bool, cellsOf?_imm, cellsOf?_ref, cellsOf?_nils, faddr_iptr, faddr_ptr, List.drop_succ_cons, List.drop_zero, List.take_succ_cons, List.take_zero, load1_iptr, loadN_iptr, List.length_cons, List.length_nil, Nat.le_refl, if_true, List.getElem?_cons_zero, List.getElem?_cons_succ, List.getD_cons_zero, List.getD_cons_succ, extrF_tup, binF_add, binF_sub, binF_mul, binF_eql, binF_neq, binF_lss, binF_leq, binF_gtr, binF_geq, true_and, hlen, hcv]
  refine c61 hn fun r => ?_
  try simp only [letO_some, cellsOf?_agg, cellsOf?_int, cellsOf?_bool, cellsOf?_imm, cellsOf?_ref, cellsOf?_nils, faddr_iptr, faddr_ptr, List.drop_succ_cons, List.drop_zero, List.take_succ_cons, List.take_zero, load1_iptr, loadN_iptr, List.length_cons, List.length_nil, Nat.le_refl, if_true, List.getElem?_cons_zero, List.getElem?_cons_succ, List.getD_cons_zero, List.getD_cons_succ, extrF_tup, binF_add, binF_sub, binF_mul, binF_eql, binF_neq, binF_lss, binF_leq, binF_gtr, binF_geq, true_and]
  apply W44_ok
  unfold W44
  try simp only [letO_some, cellsOf?_agg, cellsOf?_int, cellsOf?_bool, cellsOf?_imm, cellsOf?_ref, cellsOf?_nils, faddr_iptr, faddr_ptr, List.drop_succ_cons, List.drop_zero, List.take_succ_cons, List.take_zero, load1_iptr, loadN_iptr, List.length_cons, List.length_nil, Nat.le_refl, if_true, List.getElem?_cons_zero, List.getElem?_cons_succ, List.getD_cons_zero, List.getD_cons_succ, extrF_tup, binF_add, binF_sub, binF_mul, binF_eql, binF_neq, binF_lss, binF_leq, binF_gtr, binF_geq, true_and]
  refine ⟨fun L H' => eqt L [.int .i64 r, .int .i64 0, .bool true, .bool true, .int .i64 (Ks.length : Int)] ∧ eqt H' H, fun _ _ => 0, ⟨rfl, rfl⟩, ?_⟩
  rintro L H' ⟨rfl, rfl⟩
  have ew : IntKind.i64.wrap ((Ks.length : Int) - 0) = (Ks.length : Int) := by rw [wrap_i64 (by omega) (by omega)]; omega
  have e12 : decide ((Ks.length : Int) ≤ 12) = true := decide_eq_true (by omega)
  simp only [letO_some, cellsOf?_agg, cellsOf?_int, cellsOf?_bool, cellsOf?_imm, cellsOf?_ref, cellsOf?_nils, faddr_iptr, faddr_ptr, List.drop_succ_cons, List.drop_zero, List.take_succ_cons, List.take_zero, load1_iptr, loadN_iptr, List.length_cons, List.length_nil, Nat.le_refl, if_true, List.getElem?_cons_zero, List.getElem?_cons_succ, List.getD_cons_zero, List.getD_cons_succ, extrF_tup, binF_add, binF_sub, binF_mul, binF_eql, binF_neq, binF_lss, binF_leq, binF_gtr, binF_geq, true_and, ew, e12, condA_tt]
  refine c83s hg ho hn fun Ks' H2 hp hs hg2 => endK_ret ?_
  try simp only [letO_some, cellsOf?_agg, cellsOf?_int, cellsOf?_bool, cellsOf?_imm, cellsOf?_ref, cellsOf?_nils, faddr_iptr, faddr_ptr, List.drop_succ_cons, List.drop_zero, List.take_succ_cons, List.take_zero, load1_iptr, loadN_iptr, List.length_cons, List.length_nil, Nat.le_refl, if_true, List.getElem?_cons_zero, List.getElem?_cons_succ, List.getD_cons_zero, List.getD_cons_succ, extrF_tup, binF_add, binF_sub, binF_mul, binF_eql, binF_neq, binF_lss, binF_leq, binF_gtr, binF_geq, true_and]
  exact endK_ret (hk _ _ hp hs hg2)
/-- see.All -/
theorem c9s {v : AV} {n : Nat} {R : List (Nat × Nat)} {H : Heap} {K : AV → Heap → Prop} (h : Vd n R) (hv : RP H v R) (h12 : (kern n R).length ≤ 12) (hk : ∀ Ks : List Nat, Ks.Perm (kern n R) → Srt Ks Ks.length → K (.tup [tl Ks, .int .i64 0]) H) :
    ACalls Tryz.prog 10 [.agg [.int .i64 (n : Int), v]] H K := by
  apply W10_ok
  unfold W10
  have e0 : ((0 : Int) != 0) = false := rfl
  have hn7 := h.n7
  have h2n : 2 ^ n ≤ 2 ^ 7 := Nat.pow_le_pow_right (by omega) hn7
  try simp only [letO_some, cellsOf?_agg, cellsOf?_int, cellsOf?_bool, cellsOf?_imm, cellsOf?_ref, cellsOf?_nils, faddr_iptr, faddr_ptr, List.drop_succ_cons, List.drop_zero, List.take_succ_cons, List.take_zero, load1_iptr, loadN_iptr, List.length_cons, List.length_nil, Nat.le_refl, if_true, List.getElem?_cons_zero, List.getElem?_cons_succ, List.getD_cons_zero, List.getD_cons_succ, extrF_tup, binF_add, binF_sub, binF_mul, binF_eql, binF_neq, binF_lss, binF_leq, binF_gtr, binF_geq, true_and]
  refine c31 h hv ?_
  simp only [letO_some, cellsOf?_agg, cellsOf?_int, cellsOf?_bool, cellsOf?_imm, cellsOf?_ref, cellsOf?_nils, faddr_iptr, faddr_ptr, List.drop_succ_cons, List.drop_zero, List.take_succ_cons, List.take_zero, load1_iptr, loadN_iptr, List.length_cons, List.length_nil, Nat.le_refl, if_true, List.getElem?_cons_zero, List.getElem?_cons_succ, List.getD_cons_zero, List.getD_cons_succ, extrF_tup, binF_add, binF_sub, binF_mul, binF_eql, binF_neq, binF_lss, binF_leq, binF_gtr, binF_geq, true_and]
  refine alloc_store (cs := webC n R) rfl (webC_all n R) (webC_len n R) rfl fun b4 hb4 => ?_
  have hle4 := Heap.le_new (c := webC n R) hb4
  have h4 : (H.put b4 (webC n R)) b4 = some (webC n R) := Heap.put_same
  generalize H.put b4 (webC n R) = H4 at *
  have l0 : load1 (.ptr b4 0) H4 = some (.int .i64 (n : Int)) := load1_at h4 rfl
  simp only [letO_some, cellsOf?_agg, cellsOf?_int, cellsOf?_bool, cellsOf?_imm, cellsOf?_ref, cellsOf?_nils, faddr_iptr, faddr_ptr, List.drop_succ_cons, List.drop_zero, List.take_succ_cons, List.take_zero, load1_iptr, loadN_iptr, List.length_cons, List.length_nil, Nat.le_refl, if_true, List.getElem?_cons_zero, List.getElem?_cons_succ, List.getD_cons_zero, List.getD_cons_succ, extrF_tup, binF_add, binF_sub, binF_mul, binF_eql, binF_neq, binF_lss, binF_leq, binF_gtr, binF_geq, true_and, e0, condA_ff, l0, u64_shl (show n < 8 by omega)]
  refine ⟨fun L H' => ∃ (s : Nat) (X : AV), eqt L [X, .int .u64 (s : Int)] ∧ s ≤ 2 ^ n ∧ Grow 1 H4 H' X ((List.range s).filter fun s => judE n R s == 0).length (((List.range s).filter fun s => judE n R s == 0).map kl) ∧ (isOwn X ∨ ((List.range s).filter fun s => judE n R s == 0) = []),
    fun L _ => (2 ^ n - iv L 1).toNat, ⟨0, .nils, rfl, Nat.zero_le _, Grow.nils 1 H4, .inr rfl⟩, ?_⟩
  rintro L H1 ⟨s, X, rfl, hs, hg, ho⟩
  have p2 : ((2 ^ n : Nat) : Int) = (2 : Int) ^ n := by simp
  try simp only [letO_some, cellsOf?_agg, cellsOf?_int, cellsOf?_bool, cellsOf?_imm, cellsOf?_ref, cellsOf?_nils, faddr_iptr, faddr_ptr, List.drop_succ_cons, List.drop_zero, List.take_succ_cons, List.take_zero, load1_iptr, loadN_iptr, List.length_cons, List.length_nil, Nat.le_refl, if_true, List.getElem?_cons_zero, List.getElem?_cons_succ, List.getD_cons_zero, List.getD_cons_succ, extrF_tup, binF_add, binF_sub, binF_mul, binF_eql, binF_neq, binF_lss, binF_leq, binF_gtr, binF_geq, true_and]
  refine condA_t (fun hlt => ?_) (fun hge => ?_)
  · have hs2 : s < 2 ^ n := by omega
    have hr : List.range (s + 1) = List.range s ++ [s] := List.range_succ
    have hlen : ((List.range s).filter fun s => judE n R s == 0).length ≤ 128 := by
      have := List.length_filter_le (fun s => judE n R s == 0) (List.range s)
      rw [List.length_range] at this; omega
    have hw : loadN 8 (.ptr b4 0) H1 = some (.agg (webC n R)) := by
      have := webC_len n R
      simp [loadN, cellsAt?, hg.le _ _ h4, this]
      rw [List.take_of_length_le (by omega)]
    simp only [hw, letO_some]
    refine ⟨fun L H' => ∃ X', eqt L [X'] ∧ Grow 1 H4 H' X' ((List.range (s + 1)).filter fun s => judE n R s == 0).length (((List.range (s + 1)).filter fun s => judE n R s == 0).map kl) ∧ (isOwn X' ∨ ((List.range (s + 1)).filter fun s => judE n R s == 0) = []), ?_, ?_⟩
    · refine c32 h (by omega) ?_
      simp only [letO_some, cellsOf?_agg, cellsOf?_int, cellsOf?_bool, cellsOf?_imm, cellsOf?_ref, cellsOf?_nils, faddr_iptr, faddr_ptr, List.drop_succ_cons, List.drop_zero, List.take_succ_cons, List.take_zero, load1_iptr, loadN_iptr, List.length_cons, List.length_nil, Nat.le_refl, if_true, List.getElem?_cons_zero, List.getElem?_cons_succ, List.getD_cons_zero, List.getD_cons_succ, extrF_tup, binF_add, binF_sub, binF_mul, binF_eql, binF_neq, binF_lss, binF_leq, binF_gtr, binF_geq, true_and]
      rw [hr, List.filter_append]
      cases hj : judE n R s == 0
      · have hf : ([s].filter fun s => judE n R s == 0) = [] := by simp only [List.filter, hj]
        rw [hf, List.append_nil]
        simp only [condA_ff]
        exact ⟨X, rfl, hg, ho⟩
      · have hf : ([s].filter fun s => judE n R s == 0) = [s] := by simp only [List.filter, hj]
        rw [hf]
        simp only [condA_tt]
        refine c33 (by omega) ?_
        have hsc : cellsOf? (sl (up (lsN s))) = some [sl (up (lsN s))] := rfl
        simp only [l31 hsc, letO_some]
        refine appendA_growR hg (m := 1) (new := [kl s]) (by simp [srcOf, kl]) rfl rfl (by omega) (by omega) (by omega) fun v' H7 hg7 ho7 => ?_
        try simp only [letO_some]
        refine ⟨v', rfl, ?_, .inl ho7⟩
        rw [List.length_append, List.map_append]
        exact hg7
    · rintro L H2 ⟨X', rfl, hg2, ho2⟩
      simp only [letO_some, cellsOf?_agg, cellsOf?_int, cellsOf?_bool, cellsOf?_imm, cellsOf?_ref, cellsOf?_nils, faddr_iptr, faddr_ptr, List.drop_succ_cons, List.drop_zero, List.take_succ_cons, List.take_zero, load1_iptr, loadN_iptr, List.length_cons, List.length_nil, Nat.le_refl, if_true, List.getElem?_cons_zero, List.getElem?_cons_succ, List.getD_cons_zero, List.getD_cons_succ, extrF_tup, binF_add, binF_sub, binF_mul, binF_eql, binF_neq, binF_lss, binF_leq, binF_gtr, binF_geq, true_and]
      rw [wrap_u64 (by omega) (by omega)]
      refine ⟨⟨s + 1, X', rfl, by omega, hg2, ho2⟩, by simp [iv]; omega⟩
  · have hse : s = 2 ^ n := by omega
    subst hse
    refine c34s hg ho h12 fun Ks H2 hp hs hg2 => ?_
    try simp only [letO_some, cellsOf?_agg, cellsOf?_int, cellsOf?_bool, cellsOf?_imm, cellsOf?_ref, cellsOf?_nils, faddr_iptr, faddr_ptr, List.drop_succ_cons, List.drop_zero, List.take_succ_cons, List.take_zero, load1_iptr, loadN_iptr, List.length_cons, List.length_nil, Nat.le_refl, if_true, List.getElem?_cons_zero, List.getElem?_cons_succ, List.getD_cons_zero, List.getD_cons_succ, extrF_tup, binF_add, binF_sub, binF_mul, binF_eql, binF_neq, binF_lss, binF_leq, binF_gtr, binF_geq, true_and]
    obtain ⟨H3, hle3, hg3⟩ := hg2.shrink hle4
    refine endK_pub (Pub.drop hle3) (hg3.end2 ?_)
    have := hk Ks hp (by rw [hp.length_eq]; exact hs)
    rw [tl, hp.length_eq] at this
    exact this
end Go.Proofs.YtmmfelpgcdlgfaaGreatDoor

/- Divisions that agree, and choices. -/
namespace Go.Proofs.YtmmfelpgcdlgfaaGreatDoor
set_option linter.unusedVariables false

theorem sub_iff {a b : Nat} : subB a b = true ↔ ∀ x, a.testBit x = true → b.testBit x = true := by
  unfold subB
  rw [beq_iff_eq]
  constructor
  · intro h x hx
    have : (a &&& b).testBit x = true := by rw [h]; exact hx
    rw [Nat.testBit_and, hx, Bool.true_and] at this
    exact this
  · intro h
    apply Nat.eq_of_testBit_eq
    intro x
    rw [Nat.testBit_and]
    cases hx : a.testBit x
    · rfl
    · rw [h x hx]; rfl
theorem sub_refl (a : Nat) : subB a a = true := sub_iff.2 fun _ h => h
theorem agr_refl (a : Nat) : agrB a a = true := by unfold agrB; rw [sub_refl]; rfl
theorem agr_symm (a b : Nat) : agrB a b = agrB b a := by
  unfold agrB
  rw [Nat.and_comm a b]
  cases subB a b <;> cases subB b a <;> rfl
/-- The divisions that clash with one more. -/
def clF (T : List Nat) (s i : Nat) : Option (Nat × Nat) := if agrB (T.getD i 0) s then none else some (i, T.length)
def clP (T : List Nat) (s : Nat) : List (Nat × Nat) := (List.range T.length).filterMap (clF T s)
theorem mem_clP {T : List Nat} {s : Nat} {r : Nat × Nat} : r ∈ clP T s ↔ r.1 < T.length ∧ r.2 = T.length ∧ agrB (T.getD r.1 0) s = false := by
  unfold clP clF
  rw [List.mem_filterMap]
  constructor
  · rintro ⟨i, hi, he⟩
    have hi := List.mem_range.1 hi
    split at he <;> cases he
    rename_i h
    exact ⟨hi, rfl, Bool.eq_false_iff.2 h⟩
  · rintro ⟨h1, h2, h3⟩
    refine ⟨r.1, List.mem_range.2 h1, ?_⟩
    rw [h3, if_neg (by simp), ← h2]
/-- One division more, by numbers. -/
def dvF (n : Nat) (st : List Nat × List (Nat × Nat)) (x : Nat) : List Nat × List (Nat × Nat) :=
  if x &&& (2 ^ n - 2) = 0 ∨ (x &&& (2 ^ n - 2)) ∈ st.1 then st
  else if (st.2 ++ clP st.1 (x &&& (2 ^ n - 2))).length ≤ 8 then (st.1 ++ [x &&& (2 ^ n - 2)], st.2 ++ clP st.1 (x &&& (2 ^ n - 2))) else st
/-- What is known of divisions and pairs. -/
structure DV (n : Nat) (T : List Nat) (P : List (Nat × Nat)) : Prop where
  rng : ∀ s ∈ T, s ≠ 0 ∧ s < 2 ^ n ∧ s.testBit 0 = false
  nd : T.Pairwise (· ≠ ·)
  mem : ∀ r : Nat × Nat, r ∈ P ↔ r.1 < r.2 ∧ r.2 < T.length ∧ agrB (T.getD r.1 0) (T.getD r.2 0) = false
  pnd : P.Pairwise (· ≠ ·)
  plen : P.length ≤ 8
theorem cl_nd (T : List Nat) (s : Nat) : (clP T s).Pairwise (· ≠ ·) := by
  unfold clP
  rw [List.pairwise_filterMap]
  refine List.Pairwise.imp ?_ (List.nodup_range (n := T.length))
  intro a b hab x hx y hy he
  unfold clF at hx hy
  split at hx <;> cases hx
  split at hy <;> cases hy
  simp at he
  omega
theorem and_even {x n : Nat} (hn : 1 ≤ n) : x &&& (2 ^ n - 2) < 2 ^ n ∧ (x &&& (2 ^ n - 2)).testBit 0 = false := by
  have h2 : 2 ≤ 2 ^ n := by
    have := Nat.pow_le_pow_right (show 0 < 2 by omega) hn
    simpa using this
  constructor
  · have : x &&& (2 ^ n - 2) ≤ 2 ^ n - 2 := Nat.and_le_right
    omega
  · rw [Nat.testBit_and]
    have : (2 ^ n - 2).testBit 0 = false := by
      obtain ⟨m, rfl⟩ : ∃ m, n = m + 1 := ⟨n - 1, by omega⟩
      have h1 : 1 ≤ 2 ^ m := Nat.one_le_two_pow
      have e : 2 ^ (m + 1) - 2 = 2 * (2 ^ m - 1) := by rw [Nat.pow_succ]; omega
      rw [e, Nat.testBit_zero]
      simp
    rw [this, Bool.and_false]
theorem dv_step {n : Nat} (hn : 1 ≤ n) {T : List Nat} {P : List (Nat × Nat)} (h : DV n T P) (x : Nat) : DV n (dvF n (T, P) x).1 (dvF n (T, P) x).2 ∧ (dvF n (T, P) x).1.length ≤ T.length + 1 := by
  unfold dvF
  split
  · exact ⟨h, by simp only; omega⟩
  · rename_i h1
    split
    · rename_i h2
      simp only at h1 h2 ⊢
      have hs := and_even (x := x) hn
      generalize x &&& (2 ^ n - 2) = s at *
      have hs0 : s ≠ 0 := fun e => h1 (.inl e)
      have hsT : s ∉ T := fun e => h1 (.inr e)
      have hgl : ∀ i, i < T.length → (T ++ [s]).getD i 0 = T.getD i 0 := fun i hi => by
        rw [List.getD_eq_getElem?_getD, List.getElem?_append_left hi, ← List.getD_eq_getElem?_getD]
      have hgr : (T ++ [s]).getD T.length 0 = s := by
        rw [List.getD_eq_getElem?_getD, List.getElem?_append_right (Nat.le_refl _), Nat.sub_self]; rfl
      refine ⟨⟨?_, ?_, ?_, ?_, h2⟩, by simp⟩
      · intro t ht
        rcases List.mem_append.1 ht with ht | ht
        · exact h.rng t ht
        · simp at ht; subst ht; exact ⟨hs0, hs⟩
      · rw [List.pairwise_append]
        refine ⟨h.nd, by simp, fun a ha b hb => ?_⟩
        simp at hb; subst hb
        exact fun e => hsT (e ▸ ha)
      · intro r
        rw [List.mem_append, h.mem, mem_clP, List.length_append]
        simp only [List.length_cons, List.length_nil]
        constructor
        · rintro (⟨a1, a2, a3⟩ | ⟨a1, a2, a3⟩)
          · exact ⟨a1, by omega, by rw [hgl _ (by omega), hgl _ a2]; exact a3⟩
          · exact ⟨by omega, by omega, by rw [hgl _ a1, a2, hgr]; exact a3⟩
        · rintro ⟨a1, a2, a3⟩
          by_cases he : r.2 = T.length
          · right
            rw [hgl _ (by omega), he, hgr] at a3
            exact ⟨by omega, he, a3⟩
          · left
            rw [hgl _ (by omega), hgl _ (by omega)] at a3
            exact ⟨a1, by omega, a3⟩
      · rw [List.pairwise_append]
        refine ⟨h.pnd, cl_nd T s, fun a ha b hb => ?_⟩
        have h3 := (h.mem a).1 ha
        have h4 := mem_clP.1 hb
        rintro rfl
        omega
    · exact ⟨h, by simp only; omega⟩
theorem DV.nil (n : Nat) : DV n [] [] := ⟨by simp, by simp, by simp, by simp, by simp⟩
theorem dv_all {n : Nat} (hn : 1 ≤ n) (E : List Nat) : DV n (E.foldl (dvF n) ([], [])).1 (E.foldl (dvF n) ([], [])).2 ∧ (E.foldl (dvF n) ([], [])).1.length ≤ E.length := by
  induction E using snoc_ind with
  | h0 => exact ⟨DV.nil n, by simp⟩
  | h1 E x ih =>
    rw [List.foldl_append]
    simp only [List.foldl_cons, List.foldl_nil]
    generalize E.foldl (dvF n) ([], []) = st at *
    obtain ⟨T, P⟩ := st
    have := dv_step hn ih.1 x
    exact ⟨this.1, by have h1 := this.2; have h2 := ih.2; simp only at h1 h2; simp only [List.length_append, List.length_cons, List.length_nil]; omega⟩
/-- A set of divisions that all agree. -/
theorem bad_iff {n : Nat} {T : List Nat} {P : List (Nat × Nat)} (h : DV n T P) (hl : T.length ≤ 7) {s : Nat} (hs : s < 2 ^ T.length) :
    badB (frA T) s = false ↔ ∀ p ∈ P, ¬ (s.testBit p.1 = true ∧ s.testBit p.2 = true) := by
  have hb : ∀ i, s.testBit i = true → i < T.length := fun i hi => bit_lt hs hi
  have hg : ∀ i, i < T.length → (frA T).getD i 0 = frP T i T.length := fun i hi => by
    simp [frA, List.getD_eq_getElem?_getD, hi]
  have key : badB (frA T) s = false ↔ ∀ i j, s.testBit i = true → s.testBit j = true → agrB (T.getD i 0) (T.getD j 0) = true := by
    unfold badB
    rw [List.any_eq_false]
    constructor
    · intro h2 i j hi hj
      have h3 := h2 i (ls_mem.2 ⟨by have := hb i hi; omega, hi⟩)
      rw [hg i (hb i hi)] at h3
      have h4 : subB s (frP T i T.length) = true := by
        cases hc : subB s (frP T i T.length)
        · rw [hc] at h3; exact absurd rfl h3
        · rfl
      have := sub_iff.1 h4 j hj
      rw [frP_bit, Bool.and_eq_true] at this
      exact this.2
    · intro h2 i hi
      have hi := (ls_mem.1 hi).2
      rw [hg i (hb i hi)]
      have : subB s (frP T i T.length) = true := sub_iff.2 fun j hj => by
        rw [frP_bit, decide_eq_true (hb j hj), Bool.true_and]
        exact h2 i j hi hj
      rw [this]; simp
  rw [key]
  constructor
  · rintro h2 p hp ⟨h3, h4⟩
    have := (h.mem p).1 hp
    rw [h2 p.1 p.2 h3 h4] at this
    exact absurd this.2.2 (by simp)
  · intro h2 i j hi hj
    have tri : i < j ∨ i = j ∨ j < i := by omega
    rcases tri with hlt | rfl | hlt
    · cases hc : agrB (T.getD i 0) (T.getD j 0)
      · exact absurd ⟨hi, hj⟩ (h2 (i, j) ((h.mem (i, j)).2 ⟨hlt, hb j hj, hc⟩))
      · rfl
    · exact agr_refl _
    · rw [agr_symm]
      cases hc : agrB (T.getD j 0) (T.getD i 0)
      · exact absurd ⟨hj, hi⟩ (h2 (j, i) ((h.mem (j, i)).2 ⟨hlt, hb i hi, hc⟩))
      · rfl
/-- What the search for the most that agree knows. -/
theorem mo_inv (fr : List Nat) (L : List Nat) : (L.foldl (moF fr) [] = [] ∨ ∃ t ∈ L, badB fr t = false ∧ L.foldl (moF fr) [] = lsN t) ∧
    ∀ s ∈ L, badB fr s = false → (lsN s).length ≤ (L.foldl (moF fr) []).length ∧ ((lsN s).length = (L.foldl (moF fr) []).length → ¬ cmpL (up (lsN s)) (up (L.foldl (moF fr) [])) < 0) := by
  have irr : ∀ l : List Int, cmpL l l = 0 := fun l => by
    have := cmp_neg l l
    omega
  induction L using snoc_ind with
  | h0 => simp
  | h1 L a ih =>
    rw [List.foldl_append]
    simp only [List.foldl_cons, List.foldl_nil]
    generalize L.foldl (moF fr) [] = best at *
    obtain ⟨i1, i2⟩ := ih
    have keep : best = [] ∨ ∃ t ∈ L ++ [a], badB fr t = false ∧ best = lsN t := by
      rcases i1 with h | ⟨t, h1, h2⟩
      · exact .inl h
      · exact .inr ⟨t, List.mem_append_left _ h1, h2⟩
    rw [moF]
    by_cases h1 : (lsN a).length < best.length ∨ badB fr a = true
    · rw [if_pos h1]
      refine ⟨keep, fun s hs hb => ?_⟩
      rcases List.mem_append.1 hs with hs | hs
      · exact i2 s hs hb
      · simp at hs; subst hs
        rcases h1 with h1 | h1
        · exact ⟨by omega, by omega⟩
        · rw [hb] at h1; cases h1
    · rw [if_neg h1]
      have hb0 : badB fr a = false := by
        cases hc : badB fr a
        · rfl
        · exact absurd (.inr hc) h1
      have hle : best.length ≤ (lsN a).length := by
        apply Nat.le_of_not_lt
        exact fun h => h1 (.inl h)
      by_cases h2 : best.length < (lsN a).length ∨ cmpL (up (lsN a)) (up best) < 0
      · rw [if_pos h2]
        refine ⟨.inr ⟨a, by simp, hb0, rfl⟩, fun s hs hb => ?_⟩
        rcases List.mem_append.1 hs with hs | hs
        · obtain ⟨j1, j2⟩ := i2 s hs hb
          refine ⟨by omega, fun he hc => ?_⟩
          rcases h2 with h2 | h2
          · omega
          · have h3 := j2 (by omega)
            have t1 := cmp_neg (up (lsN s)) (up best)
            have t2 := cmp_trans (up best) (up (lsN s)) (up (lsN a)) (by omega) (by omega)
            have t3 := cmp_neg (up best) (up (lsN a))
            omega
        · simp at hs; subst hs
          refine ⟨Nat.le_refl _, fun _ hc => ?_⟩
          rw [irr] at hc
          omega
      · rw [if_neg h2]
        refine ⟨keep, fun s hs hb => ?_⟩
        rcases List.mem_append.1 hs with hs | hs
        · exact i2 s hs hb
        · simp at hs; subst hs
          refine ⟨?_, fun _ hc => h2 (.inr hc)⟩
          apply Nat.le_of_not_lt
          exact fun h => h2 (.inl h)
/-- A set that is as large as may be is a choice. -/
theorem max_kern {n : Nat} {P : List (Nat × Nat)} (hn : n ≤ 7) (hr : ∀ r ∈ P, r.1 < r.2 ∧ r.2 < n) {s : Nat} (hs : s < 2 ^ n) (hind : ∀ p ∈ P, ¬ (s.testBit p.1 = true ∧ s.testBit p.2 = true)) (hl : (lsN s).length = n - (shS n P).1.length) (hsn : (shS n P).1.length ≤ n) :
    judE n (both P) s = 0 := by
  obtain ⟨i1, i2, i3⟩ := sh_inv P (List.range (2 ^ n))
  have hd : (List.range (2 ^ n)).foldl (shF P) ([], 0) = shS n P := rfl
  rw [hd] at i1 i2 i3
  have p2 : 2 ^ n ≤ 2 ^ 7 := Nat.pow_le_pow_right (by omega) hn
  refine (kern_iff hr hs).2 ⟨hind, fun x hx hb => ?_⟩
  apply Classical.byContradiction
  intro hne
  have h1 := ls_or ⟨s, by omega⟩ ⟨x, by omega⟩ hb
  simp only at h1
  have hs2 : s ||| 2 ^ x < 2 ^ n := Nat.or_lt_two_pow hs (Nat.pow_lt_pow_right (by omega) hx)
  have he2 : expl P (oth n (s ||| 2 ^ x)) = true := by
    refine (expl_oth hr hs2).2 fun p hp hc => ?_
    obtain ⟨a, b⟩ := p
    simp only [Nat.testBit_or, Nat.testBit_two_pow, Bool.or_eq_true, decide_eq_true_eq] at hc
    have hab := hr _ hp
    simp only at hab
    rcases hc with ⟨h1 | h1, h2 | h2⟩
    · exact hind _ hp ⟨h1, h2⟩
    · subst h2; exact hne ⟨a, h1, mem_both.2 (.inr hp)⟩
    · subst h1; exact hne ⟨b, h2, mem_both.2 (.inl hp)⟩
    · omega
  have h2 := i2 _ (List.mem_range.2 (oth_lt hs2)) he2
  have h3 := oth_len ⟨n, by omega⟩ ⟨s ||| 2 ^ x, by omega⟩ hs2
  simp only at h3
  omega
/-- What TopDivided says. -/
theorem divided_law {n : Nat} {T : List Nat} {P : List (Nat × Nat)} (h : DV n T P) (hl : T.length ≤ 7) {Ks : List Nat} (hp : Ks.Perm (kern T.length (both P))) (hsr : Srt Ks Ks.length) :
    (moS T).length + (shS T.length P).1.length = T.length ∧ (∃ i, i < Ks.length ∧ (lsN (Ks.getD i 0)).length = (moS T).length) ∧
    ∀ i, i < Ks.length → (∀ j, j < i → (lsN (Ks.getD j 0)).length ≠ (moS T).length) → (lsN (Ks.getD i 0)).length = (moS T).length → lsN (Ks.getD i 0) = moS T := by
  have hr : ∀ r ∈ P, r.1 < r.2 ∧ r.2 < T.length := fun r hrp => by have := (h.mem r).1 hrp; exact ⟨this.1, this.2.1⟩
  obtain ⟨m0, m1, ⟨c, c1, c2, c3⟩, m3, m4⟩ := mutual_law hl hr
  obtain ⟨k1, k2⟩ := mo_inv (frA T) (List.range (2 ^ T.length))
  have hd : (List.range (2 ^ T.length)).foldl (moF (frA T)) [] = moS T := rfl
  rw [hd] at k1 k2
  have hkm : ∀ s, s ∈ kern T.length (both P) ↔ s < 2 ^ T.length ∧ judE T.length (both P) s = 0 := by
    intro s
    rw [kern, List.mem_filter, List.mem_range, beq_iff_eq]
  have p2 : 2 ^ T.length ≤ 2 ^ 7 := Nat.pow_le_pow_right (by omega) hl
  -- the best set
  have hbest : ∃ t, t < 2 ^ T.length ∧ badB (frA T) t = false ∧ moS T = lsN t := by
    rcases k1 with h1 | ⟨t, t1, t2, t3⟩
    · refine ⟨0, Nat.two_pow_pos _, ?_, ?_⟩
      · refine (bad_iff h hl (Nat.two_pow_pos _)).2 fun p _ hc => ?_
        have := hc.1
        simp at this
      · rw [h1]; decide
    · exact ⟨t, List.mem_range.1 t1, t2, t3⟩
  obtain ⟨t, t1, t2, t3⟩ := hbest
  obtain ⟨i1, i2, i3⟩ := sh_inv P (List.range (2 ^ T.length))
  have hd2 : (List.range (2 ^ T.length)).foldl (shF P) ([], 0) = shS T.length P := rfl
  rw [hd2] at i1 i2 i3
  have ht := (bad_iff h hl t1).1 t2
  have hex := (expl_oth hr t1).2 ht
  have h5 := (i2 _ (List.mem_range.2 (oth_lt t1)) hex).1
  have h6 := oth_len ⟨T.length, by omega⟩ ⟨t, by omega⟩ t1
  simp only at h6
  have hcb := ((hkm c).1 c1)
  have h7 := (k2 c (List.mem_range.2 hcb.1) ((bad_iff h hl hcb.1).2 ((kern_iff hr hcb.1).1 hcb.2).1)).1
  have hlen : (moS T).length + (shS T.length P).1.length = T.length := by rw [t3] at h7 ⊢; omega
  have htk : t ∈ Ks := hp.mem_iff.2 ((hkm t).2 ⟨t1, max_kern hl hr t1 ht (by rw [t3] at hlen; omega) m0⟩)
  obtain ⟨j, hj, hje⟩ := List.mem_iff_getElem.1 htk
  have hjd : Ks.getD j 0 = t := by rw [List.getD_eq_getElem?_getD, List.getElem?_eq_getElem hj]; exact hje
  refine ⟨hlen, ⟨j, hj, by rw [hjd, t3]⟩, fun i hi hno hil => ?_⟩
  have hij : i ≤ j := by
    apply Nat.le_of_not_lt
    intro hlt
    exact hno j hlt (by rw [hjd, t3])
  have him : Ks.getD i 0 ∈ Ks := by
    rw [List.getD_eq_getElem?_getD, List.getElem?_eq_getElem hi]; exact List.getElem_mem hi
  have hik := (hkm _).1 (hp.mem_iff.1 him)
  have hib := (k2 _ (List.mem_range.2 hik.1) ((bad_iff h hl hik.1).2 ((kern_iff hr hik.1).1 hik.2).1)).2 hil
  by_cases he : i = j
  · rw [he, hjd, t3]
  · have hle := hsr i j (by omega) hj
    rw [hjd] at hle
    unfold lek at hle
    rw [t3] at hib ⊢
    have h0 : cmpL (up (lsN (Ks.getD i 0))) (up (lsN t)) = 0 := by omega
    have := cmp_eq _ _ h0
    have := congrArg (List.map Int.toNat) this
    simpa [up, List.map_map, Function.comp_def] using this
end Go.Proofs.YtmmfelpgcdlgfaaGreatDoor

namespace Go.Proofs.YtmmfelpgcdlgfaaGreatDoor
open Go.Av
set_option linter.unusedVariables false
set_option linter.unusedSimpArgs false
set_option maxRecDepth 20000

theorem alloc_eq {z z' : List AV} {k : AV → Heap → Prop} {H : Heap} (h : z = z') (hk : ∀ b, H b = none → k (.ptr b 0) (H.put b z')) : allocA z k H := by
  subst h; exact fun b hb => hk b hb
/-- A table of letters. -/
def asC (l : List Nat) : List AV := (List.range 256).map fun c => .bool (decide (c ∈ l))
theorem asC_len (l : List Nat) : (asC l).length = 256 := by simp [asC]
theorem asC_get (l : List Nat) {c : Nat} (h : c < 256) : (asC l)[c]? = some (.bool (decide (c ∈ l))) := by simp [asC, h]
theorem asC_set (l : List Nat) {c : Nat} (h : c < 256) : (asC l).set c (.bool true) = asC (l ++ [c]) := by
  apply List.ext_getElem?
  intro i
  rw [List.getElem?_set]
  by_cases hi : i < 256
  · rw [asC_get _ hi, asC_get _ hi, asC_len]
    by_cases he : c = i
    · subst he
      rw [if_pos rfl, if_pos h]
      simp
    · rw [if_neg he]
      have : decide (i ∈ l) = decide (i ∈ l ++ [c]) := by
        rw [decide_eq_decide, List.mem_append]
        simp
        exact fun h2 => absurd h2.symm he
      rw [this]
  · have h1 : (asC l)[i]? = none := List.getElem?_eq_none (by rw [asC_len]; omega)
    have h2 : (asC (l ++ [c]))[i]? = none := List.getElem?_eq_none (by rw [asC_len]; omega)
    rw [h1, h2, if_neg (by omega)]
theorem asC_all (l : List Nat) : (asC l).all isScalar = true := by
  rw [List.all_eq_true]
  intro x hx
  obtain ⟨c, _, rfl⟩ := List.mem_map.1 hx
  rfl
theorem splice_all {cs ds : List AV} (h : cs.length = ds.length) : splice cs 0 ds = ds := by
  simp [splice, ← h]
/-- strings.makeASCIISet -/
theorem d87 {l : List Nat} {H : Heap} {K : AV → Heap → Prop} (hl : asc l) (hll : l.length < 1000) (hk : K (.tup [.agg (asC l), .bool true]) H) : ACalls Tryz.prog 87 [st l] H K := by
  apply W87_ok
  unfold W87
  have hls := st_len l
  refine alloc_eq (z' := asC []) (by kernel_rfl) fun b2 hb2 => ?_
  have hle2 := Heap.le_new (c := asC []) hb2
  have h2 : (H.put b2 (asC [])) b2 = some (asC []) := Heap.put_same
  generalize H.put b2 (asC []) = H2 at *
  simp only [letO_some, true_and]
  refine ⟨fun L H' => ∃ i : Nat, eqt L [.int .i64 i] ∧ i ≤ l.length ∧ H.le H' ∧ H' b2 = some (asC (l.take i)), fun L _ => (l.length - iv L 0).toNat, ⟨0, rfl, by omega, hle2, h2⟩, ?_⟩
  rintro L H1 ⟨i, rfl, hi, hle, g2⟩
  simp only [letO_some, cellsOf?_agg, cellsOf?_int, cellsOf?_bool, cellsOf?_imm, cellsOf?_ref, cellsOf?_nils, faddr_iptr, faddr_ptr, List.drop_succ_cons, List.drop_zero, List.take_succ_cons, List.take_zero, load1_iptr, loadN_iptr, List.length_cons, List.length_nil, Nat.le_refl, if_true, List.getElem?_cons_zero, List.getElem?_cons_succ, List.getD_cons_zero, List.getD_cons_succ, extrF_tup, binF_add, binF_sub, binF_mul, binF_eql, binF_neq, binF_lss, binF_leq, binF_gtr, binF_geq, true_and, hls]
  refine condA_t (fun hlt => ?_) (fun hge => ?_)
  · have a1 : i < l.length := by omega
    have hx := hl.get a1
    have htk : l.take (i + 1) = l.take i ++ [l.getD i 0] := by
      rw [List.take_add_one, List.getElem?_eq_getElem a1, List.getD_eq_getElem?_getD, List.getElem?_eq_getElem a1]; rfl
    simp only [st_at hl a1, letO_some]
    generalize l.getD i 0 = x at *
    have e1 : decide ((x : Int) ≥ 128) = false := decide_eq_false (by omega)
    have xi : idxArr 256 1 (.ptr b2 0) (.int .u8 (x : Int)) = some (.ptr b2 x) := by
      simp only [idxArr]; rw [if_pos (by omega)]; simp
    simp only [binF_geq, e1, letO_some, condA_ff, xi]
    refine storeA_of (cs := [.bool true]) g2 rfl rfl rfl (by rw [asC_len]; simp; omega) ?_
    rw [splice_set (by rw [asC_len]; omega), asC_set _ (by omega), ← htk]
    try simp only [letO_some, binF_add]
    rw [wrap_i64 (by omega) (by omega)]
    exact ⟨⟨i + 1, rfl, by omega, Heap.le_put hle hb2, Heap.put_same⟩, by simp [iv]; omega⟩
  · have hie : i = l.length := by omega
    subst hie
    rw [List.take_length] at g2
    have lN : loadN 256 (.ptr b2 0) H1 = some (.agg (asC l)) := by
      have := loadN_at g2
      rwa [asC_len] at this
    simp only [lN, letO_some]
    refine storeA_of (cs := asC l) g2 rfl (asC_all l) (asC_len l) (by rw [asC_len]; simp) ?_
    rw [splice_all rfl, put_eq g2]
    simp only [lN, letO_some]
    exact endK_pub (Pub.drop hle) (endK_ret hk)
/-- asciiSet.contains -/
theorem d92 {b c : Nat} {l : List Nat} {H : Heap} {K : AV → Heap → Prop} (hb : H b = some (asC l)) (hc : c < 256) (hk : K (.bool (decide (c ∈ l))) H) : ACalls Tryz.prog 92 [.ptr b 0, .int .u8 (c : Int)] H K := by
  apply W92_ok
  unfold W92
  have n1 : nilF (.ptr b 0) = some (.ptr b 0) := rfl
  have xi : idxArr 256 1 (.ptr b 0) (.int .u8 (c : Int)) = some (.ptr b c) := by
    simp only [idxArr]; rw [if_pos (by omega)]; simp
  have l0 : load1 (.ptr b c) H = some (.bool (decide (c ∈ l))) := load1_at hb (asC_get l hc)
  simp only [letO_some, n1, xi, l0]
  exact endK_ret hk
def xlenS : AV → Nat
  | .str s => s.size
  | _ => 0
theorem xlenS_st (l : List Nat) : xlenS (st l) = l.length := bs_size l
theorem bs_pre {l : List Nat} {k : Nat} (hk : k ≤ l.length) : (bs l).extract 0 k = bs (l.take k) := by
  apply ByteArray.ext
  simp [bs, ByteArray.data_extract, List.map_take]
theorem st_pre {l : List Nat} {k : Nat} (hk : k ≤ l.length) : slcS (st l) none (some (.int .i64 (k : Int))) none = some (st (l.take k)) := by
  have n1 : ∀ d, natOf none d = some d := fun d => rfl
  have n2 : ∀ d, natOf (some (.int .i64 (k : Int))) d = some k := fun d => by simp [natOf]
  simp only [st, slcS, n1, n2, Option.bind_some]
  rw [bs_size, if_pos ⟨by omega, hk⟩, bs_pre hk]
/-- trimRightASCII of letters of the set -/
theorem d89 {b : Nat} {l m : List Nat} {H : Heap} {K : AV → Heap → Prop} (hb : H b = some (asC l)) (hm : asc m) (hml : m.length < 1000) (hin : ∀ x ∈ m, x ∈ l) (hk : K (st []) H) : ACalls Tryz.prog 89 [st m, .ptr b 0] H K := by
  apply W89_ok
  unfold W89
  simp only [letO_some, true_and]
  refine ⟨fun L H' => eqt L [st []] ∧ eqt H' H, ?_, ?_⟩
  · refine ⟨fun L H' => ∃ i : Nat, eqt L [st (m.take i)] ∧ i ≤ m.length ∧ eqt H' H, fun L _ => xlenS (L.getD 0 .any), ⟨m.length, by rw [List.take_length]; rfl, by omega, rfl⟩, ?_⟩
    rintro L H1 ⟨i, rfl, hi, rfl⟩
    have hls := st_len (m.take i)
    rw [List.length_take, Nat.min_eq_left hi] at hls
    simp only [letO_some, cellsOf?_agg, cellsOf?_int, cellsOf?_bool, cellsOf?_imm, cellsOf?_ref, cellsOf?_nils, faddr_iptr, faddr_ptr, List.drop_succ_cons, List.drop_zero, List.take_succ_cons, List.take_zero, load1_iptr, loadN_iptr, List.length_cons, List.length_nil, Nat.le_refl, if_true, List.getElem?_cons_zero, List.getElem?_cons_succ, List.getD_cons_zero, List.getD_cons_succ, extrF_tup, binF_add, binF_sub, binF_mul, binF_eql, binF_neq, binF_lss, binF_leq, binF_gtr, binF_geq, true_and, hls]
    refine condA_t (fun hlt => ?_) (fun hge => ?_)
    · have w1 : IntKind.i64.wrap ((i : Int) - 1) = ((i - 1 : Nat) : Int) := by rw [wrap_i64 (by omega) (by omega)]; omega
      have hasc : asc (m.take i) := fun x hx => hm x (List.mem_of_mem_take hx)
      have hg : (m.take i).getD (i - 1) 0 = m.getD (i - 1) 0 := by
        rw [List.getD_eq_getElem?_getD, List.getElem?_take_of_lt (by omega), ← List.getD_eq_getElem?_getD]
      have hmem : m.getD (i - 1) 0 ∈ m := by
        rw [List.getD_eq_getElem?_getD, List.getElem?_eq_getElem (by omega)]; exact List.getElem_mem _
      simp only [w1, st_at hasc (show i - 1 < (m.take i).length by rw [List.length_take]; omega), hg, letO_some]
      have := hm _ hmem
      refine d92 hb (by omega) ?_
      rw [decide_eq_true (hin _ hmem)]
      simp only [not_v, Bool.not_true, letO_some, condA_ff, hls, binF_sub, w1, st_pre (show i - 1 ≤ (m.take i).length by rw [List.length_take]; omega)]
      rw [List.take_take, Nat.min_eq_left (by omega)]
      refine ⟨⟨i - 1, rfl, by omega, rfl⟩, ?_⟩
      simp only [List.getD_cons_zero, xlenS_st, List.length_take]
      omega
    · have : i = 0 := by omega
      subst this
      exact ⟨rfl, rfl⟩
  · rintro L H8 ⟨rfl, rfl⟩
    try simp only [letO_some, cellsOf?_agg, cellsOf?_int, cellsOf?_bool, cellsOf?_imm, cellsOf?_ref, cellsOf?_nils, faddr_iptr, faddr_ptr, List.drop_succ_cons, List.drop_zero, List.take_succ_cons, List.take_zero, load1_iptr, loadN_iptr, List.length_cons, List.length_nil, Nat.le_refl, if_true, List.getElem?_cons_zero, List.getElem?_cons_succ, List.getD_cons_zero, List.getD_cons_succ, extrF_tup, binF_add, binF_sub, binF_mul, binF_eql, binF_neq, binF_lss, binF_leq, binF_gtr, binF_geq, true_and]
    exact endK_ret hk
/-- trimLeftASCII of nothing -/
theorem d88 {b : Nat} {H : Heap} {K : AV → Heap → Prop} (hk : K (st []) H) : ACalls Tryz.prog 88 [st [], .ptr b 0] H K := by
  apply W88_ok
  unfold W88
  simp only [letO_some, true_and]
  refine ⟨fun L H' => eqt L [st []] ∧ eqt H' H, ?_, ?_⟩
  · refine ⟨fun L H' => eqt L [st []] ∧ eqt H' H, fun _ _ => 0, ⟨rfl, rfl⟩, ?_⟩
    rintro L H1 ⟨rfl, rfl⟩
    have hls : lenS (st []) = some (.int .i64 0) := rfl
    have e : decide ((0 : Int) > 0) = false := by decide
    have e' : decide ((0 : Int) < 0) = false := by decide
    simp only [letO_some, cellsOf?_agg, cellsOf?_int, cellsOf?_bool, cellsOf?_imm, cellsOf?_ref, cellsOf?_nils, faddr_iptr, faddr_ptr, List.drop_succ_cons, List.drop_zero, List.take_succ_cons, List.take_zero, load1_iptr, loadN_iptr, List.length_cons, List.length_nil, Nat.le_refl, if_true, List.getElem?_cons_zero, List.getElem?_cons_succ, List.getD_cons_zero, List.getD_cons_succ, extrF_tup, binF_add, binF_sub, binF_mul, binF_eql, binF_neq, binF_lss, binF_leq, binF_gtr, binF_geq, true_and, hls, e, e', condA_ff]
    exact ⟨rfl, rfl⟩
  · rintro L H8 ⟨rfl, rfl⟩
    try simp only [letO_some, cellsOf?_agg, cellsOf?_int, cellsOf?_bool, cellsOf?_imm, cellsOf?_ref, cellsOf?_nils, faddr_iptr, faddr_ptr, List.drop_succ_cons, List.drop_zero, List.take_succ_cons, List.take_zero, load1_iptr, loadN_iptr, List.length_cons, List.length_nil, Nat.le_refl, if_true, List.getElem?_cons_zero, List.getElem?_cons_succ, List.getD_cons_zero, List.getD_cons_succ, extrF_tup, binF_add, binF_sub, binF_mul, binF_eql, binF_neq, binF_lss, binF_leq, binF_gtr, binF_geq, true_and]
    exact endK_ret hk
theorem ou_asc : asc [111, 117] := by intro x hx; simp at hx; omega
theorem nil_asc : asc [] := by intro x hx; simp at hx
/-- strings.Trim -/
theorem d82 {H : Heap} {K : AV → Heap → Prop} (hk : K (st []) H) : ACalls Tryz.prog 82 [st [111, 117], st [111, 117]] H K := by
  apply W82_ok
  unfold W82
  have hs0 : AV.str (ByteArray.mk #[]) = st [] := rfl
  have e1 : decide (([111, 117] : List Nat) = []) = false := by decide
  have hls := st_len [111, 117]
  have e2 : ((([111, 117] : List Nat).length : Int) == 1) = false := by decide
  simp only [letO_some, hs0, st_eql ou_asc nil_asc, e1, gval_bool, Int.reduceBNe, Int.reduceBEq, pickF_true, pickF_false, reduceIte, Bool.true_eq_false, Bool.false_eq_true, if_false, condA_tt, condA_ff, condG_tt, condG_ff, condG_tt', condG_ff', condG_undef, gval_undef, hls, binF_eql, e2]
  refine d87 ou_asc (by decide) ?_
  simp only [letO_some, cellsOf?_agg, cellsOf?_int, cellsOf?_bool, cellsOf?_imm, cellsOf?_ref, cellsOf?_nils, faddr_iptr, faddr_ptr, List.drop_succ_cons, List.drop_zero, List.take_succ_cons, List.take_zero, load1_iptr, loadN_iptr, List.length_cons, List.length_nil, Nat.le_refl, if_true, List.getElem?_cons_zero, List.getElem?_cons_succ, List.getD_cons_zero, List.getD_cons_succ, extrF_tup, binF_add, binF_sub, binF_mul, binF_eql, binF_neq, binF_lss, binF_leq, binF_gtr, binF_geq, true_and, gval_bool, Int.reduceBNe, Int.reduceBEq, pickF_true, pickF_false, reduceIte, Bool.true_eq_false, Bool.false_eq_true, if_false, condA_tt, condA_ff, condG_tt, condG_ff, condG_tt', condG_ff', condG_undef, gval_undef]
  refine alloc_eq (z' := asC []) (by kernel_rfl) fun b5 hb5 => ?_
  have hle5 := Heap.le_new (c := asC []) hb5
  refine storeA_of (cs := asC [111, 117]) (cells := asC []) Heap.put_same rfl (asC_all _) (asC_len _) (by rw [asC_len, asC_len]; simp) ?_
  rw [splice_all (by rw [asC_len, asC_len]), Heap.put_put]
  try simp only [letO_some, condA_tt]
  refine d89 (l := [111, 117]) Heap.put_same ou_asc (by decide) (fun x hx => hx) ?_
  try simp only [letO_some]
  refine d88 ?_
  try simp only [letO_some]
  exact endK_pub (Pub.drop (Heap.le_new hb5)) (endK_ret hk)
/-- quire.Check -/
theorem d48 {H : Heap} {K : AV → Heap → Prop} (hk : K (.int .i64 0) H) : ACalls Tryz.prog 48 [st [111, 117]] H K := by
  apply W48_ok
  unfold W48
  have hs2 : AV.str (ByteArray.mk #[111, 117]) = st [111, 117] := rfl
  have hs0 : AV.str (ByteArray.mk #[]) = st [] := rfl
  have hls := st_len [111, 117]
  have e2 : decide ((([111, 117] : List Nat).length : Int) > 6) = false := by decide
  have e3 : decide (([] : List Nat) ≠ []) = false := by decide
  try simp only [letO_some, hs2]
  apply W70_ok
  unfold W70
  simp only [letO_some, hls, binF_gtr, e2, condA_ff]
  refine d82 ?_
  simp only [letO_some, hs0, st_neq nil_asc nil_asc, e3, condA_ff]
  refine endK_ret ?_
  try simp only [letO_some]
  exact endK_ret hk
theorem conv365 {n : Nat} (h : n < 1000) : convF Tryz.prog 3 65 (.int .i64 (n : Int)) = some (.int .u64 (n : Int)) := by
  have h1 : (Tryz.prog.underlying 3).isSome = true := by kernel_rfl
  have h2 : Tryz.prog.underlying 65 = some (.int .u64) := by kernel_rfl
  obtain ⟨d, h1⟩ := Option.isSome_iff_exists.1 h1
  simp only [convF, h1, h2]
  rw [wrap_u64 (by omega) (by omega)]
def kd (i : Nat) : Nat := if i = 0 then 104 else 118
theorem eqbool4 (a b : Bool) : binF Tryz.prog .eql 4 (.bool a) (.bool b) = some (.bool (a == b)) := by
  have h : Tryz.prog.underlying 4 = some .bool := by kernel_rfl
  show (eqF Tryz.prog 4 (.bool a) (.bool b)).map AV.bool = _
  simp only [eqF, h]; rfl
theorem kd_ok : ∀ i : Fin 3, tzN (i.val + 1) ≤ 1 ∧ ((([111, 117] : List Nat).getD (1 - tzN (i.val + 1)) 0 == 111) == ((i.val + 1) / 2 ^ tzN (i.val + 1) % 4 == 1)) = (kd i.val == 118) := by decide
/-- quire.kind -/
theorem d71 {i : Nat} {H : Heap} {K : AV → Heap → Prop} (hi : i < 3) (hk : K (.int .u8 (kd i : Nat)) H) : ACalls Tryz.prog 71 [st [111, 117], .int .i64 (i : Int)] H K := by
  apply W71_ok
  unfold W71
  have hls := st_len [111, 117]
  have w1 : IntKind.i64.wrap ((i : Int) + 1) = ((i + 1 : Nat) : Int) := by rw [wrap_i64 (by omega) (by omega)]; omega
  obtain ⟨k1, k2⟩ := kd_ok ⟨i, hi⟩
  simp only at k1 k2
  simp only [letO_some, binF_add, w1, conv365 (show i + 1 < 1000 by omega)]
  refine c48 (by omega) (by omega) ?_
  generalize tzN (i + 1) = m at *
  have w2 : IntKind.i64.wrap ((([111, 117] : List Nat).length : Int) - 1) = 1 := by decide
  have w3 : IntKind.i64.wrap ((1 : Int) - (m : Int)) = ((1 - m : Nat) : Int) := by rw [wrap_i64 (by omega) (by omega)]; omega
  have hrem : ∀ t, binF Tryz.prog .rem t (.int .i64 (((i + 1) / 2 ^ m : Nat) : Int)) (.int .i64 4) = some (.int .i64 (((i + 1) / 2 ^ m % 4 : Nat) : Int)) := fun t => rem_nat (b := 4) (by omega)
  simp only [letO_some, hls, binF_sub, w2, w3, st_at ou_asc (show 1 - m < ([111, 117] : List Nat).length by simp; omega), binF_add, w1, i64_shr (show m < 64 by omega), hrem, binF_eql]
  have e1 : ((([111, 117] : List Nat).getD (1 - m) 0 : Int) == 111) = (([111, 117] : List Nat).getD (1 - m) 0 == 111) := by
    rw [Bool.eq_iff_iff, beq_iff_eq, beq_iff_eq]; omega
  have e2 : ((((i + 1) / 2 ^ m % 4 : Nat) : Int) == 1) = ((i + 1) / 2 ^ m % 4 == 1) := by
    rw [Bool.eq_iff_iff, beq_iff_eq, beq_iff_eq]; omega
  rw [e1, e2, eqbool4, k2]
  simp only [letO_some, true_and]
  by_cases h0 : i = 0
  · subst h0
    have : (kd 0 == 118) = false := by decide
    simp only [this, condA_ff]
    exact endK_ret hk
  · have hkd : kd i = 118 := by unfold kd; rw [if_neg h0]
    rw [hkd] at hk ⊢
    have : ((118 : Nat) == 118) = true := rfl
    simp only [this, condA_tt]
    exact endK_ret hk
def kdL (i : Nat) : List AV := (List.range 3).map fun a => .int .u8 (if a < i then kd a else 0 : Nat)
theorem kdL_set {i : Nat} (h : i < 3) : (kdL i).set i (.int .u8 (kd i : Nat)) = kdL (i + 1) := by
  have : i = 0 ∨ i = 1 ∨ i = 2 := by omega
  rcases this with rfl | rfl | rfl <;> rfl
/-- quire.creases -/
theorem d49 {H : Heap} {K : AV → Heap → Prop} (hk : K (st [104, 118, 118]) H) : ACalls Tryz.prog 49 [st [111, 117]] H K := by
  apply W49_ok
  unfold W49
  have hls : lenS (st [111, 117]) = some (.int .i64 ((2 : Nat) : Int)) := st_len [111, 117]
  have w1 : IntKind.i64.wrap (((2 ^ 2 : Nat) : Int) - 1) = 3 := by decide
  simp only [letO_some, hls, i64_shl (show 2 < 8 by omega), binF_sub, w1]
  refine ⟨by omega, by omega, by omega, by omega, fun b hb => ?_⟩
  have hrow : rowOf [AV.int .u8 0] ((3 : Int).toNat * 1) = kdL 0 := rfl
  have h3 : (3 : Int).toNat = 3 := rfl
  rw [hrow, h3]
  have hle := Heap.le_new (c := kdL 0) hb
  have h0 : (H.put b (kdL 0)) b = some (kdL 0) := Heap.put_same
  generalize H.put b (kdL 0) = H0 at *
  have hl3 : lenA (.ref 1 b 0 3 (some 3)) = some (.int .i64 3) := rfl
  simp only [letO_some, hl3, true_and]
  refine ⟨fun L H' => ∃ i : Nat, eqt L [.int .i64 i] ∧ i ≤ 3 ∧ H.le H' ∧ H' b = some (kdL i), fun L _ => (3 - iv L 0).toNat, ⟨0, rfl, by omega, hle, h0⟩, ?_⟩
  rintro L H1 ⟨i, rfl, hi, hle1, g⟩
  try simp only [letO_some, cellsOf?_agg, cellsOf?_int, cellsOf?_bool, cellsOf?_imm, cellsOf?_ref, cellsOf?_nils, faddr_iptr, faddr_ptr, List.drop_succ_cons, List.drop_zero, List.take_succ_cons, List.take_zero, load1_iptr, loadN_iptr, List.length_cons, List.length_nil, Nat.le_refl, if_true, List.getElem?_cons_zero, List.getElem?_cons_succ, List.getD_cons_zero, List.getD_cons_succ, extrF_tup, binF_add, binF_sub, binF_mul, binF_eql, binF_neq, binF_lss, binF_leq, binF_gtr, binF_geq, true_and]
  refine condA_t (fun hlt => ?_) (fun hge => ?_)
  · have i1 : i < 3 := by omega
    refine d71 i1 ?_
    have hix : idx 1 (.ref 1 b 0 3 (some 3)) (.int .i64 (i : Int)) = some (.ptr b i) := idx_fr i1
    simp only [letO_some, hix]
    refine storeA_of (cs := [.int .u8 (kd i : Nat)]) g rfl rfl rfl (by simp [kdL]; omega) ?_
    rw [splice_set (by simp [kdL]; omega), kdL_set i1]
    try simp only [letO_some, binF_add]
    rw [wrap_i64 (by omega) (by omega)]
    exact ⟨⟨i + 1, rfl, by omega, Heap.le_put hle1 hb, Heap.put_same⟩, by simp [iv]; omega⟩
  · have : i = 3 := by omega
    subst this
    refine ⟨3, kdL 3, [104, 118, 118], ?_, rfl, ?_⟩
    · simp [srcOf, g]
      exact ⟨by decide, rfl⟩
    · try simp only [letO_some]
      exact endK_pub (Pub.drop hle1) (endK_ret hk)
/-- quiresWork -/
theorem d15 {H : Heap} {K : AV → Heap → Prop} (hk : K (.bool true) H) : ACalls Tryz.prog 15 [] H K := by
  apply W15_ok
  unfold W15
  have hs2 : AV.str (ByteArray.mk #[111, 117]) = st [111, 117] := rfl
  have hs3 : AV.str (ByteArray.mk #[104, 118, 118]) = st [104, 118, 118] := rfl
  have e0 : ((0 : Int) != 0) = false := rfl
  have e0' : ((0 : Int) == 0) = true := rfl
  have hasc : asc [104, 118, 118] := by intro x hx; simp at hx; omega
  have e1 : decide (([104, 118, 118] : List Nat) = [104, 118, 118]) = true := by decide
  try simp only [letO_some, hs2]
  apply W32_ok
  unfold W32
  try simp only [letO_some]
  refine d48 ?_
  simp only [letO_some, binF_neq, e0, condA_ff]
  refine d49 ?_
  try simp only [letO_some]
  refine endK_ret ?_
  have e2 : binF Tryz.prog .eql 9 (st [104, 118, 118]) (st [104, 118, 118]) = some (.bool true) := (st_eql hasc hasc).trans (by rw [e1])
  simp only [letO_some, cellsOf?_agg, cellsOf?_int, cellsOf?_bool, cellsOf?_imm, cellsOf?_ref, cellsOf?_nils, faddr_iptr, faddr_ptr, List.drop_succ_cons, List.drop_zero, List.take_succ_cons, List.take_zero, load1_iptr, loadN_iptr, List.length_cons, List.length_nil, Nat.le_refl, if_true, List.getElem?_cons_zero, List.getElem?_cons_succ, List.getD_cons_zero, List.getD_cons_succ, extrF_tup, binF_add, binF_sub, binF_mul, binF_eql, binF_neq, binF_lss, binF_leq, binF_gtr, binF_geq, true_and, e0', gval_bool, Int.reduceBNe, Int.reduceBEq, pickF_true, pickF_false, reduceIte, Bool.true_eq_false, Bool.false_eq_true, if_false, condA_tt, condA_ff, condG_tt, condG_ff, condG_tt', condG_ff', condG_undef, gval_undef, hs3, e2]
  refine exJ (c40 ?_)
  try simp only [letO_some, cellsOf?_agg, cellsOf?_int, cellsOf?_bool, cellsOf?_imm, cellsOf?_ref, cellsOf?_nils, faddr_iptr, faddr_ptr, List.drop_succ_cons, List.drop_zero, List.take_succ_cons, List.take_zero, load1_iptr, loadN_iptr, List.length_cons, List.length_nil, Nat.le_refl, if_true, List.getElem?_cons_zero, List.getElem?_cons_succ, List.getD_cons_zero, List.getD_cons_succ, extrF_tup, binF_add, binF_sub, binF_mul, binF_eql, binF_neq, binF_lss, binF_leq, binF_gtr, binF_geq, true_and, gval_bool, Int.reduceBNe, Int.reduceBEq, pickF_true, pickF_false, reduceIte, Bool.true_eq_false, Bool.false_eq_true, if_false, condA_tt, condA_ff, condG_tt, condG_ff, condG_tt', condG_ff', condG_undef, gval_undef]
  exact endK_ret hk
theorem l31_3 {x y z : AV} (hx : cellsOf? x = some [x]) (hy : cellsOf? y = some [y]) (hz : cellsOf? z = some [z]) : literalF Tryz.prog 31 3 [(0, x), (1, y), (2, z)] = some [x, y, z] := by
  rw [literalF_of (show literalPlan Tryz.prog 31 = some ([.nils], 1) by kernel_rfl) (by decide) (by simp)]
  simp [fillA, hx, hy, hz, splice, rowOf, List.range_succ]
/-- classesWork -/
theorem d7 {H : Heap} {K : AV → Heap → Prop} (hk : K (.bool true) H) : ACalls Tryz.prog 7 [] H K := by
  apply W7_ok
  unfold W7
  have b1 := l35 (x := .int .i64 1) rfl
  have b3 := l35 (x := .int .i64 3) rfl
  have b4 := l31_3 (x := .imm 2 true (ints [1, 2])) (y := .imm 1 true [.int .i64 1]) (z := .imm 1 true [.int .i64 3]) rfl rfl rfl
  simp only [letO_some, l35_2, b1, b3, b4]
  have hsd : Sd 4 [6, 2, 8] := ⟨by omega, by omega, by decide, by decide, by decide⟩
  refine d13 (n := 4) (a := 0) (b := 1) hsd ?_ (by omega) (by omega) ?_
  · refine ⟨_, ⟨rfl, rfl, rfl⟩, ?_⟩
    have hl : lst [6, 2, 8] = [[1, 2], [1], [3]] := by decide
    rw [hl]
    intro r hr
    have : r = 0 ∨ r = 1 ∨ r = 2 := by simp at hr; omega
    rcases this with rfl | rfl | rfl
    · exact ⟨_, rfl, rfl, rfl⟩
    · exact ⟨_, rfl, rfl, rfl⟩
    · exact ⟨_, rfl, rfl, rfl⟩
  · have hc : ([6, 2, 8] : List Nat).countP (fun s => s.testBit 0 != s.testBit 1) = 2 := by decide
    rw [hc]
    have e0 : ((0 : Int) == 0) = true := rfl
    have e2 : ((2 : Int) == 2) = true := rfl
    simp only [letO_some, cellsOf?_agg, cellsOf?_int, cellsOf?_bool, cellsOf?_imm, cellsOf?_ref, cellsOf?_nils, faddr_iptr, faddr_ptr, List.drop_succ_cons, List.drop_zero, List.take_succ_cons, List.take_zero, load1_iptr, loadN_iptr, List.length_cons, List.length_nil, Nat.le_refl, if_true, List.getElem?_cons_zero, List.getElem?_cons_succ, List.getD_cons_zero, List.getD_cons_succ, extrF_tup, binF_add, binF_sub, binF_mul, binF_eql, binF_neq, binF_lss, binF_leq, binF_gtr, binF_geq, true_and, e0, gval_bool, Int.reduceBNe, Int.reduceBEq, pickF_true, pickF_false, reduceIte, Bool.true_eq_false, Bool.false_eq_true, if_false, condA_tt, condA_ff, condG_tt, condG_ff, condG_tt', condG_ff', condG_undef, gval_undef, Int.cast_ofNat_Int, e2]
    refine exJ (c15 ?_)
    try simp only [letO_some, cellsOf?_agg, cellsOf?_int, cellsOf?_bool, cellsOf?_imm, cellsOf?_ref, cellsOf?_nils, faddr_iptr, faddr_ptr, List.drop_succ_cons, List.drop_zero, List.take_succ_cons, List.take_zero, load1_iptr, loadN_iptr, List.length_cons, List.length_nil, Nat.le_refl, if_true, List.getElem?_cons_zero, List.getElem?_cons_succ, List.getD_cons_zero, List.getD_cons_succ, extrF_tup, binF_add, binF_sub, binF_mul, binF_eql, binF_neq, binF_lss, binF_leq, binF_gtr, binF_geq, true_and, gval_bool, Int.reduceBNe, Int.reduceBEq, pickF_true, pickF_false, reduceIte, Bool.true_eq_false, Bool.false_eq_true, if_false, condA_tt, condA_ff, condG_tt, condG_ff, condG_tt', condG_ff', condG_undef, gval_undef]
    refine exJ (d15 ?_)
    try simp only [letO_some, cellsOf?_agg, cellsOf?_int, cellsOf?_bool, cellsOf?_imm, cellsOf?_ref, cellsOf?_nils, faddr_iptr, faddr_ptr, List.drop_succ_cons, List.drop_zero, List.take_succ_cons, List.take_zero, load1_iptr, loadN_iptr, List.length_cons, List.length_nil, Nat.le_refl, if_true, List.getElem?_cons_zero, List.getElem?_cons_succ, List.getD_cons_zero, List.getD_cons_succ, extrF_tup, binF_add, binF_sub, binF_mul, binF_eql, binF_neq, binF_lss, binF_leq, binF_gtr, binF_geq, true_and, gval_bool, Int.reduceBNe, Int.reduceBEq, pickF_true, pickF_false, reduceIte, Bool.true_eq_false, Bool.false_eq_true, if_false, condA_tt, condA_ff, condG_tt, condG_ff, condG_tt', condG_ff', condG_undef, gval_undef]
    exact endK_ret hk
end Go.Proofs.YtmmfelpgcdlgfaaGreatDoor

namespace Go.Proofs.YtmmfelpgcdlgfaaGreatDoor
open Go.Av
set_option linter.unusedVariables false
set_option linter.unusedSimpArgs false
set_option maxRecDepth 8000

theorem both_snoc (P : List (Nat × Nat)) (p : Nat × Nat) : both (P ++ [p]) = both P ++ [p, (p.2, p.1)] := by simp [both]
theorem both_len (P : List (Nat × Nat)) : (both P).length = 2 * P.length := by
  induction P with
  | nil => rfl
  | cons p P ih => rw [both, List.flatMap_cons, List.length_append, ← both, ih]; simp; omega
theorem both_ok {n : Nat} {P : List (Nat × Nat)} (h : Fd n P) (hl : P.length ≤ 8) : Vd n (both P) := by
  refine ⟨h.n1, h.n7, ?_, ?_, ?_, by rw [both_len]; omega⟩
  · rintro ⟨a, b⟩ hr
    rcases mem_both.1 hr with h1 | h1
    · have := h.rng _ h1; simp only at this ⊢; omega
    · have := h.rng _ h1; simp only at this ⊢; omega
  · rintro ⟨a, b⟩ hr
    rcases mem_both.1 hr with h1 | h1
    · have := h.rng _ h1; simp only at this ⊢; omega
    · have := h.rng _ h1; simp only at this ⊢; omega
  · have hrng := h.rng
    have hnd := h.nd
    clear hl h
    induction P with
    | nil => simp [both]
    | cons p P ih =>
      rw [List.pairwise_cons] at hnd
      have hp := hrng p (by simp)
      have ih := ih (fun r hr => hrng r (List.mem_cons_of_mem _ hr)) hnd.2
      have e : both (p :: P) = p :: (p.2, p.1) :: both P := by simp [both]
      rw [e, List.pairwise_cons, List.pairwise_cons]
      obtain ⟨a, b⟩ := p
      simp only at hp
      have no : ∀ q ∈ both P, q ≠ (a, b) ∧ q ≠ (b, a) := by
        rintro ⟨x, y⟩ hq
        rcases mem_both.1 hq with h1 | h1
        · have r := hrng _ (List.mem_cons_of_mem _ h1)
          have ne := hnd.1 _ h1
          simp only [ne_eq, Prod.mk.injEq] at r ne ⊢
          omega
        · have r := hrng _ (List.mem_cons_of_mem _ h1)
          have ne := hnd.1 _ h1
          simp only [ne_eq, Prod.mk.injEq] at r ne ⊢
          omega
      refine ⟨fun q hq => ?_, fun q hq => fun h => (no q hq).2 h.symm, ih⟩
      rcases List.mem_cons.1 hq with rfl | hq
      · simp only [ne_eq, Prod.mk.injEq]; omega
      · exact fun h => (no q hq).1 h.symm

theorem grow_swap {s1 s2 : Nat} {H H1 H' : Heap} {A B : AV} {n m : Nat} {ca cb : List AV} (h1 : Grow s1 H H1 A n ca) (h2 : Grow s2 H1 H' B m cb) : ∃ H2, Grow s2 H H2 B m cb ∧ Grow s1 H2 H' A n ca := by
  rcases h2 with ⟨l2, ⟨rfl, rfl, rfl⟩ | ⟨rfl, rfl⟩ | ⟨b2, hb2, rfl, rfl⟩⟩
  · exact ⟨H, ⟨l2, .inl ⟨rfl, rfl, rfl⟩⟩, h1⟩
  · exact ⟨H, ⟨l2, .inr (.inl ⟨rfl, rfl⟩)⟩, h1⟩
  · rcases h1 with ⟨l1, ⟨rfl, rfl, rfl⟩ | ⟨rfl, rfl⟩ | ⟨b1, hb1, rfl, rfl⟩⟩
    · exact ⟨_, Grow.ref hb2 l2, l1, .inl ⟨rfl, rfl, rfl⟩⟩
    · exact ⟨_, Grow.ref hb2 l2, l1, .inr (.inl ⟨rfl, rfl⟩)⟩
    · have hne : b1 ≠ b2 := Heap.ne_of Heap.put_same hb2
      have hb2' : H b2 = none := by rwa [Heap.put_ne (Ne.symm hne)] at hb2
      refine ⟨H.put b2 cb, Grow.ref hb2' l2, l1, .inr (.inr ⟨b1, by rw [Heap.put_ne hne]; exact hb1, rfl, Heap.put_comm hne⟩)⟩
theorem b39n {x : AV} (hx : cellsOf? x = some [x]) : buildF Tryz.prog 39 [(0, x)] = some (.agg [x, .nils]) := by
  rw [buildF_of (show buildPlan Tryz.prog 39 = some ([.int .i64 0, .nils], [(0, 1), (1, 1)]) by kernel_rfl)]
  simp [fillA, hx, splice]
theorem l31_1 {x : AV} (hx : cellsOf? x = some [x]) : literalF Tryz.prog 31 1 [(0, x)] = some [x] := l31 hx
/-- A list of pairs that is one's own. -/
def PX (H : Heap) (Y : AV) (P : List (Nat × Nat)) : Prop := Y = .nils ∧ P = [] ∨ P ≠ [] ∧ ∃ b, Y = .ref 2 b 0 P.length none ∧ H b = some (P.flatMap prC)
theorem PX.le {H H' : Heap} {Y : AV} {P : List (Nat × Nat)} (h : PX H Y P) (hl : H.le H') : PX H' Y P := by
  rcases h with h | ⟨h1, b, h2, h3⟩
  · exact .inl h
  · exact .inr ⟨h1, b, h2, hl _ _ h3⟩
theorem PX.rp {H : Heap} {Y : AV} {P : List (Nat × Nat)} (h : PX H Y P) : RP H Y P := by
  rcases h with ⟨rfl, rfl⟩ | ⟨h1, b, rfl, h3⟩
  · exact ⟨rfl, rfl⟩
  · have hl := rows_len (f := prC) prC_len P
    exact ⟨hl, rfl, rfl, _, h3, by omega, by rw [List.drop_zero, List.take_of_length_le (by omega)]⟩
theorem cl_snoc (T : List Nat) (s k : Nat) : (List.range (k + 1)).filterMap (clF T s) = (List.range k).filterMap (clF T s) ++ (clF T s k).toList := by
  rw [List.range_succ, List.filterMap_append]
  congr 1
theorem cl_len (T : List Nat) (s k : Nat) : ((List.range k).filterMap (clF T s)).length ≤ k := by
  have := List.length_filterMap_le (clF T s) (List.range k)
  simpa using this
theorem up_mem' {s : Nat} {T : List Nat} : decide ((s : Int) ∈ up T) = decide (s ∈ T) := by
  rw [decide_eq_decide, up, List.mem_map]
  constructor
  · rintro ⟨x, hx, he⟩
    have : x = s := by omega
    exact this ▸ hx
  · exact fun h => ⟨s, h, rfl⟩
theorem flt_ls : ∀ n : Fin 8, ∀ s : Fin 128, s.val < 2 ^ n.val → (List.range n.val).filter (fun i => s.val.testBit i) = lsN s.val := by decide +kernel
theorem own_or {H H' : Heap} {O : AV} {P : List (Nat × Nat)} (hg : Grow 2 H H' O P.length (P.flatMap prC)) (ho : P = [] ∧ O = .nils ∨ P ≠ [] ∧ isOwn O) {H0 : Heap} {X : AV} {n : Nat} {cs : List AV} (hx : Grow 1 H0 H X n cs) :
    ∃ H2, H0.le H2 ∧ Grow 1 H2 H' X n cs ∧ PX H2 O P := by
  rcases ho with ⟨hP, rfl⟩ | ⟨hP, ho⟩
  · rcases hg.2 with ⟨_, _, rfl⟩ | ⟨h, _⟩ | ⟨b, _, h, _⟩
    · exact ⟨H0, Heap.le_refl _, hx, .inl ⟨rfl, hP⟩⟩
    · cases h
    · cases h
  · obtain ⟨b, hb, rfl, rfl⟩ := hg.own ho
    exact ⟨H0.put b (P.flatMap prC), Heap.le_new (none_of_le hx.le hb), alloc_grow hx hb, .inr ⟨hP, b, rfl, Heap.put_same⟩⟩
def u8a (a : List Nat) : List AV := a.map fun (x : Nat) => .int .u8 (x : Int)
/-- TopDivided -/
theorem d3 {y : Nat} {a : List Nat} {H : Heap} {K : AV → Heap → Prop} (hy : y < 256) (ha : a.length = 8) (ha2 : ∀ x ∈ a, x < 256) (hk : K (.bool true) H) :
    ACalls Tryz.prog 3 [.int .u8 (y : Int), .agg (u8a a)] H K := by
  apply W3_ok
  unfold W3
  have hual : (u8a a).length = 8 := by simp [u8a, ha]
  have hm6 : y % 6 < 6 := Nat.mod_lt _ (by omega)
  have hrem2 : binF Tryz.prog .rem 3 (.int .i64 (y : Int)) (.int .i64 6) = some (.int .i64 ((y % 6 : Nat) : Int)) := rem_nat (b := 6) (by omega)
  have hc1 : cellsOf? (.agg (u8a a)) = some (u8a a) := rfl
  have hadd : IntKind.i64.wrap (2 + ((y % 6 : Nat) : Int)) = ((2 + y % 6 : Nat) : Int) := by rw [wrap_i64 (by omega) (by omega)]; omega
  generalize hnn : 2 + y % 6 = n at *
  have hn2 : 2 ≤ n := by omega
  have hn7 : n ≤ 7 := by omega
  have h2n : 2 ^ n ≤ 2 ^ 7 := Nat.pow_le_pow_right (by omega) hn7
  have h2n' : 4 ≤ 2 ^ n := by
    have := Nat.pow_le_pow_right (show 0 < 2 by omega) hn2
    simpa using this
  have hsl : slcArr 8 1 (.iptr (u8a a)) none (some (.int .i64 7)) none = some (.imm 7 false ((u8a a).take 7)) := by
    have n1 : ∀ d, natOf none d = some d := fun d => rfl
    have n2 : ∀ d, natOf (some (.int .i64 7)) d = some 7 := fun d => rfl
    simp only [slcArr, n1, n2, Option.bind_some]
    rw [if_pos ⟨by omega, by omega⟩]
    simp
  have hln : lenA (.imm 7 false ((u8a a).take 7)) = some (.int .i64 7) := rfl
  have hrd : ∀ H', ReadsC 1 H' (.imm 7 false ((u8a a).take 7)) 7 ((u8a a).take 7) := fun H' => ⟨by rw [List.length_take, hual]; omega, rfl, rfl⟩
  simp only [letO_some, hc1, conv53 (n := (y : Int)) (by omega), hrem2, binF_add, hadd, hsl, hln, true_and]
  refine ⟨fun L H' => ∃ (i : Nat) (X Y : AV) (Hg : Heap), eqt L [X, Y, .int .i64 (i : Int)] ∧ i ≤ 7 ∧ H.le Hg ∧ Grow 1 Hg H' X ((a.take i).foldl (dvF n) ([], [])).1.length (ints (up ((a.take i).foldl (dvF n) ([], [])).1)) ∧ PX Hg Y ((a.take i).foldl (dvF n) ([], [])).2,
    fun L _ => (7 - iv L 2).toNat, ⟨0, .nils, .nils, H, rfl, by omega, Heap.le_refl _, Grow.nils 1 H, .inl ⟨rfl, rfl⟩⟩, ?_⟩
  rintro L H5 ⟨i, X, Y, Hg, rfl, hi, hle, hg, hY⟩
  obtain ⟨hDV, hDl⟩ := dv_all (n := n) (by omega) (a.take i)
  rw [List.length_take] at hDl
  have hXl := hg.len
  try simp only [letO_some, cellsOf?_agg, cellsOf?_int, cellsOf?_bool, cellsOf?_imm, cellsOf?_ref, cellsOf?_nils, faddr_iptr, faddr_ptr, List.drop_succ_cons, List.drop_zero, List.take_succ_cons, List.take_zero, load1_iptr, loadN_iptr, List.length_cons, List.length_nil, Nat.le_refl, if_true, List.getElem?_cons_zero, List.getElem?_cons_succ, List.getD_cons_zero, List.getD_cons_succ, extrF_tup, binF_add, binF_sub, binF_mul, binF_eql, binF_neq, binF_lss, binF_leq, binF_gtr, binF_geq, true_and]
  refine condA_t (fun hlt => ?_) (fun hge => ?_)
  · have a1 : i < a.length := by omega
    have htk : (a.take (i + 1)).foldl (dvF n) ([], []) = dvF n ((a.take i).foldl (dvF n) ([], [])) a[i] := by
      rw [List.take_add_one, List.getElem?_eq_getElem a1, Option.toList_some, List.foldl_append]; rfl
    refine ⟨fun L H' => ∃ (X Y : AV) (Hg : Heap), eqt L [X, Y] ∧ H.le Hg ∧ Grow 1 Hg H' X ((a.take (i + 1)).foldl (dvF n) ([], [])).1.length (ints (up ((a.take (i + 1)).foldl (dvF n) ([], [])).1)) ∧ PX Hg Y ((a.take (i + 1)).foldl (dvF n) ([], [])).2, ?_, ?_⟩
    · refine ReadsC.get (Heap.le_refl _) (hrd H5) (x := .int .u8 (a[i] : Int)) (by omega) (by omega) (by rw [Int.toNat_natCast, List.getElem?_take_of_lt (by omega)]; simp [u8a, a1]) ?_
      rw [htk]
      have hai := ha2 _ (List.getElem_mem a1)
      generalize (a.take i).foldl (dvF n) ([], []) = stt at *
      obtain ⟨T, P⟩ := stt
      simp only at hDV hDl hg hY hXl
      have hplen := hDV.plen
      generalize a[i] = z at *
      have w2 : IntKind.i64.wrap (((2 ^ n : Nat) : Int) - 2) = ((2 ^ n - 2 : Nat) : Int) := by rw [wrap_i64 (by omega) (by omega)]; omega
      have hev := and_even (x := z) (n := n) (by omega)
      have hT128 : ∀ t ∈ T, t < 128 := fun t ht => by have := hDV.rng t ht; omega
      have hTg : ∀ i, T.getD i 0 < 128 := fun i => by
        rw [List.getD_eq_getElem?_getD]
        cases hx : T[i]? with
        | none => simp
        | some x => exact hT128 x (List.mem_of_getElem? hx)
      simp only [letO_some, conv53 (n := (z : Int)) (by omega), i64_shl (show n < 8 by omega), binF_sub, w2, i64_and (show z < 1000000 by omega) (show 2 ^ n - 2 < 1000000 by omega), binF_eql, nat_eq0, dvF]
      generalize hs : z &&& (2 ^ n - 2) = s at *
      by_cases hs0 : s = 0
      · have e : (s == 0) = true := by rw [beq_iff_eq]; exact hs0
        simp only [e, gval_bool, Int.reduceBNe, Int.reduceBEq, pickF_true, pickF_false, reduceIte, Bool.true_eq_false, Bool.false_eq_true, if_false, condA_tt, condA_ff, condG_tt, condG_ff, condG_tt', condG_ff', condG_undef, gval_undef, letO_some]
        refine exU ?_
        try simp only [gval_bool, Int.reduceBNe, Int.reduceBEq, pickF_true, pickF_false, reduceIte, Bool.true_eq_false, Bool.false_eq_true, if_false, condA_tt, condA_ff, condG_tt, condG_ff, condG_tt', condG_ff', condG_undef, gval_undef, letO_some]
        rw [if_pos (.inl hs0)]
        exact ⟨X, Y, Hg, rfl, hle, hg, hY⟩
      have e : (s == 0) = false := by rw [beq_eq_false_iff_ne]; exact hs0
      simp only [e, gval_bool, Int.reduceBNe, Int.reduceBEq, pickF_true, pickF_false, reduceIte, Bool.true_eq_false, Bool.false_eq_true, if_false, condA_tt, condA_ff, condG_tt, condG_ff, condG_tt', condG_ff', condG_undef, gval_undef, letO_some]
      refine exJ (c12 hg.reads (by rw [up_length]; omega) ?_)
      rw [up_mem']
      by_cases hsT : s ∈ T
      · rw [decide_eq_true hsT]
        try simp only [gval_bool, Int.reduceBNe, Int.reduceBEq, pickF_true, pickF_false, reduceIte, Bool.true_eq_false, Bool.false_eq_true, if_false, condA_tt, condA_ff, condG_tt, condG_ff, condG_tt', condG_ff', condG_undef, gval_undef, letO_some]
        rw [if_pos (.inr hsT)]
        exact ⟨X, Y, Hg, rfl, hle, hg, hY⟩
      rw [decide_eq_false hsT]
      try simp only [gval_bool, Int.reduceBNe, Int.reduceBEq, pickF_true, pickF_false, reduceIte, Bool.true_eq_false, Bool.false_eq_true, if_false, condA_tt, condA_ff, condG_tt, condG_ff, condG_tt', condG_ff', condG_undef, gval_undef, letO_some]
      rw [if_neg (by rintro (h | h); exact hs0 h; exact hsT h)]
      have hs128 : s < 128 := by omega
      have hY5 : Y = .nils ∧ P = [] ∨ (P ≠ [] ∧ RP H5 Y P ∧ ∃ b, Y = .ref 2 b 0 P.length none) := by
        have h5 := hY.le hg.le
        rcases h5 with h | ⟨h1, b, h2, h3⟩
        · exact .inl h
        · exact .inr ⟨h1, (PX.rp (.inr ⟨h1, b, h2, h3⟩)), b, h2⟩
      refine d6 hY5 (by omega) fun v' H10 hg10 hv'0 => ?_
      have hXl10 := hXl
      simp only [letO_some, hXl, true_and]
      refine ⟨fun L H' => ∃ (k : Nat) (O : AV), eqt L [O, .int .i64 (k : Int)] ∧ k ≤ T.length ∧ Grow 2 H5 H' O (P ++ (List.range k).filterMap (clF T s)).length ((P ++ (List.range k).filterMap (clF T s)).flatMap prC) ∧
          (P ++ (List.range k).filterMap (clF T s) = [] ∧ O = .nils ∨ P ++ (List.range k).filterMap (clF T s) ≠ [] ∧ isOwn O),
        fun L _ => (T.length - iv L 1).toNat, ⟨0, v', rfl, by omega, by simpa using hg10, ?_⟩, ?_⟩
      · simp only [List.range_zero, List.filterMap_nil, List.append_nil]
        exact hv'0
      rintro L H14 ⟨k, O, rfl, hk2, hgO, hOo⟩
      have hcl := cl_len T s k
      have hXr14 := hg.reads.le hgO.le
      try simp only [letO_some, cellsOf?_agg, cellsOf?_int, cellsOf?_bool, cellsOf?_imm, cellsOf?_ref, cellsOf?_nils, faddr_iptr, faddr_ptr, List.drop_succ_cons, List.drop_zero, List.take_succ_cons, List.take_zero, load1_iptr, loadN_iptr, List.length_cons, List.length_nil, Nat.le_refl, if_true, List.getElem?_cons_zero, List.getElem?_cons_succ, List.getD_cons_zero, List.getD_cons_succ, extrF_tup, binF_add, binF_sub, binF_mul, binF_eql, binF_neq, binF_lss, binF_leq, binF_gtr, binF_geq, true_and]
      refine condA_t (fun hlt2 => ?_) (fun hge2 => ?_)
      · have k1 : k < T.length := by omega
        refine ⟨fun L H' => ∃ (O : AV), eqt L [O] ∧ Grow 2 H5 H' O (P ++ (List.range (k + 1)).filterMap (clF T s)).length ((P ++ (List.range (k + 1)).filterMap (clF T s)).flatMap prC) ∧
          (P ++ (List.range (k + 1)).filterMap (clF T s) = [] ∧ O = .nils ∨ P ++ (List.range (k + 1)).filterMap (clF T s) ≠ [] ∧ isOwn O), ?_, ?_⟩
        · refine Reads.get (Heap.le_refl _) hXr14 (by omega) (by rw [up_length]; omega) ?_
          rw [Int.toNat_natCast, up_getD, cl_snoc, ← List.append_assoc]
          have hlen0 : (P ++ (List.range k).filterMap (clF T s)).length ≤ 100 := by rw [List.length_append]; omega
          generalize P ++ (List.range k).filterMap (clF T s) = R at *
          simp only [letO_some, callA, List.append_nil]
          refine d4 (hTg k) hs128 ?_
          unfold clF
          cases hag : agrB (T.getD k 0) s
          · simp only [not_v, Bool.not_false, letO_some, condA_tt, hXl, b30, l24_1, Bool.false_eq_true, if_false, Option.toList_some]
            refine appendA_growR hgO (m := 1) (new := prC (k, T.length)) (by simp [srcOf, prC]) rfl rfl (by omega) (by omega) (by omega) fun v2 H12 hg12 ho12 => ?_
            try simp only [letO_some]
            refine ⟨v2, rfl, ?_, .inr ⟨by simp, ho12⟩⟩
            rw [l24_dec, List.length_append]
            exact hg12
          · simp only [not_v, Bool.not_true, letO_some, condA_ff, if_true, Option.toList_none, List.append_nil]
            exact ⟨O, rfl, hgO, hOo⟩
        · rintro L H15 ⟨O', rfl, hgO', hOo'⟩
          try simp only [letO_some, cellsOf?_agg, cellsOf?_int, cellsOf?_bool, cellsOf?_imm, cellsOf?_ref, cellsOf?_nils, faddr_iptr, faddr_ptr, List.drop_succ_cons, List.drop_zero, List.take_succ_cons, List.take_zero, load1_iptr, loadN_iptr, List.length_cons, List.length_nil, Nat.le_refl, if_true, List.getElem?_cons_zero, List.getElem?_cons_succ, List.getD_cons_zero, List.getD_cons_succ, extrF_tup, binF_add, binF_sub, binF_mul, binF_eql, binF_neq, binF_lss, binF_leq, binF_gtr, binF_geq, true_and]
          rw [wrap_i64 (by omega) (by omega)]
          exact ⟨⟨k + 1, O', rfl, by omega, hgO', hOo'⟩, by simp [iv]; omega⟩
      · have hke : k = T.length := by omega
        subst hke
        have hclP : (List.range T.length).filterMap (clF T s) = clP T s := rfl
        rw [hclP] at hgO hOo hcl
        have hOl := hgO.len
        obtain ⟨H2, hle2, hg2, hPX⟩ := own_or hgO hOo hg
        simp only [letO_some, hOl, binF_leq]
        by_cases h8 : (P ++ clP T s).length ≤ 8
        · have e8 : decide (((P ++ clP T s).length : Int) ≤ 8) = true := decide_eq_true (by omega)
          rw [if_pos h8]
          simp only [e8, condA_tt, letO_some, l35 cellsOf?_int]
          refine appendA_oneR hg2 (by omega) fun v2 H12 hg12 ho12 => ?_
          try simp only [letO_some]
          refine ⟨v2, O, H2, rfl, Heap.le_trans hle hle2, ?_, hPX⟩
          have hup : up (T ++ [s]) = up T ++ [(s : Int)] := by simp [up]
          rw [hup, List.length_append]
          exact hg12
        · have e8 : decide (((P ++ clP T s).length : Int) ≤ 8) = false := decide_eq_false (by omega)
          rw [if_neg h8]
          simp only [e8, condA_ff]
          exact ⟨X, Y, H2, rfl, Heap.le_trans hle hle2, hg2, hY.le hle2⟩
    · rintro L H6 ⟨X', Y', Hg', rfl, hle', hg', hY'⟩
      try simp only [letO_some, cellsOf?_agg, cellsOf?_int, cellsOf?_bool, cellsOf?_imm, cellsOf?_ref, cellsOf?_nils, faddr_iptr, faddr_ptr, List.drop_succ_cons, List.drop_zero, List.take_succ_cons, List.take_zero, load1_iptr, loadN_iptr, List.length_cons, List.length_nil, Nat.le_refl, if_true, List.getElem?_cons_zero, List.getElem?_cons_succ, List.getD_cons_zero, List.getD_cons_succ, extrF_tup, binF_add, binF_sub, binF_mul, binF_eql, binF_neq, binF_lss, binF_leq, binF_gtr, binF_geq, true_and]
      rw [wrap_i64 (by omega) (by omega)]
      exact ⟨⟨i + 1, X', Y', Hg', rfl, by omega, hle', hg', hY'⟩, by simp [iv]; omega⟩
  have hie : i = 7 := by omega
  subst hie
  generalize (a.take 7).foldl (dvF n) ([], []) = stt at *
  obtain ⟨T, P⟩ := stt
  simp only at hDV hDl hg hY hXl
  have hl7 : T.length ≤ 7 := by omega
  have hplen := hDV.plen
  have hleH := Heap.le_trans hle hg.le
  have hXr := hg.reads
  have hYp := hY.le hg.le
  clear hg hY
  simp only [letO_some, hXl, binF_eql, nat_eq0]
  by_cases h0 : T.length = 0
  · have e : (T.length == 0) = true := by rw [beq_iff_eq]; exact h0
    simp only [e, condA_tt]
    refine d7 ?_
    try simp only [letO_some]
    exact endK_pub (Pub.drop hleH) (endK_ret hk)
  have e : (T.length == 0) = false := by rw [beq_eq_false_iff_ne]; exact h0
  have hSd : Sd n T := ⟨hn2, hn7, hDV.rng, hDV.nd, hl7⟩
  have hT128 : ∀ t ∈ T, t < 128 := fun t ht => by have := hDV.rng t ht; omega
  have hr : ∀ r ∈ P, r.1 < r.2 ∧ r.2 < T.length := fun r hrp => by have := (hDV.mem r).1 hrp; exact ⟨this.1, this.2.1⟩
  have hF : Fd T.length P := ⟨by omega, hl7, hr, hDV.pnd, by omega⟩
  simp only [e, condA_ff, letO_some, hXl, true_and]
  refine ⟨fun L H' => ∃ (i : Nat) (Z : AV) (rows : List AV) (Hq : Heap), eqt L [Z, .int .i64 (i : Int)] ∧ i ≤ T.length ∧ H5.le Hq ∧ Grow 1 Hq H' Z i rows ∧ ∀ r, r < i → ∃ b, rows[r]? = some b ∧ Reads Hq b (up (lsN (T.getD r 0))),
    fun L _ => (T.length - iv L 1).toNat, ⟨0, .nils, [], H5, rfl, by omega, Heap.le_refl _, Grow.nils 1 H5, by simp⟩, ?_⟩
  rintro L H6 ⟨i, Z, rows, Hq, rfl, hi2, hleq, hgq, hrows⟩
  have hrl : rows.length = i := by have := hgq.1; omega
  try simp only [letO_some, cellsOf?_agg, cellsOf?_int, cellsOf?_bool, cellsOf?_imm, cellsOf?_ref, cellsOf?_nils, faddr_iptr, faddr_ptr, List.drop_succ_cons, List.drop_zero, List.take_succ_cons, List.take_zero, load1_iptr, loadN_iptr, List.length_cons, List.length_nil, Nat.le_refl, if_true, List.getElem?_cons_zero, List.getElem?_cons_succ, List.getD_cons_zero, List.getD_cons_succ, extrF_tup, binF_add, binF_sub, binF_mul, binF_eql, binF_neq, binF_lss, binF_leq, binF_gtr, binF_geq, true_and]
  refine condA_t (fun hlt => ?_) (fun hge2 => ?_)
  · have i1 : i < T.length := by omega
    have hXr6 := hXr.le (Heap.le_trans hleq hgq.le)
    refine Reads.get (Heap.le_refl _) hXr6 (by omega) (by rw [up_length]; omega) ?_
    rw [Int.toNat_natCast, up_getD]
    have hmem : T.getD i 0 ∈ T := by rw [List.getD_eq_getElem?_getD, List.getElem?_eq_getElem i1]; exact List.getElem_mem i1
    obtain ⟨s0, s1, s2⟩ := hDV.rng _ hmem
    have hfl := flt_ls ⟨n, by omega⟩ ⟨T.getD i 0, by omega⟩ s1
    simp only at hfl
    have hTi : T.getD i 0 = T.getD i 0 := rfl
    generalize hsi : T.getD i 0 = s at *
    try simp only [letO_some, true_and]
    refine ⟨fun L H' => ∃ (k : Nat) (O : AV), eqt L [O, .int .i64 (k : Int)] ∧ k ≤ n ∧ Grow 1 H6 H' O ((List.range k).filter fun x => s.testBit x).length (ints (up ((List.range k).filter fun x => s.testBit x))),
      fun L _ => (n - iv L 1).toNat, ⟨0, .nils, rfl, by omega, Grow.nils 1 H6⟩, ?_⟩
    rintro L H7 ⟨k, O, rfl, hk2, hgO⟩
    have hfle : ((List.range k).filter fun x => s.testBit x).length ≤ k := by
      have := List.length_filter_le (fun x => s.testBit x) (List.range k)
      simpa using this
    try simp only [letO_some, cellsOf?_agg, cellsOf?_int, cellsOf?_bool, cellsOf?_imm, cellsOf?_ref, cellsOf?_nils, faddr_iptr, faddr_ptr, List.drop_succ_cons, List.drop_zero, List.take_succ_cons, List.take_zero, load1_iptr, loadN_iptr, List.length_cons, List.length_nil, Nat.le_refl, if_true, List.getElem?_cons_zero, List.getElem?_cons_succ, List.getD_cons_zero, List.getD_cons_succ, extrF_tup, binF_add, binF_sub, binF_mul, binF_eql, binF_neq, binF_lss, binF_leq, binF_gtr, binF_geq, true_and]
    refine condA_t (fun hlt2 => ?_) (fun hge3 => ?_)
    · have k1 : k < n := by omega
      have hfs : (List.range (k + 1)).filter (fun x => s.testBit x) = (List.range k).filter (fun x => s.testBit x) ++ [k].filter (fun x => s.testBit x) := by rw [List.range_succ, List.filter_append]
      refine ⟨fun L H' => ∃ (O : AV), eqt L [O] ∧ Grow 1 H6 H' O ((List.range (k + 1)).filter fun x => s.testBit x).length (ints (up ((List.range (k + 1)).filter fun x => s.testBit x))), ?_, ?_⟩
      · rw [hfs]
        have hone : ∀ t, binF Tryz.prog .and t (.int .i64 ((s / 2 ^ k : Nat) : Int)) (.int .i64 1) = some (.int .i64 ((s / 2 ^ k &&& 1 : Nat) : Int)) := fun t => i64_and (b := 1) (by have := Nat.div_le_self s (2 ^ k); omega) (by omega)
        simp only [letO_some, i64_shr (show k < 64 by omega), hone, binF_eql, u64_bit]
        cases hb : s.testBit k
        · have hf1 : [k].filter (fun x => s.testBit x) = [] := by simp [hb]
          simp only [condA_ff, hf1, List.append_nil]
          exact ⟨O, rfl, hgO⟩
        · have hf1 : [k].filter (fun x => s.testBit x) = [k] := by simp [hb]
          simp only [condA_tt, letO_some, hf1, l35 cellsOf?_int]
          refine appendA_oneR hgO (by omega) fun v2 H12 hg12 ho12 => ?_
          try simp only [letO_some]
          have hup : up ((List.range k).filter (fun x => s.testBit x) ++ [k]) = up ((List.range k).filter (fun x => s.testBit x)) ++ [(k : Int)] := by simp [up]
          refine ⟨v2, rfl, ?_⟩
          rw [hup, List.length_append]
          exact hg12
      · rintro L H8 ⟨O', rfl, hgO'⟩
        try simp only [letO_some, cellsOf?_agg, cellsOf?_int, cellsOf?_bool, cellsOf?_imm, cellsOf?_ref, cellsOf?_nils, faddr_iptr, faddr_ptr, List.drop_succ_cons, List.drop_zero, List.take_succ_cons, List.take_zero, load1_iptr, loadN_iptr, List.length_cons, List.length_nil, Nat.le_refl, if_true, List.getElem?_cons_zero, List.getElem?_cons_succ, List.getD_cons_zero, List.getD_cons_succ, extrF_tup, binF_add, binF_sub, binF_mul, binF_eql, binF_neq, binF_lss, binF_leq, binF_gtr, binF_geq, true_and]
        rw [wrap_i64 (by omega) (by omega)]
        exact ⟨⟨k + 1, O', rfl, by omega, hgO'⟩, by simp [iv]; omega⟩
    · have hke : k = n := by omega
      subst hke
      rw [hfl] at hgO
      obtain ⟨H2, gO, gZ⟩ := grow_swap hgq hgO
      have hOr := gO.reads
      simp only [letO_some, l31_1 hgO.cells]
      refine appendA_growR gZ (m := 1) (new := [O]) (by simp [srcOf]) (by simp [hgO.scalar]) rfl (by omega) (by omega) (by omega) fun v2 H12 hg12 ho12 => ?_
      try simp only [letO_some, binF_add]
      rw [wrap_i64 (by omega) (by omega)]
      refine ⟨⟨i + 1, v2, rows ++ [O], H2, rfl, by omega, Heap.le_trans hleq gO.le, hg12, fun r hr2 => ?_⟩, by simp [iv]; omega⟩
      by_cases hre : r = i
      · subst hre
        refine ⟨O, ?_, by rw [hsi]; exact hOr⟩
        rw [List.getElem?_append_right (by omega), hrl, Nat.sub_self]; rfl
      · obtain ⟨b, hb1, hb2⟩ := hrows r (by omega)
        exact ⟨b, by rw [List.getElem?_append_left (by omega)]; exact hb1, hb2.le gO.le⟩
  have hie : i = T.length := by omega
  subst hie
  have hlst : (lst T).length = T.length := by simp [lst]
  have hRT : RT H6 Z (lst T) := by
    refine ⟨rows, by rw [hlst]; exact hgq.readsC, fun r hr2 => ?_⟩
    rw [hlst] at hr2
    obtain ⟨b, hb1, hb2⟩ := hrows r hr2
    refine ⟨b, hb1, ?_⟩
    have : (lst T).getD r [] = up (lsN (T.getD r 0)) := by
      simp [lst, List.getD_eq_getElem?_getD, hr2]
    rw [this]; exact hb2.le hgq.le
  have hle6 := Heap.le_trans hleq hgq.le
  have hleH6 := Heap.le_trans hleH hle6
  have hYp6 := hYp.le hle6
  have hYr := hYp6.rp
  have hYl := ReadsC.len hYr
  have hYc := ReadsC.cells hYr
  clear hgq
  try simp only [letO_some]
  refine d8 hSd hRT ?_
  simp only [letO_some, cellsOf?_agg, cellsOf?_int, cellsOf?_bool, cellsOf?_imm, cellsOf?_ref, cellsOf?_nils, faddr_iptr, faddr_ptr, List.drop_succ_cons, List.drop_zero, List.take_succ_cons, List.take_zero, load1_iptr, loadN_iptr, List.length_cons, List.length_nil, Nat.le_refl, if_true, List.getElem?_cons_zero, List.getElem?_cons_succ, List.getD_cons_zero, List.getD_cons_succ, extrF_tup, binF_add, binF_sub, binF_mul, binF_eql, binF_neq, binF_lss, binF_leq, binF_gtr, binF_geq, true_and, hXl, b27 (x := .int .i64 (T.length : Int)) (y := Y) rfl hYc]
  refine c10 hF hYr ?_
  simp only [letO_some, cellsOf?_agg, cellsOf?_int, cellsOf?_bool, cellsOf?_imm, cellsOf?_ref, cellsOf?_nils, faddr_iptr, faddr_ptr, List.drop_succ_cons, List.drop_zero, List.take_succ_cons, List.take_zero, load1_iptr, loadN_iptr, List.length_cons, List.length_nil, Nat.le_refl, if_true, List.getElem?_cons_zero, List.getElem?_cons_succ, List.getD_cons_zero, List.getD_cons_succ, extrF_tup, binF_add, binF_sub, binF_mul, binF_eql, binF_neq, binF_lss, binF_leq, binF_gtr, binF_geq, true_and, hXl, b39n (x := .int .i64 (T.length : Int)) rfl]
  refine alloc_store (cs := [.int .i64 (T.length : Int), .nils]) rfl rfl rfl rfl fun b7 hb7 => ?_
  have hle7 := Heap.le_new (c := [.int .i64 (T.length : Int), .nils]) hb7
  have h7 : (H6.put b7 [.int .i64 (T.length : Int), .nils]) b7 = some [.int .i64 (T.length : Int), .nils] := Heap.put_same
  generalize H6.put b7 [.int .i64 (T.length : Int), .nils] = H7 at *
  have f6 : ∀ b, faddr 1 (.ptr b 0) = some (.ptr b 1) := fun b => rfl
  try simp only [letO_some, hYl]
  refine ⟨fun L H' => ∃ (i : Nat) (W : AV) (Hg : Heap), eqt L [.int .i64 (i : Int)] ∧ i ≤ P.length ∧ Grow 2 Hg H' W (both (P.take i)).length ((both (P.take i)).flatMap prC) ∧ Hg b7 = some [.int .i64 (T.length : Int), W] ∧ H6.le Hg,
    fun L _ => (P.length - iv L 0).toNat, ⟨0, .nils, H7, rfl, by omega, Grow.nils 2 H7, h7, hle7⟩, ?_⟩
  rintro L H8 ⟨i, W, Hg8, rfl, hi3, hg, g7, hle8⟩
  try simp only [letO_some, cellsOf?_agg, cellsOf?_int, cellsOf?_bool, cellsOf?_imm, cellsOf?_ref, cellsOf?_nils, faddr_iptr, faddr_ptr, List.drop_succ_cons, List.drop_zero, List.take_succ_cons, List.take_zero, load1_iptr, loadN_iptr, List.length_cons, List.length_nil, Nat.le_refl, if_true, List.getElem?_cons_zero, List.getElem?_cons_succ, List.getD_cons_zero, List.getD_cons_succ, extrF_tup, binF_add, binF_sub, binF_mul, binF_eql, binF_neq, binF_lss, binF_leq, binF_gtr, binF_geq, true_and]
  refine condA_t (fun hlt => ?_) (fun hge3 => ?_)
  · have a1 : i < P.length := by omega
    have hl16 : (both (P.take i)).length ≤ 16 := by rw [both_len, List.length_take]; omega
    refine ReadsC.getN (Heap.le_trans hle8 hg.le) hYr (by omega) (by omega) ?_
    rw [Int.toNat_natCast, rows_get prC_len (x := P[i]) (by simp [a1])]
    have htk : both (P.take (i + 1)) = both (P.take i) ++ [P[i], (P[i].2, P[i].1)] := by
      rw [List.take_add_one, List.getElem?_eq_getElem a1, Option.toList_some, both_snoc]
    generalize P[i] = p at *
    refine alloc_store (cs := prC p) rfl rfl rfl rfl fun b9 hb9 => ?_
    have h9 : (H8.put b9 (prC p)) b9 = some (prC p) := Heap.put_same
    have hg9 : Grow 2 (Hg8.put b9 (prC p)) (H8.put b9 (prC p)) W _ _ := alloc_grow hg hb9
    have hln2 := Heap.le_new (c := prC p) (none_of_le hg.le hb9)
    have hle9 : H6.le (Hg8.put b9 (prC p)) := Heap.le_trans hle8 hln2
    have g79 := hln2 _ _ g7
    generalize H8.put b9 (prC p) = H9 at *
    generalize Hg8.put b9 (prC p) = Hg9 at *
    have x0 : idxArr 2 1 (.ptr b9 0) (.int .i64 0) = some (.ptr b9 0) := rfl
    have x1 : idxArr 2 1 (.ptr b9 0) (.int .i64 1) = some (.ptr b9 1) := rfl
    have l0 : load1 (.ptr b9 0) H9 = some (.int .i64 (p.1 : Int)) := load1_at h9 rfl
    have l1 : load1 (.ptr b9 1) H9 = some (.int .i64 (p.2 : Int)) := load1_at h9 rfl
    have lN : loadN 2 (.ptr b9 0) H9 = some (.agg (prC p)) := by simp [loadN, cellsAt?, h9, prC]
    have lX : load1 (.ptr b7 1) H9 = some W := load1_at (hg9.le _ _ g79) rfl
    simp only [x0, x1, l0, l1, lN, lX, f6, letO_some, b30, l24_2]
    refine appendA_growR hg9 (m := 2) (new := prC p ++ prC (p.2, p.1)) (by simp [srcOf, prC]) rfl rfl (by omega) (by omega) (by omega) fun v' H10 hg10 ho10 => ?_
    try simp only [f6, letO_some]
    refine storeA_of (cs := [v']) (hg10.le _ _ g79) hg10.cells (by simp [hg10.scalar]) rfl (by simp) ?_
    have hsp : splice [.int .i64 (T.length : Int), W] 1 [v'] = [.int .i64 (T.length : Int), v'] := rfl
    rw [hsp]
    try simp only [letO_some, binF_add]
    rw [wrap_i64 (by omega) (by omega)]
    have hg11 := hg10.put g79 (y := [.int .i64 (T.length : Int), v'])
    refine ⟨⟨i + 1, v', Hg9.put b7 [.int .i64 (T.length : Int), v'], rfl, by omega, ?_, Heap.put_same, Heap.le_put hle9 hb7⟩, by simp [iv]; omega⟩
    rw [htk]
    have e1 : ((both (P.take i) ++ [p, (p.2, p.1)]).flatMap prC) = (both (P.take i)).flatMap prC ++ (prC p ++ prC (p.2, p.1)) := by simp
    have e2 : (both (P.take i) ++ [p, (p.2, p.1)]).length = (both (P.take i)).length + 2 := by simp
    rw [e1, e2]
    exact hg11
  have hie : i = P.length := by omega
  subst hie
  rw [List.take_length] at hg
  have hV := both_ok hF hplen
  have h12 := kern_le hl7 hr
  have hWr : RP H8 W (both P) := hg.readsC
  have l7 : loadN 2 (.ptr b7 0) H8 = some (.agg [.int .i64 (T.length : Int), W]) := loadN_at (cells := [.int .i64 (T.length : Int), W]) (hg.le _ _ g7)
  have hleH8 := Heap.le_trans hleH6 (Heap.le_trans hle8 hg.le)
  clear hg
  simp only [l7, letO_some]
  refine c9s hV hWr h12 fun Ks hp hsr => ?_
  obtain ⟨v1, ⟨i0, v2, v3⟩, v4⟩ := divided_law hDV hl7 hp hsr
  have hKl : Ks.length ≤ 12 := by rw [hp.length_eq]; exact h12
  have hml := mo_len (frA T) (List.range (2 ^ T.length))
  have hml' : (moS T).length ≤ 7 := hml
  have e0 : ((0 : Int) != 0) = false := rfl
  have hla : ∀ l : List Nat, lenA (sl (up l)) = some (.int .i64 (l.length : Int)) := fun l => by simp [sl, lenA]
  have wsub : IntKind.i64.wrap ((T.length : Int) - ((shS T.length P).1.length : Int)) = ((moS T).length : Int) := by rw [wrap_i64 (by omega) (by omega)]; omega
  have een : (((moS T).length : Int) != ((moS T).length : Int)) = false := by simp
  have hlK : lenA (tl Ks) = some (.int .i64 Ks.length) := rfl
  simp only [letO_some, cellsOf?_agg, cellsOf?_int, cellsOf?_bool, cellsOf?_imm, cellsOf?_ref, cellsOf?_nils, faddr_iptr, faddr_ptr, List.drop_succ_cons, List.drop_zero, List.take_succ_cons, List.take_zero, load1_iptr, loadN_iptr, List.length_cons, List.length_nil, Nat.le_refl, if_true, List.getElem?_cons_zero, List.getElem?_cons_succ, List.getD_cons_zero, List.getD_cons_succ, extrF_tup, binF_add, binF_sub, binF_mul, binF_eql, binF_neq, binF_lss, binF_leq, binF_gtr, binF_geq, true_and, e0, gval_bool, Int.reduceBNe, Int.reduceBEq, pickF_true, pickF_false, reduceIte, Bool.true_eq_false, Bool.false_eq_true, if_false, condA_tt, condA_ff, condG_tt, condG_ff, condG_tt', condG_ff', condG_undef, gval_undef, hXl, hla, wsub, een, hlK]
  refine ⟨fun L H' => ∃ (i : Nat), eqt L [.int .i64 (i : Int)] ∧ i ≤ Ks.length ∧ eqt H' H8 ∧ ∀ j, j < i → (lsN (Ks.getD j 0)).length ≠ (moS T).length,
    fun L _ => (Ks.length - iv L 0).toNat, ⟨0, rfl, by omega, rfl, by simp⟩, ?_⟩
  rintro L H9 ⟨i, rfl, hi4, rfl, hno⟩
  try simp only [letO_some, cellsOf?_agg, cellsOf?_int, cellsOf?_bool, cellsOf?_imm, cellsOf?_ref, cellsOf?_nils, faddr_iptr, faddr_ptr, List.drop_succ_cons, List.drop_zero, List.take_succ_cons, List.take_zero, load1_iptr, loadN_iptr, List.length_cons, List.length_nil, Nat.le_refl, if_true, List.getElem?_cons_zero, List.getElem?_cons_succ, List.getD_cons_zero, List.getD_cons_succ, extrF_tup, binF_add, binF_sub, binF_mul, binF_eql, binF_neq, binF_lss, binF_leq, binF_gtr, binF_geq, true_and]
  refine condA_t (fun hlt => ?_) (fun hge4 => ?_)
  · have a1 : i < Ks.length := by omega
    refine ReadsC.get (v := tl Ks) (Heap.le_refl H9) (n := Ks.length) (cells := Ks.map kl) ⟨by simp, rfl, rfl⟩ (x := kl (Ks.getD i 0)) (by omega) (by omega) (by rw [Int.toNat_natCast, List.getElem?_map, List.getElem?_eq_getElem a1, List.getD_eq_getElem?_getD, List.getElem?_eq_getElem a1]; rfl) ?_
    have hls := ls_len (Ks.getD i 0)
    have hlk : lenA (kl (Ks.getD i 0)) = some (.int .i64 ((lsN (Ks.getD i 0)).length : Nat)) := by simp [kl, sl, lenA]
    simp only [letO_some, hlk, hla, binF_eql]
    by_cases he : (lsN (Ks.getD i 0)).length = (moS T).length
    · have e1 : (((lsN (Ks.getD i 0)).length : Int) == ((moS T).length : Int)) = true := by rw [beq_iff_eq]; omega
      have hsame := v4 i a1 hno he
      simp only [e1, condA_tt]
      refine c14 (Reads.sl _ _) (Reads.sl _ _) (by rw [up_length]; omega) (by rw [up_length]; omega) ?_
      rw [hsame, decide_eq_true rfl]
      try simp only [letO_some, gval_bool, Int.reduceBNe, Int.reduceBEq, pickF_true, pickF_false, reduceIte, Bool.true_eq_false, Bool.false_eq_true, if_false, condA_tt, condA_ff, condG_tt, condG_ff, condG_tt', condG_ff', condG_undef, gval_undef]
      refine exJ (d7 ?_)
      try simp only [letO_some, gval_bool, Int.reduceBNe, Int.reduceBEq, pickF_true, pickF_false, reduceIte, Bool.true_eq_false, Bool.false_eq_true, if_false, condA_tt, condA_ff, condG_tt, condG_ff, condG_tt', condG_ff', condG_undef, gval_undef]
      exact endK_pub (Pub.drop hleH8) (endK_ret hk)
    · have e1 : (((lsN (Ks.getD i 0)).length : Int) == ((moS T).length : Int)) = false := by rw [beq_eq_false_iff_ne]; omega
      simp only [e1, condA_ff, letO_some, binF_add]
      rw [wrap_i64 (by omega) (by omega)]
      refine ⟨⟨i + 1, rfl, by omega, rfl, fun j hj => ?_⟩, by simp [iv]; omega⟩
      by_cases hje : j = i
      · subst hje; exact he
      · exact hno j (by omega)
  · exact absurd v3 (hno i0 (by omega))
namespace topDivided
theorem law {b0 : Nat} {g : List Nat} (h : b0 < 256) (h0 : g.length = 8) (h1 : ∀ x ∈ g, x < 256) : ACalls Tryz.prog 3 [.int .u8 (b0 : Int), .agg (g.map fun (x : Nat) => .int .u8 (x : Int))] Heap.none fun r _ => r = .bool true :=
  d3 h h0 h1 rfl
end topDivided
end Go.Proofs.YtmmfelpgcdlgfaaGreatDoor

/- From a walk to a tied row: what the listed variables hold. -/
set_option linter.unusedVariables false
namespace Go.Proofs.YtmmfelpgcdlgfaaGreatDoor
open Go.ChangeShapes Go.WideShapes Go.ChangeAt Go.RowKit Go.Av

theorem ownK : ownKnob Tryz.prog.godebug = none := by kernel_rfl
theorem laidOutK : laidOutB Tryz.prog = true := by kernel_rfl
theorem g64 : Tryz.prog.globalNamed "math/bits.deBruijn64tab" = some 1 := by kernel_rfl
theorem g64t : (Tryz.prog.globals[1]?).map (·.type) = some 114 := by kernel_rfl
theorem u114 : Tryz.prog.underlying 114 = some (.array 64 5) := by kernel_rfl
theorem u5 : Tryz.prog.underlying 5 = some (.int .u8) := by kernel_rfl
theorem k5 : Tryz.prog.cellsOf 5 = 1 := by kernel_rfl
theorem k114 : Tryz.prog.cellsOf 114 = 64 := by kernel_rfl
abbrev laidL : List (String × DataW Unit) := [("math/bits.deBruijn32tab", Rows.laid_math_bits_deBruijn32tab), ("math/bits.deBruijn64tab", Rows.laid_math_bits_deBruijn64tab), ("unicode/utf8.acceptRanges", Rows.laid_unicode_utf8_acceptRanges), ("unicode/utf8.first", Rows.laid_unicode_utf8_first)]
def vals64 : List Int := [0, 1, 56, 2, 57, 49, 28, 3, 61, 58, 42, 50, 38, 29, 17, 4, 62, 47, 59, 36, 45, 43, 51, 22, 53, 39, 33, 30, 24, 18, 12, 5, 63, 55, 48, 27, 60, 41, 37, 16, 46, 35, 44, 21, 52, 32, 23, 11, 54, 26, 40, 15, 34, 20, 31, 10, 25, 14, 19, 9, 13, 8, 7, 6]
theorem laid64 : (Rows.laid_math_bits_deBruijn64tab : DataW Unit) = .agg (vals64.map fun n => .lit (.int .u8 n)) := by rfl
theorem tz64_eq : tz64 = vals64.map (.int .u8) := by rfl
/-- WHAT THE CONDITION GIVES A WALK. -/
theorem glb_of_laid {W : World} (h : laidMetH Tryz.prog laidL W) : Glb Tryz.prog (E0 W) := by
  rw [MakeChecks.laidMetH_plain _ _ _ (by kernel_rfl)] at h
  obtain ⟨ps, h1, _⟩ := h
  obtain ⟨_, _, _, _, _, _, _, _, _, _, h2, _⟩ := h1
  obtain ⟨g, t, cs, fuel, p, q, e1, e2, e3, e4, _, _⟩ := h2
  obtain rfl : (1 : Nat) = g := Option.some.inj (g64.symm.trans e1)
  obtain rfl : 114 = t := Option.some.inj (g64t.symm.trans e2)
  intro g cells hg
  unfold globs at hg
  rw [g64] at hg
  split at hg
  · rename_i hh
    cases hh
    cases hg
    obtain ⟨xs, m, _, hx, hl, hxl, hel⟩ := DataW.trod_array u114 e4
    rw [k114] at hl
    have hcs : ∀ i, i < 64 → cs[i]? = some (.int .u8 (vals64.getD i 0)) := by
      intro i hi
      have h5 := hel i hi
      rw [k5, Nat.mul_one] at h5
      have hxi : xs[i]? = some xs[i] := by simp [hxl, hi]
      rw [hxi] at h5
      obtain ⟨n, hn, hx5, _⟩ := DataW.trod_int u5 h5
      have hval : n = vals64.getD i 0 := by
        have h6 : (xs.map (·.1))[i]? = some (DataW.lit (.int .u8 n)) := by
          rw [List.getElem?_map, hxi, hx5]; rfl
        have h7 : (xs.map (·.1)) = vals64.map fun n => DataW.lit (.int .u8 n) := by
          have := congrArg Prod.fst hx
          rw [laid64] at this
          injection this with this
          exact this.symm
        rw [h7, List.getElem?_map] at h6
        have h8 : vals64[i]? = some (vals64.getD i 0) := by
          have : i < vals64.length := hi
          rw [List.getD_eq_getElem?_getD, List.getElem?_eq_getElem this]; rfl
        rw [h8] at h6
        simp only [Option.map_some, Option.some.injEq, DataW.lit.injEq, Lit.int.injEq, true_and] at h6
        exact h6.symm
      have h9 : ((cs.toList.drop i).take 1)[0]? = some (.int .u8 n) := by rw [hn]; rfl
      rw [List.getElem?_take_of_lt (by omega), List.getElem?_drop, Nat.add_zero] at h9
      rw [← hval]
      simpa using h9
    -- the block
    have hblk : ∃ T fr, W.heap[1]? = some (.cells cs T fr) := by
      unfold World.var? at e3
      rw [g64] at e3
      simp only [Option.bind_some] at e3
      split at e3
      · rename_i c T fr hh
        cases e3
        exact ⟨T, fr, hh⟩
      · cases e3
    obtain ⟨T, fr, hblk⟩ := hblk
    refine Rep.iptr tz64 1 0 cs T fr (fun i => .int .u8 (vals64.getD i 0)) hblk (fun i hi => ?_) (fun i hi => ?_)
    · rw [Nat.zero_add]; exact hcs i hi
    · have h1 : i < vals64.length := hi
      have : tz64[i] = .int .u8 (vals64.getD i 0) := by
        have e : tz64[i]? = some (.int .u8 (vals64.getD i 0)) := by
          rw [tz64_eq, List.getElem?_map, List.getD_eq_getElem?_getD, List.getElem?_eq_getElem h1]; rfl
        rw [List.getElem?_eq_getElem hi] at e
        exact Option.some.inj e
      exact Eq.mpr (congrArg (fun z => Rep (E0 W) z (Value.int .u8 (vals64.getD i 0))) this) (Rep.int _ _)
  · cases hg
end Go.Proofs.YtmmfelpgcdlgfaaGreatDoor

/- A world that meets the condition; the row's builder. -/
set_option linter.unusedVariables false
namespace Go.Proofs.YtmmfelpgcdlgfaaGreatDoor
open Go.ChangeShapes Go.WideShapes Go.ChangeAt Go.RowKit Go.Av

def vals32 : List Int := [0, 1, 28, 2, 29, 14, 24, 3, 30, 22, 20, 15, 25, 17, 4, 8, 31, 27, 13, 23, 21, 19, 16, 7, 26, 12, 18, 6, 11, 5, 10, 9]
def valsA : List Int := [128, 191, 160, 191, 128, 159, 144, 191, 128, 143] ++ List.replicate 22 0
/-- A world that meets the condition: the settled one, the tables laid. -/
noncomputable def laidWorld (os : Os) (blocks : Array Obj) : World :=
  let w0 := World.holding Tryz.prog os ⟨blocks, #[], []⟩
  { w0 with heap := (((w0.heap.modify 0 fun
      | .cells _ t frozen => .cells (vals32.map (Value.int .u8)).toArray t frozen
      | o => o).modify 1 fun
      | .cells _ t frozen => .cells (vals64.map (Value.int .u8)).toArray t frozen
      | o => o).modify 2 fun
      | .cells _ t frozen => .cells (Go.Pinned.utf8FirstZ.map fun (n : Nat) => Value.int .u8 (n : Int)).toArray t frozen
      | o => o).modify 3 fun
      | .cells _ t frozen => .cells (valsA.map (Value.int .u8)).toArray t frozen
      | o => o }
set_option maxRecDepth 100000 in
theorem laidWorld_met0 (os : Os) (args : Array Value) : laidMetH Tryz.prog laidL ((laidWorld os #[]).forCall (fun _ _ => 0) ⟨#[], args, []⟩).memory :=
  laidMetH_of_parts (laidMet_of_run3 80 (by kernel_rfl) (by kernel_rfl) (by kernel_rfl)) (by kernel_rfl)
end Go.Proofs.YtmmfelpgcdlgfaaGreatDoor

/- MADE BY PROGRAM (rowt.py): the row and the tied card of TopDivided. -/
namespace Go.Proofs.YtmmfelpgcdlgfaaGreatDoor.topDivided
open Go.ChangeShapes Go.WideShapes Go.ChangeAt Go.RowKit Go.Av
set_option linter.unusedVariables false

set_option maxRecDepth 100000 in
theorem lifted (os : Os) (started : os.Started) (H : Type) (enc : TypeId × Value → H) :
    ReturnsInHanded {} Tryz.checked os 3 .any (fun w args => (Rows.topDividedSpec.pre enc Tryz.prog Tryz.f3 [] false w args ∧ laidMetH Tryz.prog laidL w) ∧ sizedMet enc Tryz.prog Tryz.f3 (OpenSpec.ofChange Rows.topDividedSpec) false w args)
      (Rows.topDividedSpec.post enc Tryz.prog Tryz.f3 false true false false) := by
  refine returnsInHanded_of_change_and (C := Tryz.checked) (X := fun w _ => laidMetH Tryz.prog laidL w) (fun _ _ _ hh h => h.of_heap hh) ownK started (by kernel_rfl) Tryz.func3
    (ChangeSpec.witness_at (enc := enc) (C := Tryz.checked) (os := os) (X := fun w _ => laidMetH Tryz.prog laidL w) false (laidWorld os #[]) #[.int .u8 0, .agg #[.int .u8 0, .int .u8 0, .int .u8 0, .int .u8 0, .int .u8 0, .int .u8 0, .int .u8 0, .int .u8 0]] 8 rfl (by kernel_rfl) (by kernel_rfl) (by kernel_rfl) (by kernel_rfl) (by kernel_rfl) (laidWorld_met0 os _)) ?_
  intro W base args ds gs before hval0 hW hcnd _ hL _
  have hval : ∀ (j : Nat) t v, Tryz.f3.params[j]? = some t → args[j]? = some v → Value.okWide Tryz.prog W .any base t v := hval0
  have hW' := hW
  obtain ⟨p, q, hA0, hV, rfl, hfz, hnd⟩ := hW
  have hA : DataW.TrodAll enc Tryz.prog W 0 (fun _ => true) true Tryz.f3.params.toList args.toList ds p := hA0
  have hA1 := hA
  rw [Tryz.params3] at hA hval
  obtain ⟨rfl, rfl⟩ := trodVars_none hV
  clear hA0 hval0
  simp only [List.append_nil] at hW'
  have hlt : ∀ x ∈ p, x.block < W.heap.size := fun x hx => by simpa using hW'.lt x hx
  obtain ⟨v0, v1, d0, d1, p0, p1, rfl, rfl, rfl, h0, h1⟩ := trodAll_two hA
  obtain ⟨b0, rfl, bx0⟩ := rep_u8 Tryz.underlying5 (hval 0 5 v0 rfl rfl)
  obtain ⟨a1, al1, ax1, r1⟩ := rep_row (E := E0 W) (n := 8) (u := 5) (.inr ⟨_, _, Tryz.underlying22⟩) (by kernel_rfl) (by kernel_rfl) Tryz.underlying5 (hval 1 22 v1 rfl rfl)
  refine ((law bx0 al1 ax1).2 (E0 W) W [.int .u8 (b0 : Int), v1] (glb_of_laid hL) (st0 W) (RepL.cons (.int _ _) (RepL.cons r1 (RepL.nil _)))).mono ?_
  rintro e W' ⟨r, v, E', H', rfl, hr, _, hx, rfl⟩
  cases hr
  exact ⟨_, rfl, _, _, _, [], _, [], hW', trodAll_cons_mk (shut_bool Tryz.underlying4 _) trodAll_mk0, hx.trodAll laidOutK (by kernel_rfl) hA1 hlt, rfl, hx.kept _, fun h => by cases h⟩

theorem over : Rows.topDividedRow.holds Tryz.pinned (OpenSpec.ofChange Rows.topDividedSpec) :=
  OpenClaim.holds_of_wide 3 Tryz.f3 rfl rfl rfl rfl rfl rfl rfl ⟨rfl, rfl, rfl, rfl, rfl⟩ rfl rfl rfl rfl rfl (by kernel_rfl) Tryz.func3 (by kernel_rfl)
    (of_decide_eq_true (by kernel_rfl)) (by unfold Func.isWrapper; first | (rw [if_pos (by decide +kernel)]; kernel_rfl) | (rw [if_neg (by decide +kernel)]; exact ⟨rfl, rfl⟩))
    (fun os started H enc _ => lifted os started H enc)

theorem carded : Rows.TopDividedCardSaid :=
  Claim7.holds_tied_plain_at .later [] [.data, .data, .data, .pinned] true (true, "69a01360c73e174a46be19df0d495e291db8f76396732239d9516686c6929d27") false
    over (fun _ h => by cases h) (by kernel_rfl) (fun _ h => by cases h) topDivided_row_tie rfl ⟨rfl, rfl⟩ (by kernel_rfl) rfl
    (fun f fn hf hfn => by
      obtain rfl : f = 3 := Option.some.inj ((show Tryz.prog.funcNamed "headword/headwordtop.TopDivided" = some 3 by kernel_rfl).symm.trans hf) |>.symm
      obtain rfl : fn = Tryz.f3 := (Option.some.inj (Tryz.func3.symm.trans hfn)).symm
      exact ⟨by kernel_rfl, fun j t ht => by
        rw [Tryz.params3] at ht
        have hm := Array.mem_of_getElem? ht
        rcases (show t = 5 ∨ t = 22 by simpa [or_assoc] using hm) with rfl | rfl
        · exact (show Tryz.prog.wantsStandIn 5 = false by kernel_rfl)
        · exact (show Tryz.prog.wantsStandIn 22 = false by kernel_rfl)⟩)
    (by kernel_rfl)
#print axioms carded
end Go.Proofs.YtmmfelpgcdlgfaaGreatDoor.topDivided
