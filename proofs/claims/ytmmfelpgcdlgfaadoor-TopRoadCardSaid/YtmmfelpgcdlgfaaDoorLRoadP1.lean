import Derived.Test.YtmmfelpgcdlgfaaDoorConB
import Derived.Test.YtmmfelpgcdlgfaaDoorLRoadW
/- The contracts that TopRoad uses. Conditions: each theorem names its own. -/
namespace Go.Proofs.YtmmfelpgcdlgfaaDoor
open Go.Av
set_option linter.unusedVariables false
set_option linter.unusedSimpArgs false
set_option maxRecDepth 8000

/- A web whose words see later ones alone: it has no circle. -/
def Upw (R : List (Nat × Nat)) : Prop := ∀ p ∈ R, p.1 < p.2 ∧ p.2 < 7
theorem u64_andN {t : TypeId} (a b : Nat) : ∃ r : Nat, r < 2 ^ 64 ∧ binF Tryd.prog .andNot t (.int .u64 (a : Int)) (.int .u64 (b : Int)) = some (.int .u64 (r : Int)) := by
  refine ⟨(BitVec.ofInt 64 (a : Int) &&& ~~~BitVec.ofInt 64 (b : Int)).toNat, (BitVec.ofInt 64 (a : Int) &&& ~~~BitVec.ofInt 64 (b : Int)).isLt, ?_⟩
  show (if IntKind.u64 = IntKind.u64 then some (AV.int .u64 (IntKind.u64.wrap ((BitVec.ofInt 64 (a : Int) &&& ~~~BitVec.ofInt 64 (b : Int)).toNat))) else none) = _
  have h := (BitVec.ofInt 64 (a : Int) &&& ~~~BitVec.ofInt 64 (b : Int)).isLt
  have p64 : (2 : Nat) ^ 64 = 18446744073709551616 := by decide
  rw [if_pos rfl, wrap_u64 (by omega) (by omega)]

/-- A list that may grow at its end: handed over, or a block's begin. -/
def CV (bf : Nat) (H : Heap) (v : AV) (l : List Nat) : Prop := match v with
  | .imm n full cells => n = l.length ∧ full = true ∧ cells = ints (up l)
  | .ref s b off n cp => s = 1 ∧ off = 0 ∧ cp = none ∧ n = l.length ∧ b ≠ bf ∧ ∃ cells, H b = some cells ∧ n ≤ cells.length ∧ cells.take n = ints (up l)
  | _ => False
def offB (v : AV) (H : Heap) : Heap := match v with
  | .ref _ b _ _ _ => H.del b
  | _ => H
theorem cv_len {bf : Nat} {H : Heap} {v : AV} {l : List Nat} (h : CV bf H v l) : lenA v = some (.int .i64 (l.length : Nat)) := by
  cases v <;> simp only [CV] at h <;> try exact h.elim
  · obtain ⟨rfl, _⟩ := h; rfl
  · obtain ⟨_, _, _, rfl, _⟩ := h; rfl
theorem cv_get {bf : Nat} {H : Heap} {v : AV} {l : List Nat} (h : CV bf H v l) {i x : Nat} (hx : l[i]? = some x) : ∃ p, idx 1 v (.int .i64 (i : Int)) = some p ∧ load1 p H = some (.int .i64 (x : Int)) := by
  have hi : i < l.length := (List.getElem?_eq_some_iff.1 hx).1
  have hx2 : (ints (up l))[i]? = some (.int .i64 (x : Int)) := by
    rw [ints_getElem?]; simp [up, hx]
  cases v <;> simp only [CV] at h <;> try exact h.elim
  · obtain ⟨rfl, rfl, rfl⟩ := h
    refine ⟨_, idx_imm hi, ?_⟩
    rw [load1_iptr, Nat.mul_one, List.getElem?_drop, Nat.add_zero, hx2]
  · obtain ⟨rfl, rfl, rfl, rfl, _, cells, h1, h2, h3⟩ := h
    refine ⟨_, idx_ref hi, load1_at h1 ?_⟩
    rw [← h3, List.getElem?_take_of_lt hi] at hx2
    simpa using hx2
theorem up_snoc (l : List Nat) (x : Nat) : ints (up (l ++ [x])) = ints (up l) ++ [.int .i64 (x : Int)] := by simp [up, ints]
theorem cv_append {bf : Nat} {H : Heap} {v : AV} {l : List Nat} {x : Nat} {K : AV → Heap → Prop} (h : CV bf H v l) (hl : l.length ≤ 100) (hbf : H bf ≠ none)
    (hk : ∀ v' H', CV bf H' v' (l ++ [x]) → (offB v H).le H' → (∀ T, CV bf T v' (l ++ [x]) → (offB v' H').le T → CV bf T v l ∧ (offB v H).le T) → K v' H') :
    appendA 1 8 v (.imm 1 true [.int .i64 (x : Int)]) K H := by
  have gr : ∀ b', H b' = none → ∀ T : Heap, ((H.put b' (ints (up (l ++ [x])))).del b').le T → H.le T := by
    intro b' hb' T hT y c hy
    have hne : y ≠ b' := by rintro rfl; rw [hb'] at hy; cases hy
    exact hT y c (by simp [Heap.del, Heap.put, hne, hy])
  have nb : ∀ b', H b' = none → b' ≠ bf := by rintro b' hb' rfl; exact hbf hb'
  have cvN : ∀ b', H b' = none → CV bf (H.put b' (ints (up (l ++ [x])))) (.ref 1 b' 0 (l.length + 1) none) (l ++ [x]) := by
    intro b' hb'
    refine ⟨rfl, rfl, rfl, by simp, nb b' hb', _, Heap.put_same, by simp, ?_⟩
    rw [List.take_of_length_le (by simp)]
  cases v <;> simp only [CV] at h <;> try exact h.elim
  · obtain ⟨rfl, rfl, rfl⟩ := h
    refine ⟨1, [.int .i64 (x : Int)], by simp [srcOf], rfl, .inr ⟨by omega, rfl, by simp, by omega, by omega, fun b' hb' => ?_⟩⟩
    rw [← up_snoc]
    refine hk _ _ (cvN b' hb') (Heap.le_new hb') fun T h1 h2 => ⟨⟨rfl, rfl, rfl⟩, gr b' hb' T h2⟩
  · rename_i s b off n cp
    obtain ⟨rfl, rfl, rfl, rfl, hb0, cells, h1, h2, h3⟩ := h
    refine ⟨1, [.int .i64 (x : Int)], by simp [srcOf], rfl, rfl, rfl, cells, h1, by omega, by omega, by omega, .inr ⟨?_, fun b' hb' => ?_⟩⟩
    · rw [Nat.mul_one]
      have hsp : (splice cells l.length [.int .i64 (x : Int)]).take (l.length + 1) = ints (up (l ++ [x])) := by
        unfold splice
        rw [h3, up_snoc]
        exact List.take_left' (by simp)
      refine hk _ _ ⟨rfl, rfl, rfl, by simp, hb0, _, Heap.put_same, ?_, hsp⟩ ?_ fun T g1 g2 => ⟨?_, ?_⟩
      · simp [splice]; omega
      · intro y c hy
        simp only [offB, Heap.del] at hy
        split at hy
        · cases hy
        · rename_i hne; simp [Heap.put, hne, hy]
      · obtain ⟨_, _, _, g3, _, cs, g4, g5, g6⟩ := g1
        refine ⟨rfl, rfl, rfl, rfl, hb0, cs, g4, by omega, ?_⟩
        have : cs.take l.length = (cs.take (l.length + 1)).take l.length := by rw [List.take_take, Nat.min_eq_left (by omega)]
        rw [this, g6, up_snoc]
        exact List.take_left' (by simp)
      · intro y c hy
        refine g2 y c ?_
        simp only [offB, Heap.del] at hy ⊢
        split at hy
        · cases hy
        · rename_i hne; simp [Heap.put, hne, hy]
    · rw [Nat.mul_one, h3, ← up_snoc]
      have hne : b ≠ b' := by rintro rfl; rw [h1] at hb'; cases hb'
      refine hk _ _ (cvN b' hb') ?_ fun T g1 g2 => ?_
      · intro y c hy
        simp only [offB, Heap.del] at hy
        split at hy
        · cases hy
        · exact Heap.le_new hb' _ _ hy
      · have hle := gr b' hb' T g2
        refine ⟨⟨rfl, rfl, rfl, rfl, hb0, cells, hle _ _ h1, h2, h3⟩, fun y c hy => ?_⟩
        simp only [offB, Heap.del] at hy
        split at hy
        · cases hy
        · exact hle _ _ hy
theorem lsN_mem {s y : Nat} : y ∈ lsN s ↔ y < 7 ∧ s.testBit y = true := by
  simp [lsN]
/-- The circles from a list on, where there are none. -/
theorem c100 {n : Nat} {R : List (Nat × Nat)} {gs : List AV} {bf : Nat} (hR : Upw R) : ∀ (k : Nat) {l : List Nat} {last f : Nat} {v : AV} {H : Heap} {K : AV → Heap → Prop},
    7 ≤ k + last → l.getLast? = some last → (∀ y ∈ l, y ≤ last) → last < 7 → l.length ≤ last + 1 → CV bf H v l → H bf = some [.fn 100 [.iptr (webC n R), .iptr gs, .ptr bf 0]] → f < 2 ^ 64 →
    (∀ T, CV bf T v l → (offB v H).le T → K (.tup []) T) → ACalls Tryd.prog 100 [v, .int .u64 (f : Int), .iptr (webC n R), .iptr gs, .ptr bf 0] H K := by
  intro k
  induction k with
  | zero => intro l last f v H K hk7 h2 h3 h4; omega
  | succ k ih =>
    intro l last f v H K hk7 hlast hle hl7 hlen hcv hbf hf hk
    apply W100_ok
    unfold W100
    have hln := cv_len hcv
    have hpos : l ≠ [] := by rintro rfl; simp at hlast
    have hlp : 0 < l.length := List.length_pos_iff.2 hpos
    have hget : l[l.length - 1]? = some last := by rw [← hlast, List.getLast?_eq_getElem?]
    obtain ⟨p, hp1, hp2⟩ := cv_get hcv hget
    have hidx : ((l.length : Nat) : Int) - 1 = ((l.length - 1 : Nat) : Int) := by omega
    have hw : IntKind.i64.wrap (((l.length : Nat) : Int) - 1) = ((l.length - 1 : Nat) : Int) := by rw [wrap_i64 (by omega) (by omega), hidx]
    have hia : idxArr 7 1 (.iptr ((webC n R).drop 1)) (.int .i64 (last : Int)) = some (.iptr ((webC n R).drop (1 + last))) := by
      simp only [idxArr]
      rw [if_pos (by omega)]
      simp [List.drop_drop, Nat.add_comm]
    have hld : load1 (.iptr ((webC n R).drop (1 + last))) H = some (.int .u64 (sw R last : Nat)) := by
      rw [load1_iptr, List.getElem?_drop, Nat.add_zero, webC_get _ _ hl7]
    have hR7 : ∀ r ∈ R, r.2 < 7 := fun r hr => (hR r hr).2
    have hsw := sw_lt hR7 last
    have p64 : (2 : Nat) ^ 64 = 18446744073709551616 := by decide
    simp only [letO_some, cellsOf?_agg, cellsOf?_int, cellsOf?_bool, cellsOf?_imm, cellsOf?_ref, cellsOf?_nils, faddr_iptr, faddr_ptr, List.drop_succ_cons, List.drop_zero, List.take_succ_cons, List.take_zero, load1_iptr, loadN_iptr, List.length_cons, List.length_nil, Nat.le_refl, if_true, List.getElem?_cons_zero, List.getElem?_cons_succ, List.getD_cons_zero, List.getD_cons_succ, extrF_tup, binF_add, binF_sub, binF_mul, binF_eql, binF_neq, binF_lss, binF_leq, binF_gtr, binF_geq, true_and, hln, hw, hp1, hp2, hia, hld]
    refine ⟨fun L H' => H' = H, ?_, ?_⟩
    · by_cases h1 : 1 < l.length
      · have e1 : decide ((1 : Int) < ((l.length : Nat) : Int)) = true := by rw [decide_eq_true_iff]; omega
        have hh : ∃ y, l[0]? = some y ∧ y ≤ last := ⟨l[0], by simp, hle _ (by simp)⟩
        obtain ⟨y, hy, hyl⟩ := hh
        obtain ⟨q, hq1, hq2⟩ := cv_get hcv hy
        have hbit : (sw R last).testBit y = false := by
          rw [sw_bit, decide_eq_false_iff_not]
          intro hm
          have := (hR _ hm).1
          simp only at this
          omega
        have hq1' : idx 1 v (.int .i64 0) = some q := hq1
        have hb1 := u64_bit (sw R last) y
        rw [hbit] at hb1
        simp only [letO_some, cellsOf?_agg, cellsOf?_int, cellsOf?_bool, cellsOf?_imm, cellsOf?_ref, cellsOf?_nils, faddr_iptr, faddr_ptr, List.drop_succ_cons, List.drop_zero, List.take_succ_cons, List.take_zero, load1_iptr, loadN_iptr, List.length_cons, List.length_nil, Nat.le_refl, if_true, List.getElem?_cons_zero, List.getElem?_cons_succ, List.getD_cons_zero, List.getD_cons_succ, extrF_tup, binF_add, binF_sub, binF_mul, binF_eql, binF_neq, binF_lss, binF_leq, binF_gtr, binF_geq, true_and, gt_iff_lt, e1, gval_bool, Int.reduceBNe, Int.reduceBEq, pickF_true, pickF_false, reduceIte, Bool.true_eq_false, Bool.false_eq_true, if_false, condA_tt, condA_ff, condG_tt, condG_ff, condG_tt', condG_ff', condG_undef, gval_undef, hq1', hq2, u64_shr (a := sw R last) (k := y) (by omega)]
        have hand := u64_and (t := 76) (a := sw R last / 2 ^ y) (b := 1) (by have := Nat.div_le_self (sw R last) (2 ^ y); omega) (by omega)
        rw [show (((1 : Nat)) : Int) = 1 from rfl] at hand
        simp only [hand, letO_some, cellsOf?_agg, cellsOf?_int, cellsOf?_bool, cellsOf?_imm, cellsOf?_ref, cellsOf?_nils, faddr_iptr, faddr_ptr, List.drop_succ_cons, List.drop_zero, List.take_succ_cons, List.take_zero, load1_iptr, loadN_iptr, List.length_cons, List.length_nil, Nat.le_refl, if_true, List.getElem?_cons_zero, List.getElem?_cons_succ, List.getD_cons_zero, List.getD_cons_succ, extrF_tup, binF_add, binF_sub, binF_mul, binF_eql, binF_neq, binF_lss, binF_leq, binF_gtr, binF_geq, true_and, gval_bool, Int.reduceBNe, Int.reduceBEq, pickF_true, pickF_false, reduceIte, Bool.true_eq_false, Bool.false_eq_true, if_false, condA_tt, condA_ff, condG_tt, condG_ff, condG_tt', condG_ff', condG_undef, gval_undef, hb1]
      · have e1 : decide ((1 : Int) < ((l.length : Nat) : Int)) = false := by rw [decide_eq_false_iff_not]; omega
        simp only [letO_some, cellsOf?_agg, cellsOf?_int, cellsOf?_bool, cellsOf?_imm, cellsOf?_ref, cellsOf?_nils, faddr_iptr, faddr_ptr, List.drop_succ_cons, List.drop_zero, List.take_succ_cons, List.take_zero, load1_iptr, loadN_iptr, List.length_cons, List.length_nil, Nat.le_refl, if_true, List.getElem?_cons_zero, List.getElem?_cons_succ, List.getD_cons_zero, List.getD_cons_succ, extrF_tup, binF_add, binF_sub, binF_mul, binF_eql, binF_neq, binF_lss, binF_leq, binF_gtr, binF_geq, true_and, gt_iff_lt, e1, gval_bool, Int.reduceBNe, Int.reduceBEq, pickF_true, pickF_false, reduceIte, Bool.true_eq_false, Bool.false_eq_true, if_false, condA_tt, condA_ff, condG_tt, condG_ff, condG_tt', condG_ff', condG_undef, gval_undef]
    · rintro L H' rfl
      simp only [letO_some, cellsOf?_agg, cellsOf?_int, cellsOf?_bool, cellsOf?_imm, cellsOf?_ref, cellsOf?_nils, faddr_iptr, faddr_ptr, List.drop_succ_cons, List.drop_zero, List.take_succ_cons, List.take_zero, load1_iptr, loadN_iptr, List.length_cons, List.length_nil, Nat.le_refl, if_true, List.getElem?_cons_zero, List.getElem?_cons_succ, List.getD_cons_zero, List.getD_cons_succ, extrF_tup, binF_add, binF_sub, binF_mul, binF_eql, binF_neq, binF_lss, binF_leq, binF_gtr, binF_geq, true_and, u64_and (a := sw R last) (b := f) (by omega) hf]
      have hsf : sw R last &&& f < 128 := Nat.lt_of_le_of_lt Nat.and_le_left hsw
      have hsub : ∀ y ∈ lsN (sw R last &&& f), last < y ∧ y < 7 := by
        intro y hy
        obtain ⟨h7, hb⟩ := lsN_mem.1 hy
        rw [Nat.testBit_and, Bool.and_eq_true] at hb
        have := hb.1
        rw [sw_bit, decide_eq_true_iff] at this
        exact ⟨(hR _ this).1, h7⟩
      generalize sw R last &&& f = s0 at *
      refine ⟨fun L H1 => ∃ s : Nat, eqt L [.int .u64 (s : Int)] ∧ s < 128 ∧ (∀ y ∈ lsN s, last < y ∧ y < 7) ∧ CV bf H1 v l ∧ (offB v H').le H1, fun L _ => (iv L 0).toNat, ⟨s0, rfl, hsf, hsub, hcv, ?_⟩, ?_⟩
      · intro y c hy
        cases v <;> simp only [offB, Heap.del] at hy <;> try exact hy
        split at hy
        · cases hy
        · exact hy
      rintro L H1 ⟨s, rfl, hs, hsb, hcv1, hle1⟩
      try simp only [letO_some, cellsOf?_agg, cellsOf?_int, cellsOf?_bool, cellsOf?_imm, cellsOf?_ref, cellsOf?_nils, faddr_iptr, faddr_ptr, List.drop_succ_cons, List.drop_zero, List.take_succ_cons, List.take_zero, load1_iptr, loadN_iptr, List.length_cons, List.length_nil, Nat.le_refl, if_true, List.getElem?_cons_zero, List.getElem?_cons_succ, List.getD_cons_zero, List.getD_cons_succ, extrF_tup, binF_add, binF_sub, binF_mul, binF_eql, binF_neq, binF_lss, binF_leq, binF_gtr, binF_geq, true_and]
      have hbf1 : H1 bf = some [.fn 100 [.iptr (webC n R), .iptr gs, .ptr bf 0]] := by
        refine hle1 _ _ ?_
        cases v <;> simp only [CV] at hcv <;> try exact hcv.elim
        · exact hbf
        · simp only [offB, Heap.del]
          rw [if_neg (Ne.symm hcv.2.2.2.2.1)]; exact hbf
      by_cases h0 : s = 0
      · subst h0
        have e : (((0 : Nat) : Int) != 0) = false := rfl
        simp only [e, condA_ff]
        exact endK_ret (hk _ hcv1 hle1)
      · have e : ((s : Int) != 0) = true := by rw [bne_iff_ne]; omega
        simp only [e, condA_tt]
        obtain ⟨l1, l2⟩ := ls_step ⟨s, hs⟩ h0
        simp only at l1 l2
        obtain ⟨x1, x2⟩ := hsb (tzN s) (by rw [l1]; simp)
        refine c48 hs h0 ?_
        try simp only [letO_some, cellsOf?_agg, cellsOf?_int, cellsOf?_bool, cellsOf?_imm, cellsOf?_ref, cellsOf?_nils, faddr_iptr, faddr_ptr, List.drop_succ_cons, List.drop_zero, List.take_succ_cons, List.take_zero, load1_iptr, loadN_iptr, List.length_cons, List.length_nil, Nat.le_refl, if_true, List.getElem?_cons_zero, List.getElem?_cons_succ, List.getD_cons_zero, List.getD_cons_succ, extrF_tup, binF_add, binF_sub, binF_mul, binF_eql, binF_neq, binF_lss, binF_leq, binF_gtr, binF_geq, true_and]
        refine ⟨fun y => if y = bf then H1 bf else none, ?_, ?_⟩
        · intro y c hy
          simp only at hy
          split at hy
          · rename_i hyb; subst hyb; exact hy
          · cases hy
        have hl45 : load1 (.ptr bf 0) (fun y => if y = bf then H1 bf else none) = some (.fn 100 [.iptr (webC n R), .iptr gs, .ptr bf 0]) := load1_at (cells := [.fn 100 [.iptr (webC n R), .iptr gs, .ptr bf 0]]) (by simp [hbf1]) rfl
        obtain ⟨r, hr, hr2⟩ := u64_andN (t := 76) f (2 ^ tzN s)
        simp only [hl45, letO_some, cellsOf?_agg, cellsOf?_int, cellsOf?_bool, cellsOf?_imm, cellsOf?_ref, cellsOf?_nils, faddr_iptr, faddr_ptr, List.drop_succ_cons, List.drop_zero, List.take_succ_cons, List.take_zero, load1_iptr, loadN_iptr, List.length_cons, List.length_nil, Nat.le_refl, if_true, List.getElem?_cons_zero, List.getElem?_cons_succ, List.getD_cons_zero, List.getD_cons_succ, extrF_tup, binF_add, binF_sub, binF_mul, binF_eql, binF_neq, binF_lss, binF_leq, binF_gtr, binF_geq, true_and, l35 cellsOf?_int, Option.map_some, u64_shl (k := tzN s) (by omega), hr2]
        refine cv_append hcv1 (by omega) (by rw [hbf1]; simp) fun v' H2 g1 g2 g3 => ?_
        have hleb : ∀ T : Heap, T bf = H1 bf → Heap.le (fun y => if y = bf then H1 bf else none) T := by
          intro T hT y c hy
          simp only at hy
          split at hy
          · rename_i hyb; subst hyb; rw [hT]; exact hy
          · cases hy
        have hbf2 : H2 bf = some [.fn 100 [.iptr (webC n R), .iptr gs, .ptr bf 0]] := by
          refine g2 _ _ ?_
          cases v <;> simp only [CV] at hcv <;> try exact hcv.elim
          · exact hbf1
          · simp only [offB, Heap.del]
            rw [if_neg (Ne.symm hcv.2.2.2.2.1)]; exact hbf1
        refine ⟨hleb _ (by rw [hbf2, hbf1]), ?_⟩
        show ACalls Tryd.prog 100 [v', .int .u64 (r : Int), .iptr (webC n R), .iptr gs, .ptr bf 0] H2 _
        refine ih (l := l ++ [tzN s]) (last := tzN s) (by omega) (by simp) ?_ x2 (by simp; omega) g1 hbf2 hr fun T t1 t2 => ?_
        · intro y hy
          rw [List.mem_append] at hy
          rcases hy with hy | hy
          · have := hle y hy; omega
          · have : y = tzN s := by simpa using hy
            omega
        obtain ⟨u1, u2⟩ := g3 T t1 t2
        have hbfT : T bf = some [.fn 100 [.iptr (webC n R), .iptr gs, .ptr bf 0]] := by
          refine u2 _ _ ?_
          cases v <;> simp only [CV] at hcv <;> try exact hcv.elim
          · exact hbf1
          · simp only [offB, Heap.del]
            rw [if_neg (Ne.symm hcv.2.2.2.2.1)]; exact hbf1
        refine ⟨hleb _ (by rw [hbfT, hbf1]), ?_⟩
        have hsub1 : IntKind.u64.wrap ((s : Int) - 1) = ((s - 1 : Nat) : Int) := by rw [wrap_u64 (by omega) (by omega)]; omega
        simp only [letO_some, cellsOf?_agg, cellsOf?_int, cellsOf?_bool, cellsOf?_imm, cellsOf?_ref, cellsOf?_nils, faddr_iptr, faddr_ptr, List.drop_succ_cons, List.drop_zero, List.take_succ_cons, List.take_zero, load1_iptr, loadN_iptr, List.length_cons, List.length_nil, Nat.le_refl, if_true, List.getElem?_cons_zero, List.getElem?_cons_succ, List.getD_cons_zero, List.getD_cons_succ, extrF_tup, binF_add, binF_sub, binF_mul, binF_eql, binF_neq, binF_lss, binF_leq, binF_gtr, binF_geq, true_and, hsub1, u64_and (a := s) (b := s - 1) (by omega) (by omega)]
        refine ⟨⟨s &&& (s - 1), rfl, by omega, fun y hy => hsb y (by rw [l1]; exact List.mem_cons_of_mem _ hy), u1, ?_⟩, by simp [iv]; omega⟩
        intro y c hy
        have hb : (offB v H1) y = some c := by
          cases v <;> simp only [CV] at hcv <;> try exact hcv.elim
          · exact hle1 y c hy
          · have h9 := hle1 y c hy
            simp only [offB, Heap.del] at hy ⊢
            split at hy
            · cases hy
            · rename_i hne; rw [if_neg hne]; exact h9
        exact u2 y c hb
end Go.Proofs.YtmmfelpgcdlgfaaDoor

namespace Go.Proofs.YtmmfelpgcdlgfaaDoor
open Go.Av
set_option linter.unusedVariables false
set_option linter.unusedSimpArgs false
set_option maxRecDepth 8000

/-- web.circles, where there are none -/
theorem c77 {n : Nat} {R : List (Nat × Nat)} {g : AV} {gs : List AV} {H : Heap} {K : AV → Heap → Prop} (hn : n ≤ 7) (hR : Upw R) (hg : cellsOf? g = some gs) (hk : K (.tup []) H) :
    ACalls Tryd.prog 77 [.agg (webC n R), g] H K := by
  apply W77_ok
  unfold W77
  have hlw : loadN 8 (.iptr (webC n R)) H = some (.agg (webC n R)) := by rw [loadN_iptr, webC_len]; simp [List.take_of_length_le, webC_len]
  have h0 : load1 (.iptr (webC n R)) (Heap.none) = some (.int .i64 (n : Int)) := by rw [load1_iptr]; rfl
  simp only [letO_some, cellsOf?_agg, cellsOf?_int, cellsOf?_bool, cellsOf?_imm, cellsOf?_ref, cellsOf?_nils, faddr_iptr, faddr_ptr, List.drop_succ_cons, List.drop_zero, List.take_succ_cons, List.take_zero, load1_iptr, loadN_iptr, List.length_cons, List.length_nil, Nat.le_refl, if_true, List.getElem?_cons_zero, List.getElem?_cons_succ, List.getD_cons_zero, List.getD_cons_succ, extrF_tup, binF_add, binF_sub, binF_mul, binF_eql, binF_neq, binF_lss, binF_leq, binF_gtr, binF_geq, true_and, hg]
  intro b4 hb4
  refine storeA_of (cs := [.fn 100 [.iptr (webC n R), .iptr gs, .ptr b4 0]]) Heap.put_same rfl rfl rfl (by simp) ?_
  rw [Heap.put_put, show splice [AV.nilf] 0 [.fn 100 [.iptr (webC n R), .iptr gs, .ptr b4 0]] = [.fn 100 [.iptr (webC n R), .iptr gs, .ptr b4 0]] from rfl]
  have hle := Heap.le_new (c := [.fn 100 [.iptr (webC n R), .iptr gs, .ptr b4 0]]) hb4
  have hb : (H.put b4 [.fn 100 [.iptr (webC n R), .iptr gs, .ptr b4 0]]) b4 = some [.fn 100 [.iptr (webC n R), .iptr gs, .ptr b4 0]] := Heap.put_same
  generalize H.put b4 [.fn 100 [.iptr (webC n R), .iptr gs, .ptr b4 0]] = H1 at *
  have hc0 : (webC n R)[0]? = some (.int .i64 (n : Int)) := rfl
  simp only [letO_some, cellsOf?_agg, cellsOf?_int, cellsOf?_bool, cellsOf?_imm, cellsOf?_ref, cellsOf?_nils, faddr_iptr, faddr_ptr, List.drop_succ_cons, List.drop_zero, List.take_succ_cons, List.take_zero, load1_iptr, loadN_iptr, List.length_cons, List.length_nil, Nat.le_refl, if_true, List.getElem?_cons_zero, List.getElem?_cons_succ, List.getD_cons_zero, List.getD_cons_succ, extrF_tup, binF_add, binF_sub, binF_mul, binF_eql, binF_neq, binF_lss, binF_leq, binF_gtr, binF_geq, true_and, hc0]
  refine ⟨fun L H' => ∃ i : Nat, eqt L [.int .i64 i] ∧ i ≤ n ∧ H1.le H', fun L _ => (n - iv L 0).toNat, ⟨0, rfl, by omega, Heap.le_refl _⟩, ?_⟩
  rintro L H' ⟨i, rfl, hi, hle1⟩
  try simp only [letO_some, cellsOf?_agg, cellsOf?_int, cellsOf?_bool, cellsOf?_imm, cellsOf?_ref, cellsOf?_nils, faddr_iptr, faddr_ptr, List.drop_succ_cons, List.drop_zero, List.take_succ_cons, List.take_zero, load1_iptr, loadN_iptr, List.length_cons, List.length_nil, Nat.le_refl, if_true, List.getElem?_cons_zero, List.getElem?_cons_succ, List.getD_cons_zero, List.getD_cons_succ, extrF_tup, binF_add, binF_sub, binF_mul, binF_eql, binF_neq, binF_lss, binF_leq, binF_gtr, binF_geq, true_and]
  refine condA_t (fun hlt => ?_) (fun hge => ?_)
  · have a1 : i < n := by omega
    have hl12 : load1 (.ptr b4 0) H' = some (.fn 100 [.iptr (webC n R), .iptr gs, .ptr b4 0]) := load1_at (hle1 _ _ hb) rfl
    have hw1 : IntKind.i64.wrap ((i : Int) + 1) = ((i + 1 : Nat) : Int) := by rw [wrap_i64 (by omega) (by omega)]; omega
    have pn : 0 < 2 ^ n := Nat.pow_pos (by omega)
    have pi : 0 < 2 ^ (i + 1) := Nat.pow_pos (by omega)
    have qn : 2 ^ n ≤ 2 ^ 7 := Nat.pow_le_pow_right (by omega) (by omega)
    have qi : 2 ^ (i + 1) ≤ 2 ^ 7 := Nat.pow_le_pow_right (by omega) (by omega)
    have wn : IntKind.u64.wrap (((2 ^ n : Nat) : Int) - 1) = ((2 ^ n - 1 : Nat) : Int) := by rw [wrap_u64 (by omega) (by omega)]; omega
    have wi : IntKind.u64.wrap (((2 ^ (i + 1) : Nat) : Int) - 1) = ((2 ^ (i + 1) - 1 : Nat) : Int) := by rw [wrap_u64 (by omega) (by omega)]; omega
    obtain ⟨r, hr, hr2⟩ := u64_andN (t := 76) (2 ^ n - 1) (2 ^ (i + 1) - 1)
    simp only [letO_some, cellsOf?_agg, cellsOf?_int, cellsOf?_bool, cellsOf?_imm, cellsOf?_ref, cellsOf?_nils, faddr_iptr, faddr_ptr, List.drop_succ_cons, List.drop_zero, List.take_succ_cons, List.take_zero, load1_iptr, loadN_iptr, List.length_cons, List.length_nil, Nat.le_refl, if_true, List.getElem?_cons_zero, List.getElem?_cons_succ, List.getD_cons_zero, List.getD_cons_succ, extrF_tup, binF_add, binF_sub, binF_mul, binF_eql, binF_neq, binF_lss, binF_leq, binF_gtr, binF_geq, true_and, hl12, l35 cellsOf?_int, Option.map_some, hc0, u64_shl (k := n) (by omega), wn, hw1, u64_shl (k := i + 1) (by omega), wi, hr2]
    show ACalls Tryd.prog 100 [.imm 1 true [.int .i64 (i : Int)], .int .u64 (r : Int), .iptr (webC n R), .iptr gs, .ptr b4 0] H' _
    refine c100 (n := n) hR 7 (l := [i]) (last := i) (by omega) rfl (by simp) (by omega) (by simp) ⟨rfl, rfl, rfl⟩ (hle1 _ _ hb) hr fun T t1 t2 => ?_
    refine ⟨⟨i + 1, rfl, by omega, Heap.le_trans hle1 t2⟩, by simp [iv] <;> omega⟩
  · exact endK_all (Heap.le_trans hle hle1) 0 hk
theorem mk110 (x : AV) : makeIfc Tryd.prog 110 x = some (.ifc 110 x) := by
  unfold makeIfc
  have h : (match Tryd.prog.underlying 110 with | some (.interface _) => false | some _ => true | none => false) = true := by kernel_rfl
  split at h
  · cases h
  · rename_i d h1 h2
    rw [h2]
    split
    · rename_i m hm; exact (h1 m (by simpa using hm)).elim
    · rfl
    · rename_i hm; cases hm
  · cases h
theorem as110 (x : AV) : assertF Tryd.prog (.ifc 110 x) 110 true = some (.tup [x, .bool true]) := by
  unfold assertF
  have h : (match Tryd.prog.underlying 110 with | some (.interface _) => false | some _ => true | none => false) = true := by kernel_rfl
  split
  · rename_i m hm; rw [hm] at h; cases h
  · rfl
  · rename_i hm; rw [hm] at h; cases h
theorem b145 : buildF Tryd.prog 145 [] = some (.agg (List.replicate 50 (.int .i64 0))) := by
  kernel_rfl
/-- see.counted, where there are no circles -/
theorem c49 {v : AV} {n : Nat} {R : List (Nat × Nat)} {H : Heap} {K : AV → Heap → Prop} (h : Vd n R) (hR : Upw R) (hv : RP H v R) (hk : K (.tup [.iptr (List.replicate 50 (.int .i64 0)), .int .i64 0]) H) :
    ACalls Tryd.prog 49 [.agg [.int .i64 (n : Int), v]] H K := by
  apply W49_ok
  unfold W49
  have e0 : ((0 : Int) != 0) = false := rfl
  simp only [letO_some, cellsOf?_agg, cellsOf?_int, cellsOf?_bool, cellsOf?_imm, cellsOf?_ref, cellsOf?_nils, faddr_iptr, faddr_ptr, List.drop_succ_cons, List.drop_zero, List.take_succ_cons, List.take_zero, load1_iptr, loadN_iptr, List.length_cons, List.length_nil, Nat.le_refl, if_true, List.getElem?_cons_zero, List.getElem?_cons_succ, List.getD_cons_zero, List.getD_cons_succ, extrF_tup, binF_add, binF_sub, binF_mul, binF_eql, binF_neq, binF_lss, binF_leq, binF_gtr, binF_geq, true_and]
  refine c31 h hv ?_
  simp only [letO_some, cellsOf?_agg, cellsOf?_int, cellsOf?_bool, cellsOf?_imm, cellsOf?_ref, cellsOf?_nils, faddr_iptr, faddr_ptr, List.drop_succ_cons, List.drop_zero, List.take_succ_cons, List.take_zero, load1_iptr, loadN_iptr, List.length_cons, List.length_nil, Nat.le_refl, if_true, List.getElem?_cons_zero, List.getElem?_cons_succ, List.getD_cons_zero, List.getD_cons_succ, extrF_tup, binF_add, binF_sub, binF_mul, binF_eql, binF_neq, binF_lss, binF_leq, binF_gtr, binF_geq, true_and]
  refine alloc_store (cs := webC n R) rfl (webC_all n R) (webC_len n R) rfl fun b4 hb4 => ?_
  have hle4 := Heap.le_new (c := webC n R) hb4
  have h4 : (H.put b4 (webC n R)) b4 = some (webC n R) := Heap.put_same
  generalize H.put b4 (webC n R) = H4 at *
  have hl17 : loadN 8 (.ptr b4 0) H4 = some (.agg (webC n R)) := by
    simp [loadN, cellsAt?, h4, webC_len, List.take_of_length_le]
  simp only [letO_some, cellsOf?_agg, cellsOf?_int, cellsOf?_bool, cellsOf?_imm, cellsOf?_ref, cellsOf?_nils, faddr_iptr, faddr_ptr, List.drop_succ_cons, List.drop_zero, List.take_succ_cons, List.take_zero, load1_iptr, loadN_iptr, List.length_cons, List.length_nil, Nat.le_refl, if_true, List.getElem?_cons_zero, List.getElem?_cons_succ, List.getD_cons_zero, List.getD_cons_succ, extrF_tup, binF_add, binF_sub, binF_mul, binF_eql, binF_neq, binF_lss, binF_leq, binF_gtr, binF_geq, true_and, e0, condA_ff, b145, hl17, mk110]
  refine c77 h.n7 hR (gs := [.ifc 110 (.iptr (List.replicate 50 (.int .i64 0)))]) rfl ?_
  exact endK_all hle4 0 hk
/-- see.many of a tally that took nothing -/
theorem c50 {H : Heap} {K : AV → Heap → Prop} (hk : K (.int .i64 0) H) : ACalls Tryd.prog 50 [.ifc 110 (.iptr (List.replicate 50 (.int .i64 0)))] H K := by
  apply W50_ok
  unfold W50
  simp only [letO_some, cellsOf?_agg, cellsOf?_int, cellsOf?_bool, cellsOf?_imm, cellsOf?_ref, cellsOf?_nils, faddr_iptr, faddr_ptr, List.drop_succ_cons, List.drop_zero, List.take_succ_cons, List.take_zero, load1_iptr, loadN_iptr, List.length_cons, List.length_nil, Nat.le_refl, if_true, List.getElem?_cons_zero, List.getElem?_cons_succ, List.getD_cons_zero, List.getD_cons_succ, extrF_tup, binF_add, binF_sub, binF_mul, binF_eql, binF_neq, binF_lss, binF_leq, binF_gtr, binF_geq, true_and]
  refine ⟨fun _ _ => False, ?_, fun _ _ h => h.elim⟩
  simp only [as110, letO_some, cellsOf?_agg, cellsOf?_int, cellsOf?_bool, cellsOf?_imm, cellsOf?_ref, cellsOf?_nils, faddr_iptr, faddr_ptr, List.drop_succ_cons, List.drop_zero, List.take_succ_cons, List.take_zero, load1_iptr, loadN_iptr, List.length_cons, List.length_nil, Nat.le_refl, if_true, List.getElem?_cons_zero, List.getElem?_cons_succ, List.getD_cons_zero, List.getD_cons_succ, extrF_tup, binF_add, binF_sub, binF_mul, binF_eql, binF_neq, binF_lss, binF_leq, binF_gtr, binF_geq, true_and, nilF, condA_tt]
  have : (List.replicate 50 (AV.int .i64 0))[0]? = some (.int .i64 0) := rfl
  simp only [this, letO_some]
  exact endK_ret hk
/-- see.Circles, where there are none -/
theorem c25 {v : AV} {n : Nat} {R : List (Nat × Nat)} {H : Heap} {K : AV → Heap → Prop} (h : Vd n R) (hR : Upw R) (hv : RP H v R) (hk : K (.tup [.int .i64 0, .int .i64 0]) H) :
    ACalls Tryd.prog 25 [.agg [.int .i64 (n : Int), v]] H K := by
  apply W25_ok
  unfold W25
  have e0 : ((0 : Int) != 0) = false := rfl
  simp only [letO_some, cellsOf?_agg, cellsOf?_int, cellsOf?_bool, cellsOf?_imm, cellsOf?_ref, cellsOf?_nils, faddr_iptr, faddr_ptr, List.drop_succ_cons, List.drop_zero, List.take_succ_cons, List.take_zero, load1_iptr, loadN_iptr, List.length_cons, List.length_nil, Nat.le_refl, if_true, List.getElem?_cons_zero, List.getElem?_cons_succ, List.getD_cons_zero, List.getD_cons_succ, extrF_tup, binF_add, binF_sub, binF_mul, binF_eql, binF_neq, binF_lss, binF_leq, binF_gtr, binF_geq, true_and]
  refine c49 h hR hv ?_
  simp only [letO_some, cellsOf?_agg, cellsOf?_int, cellsOf?_bool, cellsOf?_imm, cellsOf?_ref, cellsOf?_nils, faddr_iptr, faddr_ptr, List.drop_succ_cons, List.drop_zero, List.take_succ_cons, List.take_zero, load1_iptr, loadN_iptr, List.length_cons, List.length_nil, Nat.le_refl, if_true, List.getElem?_cons_zero, List.getElem?_cons_succ, List.getD_cons_zero, List.getD_cons_succ, extrF_tup, binF_add, binF_sub, binF_mul, binF_eql, binF_neq, binF_lss, binF_leq, binF_gtr, binF_geq, true_and, e0, condA_ff, mk110]
  refine c50 ?_
  try simp only [letO_some, cellsOf?_agg, cellsOf?_int, cellsOf?_bool, cellsOf?_imm, cellsOf?_ref, cellsOf?_nils, faddr_iptr, faddr_ptr, List.drop_succ_cons, List.drop_zero, List.take_succ_cons, List.take_zero, load1_iptr, loadN_iptr, List.length_cons, List.length_nil, Nat.le_refl, if_true, List.getElem?_cons_zero, List.getElem?_cons_succ, List.getD_cons_zero, List.getD_cons_succ, extrF_tup, binF_add, binF_sub, binF_mul, binF_eql, binF_neq, binF_lss, binF_leq, binF_gtr, binF_geq, true_and]
  exact endK_ret hk
end Go.Proofs.YtmmfelpgcdlgfaaDoor

namespace Go.Proofs.YtmmfelpgcdlgfaaDoor
open Go.Av
set_option linter.unusedVariables false
set_option linter.unusedSimpArgs false
set_option maxRecDepth 8000

/- Ways: which words have at most so many steps to go, a bit each. -/
theorem and_ne {a b : Nat} : a &&& b ≠ 0 ↔ ∃ y, a.testBit y = true ∧ b.testBit y = true := by
  constructor
  · intro h
    obtain ⟨i, hi⟩ := Nat.exists_testBit_of_ne_zero h
    rw [Nat.testBit_and, Bool.and_eq_true] at hi
    exact ⟨i, hi⟩
  · rintro ⟨y, h1, h2⟩ h
    have : (a &&& b).testBit y = true := by rw [Nat.testBit_and, h1, h2]; rfl
    rw [h] at this
    simp at this
/-- The words with one step more. -/
def widN (R : List (Nat × Nat)) (now : Nat) : Nat → Nat
  | 0 => now
  | m + 1 => if sw R m &&& now = 0 then widN R now m else widN R now m ||| 2 ^ m
theorem wid_bit {R : List (Nat × Nat)} {now m x : Nat} : (widN R now m).testBit x = true ↔ now.testBit x = true ∨ x < m ∧ ∃ y, (x, y) ∈ R ∧ now.testBit y = true := by
  induction m with
  | zero => simp [widN]
  | succ m ih =>
    have hs : sw R m &&& now ≠ 0 ↔ ∃ y, (m, y) ∈ R ∧ now.testBit y = true := by
      rw [and_ne]
      simp only [sw_bit, decide_eq_true_iff]
    unfold widN
    split
    · rename_i h0
      rw [ih]
      constructor
      · rintro (h | ⟨h1, h2⟩)
        · exact .inl h
        · exact .inr ⟨by omega, h2⟩
      · rintro (h | ⟨h1, h2⟩)
        · exact .inl h
        · by_cases hx : x = m
          · subst hx; exact absurd h0 (hs.2 h2)
          · exact .inr ⟨by omega, h2⟩
    · rename_i h0
      rw [Nat.testBit_or, Nat.testBit_two_pow, Bool.or_eq_true, decide_eq_true_iff, ih]
      constructor
      · rintro ((h | ⟨h1, h2⟩) | h)
        · exact .inl h
        · exact .inr ⟨by omega, h2⟩
        · subst h; exact .inr ⟨by omega, hs.1 h0⟩
      · rintro (h | ⟨h1, h2⟩)
        · exact .inl (.inl h)
        · by_cases hx : m = x
          · exact .inr hx
          · exact .inl (.inr ⟨by omega, h2⟩)
theorem wid_lt {R : List (Nat × Nat)} {now m : Nat} (h : now < 128) (hm : m ≤ 7) : widN R now m < 128 := by
  induction m with
  | zero => exact h
  | succ m ih =>
    unfold widN
    have h1 := ih (by omega)
    split
    · exact h1
    · have : 2 ^ m < 2 ^ 7 := Nat.pow_lt_pow_right (by omega) (by omega)
      exact Nat.or_lt_two_pow (n := 7) h1 this
theorem wid_ge {R : List (Nat × Nat)} {now m : Nat} : now ≤ widN R now m := by
  induction m with
  | zero => exact Nat.le_refl _
  | succ m ih =>
    unfold widN
    split
    · exact ih
    · exact Nat.le_trans ih Nat.left_le_or
def nearN (R : List (Nat × Nat)) (w g : Nat) : Nat → Nat
  | 0 => 2 ^ g
  | k + 1 => widN R (nearN R w g k) w
theorem near_lt {R : List (Nat × Nat)} {w g : Nat} (hw : w ≤ 7) (hg : g < w) (k : Nat) : nearN R w g k < 128 := by
  induction k with
  | zero =>
    have : 2 ^ g < 2 ^ 7 := Nat.pow_lt_pow_right (by omega) (by omega)
    exact this
  | succ k ih => exact wid_lt ih hw
/-- A word has at most k steps to go. -/
def Nr (R : List (Nat × Nat)) (w g k x : Nat) : Prop := (nearN R w g k).testBit x = true
theorem nr_0 {R : List (Nat × Nat)} {w g x : Nat} : Nr R w g 0 x ↔ x = g := by
  unfold Nr nearN
  rw [Nat.testBit_two_pow, decide_eq_true_iff]
  exact eq_comm
theorem nr_s {R : List (Nat × Nat)} {w g k x : Nat} (hR : ∀ p ∈ R, p.1 < w) : Nr R w g (k + 1) x ↔ Nr R w g k x ∨ ∃ y, (x, y) ∈ R ∧ Nr R w g k y := by
  unfold Nr
  rw [nearN, wid_bit]
  constructor
  · rintro (h | ⟨_, h⟩)
    · exact .inl h
    · exact .inr h
  · rintro (h | ⟨y, h, h'⟩)
    · exact .inl h
    · exact .inr ⟨hR _ h, y, h, h'⟩
theorem nr_mono {R : List (Nat × Nat)} {w g k j x : Nat} (hR : ∀ p ∈ R, p.1 < w) (h : k ≤ j) (hx : Nr R w g k x) : Nr R w g j x := by
  induction h with
  | refl => exact hx
  | step _ ih => exact (nr_s hR).2 (.inl ih)
/-- A word has just k steps to go. -/
def Ds (R : List (Nat × Nat)) (w g k x : Nat) : Prop := Nr R w g k x ∧ ∀ j, j < k → ¬ Nr R w g j x
theorem ds_of {R : List (Nat × Nat)} {w g k x : Nat} (hR : ∀ p ∈ R, p.1 < w) (h : Nr R w g k x) : ∃ d, d ≤ k ∧ Ds R w g d x := by
  induction k with
  | zero => exact ⟨0, Nat.le_refl _, h, fun j hj => by omega⟩
  | succ k ih =>
    by_cases hk : Nr R w g k x
    · obtain ⟨d, h1, h2⟩ := ih hk; exact ⟨d, by omega, h2⟩
    · exact ⟨k + 1, Nat.le_refl _, h, fun j hj hn => hk (nr_mono hR (by omega) hn)⟩
theorem ds_uniq {R : List (Nat × Nat)} {w g k j x : Nat} (h : Ds R w g k x) (h' : Ds R w g j x) : k = j := by
  rcases Nat.lt_trichotomy k j with hl | rfl | hl
  · exact absurd h.1 (h'.2 k hl)
  · rfl
  · exact absurd h'.1 (h.2 j hl)
/-- The next word. -/
theorem tz_spec {s : Nat} (hs : s < 128) (h0 : s ≠ 0) : s.testBit (tzN s) = true ∧ tzN s < 7 ∧ ∀ y, s.testBit y = true → tzN s ≤ y := by
  obtain ⟨l1, l2⟩ := ls_step ⟨s, hs⟩ h0
  simp only at l1 l2
  have hm : tzN s ∈ lsN s := by rw [l1]; simp
  obtain ⟨h7, hb⟩ := lsN_mem.1 hm
  refine ⟨hb, h7, fun y hy => ?_⟩
  have hy7 : y < 7 := by
    rcases Nat.lt_or_ge y 7 with h | h
    · exact h
    · have : s < 2 ^ y := Nat.lt_of_lt_of_le hs (Nat.pow_le_pow_right (n := 2) (i := 7) (by omega) h)
      rw [Nat.testBit_lt_two_pow this] at hy; cases hy
  have hym : y ∈ lsN s := lsN_mem.2 ⟨hy7, hy⟩
  have hp : (lsN s).Pairwise (· ≤ ·) := by
    unfold lsN
    refine List.Pairwise.filter _ ?_
    exact (List.pairwise_lt_range).imp fun h => Nat.le_of_lt h
  rw [l1] at hp hym
  rcases List.mem_cons.1 hym with rfl | h
  · exact Nat.le_refl _
  · exact (List.pairwise_cons.1 hp).1 y h
def nxt (R : List (Nat × Nat)) (w g k x : Nat) : Nat := tzN (sw R x &&& nearN R w g k)
theorem nxt_spec {R : List (Nat × Nat)} {w g k x : Nat} (hw : w ≤ 7) (hg : g < w) (hR : ∀ p ∈ R, p.1 < w ∧ p.2 < w) (h : Ds R w g (k + 1) x) :
    sw R x &&& nearN R w g k ≠ 0 ∧ sw R x &&& nearN R w g k < 128 ∧ (x, nxt R w g k x) ∈ R ∧ Ds R w g k (nxt R w g k x) ∧ ∀ y, (x, y) ∈ R → Ds R w g k y → nxt R w g k x ≤ y := by
  have hR1 : ∀ p ∈ R, p.1 < w := fun p hp => (hR p hp).1
  have h1 : ∃ y, (x, y) ∈ R ∧ Nr R w g k y := by
    rcases (nr_s hR1).1 h.1 with h2 | h2
    · exact absurd h2 (h.2 k (by omega))
    · exact h2
  have h0 : sw R x &&& nearN R w g k ≠ 0 := by
    rw [and_ne]
    obtain ⟨y, y1, y2⟩ := h1
    exact ⟨y, by rw [sw_bit, decide_eq_true_iff]; exact y1, y2⟩
  have hlt : sw R x &&& nearN R w g k < 128 := Nat.lt_of_le_of_lt Nat.and_le_right (near_lt hw hg k)
  obtain ⟨t1, t2, t3⟩ := tz_spec hlt h0
  rw [Nat.testBit_and, Bool.and_eq_true, sw_bit, decide_eq_true_iff] at t1
  refine ⟨h0, hlt, t1.1, ⟨t1.2, fun j hj hn => ?_⟩, fun y y1 y2 => t3 y ?_⟩
  · exact h.2 (j + 1) (by omega) ((nr_s hR1).2 (.inr ⟨_, t1.1, hn⟩))
  · rw [Nat.testBit_and, sw_bit, decide_eq_true y1]
    exact y2.1
/-- The way, without its begin. -/
def pth (R : List (Nat × Nat)) (w g : Nat) : Nat → Nat → List Nat
  | 0, _ => []
  | k + 1, x => nxt R w g k x :: pth R w g k (nxt R w g k x)
theorem pth_len (R : List (Nat × Nat)) (w g : Nat) : ∀ k x, (pth R w g k x).length = k
  | 0, _ => rfl
  | k + 1, x => by rw [pth, List.length_cons, pth_len]
/-- No word is won: the rest has no way. -/
theorem near_stop {R : List (Nat × Nat)} {w g i : Nat} (h : nearN R w g (i + 1) = nearN R w g i) : ∀ j, i ≤ j → nearN R w g j = nearN R w g i := by
  intro j hj
  induction hj with
  | refl => rfl
  | step _ ih => rw [nearN, ih]; exact h
theorem no_way {R : List (Nat × Nat)} {w g i x : Nat} (hR : ∀ p ∈ R, p.1 < w) (h : nearN R w g (i + 1) = nearN R w g i) (hx : ∀ j, j ≤ i → ¬ Nr R w g j x) : ∀ j, ¬ Nr R w g j x := by
  intro j hj
  by_cases hji : j ≤ i
  · exact hx j hji hj
  · unfold Nr at hj
    rw [near_stop h j (by omega)] at hj
    exact hx i (Nat.le_refl _) hj
end Go.Proofs.YtmmfelpgcdlgfaaDoor

namespace Go.Proofs.YtmmfelpgcdlgfaaDoor
open Go.Av
set_option linter.unusedVariables false
set_option linter.unusedSimpArgs false
set_option maxRecDepth 8000

theorem l108 (s : Int) : literalF Tryd.prog 108 1 [(0, .int .u64 s)] = some [.int .u64 s] := by
  rw [literalF_of (z := [.int .u64 0]) (sz := 1) (by kernel_rfl) (by decide) (by simp)]
  rfl
/-- web.set of one word -/
theorem c47 {n g : Nat} {R : List (Nat × Nat)} {va : AV} {H : Heap} {K : AV → Heap → Prop} (hn : n ≤ 7) (hgn : g < n) (hva : Reads H va [(g : Int)]) (hk : K (.tup [.int .u64 ((2 ^ g : Nat) : Int), .int .i64 0]) H) :
    ACalls Tryd.prog 47 [.agg (webC n R), va] H K := by
  apply W47_ok
  unfold W47
  have hlen := hva.len
  simp only [letO_some, cellsOf?_agg, cellsOf?_int, cellsOf?_bool, cellsOf?_imm, cellsOf?_ref, cellsOf?_nils, faddr_iptr, faddr_ptr, List.drop_succ_cons, List.drop_zero, List.take_succ_cons, List.take_zero, load1_iptr, loadN_iptr, List.length_cons, List.length_nil, Nat.le_refl, if_true, List.getElem?_cons_zero, List.getElem?_cons_succ, List.getD_cons_zero, List.getD_cons_succ, extrF_tup, binF_add, binF_sub, binF_mul, binF_eql, binF_neq, binF_lss, binF_leq, binF_gtr, binF_geq, true_and, hlen]
  have hc0 : (webC n R)[0]? = some (.int .i64 (n : Int)) := rfl
  refine ⟨fun L H' => (eqt L [.int .i64 (-1), .int .u64 0, .int .i64 0] ∨ eqt L [.int .i64 (g : Int), .int .u64 ((2 ^ g : Nat) : Int), .int .i64 1]) ∧ eqt H' H, fun L _ => (1 - iv L 2).toNat, ⟨.inl rfl, rfl⟩, ?_⟩
  rintro L H' ⟨rfl | rfl, rfl⟩
  · simp only [letO_some, cellsOf?_agg, cellsOf?_int, cellsOf?_bool, cellsOf?_imm, cellsOf?_ref, cellsOf?_nils, faddr_iptr, faddr_ptr, List.drop_succ_cons, List.drop_zero, List.take_succ_cons, List.take_zero, load1_iptr, loadN_iptr, List.length_cons, List.length_nil, Nat.le_refl, if_true, List.getElem?_cons_zero, List.getElem?_cons_succ, List.getD_cons_zero, List.getD_cons_succ, extrF_tup, binF_add, binF_sub, binF_mul, binF_eql, binF_neq, binF_lss, binF_leq, binF_gtr, binF_geq, true_and]
    have e1 : decide ((0 : Int) < ((([] : List Int).length + 1 : Nat) : Int)) = true := rfl
    simp only [List.length_nil] at e1
    simp only [e1, condA_tt]
    refine Reads.get (Heap.le_refl _) hva (by omega) (by simp) ?_
    have e2 : ([(g : Int)] : List Int).getD (0 : Int).toNat 0 = (g : Int) := rfl
    have e3 : decide ((g : Int) < 0) = false := by rw [decide_eq_false_iff_not]; omega
    have e4 : decide ((n : Int) ≤ (g : Int)) = false := by rw [decide_eq_false_iff_not]; omega
    have e5 : decide ((g : Int) ≤ -1) = false := by rw [decide_eq_false_iff_not]; omega
    have e6 : IntKind.i64.wrap (0 + 1) = 1 := by rw [wrap_i64 (by omega) (by omega)]; rfl
    have p7 : 2 ^ g < 2 ^ 7 := Nat.pow_lt_pow_right (by omega) (by omega)
    have hor := u64_or (t := 76) (a := 0) (b := 2 ^ g) (by decide) (by omega)
    rw [Nat.zero_or] at hor
    have hor' : binF Tryd.prog .or 76 (.int .u64 0) (.int .u64 ((2 ^ g : Nat) : Int)) = some (.int .u64 ((2 ^ g : Nat) : Int)) := hor
    simp only [letO_some, cellsOf?_agg, cellsOf?_int, cellsOf?_bool, cellsOf?_imm, cellsOf?_ref, cellsOf?_nils, faddr_iptr, faddr_ptr, List.drop_succ_cons, List.drop_zero, List.take_succ_cons, List.take_zero, load1_iptr, loadN_iptr, List.length_cons, List.length_nil, Nat.le_refl, if_true, List.getElem?_cons_zero, List.getElem?_cons_succ, List.getD_cons_zero, List.getD_cons_succ, extrF_tup, binF_add, binF_sub, binF_mul, binF_eql, binF_neq, binF_lss, binF_leq, binF_gtr, binF_geq, true_and, e2, e3, gval_bool, Int.reduceBNe, Int.reduceBEq, pickF_true, pickF_false, reduceIte, Bool.true_eq_false, Bool.false_eq_true, if_false, condA_tt, condA_ff, condG_tt, condG_ff, condG_tt', condG_ff', condG_undef, gval_undef, hc0, e4, e5, u64_shl (k := g) (by omega), hor', e6]
    exact ⟨⟨.inr rfl, rfl⟩, by simp [iv]⟩
  · simp only [letO_some, cellsOf?_agg, cellsOf?_int, cellsOf?_bool, cellsOf?_imm, cellsOf?_ref, cellsOf?_nils, faddr_iptr, faddr_ptr, List.drop_succ_cons, List.drop_zero, List.take_succ_cons, List.take_zero, load1_iptr, loadN_iptr, List.length_cons, List.length_nil, Nat.le_refl, if_true, List.getElem?_cons_zero, List.getElem?_cons_succ, List.getD_cons_zero, List.getD_cons_succ, extrF_tup, binF_add, binF_sub, binF_mul, binF_eql, binF_neq, binF_lss, binF_leq, binF_gtr, binF_geq, true_and]
    have e1 : decide ((1 : Int) < ((([] : List Int).length + 1 : Nat) : Int)) = false := rfl
    simp only [List.length_nil] at e1
    simp only [e1, condA_ff]
    exact endK_ret hk
def nearC (R : List (Nat × Nat)) (w g i : Nat) : List AV := (List.range (i + 1)).map fun j => .int .u64 (nearN R w g j : Nat)
theorem nearC_len (R : List (Nat × Nat)) (w g i : Nat) : (nearC R w g i).length = i + 1 := by simp [nearC]
theorem nearC_get {R : List (Nat × Nat)} {w g i j : Nat} (h : j ≤ i) : (nearC R w g i)[j]? = some (.int .u64 (nearN R w g j : Nat)) := by
  simp [nearC, List.getElem?_range (show j < i + 1 by omega)]
theorem nearC_snoc (R : List (Nat × Nat)) (w g i : Nat) : nearC R w g (i + 1) = nearC R w g i ++ [.int .u64 (nearN R w g (i + 1) : Nat)] := by
  simp [nearC, List.range_succ]
def lnA (v : AV) : Nat := match v with
  | .imm n _ _ => n
  | .ref _ _ _ n _ => n
  | _ => 0
theorem grow_ln {sz : Nat} {H0 H : Heap} {v : AV} {n : Nat} {cells : List AV} (h : Grow sz H0 H v n cells) : lnA v = n := by
  rcases h.2 with ⟨rfl, rfl, _⟩ | ⟨rfl, _⟩ | ⟨b, hb, rfl, _⟩ <;> rfl
/-- see.Way from the first word to one -/
theorem c23 {v va : AV} {n g : Nat} {R : List (Nat × Nat)} {H : Heap} {K : AV → Heap → Prop} (h : Vd n R) (hv : RP H v R) (hva : Reads H va [(g : Int)]) (hgn : g < n)
    (hw : ∀ d, Ds R n g d 0 → K (.tup [sl (up (0 :: pth R n g d 0)), .int .i64 0]) H) (hl : (∀ j, ¬ Nr R n g j 0) → K (.tup [.nils, .int .i64 12]) H) :
    ACalls Tryd.prog 23 [.agg [.int .i64 (n : Int), v], va, .int .i64 0] H K := by
  apply W23_ok
  unfold W23
  have e0 : ((0 : Int) != 0) = false := rfl
  have hn7 := h.n7
  have hlen := hva.len
  have hR1 : ∀ p ∈ R, p.1 < n := fun p hp => (h.rng p hp).1
  simp only [letO_some, cellsOf?_agg, cellsOf?_int, cellsOf?_bool, cellsOf?_imm, cellsOf?_ref, cellsOf?_nils, faddr_iptr, faddr_ptr, List.drop_succ_cons, List.drop_zero, List.take_succ_cons, List.take_zero, load1_iptr, loadN_iptr, List.length_cons, List.length_nil, Nat.le_refl, if_true, List.getElem?_cons_zero, List.getElem?_cons_succ, List.getD_cons_zero, List.getD_cons_succ, extrF_tup, binF_add, binF_sub, binF_mul, binF_eql, binF_neq, binF_lss, binF_leq, binF_gtr, binF_geq, true_and]
  refine c31 h hv ?_
  simp only [letO_some, cellsOf?_agg, cellsOf?_int, cellsOf?_bool, cellsOf?_imm, cellsOf?_ref, cellsOf?_nils, faddr_iptr, faddr_ptr, List.drop_succ_cons, List.drop_zero, List.take_succ_cons, List.take_zero, load1_iptr, loadN_iptr, List.length_cons, List.length_nil, Nat.le_refl, if_true, List.getElem?_cons_zero, List.getElem?_cons_succ, List.getD_cons_zero, List.getD_cons_succ, extrF_tup, binF_add, binF_sub, binF_mul, binF_eql, binF_neq, binF_lss, binF_leq, binF_gtr, binF_geq, true_and]
  refine alloc_store (cs := webC n R) rfl (webC_all n R) (webC_len n R) rfl fun b8 hb8 => ?_
  have hle8 := Heap.le_new (c := webC n R) hb8
  have h8 : (H.put b8 (webC n R)) b8 = some (webC n R) := Heap.put_same
  generalize H.put b8 (webC n R) = H4 at *
  have hl17 : loadN 8 (.ptr b8 0) H4 = some (.agg (webC n R)) := by
    simp [loadN, cellsAt?, h8, webC_len, List.take_of_length_le]
  have el : (((([] : List Int).length + 1 : Nat) : Int) == 0) = false := rfl
  simp only [List.length_nil] at el
  simp only [letO_some, cellsOf?_agg, cellsOf?_int, cellsOf?_bool, cellsOf?_imm, cellsOf?_ref, cellsOf?_nils, faddr_iptr, faddr_ptr, List.drop_succ_cons, List.drop_zero, List.take_succ_cons, List.take_zero, load1_iptr, loadN_iptr, List.length_cons, List.length_nil, Nat.le_refl, if_true, List.getElem?_cons_zero, List.getElem?_cons_succ, List.getD_cons_zero, List.getD_cons_succ, extrF_tup, binF_add, binF_sub, binF_mul, binF_eql, binF_neq, binF_lss, binF_leq, binF_gtr, binF_geq, true_and, e0, condA_ff, hlen, el, hl17]
  refine c47 hn7 hgn (hva.le hle8) ?_
  have hn0 : load1 (.ptr b8 0) H4 = some (.int .i64 (n : Int)) := load1_at h8 rfl
  have e3 : decide ((0 : Int) < 0) = false := rfl
  have e4 : decide ((n : Int) ≤ 0) = false := by rw [decide_eq_false_iff_not]; have := h.n1; omega
  simp only [letO_some, cellsOf?_agg, cellsOf?_int, cellsOf?_bool, cellsOf?_imm, cellsOf?_ref, cellsOf?_nils, faddr_iptr, faddr_ptr, List.drop_succ_cons, List.drop_zero, List.take_succ_cons, List.take_zero, load1_iptr, loadN_iptr, List.length_cons, List.length_nil, Nat.le_refl, if_true, List.getElem?_cons_zero, List.getElem?_cons_succ, List.getD_cons_zero, List.getD_cons_succ, extrF_tup, binF_add, binF_sub, binF_mul, binF_eql, binF_neq, binF_lss, binF_leq, binF_gtr, binF_geq, true_and, e0, condA_ff, e3, gval_bool, Int.reduceBNe, Int.reduceBEq, pickF_true, pickF_false, reduceIte, Bool.true_eq_false, Bool.false_eq_true, if_false, condA_tt, condA_ff, condG_tt, condG_ff, condG_tt', condG_ff', condG_undef, gval_undef, hn0, e4, l108]
  refine ⟨fun L H' => ∃ (i : Nat) (X : AV), eqt L [X] ∧ Grow 1 H4 H' X (i + 1) (nearC R n g i) ∧ (∀ j, j < i → ¬ Nr R n g j 0) ∧ i < nearN R n g i, fun L _ => 128 - lnA (L.getD 0 .any),
    ⟨0, .imm 1 true [.int .u64 ((2 ^ g : Nat) : Int)], rfl, Grow.imm rfl, fun j hj => by omega, Nat.pow_pos (by omega)⟩, ?_⟩
  rintro L H1 ⟨i, X, rfl, hg, hno, hgt⟩
  have hlt := near_lt (R := R) hn7 hgn i
  have hX := hg.readsC
  have h8' := hg.le _ _ h8
  have w1 : IntKind.i64.wrap (((i + 1 : Nat) : Int) - 1) = (i : Int) := by rw [wrap_i64 (by omega) (by omega)]; omega
  have w2 : IntKind.i64.wrap (((i + 1 : Nat) : Int) - 2) = (i : Int) - 1 := by rw [wrap_i64 (by omega) (by omega)]; omega
  simp only [letO_some, cellsOf?_agg, cellsOf?_int, cellsOf?_bool, cellsOf?_imm, cellsOf?_ref, cellsOf?_nils, faddr_iptr, faddr_ptr, List.drop_succ_cons, List.drop_zero, List.take_succ_cons, List.take_zero, load1_iptr, loadN_iptr, List.length_cons, List.length_nil, Nat.le_refl, if_true, List.getElem?_cons_zero, List.getElem?_cons_succ, List.getD_cons_zero, List.getD_cons_succ, extrF_tup, binF_add, binF_sub, binF_mul, binF_eql, binF_neq, binF_lss, binF_leq, binF_gtr, binF_geq, true_and, hg.len, w1]
  refine ReadsC.get (Heap.le_refl _) hX (by omega) (by omega) (x := .int .u64 (nearN R n g i : Nat)) (by rw [Int.toNat_natCast]; exact nearC_get (Nat.le_refl _)) ?_
  have p64 : (2 : Nat) ^ 64 = 18446744073709551616 := by decide
  have hdiv : nearN R n g i / 2 ^ 0 < 2 ^ 64 := by
    rw [Nat.pow_zero, Nat.div_one]
    omega
  have hone : ∀ t, binF Tryd.prog .and t (.int .u64 ((nearN R n g i / 2 ^ 0 : Nat) : Int)) (.int .u64 1) = some (.int .u64 ((nearN R n g i / 2 ^ 0 &&& 1 : Nat) : Int)) := fun t => u64_and (t := t) (b := 1) hdiv (by decide)
  have hsh : ∀ t, binF Tryd.prog .shr t (.int .u64 ((nearN R n g i : Nat) : Int)) (.int .i64 0) = some (.int .u64 ((nearN R n g i / 2 ^ 0 : Nat) : Int)) := fun t => u64_shr (t := t) (a := nearN R n g i) (k := 0) (by omega)
  simp only [letO_some, cellsOf?_agg, cellsOf?_int, cellsOf?_bool, cellsOf?_imm, cellsOf?_ref, cellsOf?_nils, faddr_iptr, faddr_ptr, List.drop_succ_cons, List.drop_zero, List.take_succ_cons, List.take_zero, load1_iptr, loadN_iptr, List.length_cons, List.length_nil, Nat.le_refl, if_true, List.getElem?_cons_zero, List.getElem?_cons_succ, List.getD_cons_zero, List.getD_cons_succ, extrF_tup, binF_add, binF_sub, binF_mul, binF_eql, binF_neq, binF_lss, binF_leq, binF_gtr, binF_geq, true_and, hsh, hone, u64_bit0]
  cases hb : (nearN R n g i).testBit 0
  · simp only [Bool.not_false, condA_tt]
    refine ReadsC.get (Heap.le_refl _) hX (by omega) (by omega) (x := .int .u64 (nearN R n g i : Nat)) (by rw [Int.toNat_natCast]; exact nearC_get (Nat.le_refl _)) ?_
    have hn0' : load1 (.ptr b8 0) H1 = some (.int .i64 (n : Int)) := load1_at h8' rfl
    have hsl : slcArr 7 1 (.ptr b8 (0 + 1)) none (some (.int .i64 (n : Int))) none = some (.sub b8 1 n) := by
      have n1 : ∀ d, natOf none d = some d := fun d => rfl
      have n2 : ∀ d, natOf (some (.int .i64 (n : Int))) d = some n := fun d => by simp [natOf]
      simp only [slcArr, n1, n2, Option.bind_some]
      rw [if_pos ⟨by have := h.n1; omega, hn7⟩]
      simp
    have hsn : lenA (.sub b8 1 n) = some (.int .i64 (n : Int)) := rfl
    simp only [letO_some, cellsOf?_agg, cellsOf?_int, cellsOf?_bool, cellsOf?_imm, cellsOf?_ref, cellsOf?_nils, faddr_iptr, faddr_ptr, List.drop_succ_cons, List.drop_zero, List.take_succ_cons, List.take_zero, load1_iptr, loadN_iptr, List.length_cons, List.length_nil, Nat.le_refl, if_true, List.getElem?_cons_zero, List.getElem?_cons_succ, List.getD_cons_zero, List.getD_cons_succ, extrF_tup, binF_add, binF_sub, binF_mul, binF_eql, binF_neq, binF_lss, binF_leq, binF_gtr, binF_geq, true_and, hn0', hsl, hsn]
    refine ⟨fun L H' => ∃ m : Nat, eqt L [.int .u64 (widN R (nearN R n g i) m : Nat), .int .i64 (m : Int)] ∧ m ≤ n ∧ eqt H' H1, fun L _ => (n - iv L 1).toNat, ⟨0, rfl, by omega, rfl⟩, ?_⟩
    rintro L H' ⟨m, rfl, hm, rfl⟩
    have hwl := wid_lt (R := R) hlt (m := m) (by omega)
    simp only [letO_some, cellsOf?_agg, cellsOf?_int, cellsOf?_bool, cellsOf?_imm, cellsOf?_ref, cellsOf?_nils, faddr_iptr, faddr_ptr, List.drop_succ_cons, List.drop_zero, List.take_succ_cons, List.take_zero, load1_iptr, loadN_iptr, List.length_cons, List.length_nil, Nat.le_refl, if_true, List.getElem?_cons_zero, List.getElem?_cons_succ, List.getD_cons_zero, List.getD_cons_succ, extrF_tup, binF_add, binF_sub, binF_mul, binF_eql, binF_neq, binF_lss, binF_leq, binF_gtr, binF_geq, true_and]
    refine condA_t (fun hlt2 => ?_) (fun hge => ?_)
    · have a1 : m < n := by omega
      refine ⟨fun L16 H17 => eqt L16 [.int .u64 (widN R (nearN R n g i) (m + 1) : Nat)] ∧ eqt H17 H', ?_, ?_⟩
      · have hix : idx 1 (.sub b8 1 n) (.int .i64 (m : Int)) = some (.ptr b8 (1 + m)) := by
          simp only [idx]
          rw [if_pos (by omega)]
          simp
        have hld : load1 (.ptr b8 (1 + m)) H' = some (.int .u64 (sw R m : Nat)) := load1_at h8' (webC_get _ _ (by omega))
        have hsw := sw_lt (R := R) (fun r hr => by have := (h.rng r hr).2; omega) m
        have hb2 : (((sw R m &&& nearN R n g i : Nat) : Int) != 0) = (sw R m &&& nearN R n g i != 0) := by
          rw [Bool.eq_iff_iff, bne_iff_ne, bne_iff_ne]; omega
        have p7 : 2 ^ m < 2 ^ 7 := Nat.pow_lt_pow_right (by omega) (by omega)
        have p63 : (2 : Nat) ^ 63 = 9223372036854775808 := by decide
        have p64 : (2 : Nat) ^ 64 = 18446744073709551616 := by decide
        simp only [letO_some, cellsOf?_agg, cellsOf?_int, cellsOf?_bool, cellsOf?_imm, cellsOf?_ref, cellsOf?_nils, faddr_iptr, faddr_ptr, List.drop_succ_cons, List.drop_zero, List.take_succ_cons, List.take_zero, load1_iptr, loadN_iptr, List.length_cons, List.length_nil, Nat.le_refl, if_true, List.getElem?_cons_zero, List.getElem?_cons_succ, List.getD_cons_zero, List.getD_cons_succ, extrF_tup, binF_add, binF_sub, binF_mul, binF_eql, binF_neq, binF_lss, binF_leq, binF_gtr, binF_geq, true_and, hix, hld, u64_and (a := sw R m) (b := nearN R n g i) (by omega) (by omega), hb2]
        cases h0 : (sw R m &&& nearN R n g i != 0)
        · have h00 : sw R m &&& nearN R n g i = 0 := by simpa using h0
          simp only [condA_ff]
          exact ⟨by rw [widN, if_pos h00]; rfl, rfl⟩
        · have h00 : ¬ sw R m &&& nearN R n g i = 0 := by simpa using h0
          simp only [condA_tt, letO_some, cellsOf?_agg, cellsOf?_int, cellsOf?_bool, cellsOf?_imm, cellsOf?_ref, cellsOf?_nils, faddr_iptr, faddr_ptr, List.drop_succ_cons, List.drop_zero, List.take_succ_cons, List.take_zero, load1_iptr, loadN_iptr, List.length_cons, List.length_nil, Nat.le_refl, if_true, List.getElem?_cons_zero, List.getElem?_cons_succ, List.getD_cons_zero, List.getD_cons_succ, extrF_tup, binF_add, binF_sub, binF_mul, binF_eql, binF_neq, binF_lss, binF_leq, binF_gtr, binF_geq, true_and, u64_shl (k := m) (by omega), u64_or (a := widN R (nearN R n g i) m) (b := 2 ^ m) (by omega) (by omega)]
          exact ⟨by rw [widN, if_neg h00]; rfl, rfl⟩
      · rintro L16 H17 ⟨rfl, rfl⟩
        simp only [letO_some, cellsOf?_agg, cellsOf?_int, cellsOf?_bool, cellsOf?_imm, cellsOf?_ref, cellsOf?_nils, faddr_iptr, faddr_ptr, List.drop_succ_cons, List.drop_zero, List.take_succ_cons, List.take_zero, load1_iptr, loadN_iptr, List.length_cons, List.length_nil, Nat.le_refl, if_true, List.getElem?_cons_zero, List.getElem?_cons_succ, List.getD_cons_zero, List.getD_cons_succ, extrF_tup, binF_add, binF_sub, binF_mul, binF_eql, binF_neq, binF_lss, binF_leq, binF_gtr, binF_geq, true_and]
        rw [wrap_i64 (by omega) (by omega)]
        exact ⟨⟨m + 1, rfl, by omega, rfl⟩, by simp [iv] <;> omega⟩
    · have hme : m = n := by omega
      subst hme
      have hnx : widN R (nearN R m g i) m = nearN R m g (i + 1) := rfl
      have hnot : ∀ j, j ≤ i → ¬ Nr R m g j 0 := by
        intro j hj hn
        by_cases hji : j < i
        · exact hno j hji hn
        · have : j = i := by omega
          subst this
          unfold Nr at hn
          rw [hb] at hn; cases hn
      rw [hnx]
      have hge2 : nearN R m g i ≤ nearN R m g (i + 1) := wid_ge
      by_cases he : nearN R m g (i + 1) = nearN R m g i
      · have e : (((nearN R m g (i + 1) : Nat) : Int) == ((nearN R m g i : Nat) : Int)) = true := by rw [he]; simp
        simp only [e, condA_tt]
        refine endK_all (Heap.le_trans hle8 hg.le) 0 (hl (no_way hR1 he hnot))
      · have e : (((nearN R m g (i + 1) : Nat) : Int) == ((nearN R m g i : Nat) : Int)) = false := by rw [beq_eq_false_iff_ne]; omega
        simp only [e, condA_ff, l108, letO_some]
        refine appendA_grow hg (m := 1) (new := [.int .u64 (nearN R m g (i + 1) : Nat)]) (by simp [srcOf]) rfl rfl (by omega) (by omega) fun v' H7 hg7 => ?_
        rw [← nearC_snoc] at hg7
        try simp only [letO_some]
        refine ⟨⟨i + 1, v', rfl, hg7, fun j hj => hnot j (by omega), by omega⟩, ?_⟩
        show 128 - lnA v' < 128 - lnA X
        rw [grow_ln hg7, grow_ln hg]
        omega
  · have hds : Ds R n g i 0 := ⟨hb, hno⟩
    simp only [Bool.not_true, condA_ff, letO_some, cellsOf?_agg, cellsOf?_int, cellsOf?_bool, cellsOf?_imm, cellsOf?_ref, cellsOf?_nils, faddr_iptr, faddr_ptr, List.drop_succ_cons, List.drop_zero, List.take_succ_cons, List.take_zero, load1_iptr, loadN_iptr, List.length_cons, List.length_nil, Nat.le_refl, if_true, List.getElem?_cons_zero, List.getElem?_cons_succ, List.getD_cons_zero, List.getD_cons_succ, extrF_tup, binF_add, binF_sub, binF_mul, binF_eql, binF_neq, binF_lss, binF_leq, binF_gtr, binF_geq, true_and, l35 cellsOf?_int, hg.len, w2]
    refine ⟨fun L H' => ∃ (k x : Nat) (done : List Nat) (Y : AV), eqt L [.int .i64 (x : Int), Y, .int .i64 ((k : Int) - 1)] ∧ Grow 1 H1 H' Y done.length (ints (up done)) ∧ eqt (done ++ pth R n g k x) (0 :: pth R n g i 0) ∧ Ds R n g k x ∧ k ≤ i ∧ x < n, fun L _ => (iv L 2 + 1).toNat,
      ⟨i, 0, [0], .imm 1 true [.int .i64 0], rfl, Grow.imm rfl, rfl, hds, Nat.le_refl _, by omega⟩, ?_⟩
    rintro L H' ⟨k, x, done, Y, rfl, hgY, hdn, hdx, hki, hxn⟩
    simp only [letO_some, cellsOf?_agg, cellsOf?_int, cellsOf?_bool, cellsOf?_imm, cellsOf?_ref, cellsOf?_nils, faddr_iptr, faddr_ptr, List.drop_succ_cons, List.drop_zero, List.take_succ_cons, List.take_zero, load1_iptr, loadN_iptr, List.length_cons, List.length_nil, Nat.le_refl, if_true, List.getElem?_cons_zero, List.getElem?_cons_succ, List.getD_cons_zero, List.getD_cons_succ, extrF_tup, binF_add, binF_sub, binF_mul, binF_eql, binF_neq, binF_lss, binF_leq, binF_gtr, binF_geq, true_and]
    refine condA_t (fun hlt2 => ?_) (fun hge => ?_)
    · obtain ⟨k', rfl⟩ : ∃ k', k = k' + 1 := ⟨k - 1, by omega⟩
      have hk' : ((k' + 1 : Nat) : Int) - 1 = (k' : Int) := by omega
      obtain ⟨x1, x2, x3, x4, x5⟩ := nxt_spec hn7 hgn h.rng hdx
      have hia : idxArr 7 1 (.ptr b8 (0 + 1)) (.int .i64 (x : Int)) = some (.ptr b8 (1 + x)) := by
        simp only [idxArr]
        rw [if_pos (by omega)]
        simp
      have hld : load1 (.ptr b8 (1 + x)) H' = some (.int .u64 (sw R x : Nat)) := load1_at (hgY.le _ _ h8') (webC_get _ _ (by omega))
      have hsw := sw_lt (R := R) (fun r hr => by have := (h.rng r hr).2; omega) x
      have p64 : (2 : Nat) ^ 64 = 18446744073709551616 := by decide
      have hdl : done.length ≤ 200 := by
        have := congrArg List.length hdn
        simp only [List.length_append, List.length_cons, pth_len] at this
        omega
      simp only [letO_some, cellsOf?_agg, cellsOf?_int, cellsOf?_bool, cellsOf?_imm, cellsOf?_ref, cellsOf?_nils, faddr_iptr, faddr_ptr, List.drop_succ_cons, List.drop_zero, List.take_succ_cons, List.take_zero, load1_iptr, loadN_iptr, List.length_cons, List.length_nil, Nat.le_refl, if_true, List.getElem?_cons_zero, List.getElem?_cons_succ, List.getD_cons_zero, List.getD_cons_succ, extrF_tup, binF_add, binF_sub, binF_mul, binF_eql, binF_neq, binF_lss, binF_leq, binF_gtr, binF_geq, true_and, hia, hld, hk']
      refine ReadsC.get hgY.le hX (by omega) (by omega) (x := .int .u64 (nearN R n g k' : Nat)) (by rw [Int.toNat_natCast]; exact nearC_get (by omega)) ?_
      have hkl := near_lt (R := R) hn7 hgn k'
      simp only [letO_some, cellsOf?_agg, cellsOf?_int, cellsOf?_bool, cellsOf?_imm, cellsOf?_ref, cellsOf?_nils, faddr_iptr, faddr_ptr, List.drop_succ_cons, List.drop_zero, List.take_succ_cons, List.take_zero, load1_iptr, loadN_iptr, List.length_cons, List.length_nil, Nat.le_refl, if_true, List.getElem?_cons_zero, List.getElem?_cons_succ, List.getD_cons_zero, List.getD_cons_succ, extrF_tup, binF_add, binF_sub, binF_mul, binF_eql, binF_neq, binF_lss, binF_leq, binF_gtr, binF_geq, true_and, u64_and (a := sw R x) (b := nearN R n g k') (by omega) (by omega)]
      refine c48 x2 x1 ?_
      simp only [l35 cellsOf?_int, letO_some]
      refine appendA_one hgY (by omega) fun v' H7 hg7 => ?_
      have w3 : IntKind.i64.wrap ((k' : Int) - 1) = (k' : Int) - 1 := wrap_i64 (by omega) (by omega)
      simp only [letO_some, cellsOf?_agg, cellsOf?_int, cellsOf?_bool, cellsOf?_imm, cellsOf?_ref, cellsOf?_nils, faddr_iptr, faddr_ptr, List.drop_succ_cons, List.drop_zero, List.take_succ_cons, List.take_zero, load1_iptr, loadN_iptr, List.length_cons, List.length_nil, Nat.le_refl, if_true, List.getElem?_cons_zero, List.getElem?_cons_succ, List.getD_cons_zero, List.getD_cons_succ, extrF_tup, binF_add, binF_sub, binF_mul, binF_eql, binF_neq, binF_lss, binF_leq, binF_gtr, binF_geq, true_and, w3]
      refine ⟨⟨k', nxt R n g k' x, done ++ [nxt R n g k' x], v', rfl, ?_, ?_, x4, by omega, (h.rng _ x3).2⟩, by simp [iv] <;> omega⟩
      · have : up (done ++ [nxt R n g k' x]) = up done ++ [((nxt R n g k' x : Nat) : Int)] := by simp [up]
        rw [this]
        simpa [nxt] using hg7
      · show done ++ [nxt R n g k' x] ++ pth R n g k' (nxt R n g k' x) = _
        have hd' : done ++ pth R n g (k' + 1) x = 0 :: pth R n g i 0 := hdn
        rw [← hd', pth, List.append_assoc]
        rfl
    · have hk0 : k = 0 := by omega
      subst hk0
      have hd' : done ++ [] = 0 :: pth R n g i 0 := hdn
      rw [List.append_nil] at hd'
      subst hd'
      refine endK_all (Heap.le_trans hle8 (Heap.le_trans hg.le hgY.le)) 3 ?_
      have hcv := conv_grow hgY (H := H) (Heap.le_trans hle8 hg.le)
      show K (.tup [conv H H' 2 Y, .int .i64 0]) H
      rw [hcv, conv_ints]
      have := hw i hds
      simpa [sl] using this
end Go.Proofs.YtmmfelpgcdlgfaaDoor

namespace Go.Proofs.YtmmfelpgcdlgfaaDoor
open Go.Av
set_option linter.unusedVariables false
set_option linter.unusedSimpArgs false
set_option maxRecDepth 8000

/- Volumes. -/
structure Vb (A : List (Nat × Nat)) (room floor : Nat) : Prop where
  l1 : 1 ≤ A.length
  l12 : A.length ≤ 12
  rng : ∀ p ∈ A, 1 ≤ p.1 ∧ p.1 ≤ p.2 ∧ p.2 ≤ 30
  r1 : 1 ≤ room
  r100 : room ≤ 100
  fl : floor ≤ room
def bk (v : AV) (room floor : Nat) : AV := .agg [v, .int .i64 (room : Int), .int .i64 (floor : Int)]
/-- volume.Check -/
theorem c27 {v : AV} {A : List (Nat × Nat)} {room floor : Nat} {H : Heap} {K : AV → Heap → Prop} (h : Vb A room floor) (hv : RP H v A) (hk : K (.int .i64 0) H) : ACalls Tryd.prog 27 [bk v room floor] H K := by
  apply W27_ok
  unfold W27 bk
  have hlen := ReadsC.len hv
  have h1 := h.l1
  have h12 := h.l12
  have e1 : ((A.length : Int) == 0) = false := by rw [beq_eq_false_iff_ne]; omega
  have e2 : decide ((12 : Int) < (A.length : Int)) = false := by rw [decide_eq_false_iff_not]; omega
  simp only [letO_some, cellsOf?_agg, cellsOf?_int, cellsOf?_bool, cellsOf?_imm, cellsOf?_ref, cellsOf?_nils, faddr_iptr, faddr_ptr, List.drop_succ_cons, List.drop_zero, List.take_succ_cons, List.take_zero, load1_iptr, loadN_iptr, List.length_cons, List.length_nil, Nat.le_refl, if_true, List.getElem?_cons_zero, List.getElem?_cons_succ, List.getD_cons_zero, List.getD_cons_succ, extrF_tup, binF_add, binF_sub, binF_mul, binF_eql, binF_neq, binF_lss, binF_leq, binF_gtr, binF_geq, true_and, hlen, e1, e2, condA_ff]
  refine ⟨fun L H' => ∃ i : Nat, eqt L [.int .i64 i] ∧ i ≤ A.length ∧ H.le H', fun L _ => (A.length - iv L 0).toNat, ⟨0, rfl, by omega, Heap.le_refl _⟩, ?_⟩
  rintro L H1 ⟨i, rfl, hi, hle⟩
  simp only [letO_some, cellsOf?_agg, cellsOf?_int, cellsOf?_bool, cellsOf?_imm, cellsOf?_ref, cellsOf?_nils, faddr_iptr, faddr_ptr, List.drop_succ_cons, List.drop_zero, List.take_succ_cons, List.take_zero, load1_iptr, loadN_iptr, List.length_cons, List.length_nil, Nat.le_refl, if_true, List.getElem?_cons_zero, List.getElem?_cons_succ, List.getD_cons_zero, List.getD_cons_succ, extrF_tup, binF_add, binF_sub, binF_mul, binF_eql, binF_neq, binF_lss, binF_leq, binF_gtr, binF_geq, true_and]
  refine condA_t (fun hlt => ?_) (fun hge => ?_)
  · have a1 : i < A.length := by omega
    refine ReadsC.getN hle hv (by omega) (by omega) ?_
    rw [Int.toNat_natCast, rows_get prC_len (x := A[i]) (by simp [a1])]
    obtain ⟨r1, r2, r3⟩ := h.rng _ (List.getElem_mem a1)
    generalize A[i] = p at *
    refine alloc_store (cs := prC p) rfl rfl rfl rfl fun b4 hb4 => ?_
    have hle4 := Heap.le_trans hle (Heap.le_new (c := prC p) hb4)
    have h4 : (H1.put b4 (prC p)) b4 = some (prC p) := Heap.put_same
    generalize H1.put b4 (prC p) = H4 at *
    have l0 : load1 (.ptr b4 (0 + 0)) H4 = some (.int .i64 (p.1 : Int)) := load1_at h4 rfl
    have l1 : load1 (.ptr b4 (0 + 1)) H4 = some (.int .i64 (p.2 : Int)) := load1_at h4 rfl
    have m1 : min2F (.int .i64 (p.1 : Int)) (.int .i64 (p.2 : Int)) = some (.int .i64 (p.1 : Int)) := by
      simp only [min2F]; rw [if_neg (by omega)]
    have m2 : max2F (.int .i64 (p.1 : Int)) (.int .i64 (p.2 : Int)) = some (.int .i64 (p.2 : Int)) := by
      simp only [max2F]; split
      · rfl
      · congr 2; omega
    have d1 : decide ((p.1 : Int) < 1) = false := by rw [decide_eq_false_iff_not]; omega
    have d2 : decide ((30 : Int) < (p.2 : Int)) = false := by rw [decide_eq_false_iff_not]; omega
    have d3 : decide ((p.2 : Int) < (p.1 : Int)) = false := by rw [decide_eq_false_iff_not]; omega
    simp only [letO_some, cellsOf?_agg, cellsOf?_int, cellsOf?_bool, cellsOf?_imm, cellsOf?_ref, cellsOf?_nils, faddr_iptr, faddr_ptr, List.drop_succ_cons, List.drop_zero, List.take_succ_cons, List.take_zero, load1_iptr, loadN_iptr, List.length_cons, List.length_nil, Nat.le_refl, if_true, List.getElem?_cons_zero, List.getElem?_cons_succ, List.getD_cons_zero, List.getD_cons_succ, extrF_tup, binF_add, binF_sub, binF_mul, binF_eql, binF_neq, binF_lss, binF_leq, binF_gtr, binF_geq, true_and, l0, l1, m1, d1, gval_bool, Int.reduceBNe, Int.reduceBEq, pickF_true, pickF_false, reduceIte, Bool.true_eq_false, Bool.false_eq_true, if_false, condA_tt, condA_ff, condG_tt, condG_ff, condG_tt', condG_ff', condG_undef, gval_undef, m2, d2, d3]
    rw [wrap_i64 (by omega) (by omega)]
    exact ⟨⟨i + 1, rfl, by omega, hle4⟩, by simp [iv] <;> omega⟩
  · have r1 := h.r1
    have r2 := h.r100
    have r3 := h.fl
    have d1 : decide ((room : Int) < 1) = false := by rw [decide_eq_false_iff_not]; omega
    have d2 : decide ((100 : Int) < (room : Int)) = false := by rw [decide_eq_false_iff_not]; omega
    have d3 : decide ((floor : Int) < 0) = false := by rw [decide_eq_false_iff_not]; omega
    have d4 : decide ((room : Int) < (floor : Int)) = false := by rw [decide_eq_false_iff_not]; omega
    simp only [letO_some, cellsOf?_agg, cellsOf?_int, cellsOf?_bool, cellsOf?_imm, cellsOf?_ref, cellsOf?_nils, faddr_iptr, faddr_ptr, List.drop_succ_cons, List.drop_zero, List.take_succ_cons, List.take_zero, load1_iptr, loadN_iptr, List.length_cons, List.length_nil, Nat.le_refl, if_true, List.getElem?_cons_zero, List.getElem?_cons_succ, List.getD_cons_zero, List.getD_cons_succ, extrF_tup, binF_add, binF_sub, binF_mul, binF_eql, binF_neq, binF_lss, binF_leq, binF_gtr, binF_geq, true_and, d1, gval_bool, Int.reduceBNe, Int.reduceBEq, pickF_true, pickF_false, reduceIte, Bool.true_eq_false, Bool.false_eq_true, if_false, condA_tt, condA_ff, condG_tt, condG_ff, condG_tt', condG_ff', condG_undef, gval_undef, d2, d3, d4]
    exact endK_all hle 0 hk
/-- The lines of the first articles. -/
def sm (f : Nat × Nat → Nat) (A : List (Nat × Nat)) (k : Nat) : Nat := ((A.take k).map f).sum
def cnt (f : Nat × Nat → Nat) (A : List (Nat × Nat)) : List Nat := (List.range (A.length + 1)).map (sm f A)
theorem cnt_len (f : Nat × Nat → Nat) (A : List (Nat × Nat)) : (cnt f A).length = A.length + 1 := by simp [cnt]
theorem cnt_get {f : Nat × Nat → Nat} {A : List (Nat × Nat)} {k : Nat} (h : k ≤ A.length) : (up (cnt f A)).getD k 0 = (sm f A k : Int) := by
  simp [up, cnt, List.getD_eq_getElem?_getD, List.getElem?_range (show k < A.length + 1 by omega)]
theorem sm_succ {f : Nat × Nat → Nat} {A : List (Nat × Nat)} {k : Nat} (h : k < A.length) : sm f A (k + 1) = sm f A k + f A[k] := by
  unfold sm
  rw [List.take_add_one, List.getElem?_eq_getElem h, Option.toList_some, List.map_append, List.sum_append]
  simp
theorem sm_mono {f : Nat × Nat → Nat} {A : List (Nat × Nat)} {j k : Nat} (h : j ≤ k) : sm f A j ≤ sm f A k := by
  induction h with
  | refl => exact Nat.le_refl _
  | @step m _ ih =>
    refine Nat.le_trans ih ?_
    by_cases hm : m < A.length
    · rw [sm_succ hm]; omega
    · unfold sm; rw [List.take_of_length_le (by omega), List.take_of_length_le (by omega)]; exact Nat.le_refl _
theorem sm_le {f : Nat × Nat → Nat} {A : List (Nat × Nat)} (hf : ∀ p ∈ A, f p ≤ 30) (k : Nat) : sm f A k ≤ 30 * k := by
  induction k with
  | zero => simp [sm]
  | succ k ih =>
    by_cases hm : k < A.length
    · rw [sm_succ hm]
      have := hf _ (List.getElem_mem hm); omega
    · unfold sm at ih ⊢
      rw [List.take_of_length_le (by omega)] at ih ⊢
      omega
theorem l120 {x : AV} (hx : cellsOf? x = some [x]) : literalF Tryd.prog 120 1 [(0, x)] = some [x] := by
  rw [literalF_of (show literalPlan Tryd.prog 120 = some ([.int .i64 0], 1) by kernel_rfl) (by decide) (by simp)]
  simp [fillA, hx, splice, rowOf]
theorem c55 {p : Nat × Nat} {H : Heap} {K : AV → Heap → Prop} (hk : K (.int .i64 (p.1 : Int)) H) : ACalls Tryd.prog 55 [.agg (prC p)] H K := by
  apply W55_ok
  unfold W55
  simp only [letO_some, cellsOf?_agg, cellsOf?_int, cellsOf?_bool, cellsOf?_imm, cellsOf?_ref, cellsOf?_nils, faddr_iptr, faddr_ptr, List.drop_succ_cons, List.drop_zero, List.take_succ_cons, List.take_zero, load1_iptr, loadN_iptr, List.length_cons, List.length_nil, Nat.le_refl, if_true, List.getElem?_cons_zero, List.getElem?_cons_succ, List.getD_cons_zero, List.getD_cons_succ, extrF_tup, binF_add, binF_sub, binF_mul, binF_eql, binF_neq, binF_lss, binF_leq, binF_gtr, binF_geq, true_and, prC]
  exact endK_ret hk
theorem c78 {p : Nat × Nat} {H : Heap} {K : AV → Heap → Prop} (hk : K (.int .i64 (p.2 : Int)) H) : ACalls Tryd.prog 78 [.agg (prC p)] H K := by
  apply W78_ok
  unfold W78
  simp only [letO_some, cellsOf?_agg, cellsOf?_int, cellsOf?_bool, cellsOf?_imm, cellsOf?_ref, cellsOf?_nils, faddr_iptr, faddr_ptr, List.drop_succ_cons, List.drop_zero, List.take_succ_cons, List.take_zero, load1_iptr, loadN_iptr, List.length_cons, List.length_nil, Nat.le_refl, if_true, List.getElem?_cons_zero, List.getElem?_cons_succ, List.getD_cons_zero, List.getD_cons_succ, extrF_tup, binF_add, binF_sub, binF_mul, binF_eql, binF_neq, binF_lss, binF_leq, binF_gtr, binF_geq, true_and, prC]
  exact endK_ret hk
/-- What a function of an article gives. -/
def IsF (g : FuncId) (f : Nat × Nat → Nat) : Prop := ∀ (p : Nat × Nat) (H : Heap) (K : AV → Heap → Prop), K (.int .i64 (f p : Int)) H → ACalls Tryd.prog g [.agg (prC p)] H K
theorem is55 : IsF 55 Prod.fst := fun p H K hk => c55 hk
theorem is78 : IsF 78 Prod.snd := fun p H K hk => c78 hk
/-- Book.counted -/
theorem c54 {v : AV} {A : List (Nat × Nat)} {room floor : Nat} {g : FuncId} {f : Nat × Nat → Nat} {H : Heap} {K : AV → Heap → Prop} (hg : IsF g f) (hl : A.length ≤ 12) (hf : ∀ p ∈ A, f p ≤ 30) (hv : RP H v A)
    (hk : K (sl (up (cnt f A))) H) : ACalls Tryd.prog 54 [bk v room floor, .fn g []] H K := by
  apply W54_ok
  unfold W54 bk
  have hlen := ReadsC.len hv
  simp only [letO_some, cellsOf?_agg, cellsOf?_int, cellsOf?_bool, cellsOf?_imm, cellsOf?_ref, cellsOf?_nils, faddr_iptr, faddr_ptr, List.drop_succ_cons, List.drop_zero, List.take_succ_cons, List.take_zero, load1_iptr, loadN_iptr, List.length_cons, List.length_nil, Nat.le_refl, if_true, List.getElem?_cons_zero, List.getElem?_cons_succ, List.getD_cons_zero, List.getD_cons_succ, extrF_tup, binF_add, binF_sub, binF_mul, binF_eql, binF_neq, binF_lss, binF_leq, binF_gtr, binF_geq, true_and, hlen, l120 cellsOf?_int]
  refine ⟨fun L H' => ∃ (i : Nat) (X : AV) (Hg : Heap), eqt L [X, .int .i64 i] ∧ i ≤ A.length ∧ H.le Hg ∧ Grow 1 Hg H' X (i + 1) (ints (up ((List.range (i + 1)).map (sm f A)))), fun L _ => (A.length - iv L 1).toNat,
    ⟨0, .imm 1 true [.int .i64 0], H, rfl, by omega, Heap.le_refl _, ?_⟩, ?_⟩
  · exact Grow.imm rfl
  rintro L H1 ⟨i, X, Hg, rfl, hi, hle, hgr⟩
  simp only [letO_some, cellsOf?_agg, cellsOf?_int, cellsOf?_bool, cellsOf?_imm, cellsOf?_ref, cellsOf?_nils, faddr_iptr, faddr_ptr, List.drop_succ_cons, List.drop_zero, List.take_succ_cons, List.take_zero, load1_iptr, loadN_iptr, List.length_cons, List.length_nil, Nat.le_refl, if_true, List.getElem?_cons_zero, List.getElem?_cons_succ, List.getD_cons_zero, List.getD_cons_succ, extrF_tup, binF_add, binF_sub, binF_mul, binF_eql, binF_neq, binF_lss, binF_leq, binF_gtr, binF_geq, true_and]
  refine condA_t (fun hlt => ?_) (fun hge => ?_)
  · have a1 : i < A.length := by omega
    refine ReadsC.getN (Heap.le_trans hle hgr.le) hv (by omega) (by omega) ?_
    rw [Int.toNat_natCast, rows_get prC_len (x := A[i]) (by simp [a1])]
    refine alloc_store (cs := prC A[i]) rfl rfl rfl rfl fun b7 hb7 => ?_
    have hg2 := alloc_grow (cs := prC A[i]) hgr hb7
    have hle2 : H.le (Hg.put b7 (prC A[i])) := Heap.le_put hle (none_of_le hle (none_of_le hgr.le hb7))
    have h7 : (H1.put b7 (prC A[i])) b7 = some (prC A[i]) := Heap.put_same
    generalize H1.put b7 (prC A[i]) = H7 at *
    generalize Hg.put b7 (prC A[i]) = Hg2 at *
    have w1 : IntKind.i64.wrap (((i + 1 : Nat) : Int) - 1) = (i : Int) := by rw [wrap_i64 (by omega) (by omega)]; omega
    have l24 : loadN 2 (.ptr b7 0) H7 = some (.agg (prC A[i])) := loadN_at h7
    simp only [letO_some, cellsOf?_agg, cellsOf?_int, cellsOf?_bool, cellsOf?_imm, cellsOf?_ref, cellsOf?_nils, faddr_iptr, faddr_ptr, List.drop_succ_cons, List.drop_zero, List.take_succ_cons, List.take_zero, load1_iptr, loadN_iptr, List.length_cons, List.length_nil, Nat.le_refl, if_true, List.getElem?_cons_zero, List.getElem?_cons_succ, List.getD_cons_zero, List.getD_cons_succ, extrF_tup, binF_add, binF_sub, binF_mul, binF_eql, binF_neq, binF_lss, binF_leq, binF_gtr, binF_geq, true_and, hg2.len, w1]
    refine Reads.get (Heap.le_refl _) hg2.reads (by omega) (by simp <;> omega) ?_
    have hgt : (up ((List.range (i + 1)).map (sm f A))).getD (i : Int).toNat 0 = (sm f A i : Int) := by
      rw [Int.toNat_natCast]
      simp [up, List.getD_eq_getElem?_getD, List.getElem?_range (show i < i + 1 by omega)]
    simp only [letO_some, cellsOf?_agg, cellsOf?_int, cellsOf?_bool, cellsOf?_imm, cellsOf?_ref, cellsOf?_nils, faddr_iptr, faddr_ptr, List.drop_succ_cons, List.drop_zero, List.take_succ_cons, List.take_zero, load1_iptr, loadN_iptr, List.length_cons, List.length_nil, Nat.le_refl, if_true, List.getElem?_cons_zero, List.getElem?_cons_succ, List.getD_cons_zero, List.getD_cons_succ, extrF_tup, binF_add, binF_sub, binF_mul, binF_eql, binF_neq, binF_lss, binF_leq, binF_gtr, binF_geq, true_and, hgt, l24]
    refine ⟨.int .i64 (f A[i] : Int), hg _ _ _ ⟨rfl, rfl⟩, ?_⟩
    have hs := sm_le hf i
    have hfi := hf _ (List.getElem_mem a1)
    have w2 : IntKind.i64.wrap ((sm f A i : Int) + (f A[i] : Int)) = ((sm f A (i + 1) : Nat) : Int) := by rw [wrap_i64 (by omega) (by omega), sm_succ a1]; omega
    simp only [letO_some, cellsOf?_agg, cellsOf?_int, cellsOf?_bool, cellsOf?_imm, cellsOf?_ref, cellsOf?_nils, faddr_iptr, faddr_ptr, List.drop_succ_cons, List.drop_zero, List.take_succ_cons, List.take_zero, load1_iptr, loadN_iptr, List.length_cons, List.length_nil, Nat.le_refl, if_true, List.getElem?_cons_zero, List.getElem?_cons_succ, List.getD_cons_zero, List.getD_cons_succ, extrF_tup, binF_add, binF_sub, binF_mul, binF_eql, binF_neq, binF_lss, binF_leq, binF_gtr, binF_geq, true_and, w2, l120 cellsOf?_int]
    refine appendA_one hg2 (by omega) fun v' H8 hg8 => ?_
    have w3 : IntKind.i64.wrap ((i : Int) + 1) = ((i + 1 : Nat) : Int) := by rw [wrap_i64 (by omega) (by omega)]; omega
    simp only [letO_some, cellsOf?_agg, cellsOf?_int, cellsOf?_bool, cellsOf?_imm, cellsOf?_ref, cellsOf?_nils, faddr_iptr, faddr_ptr, List.drop_succ_cons, List.drop_zero, List.take_succ_cons, List.take_zero, load1_iptr, loadN_iptr, List.length_cons, List.length_nil, Nat.le_refl, if_true, List.getElem?_cons_zero, List.getElem?_cons_succ, List.getD_cons_zero, List.getD_cons_succ, extrF_tup, binF_add, binF_sub, binF_mul, binF_eql, binF_neq, binF_lss, binF_leq, binF_gtr, binF_geq, true_and, w3]
    refine ⟨⟨i + 1, v', Hg2, rfl, by omega, hle2, ?_⟩, by simp [iv] <;> omega⟩
    have : up ((List.range (i + 1 + 1)).map (sm f A)) = up ((List.range (i + 1)).map (sm f A)) ++ [((sm f A (i + 1) : Nat) : Int)] := by
      rw [List.range_succ (n := i + 1)]; simp [up]
    rw [this]
    simpa using hg8
  · have hie : i = A.length := by omega
    subst hie
    refine endK_all (Heap.le_trans hle hgr.le) 2 ?_
    rw [conv_grow hgr hle, conv_ints]
    have : sl (up (cnt f A)) = .imm (A.length + 1) false (ints (up ((List.range (A.length + 1)).map (sm f A)))) := by simp [sl, cnt]
    rw [← this]
    exact hk
/-- lines.between -/
theorem c79 {v : AV} {f : Nat × Nat → Nat} {A : List (Nat × Nat)} {b e : Nat} {H : Heap} {K : AV → Heap → Prop} (hv : Reads H v (up (cnt f A))) (hl : A.length ≤ 12) (hf : ∀ p ∈ A, f p ≤ 30) (hb : b ≤ A.length) (he : e ≤ A.length)
    (hk : K (.int .i64 ((sm f A e : Int) - (sm f A b : Int))) H) : ACalls Tryd.prog 79 [v, .int .i64 (b : Int), .int .i64 (e : Int)] H K := by
  apply W79_ok
  unfold W79
  have hln : (up (cnt f A)).length = A.length + 1 := by rw [up_length, cnt_len]
  try simp only [letO_some, cellsOf?_agg, cellsOf?_int, cellsOf?_bool, cellsOf?_imm, cellsOf?_ref, cellsOf?_nils, faddr_iptr, faddr_ptr, List.drop_succ_cons, List.drop_zero, List.take_succ_cons, List.take_zero, load1_iptr, loadN_iptr, List.length_cons, List.length_nil, Nat.le_refl, if_true, List.getElem?_cons_zero, List.getElem?_cons_succ, List.getD_cons_zero, List.getD_cons_succ, extrF_tup, binF_add, binF_sub, binF_mul, binF_eql, binF_neq, binF_lss, binF_leq, binF_gtr, binF_geq, true_and]
  refine Reads.get (Heap.le_refl _) hv (by omega) (by rw [hln]; omega) ?_
  try simp only [letO_some, cellsOf?_agg, cellsOf?_int, cellsOf?_bool, cellsOf?_imm, cellsOf?_ref, cellsOf?_nils, faddr_iptr, faddr_ptr, List.drop_succ_cons, List.drop_zero, List.take_succ_cons, List.take_zero, load1_iptr, loadN_iptr, List.length_cons, List.length_nil, Nat.le_refl, if_true, List.getElem?_cons_zero, List.getElem?_cons_succ, List.getD_cons_zero, List.getD_cons_succ, extrF_tup, binF_add, binF_sub, binF_mul, binF_eql, binF_neq, binF_lss, binF_leq, binF_gtr, binF_geq, true_and]
  refine Reads.get (Heap.le_refl _) hv (by omega) (by rw [hln]; omega) ?_
  have s1 := sm_le hf e
  have s2 := sm_le hf b
  simp only [letO_some, cellsOf?_agg, cellsOf?_int, cellsOf?_bool, cellsOf?_imm, cellsOf?_ref, cellsOf?_nils, faddr_iptr, faddr_ptr, List.drop_succ_cons, List.drop_zero, List.take_succ_cons, List.take_zero, load1_iptr, loadN_iptr, List.length_cons, List.length_nil, Nat.le_refl, if_true, List.getElem?_cons_zero, List.getElem?_cons_succ, List.getD_cons_zero, List.getD_cons_succ, extrF_tup, binF_add, binF_sub, binF_mul, binF_eql, binF_neq, binF_lss, binF_leq, binF_gtr, binF_geq, true_and, Int.toNat_natCast, cnt_get he, cnt_get hb]
  rw [wrap_i64 (by omega) (by omega)]
  exact endK_ret hk
/-- A way by steps of a list. -/
def Pw (R : List (Nat × Nat)) (n : Nat) : Nat → List Nat → Prop
  | x, [] => x = n
  | x, y :: E => (x, y) ∈ R ∧ Pw R n y E
theorem pw_at {R : List (Nat × Nat)} {n : Nat} : ∀ {E : List Nat} {x i : Nat}, Pw R n x E → i < E.length → ((x :: E).getD i 0, E.getD i 0) ∈ R
  | [], _, _, _, h => by simp at h
  | y :: E, x, 0, h, _ => h.1
  | y :: E, x, i + 1, h, hi => pw_at (E := E) (x := y) (i := i) h.2 (by simpa using hi)
theorem pw_end {R : List (Nat × Nat)} {n : Nat} : ∀ {E : List Nat} {x : Nat}, Pw R n x E → (x :: E).getD E.length 0 = n
  | [], _, h => h
  | y :: E, x, h => pw_end (E := E) (x := y) h.2
/-- The steps that a volume may take. -/
def okS (A : List (Nat × Nat)) (room floor : Nat) (p : Nat × Nat) : Prop := p.1 < p.2 ∧ p.2 ≤ A.length ∧ sm Prod.snd A p.2 - sm Prod.snd A p.1 ≤ room ∧ floor ≤ sm Prod.fst A p.2 - sm Prod.fst A p.1
/-- opened, of a cut -/
theorem c81 {v ve : AV} {A R : List (Nat × Nat)} {E : List Nat} {room floor : Nat} {H : Heap} {K : AV → Heap → Prop} (h : Vb A room floor) (hv : RP H v A) (hve : Reads H ve (up E)) (hE : E.length ≤ 100) (hR : ∀ p ∈ R, okS A room floor p) (hp : Pw R A.length 0 E)
    (hk : K (.int .i64 0) H) : ACalls Tryd.prog 81 [bk v room floor, ve] H K := by
  apply W81_ok
  unfold W81
  have e0 : ((0 : Int) != 0) = false := rfl
  have hlen := ReadsC.len hv
  have hle := hve.len
  have h12 := h.l12
  have hl3 : loadN 3 (.iptr [v, .int .i64 (room : Int), .int .i64 (floor : Int)]) H = some (bk v room floor) := rfl
  simp only [bk, cellsOf?_agg, letO_some, hl3]
  refine c27 h hv ?_
  simp only [letO_some, cellsOf?_agg, cellsOf?_int, cellsOf?_bool, cellsOf?_imm, cellsOf?_ref, cellsOf?_nils, faddr_iptr, faddr_ptr, List.drop_succ_cons, List.drop_zero, List.take_succ_cons, List.take_zero, load1_iptr, loadN_iptr, List.length_cons, List.length_nil, Nat.le_refl, if_true, List.getElem?_cons_zero, List.getElem?_cons_succ, List.getD_cons_zero, List.getD_cons_succ, extrF_tup, binF_add, binF_sub, binF_mul, binF_eql, binF_neq, binF_lss, binF_leq, binF_gtr, binF_geq, true_and, e0, condA_ff, hle, up_length]
  refine ⟨fun L H' => ∃ i : Nat, eqt L [.int .i64 ((0 :: E).getD i 0 : Nat), .int .i64 i] ∧ i ≤ E.length ∧ eqt H' H, fun L _ => (E.length - iv L 1).toNat, ⟨0, rfl, by omega, rfl⟩, ?_⟩
  rintro L H' ⟨i, rfl, hi, rfl⟩
  simp only [letO_some, cellsOf?_agg, cellsOf?_int, cellsOf?_bool, cellsOf?_imm, cellsOf?_ref, cellsOf?_nils, faddr_iptr, faddr_ptr, List.drop_succ_cons, List.drop_zero, List.take_succ_cons, List.take_zero, load1_iptr, loadN_iptr, List.length_cons, List.length_nil, Nat.le_refl, if_true, List.getElem?_cons_zero, List.getElem?_cons_succ, List.getD_cons_zero, List.getD_cons_succ, extrF_tup, binF_add, binF_sub, binF_mul, binF_eql, binF_neq, binF_lss, binF_leq, binF_gtr, binF_geq, true_and]
  refine condA_t (fun hlt => ?_) (fun hge => ?_)
  · have a1 : i < E.length := by omega
    obtain ⟨k1, k2, k3, k4⟩ := hR _ (pw_at hp a1)
    simp only at k1 k2
    refine Reads.get (Heap.le_refl _) hve (by omega) (by rw [up_length]; omega) ?_
    rw [Int.toNat_natCast, up_getD]
    have hnx : (0 :: E).getD (i + 1) 0 = E.getD i 0 := rfl
    rw [← hnx] at k1 k2 ⊢
    generalize (0 :: E).getD (i + 1) 0 = y at *
    generalize (0 :: E).getD i 0 = x at *
    have d1 : decide ((y : Int) < 1) = false := by rw [decide_eq_false_iff_not]; omega
    have d2 : decide ((A.length : Int) < (y : Int)) = false := by rw [decide_eq_false_iff_not]; omega
    have d3 : decide ((y : Int) ≤ (x : Int)) = false := by rw [decide_eq_false_iff_not]; omega
    simp only [letO_some, cellsOf?_agg, cellsOf?_int, cellsOf?_bool, cellsOf?_imm, cellsOf?_ref, cellsOf?_nils, faddr_iptr, faddr_ptr, List.drop_succ_cons, List.drop_zero, List.take_succ_cons, List.take_zero, load1_iptr, loadN_iptr, List.length_cons, List.length_nil, Nat.le_refl, if_true, List.getElem?_cons_zero, List.getElem?_cons_succ, List.getD_cons_zero, List.getD_cons_succ, extrF_tup, binF_add, binF_sub, binF_mul, binF_eql, binF_neq, binF_lss, binF_leq, binF_gtr, binF_geq, true_and, d1, gval_bool, Int.reduceBNe, Int.reduceBEq, pickF_true, pickF_false, reduceIte, Bool.true_eq_false, Bool.false_eq_true, if_false, condA_tt, condA_ff, condG_tt, condG_ff, condG_tt', condG_ff', condG_undef, gval_undef, hlen, d2]
    rw [wrap_i64 (by omega) (by omega)]
    cases hz : decide ((0 : Int) < (i : Int)) <;> simp only [gval_bool, Int.reduceBNe, Int.reduceBEq, pickF_true, pickF_false, reduceIte, Bool.true_eq_false, Bool.false_eq_true, if_false, condA_tt, condA_ff, condG_tt, condG_ff, condG_tt', condG_ff', condG_undef, gval_undef, letO_some, cellsOf?_agg, cellsOf?_int, cellsOf?_bool, cellsOf?_imm, cellsOf?_ref, cellsOf?_nils, faddr_iptr, faddr_ptr, List.drop_succ_cons, List.drop_zero, List.take_succ_cons, List.take_zero, load1_iptr, loadN_iptr, List.length_cons, List.length_nil, Nat.le_refl, if_true, List.getElem?_cons_zero, List.getElem?_cons_succ, List.getD_cons_zero, List.getD_cons_succ, extrF_tup, binF_add, binF_sub, binF_mul, binF_eql, binF_neq, binF_lss, binF_leq, binF_gtr, binF_geq, true_and, d3]
    · exact ⟨⟨i + 1, by rw [hnx]; rfl, by omega, rfl⟩, by simp [iv] <;> omega⟩
    · exact ⟨⟨i + 1, by rw [hnx]; rfl, by omega, rfl⟩, by simp [iv] <;> omega⟩
  · have hie : i = E.length := by omega
    subst hie
    have e1 : (((A.length : Nat) : Int) != (A.length : Int)) = false := by simp
    simp only [letO_some, cellsOf?_agg, cellsOf?_int, cellsOf?_bool, cellsOf?_imm, cellsOf?_ref, cellsOf?_nils, faddr_iptr, faddr_ptr, List.drop_succ_cons, List.drop_zero, List.take_succ_cons, List.take_zero, load1_iptr, loadN_iptr, List.length_cons, List.length_nil, Nat.le_refl, if_true, List.getElem?_cons_zero, List.getElem?_cons_succ, List.getD_cons_zero, List.getD_cons_succ, extrF_tup, binF_add, binF_sub, binF_mul, binF_eql, binF_neq, binF_lss, binF_leq, binF_gtr, binF_geq, true_and, hlen, pw_end hp, e1, condA_ff]
    exact endK_ret hk
/-- lines.first, where nothing holds -/
theorem c56 {v ve fv : AV} {f : Nat × Nat → Nat} {q : Int → Bool} {A R : List (Nat × Nat)} {E : List Nat} {H : Heap} {K : AV → Heap → Prop} (hv : Reads H v (up (cnt f A))) (hl : A.length ≤ 12) (hf : ∀ p ∈ A, f p ≤ 30)
    (hve : Reads H ve (up E)) (hE : E.length ≤ 100) (hR : ∀ p ∈ R, p.1 ≤ A.length ∧ p.2 ≤ A.length ∧ q ((sm f A p.2 : Int) - (sm f A p.1 : Int)) = false) (hp : Pw R A.length 0 E)
    (hq : ∀ (x : Int) (H' : Heap) (K : AV → Heap → Prop), K (.bool (q x)) H' → callA Tryd.prog fv [.int .i64 x] K H') (hk : K (.int .i64 (-1)) H) : ACalls Tryd.prog 56 [v, ve, fv] H K := by
  apply W56_ok
  unfold W56
  have hle := hve.len
  simp only [letO_some, cellsOf?_agg, cellsOf?_int, cellsOf?_bool, cellsOf?_imm, cellsOf?_ref, cellsOf?_nils, faddr_iptr, faddr_ptr, List.drop_succ_cons, List.drop_zero, List.take_succ_cons, List.take_zero, load1_iptr, loadN_iptr, List.length_cons, List.length_nil, Nat.le_refl, if_true, List.getElem?_cons_zero, List.getElem?_cons_succ, List.getD_cons_zero, List.getD_cons_succ, extrF_tup, binF_add, binF_sub, binF_mul, binF_eql, binF_neq, binF_lss, binF_leq, binF_gtr, binF_geq, true_and, hle, up_length]
  refine ⟨fun L H' => ∃ i : Nat, eqt L [.int .i64 ((0 :: E).getD i 0 : Nat), .int .i64 i] ∧ i ≤ E.length ∧ eqt H' H, fun L _ => (E.length - iv L 1).toNat, ⟨0, rfl, by omega, rfl⟩, ?_⟩
  rintro L H' ⟨i, rfl, hi, rfl⟩
  simp only [letO_some, cellsOf?_agg, cellsOf?_int, cellsOf?_bool, cellsOf?_imm, cellsOf?_ref, cellsOf?_nils, faddr_iptr, faddr_ptr, List.drop_succ_cons, List.drop_zero, List.take_succ_cons, List.take_zero, load1_iptr, loadN_iptr, List.length_cons, List.length_nil, Nat.le_refl, if_true, List.getElem?_cons_zero, List.getElem?_cons_succ, List.getD_cons_zero, List.getD_cons_succ, extrF_tup, binF_add, binF_sub, binF_mul, binF_eql, binF_neq, binF_lss, binF_leq, binF_gtr, binF_geq, true_and]
  refine condA_t (fun hlt => ?_) (fun hge => ?_)
  · have a1 : i < E.length := by omega
    obtain ⟨k1, k2, k3⟩ := hR _ (pw_at hp a1)
    simp only at k1 k2 k3
    refine Reads.get (Heap.le_refl _) hve (by omega) (by rw [up_length]; omega) ?_
    rw [Int.toNat_natCast, up_getD]
    try simp only [letO_some, cellsOf?_agg, cellsOf?_int, cellsOf?_bool, cellsOf?_imm, cellsOf?_ref, cellsOf?_nils, faddr_iptr, faddr_ptr, List.drop_succ_cons, List.drop_zero, List.take_succ_cons, List.take_zero, load1_iptr, loadN_iptr, List.length_cons, List.length_nil, Nat.le_refl, if_true, List.getElem?_cons_zero, List.getElem?_cons_succ, List.getD_cons_zero, List.getD_cons_succ, extrF_tup, binF_add, binF_sub, binF_mul, binF_eql, binF_neq, binF_lss, binF_leq, binF_gtr, binF_geq, true_and]
    refine c79 hv hl hf k1 k2 ?_
    refine hq _ _ _ ?_
    rw [k3, condA_ff]
    try simp only [letO_some, binF_add]
    rw [wrap_i64 (by omega) (by omega)]
    exact ⟨⟨i + 1, rfl, by omega, rfl⟩, by simp [iv] <;> omega⟩
  · exact endK_ret hk
theorem q101 {v : AV} {room floor : Nat} (x : Int) (H : Heap) (K : AV → Heap → Prop) (hk : K (.bool (decide ((room : Int) < x))) H) : callA Tryd.prog (.fn 101 [.iptr [v, .int .i64 (room : Int), .int .i64 (floor : Int)]]) [.int .i64 x] K H := by
  show ACalls Tryd.prog 101 [.int .i64 x, .iptr [v, .int .i64 (room : Int), .int .i64 (floor : Int)]] H K
  apply W101_ok
  unfold W101
  simp only [letO_some, cellsOf?_agg, cellsOf?_int, cellsOf?_bool, cellsOf?_imm, cellsOf?_ref, cellsOf?_nils, faddr_iptr, faddr_ptr, List.drop_succ_cons, List.drop_zero, List.take_succ_cons, List.take_zero, load1_iptr, loadN_iptr, List.length_cons, List.length_nil, Nat.le_refl, if_true, List.getElem?_cons_zero, List.getElem?_cons_succ, List.getD_cons_zero, List.getD_cons_succ, extrF_tup, binF_add, binF_sub, binF_mul, binF_eql, binF_neq, binF_lss, binF_leq, binF_gtr, binF_geq, true_and]
  exact endK_ret hk
theorem q57 {v : AV} {room floor : Nat} (x : Int) (H : Heap) (K : AV → Heap → Prop) (hk : K (.bool (decide (x < (floor : Int)))) H) : callA Tryd.prog (.fn 57 [.iptr [v, .int .i64 (room : Int), .int .i64 (floor : Int)]]) [.int .i64 x] K H := by
  show ACalls Tryd.prog 57 [.int .i64 x, .iptr [v, .int .i64 (room : Int), .int .i64 (floor : Int)]] H K
  apply W57_ok
  unfold W57
  simp only [letO_some, cellsOf?_agg, cellsOf?_int, cellsOf?_bool, cellsOf?_imm, cellsOf?_ref, cellsOf?_nils, faddr_iptr, faddr_ptr, List.drop_succ_cons, List.drop_zero, List.take_succ_cons, List.take_zero, load1_iptr, loadN_iptr, List.length_cons, List.length_nil, Nat.le_refl, if_true, List.getElem?_cons_zero, List.getElem?_cons_succ, List.getD_cons_zero, List.getD_cons_succ, extrF_tup, binF_add, binF_sub, binF_mul, binF_eql, binF_neq, binF_lss, binF_leq, binF_gtr, binF_geq, true_and]
  exact endK_ret hk
theorem Vb.snd {A : List (Nat × Nat)} {room floor : Nat} (h : Vb A room floor) : ∀ p ∈ A, Prod.snd p ≤ 30 := fun p hp => (h.rng p hp).2.2
theorem Vb.fst {A : List (Nat × Nat)} {room floor : Nat} (h : Vb A room floor) : ∀ p ∈ A, Prod.fst p ≤ 30 := fun p hp => Nat.le_trans (h.rng p hp).2.1 (h.rng p hp).2.2
/-- Book.over, of a safe cut -/
theorem c82 {v ve : AV} {A R : List (Nat × Nat)} {E : List Nat} {room floor : Nat} {H : Heap} {K : AV → Heap → Prop} (h : Vb A room floor) (hv : RP H v A) (hve : Reads H ve (up E)) (hE : E.length ≤ 100) (hR : ∀ p ∈ R, okS A room floor p) (hp : Pw R A.length 0 E)
    (hk : K (.int .i64 (-1)) H) : ACalls Tryd.prog 82 [bk v room floor, ve, .fn 78 []] H K := by
  apply W82_ok
  unfold W82
  have hl3 : loadN 3 (.iptr [v, .int .i64 (room : Int), .int .i64 (floor : Int)]) H = some (bk v room floor) := rfl
  simp only [bk, cellsOf?_agg, letO_some, hl3]
  refine c54 is78 h.l12 h.snd hv ?_
  try simp only [letO_some, cellsOf?_agg, cellsOf?_int, cellsOf?_bool, cellsOf?_imm, cellsOf?_ref, cellsOf?_nils, faddr_iptr, faddr_ptr, List.drop_succ_cons, List.drop_zero, List.take_succ_cons, List.take_zero, load1_iptr, loadN_iptr, List.length_cons, List.length_nil, Nat.le_refl, if_true, List.getElem?_cons_zero, List.getElem?_cons_succ, List.getD_cons_zero, List.getD_cons_succ, extrF_tup, binF_add, binF_sub, binF_mul, binF_eql, binF_neq, binF_lss, binF_leq, binF_gtr, binF_geq, true_and]
  refine c56 (q := fun x => decide ((room : Int) < x)) (Reads.sl _ _) h.l12 h.snd hve hE (R := R) (fun p hp => ?_) hp (fun x H' K hk => q101 x H' K hk) ?_
  · obtain ⟨k1, k2, k3, k4⟩ := hR p hp
    have := sm_mono (f := Prod.snd) (A := A) (Nat.le_of_lt k1)
    refine ⟨by omega, k2, ?_⟩
    rw [decide_eq_false_iff_not]; omega
  · try simp only [letO_some, cellsOf?_agg, cellsOf?_int, cellsOf?_bool, cellsOf?_imm, cellsOf?_ref, cellsOf?_nils, faddr_iptr, faddr_ptr, List.drop_succ_cons, List.drop_zero, List.take_succ_cons, List.take_zero, load1_iptr, loadN_iptr, List.length_cons, List.length_nil, Nat.le_refl, if_true, List.getElem?_cons_zero, List.getElem?_cons_succ, List.getD_cons_zero, List.getD_cons_succ, extrF_tup, binF_add, binF_sub, binF_mul, binF_eql, binF_neq, binF_lss, binF_leq, binF_gtr, binF_geq, true_and]
    exact endK_ret hk
/-- volume.Holds, of a safe cut -/
theorem c53 {v ve : AV} {A R : List (Nat × Nat)} {E : List Nat} {room floor : Nat} {H : Heap} {K : AV → Heap → Prop} (h : Vb A room floor) (hv : RP H v A) (hve : Reads H ve (up E)) (hE : E.length ≤ 100) (hR : ∀ p ∈ R, okS A room floor p) (hp : Pw R A.length 0 E)
    (hk : K (.int .i64 0) H) : ACalls Tryd.prog 53 [bk v room floor, ve] H K := by
  apply W53_ok
  unfold W53
  have e0 : ((0 : Int) == 0) = true := rfl
  have em : decide ((0 : Int) ≤ -1) = false := rfl
  have hl3 : loadN 3 (.iptr [v, .int .i64 (room : Int), .int .i64 (floor : Int)]) H = some (bk v room floor) := rfl
  simp only [bk, cellsOf?_agg, letO_some, hl3]
  refine c81 h hv hve hE hR hp ?_
  simp only [letO_some, true_and, binF_eql, e0, gval_bool, if_true, hl3]
  refine ⟨fun L H' => eqt L [.int .i64 0] ∧ eqt H' H, exJc (c82 h hv hve hE hR hp ?_), ?_⟩
  · simp only [letO_some, gval_bool, if_true, binF_geq, em, pickF_bool, condA_ff]
    exact ⟨rfl, rfl⟩
  · rintro L H' ⟨rfl, rfl⟩
    simp only [letO_some, cellsOf?_agg, cellsOf?_int, cellsOf?_bool, cellsOf?_imm, cellsOf?_ref, cellsOf?_nils, faddr_iptr, faddr_ptr, List.drop_succ_cons, List.drop_zero, List.take_succ_cons, List.take_zero, load1_iptr, loadN_iptr, List.length_cons, List.length_nil, Nat.le_refl, if_true, List.getElem?_cons_zero, List.getElem?_cons_succ, List.getD_cons_zero, List.getD_cons_succ, extrF_tup, binF_add, binF_sub, binF_mul, binF_eql, binF_neq, binF_lss, binF_leq, binF_gtr, binF_geq, true_and]
    exact endK_ret hk
/-- volume.Safe, of a safe cut -/
theorem c29 {v ve : AV} {A R : List (Nat × Nat)} {E : List Nat} {room floor : Nat} {H : Heap} {K : AV → Heap → Prop} (h : Vb A room floor) (hv : RP H v A) (hve : Reads H ve (up E)) (hE : E.length ≤ 100) (hR : ∀ p ∈ R, okS A room floor p) (hp : Pw R A.length 0 E)
    (hk : K (.int .i64 0) H) : ACalls Tryd.prog 29 [bk v room floor, ve] H K := by
  apply W29_ok
  unfold W29
  have e0 : ((0 : Int) == 0) = true := rfl
  have em : decide ((0 : Int) ≤ -1) = false := rfl
  have hl3 : loadN 3 (.iptr [v, .int .i64 (room : Int), .int .i64 (floor : Int)]) H = some (bk v room floor) := rfl
  simp only [bk, cellsOf?_agg, letO_some, hl3]
  refine c53 h hv hve hE hR hp ?_
  simp only [letO_some, true_and, binF_eql, e0, gval_bool, if_true, hl3]
  refine ⟨fun L H' => eqt L [.int .i64 0] ∧ eqt H' H, exJc (c54 is55 h.l12 h.fst hv ?_), ?_⟩
  · simp only [letO_some, gval_bool, if_true]
    refine exJc (c56 (q := fun x => decide (x < (floor : Int))) (Reads.sl _ _) h.l12 h.fst hve hE (R := R) (fun p hp => ?_) hp (fun x H' K hk => q57 x H' K hk) ?_)
    · obtain ⟨k1, k2, k3, k4⟩ := hR p hp
      have := sm_mono (f := Prod.fst) (A := A) (Nat.le_of_lt k1)
      refine ⟨by omega, k2, ?_⟩
      rw [decide_eq_false_iff_not]; omega
    · simp only [letO_some, gval_bool, if_true, binF_geq, em, pickF_bool, condA_ff]
      exact ⟨rfl, rfl⟩
  · rintro L H' ⟨rfl, rfl⟩
    simp only [letO_some, cellsOf?_agg, cellsOf?_int, cellsOf?_bool, cellsOf?_imm, cellsOf?_ref, cellsOf?_nils, faddr_iptr, faddr_ptr, List.drop_succ_cons, List.drop_zero, List.take_succ_cons, List.take_zero, load1_iptr, loadN_iptr, List.length_cons, List.length_nil, Nat.le_refl, if_true, List.getElem?_cons_zero, List.getElem?_cons_succ, List.getD_cons_zero, List.getD_cons_succ, extrF_tup, binF_add, binF_sub, binF_mul, binF_eql, binF_neq, binF_lss, binF_leq, binF_gtr, binF_geq, true_and]
    exact endK_ret hk
end Go.Proofs.YtmmfelpgcdlgfaaDoor

namespace Go.Proofs.YtmmfelpgcdlgfaaDoor
open Go.Av
set_option linter.unusedVariables false
set_option linter.unusedSimpArgs false
set_option maxRecDepth 8000

/- Plans: for each article, the fewest volumes from it on, and where the first one ends. -/
def plC (k y : Nat) (m : Int) : AV := .ifc 117 (.agg [.int .i64 (k : Int), .int .i64 (y : Int), .int .i64 m])
section
variable (R : List (Nat × Nat)) (n : Nat)
abbrev DsV (k x : Nat) : Prop := Ds R (n + 1) n k x
abbrev NrV (k x : Nat) : Prop := Nr R (n + 1) n k x
def IsP (x : Nat) (c : AV) : Prop := (c = .nili ∧ ∀ j, ¬ NrV R n j x) ∨ ∃ (k y : Nat) (m : Int), c = plC k y m ∧ DsV R n k x ∧ ∀ k', k = k' + 1 → y = nxt R (n + 1) n k' x
def IsQ (b e : Nat) (c : AV) : Prop := (c = .nili ∧ ∀ y, e < y → (b, y) ∈ R → ∀ j, ¬ NrV R n j y) ∨
  ∃ (k y : Nat) (m : Int), c = plC (k + 1) y m ∧ (b, y) ∈ R ∧ e < y ∧ DsV R n k y ∧ ∀ y', e < y' → (b, y') ∈ R → ∀ k', DsV R n k' y' → k < k' ∨ (k' = k ∧ y ≤ y')
/-- The plans from an article on. -/
def PlO (m : Nat) (cells : List AV) : Prop := cells.length = n + 1 ∧ (∀ x, m ≤ x → x ≤ n → IsP R n x (cells.getD x .any)) ∧ ∀ x, x < m → cells.getD x .any = .nili
/-- The same, and the article before, as far as it is tried. -/
def PlI (b e : Nat) (cells : List AV) : Prop := cells.length = n + 1 ∧ (∀ x, b < x → x ≤ n → IsP R n x (cells.getD x .any)) ∧ (∀ x, x < b → cells.getD x .any = .nili) ∧ IsQ R n b e (cells.getD b .any)
end
section
variable {R : List (Nat × Nat)} {n : Nat}
/-- The steps lead on. -/
def Stp (R : List (Nat × Nat)) (n : Nat) : Prop := ∀ p ∈ R, p.1 < p.2 ∧ p.2 ≤ n
theorem Stp.lt (h : Stp R n) : ∀ p ∈ R, p.1 < n + 1 ∧ p.2 < n + 1 := fun p hp => by have := h p hp; omega
theorem Stp.lt1 (h : Stp R n) : ∀ p ∈ R, p.1 < n + 1 := fun p hp => (h.lt p hp).1
theorem ds_bound (h : Stp R n) (hn : n ≤ 6) : ∀ {k x : Nat}, DsV R n k x → k + x ≤ n
  | 0, x, hd => by have := nr_0.1 hd.1; omega
  | k + 1, x, hd => by
    obtain ⟨_, _, h3, h4, _⟩ := nxt_spec (by omega) (by omega) h.lt hd
    have := ds_bound h hn h4
    have := h _ h3
    simp only at this
    omega
theorem plI_of {b : Nat} {cells : List AV} (h : Stp R n) (hb : b < n) (hp : PlO R n (b + 1) cells) : PlI R n b n cells := by
  obtain ⟨h1, h2, h3⟩ := hp
  refine ⟨h1, fun x hx hn => h2 x hx hn, fun x hx => h3 x (by omega), .inl ⟨h3 b (by omega), fun y hy hm => ?_⟩⟩
  have := h _ hm
  simp only at this; omega
theorem plO_of {b : Nat} {cells : List AV} (h : Stp R n) (hn : n ≤ 6) (hb : b < n) (hp : PlI R n b b cells) : PlO R n b cells := by
  obtain ⟨h1, h2, h3, h4⟩ := hp
  refine ⟨h1, fun x hx hxn => ?_, h3⟩
  by_cases hxb : x = b
  · subst hxb
    have hnot : ∀ {j}, NrV R n j x → ∃ j' y, j = j' + 1 ∧ (x, y) ∈ R ∧ ∃ d, d ≤ j' ∧ DsV R n d y := by
      intro j hj
      obtain ⟨d, hd, hds⟩ := ds_of h.lt1 hj
      cases d with
      | zero => have := nr_0.1 hds.1; omega
      | succ d =>
        obtain ⟨_, _, g3, g4, _⟩ := nxt_spec (by omega) (by omega) h.lt hds
        exact ⟨j - 1, _, by omega, g3, d, by omega, g4⟩
    rcases h4 with ⟨e, hno⟩ | ⟨k, y, m, e, q1, q2, q3, q4⟩
    · refine .inl ⟨e, fun j hj => ?_⟩
      obtain ⟨j', y, _, hy, d, _, hd⟩ := hnot hj
      have := h _ hy
      simp only at this
      exact hno y this.1 hy d hd.1
    · have hds : DsV R n (k + 1) x := by
        refine ⟨(nr_s h.lt1).2 (.inr ⟨y, q1, q3.1⟩), fun j hj hn => ?_⟩
        obtain ⟨j', y', rfl, hy, d, hd1, hd⟩ := hnot hn
        have hs := h _ hy
        simp only at hs
        rcases q4 y' hs.1 hy d hd with g | ⟨g, _⟩ <;> omega
      refine .inr ⟨k + 1, y, m, e, hds, fun k' hk' => ?_⟩
      have : k' = k := by omega
      subst this
      obtain ⟨_, _, g3, g4, g5⟩ := nxt_spec (by omega) (by omega) h.lt hds
      have hs := h _ g3
      simp only at hs
      have g6 := g5 y q1 q3
      rcases q4 _ hs.1 g3 k' g4 with g | ⟨_, g⟩ <;> omega
  · exact h2 x (by omega) hxn
theorem plI_skip {b e : Nat} {cells : List AV} (he : (b, e) ∉ R ∨ ∀ j, ¬ NrV R n j e) (h0 : 0 < e) (hp : PlI R n b e cells) : PlI R n b (e - 1) cells := by
  obtain ⟨h1, h2, h3, h4⟩ := hp
  refine ⟨h1, h2, h3, ?_⟩
  rcases h4 with ⟨c, hno⟩ | ⟨k, y, m, c, q1, q2, q3, q4⟩
  · refine .inl ⟨c, fun y hy hm j hj => ?_⟩
    by_cases hye : y = e
    · subst hye
      rcases he with he | he
      · exact he hm
      · exact he j hj
    · exact hno y (by omega) hm j hj
  · refine .inr ⟨k, y, m, c, q1, by omega, q3, fun y' hy hm k' hk' => ?_⟩
    by_cases hye : y' = e
    · subst hye
      rcases he with he | he
      · exact absurd hm he
      · exact absurd hk'.1 (he k')
    · exact q4 y' (by omega) hm k' hk'
theorem getD_set {cells : List AV} {b x : Nat} {c : AV} (hb : b < cells.length) : (cells.set b c).getD x .any = if x = b then c else cells.getD x .any := by
  rw [List.getD_eq_getElem?_getD, List.getElem?_set]
  by_cases h : b = x
  · subst h; simp [hb]
  · rw [if_neg h, if_neg (Ne.symm h), List.getD_eq_getElem?_getD]
theorem plI_set {b e : Nat} {cells : List AV} {c : AV} (hb : b < n) (hp : PlI R n b e cells) (hq : IsQ R n b (e - 1) c) : PlI R n b (e - 1) (cells.set b c) := by
  obtain ⟨h1, h2, h3, h4⟩ := hp
  refine ⟨by simp [h1], fun x hx hn => ?_, fun x hx => ?_, ?_⟩
  · rw [getD_set (by omega), if_neg (by omega)]; exact h2 x hx hn
  · rw [getD_set (by omega), if_neg (by omega)]; exact h3 x hx
  · rw [getD_set (by omega), if_pos rfl]; exact hq
theorem isQ_first {b e k : Nat} {m : Int} (h0 : 0 < e) (hm : (b, e) ∈ R) (hd : DsV R n k e) (hno : ∀ y, e < y → (b, y) ∈ R → ∀ j, ¬ NrV R n j y) : IsQ R n b (e - 1) (plC (k + 1) e m) := by
  refine .inr ⟨k, e, m, rfl, hm, by omega, hd, fun y' hy hm' k' hk' => ?_⟩
  by_cases hye : y' = e
  · subst hye; exact .inr ⟨ds_uniq hk' hd, Nat.le_refl _⟩
  · exact absurd hk'.1 (hno y' (by omega) hm' k')
theorem isQ_better {b e k k0 y0 : Nat} {m : Int} (h0 : 0 < e) (hm : (b, e) ∈ R) (hd : DsV R n k e) (hk : k ≤ k0)
    (hq : ∀ y', e < y' → (b, y') ∈ R → ∀ k', DsV R n k' y' → k0 < k' ∨ (k' = k0 ∧ y0 ≤ y')) : IsQ R n b (e - 1) (plC (k + 1) e m) := by
  refine .inr ⟨k, e, m, rfl, hm, by omega, hd, fun y' hy hm' k' hk' => ?_⟩
  by_cases hye : y' = e
  · subst hye; exact .inr ⟨ds_uniq hk' hd, Nat.le_refl _⟩
  · rcases hq y' (by omega) hm' k' hk' with g | ⟨g, _⟩ <;> omega
theorem isQ_worse {b e k k0 y0 : Nat} {m : Int} (h0 : 0 < e) (hm0 : (b, y0) ∈ R) (hy0 : e < y0) (hd0 : DsV R n k0 y0) (hd : DsV R n k e) (hk : k0 < k)
    (hq : ∀ y', e < y' → (b, y') ∈ R → ∀ k', DsV R n k' y' → k0 < k' ∨ (k' = k0 ∧ y0 ≤ y')) : IsQ R n b (e - 1) (plC (k0 + 1) y0 m) := by
  refine .inr ⟨k0, y0, m, rfl, hm0, by omega, hd0, fun y' hy hm' k' hk' => ?_⟩
  by_cases hye : y' = e
  · subst hye
    have := ds_uniq hk' hd
    omega
  · exact hq y' (by omega) hm' k' hk'
end
theorem mk117 (x : AV) : makeIfc Tryd.prog 117 x = some (.ifc 117 x) := by
  unfold makeIfc
  have h : (match Tryd.prog.underlying 117 with | some (.interface _) => false | some _ => true | none => false) = true := by kernel_rfl
  split at h
  · cases h
  · rename_i d h1 h2
    rw [h2]
    split
    · rename_i m hm; exact (h1 m (by simpa using hm)).elim
    · rfl
    · rename_i hm; cases hm
  · cases h
theorem z117 : zeroV Tryd.prog 117 = some (.agg [.int .i64 0, .int .i64 0, .int .i64 0]) := by kernel_rfl
theorem as117 (x : AV) : assertF Tryd.prog (.ifc 117 x) 117 true = some (.tup [x, .bool true]) := by
  unfold assertF
  have h : (match Tryd.prog.underlying 117 with | some (.interface _) => false | some _ => true | none => false) = true := by kernel_rfl
  split
  · rename_i m hm; rw [hm] at h; cases h
  · rfl
  · rename_i hm; rw [hm] at h; cases h
theorem as117n : assertF Tryd.prog .nili 117 true = some (.tup [.agg [.int .i64 0, .int .i64 0, .int .i64 0], .bool false]) := by
  unfold assertF
  have h : (match Tryd.prog.underlying 117 with | some (.interface _) => false | some _ => true | none => false) = true := by kernel_rfl
  split
  · rename_i m hm; rw [hm] at h; cases h
  · simp only [z117, if_true, Option.map_some]
  · rename_i hm; rw [hm] at h; cases h
theorem b117 : buildF Tryd.prog 117 [(2, .int .i64 1)] = some (.agg [.int .i64 0, .int .i64 0, .int .i64 1]) := by kernel_rfl
/-- What a cell holds: a plan, or none. -/
theorem as_of {c : AV} (h : c = .nili ∨ ∃ (k y : Nat) (m : Int), c = plC k y m) : ∃ (k y : Nat) (m : Int) (t : Bool), assertF Tryd.prog c 117 true = some (.tup [.agg [.int .i64 (k : Int), .int .i64 (y : Int), .int .i64 m], .bool t]) ∧ (t = true → c = plC k y m) ∧ (t = false → c = .nili) := by
  rcases h with rfl | ⟨k, y, m, rfl⟩
  · exact ⟨0, 0, 0, false, as117n, (fun h => by cases h), fun _ => rfl⟩
  · exact ⟨k, y, m, true, as117 _, fun _ => rfl, fun h => by cases h⟩
theorem isP_or {R : List (Nat × Nat)} {n x : Nat} {c : AV} (h : IsP R n x c) : c = .nili ∨ ∃ (k y : Nat) (m : Int), c = plC k y m := by
  rcases h with ⟨h, _⟩ | ⟨k, y, m, h, _⟩
  · exact .inl h
  · exact .inr ⟨k, y, m, h⟩
theorem isQ_or {R : List (Nat × Nat)} {n b e : Nat} {c : AV} (h : IsQ R n b e c) : c = .nili ∨ ∃ (k y : Nat) (m : Int), c = plC k y m := by
  rcases h with ⟨h, _⟩ | ⟨k, y, m, h, _⟩
  · exact .inl h
  · exact .inr ⟨k + 1, y, m, h⟩
end Go.Proofs.YtmmfelpgcdlgfaaDoor

namespace Go.Proofs.YtmmfelpgcdlgfaaDoor
open Go.Av
set_option linter.unusedVariables false
set_option linter.unusedSimpArgs false
set_option maxRecDepth 8000

theorem getD_some {cells : List AV} {i : Nat} (h : i < cells.length) : cells[i]? = some (cells.getD i .any) := by
  rw [List.getD_eq_getElem?_getD, List.getElem?_eq_getElem h]; rfl
theorem plC_inj {k y k' y' : Nat} {m m' : Int} (h : plC k y m = plC k' y' m') : k = k' ∧ y = y' ∧ m = m' := by
  simp only [plC, AV.ifc.injEq, AV.agg.injEq, List.cons.injEq, AV.int.injEq, true_and, and_true] at h
  omega
theorem rowNili (n : Nat) : rowOf [AV.nili] (n * 1) = List.replicate n .nili := by
  rw [show [AV.nili] = (fun _ : Unit => [AV.nili]) () from rfl, rowOf_eq (f := fun _ : Unit => [AV.nili]) (sz := 1) (y := ()) rfl]
  induction n with
  | zero => rfl
  | succ n ih => simp [List.replicate_succ, ih]
/-- Book.plans -/
theorem c51 {v : AV} {A R : List (Nat × Nat)} {room floor : Nat} {H : Heap} {K : AV → Heap → Prop} (h : Vb A room floor) (h6 : A.length ≤ 6) (hv : RP H v A) (hR : ∀ b e, (b, e) ∈ R ↔ okS A room floor (b, e))
    (hk : ∀ cells, PlO R A.length 0 cells → K (.imm (A.length + 1) false cells) H) : ACalls Tryd.prog 51 [bk v room floor] H K := by
  apply W51_ok
  unfold W51
  have hlen := ReadsC.len hv
  have hS : Stp R A.length := fun p hp => by
    have := (hR p.1 p.2).1 hp
    exact ⟨this.1, this.2.1⟩
  have hl3 : ∀ H', loadN 3 (.iptr [v, .int .i64 (room : Int), .int .i64 (floor : Int)]) H' = some (bk v room floor) := fun H' => rfl
  simp only [bk, cellsOf?_agg, letO_some, hl3, true_and]
  refine ⟨sl (up (cnt Prod.snd A)), c54 is78 h.l12 h.snd hv ⟨rfl, rfl⟩, ?_⟩
  refine c54 is55 h.l12 h.fst hv ?_
  have l1 := h.l1
  have w1 : IntKind.i64.wrap ((A.length : Int) + 1) = ((A.length + 1 : Nat) : Int) := by rw [wrap_i64 (by omega) (by omega)]; omega
  have w2 : IntKind.i64.wrap ((A.length : Int) - 1) = (A.length : Int) - 1 := wrap_i64 (by omega) (by omega)
  simp only [letO_some, cellsOf?_agg, cellsOf?_int, cellsOf?_bool, cellsOf?_imm, cellsOf?_ref, cellsOf?_nils, faddr_iptr, faddr_ptr, List.drop_succ_cons, List.drop_zero, List.take_succ_cons, List.take_zero, load1_iptr, loadN_iptr, List.length_cons, List.length_nil, Nat.le_refl, if_true, List.getElem?_cons_zero, List.getElem?_cons_succ, List.getD_cons_zero, List.getD_cons_succ, extrF_tup, binF_add, binF_sub, binF_mul, binF_eql, binF_neq, binF_lss, binF_leq, binF_gtr, binF_geq, true_and, hlen, w1]
  refine ⟨by omega, by omega, by omega, by omega, ?_⟩
  rw [Int.toNat_natCast, rowNili]
  intro b6 hb6
  have hidx : ∀ x, x ≤ A.length → idx 1 (.ref 1 b6 0 (A.length + 1) (some (A.length + 1))) (.int .i64 (x : Int)) = some (.ptr b6 x) := fun x hx => by
    rw [idx_ref (by omega)]; simp
  have hb := @Heap.put_same H b6 (List.replicate (A.length + 1) .nili)
  have hle6 := Heap.le_new (c := List.replicate (A.length + 1) .nili) hb6
  generalize H.put b6 (List.replicate (A.length + 1) .nili) = H3 at *
  simp only [letO_some, cellsOf?_agg, cellsOf?_int, cellsOf?_bool, cellsOf?_imm, cellsOf?_ref, cellsOf?_nils, faddr_iptr, faddr_ptr, List.drop_succ_cons, List.drop_zero, List.take_succ_cons, List.take_zero, load1_iptr, loadN_iptr, List.length_cons, List.length_nil, Nat.le_refl, if_true, List.getElem?_cons_zero, List.getElem?_cons_succ, List.getD_cons_zero, List.getD_cons_succ, extrF_tup, binF_add, binF_sub, binF_mul, binF_eql, binF_neq, binF_lss, binF_leq, binF_gtr, binF_geq, true_and, b117, mk117, hidx A.length (Nat.le_refl _), w2]
  refine storeA_of (cs := [plC 0 0 1]) hb rfl rfl rfl (by simp) ?_
  rw [splice_set (by simp)]
  have hb4 := @Heap.put_same H3 b6 ((List.replicate (A.length + 1) AV.nili).set A.length (plC 0 0 1))
  have hle4 : H.le (H3.put b6 ((List.replicate (A.length + 1) AV.nili).set A.length (plC 0 0 1))) := Heap.le_put hle6 hb6
  have hpl0 : PlO R A.length A.length ((List.replicate (A.length + 1) AV.nili).set A.length (plC 0 0 1)) := by
    refine ⟨by simp, fun x hx hxn => ?_, fun x hx => ?_⟩
    · have : x = A.length := by omega
      subst this
      rw [getD_set (by simp), if_pos rfl]
      exact .inr ⟨0, 0, 1, rfl, ⟨nr_0.2 rfl, fun j hj => by omega⟩, fun k' hk' => by omega⟩
    · rw [getD_set (by simp), if_neg (by omega), List.getD_eq_getElem?_getD, List.getElem?_replicate, if_pos (by omega)]; rfl
  generalize (List.replicate (A.length + 1) AV.nili).set A.length (plC 0 0 1) = cells0 at *
  generalize H3.put b6 cells0 = H4 at *
  try simp only [letO_some]
  refine ⟨fun L H' => ∃ (m : Nat) (cells : List AV), eqt L [.int .i64 ((m : Int) - 1)] ∧ m ≤ A.length ∧ H' b6 = some cells ∧ PlO R A.length m cells ∧ H.le H', fun L _ => (iv L 0 + 1).toNat, ⟨A.length, cells0, rfl, Nat.le_refl _, hb4, hpl0, hle4⟩, ?_⟩
  rintro L H8 ⟨m, cells, rfl, hm, hb8, hpl, hle8⟩
  simp only [letO_some, cellsOf?_agg, cellsOf?_int, cellsOf?_bool, cellsOf?_imm, cellsOf?_ref, cellsOf?_nils, faddr_iptr, faddr_ptr, List.drop_succ_cons, List.drop_zero, List.take_succ_cons, List.take_zero, load1_iptr, loadN_iptr, List.length_cons, List.length_nil, Nat.le_refl, if_true, List.getElem?_cons_zero, List.getElem?_cons_succ, List.getD_cons_zero, List.getD_cons_succ, extrF_tup, binF_add, binF_sub, binF_mul, binF_eql, binF_neq, binF_lss, binF_leq, binF_gtr, binF_geq, true_and]
  refine condA_t (fun hlt => ?_) (fun hge => ?_)
  · obtain ⟨b, rfl⟩ : ∃ b, m = b + 1 := ⟨m - 1, by omega⟩
    have hbi : ((b + 1 : Nat) : Int) - 1 = (b : Int) := by omega
    have w3 : IntKind.i64.wrap ((b : Int) - 1) = (b : Int) - 1 := wrap_i64 (by omega) (by omega)
    simp only [hbi]
    refine ⟨fun L H' => ∃ (e : Nat) (cells : List AV), eqt L [.int .i64 (e : Int)] ∧ b ≤ e ∧ e ≤ A.length ∧ H' b6 = some cells ∧ PlI R A.length b e cells ∧ H.le H', fun L _ => (iv L 0).toNat, ⟨A.length, cells, rfl, by omega, Nat.le_refl _, hb8, plI_of hS (by omega) hpl, hle8⟩, ?_⟩
    rintro L H12 ⟨e, cells, rfl, hbe, hen, hb12, hpi, hle12⟩
    simp only [letO_some, cellsOf?_agg, cellsOf?_int, cellsOf?_bool, cellsOf?_imm, cellsOf?_ref, cellsOf?_nils, faddr_iptr, faddr_ptr, List.drop_succ_cons, List.drop_zero, List.take_succ_cons, List.take_zero, load1_iptr, loadN_iptr, List.length_cons, List.length_nil, Nat.le_refl, if_true, List.getElem?_cons_zero, List.getElem?_cons_succ, List.getD_cons_zero, List.getD_cons_succ, extrF_tup, binF_add, binF_sub, binF_mul, binF_eql, binF_neq, binF_lss, binF_leq, binF_gtr, binF_geq, true_and]
    refine condA_t (fun hlt2 => ?_) (fun hge2 => ?_)
    · have hbe2 : b < e := by omega
      refine ⟨fun L H' => ∃ cells, H' b6 = some cells ∧ PlI R A.length b (e - 1) cells ∧ H.le H', ?_, ?_⟩
      · refine ⟨_, c79 (Reads.sl _ _) h.l12 h.snd (by omega) hen ⟨rfl, rfl⟩, ?_⟩
        have sle := sm_mono (f := Prod.snd) (A := A) (show b ≤ e by omega)
        have sle2 := sm_mono (f := Prod.fst) (A := A) (show b ≤ e by omega)
        cases hd1 : decide ((room : Int) < (sm Prod.snd A e : Int) - (sm Prod.snd A b : Int))
        · simp only [letO_some, cellsOf?_agg, cellsOf?_int, cellsOf?_bool, cellsOf?_imm, cellsOf?_ref, cellsOf?_nils, faddr_iptr, faddr_ptr, List.drop_succ_cons, List.drop_zero, List.take_succ_cons, List.take_zero, load1_iptr, loadN_iptr, List.length_cons, List.length_nil, Nat.le_refl, if_true, List.getElem?_cons_zero, List.getElem?_cons_succ, List.getD_cons_zero, List.getD_cons_succ, extrF_tup, binF_add, binF_sub, binF_mul, binF_eql, binF_neq, binF_lss, binF_leq, binF_gtr, binF_geq, true_and, hd1, gval_bool, Int.reduceBNe, Int.reduceBEq, pickF_true, pickF_false, reduceIte, Bool.true_eq_false, Bool.false_eq_true, if_false, condA_tt, condA_ff, condG_tt, condG_ff, condG_tt', condG_ff', condG_undef, gval_undef]
          refine ⟨.int .i64 ((sm Prod.fst A e : Int) - (sm Prod.fst A b : Int)), ?_⟩
          refine ⟨c79 (Reads.sl _ _) h.l12 h.fst (by omega) hen ⟨rfl, rfl⟩, ?_⟩
          rw [decide_eq_false_iff_not] at hd1
          simp only [letO_some, cellsOf?_agg, cellsOf?_int, cellsOf?_bool, cellsOf?_imm, cellsOf?_ref, cellsOf?_nils, faddr_iptr, faddr_ptr, List.drop_succ_cons, List.drop_zero, List.take_succ_cons, List.take_zero, load1_iptr, loadN_iptr, List.length_cons, List.length_nil, Nat.le_refl, if_true, List.getElem?_cons_zero, List.getElem?_cons_succ, List.getD_cons_zero, List.getD_cons_succ, extrF_tup, binF_add, binF_sub, binF_mul, binF_eql, binF_neq, binF_lss, binF_leq, binF_gtr, binF_geq, true_and]
          cases hd2 : decide ((sm Prod.fst A e : Int) - (sm Prod.fst A b : Int) < (floor : Int))
          · rw [decide_eq_false_iff_not] at hd2
            have hmem : (b, e) ∈ R := (hR b e).2 ⟨hbe2, hen, by simp only; omega, by simp only; omega⟩
            have hcl := hpi.1
            have hce := getD_some (cells := cells) (i := e) (by omega)
            have hcb := getD_some (cells := cells) (i := b) (by omega)
            have hPe := hpi.2.1 e hbe2 hen
            have hQb := hpi.2.2.2
            have hld : load1 (.ptr b6 e) H12 = some (cells.getD e .any) := load1_at hb12 hce
            obtain ⟨kr, yr, mr, tr, as1, as2, as3⟩ := as_of (isP_or hPe)
            simp only [condA_ff, letO_some, cellsOf?_agg, cellsOf?_int, cellsOf?_bool, cellsOf?_imm, cellsOf?_ref, cellsOf?_nils, faddr_iptr, faddr_ptr, List.drop_succ_cons, List.drop_zero, List.take_succ_cons, List.take_zero, load1_iptr, loadN_iptr, List.length_cons, List.length_nil, Nat.le_refl, if_true, List.getElem?_cons_zero, List.getElem?_cons_succ, List.getD_cons_zero, List.getD_cons_succ, extrF_tup, binF_add, binF_sub, binF_mul, binF_eql, binF_neq, binF_lss, binF_leq, binF_gtr, binF_geq, true_and, hidx e hen, hld, as1]
            refine alloc_store (cs := [.int .i64 (kr : Int), .int .i64 (yr : Int), .int .i64 mr]) rfl rfl rfl rfl fun b9 hb9 => ?_
            have g9 := @Heap.put_same H12 b9 [.int .i64 (kr : Int), .int .i64 (yr : Int), .int .i64 mr]
            have hne9 : b6 ≠ b9 := Heap.ne_of hb12 hb9
            have g96 : (H12.put b9 [.int .i64 (kr : Int), .int .i64 (yr : Int), .int .i64 mr]) b6 = some cells := (Heap.put_ne hne9).trans hb12
            have hle9 : H.le (H12.put b9 [.int .i64 (kr : Int), .int .i64 (yr : Int), .int .i64 mr]) := Heap.le_trans hle12 (Heap.le_new hb9)
            generalize H12.put b9 [.int .i64 (kr : Int), .int .i64 (yr : Int), .int .i64 mr] = H15 at *
            cases tr
            · simp only [letO_some, not_v, Bool.not_false, condA_tt]
              refine ⟨cells, g96, plI_skip (.inr ?_) (by omega) hpi, hle9⟩
              have hnil := as3 rfl
              rcases hPe with ⟨_, hno⟩ | ⟨k, y, m', hc, _⟩
              · exact hno
              · rw [hnil] at hc; cases hc
            · have hce2 := as2 rfl
              have hDe : DsV R A.length kr e := by
                rcases hPe with ⟨hc, _⟩ | ⟨k, y, m', hc, hd, _⟩
                · rw [hce2] at hc; cases hc
                · rw [hce2] at hc
                  obtain ⟨rfl, _, _⟩ := plC_inj hc
                  exact hd
              have hkr := ds_bound hS h6 hDe
              have hldb : load1 (.ptr b6 b) H15 = some (cells.getD b .any) := load1_at g96 hcb
              obtain ⟨k1, y1, m1, t1, at1, at2, at3⟩ := as_of (isQ_or hQb)
              simp only [letO_some, not_v, Bool.not_true, condA_ff, hidx b (by omega), hldb, at1, extrF_tup, List.getElem?_cons_zero, List.getElem?_cons_succ]
              refine alloc_store (cs := [.int .i64 (k1 : Int), .int .i64 (y1 : Int), .int .i64 m1]) rfl rfl rfl rfl fun b11 hb11 => ?_
              have g11 := @Heap.put_same H15 b11 [.int .i64 (k1 : Int), .int .i64 (y1 : Int), .int .i64 m1]
              have hne6 : b6 ≠ b11 := Heap.ne_of g96 hb11
              have hneq : b9 ≠ b11 := Heap.ne_of g9 hb11
              have g116 : (H15.put b11 [.int .i64 (k1 : Int), .int .i64 (y1 : Int), .int .i64 m1]) b6 = some cells := (Heap.put_ne hne6).trans g96
              have g119 : (H15.put b11 [.int .i64 (k1 : Int), .int .i64 (y1 : Int), .int .i64 m1]) b9 = some [.int .i64 (kr : Int), .int .i64 (yr : Int), .int .i64 mr] := (Heap.put_ne hneq).trans g9
              have hle11 : H.le (H15.put b11 [.int .i64 (k1 : Int), .int .i64 (y1 : Int), .int .i64 m1]) := Heap.le_trans hle9 (Heap.le_new hb11)
              have hbH11 := none_of_le hle9 hb11
              generalize H15.put b11 [.int .i64 (k1 : Int), .int .i64 (y1 : Int), .int .i64 m1] = H17 at *
              have q1 : load1 (.ptr b11 (0 + 2)) H17 = some (.int .i64 m1) := load1_at g11 rfl
              have q2 : load1 (.ptr b9 (0 + 2)) H17 = some (.int .i64 mr) := load1_at g119 rfl
              simp only [letO_some, faddr_ptr, q1, q2, binF_add]
              refine storeA_of (cs := [.int .i64 (IntKind.i64.wrap (m1 + mr))]) g11 rfl rfl rfl (by simp) ?_
              rw [show splice [AV.int .i64 (k1 : Int), .int .i64 (y1 : Int), .int .i64 m1] (0 + 2) [.int .i64 (IntKind.i64.wrap (m1 + mr))] = [.int .i64 (k1 : Int), .int .i64 (y1 : Int), .int .i64 (IntKind.i64.wrap (m1 + mr))] from rfl]
              generalize IntKind.i64.wrap (m1 + mr) = W at *
              have g18 := @Heap.put_same H17 b11 [.int .i64 (k1 : Int), .int .i64 (y1 : Int), .int .i64 W]
              have g186 : (H17.put b11 [.int .i64 (k1 : Int), .int .i64 (y1 : Int), .int .i64 W]) b6 = some cells := (Heap.put_ne hne6).trans g116
              have g189 : (H17.put b11 [.int .i64 (k1 : Int), .int .i64 (y1 : Int), .int .i64 W]) b9 = some [.int .i64 (kr : Int), .int .i64 (yr : Int), .int .i64 mr] := (Heap.put_ne hneq).trans g119
              have hle18 : H.le (H17.put b11 [.int .i64 (k1 : Int), .int .i64 (y1 : Int), .int .i64 W]) := Heap.le_put hle11 hbH11
              generalize H17.put b11 [.int .i64 (k1 : Int), .int .i64 (y1 : Int), .int .i64 W] = H18 at *
              have wk : IntKind.i64.wrap ((kr : Int) + 1) = ((kr + 1 : Nat) : Int) := by rw [wrap_i64 (by omega) (by omega)]; omega
              have p1 : load1 (.ptr b9 (0 + 0)) H18 = some (.int .i64 (kr : Int)) := load1_at g189 rfl
              have p2 : load1 (.ptr b11 (0 + 0)) H18 = some (.int .i64 (k1 : Int)) := load1_at g18 rfl
              -- a new first volume
              have upd : ∀ J : Heap → Prop, (∀ H' : Heap, H' b11 = some [.int .i64 ((kr + 1 : Nat) : Int), .int .i64 (e : Int), .int .i64 W] → H' b6 = some cells → H.le H' → J H') →
                  storeA 1 (.ptr b11 (0 + 0)) (.int .i64 ((kr + 1 : Nat) : Int)) (fun H20 => storeA 1 (.ptr b11 (0 + 1)) (.int .i64 (e : Int)) (fun H21 => J H21) H20) H18 := by
                intro J hJ
                refine storeA_of (cs := [.int .i64 ((kr + 1 : Nat) : Int)]) g18 rfl rfl rfl (by simp) ?_
                refine storeA_of (cs := [.int .i64 (e : Int)]) Heap.put_same rfl rfl rfl (by simp [splice]) ?_
                refine hJ ((H18.put b11 [.int .i64 ((kr + 1 : Nat) : Int), .int .i64 (y1 : Int), .int .i64 W]).put b11 [.int .i64 ((kr + 1 : Nat) : Int), .int .i64 (e : Int), .int .i64 W]) Heap.put_same ?_ ?_
                · rw [Heap.put_ne hne6, Heap.put_ne hne6]; exact g186
                · exact Heap.le_put (Heap.le_put hle18 hbH11) hbH11
              have fin : ∀ {kn yn : Nat} {H23 : Heap}, H23 b11 = some [.int .i64 (kn : Int), .int .i64 (yn : Int), .int .i64 W] → H23 b6 = some cells → H.le H23 → IsQ R A.length b (e - 1) (plC kn yn W) →
                  letO (loadN 3 (.ptr b11 0) H23) fun t98 => storeA 1 (.ptr b6 b) (.ifc 117 t98) (fun H24 => ∃ cells, H24 b6 = some cells ∧ PlI R A.length b (e - 1) cells ∧ H.le H24) H23 := by
                intro kn yn H23 f1 f2 f3 f4
                have l98 : loadN 3 (.ptr b11 0) H23 = some (.agg [.int .i64 (kn : Int), .int .i64 (yn : Int), .int .i64 W]) := loadN_at f1
                simp only [l98, letO_some]
                refine storeA_of (cs := [plC kn yn W]) f2 rfl rfl rfl (by simp; omega) ?_
                rw [splice_set (by omega)]
                exact ⟨_, Heap.put_same, plI_set (by omega) hpi f4, Heap.le_put f3 hb6⟩
              refine ⟨fun L H' => ∃ kn yn : Nat, H' b11 = some [.int .i64 (kn : Int), .int .i64 (yn : Int), .int .i64 W] ∧ H' b6 = some cells ∧ H.le H' ∧ IsQ R A.length b (e - 1) (plC kn yn W), ?_, ?_⟩
              · cases t1
                · simp only [letO_some, not_v, Bool.not_false, gval_bool, Int.reduceBNe, Int.reduceBEq, pickF_true, pickF_false, reduceIte, Bool.true_eq_false, Bool.false_eq_true, if_false, condA_tt, condA_ff, condG_tt, condG_ff, condG_tt', condG_ff', condG_undef, gval_undef, p1, binF_add, wk, faddr_ptr]
                  have hno : ∀ y, e < y → (b, y) ∈ R → ∀ j, ¬ NrV R A.length j y := by
                    have hnil := at3 rfl
                    rcases hQb with ⟨_, hno⟩ | ⟨k, y, m', hc, _⟩
                    · exact hno
                    · rw [hnil] at hc; cases hc
                  exact upd _ fun H' f1 f2 f3 => ⟨kr + 1, e, f1, f2, f3, isQ_first (by omega) hmem hDe hno⟩
                · have hq2 := at2 rfl
                  rcases hQb with ⟨hc, _⟩ | ⟨k0, y0, m0, hc, z1, z2, z3, z4⟩
                  · rw [hq2] at hc; cases hc
                  · rw [hq2] at hc
                    obtain ⟨rfl, rfl, _⟩ := plC_inj hc
                    simp only [letO_some, not_v, Bool.not_true, gval_bool, Int.reduceBNe, Int.reduceBEq, pickF_true, pickF_false, reduceIte, Bool.true_eq_false, Bool.false_eq_true, if_false, condA_tt, condA_ff, condG_tt, condG_ff, condG_tt', condG_ff', condG_undef, gval_undef, p1, p2, binF_add, binF_leq, wk, faddr_ptr]
                    cases hd3 : decide (((kr + 1 : Nat) : Int) ≤ ((k0 + 1 : Nat) : Int))
                    · rw [decide_eq_false_iff_not] at hd3
                      simp only [condA_ff]
                      exact ⟨k0 + 1, y1, g18, g186, hle18, isQ_worse (by omega) z1 z2 z3 hDe (by omega) z4⟩
                    · rw [decide_eq_true_iff] at hd3
                      simp only [condA_tt, letO_some, p1, binF_add, wk, faddr_ptr]
                      exact upd _ fun H' f1 f2 f3 => ⟨kr + 1, e, f1, f2, f3, isQ_better (by omega) hmem hDe (by omega) z4⟩
              · rintro L H23 ⟨kn, yn, f1, f2, f3, f4⟩
                exact fin f1 f2 f3 f4
          · simp only [condA_tt]
            rw [decide_eq_true_iff] at hd2
            refine ⟨cells, hb12, plI_skip (.inl fun hm => ?_) (by omega) hpi, hle12⟩
            have := ((hR b e).1 hm).2.2.2
            simp only at this; omega
        · simp only [letO_some, cellsOf?_agg, cellsOf?_int, cellsOf?_bool, cellsOf?_imm, cellsOf?_ref, cellsOf?_nils, faddr_iptr, faddr_ptr, List.drop_succ_cons, List.drop_zero, List.take_succ_cons, List.take_zero, load1_iptr, loadN_iptr, List.length_cons, List.length_nil, Nat.le_refl, if_true, List.getElem?_cons_zero, List.getElem?_cons_succ, List.getD_cons_zero, List.getD_cons_succ, extrF_tup, binF_add, binF_sub, binF_mul, binF_eql, binF_neq, binF_lss, binF_leq, binF_gtr, binF_geq, true_and, hd1, gval_bool, Int.reduceBNe, Int.reduceBEq, pickF_true, pickF_false, reduceIte, Bool.true_eq_false, Bool.false_eq_true, if_false, condA_tt, condA_ff, condG_tt, condG_ff, condG_tt', condG_ff', condG_undef, gval_undef]
          refine ⟨.tup [], rfl, ?_⟩
          rw [decide_eq_true_iff] at hd1
          refine ⟨cells, hb12, plI_skip (.inl fun hm => ?_) (by omega) hpi, hle12⟩
          have := ((hR b e).1 hm).2.2.1
          simp only at this; omega
      · rintro L H26 ⟨cells', j1, j2, j3⟩
        try simp only [letO_some, cellsOf?_agg, cellsOf?_int, cellsOf?_bool, cellsOf?_imm, cellsOf?_ref, cellsOf?_nils, faddr_iptr, faddr_ptr, List.drop_succ_cons, List.drop_zero, List.take_succ_cons, List.take_zero, load1_iptr, loadN_iptr, List.length_cons, List.length_nil, Nat.le_refl, if_true, List.getElem?_cons_zero, List.getElem?_cons_succ, List.getD_cons_zero, List.getD_cons_succ, extrF_tup, binF_add, binF_sub, binF_mul, binF_eql, binF_neq, binF_lss, binF_leq, binF_gtr, binF_geq, true_and]
        rw [wrap_i64 (by omega) (by omega)]
        exact ⟨⟨e - 1, cells', by show [_] = [_]; rw [show ((e - 1 : Nat) : Int) = (e : Int) - 1 by omega], by omega, by omega, j1, j2, j3⟩, by simp [iv] <;> omega⟩
    · have heb : e = b := by omega
      subst heb
      simp only [letO_some, cellsOf?_agg, cellsOf?_int, cellsOf?_bool, cellsOf?_imm, cellsOf?_ref, cellsOf?_nils, faddr_iptr, faddr_ptr, List.drop_succ_cons, List.drop_zero, List.take_succ_cons, List.take_zero, load1_iptr, loadN_iptr, List.length_cons, List.length_nil, Nat.le_refl, if_true, List.getElem?_cons_zero, List.getElem?_cons_succ, List.getD_cons_zero, List.getD_cons_succ, extrF_tup, binF_add, binF_sub, binF_mul, binF_eql, binF_neq, binF_lss, binF_leq, binF_gtr, binF_geq, true_and, w3]
      exact ⟨⟨e, cells, rfl, by omega, hb12, plO_of hS h6 (by omega) hpi, hle12⟩, by simp [iv] <;> omega⟩
  · have hm0 : m = 0 := by omega
    subst hm0
    refine endK_all hle8 2 ?_
    rw [show conv H H8 2 (.ref 1 b6 0 (A.length + 1) (some (A.length + 1))) = .imm (A.length + 1) false cells from ?_]
    · exact hk cells hpl
    have hcl := hpl.1
    simp only [conv, hb6, hb8]
    rw [if_pos (by omega), List.drop_zero, List.take_of_length_le (by omega)]
    congr 1
    have : cells.map (conv H H8 1) = cells.map id := List.map_congr_left fun c hc => by
      obtain ⟨i, hi, rfl⟩ := List.mem_iff_getElem.1 hc
      have hg : cells.getD i .any = cells[i] := by rw [List.getD_eq_getElem?_getD, List.getElem?_eq_getElem hi]; rfl
      rcases isP_or (hpl.2.1 i (by omega) (by omega)) with e | ⟨k, y, m, e⟩ <;> (rw [hg] at e; rw [e]; rfl)
    exact this.trans (List.map_id _)
end Go.Proofs.YtmmfelpgcdlgfaaDoor

namespace Go.Proofs.YtmmfelpgcdlgfaaDoor
open Go.Av
set_option linter.unusedVariables false
set_option linter.unusedSimpArgs false
set_option maxRecDepth 8000

/-- volume.Cut -/
theorem c26 {v : AV} {A R : List (Nat × Nat)} {room floor : Nat} {H : Heap} {K : AV → Heap → Prop} (h : Vb A room floor) (h6 : A.length ≤ 6) (hv : RP H v A) (hR : ∀ b e, (b, e) ∈ R ↔ okS A room floor (b, e))
    (hw : ∀ d, Ds R (A.length + 1) A.length d 0 → K (.tup [sl (up (pth R (A.length + 1) A.length d 0)), .int .i64 0]) H) (hl : (∀ j, ¬ Nr R (A.length + 1) A.length j 0) → K (.tup [.nils, .int .i64 12]) H) :
    ACalls Tryd.prog 26 [bk v room floor] H K := by
  apply W26_ok
  unfold W26
  have e0 : ((0 : Int) != 0) = false := rfl
  have hlen := ReadsC.len hv
  have hl1 := h.l1
  have hS : Stp R A.length := fun p hp => by
    have := (hR p.1 p.2).1 hp
    exact ⟨this.1, this.2.1⟩
  have hl3 : ∀ H', loadN 3 (.iptr [v, .int .i64 (room : Int), .int .i64 (floor : Int)]) H' = some (bk v room floor) := fun H' => rfl
  simp only [bk, cellsOf?_agg, letO_some, hl3]
  refine c27 h hv ?_
  simp only [letO_some, binF_neq, e0, condA_ff, hl3]
  refine c51 h h6 hv hR fun cells hpl => ?_
  obtain ⟨hcl, hP, _⟩ := hpl
  have hlet : ∀ {x : Nat}, x ≤ A.length → ∃ p, idx 1 (.imm (A.length + 1) false cells) (.int .i64 (x : Int)) = some p ∧ ∀ H', load1 p H' = some (cells.getD x .any) := fun {x} hx => by
    refine ⟨_, idx_imm (by omega), fun H' => ?_⟩
    rw [load1_iptr, Nat.mul_one, List.getElem?_drop, Nat.add_zero]
    exact getD_some (by omega)
  by_cases hex : ∃ d, Ds R (A.length + 1) A.length d 0
  · obtain ⟨d, hd⟩ := hex
    try simp only [letO_some, cellsOf?_agg, cellsOf?_int, cellsOf?_bool, cellsOf?_imm, cellsOf?_ref, cellsOf?_nils, faddr_iptr, faddr_ptr, List.drop_succ_cons, List.drop_zero, List.take_succ_cons, List.take_zero, load1_iptr, loadN_iptr, List.length_cons, List.length_nil, Nat.le_refl, if_true, List.getElem?_cons_zero, List.getElem?_cons_succ, List.getD_cons_zero, List.getD_cons_succ, extrF_tup, binF_add, binF_sub, binF_mul, binF_eql, binF_neq, binF_lss, binF_leq, binF_gtr, binF_geq, true_and]
    refine ⟨fun L H' => ∃ (k x : Nat) (done : List Nat) (X : AV) (Hg : Heap), eqt L [.int .i64 (x : Int), X] ∧ H.le Hg ∧ Grow 1 Hg H' X done.length (ints (up done)) ∧ eqt (done ++ pth R (A.length + 1) A.length k x) (pth R (A.length + 1) A.length d 0) ∧ Ds R (A.length + 1) A.length k x ∧ x ≤ A.length,
      fun L _ => (A.length - iv L 0).toNat, ⟨d, 0, [], .nils, H, rfl, Heap.le_refl _, Grow.nils 1 H, rfl, hd, by omega⟩, ?_⟩
    rintro L H7 ⟨k, x, done, X, Hg, rfl, hle, hg, hdn, hdx, hxn⟩
    simp only [letO_some, cellsOf?_agg, cellsOf?_int, cellsOf?_bool, cellsOf?_imm, cellsOf?_ref, cellsOf?_nils, faddr_iptr, faddr_ptr, List.drop_succ_cons, List.drop_zero, List.take_succ_cons, List.take_zero, load1_iptr, loadN_iptr, List.length_cons, List.length_nil, Nat.le_refl, if_true, List.getElem?_cons_zero, List.getElem?_cons_succ, List.getD_cons_zero, List.getD_cons_succ, extrF_tup, binF_add, binF_sub, binF_mul, binF_eql, binF_neq, binF_lss, binF_leq, binF_gtr, binF_geq, true_and, hlen]
    refine condA_t (fun hlt => ?_) (fun hge => ?_)
    · obtain ⟨k', rfl⟩ : ∃ k', k = k' + 1 := by
        cases k with
        | zero => have := nr_0.1 hdx.1; omega
        | succ k => exact ⟨k, rfl⟩
      obtain ⟨p, hp1, hp2⟩ := hlet hxn
      have hPx := hP x (by omega) hxn
      obtain ⟨kr, yr, mr, tr, as1, as2, as3⟩ := as_of (isP_or hPx)
      obtain ⟨x1, x2, x3, x4, x5⟩ := nxt_spec (by omega) (by omega) hS.lt hdx
      have htr : tr = true ∧ yr = nxt R (A.length + 1) A.length k' x := by
        cases tr
        · have hnil := as3 rfl
          rcases hPx with ⟨_, hno⟩ | ⟨k, y, m', hc, _⟩
          · exact absurd hdx.1 (hno _)
          · rw [hnil] at hc; cases hc
        · have hc2 := as2 rfl
          rcases hPx with ⟨hc, _⟩ | ⟨k, y, m', hc, hdk, hy⟩
          · rw [hc2] at hc; cases hc
          · rw [hc2] at hc
            obtain ⟨rfl, rfl, _⟩ := plC_inj hc
            exact ⟨rfl, hy k' (ds_uniq hdk hdx)⟩
      obtain ⟨rfl, rfl⟩ := htr
      simp only [hp1, hp2, as1, letO_some, extrF_tup, List.getElem?_cons_zero, List.getElem?_cons_succ]
      refine alloc_store (cs := [.int .i64 (kr : Int), .int .i64 (nxt R (A.length + 1) A.length k' x : Nat), .int .i64 mr]) rfl rfl rfl rfl fun b8 hb8 => ?_
      have hg2 := alloc_grow (cs := [.int .i64 (kr : Int), .int .i64 (nxt R (A.length + 1) A.length k' x : Nat), .int .i64 mr]) hg hb8
      have hle2 : H.le (Hg.put b8 [.int .i64 (kr : Int), .int .i64 (nxt R (A.length + 1) A.length k' x : Nat), .int .i64 mr]) := Heap.le_put hle (none_of_le hle (none_of_le hg.le hb8))
      have h8 : (H7.put b8 [.int .i64 (kr : Int), .int .i64 (nxt R (A.length + 1) A.length k' x : Nat), .int .i64 mr]) b8 = some [.int .i64 (kr : Int), .int .i64 (nxt R (A.length + 1) A.length k' x : Nat), .int .i64 mr] := Heap.put_same
      generalize H7.put b8 [.int .i64 (kr : Int), .int .i64 (nxt R (A.length + 1) A.length k' x : Nat), .int .i64 mr] = H8 at *
      generalize Hg.put b8 [.int .i64 (kr : Int), .int .i64 (nxt R (A.length + 1) A.length k' x : Nat), .int .i64 mr] = Hg2 at *
      have l33 : load1 (.ptr b8 (0 + 1)) H8 = some (.int .i64 (nxt R (A.length + 1) A.length k' x : Nat)) := load1_at h8 rfl
      have hdl : done.length ≤ 200 := by
        have := congrArg List.length hdn
        simp only [List.length_append, pth_len] at this
        have hb := ds_bound hS h6 hd
        omega
      simp only [letO_some, not_v, Bool.not_true, condA_ff, faddr_ptr, l33, l35 cellsOf?_int]
      refine appendA_one hg2 (by omega) fun v' H9 hg9 => ?_
      have hst := hS _ x3
      simp only at hst
      try simp only [letO_some]
      refine ⟨⟨k', nxt R (A.length + 1) A.length k' x, done ++ [nxt R (A.length + 1) A.length k' x], v', Hg2, rfl, hle2, ?_, ?_, x4, hst.2⟩, by simp [iv] <;> omega⟩
      · have : up (done ++ [nxt R (A.length + 1) A.length k' x]) = up done ++ [((nxt R (A.length + 1) A.length k' x : Nat) : Int)] := by simp [up]
        rw [this]
        simpa using hg9
      · have hd' : done ++ pth R (A.length + 1) A.length (k' + 1) x = pth R (A.length + 1) A.length d 0 := hdn
        show done ++ [nxt R (A.length + 1) A.length k' x] ++ pth R (A.length + 1) A.length k' (nxt R (A.length + 1) A.length k' x) = _
        rw [← hd', pth, List.append_assoc]
        rfl
    · have hx : x = A.length := by omega
      subst hx
      have hk0 : k = 0 := ds_uniq hdx ⟨nr_0.2 rfl, fun j hj => by omega⟩
      subst hk0
      have hd' : done ++ [] = pth R (A.length + 1) A.length d 0 := hdn
      rw [List.append_nil] at hd'
      subst hd'
      refine endK_all (Heap.le_trans hle hg.le) 3 ?_
      show K (.tup [conv H H7 2 X, .int .i64 0]) H
      rw [conv_grow hg hle, conv_ints]
      have := hw d hd
      simpa [sl] using this
  · have hno : ∀ j, ¬ Nr R (A.length + 1) A.length j 0 := fun j hj => by
      obtain ⟨d, _, hd⟩ := ds_of hS.lt1 hj
      exact hex ⟨d, hd⟩
    try simp only [letO_some, cellsOf?_agg, cellsOf?_int, cellsOf?_bool, cellsOf?_imm, cellsOf?_ref, cellsOf?_nils, faddr_iptr, faddr_ptr, List.drop_succ_cons, List.drop_zero, List.take_succ_cons, List.take_zero, load1_iptr, loadN_iptr, List.length_cons, List.length_nil, Nat.le_refl, if_true, List.getElem?_cons_zero, List.getElem?_cons_succ, List.getD_cons_zero, List.getD_cons_succ, extrF_tup, binF_add, binF_sub, binF_mul, binF_eql, binF_neq, binF_lss, binF_leq, binF_gtr, binF_geq, true_and]
    refine ⟨fun L H' => eqt L [.int .i64 0, .nils] ∧ eqt H' H, fun L _ => 0, ⟨rfl, rfl⟩, ?_⟩
    rintro L H7 ⟨rfl, rfl⟩
    simp only [letO_some, cellsOf?_agg, cellsOf?_int, cellsOf?_bool, cellsOf?_imm, cellsOf?_ref, cellsOf?_nils, faddr_iptr, faddr_ptr, List.drop_succ_cons, List.drop_zero, List.take_succ_cons, List.take_zero, load1_iptr, loadN_iptr, List.length_cons, List.length_nil, Nat.le_refl, if_true, List.getElem?_cons_zero, List.getElem?_cons_succ, List.getD_cons_zero, List.getD_cons_succ, extrF_tup, binF_add, binF_sub, binF_mul, binF_eql, binF_neq, binF_lss, binF_leq, binF_gtr, binF_geq, true_and, hlen]
    refine condA_t (fun hlt => ?_) (fun hge => by omega)
    obtain ⟨p, hp1, hp2⟩ := hlet (x := 0) (by omega)
    have hPx := hP 0 (by omega) (by omega)
    obtain ⟨kr, yr, mr, tr, as1, as2, as3⟩ := as_of (isP_or hPx)
    have htr : tr = false := by
      cases tr
      · rfl
      · have hc2 := as2 rfl
        rcases hPx with ⟨hc, _⟩ | ⟨k, y, m', hc, hdk, hy⟩
        · rw [hc2] at hc; cases hc
        · exact absurd hdk.1 (hno _)
    subst htr
    have hp1' : idx 1 (.imm (A.length + 1) false cells) (.int .i64 0) = some p := hp1
    simp only [hp1', hp2, as1, letO_some, extrF_tup, List.getElem?_cons_zero, List.getElem?_cons_succ]
    refine alloc_store (cs := [.int .i64 (kr : Int), .int .i64 (yr : Int), .int .i64 mr]) rfl rfl rfl rfl fun b8 hb8 => ?_
    simp only [letO_some, not_v, Bool.not_false, condA_tt]
    exact endK_all (Heap.le_new hb8) 0 (hl hno)
end Go.Proofs.YtmmfelpgcdlgfaaDoor

/- The choices of a graph of seven points are at most twelve. -/
namespace Go.Proofs.YtmmfelpgcdlgfaaDoor
set_option linter.unusedVariables false

/-- A set of points, a bit each, that is a choice among the points of a list. -/
structure Mis (adj : Nat → Nat → Bool) (V : List Nat) (S : Nat) : Prop where
  sub : ∀ x, S.testBit x = true → x ∈ V
  free : ∀ x y, S.testBit x = true → S.testBit y = true → adj x y = false
  full : ∀ x, x ∈ V → S.testBit x = false → ∃ y, S.testBit y = true ∧ adj x y = true
def gB (n : Nat) : Nat := [1, 1, 2, 3, 4, 6, 9, 12].getD n 0
theorem gB_step : ∀ n : Fin 8, ∀ k : Fin 8, 1 ≤ k.val → k.val ≤ n.val → k.val * gB (n.val - k.val) ≤ gB n.val := by decide +kernel
theorem gB_mono : ∀ a : Fin 8, ∀ b : Fin 8, a.val ≤ b.val → gB a.val ≤ gB b.val := by decide +kernel
theorem filter_both {α : Type} (p : α → Bool) (L : List α) : (L.filter p).length + (L.filter fun x => !p x).length = L.length := by
  induction L with
  | nil => rfl
  | cons a L ih => cases h : p a <;> simp [h] <;> omega
theorem cover_le (N : List Nat) : ∀ (L : List Nat) (b : Nat), (∀ S ∈ L, ∃ u ∈ N, S.testBit u = true) → (∀ u ∈ N, (L.filter fun S => S.testBit u).length ≤ b) → L.length ≤ N.length * b := by
  induction N with
  | nil =>
    intro L b h1 _
    cases L with
    | nil => simp
    | cons S L => obtain ⟨u, hu, _⟩ := h1 S (by simp); cases hu
  | cons u N ih =>
    intro L b h1 h2
    have h3 := ih (L.filter fun S => !S.testBit u) b
      (fun S hS => by
        rw [List.mem_filter] at hS
        obtain ⟨w, hw, hw2⟩ := h1 S hS.1
        rcases List.mem_cons.1 hw with rfl | hw
        · rw [hw2] at hS; simp at hS
        · exact ⟨w, hw, hw2⟩)
      (fun w hw => by
        refine Nat.le_trans (List.Sublist.length_le ?_) (h2 w (List.mem_cons_of_mem _ hw))
        exact List.Sublist.filter _ List.filter_sublist)
    have h4 := h2 u (by simp)
    have h5 := filter_both (fun S : Nat => S.testBit u) L
    rw [List.length_cons, Nat.succ_mul]
    omega
theorem least_in {α : Type} (f : α → Nat) : ∀ (L : List α), L ≠ [] → ∃ a ∈ L, ∀ b ∈ L, f a ≤ f b := by
  intro L
  induction L with
  | nil => intro h; exact absurd rfl h
  | cons a L ih =>
    intro _
    cases L with
    | nil => exact ⟨a, by simp, by simp⟩
    | cons c L =>
      obtain ⟨m, hm, h⟩ := ih (by simp)
      by_cases hc : f a ≤ f m
      · refine ⟨a, by simp, fun b hb => ?_⟩
        rcases List.mem_cons.1 hb with rfl | hb
        · exact Nat.le_refl _
        · exact Nat.le_trans hc (h b hb)
      · refine ⟨m, List.mem_cons_of_mem _ hm, fun b hb => ?_⟩
        rcases List.mem_cons.1 hb with rfl | hb
        · omega
        · exact h b hb
theorem xor_bit (S u x : Nat) : (S ^^^ 2 ^ u).testBit x = (S.testBit x ^^ decide (u = x)) := by
  rw [Nat.testBit_xor, Nat.testBit_two_pow]
theorem nodup_map {α β : Type} {f : α → β} : ∀ {L : List α}, (∀ a ∈ L, ∀ b ∈ L, f a = f b → a = b) → L.Pairwise (· ≠ ·) → (L.map f).Pairwise (· ≠ ·) := by
  intro L
  induction L with
  | nil => intro _ _; exact List.Pairwise.nil
  | cons a L ih =>
    intro h hp
    rw [List.pairwise_cons] at hp
    rw [List.map_cons, List.pairwise_cons]
    refine ⟨fun b hb => ?_, ih (fun x hx y hy => h x (List.mem_cons_of_mem _ hx) y (List.mem_cons_of_mem _ hy)) hp.2⟩
    obtain ⟨c, hc, rfl⟩ := List.mem_map.1 hb
    intro he
    exact hp.1 c hc (h a (by simp) c (List.mem_cons_of_mem _ hc) he)
/-- There are at most so many choices. -/
theorem mis_le {adj : Nat → Nat → Bool} (hs : ∀ x y, adj x y = adj y x) (hi : ∀ x, adj x x = false) :
    ∀ (k : Nat) (V L : List Nat), V.length = k → k ≤ 7 → L.Pairwise (· ≠ ·) → (∀ S ∈ L, Mis adj V S) → L.length ≤ gB k := by
  intro k
  induction k using Nat.strongRecOn with
  | _ k ih =>
    intro V L hV hk hnd hL
    by_cases hV0 : V = []
    · subst hV0
      simp at hV
      subst hV
      have h0 : ∀ S ∈ L, S = 0 := fun S hS => by
        apply Nat.eq_of_testBit_eq
        intro i
        rw [Nat.zero_testBit]
        cases h : S.testBit i
        · rfl
        · exact absurd ((hL S hS).sub i h) (by simp)
      cases L with
      | nil => simp
      | cons a L =>
        cases L with
        | nil => simp [gB]
        | cons b L =>
          rw [List.pairwise_cons] at hnd
          exact absurd ((h0 a (by simp)).trans (h0 b (by simp)).symm) (hnd.1 b (by simp))
    · obtain ⟨v, hv, hmin⟩ := least_in (fun u => (V.filter fun w => w == u || adj u w).length) V hV0
      have hcov : L.length ≤ (V.filter fun w => w == v || adj v w).length * gB (k - (V.filter fun w => w == v || adj v w).length) := by
        refine cover_le _ _ _ (fun S hS => ?_) (fun u hu => ?_)
        · cases h : S.testBit v
          · obtain ⟨y, y1, y2⟩ := (hL S hS).full v hv h
            exact ⟨y, List.mem_filter.2 ⟨(hL S hS).sub y y1, by simp [y2]⟩, y1⟩
          · exact ⟨v, List.mem_filter.2 ⟨hv, by simp⟩, h⟩
        · have huV : u ∈ V := (List.mem_filter.1 hu).1
          have hsum := filter_both (fun w => w == u || adj u w) V
          have hlow := hmin u huV
          have hpos : 1 ≤ (V.filter fun w => w == u || adj u w).length := List.length_pos_of_mem (List.mem_filter.2 ⟨huV, by simp⟩)
          have hmap := ih (V.filter fun w => !(w == u || adj u w)).length (by omega) (V.filter fun w => !(w == u || adj u w)) ((L.filter fun S => S.testBit u).map fun S => S ^^^ 2 ^ u) rfl (by omega)
            (nodup_map (fun a _ b _ h => by
              have : a ^^^ 2 ^ u ^^^ 2 ^ u = b ^^^ 2 ^ u ^^^ 2 ^ u := by rw [h]
              simpa [Nat.xor_assoc] using this) (hnd.filter _))
            (fun T hT => by
              obtain ⟨S, hS, rfl⟩ := List.mem_map.1 hT
              rw [List.mem_filter] at hS
              obtain ⟨hS, hSu⟩ := hS
              have hm := hL S hS
              refine ⟨fun x hx => ?_, fun x y hx hy => ?_, fun x hx hnx => ?_⟩
              · rw [xor_bit] at hx
                by_cases hux : u = x
                · subst hux; rw [hSu] at hx; simp at hx
                · simp [hux] at hx
                  refine List.mem_filter.2 ⟨hm.sub x hx, ?_⟩
                  have := hm.free u x hSu hx
                  simp [this]; exact fun h => hux h.symm
              · rw [xor_bit] at hx hy
                by_cases hux : u = x
                · subst hux; rw [hSu] at hx; simp at hx
                · by_cases huy : u = y
                  · subst huy; rw [hSu] at hy; simp at hy
                  · simp [hux] at hx; simp [huy] at hy
                    exact hm.free x y hx hy
              · rw [List.mem_filter] at hx
                have hx2 := hx.2
                simp at hx2
                rw [xor_bit] at hnx
                have hux : ¬ u = x := fun h => hx2.1 h.symm
                simp [hux] at hnx
                obtain ⟨y, y1, y2⟩ := hm.full x hx.1 hnx
                have huy : ¬ u = y := by
                  rintro rfl
                  rw [hs, hx2.2] at y2; cases y2
                exact ⟨y, by rw [xor_bit]; simp [huy, y1], y2⟩)
          rw [List.length_map] at hmap
          have hmono := gB_mono ⟨(V.filter fun w => !(w == u || adj u w)).length, by omega⟩ ⟨k - (V.filter fun w => w == v || adj v w).length, by omega⟩ (by simp only; omega)
          exact Nat.le_trans hmap hmono
      have hv1 : 1 ≤ (V.filter fun w => w == v || adj v w).length := List.length_pos_of_mem (List.mem_filter.2 ⟨hv, by simp⟩)
      have hvk : (V.filter fun w => w == v || adj v w).length ≤ k := by rw [← hV]; exact List.length_filter_le _ _
      have := gB_step ⟨k, by omega⟩ ⟨(V.filter fun w => w == v || adj v w).length, by omega⟩ hv1 hvk
      exact Nat.le_trans hcov this
end Go.Proofs.YtmmfelpgcdlgfaaDoor

/- Choices of words that see each other both ways, and lists of wrong articles. -/
namespace Go.Proofs.YtmmfelpgcdlgfaaDoor
set_option linter.unusedVariables false

theorem cmpL_tri : ∀ (a b : List Int), cmpL a b = -1 ∨ cmpL a b = 0 ∨ cmpL a b = 1 := by
  intro a
  induction a with
  | nil => intro b; cases b <;> simp [cmpL]
  | cons x a ih =>
    intro b
    cases b with
    | nil => simp [cmpL]
    | cons y b =>
      rw [cmpL]
      split
      · simp
      · split
        · simp
        · exact ih b
/-- What the search for the shortest lists knows. -/
theorem sh_inv (R : List (Nat × Nat)) (L : List Nat) :
    (L.foldl (shF R) ([], 0)).2 = L.countP (fun s => expl R s && (lsN s).length == (L.foldl (shF R) ([], 0)).1.length) ∧
    (∀ s ∈ L, expl R s = true → (L.foldl (shF R) ([], 0)).1.length ≤ (lsN s).length ∧ 0 < (L.foldl (shF R) ([], 0)).2) ∧
    (0 < (L.foldl (shF R) ([], 0)).2 → ∃ s ∈ L, expl R s = true ∧ lsN s = (L.foldl (shF R) ([], 0)).1) := by
  induction L using snoc_ind with
  | h0 => simp
  | h1 L a ih =>
    rw [List.foldl_append]
    simp only [List.foldl_cons, List.foldl_nil]
    generalize L.foldl (shF R) ([], 0) = st at *
    obtain ⟨best, many⟩ := st
    obtain ⟨i1, i2, i3⟩ := ih
    simp only at i1 i2 i3
    have hsame : ∀ {b : List Nat} {m : Nat}, (0 < m → ∃ s ∈ L, expl R s = true ∧ lsN s = b) → 0 < m → ∃ s ∈ L ++ [a], expl R s = true ∧ lsN s = b := by
      intro b m h hm
      obtain ⟨s, s1, s2⟩ := h hm
      exact ⟨s, List.mem_append_left _ s1, s2⟩
    rw [shF]
    by_cases hc : expl R a = false ∨ (0 < many ∧ best.length < (lsN a).length)
    · rw [if_pos hc]
      refine ⟨?_, ?_, ?_⟩
      · rw [List.countP_append, ← i1]
        rcases hc with h | h
        · simp [h]
        · have : ¬ (lsN a).length = best.length := by omega
          simp [this]
      · intro s hs he
        rcases List.mem_append.1 hs with hs | hs
        · exact i2 s hs he
        · simp at hs; subst hs
          rcases hc with h | h
          · rw [he] at h; cases h
          · exact ⟨by simp only; omega, h.1⟩
      · exact hsame i3
    · rw [if_neg hc]
      have he : expl R a = true := by
        cases h : expl R a
        · exact absurd (.inl h) hc
        · rfl
      have hle : 0 < many → (lsN a).length ≤ best.length := fun h => by
        apply Nat.le_of_not_lt
        intro h2
        exact hc (.inr ⟨h, h2⟩)
      try simp only
      by_cases hd : many = 0 ∨ (lsN a).length < best.length
      · rw [if_pos hd]
        simp only
        refine ⟨?_, ?_, fun _ => ⟨a, by simp, he, rfl⟩⟩
        · rw [List.countP_append]
          have : L.countP (fun s => expl R s && (lsN s).length == (lsN a).length) = 0 := by
            rw [List.countP_eq_zero]
            intro s hs h
            simp at h
            obtain ⟨h1, h2⟩ := i2 s hs h.1
            omega
          rw [this]; simp [he]
        · intro s hs hes
          rcases List.mem_append.1 hs with hs | hs
          · obtain ⟨h1, h2⟩ := i2 s hs hes
            omega
          · simp at hs; subst hs; omega
      · rw [if_neg hd]
        have h1 : (lsN a).length = best.length := by
          have := hle (by omega)
          omega
        have hlen : (if cmpL (up (lsN a)) (up best) < 0 then lsN a else best).length = best.length := by split <;> simp [h1]
        simp only [hlen]
        refine ⟨?_, ?_, ?_⟩
        · rw [List.countP_append, ← i1]; simp [he, h1]
        · intro s hs hes
          rcases List.mem_append.1 hs with hs | hs
          · obtain ⟨h1, h2⟩ := i2 s hs hes
            omega
          · simp at hs; subst hs; omega
        · intro _
          split
          · exact ⟨a, by simp, he, rfl⟩
          · exact hsame i3 (by omega)
/-- The pairs, both ways. -/
def both (P : List (Nat × Nat)) : List (Nat × Nat) := P.flatMap fun p => [p, (p.2, p.1)]
theorem mem_both {P : List (Nat × Nat)} {x y : Nat} : (x, y) ∈ both P ↔ (x, y) ∈ P ∨ (y, x) ∈ P := by
  simp only [both, List.mem_flatMap]
  constructor
  · rintro ⟨⟨a, b⟩, h, h2⟩
    simp at h2
    rcases h2 with ⟨rfl, rfl⟩ | ⟨rfl, rfl⟩
    · exact .inl h
    · exact .inr h
  · rintro (h | h)
    · exact ⟨_, h, by simp⟩
    · exact ⟨_, h, by simp⟩
/-- The other points. -/
def oth (n s : Nat) : Nat := 2 ^ n - (s + 1)
theorem oth_bit {n s : Nat} (h : s < 2 ^ n) (x : Nat) : (oth n s).testBit x = (decide (x < n) && !s.testBit x) := Nat.testBit_two_pow_sub_succ h x
theorem oth_lt {n s : Nat} (h : s < 2 ^ n) : oth n s < 2 ^ n := by unfold oth; omega
theorem oth_oth {n s : Nat} (h : s < 2 ^ n) : oth n (oth n s) = s := by unfold oth; omega
theorem oth_len : ∀ n : Fin 8, ∀ s : Fin 128, s.val < 2 ^ n.val → (lsN s.val).length + (lsN (oth n.val s.val)).length = n.val := by decide +kernel
theorem oth_list : ∀ n : Fin 8, ∀ s : Fin 128, s.val < 2 ^ n.val → lsN (oth n.val s.val) = (List.range n.val).filter fun a => !s.val.testBit a := by decide +kernel
theorem and_zero {a b : Nat} : (a &&& b = 0) ↔ ∀ y, a.testBit y = true → b.testBit y = false := by
  constructor
  · intro h y hy
    have : (a &&& b).testBit y = false := by rw [h, Nat.zero_testBit]
    rw [Nat.testBit_and, hy] at this
    simpa using this
  · intro h
    apply Nat.eq_of_testBit_eq
    intro y
    rw [Nat.testBit_and, Nat.zero_testBit]
    cases hy : a.testBit y
    · rfl
    · rw [h y hy]; rfl
def adjB (P : List (Nat × Nat)) (x y : Nat) : Bool := decide ((x, y) ∈ both P)
/-- A choice, said without the bits. -/
theorem kern_iff {n : Nat} {P : List (Nat × Nat)} (hr : ∀ r ∈ P, r.1 < r.2 ∧ r.2 < n) {s : Nat} (hs : s < 2 ^ n) : judE n (both P) s = 0 ↔
    (∀ p ∈ P, ¬ (s.testBit p.1 = true ∧ s.testBit p.2 = true)) ∧ ∀ x, x < n → s.testBit x = false → ∃ y, s.testBit y = true ∧ (x, y) ∈ both P := by
  have hj : judE n (both P) s = 0 ↔ (List.range n).any (clashAt (both P) s) = false ∧ (List.range n).any (openAt (both P) s) = false := by
    unfold judE
    cases (List.range n).any (clashAt (both P) s) <;> cases (List.range n).any (openAt (both P) s) <;> simp
  rw [hj, List.any_eq_false, List.any_eq_false]
  refine and_congr ?_ ?_
  · constructor
    · rintro h ⟨a, b⟩ hp ⟨h1, h2⟩
      have ha := bit_lt hs h1
      have := h a (List.mem_range.2 ha)
      simp only at h1 h2
      simp only [clashAt, h1, Bool.true_and, bne_iff_ne, ne_eq, Classical.not_not] at this
      rw [and_zero] at this
      have := this b (by rw [sw_bit]; exact decide_eq_true (mem_both.2 (.inl hp)))
      rw [h2] at this; cases this
    · intro h x hx hc
      simp only [clashAt, Bool.and_eq_true, bne_iff_ne, ne_eq] at hc
      refine hc.2 (and_zero.2 fun y hy => ?_)
      rw [sw_bit, decide_eq_true_iff, mem_both] at hy
      cases hb : s.testBit y
      · rfl
      · rcases hy with hy | hy
        · exact absurd ⟨hc.1, hb⟩ (h _ hy)
        · exact absurd ⟨hb, hc.1⟩ (h _ hy)
  · constructor
    · intro h x hx hb
      have := h x (List.mem_range.2 hx)
      simp only [openAt, hb, Bool.not_false, Bool.true_and, beq_iff_eq] at this
      rw [and_zero] at this
      apply Classical.byContradiction
      intro hne
      refine this fun y hy => ?_
      rw [sw_bit, decide_eq_true_iff] at hy
      cases hby : s.testBit y
      · rfl
      · exact absurd ⟨y, hby, hy⟩ hne
    · intro h x hx hc
      simp only [openAt, Bool.and_eq_true, Bool.not_eq_true', beq_iff_eq] at hc
      obtain ⟨y, y1, y2⟩ := h x (List.mem_range.1 hx) hc.1
      have := and_zero.1 hc.2 y (by rw [sw_bit]; exact decide_eq_true y2)
      rw [y1] at this; cases this
theorem expl_oth {n : Nat} {P : List (Nat × Nat)} (hr : ∀ r ∈ P, r.1 < r.2 ∧ r.2 < n) {s : Nat} (hs : s < 2 ^ n) : expl P (oth n s) = true ↔ ∀ p ∈ P, ¬ (s.testBit p.1 = true ∧ s.testBit p.2 = true) := by
  rw [expl, List.all_eq_true]
  constructor
  · intro h p hp hc
    have := h p hp
    rw [oth_bit hs, oth_bit hs, hc.1, hc.2] at this
    simp at this
  · intro h p hp
    have := h p hp
    obtain ⟨r1, r2⟩ := hr p hp
    rw [oth_bit hs, oth_bit hs, decide_eq_true (show p.1 < n by omega), decide_eq_true r2]
    cases h1 : s.testBit p.1
    · rfl
    · cases h2 : s.testBit p.2
      · rfl
      · exact absurd ⟨h1, h2⟩ this
/-- At most twelve choices. -/
theorem kern_le {n : Nat} {P : List (Nat × Nat)} (hn : n ≤ 7) (hr : ∀ r ∈ P, r.1 < r.2 ∧ r.2 < n) : (kern n (both P)).length ≤ 12 := by
  have h := mis_le (adj := adjB P) (fun x y => by simp only [adjB]; rw [decide_eq_decide, mem_both, mem_both, or_comm])
    (fun x => by
      simp only [adjB]
      rw [decide_eq_false_iff_not, mem_both, or_self]
      intro h
      have := hr _ h
      simp at this) n (List.range n) (kern n (both P)) List.length_range hn (List.Pairwise.filter _ List.nodup_range) (fun s hs => by
      obtain ⟨h1, h2⟩ := List.mem_filter.1 hs
      have h1 := List.mem_range.1 h1
      have hk := (kern_iff hr h1).1 (by simpa using h2)
      refine ⟨fun x hx => List.mem_range.2 (bit_lt h1 hx), fun x y hx hy => ?_, fun x hx hb => ?_⟩
      · simp only [adjB]
        rw [decide_eq_false_iff_not, mem_both]
        rintro (h | h)
        · exact hk.1 _ h ⟨hx, hy⟩
        · exact hk.1 _ h ⟨hy, hx⟩
      · obtain ⟨y, y1, y2⟩ := hk.2 x (List.mem_range.1 hx) hb
        exact ⟨y, y1, by simp only [adjB]; exact decide_eq_true y2⟩)
  have : ∀ k : Fin 8, gB k.val ≤ 12 := by decide
  exact Nat.le_trans h (this ⟨n, by omega⟩)
theorem ls_or : ∀ s : Fin 128, ∀ x : Fin 7, s.val.testBit x.val = false → (lsN (s.val ||| 2 ^ x.val)).length = (lsN s.val).length + 1 := by decide +kernel
theorem full_bit {n x : Nat} (h : x < n) : (2 ^ n - 1).testBit x = true := by
  rw [Nat.testBit_two_pow_sub_one]; exact decide_eq_true h
/-- The longest choices leave the shortest lists. -/
theorem mutual_law {n : Nat} {P : List (Nat × Nat)} (hn : n ≤ 7) (hr : ∀ r ∈ P, r.1 < r.2 ∧ r.2 < n) :
    (shS n P).1.length ≤ n ∧ (∀ s ∈ kern n (both P), (lsN s).length ≤ n - (shS n P).1.length) ∧
    (∃ s ∈ kern n (both P), (lsN s).length = n - (shS n P).1.length ∧ lsN (oth n s) = (shS n P).1) ∧
    (kern n (both P)).countP (fun s => (lsN s).length == n - (shS n P).1.length) = (shS n P).2 ∧ ∀ s ∈ kern n (both P), expl P (oth n s) = true := by
  obtain ⟨i1, i2, i3⟩ := sh_inv P (List.range (2 ^ n))
  have hd : (List.range (2 ^ n)).foldl (shF P) ([], 0) = shS n P := rfl
  rw [hd] at i1 i2 i3
  have p2 : 2 ^ n ≤ 2 ^ 7 := Nat.pow_le_pow_right (by omega) hn
  have p1 : 1 ≤ 2 ^ n := Nat.one_le_two_pow
  have hfull : expl P (2 ^ n - 1) = true := by
    rw [expl, List.all_eq_true]
    intro p hp
    obtain ⟨r1, r2⟩ := hr p hp
    rw [full_bit r2, Bool.or_true]
  obtain ⟨-, hpos⟩ := i2 (2 ^ n - 1) (List.mem_range.2 (by omega)) hfull
  obtain ⟨c, hc, ce, cl⟩ := i3 hpos
  have hc := List.mem_range.1 hc
  have hcn := oth_len ⟨n, by omega⟩ ⟨c, by omega⟩ hc
  simp only at hcn
  rw [cl] at hcn
  have hcov : ∀ s, s < 2 ^ n → judE n (both P) s = 0 → expl P (oth n s) = true := fun s hs hj => (expl_oth hr hs).2 ((kern_iff hr hs).1 hj).1
  have hmax : ∀ s, s < 2 ^ n → expl P (oth n s) = true → (lsN s).length = n - (shS n P).1.length → judE n (both P) s = 0 := by
    intro s hs he hl
    have hind := (expl_oth hr hs).1 he
    refine (kern_iff hr hs).2 ⟨hind, fun x hx hb => ?_⟩
    apply Classical.byContradiction
    intro hne
    have h1 := ls_or ⟨s, by omega⟩ ⟨x, by omega⟩ hb
    simp only at h1
    have hs2 : s ||| 2 ^ x < 2 ^ n := Nat.or_lt_two_pow hs (Nat.pow_lt_pow_right (by omega) hx)
    have he2 : expl P (oth n (s ||| 2 ^ x)) = true := by
      refine (expl_oth hr hs2).2 fun p hp hc => ?_
      obtain ⟨a, b⟩ := p
      simp only [Nat.testBit_or, Nat.testBit_two_pow, Bool.or_eq_true, decide_eq_true_eq] at hc
      have hab := hr _ hp
      simp only at hab
      rcases hc with ⟨h1 | h1, h2 | h2⟩
      · exact hind _ hp ⟨h1, h2⟩
      · subst h2; exact hne ⟨a, h1, mem_both.2 (.inr hp)⟩
      · subst h1; exact hne ⟨b, h2, mem_both.2 (.inl hp)⟩
      · omega
    have h2 := i2 _ (List.mem_range.2 (oth_lt hs2)) he2
    have h3 := oth_len ⟨n, by omega⟩ ⟨s ||| 2 ^ x, by omega⟩ hs2
    simp only at h3
    omega
  have hle : ∀ s, s < 2 ^ n → judE n (both P) s = 0 → (lsN s).length ≤ n - (shS n P).1.length := by
    intro s hs hj
    have h2 := (i2 _ (List.mem_range.2 (oth_lt hs)) (hcov s hs hj)).1
    have h3 := oth_len ⟨n, by omega⟩ ⟨s, by omega⟩ hs
    simp only at h3
    omega
  have hkm : ∀ s, s ∈ kern n (both P) ↔ s < 2 ^ n ∧ judE n (both P) s = 0 := by
    intro s
    rw [kern, List.mem_filter, List.mem_range, beq_iff_eq]
  refine ⟨by omega, fun s hs => hle s ((hkm s).1 hs).1 ((hkm s).1 hs).2, ⟨oth n c, ?_, ?_, ?_⟩, ?_, fun s hs => hcov s ((hkm s).1 hs).1 ((hkm s).1 hs).2⟩
  · exact (hkm _).2 ⟨oth_lt hc, hmax _ (oth_lt hc) (by rw [oth_oth hc]; exact ce) (by omega)⟩
  · omega
  · rw [oth_oth hc, cl]
  · rw [i1, kern, List.countP_filter]
    have hrev : (List.range (2 ^ n)).countP (fun s => expl P s && (lsN s).length == (shS n P).1.length) = ((List.range (2 ^ n)).map (oth n)).countP (fun s => expl P s && (lsN s).length == (shS n P).1.length) := by
      have : (List.range (2 ^ n)).map (oth n) = (List.range (2 ^ n)).reverse := by
        apply List.ext_getElem
        · simp
        · intro i h1 h2
          simp at h1
          simp [oth]
          omega
      rw [this, List.countP_reverse]
    rw [hrev, List.countP_map]
    apply List.countP_congr
    intro s hs
    have hs := List.mem_range.1 hs
    have h3 := oth_len ⟨n, by omega⟩ ⟨s, by omega⟩ hs
    simp only at h3
    simp only [Function.comp, Bool.and_eq_true, beq_iff_eq]
    constructor
    · rintro ⟨h1, h2⟩
      exact ⟨hcov s hs h2, by omega⟩
    · rintro ⟨h1, h2⟩
      exact ⟨by omega, hmax s hs h1 (by omega)⟩
/-- What the law counts among the choices. -/
def muF (n : Nat) (l : List Nat) (st : Nat × Nat × Bool) (s : Nat) : Nat × Nat × Bool :=
  if st.1 < (lsN s).length then ((lsN s).length, 1, decide (lsN (oth n s) = l))
  else if (lsN s).length < st.1 then st
  else (st.1, st.2.1 + 1, st.2.2 || decide (lsN (oth n s) = l))
theorem mu_inv (n : Nat) (l : List Nat) (L : List Nat) :
    (∀ s ∈ L, (lsN s).length ≤ (L.foldl (muF n l) (0, 0, false)).1) ∧
    (L.foldl (muF n l) (0, 0, false)).2.1 = L.countP (fun s => (lsN s).length == (L.foldl (muF n l) (0, 0, false)).1) ∧
    (L.foldl (muF n l) (0, 0, false)).2.2 = L.any (fun s => (lsN s).length == (L.foldl (muF n l) (0, 0, false)).1 && decide (lsN (oth n s) = l)) ∧
    ((L.foldl (muF n l) (0, 0, false)).1 = 0 ∨ ∃ s ∈ L, (lsN s).length = (L.foldl (muF n l) (0, 0, false)).1) := by
  induction L using snoc_ind with
  | h0 => simp
  | h1 L a ih =>
    rw [List.foldl_append]
    simp only [List.foldl_cons, List.foldl_nil]
    generalize L.foldl (muF n l) (0, 0, false) = st at *
    obtain ⟨most, many, found⟩ := st
    obtain ⟨i1, i2, i3, i4⟩ := ih
    simp only at i1 i2 i3 i4
    rw [muF]
    simp only
    by_cases h1 : most < (lsN a).length
    · rw [if_pos h1]
      simp only
      have hno : ∀ s ∈ L, ((lsN s).length == (lsN a).length) = false := fun s hs => by
        have := i1 s hs
        rw [beq_eq_false_iff_ne]; omega
      refine ⟨fun s hs => ?_, ?_, ?_, .inr ⟨a, by simp, rfl⟩⟩
      · rcases List.mem_append.1 hs with hs | hs
        · have := i1 s hs; omega
        · simp at hs; subst hs; exact Nat.le_refl _
      · rw [List.countP_append, List.countP_eq_zero.2 fun s hs => by simp [hno s hs]]
        simp
      · rw [List.any_append, List.any_eq_false.2 fun s hs => by simp [hno s hs]]
        simp
    · rw [if_neg h1]
      by_cases h2 : (lsN a).length < most
      · rw [if_pos h2]
        simp only
        have hno : ((lsN a).length == most) = false := by rw [beq_eq_false_iff_ne]; omega
        refine ⟨fun s hs => ?_, ?_, ?_, ?_⟩
        · rcases List.mem_append.1 hs with hs | hs
          · exact i1 s hs
          · simp at hs; subst hs; omega
        · rw [List.countP_append, i2]; simp [hno]
        · rw [List.any_append, i3]; simp [hno]
        · rcases i4 with h | ⟨s, hs, h⟩
          · exact .inl h
          · exact .inr ⟨s, List.mem_append_left _ hs, h⟩
      · rw [if_neg h2]
        simp only
        have he : (lsN a).length = most := by omega
        refine ⟨fun s hs => ?_, ?_, ?_, .inr ⟨a, by simp, he⟩⟩
        · rcases List.mem_append.1 hs with hs | hs
          · exact i1 s hs
          · simp at hs; subst hs; omega
        · rw [List.countP_append, i2]; simp [he]
        · rw [List.any_append, i3]; simp [he]
theorem mu_end {n : Nat} {P : List (Nat × Nat)} (hn : n ≤ 7) (hr : ∀ r ∈ P, r.1 < r.2 ∧ r.2 < n) {Ks : List Nat} (hp : Ks.Perm (kern n (both P))) :
    Ks.foldl (muF n (shS n P).1) (0, 0, false) = (n - (shS n P).1.length, (shS n P).2, true) ∧ (shS n P).1.length ≤ n := by
  obtain ⟨m0, m1, ⟨c, c1, c2, c3⟩, m3, m4⟩ := mutual_law hn hr
  obtain ⟨i1, i2, i3, i4⟩ := mu_inv n (shS n P).1 Ks
  generalize Ks.foldl (muF n (shS n P).1) (0, 0, false) = st at *
  obtain ⟨most, many, found⟩ := st
  simp only at i1 i2 i3 i4
  have hmost : most = n - (shS n P).1.length := by
    have h1 := i1 c (hp.mem_iff.2 c1)
    rcases i4 with h | ⟨s, hs, h⟩
    · omega
    · have := m1 s (hp.mem_iff.1 hs)
      omega
  refine ⟨?_, m0⟩
  subst hmost
  have h2 : many = (shS n P).2 := by rw [i2, hp.countP_eq, m3]
  have h3 : found = true := by
    rw [i3, List.any_eq_true]
    exact ⟨c, hp.mem_iff.2 c1, by simp [c2, c3]⟩
  rw [h2, h3]
end Go.Proofs.YtmmfelpgcdlgfaaDoor

/- Years that fall, and lists of wrong sources. -/
namespace Go.Proofs.YtmmfelpgcdlgfaaDoor
set_option linter.unusedVariables false

/-- One source more. -/
def gdF (Y : List Nat) (s : Nat) (st : Bool × Int) (i : Nat) : Bool × Int := if s.testBit i then st else (st.1 && decide (((Y.getD i 0 : Nat) : Int) ≥ st.2), ((Y.getD i 0 : Nat) : Int))
/-- The others do not fall. -/
def goodN (Y : List Nat) (s : Nat) : Bool := ((List.range Y.length).foldl (gdF Y s) (true, -1)).1
theorem gd_snoc (Y : List Nat) (s i : Nat) : (List.range (i + 1)).foldl (gdF Y s) (true, -1) = gdF Y s ((List.range i).foldl (gdF Y s) (true, -1)) i := by
  rw [List.range_succ, List.foldl_append]; rfl
theorem gd_inv (Y : List Nat) (s : Nat) : ∀ i : Nat, (((List.range i).foldl (gdF Y s) (true, -1)).1 = true ↔ ∀ a b, a < b → b < i → s.testBit a = false → s.testBit b = false → Y.getD a 0 ≤ Y.getD b 0) ∧
    (((List.range i).foldl (gdF Y s) (true, -1)).1 = true → ∀ a, a < i → s.testBit a = false → ((Y.getD a 0 : Nat) : Int) ≤ ((List.range i).foldl (gdF Y s) (true, -1)).2) ∧
    (((List.range i).foldl (gdF Y s) (true, -1)).2 = -1 ∨ ∃ a, a < i ∧ s.testBit a = false ∧ ((List.range i).foldl (gdF Y s) (true, -1)).2 = ((Y.getD a 0 : Nat) : Int)) := by
  intro i
  induction i with
  | zero => simp
  | succ i ih =>
    rw [gd_snoc]
    generalize (List.range i).foldl (gdF Y s) (true, -1) = st at *
    obtain ⟨good, last⟩ := st
    obtain ⟨i1, i2, i3⟩ := ih
    simp only at i1 i2 i3
    rw [gdF]
    cases hb : s.testBit i
    · simp only [Bool.false_eq_true, if_false, Bool.and_eq_true, decide_eq_true_eq]
      refine ⟨?_, ?_, .inr ⟨i, by omega, hb, rfl⟩⟩
      · constructor
        · rintro ⟨hg, hl⟩ a b hab hbi ha hbb
          by_cases he : b = i
          · subst he
            have := i2 hg a hab ha
            omega
          · exact i1.1 hg a b hab (by omega) ha hbb
        · intro h
          have hg : good = true := i1.2 fun a b hab hbi => h a b hab (by omega)
          refine ⟨hg, ?_⟩
          rcases i3 with h3 | ⟨a, ha, hba, h3⟩
          · omega
          · have := h a i ha (by omega) hba hb
            omega
      · rintro ⟨hg, hl⟩ a ha hba
        by_cases he : a = i
        · subst he; exact Int.le_refl _
        · have := i2 hg a (by omega) hba
          omega
    · simp only [if_true]
      refine ⟨?_, ?_, ?_⟩
      · rw [i1]
        constructor
        · intro h a b hab hbi ha hbb
          by_cases he : b = i
          · subst he; rw [hb] at hbb; cases hbb
          · exact h a b hab (by omega) ha hbb
        · intro h a b hab hbi ha hbb
          exact h a b hab (by omega) ha hbb
      · intro hg a ha hba
        by_cases he : a = i
        · subst he; rw [hb] at hba; cases hba
        · exact i2 hg a (by omega) hba
      · rcases i3 with h3 | ⟨a, ha, hba, h3⟩
        · exact .inl h3
        · exact .inr ⟨a, by omega, hba, h3⟩
def faF (Y : List Nat) (i k : Nat) : Option (Nat × Nat) := if Y.getD (i + 1 + k) 0 < Y.getD i 0 then some (i, i + 1 + k) else none
def faP (Y : List Nat) (i : Nat) : List (Nat × Nat) := (List.range (Y.length - (i + 1))).filterMap (faF Y i)
/-- The pairs that fall. -/
def falls (Y : List Nat) : List (Nat × Nat) := (List.range Y.length).flatMap (faP Y)
theorem mem_faP {Y : List Nat} {i : Nat} {r : Nat × Nat} : r ∈ faP Y i ↔ r.1 = i ∧ i < r.2 ∧ r.2 < Y.length ∧ Y.getD r.2 0 < Y.getD i 0 := by
  unfold faP faF
  rw [List.mem_filterMap]
  constructor
  · rintro ⟨k, hk, he⟩
    have hk := List.mem_range.1 hk
    split at he <;> cases he
    exact ⟨rfl, by simp only; omega, by simp only; omega, by assumption⟩
  · rintro ⟨h1, h2, h3, h4⟩
    obtain ⟨a, b⟩ := r
    simp only at h1 h2 h3 h4
    subst h1
    refine ⟨b - (a + 1), List.mem_range.2 (by omega), ?_⟩
    have e : a + 1 + (b - (a + 1)) = b := by omega
    rw [e, if_pos h4]
theorem mem_falls {Y : List Nat} {r : Nat × Nat} : r ∈ falls Y ↔ r.1 < r.2 ∧ r.2 < Y.length ∧ Y.getD r.2 0 < Y.getD r.1 0 := by
  unfold falls
  rw [List.mem_flatMap]
  constructor
  · rintro ⟨i, hi, h⟩
    obtain ⟨h1, h2, h3, h4⟩ := mem_faP.1 h
    subst h1
    exact ⟨h2, h3, h4⟩
  · rintro ⟨h1, h2, h3⟩
    exact ⟨r.1, List.mem_range.2 (by omega), mem_faP.2 ⟨rfl, h1, h2, h3⟩⟩
theorem falls_nd (Y : List Nat) : (falls Y).Pairwise (· ≠ ·) := by
  unfold falls
  rw [List.pairwise_flatMap]
  refine ⟨fun i _ => ?_, ?_⟩
  · unfold faP
    rw [List.pairwise_filterMap]
    refine List.Pairwise.imp ?_ (List.nodup_range (n := Y.length - (i + 1)))
    intro a b hab x hx y hy he
    unfold faF at hx hy
    split at hx <;> cases hx
    split at hy <;> cases hy
    simp at he
    omega
  · refine List.Pairwise.imp ?_ (List.nodup_range (n := Y.length))
    intro a b hab x hx y hy he
    have h1 := (mem_faP.1 hx).1
    have h2 := (mem_faP.1 hy).1
    subst he
    omega
theorem faP_len (Y : List Nat) (i : Nat) : (faP Y i).length ≤ Y.length - (i + 1) := by
  have := List.length_filterMap_le (faF Y i) (List.range (Y.length - (i + 1)))
  rw [List.length_range] at this
  exact this
theorem falls_ten {Y : List Nat} (h : Y.length ≤ 5) : ∀ i, i ≤ Y.length → 2 * ((List.range i).flatMap (faP Y)).length + (Y.length - i) * (Y.length - i - 1) ≤ Y.length * (Y.length - 1) := by
  intro i
  induction i with
  | zero => intro _; simp
  | succ i ih =>
    intro hi
    have := ih (by omega)
    have h2 := faP_len Y i
    rw [List.range_succ, List.flatMap_append, List.length_append]
    have h3 : ([i].flatMap (faP Y)).length = (faP Y i).length := by simp
    rw [h3]
    obtain ⟨d, hd⟩ : ∃ d, Y.length - i = d + 1 := ⟨Y.length - i - 1, by omega⟩
    have hd2 : Y.length - (i + 1) = d := by omega
    rw [hd] at this
    rw [hd2] at h2 ⊢
    have e : (d + 1) * (d + 1 - 1) = d * (d - 1) + 2 * d := by
      cases d with
      | zero => rfl
      | succ d =>
        simp only [Nat.add_sub_cancel]
        rw [Nat.add_mul, Nat.add_mul, Nat.mul_comm d (d + 1), Nat.add_mul]
        omega
    omega
theorem falls_fd {Y : List Nat} (h1 : 1 ≤ Y.length) (h5 : Y.length ≤ 5) : Fd Y.length (falls Y) := by
  refine ⟨h1, by omega, fun r hr => ?_, falls_nd Y, ?_⟩
  · have := mem_falls.1 hr; omega
  · have := falls_ten h5 Y.length (Nat.le_refl _)
    simp only [Nat.sub_self, Nat.zero_mul, Nat.add_zero] at this
    have h20 : Y.length * (Y.length - 1) ≤ 5 * 4 := Nat.mul_le_mul h5 (by omega)
    unfold falls
    omega
theorem good_expl {Y : List Nat} {s : Nat} : goodN Y s = expl (falls Y) s := by
  rw [Bool.eq_iff_iff]
  unfold goodN
  rw [(gd_inv Y s Y.length).1, expl, List.all_eq_true]
  constructor
  · intro h r hr
    obtain ⟨r1, r2, r3⟩ := mem_falls.1 hr
    cases ha : s.testBit r.1
    · cases hb : s.testBit r.2
      · have := h r.1 r.2 r1 r2 ha hb
        omega
      · rfl
    · rfl
  · intro h a b hab hb ha hbb
    apply Nat.le_of_not_lt
    intro hlt
    have := h (a, b) (mem_falls.2 ⟨hab, hb, hlt⟩)
    simp only [ha, hbb] at this
    cases this
/-- No two years one after the other fall just if none do. -/
theorem falls_nil {Y : List Nat} : falls Y = [] ↔ ∀ i, i + 1 < Y.length → Y.getD i 0 ≤ Y.getD (i + 1) 0 := by
  constructor
  · intro h i hi
    apply Nat.le_of_not_lt
    intro hlt
    have := mem_falls.2 (show (i, i + 1).1 < (i, i + 1).2 ∧ (i, i + 1).2 < Y.length ∧ Y.getD (i, i + 1).2 0 < Y.getD (i, i + 1).1 0 from ⟨by simp, hi, hlt⟩)
    rw [h] at this; cases this
  · intro h
    have hm : ∀ d a, a + d < Y.length → Y.getD a 0 ≤ Y.getD (a + d) 0 := by
      intro d
      induction d with
      | zero => intro a _; exact Nat.le_refl _
      | succ d ih =>
        intro a ha
        exact Nat.le_trans (ih a (by omega)) (h (a + d) (by omega))
    cases hc : falls Y with
    | nil => rfl
    | cons r l =>
      obtain ⟨r1, r2, r3⟩ := mem_falls.1 (show r ∈ falls Y by rw [hc]; simp)
      have := hm (r.2 - r.1) r.1 (by omega)
      rw [show r.1 + (r.2 - r.1) = r.2 by omega] at this
      omega
end Go.Proofs.YtmmfelpgcdlgfaaDoor

namespace Go.Proofs.YtmmfelpgcdlgfaaDoor
open Go.Av
set_option linter.unusedVariables false
set_option linter.unusedSimpArgs false
set_option maxRecDepth 8000

/- How many bits a number has. -/
def po1 (s : Nat) : Nat := (s / 2 ^ 1 &&& 6148914691236517205) + (s &&& 6148914691236517205)
def po2 (s : Nat) : Nat := (s / 2 ^ 2 &&& 3689348814741910323) + (s &&& 3689348814741910323)
def po3 (s : Nat) : Nat := (s / 2 ^ 4 + s) &&& 1085102592571150095
def po4 (s : Nat) : Nat := s + s / 2 ^ 8
def po5 (s : Nat) : Nat := s + s / 2 ^ 16
def po6 (s : Nat) : Nat := s + s / 2 ^ 32
theorem po_ok : ∀ s : Fin 128, po1 s.val < 1000 ∧ po2 (po1 s.val) < 1000 ∧ po3 (po2 (po1 s.val)) < 1000 ∧ po4 (po3 (po2 (po1 s.val))) < 1000 ∧ po5 (po4 (po3 (po2 (po1 s.val)))) < 1000 ∧
    po6 (po5 (po4 (po3 (po2 (po1 s.val))))) = (lsN s.val).length := by decide +kernel
theorem and_u64 {t : TypeId} {a b : Nat} (ha : a < 1000000) (hb : b < 2 ^ 64) : binF Tryd.prog .and t (.int .u64 (a : Int)) (.int .u64 (b : Int)) = some (.int .u64 ((a &&& b : Nat) : Int)) :=
  u64_and (by omega) hb
theorem shr_u64 {t : TypeId} {a k : Nat} (hk : k < 64) : binF Tryd.prog .shr t (.int .u64 (a : Int)) (.int .u64 (k : Int)) = some (.int .u64 ((a / 2 ^ k : Nat) : Int)) := by
  have e : min (k : Int).toNat 64 = k := by omega
  show (if (k : Int) < 0 then none else some (AV.int .u64 ((a : Int).fdiv (2 ^ min (k : Int).toNat 64)))) = _
  rw [if_neg (by omega), e]
  have : ((2 : Int) ^ k) = ((2 ^ k : Nat) : Int) := by simp
  rw [this, Int.ofNat_fdiv]
theorem add_u64 {t : TypeId} {a b : Nat} (h : a + b < 1000000) : binF Tryd.prog .add t (.int .u64 (a : Int)) (.int .u64 (b : Int)) = some (.int .u64 ((a + b : Nat) : Int)) := by
  show (if IntKind.u64 = IntKind.u64 then some (AV.int .u64 (IntKind.u64.wrap ((a : Int) + (b : Int)))) else none) = _
  rw [if_pos rfl, wrap_u64 (by omega) (by omega)]
  rfl
theorem and_le_l (a b : Nat) : a &&& b ≤ a := Nat.and_le_left
theorem conv141 {n : Int} (h : 0 ≤ n ∧ n < 256) : convF Tryd.prog 141 3 (.int .u64 n) = some (.int .i64 n) := by
  have h1 : (Tryd.prog.underlying 141).isSome = true := by kernel_rfl
  have h2 : Tryd.prog.underlying 3 = some (.int .i64) := by kernel_rfl
  obtain ⟨d, h1⟩ := Option.isSome_iff_exists.1 h1
  simp only [convF, h1, h2]
  rw [wrap_i64 (by omega) (by omega)]
theorem and127 : ∀ n : Fin 8, IntKind.i64.wrap ((BitVec.ofInt 64 (n.val : Int) &&& BitVec.ofInt 64 127).toNat) = (n.val : Int) := by decide +kernel
/-- bits.OnesCount -/
theorem c99 {s : Nat} {H : Heap} {K : AV → Heap → Prop} (h : s < 128) (hk : K (.int .i64 ((lsN s).length : Nat)) H) : ACalls Tryd.prog 99 [.int .u64 (s : Int)] H K := by
  apply W99_ok
  unfold W99
  simp only [letO_some, condA_ff]
  apply W110_ok
  unfold W110
  obtain ⟨p1, p2, p3, p4, p5, p6⟩ := po_ok ⟨s, h⟩
  simp only at p1 p2 p3 p4 p5 p6
  have hl7 := ls_len s
  have m0 : (6148914691236517205 : Nat) < 2 ^ 64 := by decide
  have m1 : (3689348814741910323 : Nat) < 2 ^ 64 := by decide
  have m2 : (1085102592571150095 : Nat) < 2 ^ 64 := by decide
  have d1 : ∀ a k : Nat, a / 2 ^ k ≤ a := fun a k => Nat.div_le_self _ _
  have a1 := fun t => shr_u64 (t := t) (a := s) (k := 1) (by omega)
  have a2 := fun t => and_u64 (t := t) (a := s / 2 ^ 1) (b := 6148914691236517205) (by have := d1 s 1; omega) m0
  have a3 := fun t => and_u64 (t := t) (a := s) (b := 6148914691236517205) (by omega) m0
  have a4 := fun t => add_u64 (t := t) (a := s / 2 ^ 1 &&& 6148914691236517205) (b := s &&& 6148914691236517205) (by have : po1 s < 1000 := p1; unfold po1 at this; omega)
  have f1 : (s / 2 ^ 1 &&& 6148914691236517205) + (s &&& 6148914691236517205) = po1 s := rfl
  rw [f1] at a4
  simp only [letO_some, Int.cast_ofNat_Int, Int.natCast_one] at a1 a2 a3 a4 ⊢
  simp only [a1, a2, a3, a4, letO_some]
  generalize po1 s = x1 at *
  have b1 := fun t => shr_u64 (t := t) (a := x1) (k := 2) (by omega)
  have b2 := fun t => and_u64 (t := t) (a := x1 / 2 ^ 2) (b := 3689348814741910323) (by have := d1 x1 2; omega) m1
  have b3 := fun t => and_u64 (t := t) (a := x1) (b := 3689348814741910323) (by omega) m1
  have b4 := fun t => add_u64 (t := t) (a := x1 / 2 ^ 2 &&& 3689348814741910323) (b := x1 &&& 3689348814741910323) (by have : po2 x1 < 1000 := p2; unfold po2 at this; omega)
  have f2 : (x1 / 2 ^ 2 &&& 3689348814741910323) + (x1 &&& 3689348814741910323) = po2 x1 := rfl
  rw [f2] at b4
  simp only [Int.cast_ofNat_Int] at b1 b2 b3 b4
  simp only [b1, b2, b3, b4, letO_some]
  generalize po2 x1 = x2 at *
  have c1 := fun t => shr_u64 (t := t) (a := x2) (k := 4) (by omega)
  have c2 := fun t => add_u64 (t := t) (a := x2 / 2 ^ 4) (b := x2) (by have := d1 x2 4; omega)
  have c3 := fun t => and_u64 (t := t) (a := x2 / 2 ^ 4 + x2) (b := 1085102592571150095) (by have := d1 x2 4; omega) m2
  have f3 : (x2 / 2 ^ 4 + x2) &&& 1085102592571150095 = po3 x2 := rfl
  rw [f3] at c3
  simp only [Int.cast_ofNat_Int] at c1 c2 c3
  simp only [c1, c2, c3, letO_some]
  generalize po3 x2 = x3 at *
  have e1 := fun t => shr_u64 (t := t) (a := x3) (k := 8) (by omega)
  have e2 := fun t => add_u64 (t := t) (a := x3) (b := x3 / 2 ^ 8) (by have := d1 x3 8; omega)
  have f4 : x3 + x3 / 2 ^ 8 = po4 x3 := rfl
  rw [f4] at e2
  simp only [Int.cast_ofNat_Int] at e1 e2
  simp only [e1, e2, letO_some]
  generalize po4 x3 = x4 at *
  have g1 := fun t => shr_u64 (t := t) (a := x4) (k := 16) (by omega)
  have g2 := fun t => add_u64 (t := t) (a := x4) (b := x4 / 2 ^ 16) (by have := d1 x4 16; omega)
  have f5 : x4 + x4 / 2 ^ 16 = po5 x4 := rfl
  rw [f5] at g2
  simp only [Int.cast_ofNat_Int] at g1 g2
  simp only [g1, g2, letO_some]
  generalize po5 x4 = x5 at *
  have i1 := fun t => shr_u64 (t := t) (a := x5) (k := 32) (by omega)
  have i2 := fun t => add_u64 (t := t) (a := x5) (b := x5 / 2 ^ 32) (by have := d1 x5 32; omega)
  have f6 : x5 + x5 / 2 ^ 32 = (lsN s).length := p6
  rw [f6] at i2
  simp only [Int.cast_ofNat_Int] at i1 i2
  have hlast : ∀ t, binF Tryd.prog .and t (.int .i64 ((lsN s).length : Int)) (.int .i64 127) = some (.int .i64 ((lsN s).length : Int)) := by
    intro t
    show (if IntKind.i64 = IntKind.i64 then some (AV.int .i64 (IntKind.i64.wrap ((BitVec.ofInt 64 ((lsN s).length : Int) &&& BitVec.ofInt 64 127).toNat))) else none) = _
    rw [if_pos rfl, and127 ⟨(lsN s).length, by omega⟩]
  simp only [i1, i2, letO_some, conv141 (n := ((lsN s).length : Int)) (by omega), hlast]
  exact endK_ret (endK_ret hk)
/-- A page stands not, and there is no room. -/
def fullB (s p room : Nat) : Bool := !s.testBit p && decide (room ≤ (lsN s).length)
theorem c71 {s p room : Nat} {H : Heap} {K : AV → Heap → Prop} (h : s < 128) (hp : p < 64) (hk : K (.bool (fullB s p room)) H) : ACalls Tryd.prog 71 [.agg [.int .u64 (s : Int)], .int .i64 (p : Int), .int .i64 (room : Int)] H K := by
  apply W71_ok
  unfold W71
  have f0 : faddr 0 (.iptr [.int .u64 (s : Int)]) = some (.iptr [.int .u64 (s : Int)]) := rfl
  have g0 : load1 (.iptr [.int .u64 (s : Int)]) H = some (.int .u64 (s : Int)) := rfl
  have hc : cellsOf? (.agg [.int .u64 (s : Int)]) = some [.int .u64 (s : Int)] := rfl
  have hone : ∀ t k, binF Tryd.prog .and t (.int .u64 ((s / 2 ^ k : Nat) : Int)) (.int .u64 1) = some (.int .u64 ((s / 2 ^ k &&& 1 : Nat) : Int)) := fun t k => u64_and (t := t) (b := 1) (by have := Nat.div_le_self s (2 ^ k); omega) (by decide)
  simp only [letO_some, hc, f0, g0, u64_shr hp, hone, binF_eql, u64_bit0]
  unfold fullB at hk
  cases hb : s.testBit p
  · rw [hb] at hk
    have e : (!false) = true := rfl
    simp only [e, gval_bool, Int.reduceBNe, Int.reduceBEq, pickF_true, pickF_false, reduceIte, Bool.true_eq_false, Bool.false_eq_true, if_false, condA_tt, condA_ff, condG_tt, condG_ff, condG_tt', condG_ff', condG_undef, gval_undef, f0, g0, letO_some]
    refine exJ (c99 h ?_)
    simp only [letO_some, gval_bool, Int.reduceBNe, Int.reduceBEq, pickF_true, pickF_false, reduceIte, Bool.true_eq_false, Bool.false_eq_true, if_false, condA_tt, condA_ff, condG_tt, condG_ff, condG_tt', condG_ff', condG_undef, gval_undef, binF_geq]
    have : decide (((lsN s).length : Int) ≥ (room : Int)) = decide (room ≤ (lsN s).length) := by rw [decide_eq_decide]; omega
    rw [this]
    refine endK_ret ?_
    simpa using hk
  · rw [hb] at hk
    have e : (!true) = false := rfl
    simp only [e, gval_bool, Int.reduceBNe, Int.reduceBEq, pickF_true, pickF_false, reduceIte, Bool.true_eq_false, Bool.false_eq_true, if_false, condA_tt, condA_ff, condG_tt, condG_ff, condG_tt', condG_ff', condG_undef, gval_undef, letO_some]
    refine exU ?_
    try simp only [letO_some, gval_bool, Int.reduceBNe, Int.reduceBEq, pickF_true, pickF_false, reduceIte, Bool.true_eq_false, Bool.false_eq_true, if_false, condA_tt, condA_ff, condG_tt, condG_ff, condG_tt', condG_ff', condG_undef, gval_undef]
    exact endK_ret hk
/-- A set without a number; with one. -/
def clrN (s g : Nat) : Nat := if s.testBit g then s - 2 ^ g else s
theorem clr_ok : ∀ s : Fin 64, ∀ g : Fin 6, IntKind.u64.wrap ((BitVec.ofInt 64 (s.val : Int) &&& ~~~BitVec.ofInt 64 ((2 ^ g.val : Nat) : Int)).toNat) = ((clrN s.val g.val : Nat) : Int) ∧ clrN s.val g.val < 64 := by decide +kernel
theorem with_ok : ∀ s : Fin 64, ∀ p : Fin 6, s.val ||| 2 ^ p.val < 64 := by decide +kernel
/-- floor.with, none gone -/
theorem c72n {s p : Nat} {H : Heap} {K : AV → Heap → Prop} (h : s < 64) (hp : p < 6) (hk : K (.agg [.int .u64 ((s ||| 2 ^ p : Nat) : Int)]) H) : ACalls Tryd.prog 72 [.agg [.int .u64 (s : Int)], .int .i64 (p : Int), .int .i64 (-1)] H K := by
  apply W72_ok
  unfold W72
  have hc : cellsOf? (.agg [.int .u64 (s : Int)]) = some [.int .u64 (s : Int)] := rfl
  have p2 : 2 ^ p < 2 ^ 63 := Nat.pow_lt_pow_right (by omega) (by omega)
  have p63 : (2 : Nat) ^ 63 = 9223372036854775808 := by decide
  simp only [letO_some, hc]
  refine alloc_ fun b3 hb3 => ?_
  have hle3 := Heap.le_new (c := [.int .u64 (s : Int)]) hb3
  have h3 : (H.put b3 [.int .u64 (s : Int)]) b3 = some [.int .u64 (s : Int)] := Heap.put_same
  generalize hH3 : H.put b3 [.int .u64 (s : Int)] = H3 at *
  refine alloc_ fun b6 hb6 => ?_
  have hle6 := Heap.le_new (c := [.int .u64 0]) hb6
  have h36 := hle6 _ _ h3
  have h6 : (H3.put b6 [.int .u64 0]) b6 = some [.int .u64 0] := Heap.put_same
  have hne : b3 ≠ b6 := by rintro rfl; rw [h3] at hb6; cases hb6
  have hb6H := none_of_le hle3 hb6
  generalize H3.put b6 [.int .u64 0] = H6 at *
  have hleH := Heap.le_trans hle3 hle6
  have e1 : decide ((-1 : Int) ≥ 0) = false := by decide
  simp only [true_and, letO_some, binF_geq, e1, condA_ff]
  refine ⟨fun L H' => eqt L [] ∧ eqt H' H6, ⟨rfl, rfl⟩, ?_⟩
  rintro L H' ⟨rfl, rfl⟩
  have f0 : faddr 0 (.ptr b3 0) = some (.ptr b3 0) := rfl
  have g0 : load1 (.ptr b3 0) H' = some (.int .u64 (s : Int)) := load1_at h36 rfl
  simp only [letO_some, f0, g0, u64_shl (show p < 8 by omega), u64_or (a := s) (b := 2 ^ p) (by omega) p2]
  refine storeA_of (cs := [.int .u64 ((s ||| 2 ^ p : Nat) : Int)]) h36 rfl rfl rfl (by simp) ?_
  have hsp : splice [.int .u64 (s : Int)] 0 [.int .u64 ((s ||| 2 ^ p : Nat) : Int)] = [.int .u64 ((s ||| 2 ^ p : Nat) : Int)] := rfl
  rw [hsp]
  have l1 : loadN 1 (.ptr b3 0) (H'.put b3 [.int .u64 ((s ||| 2 ^ p : Nat) : Int)]) = some (.agg [.int .u64 ((s ||| 2 ^ p : Nat) : Int)]) := loadN_at (cells := [.int .u64 ((s ||| 2 ^ p : Nat) : Int)]) Heap.put_same
  simp only [l1, letO_some]
  refine storeA_of (cs := [.int .u64 ((s ||| 2 ^ p : Nat) : Int)]) (cells := [.int .u64 0]) (by rw [Heap.put_ne (Ne.symm hne)]; exact h6) rfl rfl rfl (by simp) ?_
  have hsp : splice [.int .u64 0] 0 [.int .u64 ((s ||| 2 ^ p : Nat) : Int)] = [.int .u64 ((s ||| 2 ^ p : Nat) : Int)] := rfl
  rw [hsp]
  have l1 : loadN 1 (.ptr b6 0) ((H'.put b3 [.int .u64 ((s ||| 2 ^ p : Nat) : Int)]).put b6 [.int .u64 ((s ||| 2 ^ p : Nat) : Int)]) = some (.agg [.int .u64 ((s ||| 2 ^ p : Nat) : Int)]) := loadN_at (cells := [.int .u64 ((s ||| 2 ^ p : Nat) : Int)]) Heap.put_same
  simp only [l1, letO_some]
  exact endK_pub (Pub.drop (Heap.le_put (Heap.le_put hleH hb3) hb6H)) (endK_ret hk)
/-- floor.with, a page gone -/
theorem c72 {s p g : Nat} {H : Heap} {K : AV → Heap → Prop} (h : s < 64) (hp : p < 6) (hg : g < 6) (hk : K (.agg [.int .u64 ((clrN s g ||| 2 ^ p : Nat) : Int)]) H) : ACalls Tryd.prog 72 [.agg [.int .u64 (s : Int)], .int .i64 (p : Int), .int .i64 (g : Int)] H K := by
  apply W72_ok
  unfold W72
  have hc : cellsOf? (.agg [.int .u64 (s : Int)]) = some [.int .u64 (s : Int)] := rfl
  have p2 : 2 ^ p < 2 ^ 63 := Nat.pow_lt_pow_right (by omega) (by omega)
  have p63 : (2 : Nat) ^ 63 = 9223372036854775808 := by decide
  obtain ⟨k1, k2⟩ := clr_ok ⟨s, h⟩ ⟨g, hg⟩
  simp only at k1 k2
  have hand : ∀ t, binF Tryd.prog .andNot t (.int .u64 (s : Int)) (.int .u64 ((2 ^ g : Nat) : Int)) = some (.int .u64 ((clrN s g : Nat) : Int)) := by
    intro t
    show (if IntKind.u64 = IntKind.u64 then some (AV.int .u64 (IntKind.u64.wrap ((BitVec.ofInt 64 (s : Int) &&& ~~~BitVec.ofInt 64 ((2 ^ g : Nat) : Int)).toNat))) else none) = _
    rw [if_pos rfl, k1]
  simp only [letO_some, hc]
  refine alloc_ fun b3 hb3 => ?_
  have hle3 := Heap.le_new (c := [.int .u64 (s : Int)]) hb3
  have h3 : (H.put b3 [.int .u64 (s : Int)]) b3 = some [.int .u64 (s : Int)] := Heap.put_same
  generalize hH3 : H.put b3 [.int .u64 (s : Int)] = H3 at *
  refine alloc_ fun b6 hb6 => ?_
  have hle6 := Heap.le_new (c := [.int .u64 0]) hb6
  have h36 := hle6 _ _ h3
  have h6 : (H3.put b6 [.int .u64 0]) b6 = some [.int .u64 0] := Heap.put_same
  have hne : b3 ≠ b6 := by rintro rfl; rw [h3] at hb6; cases hb6
  have hb6H := none_of_le hle3 hb6
  generalize H3.put b6 [.int .u64 0] = H6 at *
  have hleH := Heap.le_trans hle3 hle6
  have e1 : decide ((g : Int) ≥ 0) = true := decide_eq_true (by omega)
  have f0 : faddr 0 (.ptr b3 0) = some (.ptr b3 0) := rfl
  have g0 : load1 (.ptr b3 0) H6 = some (.int .u64 (s : Int)) := load1_at h36 rfl
  simp only [true_and, letO_some, binF_geq, e1, condA_tt, f0, g0, u64_shl (show g < 8 by omega), hand]
  refine ⟨fun L H' => eqt L [] ∧ eqt H' (H6.put b3 [.int .u64 ((clrN s g : Nat) : Int)]), ?_, ?_⟩
  · refine storeA_of (cs := [.int .u64 ((clrN s g : Nat) : Int)]) h36 rfl rfl rfl (by simp) ?_
    exact ⟨rfl, rfl⟩
  rintro L H' ⟨rfl, rfl⟩
  have g1 : load1 (.ptr b3 0) (H6.put b3 [.int .u64 ((clrN s g : Nat) : Int)]) = some (.int .u64 ((clrN s g : Nat) : Int)) := load1_at Heap.put_same rfl
  simp only [letO_some, f0, g1, u64_shl (show p < 8 by omega), u64_or (a := clrN s g) (b := 2 ^ p) (by omega) p2]
  refine storeA_of (cs := [.int .u64 ((clrN s g ||| 2 ^ p : Nat) : Int)]) (cells := [.int .u64 ((clrN s g : Nat) : Int)]) Heap.put_same rfl rfl rfl (by simp) ?_
  have hsp : splice [.int .u64 ((clrN s g : Nat) : Int)] 0 [.int .u64 ((clrN s g ||| 2 ^ p : Nat) : Int)] = [.int .u64 ((clrN s g ||| 2 ^ p : Nat) : Int)] := rfl
  rw [hsp, Heap.put_put]
  have l1 : loadN 1 (.ptr b3 0) (H6.put b3 [.int .u64 ((clrN s g ||| 2 ^ p : Nat) : Int)]) = some (.agg [.int .u64 ((clrN s g ||| 2 ^ p : Nat) : Int)]) := loadN_at (cells := [.int .u64 ((clrN s g ||| 2 ^ p : Nat) : Int)]) Heap.put_same
  simp only [l1, letO_some]
  refine storeA_of (cs := [.int .u64 ((clrN s g ||| 2 ^ p : Nat) : Int)]) (cells := [.int .u64 0]) (by rw [Heap.put_ne (Ne.symm hne)]; exact h6) rfl rfl rfl (by simp) ?_
  have hsp : splice [.int .u64 0] 0 [.int .u64 ((clrN s g ||| 2 ^ p : Nat) : Int)] = [.int .u64 ((clrN s g ||| 2 ^ p : Nat) : Int)] := rfl
  rw [hsp]
  have l1 : loadN 1 (.ptr b6 0) ((H6.put b3 [.int .u64 ((clrN s g ||| 2 ^ p : Nat) : Int)]).put b6 [.int .u64 ((clrN s g ||| 2 ^ p : Nat) : Int)]) = some (.agg [.int .u64 ((clrN s g ||| 2 ^ p : Nat) : Int)]) := loadN_at (cells := [.int .u64 ((clrN s g ||| 2 ^ p : Nat) : Int)]) Heap.put_same
  simp only [l1, letO_some]
  exact endK_pub (Pub.drop (Heap.le_put (Heap.le_put hleH hb3) hb6H)) (endK_ret hk)
/-- stand.list -/
theorem c73 {s : Nat} {H : Heap} {K : AV → Heap → Prop} (h : s < 128) (hk : K (sl (up (lsN s))) H) : ACalls Tryd.prog 73 [.int .u64 (s : Int)] H K := by
  apply W73_ok
  unfold W73
  try simp only [letO_some, cellsOf?_agg, cellsOf?_int, cellsOf?_bool, cellsOf?_imm, cellsOf?_ref, cellsOf?_nils, faddr_iptr, faddr_ptr, List.drop_succ_cons, List.drop_zero, List.take_succ_cons, List.take_zero, load1_iptr, loadN_iptr, List.length_cons, List.length_nil, Nat.le_refl, if_true, List.getElem?_cons_zero, List.getElem?_cons_succ, List.getD_cons_zero, List.getD_cons_succ, extrF_tup, binF_add, binF_sub, binF_mul, binF_eql, binF_neq, binF_lss, binF_leq, binF_gtr, binF_geq, true_and]
  refine ⟨fun L H' => ∃ (s' : Nat) (done : List Nat) (X : AV), eqt L [X, .int .u64 (s' : Int)] ∧ s' < 128 ∧ Grow 1 H H' X done.length (ints (up done)) ∧ done ++ lsN s' = lsN s, fun L _ => (iv L 1).toNat, ⟨s, [], .nils, rfl, h, Grow.nils 1 H, rfl⟩, ?_⟩
  rintro L H' ⟨s', done, X, rfl, hs', hg, hd⟩
  try simp only [letO_some, cellsOf?_agg, cellsOf?_int, cellsOf?_bool, cellsOf?_imm, cellsOf?_ref, cellsOf?_nils, faddr_iptr, faddr_ptr, List.drop_succ_cons, List.drop_zero, List.take_succ_cons, List.take_zero, load1_iptr, loadN_iptr, List.length_cons, List.length_nil, Nat.le_refl, if_true, List.getElem?_cons_zero, List.getElem?_cons_succ, List.getD_cons_zero, List.getD_cons_succ, extrF_tup, binF_add, binF_sub, binF_mul, binF_eql, binF_neq, binF_lss, binF_leq, binF_gtr, binF_geq, true_and]
  by_cases h0 : s' = 0
  · subst h0
    have e : (((0 : Nat) : Int) != 0) = false := rfl
    simp only [e, condA_ff]
    have hl0 : lsN 0 = [] := by decide
    rw [hl0, List.append_nil] at hd
    subst hd
    refine hg.end1 ?_
    simpa [sl] using hk
  · have e : ((s' : Int) != 0) = true := by rw [bne_iff_ne]; omega
    simp only [e, condA_tt]
    obtain ⟨l1, l2⟩ := ls_step ⟨s', hs'⟩ h0
    simp only at l1 l2
    have hdl : done.length ≤ 7 := by
      have := ls_len s
      rw [← hd, List.length_append] at this; omega
    refine c48 hs' h0 ?_
    simp only [l35 cellsOf?_int, letO_some]
    refine appendA_one hg (by omega) fun v' H7 hg7 => ?_
    have hsub : IntKind.u64.wrap ((s' : Int) - 1) = ((s' - 1 : Nat) : Int) := by rw [wrap_u64 (by omega) (by omega)]; omega
    have p64 : (2 : Nat) ^ 64 = 18446744073709551616 := by decide
    simp only [letO_some, binF_sub, hsub, u64_and (a := s') (b := s' - 1) (by omega) (by omega)]
    refine ⟨⟨s' &&& (s' - 1), done ++ [tzN s'], v', rfl, by omega, ?_, ?_⟩, by simp [iv]; omega⟩
    · have : up (done ++ [tzN s']) = up done ++ [((tzN s' : Nat) : Int)] := by simp [up]
      rw [this]; simpa using hg7
    · rw [← hd, l1]; simp
/-- stand.Check -/
theorem c43 {room : Nat} {pv : AV} {pg : List Nat} {H : Heap} {K : AV → Heap → Prop} (h1 : 1 ≤ room) (h5 : room ≤ 5) (hv : Reads H pv (up pg)) (hl : pg.length ≤ 12) (hp : ∀ p ∈ pg, p < 6) (hk : K (.int .i64 0) H) :
    ACalls Tryd.prog 43 [.agg [.int .i64 (room : Int), pv]] H K := by
  apply W43_ok
  unfold W43
  have hc := hv.cells
  have hlen := hv.len
  rw [up_length] at hlen
  have e1 : decide ((room : Int) < 1) = false := decide_eq_false (by omega)
  have e2 : decide ((5 : Int) < (room : Int)) = false := decide_eq_false (by omega)
  have e3 : decide ((12 : Int) < (pg.length : Int)) = false := decide_eq_false (by omega)
  simp only [letO_some, cellsOf?_agg, cellsOf?_int, cellsOf?_bool, cellsOf?_imm, cellsOf?_ref, cellsOf?_nils, faddr_iptr, faddr_ptr, List.drop_succ_cons, List.drop_zero, List.take_succ_cons, List.take_zero, load1_iptr, loadN_iptr, List.length_cons, List.length_nil, Nat.le_refl, if_true, List.getElem?_cons_zero, List.getElem?_cons_succ, List.getD_cons_zero, List.getD_cons_succ, extrF_tup, binF_add, binF_sub, binF_mul, binF_eql, binF_neq, binF_lss, binF_leq, binF_gtr, binF_geq, true_and, e1, e2, gval_bool, Int.reduceBNe, Int.reduceBEq, pickF_true, pickF_false, reduceIte, Bool.true_eq_false, Bool.false_eq_true, if_false, condA_tt, condA_ff, condG_tt, condG_ff, condG_tt', condG_ff', condG_undef, gval_undef, hlen, e3, condA_ff]
  apply W69_ok
  unfold W69
  try simp only [letO_some, cellsOf?_agg, cellsOf?_int, cellsOf?_bool, cellsOf?_imm, cellsOf?_ref, cellsOf?_nils, faddr_iptr, faddr_ptr, List.drop_succ_cons, List.drop_zero, List.take_succ_cons, List.take_zero, load1_iptr, loadN_iptr, List.length_cons, List.length_nil, Nat.le_refl, if_true, List.getElem?_cons_zero, List.getElem?_cons_succ, List.getD_cons_zero, List.getD_cons_succ, extrF_tup, binF_add, binF_sub, binF_mul, binF_eql, binF_neq, binF_lss, binF_leq, binF_gtr, binF_geq, true_and]
  apply W98_ok
  unfold W98
  simp only [letO_some, cellsOf?_agg, cellsOf?_int, cellsOf?_bool, cellsOf?_imm, cellsOf?_ref, cellsOf?_nils, faddr_iptr, faddr_ptr, List.drop_succ_cons, List.drop_zero, List.take_succ_cons, List.take_zero, load1_iptr, loadN_iptr, List.length_cons, List.length_nil, Nat.le_refl, if_true, List.getElem?_cons_zero, List.getElem?_cons_succ, List.getD_cons_zero, List.getD_cons_succ, extrF_tup, binF_add, binF_sub, binF_mul, binF_eql, binF_neq, binF_lss, binF_leq, binF_gtr, binF_geq, true_and, hlen]
  refine ⟨fun L H' => ∃ i : Nat, eqt L [.int .i64 i] ∧ i ≤ pg.length ∧ eqt H' H, fun L _ => (pg.length - iv L 0).toNat, ⟨0, rfl, by omega, rfl⟩, ?_⟩
  rintro L H' ⟨i, rfl, hi, rfl⟩
  try simp only [letO_some, cellsOf?_agg, cellsOf?_int, cellsOf?_bool, cellsOf?_imm, cellsOf?_ref, cellsOf?_nils, faddr_iptr, faddr_ptr, List.drop_succ_cons, List.drop_zero, List.take_succ_cons, List.take_zero, load1_iptr, loadN_iptr, List.length_cons, List.length_nil, Nat.le_refl, if_true, List.getElem?_cons_zero, List.getElem?_cons_succ, List.getD_cons_zero, List.getD_cons_succ, extrF_tup, binF_add, binF_sub, binF_mul, binF_eql, binF_neq, binF_lss, binF_leq, binF_gtr, binF_geq, true_and]
  refine condA_t (fun hlt => ?_) (fun hge => ?_)
  · have a1 : i < pg.length := by omega
    have hpi : pg.getD i 0 < 6 := by
      rw [List.getD_eq_getElem?_getD, List.getElem?_eq_getElem a1]; exact hp _ (List.getElem_mem a1)
    refine Reads.get (Heap.le_refl _) hv (by omega) (by rw [up_length]; omega) ?_
    rw [Int.toNat_natCast, up_getD]
    try simp only [callA, letO_some, cellsOf?_agg, cellsOf?_int, cellsOf?_bool, cellsOf?_imm, cellsOf?_ref, cellsOf?_nils, faddr_iptr, faddr_ptr, List.drop_succ_cons, List.drop_zero, List.take_succ_cons, List.take_zero, load1_iptr, loadN_iptr, List.length_cons, List.length_nil, Nat.le_refl, if_true, List.getElem?_cons_zero, List.getElem?_cons_succ, List.getD_cons_zero, List.getD_cons_succ, extrF_tup, binF_add, binF_sub, binF_mul, binF_eql, binF_neq, binF_lss, binF_leq, binF_gtr, binF_geq, true_and]
    apply W70_ok
    unfold W70
    have x1 : decide (((pg.getD i 0 : Nat) : Int) < 0) = false := decide_eq_false (by omega)
    have x2 : decide ((6 : Int) ≤ ((pg.getD i 0 : Nat) : Int)) = false := decide_eq_false (by omega)
    simp only [letO_some, cellsOf?_agg, cellsOf?_int, cellsOf?_bool, cellsOf?_imm, cellsOf?_ref, cellsOf?_nils, faddr_iptr, faddr_ptr, List.drop_succ_cons, List.drop_zero, List.take_succ_cons, List.take_zero, load1_iptr, loadN_iptr, List.length_cons, List.length_nil, Nat.le_refl, if_true, List.getElem?_cons_zero, List.getElem?_cons_succ, List.getD_cons_zero, List.getD_cons_succ, extrF_tup, binF_add, binF_sub, binF_mul, binF_eql, binF_neq, binF_lss, binF_leq, binF_gtr, binF_geq, true_and, x1, x2, gval_bool, Int.reduceBNe, Int.reduceBEq, pickF_true, pickF_false, reduceIte, Bool.true_eq_false, Bool.false_eq_true, if_false, condA_tt, condA_ff, condG_tt, condG_ff, condG_tt', condG_ff', condG_undef, gval_undef]
    refine endK_ret ?_
    simp only [condA_ff, letO_some, cellsOf?_agg, cellsOf?_int, cellsOf?_bool, cellsOf?_imm, cellsOf?_ref, cellsOf?_nils, faddr_iptr, faddr_ptr, List.drop_succ_cons, List.drop_zero, List.take_succ_cons, List.take_zero, load1_iptr, loadN_iptr, List.length_cons, List.length_nil, Nat.le_refl, if_true, List.getElem?_cons_zero, List.getElem?_cons_succ, List.getD_cons_zero, List.getD_cons_succ, extrF_tup, binF_add, binF_sub, binF_mul, binF_eql, binF_neq, binF_lss, binF_leq, binF_gtr, binF_geq, true_and]
    rw [wrap_i64 (by omega) (by omega)]
    exact ⟨⟨i + 1, rfl, by omega, rfl⟩, by simp [iv]; omega⟩
  · refine endK_ret ?_
    have x1 : decide ((0 : Int) ≤ -1) = false := by decide
    simp only [letO_some, cellsOf?_agg, cellsOf?_int, cellsOf?_bool, cellsOf?_imm, cellsOf?_ref, cellsOf?_nils, faddr_iptr, faddr_ptr, List.drop_succ_cons, List.drop_zero, List.take_succ_cons, List.take_zero, load1_iptr, loadN_iptr, List.length_cons, List.length_nil, Nat.le_refl, if_true, List.getElem?_cons_zero, List.getElem?_cons_succ, List.getD_cons_zero, List.getD_cons_succ, extrF_tup, binF_add, binF_sub, binF_mul, binF_eql, binF_neq, binF_lss, binF_leq, binF_gtr, binF_geq, true_and, x1]
    refine endK_ret ?_
    simp only [letO_some, cellsOf?_agg, cellsOf?_int, cellsOf?_bool, cellsOf?_imm, cellsOf?_ref, cellsOf?_nils, faddr_iptr, faddr_ptr, List.drop_succ_cons, List.drop_zero, List.take_succ_cons, List.take_zero, load1_iptr, loadN_iptr, List.length_cons, List.length_nil, Nat.le_refl, if_true, List.getElem?_cons_zero, List.getElem?_cons_succ, List.getD_cons_zero, List.getD_cons_succ, extrF_tup, binF_add, binF_sub, binF_mul, binF_eql, binF_neq, binF_lss, binF_leq, binF_gtr, binF_geq, true_and, condA_ff]
    exact endK_ret hk
end Go.Proofs.YtmmfelpgcdlgfaaDoor

namespace Go.Proofs.YtmmfelpgcdlgfaaDoor
open Go.Av
set_option linter.unusedVariables false
set_option linter.unusedSimpArgs false
set_option maxRecDepth 8000

/-- The smallest number of a list. -/
def minL : List Nat → Nat
  | [] => 0
  | a :: l => l.foldl min a
/-- The fewest settings, from a floor on. -/
def fewF (room : Nat) : List Nat → Nat → Nat
  | [], _ => 0
  | p :: ps, s => if s.testBit p then fewF room ps s else if (lsN s).length < room then 1 + fewF room ps (s ||| 2 ^ p) else minL ((lsN s).map fun g => 1 + fewF room ps (clrN s g ||| 2 ^ p))
theorem min_snoc {l : List Nat} {a : Nat} (h : l ≠ []) : minL (l ++ [a]) = min (minL l) a := by
  cases l with
  | nil => exact absurd rfl h
  | cons x l => simp [minL, List.foldl_append]
theorem fewF_le (room : Nat) : ∀ (ps : List Nat) (s : Nat), fewF room ps s ≤ ps.length := by
  intro ps
  induction ps with
  | nil => intro s; simp [fewF]
  | cons p ps ih =>
    intro s
    rw [fewF]
    split
    · have := ih s; simp; omega
    · split
      · have := ih (s ||| 2 ^ p); simp; omega
      · have hm : ∀ l : List Nat, (∀ x ∈ l, x ≤ ps.length + 1) → minL l ≤ ps.length + 1 := by
          intro l
          induction l using snoc_ind with
          | h0 => intro _; simp [minL]
          | h1 l a ih2 =>
            intro h
            by_cases hl : l = []
            · subst hl; exact h a (by simp)
            · rw [min_snoc hl]
              have := h a (by simp)
              omega
        refine Nat.le_trans (hm _ fun x hx => ?_) (by simp)
        obtain ⟨g, _, rfl⟩ := List.mem_map.1 hx
        have := ih (clrN s g ||| 2 ^ p)
        omega

def prI (p : Int × Int) : List AV := [.int .i64 p.1, .int .i64 p.2]
theorem prI_len (p : Int × Int) : (prI p).length = 2 := rfl
/-- The table's block. -/
def tcC (room : Nat) (pv : AV) (Kn : List (Int × Int)) : List AV := .int .i64 (room : Int) :: pv :: Kn.flatMap prI
theorem tcC_len {room : Nat} {pv : AV} {Kn : List (Int × Int)} : (tcC room pv Kn).length = 2 + Kn.length * 2 := by
  rw [tcC, List.length_cons, List.length_cons, rows_len prI_len]; omega
/-- What the table knows is right. -/
structure TI (room : Nat) (pg : List Nat) (Kn : List (Int × Int)) : Prop where
  len : Kn.length = 768
  ok : ∀ t s, t < 12 → s < 64 → Kn.getD (t * 64 + s) (0, 0) ≠ (0, 0) → (Kn.getD (t * 64 + s) (0, 0)).1 = (fewF room (pg.drop t) s : Nat)
theorem TI.set {room : Nat} {pg : List Nat} {Kn : List (Int × Int)} (h : TI room pg Kn) {t s : Nat} (ht : t < 12) (hs : s < 64) (c : Int) : TI room pg (Kn.set (t * 64 + s) (((fewF room (pg.drop t) s : Nat) : Int), c)) := by
  refine ⟨by rw [List.length_set]; exact h.len, fun t' s' ht' hs' hne => ?_⟩
  have hl := h.len
  by_cases he : t' * 64 + s' = t * 64 + s
  · have h1 : t' = t := by omega
    have h2 : s' = s := by omega
    subst h1; subst h2
    rw [List.getD_eq_getElem?_getD, List.getElem?_set_self (by omega)]
    rfl
  · have e : (Kn.set (t * 64 + s) (((fewF room (pg.drop t) s : Nat) : Int), c)).getD (t' * 64 + s') (0, 0) = Kn.getD (t' * 64 + s') (0, 0) := by
      rw [List.getD_eq_getElem?_getD, List.getElem?_set_ne (by omega), ← List.getD_eq_getElem?_getD]
    rw [e] at hne ⊢
    exact h.ok t' s' ht' hs' hne
/-- A value that does not lie in a block. -/
def Off (b : Nat) (v : AV) : Prop := match v with
  | .ref _ b' _ _ _ => b' ≠ b
  | _ => True
theorem reads_off {H : Heap} {v : AV} {l : List Int} {b : Nat} {cs : List AV} (h : Reads H v l) (ho : Off b v) : Reads (H.put b cs) v l := by
  cases v <;> simp only [Reads] at h ⊢ <;> try exact h
  obtain ⟨h1, h2, cells, h3, h4, h5⟩ := h
  exact ⟨h1, h2, cells, by rw [Heap.put_ne ho]; exact h3, h4, h5⟩
theorem reads_isOff {H : Heap} {v : AV} {l : List Int} {b : Nat} (h : Reads H v l) (hb : H b = none) : Off b v := by
  cases v <;> simp only [Reads, Off] at h ⊢
  obtain ⟨h1, h2, cells, h3, _⟩ := h
  rintro rfl
  rw [hb] at h3; cases h3
theorem eq96 (a b c d : Int) : eqF Tryd.prog 96 (.agg [.int .i64 a, .int .i64 b]) (.agg [.int .i64 c, .int .i64 d]) = some ((a == c) && (b == d)) := by
  have h1 : (match Tryd.prog.underlying 96 with | some (.struct fs) => fieldInts Tryd.prog fs.toList 0 && fs.size == 2 | _ => false) = true := by kernel_rfl
  have h2 : Tryd.prog.eqGuardType Tryd.prog.depth 96 = false := by kernel_rfl
  have h3 : Tryd.prog.stoodInHeld 96 = false := by kernel_rfl
  unfold eqF
  split at h1 <;> try cases h1
  rename_i fs hu
  simp only [Bool.and_eq_true, beq_iff_eq] at h1
  rw [hu]
  simp only
  rw [if_pos ⟨h1.1, h1.2.symm, h1.2.symm, h2, h3⟩]
  simp [eqInts]
theorem b96_0 : buildF Tryd.prog 96 [] = some (.agg [.int .i64 0, .int .i64 0]) := by
  rw [buildF_of (show buildPlan Tryd.prog 96 = some ([.int .i64 0, .int .i64 0], [(0, 1), (1, 1)]) by kernel_rfl)]
  simp [fillA]
theorem b96_1 : buildF Tryd.prog 96 [(1, .int .i64 1)] = some (.agg [.int .i64 0, .int .i64 1]) := by
  rw [buildF_of (show buildPlan Tryd.prog 96 = some ([.int .i64 0, .int .i64 0], [(0, 1), (1, 1)]) by kernel_rfl)]
  simp [fillA, splice]
theorem loadN_off {H : Heap} {b o n : Nat} {cells r : List AV} (hb : H b = some cells) (h : (cells.drop o).take n = r) (hl : r.length = n) : loadN n (.ptr b o) H = some (.agg r) := by
  rw [loadN_ptr, hb, Option.bind_some]
  have : n ≤ (cells.drop o).length := by
    rw [← h, List.length_take] at hl; omega
  rw [if_pos this, h]
theorem tcC_get {room : Nat} {pv : AV} {Kn : List (Int × Int)} {i : Nat} {x : Int × Int} (h : Kn[i]? = some x) : ((tcC room pv Kn).drop (2 + i * 2)).take 2 = prI x := by
  rw [tcC, show 2 + i * 2 = (i * 2 + 1) + 1 by omega, List.drop_succ_cons, List.drop_succ_cons]
  exact rows_get prI_len h
theorem tcC_set {room : Nat} {pv : AV} {Kn : List (Int × Int)} {i : Nat} {x : Int × Int} (h : i < Kn.length) : splice (tcC room pv Kn) (2 + i * 2) (prI x) = tcC room pv (Kn.set i x) := by
  have := rows_set (f := prI) prI_len (l := Kn) (i := i) (y := x) h
  rw [tcC, tcC, ← this]
  unfold splice
  rw [show 2 + i * 2 = (i * 2 + 1) + 1 by omega, List.take_succ_cons, List.take_succ_cons, show i * 2 + 1 + 1 + (prI x).length = (i * 2 + (prI x).length) + 1 + 1 by omega, List.drop_succ_cons, List.drop_succ_cons]
  rfl
theorem tcC_all {room : Nat} {pv : AV} {Kn : List (Int × Int)} : isScalar pv = true → (tcC room pv Kn).all isScalar = true := by
  intro h
  rw [tcC, List.all_cons, List.all_cons, h]
  simp only [isScalar, Bool.true_and, List.all_eq_true, List.mem_flatMap]
  rintro x ⟨p, _, hp⟩
  simp [prI] at hp
  rcases hp with rfl | rfl <;> rfl
theorem set_drop {pg : List Nat} {t : Nat} (h : t < pg.length) : pg.drop t = pg.getD t 0 :: pg.drop (t + 1) := by
  rw [List.drop_eq_getElem_cons h, List.getD_eq_getElem?_getD, List.getElem?_eq_getElem h]; rfl
theorem ls_lt6 : ∀ s : Fin 64, ∀ i : Fin 7, i.val < (lsN s.val).length → (lsN s.val).getD i.val 0 < 6 := by decide +kernel
/-- stand.least -/
theorem c44 {room : Nat} {pg : List Nat} {pv : AV} (hr1 : 1 ≤ room) (hr5 : room ≤ 5) (hp : ∀ p ∈ pg, p < 6) (hl : pg.length ≤ 12) (hps : isScalar pv = true) :
    ∀ (n t s : Nat) {Kn : List (Int × Int)} {H : Heap} {b : Nat} {K : AV → Heap → Prop}, t + n = pg.length → s < 64 → H b = some (tcC room pv Kn) → TI room pg Kn → Reads H pv (up pg) → Off b pv →
    (∀ (c : Int) (Kn' : List (Int × Int)), TI room pg Kn' → K (.agg [.int .i64 (fewF room (pg.drop t) s : Nat), .int .i64 c]) (H.put b (tcC room pv Kn'))) →
    ACalls Tryd.prog 44 [.ptr b 0, .int .i64 (t : Int), .agg [.int .u64 (s : Int)]] H K := by
  intro n
  induction n with
  | zero =>
    intro t s Kn H b K htn hs hb hti hpv hoff hk
    apply W44_ok
    unfold W44
    have hlen := hpv.len
    rw [up_length] at hlen
    have hc : cellsOf? (.agg [.int .u64 (s : Int)]) = some [.int .u64 (s : Int)] := rfl
    have n1 : nilF (.ptr b 0) = some (.ptr b 0) := rfl
    have f0 : faddr 0 (.ptr b 0) = some (.ptr b 0) := rfl
    have f1 : faddr 1 (.ptr b 0) = some (.ptr b 1) := rfl
    try simp only [letO_some, hc]
    refine alloc_ fun b6 hb6 => ?_
    have hle6 := Heap.le_new (c := [.int .i64 0, .int .i64 0]) hb6
    have h6 : (H.put b6 [.int .i64 0, .int .i64 0]) b6 = some [.int .i64 0, .int .i64 0] := Heap.put_same
    generalize H.put b6 [.int .i64 0, .int .i64 0] = H6 at *
    have l1 : load1 (.ptr b 1) H6 = some pv := load1_at (hle6 _ _ hb) rfl
    have e1 : ((t : Int) == (pg.length : Int)) = true := by rw [beq_iff_eq]; omega
    try simp only [letO_some, n1, f0, f1, l1, hlen, binF_eql, e1, condA_tt, b96_1]
    refine storeA_of (cs := [.int .i64 0, .int .i64 1]) h6 rfl rfl rfl (by simp) ?_
    have hsp : splice [.int .i64 0, .int .i64 0] 0 [.int .i64 0, .int .i64 1] = [.int .i64 0, .int .i64 1] := rfl
    rw [hsp]
    have l2 : loadN 2 (.ptr b6 0) (H6.put b6 [.int .i64 0, .int .i64 1]) = some (.agg [.int .i64 0, .int .i64 1]) := loadN_at (cells := [.int .i64 0, .int .i64 1]) Heap.put_same
    simp only [l2, letO_some]
    have hd : pg.drop t = [] := List.drop_of_length_le (by omega)
    have := hk 1 Kn hti
    rw [hd, put_eq hb] at this
    exact endK_pub (Pub.drop (Heap.le_put hle6 hb6)) (endK_ret this)
  | succ n ih =>
    intro t s Kn H b K htn hs hb hti hpv hoff hk
    apply W44_ok
    unfold W44
    have hlen := hpv.len
    rw [up_length] at hlen
    have htl : t < pg.length := by omega
    have ht12 : t < 12 := by omega
    have hc : cellsOf? (.agg [.int .u64 (s : Int)]) = some [.int .u64 (s : Int)] := rfl
    have n1 : nilF (.ptr b 0) = some (.ptr b 0) := rfl
    have f0 : faddr 0 (.ptr b 0) = some (.ptr b 0) := rfl
    have f1 : faddr 1 (.ptr b 0) = some (.ptr b 1) := rfl
    have f2 : faddr 2 (.ptr b 0) = some (.ptr b 2) := rfl
    have fs : faddr 0 (.iptr [.int .u64 (s : Int)]) = some (.iptr [.int .u64 (s : Int)]) := rfl
    have ls1 : ∀ H', load1 (.iptr [.int .u64 (s : Int)]) H' = some (.int .u64 (s : Int)) := fun _ => rfl
    have lsN1 : ∀ H', loadN 1 (.iptr [.int .u64 (s : Int)]) H' = some (.agg [.int .u64 (s : Int)]) := fun _ => rfl
    have i12 : idxArr 12 128 (.ptr b 2) (.int .i64 (t : Int)) = some (.ptr b (2 + t * 128)) := by
      simp only [idxArr]; rw [if_pos (by omega)]; simp
    have i64' : idxArr 64 2 (.ptr b (2 + t * 128)) (.int .u64 (s : Int)) = some (.ptr b (2 + (t * 64 + s) * 2)) := by
      simp only [idxArr]; rw [if_pos (by omega)]; simp; omega
    have hdr := set_drop htl
    have hpm : pg.getD t 0 < 6 := by
      rw [List.getD_eq_getElem?_getD, List.getElem?_eq_getElem htl]; exact hp _ (List.getElem_mem htl)
    try simp only [letO_some, hc]
    refine alloc_ fun b6 hb6 => ?_
    have hle6 := Heap.le_new (c := [.int .i64 0, .int .i64 0]) hb6
    have h6 : (H.put b6 [.int .i64 0, .int .i64 0]) b6 = some [.int .i64 0, .int .i64 0] := Heap.put_same
    generalize H.put b6 [.int .i64 0, .int .i64 0] = H6 at *
    have l1 : load1 (.ptr b 1) H6 = some pv := load1_at (hle6 _ _ hb) rfl
    have e1 : ((t : Int) == (pg.length : Int)) = false := by rw [beq_eq_false_iff_ne]; omega
    have hkn : Kn[t * 64 + s]? = some (Kn.getD (t * 64 + s) (0, 0)) := by
      have := hti.len
      rw [List.getD_eq_getElem?_getD, List.getElem?_eq_getElem (by omega)]; rfl
    have lk : loadN 2 (.ptr b (2 + (t * 64 + s) * 2)) H6 = some (.agg (prI (Kn.getD (t * 64 + s) (0, 0)))) := loadN_off (hle6 _ _ hb) (tcC_get hkn) rfl
    have hok := hti.ok t s ht12 hs
    generalize Kn.getD (t * 64 + s) (0, 0) = kp at *
    try simp only [letO_some, n1, f0, f1, f2, fs, ls1, l1, hlen, binF_eql, e1, condA_ff, true_and, i12, i64', lk]
    refine alloc_store (cs := prI kp) rfl rfl rfl rfl fun b7 hb7 => ?_
    have hle7 := Heap.le_new (c := prI kp) hb7
    have h7 : (H6.put b7 (prI kp)) b7 = some (prI kp) := Heap.put_same
    have h67 := hle7 _ _ h6
    have hb6H := hb6
    have hb7H := none_of_le hle6 hb7
    have hle17 := Heap.le_trans hle6 hle7
    generalize H6.put b7 (prI kp) = H7 at *
    have l7 : loadN 2 (.ptr b7 0) H7 = some (.agg (prI kp)) := loadN_at (cells := prI kp) h7
    have eqk : binF Tryd.prog .neq 96 (.agg (prI kp)) (.agg [.int .i64 0, .int .i64 0]) = some (.bool !((kp.1 == 0) && (kp.2 == 0))) := by
      show (eqF Tryd.prog 96 (.agg (prI kp)) (.agg [.int .i64 0, .int .i64 0])).map (fun r => AV.bool !r) = _
      rw [prI, eq96]; rfl
    have lp : load1 (.ptr b 1) H7 = some pv := load1_at (hle17 _ _ hb) rfl
    have lr : load1 (.ptr b 0) H7 = some (.int .i64 (room : Int)) := load1_at (hle17 _ _ hb) rfl
    try simp only [letO_some, l7, b96_0, eqk]
    by_cases hz : kp = (0, 0)
    · subst hz
      have : (!(((0 : Int), (0 : Int)).1 == 0 && ((0 : Int), (0 : Int)).2 == 0)) = false := rfl
      simp only [this, condA_ff, letO_some, lp]
      refine (hpv.le hle17).get (Heap.le_refl _) (by omega) (by rw [up_length]; omega) ?_
      rw [Int.toNat_natCast, up_getD]
      rw [hdr] at hk
      have hti' : ∀ {K2} c, TI room pg K2 → TI room pg (K2.set (t * 64 + s) (((fewF room (pg.getD t 0 :: pg.drop (t + 1)) s : Nat) : Int), c)) := by
        intro K2 c h
        have := h.set ht12 hs c
        rwa [hdr] at this
      generalize pg.getD t 0 = p at *
      try simp only [letO_some]
      refine alloc_ fun b9 hb9 => ?_
      have hle9 := Heap.le_new (c := [.int .i64 0, .int .i64 0]) hb9
      have h9 : (H7.put b9 [.int .i64 0, .int .i64 0]) b9 = some [.int .i64 0, .int .i64 0] := Heap.put_same
      have hb9H := none_of_le hle17 hb9
      have hle19 := Heap.le_trans hle17 hle9
      have h69 := hle9 _ _ h67
      generalize H7.put b9 [.int .i64 0, .int .i64 0] = H9 at *
      have hbne : ∀ {x}, H x = none → x ≠ b := fun h e => by subst e; rw [hb] at h; cases h
      have n6 := hbne hb6H
      have n9 := hbne hb9H
      have n69 : b6 ≠ b9 := by rintro rfl; rw [h67] at hb9; cases hb9
      have hb3 : H9 b = some (tcC room pv Kn) := hle19 _ _ hb
      have hpv9 : Reads H9 pv (up pg) := hpv.le hle19
      have w1 : IntKind.i64.wrap ((t : Int) + 1) = ((t + 1 : Nat) : Int) := by rw [wrap_i64 (by omega) (by omega)]; omega
      have f9 : faddr 0 (.ptr b9 0) = some (.ptr b9 0) := rfl
      have f91 : faddr 1 (.ptr b9 0) = some (.ptr b9 1) := rfl
      have hfl : fewF room (p :: pg.drop (t + 1)) s ≤ 12 := by
        have := fewF_le room (p :: pg.drop (t + 1)) s
        simp at this; omega
      refine ⟨fun L H' => eqt L [] ∧ ∃ c Kn', TI room pg Kn' ∧ (H.put b (tcC room pv Kn')).le H' ∧ H' b9 = some [.int .i64 (fewF room (p :: pg.drop (t + 1)) s : Nat), .int .i64 c] ∧ H' b6 = some [.int .i64 0, .int .i64 0], ?_, ?_⟩
      · have hone : ∀ t, binF Tryd.prog .and t (.int .u64 ((s / 2 ^ p : Nat) : Int)) (.int .u64 1) = some (.int .u64 ((s / 2 ^ p &&& 1 : Nat) : Int)) := fun t => u64_and (t := t) (b := 1) (by have := Nat.div_le_self s (2 ^ p); omega) (by decide)
        try simp only [letO_some, fs, ls1, u64_shr (show p < 64 by omega), hone, binF_eql, u64_bit]
        cases hbit : s.testBit p
        · -- the page does not stand
          have lr9 : load1 (.ptr b 0) H9 = some (.int .i64 (room : Int)) := load1_at hb3 rfl
          simp only [condA_ff, true_and, letO_some, lsN1, n1, f0, lr9]
          refine c71 (by omega) (by omega) ?_
          have hfull : fullB s p room = decide (room ≤ (lsN s).length) := by simp [fullB, hbit]
          rw [hfull]
          try simp only [letO_some, not_v]
          by_cases hroom : room ≤ (lsN s).length
          · -- one goes
            have hfew : fewF room (p :: pg.drop (t + 1)) s = minL ((lsN s).map fun g => 1 + fewF room (pg.drop (t + 1)) (clrN s g ||| 2 ^ p)) := by
              rw [fewF, if_neg (by simp [hbit]), if_neg (by omega)]
            rw [hfew]
            rw [decide_eq_true hroom]
            simp only [Bool.not_true, condA_ff, letO_some, fs, ls1]
            refine c73 (by omega) ?_
            have hll : lenA (sl (up (lsN s))) = some (.int .i64 ((lsN s).length : Int)) := by simp [sl, lenA]
            have hl7 := ls_len s
            try simp only [letO_some, hll, true_and]
            refine ⟨fun L H' => ∃ (i : Nat) (c : Int) (Kn' : List (Int × Int)), eqt L [.int .i64 (i : Int)] ∧ i ≤ (lsN s).length ∧ TI room pg Kn' ∧ (H.put b (tcC room pv Kn')).le H' ∧
                H' b9 = some [.int .i64 (minL (((lsN s).take i).map fun g => 1 + fewF room (pg.drop (t + 1)) (clrN s g ||| 2 ^ p)) : Nat), .int .i64 (if i = 0 then 0 else c)] ∧ H' b6 = some [.int .i64 0, .int .i64 0],
              fun L _ => ((lsN s).length - iv L 0).toNat, ⟨0, 0, Kn, rfl, by omega, hti, by rw [put_eq hb]; exact hle19, h9, h69⟩, ?_⟩
            rintro L H22 ⟨i, c, Kn', rfl, hi, hti2, hle22, hb9', hb6'⟩
            try simp only [letO_some, cellsOf?_agg, cellsOf?_int, cellsOf?_bool, cellsOf?_imm, cellsOf?_ref, cellsOf?_nils, faddr_iptr, faddr_ptr, List.drop_succ_cons, List.drop_zero, List.take_succ_cons, List.take_zero, load1_iptr, loadN_iptr, List.length_cons, List.length_nil, Nat.le_refl, if_true, List.getElem?_cons_zero, List.getElem?_cons_succ, List.getD_cons_zero, List.getD_cons_succ, extrF_tup, binF_add, binF_sub, binF_mul, binF_eql, binF_neq, binF_lss, binF_leq, binF_gtr, binF_geq, true_and]
            refine condA_t (fun hlt => ?_) (fun hge => ?_)
            · have a1 : i < (lsN s).length := by omega
              have hg6 := ls_lt6 ⟨s, hs⟩ ⟨i, by omega⟩ a1
              simp only at hg6
              have htk : (lsN s).take (i + 1) = (lsN s).take i ++ [(lsN s).getD i 0] := by
                rw [List.take_add_one, List.getElem?_eq_getElem a1, List.getD_eq_getElem?_getD, List.getElem?_eq_getElem a1]; rfl
              have hb22 : H22 b = some (tcC room pv Kn') := hle22 _ _ Heap.put_same
              have hpv22 : Reads H22 pv (up pg) := (reads_off hpv hoff).le hle22
              refine ⟨fun L H' => eqt L [] ∧ ∃ (c : Int) (Kn' : List (Int × Int)), TI room pg Kn' ∧ (H.put b (tcC room pv Kn')).le H' ∧
                H' b9 = some [.int .i64 (minL (((lsN s).take (i + 1)).map fun g => 1 + fewF room (pg.drop (t + 1)) (clrN s g ||| 2 ^ p)) : Nat), .int .i64 c] ∧ H' b6 = some [.int .i64 0, .int .i64 0], ?_, ?_⟩
              · refine Reads.get (Heap.le_refl _) (Reads.sl H22 (up (lsN s))) (by omega) (by rw [up_length]; omega) ?_
                rw [Int.toNat_natCast, up_getD, htk, List.map_append, List.map_cons, List.map_nil]
                have hmi : minL (((lsN s).take i).map fun g => 1 + fewF room (pg.drop (t + 1)) (clrN s g ||| 2 ^ p)) ≤ 13 := by
                  have hm : ∀ l : List Nat, (∀ x ∈ l, x ≤ 13) → minL l ≤ 13 := by
                    intro l
                    induction l using snoc_ind with
                    | h0 => intro _; simp [minL]
                    | h1 l a ih2 =>
                      intro h
                      by_cases hl : l = []
                      · subst hl; exact h a (by simp)
                      · rw [min_snoc hl]
                        have := h a (by simp)
                        omega
                  refine hm _ fun x hx => ?_
                  obtain ⟨g, _, rfl⟩ := List.mem_map.1 hx
                  have := fewF_le room (pg.drop (t + 1)) (clrN s g ||| 2 ^ p)
                  simp at this; omega
                have hne0 : i ≠ 0 → ((lsN s).take i).map (fun g => 1 + fewF room (pg.drop (t + 1)) (clrN s g ||| 2 ^ p)) ≠ [] := by
                  intro h h2
                  have := congrArg List.length h2
                  rw [List.length_map, List.length_take, List.length_nil] at this
                  omega
                have hpos : i ≠ 0 → 1 ≤ minL (((lsN s).take i).map fun g => 1 + fewF room (pg.drop (t + 1)) (clrN s g ||| 2 ^ p)) := by
                  intro h
                  have hm : ∀ l : List Nat, l ≠ [] → (∀ x ∈ l, 1 ≤ x) → 1 ≤ minL l := by
                    intro l
                    induction l using snoc_ind with
                    | h0 => intro h; exact absurd rfl h
                    | h1 l a ih2 =>
                      intro _ h
                      by_cases hl : l = []
                      · subst hl; exact h a (by simp)
                      · rw [min_snoc hl]
                        have := h a (by simp)
                        have := ih2 hl fun x hx => h x (by simp [hx])
                        omega
                  refine hm _ (hne0 h) fun x hx => ?_
                  obtain ⟨g, _, rfl⟩ := List.mem_map.1 hx
                  omega
                have hmn : minL (((lsN s).take i).map (fun g => 1 + fewF room (pg.drop (t + 1)) (clrN s g ||| 2 ^ p)) ++ [1 + fewF room (pg.drop (t + 1)) (clrN s ((lsN s).getD i 0) ||| 2 ^ p)]) =
                    if i = 0 then 1 + fewF room (pg.drop (t + 1)) (clrN s ((lsN s).getD i 0) ||| 2 ^ p) else min (minL (((lsN s).take i).map fun g => 1 + fewF room (pg.drop (t + 1)) (clrN s g ||| 2 ^ p))) (1 + fewF room (pg.drop (t + 1)) (clrN s ((lsN s).getD i 0) ||| 2 ^ p)) := by
                  by_cases h : i = 0
                  · subst h; rfl
                  · rw [if_neg h, min_snoc (hne0 h)]
                rw [hmn]
                generalize (lsN s).getD i 0 = g at *
                obtain ⟨-, hcl⟩ := clr_ok ⟨s, hs⟩ ⟨g, hg6⟩
                have hs64 := with_ok ⟨clrN s g, hcl⟩ ⟨p, hpm⟩
                simp only at hcl hs64
                try simp only [letO_some, binF_add, w1, lsN1]
                refine c72 hs hpm hg6 ?_
                refine ih (t + 1) _ (by omega) hs64 hb22 hti2 hpv22 hoff fun c2 Kn2 hti3 => ?_
                have hxl : fewF room (pg.drop (t + 1)) (clrN s g ||| 2 ^ p) ≤ 12 := by
                  have := fewF_le room (pg.drop (t + 1)) (clrN s g ||| 2 ^ p)
                  simp at this; omega
                generalize fewF room (pg.drop (t + 1)) (clrN s g ||| 2 ^ p) = x at *
                have hm0 : i = 0 → minL (((lsN s).take i).map fun g => 1 + fewF room (pg.drop (t + 1)) (clrN s g ||| 2 ^ p)) = 0 := by rintro rfl; rfl
                generalize minL (((lsN s).take i).map fun g => 1 + fewF room (pg.drop (t + 1)) (clrN s g ||| 2 ^ p)) = m at *
                have hle23 : (H.put b (tcC room pv Kn2)).le (H22.put b (tcC room pv Kn2)) := by
                  have := Heap.put_mono (b := b) (cs := tcC room pv Kn2) hle22
                  rwa [Heap.put_put] at this
                have hb9'' : (H22.put b (tcC room pv Kn2)) b9 = _ := (Heap.put_ne n9).trans hb9'
                have hb6'' : (H22.put b (tcC room pv Kn2)) b6 = _ := (Heap.put_ne n6).trans hb6'
                generalize H22.put b (tcC room pv Kn2) = H23 at *
                refine alloc_store (cs := [.int .i64 (x : Int), .int .i64 c2]) rfl rfl rfl rfl fun b12 hb12 => ?_
                have hle24 := Heap.le_new (c := [.int .i64 (x : Int), .int .i64 c2]) hb12
                have h12 : (H23.put b12 [.int .i64 (x : Int), .int .i64 c2]) b12 = some [.int .i64 (x : Int), .int .i64 c2] := Heap.put_same
                have hbP : (H.put b (tcC room pv Kn2)) b12 = none := none_of_le hle23 hb12
                have h9c := hle24 _ _ hb9''
                have h6c := hle24 _ _ hb6''
                have hle25 := Heap.le_trans hle23 hle24
                have n129 : b12 ≠ b9 := by rintro rfl; rw [hb9''] at hb12; cases hb12
                have n126 : b12 ≠ b6 := by rintro rfl; rw [hb6''] at hb12; cases hb12
                generalize H23.put b12 [.int .i64 (x : Int), .int .i64 c2] = H24 at *
                have f12 : faddr 0 (.ptr b12 0) = some (.ptr b12 0) := rfl
                have f121 : faddr 1 (.ptr b12 0) = some (.ptr b12 1) := rfl
                have l12 : load1 (.ptr b12 0) H24 = some (.int .i64 (x : Int)) := load1_at h12 rfl
                have wx : IntKind.i64.wrap ((x : Int) + 1) = ((1 + x : Nat) : Int) := by rw [wrap_i64 (by omega) (by omega)]; omega
                try simp only [letO_some, f12, l12, binF_add, wx]
                refine storeA_of (cs := [.int .i64 ((1 + x : Nat) : Int)]) h12 rfl rfl rfl (by simp) ?_
                have hsp : splice [.int .i64 (x : Int), .int .i64 c2] 0 [.int .i64 ((1 + x : Nat) : Int)] = [.int .i64 ((1 + x : Nat) : Int), .int .i64 c2] := rfl
                rw [hsp]
                have h12' : (H24.put b12 [.int .i64 ((1 + x : Nat) : Int), .int .i64 c2]) b12 = some [.int .i64 ((1 + x : Nat) : Int), .int .i64 c2] := Heap.put_same
                have hle26 := Heap.le_put hle25 hbP (cs := [.int .i64 ((1 + x : Nat) : Int), .int .i64 c2])
                have h9d : (H24.put b12 [.int .i64 ((1 + x : Nat) : Int), .int .i64 c2]) b9 = _ := (Heap.put_ne (Ne.symm n129)).trans h9c
                have h6d : (H24.put b12 [.int .i64 ((1 + x : Nat) : Int), .int .i64 c2]) b6 = _ := (Heap.put_ne (Ne.symm n126)).trans h6c
                generalize H24.put b12 [.int .i64 ((1 + x : Nat) : Int), .int .i64 c2] = H25 at *
                have l9 : loadN 2 (.ptr b9 0) H25 = some (.agg [.int .i64 (m : Int), .int .i64 (if i = 0 then 0 else c)]) := loadN_at (cells := [.int .i64 (m : Int), .int .i64 (if i = 0 then 0 else c)]) h9d
                have eqo : binF Tryd.prog .eql 96 (.agg [.int .i64 (m : Int), .int .i64 (if i = 0 then 0 else c)]) (.agg [.int .i64 0, .int .i64 0]) = some (.bool (((m : Int) == 0) && ((if i = 0 then 0 else c) == 0))) := by
                  show (eqF Tryd.prog 96 _ _).map AV.bool = _
                  rw [eq96]; rfl
                have l120 : load1 (.ptr b12 0) H25 = some (.int .i64 ((1 + x : Nat) : Int)) := load1_at h12' rfl
                have l121 : load1 (.ptr b12 1) H25 = some (.int .i64 c2) := load1_at h12' rfl
                have l90 : load1 (.ptr b9 0) H25 = some (.int .i64 (m : Int)) := load1_at h9d rfl
                have l91 : load1 (.ptr b9 1) H25 = some (.int .i64 (if i = 0 then 0 else c)) := load1_at h9d rfl
                have l12N : loadN 2 (.ptr b12 0) H25 = some (.agg [.int .i64 ((1 + x : Nat) : Int), .int .i64 c2]) := loadN_at (cells := [.int .i64 ((1 + x : Nat) : Int), .int .i64 c2]) h12'
                have hbP9 : (H.put b (tcC room pv Kn2)) b9 = none := by rw [Heap.put_ne n9]; exact hb9H
                have fin : ∀ (a' c' : Int) (H' : Heap), a' = ((if i = 0 then 1 + x else min m (1 + x) : Nat) : Int) → H' = H25.put b9 [.int .i64 a', .int .i64 c'] →
                    (fun L H' => eqt L [] ∧ ∃ (c : Int) (Kn' : List (Int × Int)), TI room pg Kn' ∧ (H.put b (tcC room pv Kn')).le H' ∧ H' b9 = some [.int .i64 ((if i = 0 then 1 + x else min m (1 + x) : Nat) : Int), .int .i64 c] ∧ H' b6 = some [.int .i64 0, .int .i64 0]) ([] : List AV) H' := by
                  rintro a' c' H' rfl rfl
                  exact ⟨rfl, c', Kn2, hti3, Heap.le_put hle26 hbP9, Heap.put_same, by rw [Heap.put_ne n69]; exact h6d⟩
                try simp only [letO_some, l9, b96_0, eqo]
                by_cases hi0 : i = 0
                · have hm := hm0 hi0
                  have e : (((m : Int) == 0) && ((if i = 0 then 0 else c) == 0)) = true := by rw [if_pos hi0, hm]; rfl
                  try simp only [e, gval_bool, Int.reduceBNe, Int.reduceBEq, pickF_true, pickF_false, reduceIte, Bool.true_eq_false, Bool.false_eq_true, if_false, condA_tt, condA_ff, condG_tt, condG_ff, condG_tt', condG_ff', condG_undef, gval_undef, letO_some, l12N]
                  refine storeA_of (cs := [.int .i64 ((1 + x : Nat) : Int), .int .i64 c2]) h9d rfl rfl rfl (by simp) ?_
                  exact fin ((1 + x : Nat) : Int) c2 _ (by rw [if_pos hi0]) rfl
                · have hm := hpos hi0
                  have e : (((m : Int) == 0) && ((if i = 0 then 0 else c) == 0)) = false := by
                    have : ((m : Int) == 0) = false := by rw [beq_eq_false_iff_ne]; omega
                    rw [this]; rfl
                  try simp only [e, gval_bool, Int.reduceBNe, Int.reduceBEq, pickF_true, pickF_false, reduceIte, Bool.true_eq_false, Bool.false_eq_true, if_false, condA_tt, condA_ff, condG_tt, condG_ff, condG_tt', condG_ff', condG_undef, gval_undef, letO_some, f12, f9, l120, l90, binF_lss]
                  by_cases hlt2 : 1 + x < m
                  · have e2 : decide (((1 + x : Nat) : Int) < (m : Int)) = true := decide_eq_true (by omega)
                    try simp only [e2, gval_bool, Int.reduceBNe, Int.reduceBEq, pickF_true, pickF_false, reduceIte, Bool.true_eq_false, Bool.false_eq_true, if_false, condA_tt, condA_ff, condG_tt, condG_ff, condG_tt', condG_ff', condG_undef, gval_undef, letO_some, l12N]
                    refine storeA_of (cs := [.int .i64 ((1 + x : Nat) : Int), .int .i64 c2]) h9d rfl rfl rfl (by simp) ?_
                    exact fin ((1 + x : Nat) : Int) c2 _ (by rw [if_neg hi0]; omega) rfl
                  · have e2 : decide (((1 + x : Nat) : Int) < (m : Int)) = false := decide_eq_false (by omega)
                    try simp only [e2, gval_bool, Int.reduceBNe, Int.reduceBEq, pickF_true, pickF_false, reduceIte, Bool.true_eq_false, Bool.false_eq_true, if_false, condA_tt, condA_ff, condG_tt, condG_ff, condG_tt', condG_ff', condG_undef, gval_undef, letO_some, f12, f9, l120, l90, binF_eql]
                    by_cases heq : 1 + x = m
                    · have e3 : (((1 + x : Nat) : Int) == (m : Int)) = true := by rw [beq_iff_eq]; omega
                      try simp only [e3, condA_tt, letO_some, f91, f121, l91, l121, binF_add]
                      rw [if_neg hi0] at h9d ⊢
                      refine storeA_of (cs := [.int .i64 (IntKind.i64.wrap (c + c2))]) h9d rfl rfl rfl (by simp) ?_
                      exact fin (m : Int) (IntKind.i64.wrap (c + c2)) _ (by rw [if_neg hi0]; omega) rfl
                    · have e3 : (((1 + x : Nat) : Int) == (m : Int)) = false := by rw [beq_eq_false_iff_ne]; omega
                      try simp only [e3, condA_ff]
                      rw [if_neg hi0] at h9d
                      have hmm : min m (1 + x) = m := by omega
                      refine ⟨rfl, c, Kn2, hti3, hle26, ?_, h6d⟩
                      rw [if_neg hi0, hmm]; exact h9d
              · rintro L H23 ⟨rfl, c', Kn2, hti3, hle23, hb9'', hb6''⟩
                try simp only [letO_some, cellsOf?_agg, cellsOf?_int, cellsOf?_bool, cellsOf?_imm, cellsOf?_ref, cellsOf?_nils, faddr_iptr, faddr_ptr, List.drop_succ_cons, List.drop_zero, List.take_succ_cons, List.take_zero, load1_iptr, loadN_iptr, List.length_cons, List.length_nil, Nat.le_refl, if_true, List.getElem?_cons_zero, List.getElem?_cons_succ, List.getD_cons_zero, List.getD_cons_succ, extrF_tup, binF_add, binF_sub, binF_mul, binF_eql, binF_neq, binF_lss, binF_leq, binF_gtr, binF_geq, true_and]
                rw [wrap_i64 (by omega) (by omega)]
                exact ⟨⟨i + 1, c', Kn2, rfl, by omega, hti3, hle23, by rw [if_neg (by omega)]; exact hb9'', hb6''⟩, by simp [iv]; omega⟩
            · have hie : i = (lsN s).length := by omega
              subst hie
              rw [List.take_length] at hb9'
              exact ⟨rfl, _, Kn', hti2, hle22, hb9', hb6'⟩
          · -- there is room
            have hfew : fewF room (p :: pg.drop (t + 1)) s = 1 + fewF room (pg.drop (t + 1)) (s ||| 2 ^ p) := by
              rw [fewF, if_neg (by simp [hbit]), if_pos (by omega)]
            rw [hfew] at hfl ⊢
            rw [decide_eq_false hroom]
            have hs64 := with_ok ⟨s, hs⟩ ⟨p, hpm⟩
            simp only at hs64
            simp only [Bool.not_false, condA_tt, letO_some, binF_add, w1, lsN1]
            refine c72n hs hpm ?_
            refine ih (t + 1) _ (by omega) hs64 hb3 hti hpv9 hoff fun c2 Kn2 hti3 => ?_
            generalize fewF room (pg.drop (t + 1)) (s ||| 2 ^ p) = x at *
            have hle23 : (H.put b (tcC room pv Kn2)).le (H9.put b (tcC room pv Kn2)) := Heap.put_mono hle19
            have h9' : (H9.put b (tcC room pv Kn2)) b9 = _ := (Heap.put_ne n9).trans h9
            have h6' : (H9.put b (tcC room pv Kn2)) b6 = _ := (Heap.put_ne n6).trans h69
            have hbP9 : (H.put b (tcC room pv Kn2)) b9 = none := by rw [Heap.put_ne n9]; exact hb9H
            generalize H9.put b (tcC room pv Kn2) = H23 at *
            refine storeA_of (cs := [.int .i64 (x : Int), .int .i64 c2]) h9' rfl rfl rfl (by simp) ?_
            have hsp : splice [.int .i64 0, .int .i64 0] 0 [.int .i64 (x : Int), .int .i64 c2] = [.int .i64 (x : Int), .int .i64 c2] := rfl
            rw [hsp]
            have l90 : load1 (.ptr b9 0) (H23.put b9 [.int .i64 (x : Int), .int .i64 c2]) = some (.int .i64 (x : Int)) := load1_at Heap.put_same rfl
            have wx : IntKind.i64.wrap ((x : Int) + 1) = ((1 + x : Nat) : Int) := by rw [wrap_i64 (by omega) (by omega)]; omega
            try simp only [letO_some, f9, l90, binF_add, wx]
            refine storeA_of (cs := [.int .i64 ((1 + x : Nat) : Int)]) (cells := [.int .i64 (x : Int), .int .i64 c2]) Heap.put_same rfl rfl rfl (by simp) ?_
            have hsp : splice [.int .i64 (x : Int), .int .i64 c2] 0 [.int .i64 ((1 + x : Nat) : Int)] = [.int .i64 ((1 + x : Nat) : Int), .int .i64 c2] := rfl
            rw [hsp, Heap.put_put]
            exact ⟨rfl, c2, Kn2, hti3, Heap.le_put hle23 hbP9, Heap.put_same, by rw [Heap.put_ne n69]; exact h6'⟩
        · -- the page stands
          have hfew : fewF room (p :: pg.drop (t + 1)) s = fewF room (pg.drop (t + 1)) s := by
            rw [fewF, if_pos hbit]
          rw [hfew] at hfl ⊢
          simp only [condA_tt, letO_some, binF_add, w1, lsN1]
          refine ih (t + 1) _ (by omega) hs hb3 hti hpv9 hoff fun c2 Kn2 hti3 => ?_
          generalize fewF room (pg.drop (t + 1)) s = x at *
          have hle23 : (H.put b (tcC room pv Kn2)).le (H9.put b (tcC room pv Kn2)) := Heap.put_mono hle19
          have h9' : (H9.put b (tcC room pv Kn2)) b9 = _ := (Heap.put_ne n9).trans h9
          have h6' : (H9.put b (tcC room pv Kn2)) b6 = _ := (Heap.put_ne n6).trans h69
          have hbP9 : (H.put b (tcC room pv Kn2)) b9 = none := by rw [Heap.put_ne n9]; exact hb9H
          generalize H9.put b (tcC room pv Kn2) = H23 at *
          refine storeA_of (cs := [.int .i64 (x : Int), .int .i64 c2]) h9' rfl rfl rfl (by simp) ?_
          have hsp : splice [.int .i64 0, .int .i64 0] 0 [.int .i64 (x : Int), .int .i64 c2] = [.int .i64 (x : Int), .int .i64 c2] := rfl
          rw [hsp]
          exact ⟨rfl, c2, Kn2, hti3, Heap.le_put hle23 hbP9, Heap.put_same, by rw [Heap.put_ne n69]; exact h6'⟩
      · rintro L H33 ⟨rfl, c, Kn', hti2, hle33, hb9', hb6'⟩
        have hb33 : H33 b = some (tcC room pv Kn') := hle33 _ _ Heap.put_same
        have l9 : loadN 2 (.ptr b9 0) H33 = some (.agg (prI (((fewF room (p :: pg.drop (t + 1)) s : Nat) : Int), c))) := loadN_at (cells := prI (((fewF room (p :: pg.drop (t + 1)) s : Nat) : Int), c)) hb9'
        try simp only [letO_some, true_and, n1, f2, fs, ls1, i12, i64', l9]
        refine storeA_of (cs := prI (((fewF room (p :: pg.drop (t + 1)) s : Nat) : Int), c)) hb33 rfl rfl rfl (by rw [tcC_len, hti2.len]; simp [prI]; omega) ?_
        rw [tcC_set (by rw [hti2.len]; omega)]
        have hti4 := hti' c hti2
        generalize Kn'.set (t * 64 + s) (((fewF room (p :: pg.drop (t + 1)) s : Nat) : Int), c) = Kn4 at *
        have hle4 : (H.put b (tcC room pv Kn4)).le (H33.put b (tcC room pv Kn4)) := by
          have := Heap.put_mono (b := b) (cs := tcC room pv Kn4) hle33
          rwa [Heap.put_put] at this
        have h9' : (H33.put b (tcC room pv Kn4)) b9 = _ := (Heap.put_ne n9).trans hb9'
        have h6' : (H33.put b (tcC room pv Kn4)) b6 = _ := (Heap.put_ne n6).trans hb6'
        have hbP6 : (H.put b (tcC room pv Kn4)) b6 = none := by rw [Heap.put_ne n6]; exact hb6H
        generalize H33.put b (tcC room pv Kn4) = H34 at *
        have l9 : loadN 2 (.ptr b9 0) H34 = some (.agg (prI (((fewF room (p :: pg.drop (t + 1)) s : Nat) : Int), c))) := loadN_at (cells := prI (((fewF room (p :: pg.drop (t + 1)) s : Nat) : Int), c)) h9'
        try simp only [letO_some, l9]
        refine storeA_of (cs := prI (((fewF room (p :: pg.drop (t + 1)) s : Nat) : Int), c)) h6' rfl rfl rfl (by simp [prI]) ?_
        have hsp : splice [.int .i64 0, .int .i64 0] 0 (prI (((fewF room (p :: pg.drop (t + 1)) s : Nat) : Int), c)) = prI (((fewF room (p :: pg.drop (t + 1)) s : Nat) : Int), c) := rfl
        rw [hsp]
        have l6 : loadN 2 (.ptr b6 0) (H34.put b6 (prI (((fewF room (p :: pg.drop (t + 1)) s : Nat) : Int), c))) = some (.agg (prI (((fewF room (p :: pg.drop (t + 1)) s : Nat) : Int), c))) := loadN_at (cells := prI (((fewF room (p :: pg.drop (t + 1)) s : Nat) : Int), c)) Heap.put_same
        try simp only [letO_some, l6]
        exact endK_pub (Pub.drop (Heap.le_put hle4 hbP6)) (endK_ret (hk c Kn4 hti4))
    · have : (!((kp.1 == 0) && (kp.2 == 0))) = true := by
        obtain ⟨x, y⟩ := kp
        simp only [Bool.not_eq_true', Bool.and_eq_false_iff, beq_eq_false_iff_ne]
        by_cases hx : x = 0
        · subst hx
          right
          rintro rfl
          exact hz rfl
        · exact .inl hx
      simp only [this, condA_tt, letO_some, l7]
      refine storeA_of (cs := prI kp) h67 rfl rfl rfl (by simp [prI]) ?_
      have hsp : splice [.int .i64 0, .int .i64 0] 0 (prI kp) = prI kp := rfl
      rw [hsp]
      have l6 : loadN 2 (.ptr b6 0) (H7.put b6 (prI kp)) = some (.agg (prI kp)) := loadN_at (cells := prI kp) Heap.put_same
      simp only [l6, letO_some]
      have hk2 := hk kp.2 Kn hti
      rw [put_eq hb, ← hok hz] at hk2
      exact endK_pub (Pub.drop (Heap.le_put hle17 hb6H)) (endK_ret hk2)
end Go.Proofs.YtmmfelpgcdlgfaaDoor
