import Derived.Test.YtbofkeoebnjjkaaDoorLNamedP2
import Derived.Test.YtbofkeoebnjjkaaDoorConB
import Derived.Test.YtbofkeoebnjjkaaDoorBase
import Derived.Test.YtbofkeoebnjjkaaDoorAvB
import Derived.Test.YtbofkeoebnjjkaaDoorRows
import Derived.MakeChecks
import Derived.LaidLaws
import Derived.Deep.DeepLaidRun
import Derived.LaidHandle
import Derived.Test.YtbofkeoebnjjkaaDoorTie
import Derived.Test.YtbofkeoebnjjkaaDoorCards
import Derived.SevenTiedAt
/- TableNamed: for every input the law returns true, and the input reads as before. No conditions. -/
namespace Go.Proofs.YtbofkeoebnjjkaaDoor
open Go.Av Tab
set_option linter.unusedVariables false
set_option linter.unusedSimpArgs false
set_option maxRecDepth 4000

/-- TableNamed -/
theorem c12 {g : List Nat} {rr cc : Nat} {H : Heap} {K : AV → Heap → Prop} (hg : Led g) (hr8 : rr < 256) (hc8 : cc < 256) (hk : K (.bool true) H) : ACalls Tryd.prog 12 [.agg (u8s g), .int .u8 (rr : Int), .int .u8 (cc : Int)] H K := by
  apply W12_ok
  unfold W12
  have hb := gsz_bd g
  simp only [letO_some, cellsOf?_agg, cellsOf?_int, cellsOf?_bool, cellsOf?_imm, cellsOf?_ref, cellsOf?_nils, faddr_iptr, faddr_ptr, List.drop_succ_cons, List.drop_zero, List.take_succ_cons, List.take_zero, load1_iptr, loadN_iptr, List.length_cons, List.length_nil, Nat.le_refl, if_true, List.getElem?_cons_zero, List.getElem?_cons_succ, List.getD_cons_zero, List.getD_cons_succ, extrF_tup, binF_add, binF_sub, binF_mul, binF_eql, binF_neq, binF_lss, binF_leq, binF_gtr, binF_geq, true_and, hg.all]
  refine c44 (most := 5) hg ⟨by omega, by omega⟩ ?_
  have hk5 : evenN g 5 ≤ 5 := by have := Nat.mod_lt (gv g 1) (show 5 + 1 > 0 by omega); unfold evenN; omega
  have hchk : chkT (evenT g 5) = 0 := evenK_chk g (by omega)
  have hlen : (evenT g 5).length = gsz g := evenK_len g _
  have hvl := (RT.tl H (evenT g 5)).len
  simp only [letO_some, cellsOf?_agg, cellsOf?_int, cellsOf?_bool, cellsOf?_imm, cellsOf?_ref, cellsOf?_nils, faddr_iptr, faddr_ptr, List.drop_succ_cons, List.drop_zero, List.take_succ_cons, List.take_zero, load1_iptr, loadN_iptr, List.length_cons, List.length_nil, Nat.le_refl, if_true, List.getElem?_cons_zero, List.getElem?_cons_succ, List.getD_cons_zero, List.getD_cons_succ, extrF_tup, binF_add, binF_sub, binF_mul, binF_eql, binF_neq, binF_lss, binF_leq, binF_gtr, binF_geq, true_and, hvl, hlen]
  refine c45 hb ?_
  have hpos := plansS_pos hb
  have hPl := plansS_len hb.2
  have hPlen : ((plansS (gsz g)).map up).length = (plansS (gsz g)).length := by simp
  have hPL : ∀ H : Heap, lenA (tl ((plansS (gsz g)).map up)) = some (.int .i64 (plansS (gsz g)).length) := fun H => by rw [(RT.tl H _).len, hPlen]
  have hrm1 := rem_nat (k := .i64) (t := 3) (a := rr) (b := (plansS (gsz g)).length) (by omega)
  have hrm2 := rem_nat (k := .i64) (t := 3) (a := cc) (b := (plansS (gsz g)).length) (by omega)
  have hm1 := Nat.mod_lt rr hpos
  have hm2 := Nat.mod_lt cc hpos
  obtain ⟨p, hp, hpe⟩ : ∃ p, p ∈ plansS (gsz g) ∧ ((plansS (gsz g)).map up)[rr % (plansS (gsz g)).length]? = some (up p) := ⟨_, getD_mem (d := []) hm1, by rw [List.getElem?_map, List.getElem?_eq_getElem hm1, List.getD_eq_getElem?_getD, List.getElem?_eq_getElem hm1]; rfl⟩
  obtain ⟨q, hq, hqe⟩ : ∃ q, q ∈ plansS (gsz g) ∧ ((plansS (gsz g)).map up)[cc % (plansS (gsz g)).length]? = some (up q) := ⟨_, getD_mem (d := []) hm2, by rw [List.getElem?_map, List.getElem?_eq_getElem hm2, List.getD_eq_getElem?_getD, List.getElem?_eq_getElem hm2]; rfl⟩
  have hgp : ∀ {m : Nat} {p : List Nat} (kk : AV → Prop), m < (plansS (gsz g)).length → ((plansS (gsz g)).map up)[m]? = some (up p) → kk (sl (up p)) → letO (idx 1 (tl ((plansS (gsz g)).map up)) (.int .i64 (m : Int))) fun q => letO (load1 q H) kk := by
    intro m p kk hm hmp hkk
    refine ReadsC.get (Heap.le_refl H) (n := (plansS (gsz g)).length) (cells := ((plansS (gsz g)).map up).map sl) ⟨by simp, by simp [tl]⟩ (x := sl (up p)) (by omega) (by omega) ?_ hkk
    rw [Int.toNat_natCast, List.getElem?_map, hmp]; rfl
  simp only [letO_some, cellsOf?_agg, cellsOf?_int, cellsOf?_bool, cellsOf?_imm, cellsOf?_ref, cellsOf?_nils, faddr_iptr, faddr_ptr, List.drop_succ_cons, List.drop_zero, List.take_succ_cons, List.take_zero, load1_iptr, loadN_iptr, List.length_cons, List.length_nil, Nat.le_refl, if_true, List.getElem?_cons_zero, List.getElem?_cons_succ, List.getD_cons_zero, List.getD_cons_succ, extrF_tup, binF_add, binF_sub, binF_mul, binF_eql, binF_neq, binF_lss, binF_leq, binF_gtr, binF_geq, true_and, conv53 (show (0 : Int) ≤ rr ∧ (rr : Int) < 256 by omega), conv53 (show (0 : Int) ≤ cc ∧ (cc : Int) < 256 by omega), hPL H, hrm1, hrm2]
  refine hgp _ hm1 hpe ?_
  refine hgp _ hm2 hqe ?_
  try simp only [letO_some, cellsOf?_agg, cellsOf?_int, cellsOf?_bool, cellsOf?_imm, cellsOf?_ref, cellsOf?_nils, faddr_iptr, faddr_ptr, List.drop_succ_cons, List.drop_zero, List.take_succ_cons, List.take_zero, load1_iptr, loadN_iptr, List.length_cons, List.length_nil, Nat.le_refl, if_true, List.getElem?_cons_zero, List.getElem?_cons_succ, List.getD_cons_zero, List.getD_cons_succ, extrF_tup, binF_add, binF_sub, binF_mul, binF_eql, binF_neq, binF_lss, binF_leq, binF_gtr, binF_geq, true_and, hg.all]
  refine c54 hg ?_
  have hchk2 := freeT_chk g
  have hlen2 := freeT_length g
  clear hgp hpe hqe hm1 hm2 hrm1 hrm2 hPL hPlen hvl
  generalize evenT g 5 = t at *
  generalize freeT g = u at *
  generalize gsz g = n at *
  have hsl : ∀ {t : Tb}, chkT t = 0 → ∀ l ∈ t, l.length < 2 ^ 63 := fun {t} hchk l hl => Nat.lt_of_le_of_lt (Nat.le_trans (Nat.le_of_eq ((chkT_ok hchk).2.2 l hl).1) (chkT_ok hchk).2.1) (by decide)
  have h2l : ∀ c : List AV, lenA (.imm 2 true c) = some (.int .i64 2) := fun c => rfl
  have hpm := plansS_mem hp
  have hqm := plansS_mem hq
  simp only [l72 (show cellsOf? (tl t) = some [tl t] from rfl) (show cellsOf? (tl u) = some [tl u] from rfl), letO_some, h2l]
  refine ⟨fun L H' => ∃ i : Nat, eqt L [.int .i64 i] ∧ i ≤ 2 ∧ H.le H', fun L _ => (2 - iv L 0).toNat, ⟨0, rfl, by omega, Heap.le_refl _⟩, ?_⟩
  rintro L Ha ⟨i, rfl, hi, hla⟩
  try simp only [letO_some, cellsOf?_agg, cellsOf?_int, cellsOf?_bool, cellsOf?_imm, cellsOf?_ref, cellsOf?_nils, faddr_iptr, faddr_ptr, List.drop_succ_cons, List.drop_zero, List.take_succ_cons, List.take_zero, load1_iptr, loadN_iptr, List.length_cons, List.length_nil, Nat.le_refl, if_true, List.getElem?_cons_zero, List.getElem?_cons_succ, List.getD_cons_zero, List.getD_cons_succ, extrF_tup, binF_add, binF_sub, binF_mul, binF_eql, binF_neq, binF_lss, binF_leq, binF_gtr, binF_geq, true_and]
  refine condA_t (fun hlt => ?_) (fun hge => ?_)
  · have a1 : i < 2 := by omega
    obtain ⟨x, hx1, hx2, hxe⟩ : ∃ x : Tb, chkT x = 0 ∧ x.length = n ∧ ([tl t, tl u] : List AV)[i]? = some (tl x) := by
      have : i = 0 ∨ i = 1 := by omega
      rcases this with rfl | rfl
      · exact ⟨t, hchk, hlen, rfl⟩
      · exact ⟨u, hchk2, hlen2, rfl⟩
    refine ReadsC.get (v := .imm 2 true [tl t, tl u]) (Heap.le_refl Ha) (n := 2) (cells := [tl t, tl u]) ⟨rfl, rfl, rfl⟩ (x := tl x) (by omega) (by omega) (by rw [Int.toNat_natCast]; exact hxe) ?_
    try simp only [letO_some, cellsOf?_agg, cellsOf?_int, cellsOf?_bool, cellsOf?_imm, cellsOf?_ref, cellsOf?_nils, faddr_iptr, faddr_ptr, List.drop_succ_cons, List.drop_zero, List.take_succ_cons, List.take_zero, load1_iptr, loadN_iptr, List.length_cons, List.length_nil, Nat.le_refl, if_true, List.getElem?_cons_zero, List.getElem?_cons_succ, List.getD_cons_zero, List.getD_cons_succ, extrF_tup, binF_add, binF_sub, binF_mul, binF_eql, binF_neq, binF_lss, binF_leq, binF_gtr, binF_geq, true_and]
    have hxs := sq_of hx1 hx2
    have hx63 := hsl hx1
    have imv := inv_mv hx1 hx2 hp hq
    have itr := inv_turn hx1 hx2
    refine c49 ⟨hb.1, by omega⟩ fun bo cells Hb hP => ?_
    rw [← mvP_zero n p q x] at hP
    try simp only [letO_some, cellsOf?_agg, cellsOf?_int, cellsOf?_bool, cellsOf?_imm, cellsOf?_ref, cellsOf?_nils, faddr_iptr, faddr_ptr, List.drop_succ_cons, List.drop_zero, List.take_succ_cons, List.take_zero, load1_iptr, loadN_iptr, List.length_cons, List.length_nil, Nat.le_refl, if_true, List.getElem?_cons_zero, List.getElem?_cons_succ, List.getD_cons_zero, List.getD_cons_succ, extrF_tup, binF_add, binF_sub, binF_mul, binF_eql, binF_neq, binF_lss, binF_leq, binF_gtr, binF_geq, true_and]
    refine ⟨fun L H' => ∃ r : Nat, eqt L [.int .i64 r] ∧ r ≤ n ∧ PT Ha H' bo cells (mvP n p q x r 0), fun L _ => (n - iv L 0).toNat, ⟨0, rfl, by omega, hP⟩, ?_⟩
    rintro L Hc ⟨r, rfl, hr, hP⟩
    try simp only [letO_some, cellsOf?_agg, cellsOf?_int, cellsOf?_bool, cellsOf?_imm, cellsOf?_ref, cellsOf?_nils, faddr_iptr, faddr_ptr, List.drop_succ_cons, List.drop_zero, List.take_succ_cons, List.take_zero, load1_iptr, loadN_iptr, List.length_cons, List.length_nil, Nat.le_refl, if_true, List.getElem?_cons_zero, List.getElem?_cons_succ, List.getD_cons_zero, List.getD_cons_succ, extrF_tup, binF_add, binF_sub, binF_mul, binF_eql, binF_neq, binF_lss, binF_leq, binF_gtr, binF_geq, true_and]
    refine condA_t (fun hlt2 => ?_) (fun hge2 => ?_)
    · have b1 : r < n := by omega
      refine ⟨fun L H' => ∃ c : Nat, eqt L [.int .i64 c] ∧ c ≤ n ∧ PT Ha H' bo cells (mvP n p q x r c), fun L _ => (n - iv L 0).toNat, ⟨0, rfl, by omega, hP⟩, ?_⟩
      rintro L Hd ⟨c, rfl, hc, hP⟩
      try simp only [letO_some, cellsOf?_agg, cellsOf?_int, cellsOf?_bool, cellsOf?_imm, cellsOf?_ref, cellsOf?_nils, faddr_iptr, faddr_ptr, List.drop_succ_cons, List.drop_zero, List.take_succ_cons, List.take_zero, load1_iptr, loadN_iptr, List.length_cons, List.length_nil, Nat.le_refl, if_true, List.getElem?_cons_zero, List.getElem?_cons_succ, List.getD_cons_zero, List.getD_cons_succ, extrF_tup, binF_add, binF_sub, binF_mul, binF_eql, binF_neq, binF_lss, binF_leq, binF_gtr, binF_geq, true_and]
      refine condA_t (fun hlt3 => ?_) (fun hge3 => ?_)
      · have c1 : c < n := by omega
        have hpr : p.getD r 0 < n := hpm.2 _ (getD_mem (by rw [hpm.1]; exact b1))
        have hqc : q.getD c 0 < n := hqm.2 _ (getD_mem (by rw [hqm.1]; exact c1))
        have hsm := tab_sq n (fun r' c' => if p.idxOf r' < r ∨ (p.idxOf r' = r ∧ q.idxOf c' < c) then cell x (p.idxOf r') (q.idxOf c') else 0)
        have hml : (mvP n p q x r c).length = n := hsm.len
        obtain ⟨w, z, q1, q2, q3, q4, q5⟩ := PT.cell none hP (r := p.getD r 0) (c := q.getD c 0) (by rw [hml]; exact hpr) (by rw [show ((mvP n p q x r c).getD (p.getD r 0) []).length = n from hsm.rowl _ hpr]; exact hqc)
        rw [hml] at q1
        refine (Reads.sl Hd (up p)).get (Heap.le_refl _) (by omega) (by rw [up_length, hpm.1]; omega) ?_
        rw [Int.toNat_natCast, up_getD]
        simp only [letO_some, cellsOf?_agg, cellsOf?_int, cellsOf?_bool, cellsOf?_imm, cellsOf?_ref, cellsOf?_nils, faddr_iptr, faddr_ptr, List.drop_succ_cons, List.drop_zero, List.take_succ_cons, List.take_zero, load1_iptr, loadN_iptr, List.length_cons, List.length_nil, Nat.le_refl, if_true, List.getElem?_cons_zero, List.getElem?_cons_succ, List.getD_cons_zero, List.getD_cons_succ, extrF_tup, binF_add, binF_sub, binF_mul, binF_eql, binF_neq, binF_lss, binF_leq, binF_gtr, binF_geq, true_and, q1, q2]
        refine (Reads.sl Hd (up q)).get (Heap.le_refl _) (by omega) (by rw [up_length, hqm.1]; omega) ?_
        rw [Int.toNat_natCast, up_getD]
        try simp only [letO_some, cellsOf?_agg, cellsOf?_int, cellsOf?_bool, cellsOf?_imm, cellsOf?_ref, cellsOf?_nils, faddr_iptr, faddr_ptr, List.drop_succ_cons, List.drop_zero, List.take_succ_cons, List.take_zero, load1_iptr, loadN_iptr, List.length_cons, List.length_nil, Nat.le_refl, if_true, List.getElem?_cons_zero, List.getElem?_cons_succ, List.getD_cons_zero, List.getD_cons_succ, extrF_tup, binF_add, binF_sub, binF_mul, binF_eql, binF_neq, binF_lss, binF_leq, binF_gtr, binF_geq, true_and]
        refine (RT.tl Hd x).get (Heap.le_refl _) (by omega) (by omega) fun a ha => ?_
        rw [Int.toNat_natCast, show x.getD r [] = row x r from rfl] at ha
        try simp only [letO_some, cellsOf?_agg, cellsOf?_int, cellsOf?_bool, cellsOf?_imm, cellsOf?_ref, cellsOf?_nils, faddr_iptr, faddr_ptr, List.drop_succ_cons, List.drop_zero, List.take_succ_cons, List.take_zero, load1_iptr, loadN_iptr, List.length_cons, List.length_nil, Nat.le_refl, if_true, List.getElem?_cons_zero, List.getElem?_cons_succ, List.getD_cons_zero, List.getD_cons_succ, extrF_tup, binF_add, binF_sub, binF_mul, binF_eql, binF_neq, binF_lss, binF_leq, binF_gtr, binF_geq, true_and]
        refine ha.get (Heap.le_refl _) (by omega) (by rw [hxs.rowl r b1]; omega) ?_
        rw [Int.toNat_natCast, show (row x r).getD c 0 = cell x r c from rfl]
        simp only [letO_some, cellsOf?_agg, cellsOf?_int, cellsOf?_bool, cellsOf?_imm, cellsOf?_ref, cellsOf?_nils, faddr_iptr, faddr_ptr, List.drop_succ_cons, List.drop_zero, List.take_succ_cons, List.take_zero, load1_iptr, loadN_iptr, List.length_cons, List.length_nil, Nat.le_refl, if_true, List.getElem?_cons_zero, List.getElem?_cons_succ, List.getD_cons_zero, List.getD_cons_succ, extrF_tup, binF_add, binF_sub, binF_mul, binF_eql, binF_neq, binF_lss, binF_leq, binF_gtr, binF_geq, true_and, q3]
        refine q5 _ _ fun He hPe => ?_
        rw [mvP_step hb.2 hp hq b1 c1] at hPe
        rw [wrap_i64 (by omega) (by omega)]
        exact ⟨⟨c + 1, rfl, by omega, hPe⟩, by simp <;> omega⟩
      · have hce : c = n := by omega
        subst hce
        rw [mvP_next hb.2 hq] at hP
        rw [wrap_i64 (by omega) (by omega)]
        exact ⟨⟨r + 1, rfl, by omega, hP⟩, by simp <;> omega⟩
    have hre : r = n := by omega
    subst hre
    rw [mvP_end hb.2 hp] at hP
    have hRM := hP.rt none
    rw [imv.ly] at hRM
    have hlc := Heap.le_trans hla hP.le
    clear hge2 hr
    try simp only [letO_some, cellsOf?_agg, cellsOf?_int, cellsOf?_bool, cellsOf?_imm, cellsOf?_ref, cellsOf?_nils, faddr_iptr, faddr_ptr, List.drop_succ_cons, List.drop_zero, List.take_succ_cons, List.take_zero, load1_iptr, loadN_iptr, List.length_cons, List.length_nil, Nat.le_refl, if_true, List.getElem?_cons_zero, List.getElem?_cons_succ, List.getD_cons_zero, List.getD_cons_succ, extrF_tup, binF_add, binF_sub, binF_mul, binF_eql, binF_neq, binF_lss, binF_leq, binF_gtr, binF_geq, true_and]
    refine c27 (RT.tl _ _) (by omega) hx63 ?_
    have htn : (if chkT x ≠ 0 then [] else turnE x) = turnE x := by rw [if_neg (by simp [hx1])]
    have hts := sq_of itr.cy itr.ly
    have htl := (RT.tl H (turnE x)).len
    rw [itr.ly] at htl
    rw [htn, hx1]
    simp only [letO_some, cellsOf?_agg, cellsOf?_int, cellsOf?_bool, cellsOf?_imm, cellsOf?_ref, cellsOf?_nils, faddr_iptr, faddr_ptr, List.drop_succ_cons, List.drop_zero, List.take_succ_cons, List.take_zero, load1_iptr, loadN_iptr, List.length_cons, List.length_nil, Nat.le_refl, if_true, List.getElem?_cons_zero, List.getElem?_cons_succ, List.getD_cons_zero, List.getD_cons_succ, extrF_tup, binF_add, binF_sub, binF_mul, binF_eql, binF_neq, binF_lss, binF_leq, binF_gtr, binF_geq, true_and, gval_bool, Int.reduceBNe, Int.reduceBEq, pickF_true, pickF_false, reduceIte, Bool.true_eq_false, Bool.false_eq_true, if_false, condA_tt, condA_ff, condG_tt, condG_ff, condG_tt', condG_ff', condG_undef, gval_undef, bne_self_eq_false, htl]
    refine ⟨fun L H' => ∃ k : Nat, eqt L [.int .i64 k] ∧ k ≤ r ∧ eqt H' Hc, fun L _ => (r - iv L 0).toNat, ⟨0, rfl, by omega, rfl⟩, ?_⟩
    rintro L Hd ⟨k, rfl, hk', rfl⟩
    try simp only [letO_some, cellsOf?_agg, cellsOf?_int, cellsOf?_bool, cellsOf?_imm, cellsOf?_ref, cellsOf?_nils, faddr_iptr, faddr_ptr, List.drop_succ_cons, List.drop_zero, List.take_succ_cons, List.take_zero, load1_iptr, loadN_iptr, List.length_cons, List.length_nil, Nat.le_refl, if_true, List.getElem?_cons_zero, List.getElem?_cons_succ, List.getD_cons_zero, List.getD_cons_succ, extrF_tup, binF_add, binF_sub, binF_mul, binF_eql, binF_neq, binF_lss, binF_leq, binF_gtr, binF_geq, true_and]
    refine condA_t (fun hlt2 => ?_) (fun hge2 => ?_)
    · have b1 : k < r := by omega
      refine (RT.tl Hd (turnE x)).get (Heap.le_refl _) (by omega) (by rw [itr.ly]; omega) fun a ha => ?_
      rw [Int.toNat_natCast, show (turnE x).getD k [] = row (turnE x) k from rfl] at ha
      simp only [letO_some, cellsOf?_agg, cellsOf?_int, cellsOf?_bool, cellsOf?_imm, cellsOf?_ref, cellsOf?_nils, faddr_iptr, faddr_ptr, List.drop_succ_cons, List.drop_zero, List.take_succ_cons, List.take_zero, load1_iptr, loadN_iptr, List.length_cons, List.length_nil, Nat.le_refl, if_true, List.getElem?_cons_zero, List.getElem?_cons_succ, List.getD_cons_zero, List.getD_cons_succ, extrF_tup, binF_add, binF_sub, binF_mul, binF_eql, binF_neq, binF_lss, binF_leq, binF_gtr, binF_geq, true_and, ha.len, hts.rowl k b1, bne_self_eq_false, condA_ff]
      refine ⟨fun L H' => ∃ c : Nat, eqt L [.int .i64 c] ∧ c ≤ r ∧ eqt H' Hd, fun L _ => (r - iv L 0).toNat, ⟨0, rfl, by omega, rfl⟩, ?_⟩
      rintro L He ⟨c, rfl, hc, rfl⟩
      try simp only [letO_some, cellsOf?_agg, cellsOf?_int, cellsOf?_bool, cellsOf?_imm, cellsOf?_ref, cellsOf?_nils, faddr_iptr, faddr_ptr, List.drop_succ_cons, List.drop_zero, List.take_succ_cons, List.take_zero, load1_iptr, loadN_iptr, List.length_cons, List.length_nil, Nat.le_refl, if_true, List.getElem?_cons_zero, List.getElem?_cons_succ, List.getD_cons_zero, List.getD_cons_succ, extrF_tup, binF_add, binF_sub, binF_mul, binF_eql, binF_neq, binF_lss, binF_leq, binF_gtr, binF_geq, true_and]
      refine condA_t (fun hlt3 => ?_) (fun hge3 => ?_)
      · have c1 : c < r := by omega
        refine (RT.tl He (turnE x)).get (Heap.le_refl _) (by omega) (by rw [itr.ly]; omega) fun a2 ha2 => ?_
        rw [Int.toNat_natCast, show (turnE x).getD k [] = row (turnE x) k from rfl] at ha2
        try simp only [letO_some, cellsOf?_agg, cellsOf?_int, cellsOf?_bool, cellsOf?_imm, cellsOf?_ref, cellsOf?_nils, faddr_iptr, faddr_ptr, List.drop_succ_cons, List.drop_zero, List.take_succ_cons, List.take_zero, load1_iptr, loadN_iptr, List.length_cons, List.length_nil, Nat.le_refl, if_true, List.getElem?_cons_zero, List.getElem?_cons_succ, List.getD_cons_zero, List.getD_cons_succ, extrF_tup, binF_add, binF_sub, binF_mul, binF_eql, binF_neq, binF_lss, binF_leq, binF_gtr, binF_geq, true_and]
        refine ha2.get (Heap.le_refl _) (by omega) (by rw [hts.rowl k b1]; omega) ?_
        rw [Int.toNat_natCast, show (row (turnE x) k).getD c 0 = cell (turnE x) k c from rfl]
        try simp only [letO_some, cellsOf?_agg, cellsOf?_int, cellsOf?_bool, cellsOf?_imm, cellsOf?_ref, cellsOf?_nils, faddr_iptr, faddr_ptr, List.drop_succ_cons, List.drop_zero, List.take_succ_cons, List.take_zero, load1_iptr, loadN_iptr, List.length_cons, List.length_nil, Nat.le_refl, if_true, List.getElem?_cons_zero, List.getElem?_cons_succ, List.getD_cons_zero, List.getD_cons_succ, extrF_tup, binF_add, binF_sub, binF_mul, binF_eql, binF_neq, binF_lss, binF_leq, binF_gtr, binF_geq, true_and]
        refine (RT.tl He x).get (Heap.le_refl _) (by omega) (by omega) fun a3 ha3 => ?_
        rw [Int.toNat_natCast, show x.getD c [] = row x c from rfl] at ha3
        try simp only [letO_some, cellsOf?_agg, cellsOf?_int, cellsOf?_bool, cellsOf?_imm, cellsOf?_ref, cellsOf?_nils, faddr_iptr, faddr_ptr, List.drop_succ_cons, List.drop_zero, List.take_succ_cons, List.take_zero, load1_iptr, loadN_iptr, List.length_cons, List.length_nil, Nat.le_refl, if_true, List.getElem?_cons_zero, List.getElem?_cons_succ, List.getD_cons_zero, List.getD_cons_succ, extrF_tup, binF_add, binF_sub, binF_mul, binF_eql, binF_neq, binF_lss, binF_leq, binF_gtr, binF_geq, true_and]
        refine ha3.get (Heap.le_refl _) (by omega) (by rw [hxs.rowl c c1]; omega) ?_
        rw [Int.toNat_natCast, show (row x c).getD k 0 = cell x c k from rfl, turnE_tab hx2, tab_cell b1 c1]
        simp only [letO_some, cellsOf?_agg, cellsOf?_int, cellsOf?_bool, cellsOf?_imm, cellsOf?_ref, cellsOf?_nils, faddr_iptr, faddr_ptr, List.drop_succ_cons, List.drop_zero, List.take_succ_cons, List.take_zero, load1_iptr, loadN_iptr, List.length_cons, List.length_nil, Nat.le_refl, if_true, List.getElem?_cons_zero, List.getElem?_cons_succ, List.getD_cons_zero, List.getD_cons_succ, extrF_tup, binF_add, binF_sub, binF_mul, binF_eql, binF_neq, binF_lss, binF_leq, binF_gtr, binF_geq, true_and, bne_self_eq_false, condA_ff]
        rw [wrap_i64 (by omega) (by omega)]
        exact ⟨⟨c + 1, rfl, by omega, rfl⟩, by simp <;> omega⟩
      · rw [wrap_i64 (by omega) (by omega)]
        exact ⟨⟨k + 1, rfl, by omega, rfl⟩, by simp <;> omega⟩
    clear hge2 hk'
    simp only [l72 (show cellsOf? (.ref 1 bo 0 r none) = some [.ref 1 bo 0 r none] from rfl) (show cellsOf? (tl (turnE x)) = some [tl (turnE x)] from rfl), letO_some, h2l]
    refine ⟨fun L H' => ∃ k : Nat, eqt L [.int .i64 k] ∧ k ≤ 2 ∧ eqt H' Hd, fun L _ => (2 - iv L 0).toNat, ⟨0, rfl, by omega, rfl⟩, ?_⟩
    rintro L He ⟨k, rfl, hk', rfl⟩
    try simp only [letO_some, cellsOf?_agg, cellsOf?_int, cellsOf?_bool, cellsOf?_imm, cellsOf?_ref, cellsOf?_nils, faddr_iptr, faddr_ptr, List.drop_succ_cons, List.drop_zero, List.take_succ_cons, List.take_zero, load1_iptr, loadN_iptr, List.length_cons, List.length_nil, Nat.le_refl, if_true, List.getElem?_cons_zero, List.getElem?_cons_succ, List.getD_cons_zero, List.getD_cons_succ, extrF_tup, binF_add, binF_sub, binF_mul, binF_eql, binF_neq, binF_lss, binF_leq, binF_gtr, binF_geq, true_and]
    refine condA_t (fun hlt2 => ?_) (fun hge2 => ?_)
    · have b1 : k < 2 := by omega
      obtain ⟨y, V, hV, iy, hye⟩ : ∃ (y : Tb) (V : AV), RT He V y ∧ Inv r x y ∧ ([.ref 1 bo 0 r none, tl (turnE x)] : List AV)[k]? = some V := by
        have : k = 0 ∨ k = 1 := by omega
        rcases this with rfl | rfl
        · exact ⟨_, _, hRM, imv, rfl⟩
        · exact ⟨_, _, RT.tl _ _, itr, rfl⟩
      refine ReadsC.get (v := .imm 2 true [.ref 1 bo 0 r none, tl (turnE x)]) (Heap.le_refl He) (n := 2) (cells := [.ref 1 bo 0 r none, tl (turnE x)]) ⟨rfl, rfl, rfl⟩ (x := V) (by omega) (by omega) (by rw [Int.toNat_natCast]; exact hye) ?_
      have hyl : y.length < 2 ^ 63 := by rw [iy.ly]; omega
      have hy63 := hsl iy.cy
      try simp only [letO_some, cellsOf?_agg, cellsOf?_int, cellsOf?_bool, cellsOf?_imm, cellsOf?_ref, cellsOf?_nils, faddr_iptr, faddr_ptr, List.drop_succ_cons, List.drop_zero, List.take_succ_cons, List.take_zero, load1_iptr, loadN_iptr, List.length_cons, List.length_nil, Nat.le_refl, if_true, List.getElem?_cons_zero, List.getElem?_cons_succ, List.getD_cons_zero, List.getD_cons_succ, extrF_tup, binF_add, binF_sub, binF_mul, binF_eql, binF_neq, binF_lss, binF_leq, binF_gtr, binF_geq, true_and]
      refine c22 (RT.tl _ _) (by omega) hx63 ?_
      try simp only [letO_some, cellsOf?_agg, cellsOf?_int, cellsOf?_bool, cellsOf?_imm, cellsOf?_ref, cellsOf?_nils, faddr_iptr, faddr_ptr, List.drop_succ_cons, List.drop_zero, List.take_succ_cons, List.take_zero, load1_iptr, loadN_iptr, List.length_cons, List.length_nil, Nat.le_refl, if_true, List.getElem?_cons_zero, List.getElem?_cons_succ, List.getD_cons_zero, List.getD_cons_succ, extrF_tup, binF_add, binF_sub, binF_mul, binF_eql, binF_neq, binF_lss, binF_leq, binF_gtr, binF_geq, true_and]
      refine c22 hV hyl hy63 ?_
      try simp only [letO_some, cellsOf?_agg, cellsOf?_int, cellsOf?_bool, cellsOf?_imm, cellsOf?_ref, cellsOf?_nils, faddr_iptr, faddr_ptr, List.drop_succ_cons, List.drop_zero, List.take_succ_cons, List.take_zero, load1_iptr, loadN_iptr, List.length_cons, List.length_nil, Nat.le_refl, if_true, List.getElem?_cons_zero, List.getElem?_cons_succ, List.getD_cons_zero, List.getD_cons_succ, extrF_tup, binF_add, binF_sub, binF_mul, binF_eql, binF_neq, binF_lss, binF_leq, binF_gtr, binF_geq, true_and]
      refine c25 (RT.tl _ _) (by omega) hx63 ?_
      try simp only [letO_some, cellsOf?_agg, cellsOf?_int, cellsOf?_bool, cellsOf?_imm, cellsOf?_ref, cellsOf?_nils, faddr_iptr, faddr_ptr, List.drop_succ_cons, List.drop_zero, List.take_succ_cons, List.take_zero, load1_iptr, loadN_iptr, List.length_cons, List.length_nil, Nat.le_refl, if_true, List.getElem?_cons_zero, List.getElem?_cons_succ, List.getD_cons_zero, List.getD_cons_succ, extrF_tup, binF_add, binF_sub, binF_mul, binF_eql, binF_neq, binF_lss, binF_leq, binF_gtr, binF_geq, true_and]
      refine c25 hV hyl hy63 ?_
      try simp only [letO_some, cellsOf?_agg, cellsOf?_int, cellsOf?_bool, cellsOf?_imm, cellsOf?_ref, cellsOf?_nils, faddr_iptr, faddr_ptr, List.drop_succ_cons, List.drop_zero, List.take_succ_cons, List.take_zero, load1_iptr, loadN_iptr, List.length_cons, List.length_nil, Nat.le_refl, if_true, List.getElem?_cons_zero, List.getElem?_cons_succ, List.getD_cons_zero, List.getD_cons_succ, extrF_tup, binF_add, binF_sub, binF_mul, binF_eql, binF_neq, binF_lss, binF_leq, binF_gtr, binF_geq, true_and]
      refine c18 (RT.tl _ _) (by omega) hx63 ?_
      try simp only [letO_some, cellsOf?_agg, cellsOf?_int, cellsOf?_bool, cellsOf?_imm, cellsOf?_ref, cellsOf?_nils, faddr_iptr, faddr_ptr, List.drop_succ_cons, List.drop_zero, List.take_succ_cons, List.take_zero, load1_iptr, loadN_iptr, List.length_cons, List.length_nil, Nat.le_refl, if_true, List.getElem?_cons_zero, List.getElem?_cons_succ, List.getD_cons_zero, List.getD_cons_succ, extrF_tup, binF_add, binF_sub, binF_mul, binF_eql, binF_neq, binF_lss, binF_leq, binF_gtr, binF_geq, true_and]
      refine c18 hV hyl hy63 ?_
      simp only [letO_some, cellsOf?_agg, cellsOf?_int, cellsOf?_bool, cellsOf?_imm, cellsOf?_ref, cellsOf?_nils, faddr_iptr, faddr_ptr, List.drop_succ_cons, List.drop_zero, List.take_succ_cons, List.take_zero, load1_iptr, loadN_iptr, List.length_cons, List.length_nil, Nat.le_refl, if_true, List.getElem?_cons_zero, List.getElem?_cons_succ, List.getD_cons_zero, List.getD_cons_succ, extrF_tup, binF_add, binF_sub, binF_mul, binF_eql, binF_neq, binF_lss, binF_leq, binF_gtr, binF_geq, true_and, gval_bool, Int.reduceBNe, Int.reduceBEq, pickF_true, pickF_false, reduceIte, Bool.true_eq_false, Bool.false_eq_true, if_false, condA_tt, condA_ff, condG_tt, condG_ff, condG_tt', condG_ff', condG_undef, gval_undef, hx1, iy.cy, ← iy.count, ← iy.weight, ← iy.even, bne_self_eq_false]
      rw [wrap_i64 (by omega) (by omega)]
      exact ⟨⟨k + 1, rfl, by omega, rfl⟩, by simp <;> omega⟩
    try simp only [letO_some, cellsOf?_agg, cellsOf?_int, cellsOf?_bool, cellsOf?_imm, cellsOf?_ref, cellsOf?_nils, faddr_iptr, faddr_ptr, List.drop_succ_cons, List.drop_zero, List.take_succ_cons, List.take_zero, load1_iptr, loadN_iptr, List.length_cons, List.length_nil, Nat.le_refl, if_true, List.getElem?_cons_zero, List.getElem?_cons_succ, List.getD_cons_zero, List.getD_cons_succ, extrF_tup, binF_add, binF_sub, binF_mul, binF_eql, binF_neq, binF_lss, binF_leq, binF_gtr, binF_geq, true_and]
    refine c27 (RT.tl _ _) (by rw [itr.ly]; omega) (hsl itr.cy) ?_
    have htn2 : (if chkT (turnE x) ≠ 0 then [] else turnE (turnE x)) = x := by rw [if_neg (by simp [itr.cy]), turn_turn hx1 hx2]
    rw [htn2, itr.cy]
    simp only [letO_some, cellsOf?_agg, cellsOf?_int, cellsOf?_bool, cellsOf?_imm, cellsOf?_ref, cellsOf?_nils, faddr_iptr, faddr_ptr, List.drop_succ_cons, List.drop_zero, List.take_succ_cons, List.take_zero, load1_iptr, loadN_iptr, List.length_cons, List.length_nil, Nat.le_refl, if_true, List.getElem?_cons_zero, List.getElem?_cons_succ, List.getD_cons_zero, List.getD_cons_succ, extrF_tup, binF_add, binF_sub, binF_mul, binF_eql, binF_neq, binF_lss, binF_leq, binF_gtr, binF_geq, true_and, gval_bool, Int.reduceBNe, Int.reduceBEq, pickF_true, pickF_false, reduceIte, Bool.true_eq_false, Bool.false_eq_true, if_false, condA_tt, condA_ff, condG_tt, condG_ff, condG_tt', condG_ff', condG_undef, gval_undef, bne_self_eq_false]
    refine exJ ?_
    refine c29 (RT.tl _ _) (RT.tl _ _) (by omega) hx63 ?_
    simp only [decide_true, not_v, Bool.not_true, letO_some, cellsOf?_agg, cellsOf?_int, cellsOf?_bool, cellsOf?_imm, cellsOf?_ref, cellsOf?_nils, faddr_iptr, faddr_ptr, List.drop_succ_cons, List.drop_zero, List.take_succ_cons, List.take_zero, load1_iptr, loadN_iptr, List.length_cons, List.length_nil, Nat.le_refl, if_true, List.getElem?_cons_zero, List.getElem?_cons_succ, List.getD_cons_zero, List.getD_cons_succ, extrF_tup, binF_add, binF_sub, binF_mul, binF_eql, binF_neq, binF_lss, binF_leq, binF_gtr, binF_geq, true_and, gval_bool, Int.reduceBNe, Int.reduceBEq, pickF_true, pickF_false, reduceIte, Bool.true_eq_false, Bool.false_eq_true, if_false, condA_tt, condA_ff, condG_tt, condG_ff, condG_tt', condG_ff', condG_undef, gval_undef]
    refine c40 (RT.tl _ _) (by omega) hx63 ?_
    try simp only [letO_some, cellsOf?_agg, cellsOf?_int, cellsOf?_bool, cellsOf?_imm, cellsOf?_ref, cellsOf?_nils, faddr_iptr, faddr_ptr, List.drop_succ_cons, List.drop_zero, List.take_succ_cons, List.take_zero, load1_iptr, loadN_iptr, List.length_cons, List.length_nil, Nat.le_refl, if_true, List.getElem?_cons_zero, List.getElem?_cons_succ, List.getD_cons_zero, List.getD_cons_succ, extrF_tup, binF_add, binF_sub, binF_mul, binF_eql, binF_neq, binF_lss, binF_leq, binF_gtr, binF_geq, true_and]
    refine c40 hRM (by rw [imv.ly]; omega) (hsl imv.cy) ?_
    try simp only [letO_some, cellsOf?_agg, cellsOf?_int, cellsOf?_bool, cellsOf?_imm, cellsOf?_ref, cellsOf?_nils, faddr_iptr, faddr_ptr, List.drop_succ_cons, List.drop_zero, List.take_succ_cons, List.take_zero, load1_iptr, loadN_iptr, List.length_cons, List.length_nil, Nat.le_refl, if_true, List.getElem?_cons_zero, List.getElem?_cons_succ, List.getD_cons_zero, List.getD_cons_succ, extrF_tup, binF_add, binF_sub, binF_mul, binF_eql, binF_neq, binF_lss, binF_leq, binF_gtr, binF_geq, true_and]
    refine c40 (RT.tl _ _) (by rw [itr.ly]; omega) (hsl itr.cy) ?_
    simp only [letO_some, cellsOf?_agg, cellsOf?_int, cellsOf?_bool, cellsOf?_imm, cellsOf?_ref, cellsOf?_nils, faddr_iptr, faddr_ptr, List.drop_succ_cons, List.drop_zero, List.take_succ_cons, List.take_zero, load1_iptr, loadN_iptr, List.length_cons, List.length_nil, Nat.le_refl, if_true, List.getElem?_cons_zero, List.getElem?_cons_succ, List.getD_cons_zero, List.getD_cons_succ, extrF_tup, binF_add, binF_sub, binF_mul, binF_eql, binF_neq, binF_lss, binF_leq, binF_gtr, binF_geq, true_and, gval_bool, Int.reduceBNe, Int.reduceBEq, pickF_true, pickF_false, reduceIte, Bool.true_eq_false, Bool.false_eq_true, if_false, condA_tt, condA_ff, condG_tt, condG_ff, condG_tt', condG_ff', condG_undef, gval_undef, ← imv.splits, ← itr.splits, bne_self_eq_false]
    rw [wrap_i64 (by omega) (by omega)]
    exact ⟨⟨i + 1, rfl, by omega, hlc⟩, by simp <;> omega⟩
  refine c17 ?_
  try simp only [letO_some, cellsOf?_agg, cellsOf?_int, cellsOf?_bool, cellsOf?_imm, cellsOf?_ref, cellsOf?_nils, faddr_iptr, faddr_ptr, List.drop_succ_cons, List.drop_zero, List.take_succ_cons, List.take_zero, load1_iptr, loadN_iptr, List.length_cons, List.length_nil, Nat.le_refl, if_true, List.getElem?_cons_zero, List.getElem?_cons_succ, List.getD_cons_zero, List.getD_cons_succ, extrF_tup, binF_add, binF_sub, binF_mul, binF_eql, binF_neq, binF_lss, binF_leq, binF_gtr, binF_geq, true_and, gval_bool, Int.reduceBNe, Int.reduceBEq, pickF_true, pickF_false, reduceIte, Bool.true_eq_false, Bool.false_eq_true, if_false, condA_tt, condA_ff, condG_tt, condG_ff, condG_tt', condG_ff', condG_undef, gval_undef]
  exact endK_pub (Pub.drop hla) (endK_ret hk)
end Go.Proofs.YtbofkeoebnjjkaaDoor
namespace Go.Proofs.YtbofkeoebnjjkaaDoor.tableNamed
open Go.Av Tab
theorem law {g : List Nat} {rr cc : Nat} (h0 : g.length = 27) (h1 : ∀ x ∈ g, x < 256) (h2 : rr < 256) (h3 : cc < 256) : ACalls Tryd.prog 12 [.agg (g.map fun (x : Nat) => .int .u8 (x : Int)), .int .u8 (rr : Int), .int .u8 (cc : Int)] Heap.none fun r _ => r = .bool true :=
  c12 ⟨h0, h1⟩ h2 h3 rfl
end Go.Proofs.YtbofkeoebnjjkaaDoor.tableNamed

/- From a walk to a tied row: what the listed variables hold. -/
set_option linter.unusedVariables false
namespace Go.Proofs.YtbofkeoebnjjkaaDoor
open Go.ChangeShapes Go.WideShapes Go.ChangeAt Go.RowKit Go.Av

theorem ownK : ownKnob Tryd.prog.godebug = none := by kernel_rfl
theorem laidOutK : laidOutB Tryd.prog = true := by kernel_rfl
theorem g64 : Tryd.prog.globalNamed "math/bits.deBruijn64tab" = some 1 := by kernel_rfl
theorem g64t : (Tryd.prog.globals[1]?).map (·.type) = some 123 := by kernel_rfl
theorem u123 : Tryd.prog.underlying 123 = some (.array 64 5) := by kernel_rfl
theorem u5 : Tryd.prog.underlying 5 = some (.int .u8) := by kernel_rfl
theorem k5 : Tryd.prog.cellsOf 5 = 1 := by kernel_rfl
theorem k123 : Tryd.prog.cellsOf 123 = 64 := by kernel_rfl
abbrev laidL : List (String × DataW Unit) := [("math/bits.deBruijn32tab", Rows.laid_math_bits_deBruijn32tab), ("math/bits.deBruijn64tab", Rows.laid_math_bits_deBruijn64tab)]
def vals64 : List Int := [0, 1, 56, 2, 57, 49, 28, 3, 61, 58, 42, 50, 38, 29, 17, 4, 62, 47, 59, 36, 45, 43, 51, 22, 53, 39, 33, 30, 24, 18, 12, 5, 63, 55, 48, 27, 60, 41, 37, 16, 46, 35, 44, 21, 52, 32, 23, 11, 54, 26, 40, 15, 34, 20, 31, 10, 25, 14, 19, 9, 13, 8, 7, 6]
theorem laid64 : (Rows.laid_math_bits_deBruijn64tab : DataW Unit) = .agg (vals64.map fun n => .lit (.int .u8 n)) := by rfl
theorem tz64_eq : tz64 = vals64.map (.int .u8) := by rfl
/-- WHAT THE CONDITION GIVES A WALK. -/
theorem glb_of_laid {W : World} (h : laidMetH Tryd.prog laidL W) : Glb Tryd.prog (E0 W) := by
  rw [MakeChecks.laidMetH_plain _ _ _ (by kernel_rfl)] at h
  obtain ⟨ps, h1, _⟩ := h
  obtain ⟨_, _, _, _, _, _, _, _, _, _, h2, _⟩ := h1
  obtain ⟨g, t, cs, fuel, p, q, e1, e2, e3, e4, _, _⟩ := h2
  obtain rfl : (1 : Nat) = g := Option.some.inj (g64.symm.trans e1)
  obtain rfl : 123 = t := Option.some.inj (g64t.symm.trans e2)
  intro g cells hg
  unfold globs at hg
  rw [g64] at hg
  split at hg
  · rename_i hh
    cases hh
    cases hg
    obtain ⟨xs, m, _, hx, hl, hxl, hel⟩ := DataW.trod_array u123 e4
    rw [k123] at hl
    have hcs : ∀ i, i < 64 → cs[i]? = some (.int .u8 (vals64.getD i 0)) := by
      intro i hi
      have h5 := hel i hi
      rw [k5, Nat.mul_one] at h5
      have hxi : xs[i]? = some xs[i] := by simp [hxl, hi]
      rw [hxi] at h5
      obtain ⟨n, hn, hx5, _⟩ := DataW.trod_int u5 h5
      have hval : n = vals64.getD i 0 := by
        have h6 : (xs.map (·.1))[i]? = some (DataW.lit (.int .u8 n)) := by
          rw [List.getElem?_map, hxi, hx5]; rfl
        have h7 : (xs.map (·.1)) = vals64.map fun n => DataW.lit (.int .u8 n) := by
          have := congrArg Prod.fst hx
          rw [laid64] at this
          injection this with this
          exact this.symm
        rw [h7, List.getElem?_map] at h6
        have h8 : vals64[i]? = some (vals64.getD i 0) := by
          have : i < vals64.length := hi
          rw [List.getD_eq_getElem?_getD, List.getElem?_eq_getElem this]; rfl
        rw [h8] at h6
        simp only [Option.map_some, Option.some.injEq, DataW.lit.injEq, Lit.int.injEq, true_and] at h6
        exact h6.symm
      have h9 : ((cs.toList.drop i).take 1)[0]? = some (.int .u8 n) := by rw [hn]; rfl
      rw [List.getElem?_take_of_lt (by omega), List.getElem?_drop, Nat.add_zero] at h9
      rw [← hval]
      simpa using h9
    -- the block
    have hblk : ∃ T fr, W.heap[1]? = some (.cells cs T fr) := by
      unfold World.var? at e3
      rw [g64] at e3
      simp only [Option.bind_some] at e3
      split at e3
      · rename_i c T fr hh
        cases e3
        exact ⟨T, fr, hh⟩
      · cases e3
    obtain ⟨T, fr, hblk⟩ := hblk
    refine Rep.iptr tz64 1 0 cs T fr (fun i => .int .u8 (vals64.getD i 0)) hblk (fun i hi => ?_) (fun i hi => ?_)
    · rw [Nat.zero_add]; exact hcs i hi
    · have h1 : i < vals64.length := hi
      have : tz64[i] = .int .u8 (vals64.getD i 0) := by
        have e : tz64[i]? = some (.int .u8 (vals64.getD i 0)) := by
          rw [tz64_eq, List.getElem?_map, List.getD_eq_getElem?_getD, List.getElem?_eq_getElem h1]; rfl
        rw [List.getElem?_eq_getElem hi] at e
        exact Option.some.inj e
      exact Eq.mpr (congrArg (fun z => Rep (E0 W) z (Value.int .u8 (vals64.getD i 0))) this) (Rep.int _ _)
  · cases hg
end Go.Proofs.YtbofkeoebnjjkaaDoor

/- A world that meets the condition; the row's builder. -/
set_option linter.unusedVariables false
namespace Go.Proofs.YtbofkeoebnjjkaaDoor
open Go.ChangeShapes Go.WideShapes Go.ChangeAt Go.RowKit Go.Av

def vals32 : List Int := [0, 1, 28, 2, 29, 14, 24, 3, 30, 22, 20, 15, 25, 17, 4, 8, 31, 27, 13, 23, 21, 19, 16, 7, 26, 12, 18, 6, 11, 5, 10, 9]
/-- A world that meets the condition: the settled one, the two tables laid. -/
noncomputable def laidWorld (os : Os) (blocks : Array Obj) : World :=
  let w0 := World.holding Tryd.prog os ⟨blocks, #[], []⟩
  { w0 with heap := (w0.heap.modify 0 fun
      | .cells _ t frozen => .cells (vals32.map (Value.int .u8)).toArray t frozen
      | o => o).modify 1 fun
      | .cells _ t frozen => .cells (vals64.map (Value.int .u8)).toArray t frozen
      | o => o }
set_option maxRecDepth 100000 in
theorem laidWorld_met0 (os : Os) (args : Array Value) : laidMetH Tryd.prog laidL ((laidWorld os #[]).forCall (fun _ _ => 0) ⟨#[], args, []⟩).memory :=
  laidMetH_of_parts (laidMet_of_run3 80 (by kernel_rfl) (by kernel_rfl) (by kernel_rfl)) (by kernel_rfl)
end Go.Proofs.YtbofkeoebnjjkaaDoor

/- MADE BY PROGRAM (rowt.py): the row and the tied card of TableNamed. -/
namespace Go.Proofs.YtbofkeoebnjjkaaDoor.tableNamed
open Go.ChangeShapes Go.WideShapes Go.ChangeAt Go.RowKit Go.Av
set_option linter.unusedVariables false

set_option maxRecDepth 100000 in
theorem lifted (os : Os) (started : os.Started) (H : Type) (enc : TypeId × Value → H) :
    ReturnsInHanded {} Tryd.checked os 12 .any (fun w args => (Rows.tableNamedSpec.pre enc Tryd.prog Tryd.f12 [] false w args ∧ laidMetH Tryd.prog laidL w) ∧ sizedMet enc Tryd.prog Tryd.f12 (OpenSpec.ofChange Rows.tableNamedSpec) false w args)
      (Rows.tableNamedSpec.post enc Tryd.prog Tryd.f12 false true false false) := by
  refine returnsInHanded_of_change_and (C := Tryd.checked) (X := fun w _ => laidMetH Tryd.prog laidL w) (fun _ _ _ hh h => h.of_heap hh) ownK started (by kernel_rfl) Tryd.func12
    (ChangeSpec.witness_at (enc := enc) (C := Tryd.checked) (os := os) (X := fun w _ => laidMetH Tryd.prog laidL w) false (laidWorld os #[]) #[.agg #[.int .u8 0, .int .u8 0, .int .u8 0, .int .u8 0, .int .u8 0, .int .u8 0, .int .u8 0, .int .u8 0, .int .u8 0, .int .u8 0, .int .u8 0, .int .u8 0, .int .u8 0, .int .u8 0, .int .u8 0, .int .u8 0, .int .u8 0, .int .u8 0, .int .u8 0, .int .u8 0, .int .u8 0, .int .u8 0, .int .u8 0, .int .u8 0, .int .u8 0, .int .u8 0, .int .u8 0], .int .u8 0, .int .u8 0] 8 rfl (by kernel_rfl) (by kernel_rfl) (by kernel_rfl) (by kernel_rfl) (by kernel_rfl) (laidWorld_met0 os _)) ?_
  intro W base args ds gs before hval0 hW hcnd _ hL _
  have hval : ∀ (j : Nat) t v, Tryd.f12.params[j]? = some t → args[j]? = some v → Value.okWide Tryd.prog W .any base t v := hval0
  have hW' := hW
  obtain ⟨p, q, hA0, hV, rfl, hfz, hnd⟩ := hW
  have hA : DataW.TrodAll enc Tryd.prog W 0 (fun _ => true) true Tryd.f12.params.toList args.toList ds p := hA0
  have hA1 := hA
  rw [Tryd.params12] at hA hval
  obtain ⟨rfl, rfl⟩ := trodVars_none hV
  clear hA0 hval0
  simp only [List.append_nil] at hW'
  have hlt : ∀ x ∈ p, x.block < W.heap.size := fun x hx => by simpa using hW'.lt x hx
  obtain ⟨v0, v1, v2, d0, d1, d2, p0, p1, p2, rfl, rfl, rfl, h0, h1, h2⟩ := trodAll_three hA
  obtain ⟨g0, gl0, gx0, r0⟩ := rep_row (E := E0 W) (n := 27) (u := 5) (.inl ⟨_, Tryd.underlying57⟩) (by kernel_rfl) (by kernel_rfl) Tryd.underlying5 (hval 0 57 v0 rfl rfl)
  obtain ⟨b1, rfl, bx1⟩ := rep_u8 Tryd.underlying5 (hval 1 5 v1 rfl rfl)
  obtain ⟨b2, rfl, bx2⟩ := rep_u8 Tryd.underlying5 (hval 2 5 v2 rfl rfl)
  refine ((law gl0 gx0 bx1 bx2).2 (E0 W) W [v0, .int .u8 (b1 : Int), .int .u8 (b2 : Int)] (glb_of_laid hL) (st0 W) (RepL.cons r0 (RepL.cons (.int _ _) (RepL.cons (.int _ _) (RepL.nil _))))).mono ?_
  rintro e W' ⟨r, v, E', H', rfl, hr, _, hx, rfl⟩
  cases hr
  exact ⟨_, rfl, _, _, _, [], _, [], hW', trodAll_cons_mk (shut_bool Tryd.underlying4 _) trodAll_mk0, hx.trodAll laidOutK (by kernel_rfl) hA1 hlt, rfl, hx.kept _, fun h => by cases h⟩

theorem over : Rows.tableNamedRow.holds Tryd.pinned (OpenSpec.ofChange Rows.tableNamedSpec) :=
  OpenClaim.holds_of_wide 12 Tryd.f12 rfl rfl rfl rfl rfl rfl rfl ⟨rfl, rfl, rfl, rfl, rfl⟩ rfl rfl rfl rfl rfl (by kernel_rfl) Tryd.func12 (by kernel_rfl)
    (of_decide_eq_true (by kernel_rfl)) (by unfold Func.isWrapper; first | (rw [if_pos (by decide +kernel)]; kernel_rfl) | (rw [if_neg (by decide +kernel)]; exact ⟨rfl, rfl⟩))
    (fun os started H enc _ => lifted os started H enc)

theorem carded : Rows.TableNamedCardSaid :=
  Claim7.holds_tied_plain_at .later [] [.data, .data] true (true, "29ac6a78e3fa4d425541ea16beb52bdc0cb68dcf07b6d1720047e0e447a29f7d") false
    over (fun _ h => by cases h) (by kernel_rfl) (fun _ h => by cases h) tableNamed_row_tie rfl ⟨rfl, rfl⟩ (by kernel_rfl) rfl
    (fun f fn hf hfn => by
      obtain rfl : f = 12 := Option.some.inj ((show Tryd.prog.funcNamed "headword/headwordlaw11.TableNamed" = some 12 by kernel_rfl).symm.trans hf) |>.symm
      obtain rfl : fn = Tryd.f12 := (Option.some.inj (Tryd.func12.symm.trans hfn)).symm
      exact ⟨by kernel_rfl, fun j t ht => by
        rw [Tryd.params12] at ht
        have hm := Array.mem_of_getElem? ht
        rcases (show t = 57 ∨ t = 5 ∨ t = 5 by simpa [or_assoc] using hm) with rfl | rfl | rfl
        · exact (show Tryd.prog.wantsStandIn 57 = false by kernel_rfl)
        · exact (show Tryd.prog.wantsStandIn 5 = false by kernel_rfl)
        · exact (show Tryd.prog.wantsStandIn 5 = false by kernel_rfl)⟩)
    (by kernel_rfl)
#print axioms carded
end Go.Proofs.YtbofkeoebnjjkaaDoor.tableNamed
