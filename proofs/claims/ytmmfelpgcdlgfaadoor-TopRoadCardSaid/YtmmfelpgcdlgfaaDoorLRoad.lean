import Derived.Test.YtmmfelpgcdlgfaaDoorLRoadP2
import Derived.Test.YtmmfelpgcdlgfaaDoorBase
import Derived.Test.YtmmfelpgcdlgfaaDoorAvB
import Derived.Test.YtmmfelpgcdlgfaaDoorRows
import Derived.MakeChecks
import Derived.LaidLaws
import Derived.Deep.DeepLaidRun
import Derived.LaidHandle
import Derived.Test.YtmmfelpgcdlgfaaDoorTie
import Derived.Test.YtmmfelpgcdlgfaaDoorCards
import Derived.SevenTiedAt
/- TopRoad: for every input the law returns true, and the input reads as before. No conditions. -/
namespace Go.Proofs.YtmmfelpgcdlgfaaDoor
open Go.Av
set_option linter.unusedVariables false
set_option linter.unusedSimpArgs false
set_option maxRecDepth 8000

/-- TopRoad -/
theorem c7 {m r fl : Nat} {E : List (Nat × Nat)} {H : Heap} {K : AV → Heap → Prop} (hm : m < 256) (hr : r < 256) (hfl : fl < 256) (hE : E.length = 8) (hE2 : ∀ x ∈ E, x.1 < 256 ∧ x.2 < 256) (hk : K (.bool true) H) :
    ACalls Tryd.prog 7 [.int .u8 (m : Int), .int .u8 (r : Int), .int .u8 (fl : Int), .agg (E.flatMap pr8)] H K := by
  apply W7_ok
  unfold W7
  have e0 : ((0 : Int) != 0) = false := rfl
  have q1 : binF Tryd.prog .rem 3 (.int .i64 (m : Int)) (.int .i64 5) = some (.int .i64 ((m % 5 : Nat) : Int)) := rem_nat (b := 5) (by omega)
  have q2 : binF Tryd.prog .rem 3 (.int .i64 (r : Int)) (.int .i64 40) = some (.int .i64 ((r % 40 : Nat) : Int)) := rem_nat (b := 40) (by omega)
  obtain ⟨n, hn⟩ : ∃ n, n = 1 + m % 5 := ⟨_, rfl⟩
  obtain ⟨room, hroom⟩ : ∃ room, room = 1 + r % 40 := ⟨_, rfl⟩
  have w1 : IntKind.i64.wrap (1 + ((m % 5 : Nat) : Int)) = (n : Int) := by rw [wrap_i64 (by omega) (by omega)]; omega
  have w2 : IntKind.i64.wrap (1 + ((r % 40 : Nat) : Int)) = (room : Int) := by rw [wrap_i64 (by omega) (by omega)]; omega
  have hn1 : 1 ≤ n := by omega
  have hn5 : n ≤ 5 := by omega
  have hr1 : 1 ≤ room := by omega
  have hr40 : room ≤ 40 := by omega
  simp only [letO_some, cellsOf?_agg, cellsOf?_int, cellsOf?_bool, cellsOf?_imm, cellsOf?_ref, cellsOf?_nils, faddr_iptr, faddr_ptr, List.drop_succ_cons, List.drop_zero, List.take_succ_cons, List.take_zero, load1_iptr, loadN_iptr, List.length_cons, List.length_nil, Nat.le_refl, if_true, List.getElem?_cons_zero, List.getElem?_cons_succ, List.getD_cons_zero, List.getD_cons_succ, extrF_tup, binF_add, binF_sub, binF_mul, binF_eql, binF_neq, binF_lss, binF_leq, binF_gtr, binF_geq, true_and, conv53 (n := (m : Int)) (by omega), q1, w1, conv53 (n := (r : Int)) (by omega), q2, w2, b64r cellsOf?_int]
  clear q1 q2 w1 w2 hn hroom
  refine alloc_store (cs := [.nils, .int .i64 (room : Int), .int .i64 0]) rfl rfl rfl rfl fun b10 hb10 => ?_
  have h10 : (H.put b10 [.nils, .int .i64 (room : Int), .int .i64 0]) b10 = some [.nils, .int .i64 (room : Int), .int .i64 0] := Heap.put_same
  have hle3 := Heap.le_new (c := [.nils, .int .i64 (room : Int), .int .i64 0]) hb10
  generalize H.put b10 [.nils, .int .i64 (room : Int), .int .i64 0] = H3 at *
  have l37 : load1 (.ptr b10 (0 + 1)) H3 = some (.int .i64 (room : Int)) := load1_at h10 rfl
  have w3 : IntKind.i64.wrap ((room : Int) + 1) = ((room + 1 : Nat) : Int) := by rw [wrap_i64 (by omega) (by omega)]; omega
  simp only [letO_some, cellsOf?_agg, cellsOf?_int, cellsOf?_bool, cellsOf?_imm, cellsOf?_ref, cellsOf?_nils, faddr_iptr, faddr_ptr, List.drop_succ_cons, List.drop_zero, List.take_succ_cons, List.take_zero, load1_iptr, loadN_iptr, List.length_cons, List.length_nil, Nat.le_refl, if_true, List.getElem?_cons_zero, List.getElem?_cons_succ, List.getD_cons_zero, List.getD_cons_succ, extrF_tup, binF_add, binF_sub, binF_mul, binF_eql, binF_neq, binF_lss, binF_leq, binF_gtr, binF_geq, true_and, conv53 (n := (fl : Int)) (by omega), l37, w3, rem_nat (show 0 < room + 1 by omega)]
  refine storeA_of (cs := [.int .i64 ((fl % (room + 1) : Nat) : Int)]) h10 rfl rfl rfl (by simp) ?_
  rw [show splice [AV.nils, .int .i64 (room : Int), .int .i64 0] (0 + 2) [.int .i64 ((fl % (room + 1) : Nat) : Int)] = [.nils, .int .i64 (room : Int), .int .i64 ((fl % (room + 1) : Nat) : Int)] from rfl]
  have h10' : (H3.put b10 [.nils, .int .i64 (room : Int), .int .i64 ((fl % (room + 1) : Nat) : Int)]) b10 = some [.nils, .int .i64 (room : Int), .int .i64 ((fl % (room + 1) : Nat) : Int)] := Heap.put_same
  have hle4 : H.le (H3.put b10 [.nils, .int .i64 (room : Int), .int .i64 ((fl % (room + 1) : Nat) : Int)]) := Heap.le_put hle3 hb10
  generalize H3.put b10 [.nils, .int .i64 (room : Int), .int .i64 ((fl % (room + 1) : Nat) : Int)] = H4 at *
  refine ⟨fun L H' => ∃ floor : Nat, floor ≤ room ∧ H' b10 = some [.nils, .int .i64 (room : Int), .int .i64 (floor : Int)] ∧ H.le H', ?_, ?_⟩
  · have q3 : binF Tryd.prog .rem 5 (.int .u8 (fl : Int)) (.int .u8 3) = some (.int .u8 ((fl % 3 : Nat) : Int)) := rem_nat (b := 3) (by omega)
    have q4 : binF Tryd.prog .rem 3 (.int .i64 (fl : Int)) (.int .i64 4) = some (.int .i64 ((fl % 4 : Nat) : Int)) := rem_nat (b := 4) (by omega)
    have l45 : load1 (.ptr b10 (0 + 1)) H4 = some (.int .i64 (room : Int)) := load1_at h10' rfl
    have hmin : min2F (.int .i64 (room : Int)) (.int .i64 ((fl % 4 : Nat) : Int)) = some (.int .i64 ((min room (fl % 4) : Nat) : Int)) := by
      show some (AV.int .i64 (if ((fl % 4 : Nat) : Int) < (room : Int) then ((fl % 4 : Nat) : Int) else (room : Int))) = _
      congr 2; split <;> omega
    simp only [letO_some, cellsOf?_agg, cellsOf?_int, cellsOf?_bool, cellsOf?_imm, cellsOf?_ref, cellsOf?_nils, faddr_iptr, faddr_ptr, List.drop_succ_cons, List.drop_zero, List.take_succ_cons, List.take_zero, load1_iptr, loadN_iptr, List.length_cons, List.length_nil, Nat.le_refl, if_true, List.getElem?_cons_zero, List.getElem?_cons_succ, List.getD_cons_zero, List.getD_cons_succ, extrF_tup, binF_add, binF_sub, binF_mul, binF_eql, binF_neq, binF_lss, binF_leq, binF_gtr, binF_geq, true_and, q3]
    refine condA_t (fun hlt => ?_) (fun hge => ?_)
    · simp only [letO_some, cellsOf?_agg, cellsOf?_int, cellsOf?_bool, cellsOf?_imm, cellsOf?_ref, cellsOf?_nils, faddr_iptr, faddr_ptr, List.drop_succ_cons, List.drop_zero, List.take_succ_cons, List.take_zero, load1_iptr, loadN_iptr, List.length_cons, List.length_nil, Nat.le_refl, if_true, List.getElem?_cons_zero, List.getElem?_cons_succ, List.getD_cons_zero, List.getD_cons_succ, extrF_tup, binF_add, binF_sub, binF_mul, binF_eql, binF_neq, binF_lss, binF_leq, binF_gtr, binF_geq, true_and, l45, conv53 (n := (fl : Int)) (by omega), q4, hmin]
      refine storeA_of (cs := [.int .i64 ((min room (fl % 4) : Nat) : Int)]) h10' rfl rfl rfl (by simp) ?_
      exact ⟨min room (fl % 4), by omega, Heap.put_same, Heap.le_put hle4 hb10⟩
    · exact ⟨fl % (room + 1), by have := Nat.mod_lt fl (show 0 < room + 1 by omega); omega, h10', hle4⟩
  rintro L H8 ⟨floor, hfr, h108, hle8⟩
  clear h10 h10' hle3 hle4 l37 w3
  have hfl2 : (E.flatMap pr8).length = 16 := by rw [rows_len pr8_len, hE]
  have hs : slcArr 8 2 (.iptr (E.flatMap pr8)) none (some (.int .i64 (n : Int))) none = some (.imm n (n == 8) ((E.flatMap pr8).take (n * 2))) := by
    have n1 : ∀ d, natOf none d = some d := fun d => rfl
    have n2 : ∀ d, natOf (some (.int .i64 (n : Int))) d = some n := fun d => by simp [natOf]
    simp only [slcArr, n1, n2, Option.bind_some]
    rw [if_pos ⟨by omega, by omega⟩]
    simp only [Nat.sub_zero, Nat.zero_mul, List.drop_zero]
  have hln : lenA (.imm n (n == 8) ((E.flatMap pr8).take (n * 2))) = some (.int .i64 (n : Int)) := rfl
  have hrd : ∀ H', ReadsC 2 H' (.imm n (n == 8) ((E.flatMap pr8).take (n * 2))) n ((E.flatMap pr8).take (n * 2)) := fun H' => ReadsC.imm (by rw [List.length_take]; omega)
  simp only [letO_some, cellsOf?_agg, cellsOf?_int, cellsOf?_bool, cellsOf?_imm, cellsOf?_ref, cellsOf?_nils, faddr_iptr, faddr_ptr, List.drop_succ_cons, List.drop_zero, List.take_succ_cons, List.take_zero, load1_iptr, loadN_iptr, List.length_cons, List.length_nil, Nat.le_refl, if_true, List.getElem?_cons_zero, List.getElem?_cons_succ, List.getD_cons_zero, List.getD_cons_succ, extrF_tup, binF_add, binF_sub, binF_mul, binF_eql, binF_neq, binF_lss, binF_leq, binF_gtr, binF_geq, true_and, hs, hln]
  refine ⟨fun L H' => ∃ (i : Nat) (X : AV) (Hg : Heap), eqt L [.int .i64 (i : Int)] ∧ i ≤ n ∧ H.le Hg ∧ Hg b10 = some [X, .int .i64 (room : Int), .int .i64 (floor : Int)] ∧ Grow 2 Hg H' X i (((E.take i).map arP).flatMap prC), fun L _ => (n - iv L 0).toNat,
    ⟨0, .nils, H8, rfl, by omega, hle8, h108, Grow.nils 2 H8⟩, ?_⟩
  rintro L H1 ⟨i, X, Hg, rfl, hi, hle, g10, hg⟩
  simp only [letO_some, cellsOf?_agg, cellsOf?_int, cellsOf?_bool, cellsOf?_imm, cellsOf?_ref, cellsOf?_nils, faddr_iptr, faddr_ptr, List.drop_succ_cons, List.drop_zero, List.take_succ_cons, List.take_zero, load1_iptr, loadN_iptr, List.length_cons, List.length_nil, Nat.le_refl, if_true, List.getElem?_cons_zero, List.getElem?_cons_succ, List.getD_cons_zero, List.getD_cons_succ, extrF_tup, binF_add, binF_sub, binF_mul, binF_eql, binF_neq, binF_lss, binF_leq, binF_gtr, binF_geq, true_and]
  refine condA_t (fun hlt => ?_) (fun hge => ?_)
  · have a1 : i < E.length := by omega
    have htk : (E.take (i + 1)).map arP = (E.take i).map arP ++ [arP E[i]] := by
      rw [List.take_add_one, List.getElem?_eq_getElem a1, Option.toList_some, List.map_append]; rfl
    refine ReadsC.getN (Heap.le_refl _) (hrd H1) (by omega) (by omega) ?_
    have hel : (((E.flatMap pr8).take (n * 2)).drop ((i : Int).toNat * 2)).take 2 = pr8 E[i] := by
      rw [Int.toNat_natCast, List.drop_take, List.take_take, Nat.min_eq_left (by omega), rows_get pr8_len (x := E[i]) (by simp [a1])]
    rw [hel]
    obtain ⟨r1, r2⟩ := hE2 _ (List.getElem_mem a1)
    have hok := arP_ok E[i]
    generalize (E.take i).map arP = As at *
    generalize hp : E[i] = p at *
    refine alloc_store (cs := pr8 p) rfl rfl rfl rfl fun b12 hb12 => ?_
    have h12 : (H1.put b12 (pr8 p)) b12 = some (pr8 p) := Heap.put_same
    have hg2 : Grow 2 (Hg.put b12 (pr8 p)) (H1.put b12 (pr8 p)) X i (As.flatMap prC) := alloc_grow hg hb12
    have hle2 : H.le (Hg.put b12 (pr8 p)) := Heap.le_trans hle (Heap.le_new (none_of_le hg.le hb12))
    have hne : b10 ≠ b12 := Heap.ne_of (hg.le _ _ g10) hb12
    have g102 : (Hg.put b12 (pr8 p)) b10 = some [X, .int .i64 (room : Int), .int .i64 (floor : Int)] := (Heap.put_ne hne).trans g10
    generalize H1.put b12 (pr8 p) = H2 at *
    generalize Hg.put b12 (pr8 p) = Hg2 at *
    have x0 : idxArr 2 1 (.ptr b12 0) (.int .i64 0) = some (.ptr b12 0) := rfl
    have x1 : idxArr 2 1 (.ptr b12 0) (.int .i64 1) = some (.ptr b12 1) := rfl
    have l0 : load1 (.ptr b12 0) H2 = some (.int .u8 (p.1 : Int)) := load1_at h12 rfl
    have l1 : load1 (.ptr b12 1) H2 = some (.int .u8 (p.2 : Int)) := load1_at h12 rfl
    have lX : load1 (.ptr b10 (0 + 0)) H2 = some X := load1_at (hg2.le _ _ g102) rfl
    have r15 : binF Tryd.prog .rem 3 (.int .i64 (p.1 : Int)) (.int .i64 15) = some (.int .i64 ((p.1 % 15 : Nat) : Int)) := rem_nat (b := 15) (by omega)
    have r8 : binF Tryd.prog .rem 3 (.int .i64 (p.2 : Int)) (.int .i64 8) = some (.int .i64 ((p.2 % 8 : Nat) : Int)) := rem_nat (b := 8) (by omega)
    have v1 : IntKind.i64.wrap (1 + ((p.1 % 15 : Nat) : Int)) = (((arP p).1 : Nat) : Int) := by rw [wrap_i64 (by omega) (by omega)]; simp only [arP]; omega
    have v2 : IntKind.i64.wrap ((((arP p).1 : Nat) : Int) + ((p.2 % 8 : Nat) : Int)) = (((arP p).2 : Nat) : Int) := by simp only [arP]; rw [wrap_i64 (by omega) (by omega)]; omega
    have bb : buildF Tryd.prog 67 [(0, .int .i64 (((arP p).1 : Nat) : Int)), (1, .int .i64 (((arP p).2 : Nat) : Int))] = some (.agg (prC (arP p))) := b67 _ _
    simp only [letO_some, cellsOf?_agg, cellsOf?_int, cellsOf?_bool, cellsOf?_imm, cellsOf?_ref, cellsOf?_nils, faddr_iptr, faddr_ptr, List.drop_succ_cons, List.drop_zero, List.take_succ_cons, List.take_zero, load1_iptr, loadN_iptr, List.length_cons, List.length_nil, Nat.le_refl, if_true, List.getElem?_cons_zero, List.getElem?_cons_succ, List.getD_cons_zero, List.getD_cons_succ, extrF_tup, binF_add, binF_sub, binF_mul, binF_eql, binF_neq, binF_lss, binF_leq, binF_gtr, binF_geq, true_and, x0, x1, l0, l1, lX, conv53 (n := (p.1 : Int)) (by omega), conv53 (n := (p.2 : Int)) (by omega), r15, r8, v1, v2, bb, l62_1]
    refine appendA_growR hg2 (m := 1) (new := prC (arP p)) (by simp [srcOf, prC]) rfl rfl (by omega) (by omega) (by omega) fun v' H7 hg7 ho7 => ?_
    try simp only [letO_some, cellsOf?_agg, cellsOf?_int, cellsOf?_bool, cellsOf?_imm, cellsOf?_ref, cellsOf?_nils, faddr_iptr, faddr_ptr, List.drop_succ_cons, List.drop_zero, List.take_succ_cons, List.take_zero, load1_iptr, loadN_iptr, List.length_cons, List.length_nil, Nat.le_refl, if_true, List.getElem?_cons_zero, List.getElem?_cons_succ, List.getD_cons_zero, List.getD_cons_succ, extrF_tup, binF_add, binF_sub, binF_mul, binF_eql, binF_neq, binF_lss, binF_leq, binF_gtr, binF_geq, true_and]
    refine storeA_of (cs := [v']) (hg7.le _ _ g102) hg7.cells (by simp [hg7.scalar]) rfl (by simp) ?_
    rw [show splice [X, .int .i64 (room : Int), .int .i64 (floor : Int)] (0 + 0) [v'] = [v', .int .i64 (room : Int), .int .i64 (floor : Int)] from rfl]
    have hg8 := hg7.put g102 (y := [v', .int .i64 (room : Int), .int .i64 (floor : Int)])
    try simp only [letO_some, cellsOf?_agg, cellsOf?_int, cellsOf?_bool, cellsOf?_imm, cellsOf?_ref, cellsOf?_nils, faddr_iptr, faddr_ptr, List.drop_succ_cons, List.drop_zero, List.take_succ_cons, List.take_zero, load1_iptr, loadN_iptr, List.length_cons, List.length_nil, Nat.le_refl, if_true, List.getElem?_cons_zero, List.getElem?_cons_succ, List.getD_cons_zero, List.getD_cons_succ, extrF_tup, binF_add, binF_sub, binF_mul, binF_eql, binF_neq, binF_lss, binF_leq, binF_gtr, binF_geq, true_and]
    rw [wrap_i64 (by omega) (by omega)]
    refine ⟨⟨i + 1, v', Hg2.put b10 [v', .int .i64 (room : Int), .int .i64 (floor : Int)], rfl, by omega, Heap.le_put hle2 hb10, Heap.put_same, ?_⟩, by simp [iv] <;> omega⟩
    rw [htk, List.flatMap_append]
    simpa using hg8
  · have hie : i = n := by omega
    subst hie
    obtain ⟨A, hA⟩ : ∃ A, A = (E.take i).map arP := ⟨_, rfl⟩
    have hAl : A.length = i := by rw [hA, List.length_map, List.length_take, hE]; omega
    have hV : Vb A room floor := by
      refine ⟨by omega, by omega, fun p hp => ?_, hr1, by omega, hfr⟩
      rw [hA] at hp
      obtain ⟨x, _, rfl⟩ := List.mem_map.1 hp
      exact arP_ok x
    have hRX : RP H1 X A := by
      have := hg.readsC
      rw [← hA] at this
      unfold RP
      rw [hAl]
      exact this
    have hB10 := hg.le _ _ g10
    have hleB := Heap.le_trans hle hg.le
    subst hAl
    clear hA hg g10 hle hs hln hrd
    generalize H1 = HB at *
    have w5 : IntKind.i64.wrap ((A.length : Int) + 1) = ((A.length + 1 : Nat) : Int) := by rw [wrap_i64 (by omega) (by omega)]; omega
    simp only [w5, letO_some, binF_add, b29n cellsOf?_int]
    refine alloc_store (cs := [.int .i64 ((A.length + 1 : Nat) : Int), .nils]) rfl rfl rfl rfl fun b14 hb14 => ?_
    have g14 : (HB.put b14 [.int .i64 ((A.length + 1 : Nat) : Int), .nils]) b14 = some [.int .i64 ((A.length + 1 : Nat) : Int), .nils] := Heap.put_same
    have hle19 := Heap.le_new (c := [.int .i64 ((A.length + 1 : Nat) : Int), .nils]) hb14
    generalize HB.put b14 [.int .i64 ((A.length + 1 : Nat) : Int), .nils] = H19 at *
    have hmx : ∀ p ∈ A, Prod.snd p ≤ 30 := hV.snd
    have hlx : ∀ p ∈ A, Prod.fst p ≤ 30 := hV.fst
    try simp only [letO_some]
    refine ⟨fun L H' => ∃ (b : Nat) (Y : AV) (Hg : Heap), eqt L [.int .i64 (b : Int)] ∧ b ≤ A.length ∧ HB.le Hg ∧ Hg b14 = some [.int .i64 ((A.length + 1 : Nat) : Int), Y] ∧ Grow 2 Hg H' Y (stS A room floor b 0).length ((stS A room floor b 0).flatMap prC), fun L _ => (A.length - iv L 0).toNat,
      ⟨0, .nils, H19, rfl, by omega, hle19, g14, Grow.nils 2 H19⟩, ?_⟩
    rintro L H23 ⟨b, Y, Hg, rfl, hb, hle, g14, hg⟩
    simp only [letO_some, cellsOf?_agg, cellsOf?_int, cellsOf?_bool, cellsOf?_imm, cellsOf?_ref, cellsOf?_nils, faddr_iptr, faddr_ptr, List.drop_succ_cons, List.drop_zero, List.take_succ_cons, List.take_zero, load1_iptr, loadN_iptr, List.length_cons, List.length_nil, Nat.le_refl, if_true, List.getElem?_cons_zero, List.getElem?_cons_succ, List.getD_cons_zero, List.getD_cons_succ, extrF_tup, binF_add, binF_sub, binF_mul, binF_eql, binF_neq, binF_lss, binF_leq, binF_gtr, binF_geq, true_and]
    refine condA_t (fun hlt2 => ?_) (fun hge2 => ?_)
    · refine ⟨fun L H' => ∃ (j : Nat) (Y : AV) (Hg : Heap), eqt L [.int .i64 ((sm Prod.fst A (b + j) - sm Prod.fst A b : Nat) : Int), .int .i64 ((sm Prod.snd A (b + j) - sm Prod.snd A b : Nat) : Int), .int .i64 ((b + j : Nat) : Int)] ∧ b + j ≤ A.length ∧ HB.le Hg ∧ Hg b14 = some [.int .i64 ((A.length + 1 : Nat) : Int), Y] ∧
          Grow 2 Hg H' Y (stS A room floor b j).length ((stS A room floor b j).flatMap prC), fun L _ => (A.length - iv L 2).toNat, ⟨0, Y, Hg, by show _ = _; simp, by omega, hle, g14, hg⟩, ?_⟩
      rintro L H27 ⟨j, Y, Hg, rfl, hj, hle, g14, hg⟩
      simp only [letO_some, cellsOf?_agg, cellsOf?_int, cellsOf?_bool, cellsOf?_imm, cellsOf?_ref, cellsOf?_nils, faddr_iptr, faddr_ptr, List.drop_succ_cons, List.drop_zero, List.take_succ_cons, List.take_zero, load1_iptr, loadN_iptr, List.length_cons, List.length_nil, Nat.le_refl, if_true, List.getElem?_cons_zero, List.getElem?_cons_succ, List.getD_cons_zero, List.getD_cons_succ, extrF_tup, binF_add, binF_sub, binF_mul, binF_eql, binF_neq, binF_lss, binF_leq, binF_gtr, binF_geq, true_and]
      refine condA_t (fun hlt3 => ?_) (fun hge3 => ?_)
      · have hbj : b + j < A.length := by omega
        have hll := stS_len A room floor b j
        have hbA : b * A.length ≤ 25 := Nat.le_trans (Nat.mul_le_mul (show b ≤ 5 by omega) (show A.length ≤ 5 by omega)) (by decide)
        refine ⟨fun L H' => ∃ (Y : AV) (Hg : Heap), eqt L [.int .i64 ((sm Prod.fst A (b + j + 1) - sm Prod.fst A b : Nat) : Int), .int .i64 ((sm Prod.snd A (b + j + 1) - sm Prod.snd A b : Nat) : Int)] ∧ HB.le Hg ∧ Hg b14 = some [.int .i64 ((A.length + 1 : Nat) : Int), Y] ∧
          Grow 2 Hg H' Y (stS A room floor b (j + 1)).length ((stS A room floor b (j + 1)).flatMap prC), ?_, ?_⟩
        · obtain ⟨p, p0, p1, i1, i2, i3, i4⟩ := rp_at hRX hbj
          obtain ⟨i5, i6⟩ := i4 H27 (Heap.le_trans hle hg.le)
          have hle27 := Heap.le_trans hle hg.le
          have l92 : load1 (.ptr b10 (0 + 0)) H27 = some X := load1_at (hle27 _ _ hB10) rfl
          have l108 : load1 (.ptr b10 (0 + 1)) H27 = some (.int .i64 (room : Int)) := load1_at (hle27 _ _ hB10) rfl
          have l113 : load1 (.ptr b10 (0 + 2)) H27 = some (.int .i64 (floor : Int)) := load1_at (hle27 _ _ hB10) rfl
          have l117 : load1 (.ptr b14 (0 + 1)) H27 = some Y := load1_at (hg.le _ _ g14) rfl
          have s1 := sm_succ (f := Prod.fst) hbj
          have s2 := sm_succ (f := Prod.snd) hbj
          have t1 := sm_le hlx (b + j)
          have t2 := sm_le hmx (b + j)
          have t3 := sm_mono (f := Prod.fst) (A := A) (show b ≤ b + j by omega)
          have t4 := sm_mono (f := Prod.snd) (A := A) (show b ≤ b + j by omega)
          obtain ⟨u1, u2, u3⟩ := hV.rng _ (List.getElem_mem hbj)
          have v1 : IntKind.i64.wrap (((sm Prod.fst A (b + j) - sm Prod.fst A b : Nat) : Int) + (A[b + j].1 : Int)) = ((sm Prod.fst A (b + j + 1) - sm Prod.fst A b : Nat) : Int) := by rw [wrap_i64 (by omega) (by omega)]; omega
          have v2 : IntKind.i64.wrap (((sm Prod.snd A (b + j) - sm Prod.snd A b : Nat) : Int) + (A[b + j].2 : Int)) = ((sm Prod.snd A (b + j + 1) - sm Prod.snd A b : Nat) : Int) := by rw [wrap_i64 (by omega) (by omega)]; omega
          have v3 : IntKind.i64.wrap (((b + j : Nat) : Int) + 1) = ((b + j + 1 : Nat) : Int) := by rw [wrap_i64 (by omega) (by omega)]; omega
          simp only [letO_some, faddr_ptr, l92, i1, i2, i3, i5, i6, binF_add, v1, v2, l108, binF_leq]
          rw [stS_succ]
          have k1 : decide (((sm Prod.snd A (b + j + 1) - sm Prod.snd A b : Nat) : Int) ≤ (room : Int)) = decide (sm Prod.snd A (b + j + 1) - sm Prod.snd A b ≤ room) := by rw [decide_eq_decide]; omega
          have k2 : decide ((floor : Int) ≤ ((sm Prod.fst A (b + j + 1) - sm Prod.fst A b : Nat) : Int)) = decide (floor ≤ sm Prod.fst A (b + j + 1) - sm Prod.fst A b) := by rw [decide_eq_decide]; omega
          have hokB : okB A room floor (b, b + j + 1) = (decide (sm Prod.snd A (b + j + 1) - sm Prod.snd A b ≤ room) && decide (floor ≤ sm Prod.fst A (b + j + 1) - sm Prod.fst A b)) := rfl
          rw [hokB, k1]
          generalize stS A room floor b j = R0 at *
          cases decide (sm Prod.snd A (b + j + 1) - sm Prod.snd A b ≤ room)
          · simp only [gval_bool, Int.reduceBNe, Int.reduceBEq, pickF_true, pickF_false, reduceIte, Bool.true_eq_false, Bool.false_eq_true, if_false, condA_tt, condA_ff, condG_tt, condG_ff, condG_tt', condG_ff', condG_undef, gval_undef, letO_some, Bool.false_and]
            exact ⟨Y, Hg, rfl, hle, g14, hg⟩
          · simp only [gval_bool, Int.reduceBNe, Int.reduceBEq, pickF_true, pickF_false, reduceIte, Bool.true_eq_false, Bool.false_eq_true, if_false, condA_tt, condA_ff, condG_tt, condG_ff, condG_tt', condG_ff', condG_undef, gval_undef, letO_some, l113, binF_geq, k2, Bool.true_and]
            cases decide (floor ≤ sm Prod.fst A (b + j + 1) - sm Prod.fst A b)
            · simp only [gval_bool, Int.reduceBNe, Int.reduceBEq, pickF_true, pickF_false, reduceIte, Bool.true_eq_false, Bool.false_eq_true, if_false, condA_tt, condA_ff, condG_tt, condG_ff, condG_tt', condG_ff', condG_undef, gval_undef]
              exact ⟨Y, Hg, rfl, hle, g14, hg⟩
            · simp only [gval_bool, Int.reduceBNe, Int.reduceBEq, pickF_true, pickF_false, reduceIte, Bool.true_eq_false, Bool.false_eq_true, if_false, condA_tt, condA_ff, condG_tt, condG_ff, condG_tt', condG_ff', condG_undef, gval_undef, letO_some, l117, v3, b30, l24_1, faddr_ptr, binF_add]
              refine appendA_growR hg (m := 1) (new := prC (b, b + j + 1)) (by simp [srcOf, prC]) rfl rfl (by omega) (by omega) (by omega) fun v' H7 hg7 ho7 => ?_
              try simp only [letO_some, faddr_ptr]
              refine storeA_of (cs := [v']) (hg7.le _ _ g14) hg7.cells (by simp [hg7.scalar]) rfl (by simp) ?_
              rw [show splice [AV.int .i64 ((A.length + 1 : Nat) : Int), Y] (0 + 1) [v'] = [.int .i64 ((A.length + 1 : Nat) : Int), v'] from rfl]
              have hg8 := hg7.put g14 (y := [.int .i64 ((A.length + 1 : Nat) : Int), v'])
              refine ⟨v', Hg.put b14 [.int .i64 ((A.length + 1 : Nat) : Int), v'], rfl, Heap.le_put hle hb14, Heap.put_same, ?_⟩
              rw [List.length_append, l24_dec]
              simpa using hg8
        · rintro L H33 ⟨Y', Hg', rfl, hle', g14', hg'⟩
          try simp only [letO_some, cellsOf?_agg, cellsOf?_int, cellsOf?_bool, cellsOf?_imm, cellsOf?_ref, cellsOf?_nils, faddr_iptr, faddr_ptr, List.drop_succ_cons, List.drop_zero, List.take_succ_cons, List.take_zero, load1_iptr, loadN_iptr, List.length_cons, List.length_nil, Nat.le_refl, if_true, List.getElem?_cons_zero, List.getElem?_cons_succ, List.getD_cons_zero, List.getD_cons_succ, extrF_tup, binF_add, binF_sub, binF_mul, binF_eql, binF_neq, binF_lss, binF_leq, binF_gtr, binF_geq, true_and]
          rw [wrap_i64 (by omega) (by omega)]
          exact ⟨⟨j + 1, Y', Hg', rfl, by omega, hle', g14', hg'⟩, by simp [iv] <;> omega⟩
      · have hje : j = A.length - b := by omega
        subst hje
        rw [← stS_next] at hg
        try simp only [letO_some, cellsOf?_agg, cellsOf?_int, cellsOf?_bool, cellsOf?_imm, cellsOf?_ref, cellsOf?_nils, faddr_iptr, faddr_ptr, List.drop_succ_cons, List.drop_zero, List.take_succ_cons, List.take_zero, load1_iptr, loadN_iptr, List.length_cons, List.length_nil, Nat.le_refl, if_true, List.getElem?_cons_zero, List.getElem?_cons_succ, List.getD_cons_zero, List.getD_cons_succ, extrF_tup, binF_add, binF_sub, binF_mul, binF_eql, binF_neq, binF_lss, binF_leq, binF_gtr, binF_geq, true_and]
        rw [wrap_i64 (by omega) (by omega)]
        exact ⟨⟨b + 1, Y, Hg, rfl, by omega, hle, g14, hg⟩, by simp [iv] <;> omega⟩
    · have hbe : b = A.length := by omega
      subst hbe
      have hvd := stS_vd (A := A) (room := room) (floor := floor) hn5
      have hup := stS_up (A := A) (room := room) (floor := floor) hn5
      have hmem := @stS_mem A room floor
      have hRY : RP H23 Y (stS A room floor A.length 0) := hg.readsC
      have h14 := hg.le _ _ g14
      have hle23 := Heap.le_trans hle hg.le
      have hRX' := hRX.le hle23
      have h10 := hle23 _ _ hB10
      have hleH := Heap.le_trans hleB hle23
      generalize stS A room floor A.length 0 = R at *
      have l127 : loadN 2 (.ptr b14 0) H23 = some (.agg [.int .i64 ((A.length + 1 : Nat) : Int), Y]) := loadN_at h14
      have l140 : loadN 3 (.ptr b10 0) H23 = some (bk X room floor) := loadN_at h10
      simp only [l127, letO_some, l35 cellsOf?_int, true_and]
      refine ⟨.imm 1 true [.int .i64 (A.length : Int)], c24 ⟨rfl, rfl⟩, ?_⟩
      have fin : K (.bool true) H → endK (.bool true) H23 K := fun h => endK_all hleH 0 h
      refine c23 (g := A.length) (n := A.length + 1) hvd hRY ⟨rfl, rfl⟩ (by omega) (fun d hd => ?_) (fun hno => ?_)
      · simp only [letO_some, extrF_tup, List.getElem?_cons_zero, List.getElem?_cons_succ, l127]
        refine c25 hvd hup hRY ?_
        simp only [letO_some, extrF_tup, List.getElem?_cons_zero, List.getElem?_cons_succ, l140]
        refine c26 hV (by omega) hRX' hmem (fun d' hd' => ?_) (fun hno => absurd hd.1 (hno d))
        have : d' = d := ds_uniq hd' hd
        subst this
        have hd0 : d' ≠ 0 := by
          rintro rfl
          have := nr_0.1 hd.1
          omega
        have hdb := ds_bound (R := R) (n := A.length) (fun p hp => by have := (hmem p.1 p.2).1 hp; exact ⟨this.1, this.2.1⟩) (by omega) hd
        have hpw := pth_pw (by omega) (by omega) hvd.rng hd
        have hpl := pth_len R (A.length + 1) A.length d' 0
        generalize pth R (A.length + 1) A.length d' 0 = P at *
        simp only [letO_some, extrF_tup, List.getElem?_cons_zero, List.getElem?_cons_succ, binF_neq, e0, gval_bool, Int.reduceBNe, Int.reduceBEq, pickF_true, pickF_false, reduceIte, Bool.true_eq_false, Bool.false_eq_true, if_false, condA_tt, condA_ff, condG_tt, condG_ff, condG_tt', condG_ff', condG_undef, gval_undef, l140]
        refine exJ (c27 hV hRX' ?_)
        simp only [letO_some, binF_neq, e0, gval_bool, Int.reduceBNe, Int.reduceBEq, pickF_true, pickF_false, reduceIte, Bool.true_eq_false, Bool.false_eq_true, if_false, condA_tt, condA_ff, condG_tt, condG_ff, condG_tt', condG_ff', condG_undef, gval_undef]
        have hls : lenA (sl (up (0 :: P))) = some (.int .i64 ((d' + 1 : Nat) : Int)) := by
          rw [← hpl]; simp [sl, lenA]
        have d1 : decide ((1 : Int) < ((d' + 1 : Nat) : Int)) = true := decide_eq_true (by omega)
        obtain ⟨v', hv1, hv2⟩ := slc_suf (H := H23) (l := up (0 :: P)) (k := 1) (by simp)
        have hv1' : slc 1 (sl (up (0 :: P))) (some (.int .i64 1)) none none = some v' := hv1
        simp only [letO_some, hls, binF_gtr, d1, gval_bool, Int.reduceBNe, Int.reduceBEq, pickF_true, pickF_false, reduceIte, Bool.true_eq_false, Bool.false_eq_true, if_false, condA_tt, condA_ff, condG_tt, condG_ff, condG_tt', condG_ff', condG_undef, gval_undef, hv1']
        refine exJ (c14 (a := up P) (b := up P) hv2 (Reads.sl _ _) (by rw [up_length]; omega) (by rw [up_length]; omega) ?_)
        simp only [letO_some, decide_true, gval_bool, Int.reduceBNe, Int.reduceBEq, pickF_true, pickF_false, reduceIte, Bool.true_eq_false, Bool.false_eq_true, if_false, condA_tt, condA_ff, condG_tt, condG_ff, condG_tt', condG_ff', condG_undef, gval_undef, l140]
        refine exJ (c29 (R := R) hV hRX' (Reads.sl _ _) (by omega) (fun p hp => (hmem p.1 p.2).1 hp) hpw ?_)
        have e1 : ((0 : Int) == 0) = true := rfl
        simp only [letO_some, binF_eql, e1, gval_bool, Int.reduceBNe, Int.reduceBEq, pickF_true, pickF_false, reduceIte, Bool.true_eq_false, Bool.false_eq_true, if_false, condA_tt, condA_ff, condG_tt, condG_ff, condG_tt', condG_ff', condG_undef, gval_undef]
        refine exJ (c28 ?_)
        try simp only [letO_some, gval_bool, Int.reduceBNe, Int.reduceBEq, pickF_true, pickF_false, reduceIte, Bool.true_eq_false, Bool.false_eq_true, if_false, condA_tt, condA_ff, condG_tt, condG_ff, condG_tt', condG_ff', condG_undef, gval_undef]
        exact fin hk
      · simp only [letO_some, extrF_tup, List.getElem?_cons_zero, List.getElem?_cons_succ, l127]
        refine c25 hvd hup hRY ?_
        simp only [letO_some, extrF_tup, List.getElem?_cons_zero, List.getElem?_cons_succ, l140]
        refine c26 hV (by omega) hRX' hmem (fun d' hd' => absurd hd'.1 (hno d')) (fun hno' => ?_)
        have e12 : ((12 : Int) != 12) = false := rfl
        simp only [letO_some, extrF_tup, List.getElem?_cons_zero, List.getElem?_cons_succ, binF_neq, e0, e12, gval_bool, Int.reduceBNe, Int.reduceBEq, pickF_true, pickF_false, reduceIte, Bool.true_eq_false, Bool.false_eq_true, if_false, condA_tt, condA_ff, condG_tt, condG_ff, condG_tt', condG_ff', condG_undef, gval_undef, l140]
        refine exJ (c27 hV hRX' ?_)
        have e3 : ((12 : Int) != 0) = true := rfl
        have e4 : ((12 : Int) == 12) = true := rfl
        have hl0 : lenA .nils = some (.int .i64 0) := rfl
        have w0 : IntKind.i64.wrap (0 + 0) = 0 := rfl
        have e5 : ((0 : Int) == 0) = true := rfl
        simp only [letO_some, binF_neq, e0, gval_bool, Int.reduceBNe, Int.reduceBEq, pickF_true, pickF_false, reduceIte, Bool.true_eq_false, Bool.false_eq_true, if_false, condA_tt, condA_ff, condG_tt, condG_ff, condG_tt', condG_ff', condG_undef, gval_undef, e3, binF_eql, e4, hl0, binF_add, w0, e5]
        refine exJ (c28 ?_)
        try simp only [letO_some, gval_bool, Int.reduceBNe, Int.reduceBEq, pickF_true, pickF_false, reduceIte, Bool.true_eq_false, Bool.false_eq_true, if_false, condA_tt, condA_ff, condG_tt, condG_ff, condG_tt', condG_ff', condG_undef, gval_undef]
        exact fin hk
namespace topRoad
theorem law {b0 b1 b2 : Nat} {g : List Nat} (h : b0 < 256) (h' : b1 < 256) (h'' : b2 < 256) (h0 : g.length = 16) (h1 : ∀ x ∈ g, x < 256) : ACalls Tryd.prog 7 [.int .u8 (b0 : Int), .int .u8 (b1 : Int), .int .u8 (b2 : Int), .agg (g.map fun (x : Nat) => .int .u8 (x : Int))] Heap.none fun r _ => r = .bool true := by
  obtain ⟨E, e1, e2, e3⟩ := pairs_of 8 g h0 h1
  rw [e2]
  exact c7 h h' h'' e1 e3 rfl
end topRoad
end Go.Proofs.YtmmfelpgcdlgfaaDoor

/- From a walk to a tied row: what the listed variables hold. -/
set_option linter.unusedVariables false
namespace Go.Proofs.YtmmfelpgcdlgfaaDoor
open Go.ChangeShapes Go.WideShapes Go.ChangeAt Go.RowKit Go.Av

theorem ownK : ownKnob Tryd.prog.godebug = none := by kernel_rfl
theorem laidOutK : laidOutB Tryd.prog = true := by kernel_rfl
theorem g64 : Tryd.prog.globalNamed "math/bits.deBruijn64tab" = some 1 := by kernel_rfl
theorem g64t : (Tryd.prog.globals[1]?).map (·.type) = some 168 := by kernel_rfl
theorem u168 : Tryd.prog.underlying 168 = some (.array 64 5) := by kernel_rfl
theorem u5 : Tryd.prog.underlying 5 = some (.int .u8) := by kernel_rfl
theorem k5 : Tryd.prog.cellsOf 5 = 1 := by kernel_rfl
theorem k168 : Tryd.prog.cellsOf 168 = 64 := by kernel_rfl
abbrev laidL : List (String × DataW Unit) := [("math/bits.deBruijn32tab", Rows.laid_math_bits_deBruijn32tab), ("math/bits.deBruijn64tab", Rows.laid_math_bits_deBruijn64tab)]
def vals64 : List Int := [0, 1, 56, 2, 57, 49, 28, 3, 61, 58, 42, 50, 38, 29, 17, 4, 62, 47, 59, 36, 45, 43, 51, 22, 53, 39, 33, 30, 24, 18, 12, 5, 63, 55, 48, 27, 60, 41, 37, 16, 46, 35, 44, 21, 52, 32, 23, 11, 54, 26, 40, 15, 34, 20, 31, 10, 25, 14, 19, 9, 13, 8, 7, 6]
theorem laid64 : (Rows.laid_math_bits_deBruijn64tab : DataW Unit) = .agg (vals64.map fun n => .lit (.int .u8 n)) := by rfl
theorem tz64_eq : tz64 = vals64.map (.int .u8) := by rfl
/-- WHAT THE CONDITION GIVES A WALK. -/
theorem glb_of_laid {W : World} (h : laidMetH Tryd.prog laidL W) : Glb Tryd.prog (E0 W) := by
  rw [MakeChecks.laidMetH_plain _ _ _ (by kernel_rfl)] at h
  obtain ⟨ps, h1, _⟩ := h
  obtain ⟨_, _, _, _, _, _, _, _, _, _, h2, _⟩ := h1
  obtain ⟨g, t, cs, fuel, p, q, e1, e2, e3, e4, _, _⟩ := h2
  obtain rfl : (1 : Nat) = g := Option.some.inj (g64.symm.trans e1)
  obtain rfl : 168 = t := Option.some.inj (g64t.symm.trans e2)
  intro g cells hg
  unfold globs at hg
  rw [g64] at hg
  split at hg
  · rename_i hh
    cases hh
    cases hg
    obtain ⟨xs, m, _, hx, hl, hxl, hel⟩ := DataW.trod_array u168 e4
    rw [k168] at hl
    have hcs : ∀ i, i < 64 → cs[i]? = some (.int .u8 (vals64.getD i 0)) := by
      intro i hi
      have h5 := hel i hi
      rw [k5, Nat.mul_one] at h5
      have hxi : xs[i]? = some xs[i] := by simp [hxl, hi]
      rw [hxi] at h5
      obtain ⟨n, hn, hx5, _⟩ := DataW.trod_int u5 h5
      have hval : n = vals64.getD i 0 := by
        have h6 : (xs.map (·.1))[i]? = some (DataW.lit (.int .u8 n)) := by
          rw [List.getElem?_map, hxi, hx5]; rfl
        have h7 : (xs.map (·.1)) = vals64.map fun n => DataW.lit (.int .u8 n) := by
          have := congrArg Prod.fst hx
          rw [laid64] at this
          injection this with this
          exact this.symm
        rw [h7, List.getElem?_map] at h6
        have h8 : vals64[i]? = some (vals64.getD i 0) := by
          have : i < vals64.length := hi
          rw [List.getD_eq_getElem?_getD, List.getElem?_eq_getElem this]; rfl
        rw [h8] at h6
        simp only [Option.map_some, Option.some.injEq, DataW.lit.injEq, Lit.int.injEq, true_and] at h6
        exact h6.symm
      have h9 : ((cs.toList.drop i).take 1)[0]? = some (.int .u8 n) := by rw [hn]; rfl
      rw [List.getElem?_take_of_lt (by omega), List.getElem?_drop, Nat.add_zero] at h9
      rw [← hval]
      simpa using h9
    -- the block
    have hblk : ∃ T fr, W.heap[1]? = some (.cells cs T fr) := by
      unfold World.var? at e3
      rw [g64] at e3
      simp only [Option.bind_some] at e3
      split at e3
      · rename_i c T fr hh
        cases e3
        exact ⟨T, fr, hh⟩
      · cases e3
    obtain ⟨T, fr, hblk⟩ := hblk
    refine Rep.iptr tz64 1 0 cs T fr (fun i => .int .u8 (vals64.getD i 0)) hblk (fun i hi => ?_) (fun i hi => ?_)
    · rw [Nat.zero_add]; exact hcs i hi
    · have h1 : i < vals64.length := hi
      have : tz64[i] = .int .u8 (vals64.getD i 0) := by
        have e : tz64[i]? = some (.int .u8 (vals64.getD i 0)) := by
          rw [tz64_eq, List.getElem?_map, List.getD_eq_getElem?_getD, List.getElem?_eq_getElem h1]; rfl
        rw [List.getElem?_eq_getElem hi] at e
        exact Option.some.inj e
      exact Eq.mpr (congrArg (fun z => Rep (E0 W) z (Value.int .u8 (vals64.getD i 0))) this) (Rep.int _ _)
  · cases hg
end Go.Proofs.YtmmfelpgcdlgfaaDoor

/- A world that meets the condition; the row's builder. -/
set_option linter.unusedVariables false
namespace Go.Proofs.YtmmfelpgcdlgfaaDoor
open Go.ChangeShapes Go.WideShapes Go.ChangeAt Go.RowKit Go.Av

def vals32 : List Int := [0, 1, 28, 2, 29, 14, 24, 3, 30, 22, 20, 15, 25, 17, 4, 8, 31, 27, 13, 23, 21, 19, 16, 7, 26, 12, 18, 6, 11, 5, 10, 9]
/-- A world that meets the condition: the settled one, the two tables laid. -/
noncomputable def laidWorld (os : Os) (blocks : Array Obj) : World :=
  let w0 := World.holding Tryd.prog os ⟨blocks, #[], []⟩
  { w0 with heap := (w0.heap.modify 0 fun
      | .cells _ t frozen => .cells (vals32.map (Value.int .u8)).toArray t frozen
      | o => o).modify 1 fun
      | .cells _ t frozen => .cells (vals64.map (Value.int .u8)).toArray t frozen
      | o => o }
set_option maxRecDepth 100000 in
theorem laidWorld_met0 (os : Os) (args : Array Value) : laidMetH Tryd.prog laidL ((laidWorld os #[]).forCall (fun _ _ => 0) ⟨#[], args, []⟩).memory :=
  laidMetH_of_parts (laidMet_of_run3 80 (by kernel_rfl) (by kernel_rfl) (by kernel_rfl)) (by kernel_rfl)
end Go.Proofs.YtmmfelpgcdlgfaaDoor

/- MADE BY PROGRAM (rowt.py): the row and the tied card of TopRoad. -/
namespace Go.Proofs.YtmmfelpgcdlgfaaDoor.topRoad
open Go.ChangeShapes Go.WideShapes Go.ChangeAt Go.RowKit Go.Av
set_option linter.unusedVariables false

set_option maxRecDepth 100000 in
theorem lifted (os : Os) (started : os.Started) (H : Type) (enc : TypeId × Value → H) :
    ReturnsInHanded {} Tryd.checked os 7 .any (fun w args => (Rows.topRoadSpec.pre enc Tryd.prog Tryd.f7 [] false w args ∧ laidMetH Tryd.prog laidL w) ∧ sizedMet enc Tryd.prog Tryd.f7 (OpenSpec.ofChange Rows.topRoadSpec) false w args)
      (Rows.topRoadSpec.post enc Tryd.prog Tryd.f7 false true false false) := by
  refine returnsInHanded_of_change_and (C := Tryd.checked) (X := fun w _ => laidMetH Tryd.prog laidL w) (fun _ _ _ hh h => h.of_heap hh) ownK started (by kernel_rfl) Tryd.func7
    (ChangeSpec.witness_at (enc := enc) (C := Tryd.checked) (os := os) (X := fun w _ => laidMetH Tryd.prog laidL w) false (laidWorld os #[]) #[.int .u8 0, .int .u8 0, .int .u8 0, .agg #[.int .u8 0, .int .u8 0, .int .u8 0, .int .u8 0, .int .u8 0, .int .u8 0, .int .u8 0, .int .u8 0, .int .u8 0, .int .u8 0, .int .u8 0, .int .u8 0, .int .u8 0, .int .u8 0, .int .u8 0, .int .u8 0]] 8 rfl (by kernel_rfl) (by kernel_rfl) (by kernel_rfl) (by kernel_rfl) (by kernel_rfl) (laidWorld_met0 os _)) ?_
  intro W base args ds gs before hval0 hW hcnd _ hL _
  have hval : ∀ (j : Nat) t v, Tryd.f7.params[j]? = some t → args[j]? = some v → Value.okWide Tryd.prog W .any base t v := hval0
  have hW' := hW
  obtain ⟨p, q, hA0, hV, rfl, hfz, hnd⟩ := hW
  have hA : DataW.TrodAll enc Tryd.prog W 0 (fun _ => true) true Tryd.f7.params.toList args.toList ds p := hA0
  have hA1 := hA
  rw [Tryd.params7] at hA hval
  obtain ⟨rfl, rfl⟩ := trodVars_none hV
  clear hA0 hval0
  simp only [List.append_nil] at hW'
  have hlt : ∀ x ∈ p, x.block < W.heap.size := fun x hx => by simpa using hW'.lt x hx
  obtain ⟨v0, v1, v2, v3, d0, d1, d2, d3, p0, p1, p2, p3, rfl, rfl, rfl, h0, h1, h2, h3⟩ := trodAll_four hA
  obtain ⟨b0, rfl, bx0⟩ := rep_u8 Tryd.underlying5 (hval 0 5 v0 rfl rfl)
  obtain ⟨b1, rfl, bx1⟩ := rep_u8 Tryd.underlying5 (hval 1 5 v1 rfl rfl)
  obtain ⟨b2, rfl, bx2⟩ := rep_u8 Tryd.underlying5 (hval 2 5 v2 rfl rfl)
  obtain ⟨a3, al3, ax3, r3⟩ := rep_row (E := E0 W) (n := 16) (u := 5) (.inr ⟨_, _, Tryd.underlying23⟩) (by kernel_rfl) (by kernel_rfl) Tryd.underlying5 (hval 3 23 v3 rfl rfl)
  refine ((law bx0 bx1 bx2 al3 ax3).2 (E0 W) W [.int .u8 (b0 : Int), .int .u8 (b1 : Int), .int .u8 (b2 : Int), v3] (glb_of_laid hL) (st0 W) (RepL.cons (.int _ _) (RepL.cons (.int _ _) (RepL.cons (.int _ _) (RepL.cons r3 (RepL.nil _)))))).mono ?_
  rintro e W' ⟨r, v, E', H', rfl, hr, _, hx, rfl⟩
  cases hr
  exact ⟨_, rfl, _, _, _, [], _, [], hW', trodAll_cons_mk (shut_bool Tryd.underlying4 _) trodAll_mk0, hx.trodAll laidOutK (by kernel_rfl) hA1 hlt, rfl, hx.kept _, fun h => by cases h⟩

theorem over : Rows.topRoadRow.holds Tryd.pinned (OpenSpec.ofChange Rows.topRoadSpec) :=
  OpenClaim.holds_of_wide 7 Tryd.f7 rfl rfl rfl rfl rfl rfl rfl ⟨rfl, rfl, rfl, rfl, rfl⟩ rfl rfl rfl rfl rfl (by kernel_rfl) Tryd.func7 (by kernel_rfl)
    (of_decide_eq_true (by kernel_rfl)) (by unfold Func.isWrapper; first | (rw [if_pos (by decide +kernel)]; kernel_rfl) | (rw [if_neg (by decide +kernel)]; exact ⟨rfl, rfl⟩))
    (fun os started H enc _ => lifted os started H enc)

theorem carded : Rows.TopRoadCardSaid :=
  Claim7.holds_tied_plain_at .later [] [.data, .data] true (true, "64ee42def1c4c9e2e1db2cd06d55cd9155fc815a171a87a85e890809892ccc74") true
    over (fun _ h => by cases h) (by kernel_rfl) (fun _ h => by cases h) topRoad_row_tie rfl ⟨rfl, rfl⟩ (by kernel_rfl) rfl
    (fun f fn hf hfn => by
      obtain rfl : f = 7 := Option.some.inj ((show Tryd.prog.funcNamed "headword/headwordtop.TopRoad" = some 7 by kernel_rfl).symm.trans hf) |>.symm
      obtain rfl : fn = Tryd.f7 := (Option.some.inj (Tryd.func7.symm.trans hfn)).symm
      exact ⟨by kernel_rfl, fun j t ht => by
        rw [Tryd.params7] at ht
        have hm := Array.mem_of_getElem? ht
        rcases (show t = 5 ∨ t = 5 ∨ t = 5 ∨ t = 23 by simpa [or_assoc] using hm) with rfl | rfl | rfl | rfl
        · exact (show Tryd.prog.wantsStandIn 5 = false by kernel_rfl)
        · exact (show Tryd.prog.wantsStandIn 5 = false by kernel_rfl)
        · exact (show Tryd.prog.wantsStandIn 5 = false by kernel_rfl)
        · exact (show Tryd.prog.wantsStandIn 23 = false by kernel_rfl)⟩)
    (by kernel_rfl)
#print axioms carded
end Go.Proofs.YtmmfelpgcdlgfaaDoor.topRoad
