import Derived.Test.YtlajhbpkogekfaaCon
import Derived.Test.YtlajhbpkogekfaaAvB
import Derived.Test.YtlajhbpkogekfaaRows
import Derived.Test.YtlajhbpkogekfaaLKnownW
/- LineKnown: for every input the law returns true, and the input reads as before. No conditions. -/
/- MADE BY PROGRAM (walk.py): function 13 returns true. -/
namespace Go.Proofs.Ytlajhbpkogekfaa
open Go.Av Line
set_option linter.unusedVariables false
set_option linter.unusedSimpArgs false
set_option maxRecDepth 10000
theorem wk1 : firstO 10 [3, 3, 4, 2, 5] = [2, 4, 5] := by kernel_rfl
theorem wk2 : chk 10 [3, 3, 4, 2, 5] = 0 := by kernel_rfl
theorem wk3 : firstO 6 [1, 1, 1, 1, 1, 1] = [3, 6] := by kernel_rfl
theorem wk4 : chk 6 [1, 1, 1, 1, 1, 1] = 0 := by kernel_rfl
theorem wk5 : (bestO 6 [3, 2, 2, 5]).1 = 10 := by kernel_rfl
theorem wk6 : chk 6 [3, 2, 2, 5] = 0 := by kernel_rfl
theorem wk7 : (bestO 6 [1, 1, 1, 1, 1, 1]).1 = 1 := by kernel_rfl
theorem wk8 : fullO 10 [3, 3, 4, 2, 5] = [2, 4, 5] := by kernel_rfl
theorem wk9 : pricesO 10 [3, 3, 4, 2, 5] = [0, 49, 9, 45, 18] := by kernel_rfl
theorem wk10 : startsO 6 [3, 2, 2, 5] = [0, 0, 1, 3] := by kernel_rfl
theorem wk11 : startsO 6 [1, 1, 1, 1, 1, 1] = [0, 0, 0, 2, 2, 3] := by kernel_rfl
theorem wk12 : (literalF Try.prog 22 3 [(0, (.int .i64 2)), (1, (.int .i64 4)), (2, (.int .i64 5))]).map (AV.imm 3 true) = some (AV.imm 3 true [.int .i64 2, .int .i64 4, .int .i64 5]) := by kernel_rfl
theorem wk13 : decide (([2, 4, 5] : List Int) = [2, 4, 5]) = true := by kernel_rfl
theorem wk14 : (literalF Try.prog 22 2 [(0, (.int .i64 3)), (1, (.int .i64 6))]).map (AV.imm 2 true) = some (AV.imm 2 true [.int .i64 3, .int .i64 6]) := by kernel_rfl
theorem wk15 : decide (([3, 6] : List Int) = [3, 6]) = true := by kernel_rfl
theorem wk16 : (literalF Try.prog 22 5 [(0, (.int .i64 0)), (1, (.int .i64 49)), (2, (.int .i64 9)), (3, (.int .i64 45)), (4, (.int .i64 18))]).map (AV.imm 5 true) = some (AV.imm 5 true [.int .i64 0, .int .i64 49, .int .i64 9, .int .i64 45, .int .i64 18]) := by kernel_rfl
theorem wk17 : decide (([0, 49, 9, 45, 18] : List Int) = [0, 49, 9, 45, 18]) = true := by kernel_rfl
theorem wk18 : (literalF Try.prog 22 4 [(0, (.int .i64 0)), (1, (.int .i64 0)), (2, (.int .i64 1)), (3, (.int .i64 3))]).map (AV.imm 4 true) = some (AV.imm 4 true [.int .i64 0, .int .i64 0, .int .i64 1, .int .i64 3]) := by kernel_rfl
theorem wk19 : decide (([0, 0, 1, 3] : List Int) = [0, 0, 1, 3]) = true := by kernel_rfl
theorem wk20 : (literalF Try.prog 22 6 [(0, (.int .i64 0)), (1, (.int .i64 0)), (2, (.int .i64 0)), (3, (.int .i64 2)), (4, (.int .i64 2)), (5, (.int .i64 3))]).map (AV.imm 6 true) = some (AV.imm 6 true [.int .i64 0, .int .i64 0, .int .i64 0, .int .i64 2, .int .i64 2, .int .i64 3]) := by kernel_rfl
theorem wk21 : decide (([0, 0, 0, 2, 2, 3] : List Int) = [0, 0, 0, 2, 2, 3]) = true := by kernel_rfl
theorem wk22 : literalF Try.prog 22 4 [(0, (.int .i64 0)), (1, (.int .i64 0)), (2, (.int .i64 0)), (3, (.int .i64 0))] = some [.int .i64 0, .int .i64 0, .int .i64 0, .int .i64 0] := by kernel_rfl
theorem wk23 : boundO 6 [3, 2, 2, 5] [0, 0, 0, 0] = (0, 0) := by kernel_rfl
theorem wk24 : literalF Try.prog 22 4 [(0, (.int .i64 1)), (1, (.int .i64 9)), (2, (.int .i64 0)), (3, (.int .i64 10))] = some [.int .i64 1, .int .i64 9, .int .i64 0, .int .i64 10] := by kernel_rfl
theorem wk25 : boundO 6 [3, 2, 2, 5] [1, 9, 0, 10] = (0, 14) := by kernel_rfl
theorem wk26 : literalF Try.prog 22 3 [(0, (.int .i64 0)), (1, (.int .i64 9)), (2, (.int .i64 0))] = some [.int .i64 0, .int .i64 9, .int .i64 0] := by kernel_rfl
theorem wk27 : boundO 6 [3, 2, 2, 5] [0, 9, 0] = (0, 5) := by kernel_rfl
theorem wk28 : literalF Try.prog 22 3 [(0, (.int .i64 1)), (1, (.int .i64 3)), (2, (.int .i64 4))] = some [.int .i64 1, .int .i64 3, .int .i64 4] := by kernel_rfl
theorem wk29 : growO 6 [3, 2, 2, 5] [1, 3, 4] 1 1 = ([1, 3, 4], 1, 0) := by kernel_rfl
theorem wk30 : growO 6 [3, 2, 2, 5] [1, 3, 4] 3 1 = ([1, 3, 4], 2, 0) := by kernel_rfl
theorem wk31 : literalF Try.prog 22 3 [(0, (.int .i64 2)), (1, (.int .i64 4)), (2, (.int .i64 5))] = some [.int .i64 2, .int .i64 4, .int .i64 5] := by kernel_rfl
theorem wk32 : growO 10 [3, 3, 4, 2, 5] [2, 4, 5] 0 4 = ([1, 3, 5], 2, 0) := by kernel_rfl
theorem wk33 : (literalF Try.prog 22 3 [(0, (.int .i64 1)), (1, (.int .i64 3)), (2, (.int .i64 4))]).map (AV.imm 3 true) = some (AV.imm 3 true [.int .i64 1, .int .i64 3, .int .i64 4]) := by kernel_rfl
theorem wk34 : decide (([1, 3, 4] : List Int) = [1, 3, 4]) = true := by kernel_rfl
theorem wk35 : (literalF Try.prog 22 3 [(0, (.int .i64 1)), (1, (.int .i64 3)), (2, (.int .i64 5))]).map (AV.imm 3 true) = some (AV.imm 3 true [.int .i64 1, .int .i64 3, .int .i64 5]) := by kernel_rfl
theorem wk36 : decide (([1, 3, 5] : List Int) = [1, 3, 5]) = true := by kernel_rfl
theorem wk37 : provesO 6 [3, 2, 2, 5] [1, 3, 4] [0, 0, 0, 0] = 14 := by kernel_rfl
theorem wk38 : (literalF Try.prog 22 3 [(0, (.int .i64 2)), (1, (.int .i64 2)), (2, (.int .i64 4))]).map (AV.imm 3 true) = some (AV.imm 3 true [.int .i64 2, .int .i64 2, .int .i64 4]) := by kernel_rfl
theorem wk39 : endedE 6 [3, 2, 2, 5] [2, 2, 4] = 7 := by kernel_rfl
theorem wk40 : (literalF Try.prog 22 2 [(0, (.int .i64 1)), (1, (.int .i64 3))]).map (AV.imm 2 true) = some (AV.imm 2 true [.int .i64 1, .int .i64 3]) := by kernel_rfl
theorem wk41 : endedE 6 [3, 2, 2, 5] [1, 3] = 5 := by kernel_rfl
theorem wk42 : (literalF Try.prog 22 1 [(0, (.int .i64 5))]).map (AV.imm 1 true) = some (AV.imm 1 true [.int .i64 5]) := by kernel_rfl
theorem wk43 : endedE 6 [3, 2, 2, 5] [5] = 2 := by kernel_rfl
theorem wk44 : endedE 6 [3, 2, 2, 5] [] = 5 := by kernel_rfl
theorem wk45 : (literalF Try.prog 22 1 [(0, (.int .i64 1))]).map (AV.imm 1 true) = some (AV.imm 1 true [.int .i64 1]) := by kernel_rfl
theorem wk46 : chk 41 [1] = 1 := by kernel_rfl
theorem wk47 : chk 5 [] = 4 := by kernel_rfl
theorem wk48 : (literalF Try.prog 22 1 [(0, (.int .i64 4))]).map (AV.imm 1 true) = some (AV.imm 1 true [.int .i64 4]) := by kernel_rfl
theorem wk49 : chk 3 [4] = 1 := by kernel_rfl
theorem wk50 : chk 3 [0, 0, 0, 0, 0, 0, 0, 0, 0, 0, 0] = 3 := by kernel_rfl
/-- function 13 -/
theorem c13 {H : Heap} {K : AV → Heap → Prop} (hk : K (.bool true) H) : ACalls Try.prog 13 [] H K := by
  apply W13_ok
  unfold W13
  refine letO_of rfl ?_
  refine c56 ?_
  refine c17 (w := 10) (ws := [3, 3, 4, 2, 5]) ⟨rfl, rfl⟩ (by simp) ?_
  rw [wk1, wk2]
  refine letO_of rfl (letO_of rfl (letO_of rfl (letO_of rfl (letO_of rfl ?_))))
  refine c57 ?_
  refine c17 (w := 6) (ws := [1, 1, 1, 1, 1, 1]) ⟨rfl, rfl⟩ (by simp) ?_
  rw [wk3, wk4]
  refine letO_of rfl (letO_of rfl (letO_of rfl (letO_of rfl (letO_of rfl ?_))))
  refine c58 ?_
  refine c19 (w := 6) (ws := [3, 2, 2, 5]) ⟨rfl, rfl⟩ (by simp) ?_
  rw [wk5, wk6]
  refine letO_of rfl (letO_of rfl (letO_of rfl (letO_of rfl (letO_of rfl ?_))))
  refine c57 ?_
  refine c19 (w := 6) (ws := [1, 1, 1, 1, 1, 1]) ⟨rfl, rfl⟩ (by simp) ?_
  rw [wk7, wk4]
  refine letO_of rfl (letO_of rfl (letO_of rfl (letO_of rfl (letO_of rfl ?_))))
  refine c56 ?_
  refine c36 (w := 10) (ws := [3, 3, 4, 2, 5]) ⟨rfl, rfl⟩ (by simp) ?_
  rw [wk8, wk2]
  refine letO_of rfl (letO_of rfl (letO_of rfl (letO_of rfl (letO_of rfl ?_))))
  refine c56 ?_
  refine c26 (w := 10) (ws := [3, 3, 4, 2, 5]) ⟨rfl, rfl⟩ (by simp) ?_
  rw [wk9, wk2]
  refine letO_of rfl (letO_of rfl (letO_of rfl (letO_of rfl (letO_of rfl ?_))))
  refine c58 ?_
  refine c23 (w := 6) (ws := [3, 2, 2, 5]) ⟨rfl, rfl⟩ (by simp) ?_
  rw [wk10, wk6]
  refine letO_of rfl (letO_of rfl (letO_of rfl (letO_of rfl (letO_of rfl ?_))))
  refine c57 ?_
  refine c23 (w := 6) (ws := [1, 1, 1, 1, 1, 1]) ⟨rfl, rfl⟩ (by simp) ?_
  rw [wk11, wk4]
  refine letO_of rfl (letO_of rfl (letO_of rfl (letO_of rfl (letO_of rfl (letO_of rfl ?_)))))
  refine letO_of (x := .bool false) rfl ?_
  refine letO_of rfl (letO_of rfl ?_)
  refine letO_of (x := .bool false) rfl ?_
  refine letO_of (x := .bool false) rfl ?_
  refine letO_of rfl (letO_of rfl ?_)
  refine letO_of (x := .bool false) rfl ?_
  refine letO_of (x := .bool false) rfl ?_
  refine letO_of rfl (letO_of rfl ?_)
  refine letO_of (x := .bool false) rfl ?_
  refine letO_of (x := .bool false) rfl ?_
  refine letO_of rfl (letO_of rfl ?_)
  refine letO_of (x := .bool false) rfl ?_
  refine letO_of (x := .bool false) rfl ?_
  refine letO_of rfl (letO_of rfl ?_)
  refine letO_of (x := .bool false) rfl ?_
  refine letO_of (x := .bool false) rfl ?_
  refine letO_of rfl (letO_of rfl ?_)
  refine letO_of (x := .bool false) rfl ?_
  refine letO_of (x := .bool false) rfl ?_
  refine letO_of rfl (letO_of rfl ?_)
  refine letO_of (x := .bool false) rfl ?_
  refine letO_of (x := .bool false) rfl ?_
  refine letO_of rfl (letO_of rfl ?_)
  refine letO_gv ?_
  refine letO_of wk12 ?_
  refine exJc ?_
  refine c46 ?_
  refine exJc ?_
  refine c25p (l := [2, 4, 5]) (m := [2, 4, 5]) (Reads.sl _ _) ⟨rfl, rfl⟩ (by simp) ?_
  rw [wk13]
  refine letO_of (x := .bool false) rfl ?_
  refine letO_of (x := .bool false) rfl ?_
  refine letO_of rfl (letO_of rfl ?_)
  refine letO_gv ?_
  refine letO_of wk14 ?_
  refine exJc ?_
  refine c46 ?_
  refine exJc ?_
  refine c25p (l := [3, 6]) (m := [3, 6]) (Reads.sl _ _) ⟨rfl, rfl⟩ (by simp) ?_
  rw [wk15]
  refine letO_of (x := .bool false) rfl ?_
  refine letO_of (x := .bool false) rfl ?_
  refine letO_of rfl (letO_of rfl ?_)
  refine letO_of (x := .bool false) rfl ?_
  refine letO_of (x := .bool false) rfl ?_
  refine letO_of rfl (letO_of rfl ?_)
  refine letO_of (x := .bool false) rfl ?_
  refine letO_of (x := .bool false) rfl ?_
  refine letO_of rfl (letO_of rfl ?_)
  refine letO_gv ?_
  refine letO_of wk12 ?_
  refine exJc ?_
  refine c46 ?_
  refine exJc ?_
  refine c25p (l := [2, 4, 5]) (m := [2, 4, 5]) (Reads.sl _ _) ⟨rfl, rfl⟩ (by simp) ?_
  rw [wk13]
  refine letO_of (x := .bool false) rfl ?_
  refine letO_of (x := .bool false) rfl ?_
  refine letO_of rfl (letO_of rfl ?_)
  refine letO_gv ?_
  refine letO_of wk16 ?_
  refine exJc ?_
  refine c46 ?_
  refine exJc ?_
  refine c25p (l := [0, 49, 9, 45, 18]) (m := [0, 49, 9, 45, 18]) (Reads.sl _ _) ⟨rfl, rfl⟩ (by simp) ?_
  rw [wk17]
  refine letO_of (x := .bool false) rfl ?_
  refine letO_of (x := .bool false) rfl ?_
  refine letO_of rfl (letO_of rfl ?_)
  refine letO_gv ?_
  refine letO_of wk18 ?_
  refine exJc ?_
  refine c46 ?_
  refine exJc ?_
  refine c25p (l := [0, 0, 1, 3]) (m := [0, 0, 1, 3]) (Reads.sl _ _) ⟨rfl, rfl⟩ (by simp) ?_
  rw [wk19]
  refine letO_of (x := .bool false) rfl ?_
  refine letO_of (x := .bool false) rfl ?_
  refine letO_of rfl (letO_of rfl ?_)
  refine letO_gv ?_
  refine letO_of wk20 ?_
  refine exJc ?_
  refine c46 ?_
  refine exJc ?_
  refine c25p (l := [0, 0, 0, 2, 2, 3]) (m := [0, 0, 0, 2, 2, 3]) (Reads.sl _ _) ⟨rfl, rfl⟩ (by simp) ?_
  rw [wk21]
  refine letO_of (x := .bool false) rfl ?_
  refine letO_of (x := .bool false) rfl ?_
  refine condA_ff.2 ?_
  refine c58 ?_
  refine letO_of wk22 ?_
  refine c46 ?_
  refine c28 (w := 6) (ws := [3, 2, 2, 5]) (P := [0, 0, 0, 0]) ⟨rfl, rfl⟩ ⟨rfl, rfl⟩ (by simp) (by simp) ?_
  rw [wk23]
  refine letO_of rfl (letO_of rfl (letO_of rfl (letO_of rfl (letO_of rfl ?_))))
  refine c58 ?_
  refine letO_of wk24 ?_
  refine c46 ?_
  refine c28 (w := 6) (ws := [3, 2, 2, 5]) (P := [1, 9, 0, 10]) ⟨rfl, rfl⟩ ⟨rfl, rfl⟩ (by simp) (by simp) ?_
  rw [wk25]
  refine letO_of rfl (letO_of rfl (letO_of rfl (letO_of rfl ?_)))
  refine c58 ?_
  refine letO_of wk26 ?_
  refine c46 ?_
  refine c28 (w := 6) (ws := [3, 2, 2, 5]) (P := [0, 9, 0]) ⟨rfl, rfl⟩ ⟨rfl, rfl⟩ (by simp) (by simp) ?_
  rw [wk27]
  refine letO_of rfl (letO_of rfl (letO_of rfl (letO_of rfl ?_)))
  refine c58 ?_
  refine letO_of wk28 ?_
  refine c46 ?_
  refine c32 (w := 6) (ws := [3, 2, 2, 5]) (ends := [1, 3, 4]) ⟨rfl, rfl⟩ ⟨rfl, rfl⟩ (by simp) (by simp) ?_
  rw [wk29]
  refine letO_of rfl (letO_of rfl (letO_of rfl (letO_of rfl (letO_of rfl (letO_of rfl (letO_of rfl ?_))))))
  refine c58 ?_
  refine letO_of wk28 ?_
  refine c46 ?_
  refine c32 (w := 6) (ws := [3, 2, 2, 5]) (ends := [1, 3, 4]) ⟨rfl, rfl⟩ ⟨rfl, rfl⟩ (by simp) (by simp) ?_
  rw [wk30]
  refine letO_of rfl (letO_of rfl (letO_of rfl (letO_of rfl (letO_of rfl (letO_of rfl (letO_of rfl ?_))))))
  refine c56 ?_
  refine letO_of wk31 ?_
  refine c46 ?_
  refine c32 (w := 10) (ws := [3, 3, 4, 2, 5]) (ends := [2, 4, 5]) ⟨rfl, rfl⟩ ⟨rfl, rfl⟩ (by simp) (by simp) ?_
  rw [wk32]
  refine letO_of rfl (letO_of rfl (letO_of rfl (letO_of rfl (letO_of rfl (letO_of rfl (letO_of rfl (letO_of rfl ?_)))))))
  refine letO_of (x := .bool false) rfl ?_
  refine letO_of rfl (letO_of rfl ?_)
  refine letO_of (x := .bool false) rfl ?_
  refine letO_of (x := .bool false) rfl ?_
  refine letO_of rfl (letO_of rfl ?_)
  refine letO_of (x := .bool false) rfl ?_
  refine letO_of (x := .bool false) rfl ?_
  refine letO_of rfl (letO_of rfl ?_)
  refine letO_of (x := .bool false) rfl ?_
  refine letO_of (x := .bool false) rfl ?_
  refine letO_of rfl (letO_of rfl ?_)
  refine letO_of (x := .bool false) rfl ?_
  refine letO_of (x := .bool false) rfl ?_
  refine letO_of rfl (letO_of rfl ?_)
  refine letO_of (x := .bool false) rfl ?_
  refine letO_of (x := .bool false) rfl ?_
  refine letO_of rfl (letO_of rfl ?_)
  refine letO_of (x := .bool false) rfl ?_
  refine letO_of (x := .bool false) rfl ?_
  refine letO_of rfl (letO_of rfl ?_)
  refine letO_gv ?_
  refine letO_of wk33 ?_
  refine exJc ?_
  refine c46 ?_
  refine exJc ?_
  refine c25p (l := [1, 3, 4]) (m := [1, 3, 4]) (Reads.sl _ _) ⟨rfl, rfl⟩ (by simp) ?_
  rw [wk34]
  refine letO_of (x := .bool false) rfl ?_
  refine letO_of (x := .bool false) rfl ?_
  refine letO_of rfl (letO_of rfl ?_)
  refine letO_of (x := .bool false) rfl ?_
  refine letO_of (x := .bool false) rfl ?_
  refine letO_of rfl (letO_of rfl ?_)
  refine letO_gv ?_
  refine letO_of wk33 ?_
  refine exJc ?_
  refine c46 ?_
  refine exJc ?_
  refine c25p (l := [1, 3, 4]) (m := [1, 3, 4]) (Reads.sl _ _) ⟨rfl, rfl⟩ (by simp) ?_
  rw [wk34]
  refine letO_of (x := .bool false) rfl ?_
  refine letO_of (x := .bool false) rfl ?_
  refine letO_of rfl (letO_of rfl ?_)
  refine letO_of (x := .bool false) rfl ?_
  refine letO_of (x := .bool false) rfl ?_
  refine letO_of rfl (letO_of rfl ?_)
  refine letO_gv ?_
  refine letO_of wk35 ?_
  refine exJc ?_
  refine c46 ?_
  refine exJc ?_
  refine c25p (l := [1, 3, 5]) (m := [1, 3, 5]) (Reads.sl _ _) ⟨rfl, rfl⟩ (by simp) ?_
  rw [wk36]
  refine letO_of (x := .bool false) rfl ?_
  refine letO_of (x := .bool false) rfl ?_
  refine letO_of rfl (letO_of rfl ?_)
  refine letO_of (x := .bool false) rfl ?_
  refine letO_of (x := .bool false) rfl ?_
  refine condA_ff.2 ?_
  refine c58 ?_
  refine letO_of wk28 ?_
  refine c46 ?_
  refine letO_of wk22 ?_
  refine c46 ?_
  refine c30 (w := 6) (ws := [3, 2, 2, 5]) (ends := [1, 3, 4]) (P := [0, 0, 0, 0]) ⟨rfl, rfl⟩ ⟨rfl, rfl⟩ ⟨rfl, rfl⟩ (by simp) (by simp) (by simp) ?_
  rw [wk37]
  refine letO_of (x := .bool true) rfl ?_
  refine letO_of rfl ?_
  refine exJc ?_
  refine c58 ?_
  refine letO_gv ?_
  refine letO_of wk38 ?_
  refine exJc ?_
  refine c46 ?_
  refine exJc ?_
  refine c42 (w := 6) (ws := [3, 2, 2, 5]) (ends := [2, 2, 4]) ⟨rfl, rfl⟩ ⟨rfl, rfl⟩ (by simp) (by simp) ?_
  rw [wk39]
  refine letO_of (x := .bool true) rfl ?_
  refine letO_of (x := .bool true) rfl ?_
  refine letO_of rfl ?_
  refine exJc ?_
  refine c58 ?_
  refine letO_gv ?_
  refine letO_of wk40 ?_
  refine exJc ?_
  refine c46 ?_
  refine exJc ?_
  refine c42 (w := 6) (ws := [3, 2, 2, 5]) (ends := [1, 3]) ⟨rfl, rfl⟩ ⟨rfl, rfl⟩ (by simp) (by simp) ?_
  rw [wk41]
  refine letO_of (x := .bool true) rfl ?_
  refine letO_of (x := .bool true) rfl ?_
  refine letO_of rfl ?_
  refine exJc ?_
  refine c58 ?_
  refine letO_gv ?_
  refine letO_of wk42 ?_
  refine exJc ?_
  refine c46 ?_
  refine exJc ?_
  refine c42 (w := 6) (ws := [3, 2, 2, 5]) (ends := [5]) ⟨rfl, rfl⟩ ⟨rfl, rfl⟩ (by simp) (by simp) ?_
  rw [wk43]
  refine letO_of (x := .bool true) rfl ?_
  refine letO_of (x := .bool true) rfl ?_
  refine letO_of rfl ?_
  refine exJc ?_
  refine c58 ?_
  refine exJc ?_
  refine c42 (w := 6) (ws := [3, 2, 2, 5]) (ends := []) ⟨rfl, rfl⟩ rfl (by simp) (by simp) ?_
  rw [wk44]
  refine letO_of (x := .bool true) rfl ?_
  refine letO_of (x := .bool true) rfl ?_
  refine letO_of rfl ?_
  refine letO_gv ?_
  refine letO_of wk45 ?_
  refine exJc ?_
  refine c59 (w := 41) (l := [1]) ⟨rfl, rfl⟩ ?_
  refine exJc ?_
  refine c50 (w := 41) (ws := [1]) ⟨rfl, rfl⟩ (by simp) ?_
  rw [wk46]
  refine letO_of (x := .bool true) rfl ?_
  refine letO_of (x := .bool true) rfl ?_
  refine letO_of rfl ?_
  refine exJc ?_
  refine c59 (w := 5) (l := []) rfl ?_
  refine exJc ?_
  refine c50 (w := 5) (ws := []) rfl (by simp) ?_
  rw [wk47]
  refine letO_of (x := .bool true) rfl ?_
  refine letO_of (x := .bool true) rfl ?_
  refine letO_of rfl ?_
  refine letO_gv ?_
  refine letO_of wk48 ?_
  refine exJc ?_
  refine c59 (w := 3) (l := [4]) ⟨rfl, rfl⟩ ?_
  refine exJc ?_
  refine c50 (w := 3) (ws := [4]) ⟨rfl, rfl⟩ (by simp) ?_
  rw [wk49]
  refine letO_of (x := .bool true) rfl ?_
  refine letO_of (x := .bool true) rfl ?_
  refine letO_of rfl ?_
  refine ⟨_, ⟨fun _ => ?_, fun h => absurd rfl h⟩, fun t h hJ => hJ⟩
  refine ⟨by decide, by decide, by decide, by decide, fun b hb => ?_⟩
  refine exJc ?_
  refine c59 (w := 3) (l := [0, 0, 0, 0, 0, 0, 0, 0, 0, 0, 0]) ⟨rfl, rfl, _, Heap.put_same, by decide, rfl⟩ ?_
  refine exJc ?_
  refine c50 (w := 3) (ws := [0, 0, 0, 0, 0, 0, 0, 0, 0, 0, 0]) ⟨rfl, rfl, _, Heap.put_same, by decide, rfl⟩ (by simp) ?_
  rw [wk50]
  refine letO_of (x := .bool true) rfl ?_
  refine letO_of (x := .bool true) rfl ?_
  refine letO_of rfl ?_
  refine exJc ?_
  refine c16 ?_
  refine letO_of (x := .bool true) rfl ?_
  refine letO_of rfl ?_
  exact endK_drop (Heap.le_put_self hb) hk
end Go.Proofs.Ytlajhbpkogekfaa

namespace Go.Proofs.Ytlajhbpkogekfaa.lineKnown
open Go.ChangeShapes Go.WideShapes Go.ChangeAt Go.RowKit Go.Av
set_option linter.unusedVariables false

theorem own : ownKnob Try.prog.godebug = none := by kernel_rfl

theorem st0 (w : World) : St ⟨fun _ => none, fun _ => none⟩ Heap.none w := ⟨(fun b o h => nomatch h), (fun b s h => nomatch h), (fun b c h => nomatch h)⟩
theorem walk (w : World) : Calls Try.prog 13 #[] w fun e w' => e = .returned (.bool true) ∧ ∀ may, w.keptBut w' may := by
  refine ((c13 (K := fun r _ => r = .bool true) (H := Heap.none) rfl).2 _ w [] (st0 w) (RepL.nil _)).mono ?_
  rintro e w' ⟨r, v, E', H', rfl, hr, _, hx, rfl⟩
  cases hr
  exact ⟨rfl, fun may => hx.kept may⟩

set_option maxRecDepth 100000 in
theorem lifted (os : Os) (started : os.Started) (H : Type) (enc : TypeId × Value → H) :
    ReturnsInHanded {} Try.checked os 13 .any (Rows.lineKnownSpec.pre6 enc Try.prog Try.f13 Rows.lineKnownRow.domain false) (Rows.lineKnownSpec.post enc Try.prog Try.f13 false true false false) := by
  refine returnsInHanded_of_change (C := Try.checked) own started (by kernel_rfl) Try.func13
    (ChangeSpec.witness6 (enc := enc) (C := Try.checked) false ⟨#[], #[], []⟩ 8 (by kernel_rfl) (by kernel_rfl) (by kernel_rfl) (by kernel_rfl)) ?_
  intro W base args ds gs before hval0 hW hcnd _
  have hval : ∀ (j : Nat) t v, Try.f13.params[j]? = some t → args[j]? = some v → Value.okWide Try.prog W .any base t v := hval0
  have hW' := hW
  obtain ⟨p, q, hA0, hV, rfl, hfz, hnd⟩ := hW
  have hA : DataW.TrodAll enc Try.prog W 0 (fun _ => true) true Try.f13.params.toList args.toList ds p := hA0
  rw [Try.params13] at hA hval
  obtain ⟨rfl, rfl, rfl⟩ := trodAll_none hA
  obtain ⟨rfl, rfl⟩ := trodVars_none hV
  clear hA0 hval0
  simp only [List.append_nil] at hW'
  refine (walk W).mono fun e W' ⟨he, hg⟩ => ?_
  subst he
  exact ⟨_, rfl, _, _, _, [], [], [], hW', trodAll_cons_mk (shut_bool Try.underlying4 _) trodAll_mk0, trodAll_mk0, rfl, hg _, fun h => by cases h⟩

theorem over : Rows.lineKnownRow.holds Try.pinned (OpenSpec.ofChange Rows.lineKnownSpec) :=
  OpenClaim.holds_of_wide 13 Try.f13 rfl rfl rfl rfl rfl rfl rfl ⟨rfl, rfl, rfl, rfl, rfl⟩ rfl rfl rfl rfl rfl (by kernel_rfl) Try.func13 (by kernel_rfl)
    (of_decide_eq_true (by kernel_rfl)) (by unfold Func.isWrapper; first | (rw [if_pos (by decide +kernel)]; kernel_rfl) | (rw [if_neg (by decide +kernel)]; exact ⟨rfl, rfl⟩))
    (fun os started H enc _ => lifted os started H enc)

theorem proved : Rows.LineKnownSaid := over
#print axioms proved
end Go.Proofs.Ytlajhbpkogekfaa.lineKnown
