import Derived.Test.YtlajhbpkogekfaaCon
/- The functions of the statement LineTurned that the line package does not hold, each in the words of its walk; made by program. -/
set_option linter.unusedVariables false
set_option maxRecDepth 100000
namespace Go.Proofs.Ytlajhbpkogekfaa
open Go.Av
/-- headword.headwordlaw13.LineTurned -/
def W14 (x0 x1 : AV) (H : Heap) (K : AV → Heap → Prop) : Prop :=
 letO (cellsOf? x0) fun c1 =>
 letO (cellsOf? x1) fun c2 =>
 letO (some ((.bool false) : AV)) fun t4 =>
 letO (loadN 13 (.iptr c1) H) fun t18 =>
 ACalls Try.prog 34 [t18, (.int .i64 10)] H fun t19 H3 =>
 allocA [(.int .i64 0), .nils] (fun t5 H4 =>
 storeA 2 t5 t19 (fun H5 =>
 letO (faddr 1 t5) fun t20 =>
 letO (load1 t20 H5) fun t21 =>
 letO (lenA t21) fun t22 =>
 letO (some (t22 : AV)) fun t6 =>
 true = true ∧
 letO (faddr 0 t5) fun t23 =>
 letO (load1 t23 H5) fun t24 =>
 letO (faddr 1 t5) fun t25 =>
 letO (load1 t25 H5) fun t26 =>
 true = true ∧ ACalls Try.prog 40 [t26] H5 fun t27 H6 =>
 H5.le H6 ∧
 letO (buildF Try.prog 24 [(0, t24), (1, t27)]) fun t28 =>
 true = true ∧ allocA [(.int .i64 0), .nils] (fun t7 H7 =>
 H5.le H7 ∧
 true = true ∧ storeA 2 t7 t28 (fun H8 =>
 H5.le H8 ∧
 letO (faddr 1 t7) fun t29 =>
 letO (load1 t29 H8) fun t30 =>
 ACalls Try.prog 60 [t30] H8 fun t31 H9 =>
 letO (loadN 2 t5 H9) fun t33 =>
 ACalls Try.prog 36 [t33] H9 fun t34 H10 =>
 letO (some (t34 : AV)) fun t32 =>
 letO (extrF t32 0) fun t35 =>
 letO (extrF t32 1) fun t36 =>
 letO (some (t35 : AV)) fun t8 =>
 letO (some (t36 : AV)) fun t9 =>
 letO (loadN 2 t7 H10) fun t38 =>
 ACalls Try.prog 36 [t38] H10 fun t39 H11 =>
 letO (some (t39 : AV)) fun t37 =>
 letO (extrF t37 0) fun t40 =>
 letO (extrF t37 1) fun t41 =>
 letO (some (t40 : AV)) fun t10 =>
 letO (some (t41 : AV)) fun t11 =>
 letO (some (t9 : AV)) fun t42 =>
 letO (binF Try.prog .neq 27 t42 (.int .i64 0)) fun t43 =>
 letO (some (t43 : AV)) fun t44 =>
 letO (gval t44 false (some (t11 : AV))) fun t45 =>
 letO (gval t44 false (binF Try.prog .neq 27 t45 (.int .i64 0))) fun t46 =>
 letO (pickF t44 (.bool true) t46) fun t47 =>
 letO (some (t47 : AV)) fun t48 =>
 letO (gval t48 false (some (t8 : AV))) fun t49 =>
 letO (gval t48 false (lenA t49)) fun t50 =>
 letO (gval t48 false (some (t10 : AV))) fun t51 =>
 letO (gval t48 false (lenA t51)) fun t52 =>
 letO (gval t48 false (binF Try.prog .neq 3 t50 t52)) fun t53 =>
 letO (pickF t48 (.bool true) t53) fun t54 =>
 condA t54 true (
 letO (some ((.bool false) : AV)) fun t4 =>
endK t4 H11 K) (
 letO (loadN 2 t5 H11) fun t55 =>
 letO (loadN 10 (.iptr c2) H11) fun t56 =>
 ACalls Try.prog 39 [t55, t56] H11 fun t57 H12 =>
 letO (some (t57 : AV)) fun t12 =>
 letO (some (t6 : AV)) fun t58 =>
 letO (literalF Try.prog 22 1 [(0, t58)]) fun c13 =>
 ACalls Try.prog 46 [(.imm 1 true c13)] H12 fun t60 H14 =>
 letO (some (t60 : AV)) fun t13 =>
 letO (some (t12 : AV)) fun t61 =>
 letO (some (t12 : AV)) fun t62 =>
 letO (lenA t62) fun t63 =>
 letO (binF Try.prog .sub 3 t63 (.int .i64 1)) fun t64 =>
 letO (slc 1 t61 none (some t64) none) fun t65 =>
 letO (lenA t65) fun t66 =>
 letO (some ((.int .i64 0) : AV)) fun t67 =>
 true = true ∧ ∃ (I15 : List AV → Heap → Prop) (μ16 : List AV → Heap → Nat), I15 [t13, t67] H14 ∧ ∀ L17 H18, I15 L17 H18 → -- [t13, t67]
 letO (binF Try.prog .lss 3 (L17.getD 1 .any) t66) fun t68 =>
 condA t68 true (
 letO (idx 1 t65 (L17.getD 1 .any)) fun t69 =>
 letO (load1 t69 H18) fun t70 =>
 letO (some (t70 : AV)) fun t15 =>
 letO (some ((L17.getD 0 .any) : AV)) fun t71 =>
 letO (some (t6 : AV)) fun t72 =>
 letO (some (t15 : AV)) fun t73 =>
 letO (binF Try.prog .sub 3 t72 t73) fun t74 =>
 letO (literalF Try.prog 22 1 [(0, t74)]) fun c19 =>
 appendA 1 8 t71 (.imm 1 true c19) (fun t76 H20 =>
 letO (some (t76 : AV)) fun t13 =>
 letO (binF Try.prog .add 3 (L17.getD 1 .any) (.int .i64 1)) fun t77 =>
 letO (some (t77 : AV)) fun t67 =>
 I15 [t13, t67] H20 ∧ μ16 [t13, t67] H20 < μ16 L17 H18) H18) (
 letO (some ((L17.getD 0 .any) : AV)) fun t78 =>
 ACalls Try.prog 60 [t78] H18 fun t79 H21 =>
 letO (loadN 2 t5 H21) fun t81 =>
 letO (some (t12 : AV)) fun t82 =>
 ACalls Try.prog 44 [t81, t82] H21 fun t83 H22 =>
 letO (some (t83 : AV)) fun t80 =>
 letO (extrF t80 0) fun t84 =>
 letO (extrF t80 1) fun t85 =>
 letO (some (t84 : AV)) fun t16 =>
 letO (some (t85 : AV)) fun t9 =>
 letO (loadN 2 t7 H22) fun t87 =>
 letO (some ((L17.getD 0 .any) : AV)) fun t88 =>
 ACalls Try.prog 44 [t87, t88] H22 fun t89 H23 =>
 letO (some (t89 : AV)) fun t86 =>
 letO (extrF t86 0) fun t90 =>
 letO (extrF t86 1) fun t91 =>
 letO (some (t90 : AV)) fun t17 =>
 letO (some (t91 : AV)) fun t11 =>
 letO (some (t17 : AV)) fun t92 =>
 ACalls Try.prog 60 [t92] H23 fun t93 H24 =>
 letO (some (t9 : AV)) fun t94 =>
 letO (binF Try.prog .eql 27 t94 (.int .i64 0)) fun t95 =>
 letO (some (t95 : AV)) fun t96 =>
 letO (gval t96 true (some (t11 : AV))) fun t97 =>
 letO (gval t96 true (binF Try.prog .eql 27 t97 (.int .i64 0))) fun t98 =>
 letO (pickF t96 t98 (.bool false)) fun t99 =>
 letO (some (t99 : AV)) fun t100 =>
 letO (gval t100 true (some (t16 : AV))) fun t101 =>
 letO (gval t100 true (some (t17 : AV))) fun t102 =>
 ∃ J25 : AV → Heap → Prop, condG t100 true (ACalls Try.prog 25 [t101, t102] H24 fun t103 H26 =>
 J25 t103 H26) (J25 (.tup []) H24) ∧ ∀ t103 H27, J25 t103 H27 →
 letO (pickF t100 t103 (.bool false)) fun t104 =>
 letO (some (t104 : AV)) fun t105 =>
 ∃ J28 : AV → Heap → Prop, condG t105 true (ACalls Try.prog 16 [] H27 fun t106 H29 =>
 J28 t106 H29) (J28 (.tup []) H27) ∧ ∀ t106 H30, J28 t106 H30 →
 letO (pickF t105 t106 (.bool false)) fun t107 =>
 letO (some (t107 : AV)) fun t4 =>
endK t4 H30 K))) H7) H6) H4) H3

theorem W14_ok {x0 x1 : AV} {H : Heap} {K : AV → Heap → Prop} (h : W14 x0 x1 H K) : ACalls Try.prog 14 [x0, x1] H K :=
  acallsB (fn := Try.f14) (cfg := cfgOf [] [] [(3, [0, 1, 0, 4, 12, 31, 0, 127])] [27] []) (hh := (.dir .nil (.dir .nil (.dir .nil (.dir .nil (.dir .nil (.dir .nil (.dir .nil (.dir (.dir .nil (.dir .nil .nil)) (.dir .nil (.dir .nil (.dir (.dir .nil (.blk (.loop [13, 67] [68, 69, 70, 15, 71, 72, 73, 74, 75, 76, 13, 77, 67] (.dir .nil (.dir .nil (.dir .nil .nil)))))) (.dir .nil (.dir .nil (.dir .nil (.dir .nil .nil)))))))))))))))) follows Try.func14 (by kernel_rfl) (Nat.le_of_ble_eq_true (by kernel_rfl)) (by kernel_rfl) h

/-- (headword.headwordlaw13.Galley).made -/
def W34 (x0 x1 : AV) (H : Heap) (K : AV → Heap → Prop) : Prop :=
 letO (cellsOf? x0) fun c1 =>
 allocA [(.int .i64 0), .nils] (fun t4 H2 =>
 letO (faddr 0 (.iptr c1)) fun t9 =>
 letO (load1 t9 H2) fun t10 =>
 letO (convF Try.prog 5 3 t10) fun t11 =>
 letO (binF Try.prog .rem 3 t11 (.int .i64 40)) fun t12 =>
 letO (binF Try.prog .add 3 (.int .i64 1) t12) fun t13 =>
 letO (buildF Try.prog 24 [(0, t13)]) fun t14 =>
 allocA [(.int .i64 0), .nils] (fun t5 H3 =>
 storeA 2 t5 t14 (fun H4 =>
 letO (faddr 0 t5) fun t15 =>
 letO (load1 t15 H4) fun t16 =>
 letO (some (t16 : AV)) fun t6 =>
 true = true ∧ ∃ J5 : List AV → Heap → Prop, (
 letO (faddr 2 (.iptr c1)) fun t17 =>
 letO (load1 t17 H4) fun t18 =>
 letO (binF Try.prog .rem 5 t18 (.int .u8 3)) fun t19 =>
 letO (binF Try.prog .gtr 5 t19 (.int .u8 0)) fun t20 =>
 condA t20 true (
 letO (faddr 0 t5) fun t21 =>
 letO (load1 t21 H4) fun t22 =>
 letO (binF Try.prog .quo 3 t22 (.int .i64 2)) fun t23 =>
 letO (binF Try.prog .add 3 (.int .i64 1) t23) fun t24 =>
 letO (some (t24 : AV)) fun t6 =>
 J5 [t6] H4) (
 J5 [t6] H4)) ∧ ∀ L6 H7, J5 L6 H7 → -- [t6]
 letO (faddr 3 (.iptr c1)) fun t25 =>
 letO (faddr 1 (.iptr c1)) fun t26 =>
 letO (load1 t26 H7) fun t27 =>
 letO (convF Try.prog 5 3 t27) fun t28 =>
 letO (some (x1 : AV)) fun t29 =>
 letO (binF Try.prog .rem 3 t28 t29) fun t30 =>
 letO (binF Try.prog .add 3 (.int .i64 1) t30) fun t31 =>
 letO (slcArr 10 1 t25 none (some t31) none) fun t32 =>
 letO (lenA t32) fun t33 =>
 letO (some ((.int .i64 0) : AV)) fun t34 =>
 true = true ∧ ∃ (I8 : List AV → Heap → Prop) (μ9 : List AV → Heap → Nat), I8 [t34] H7 ∧ ∀ L10 H11, I8 L10 H11 → -- [t34]
 letO (binF Try.prog .lss 3 (L10.getD 0 .any) t33) fun t35 =>
 condA t35 true (
 letO (idx 1 t32 (L10.getD 0 .any)) fun t36 =>
 letO (load1 t36 H11) fun t37 =>
 letO (some (t37 : AV)) fun t8 =>
 true = true ∧
 letO (faddr 1 t5) fun t38 =>
 letO (load1 t38 H11) fun t39 =>
 letO (some (t8 : AV)) fun t40 =>
 letO (convF Try.prog 5 3 t40) fun t41 =>
 letO (some ((L6.getD 0 .any) : AV)) fun t42 =>
 letO (faddr 0 t5) fun t43 =>
 letO (load1 t43 H11) fun t44 =>
 letO (min2F t42 t44) fun t45 =>
 letO (binF Try.prog .rem 3 t41 t45) fun t46 =>
 letO (binF Try.prog .add 3 (.int .i64 1) t46) fun t47 =>
 letO (literalF Try.prog 22 1 [(0, t47)]) fun c12 =>
 appendA 1 8 t39 (.imm 1 true c12) (fun t49 H13 =>
 letO (faddr 1 t5) fun t50 =>
 storeA 1 t50 t49 (fun H14 =>
 letO (binF Try.prog .add 3 (L10.getD 0 .any) (.int .i64 1)) fun t51 =>
 letO (some (t51 : AV)) fun t34 =>
 I8 [t34] H14 ∧ μ9 [t34] H14 < μ9 L10 H11) H13) H11) (
 letO (loadN 2 t5 H11) fun t52 =>
 storeA 2 t4 t52 (fun H15 =>
 letO (loadN 2 t4 H15) fun r16 => endK r16 H15 K) H11)) H3) H2) H

theorem W34_ok {x0 x1 : AV} {H : Heap} {K : AV → Heap → Prop} (h : W34 x0 x1 H K) : ACalls Try.prog 34 [x0, x1] H K :=
  acallsB (fn := Try.f34) (cfg := cfgOf [] [] [(8, [0, 1, 0, 4, 0, 0, 32, 112, 252, 508, 1020, 2047, 4095, 8191])] [] []) (hh := (.dir .nil (.dir .nil (.dir .nil (.cut [6] [17, 18, 19, 20, 21, 22, 23, 24, 6] (.dir .nil .nil) (.dir (.dir .nil (.blk (.loop [34] [35, 36, 37, 8, 38, 39, 40, 41, 42, 43, 44, 45, 46, 47, 48, 49, 50, 51, 34] (.dir .nil (.dir .nil (.dir .nil .nil)))))) .nil)))))) follows Try.func34 (by kernel_rfl) (Nat.le_of_ble_eq_true (by kernel_rfl)) (by kernel_rfl) h

/-- headword.headwordlaw13.broken -/
def W39 (x0 x1 : AV) (H : Heap) (K : AV → Heap → Prop) : Prop :=
 letO (cellsOf? x0) fun c1 =>
 letO (cellsOf? x1) fun c2 =>
 letO (some (.nils : AV)) fun t4 =>
 letO (some (.nils : AV)) fun t5 =>
 letO (some ((.int .i64 0) : AV)) fun t6 =>
 true = true ∧ ∃ (I3 : List AV → Heap → Prop) (μ4 : List AV → Heap → Nat), I3 [t5, t6] H ∧ ∀ L5 H6, I3 L5 H6 → -- [t5, t6]
 letO (some ((L5.getD 1 .any) : AV)) fun t8 =>
 letO (faddr 1 (.iptr c1)) fun t9 =>
 letO (load1 t9 H6) fun t10 =>
 letO (lenA t10) fun t11 =>
 letO (binF Try.prog .lss 3 t8 t11) fun t12 =>
 condA t12 true (
 letO (some ((L5.getD 1 .any) : AV)) fun t13 =>
 letO (binF Try.prog .add 3 t13 (.int .i64 1)) fun t14 =>
 letO (some (t14 : AV)) fun t7 =>
 true = true ∧ ∃ (I7 : List AV → Heap → Prop) (μ8 : List AV → Heap → Nat), I7 [t7] H6 ∧ ∀ L9 H10, I7 L9 H10 → -- [t7]
 letO (some ((L9.getD 0 .any) : AV)) fun t15 =>
 letO (faddr 1 (.iptr c1)) fun t16 =>
 letO (load1 t16 H10) fun t17 =>
 letO (lenA t17) fun t18 =>
 letO (binF Try.prog .lss 3 t15 t18) fun t19 =>
 letO (some (t19 : AV)) fun t20 =>
 letO (gval t20 true (loadN 2 (.iptr c1) H10)) fun t21 =>
 letO (gval t20 true (some ((L5.getD 1 .any) : AV))) fun t22 =>
 letO (gval t20 true (some ((L9.getD 0 .any) : AV))) fun t23 =>
 letO (gval t20 true (binF Try.prog .add 3 t23 (.int .i64 1))) fun t24 =>
 ∃ J11 : AV → Heap → Prop, condG t20 true (ACalls Try.prog 43 [t21, t22, t24] H10 fun t25 H12 =>
 J11 t25 H12) (J11 (.tup []) H10) ∧ ∀ t25 H13, J11 t25 H13 →
 letO (gval t20 true (binF Try.prog .geq 3 t25 (.int .i64 0))) fun t26 =>
 letO (pickF t20 t26 (.bool false)) fun t27 =>
 letO (some (t27 : AV)) fun t28 =>
 letO (gval t28 true (some ((L9.getD 0 .any) : AV))) fun t29 =>
 letO (gval t28 true (idxArr 10 1 (.iptr c2) t29)) fun t30 =>
 letO (gval t28 true (load1 t30 H13)) fun t31 =>
 letO (gval t28 true (binF Try.prog .rem 5 t31 (.int .u8 4))) fun t32 =>
 letO (gval t28 true (binF Try.prog .gtr 5 t32 (.int .u8 0))) fun t33 =>
 letO (pickF t28 t33 (.bool false)) fun t34 =>
 condA t34 true (
 letO (some ((L9.getD 0 .any) : AV)) fun t35 =>
 letO (binF Try.prog .add 3 t35 (.int .i64 1)) fun t36 =>
 letO (some (t36 : AV)) fun t7 =>
 I7 [t7] H13 ∧ μ8 [t7] H13 < μ8 L9 H10) (
 letO (some ((L5.getD 0 .any) : AV)) fun t37 =>
 letO (some ((L9.getD 0 .any) : AV)) fun t38 =>
 letO (literalF Try.prog 22 1 [(0, t38)]) fun c14 =>
 appendA 1 8 t37 (.imm 1 true c14) (fun t40 H15 =>
 letO (some (t40 : AV)) fun t5 =>
 letO (some ((L9.getD 0 .any) : AV)) fun t41 =>
 letO (some (t41 : AV)) fun t6 =>
 I3 [t5, t6] H15 ∧ μ4 [t5, t6] H15 < μ4 L5 H6) H13)) (
 letO (some ((L5.getD 0 .any) : AV)) fun t42 =>
 letO (some (t42 : AV)) fun t4 =>
endK t4 H6 K)

theorem W39_ok {x0 x1 : AV} {H : Heap} {K : AV → Heap → Prop} (h : W39 x0 x1 H K) : ACalls Try.prog 39 [x0, x1] H K :=
  acallsB (fn := Try.f39) (cfg := cfgOf [] [] [] [] []) (hh := (.dir .nil (.dir .nil (.dir (.dir .nil (.blk (.loop [5, 6] [8, 9, 10, 11, 12, 13, 14, 7, 15, 16, 17, 18, 19, 20, 21, 22, 23, 24, 25, 26, 27, 28, 29, 30, 31, 32, 33, 34, 35, 36, 37, 38, 39, 40, 5, 41, 6] (.dir (.dir .nil .nil) (.blk (.dir .nil (.dir (.blk (.loop [7] [15, 16, 17, 18, 19, 20, 21, 22, 23, 24, 25, 26, 27, 28, 29, 30, 31, 32, 33, 34, 35, 36, 7] (.dir (.dir .nil .nil) .nil))) .nil))))))) .nil)))) follows Try.func39 (by kernel_rfl) (Nat.le_of_ble_eq_true (by kernel_rfl)) (by kernel_rfl) h

/-- headword.headwordlaw13.left -/
def W43 (x0 x1 x2 : AV) (H : Heap) (K : AV → Heap → Prop) : Prop :=
 letO (cellsOf? x0) fun c1 =>
 letO (some ((.int .i64 0) : AV)) fun t6 =>
 letO (some ((.int .i64 (-1)) : AV)) fun t7 =>
 letO (faddr 1 (.iptr c1)) fun t10 =>
 letO (load1 t10 H) fun t11 =>
 letO (some (x1 : AV)) fun t12 =>
 letO (some (x2 : AV)) fun t13 =>
 letO (slc 1 t11 (some t12) (some t13) none) fun t14 =>
 letO (lenA t14) fun t15 =>
 letO (some ((.int .i64 0) : AV)) fun t16 =>
 true = true ∧ ∃ (I2 : List AV → Heap → Prop) (μ3 : List AV → Heap → Nat), I2 [t7, t16] H ∧ ∀ L4 H5, I2 L4 H5 → -- [t7, t16]
 letO (binF Try.prog .lss 3 (L4.getD 1 .any) t15) fun t17 =>
 condA t17 true (
 letO (idx 1 t14 (L4.getD 1 .any)) fun t18 =>
 letO (load1 t18 H5) fun t19 =>
 letO (some (t19 : AV)) fun t9 =>
 letO (some ((L4.getD 0 .any) : AV)) fun t20 =>
 letO (some (t9 : AV)) fun t21 =>
 letO (binF Try.prog .add 3 t21 (.int .i64 1)) fun t22 =>
 letO (binF Try.prog .add 3 t20 t22) fun t23 =>
 letO (some (t23 : AV)) fun t7 =>
 letO (binF Try.prog .add 3 (L4.getD 1 .any) (.int .i64 1)) fun t24 =>
 letO (some (t24 : AV)) fun t16 =>
 I2 [t7, t16] H5 ∧ μ3 [t7, t16] H5 < μ3 L4 H5) (
 letO (faddr 0 (.iptr c1)) fun t25 =>
 letO (load1 t25 H5) fun t26 =>
 letO (some ((L4.getD 0 .any) : AV)) fun t27 =>
 letO (binF Try.prog .sub 3 t26 t27) fun t28 =>
 letO (some (t28 : AV)) fun t6 =>
endK t6 H5 K)

theorem W43_ok {x0 x1 x2 : AV} {H : Heap} {K : AV → Heap → Prop} (h : W43 x0 x1 x2 H K) : ACalls Try.prog 43 [x0, x1, x2] H K :=
  acallsB (fn := Try.f43) (cfg := cfgOf [] [] [] [] []) (hh := (.dir .nil (.dir .nil (.dir (.dir .nil (.blk (.loop [7, 16] [17, 18, 19, 9, 20, 21, 22, 23, 7, 24, 16] (.dir .nil (.dir .nil (.dir .nil .nil)))))) .nil)))) follows Try.func43 (by kernel_rfl) (Nat.le_of_ble_eq_true (by kernel_rfl)) (by kernel_rfl) h

/-- slices.Reverse[[]int,int] -/
def W60 (x0 : AV) (H : Heap) (K : AV → Heap → Prop) : Prop :=
 letO (some (x0 : AV)) fun t4 =>
 letO (lenA t4) fun t5 =>
 letO (binF Try.prog .sub 3 t5 (.int .i64 1)) fun t6 =>
 letO (some ((.int .i64 0) : AV)) fun t2 =>
 letO (some (t6 : AV)) fun t3 =>
 true = true ∧ ∃ (I1 : List AV → Heap → Prop) (μ2 : List AV → Heap → Nat), I1 [t2, t3] H ∧ ∀ L3 H4, I1 L3 H4 → -- [t2, t3]
 letO (some ((L3.getD 0 .any) : AV)) fun t7 =>
 letO (some ((L3.getD 1 .any) : AV)) fun t8 =>
 letO (binF Try.prog .lss 3 t7 t8) fun t9 =>
 condA t9 true (
 true = true ∧
 letO (some (x0 : AV)) fun t14 =>
 letO (some ((L3.getD 0 .any) : AV)) fun t15 =>
 letO (some (x0 : AV)) fun t16 =>
 letO (some ((L3.getD 1 .any) : AV)) fun t17 =>
 letO (some (x0 : AV)) fun t18 =>
 letO (some ((L3.getD 1 .any) : AV)) fun t19 =>
 letO (idx 1 t18 t19) fun t20 =>
 letO (load1 t20 H4) fun t21 =>
 letO (some (x0 : AV)) fun t22 =>
 letO (some ((L3.getD 0 .any) : AV)) fun t23 =>
 letO (idx 1 t22 t23) fun t24 =>
 letO (load1 t24 H4) fun t25 =>
 letO (idx 1 t14 t15) fun t26 =>
 storeA 1 t26 t21 (fun H5 =>
 letO (idx 1 t16 t17) fun t27 =>
 storeA 1 t27 t25 (fun H6 =>
 letO (some ((L3.getD 0 .any) : AV)) fun t10 =>
 letO (binF Try.prog .add 3 t10 (.int .i64 1)) fun t11 =>
 letO (some ((L3.getD 1 .any) : AV)) fun t12 =>
 letO (binF Try.prog .sub 3 t12 (.int .i64 1)) fun t13 =>
 letO (some (t11 : AV)) fun t2 =>
 letO (some (t13 : AV)) fun t3 =>
 I1 [t2, t3] H6 ∧ μ2 [t2, t3] H6 < μ2 L3 H4) H5) H4) (
endK (.tup []) H4 K)

theorem W60_ok {x0 : AV} {H : Heap} {K : AV → Heap → Prop} (h : W60 x0 H K) : ACalls Try.prog 60 [x0] H K :=
  acallsB (fn := Try.f60) (cfg := cfgOf [] [] [(3, [0, 0, 0, 0, 0, 0, 48, 112, 0, 0, 768, 1792, 4083, 8179, 16383, 32767])] [] []) (hh := (.dir .nil (.blk (.loop [2, 3] [7, 8, 9, 14, 15, 16, 17, 18, 19, 20, 21, 22, 23, 24, 25, 26, 27, 10, 11, 12, 13, 2, 3] (.dir (.dir .nil .nil) (.dir .nil .nil)))))) follows Try.func60 (by kernel_rfl) (Nat.le_of_ble_eq_true (by kernel_rfl)) (by kernel_rfl) h


end Go.Proofs.Ytlajhbpkogekfaa
