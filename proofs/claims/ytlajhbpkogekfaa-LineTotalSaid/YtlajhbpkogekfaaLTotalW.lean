import Derived.Test.YtlajhbpkogekfaaCon
/- The functions of the statement LineTotal that the line package does not hold, each in the words of its walk; made by program. -/
set_option linter.unusedVariables false
set_option maxRecDepth 100000
namespace Go.Proofs.Ytlajhbpkogekfaa
open Go.Av
/-- headword.headwordlaw13.LineTotal -/
def W8 (x0 x1 : AV) (H : Heap) (K : AV → Heap → Prop) : Prop :=
 letO (cellsOf? x0) fun c1 =>
 letO (cellsOf? x1) fun c2 =>
 letO (some ((.bool false) : AV)) fun t4 =>
 letO (loadN 13 (.iptr c1) H) fun t20 =>
 ACalls Try.prog 34 [t20, (.int .i64 10)] H fun t21 H3 =>
 allocA [(.int .i64 0), .nils] (fun t5 H4 =>
 storeA 2 t5 t21 (fun H5 =>
 letO (loadN 2 t5 H5) fun t22 =>
 letO (loadN 10 (.iptr c2) H5) fun t23 =>
 ACalls Try.prog 39 [t22, t23] H5 fun t24 H6 =>
 letO (some (t24 : AV)) fun t6 =>
 letO (loadN 2 t5 H6) fun t26 =>
 letO (some (t6 : AV)) fun t27 =>
 ACalls Try.prog 44 [t26, t27] H6 fun t28 H7 =>
 letO (some (t28 : AV)) fun t25 =>
 letO (extrF t25 0) fun t29 =>
 letO (extrF t25 1) fun t30 =>
 letO (some (t29 : AV)) fun t7 =>
 letO (some (t30 : AV)) fun t8 =>
 letO (loadN 2 t5 H7) fun t32 =>
 letO (some (t6 : AV)) fun t33 =>
 ACalls Try.prog 45 [t32, t33] H7 fun t34 H8 =>
 letO (some (t34 : AV)) fun t31 =>
 letO (extrF t31 0) fun t35 =>
 letO (extrF t31 1) fun t36 =>
 letO (some (t35 : AV)) fun t9 =>
 letO (some (t36 : AV)) fun t10 =>
 letO (some (t8 : AV)) fun t37 =>
 letO (binF Try.prog .neq 27 t37 (.int .i64 0)) fun t38 =>
 letO (some (t38 : AV)) fun t39 =>
 letO (gval t39 false (some (t10 : AV))) fun t40 =>
 letO (gval t39 false (binF Try.prog .neq 27 t40 (.int .i64 0))) fun t41 =>
 letO (pickF t39 (.bool true) t41) fun t42 =>
 letO (some (t42 : AV)) fun t43 =>
 letO (gval t43 false (some (t7 : AV))) fun t44 =>
 letO (gval t43 false (lenA t44)) fun t45 =>
 letO (gval t43 false (some (t6 : AV))) fun t46 =>
 letO (gval t43 false (lenA t46)) fun t47 =>
 letO (gval t43 false (binF Try.prog .neq 3 t45 t47)) fun t48 =>
 letO (pickF t43 (.bool true) t48) fun t49 =>
 letO (some (t49 : AV)) fun t50 =>
 letO (gval t50 false (loadN 2 t5 H8)) fun t51 =>
 letO (gval t50 false (some (t6 : AV))) fun t52 =>
 ∃ J9 : AV → Heap → Prop, condG t50 false (ACalls Try.prog 42 [t51, t52] H8 fun t53 H10 =>
 J9 t53 H10) (J9 (.tup []) H8) ∧ ∀ t53 H11, J9 t53 H11 →
 letO (gval t50 false (binF Try.prog .neq 27 t53 (.int .i64 0))) fun t54 =>
 letO (pickF t50 (.bool true) t54) fun t55 =>
 condA t55 true (
 letO (some ((.bool false) : AV)) fun t4 =>
endK t4 H11 K) (
 letO (some ((.int .i64 0) : AV)) fun t11 =>
 letO (some ((.int .i64 0) : AV)) fun t12 =>
 letO (some ((.int .i64 0) : AV)) fun t13 =>
 letO (some (t6 : AV)) fun t56 =>
 letO (lenA t56) fun t57 =>
 letO (some ((.int .i64 0) : AV)) fun t58 =>
 true = true ∧ ∃ (I12 : List AV → Heap → Prop) (μ13 : List AV → Heap → Nat), I12 [t12, t13, t11, t58] H11 ∧ ∀ L14 H15, I12 L14 H15 → -- [t12, t13, t11, t58]
 letO (binF Try.prog .lss 3 (L14.getD 3 .any) t57) fun t59 =>
 condA t59 true (
 letO (some ((L14.getD 3 .any) : AV)) fun t60 =>
 letO (idx 1 t56 (L14.getD 3 .any)) fun t61 =>
 letO (load1 t61 H15) fun t62 =>
 letO (some (t60 : AV)) fun t14 =>
 letO (some (t62 : AV)) fun t15 =>
 letO (loadN 2 t5 H15) fun t63 =>
 letO (some ((L14.getD 2 .any) : AV)) fun t64 =>
 letO (some (t15 : AV)) fun t65 =>
 ACalls Try.prog 43 [t63, t64, t65] H15 fun t66 H16 =>
 letO (some (t66 : AV)) fun t16 =>
 letO (some (t7 : AV)) fun t67 =>
 letO (some (t14 : AV)) fun t68 =>
 letO (idx 1 t67 t68) fun t69 =>
 letO (load1 t69 H16) fun t70 =>
 letO (some (t16 : AV)) fun t71 =>
 letO (binF Try.prog .neq 3 t70 t71) fun t72 =>
 condA t72 true (
 letO (some ((.bool false) : AV)) fun t4 =>
endK t4 H16 K) (
 letO (some ((L14.getD 0 .any) : AV)) fun t73 =>
 letO (some (t16 : AV)) fun t74 =>
 letO (binF Try.prog .add 3 t73 t74) fun t75 =>
 letO (some (t75 : AV)) fun t12 =>
 true = true ∧ ∃ J17 : List AV → Heap → Prop, (
 letO (some (t14 : AV)) fun t76 =>
 letO (some (t6 : AV)) fun t77 =>
 letO (lenA t77) fun t78 =>
 letO (binF Try.prog .sub 3 t78 (.int .i64 1)) fun t79 =>
 letO (binF Try.prog .lss 3 t76 t79) fun t80 =>
 condA t80 true (
 letO (some ((L14.getD 1 .any) : AV)) fun t81 =>
 letO (some (t16 : AV)) fun t82 =>
 letO (some (t16 : AV)) fun t83 =>
 letO (binF Try.prog .mul 3 t82 t83) fun t84 =>
 letO (binF Try.prog .add 3 t81 t84) fun t85 =>
 letO (some (t85 : AV)) fun t13 =>
 J17 [t13] H16) (
 J17 [(L14.getD 1 .any)] H16)) ∧ ∀ L18 H19, J17 L18 H19 → -- [t13]
 letO (some (t15 : AV)) fun t86 =>
 letO (some (t86 : AV)) fun t11 =>
 letO (binF Try.prog .add 3 (L14.getD 3 .any) (.int .i64 1)) fun t87 =>
 letO (some (t87 : AV)) fun t58 =>
 I12 [t12, (L18.getD 0 .any), t11, t58] H19 ∧ μ13 [t12, (L18.getD 0 .any), t11, t58] H19 < μ13 L14 H15)) (
 letO (faddr 1 t5) fun t88 =>
 letO (load1 t88 H15) fun t89 =>
 letO (lenA t89) fun t90 =>
 letO (some ((.int .i64 0) : AV)) fun t91 =>
 true = true ∧ ∃ (I20 : List AV → Heap → Prop) (μ21 : List AV → Heap → Nat), I20 [(L14.getD 0 .any), t91] H15 ∧ ∀ L22 H23, I20 L22 H23 → -- [t12, t91]
 letO (binF Try.prog .lss 3 (L22.getD 1 .any) t90) fun t92 =>
 condA t92 true (
 letO (idx 1 t89 (L22.getD 1 .any)) fun t93 =>
 letO (load1 t93 H23) fun t94 =>
 letO (some (t94 : AV)) fun t18 =>
 letO (some ((L22.getD 0 .any) : AV)) fun t95 =>
 letO (some (t18 : AV)) fun t96 =>
 letO (binF Try.prog .add 3 t95 t96) fun t97 =>
 letO (some (t97 : AV)) fun t12 =>
 letO (binF Try.prog .add 3 (L22.getD 1 .any) (.int .i64 1)) fun t98 =>
 letO (some (t98 : AV)) fun t91 =>
 I20 [t12, t91] H23 ∧ μ21 [t12, t91] H23 < μ21 L22 H23) (
 letO (faddr 1 t5) fun t99 =>
 letO (load1 t99 H23) fun t100 =>
 letO (lenA t100) fun t101 =>
 letO (some (t6 : AV)) fun t102 =>
 letO (lenA t102) fun t103 =>
 letO (binF Try.prog .sub 3 t101 t103) fun t104 =>
 letO (some (t104 : AV)) fun t19 =>
 letO (some (t9 : AV)) fun t105 =>
 letO (some ((L14.getD 1 .any) : AV)) fun t106 =>
 letO (binF Try.prog .eql 3 t105 t106) fun t107 =>
 letO (some (t107 : AV)) fun t108 =>
 letO (gval t108 true (some ((L22.getD 0 .any) : AV))) fun t109 =>
 letO (gval t108 true (some (t19 : AV))) fun t110 =>
 letO (gval t108 true (binF Try.prog .add 3 t109 t110)) fun t111 =>
 letO (gval t108 true (some (t6 : AV))) fun t112 =>
 letO (gval t108 true (lenA t112)) fun t113 =>
 letO (gval t108 true (faddr 0 t5)) fun t114 =>
 letO (gval t108 true (load1 t114 H23)) fun t115 =>
 letO (gval t108 true (binF Try.prog .mul 3 t113 t115)) fun t116 =>
 letO (gval t108 true (binF Try.prog .eql 3 t111 t116)) fun t117 =>
 letO (pickF t108 t117 (.bool false)) fun t118 =>
 letO (some (t118 : AV)) fun t119 =>
 ∃ J24 : AV → Heap → Prop, condG t119 true (ACalls Try.prog 16 [] H23 fun t120 H25 =>
 J24 t120 H25) (J24 (.tup []) H23) ∧ ∀ t120 H26, J24 t120 H26 →
 letO (pickF t119 t120 (.bool false)) fun t121 =>
 letO (some (t121 : AV)) fun t4 =>
endK t4 H26 K)))) H4) H3

theorem W8_ok {x0 x1 : AV} {H : Heap} {K : AV → Heap → Prop} (h : W8 x0 x1 H K) : ACalls Try.prog 8 [x0, x1] H K :=
  acallsB (fn := Try.f8) (cfg := cfgOf [] [] [] [] []) (hh := (.dir .nil (.dir .nil (.dir .nil (.dir .nil (.dir .nil (.dir (.dir .nil (.dir .nil .nil)) (.dir .nil (.dir (.dir .nil (.blk (.loop [12, 13, 11, 58] [59, 60, 61, 62, 14, 15, 63, 64, 65, 66, 16, 67, 68, 69, 70, 71, 72, 4, 73, 74, 75, 12, 76, 77, 78, 79, 80, 81, 82, 83, 84, 85, 13, 86, 11, 87, 58] (.dir .nil (.dir .nil (.dir (.blk (.dir .nil (.dir .nil (.dir (.dir .nil (.dir .nil .nil)) (.dir .nil (.cut [13] [76, 77, 78, 79, 80, 81, 82, 83, 84, 85, 13] (.dir .nil .nil) .nil)))))) .nil)))))) (.dir (.dir .nil (.blk (.loop [12, 91] [92, 93, 94, 18, 95, 96, 97, 12, 98, 91] (.dir .nil (.dir .nil (.dir .nil .nil)))))) (.dir .nil .nil))))))))))) follows Try.func8 (by kernel_rfl) (Nat.le_of_ble_eq_true (by kernel_rfl)) (by kernel_rfl) h

/-- (headword.headwordlaw13.Galley).made -/
def W34 (x0 x1 : AV) (H : Heap) (K : AV → Heap → Prop) : Prop :=
 letO (cellsOf? x0) fun c1 =>
 allocA [(.int .i64 0), .nils] (fun t4 H2 =>
 letO (faddr 0 (.iptr c1)) fun t9 =>
 letO (load1 t9 H2) fun t10 =>
 letO (convF Try.prog 5 3 t10) fun t11 =>
 letO (binF Try.prog .rem 3 t11 (.int .i64 40)) fun t12 =>
 letO (binF Try.prog .add 3 (.int .i64 1) t12) fun t13 =>
 letO (buildF Try.prog 24 [(0, t13)]) fun t14 =>
 allocA [(.int .i64 0), .nils] (fun t5 H3 =>
 storeA 2 t5 t14 (fun H4 =>
 letO (faddr 0 t5) fun t15 =>
 letO (load1 t15 H4) fun t16 =>
 letO (some (t16 : AV)) fun t6 =>
 true = true ∧ ∃ J5 : List AV → Heap → Prop, (
 letO (faddr 2 (.iptr c1)) fun t17 =>
 letO (load1 t17 H4) fun t18 =>
 letO (binF Try.prog .rem 5 t18 (.int .u8 3)) fun t19 =>
 letO (binF Try.prog .gtr 5 t19 (.int .u8 0)) fun t20 =>
 condA t20 true (
 letO (faddr 0 t5) fun t21 =>
 letO (load1 t21 H4) fun t22 =>
 letO (binF Try.prog .quo 3 t22 (.int .i64 2)) fun t23 =>
 letO (binF Try.prog .add 3 (.int .i64 1) t23) fun t24 =>
 letO (some (t24 : AV)) fun t6 =>
 J5 [t6] H4) (
 J5 [t6] H4)) ∧ ∀ L6 H7, J5 L6 H7 → -- [t6]
 letO (faddr 3 (.iptr c1)) fun t25 =>
 letO (faddr 1 (.iptr c1)) fun t26 =>
 letO (load1 t26 H7) fun t27 =>
 letO (convF Try.prog 5 3 t27) fun t28 =>
 letO (some (x1 : AV)) fun t29 =>
 letO (binF Try.prog .rem 3 t28 t29) fun t30 =>
 letO (binF Try.prog .add 3 (.int .i64 1) t30) fun t31 =>
 letO (slcArr 10 1 t25 none (some t31) none) fun t32 =>
 letO (lenA t32) fun t33 =>
 letO (some ((.int .i64 0) : AV)) fun t34 =>
 true = true ∧ ∃ (I8 : List AV → Heap → Prop) (μ9 : List AV → Heap → Nat), I8 [t34] H7 ∧ ∀ L10 H11, I8 L10 H11 → -- [t34]
 letO (binF Try.prog .lss 3 (L10.getD 0 .any) t33) fun t35 =>
 condA t35 true (
 letO (idx 1 t32 (L10.getD 0 .any)) fun t36 =>
 letO (load1 t36 H11) fun t37 =>
 letO (some (t37 : AV)) fun t8 =>
 true = true ∧
 letO (faddr 1 t5) fun t38 =>
 letO (load1 t38 H11) fun t39 =>
 letO (some (t8 : AV)) fun t40 =>
 letO (convF Try.prog 5 3 t40) fun t41 =>
 letO (some ((L6.getD 0 .any) : AV)) fun t42 =>
 letO (faddr 0 t5) fun t43 =>
 letO (load1 t43 H11) fun t44 =>
 letO (min2F t42 t44) fun t45 =>
 letO (binF Try.prog .rem 3 t41 t45) fun t46 =>
 letO (binF Try.prog .add 3 (.int .i64 1) t46) fun t47 =>
 letO (literalF Try.prog 22 1 [(0, t47)]) fun c12 =>
 appendA 1 8 t39 (.imm 1 true c12) (fun t49 H13 =>
 letO (faddr 1 t5) fun t50 =>
 storeA 1 t50 t49 (fun H14 =>
 letO (binF Try.prog .add 3 (L10.getD 0 .any) (.int .i64 1)) fun t51 =>
 letO (some (t51 : AV)) fun t34 =>
 I8 [t34] H14 ∧ μ9 [t34] H14 < μ9 L10 H11) H13) H11) (
 letO (loadN 2 t5 H11) fun t52 =>
 storeA 2 t4 t52 (fun H15 =>
 letO (loadN 2 t4 H15) fun r16 => endK r16 H15 K) H11)) H3) H2) H

theorem W34_ok {x0 x1 : AV} {H : Heap} {K : AV → Heap → Prop} (h : W34 x0 x1 H K) : ACalls Try.prog 34 [x0, x1] H K :=
  acallsB (fn := Try.f34) (cfg := cfgOf [] [] [(8, [0, 1, 0, 4, 0, 0, 32, 112, 252, 508, 1020, 2047, 4095, 8191])] [] []) (hh := (.dir .nil (.dir .nil (.dir .nil (.cut [6] [17, 18, 19, 20, 21, 22, 23, 24, 6] (.dir .nil .nil) (.dir (.dir .nil (.blk (.loop [34] [35, 36, 37, 8, 38, 39, 40, 41, 42, 43, 44, 45, 46, 47, 48, 49, 50, 51, 34] (.dir .nil (.dir .nil (.dir .nil .nil)))))) .nil)))))) follows Try.func34 (by kernel_rfl) (Nat.le_of_ble_eq_true (by kernel_rfl)) (by kernel_rfl) h

/-- headword.headwordlaw13.broken -/
def W39 (x0 x1 : AV) (H : Heap) (K : AV → Heap → Prop) : Prop :=
 letO (cellsOf? x0) fun c1 =>
 letO (cellsOf? x1) fun c2 =>
 letO (some (.nils : AV)) fun t4 =>
 letO (some (.nils : AV)) fun t5 =>
 letO (some ((.int .i64 0) : AV)) fun t6 =>
 true = true ∧ ∃ (I3 : List AV → Heap → Prop) (μ4 : List AV → Heap → Nat), I3 [t5, t6] H ∧ ∀ L5 H6, I3 L5 H6 → -- [t5, t6]
 letO (some ((L5.getD 1 .any) : AV)) fun t8 =>
 letO (faddr 1 (.iptr c1)) fun t9 =>
 letO (load1 t9 H6) fun t10 =>
 letO (lenA t10) fun t11 =>
 letO (binF Try.prog .lss 3 t8 t11) fun t12 =>
 condA t12 true (
 letO (some ((L5.getD 1 .any) : AV)) fun t13 =>
 letO (binF Try.prog .add 3 t13 (.int .i64 1)) fun t14 =>
 letO (some (t14 : AV)) fun t7 =>
 true = true ∧ ∃ (I7 : List AV → Heap → Prop) (μ8 : List AV → Heap → Nat), I7 [t7] H6 ∧ ∀ L9 H10, I7 L9 H10 → -- [t7]
 letO (some ((L9.getD 0 .any) : AV)) fun t15 =>
 letO (faddr 1 (.iptr c1)) fun t16 =>
 letO (load1 t16 H10) fun t17 =>
 letO (lenA t17) fun t18 =>
 letO (binF Try.prog .lss 3 t15 t18) fun t19 =>
 letO (some (t19 : AV)) fun t20 =>
 letO (gval t20 true (loadN 2 (.iptr c1) H10)) fun t21 =>
 letO (gval t20 true (some ((L5.getD 1 .any) : AV))) fun t22 =>
 letO (gval t20 true (some ((L9.getD 0 .any) : AV))) fun t23 =>
 letO (gval t20 true (binF Try.prog .add 3 t23 (.int .i64 1))) fun t24 =>
 ∃ J11 : AV → Heap → Prop, condG t20 true (ACalls Try.prog 43 [t21, t22, t24] H10 fun t25 H12 =>
 J11 t25 H12) (J11 (.tup []) H10) ∧ ∀ t25 H13, J11 t25 H13 →
 letO (gval t20 true (binF Try.prog .geq 3 t25 (.int .i64 0))) fun t26 =>
 letO (pickF t20 t26 (.bool false)) fun t27 =>
 letO (some (t27 : AV)) fun t28 =>
 letO (gval t28 true (some ((L9.getD 0 .any) : AV))) fun t29 =>
 letO (gval t28 true (idxArr 10 1 (.iptr c2) t29)) fun t30 =>
 letO (gval t28 true (load1 t30 H13)) fun t31 =>
 letO (gval t28 true (binF Try.prog .rem 5 t31 (.int .u8 4))) fun t32 =>
 letO (gval t28 true (binF Try.prog .gtr 5 t32 (.int .u8 0))) fun t33 =>
 letO (pickF t28 t33 (.bool false)) fun t34 =>
 condA t34 true (
 letO (some ((L9.getD 0 .any) : AV)) fun t35 =>
 letO (binF Try.prog .add 3 t35 (.int .i64 1)) fun t36 =>
 letO (some (t36 : AV)) fun t7 =>
 I7 [t7] H13 ∧ μ8 [t7] H13 < μ8 L9 H10) (
 letO (some ((L5.getD 0 .any) : AV)) fun t37 =>
 letO (some ((L9.getD 0 .any) : AV)) fun t38 =>
 letO (literalF Try.prog 22 1 [(0, t38)]) fun c14 =>
 appendA 1 8 t37 (.imm 1 true c14) (fun t40 H15 =>
 letO (some (t40 : AV)) fun t5 =>
 letO (some ((L9.getD 0 .any) : AV)) fun t41 =>
 letO (some (t41 : AV)) fun t6 =>
 I3 [t5, t6] H15 ∧ μ4 [t5, t6] H15 < μ4 L5 H6) H13)) (
 letO (some ((L5.getD 0 .any) : AV)) fun t42 =>
 letO (some (t42 : AV)) fun t4 =>
endK t4 H6 K)

theorem W39_ok {x0 x1 : AV} {H : Heap} {K : AV → Heap → Prop} (h : W39 x0 x1 H K) : ACalls Try.prog 39 [x0, x1] H K :=
  acallsB (fn := Try.f39) (cfg := cfgOf [] [] [] [] []) (hh := (.dir .nil (.dir .nil (.dir (.dir .nil (.blk (.loop [5, 6] [8, 9, 10, 11, 12, 13, 14, 7, 15, 16, 17, 18, 19, 20, 21, 22, 23, 24, 25, 26, 27, 28, 29, 30, 31, 32, 33, 34, 35, 36, 37, 38, 39, 40, 5, 41, 6] (.dir (.dir .nil .nil) (.blk (.dir .nil (.dir (.blk (.loop [7] [15, 16, 17, 18, 19, 20, 21, 22, 23, 24, 25, 26, 27, 28, 29, 30, 31, 32, 33, 34, 35, 36, 7] (.dir (.dir .nil .nil) .nil))) .nil))))))) .nil)))) follows Try.func39 (by kernel_rfl) (Nat.le_of_ble_eq_true (by kernel_rfl)) (by kernel_rfl) h

/-- headword.headwordlaw13.left -/
def W43 (x0 x1 x2 : AV) (H : Heap) (K : AV → Heap → Prop) : Prop :=
 letO (cellsOf? x0) fun c1 =>
 letO (some ((.int .i64 0) : AV)) fun t6 =>
 letO (some ((.int .i64 (-1)) : AV)) fun t7 =>
 letO (faddr 1 (.iptr c1)) fun t10 =>
 letO (load1 t10 H) fun t11 =>
 letO (some (x1 : AV)) fun t12 =>
 letO (some (x2 : AV)) fun t13 =>
 letO (slc 1 t11 (some t12) (some t13) none) fun t14 =>
 letO (lenA t14) fun t15 =>
 letO (some ((.int .i64 0) : AV)) fun t16 =>
 true = true ∧ ∃ (I2 : List AV → Heap → Prop) (μ3 : List AV → Heap → Nat), I2 [t7, t16] H ∧ ∀ L4 H5, I2 L4 H5 → -- [t7, t16]
 letO (binF Try.prog .lss 3 (L4.getD 1 .any) t15) fun t17 =>
 condA t17 true (
 letO (idx 1 t14 (L4.getD 1 .any)) fun t18 =>
 letO (load1 t18 H5) fun t19 =>
 letO (some (t19 : AV)) fun t9 =>
 letO (some ((L4.getD 0 .any) : AV)) fun t20 =>
 letO (some (t9 : AV)) fun t21 =>
 letO (binF Try.prog .add 3 t21 (.int .i64 1)) fun t22 =>
 letO (binF Try.prog .add 3 t20 t22) fun t23 =>
 letO (some (t23 : AV)) fun t7 =>
 letO (binF Try.prog .add 3 (L4.getD 1 .any) (.int .i64 1)) fun t24 =>
 letO (some (t24 : AV)) fun t16 =>
 I2 [t7, t16] H5 ∧ μ3 [t7, t16] H5 < μ3 L4 H5) (
 letO (faddr 0 (.iptr c1)) fun t25 =>
 letO (load1 t25 H5) fun t26 =>
 letO (some ((L4.getD 0 .any) : AV)) fun t27 =>
 letO (binF Try.prog .sub 3 t26 t27) fun t28 =>
 letO (some (t28 : AV)) fun t6 =>
endK t6 H5 K)

theorem W43_ok {x0 x1 x2 : AV} {H : Heap} {K : AV → Heap → Prop} (h : W43 x0 x1 x2 H K) : ACalls Try.prog 43 [x0, x1, x2] H K :=
  acallsB (fn := Try.f43) (cfg := cfgOf [] [] [] [] []) (hh := (.dir .nil (.dir .nil (.dir (.dir .nil (.blk (.loop [7, 16] [17, 18, 19, 9, 20, 21, 22, 23, 7, 24, 16] (.dir .nil (.dir .nil (.dir .nil .nil)))))) .nil)))) follows Try.func43 (by kernel_rfl) (Nat.le_of_ble_eq_true (by kernel_rfl)) (by kernel_rfl) h


end Go.Proofs.Ytlajhbpkogekfaa
