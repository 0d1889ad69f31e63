import Derived.Test.YtlajhbpkogekfaaCon
/- The functions of the statement LineShown that the line package does not hold, each in the words of its walk; made by program. -/
set_option linter.unusedVariables false
set_option maxRecDepth 100000
namespace Go.Proofs.Ytlajhbpkogekfaa
open Go.Av
/-- headword.headwordlaw13.LineShown -/
def W10 (x0 x1 x2 : AV) (H : Heap) (K : AV → Heap → Prop) : Prop :=
 letO (cellsOf? x0) fun c1 =>
 letO (some ((.bool false) : AV)) fun t6 =>
 letO (loadN 13 (.iptr c1) H) fun t23 =>
 ACalls Try.prog 34 [t23, (.int .i64 10)] H fun t24 H2 =>
 allocA [(.int .i64 0), .nils] (fun t7 H3 =>
 storeA 2 t7 t24 (fun H4 =>
 letO (faddr 1 t7) fun t25 =>
 letO (load1 t25 H4) fun t26 =>
 letO (lenA t26) fun t27 =>
 letO (some (t27 : AV)) fun t8 =>
 letO (some (.nils : AV)) fun t9 =>
 letO (some ((.int .i64 1) : AV)) fun t10 =>
 true = true ∧ ∃ (I5 : List AV → Heap → Prop) (μ6 : List AV → Heap → Nat), I5 [t9, t10] H4 ∧ ∀ L7 H8, I5 L7 H8 → -- [t9, t10]
 letO (some ((L7.getD 1 .any) : AV)) fun t28 =>
 letO (some (t8 : AV)) fun t29 =>
 letO (binF Try.prog .lss 3 t28 t29) fun t30 =>
 condA t30 true (
 true = true ∧ ∃ J9 : List AV → Heap → Prop, (
 letO (some (x1 : AV)) fun t33 =>
 letO (some ((L7.getD 1 .any) : AV)) fun t34 =>
 letO (binF Try.prog .shr 61 t33 t34) fun t35 =>
 letO (binF Try.prog .and 61 t35 (.int .u16 1)) fun t36 =>
 letO (binF Try.prog .eql 61 t36 (.int .u16 1)) fun t37 =>
 condA t37 true (
 letO (some ((L7.getD 0 .any) : AV)) fun t38 =>
 letO (some ((L7.getD 1 .any) : AV)) fun t39 =>
 letO (literalF Try.prog 22 1 [(0, t39)]) fun c10 =>
 appendA 1 8 t38 (.imm 1 true c10) (fun t41 H11 =>
 letO (some (t41 : AV)) fun t9 =>
 J9 [t9] H11) H8) (
 J9 [(L7.getD 0 .any)] H8)) ∧ ∀ L12 H13, J9 L12 H13 → -- [t9]
 letO (some ((L7.getD 1 .any) : AV)) fun t31 =>
 letO (binF Try.prog .add 3 t31 (.int .i64 1)) fun t32 =>
 letO (some (t32 : AV)) fun t10 =>
 I5 [(L12.getD 0 .any), t10] H13 ∧ μ6 [(L12.getD 0 .any), t10] H13 < μ6 L7 H8) (
 letO (some ((L7.getD 0 .any) : AV)) fun t42 =>
 letO (some (t8 : AV)) fun t43 =>
 letO (literalF Try.prog 22 1 [(0, t43)]) fun c14 =>
 appendA 1 8 t42 (.imm 1 true c14) (fun t45 H15 =>
 letO (some (t45 : AV)) fun t9 =>
 letO (some ((.int .i64 0) : AV)) fun t11 =>
 letO (some ((.int .i64 0) : AV)) fun t12 =>
 letO (some (t9 : AV)) fun t46 =>
 letO (lenA t46) fun t47 =>
 letO (some ((.int .i64 0) : AV)) fun t48 =>
 true = true ∧ ∃ (I16 : List AV → Heap → Prop) (μ17 : List AV → Heap → Nat), I16 [t11, t12, t48] H15 ∧ ∀ L18 H19, I16 L18 H19 → -- [t11, t12, t48]
 letO (binF Try.prog .lss 3 (L18.getD 2 .any) t47) fun t49 =>
 condA t49 true (
 letO (idx 1 t46 (L18.getD 2 .any)) fun t50 =>
 letO (load1 t50 H19) fun t51 =>
 letO (some (t51 : AV)) fun t14 =>
 true = true ∧ ∃ J20 : List AV → Heap → Prop, (
 letO (loadN 2 t7 H19) fun t52 =>
 letO (some ((L18.getD 1 .any) : AV)) fun t53 =>
 letO (some (t14 : AV)) fun t54 =>
 ACalls Try.prog 43 [t52, t53, t54] H19 fun t55 H21 =>
 letO (binF Try.prog .lss 3 t55 (.int .i64 0)) fun t56 =>
 condA t56 true (
 letO (some ((.int .i64 15) : AV)) fun t11 =>
 J20 [t11] H21) (
 J20 [(L18.getD 0 .any)] H21)) ∧ ∀ L22 H23, J20 L22 H23 → -- [t11]
 letO (some (t14 : AV)) fun t57 =>
 letO (some (t57 : AV)) fun t12 =>
 letO (binF Try.prog .add 3 (L18.getD 2 .any) (.int .i64 1)) fun t58 =>
 letO (some (t58 : AV)) fun t48 =>
 I16 [(L22.getD 0 .any), t12, t48] H23 ∧ μ17 [(L22.getD 0 .any), t12, t48] H23 < μ17 L18 H19) (
 true = true ∧ ∃ J24 : List AV → Heap → Prop, (
 letO (some (x2 : AV)) fun t59 =>
 letO (binF Try.prog .rem 5 t59 (.int .u8 8)) fun t60 =>
 letO (binF Try.prog .eql 5 t60 (.int .u8 0)) fun t62 =>
 letO (some (t62 : AV)) fun t61 =>
 condA t61 true (
 letO (some (t9 : AV)) fun t63 =>
 letO (some (t9 : AV)) fun t64 =>
 letO (lenA t64) fun t65 =>
 letO (binF Try.prog .sub 3 t65 (.int .i64 1)) fun t66 =>
 letO (slc 1 t63 none (some t66) none) fun t67 =>
 letO (some (t67 : AV)) fun t9 =>
 letO (some ((.int .i64 5) : AV)) fun t11 =>
 J24 [t9, t11] H19) (
 letO (binF Try.prog .eql 5 t60 (.int .u8 1)) fun t69 =>
 letO (some (t69 : AV)) fun t68 =>
 condA t68 true (
 letO (some (t9 : AV)) fun t70 =>
 letO (some (t8 : AV)) fun t71 =>
 letO (binF Try.prog .add 3 t71 (.int .i64 1)) fun t72 =>
 letO (literalF Try.prog 22 1 [(0, t72)]) fun c25 =>
 appendA 1 8 t70 (.imm 1 true c25) (fun t74 H26 =>
 letO (some (t74 : AV)) fun t9 =>
 letO (some ((.int .i64 2) : AV)) fun t11 =>
 J24 [t9, t11] H26) H19) (
 letO (binF Try.prog .eql 5 t60 (.int .u8 2)) fun t76 =>
 letO (some (t76 : AV)) fun t75 =>
 condA t75 true (
 letO (some (t9 : AV)) fun t77 =>
 letO (some (t8 : AV)) fun t78 =>
 letO (literalF Try.prog 22 1 [(0, t78)]) fun c27 =>
 appendA 1 8 t77 (.imm 1 true c27) (fun t80 H28 =>
 letO (some (t80 : AV)) fun t9 =>
 letO (some ((.int .i64 7) : AV)) fun t11 =>
 J24 [t9, t11] H28) H19) (
 letO (binF Try.prog .eql 5 t60 (.int .u8 3)) fun t82 =>
 letO (some (t82 : AV)) fun t81 =>
 condA t81 true (
 letO (literalF Try.prog 22 1 [(0, (.int .i64 0))]) fun c29 =>
 ACalls Try.prog 46 [(.imm 1 true c29)] H19 fun t84 H30 =>
 letO (some (t9 : AV)) fun t85 =>
 appendA 1 8 t84 t85 (fun t86 H31 =>
 letO (some (t86 : AV)) fun t9 =>
 letO (some ((.int .i64 2) : AV)) fun t11 =>
 J24 [t9, t11] H31) H30) (
 J24 [t9, (L18.getD 0 .any)] H19))))) ∧ ∀ L32 H33, J24 L32 H33 → -- [t9, t11]
 letO (loadN 2 t7 H33) fun t88 =>
 letO (some ((L32.getD 0 .any) : AV)) fun t89 =>
 ACalls Try.prog 44 [t88, t89] H33 fun t90 H34 =>
 letO (some (t90 : AV)) fun t87 =>
 letO (extrF t87 0) fun t91 =>
 letO (extrF t87 1) fun t92 =>
 letO (some (t91 : AV)) fun t15 =>
 letO (some (t92 : AV)) fun t16 =>
 letO (loadN 2 t7 H34) fun t94 =>
 letO (some ((L32.getD 0 .any) : AV)) fun t95 =>
 ACalls Try.prog 45 [t94, t95] H34 fun t96 H35 =>
 letO (some (t96 : AV)) fun t93 =>
 letO (extrF t93 0) fun t97 =>
 letO (extrF t93 1) fun t98 =>
 letO (some (t97 : AV)) fun t17 =>
 letO (some (t98 : AV)) fun t18 =>
 letO (loadN 2 t7 H35) fun t100 =>
 letO (some ((L32.getD 0 .any) : AV)) fun t101 =>
 ACalls Try.prog 32 [t100, t101, (.int .i64 (-1)), (.int .i64 0)] H35 fun t102 H36 =>
 letO (some (t102 : AV)) fun t99 =>
 letO (extrF t99 0) fun t103 =>
 letO (extrF t99 1) fun t104 =>
 letO (extrF t99 2) fun t105 =>
 letO (some (t103 : AV)) fun t19 =>
 letO (some (t104 : AV)) fun t20 =>
 letO (some (t105 : AV)) fun t21 =>
 letO (some ((L32.getD 1 .any) : AV)) fun t106 =>
 letO (some (t106 : AV)) fun t22 =>
 true = true ∧ ∃ J37 : List AV → Heap → Prop, (
 letO (some ((L32.getD 1 .any) : AV)) fun t107 =>
 letO (binF Try.prog .eql 27 t107 (.int .i64 0)) fun t108 =>
 condA t108 true (
 letO (some ((.int .i64 2) : AV)) fun t22 =>
 J37 [t22] H36) (
 J37 [t22] H36)) ∧ ∀ L38 H39, J37 L38 H39 → -- [t22]
 letO (loadN 2 t7 H39) fun t109 =>
 letO (some ((L32.getD 0 .any) : AV)) fun t110 =>
 ACalls Try.prog 42 [t109, t110] H39 fun t111 H40 =>
 letO (some ((L32.getD 1 .any) : AV)) fun t112 =>
 letO (binF Try.prog .eql 27 t111 t112) fun t113 =>
 letO (some (t113 : AV)) fun t114 =>
 letO (gval t114 true (some (t16 : AV))) fun t115 =>
 letO (gval t114 true (some ((L32.getD 1 .any) : AV))) fun t116 =>
 letO (gval t114 true (binF Try.prog .eql 27 t115 t116)) fun t117 =>
 letO (pickF t114 t117 (.bool false)) fun t118 =>
 letO (some (t118 : AV)) fun t119 =>
 letO (gval t119 true (some (t18 : AV))) fun t120 =>
 letO (gval t119 true (some ((L32.getD 1 .any) : AV))) fun t121 =>
 letO (gval t119 true (binF Try.prog .eql 27 t120 t121)) fun t122 =>
 letO (pickF t119 t122 (.bool false)) fun t123 =>
 letO (some (t123 : AV)) fun t124 =>
 letO (gval t124 true (some (t21 : AV))) fun t125 =>
 letO (gval t124 true (some ((L38.getD 0 .any) : AV))) fun t126 =>
 letO (gval t124 true (binF Try.prog .eql 27 t125 t126)) fun t127 =>
 letO (pickF t124 t127 (.bool false)) fun t128 =>
 letO (some (t128 : AV)) fun t129 =>
 ∃ J41 : AV → Heap → Prop, condA t129 true (ACalls Try.prog 16 [] H40 fun t130 H42 =>
 J41 t130 H42) (J41 .any H40) ∧ ∀ t130 H43, J41 t130 H43 →
 letO (pickF t129 t130 (.bool false)) fun t131 =>
 letO (some (t131 : AV)) fun t6 =>
endK t6 H43 K)) H8)) H3) H2

theorem W10_ok {x0 x1 x2 : AV} {H : Heap} {K : AV → Heap → Prop} (h : W10 x0 x1 x2 H K) : ACalls Try.prog 10 [x0, x1, x2] H K :=
  acallsB (fn := Try.f10) (cfg := cfgOf [] [] [] [] []) (hh := (.dir .nil (.dir .nil (.dir .nil (.dir .nil (.dir (.dir .nil (.blk (.loop [9, 10] [28, 29, 30, 33, 34, 35, 36, 37, 38, 39, 40, 41, 9, 31, 32, 10] (.dir (.dir .nil .nil) (.cut [9] [33, 34, 35, 36, 37, 38, 39, 40, 41, 9] (.blk (.dir .nil .nil)) .nil))))) (.dir .nil (.dir .nil (.dir .nil (.dir (.dir .nil (.blk (.loop [11, 12, 48] [49, 50, 51, 14, 52, 53, 54, 55, 56, 11, 57, 12, 58, 48] (.dir .nil (.dir .nil (.dir (.blk (.dir .nil (.cut [11] [52, 53, 54, 55, 56, 11] (.dir .nil .nil) .nil))) .nil)))))) (.cut [9, 11] [59, 60, 62, 61, 63, 64, 65, 66, 67, 9, 11, 69, 68, 70, 71, 72, 73, 74, 76, 75, 77, 78, 79, 80, 82, 81, 83, 84, 85, 86] (.dir .nil (.blk (.dir .nil (.dir .nil (.dir .nil (.dir .nil (.dir .nil (.dir .nil (.dir .nil .nil))))))))) (.dir .nil (.dir .nil (.dir .nil (.dir .nil (.cut [22] [107, 108, 22] (.dir .nil .nil) .nil)))))))))))))))) follows Try.func10 (by kernel_rfl) (Nat.le_of_ble_eq_true (by kernel_rfl)) (by kernel_rfl) h

/-- (headword.headwordlaw13.Galley).made -/
def W34 (x0 x1 : AV) (H : Heap) (K : AV → Heap → Prop) : Prop :=
 letO (cellsOf? x0) fun c1 =>
 allocA [(.int .i64 0), .nils] (fun t4 H2 =>
 letO (faddr 0 (.iptr c1)) fun t9 =>
 letO (load1 t9 H2) fun t10 =>
 letO (convF Try.prog 5 3 t10) fun t11 =>
 letO (binF Try.prog .rem 3 t11 (.int .i64 40)) fun t12 =>
 letO (binF Try.prog .add 3 (.int .i64 1) t12) fun t13 =>
 letO (buildF Try.prog 24 [(0, t13)]) fun t14 =>
 allocA [(.int .i64 0), .nils] (fun t5 H3 =>
 storeA 2 t5 t14 (fun H4 =>
 letO (faddr 0 t5) fun t15 =>
 letO (load1 t15 H4) fun t16 =>
 letO (some (t16 : AV)) fun t6 =>
 true = true ∧ ∃ J5 : List AV → Heap → Prop, (
 letO (faddr 2 (.iptr c1)) fun t17 =>
 letO (load1 t17 H4) fun t18 =>
 letO (binF Try.prog .rem 5 t18 (.int .u8 3)) fun t19 =>
 letO (binF Try.prog .gtr 5 t19 (.int .u8 0)) fun t20 =>
 condA t20 true (
 letO (faddr 0 t5) fun t21 =>
 letO (load1 t21 H4) fun t22 =>
 letO (binF Try.prog .quo 3 t22 (.int .i64 2)) fun t23 =>
 letO (binF Try.prog .add 3 (.int .i64 1) t23) fun t24 =>
 letO (some (t24 : AV)) fun t6 =>
 J5 [t6] H4) (
 J5 [t6] H4)) ∧ ∀ L6 H7, J5 L6 H7 → -- [t6]
 letO (faddr 3 (.iptr c1)) fun t25 =>
 letO (faddr 1 (.iptr c1)) fun t26 =>
 letO (load1 t26 H7) fun t27 =>
 letO (convF Try.prog 5 3 t27) fun t28 =>
 letO (some (x1 : AV)) fun t29 =>
 letO (binF Try.prog .rem 3 t28 t29) fun t30 =>
 letO (binF Try.prog .add 3 (.int .i64 1) t30) fun t31 =>
 letO (slcArr 10 1 t25 none (some t31) none) fun t32 =>
 letO (lenA t32) fun t33 =>
 letO (some ((.int .i64 0) : AV)) fun t34 =>
 true = true ∧ ∃ (I8 : List AV → Heap → Prop) (μ9 : List AV → Heap → Nat), I8 [t34] H7 ∧ ∀ L10 H11, I8 L10 H11 → -- [t34]
 letO (binF Try.prog .lss 3 (L10.getD 0 .any) t33) fun t35 =>
 condA t35 true (
 letO (idx 1 t32 (L10.getD 0 .any)) fun t36 =>
 letO (load1 t36 H11) fun t37 =>
 letO (some (t37 : AV)) fun t8 =>
 true = true ∧
 letO (faddr 1 t5) fun t38 =>
 letO (load1 t38 H11) fun t39 =>
 letO (some (t8 : AV)) fun t40 =>
 letO (convF Try.prog 5 3 t40) fun t41 =>
 letO (some ((L6.getD 0 .any) : AV)) fun t42 =>
 letO (faddr 0 t5) fun t43 =>
 letO (load1 t43 H11) fun t44 =>
 letO (min2F t42 t44) fun t45 =>
 letO (binF Try.prog .rem 3 t41 t45) fun t46 =>
 letO (binF Try.prog .add 3 (.int .i64 1) t46) fun t47 =>
 letO (literalF Try.prog 22 1 [(0, t47)]) fun c12 =>
 appendA 1 8 t39 (.imm 1 true c12) (fun t49 H13 =>
 letO (faddr 1 t5) fun t50 =>
 storeA 1 t50 t49 (fun H14 =>
 letO (binF Try.prog .add 3 (L10.getD 0 .any) (.int .i64 1)) fun t51 =>
 letO (some (t51 : AV)) fun t34 =>
 I8 [t34] H14 ∧ μ9 [t34] H14 < μ9 L10 H11) H13) H11) (
 letO (loadN 2 t5 H11) fun t52 =>
 storeA 2 t4 t52 (fun H15 =>
 letO (loadN 2 t4 H15) fun r16 => endK r16 H15 K) H11)) H3) H2) H

theorem W34_ok {x0 x1 : AV} {H : Heap} {K : AV → Heap → Prop} (h : W34 x0 x1 H K) : ACalls Try.prog 34 [x0, x1] H K :=
  acallsB (fn := Try.f34) (cfg := cfgOf [] [] [(8, [0, 1, 0, 4, 0, 0, 32, 112, 252, 508, 1020, 2047, 4095, 8191])] [] []) (hh := (.dir .nil (.dir .nil (.dir .nil (.cut [6] [17, 18, 19, 20, 21, 22, 23, 24, 6] (.dir .nil .nil) (.dir (.dir .nil (.blk (.loop [34] [35, 36, 37, 8, 38, 39, 40, 41, 42, 43, 44, 45, 46, 47, 48, 49, 50, 51, 34] (.dir .nil (.dir .nil (.dir .nil .nil)))))) .nil)))))) follows Try.func34 (by kernel_rfl) (Nat.le_of_ble_eq_true (by kernel_rfl)) (by kernel_rfl) h

/-- headword.headwordlaw13.left -/
def W43 (x0 x1 x2 : AV) (H : Heap) (K : AV → Heap → Prop) : Prop :=
 letO (cellsOf? x0) fun c1 =>
 letO (some ((.int .i64 0) : AV)) fun t6 =>
 letO (some ((.int .i64 (-1)) : AV)) fun t7 =>
 letO (faddr 1 (.iptr c1)) fun t10 =>
 letO (load1 t10 H) fun t11 =>
 letO (some (x1 : AV)) fun t12 =>
 letO (some (x2 : AV)) fun t13 =>
 letO (slc 1 t11 (some t12) (some t13) none) fun t14 =>
 letO (lenA t14) fun t15 =>
 letO (some ((.int .i64 0) : AV)) fun t16 =>
 true = true ∧ ∃ (I2 : List AV → Heap → Prop) (μ3 : List AV → Heap → Nat), I2 [t7, t16] H ∧ ∀ L4 H5, I2 L4 H5 → -- [t7, t16]
 letO (binF Try.prog .lss 3 (L4.getD 1 .any) t15) fun t17 =>
 condA t17 true (
 letO (idx 1 t14 (L4.getD 1 .any)) fun t18 =>
 letO (load1 t18 H5) fun t19 =>
 letO (some (t19 : AV)) fun t9 =>
 letO (some ((L4.getD 0 .any) : AV)) fun t20 =>
 letO (some (t9 : AV)) fun t21 =>
 letO (binF Try.prog .add 3 t21 (.int .i64 1)) fun t22 =>
 letO (binF Try.prog .add 3 t20 t22) fun t23 =>
 letO (some (t23 : AV)) fun t7 =>
 letO (binF Try.prog .add 3 (L4.getD 1 .any) (.int .i64 1)) fun t24 =>
 letO (some (t24 : AV)) fun t16 =>
 I2 [t7, t16] H5 ∧ μ3 [t7, t16] H5 < μ3 L4 H5) (
 letO (faddr 0 (.iptr c1)) fun t25 =>
 letO (load1 t25 H5) fun t26 =>
 letO (some ((L4.getD 0 .any) : AV)) fun t27 =>
 letO (binF Try.prog .sub 3 t26 t27) fun t28 =>
 letO (some (t28 : AV)) fun t6 =>
endK t6 H5 K)

theorem W43_ok {x0 x1 x2 : AV} {H : Heap} {K : AV → Heap → Prop} (h : W43 x0 x1 x2 H K) : ACalls Try.prog 43 [x0, x1, x2] H K :=
  acallsB (fn := Try.f43) (cfg := cfgOf [] [] [] [] []) (hh := (.dir .nil (.dir .nil (.dir (.dir .nil (.blk (.loop [7, 16] [17, 18, 19, 9, 20, 21, 22, 23, 7, 24, 16] (.dir .nil (.dir .nil (.dir .nil .nil)))))) .nil)))) follows Try.func43 (by kernel_rfl) (Nat.le_of_ble_eq_true (by kernel_rfl)) (by kernel_rfl) h


end Go.Proofs.Ytlajhbpkogekfaa
