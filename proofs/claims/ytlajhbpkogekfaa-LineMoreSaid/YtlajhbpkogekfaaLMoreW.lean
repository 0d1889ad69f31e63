import Derived.Test.YtlajhbpkogekfaaCon
/- The functions of the statement LineMore that the line package does not hold, each in the words of its walk; made by program. -/
set_option linter.unusedVariables false
set_option maxRecDepth 100000
namespace Go.Proofs.Ytlajhbpkogekfaa
open Go.Av
/-- headword.headwordlaw13.LineMore -/
def W9 (x0 x1 x2 : AV) (H : Heap) (K : AV → Heap → Prop) : Prop :=
 letO (cellsOf? x0) fun c1 =>
 letO (cellsOf? x1) fun c2 =>
 letO (some ((.bool false) : AV)) fun t6 =>
 letO (loadN 13 (.iptr c1) H) fun t19 =>
 ACalls Try.prog 34 [t19, (.int .i64 9)] H fun t20 H3 =>
 allocA [(.int .i64 0), .nils] (fun t7 H4 =>
 storeA 2 t7 t20 (fun H5 =>
 letO (loadN 2 t7 H5) fun t22 =>
 ACalls Try.prog 36 [t22] H5 fun t23 H6 =>
 letO (some (t23 : AV)) fun t21 =>
 letO (extrF t21 0) fun t24 =>
 letO (extrF t21 1) fun t25 =>
 letO (some (t24 : AV)) fun t8 =>
 letO (some (t25 : AV)) fun t9 =>
 letO (some (t9 : AV)) fun t26 =>
 letO (binF Try.prog .neq 27 t26 (.int .i64 0)) fun t27 =>
 condA t27 true (
 letO (some ((.bool false) : AV)) fun t6 =>
endK t6 H6 K) (
 true = true ∧ ∃ J7 : List AV → Heap → Prop, (
 letO (faddr 0 t7) fun t28 =>
 letO (load1 t28 H6) fun t29 =>
 letO (binF Try.prog .lss 3 t29 (.int .i64 40)) fun t30 =>
 condA t30 true (
 letO (faddr 0 t7) fun t31 =>
 letO (load1 t31 H6) fun t32 =>
 letO (binF Try.prog .add 3 t32 (.int .i64 1)) fun t33 =>
 letO (faddr 1 t7) fun t34 =>
 letO (load1 t34 H6) fun t35 =>
 letO (buildF Try.prog 24 [(0, t33), (1, t35)]) fun t36 =>
 allocA [(.int .i64 0), .nils] (fun t10 H8 =>
 storeA 2 t10 t36 (fun H9 =>
 letO (loadN 2 t10 H9) fun t38 =>
 ACalls Try.prog 36 [t38] H9 fun t39 H10 =>
 letO (some (t39 : AV)) fun t37 =>
 letO (extrF t37 0) fun t40 =>
 letO (extrF t37 1) fun t41 =>
 letO (some (t40 : AV)) fun t11 =>
 letO (some (t41 : AV)) fun t12 =>
 true = true ∧
 letO (some (t12 : AV)) fun t42 =>
 letO (binF Try.prog .neq 27 t42 (.int .i64 0)) fun t43 =>
 letO (some (t43 : AV)) fun t44 =>
 letO (gval t44 false (some (t11 : AV))) fun t45 =>
 letO (gval t44 false (lenA t45)) fun t46 =>
 letO (gval t44 false (some (t8 : AV))) fun t47 =>
 letO (gval t44 false (lenA t47)) fun t48 =>
 letO (gval t44 false (binF Try.prog .gtr 3 t46 t48)) fun t49 =>
 letO (pickF t44 (.bool true) t49) fun t50 =>
 letO (some (t50 : AV)) fun t51 =>
 letO (gval t51 false (loadN 2 t10 H10)) fun t52 =>
 letO (gval t51 false (loadN 2 t7 H10)) fun t53 =>
 letO (gval t51 false (loadN 10 (.iptr c2) Heap.none)) fun t54 =>
 ∃ t55, condG t51 false (ACalls Try.prog 39 [t53, t54] H10 fun r h => r = t55 ∧ h = H10) (t55 = .tup []) ∧
 ∃ J11 : AV → Heap → Prop, condG t51 false (ACalls Try.prog 42 [t52, t55] H10 fun t56 H12 =>
 J11 t56 H12) (J11 (.tup []) H10) ∧ ∀ t56 H13, J11 t56 H13 →
 letO (gval t51 false (binF Try.prog .neq 27 t56 (.int .i64 0))) fun t57 =>
 letO (pickF t51 (.bool true) t57) fun t58 =>
 condA t58 true (
 letO (some ((.bool false) : AV)) fun t6 =>
endK t6 H13 K) (
 J7 [] H13)) H8) H6) (
 J7 [] H6)) ∧ ∀ L14 H15, J7 L14 H15 → -- []
 true = true ∧
 letO (faddr 0 t7) fun t59 =>
 letO (load1 t59 H15) fun t60 =>
 letO (faddr 1 t7) fun t61 =>
 letO (load1 t61 H15) fun t62 =>
 letO (some (x2 : AV)) fun t64 =>
 letO (convF Try.prog 5 3 t64) fun t65 =>
 letO (faddr 0 t7) fun t66 =>
 letO (load1 t66 H15) fun t67 =>
 letO (binF Try.prog .rem 3 t65 t67) fun t68 =>
 letO (binF Try.prog .add 3 (.int .i64 1) t68) fun t69 =>
 letO ((literalF Try.prog 22 1 [(0, t69)]).map (.imm 1 true)) fun t70 =>
 true = true ∧ ACalls Try.prog 40 [t62] H15 fun t63 H16 =>
 H15.le H16 ∧
 true = true ∧ appendA 1 8 t63 t70 (fun t71 H17 =>
 H15.le H17 ∧
 letO (buildF Try.prog 24 [(0, t60), (1, t71)]) fun t72 =>
 true = true ∧ allocA [(.int .i64 0), .nils] (fun t13 H18 =>
 H15.le H18 ∧
 true = true ∧ storeA 2 t13 t72 (fun H19 =>
 H15.le H19 ∧
 letO (loadN 2 t13 H19) fun t74 =>
 ACalls Try.prog 36 [t74] H19 fun t75 H20 =>
 letO (some (t75 : AV)) fun t73 =>
 letO (extrF t73 0) fun t76 =>
 letO (extrF t73 1) fun t77 =>
 letO (some (t76 : AV)) fun t14 =>
 letO (some (t77 : AV)) fun t9 =>
 letO (loadN 2 t7 H20) fun t79 =>
 ACalls Try.prog 26 [t79] H20 fun t80 H21 =>
 letO (some (t80 : AV)) fun t78 =>
 letO (extrF t78 0) fun t81 =>
 letO (extrF t78 1) fun t82 =>
 letO (some (t81 : AV)) fun t15 =>
 letO (some (t82 : AV)) fun t16 =>
 letO (loadN 2 t13 H21) fun t84 =>
 ACalls Try.prog 26 [t84] H21 fun t85 H22 =>
 letO (some (t85 : AV)) fun t83 =>
 letO (extrF t83 0) fun t86 =>
 letO (extrF t83 1) fun t87 =>
 letO (some (t86 : AV)) fun t17 =>
 letO (some (t87 : AV)) fun t18 =>
 letO (some (t9 : AV)) fun t88 =>
 letO (binF Try.prog .eql 27 t88 (.int .i64 0)) fun t89 =>
 letO (some (t89 : AV)) fun t90 =>
 letO (gval t90 true (some (t16 : AV))) fun t91 =>
 letO (gval t90 true (binF Try.prog .eql 27 t91 (.int .i64 0))) fun t92 =>
 letO (pickF t90 t92 (.bool false)) fun t93 =>
 letO (some (t93 : AV)) fun t94 =>
 letO (gval t94 true (some (t18 : AV))) fun t95 =>
 letO (gval t94 true (binF Try.prog .eql 27 t95 (.int .i64 0))) fun t96 =>
 letO (pickF t94 t96 (.bool false)) fun t97 =>
 letO (some (t97 : AV)) fun t98 =>
 letO (gval t98 true (some (t14 : AV))) fun t99 =>
 letO (gval t98 true (lenA t99)) fun t100 =>
 letO (gval t98 true (some (t8 : AV))) fun t101 =>
 letO (gval t98 true (lenA t101)) fun t102 =>
 letO (gval t98 true (binF Try.prog .geq 3 t100 t102)) fun t103 =>
 letO (pickF t98 t103 (.bool false)) fun t104 =>
 letO (some (t104 : AV)) fun t105 =>
 letO (gval t105 true (some (t14 : AV))) fun t106 =>
 letO (gval t105 true (lenA t106)) fun t107 =>
 letO (gval t105 true (some (t8 : AV))) fun t108 =>
 letO (gval t105 true (lenA t108)) fun t109 =>
 letO (gval t105 true (binF Try.prog .add 3 t109 (.int .i64 1))) fun t110 =>
 letO (gval t105 true (binF Try.prog .leq 3 t107 t110)) fun t111 =>
 letO (pickF t105 t111 (.bool false)) fun t112 =>
 letO (some (t112 : AV)) fun t113 =>
 letO (gval t113 true (some (t15 : AV))) fun t114 =>
 letO (gval t113 true (lenA t114)) fun t115 =>
 letO (gval t113 true (faddr 1 t7)) fun t116 =>
 letO (gval t113 true (load1 t116 H22)) fun t117 =>
 letO (gval t113 true (lenA t117)) fun t118 =>
 letO (gval t113 true (binF Try.prog .eql 3 t115 t118)) fun t119 =>
 letO (pickF t113 t119 (.bool false)) fun t120 =>
 letO (some (t120 : AV)) fun t121 =>
 letO (gval t121 true (some (t17 : AV))) fun t122 =>
 letO (gval t121 true (lenA t122)) fun t123 =>
 letO (gval t121 true (some (t15 : AV))) fun t124 =>
 letO (gval t121 true (lenA t124)) fun t125 =>
 letO (gval t121 true (binF Try.prog .add 3 t125 (.int .i64 1))) fun t126 =>
 letO (gval t121 true (binF Try.prog .eql 3 t123 t126)) fun t127 =>
 letO (pickF t121 t127 (.bool false)) fun t128 =>
 letO (some (t128 : AV)) fun t129 =>
 letO (gval t129 true (some (t15 : AV))) fun t130 =>
 letO (gval t129 true (some (t17 : AV))) fun t131 =>
 letO (gval t129 true (some (t15 : AV))) fun t132 =>
 letO (gval t129 true (lenA t132)) fun t133 =>
 letO (gval t129 true (slc 1 t131 none (some t133) none)) fun t134 =>
 ∃ J23 : AV → Heap → Prop, condG t129 true (ACalls Try.prog 25 [t130, t134] H22 fun t135 H24 =>
 J23 t135 H24) (J23 (.tup []) H22) ∧ ∀ t135 H25, J23 t135 H25 →
 letO (pickF t129 t135 (.bool false)) fun t136 =>
 letO (some (t136 : AV)) fun t137 =>
 ∃ J26 : AV → Heap → Prop, condG t137 true (ACalls Try.prog 16 [] H25 fun t138 H27 =>
 J26 t138 H27) (J26 (.tup []) H25) ∧ ∀ t138 H28, J26 t138 H28 →
 letO (pickF t137 t138 (.bool false)) fun t139 =>
 letO (some (t139 : AV)) fun t6 =>
endK t6 H28 K) H18) H17) H16)) H4) H3

theorem W9_ok {x0 x1 x2 : AV} {H : Heap} {K : AV → Heap → Prop} (h : W9 x0 x1 x2 H K) : ACalls Try.prog 9 [x0, x1, x2] H K :=
  acallsB (fn := Try.f9) (cfg := cfgOf [] [54] [(8, [0, 1, 3, 7, 15, 7, 39, 127, 255, 511, 1023, 1023, 1023, 7167, 16383, 32767, 65535]), (10, [0, 1, 0, 4, 12, 0, 32, 0, 128, 480, 992, 2016, 4092, 8191, 0, 32767])] [63] []) (hh := (.dir .nil (.dir .nil (.dir .nil (.dir (.dir .nil (.dir .nil .nil)) (.cut [] [28, 29, 30, 31, 32, 33, 34, 35, 36, 10, 38, 39, 37, 40, 41, 11, 12, 42, 43, 44, 45, 46, 47, 48, 49, 50, 51, 52, 53, 54, 55, 56, 57, 58, 6] (.dir .nil (.dir (.dir .nil (.dir .nil (.dir .nil (.dir .nil .nil)))) .nil)) (.dir .nil (.dir .nil (.dir .nil (.dir .nil .nil)))))))))) follows Try.func9 (by kernel_rfl) (Nat.le_of_ble_eq_true (by kernel_rfl)) (by kernel_rfl) h

/-- (headword.headwordlaw13.Galley).made -/
def W34 (x0 x1 : AV) (H : Heap) (K : AV → Heap → Prop) : Prop :=
 letO (cellsOf? x0) fun c1 =>
 allocA [(.int .i64 0), .nils] (fun t4 H2 =>
 letO (faddr 0 (.iptr c1)) fun t9 =>
 letO (load1 t9 H2) fun t10 =>
 letO (convF Try.prog 5 3 t10) fun t11 =>
 letO (binF Try.prog .rem 3 t11 (.int .i64 40)) fun t12 =>
 letO (binF Try.prog .add 3 (.int .i64 1) t12) fun t13 =>
 letO (buildF Try.prog 24 [(0, t13)]) fun t14 =>
 allocA [(.int .i64 0), .nils] (fun t5 H3 =>
 storeA 2 t5 t14 (fun H4 =>
 letO (faddr 0 t5) fun t15 =>
 letO (load1 t15 H4) fun t16 =>
 letO (some (t16 : AV)) fun t6 =>
 true = true ∧ ∃ J5 : List AV → Heap → Prop, (
 letO (faddr 2 (.iptr c1)) fun t17 =>
 letO (load1 t17 H4) fun t18 =>
 letO (binF Try.prog .rem 5 t18 (.int .u8 3)) fun t19 =>
 letO (binF Try.prog .gtr 5 t19 (.int .u8 0)) fun t20 =>
 condA t20 true (
 letO (faddr 0 t5) fun t21 =>
 letO (load1 t21 H4) fun t22 =>
 letO (binF Try.prog .quo 3 t22 (.int .i64 2)) fun t23 =>
 letO (binF Try.prog .add 3 (.int .i64 1) t23) fun t24 =>
 letO (some (t24 : AV)) fun t6 =>
 J5 [t6] H4) (
 J5 [t6] H4)) ∧ ∀ L6 H7, J5 L6 H7 → -- [t6]
 letO (faddr 3 (.iptr c1)) fun t25 =>
 letO (faddr 1 (.iptr c1)) fun t26 =>
 letO (load1 t26 H7) fun t27 =>
 letO (convF Try.prog 5 3 t27) fun t28 =>
 letO (some (x1 : AV)) fun t29 =>
 letO (binF Try.prog .rem 3 t28 t29) fun t30 =>
 letO (binF Try.prog .add 3 (.int .i64 1) t30) fun t31 =>
 letO (slcArr 10 1 t25 none (some t31) none) fun t32 =>
 letO (lenA t32) fun t33 =>
 letO (some ((.int .i64 0) : AV)) fun t34 =>
 true = true ∧ ∃ (I8 : List AV → Heap → Prop) (μ9 : List AV → Heap → Nat), I8 [t34] H7 ∧ ∀ L10 H11, I8 L10 H11 → -- [t34]
 letO (binF Try.prog .lss 3 (L10.getD 0 .any) t33) fun t35 =>
 condA t35 true (
 letO (idx 1 t32 (L10.getD 0 .any)) fun t36 =>
 letO (load1 t36 H11) fun t37 =>
 letO (some (t37 : AV)) fun t8 =>
 true = true ∧
 letO (faddr 1 t5) fun t38 =>
 letO (load1 t38 H11) fun t39 =>
 letO (some (t8 : AV)) fun t40 =>
 letO (convF Try.prog 5 3 t40) fun t41 =>
 letO (some ((L6.getD 0 .any) : AV)) fun t42 =>
 letO (faddr 0 t5) fun t43 =>
 letO (load1 t43 H11) fun t44 =>
 letO (min2F t42 t44) fun t45 =>
 letO (binF Try.prog .rem 3 t41 t45) fun t46 =>
 letO (binF Try.prog .add 3 (.int .i64 1) t46) fun t47 =>
 letO (literalF Try.prog 22 1 [(0, t47)]) fun c12 =>
 appendA 1 8 t39 (.imm 1 true c12) (fun t49 H13 =>
 letO (faddr 1 t5) fun t50 =>
 storeA 1 t50 t49 (fun H14 =>
 letO (binF Try.prog .add 3 (L10.getD 0 .any) (.int .i64 1)) fun t51 =>
 letO (some (t51 : AV)) fun t34 =>
 I8 [t34] H14 ∧ μ9 [t34] H14 < μ9 L10 H11) H13) H11) (
 letO (loadN 2 t5 H11) fun t52 =>
 storeA 2 t4 t52 (fun H15 =>
 letO (loadN 2 t4 H15) fun r16 => endK r16 H15 K) H11)) H3) H2) H

theorem W34_ok {x0 x1 : AV} {H : Heap} {K : AV → Heap → Prop} (h : W34 x0 x1 H K) : ACalls Try.prog 34 [x0, x1] H K :=
  acallsB (fn := Try.f34) (cfg := cfgOf [] [] [(8, [0, 1, 0, 4, 0, 0, 32, 112, 252, 508, 1020, 2047, 4095, 8191])] [] []) (hh := (.dir .nil (.dir .nil (.dir .nil (.cut [6] [17, 18, 19, 20, 21, 22, 23, 24, 6] (.dir .nil .nil) (.dir (.dir .nil (.blk (.loop [34] [35, 36, 37, 8, 38, 39, 40, 41, 42, 43, 44, 45, 46, 47, 48, 49, 50, 51, 34] (.dir .nil (.dir .nil (.dir .nil .nil)))))) .nil)))))) follows Try.func34 (by kernel_rfl) (Nat.le_of_ble_eq_true (by kernel_rfl)) (by kernel_rfl) h

/-- headword.headwordlaw13.broken -/
def W39 (x0 x1 : AV) (H : Heap) (K : AV → Heap → Prop) : Prop :=
 letO (cellsOf? x0) fun c1 =>
 letO (cellsOf? x1) fun c2 =>
 letO (some (.nils : AV)) fun t4 =>
 letO (some (.nils : AV)) fun t5 =>
 letO (some ((.int .i64 0) : AV)) fun t6 =>
 true = true ∧ ∃ (I3 : List AV → Heap → Prop) (μ4 : List AV → Heap → Nat), I3 [t5, t6] H ∧ ∀ L5 H6, I3 L5 H6 → -- [t5, t6]
 letO (some ((L5.getD 1 .any) : AV)) fun t8 =>
 letO (faddr 1 (.iptr c1)) fun t9 =>
 letO (load1 t9 H6) fun t10 =>
 letO (lenA t10) fun t11 =>
 letO (binF Try.prog .lss 3 t8 t11) fun t12 =>
 condA t12 true (
 letO (some ((L5.getD 1 .any) : AV)) fun t13 =>
 letO (binF Try.prog .add 3 t13 (.int .i64 1)) fun t14 =>
 letO (some (t14 : AV)) fun t7 =>
 true = true ∧ ∃ (I7 : List AV → Heap → Prop) (μ8 : List AV → Heap → Nat), I7 [t7] H6 ∧ ∀ L9 H10, I7 L9 H10 → -- [t7]
 letO (some ((L9.getD 0 .any) : AV)) fun t15 =>
 letO (faddr 1 (.iptr c1)) fun t16 =>
 letO (load1 t16 H10) fun t17 =>
 letO (lenA t17) fun t18 =>
 letO (binF Try.prog .lss 3 t15 t18) fun t19 =>
 letO (some (t19 : AV)) fun t20 =>
 letO (gval t20 true (loadN 2 (.iptr c1) H10)) fun t21 =>
 letO (gval t20 true (some ((L5.getD 1 .any) : AV))) fun t22 =>
 letO (gval t20 true (some ((L9.getD 0 .any) : AV))) fun t23 =>
 letO (gval t20 true (binF Try.prog .add 3 t23 (.int .i64 1))) fun t24 =>
 ∃ J11 : AV → Heap → Prop, condG t20 true (ACalls Try.prog 43 [t21, t22, t24] H10 fun t25 H12 =>
 J11 t25 H12) (J11 (.tup []) H10) ∧ ∀ t25 H13, J11 t25 H13 →
 letO (gval t20 true (binF Try.prog .geq 3 t25 (.int .i64 0))) fun t26 =>
 letO (pickF t20 t26 (.bool false)) fun t27 =>
 letO (some (t27 : AV)) fun t28 =>
 letO (gval t28 true (some ((L9.getD 0 .any) : AV))) fun t29 =>
 letO (gval t28 true (idxArr 10 1 (.iptr c2) t29)) fun t30 =>
 letO (gval t28 true (load1 t30 H13)) fun t31 =>
 letO (gval t28 true (binF Try.prog .rem 5 t31 (.int .u8 4))) fun t32 =>
 letO (gval t28 true (binF Try.prog .gtr 5 t32 (.int .u8 0))) fun t33 =>
 letO (pickF t28 t33 (.bool false)) fun t34 =>
 condA t34 true (
 letO (some ((L9.getD 0 .any) : AV)) fun t35 =>
 letO (binF Try.prog .add 3 t35 (.int .i64 1)) fun t36 =>
 letO (some (t36 : AV)) fun t7 =>
 I7 [t7] H13 ∧ μ8 [t7] H13 < μ8 L9 H10) (
 letO (some ((L5.getD 0 .any) : AV)) fun t37 =>
 letO (some ((L9.getD 0 .any) : AV)) fun t38 =>
 letO (literalF Try.prog 22 1 [(0, t38)]) fun c14 =>
 appendA 1 8 t37 (.imm 1 true c14) (fun t40 H15 =>
 letO (some (t40 : AV)) fun t5 =>
 letO (some ((L9.getD 0 .any) : AV)) fun t41 =>
 letO (some (t41 : AV)) fun t6 =>
 I3 [t5, t6] H15 ∧ μ4 [t5, t6] H15 < μ4 L5 H6) H13)) (
 letO (some ((L5.getD 0 .any) : AV)) fun t42 =>
 letO (some (t42 : AV)) fun t4 =>
endK t4 H6 K)

theorem W39_ok {x0 x1 : AV} {H : Heap} {K : AV → Heap → Prop} (h : W39 x0 x1 H K) : ACalls Try.prog 39 [x0, x1] H K :=
  acallsB (fn := Try.f39) (cfg := cfgOf [] [] [] [] []) (hh := (.dir .nil (.dir .nil (.dir (.dir .nil (.blk (.loop [5, 6] [8, 9, 10, 11, 12, 13, 14, 7, 15, 16, 17, 18, 19, 20, 21, 22, 23, 24, 25, 26, 27, 28, 29, 30, 31, 32, 33, 34, 35, 36, 37, 38, 39, 40, 5, 41, 6] (.dir (.dir .nil .nil) (.blk (.dir .nil (.dir (.blk (.loop [7] [15, 16, 17, 18, 19, 20, 21, 22, 23, 24, 25, 26, 27, 28, 29, 30, 31, 32, 33, 34, 35, 36, 7] (.dir (.dir .nil .nil) .nil))) .nil))))))) .nil)))) follows Try.func39 (by kernel_rfl) (Nat.le_of_ble_eq_true (by kernel_rfl)) (by kernel_rfl) h

/-- headword.headwordlaw13.left -/
def W43 (x0 x1 x2 : AV) (H : Heap) (K : AV → Heap → Prop) : Prop :=
 letO (cellsOf? x0) fun c1 =>
 letO (some ((.int .i64 0) : AV)) fun t6 =>
 letO (some ((.int .i64 (-1)) : AV)) fun t7 =>
 letO (faddr 1 (.iptr c1)) fun t10 =>
 letO (load1 t10 H) fun t11 =>
 letO (some (x1 : AV)) fun t12 =>
 letO (some (x2 : AV)) fun t13 =>
 letO (slc 1 t11 (some t12) (some t13) none) fun t14 =>
 letO (lenA t14) fun t15 =>
 letO (some ((.int .i64 0) : AV)) fun t16 =>
 true = true ∧ ∃ (I2 : List AV → Heap → Prop) (μ3 : List AV → Heap → Nat), I2 [t7, t16] H ∧ ∀ L4 H5, I2 L4 H5 → -- [t7, t16]
 letO (binF Try.prog .lss 3 (L4.getD 1 .any) t15) fun t17 =>
 condA t17 true (
 letO (idx 1 t14 (L4.getD 1 .any)) fun t18 =>
 letO (load1 t18 H5) fun t19 =>
 letO (some (t19 : AV)) fun t9 =>
 letO (some ((L4.getD 0 .any) : AV)) fun t20 =>
 letO (some (t9 : AV)) fun t21 =>
 letO (binF Try.prog .add 3 t21 (.int .i64 1)) fun t22 =>
 letO (binF Try.prog .add 3 t20 t22) fun t23 =>
 letO (some (t23 : AV)) fun t7 =>
 letO (binF Try.prog .add 3 (L4.getD 1 .any) (.int .i64 1)) fun t24 =>
 letO (some (t24 : AV)) fun t16 =>
 I2 [t7, t16] H5 ∧ μ3 [t7, t16] H5 < μ3 L4 H5) (
 letO (faddr 0 (.iptr c1)) fun t25 =>
 letO (load1 t25 H5) fun t26 =>
 letO (some ((L4.getD 0 .any) : AV)) fun t27 =>
 letO (binF Try.prog .sub 3 t26 t27) fun t28 =>
 letO (some (t28 : AV)) fun t6 =>
endK t6 H5 K)

theorem W43_ok {x0 x1 x2 : AV} {H : Heap} {K : AV → Heap → Prop} (h : W43 x0 x1 x2 H K) : ACalls Try.prog 43 [x0, x1, x2] H K :=
  acallsB (fn := Try.f43) (cfg := cfgOf [] [] [] [] []) (hh := (.dir .nil (.dir .nil (.dir (.dir .nil (.blk (.loop [7, 16] [17, 18, 19, 9, 20, 21, 22, 23, 7, 24, 16] (.dir .nil (.dir .nil (.dir .nil .nil)))))) .nil)))) follows Try.func43 (by kernel_rfl) (Nat.le_of_ble_eq_true (by kernel_rfl)) (by kernel_rfl) h


end Go.Proofs.Ytlajhbpkogekfaa
