import Derived.Test.YtbofkeoebnjjkaaDoorConB
/- The functions of the statement TableNamed that the common text does not hold, each in the words of its walk; made by program. -/
set_option linter.unusedVariables false
set_option maxRecDepth 100000
namespace Go.Proofs.YtbofkeoebnjjkaaDoor
open Go.Av
/-- headword.headwordlaw11.TablePlans -/
def W3 (x0 x1 : AV) (H : Heap) (K : AV → Heap → Prop) : Prop :=
 letO (some ((.bool false) : AV)) fun t4 =>
 letO (some (x0 : AV)) fun t19 =>
 ACalls Tryd.prog 16 [t19] H fun t20 H1 =>
 letO (some (t20 : AV)) fun t21 =>
 letO (gval t21 false (some (x1 : AV))) fun t22 =>
 letO (gval t21 false (lenA t22)) fun t23 =>
 letO (gval t21 false (binF Tryd.prog .gtr 3 t23 (.int .i64 20))) fun t24 =>
 letO (pickF t21 (.bool true) t24) fun t25 =>
 condA t25 true (
 ACalls Tryd.prog 17 [] H1 fun t26 H2 =>
 letO (some (t26 : AV)) fun t4 =>
endK t4 H2 K) (
 letO (some (x0 : AV)) fun t28 =>
 ACalls Tryd.prog 18 [t28] H1 fun t29 H3 =>
 letO (some (t29 : AV)) fun t27 =>
 letO (extrF t27 0) fun t30 =>
 letO (extrF t27 1) fun t31 =>
 letO (some (t30 : AV)) fun t5 =>
 letO (some (t31 : AV)) fun t6 =>
 letO (some (x0 : AV)) fun t33 =>
 ACalls Tryd.prog 19 [t33] H3 fun t34 H4 =>
 letO (some (t34 : AV)) fun t32 =>
 letO (extrF t32 0) fun t35 =>
 letO (extrF t32 1) fun t36 =>
 letO (some (t35 : AV)) fun t7 =>
 letO (some (t36 : AV)) fun t8 =>
 letO (some (x0 : AV)) fun t38 =>
 ACalls Tryd.prog 20 [t38] H4 fun t39 H5 =>
 letO (some (t39 : AV)) fun t37 =>
 letO (extrF t37 0) fun t40 =>
 letO (extrF t37 1) fun t41 =>
 letO (some (t40 : AV)) fun t9 =>
 letO (some (t41 : AV)) fun t10 =>
 letO (some (x0 : AV)) fun t43 =>
 ACalls Tryd.prog 21 [t43] H5 fun t44 H6 =>
 letO (some (t44 : AV)) fun t42 =>
 letO (extrF t42 0) fun t45 =>
 letO (extrF t42 1) fun t46 =>
 letO (some (t45 : AV)) fun t11 =>
 letO (some (t46 : AV)) fun t12 =>
 letO (some (x0 : AV)) fun t48 =>
 ACalls Tryd.prog 22 [t48] H6 fun t49 H7 =>
 letO (some (t49 : AV)) fun t47 =>
 letO (extrF t47 0) fun t50 =>
 letO (extrF t47 1) fun t51 =>
 letO (some (t50 : AV)) fun t13 =>
 letO (some (t51 : AV)) fun t14 =>
 letO (some (x0 : AV)) fun t53 =>
 ACalls Tryd.prog 23 [t53] H7 fun t54 H8 =>
 letO (some (t54 : AV)) fun t52 =>
 letO (extrF t52 0) fun t55 =>
 letO (extrF t52 1) fun t56 =>
 letO (some (t55 : AV)) fun t15 =>
 letO (some (t56 : AV)) fun t16 =>
 letO (some (t5 : AV)) fun t57 =>
 letO (some (t7 : AV)) fun t58 =>
 letO (binF Tryd.prog .neq 3 t57 t58) fun t59 =>
 letO (some (t59 : AV)) fun t60 =>
 letO (gval t60 false (some (t6 : AV))) fun t61 =>
 letO (gval t60 false (some (t8 : AV))) fun t62 =>
 letO (gval t60 false (binF Tryd.prog .neq 26 t61 t62)) fun t63 =>
 letO (pickF t60 (.bool true) t63) fun t64 =>
 letO (some (t64 : AV)) fun t65 =>
 letO (gval t65 false (some (t9 : AV))) fun t66 =>
 letO (gval t65 false (some (t11 : AV))) fun t67 =>
 ∃ J9 : AV → Heap → Prop, condG t65 false (ACalls Tryd.prog 24 [t66, t67] H8 fun t68 H10 =>
 J9 t68 H10) (J9 (.tup []) H8) ∧ ∀ t68 H11, J9 t68 H11 →
 letO (gval t65 false (unF .not t68)) fun t69 =>
 letO (pickF t65 (.bool true) t69) fun t70 =>
 letO (some (t70 : AV)) fun t71 =>
 letO (gval t71 false (some (t10 : AV))) fun t72 =>
 letO (gval t71 false (some (t12 : AV))) fun t73 =>
 letO (gval t71 false (binF Tryd.prog .neq 26 t72 t73)) fun t74 =>
 letO (pickF t71 (.bool true) t74) fun t75 =>
 letO (some (t75 : AV)) fun t76 =>
 letO (gval t76 false (some (t13 : AV))) fun t77 =>
 letO (gval t76 false (some (t15 : AV))) fun t78 =>
 letO (gval t76 false (binF Tryd.prog .neq 3 t77 t78)) fun t79 =>
 letO (pickF t76 (.bool true) t79) fun t80 =>
 letO (some (t80 : AV)) fun t81 =>
 letO (gval t81 false (some (t14 : AV))) fun t82 =>
 letO (gval t81 false (some (t16 : AV))) fun t83 =>
 letO (gval t81 false (binF Tryd.prog .neq 26 t82 t83)) fun t84 =>
 letO (pickF t81 (.bool true) t84) fun t85 =>
 condA t85 true (
 letO (some ((.bool false) : AV)) fun t4 =>
endK t4 H11 K) (
 letO (some (x0 : AV)) fun t87 =>
 ACalls Tryd.prog 25 [t87] H11 fun t88 H12 =>
 letO (some (t88 : AV)) fun t86 =>
 letO (extrF t86 0) fun t89 =>
 letO (extrF t86 1) fun t90 =>
 letO (some (t89 : AV)) fun t13 =>
 letO (some (t90 : AV)) fun t14 =>
 letO (some (x0 : AV)) fun t92 =>
 ACalls Tryd.prog 26 [t92] H12 fun t93 H13 =>
 letO (some (t93 : AV)) fun t91 =>
 letO (extrF t91 0) fun t94 =>
 letO (extrF t91 1) fun t95 =>
 letO (some (t94 : AV)) fun t15 =>
 letO (some (t95 : AV)) fun t16 =>
 letO (some (x0 : AV)) fun t97 =>
 ACalls Tryd.prog 27 [t97] H13 fun t98 H14 =>
 letO (some (t98 : AV)) fun t96 =>
 letO (extrF t96 0) fun t99 =>
 letO (extrF t96 1) fun t100 =>
 letO (some (t99 : AV)) fun t17 =>
 letO (some (t100 : AV)) fun t6 =>
 letO (some (x0 : AV)) fun t102 =>
 ACalls Tryd.prog 28 [t102] H14 fun t103 H15 =>
 letO (some (t103 : AV)) fun t101 =>
 letO (extrF t101 0) fun t104 =>
 letO (extrF t101 1) fun t105 =>
 letO (some (t104 : AV)) fun t18 =>
 letO (some (t105 : AV)) fun t8 =>
 letO (some (t13 : AV)) fun t106 =>
 letO (some (t15 : AV)) fun t107 =>
 letO (binF Tryd.prog .eql 3 t106 t107) fun t108 =>
 letO (some (t108 : AV)) fun t109 =>
 letO (gval t109 true (some (t14 : AV))) fun t110 =>
 letO (gval t109 true (some (t16 : AV))) fun t111 =>
 letO (gval t109 true (binF Tryd.prog .eql 26 t110 t111)) fun t112 =>
 letO (pickF t109 t112 (.bool false)) fun t113 =>
 letO (some (t113 : AV)) fun t114 =>
 letO (gval t114 true (some (t17 : AV))) fun t115 =>
 letO (gval t114 true (some (t18 : AV))) fun t116 =>
 ∃ J16 : AV → Heap → Prop, condG t114 true (ACalls Tryd.prog 29 [t115, t116] H15 fun t117 H17 =>
 J16 t117 H17) (J16 (.tup []) H15) ∧ ∀ t117 H18, J16 t117 H18 →
 letO (pickF t114 t117 (.bool false)) fun t118 =>
 letO (some (t118 : AV)) fun t119 =>
 letO (gval t119 true (some (t6 : AV))) fun t120 =>
 letO (gval t119 true (some (t8 : AV))) fun t121 =>
 letO (gval t119 true (binF Tryd.prog .eql 26 t120 t121)) fun t122 =>
 letO (pickF t119 t122 (.bool false)) fun t123 =>
 letO (some (t123 : AV)) fun t124 =>
 letO (gval t124 true (some (x0 : AV))) fun t125 =>
 ∃ J19 : AV → Heap → Prop, condG t124 true (ACalls Tryd.prog 30 [t125] H18 fun t126 H20 =>
 J19 t126 H20) (J19 (.tup []) H18) ∧ ∀ t126 H21, J19 t126 H21 →
 letO (gval t124 true (some (x0 : AV))) fun t127 =>
 ∃ J22 : AV → Heap → Prop, condG t124 true (ACalls Tryd.prog 31 [t127] H21 fun t128 H23 =>
 J22 t128 H23) (J22 (.tup []) H21) ∧ ∀ t128 H24, J22 t128 H24 →
 letO (gval t124 true (binF Tryd.prog .eql 26 t126 t128)) fun t129 =>
 letO (pickF t124 t129 (.bool false)) fun t130 =>
 letO (some (t130 : AV)) fun t131 =>
 letO (gval t131 true (some (x0 : AV))) fun t132 =>
 letO (gval t131 true (some (x1 : AV))) fun t133 =>
 ∃ J25 : AV → Heap → Prop, condG t131 true (ACalls Tryd.prog 32 [t132, t133] H24 fun t134 H26 =>
 J25 t134 H26) (J25 (.tup []) H24) ∧ ∀ t134 H27, J25 t134 H27 →
 letO (gval t131 true (some (x0 : AV))) fun t135 =>
 letO (gval t131 true (some (x1 : AV))) fun t136 =>
 ∃ J28 : AV → Heap → Prop, condG t131 true (ACalls Tryd.prog 33 [t135, t136] H27 fun t137 H29 =>
 J28 t137 H29) (J28 (.tup []) H27) ∧ ∀ t137 H30, J28 t137 H30 →
 letO (gval t131 true (binF Tryd.prog .eql 26 t134 t137)) fun t138 =>
 letO (pickF t131 t138 (.bool false)) fun t139 =>
 letO (some (t139 : AV)) fun t140 =>
 ∃ J31 : AV → Heap → Prop, condG t140 true (ACalls Tryd.prog 17 [] H30 fun t141 H32 =>
 J31 t141 H32) (J31 (.tup []) H30) ∧ ∀ t141 H33, J31 t141 H33 →
 letO (pickF t140 t141 (.bool false)) fun t142 =>
 letO (some (t142 : AV)) fun t4 =>
endK t4 H33 K))

theorem W3_ok {x0 x1 : AV} {H : Heap} {K : AV → Heap → Prop} (h : W3 x0 x1 H K) : ACalls Tryd.prog 3 [x0, x1] H K :=
  acallsB (fn := Tryd.f3) (cfg := cfgOf [] [] [] [] []) (hh := (.dir .nil (.dir (.dir .nil (.dir .nil .nil)) (.dir .nil (.dir .nil (.dir .nil (.dir .nil (.dir .nil (.dir .nil (.dir (.dir .nil (.dir .nil .nil)) (.dir .nil (.dir .nil (.dir .nil (.dir .nil .nil)))))))))))))) follows Tryd.func3 (by kernel_rfl) (Nat.le_of_ble_eq_true (by kernel_rfl)) (by kernel_rfl) h

/-- headword.headwordlaw11.TableWaerden -/
def W9 (x0 : AV) (H : Heap) (K : AV → Heap → Prop) : Prop :=
 letO (cellsOf? x0) fun c1 =>
 letO (some ((.bool false) : AV)) fun t2 =>
 letO (loadN 27 (.iptr c1) H) fun t24 =>
 ACalls Tryd.prog 44 [t24, (.int .i64 8)] H fun t25 H2 =>
 letO (some (t25 : AV)) fun t23 =>
 letO (extrF t23 0) fun t26 =>
 letO (extrF t23 1) fun t27 =>
 letO (some (t26 : AV)) fun t3 =>
 letO (some (t27 : AV)) fun t4 =>
 letO (some (t3 : AV)) fun t28 =>
 letO (lenA t28) fun t29 =>
 letO (some (t29 : AV)) fun t5 =>
 letO (some (t3 : AV)) fun t30 =>
 letO (loadN 27 (.iptr c1) H2) fun t31 =>
 ACalls Tryd.prog 54 [t31] H2 fun t32 H3 =>
 letO (literalF Tryd.prog 72 2 [(0, t30), (1, t32)]) fun c4 =>
 letO (lenA (.imm 2 true c4)) fun t34 =>
 letO (some ((.int .i64 0) : AV)) fun t35 =>
 true = true ∧ ∃ (I5 : List AV → Heap → Prop) (μ6 : List AV → Heap → Nat), I5 [t35] H3 ∧ ∀ L7 H8, I5 L7 H8 → -- [t35]
 letO (binF Tryd.prog .lss 3 (L7.getD 0 .any) t34) fun t36 =>
 condA t36 true (
 letO (idx 1 (.imm 2 true c4) (L7.getD 0 .any)) fun t37 =>
 letO (load1 t37 H8) fun t38 =>
 letO (some (t38 : AV)) fun t7 =>
 letO (some ((.int .i64 0) : AV)) fun t8 =>
 letO (some (t5 : AV)) fun t39 =>
 ACalls Tryd.prog 45 [t39] H8 fun t40 H9 =>
 letO (lenA t40) fun t41 =>
 letO (some ((.int .i64 0) : AV)) fun t42 =>
 true = true ∧ ∃ (I10 : List AV → Heap → Prop) (μ11 : List AV → Heap → Nat), I10 [t8, t42] H9 ∧ ∀ L12 H13, I10 L12 H13 → -- [t8, t42]
 letO (binF Tryd.prog .lss 3 (L12.getD 1 .any) t41) fun t43 =>
 condA t43 true (
 letO (idx 1 t40 (L12.getD 1 .any)) fun t44 =>
 letO (load1 t44 H13) fun t45 =>
 letO (some (t45 : AV)) fun t10 =>
 letO (some ((L12.getD 0 .any) : AV)) fun t46 =>
 letO (some (t7 : AV)) fun t47 =>
 letO (some (t10 : AV)) fun t48 =>
 ACalls Tryd.prog 48 [t47, t48] H13 fun t49 H14 =>
 letO (binF Tryd.prog .add 3 t46 t49) fun t50 =>
 letO (some (t50 : AV)) fun t8 =>
 letO (binF Tryd.prog .add 3 (L12.getD 1 .any) (.int .i64 1)) fun t51 =>
 letO (some (t51 : AV)) fun t42 =>
 I10 [t8, t42] H14 ∧ μ11 [t8, t42] H14 < μ11 L12 H13) (
 letO (some (t7 : AV)) fun t53 =>
 ACalls Tryd.prog 25 [t53] H13 fun t54 H15 =>
 letO (some (t54 : AV)) fun t52 =>
 letO (extrF t52 0) fun t55 =>
 letO (extrF t52 1) fun t56 =>
 letO (some (t55 : AV)) fun t11 =>
 letO (some (t56 : AV)) fun t12 =>
 letO (some (t12 : AV)) fun t57 =>
 letO (binF Tryd.prog .neq 26 t57 (.int .i64 0)) fun t58 =>
 letO (some (t58 : AV)) fun t59 =>
 letO (gval t59 false (some (t11 : AV))) fun t60 =>
 letO (gval t59 false (some ((L12.getD 0 .any) : AV))) fun t61 =>
 letO (gval t59 false (binF Tryd.prog .neq 3 t60 t61)) fun t62 =>
 letO (pickF t59 (.bool true) t62) fun t63 =>
 condA t63 true (
 letO (some ((.bool false) : AV)) fun t2 =>
endK t2 H15 K) (
 letO (binF Tryd.prog .add 3 (L7.getD 0 .any) (.int .i64 1)) fun t64 =>
 letO (some (t64 : AV)) fun t35 =>
 I5 [t35] H15 ∧ μ6 [t35] H15 < μ6 L7 H8))) (
 letO (some (t3 : AV)) fun t66 =>
 ACalls Tryd.prog 25 [t66] H8 fun t67 H16 =>
 letO (some (t67 : AV)) fun t65 =>
 letO (extrF t65 0) fun t68 =>
 letO (extrF t65 1) fun t69 =>
 letO (some (t68 : AV)) fun t13 =>
 letO (some (t69 : AV)) fun t14 =>
 letO (some (t13 : AV)) fun t70 =>
 letO (some (t70 : AV)) fun t15 =>
 letO (some ((.int .i64 1) : AV)) fun t16 =>
 letO (some (t5 : AV)) fun t71 =>
 letO (some ((.int .i64 0) : AV)) fun t72 =>
 true = true ∧ ∃ (I17 : List AV → Heap → Prop) (μ18 : List AV → Heap → Nat), I17 [t15, t16, t72] H16 ∧ ∀ L19 H20, I17 L19 H20 → -- [t15, t16, t72]
 letO (binF Tryd.prog .lss 3 (L19.getD 2 .any) t71) fun t73 =>
 condA t73 true (
 letO (some ((L19.getD 2 .any) : AV)) fun t74 =>
 letO (some (t74 : AV)) fun t17 =>
 letO (some ((L19.getD 0 .any) : AV)) fun t75 =>
 letO (some (t5 : AV)) fun t76 =>
 letO (binF Tryd.prog .mul 3 t75 t76) fun t77 =>
 letO (some (t77 : AV)) fun t15 =>
 letO (some ((L19.getD 1 .any) : AV)) fun t78 =>
 letO (some (t4 : AV)) fun t79 =>
 letO (some (t17 : AV)) fun t80 =>
 letO (binF Tryd.prog .add 3 t80 (.int .i64 1)) fun t81 =>
 letO (binF Tryd.prog .mul 3 t79 t81) fun t82 =>
 letO (binF Tryd.prog .mul 3 t78 t82) fun t83 =>
 letO (some (t83 : AV)) fun t16 =>
 letO (binF Tryd.prog .add 3 (L19.getD 2 .any) (.int .i64 1)) fun t84 =>
 letO (some (t84 : AV)) fun t72 =>
 I17 [t15, t16, t72] H20 ∧ μ18 [t15, t16, t72] H20 < μ18 L19 H20) (
 letO (some (t5 : AV)) fun t85 =>
 ACalls Tryd.prog 49 [t85] H20 fun t86 H21 =>
 letO (some (t86 : AV)) fun t18 =>
 letO (some (t5 : AV)) fun t87 =>
 letO (some ((.int .i64 0) : AV)) fun t88 =>
 true = true ∧ ∃ (I22 : List AV → Heap → Prop) (μ23 : List AV → Heap → Nat), I22 [t88] H21 ∧ ∀ L24 H25, I22 L24 H25 → -- [t88]
 letO (binF Tryd.prog .lss 3 (L24.getD 0 .any) t87) fun t89 =>
 condA t89 true (
 letO (some ((L24.getD 0 .any) : AV)) fun t90 =>
 letO (some (t90 : AV)) fun t19 =>
 letO (some (t5 : AV)) fun t91 =>
 letO (some ((.int .i64 0) : AV)) fun t92 =>
 true = true ∧ ∃ (I26 : List AV → Heap → Prop) (μ27 : List AV → Heap → Nat), I26 [t92] H25 ∧ ∀ L28 H29, I26 L28 H29 → -- [t92]
 letO (binF Tryd.prog .lss 3 (L28.getD 0 .any) t91) fun t93 =>
 condA t93 true (
 letO (some ((L28.getD 0 .any) : AV)) fun t94 =>
 letO (some (t94 : AV)) fun t20 =>
 letO (some (t18 : AV)) fun t95 =>
 letO (some (t19 : AV)) fun t96 =>
 letO (idx 1 t95 t96) fun t97 =>
 letO (load1 t97 H29) fun t98 =>
 letO (some (t20 : AV)) fun t99 =>
 letO (some (t4 : AV)) fun t100 =>
 letO (idx 1 t98 t99) fun t101 =>
 storeA 1 t101 t100 (fun H30 =>
 letO (binF Tryd.prog .add 3 (L28.getD 0 .any) (.int .i64 1)) fun t102 =>
 letO (some (t102 : AV)) fun t92 =>
 I26 [t92] H30 ∧ μ27 [t92] H30 < μ27 L28 H29) H29) (
 letO (binF Tryd.prog .add 3 (L24.getD 0 .any) (.int .i64 1)) fun t103 =>
 letO (some (t103 : AV)) fun t88 =>
 I22 [t88] H29 ∧ μ23 [t88] H29 < μ23 L24 H25)) (
 letO (some (t18 : AV)) fun t105 =>
 ACalls Tryd.prog 25 [t105] H25 fun t106 H31 =>
 letO (some (t106 : AV)) fun t104 =>
 letO (extrF t104 0) fun t107 =>
 letO (extrF t104 1) fun t108 =>
 letO (some (t107 : AV)) fun t21 =>
 letO (some (t108 : AV)) fun t22 =>
 letO (some (t14 : AV)) fun t109 =>
 letO (binF Tryd.prog .eql 26 t109 (.int .i64 0)) fun t110 =>
 letO (some (t110 : AV)) fun t111 =>
 letO (gval t111 true (some (t22 : AV))) fun t112 =>
 letO (gval t111 true (binF Tryd.prog .eql 26 t112 (.int .i64 0))) fun t113 =>
 letO (pickF t111 t113 (.bool false)) fun t114 =>
 letO (some (t114 : AV)) fun t115 =>
 letO (gval t115 true (some ((L19.getD 0 .any) : AV))) fun t116 =>
 letO (gval t115 true (some ((L19.getD 1 .any) : AV))) fun t117 =>
 letO (gval t115 true (binF Tryd.prog .geq 3 t116 t117)) fun t118 =>
 letO (pickF t115 t118 (.bool false)) fun t119 =>
 letO (some (t119 : AV)) fun t120 =>
 letO (gval t120 true (some (t21 : AV))) fun t121 =>
 letO (gval t120 true (some ((L19.getD 1 .any) : AV))) fun t122 =>
 letO (gval t120 true (binF Tryd.prog .eql 3 t121 t122)) fun t123 =>
 letO (pickF t120 t123 (.bool false)) fun t124 =>
 letO (some (t124 : AV)) fun t125 =>
 ∃ J32 : AV → Heap → Prop, condG t125 true (ACalls Tryd.prog 17 [] H31 fun t126 H33 =>
 J32 t126 H33) (J32 (.tup []) H31) ∧ ∀ t126 H34, J32 t126 H34 →
 letO (pickF t125 t126 (.bool false)) fun t127 =>
 letO (some (t127 : AV)) fun t2 =>
endK t2 H34 K)))

theorem W9_ok {x0 : AV} {H : Heap} {K : AV → Heap → Prop} (h : W9 x0 H K) : ACalls Tryd.prog 9 [x0] H K :=
  acallsB (fn := Tryd.f9) (cfg := cfgOf [] [] [] [] []) (hh := (.dir .nil (.dir .nil (.dir .nil (.dir (.dir .nil (.blk (.loop [35] [36, 37, 38, 7, 8, 39, 40, 41, 42, 43, 44, 45, 10, 46, 47, 48, 49, 50, 51, 53, 54, 52, 55, 56, 11, 12, 57, 58, 59, 60, 61, 62, 63, 2, 64, 35] (.dir .nil (.dir .nil (.dir (.blk (.dir .nil (.dir .nil (.dir (.dir .nil (.blk (.loop [8, 42] [43, 44, 45, 10, 46, 47, 48, 49, 50, 8, 51, 42] (.dir .nil (.dir .nil (.dir .nil .nil)))))) (.dir .nil (.dir .nil (.dir .nil .nil))))))) .nil)))))) (.dir .nil (.dir .nil (.dir (.dir .nil (.blk (.loop [15, 16, 72] [73, 74, 17, 75, 76, 77, 15, 78, 79, 80, 81, 82, 83, 16, 84, 72] (.dir .nil (.dir .nil (.dir (.blk (.dir .nil .nil)) .nil)))))) (.dir .nil (.dir (.dir .nil (.blk (.loop [88] [89, 90, 19, 91, 92, 93, 94, 20, 95, 96, 97, 98, 99, 100, 101, 102, 103, 88] (.dir .nil (.dir .nil (.dir (.blk (.dir .nil (.dir .nil (.blk (.loop [92] [93, 94, 20, 95, 96, 97, 98, 99, 100, 101, 102, 92] (.dir .nil (.dir .nil (.dir .nil .nil)))))))) .nil)))))) (.dir .nil .nil))))))))))) follows Tryd.func9 (by kernel_rfl) (Nat.le_of_ble_eq_true (by kernel_rfl)) (by kernel_rfl) h

/-- headword.headwordlaw11.TableNamed -/
def W12 (x0 x1 x2 : AV) (H : Heap) (K : AV → Heap → Prop) : Prop :=
 letO (cellsOf? x0) fun c1 =>
 letO (some ((.bool false) : AV)) fun t6 =>
 letO (loadN 27 (.iptr c1) H) fun t44 =>
 ACalls Tryd.prog 44 [t44, (.int .i64 5)] H fun t45 H2 =>
 letO (some (t45 : AV)) fun t43 =>
 letO (extrF t43 0) fun t46 =>
 letO (extrF t43 1) fun t47 =>
 letO (some (t46 : AV)) fun t7 =>
 letO (some (t47 : AV)) fun t8 =>
 letO (some (t7 : AV)) fun t48 =>
 letO (lenA t48) fun t49 =>
 letO (some (t49 : AV)) fun t9 =>
 letO (some (t9 : AV)) fun t50 =>
 ACalls Tryd.prog 45 [t50] H2 fun t51 H3 =>
 letO (some (t51 : AV)) fun t10 =>
 true = true ∧
 letO (some (t10 : AV)) fun t52 =>
 letO (some (x1 : AV)) fun t53 =>
 letO (convF Tryd.prog 5 3 t53) fun t54 =>
 letO (some (t10 : AV)) fun t55 =>
 letO (lenA t55) fun t56 =>
 letO (binF Tryd.prog .rem 3 t54 t56) fun t57 =>
 letO (idx 1 t52 t57) fun t58 =>
 letO (load1 t58 H3) fun t59 =>
 letO (some (t10 : AV)) fun t60 =>
 letO (some (x2 : AV)) fun t61 =>
 letO (convF Tryd.prog 5 3 t61) fun t62 =>
 letO (some (t10 : AV)) fun t63 =>
 letO (lenA t63) fun t64 =>
 letO (binF Tryd.prog .rem 3 t62 t64) fun t65 =>
 letO (idx 1 t60 t65) fun t66 =>
 letO (load1 t66 H3) fun t67 =>
 letO (some (t59 : AV)) fun t11 =>
 letO (some (t67 : AV)) fun t12 =>
 letO (some (t7 : AV)) fun t68 =>
 letO (loadN 27 (.iptr c1) H3) fun t69 =>
 ACalls Tryd.prog 54 [t69] H3 fun t70 H4 =>
 letO (literalF Tryd.prog 72 2 [(0, t68), (1, t70)]) fun c5 =>
 letO (lenA (.imm 2 true c5)) fun t72 =>
 letO (some ((.int .i64 0) : AV)) fun t73 =>
 true = true ∧ ∃ (I6 : List AV → Heap → Prop) (μ7 : List AV → Heap → Nat), I6 [t73] H4 ∧ ∀ L8 H9, I6 L8 H9 → -- [t73]
 letO (binF Tryd.prog .lss 3 (L8.getD 0 .any) t72) fun t74 =>
 condA t74 true (
 letO (idx 1 (.imm 2 true c5) (L8.getD 0 .any)) fun t75 =>
 letO (load1 t75 H9) fun t76 =>
 letO (some (t76 : AV)) fun t14 =>
 letO (some (t9 : AV)) fun t77 =>
 ACalls Tryd.prog 49 [t77] H9 fun t78 H10 =>
 letO (some (t78 : AV)) fun t15 =>
 letO (some (t9 : AV)) fun t79 =>
 letO (some ((.int .i64 0) : AV)) fun t80 =>
 true = true ∧ ∃ (I11 : List AV → Heap → Prop) (μ12 : List AV → Heap → Nat), I11 [t80] H10 ∧ ∀ L13 H14, I11 L13 H14 → -- [t80]
 letO (binF Tryd.prog .lss 3 (L13.getD 0 .any) t79) fun t81 =>
 condA t81 true (
 letO (some ((L13.getD 0 .any) : AV)) fun t82 =>
 letO (some (t82 : AV)) fun t16 =>
 letO (some (t9 : AV)) fun t83 =>
 letO (some ((.int .i64 0) : AV)) fun t84 =>
 true = true ∧ ∃ (I15 : List AV → Heap → Prop) (μ16 : List AV → Heap → Nat), I15 [t84] H14 ∧ ∀ L17 H18, I15 L17 H18 → -- [t84]
 letO (binF Tryd.prog .lss 3 (L17.getD 0 .any) t83) fun t85 =>
 condA t85 true (
 letO (some ((L17.getD 0 .any) : AV)) fun t86 =>
 letO (some (t86 : AV)) fun t17 =>
 true = true ∧
 letO (some (t15 : AV)) fun t87 =>
 letO (some (t11 : AV)) fun t88 =>
 letO (some (t16 : AV)) fun t89 =>
 letO (idx 1 t88 t89) fun t90 =>
 letO (load1 t90 H18) fun t91 =>
 letO (idx 1 t87 t91) fun t92 =>
 letO (load1 t92 H18) fun t93 =>
 letO (some (t12 : AV)) fun t94 =>
 letO (some (t17 : AV)) fun t95 =>
 letO (idx 1 t94 t95) fun t96 =>
 letO (load1 t96 H18) fun t97 =>
 letO (some (t14 : AV)) fun t98 =>
 letO (some (t16 : AV)) fun t99 =>
 letO (idx 1 t98 t99) fun t100 =>
 letO (load1 t100 H18) fun t101 =>
 letO (some (t17 : AV)) fun t102 =>
 letO (idx 1 t101 t102) fun t103 =>
 letO (load1 t103 H18) fun t104 =>
 letO (idx 1 t93 t97) fun t105 =>
 storeA 1 t105 t104 (fun H19 =>
 letO (binF Tryd.prog .add 3 (L17.getD 0 .any) (.int .i64 1)) fun t106 =>
 letO (some (t106 : AV)) fun t84 =>
 I15 [t84] H19 ∧ μ16 [t84] H19 < μ16 L17 H18) H18) (
 letO (binF Tryd.prog .add 3 (L13.getD 0 .any) (.int .i64 1)) fun t107 =>
 letO (some (t107 : AV)) fun t80 =>
 I11 [t80] H18 ∧ μ12 [t80] H18 < μ12 L13 H14)) (
 letO (some (t14 : AV)) fun t109 =>
 ACalls Tryd.prog 27 [t109] H14 fun t110 H20 =>
 letO (some (t110 : AV)) fun t108 =>
 letO (extrF t108 0) fun t111 =>
 letO (extrF t108 1) fun t112 =>
 letO (some (t111 : AV)) fun t18 =>
 letO (some (t112 : AV)) fun t19 =>
 letO (some (t19 : AV)) fun t113 =>
 letO (binF Tryd.prog .neq 26 t113 (.int .i64 0)) fun t114 =>
 letO (some (t114 : AV)) fun t115 =>
 letO (gval t115 false (some (t18 : AV))) fun t116 =>
 letO (gval t115 false (lenA t116)) fun t117 =>
 letO (gval t115 false (some (t9 : AV))) fun t118 =>
 letO (gval t115 false (binF Tryd.prog .neq 3 t117 t118)) fun t119 =>
 letO (pickF t115 (.bool true) t119) fun t120 =>
 condA t120 true (
 letO (some ((.bool false) : AV)) fun t6 =>
endK t6 H20 K) (
 letO (some (t9 : AV)) fun t121 =>
 letO (some ((.int .i64 0) : AV)) fun t122 =>
 true = true ∧ ∃ (I21 : List AV → Heap → Prop) (μ22 : List AV → Heap → Nat), I21 [t122] H20 ∧ ∀ L23 H24, I21 L23 H24 → -- [t122]
 letO (binF Tryd.prog .lss 3 (L23.getD 0 .any) t121) fun t123 =>
 condA t123 true (
 letO (some ((L23.getD 0 .any) : AV)) fun t124 =>
 letO (some (t124 : AV)) fun t20 =>
 letO (some (t18 : AV)) fun t125 =>
 letO (some (t20 : AV)) fun t126 =>
 letO (idx 1 t125 t126) fun t127 =>
 letO (load1 t127 H24) fun t128 =>
 letO (lenA t128) fun t129 =>
 letO (some (t9 : AV)) fun t130 =>
 letO (binF Tryd.prog .neq 3 t129 t130) fun t131 =>
 condA t131 true (
 letO (some ((.bool false) : AV)) fun t6 =>
endK t6 H24 K) (
 letO (some (t9 : AV)) fun t132 =>
 letO (some ((.int .i64 0) : AV)) fun t133 =>
 true = true ∧ ∃ (I25 : List AV → Heap → Prop) (μ26 : List AV → Heap → Nat), I25 [t133] H24 ∧ ∀ L27 H28, I25 L27 H28 → -- [t133]
 letO (binF Tryd.prog .lss 3 (L27.getD 0 .any) t132) fun t134 =>
 condA t134 true (
 letO (some ((L27.getD 0 .any) : AV)) fun t135 =>
 letO (some (t135 : AV)) fun t21 =>
 true = true ∧
 letO (some (t18 : AV)) fun t136 =>
 letO (some (t20 : AV)) fun t137 =>
 letO (idx 1 t136 t137) fun t138 =>
 letO (load1 t138 H28) fun t139 =>
 letO (some (t21 : AV)) fun t140 =>
 letO (idx 1 t139 t140) fun t141 =>
 letO (load1 t141 H28) fun t142 =>
 letO (some (t14 : AV)) fun t143 =>
 letO (some (t21 : AV)) fun t144 =>
 letO (idx 1 t143 t144) fun t145 =>
 letO (load1 t145 H28) fun t146 =>
 letO (some (t20 : AV)) fun t147 =>
 letO (idx 1 t146 t147) fun t148 =>
 letO (load1 t148 H28) fun t149 =>
 letO (binF Tryd.prog .neq 3 t142 t149) fun t150 =>
 condA t150 true (
 letO (some ((.bool false) : AV)) fun t6 =>
endK t6 H28 K) (
 letO (binF Tryd.prog .add 3 (L27.getD 0 .any) (.int .i64 1)) fun t151 =>
 letO (some (t151 : AV)) fun t133 =>
 I25 [t133] H28 ∧ μ26 [t133] H28 < μ26 L27 H28)) (
 letO (binF Tryd.prog .add 3 (L23.getD 0 .any) (.int .i64 1)) fun t152 =>
 letO (some (t152 : AV)) fun t122 =>
 I21 [t122] H28 ∧ μ22 [t122] H28 < μ22 L23 H24))) (
 letO (some (t15 : AV)) fun t153 =>
 letO (some (t18 : AV)) fun t154 =>
 letO (literalF Tryd.prog 72 2 [(0, t153), (1, t154)]) fun c29 =>
 letO (lenA (.imm 2 true c29)) fun t156 =>
 letO (some ((.int .i64 0) : AV)) fun t157 =>
 true = true ∧ ∃ (I30 : List AV → Heap → Prop) (μ31 : List AV → Heap → Nat), I30 [t157] H24 ∧ ∀ L32 H33, I30 L32 H33 → -- [t157]
 letO (binF Tryd.prog .lss 3 (L32.getD 0 .any) t156) fun t158 =>
 condA t158 true (
 letO (idx 1 (.imm 2 true c29) (L32.getD 0 .any)) fun t159 =>
 letO (load1 t159 H33) fun t160 =>
 letO (some (t160 : AV)) fun t23 =>
 letO (some (t14 : AV)) fun t162 =>
 ACalls Tryd.prog 22 [t162] H33 fun t163 H34 =>
 letO (some (t163 : AV)) fun t161 =>
 letO (extrF t161 0) fun t164 =>
 letO (extrF t161 1) fun t165 =>
 letO (some (t164 : AV)) fun t24 =>
 letO (some (t165 : AV)) fun t25 =>
 letO (some (t23 : AV)) fun t167 =>
 ACalls Tryd.prog 22 [t167] H34 fun t168 H35 =>
 letO (some (t168 : AV)) fun t166 =>
 letO (extrF t166 0) fun t169 =>
 letO (extrF t166 1) fun t170 =>
 letO (some (t169 : AV)) fun t26 =>
 letO (some (t170 : AV)) fun t27 =>
 letO (some (t14 : AV)) fun t172 =>
 ACalls Tryd.prog 25 [t172] H35 fun t173 H36 =>
 letO (some (t173 : AV)) fun t171 =>
 letO (extrF t171 0) fun t174 =>
 letO (extrF t171 1) fun t175 =>
 letO (some (t174 : AV)) fun t28 =>
 letO (some (t175 : AV)) fun t29 =>
 letO (some (t23 : AV)) fun t177 =>
 ACalls Tryd.prog 25 [t177] H36 fun t178 H37 =>
 letO (some (t178 : AV)) fun t176 =>
 letO (extrF t176 0) fun t179 =>
 letO (extrF t176 1) fun t180 =>
 letO (some (t179 : AV)) fun t30 =>
 letO (some (t180 : AV)) fun t31 =>
 letO (some (t14 : AV)) fun t182 =>
 ACalls Tryd.prog 18 [t182] H37 fun t183 H38 =>
 letO (some (t183 : AV)) fun t181 =>
 letO (extrF t181 0) fun t184 =>
 letO (extrF t181 1) fun t185 =>
 letO (some (t184 : AV)) fun t32 =>
 letO (some (t185 : AV)) fun t33 =>
 letO (some (t23 : AV)) fun t187 =>
 ACalls Tryd.prog 18 [t187] H38 fun t188 H39 =>
 letO (some (t188 : AV)) fun t186 =>
 letO (extrF t186 0) fun t189 =>
 letO (extrF t186 1) fun t190 =>
 letO (some (t189 : AV)) fun t34 =>
 letO (some (t190 : AV)) fun t35 =>
 letO (some (t25 : AV)) fun t191 =>
 letO (binF Tryd.prog .neq 26 t191 (.int .i64 0)) fun t192 =>
 letO (some (t192 : AV)) fun t193 =>
 letO (gval t193 false (some (t27 : AV))) fun t194 =>
 letO (gval t193 false (binF Tryd.prog .neq 26 t194 (.int .i64 0))) fun t195 =>
 letO (pickF t193 (.bool true) t195) fun t196 =>
 letO (some (t196 : AV)) fun t197 =>
 letO (gval t197 false (some (t29 : AV))) fun t198 =>
 letO (gval t197 false (binF Tryd.prog .neq 26 t198 (.int .i64 0))) fun t199 =>
 letO (pickF t197 (.bool true) t199) fun t200 =>
 letO (some (t200 : AV)) fun t201 =>
 letO (gval t201 false (some (t31 : AV))) fun t202 =>
 letO (gval t201 false (binF Tryd.prog .neq 26 t202 (.int .i64 0))) fun t203 =>
 letO (pickF t201 (.bool true) t203) fun t204 =>
 letO (some (t204 : AV)) fun t205 =>
 letO (gval t205 false (some (t33 : AV))) fun t206 =>
 letO (gval t205 false (some (t35 : AV))) fun t207 =>
 letO (gval t205 false (binF Tryd.prog .neq 26 t206 t207)) fun t208 =>
 letO (pickF t205 (.bool true) t208) fun t209 =>
 letO (some (t209 : AV)) fun t210 =>
 letO (gval t210 false (some (t24 : AV))) fun t211 =>
 letO (gval t210 false (some (t26 : AV))) fun t212 =>
 letO (gval t210 false (binF Tryd.prog .neq 3 t211 t212)) fun t213 =>
 letO (pickF t210 (.bool true) t213) fun t214 =>
 letO (some (t214 : AV)) fun t215 =>
 letO (gval t215 false (some (t28 : AV))) fun t216 =>
 letO (gval t215 false (some (t30 : AV))) fun t217 =>
 letO (gval t215 false (binF Tryd.prog .neq 3 t216 t217)) fun t218 =>
 letO (pickF t215 (.bool true) t218) fun t219 =>
 letO (some (t219 : AV)) fun t220 =>
 letO (gval t220 false (some (t32 : AV))) fun t221 =>
 letO (gval t220 false (some (t34 : AV))) fun t222 =>
 letO (gval t220 false (binF Tryd.prog .neq 3 t221 t222)) fun t223 =>
 letO (pickF t220 (.bool true) t223) fun t224 =>
 condA t224 true (
 letO (some ((.bool false) : AV)) fun t6 =>
endK t6 H39 K) (
 letO (binF Tryd.prog .add 3 (L32.getD 0 .any) (.int .i64 1)) fun t225 =>
 letO (some (t225 : AV)) fun t157 =>
 I30 [t157] H39 ∧ μ31 [t157] H39 < μ31 L32 H33)) (
 letO (some (t18 : AV)) fun t227 =>
 ACalls Tryd.prog 27 [t227] H33 fun t228 H40 =>
 letO (some (t228 : AV)) fun t226 =>
 letO (extrF t226 0) fun t229 =>
 letO (extrF t226 1) fun t230 =>
 letO (some (t229 : AV)) fun t36 =>
 letO (some (t230 : AV)) fun t19 =>
 letO (some (t19 : AV)) fun t231 =>
 letO (binF Tryd.prog .neq 26 t231 (.int .i64 0)) fun t232 =>
 letO (some (t232 : AV)) fun t233 =>
 letO (gval t233 false (some (t36 : AV))) fun t234 =>
 letO (gval t233 false (some (t14 : AV))) fun t235 =>
 ∃ J41 : AV → Heap → Prop, condG t233 false (ACalls Tryd.prog 29 [t234, t235] H40 fun t236 H42 =>
 J41 t236 H42) (J41 (.tup []) H40) ∧ ∀ t236 H43, J41 t236 H43 →
 letO (gval t233 false (unF .not t236)) fun t237 =>
 letO (pickF t233 (.bool true) t237) fun t238 =>
 condA t238 true (
 letO (some ((.bool false) : AV)) fun t6 =>
endK t6 H43 K) (
 letO (some (t14 : AV)) fun t240 =>
 ACalls Tryd.prog 40 [t240] H43 fun t241 H44 =>
 letO (some (t241 : AV)) fun t239 =>
 letO (extrF t239 0) fun t242 =>
 letO (extrF t239 1) fun t243 =>
 letO (some (t242 : AV)) fun t37 =>
 letO (some (t243 : AV)) fun t38 =>
 letO (some (t15 : AV)) fun t245 =>
 ACalls Tryd.prog 40 [t245] H44 fun t246 H45 =>
 letO (some (t246 : AV)) fun t244 =>
 letO (extrF t244 0) fun t247 =>
 letO (extrF t244 1) fun t248 =>
 letO (some (t247 : AV)) fun t39 =>
 letO (some (t248 : AV)) fun t40 =>
 letO (some (t18 : AV)) fun t250 =>
 ACalls Tryd.prog 40 [t250] H45 fun t251 H46 =>
 letO (some (t251 : AV)) fun t249 =>
 letO (extrF t249 0) fun t252 =>
 letO (extrF t249 1) fun t253 =>
 letO (some (t252 : AV)) fun t41 =>
 letO (some (t253 : AV)) fun t42 =>
 letO (some (t38 : AV)) fun t254 =>
 letO (some (t40 : AV)) fun t255 =>
 letO (binF Tryd.prog .neq 26 t254 t255) fun t256 =>
 letO (some (t256 : AV)) fun t257 =>
 letO (gval t257 false (some (t38 : AV))) fun t258 =>
 letO (gval t257 false (some (t42 : AV))) fun t259 =>
 letO (gval t257 false (binF Tryd.prog .neq 26 t258 t259)) fun t260 =>
 letO (pickF t257 (.bool true) t260) fun t261 =>
 letO (some (t261 : AV)) fun t262 =>
 letO (gval t262 false (some (t37 : AV))) fun t263 =>
 letO (gval t262 false (some (t39 : AV))) fun t264 =>
 letO (gval t262 false (binF Tryd.prog .neq 3 t263 t264)) fun t265 =>
 letO (pickF t262 (.bool true) t265) fun t266 =>
 letO (some (t266 : AV)) fun t267 =>
 letO (gval t267 false (some (t37 : AV))) fun t268 =>
 letO (gval t267 false (some (t41 : AV))) fun t269 =>
 letO (gval t267 false (binF Tryd.prog .neq 3 t268 t269)) fun t270 =>
 letO (pickF t267 (.bool true) t270) fun t271 =>
 condA t271 true (
 letO (some ((.bool false) : AV)) fun t6 =>
endK t6 H46 K) (
 letO (binF Tryd.prog .add 3 (L8.getD 0 .any) (.int .i64 1)) fun t272 =>
 letO (some (t272 : AV)) fun t73 =>
 I6 [t73] H46 ∧ μ7 [t73] H46 < μ7 L8 H9))))))) (
 ACalls Tryd.prog 17 [] H9 fun t273 H47 =>
 letO (some (t273 : AV)) fun t6 =>
endK t6 H47 K)

theorem W12_ok {x0 x1 x2 : AV} {H : Heap} {K : AV → Heap → Prop} (h : W12 x0 x1 x2 H K) : ACalls Tryd.prog 12 [x0, x1, x2] H K :=
  acallsB (fn := Tryd.f12) (cfg := cfgOf [] [] [(4, [0, 0, 2, 0, 8, 30, 63, 127, 0, 0, 512, 0, 2048, 7680, 16128, 32512, 255, 131071]), (15, [0, 0, 0, 6, 14, 31, 63, 0, 0, 384, 896, 0, 0, 6144, 14336, 0, 63488, 129024, 262143, 524287]), (29, [0, 0, 3, 7, 0, 31, 63, 0, 0, 384, 896, 0, 3968, 8064, 16383])] [] []) (hh := (.dir .nil (.dir .nil (.dir .nil (.dir .nil (.dir .nil (.dir (.dir .nil (.blk (.loop [73] [74, 75, 76, 14, 77, 78, 15, 79, 80, 81, 82, 16, 83, 84, 85, 86, 17, 87, 88, 89, 90, 91, 92, 93, 94, 95, 96, 97, 98, 99, 100, 101, 102, 103, 104, 105, 106, 107, 109, 110, 108, 111, 112, 18, 19, 113, 114, 115, 116, 117, 118, 119, 120, 6, 121, 122, 123, 124, 20, 125, 126, 127, 128, 129, 130, 131, 132, 133, 134, 135, 21, 136, 137, 138, 139, 140, 141, 142, 143, 144, 145, 146, 147, 148, 149, 150, 151, 152, 153, 154, 155, 156, 157, 158, 159, 160, 23, 162, 163, 161, 164, 165, 24, 25, 167, 168, 166, 169, 170, 26, 27, 172, 173, 171, 174, 175, 28, 29, 177, 178, 176, 179, 180, 30, 31, 182, 183, 181, 184, 185, 32, 33, 187, 188, 186, 189, 190, 34, 35, 191, 192, 193, 194, 195, 196, 197, 198, 199, 200, 201, 202, 203, 204, 205, 206, 207, 208, 209, 210, 211, 212, 213, 214, 215, 216, 217, 218, 219, 220, 221, 222, 223, 224, 225, 227, 228, 226, 229, 230, 36, 231, 232, 233, 234, 235, 236, 237, 238, 240, 241, 239, 242, 243, 37, 38, 245, 246, 244, 247, 248, 39, 40, 250, 251, 249, 252, 253, 41, 42, 254, 255, 256, 257, 258, 259, 260, 261, 262, 263, 264, 265, 266, 267, 268, 269, 270, 271, 272, 73] (.dir .nil (.dir .nil (.dir (.blk (.dir .nil (.dir .nil (.dir (.dir .nil (.blk (.loop [80] [81, 82, 16, 83, 84, 85, 86, 17, 87, 88, 89, 90, 91, 92, 93, 94, 95, 96, 97, 98, 99, 100, 101, 102, 103, 104, 105, 106, 107, 80] (.dir .nil (.dir .nil (.dir (.blk (.dir .nil (.dir .nil (.blk (.loop [84] [85, 86, 17, 87, 88, 89, 90, 91, 92, 93, 94, 95, 96, 97, 98, 99, 100, 101, 102, 103, 104, 105, 106, 84] (.dir .nil (.dir .nil (.dir .nil .nil)))))))) .nil)))))) (.dir .nil (.dir (.dir .nil (.dir .nil .nil)) (.dir (.dir .nil (.blk (.loop [122] [123, 124, 20, 125, 126, 127, 128, 129, 130, 131, 6, 132, 133, 134, 135, 21, 136, 137, 138, 139, 140, 141, 142, 143, 144, 145, 146, 147, 148, 149, 150, 151, 152, 122] (.dir .nil (.dir .nil (.dir (.blk (.dir .nil (.dir (.dir .nil (.dir .nil .nil)) (.dir .nil (.blk (.loop [133] [134, 135, 21, 136, 137, 138, 139, 140, 141, 142, 143, 144, 145, 146, 147, 148, 149, 150, 6, 151, 133] (.dir .nil (.dir .nil (.dir (.blk (.dir .nil (.dir .nil (.dir .nil .nil)))) .nil))))))))) .nil)))))) (.dir (.dir .nil (.blk (.loop [157] [158, 159, 160, 23, 162, 163, 161, 164, 165, 24, 25, 167, 168, 166, 169, 170, 26, 27, 172, 173, 171, 174, 175, 28, 29, 177, 178, 176, 179, 180, 30, 31, 182, 183, 181, 184, 185, 32, 33, 187, 188, 186, 189, 190, 34, 35, 191, 192, 193, 194, 195, 196, 197, 198, 199, 200, 201, 202, 203, 204, 205, 206, 207, 208, 209, 210, 211, 212, 213, 214, 215, 216, 217, 218, 219, 220, 221, 222, 223, 224, 6, 225, 157] (.dir .nil (.dir .nil (.dir (.blk (.dir .nil (.dir .nil (.dir .nil (.dir .nil (.dir .nil (.dir .nil (.dir .nil (.dir .nil (.dir .nil .nil)))))))))) .nil)))))) (.dir .nil (.dir (.dir .nil (.dir .nil .nil)) (.dir .nil (.dir .nil (.dir .nil (.dir .nil (.dir .nil .nil))))))))))))))) .nil)))))) .nil))))))) follows Tryd.func12 (by kernel_rfl) (Nat.le_of_ble_eq_true (by kernel_rfl)) (by kernel_rfl) h

/-- headword.headwordlaw11.large -/
def W16 (x0 : AV) (H : Heap) (K : AV → Heap → Prop) : Prop :=
 letO (some ((.bool false) : AV)) fun t2 =>
 letO (some (x0 : AV)) fun t4 =>
 letO (lenA t4) fun t5 =>
 letO (binF Tryd.prog .gtr 3 t5 (.int .i64 20)) fun t6 =>
 condA t6 true (
 letO (some ((.bool true) : AV)) fun t2 =>
endK t2 H K) (
 letO (some ((.int .i64 0) : AV)) fun t3 =>
 true = true ∧ ∃ (I1 : List AV → Heap → Prop) (μ2 : List AV → Heap → Nat), I1 [t3] H ∧ ∀ L3 H4, I1 L3 H4 → -- [t3]
 letO (some ((L3.getD 0 .any) : AV)) fun t7 =>
 letO (some (x0 : AV)) fun t8 =>
 letO (lenA t8) fun t9 =>
 letO (binF Tryd.prog .lss 3 t7 t9) fun t10 =>
 condA t10 true (
 letO (some (x0 : AV)) fun t13 =>
 letO (some ((L3.getD 0 .any) : AV)) fun t14 =>
 letO (idx 1 t13 t14) fun t15 =>
 letO (load1 t15 H4) fun t16 =>
 letO (lenA t16) fun t17 =>
 letO (binF Tryd.prog .gtr 3 t17 (.int .i64 20)) fun t18 =>
 condA t18 true (
 letO (some ((.bool true) : AV)) fun t2 =>
endK t2 H4 K) (
 letO (some ((L3.getD 0 .any) : AV)) fun t11 =>
 letO (binF Tryd.prog .add 3 t11 (.int .i64 1)) fun t12 =>
 letO (some (t12 : AV)) fun t3 =>
 I1 [t3] H4 ∧ μ2 [t3] H4 < μ2 L3 H4)) (
 letO (some ((.bool false) : AV)) fun t2 =>
endK t2 H4 K))

theorem W16_ok {x0 : AV} {H : Heap} {K : AV → Heap → Prop} (h : W16 x0 H K) : ACalls Tryd.prog 16 [x0] H K :=
  acallsB (fn := Tryd.f16) (cfg := cfgOf [] [] [] [] []) (hh := (.dir .nil (.dir (.dir .nil (.dir .nil .nil)) (.dir (.dir .nil (.blk (.loop [3] [7, 8, 9, 10, 13, 14, 15, 16, 17, 18, 2, 11, 12, 3] (.dir (.dir .nil .nil) (.dir (.blk (.dir .nil (.dir .nil .nil))) .nil))))) .nil)))) follows Tryd.func16 (by kernel_rfl) (Nat.le_of_ble_eq_true (by kernel_rfl)) (by kernel_rfl) h

/-- headword.headwordref11.Even -/
def W19 (x0 : AV) (H : Heap) (K : AV → Heap → Prop) : Prop :=
 letO (some ((.int .i64 0) : AV)) fun t2 =>
 letO (some ((.int .i64 0) : AV)) fun t3 =>
 letO (some (x0 : AV)) fun t10 =>
 ACalls Tryd.prog 31 [t10] H fun t11 H1 =>
 letO (some (t11 : AV)) fun t4 =>
 letO (some (t4 : AV)) fun t12 =>
 letO (binF Tryd.prog .neq 26 t12 (.int .i64 0)) fun t13 =>
 condA t13 true (
 letO (some (t4 : AV)) fun t14 =>
 letO (some ((.int .i64 0) : AV)) fun t2 =>
 letO (some (t14 : AV)) fun t3 =>
endK (.tup [t2, t3]) H1 K) (
 letO (some (x0 : AV)) fun t16 =>
 ACalls Tryd.prog 72 [t16, (.int .i64 0)] H1 fun t17 H2 =>
 letO (some (t17 : AV)) fun t15 =>
 letO (extrF t15 0) fun t18 =>
 letO (extrF t15 1) fun t19 =>
 letO (some (t18 : AV)) fun t5 =>
 letO (some (t19 : AV)) fun t6 =>
 letO (some ((.int .i64 0) : AV)) fun t7 =>
 true = true ∧ ∃ (I3 : List AV → Heap → Prop) (μ4 : List AV → Heap → Nat), I3 [t7] H2 ∧ ∀ L5 H6, I3 L5 H6 → -- [t7]
 letO (some ((L5.getD 0 .any) : AV)) fun t20 =>
 letO (some (x0 : AV)) fun t21 =>
 letO (lenA t21) fun t22 =>
 letO (binF Tryd.prog .lss 3 t20 t22) fun t23 =>
 condA t23 true (
 letO (some (x0 : AV)) fun t27 =>
 letO (some ((L5.getD 0 .any) : AV)) fun t28 =>
 ACalls Tryd.prog 72 [t27, t28] H6 fun t29 H7 =>
 letO (some (t29 : AV)) fun t26 =>
 letO (extrF t26 0) fun t30 =>
 letO (extrF t26 1) fun t31 =>
 letO (some (t30 : AV)) fun t8 =>
 letO (some (t31 : AV)) fun t9 =>
 letO (some (t8 : AV)) fun t32 =>
 letO (some (t5 : AV)) fun t33 =>
 letO (binF Tryd.prog .neq 3 t32 t33) fun t34 =>
 letO (some (t34 : AV)) fun t35 =>
 letO (gval t35 false (some (t9 : AV))) fun t36 =>
 letO (gval t35 false (some (t5 : AV))) fun t37 =>
 letO (gval t35 false (binF Tryd.prog .neq 3 t36 t37)) fun t38 =>
 letO (pickF t35 (.bool true) t38) fun t39 =>
 condA t39 true (
 letO (some ((.int .i64 0) : AV)) fun t2 =>
 letO (some ((.int .i64 17) : AV)) fun t3 =>
endK (.tup [t2, t3]) H7 K) (
 letO (some ((L5.getD 0 .any) : AV)) fun t24 =>
 letO (binF Tryd.prog .add 3 t24 (.int .i64 1)) fun t25 =>
 letO (some (t25 : AV)) fun t7 =>
 I3 [t7] H7 ∧ μ4 [t7] H7 < μ4 L5 H6)) (
 letO (some (t5 : AV)) fun t40 =>
 letO (some (t40 : AV)) fun t2 =>
 letO (some ((.int .i64 0) : AV)) fun t3 =>
endK (.tup [t2, t3]) H6 K))

theorem W19_ok {x0 : AV} {H : Heap} {K : AV → Heap → Prop} (h : W19 x0 H K) : ACalls Tryd.prog 19 [x0] H K :=
  acallsB (fn := Tryd.f19) (cfg := cfgOf [] [] [] [] []) (hh := (.dir .nil (.dir .nil (.dir (.dir .nil (.dir .nil .nil)) (.dir .nil (.dir (.dir .nil (.blk (.loop [7] [20, 21, 22, 23, 27, 28, 29, 26, 30, 31, 8, 9, 32, 33, 34, 35, 36, 37, 38, 39, 2, 3, 24, 25, 7] (.dir (.dir .nil .nil) (.dir (.blk (.dir .nil (.dir .nil (.dir .nil .nil)))) .nil))))) .nil)))))) follows Tryd.func19 (by kernel_rfl) (Nat.le_of_ble_eq_true (by kernel_rfl)) (by kernel_rfl) h

/-- headword.headwordref11.First -/
def W21 (x0 : AV) (H : Heap) (K : AV → Heap → Prop) : Prop :=
 letO (some (.nils : AV)) fun t2 =>
 letO (some ((.int .i64 0) : AV)) fun t3 =>
 letO (some (x0 : AV)) fun t6 =>
 ACalls Tryd.prog 31 [t6] H fun t7 H1 =>
 letO (some (t7 : AV)) fun t4 =>
 letO (some (t4 : AV)) fun t8 =>
 letO (binF Tryd.prog .neq 26 t8 (.int .i64 0)) fun t9 =>
 condA t9 true (
 letO (some (t4 : AV)) fun t10 =>
 letO (some (.nils : AV)) fun t2 =>
 letO (some (t10 : AV)) fun t3 =>
endK (.tup [t2, t3]) H1 K) (
 letO (some (x0 : AV)) fun t11 =>
 ACalls Tryd.prog 74 [t11] H1 fun t12 H2 =>
 letO (some (t12 : AV)) fun t5 =>
 letO (some (t5 : AV)) fun t13 =>
 letO (lenA t13) fun t14 =>
 letO (binF Tryd.prog .eql 3 t14 (.int .i64 0)) fun t15 =>
 condA t15 true (
 letO (some (.nils : AV)) fun t2 =>
 letO (some ((.int .i64 12) : AV)) fun t3 =>
endK (.tup [t2, t3]) H2 K) (
 letO (some (t5 : AV)) fun t16 =>
 letO (idx 1 t16 (.int .i64 0)) fun t17 =>
 letO (load1 t17 H2) fun t18 =>
 letO (some (t18 : AV)) fun t2 =>
 letO (some ((.int .i64 0) : AV)) fun t3 =>
endK (.tup [t2, t3]) H2 K))

theorem W21_ok {x0 : AV} {H : Heap} {K : AV → Heap → Prop} (h : W21 x0 H K) : ACalls Tryd.prog 21 [x0] H K :=
  acallsB (fn := Tryd.f21) (cfg := cfgOf [] [] [] [] []) (hh := (.dir .nil (.dir .nil (.dir (.dir .nil (.dir .nil .nil)) (.dir .nil (.dir (.dir .nil (.dir .nil .nil)) .nil)))))) follows Tryd.func21 (by kernel_rfl) (Nat.le_of_ble_eq_true (by kernel_rfl)) (by kernel_rfl) h

/-- headword.headwordref11.Count -/
def W23 (x0 : AV) (H : Heap) (K : AV → Heap → Prop) : Prop :=
 letO (some ((.int .i64 0) : AV)) fun t2 =>
 letO (some ((.int .i64 0) : AV)) fun t3 =>
 letO (some (x0 : AV)) fun t5 =>
 ACalls Tryd.prog 31 [t5] H fun t6 H1 =>
 letO (some (t6 : AV)) fun t4 =>
 letO (some (t4 : AV)) fun t7 =>
 letO (binF Tryd.prog .neq 26 t7 (.int .i64 0)) fun t8 =>
 condA t8 true (
 letO (some (t4 : AV)) fun t9 =>
 letO (some ((.int .i64 0) : AV)) fun t2 =>
 letO (some (t9 : AV)) fun t3 =>
endK (.tup [t2, t3]) H1 K) (
 letO (some (x0 : AV)) fun t10 =>
 ACalls Tryd.prog 74 [t10] H1 fun t11 H2 =>
 letO (lenA t11) fun t12 =>
 letO (some (t12 : AV)) fun t2 =>
 letO (some ((.int .i64 0) : AV)) fun t3 =>
endK (.tup [t2, t3]) H2 K)

theorem W23_ok {x0 : AV} {H : Heap} {K : AV → Heap → Prop} (h : W23 x0 H K) : ACalls Tryd.prog 23 [x0] H K :=
  acallsB (fn := Tryd.f23) (cfg := cfgOf [] [] [] [] []) (hh := (.dir .nil (.dir .nil (.dir (.dir .nil (.dir .nil .nil)) .nil)))) follows Tryd.func23 (by kernel_rfl) (Nat.le_of_ble_eq_true (by kernel_rfl)) (by kernel_rfl) h

/-- headword.headwordref11.Weight -/
def W26 (x0 : AV) (H : Heap) (K : AV → Heap → Prop) : Prop :=
 letO (some ((.int .i64 0) : AV)) fun t2 =>
 letO (some ((.int .i64 0) : AV)) fun t3 =>
 letO (some (x0 : AV)) fun t10 =>
 ACalls Tryd.prog 31 [t10] H fun t11 H1 =>
 letO (some (t11 : AV)) fun t4 =>
 letO (some (t4 : AV)) fun t12 =>
 letO (binF Tryd.prog .neq 26 t12 (.int .i64 0)) fun t13 =>
 condA t13 true (
 letO (some (t4 : AV)) fun t14 =>
 letO (some ((.int .i64 0) : AV)) fun t2 =>
 letO (some (t14 : AV)) fun t3 =>
endK (.tup [t2, t3]) H1 K) (
 letO (some ((.int .i64 0) : AV)) fun t5 =>
 letO (some (x0 : AV)) fun t15 =>
 letO (lenA t15) fun t16 =>
 ACalls Tryd.prog 76 [t16, .nils] H1 fun t17 H2 =>
 letO (some (t17 : AV)) fun t6 =>
 letO (some ((.int .i64 0) : AV)) fun t7 =>
 true = true ∧ ∃ (I3 : List AV → Heap → Prop) (μ4 : List AV → Heap → Nat), I3 [t5, t7] H2 ∧ ∀ L5 H6, I3 L5 H6 → -- [t5, t7]
 letO (some ((L5.getD 1 .any) : AV)) fun t18 =>
 letO (some (t6 : AV)) fun t19 =>
 letO (lenA t19) fun t20 =>
 letO (binF Tryd.prog .lss 3 t18 t20) fun t21 =>
 condA t21 true (
 letO (some ((.int .i64 1) : AV)) fun t8 =>
 letO (some ((.int .i64 0) : AV)) fun t9 =>
 true = true ∧ ∃ (I7 : List AV → Heap → Prop) (μ8 : List AV → Heap → Nat), I7 [t8, t9] H6 ∧ ∀ L9 H10, I7 L9 H10 → -- [t8, t9]
 letO (some ((L9.getD 1 .any) : AV)) fun t24 =>
 letO (some (x0 : AV)) fun t25 =>
 letO (lenA t25) fun t26 =>
 letO (binF Tryd.prog .lss 3 t24 t26) fun t27 =>
 condA t27 true (
 true = true ∧
 letO (some ((L9.getD 0 .any) : AV)) fun t30 =>
 letO (some (x0 : AV)) fun t31 =>
 letO (some ((L9.getD 1 .any) : AV)) fun t32 =>
 letO (idx 1 t31 t32) fun t33 =>
 letO (load1 t33 H10) fun t34 =>
 letO (some (t6 : AV)) fun t35 =>
 letO (some ((L5.getD 1 .any) : AV)) fun t36 =>
 letO (idx 1 t35 t36) fun t37 =>
 letO (load1 t37 H10) fun t38 =>
 letO (some ((L9.getD 1 .any) : AV)) fun t39 =>
 letO (idx 1 t38 t39) fun t40 =>
 letO (load1 t40 H10) fun t41 =>
 letO (idx 1 t34 t41) fun t42 =>
 letO (load1 t42 H10) fun t43 =>
 letO (binF Tryd.prog .mul 3 t30 t43) fun t44 =>
 letO (some (t44 : AV)) fun t8 =>
 letO (some ((L9.getD 1 .any) : AV)) fun t28 =>
 letO (binF Tryd.prog .add 3 t28 (.int .i64 1)) fun t29 =>
 letO (some (t29 : AV)) fun t9 =>
 I7 [t8, t9] H10 ∧ μ8 [t8, t9] H10 < μ8 L9 H10) (
 letO (some ((L5.getD 0 .any) : AV)) fun t45 =>
 letO (some ((L9.getD 0 .any) : AV)) fun t46 =>
 letO (binF Tryd.prog .add 3 t45 t46) fun t47 =>
 letO (some (t47 : AV)) fun t5 =>
 letO (some ((L5.getD 1 .any) : AV)) fun t22 =>
 letO (binF Tryd.prog .add 3 t22 (.int .i64 1)) fun t23 =>
 letO (some (t23 : AV)) fun t7 =>
 I3 [t5, t7] H10 ∧ μ4 [t5, t7] H10 < μ4 L5 H6)) (
 letO (some ((L5.getD 0 .any) : AV)) fun t48 =>
 letO (some (t48 : AV)) fun t2 =>
 letO (some ((.int .i64 0) : AV)) fun t3 =>
endK (.tup [t2, t3]) H6 K))

theorem W26_ok {x0 : AV} {H : Heap} {K : AV → Heap → Prop} (h : W26 x0 H K) : ACalls Tryd.prog 26 [x0] H K :=
  acallsB (fn := Tryd.f26) (cfg := cfgOf [] [] [(13, [0, 0, 0, 6, 14, 0, 0, 96, 224, 0, 992, 2016, 4094, 8190, 16383, 32767])] [] []) (hh := (.dir .nil (.dir .nil (.dir (.dir .nil (.dir .nil .nil)) (.dir .nil (.dir .nil (.dir (.dir .nil (.blk (.loop [5, 7] [18, 19, 20, 21, 8, 9, 24, 25, 26, 27, 30, 31, 32, 33, 34, 35, 36, 37, 38, 39, 40, 41, 42, 43, 44, 28, 29, 45, 46, 47, 5, 22, 23, 7] (.dir (.dir .nil .nil) (.dir (.blk (.dir .nil (.dir (.dir .nil (.blk (.loop [8, 9] [24, 25, 26, 27, 30, 31, 32, 33, 34, 35, 36, 37, 38, 39, 40, 41, 42, 43, 44, 8, 28, 29, 9] (.dir (.dir .nil .nil) (.dir .nil .nil))))) .nil))) .nil))))) .nil))))))) follows Tryd.func26 (by kernel_rfl) (Nat.le_of_ble_eq_true (by kernel_rfl)) (by kernel_rfl) h

/-- headword.headwordref11.Turn -/
def W28 (x0 : AV) (H : Heap) (K : AV → Heap → Prop) : Prop :=
 letO (some (.nils : AV)) fun t2 =>
 letO (some ((.int .i64 0) : AV)) fun t3 =>
 letO (some (x0 : AV)) fun t9 =>
 ACalls Tryd.prog 31 [t9] H fun t10 H1 =>
 letO (some (t10 : AV)) fun t4 =>
 letO (some (t4 : AV)) fun t11 =>
 letO (binF Tryd.prog .neq 26 t11 (.int .i64 0)) fun t12 =>
 condA t12 true (
 letO (some (t4 : AV)) fun t13 =>
 letO (some (.nils : AV)) fun t2 =>
 letO (some (t13 : AV)) fun t3 =>
endK (.tup [t2, t3]) H1 K) (
 letO (some (.nils : AV)) fun t5 =>
 letO (some ((.int .i64 0) : AV)) fun t6 =>
 true = true ∧ ∃ (I2 : List AV → Heap → Prop) (μ3 : List AV → Heap → Nat), I2 [t5, t6] H1 ∧ ∀ L4 H5, I2 L4 H5 → -- [t5, t6]
 letO (some ((L4.getD 1 .any) : AV)) fun t14 =>
 letO (some (x0 : AV)) fun t15 =>
 letO (lenA t15) fun t16 =>
 letO (binF Tryd.prog .lss 3 t14 t16) fun t17 =>
 condA t17 true (
 letO (some (.nils : AV)) fun t7 =>
 letO (some ((.int .i64 0) : AV)) fun t8 =>
 true = true ∧ ∃ (I6 : List AV → Heap → Prop) (μ7 : List AV → Heap → Nat), I6 [t7, t8] H5 ∧ ∀ L8 H9, I6 L8 H9 → -- [t7, t8]
 letO (some ((L8.getD 1 .any) : AV)) fun t20 =>
 letO (some (x0 : AV)) fun t21 =>
 letO (lenA t21) fun t22 =>
 letO (binF Tryd.prog .lss 3 t20 t22) fun t23 =>
 condA t23 true (
 letO (some ((L8.getD 0 .any) : AV)) fun t26 =>
 letO (some (x0 : AV)) fun t27 =>
 letO (some ((L8.getD 1 .any) : AV)) fun t28 =>
 letO (idx 1 t27 t28) fun t29 =>
 letO (load1 t29 H9) fun t30 =>
 letO (some ((L4.getD 1 .any) : AV)) fun t31 =>
 letO (idx 1 t30 t31) fun t32 =>
 letO (load1 t32 H9) fun t33 =>
 letO (literalF Tryd.prog 23 1 [(0, t33)]) fun c10 =>
 appendA 1 8 t26 (.imm 1 true c10) (fun t35 H11 =>
 letO (some (t35 : AV)) fun t7 =>
 letO (some ((L8.getD 1 .any) : AV)) fun t24 =>
 letO (binF Tryd.prog .add 3 t24 (.int .i64 1)) fun t25 =>
 letO (some (t25 : AV)) fun t8 =>
 I6 [t7, t8] H11 ∧ μ7 [t7, t8] H11 < μ7 L8 H9) H9) (
 letO (some ((L4.getD 0 .any) : AV)) fun t36 =>
 letO (some ((L8.getD 0 .any) : AV)) fun t37 =>
 letO (literalF Tryd.prog 22 1 [(0, t37)]) fun c12 =>
 appendA 1 24 t36 (.imm 1 true c12) (fun t39 H13 =>
 letO (some (t39 : AV)) fun t5 =>
 letO (some ((L4.getD 1 .any) : AV)) fun t18 =>
 letO (binF Tryd.prog .add 3 t18 (.int .i64 1)) fun t19 =>
 letO (some (t19 : AV)) fun t6 =>
 I2 [t5, t6] H13 ∧ μ3 [t5, t6] H13 < μ3 L4 H5) H9)) (
 letO (some ((L4.getD 0 .any) : AV)) fun t40 =>
 letO (some (t40 : AV)) fun t2 =>
 letO (some ((.int .i64 0) : AV)) fun t3 =>
endK (.tup [t2, t3]) H5 K))

theorem W28_ok {x0 : AV} {H : Heap} {K : AV → Heap → Prop} (h : W28 x0 H K) : ACalls Tryd.prog 28 [x0] H K :=
  acallsB (fn := Tryd.f28) (cfg := cfgOf [] [] [] [] []) (hh := (.dir .nil (.dir .nil (.dir (.dir .nil (.dir .nil .nil)) (.dir .nil (.dir (.dir .nil (.blk (.loop [5, 6] [14, 15, 16, 17, 7, 8, 20, 21, 22, 23, 26, 27, 28, 29, 30, 31, 32, 33, 34, 35, 24, 25, 36, 37, 38, 39, 5, 18, 19, 6] (.dir (.dir .nil .nil) (.dir (.blk (.dir .nil (.dir (.dir .nil (.blk (.loop [7, 8] [20, 21, 22, 23, 26, 27, 28, 29, 30, 31, 32, 33, 34, 35, 7, 24, 25, 8] (.dir (.dir .nil .nil) (.dir .nil .nil))))) .nil))) .nil))))) .nil)))))) follows Tryd.func28 (by kernel_rfl) (Nat.le_of_ble_eq_true (by kernel_rfl)) (by kernel_rfl) h

/-- headword.headwordref11.Check -/
def W31 (x0 : AV) (H : Heap) (K : AV → Heap → Prop) : Prop :=
 letO (some ((.int .i64 0) : AV)) fun t2 =>
 letO (some (x0 : AV)) fun t5 =>
 letO (lenA t5) fun t6 =>
 letO (binF Tryd.prog .eql 3 t6 (.int .i64 0)) fun t7 =>
 condA t7 true (
 letO (some ((.int .i64 4) : AV)) fun t2 =>
endK t2 H K) (
 letO (some (x0 : AV)) fun t8 =>
 letO (lenA t8) fun t9 =>
 letO (binF Tryd.prog .gtr 3 t9 (.int .i64 4)) fun t10 =>
 condA t10 true (
 letO (some ((.int .i64 3) : AV)) fun t2 =>
endK t2 H K) (
 letO (some ((.int .i64 0) : AV)) fun t3 =>
 true = true ∧ ∃ (I1 : List AV → Heap → Prop) (μ2 : List AV → Heap → Nat), I1 [t3] H ∧ ∀ L3 H4, I1 L3 H4 → -- [t3]
 letO (some ((L3.getD 0 .any) : AV)) fun t11 =>
 letO (some (x0 : AV)) fun t12 =>
 letO (lenA t12) fun t13 =>
 letO (binF Tryd.prog .lss 3 t11 t13) fun t14 =>
 condA t14 true (
 letO (some (x0 : AV)) fun t17 =>
 letO (some ((L3.getD 0 .any) : AV)) fun t18 =>
 letO (idx 1 t17 t18) fun t19 =>
 letO (load1 t19 H4) fun t20 =>
 letO (lenA t20) fun t21 =>
 letO (some (x0 : AV)) fun t22 =>
 letO (lenA t22) fun t23 =>
 letO (binF Tryd.prog .neq 3 t21 t23) fun t24 =>
 condA t24 true (
 letO (some ((.int .i64 5) : AV)) fun t2 =>
endK t2 H4 K) (
 letO (some ((.int .i64 0) : AV)) fun t4 =>
 true = true ∧ ∃ (I5 : List AV → Heap → Prop) (μ6 : List AV → Heap → Nat), I5 [t4] H4 ∧ ∀ L7 H8, I5 L7 H8 → -- [t4]
 letO (some ((L7.getD 0 .any) : AV)) fun t25 =>
 letO (some (x0 : AV)) fun t26 =>
 letO (some ((L3.getD 0 .any) : AV)) fun t27 =>
 letO (idx 1 t26 t27) fun t28 =>
 letO (load1 t28 H8) fun t29 =>
 letO (lenA t29) fun t30 =>
 letO (binF Tryd.prog .lss 3 t25 t30) fun t31 =>
 condA t31 true (
 letO (some (x0 : AV)) fun t34 =>
 letO (some ((L3.getD 0 .any) : AV)) fun t35 =>
 letO (idx 1 t34 t35) fun t36 =>
 letO (load1 t36 H8) fun t37 =>
 letO (some ((L7.getD 0 .any) : AV)) fun t38 =>
 letO (idx 1 t37 t38) fun t39 =>
 letO (load1 t39 H8) fun t40 =>
 ACalls Tryd.prog 78 [t40, (.int .i64 0), (.int .i64 9)] H8 fun t41 H9 =>
 letO (unF .not t41) fun t42 =>
 condA t42 true (
 letO (some ((.int .i64 1) : AV)) fun t2 =>
endK t2 H9 K) (
 letO (some ((L7.getD 0 .any) : AV)) fun t32 =>
 letO (binF Tryd.prog .add 3 t32 (.int .i64 1)) fun t33 =>
 letO (some (t33 : AV)) fun t4 =>
 I5 [t4] H9 ∧ μ6 [t4] H9 < μ6 L7 H8)) (
 letO (some ((L3.getD 0 .any) : AV)) fun t15 =>
 letO (binF Tryd.prog .add 3 t15 (.int .i64 1)) fun t16 =>
 letO (some (t16 : AV)) fun t3 =>
 I1 [t3] H8 ∧ μ2 [t3] H8 < μ2 L3 H4))) (
 letO (some ((.int .i64 0) : AV)) fun t2 =>
endK t2 H4 K)))

theorem W31_ok {x0 : AV} {H : Heap} {K : AV → Heap → Prop} (h : W31 x0 H K) : ACalls Tryd.prog 31 [x0] H K :=
  acallsB (fn := Tryd.f31) (cfg := cfgOf [] [] [] [] []) (hh := (.dir .nil (.dir (.dir .nil (.dir .nil .nil)) (.dir (.dir .nil (.dir .nil .nil)) (.dir (.dir .nil (.blk (.loop [3] [11, 12, 13, 14, 17, 18, 19, 20, 21, 22, 23, 24, 2, 4, 25, 26, 27, 28, 29, 30, 31, 34, 35, 36, 37, 38, 39, 40, 41, 42, 32, 33, 15, 16, 3] (.dir (.dir .nil .nil) (.dir (.blk (.dir (.dir .nil (.dir .nil .nil)) (.dir .nil (.blk (.loop [4] [25, 26, 27, 28, 29, 30, 31, 34, 35, 36, 37, 38, 39, 40, 41, 42, 2, 32, 33, 4] (.dir (.dir .nil .nil) (.dir (.blk (.dir .nil (.dir .nil .nil))) .nil))))))) .nil))))) .nil))))) follows Tryd.func31 (by kernel_rfl) (Nat.le_of_ble_eq_true (by kernel_rfl)) (by kernel_rfl) h

/-- headword.headwordref11.Within -/
def W33 (x0 x1 : AV) (H : Heap) (K : AV → Heap → Prop) : Prop :=
 letO (some ((.int .i64 0) : AV)) fun t4 =>
 letO (some (x0 : AV)) fun t6 =>
 ACalls Tryd.prog 31 [t6] H fun t7 H1 =>
 letO (some (t7 : AV)) fun t5 =>
 true = true ∧ ∃ J2 : List AV → Heap → Prop, (
 letO (some (t5 : AV)) fun t8 =>
 letO (binF Tryd.prog .eql 26 t8 (.int .i64 0)) fun t9 =>
 condA t9 true (
 letO (some (x0 : AV)) fun t10 =>
 letO (lenA t10) fun t11 =>
 letO (some (x1 : AV)) fun t12 =>
 ACalls Tryd.prog 80 [t11, t12] H1 fun t13 H3 =>
 letO (some (t13 : AV)) fun t5 =>
 J2 [t5] H3) (
 J2 [t5] H1)) ∧ ∀ L4 H5, J2 L4 H5 → -- [t5]
 true = true ∧ ∃ J6 : List AV → Heap → Prop, (
 letO (some ((L4.getD 0 .any) : AV)) fun t14 =>
 letO (binF Tryd.prog .eql 26 t14 (.int .i64 0)) fun t15 =>
 letO (some (t15 : AV)) fun t16 =>
 letO (gval t16 true (some (x0 : AV))) fun t17 =>
 letO (gval t16 true (some (x1 : AV))) fun t18 =>
 ∃ J7 : AV → Heap → Prop, condG t16 true (ACalls Tryd.prog 81 [t17, t18] H5 fun t19 H8 =>
 J7 t19 H8) (J7 (.tup []) H5) ∧ ∀ t19 H9, J7 t19 H9 →
 letO (gval t16 true (binF Tryd.prog .eql 3 t19 (.int .i64 0))) fun t20 =>
 letO (pickF t16 t20 (.bool false)) fun t21 =>
 condA t21 true (
 letO (some ((.int .i64 12) : AV)) fun t5 =>
 J6 [t5] H9) (
 J6 [(L4.getD 0 .any)] H9)) ∧ ∀ L10 H11, J6 L10 H11 → -- [t5]
 letO (some ((L10.getD 0 .any) : AV)) fun t22 =>
 letO (some (t22 : AV)) fun t4 =>
endK t4 H11 K

theorem W33_ok {x0 x1 : AV} {H : Heap} {K : AV → Heap → Prop} (h : W33 x0 x1 H K) : ACalls Tryd.prog 33 [x0, x1] H K :=
  acallsB (fn := Tryd.f33) (cfg := cfgOf [] [] [] [] []) (hh := (.dir .nil (.dir .nil (.cut [5] [8, 9, 10, 11, 12, 13, 5] (.dir .nil .nil) (.cut [5] [14, 15, 16, 17, 18, 19, 20, 21, 5] (.dir .nil .nil) .nil))))) follows Tryd.func33 (by kernel_rfl) (Nat.le_of_ble_eq_true (by kernel_rfl)) (by kernel_rfl) h

/-- headword.headwordref11.Bar -/
def W35 (x0 : AV) (H : Heap) (K : AV → Heap → Prop) : Prop :=
 letO (some (.nils : AV)) fun t2 =>
 letO (some (.nils : AV)) fun t3 =>
 letO (some ((.int .i64 0) : AV)) fun t4 =>
 letO (some (x0 : AV)) fun t10 =>
 ACalls Tryd.prog 31 [t10] H fun t11 H1 =>
 letO (some (t11 : AV)) fun t5 =>
 letO (some (t5 : AV)) fun t12 =>
 letO (binF Tryd.prog .neq 26 t12 (.int .i64 0)) fun t13 =>
 condA t13 true (
 letO (some (t5 : AV)) fun t14 =>
 letO (some (.nils : AV)) fun t2 =>
 letO (some (.nils : AV)) fun t3 =>
 letO (some (t14 : AV)) fun t4 =>
endK (.tup [t2, t3, t4]) H1 K) (
 letO (some ((.int .i64 1) : AV)) fun t6 =>
 true = true ∧ ∃ (I2 : List AV → Heap → Prop) (μ3 : List AV → Heap → Nat), I2 [t6] H1 ∧ ∀ L4 H5, I2 L4 H5 → -- [t6]
 letO (some ((L4.getD 0 .any) : AV)) fun t15 =>
 letO (some (x0 : AV)) fun t16 =>
 letO (lenA t16) fun t17 =>
 letO (binF Tryd.prog .leq 3 t15 t17) fun t18 =>
 condA t18 true (
 letO (some (x0 : AV)) fun t21 =>
 letO (lenA t21) fun t22 =>
 letO (some ((L4.getD 0 .any) : AV)) fun t23 =>
 ACalls Tryd.prog 85 [t22, t23, .nils] H5 fun t24 H6 =>
 letO (some (t24 : AV)) fun t7 =>
 letO (some ((.int .i64 0) : AV)) fun t8 =>
 true = true ∧ ∃ (I7 : List AV → Heap → Prop) (μ8 : List AV → Heap → Nat), I7 [t8] H6 ∧ ∀ L9 H10, I7 L9 H10 → -- [t8]
 letO (some ((L9.getD 0 .any) : AV)) fun t25 =>
 letO (some (t7 : AV)) fun t26 =>
 letO (lenA t26) fun t27 =>
 letO (binF Tryd.prog .lss 3 t25 t27) fun t28 =>
 condA t28 true (
 letO (some (x0 : AV)) fun t31 =>
 letO (some (t7 : AV)) fun t32 =>
 letO (some ((L9.getD 0 .any) : AV)) fun t33 =>
 letO (idx 1 t32 t33) fun t34 =>
 letO (load1 t34 H10) fun t35 =>
 ACalls Tryd.prog 86 [t31, t35] H10 fun t36 H11 =>
 letO (some (t36 : AV)) fun t9 =>
 letO (some (t9 : AV)) fun t37 =>
 letO (lenA t37) fun t38 =>
 letO (some ((L4.getD 0 .any) : AV)) fun t39 =>
 letO (binF Tryd.prog .add 3 t38 t39) fun t40 =>
 letO (some (x0 : AV)) fun t41 =>
 letO (lenA t41) fun t42 =>
 letO (binF Tryd.prog .gtr 3 t40 t42) fun t43 =>
 condA t43 true (
 letO (some (t7 : AV)) fun t44 =>
 letO (some ((L9.getD 0 .any) : AV)) fun t45 =>
 letO (idx 1 t44 t45) fun t46 =>
 letO (load1 t46 H11) fun t47 =>
 letO (some (t9 : AV)) fun t48 =>
 letO (some (t47 : AV)) fun t2 =>
 letO (some (t48 : AV)) fun t3 =>
 letO (some ((.int .i64 0) : AV)) fun t4 =>
endK (.tup [t2, t3, t4]) H11 K) (
 letO (some ((L9.getD 0 .any) : AV)) fun t29 =>
 letO (binF Tryd.prog .add 3 t29 (.int .i64 1)) fun t30 =>
 letO (some (t30 : AV)) fun t8 =>
 I7 [t8] H11 ∧ μ8 [t8] H11 < μ8 L9 H10)) (
 letO (some ((L4.getD 0 .any) : AV)) fun t19 =>
 letO (binF Tryd.prog .add 3 t19 (.int .i64 1)) fun t20 =>
 letO (some (t20 : AV)) fun t6 =>
 I2 [t6] H10 ∧ μ3 [t6] H10 < μ3 L4 H5)) (
 letO (some (.nils : AV)) fun t2 =>
 letO (some (.nils : AV)) fun t3 =>
 letO (some ((.int .i64 13) : AV)) fun t4 =>
endK (.tup [t2, t3, t4]) H5 K))

theorem W35_ok {x0 : AV} {H : Heap} {K : AV → Heap → Prop} (h : W35 x0 H K) : ACalls Tryd.prog 35 [x0] H K :=
  acallsB (fn := Tryd.f35) (cfg := cfgOf [] [] [] [] []) (hh := (.dir .nil (.dir .nil (.dir (.dir .nil (.dir .nil .nil)) (.dir (.dir .nil (.blk (.loop [6] [15, 16, 17, 18, 21, 22, 23, 24, 7, 8, 25, 26, 27, 28, 31, 32, 33, 34, 35, 36, 9, 37, 38, 39, 40, 41, 42, 43, 44, 45, 46, 47, 48, 2, 3, 4, 29, 30, 19, 20, 6] (.dir (.dir .nil .nil) (.dir (.blk (.dir .nil (.dir .nil (.blk (.loop [8] [25, 26, 27, 28, 31, 32, 33, 34, 35, 36, 9, 37, 38, 39, 40, 41, 42, 43, 44, 45, 46, 47, 48, 2, 3, 4, 29, 30, 8] (.dir (.dir .nil .nil) (.dir (.blk (.dir .nil (.dir .nil (.dir .nil .nil)))) .nil))))))) .nil))))) .nil))))) follows Tryd.func35 (by kernel_rfl) (Nat.le_of_ble_eq_true (by kernel_rfl)) (by kernel_rfl) h

/-- headword.headwordref11.Proves -/
def W37 (x0 x1 x2 : AV) (H : Heap) (K : AV → Heap → Prop) : Prop :=
 letO (some ((.int .i64 0) : AV)) fun t6 =>
 letO (some (x0 : AV)) fun t10 =>
 ACalls Tryd.prog 31 [t10] H fun t11 H1 =>
 letO (some (t11 : AV)) fun t7 =>
 true = true ∧ ∃ J2 : List AV → Heap → Prop, (
 letO (some (t7 : AV)) fun t12 =>
 letO (binF Tryd.prog .eql 26 t12 (.int .i64 0)) fun t13 =>
 condA t13 true (
 letO (some (x0 : AV)) fun t14 =>
 letO (lenA t14) fun t15 =>
 letO (some (x1 : AV)) fun t16 =>
 ACalls Tryd.prog 88 [t15, t16] H1 fun t17 H3 =>
 letO (some (t17 : AV)) fun t7 =>
 J2 [t7] H3) (
 J2 [t7] H1)) ∧ ∀ L4 H5, J2 L4 H5 → -- [t7]
 true = true ∧ ∃ J6 : List AV → Heap → Prop, (
 letO (some ((L4.getD 0 .any) : AV)) fun t18 =>
 letO (binF Tryd.prog .eql 26 t18 (.int .i64 0)) fun t19 =>
 condA t19 true (
 letO (some (x0 : AV)) fun t20 =>
 letO (lenA t20) fun t21 =>
 letO (some (x2 : AV)) fun t22 =>
 ACalls Tryd.prog 88 [t21, t22] H5 fun t23 H7 =>
 letO (some (t23 : AV)) fun t7 =>
 J6 [t7] H7) (
 J6 [(L4.getD 0 .any)] H5)) ∧ ∀ L8 H9, J6 L8 H9 → -- [t7]
 letO (some ((L8.getD 0 .any) : AV)) fun t24 =>
 letO (binF Tryd.prog .neq 26 t24 (.int .i64 0)) fun t25 =>
 condA t25 true (
 letO (some ((L8.getD 0 .any) : AV)) fun t26 =>
 letO (some (t26 : AV)) fun t6 =>
endK t6 H9 K) (
 letO (some (x0 : AV)) fun t27 =>
 letO (some (x1 : AV)) fun t28 =>
 ACalls Tryd.prog 86 [t27, t28] H9 fun t29 H10 =>
 letO (some (t29 : AV)) fun t8 =>
 letO (some ((.int .i64 0) : AV)) fun t9 =>
 true = true ∧ ∃ (I11 : List AV → Heap → Prop) (μ12 : List AV → Heap → Nat), I11 [t9] H10 ∧ ∀ L13 H14, I11 L13 H14 → -- [t9]
 letO (some ((L13.getD 0 .any) : AV)) fun t30 =>
 letO (some (x2 : AV)) fun t31 =>
 letO (lenA t31) fun t32 =>
 letO (binF Tryd.prog .lss 3 t30 t32) fun t33 =>
 condA t33 true (
 letO (some (t8 : AV)) fun t36 =>
 letO (some (x2 : AV)) fun t37 =>
 letO (some ((L13.getD 0 .any) : AV)) fun t38 =>
 letO (idx 1 t37 t38) fun t39 =>
 letO (load1 t39 H14) fun t40 =>
 ACalls Tryd.prog 89 [t36, t40] H14 fun t41 H15 =>
 letO (unF .not t41) fun t42 =>
 condA t42 true (
 letO (some ((.int .i64 14) : AV)) fun t6 =>
endK t6 H15 K) (
 letO (some ((L13.getD 0 .any) : AV)) fun t34 =>
 letO (binF Tryd.prog .add 3 t34 (.int .i64 1)) fun t35 =>
 letO (some (t35 : AV)) fun t9 =>
 I11 [t9] H15 ∧ μ12 [t9] H15 < μ12 L13 H14)) (
 letO (some (x1 : AV)) fun t43 =>
 letO (lenA t43) fun t44 =>
 letO (some (x2 : AV)) fun t45 =>
 letO (lenA t45) fun t46 =>
 letO (binF Tryd.prog .add 3 t44 t46) fun t47 =>
 letO (some (x0 : AV)) fun t48 =>
 letO (lenA t48) fun t49 =>
 letO (binF Tryd.prog .leq 3 t47 t49) fun t50 =>
 condA t50 true (
 letO (some ((.int .i64 14) : AV)) fun t6 =>
endK t6 H14 K) (
 letO (some ((.int .i64 0) : AV)) fun t6 =>
endK t6 H14 K)))

theorem W37_ok {x0 x1 x2 : AV} {H : Heap} {K : AV → Heap → Prop} (h : W37 x0 x1 x2 H K) : ACalls Tryd.prog 37 [x0, x1, x2] H K :=
  acallsB (fn := Tryd.f37) (cfg := cfgOf [] [] [] [] []) (hh := (.dir .nil (.dir .nil (.cut [7] [12, 13, 14, 15, 16, 17, 7] (.dir .nil .nil) (.cut [7] [18, 19, 20, 21, 22, 23, 7] (.dir .nil .nil) (.dir (.dir .nil (.dir .nil .nil)) (.dir .nil (.dir (.dir .nil (.blk (.loop [9] [30, 31, 32, 33, 36, 37, 38, 39, 40, 41, 42, 6, 34, 35, 9] (.dir (.dir .nil .nil) (.dir (.blk (.dir .nil (.dir .nil .nil))) .nil))))) (.dir (.dir .nil (.dir .nil .nil)) .nil))))))))) follows Tryd.func37 (by kernel_rfl) (Nat.le_of_ble_eq_true (by kernel_rfl)) (by kernel_rfl) h

/-- headword.headwordref11.Split -/
def W39 (x0 : AV) (H : Heap) (K : AV → Heap → Prop) : Prop :=
 letO (some (.nils : AV)) fun t2 =>
 letO (some ((.int .i64 0) : AV)) fun t3 =>
 letO (some (x0 : AV)) fun t10 =>
 ACalls Tryd.prog 19 [t10] H fun t11 H1 =>
 letO (some (t11 : AV)) fun t9 =>
 letO (extrF t9 0) fun t12 =>
 letO (extrF t9 1) fun t13 =>
 letO (some (t12 : AV)) fun t4 =>
 letO (some (t13 : AV)) fun t5 =>
 letO (some (t5 : AV)) fun t14 =>
 letO (binF Tryd.prog .neq 26 t14 (.int .i64 0)) fun t15 =>
 condA t15 true (
 letO (some (t5 : AV)) fun t16 =>
 letO (some (.nils : AV)) fun t2 =>
 letO (some (t16 : AV)) fun t3 =>
endK (.tup [t2, t3]) H1 K) (
 letO (some (.nils : AV)) fun t6 =>
 true = true ∧ ∃ (I2 : List AV → Heap → Prop) (μ3 : List AV → Heap → Nat), I2 [t6, x0] H1 ∧ ∀ L4 H5, I2 L4 H5 → -- [t6, t0]
 letO (some ((L4.getD 1 .any) : AV)) fun t17 =>
 ACalls Tryd.prog 74 [t17] H5 fun t18 H6 =>
 letO (some (t18 : AV)) fun t7 =>
 letO (some (t7 : AV)) fun t19 =>
 letO (lenA t19) fun t20 =>
 letO (binF Tryd.prog .eql 3 t20 (.int .i64 0)) fun t21 =>
 condA t21 true (
 letO (some ((L4.getD 0 .any) : AV)) fun t22 =>
 letO (some (t22 : AV)) fun t2 =>
 letO (some ((.int .i64 0) : AV)) fun t3 =>
endK (.tup [t2, t3]) H6 K) (
 letO (some ((L4.getD 1 .any) : AV)) fun t23 =>
 letO (some (t7 : AV)) fun t24 =>
 letO (idx 1 t24 (.int .i64 0)) fun t25 =>
 letO (load1 t25 H6) fun t26 =>
 ACalls Tryd.prog 81 [t23, t26] H6 fun t27 H7 =>
 letO (some (t27 : AV)) fun t8 =>
 letO (some ((L4.getD 0 .any) : AV)) fun t28 =>
 letO (some (t7 : AV)) fun t29 =>
 letO (idx 1 t29 (.int .i64 0)) fun t30 =>
 letO (load1 t30 H7) fun t31 =>
 letO (some (t8 : AV)) fun t32 =>
 letO (buildF Tryd.prog 50 [(0, t31), (1, t32)]) fun t33 =>
 letO (literalF Tryd.prog 45 1 [(0, t33)]) fun c8 =>
 appendA 2 32 t28 (.imm 1 true c8) (fun t35 H9 =>
 letO (some (t35 : AV)) fun t6 =>
 letO (some ((L4.getD 1 .any) : AV)) fun t36 =>
 letO (some (t7 : AV)) fun t37 =>
 letO (idx 1 t37 (.int .i64 0)) fun t38 =>
 letO (load1 t38 H9) fun t39 =>
 letO (some (t8 : AV)) fun t40 =>
 ACalls Tryd.prog 92 [t36, t39, t40] H9 fun t41 H10 =>
 letO (some (t41 : AV)) fun t0 =>
 I2 [t6, t0] H10 ∧ μ3 [t6, t0] H10 < μ3 L4 H5) H7))

theorem W39_ok {x0 : AV} {H : Heap} {K : AV → Heap → Prop} (h : W39 x0 H K) : ACalls Tryd.prog 39 [x0] H K :=
  acallsB (fn := Tryd.f39) (cfg := cfgOf [] [] [] [] []) (hh := (.dir .nil (.dir .nil (.dir (.dir .nil (.dir .nil .nil)) (.dir .nil (.blk (.loop [6, 0] [17, 18, 7, 19, 20, 21, 22, 2, 3, 23, 24, 25, 26, 27, 8, 28, 29, 30, 31, 32, 33, 34, 35, 6, 36, 37, 38, 39, 40, 41, 0] (.blk (.dir .nil (.dir (.dir .nil (.dir .nil .nil)) (.dir .nil .nil))))))))))) follows Tryd.func39 (by kernel_rfl) (Nat.le_of_ble_eq_true (by kernel_rfl)) (by kernel_rfl) h

/-- headword.headwordref11.Splits -/
def W41 (x0 : AV) (H : Heap) (K : AV → Heap → Prop) : Prop :=
 letO (some ((.int .i64 0) : AV)) fun t2 =>
 letO (some ((.int .i64 0) : AV)) fun t3 =>
 letO (some (x0 : AV)) fun t7 =>
 ACalls Tryd.prog 19 [t7] H fun t8 H1 =>
 letO (some (t8 : AV)) fun t6 =>
 letO (extrF t6 0) fun t9 =>
 letO (extrF t6 1) fun t10 =>
 letO (some (t9 : AV)) fun t4 =>
 letO (some (t10 : AV)) fun t5 =>
 true = true ∧ ∃ J2 : List AV → Heap → Prop, (
 letO (some (t5 : AV)) fun t11 =>
 letO (binF Tryd.prog .eql 26 t11 (.int .i64 0)) fun t12 =>
 letO (some (t12 : AV)) fun t13 =>
 letO (gval t13 true (some (t4 : AV))) fun t14 =>
 letO (gval t13 true (binF Tryd.prog .gtr 3 t14 (.int .i64 6))) fun t15 =>
 letO (pickF t13 t15 (.bool false)) fun t16 =>
 condA t16 true (
 letO (some ((.int .i64 15) : AV)) fun t5 =>
 J2 [t5] H1) (
 J2 [t5] H1)) ∧ ∀ L3 H4, J2 L3 H4 → -- [t5]
 letO (some ((L3.getD 0 .any) : AV)) fun t17 =>
 letO (binF Tryd.prog .neq 26 t17 (.int .i64 0)) fun t18 =>
 condA t18 true (
 letO (some ((L3.getD 0 .any) : AV)) fun t19 =>
 letO (some ((.int .i64 0) : AV)) fun t2 =>
 letO (some (t19 : AV)) fun t3 =>
endK (.tup [t2, t3]) H4 K) (
 letO (some (x0 : AV)) fun t20 =>
 letO (some (x0 : AV)) fun t21 =>
 letO (lenA t21) fun t22 =>
 ACalls Tryd.prog 76 [t22, .nils] H4 fun t23 H5 =>
 letO (some (t4 : AV)) fun t24 =>
 ACalls Tryd.prog 96 [t20, t23, t24] H5 fun t25 H6 =>
 letO (some (t25 : AV)) fun t2 =>
 letO (some ((.int .i64 0) : AV)) fun t3 =>
endK (.tup [t2, t3]) H6 K)

theorem W41_ok {x0 : AV} {H : Heap} {K : AV → Heap → Prop} (h : W41 x0 H K) : ACalls Tryd.prog 41 [x0] H K :=
  acallsB (fn := Tryd.f41) (cfg := cfgOf [] [] [] [] []) (hh := (.dir .nil (.dir .nil (.cut [5] [11, 12, 13, 14, 15, 16, 5] (.dir .nil .nil) (.dir (.dir .nil (.dir .nil .nil)) .nil))))) follows Tryd.func41 (by kernel_rfl) (Nat.le_of_ble_eq_true (by kernel_rfl)) (by kernel_rfl) h

/-- headword.headwordref11.Sum -/
def W43 (x0 x1 : AV) (H : Heap) (K : AV → Heap → Prop) : Prop :=
 letO (some (.nils : AV)) fun t4 =>
 letO (some ((.int .i64 0) : AV)) fun t5 =>
 letO (some (x0 : AV)) fun t12 =>
 ACalls Tryd.prog 78 [t12, (.int .i64 1), (.int .i64 4)] H fun t13 H1 =>
 letO (unF .not t13) fun t14 =>
 condA t14 true (
 letO (some (.nils : AV)) fun t4 =>
 letO (some ((.int .i64 1) : AV)) fun t5 =>
endK (.tup [t4, t5]) H1 K) (
 letO (some (x1 : AV)) fun t15 =>
 letO (lenA t15) fun t16 =>
 letO (binF Tryd.prog .gtr 3 t16 (.int .i64 10)) fun t17 =>
 condA t17 true (
 letO (some (.nils : AV)) fun t4 =>
 letO (some ((.int .i64 3) : AV)) fun t5 =>
endK (.tup [t4, t5]) H1 K) (
 letO (some ((.int .i64 0) : AV)) fun t6 =>
 true = true ∧ ∃ (I2 : List AV → Heap → Prop) (μ3 : List AV → Heap → Nat), I2 [t6] H1 ∧ ∀ L4 H5, I2 L4 H5 → -- [t6]
 letO (some ((L4.getD 0 .any) : AV)) fun t18 =>
 letO (some (x1 : AV)) fun t19 =>
 letO (lenA t19) fun t20 =>
 letO (binF Tryd.prog .lss 3 t18 t20) fun t21 =>
 condA t21 true (
 letO (some (x0 : AV)) fun t24 =>
 letO (some (x1 : AV)) fun t25 =>
 letO (some ((L4.getD 0 .any) : AV)) fun t26 =>
 letO (idx 2 t25 t26) fun t27 =>
 letO (faddr 0 t27) fun t28 =>
 letO (load1 t28 H5) fun t29 =>
 ACalls Tryd.prog 80 [t24, t29] H5 fun t30 H6 =>
 letO (some (t30 : AV)) fun t7 =>
 true = true ∧ ∃ J7 : List AV → Heap → Prop, (
 letO (some (t7 : AV)) fun t31 =>
 letO (binF Tryd.prog .eql 26 t31 (.int .i64 0)) fun t32 =>
 letO (some (t32 : AV)) fun t33 =>
 letO (gval t33 true (some (x1 : AV))) fun t34 =>
 letO (gval t33 true (some ((L4.getD 0 .any) : AV))) fun t35 =>
 letO (gval t33 true (idx 2 t34 t35)) fun t36 =>
 letO (gval t33 true (faddr 1 t36)) fun t37 =>
 letO (gval t33 true (load1 t37 H6)) fun t38 =>
 ∃ J8 : AV → Heap → Prop, condG t33 true (ACalls Tryd.prog 78 [t38, (.int .i64 1), (.int .i64 36)] H6 fun t39 H9 =>
 J8 t39 H9) (J8 (.tup []) H6) ∧ ∀ t39 H10, J8 t39 H10 →
 letO (gval t33 true (unF .not t39)) fun t40 =>
 letO (pickF t33 t40 (.bool false)) fun t41 =>
 condA t41 true (
 letO (some ((.int .i64 1) : AV)) fun t7 =>
 J7 [t7] H10) (
 J7 [t7] H10)) ∧ ∀ L11 H12, J7 L11 H12 → -- [t7]
 letO (some ((L11.getD 0 .any) : AV)) fun t42 =>
 letO (binF Tryd.prog .neq 26 t42 (.int .i64 0)) fun t43 =>
 condA t43 true (
 letO (some ((L11.getD 0 .any) : AV)) fun t44 =>
 letO (some (.nils : AV)) fun t4 =>
 letO (some (t44 : AV)) fun t5 =>
endK (.tup [t4, t5]) H12 K) (
 letO (some ((L4.getD 0 .any) : AV)) fun t22 =>
 letO (binF Tryd.prog .add 3 t22 (.int .i64 1)) fun t23 =>
 letO (some (t23 : AV)) fun t6 =>
 I2 [t6] H12 ∧ μ3 [t6] H12 < μ3 L4 H5)) (
 letO (some (.nils : AV)) fun t8 =>
 letO (some ((.int .i64 0) : AV)) fun t9 =>
 true = true ∧ ∃ (I13 : List AV → Heap → Prop) (μ14 : List AV → Heap → Nat), I13 [t8, t9] H5 ∧ ∀ L15 H16, I13 L15 H16 → -- [t8, t9]
 letO (some ((L15.getD 1 .any) : AV)) fun t45 =>
 letO (some (x0 : AV)) fun t46 =>
 letO (binF Tryd.prog .lss 3 t45 t46) fun t47 =>
 condA t47 true (
 letO (some ((L15.getD 0 .any) : AV)) fun t50 =>
 letO (some (x0 : AV)) fun t51 =>
 makeA [(.int .i64 0)] 1 8 t51 t51 (fun t52 H17 =>
 letO (literalF Tryd.prog 22 1 [(0, t52)]) fun c18 =>
 appendA 1 24 t50 (.imm 1 true c18) (fun t54 H19 =>
 letO (some (t54 : AV)) fun t8 =>
 letO (some ((L15.getD 1 .any) : AV)) fun t48 =>
 letO (binF Tryd.prog .add 3 t48 (.int .i64 1)) fun t49 =>
 letO (some (t49 : AV)) fun t9 =>
 I13 [t8, t9] H19 ∧ μ14 [t8, t9] H19 < μ14 L15 H16) H17) H16) (
 letO (some ((.int .i64 0) : AV)) fun t10 =>
 true = true ∧ ∃ (I20 : List AV → Heap → Prop) (μ21 : List AV → Heap → Nat), I20 [(L15.getD 0 .any), t10] H16 ∧ ∀ L22 H23, I20 L22 H23 → -- [t8, t10]
 letO (some ((L22.getD 1 .any) : AV)) fun t55 =>
 letO (some (x1 : AV)) fun t56 =>
 letO (lenA t56) fun t57 =>
 letO (binF Tryd.prog .lss 3 t55 t57) fun t58 =>
 condA t58 true (
 true = true ∧
 letO (some ((L22.getD 0 .any) : AV)) fun t61 =>
 letO (some (x1 : AV)) fun t62 =>
 letO (some ((L22.getD 1 .any) : AV)) fun t63 =>
 letO (idx 2 t62 t63) fun t64 =>
 letO (faddr 0 t64) fun t65 =>
 letO (load1 t65 H23) fun t66 =>
 letO (some (x1 : AV)) fun t67 =>
 letO (some ((L22.getD 1 .any) : AV)) fun t68 =>
 letO (idx 2 t67 t68) fun t69 =>
 letO (faddr 1 t69) fun t70 =>
 letO (load1 t70 H23) fun t71 =>
 letO (unF .neg t71) fun t72 =>
 ACalls Tryd.prog 92 [t61, t66, t72] H23 fun t73 H24 =>
 letO (some (t73 : AV)) fun t8 =>
 letO (some ((L22.getD 1 .any) : AV)) fun t59 =>
 letO (binF Tryd.prog .add 3 t59 (.int .i64 1)) fun t60 =>
 letO (some (t60 : AV)) fun t10 =>
 I20 [t8, t10] H24 ∧ μ21 [t8, t10] H24 < μ21 L22 H23) (
 letO (some ((L22.getD 0 .any) : AV)) fun t74 =>
 ACalls Tryd.prog 31 [t74] H23 fun t75 H25 =>
 letO (some (t75 : AV)) fun t11 =>
 letO (some (t11 : AV)) fun t76 =>
 letO (binF Tryd.prog .neq 26 t76 (.int .i64 0)) fun t77 =>
 condA t77 true (
 letO (some (.nils : AV)) fun t4 =>
 letO (some ((.int .i64 15) : AV)) fun t5 =>
endK (.tup [t4, t5]) H25 K) (
 letO (some ((L22.getD 0 .any) : AV)) fun t78 =>
 letO (some (t78 : AV)) fun t4 =>
 letO (some ((.int .i64 0) : AV)) fun t5 =>
endK (.tup [t4, t5]) H25 K))))))

theorem W43_ok {x0 x1 : AV} {H : Heap} {K : AV → Heap → Prop} (h : W43 x0 x1 H K) : ACalls Tryd.prog 43 [x0, x1] H K :=
  acallsB (fn := Tryd.f43) (cfg := cfgOf [] [] [(21, [0, 0, 0, 6, 14, 30, 0, 0, 192, 448, 960, 1984, 4095, 8191])] [] []) (hh := (.dir .nil (.dir (.dir .nil (.dir .nil .nil)) (.dir (.dir .nil (.dir .nil .nil)) (.dir (.dir .nil (.blk (.loop [6] [18, 19, 20, 21, 24, 25, 26, 27, 28, 29, 30, 7, 31, 32, 33, 34, 35, 36, 37, 38, 39, 40, 41, 42, 43, 44, 4, 5, 22, 23, 6] (.dir (.dir .nil .nil) (.dir (.blk (.dir .nil (.cut [7] [31, 32, 33, 34, 35, 36, 37, 38, 39, 40, 41, 7] (.dir .nil .nil) (.dir .nil (.dir .nil .nil))))) .nil))))) (.dir .nil (.dir (.dir .nil (.blk (.loop [8, 9] [45, 46, 47, 50, 51, 52, 53, 54, 8, 48, 49, 9] (.dir (.dir .nil .nil) (.dir .nil .nil))))) (.dir (.dir .nil (.blk (.loop [8, 10] [55, 56, 57, 58, 61, 62, 63, 64, 65, 66, 67, 68, 69, 70, 71, 72, 73, 8, 59, 60, 10] (.dir (.dir .nil .nil) (.dir .nil .nil))))) (.dir .nil (.dir (.dir .nil (.dir .nil .nil)) .nil)))))))))) follows Tryd.func43 (by kernel_rfl) (Nat.le_of_ble_eq_true (by kernel_rfl)) (by kernel_rfl) h

/-- (headword.headwordlaw11.Ledger).even -/
def W44 (x0 x1 : AV) (H : Heap) (K : AV → Heap → Prop) : Prop :=
 letO (cellsOf? x0) fun c1 =>
 letO (some (.nils : AV)) fun t4 =>
 letO (some ((.int .i64 0) : AV)) fun t5 =>
 letO (loadN 27 (.iptr c1) H) fun t14 =>
 ACalls Tryd.prog 58 [t14] H fun t15 H2 =>
 letO (some (t15 : AV)) fun t6 =>
 letO (some (t6 : AV)) fun t16 =>
 ACalls Tryd.prog 45 [t16] H2 fun t17 H3 =>
 letO (some (t17 : AV)) fun t7 =>
 letO (some (t6 : AV)) fun t18 =>
 ACalls Tryd.prog 49 [t18] H3 fun t19 H4 =>
 letO (some (t19 : AV)) fun t8 =>
 letO (faddr 1 (.iptr c1)) fun t20 =>
 letO (load1 t20 H4) fun t21 =>
 letO (convF Tryd.prog 5 3 t21) fun t22 =>
 letO (some (x1 : AV)) fun t23 =>
 letO (binF Tryd.prog .add 3 t23 (.int .i64 1)) fun t24 =>
 letO (binF Tryd.prog .rem 3 t22 t24) fun t25 =>
 letO (some (t25 : AV)) fun t9 =>
 letO (faddr 19 (.iptr c1)) fun t26 =>
 letO (some (t9 : AV)) fun t27 =>
 letO (slcArr 8 1 t26 none (some t27) none) fun t28 =>
 letO (lenA t28) fun t29 =>
 letO (some ((.int .i64 0) : AV)) fun t30 =>
 true = true ∧ ∃ (I5 : List AV → Heap → Prop) (μ6 : List AV → Heap → Nat), I5 [t30] H4 ∧ ∀ L7 H8, I5 L7 H8 → -- [t30]
 letO (binF Tryd.prog .lss 3 (L7.getD 0 .any) t29) fun t31 =>
 condA t31 true (
 letO (idx 1 t28 (L7.getD 0 .any)) fun t32 =>
 letO (load1 t32 H8) fun t33 =>
 letO (some (t33 : AV)) fun t11 =>
 letO (some (t7 : AV)) fun t34 =>
 letO (some (t11 : AV)) fun t35 =>
 letO (convF Tryd.prog 5 3 t35) fun t36 =>
 letO (some (t7 : AV)) fun t37 =>
 letO (lenA t37) fun t38 =>
 letO (binF Tryd.prog .rem 3 t36 t38) fun t39 =>
 letO (idx 1 t34 t39) fun t40 =>
 letO (load1 t40 H8) fun t41 =>
 letO (lenA t41) fun t42 =>
 letO (some ((.int .i64 0) : AV)) fun t43 =>
 true = true ∧ ∃ (I9 : List AV → Heap → Prop) (μ10 : List AV → Heap → Nat), I9 [t43] H8 ∧ ∀ L11 H12, I9 L11 H12 → -- [t43]
 letO (binF Tryd.prog .lss 3 (L11.getD 0 .any) t42) fun t44 =>
 condA t44 true (
 letO (some ((L11.getD 0 .any) : AV)) fun t45 =>
 letO (idx 1 t41 (L11.getD 0 .any)) fun t46 =>
 letO (load1 t46 H12) fun t47 =>
 letO (some (t45 : AV)) fun t12 =>
 letO (some (t47 : AV)) fun t13 =>
 letO (some (t8 : AV)) fun t48 =>
 letO (some (t12 : AV)) fun t49 =>
 letO (idx 1 t48 t49) fun t50 =>
 letO (load1 t50 H12) fun t51 =>
 letO (some (t13 : AV)) fun t52 =>
 letO (idx 1 t51 t52) fun t53 =>
 letO (load1 t53 H12) fun t54 =>
 letO (binF Tryd.prog .add 3 t54 (.int .i64 1)) fun t55 =>
 letO (idx 1 t51 t52) fun t56 =>
 storeA 1 t56 t55 (fun H13 =>
 letO (binF Tryd.prog .add 3 (L11.getD 0 .any) (.int .i64 1)) fun t57 =>
 letO (some (t57 : AV)) fun t43 =>
 I9 [t43] H13 ∧ μ10 [t43] H13 < μ10 L11 H12) H12) (
 letO (binF Tryd.prog .add 3 (L7.getD 0 .any) (.int .i64 1)) fun t58 =>
 letO (some (t58 : AV)) fun t30 =>
 I5 [t30] H12 ∧ μ6 [t30] H12 < μ6 L7 H8)) (
 letO (some (t8 : AV)) fun t59 =>
 letO (some (t9 : AV)) fun t60 =>
 letO (some (t59 : AV)) fun t4 =>
 letO (some (t60 : AV)) fun t5 =>
endK (.tup [t4, t5]) H8 K)

theorem W44_ok {x0 x1 : AV} {H : Heap} {K : AV → Heap → Prop} (h : W44 x0 x1 H K) : ACalls Tryd.prog 44 [x0, x1] H K :=
  acallsB (fn := Tryd.f44) (cfg := cfgOf [] [] [] [] []) (hh := (.dir .nil (.dir .nil (.dir .nil (.dir .nil (.dir .nil (.dir (.dir .nil (.blk (.loop [30] [31, 32, 33, 11, 34, 35, 36, 37, 38, 39, 40, 41, 42, 43, 44, 45, 46, 47, 12, 13, 48, 49, 50, 51, 52, 53, 54, 55, 56, 57, 58, 30] (.dir .nil (.dir .nil (.dir (.blk (.dir .nil (.dir .nil (.blk (.loop [43] [44, 45, 46, 47, 12, 13, 48, 49, 50, 51, 52, 53, 54, 55, 56, 57, 43] (.dir .nil (.dir .nil (.dir .nil .nil)))))))) .nil)))))) .nil))))))) follows Tryd.func44 (by kernel_rfl) (Nat.le_of_ble_eq_true (by kernel_rfl)) (by kernel_rfl) h

/-- headword.headwordlaw11.plans -/
def W45 (x0 : AV) (H : Heap) (K : AV → Heap → Prop) : Prop :=
 letO (some (.nils : AV)) fun t2 =>
 letO (literalF Tryd.prog 22 1 [(0, .nils)]) fun c1 =>
 letO (some ((.imm 1 true c1) : AV)) fun t3 =>
 letO (some (x0 : AV)) fun t9 =>
 letO (some ((.int .i64 0) : AV)) fun t10 =>
 true = true ∧ ∃ (I2 : List AV → Heap → Prop) (μ3 : List AV → Heap → Nat), I2 [t3, t10] H ∧ ∀ L4 H5, I2 L4 H5 → -- [t3, t10]
 letO (binF Tryd.prog .lss 3 (L4.getD 1 .any) t9) fun t11 =>
 condA t11 true (
 letO (some (.nils : AV)) fun t4 =>
 letO (some ((L4.getD 0 .any) : AV)) fun t12 =>
 letO (lenA t12) fun t13 =>
 letO (some ((.int .i64 0) : AV)) fun t14 =>
 true = true ∧ ∃ (I6 : List AV → Heap → Prop) (μ7 : List AV → Heap → Nat), I6 [t4, t14] H5 ∧ ∀ L8 H9, I6 L8 H9 → -- [t4, t14]
 letO (binF Tryd.prog .lss 3 (L8.getD 1 .any) t13) fun t15 =>
 condA t15 true (
 letO (idx 1 t12 (L8.getD 1 .any)) fun t16 =>
 letO (load1 t16 H9) fun t17 =>
 letO (some (t17 : AV)) fun t6 =>
 letO (some (x0 : AV)) fun t18 =>
 letO (some ((.int .i64 0) : AV)) fun t19 =>
 true = true ∧ ∃ (I10 : List AV → Heap → Prop) (μ11 : List AV → Heap → Nat), I10 [(L8.getD 0 .any), t19] H9 ∧ ∀ L12 H13, I10 L12 H13 → -- [t4, t19]
 letO (binF Tryd.prog .lss 3 (L12.getD 1 .any) t18) fun t20 =>
 condA t20 true (
 true = true ∧ ∃ J14 : List AV → Heap → Prop, (
 letO (some ((L12.getD 1 .any) : AV)) fun t21 =>
 letO (some (t21 : AV)) fun t7 =>
 letO (some (t6 : AV)) fun t22 =>
 letO (some (t7 : AV)) fun t23 =>
 ACalls Tryd.prog 62 [t22, t23] H13 fun t24 H15 =>
 letO (unF .not t24) fun t25 =>
 condA t25 true (
 letO (some ((L12.getD 0 .any) : AV)) fun t26 =>
 letO (some (t6 : AV)) fun t27 =>
 letO (some (t6 : AV)) fun t28 =>
 letO (lenA t28) fun t29 =>
 letO (some (t6 : AV)) fun t30 =>
 letO (lenA t30) fun t31 =>
 letO (slc 1 t27 none (some t29) (some t31)) fun t32 =>
 letO (some (t7 : AV)) fun t33 =>
 letO (literalF Tryd.prog 23 1 [(0, t33)]) fun c16 =>
 appendA 1 8 t32 (.imm 1 true c16) (fun t35 H17 =>
 letO (literalF Tryd.prog 22 1 [(0, t35)]) fun c18 =>
 appendA 1 24 t26 (.imm 1 true c18) (fun t37 H19 =>
 letO (some (t37 : AV)) fun t4 =>
 J14 [t4] H19) H17) H15) (
 J14 [(L12.getD 0 .any)] H15)) ∧ ∀ L20 H21, J14 L20 H21 → -- [t4]
 letO (binF Tryd.prog .add 3 (L12.getD 1 .any) (.int .i64 1)) fun t38 =>
 letO (some (t38 : AV)) fun t19 =>
 I10 [(L20.getD 0 .any), t19] H21 ∧ μ11 [(L20.getD 0 .any), t19] H21 < μ11 L12 H13) (
 letO (binF Tryd.prog .add 3 (L8.getD 1 .any) (.int .i64 1)) fun t39 =>
 letO (some (t39 : AV)) fun t14 =>
 I6 [(L12.getD 0 .any), t14] H13 ∧ μ7 [(L12.getD 0 .any), t14] H13 < μ7 L8 H9)) (
 letO (some ((L8.getD 0 .any) : AV)) fun t40 =>
 letO (some (t40 : AV)) fun t3 =>
 letO (binF Tryd.prog .add 3 (L4.getD 1 .any) (.int .i64 1)) fun t41 =>
 letO (some (t41 : AV)) fun t10 =>
 I2 [t3, t10] H9 ∧ μ3 [t3, t10] H9 < μ3 L4 H5)) (
 letO (some ((L4.getD 0 .any) : AV)) fun t42 =>
 letO (some (t42 : AV)) fun t2 =>
endK t2 H5 K)

theorem W45_ok {x0 : AV} {H : Heap} {K : AV → Heap → Prop} (h : W45 x0 H K) : ACalls Tryd.prog 45 [x0] H K :=
  acallsB (fn := Tryd.f45) (cfg := cfgOf [] [] [] [] []) (hh := (.dir .nil (.dir .nil (.dir (.dir .nil (.blk (.loop [3, 10] [11, 4, 12, 13, 14, 15, 16, 17, 6, 18, 19, 20, 21, 7, 22, 23, 24, 25, 26, 27, 28, 29, 30, 31, 32, 33, 34, 35, 36, 37, 38, 39, 40, 3, 41, 10] (.dir .nil (.dir .nil (.dir (.blk (.dir .nil (.dir (.dir .nil (.blk (.loop [4, 14] [15, 16, 17, 6, 18, 19, 20, 21, 7, 22, 23, 24, 25, 26, 27, 28, 29, 30, 31, 32, 33, 34, 35, 36, 37, 4, 38, 39, 14] (.dir .nil (.dir .nil (.dir (.blk (.dir .nil (.dir .nil (.blk (.loop [4, 19] [20, 21, 7, 22, 23, 24, 25, 26, 27, 28, 29, 30, 31, 32, 33, 34, 35, 36, 37, 4, 38, 19] (.dir .nil (.dir .nil (.cut [4] [21, 7, 22, 23, 24, 25, 26, 27, 28, 29, 30, 31, 32, 33, 34, 35, 36, 37, 4] (.blk (.dir .nil (.dir .nil .nil))) .nil)))))))) .nil)))))) .nil))) .nil)))))) .nil)))) follows Tryd.func45 (by kernel_rfl) (Nat.le_of_ble_eq_true (by kernel_rfl)) (by kernel_rfl) h

/-- headword.headwordlaw11.weight -/
def W48 (x0 x1 : AV) (H : Heap) (K : AV → Heap → Prop) : Prop :=
 letO (some ((.int .i64 0) : AV)) fun t4 =>
 letO (some ((.int .i64 1) : AV)) fun t5 =>
 letO (some (x1 : AV)) fun t8 =>
 letO (lenA t8) fun t9 =>
 letO (some ((.int .i64 0) : AV)) fun t10 =>
 true = true ∧ ∃ (I1 : List AV → Heap → Prop) (μ2 : List AV → Heap → Nat), I1 [t5, t10] H ∧ ∀ L3 H4, I1 L3 H4 → -- [t5, t10]
 letO (binF Tryd.prog .lss 3 (L3.getD 1 .any) t9) fun t11 =>
 condA t11 true (
 letO (some ((L3.getD 1 .any) : AV)) fun t12 =>
 letO (idx 1 t8 (L3.getD 1 .any)) fun t13 =>
 letO (load1 t13 H4) fun t14 =>
 letO (some (t12 : AV)) fun t6 =>
 letO (some (t14 : AV)) fun t7 =>
 letO (some ((L3.getD 0 .any) : AV)) fun t15 =>
 letO (some (x0 : AV)) fun t16 =>
 letO (some (t6 : AV)) fun t17 =>
 letO (idx 1 t16 t17) fun t18 =>
 letO (load1 t18 H4) fun t19 =>
 letO (some (t7 : AV)) fun t20 =>
 letO (idx 1 t19 t20) fun t21 =>
 letO (load1 t21 H4) fun t22 =>
 letO (binF Tryd.prog .mul 3 t15 t22) fun t23 =>
 letO (some (t23 : AV)) fun t5 =>
 letO (binF Tryd.prog .add 3 (L3.getD 1 .any) (.int .i64 1)) fun t24 =>
 letO (some (t24 : AV)) fun t10 =>
 I1 [t5, t10] H4 ∧ μ2 [t5, t10] H4 < μ2 L3 H4) (
 letO (some ((L3.getD 0 .any) : AV)) fun t25 =>
 letO (some (t25 : AV)) fun t4 =>
endK t4 H4 K)

theorem W48_ok {x0 x1 : AV} {H : Heap} {K : AV → Heap → Prop} (h : W48 x0 x1 H K) : ACalls Tryd.prog 48 [x0, x1] H K :=
  acallsB (fn := Tryd.f48) (cfg := cfgOf [] [] [] [] []) (hh := (.dir .nil (.dir .nil (.dir (.dir .nil (.blk (.loop [5, 10] [11, 12, 13, 14, 6, 7, 15, 16, 17, 18, 19, 20, 21, 22, 23, 5, 24, 10] (.dir .nil (.dir .nil (.dir .nil .nil)))))) .nil)))) follows Tryd.func48 (by kernel_rfl) (Nat.le_of_ble_eq_true (by kernel_rfl)) (by kernel_rfl) h

/-- (headword.headwordlaw11.Ledger).free -/
def W54 (x0 : AV) (H : Heap) (K : AV → Heap → Prop) : Prop :=
 letO (cellsOf? x0) fun c1 =>
 letO (some (.nils : AV)) fun t2 =>
 letO (loadN 27 (.iptr c1) H) fun t9 =>
 ACalls Tryd.prog 58 [t9] H fun t10 H2 =>
 letO (some (t10 : AV)) fun t3 =>
 letO (some (.nils : AV)) fun t4 =>
 letO (some (t3 : AV)) fun t11 =>
 letO (some ((.int .i64 0) : AV)) fun t12 =>
 true = true ∧ ∃ (I3 : List AV → Heap → Prop) (μ4 : List AV → Heap → Nat), I3 [t4, t12] H2 ∧ ∀ L5 H6, I3 L5 H6 → -- [t4, t12]
 letO (binF Tryd.prog .lss 3 (L5.getD 1 .any) t11) fun t13 =>
 condA t13 true (
 letO (some ((L5.getD 1 .any) : AV)) fun t14 =>
 letO (some (t14 : AV)) fun t5 =>
 letO (some (.nils : AV)) fun t6 =>
 letO (some (t3 : AV)) fun t15 =>
 letO (some ((.int .i64 0) : AV)) fun t16 =>
 true = true ∧ ∃ (I7 : List AV → Heap → Prop) (μ8 : List AV → Heap → Nat), I7 [t6, t16] H6 ∧ ∀ L9 H10, I7 L9 H10 → -- [t6, t16]
 letO (binF Tryd.prog .lss 3 (L9.getD 1 .any) t15) fun t17 =>
 condA t17 true (
 letO (some ((L9.getD 1 .any) : AV)) fun t18 =>
 letO (some (t18 : AV)) fun t7 =>
 letO (some (t5 : AV)) fun t19 =>
 letO (binF Tryd.prog .mul 3 (.int .i64 4) t19) fun t20 =>
 letO (some (t7 : AV)) fun t21 =>
 letO (binF Tryd.prog .add 3 t20 t21) fun t22 =>
 letO (faddr 3 (.iptr c1)) fun t23 =>
 letO (idxArr 16 1 t23 t22) fun t24 =>
 letO (load1 t24 H10) fun t25 =>
 letO (convF Tryd.prog 5 3 t25) fun t26 =>
 letO (some (t26 : AV)) fun t8 =>
 true = true ∧ ∃ J11 : List AV → Heap → Prop, (
 letO (faddr 2 (.iptr c1)) fun t27 =>
 letO (load1 t27 H10) fun t28 =>
 letO (binF Tryd.prog .rem 5 t28 (.int .u8 2)) fun t29 =>
 letO (binF Tryd.prog .eql 5 t29 (.int .u8 1)) fun t30 =>
 letO (some (t30 : AV)) fun t31 =>
 letO (gval t31 true (some (t8 : AV))) fun t32 =>
 letO (gval t31 true (binF Tryd.prog .rem 3 t32 (.int .i64 3))) fun t33 =>
 letO (gval t31 true (binF Tryd.prog .gtr 3 t33 (.int .i64 0))) fun t34 =>
 letO (pickF t31 t34 (.bool false)) fun t35 =>
 condA t35 true (
 letO (some ((.int .i64 0) : AV)) fun t8 =>
 J11 [t8] H10) (
 J11 [t8] H10)) ∧ ∀ L12 H13, J11 L12 H13 → -- [t8]
 letO (some ((L9.getD 0 .any) : AV)) fun t36 =>
 letO (some ((L12.getD 0 .any) : AV)) fun t37 =>
 letO (binF Tryd.prog .quo 3 t37 (.int .i64 3)) fun t38 =>
 letO (binF Tryd.prog .rem 3 t38 (.int .i64 10)) fun t39 =>
 letO (literalF Tryd.prog 23 1 [(0, t39)]) fun c14 =>
 appendA 1 8 t36 (.imm 1 true c14) (fun t41 H15 =>
 letO (some (t41 : AV)) fun t6 =>
 letO (binF Tryd.prog .add 3 (L9.getD 1 .any) (.int .i64 1)) fun t42 =>
 letO (some (t42 : AV)) fun t16 =>
 I7 [t6, t16] H15 ∧ μ8 [t6, t16] H15 < μ8 L9 H10) H13) (
 letO (some ((L5.getD 0 .any) : AV)) fun t43 =>
 letO (some ((L9.getD 0 .any) : AV)) fun t44 =>
 letO (literalF Tryd.prog 22 1 [(0, t44)]) fun c16 =>
 appendA 1 24 t43 (.imm 1 true c16) (fun t46 H17 =>
 letO (some (t46 : AV)) fun t4 =>
 letO (binF Tryd.prog .add 3 (L5.getD 1 .any) (.int .i64 1)) fun t47 =>
 letO (some (t47 : AV)) fun t12 =>
 I3 [t4, t12] H17 ∧ μ4 [t4, t12] H17 < μ4 L5 H6) H10)) (
 letO (some ((L5.getD 0 .any) : AV)) fun t48 =>
 letO (some (t48 : AV)) fun t2 =>
endK t2 H6 K)

theorem W54_ok {x0 : AV} {H : Heap} {K : AV → Heap → Prop} (h : W54 x0 H K) : ACalls Tryd.prog 54 [x0] H K :=
  acallsB (fn := Tryd.f54) (cfg := cfgOf [] [] [] [] []) (hh := (.dir .nil (.dir .nil (.dir .nil (.dir (.dir .nil (.blk (.loop [4, 12] [13, 14, 5, 6, 15, 16, 17, 18, 7, 19, 20, 21, 22, 23, 24, 25, 26, 8, 27, 28, 29, 30, 31, 32, 33, 34, 35, 36, 37, 38, 39, 40, 41, 42, 43, 44, 45, 46, 4, 47, 12] (.dir .nil (.dir .nil (.dir (.blk (.dir .nil (.dir .nil (.dir (.dir .nil (.blk (.loop [6, 16] [17, 18, 7, 19, 20, 21, 22, 23, 24, 25, 26, 8, 27, 28, 29, 30, 31, 32, 33, 34, 35, 36, 37, 38, 39, 40, 41, 6, 42, 16] (.dir .nil (.dir .nil (.dir (.blk (.dir .nil (.dir .nil (.cut [8] [27, 28, 29, 30, 31, 32, 33, 34, 35, 8] (.dir .nil .nil) .nil)))) .nil)))))) .nil)))) .nil)))))) .nil))))) follows Tryd.func54 (by kernel_rfl) (Nat.le_of_ble_eq_true (by kernel_rfl)) (by kernel_rfl) h

/-- (headword.headwordlaw11.Ledger).size -/
def W58 (x0 : AV) (H : Heap) (K : AV → Heap → Prop) : Prop :=
 letO (cellsOf? x0) fun c1 =>
 letO (some ((.int .i64 0) : AV)) fun t2 =>
 letO (faddr 0 (.iptr c1)) fun t3 =>
 letO (load1 t3 H) fun t4 =>
 letO (convF Tryd.prog 5 3 t4) fun t5 =>
 letO (binF Tryd.prog .rem 3 t5 (.int .i64 4)) fun t6 =>
 letO (binF Tryd.prog .add 3 (.int .i64 1) t6) fun t7 =>
 letO (some (t7 : AV)) fun t2 =>
endK t2 H K

theorem W58_ok {x0 : AV} {H : Heap} {K : AV → Heap → Prop} (h : W58 x0 H K) : ACalls Tryd.prog 58 [x0] H K :=
  acallsB (fn := Tryd.f58) (cfg := cfgOf [] [] [] [] []) (hh := (.dir .nil .nil)) follows Tryd.func58 (by kernel_rfl) (Nat.le_of_ble_eq_true (by kernel_rfl)) (by kernel_rfl) h

/-- headword.headwordref11.sums -/
def W72 (x0 x1 : AV) (H : Heap) (K : AV → Heap → Prop) : Prop :=
 letO (some ((.int .i64 0) : AV)) fun t4 =>
 letO (some ((.int .i64 0) : AV)) fun t5 =>
 letO (some ((.int .i64 0) : AV)) fun t6 =>
 letO (some ((.int .i64 0) : AV)) fun t7 =>
 letO (some ((.int .i64 0) : AV)) fun t8 =>
 true = true ∧ ∃ (I1 : List AV → Heap → Prop) (μ2 : List AV → Heap → Nat), I1 [t6, t7, t8] H ∧ ∀ L3 H4, I1 L3 H4 → -- [t6, t7, t8]
 letO (some ((L3.getD 2 .any) : AV)) fun t9 =>
 letO (some (x0 : AV)) fun t10 =>
 letO (lenA t10) fun t11 =>
 letO (binF Tryd.prog .lss 3 t9 t11) fun t12 =>
 condA t12 true (
 letO (some ((L3.getD 0 .any) : AV)) fun t15 =>
 letO (some (x0 : AV)) fun t16 =>
 letO (some (x1 : AV)) fun t17 =>
 letO (idx 1 t16 t17) fun t18 =>
 letO (load1 t18 H4) fun t19 =>
 letO (some ((L3.getD 2 .any) : AV)) fun t20 =>
 letO (idx 1 t19 t20) fun t21 =>
 letO (load1 t21 H4) fun t22 =>
 letO (binF Tryd.prog .add 3 t15 t22) fun t23 =>
 letO (some (t23 : AV)) fun t6 =>
 letO (some ((L3.getD 1 .any) : AV)) fun t24 =>
 letO (some (x0 : AV)) fun t25 =>
 letO (some ((L3.getD 2 .any) : AV)) fun t26 =>
 letO (idx 1 t25 t26) fun t27 =>
 letO (load1 t27 H4) fun t28 =>
 letO (some (x1 : AV)) fun t29 =>
 letO (idx 1 t28 t29) fun t30 =>
 letO (load1 t30 H4) fun t31 =>
 letO (binF Tryd.prog .add 3 t24 t31) fun t32 =>
 letO (some (t32 : AV)) fun t7 =>
 letO (some ((L3.getD 2 .any) : AV)) fun t13 =>
 letO (binF Tryd.prog .add 3 t13 (.int .i64 1)) fun t14 =>
 letO (some (t14 : AV)) fun t8 =>
 I1 [t6, t7, t8] H4 ∧ μ2 [t6, t7, t8] H4 < μ2 L3 H4) (
 letO (some ((L3.getD 0 .any) : AV)) fun t33 =>
 letO (some ((L3.getD 1 .any) : AV)) fun t34 =>
 letO (some (t33 : AV)) fun t4 =>
 letO (some (t34 : AV)) fun t5 =>
endK (.tup [t4, t5]) H4 K)

theorem W72_ok {x0 x1 : AV} {H : Heap} {K : AV → Heap → Prop} (h : W72 x0 x1 H K) : ACalls Tryd.prog 72 [x0, x1] H K :=
  acallsB (fn := Tryd.f72) (cfg := cfgOf [] [] [] [] []) (hh := (.dir .nil (.dir .nil (.dir (.dir .nil (.blk (.loop [6, 7, 8] [9, 10, 11, 12, 15, 16, 17, 18, 19, 20, 21, 22, 23, 6, 24, 25, 26, 27, 28, 29, 30, 31, 32, 7, 13, 14, 8] (.dir (.dir .nil .nil) (.dir .nil .nil))))) .nil)))) follows Tryd.func72 (by kernel_rfl) (Nat.le_of_ble_eq_true (by kernel_rfl)) (by kernel_rfl) h

/-- headword.headwordref11.within -/
def W74 (x0 : AV) (H : Heap) (K : AV → Heap → Prop) : Prop :=
 letO (some (.nils : AV)) fun t2 =>
 letO (some (.nils : AV)) fun t3 =>
 letO (some (x0 : AV)) fun t6 =>
 letO (lenA t6) fun t7 =>
 ACalls Tryd.prog 76 [t7, .nils] H fun t8 H1 =>
 letO (some (t8 : AV)) fun t4 =>
 letO (some ((.int .i64 0) : AV)) fun t5 =>
 true = true ∧ ∃ (I2 : List AV → Heap → Prop) (μ3 : List AV → Heap → Nat), I2 [t3, t5] H1 ∧ ∀ L4 H5, I2 L4 H5 → -- [t3, t5]
 letO (some ((L4.getD 1 .any) : AV)) fun t9 =>
 letO (some (t4 : AV)) fun t10 =>
 letO (lenA t10) fun t11 =>
 letO (binF Tryd.prog .lss 3 t9 t11) fun t12 =>
 condA t12 true (
 true = true ∧ ∃ J6 : List AV → Heap → Prop, (
 letO (some (x0 : AV)) fun t15 =>
 letO (some (t4 : AV)) fun t16 =>
 letO (some ((L4.getD 1 .any) : AV)) fun t17 =>
 letO (idx 1 t16 t17) fun t18 =>
 letO (load1 t18 H5) fun t19 =>
 ACalls Tryd.prog 81 [t15, t19] H5 fun t20 H7 =>
 letO (binF Tryd.prog .gtr 3 t20 (.int .i64 0)) fun t21 =>
 condA t21 true (
 letO (some ((L4.getD 0 .any) : AV)) fun t22 =>
 letO (some (t4 : AV)) fun t23 =>
 letO (some ((L4.getD 1 .any) : AV)) fun t24 =>
 letO (idx 1 t23 t24) fun t25 =>
 letO (load1 t25 H7) fun t26 =>
 letO (literalF Tryd.prog 22 1 [(0, t26)]) fun c8 =>
 appendA 1 24 t22 (.imm 1 true c8) (fun t28 H9 =>
 letO (some (t28 : AV)) fun t3 =>
 J6 [t3] H9) H7) (
 J6 [(L4.getD 0 .any)] H7)) ∧ ∀ L10 H11, J6 L10 H11 → -- [t3]
 letO (some ((L4.getD 1 .any) : AV)) fun t13 =>
 letO (binF Tryd.prog .add 3 t13 (.int .i64 1)) fun t14 =>
 letO (some (t14 : AV)) fun t5 =>
 I2 [(L10.getD 0 .any), t5] H11 ∧ μ3 [(L10.getD 0 .any), t5] H11 < μ3 L4 H5) (
 letO (some ((L4.getD 0 .any) : AV)) fun t29 =>
 letO (some (t29 : AV)) fun t2 =>
endK t2 H5 K)

theorem W74_ok {x0 : AV} {H : Heap} {K : AV → Heap → Prop} (h : W74 x0 H K) : ACalls Tryd.prog 74 [x0] H K :=
  acallsB (fn := Tryd.f74) (cfg := cfgOf [] [] [] [] []) (hh := (.dir .nil (.dir .nil (.dir .nil (.dir (.dir .nil (.blk (.loop [3, 5] [9, 10, 11, 12, 15, 16, 17, 18, 19, 20, 21, 22, 23, 24, 25, 26, 27, 28, 3, 13, 14, 5] (.dir (.dir .nil .nil) (.cut [3] [15, 16, 17, 18, 19, 20, 21, 22, 23, 24, 25, 26, 27, 28, 3] (.blk (.dir .nil .nil)) .nil))))) .nil))))) follows Tryd.func74 (by kernel_rfl) (Nat.le_of_ble_eq_true (by kernel_rfl)) (by kernel_rfl) h

/-- headword.headwordref11.plans -/
def W76 (x0 x1 : AV) (H : Heap) (K : AV → Heap → Prop) : Prop :=
 letO (some (.nils : AV)) fun t4 =>
 letO (some (x1 : AV)) fun t7 =>
 letO (lenA t7) fun t8 =>
 letO (some (x0 : AV)) fun t9 =>
 letO (binF Tryd.prog .eql 3 t8 t9) fun t10 =>
 condA t10 true (
 letO (some (x1 : AV)) fun t11 =>
 letO (literalF Tryd.prog 22 1 [(0, t11)]) fun c1 =>
 letO (some ((.imm 1 true c1) : AV)) fun t4 =>
endK t4 H K) (
 letO (some (.nils : AV)) fun t5 =>
 letO (some ((.int .i64 0) : AV)) fun t6 =>
 true = true ∧ ∃ (I2 : List AV → Heap → Prop) (μ3 : List AV → Heap → Nat), I2 [t5, t6] H ∧ ∀ L4 H5, I2 L4 H5 → -- [t5, t6]
 letO (some ((L4.getD 1 .any) : AV)) fun t13 =>
 letO (some (x0 : AV)) fun t14 =>
 letO (binF Tryd.prog .lss 3 t13 t14) fun t15 =>
 condA t15 true (
 true = true ∧ ∃ J6 : List AV → Heap → Prop, (
 letO (some (x1 : AV)) fun t18 =>
 letO (some ((L4.getD 1 .any) : AV)) fun t19 =>
 ACalls Tryd.prog 89 [t18, t19] H5 fun t20 H7 =>
 letO (unF .not t20) fun t21 =>
 condA t21 true (
 letO (some ((L4.getD 0 .any) : AV)) fun t22 =>
 letO (some (x0 : AV)) fun t23 =>
 letO (literalF Tryd.prog 23 0 []) fun c8 =>
 letO (some (x1 : AV)) fun t25 =>
 appendA 1 8 (.imm 0 true c8) t25 (fun t26 H9 =>
 letO (some ((L4.getD 1 .any) : AV)) fun t27 =>
 letO (literalF Tryd.prog 23 1 [(0, t27)]) fun c10 =>
 appendA 1 8 t26 (.imm 1 true c10) (fun t29 H11 =>
 ACalls Tryd.prog 76 [t23, t29] H11 fun t30 H12 =>
 appendA 1 24 t22 t30 (fun t31 H13 =>
 letO (some (t31 : AV)) fun t5 =>
 J6 [t5] H13) H12) H9) H7) (
 J6 [(L4.getD 0 .any)] H7)) ∧ ∀ L14 H15, J6 L14 H15 → -- [t5]
 letO (some ((L4.getD 1 .any) : AV)) fun t16 =>
 letO (binF Tryd.prog .add 3 t16 (.int .i64 1)) fun t17 =>
 letO (some (t17 : AV)) fun t6 =>
 I2 [(L14.getD 0 .any), t6] H15 ∧ μ3 [(L14.getD 0 .any), t6] H15 < μ3 L4 H5) (
 letO (some ((L4.getD 0 .any) : AV)) fun t32 =>
 letO (some (t32 : AV)) fun t4 =>
endK t4 H5 K))

theorem W76_ok {x0 x1 : AV} {H : Heap} {K : AV → Heap → Prop} (h : W76 x0 x1 H K) : ACalls Tryd.prog 76 [x0, x1] H K :=
  acallsB (fn := Tryd.f76) (cfg := cfgOf [] [] [] [] []) (hh := (.dir .nil (.dir (.dir .nil (.dir .nil .nil)) (.dir .nil (.dir (.dir .nil (.blk (.loop [5, 6] [13, 14, 15, 18, 19, 20, 21, 22, 23, 24, 25, 26, 27, 28, 29, 30, 31, 5, 16, 17, 6] (.dir (.dir .nil .nil) (.cut [5] [18, 19, 20, 21, 22, 23, 24, 25, 26, 27, 28, 29, 30, 31, 5] (.blk (.dir .nil .nil)) .nil))))) .nil))))) follows Tryd.func76 (by kernel_rfl) (Nat.le_of_ble_eq_true (by kernel_rfl)) (by kernel_rfl) h

/-- headword.headwordref11.in -/
def W78 (x0 x1 x2 : AV) (H : Heap) (K : AV → Heap → Prop) : Prop :=
 letO (some ((.bool false) : AV)) fun t6 =>
 letO (some (x0 : AV)) fun t7 =>
 letO (some (x1 : AV)) fun t8 =>
 letO (binF Tryd.prog .geq 3 t7 t8) fun t9 =>
 letO (some (t9 : AV)) fun t10 =>
 letO (gval t10 true (some (x0 : AV))) fun t11 =>
 letO (gval t10 true (some (x2 : AV))) fun t12 =>
 letO (gval t10 true (binF Tryd.prog .leq 3 t11 t12)) fun t13 =>
 letO (pickF t10 t13 (.bool false)) fun t14 =>
 letO (some (t14 : AV)) fun t6 =>
endK t6 H K

theorem W78_ok {x0 x1 x2 : AV} {H : Heap} {K : AV → Heap → Prop} (h : W78 x0 x1 x2 H K) : ACalls Tryd.prog 78 [x0, x1, x2] H K :=
  acallsB (fn := Tryd.f78) (cfg := cfgOf [] [] [] [] []) (hh := (.dir .nil .nil)) follows Tryd.func78 (by kernel_rfl) (Nat.le_of_ble_eq_true (by kernel_rfl)) (by kernel_rfl) h

/-- headword.headwordref11.planned -/
def W80 (x0 x1 : AV) (H : Heap) (K : AV → Heap → Prop) : Prop :=
 letO (some ((.int .i64 0) : AV)) fun t4 =>
 letO (some (x1 : AV)) fun t6 =>
 letO (lenA t6) fun t7 =>
 letO (some (x0 : AV)) fun t8 =>
 letO (binF Tryd.prog .neq 3 t7 t8) fun t9 =>
 condA t9 true (
 letO (some ((.int .i64 5) : AV)) fun t4 =>
endK t4 H K) (
 letO (some ((.int .i64 0) : AV)) fun t5 =>
 true = true ∧ ∃ (I1 : List AV → Heap → Prop) (μ2 : List AV → Heap → Nat), I1 [t5] H ∧ ∀ L3 H4, I1 L3 H4 → -- [t5]
 letO (some ((L3.getD 0 .any) : AV)) fun t10 =>
 letO (some (x1 : AV)) fun t11 =>
 letO (lenA t11) fun t12 =>
 letO (binF Tryd.prog .lss 3 t10 t12) fun t13 =>
 condA t13 true (
 letO (some (x1 : AV)) fun t16 =>
 letO (some ((L3.getD 0 .any) : AV)) fun t17 =>
 letO (idx 1 t16 t17) fun t18 =>
 letO (load1 t18 H4) fun t19 =>
 letO (some (x0 : AV)) fun t20 =>
 letO (binF Tryd.prog .sub 3 t20 (.int .i64 1)) fun t21 =>
 ACalls Tryd.prog 78 [t19, (.int .i64 0), t21] H4 fun t22 H5 =>
 letO (unF .not t22) fun t23 =>
 condA t23 true (
 letO (some ((.int .i64 2) : AV)) fun t4 =>
endK t4 H5 K) (
 true = true ∧
 letO (some (x1 : AV)) fun t24 =>
 letO (some ((L3.getD 0 .any) : AV)) fun t25 =>
 letO (slc 1 t24 none (some t25) none) fun t26 =>
 letO (some (x1 : AV)) fun t27 =>
 letO (some ((L3.getD 0 .any) : AV)) fun t28 =>
 letO (idx 1 t27 t28) fun t29 =>
 letO (load1 t29 H5) fun t30 =>
 ACalls Tryd.prog 89 [t26, t30] H5 fun t31 H6 =>
 condA t31 true (
 letO (some ((.int .i64 6) : AV)) fun t4 =>
endK t4 H6 K) (
 letO (some ((L3.getD 0 .any) : AV)) fun t14 =>
 letO (binF Tryd.prog .add 3 t14 (.int .i64 1)) fun t15 =>
 letO (some (t15 : AV)) fun t5 =>
 I1 [t5] H6 ∧ μ2 [t5] H6 < μ2 L3 H4))) (
 letO (some ((.int .i64 0) : AV)) fun t4 =>
endK t4 H4 K))

theorem W80_ok {x0 x1 : AV} {H : Heap} {K : AV → Heap → Prop} (h : W80 x0 x1 H K) : ACalls Tryd.prog 80 [x0, x1] H K :=
  acallsB (fn := Tryd.f80) (cfg := cfgOf [] [] [(8, [0, 0, 3, 0, 0, 24, 56, 127])] [] []) (hh := (.dir .nil (.dir (.dir .nil (.dir .nil .nil)) (.dir (.dir .nil (.blk (.loop [5] [10, 11, 12, 13, 16, 17, 18, 19, 20, 21, 22, 23, 4, 24, 25, 26, 27, 28, 29, 30, 31, 14, 15, 5] (.dir (.dir .nil .nil) (.dir (.blk (.dir (.dir .nil (.dir .nil .nil)) (.dir .nil (.dir .nil .nil)))) .nil))))) .nil)))) follows Tryd.func80 (by kernel_rfl) (Nat.le_of_ble_eq_true (by kernel_rfl)) (by kernel_rfl) h

/-- headword.headwordref11.least -/
def W81 (x0 x1 : AV) (H : Heap) (K : AV → Heap → Prop) : Prop :=
 letO (some ((.int .i64 0) : AV)) fun t4 =>
 true = true ∧
 letO (some (x0 : AV)) fun t7 =>
 letO (idx 1 t7 (.int .i64 0)) fun t8 =>
 letO (load1 t8 H) fun t9 =>
 letO (some (x1 : AV)) fun t10 =>
 letO (idx 1 t10 (.int .i64 0)) fun t11 =>
 letO (load1 t11 H) fun t12 =>
 letO (idx 1 t9 t12) fun t13 =>
 letO (load1 t13 H) fun t14 =>
 letO (some (t14 : AV)) fun t5 =>
 letO (some ((.int .i64 1) : AV)) fun t6 =>
 true = true ∧ ∃ (I1 : List AV → Heap → Prop) (μ2 : List AV → Heap → Nat), I1 [t5, t6] H ∧ ∀ L3 H4, I1 L3 H4 → -- [t5, t6]
 letO (some ((L3.getD 1 .any) : AV)) fun t15 =>
 letO (some (x1 : AV)) fun t16 =>
 letO (lenA t16) fun t17 =>
 letO (binF Tryd.prog .lss 3 t15 t17) fun t18 =>
 condA t18 true (
 true = true ∧
 letO (some ((L3.getD 0 .any) : AV)) fun t21 =>
 letO (some (x0 : AV)) fun t22 =>
 letO (some ((L3.getD 1 .any) : AV)) fun t23 =>
 letO (idx 1 t22 t23) fun t24 =>
 letO (load1 t24 H4) fun t25 =>
 letO (some (x1 : AV)) fun t26 =>
 letO (some ((L3.getD 1 .any) : AV)) fun t27 =>
 letO (idx 1 t26 t27) fun t28 =>
 letO (load1 t28 H4) fun t29 =>
 letO (idx 1 t25 t29) fun t30 =>
 letO (load1 t30 H4) fun t31 =>
 letO (min2F t21 t31) fun t32 =>
 letO (some (t32 : AV)) fun t5 =>
 letO (some ((L3.getD 1 .any) : AV)) fun t19 =>
 letO (binF Tryd.prog .add 3 t19 (.int .i64 1)) fun t20 =>
 letO (some (t20 : AV)) fun t6 =>
 I1 [t5, t6] H4 ∧ μ2 [t5, t6] H4 < μ2 L3 H4) (
 letO (some ((L3.getD 0 .any) : AV)) fun t33 =>
 letO (some (t33 : AV)) fun t4 =>
endK t4 H4 K)

theorem W81_ok {x0 x1 : AV} {H : Heap} {K : AV → Heap → Prop} (h : W81 x0 x1 H K) : ACalls Tryd.prog 81 [x0, x1] H K :=
  acallsB (fn := Tryd.f81) (cfg := cfgOf [] [] [(1, [0, 1, 3, 0, 8, 24, 63, 127, 255]), (5, [0, 0, 0, 6, 14, 0, 0, 96, 224, 510, 1022, 2047, 4095])] [] []) (hh := (.dir .nil (.dir .nil (.dir (.dir .nil (.blk (.loop [5, 6] [15, 16, 17, 18, 21, 22, 23, 24, 25, 26, 27, 28, 29, 30, 31, 32, 5, 19, 20, 6] (.dir (.dir .nil .nil) (.dir .nil .nil))))) .nil)))) follows Tryd.func81 (by kernel_rfl) (Nat.le_of_ble_eq_true (by kernel_rfl)) (by kernel_rfl) h

/-- headword.headwordref11.lists -/
def W85 (x0 x1 x2 : AV) (H : Heap) (K : AV → Heap → Prop) : Prop :=
 letO (some (.nils : AV)) fun t6 =>
 letO (some (x2 : AV)) fun t10 =>
 letO (lenA t10) fun t11 =>
 letO (some (x1 : AV)) fun t12 =>
 letO (binF Tryd.prog .eql 3 t11 t12) fun t13 =>
 condA t13 true (
 letO (some (x2 : AV)) fun t14 =>
 letO (literalF Tryd.prog 22 1 [(0, t14)]) fun c1 =>
 letO (some ((.imm 1 true c1) : AV)) fun t6 =>
endK t6 H K) (
 letO (some ((.int .i64 0) : AV)) fun t7 =>
 true = true ∧ ∃ J2 : List AV → Heap → Prop, (
 letO (some (x2 : AV)) fun t16 =>
 letO (lenA t16) fun t17 =>
 letO (binF Tryd.prog .gtr 3 t17 (.int .i64 0)) fun t18 =>
 condA t18 true (
 letO (some (x2 : AV)) fun t19 =>
 letO (some (x2 : AV)) fun t20 =>
 letO (lenA t20) fun t21 =>
 letO (binF Tryd.prog .sub 3 t21 (.int .i64 1)) fun t22 =>
 letO (idx 1 t19 t22) fun t23 =>
 letO (load1 t23 H) fun t24 =>
 letO (binF Tryd.prog .add 3 t24 (.int .i64 1)) fun t25 =>
 letO (some (t25 : AV)) fun t7 =>
 J2 [t7] H) (
 J2 [t7] H)) ∧ ∀ L3 H4, J2 L3 H4 → -- [t7]
 letO (some (.nils : AV)) fun t8 =>
 letO (some ((L3.getD 0 .any) : AV)) fun t26 =>
 letO (some (t26 : AV)) fun t9 =>
 true = true ∧ ∃ (I5 : List AV → Heap → Prop) (μ6 : List AV → Heap → Nat), I5 [t8, t9] H4 ∧ ∀ L7 H8, I5 L7 H8 → -- [t8, t9]
 letO (some ((L7.getD 1 .any) : AV)) fun t27 =>
 letO (some (x0 : AV)) fun t28 =>
 letO (binF Tryd.prog .lss 3 t27 t28) fun t29 =>
 condA t29 true (
 letO (some ((L7.getD 0 .any) : AV)) fun t32 =>
 letO (some (x0 : AV)) fun t33 =>
 letO (some (x1 : AV)) fun t34 =>
 letO (literalF Tryd.prog 23 0 []) fun c9 =>
 letO (some (x2 : AV)) fun t36 =>
 appendA 1 8 (.imm 0 true c9) t36 (fun t37 H10 =>
 letO (some ((L7.getD 1 .any) : AV)) fun t38 =>
 letO (literalF Tryd.prog 23 1 [(0, t38)]) fun c11 =>
 appendA 1 8 t37 (.imm 1 true c11) (fun t40 H12 =>
 ACalls Tryd.prog 85 [t33, t34, t40] H12 fun t41 H13 =>
 appendA 1 24 t32 t41 (fun t42 H14 =>
 letO (some (t42 : AV)) fun t8 =>
 letO (some ((L7.getD 1 .any) : AV)) fun t30 =>
 letO (binF Tryd.prog .add 3 t30 (.int .i64 1)) fun t31 =>
 letO (some (t31 : AV)) fun t9 =>
 I5 [t8, t9] H14 ∧ μ6 [t8, t9] H14 < μ6 L7 H8) H13) H10) H8) (
 letO (some ((L7.getD 0 .any) : AV)) fun t43 =>
 letO (some (t43 : AV)) fun t6 =>
endK t6 H8 K))

theorem W85_ok {x0 x1 x2 : AV} {H : Heap} {K : AV → Heap → Prop} (h : W85 x0 x1 x2 H K) : ACalls Tryd.prog 85 [x0, x1, x2] H K :=
  acallsB (fn := Tryd.f85) (cfg := cfgOf [] [] [] [] []) (hh := (.dir .nil (.dir (.dir .nil (.dir .nil .nil)) (.dir .nil (.cut [7] [16, 17, 18, 19, 20, 21, 22, 23, 24, 25, 7] (.dir .nil .nil) (.dir .nil (.dir (.dir .nil (.blk (.loop [8, 9] [27, 28, 29, 32, 33, 34, 35, 36, 37, 38, 39, 40, 41, 42, 8, 30, 31, 9] (.dir (.dir .nil .nil) (.dir .nil .nil))))) .nil))))))) follows Tryd.func85 (by kernel_rfl) (Nat.le_of_ble_eq_true (by kernel_rfl)) (by kernel_rfl) h

/-- headword.headwordref11.zeros -/
def W86 (x0 x1 : AV) (H : Heap) (K : AV → Heap → Prop) : Prop :=
 letO (some (.nils : AV)) fun t4 =>
 letO (some (.nils : AV)) fun t5 =>
 letO (some ((.int .i64 0) : AV)) fun t6 =>
 true = true ∧ ∃ (I1 : List AV → Heap → Prop) (μ2 : List AV → Heap → Nat), I1 [t5, t6] H ∧ ∀ L3 H4, I1 L3 H4 → -- [t5, t6]
 letO (some ((L3.getD 1 .any) : AV)) fun t9 =>
 letO (some (x0 : AV)) fun t10 =>
 letO (lenA t10) fun t11 =>
 letO (binF Tryd.prog .lss 3 t9 t11) fun t12 =>
 condA t12 true (
 true = true ∧ ∃ J5 : List AV → Heap → Prop, (
 letO (some ((.bool true) : AV)) fun t7 =>
 letO (some ((.int .i64 0) : AV)) fun t8 =>
 true = true ∧ ∃ (I6 : List AV → Heap → Prop) (μ7 : List AV → Heap → Nat), I6 [t7, t8] H4 ∧ ∀ L8 H9, I6 L8 H9 → -- [t7, t8]
 letO (some ((L8.getD 1 .any) : AV)) fun t15 =>
 letO (some (x1 : AV)) fun t16 =>
 letO (lenA t16) fun t17 =>
 letO (binF Tryd.prog .lss 3 t15 t17) fun t18 =>
 condA t18 true (
 letO (some ((L8.getD 0 .any) : AV)) fun t21 =>
 letO (some (t21 : AV)) fun t22 =>
 letO (gval t22 true (some (x0 : AV))) fun t23 =>
 letO (gval t22 true (some (x1 : AV))) fun t24 =>
 letO (gval t22 true (some ((L8.getD 1 .any) : AV))) fun t25 =>
 letO (gval t22 true (idx 1 t24 t25)) fun t26 =>
 letO (gval t22 true (load1 t26 H9)) fun t27 =>
 letO (gval t22 true (idx 1 t23 t27)) fun t28 =>
 letO (gval t22 true (load1 t28 H9)) fun t29 =>
 letO (gval t22 true (some ((L3.getD 1 .any) : AV))) fun t30 =>
 letO (gval t22 true (idx 1 t29 t30)) fun t31 =>
 letO (gval t22 true (load1 t31 H9)) fun t32 =>
 letO (gval t22 true (binF Tryd.prog .eql 3 t32 (.int .i64 0))) fun t33 =>
 letO (pickF t22 t33 (.bool false)) fun t34 =>
 letO (some (t34 : AV)) fun t7 =>
 letO (some ((L8.getD 1 .any) : AV)) fun t19 =>
 letO (binF Tryd.prog .add 3 t19 (.int .i64 1)) fun t20 =>
 letO (some (t20 : AV)) fun t8 =>
 I6 [t7, t8] H9 ∧ μ7 [t7, t8] H9 < μ7 L8 H9) (
 letO (some ((L8.getD 0 .any) : AV)) fun t35 =>
 condA t35 true (
 letO (some ((L3.getD 0 .any) : AV)) fun t36 =>
 letO (some ((L3.getD 1 .any) : AV)) fun t37 =>
 letO (literalF Tryd.prog 23 1 [(0, t37)]) fun c10 =>
 appendA 1 8 t36 (.imm 1 true c10) (fun t39 H11 =>
 letO (some (t39 : AV)) fun t5 =>
 J5 [t5] H11) H9) (
 J5 [(L3.getD 0 .any)] H9))) ∧ ∀ L12 H13, J5 L12 H13 → -- [t5]
 letO (some ((L3.getD 1 .any) : AV)) fun t13 =>
 letO (binF Tryd.prog .add 3 t13 (.int .i64 1)) fun t14 =>
 letO (some (t14 : AV)) fun t6 =>
 I1 [(L12.getD 0 .any), t6] H13 ∧ μ2 [(L12.getD 0 .any), t6] H13 < μ2 L3 H4) (
 letO (some ((L3.getD 0 .any) : AV)) fun t40 =>
 letO (some (t40 : AV)) fun t4 =>
endK t4 H4 K)

theorem W86_ok {x0 x1 : AV} {H : Heap} {K : AV → Heap → Prop} (h : W86 x0 x1 H K) : ACalls Tryd.prog 86 [x0, x1] H K :=
  acallsB (fn := Tryd.f86) (cfg := cfgOf [] [] [] [] []) (hh := (.dir .nil (.dir .nil (.dir (.dir .nil (.blk (.loop [5, 6] [9, 10, 11, 12, 7, 8, 15, 16, 17, 18, 21, 22, 23, 24, 25, 26, 27, 28, 29, 30, 31, 32, 33, 34, 19, 20, 35, 36, 37, 38, 39, 5, 13, 14, 6] (.dir (.dir .nil .nil) (.cut [5] [7, 8, 15, 16, 17, 18, 21, 22, 23, 24, 25, 26, 27, 28, 29, 30, 31, 32, 33, 34, 19, 20, 35, 36, 37, 38, 39, 5] (.blk (.dir .nil (.dir (.dir .nil (.blk (.loop [7, 8] [15, 16, 17, 18, 21, 22, 23, 24, 25, 26, 27, 28, 29, 30, 31, 32, 33, 34, 7, 19, 20, 8] (.dir (.dir .nil .nil) (.dir .nil .nil))))) (.dir .nil .nil)))) .nil))))) .nil)))) follows Tryd.func86 (by kernel_rfl) (Nat.le_of_ble_eq_true (by kernel_rfl)) (by kernel_rfl) h

/-- headword.headwordref11.listed -/
def W88 (x0 x1 : AV) (H : Heap) (K : AV → Heap → Prop) : Prop :=
 letO (some ((.int .i64 0) : AV)) fun t4 =>
 letO (some ((.int .i64 0) : AV)) fun t5 =>
 true = true ∧ ∃ (I1 : List AV → Heap → Prop) (μ2 : List AV → Heap → Nat), I1 [t5] H ∧ ∀ L3 H4, I1 L3 H4 → -- [t5]
 letO (some ((L3.getD 0 .any) : AV)) fun t6 =>
 letO (some (x1 : AV)) fun t7 =>
 letO (lenA t7) fun t8 =>
 letO (binF Tryd.prog .lss 3 t6 t8) fun t9 =>
 condA t9 true (
 letO (some (x1 : AV)) fun t12 =>
 letO (some ((L3.getD 0 .any) : AV)) fun t13 =>
 letO (idx 1 t12 t13) fun t14 =>
 letO (load1 t14 H4) fun t15 =>
 letO (some (x0 : AV)) fun t16 =>
 letO (binF Tryd.prog .sub 3 t16 (.int .i64 1)) fun t17 =>
 ACalls Tryd.prog 78 [t15, (.int .i64 0), t17] H4 fun t18 H5 =>
 letO (unF .not t18) fun t19 =>
 condA t19 true (
 letO (some ((.int .i64 2) : AV)) fun t4 =>
endK t4 H5 K) (
 true = true ∧
 letO (some ((L3.getD 0 .any) : AV)) fun t20 =>
 letO (binF Tryd.prog .gtr 3 t20 (.int .i64 0)) fun t21 =>
 letO (some (t21 : AV)) fun t22 =>
 letO (gval t22 true (some (x1 : AV))) fun t23 =>
 letO (gval t22 true (some ((L3.getD 0 .any) : AV))) fun t24 =>
 letO (gval t22 true (idx 1 t23 t24)) fun t25 =>
 letO (gval t22 true (load1 t25 H5)) fun t26 =>
 letO (gval t22 true (some (x1 : AV))) fun t27 =>
 letO (gval t22 true (some ((L3.getD 0 .any) : AV))) fun t28 =>
 letO (gval t22 true (binF Tryd.prog .sub 3 t28 (.int .i64 1))) fun t29 =>
 letO (gval t22 true (idx 1 t27 t29)) fun t30 =>
 letO (gval t22 true (load1 t30 H5)) fun t31 =>
 letO (gval t22 true (binF Tryd.prog .leq 3 t26 t31)) fun t32 =>
 letO (pickF t22 t32 (.bool false)) fun t33 =>
 condA t33 true (
 letO (some ((.int .i64 7) : AV)) fun t4 =>
endK t4 H5 K) (
 letO (some ((L3.getD 0 .any) : AV)) fun t10 =>
 letO (binF Tryd.prog .add 3 t10 (.int .i64 1)) fun t11 =>
 letO (some (t11 : AV)) fun t5 =>
 I1 [t5] H5 ∧ μ2 [t5] H5 < μ2 L3 H4))) (
 letO (some ((.int .i64 0) : AV)) fun t4 =>
endK t4 H4 K)

theorem W88_ok {x0 x1 : AV} {H : Heap} {K : AV → Heap → Prop} (h : W88 x0 x1 H K) : ACalls Tryd.prog 88 [x0, x1] H K :=
  acallsB (fn := Tryd.f88) (cfg := cfgOf [] [] [(6, [0, 1, 3, 7, 7, 31, 63, 7, 7, 263, 903, 1927, 4095, 8191])] [] []) (hh := (.dir .nil (.dir (.dir .nil (.blk (.loop [5] [6, 7, 8, 9, 12, 13, 14, 15, 16, 17, 18, 19, 4, 20, 21, 22, 23, 24, 25, 26, 27, 28, 29, 30, 31, 32, 33, 10, 11, 5] (.dir (.dir .nil .nil) (.dir (.blk (.dir (.dir .nil (.dir .nil .nil)) (.dir .nil (.dir .nil .nil)))) .nil))))) .nil))) follows Tryd.func88 (by kernel_rfl) (Nat.le_of_ble_eq_true (by kernel_rfl)) (by kernel_rfl) h

/-- headword.headwordref11.has -/
def W89 (x0 x1 : AV) (H : Heap) (K : AV → Heap → Prop) : Prop :=
 letO (some ((.bool false) : AV)) fun t4 =>
 letO (some ((.int .i64 0) : AV)) fun t5 =>
 true = true ∧ ∃ (I1 : List AV → Heap → Prop) (μ2 : List AV → Heap → Nat), I1 [t5] H ∧ ∀ L3 H4, I1 L3 H4 → -- [t5]
 letO (some ((L3.getD 0 .any) : AV)) fun t6 =>
 letO (some (x0 : AV)) fun t7 =>
 letO (lenA t7) fun t8 =>
 letO (binF Tryd.prog .lss 3 t6 t8) fun t9 =>
 condA t9 true (
 letO (some (x0 : AV)) fun t12 =>
 letO (some ((L3.getD 0 .any) : AV)) fun t13 =>
 letO (idx 1 t12 t13) fun t14 =>
 letO (load1 t14 H4) fun t15 =>
 letO (some (x1 : AV)) fun t16 =>
 letO (binF Tryd.prog .eql 3 t15 t16) fun t17 =>
 condA t17 true (
 letO (some ((.bool true) : AV)) fun t4 =>
endK t4 H4 K) (
 letO (some ((L3.getD 0 .any) : AV)) fun t10 =>
 letO (binF Tryd.prog .add 3 t10 (.int .i64 1)) fun t11 =>
 letO (some (t11 : AV)) fun t5 =>
 I1 [t5] H4 ∧ μ2 [t5] H4 < μ2 L3 H4)) (
 letO (some ((.bool false) : AV)) fun t4 =>
endK t4 H4 K)

theorem W89_ok {x0 x1 : AV} {H : Heap} {K : AV → Heap → Prop} (h : W89 x0 x1 H K) : ACalls Tryd.prog 89 [x0, x1] H K :=
  acallsB (fn := Tryd.f89) (cfg := cfgOf [] [] [] [] []) (hh := (.dir .nil (.dir (.dir .nil (.blk (.loop [5] [6, 7, 8, 9, 12, 13, 14, 15, 16, 17, 4, 10, 11, 5] (.dir (.dir .nil .nil) (.dir (.blk (.dir .nil (.dir .nil .nil))) .nil))))) .nil))) follows Tryd.func89 (by kernel_rfl) (Nat.le_of_ble_eq_true (by kernel_rfl)) (by kernel_rfl) h

/-- headword.headwordref11.taken -/
def W92 (x0 x1 x2 : AV) (H : Heap) (K : AV → Heap → Prop) : Prop :=
 letO (some (.nils : AV)) fun t6 =>
 letO (some (.nils : AV)) fun t7 =>
 letO (some ((.int .i64 0) : AV)) fun t8 =>
 true = true ∧ ∃ (I1 : List AV → Heap → Prop) (μ2 : List AV → Heap → Nat), I1 [t7, t8] H ∧ ∀ L3 H4, I1 L3 H4 → -- [t7, t8]
 letO (some ((L3.getD 1 .any) : AV)) fun t10 =>
 letO (some (x0 : AV)) fun t11 =>
 letO (lenA t11) fun t12 =>
 letO (binF Tryd.prog .lss 3 t10 t12) fun t13 =>
 condA t13 true (
 letO (literalF Tryd.prog 23 0 []) fun c5 =>
 letO (some (x0 : AV)) fun t17 =>
 letO (some ((L3.getD 1 .any) : AV)) fun t18 =>
 letO (idx 1 t17 t18) fun t19 =>
 letO (load1 t19 H4) fun t20 =>
 appendA 1 8 (.imm 0 true c5) t20 (fun t21 H6 =>
 letO (some (t21 : AV)) fun t9 =>
 letO (some (t9 : AV)) fun t22 =>
 letO (some (x1 : AV)) fun t23 =>
 letO (some ((L3.getD 1 .any) : AV)) fun t24 =>
 letO (idx 1 t23 t24) fun t25 =>
 letO (load1 t25 H6) fun t26 =>
 letO (idx 1 t22 t26) fun t27 =>
 letO (load1 t27 H6) fun t28 =>
 letO (some (x2 : AV)) fun t29 =>
 letO (binF Tryd.prog .sub 3 t28 t29) fun t30 =>
 letO (idx 1 t22 t26) fun t31 =>
 storeA 1 t31 t30 (fun H7 =>
 letO (some ((L3.getD 0 .any) : AV)) fun t32 =>
 letO (some (t9 : AV)) fun t33 =>
 letO (literalF Tryd.prog 22 1 [(0, t33)]) fun c8 =>
 appendA 1 24 t32 (.imm 1 true c8) (fun t35 H9 =>
 letO (some (t35 : AV)) fun t7 =>
 letO (some ((L3.getD 1 .any) : AV)) fun t14 =>
 letO (binF Tryd.prog .add 3 t14 (.int .i64 1)) fun t15 =>
 letO (some (t15 : AV)) fun t8 =>
 I1 [t7, t8] H9 ∧ μ2 [t7, t8] H9 < μ2 L3 H4) H7) H6) H4) (
 letO (some ((L3.getD 0 .any) : AV)) fun t36 =>
 letO (some (t36 : AV)) fun t6 =>
endK t6 H4 K)

theorem W92_ok {x0 x1 x2 : AV} {H : Heap} {K : AV → Heap → Prop} (h : W92 x0 x1 x2 H K) : ACalls Tryd.prog 92 [x0, x1, x2] H K :=
  acallsB (fn := Tryd.f92) (cfg := cfgOf [] [] [] [] []) (hh := (.dir .nil (.dir .nil (.dir (.dir .nil (.blk (.loop [7, 8] [10, 11, 12, 13, 16, 17, 18, 19, 20, 21, 9, 22, 23, 24, 25, 26, 27, 28, 29, 30, 31, 32, 33, 34, 35, 7, 14, 15, 8] (.dir (.dir .nil .nil) (.dir (.blk (.dir .nil .nil)) .nil))))) .nil)))) follows Tryd.func92 (by kernel_rfl) (Nat.le_of_ble_eq_true (by kernel_rfl)) (by kernel_rfl) h

/-- headword.headwordref11.splits -/
def W96 (x0 x1 x2 : AV) (H : Heap) (K : AV → Heap → Prop) : Prop :=
 letO (some ((.int .i64 0) : AV)) fun t6 =>
 letO (some (x2 : AV)) fun t9 =>
 letO (binF Tryd.prog .eql 3 t9 (.int .i64 0)) fun t10 =>
 condA t10 true (
 letO (some ((.int .i64 1) : AV)) fun t6 =>
endK t6 H K) (
 letO (some ((.int .i64 0) : AV)) fun t7 =>
 letO (some ((.int .i64 0) : AV)) fun t8 =>
 true = true ∧ ∃ (I1 : List AV → Heap → Prop) (μ2 : List AV → Heap → Nat), I1 [t7, t8] H ∧ ∀ L3 H4, I1 L3 H4 → -- [t7, t8]
 letO (some ((L3.getD 1 .any) : AV)) fun t11 =>
 letO (some (x1 : AV)) fun t12 =>
 letO (lenA t12) fun t13 =>
 letO (binF Tryd.prog .lss 3 t11 t13) fun t14 =>
 condA t14 true (
 true = true ∧ ∃ J5 : List AV → Heap → Prop, (
 letO (some (x0 : AV)) fun t17 =>
 letO (some (x1 : AV)) fun t18 =>
 letO (some ((L3.getD 1 .any) : AV)) fun t19 =>
 letO (idx 1 t18 t19) fun t20 =>
 letO (load1 t20 H4) fun t21 =>
 ACalls Tryd.prog 81 [t17, t21] H4 fun t22 H6 =>
 letO (binF Tryd.prog .gtr 3 t22 (.int .i64 0)) fun t23 =>
 condA t23 true (
 true = true ∧
 letO (some ((L3.getD 0 .any) : AV)) fun t24 =>
 letO (some (x0 : AV)) fun t25 =>
 letO (some (x1 : AV)) fun t26 =>
 letO (some ((L3.getD 1 .any) : AV)) fun t27 =>
 letO (idx 1 t26 t27) fun t28 =>
 letO (load1 t28 H6) fun t29 =>
 ∃ t30, (ACalls Tryd.prog 92 [t25, t29, (.int .i64 1)] H6 fun r h => r = t30 ∧ h = H6) ∧
 letO (some (x1 : AV)) fun t31 =>
 letO (some ((L3.getD 1 .any) : AV)) fun t32 =>
 letO (slc 1 t31 (some t32) none none) fun t33 =>
 letO (some (x2 : AV)) fun t34 =>
 letO (binF Tryd.prog .sub 3 t34 (.int .i64 1)) fun t35 =>
 ∃ t36, (ACalls Tryd.prog 96 [t30, t33, t35] H6 fun r h => r = t36 ∧ h = H6) ∧
 letO (binF Tryd.prog .add 3 t24 t36) fun t37 =>
 letO (some (t37 : AV)) fun t7 =>
 J5 [t7] H6) (
 J5 [(L3.getD 0 .any)] H6)) ∧ ∀ L7 H8, J5 L7 H8 → -- [t7]
 letO (some ((L3.getD 1 .any) : AV)) fun t15 =>
 letO (binF Tryd.prog .add 3 t15 (.int .i64 1)) fun t16 =>
 letO (some (t16 : AV)) fun t8 =>
 I1 [(L7.getD 0 .any), t8] H8 ∧ μ2 [(L7.getD 0 .any), t8] H8 < μ2 L3 H4) (
 letO (some ((L3.getD 0 .any) : AV)) fun t38 =>
 letO (some (t38 : AV)) fun t6 =>
endK t6 H4 K))

theorem W96_ok {x0 x1 x2 : AV} {H : Heap} {K : AV → Heap → Prop} (h : W96 x0 x1 x2 H K) : ACalls Tryd.prog 96 [x0, x1, x2] H K :=
  acallsB (fn := Tryd.f96) (cfg := cfgOf [] [] [(8, [0, 0, 0, 0, 12, 28, 62, 0, 0, 384, 0, 1024, 4094, 8191, 16383])] [] []) (hh := (.dir .nil (.dir (.dir .nil (.dir .nil .nil)) (.dir .nil (.dir (.dir .nil (.blk (.loop [7, 8] [11, 12, 13, 14, 17, 18, 19, 20, 21, 22, 23, 24, 25, 26, 27, 28, 29, 30, 31, 32, 33, 34, 35, 36, 37, 7, 15, 16, 8] (.dir (.dir .nil .nil) (.cut [7] [17, 18, 19, 20, 21, 22, 23, 24, 25, 26, 27, 28, 29, 30, 31, 32, 33, 34, 35, 36, 37, 7] (.blk (.dir .nil .nil)) .nil))))) .nil))))) follows Tryd.func96 (by kernel_rfl) (Nat.le_of_ble_eq_true (by kernel_rfl)) (by kernel_rfl) h


end Go.Proofs.YtbofkeoebnjjkaaDoor
