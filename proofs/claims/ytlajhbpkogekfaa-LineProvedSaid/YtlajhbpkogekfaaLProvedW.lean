import Derived.Test.YtlajhbpkogekfaaCon
/- The functions of the statement LineProved that the line package does not hold, each in the words of its walk; made by program. -/
set_option linter.unusedVariables false
set_option maxRecDepth 100000
namespace Go.Proofs.Ytlajhbpkogekfaa
open Go.Av
/-- headword.headwordlaw13.LineBests -/
def W3 (x0 : AV) (H : Heap) (K : AV → Heap → Prop) : Prop :=
 letO (cellsOf? x0) fun c1 =>
 letO (some ((.bool false) : AV)) fun t2 =>
 letO (faddr 1 (.iptr c1)) fun t20 =>
 letO (load1 t20 H) fun t21 =>
 letO (lenA t21) fun t22 =>
 letO (binF Try.prog .gtr 3 t22 (.int .i64 40)) fun t23 =>
 condA t23 true (
 ACalls Try.prog 16 [] H fun t24 H2 =>
 letO (some (t24 : AV)) fun t2 =>
endK t2 H2 K) (
 letO (loadN 2 (.iptr c1) H) fun t25 =>
 allocA [(.int .i64 0), .nils] (fun t3 H3 =>
 storeA 2 t3 t25 (fun H4 =>
 letO (loadN 2 (.iptr c1) H4) fun t27 =>
 ACalls Try.prog 17 [t27] H4 fun t28 H5 =>
 letO (some (t28 : AV)) fun t26 =>
 letO (extrF t26 0) fun t29 =>
 letO (extrF t26 1) fun t30 =>
 letO (some (t29 : AV)) fun t4 =>
 letO (some (t30 : AV)) fun t5 =>
 letO (loadN 2 t3 H5) fun t32 =>
 ACalls Try.prog 18 [t32] H5 fun t33 H6 =>
 letO (some (t33 : AV)) fun t31 =>
 letO (extrF t31 0) fun t34 =>
 letO (extrF t31 1) fun t35 =>
 letO (some (t34 : AV)) fun t6 =>
 letO (some (t35 : AV)) fun t7 =>
 letO (loadN 2 (.iptr c1) H6) fun t37 =>
 ACalls Try.prog 19 [t37] H6 fun t38 H7 =>
 letO (some (t38 : AV)) fun t36 =>
 letO (extrF t36 0) fun t39 =>
 letO (extrF t36 1) fun t40 =>
 letO (some (t39 : AV)) fun t8 =>
 letO (some (t40 : AV)) fun t9 =>
 letO (loadN 2 t3 H7) fun t42 =>
 ACalls Try.prog 20 [t42] H7 fun t43 H8 =>
 letO (some (t43 : AV)) fun t41 =>
 letO (extrF t41 0) fun t44 =>
 letO (extrF t41 1) fun t45 =>
 letO (some (t44 : AV)) fun t10 =>
 letO (some (t45 : AV)) fun t11 =>
 letO (loadN 2 (.iptr c1) H8) fun t47 =>
 ACalls Try.prog 21 [t47] H8 fun t48 H9 =>
 letO (some (t48 : AV)) fun t46 =>
 letO (extrF t46 0) fun t49 =>
 letO (extrF t46 1) fun t50 =>
 letO (some (t49 : AV)) fun t12 =>
 letO (some (t50 : AV)) fun t13 =>
 letO (loadN 2 t3 H9) fun t52 =>
 ACalls Try.prog 22 [t52] H9 fun t53 H10 =>
 letO (some (t53 : AV)) fun t51 =>
 letO (extrF t51 0) fun t54 =>
 letO (extrF t51 1) fun t55 =>
 letO (some (t54 : AV)) fun t14 =>
 letO (some (t55 : AV)) fun t15 =>
 letO (loadN 2 (.iptr c1) H10) fun t57 =>
 ACalls Try.prog 23 [t57] H10 fun t58 H11 =>
 letO (some (t58 : AV)) fun t56 =>
 letO (extrF t56 0) fun t59 =>
 letO (extrF t56 1) fun t60 =>
 letO (some (t59 : AV)) fun t16 =>
 letO (some (t60 : AV)) fun t17 =>
 letO (loadN 2 t3 H11) fun t62 =>
 ACalls Try.prog 24 [t62] H11 fun t63 H12 =>
 letO (some (t63 : AV)) fun t61 =>
 letO (extrF t61 0) fun t64 =>
 letO (extrF t61 1) fun t65 =>
 letO (some (t64 : AV)) fun t18 =>
 letO (some (t65 : AV)) fun t19 =>
 letO (some (t4 : AV)) fun t66 =>
 letO (some (t6 : AV)) fun t67 =>
 ACalls Try.prog 25 [t66, t67] H12 fun t68 H13 =>
 letO (some (t68 : AV)) fun t69 =>
 letO (gval t69 true (some (t5 : AV))) fun t70 =>
 letO (gval t69 true (some (t7 : AV))) fun t71 =>
 letO (gval t69 true (binF Try.prog .eql 27 t70 t71)) fun t72 =>
 letO (pickF t69 t72 (.bool false)) fun t73 =>
 letO (some (t73 : AV)) fun t74 =>
 letO (gval t74 true (some (t8 : AV))) fun t75 =>
 letO (gval t74 true (some (t10 : AV))) fun t76 =>
 letO (gval t74 true (binF Try.prog .eql 3 t75 t76)) fun t77 =>
 letO (pickF t74 t77 (.bool false)) fun t78 =>
 letO (some (t78 : AV)) fun t79 =>
 letO (gval t79 true (some (t9 : AV))) fun t80 =>
 letO (gval t79 true (some (t11 : AV))) fun t81 =>
 letO (gval t79 true (binF Try.prog .eql 27 t80 t81)) fun t82 =>
 letO (pickF t79 t82 (.bool false)) fun t83 =>
 letO (some (t83 : AV)) fun t84 =>
 letO (gval t84 true (some (t12 : AV))) fun t85 =>
 letO (gval t84 true (some (t14 : AV))) fun t86 =>
 letO (gval t84 true (binF Try.prog .eql 3 t85 t86)) fun t87 =>
 letO (pickF t84 t87 (.bool false)) fun t88 =>
 letO (some (t88 : AV)) fun t89 =>
 letO (gval t89 true (some (t13 : AV))) fun t90 =>
 letO (gval t89 true (some (t15 : AV))) fun t91 =>
 letO (gval t89 true (binF Try.prog .eql 27 t90 t91)) fun t92 =>
 letO (pickF t89 t92 (.bool false)) fun t93 =>
 letO (some (t93 : AV)) fun t94 =>
 letO (gval t94 true (some (t16 : AV))) fun t95 =>
 letO (gval t94 true (some (t18 : AV))) fun t96 =>
 ∃ J14 : AV → Heap → Prop, condG t94 true (ACalls Try.prog 25 [t95, t96] H13 fun t97 H15 =>
 J14 t97 H15) (J14 (.tup []) H13) ∧ ∀ t97 H16, J14 t97 H16 →
 letO (pickF t94 t97 (.bool false)) fun t98 =>
 letO (some (t98 : AV)) fun t99 =>
 letO (gval t99 true (some (t17 : AV))) fun t100 =>
 letO (gval t99 true (some (t19 : AV))) fun t101 =>
 letO (gval t99 true (binF Try.prog .eql 27 t100 t101)) fun t102 =>
 letO (pickF t99 t102 (.bool false)) fun t103 =>
 letO (some (t103 : AV)) fun t104 =>
 ∃ J17 : AV → Heap → Prop, condG t104 true (ACalls Try.prog 16 [] H16 fun t105 H18 =>
 J17 t105 H18) (J17 (.tup []) H16) ∧ ∀ t105 H19, J17 t105 H19 →
 letO (pickF t104 t105 (.bool false)) fun t106 =>
 letO (some (t106 : AV)) fun t2 =>
endK t2 H19 K) H3) H)

theorem W3_ok {x0 : AV} {H : Heap} {K : AV → Heap → Prop} (h : W3 x0 H K) : ACalls Try.prog 3 [x0] H K :=
  acallsB (fn := Try.f3) (cfg := cfgOf [] [] [] [] []) (hh := (.dir .nil (.dir (.dir .nil (.dir .nil .nil)) (.dir .nil (.dir .nil (.dir .nil (.dir .nil (.dir .nil (.dir .nil (.dir .nil (.dir .nil (.dir .nil .nil)))))))))))) follows Try.func3 (by kernel_rfl) (Nat.le_of_ble_eq_true (by kernel_rfl)) (by kernel_rfl) h

/-- headword.headwordlaw13.LineProved -/
def W12 (x0 x1 : AV) (H : Heap) (K : AV → Heap → Prop) : Prop :=
 letO (cellsOf? x0) fun c1 =>
 letO (cellsOf? x1) fun c2 =>
 letO (some ((.bool false) : AV)) fun t4 =>
 letO (loadN 13 (.iptr c1) H) fun t26 =>
 ACalls Try.prog 34 [t26, (.int .i64 9)] H fun t27 H3 =>
 allocA [(.int .i64 0), .nils] (fun t5 H4 =>
 storeA 2 t5 t27 (fun H5 =>
 letO (loadN 2 t5 H5) fun t29 =>
 ACalls Try.prog 53 [t29] H5 fun t30 H6 =>
 letO (some (t30 : AV)) fun t28 =>
 letO (extrF t28 0) fun t31 =>
 letO (extrF t28 1) fun t32 =>
 letO (extrF t28 2) fun t33 =>
 letO (some (t31 : AV)) fun t6 =>
 letO (some (t32 : AV)) fun t7 =>
 letO (some (t33 : AV)) fun t8 =>
 letO (loadN 2 t5 H6) fun t35 =>
 ACalls Try.prog 17 [t35] H6 fun t36 H7 =>
 letO (some (t36 : AV)) fun t34 =>
 letO (extrF t34 0) fun t37 =>
 letO (extrF t34 1) fun t38 =>
 letO (some (t37 : AV)) fun t9 =>
 letO (some (t38 : AV)) fun t10 =>
 letO (loadN 2 t5 H7) fun t40 =>
 ACalls Try.prog 19 [t40] H7 fun t41 H8 =>
 letO (some (t41 : AV)) fun t39 =>
 letO (extrF t39 0) fun t42 =>
 letO (extrF t39 1) fun t43 =>
 letO (some (t42 : AV)) fun t11 =>
 letO (some (t43 : AV)) fun t12 =>
 letO (loadN 2 t5 H8) fun t45 =>
 ACalls Try.prog 21 [t45] H8 fun t46 H9 =>
 letO (some (t46 : AV)) fun t44 =>
 letO (extrF t44 0) fun t47 =>
 letO (extrF t44 1) fun t48 =>
 letO (some (t47 : AV)) fun t13 =>
 letO (some (t48 : AV)) fun t14 =>
 letO (loadN 2 t5 H9) fun t50 =>
 ACalls Try.prog 26 [t50] H9 fun t51 H10 =>
 letO (some (t51 : AV)) fun t49 =>
 letO (extrF t49 0) fun t52 =>
 letO (extrF t49 1) fun t53 =>
 letO (some (t52 : AV)) fun t15 =>
 letO (some (t53 : AV)) fun t16 =>
 letO (loadN 2 t5 H10) fun t55 =>
 ACalls Try.prog 54 [t55] H10 fun t56 H11 =>
 letO (some (t56 : AV)) fun t54 =>
 letO (extrF t54 0) fun t57 =>
 letO (extrF t54 1) fun t58 =>
 letO (some (t57 : AV)) fun t17 =>
 letO (some (t58 : AV)) fun t18 =>
 letO (loadN 2 t5 H11) fun t59 =>
 ACalls Try.prog 50 [t59] H11 fun t60 H12 =>
 letO (binF Try.prog .neq 27 t60 (.int .i64 0)) fun t61 =>
 letO (some (t61 : AV)) fun t62 =>
 letO (gval t62 false (some (t10 : AV))) fun t63 =>
 letO (gval t62 false (binF Try.prog .neq 27 t63 (.int .i64 0))) fun t64 =>
 letO (pickF t62 (.bool true) t64) fun t65 =>
 letO (some (t65 : AV)) fun t66 =>
 letO (gval t66 false (some (t12 : AV))) fun t67 =>
 letO (gval t66 false (binF Try.prog .neq 27 t67 (.int .i64 0))) fun t68 =>
 letO (pickF t66 (.bool true) t68) fun t69 =>
 letO (some (t69 : AV)) fun t70 =>
 letO (gval t70 false (some (t14 : AV))) fun t71 =>
 letO (gval t70 false (binF Try.prog .neq 27 t71 (.int .i64 0))) fun t72 =>
 letO (pickF t70 (.bool true) t72) fun t73 =>
 letO (some (t73 : AV)) fun t74 =>
 letO (gval t74 false (some (t16 : AV))) fun t75 =>
 letO (gval t74 false (binF Try.prog .neq 27 t75 (.int .i64 0))) fun t76 =>
 letO (pickF t74 (.bool true) t76) fun t77 =>
 letO (some (t77 : AV)) fun t78 =>
 letO (gval t78 false (some (t9 : AV))) fun t79 =>
 letO (gval t78 false (some (t6 : AV))) fun t80 =>
 ∃ J13 : AV → Heap → Prop, condG t78 false (ACalls Try.prog 25 [t79, t80] H12 fun t81 H14 =>
 J13 t81 H14) (J13 (.tup []) H12) ∧ ∀ t81 H15, J13 t81 H15 →
 letO (gval t78 false (unF .not t81)) fun t82 =>
 letO (pickF t78 (.bool true) t82) fun t83 =>
 letO (some (t83 : AV)) fun t84 =>
 letO (gval t84 false (some (t11 : AV))) fun t85 =>
 letO (gval t84 false (some (t7 : AV))) fun t86 =>
 letO (gval t84 false (binF Try.prog .neq 3 t85 t86)) fun t87 =>
 letO (pickF t84 (.bool true) t87) fun t88 =>
 letO (some (t88 : AV)) fun t89 =>
 letO (gval t89 false (some (t13 : AV))) fun t90 =>
 letO (gval t89 false (some (t8 : AV))) fun t91 =>
 letO (gval t89 false (binF Try.prog .neq 3 t90 t91)) fun t92 =>
 letO (pickF t89 (.bool true) t92) fun t93 =>
 letO (some (t93 : AV)) fun t94 =>
 letO (gval t94 false (some (t15 : AV))) fun t95 =>
 letO (gval t94 false (some (t17 : AV))) fun t96 =>
 ∃ J16 : AV → Heap → Prop, condG t94 false (ACalls Try.prog 25 [t95, t96] H15 fun t97 H17 =>
 J16 t97 H17) (J16 (.tup []) H15) ∧ ∀ t97 H18, J16 t97 H18 →
 letO (gval t94 false (unF .not t97)) fun t98 =>
 letO (pickF t94 (.bool true) t98) fun t99 =>
 condA t99 true (
 letO (some ((.bool false) : AV)) fun t4 =>
endK t4 H18 K) (
 letO (loadN 2 t5 H18) fun t101 =>
 letO (some (t15 : AV)) fun t102 =>
 ACalls Try.prog 28 [t101, t102] H18 fun t103 H19 =>
 letO (some (t103 : AV)) fun t100 =>
 letO (extrF t100 0) fun t104 =>
 letO (extrF t100 1) fun t105 =>
 letO (some (t104 : AV)) fun t19 =>
 letO (some (t105 : AV)) fun t10 =>
 letO (some (t10 : AV)) fun t106 =>
 letO (binF Try.prog .neq 27 t106 (.int .i64 0)) fun t107 =>
 letO (some (t107 : AV)) fun t108 =>
 letO (gval t108 false (some (t19 : AV))) fun t109 =>
 letO (gval t108 false (some (t7 : AV))) fun t110 =>
 letO (gval t108 false (binF Try.prog .neq 3 t109 t110)) fun t111 =>
 letO (pickF t108 (.bool true) t111) fun t112 =>
 letO (some (t112 : AV)) fun t113 =>
 letO (gval t113 false (loadN 2 t5 H19)) fun t114 =>
 letO (gval t113 false (some (t9 : AV))) fun t115 =>
 letO (gval t113 false (some (t15 : AV))) fun t116 =>
 ∃ J20 : AV → Heap → Prop, condG t113 false (ACalls Try.prog 30 [t114, t115, t116] H19 fun t117 H21 =>
 J20 t117 H21) (J20 (.tup []) H19) ∧ ∀ t117 H22, J20 t117 H22 →
 letO (gval t113 false (binF Try.prog .neq 27 t117 (.int .i64 0))) fun t118 =>
 letO (pickF t113 (.bool true) t118) fun t119 =>
 condA t119 true (
 letO (some ((.bool false) : AV)) fun t4 =>
endK t4 H22 K) (
 letO (some (t17 : AV)) fun t120 =>
 ACalls Try.prog 40 [t120] H22 fun t121 H23 =>
 letO (some (t121 : AV)) fun t20 =>
 letO (some (t20 : AV)) fun t122 =>
 letO (lenA t122) fun t123 =>
 letO (some ((.int .i64 0) : AV)) fun t124 =>
 true = true ∧ ∃ (I24 : List AV → Heap → Prop) (μ25 : List AV → Heap → Nat), I24 [t124] H23 ∧ ∀ L26 H27, I24 L26 H27 → -- [t124]
 letO (binF Try.prog .lss 3 (L26.getD 0 .any) t123) fun t125 =>
 condA t125 true (
 letO (some ((L26.getD 0 .any) : AV)) fun t126 =>
 letO (some (t126 : AV)) fun t21 =>
 true = true ∧
 letO (some (t20 : AV)) fun t127 =>
 letO (some (t21 : AV)) fun t128 =>
 letO (some (t20 : AV)) fun t129 =>
 letO (some (t21 : AV)) fun t130 =>
 letO (idx 1 t129 t130) fun t131 =>
 letO (load1 t131 H27) fun t132 =>
 letO (some (t21 : AV)) fun t133 =>
 letO (idxArr 10 1 (.iptr c2) t133) fun t134 =>
 letO (load1 t134 Heap.none) fun t135 =>
 letO (convF Try.prog 5 3 t135) fun t136 =>
 letO (binF Try.prog .rem 3 t136 (.int .i64 8)) fun t137 =>
 letO (binF Try.prog .sub 3 t132 t137) fun t138 =>
 letO (some (t21 : AV)) fun t139 =>
 letO (idxArr 10 1 (.iptr c2) t139) fun t140 =>
 letO (load1 t140 Heap.none) fun t141 =>
 letO (convF Try.prog 5 3 t141) fun t142 =>
 letO (binF Try.prog .quo 3 t142 (.int .i64 200)) fun t143 =>
 letO (binF Try.prog .add 3 t138 t143) fun t144 =>
 letO (max2F (.int .i64 0) t144) fun t145 =>
 letO (idx 1 t127 t128) fun t146 =>
 storeA 1 t146 t145 (fun H28 =>
 letO (binF Try.prog .add 3 (L26.getD 0 .any) (.int .i64 1)) fun t147 =>
 letO (some (t147 : AV)) fun t124 =>
 I24 [t124] H28 ∧ μ25 [t124] H28 < μ25 L26 H27) H27) (
 letO (loadN 2 t5 H27) fun t149 =>
 letO (some (t20 : AV)) fun t150 =>
 ACalls Try.prog 55 [t149, t150] H27 fun t151 H29 =>
 letO (some (t151 : AV)) fun t148 =>
 letO (extrF t148 0) fun t152 =>
 letO (extrF t148 1) fun t153 =>
 letO (some (t152 : AV)) fun t22 =>
 letO (some (t153 : AV)) fun t23 =>
 letO (loadN 2 t5 H29) fun t155 =>
 letO (some (t20 : AV)) fun t156 =>
 ACalls Try.prog 28 [t155, t156] H29 fun t157 H30 =>
 letO (some (t157 : AV)) fun t154 =>
 letO (extrF t154 0) fun t158 =>
 letO (extrF t154 1) fun t159 =>
 letO (some (t158 : AV)) fun t24 =>
 letO (some (t159 : AV)) fun t10 =>
 letO (some (t23 : AV)) fun t160 =>
 letO (unF .not t160) fun t161 =>
 condA t161 true (
 letO (some (t10 : AV)) fun t162 =>
 letO (binF Try.prog .eql 27 t162 (.int .i64 14)) fun t163 =>
 letO (some (t163 : AV)) fun t164 =>
 letO (gval t164 true (some (t24 : AV))) fun t165 =>
 letO (gval t164 true (binF Try.prog .eql 3 t165 (.int .i64 0))) fun t166 =>
 letO (pickF t164 t166 (.bool false)) fun t167 =>
 letO (some (t167 : AV)) fun t168 =>
 ∃ J31 : AV → Heap → Prop, condG t168 true (ACalls Try.prog 16 [] H30 fun t169 H32 =>
 J31 t169 H32) (J31 (.tup []) H30) ∧ ∀ t169 H33, J31 t169 H33 →
 letO (pickF t168 t169 (.bool false)) fun t170 =>
 letO (some (t170 : AV)) fun t4 =>
endK t4 H33 K) (
 letO (some ((.int .i64 14) : AV)) fun t25 =>
 true = true ∧ ∃ J34 : List AV → Heap → Prop, (
 letO (some (t22 : AV)) fun t171 =>
 letO (some (t7 : AV)) fun t172 =>
 letO (binF Try.prog .eql 3 t171 t172) fun t173 =>
 condA t173 true (
 letO (some ((.int .i64 0) : AV)) fun t25 =>
 J34 [t25] H30) (
 J34 [t25] H30)) ∧ ∀ L35 H36, J34 L35 H36 → -- [t25]
 letO (some (t10 : AV)) fun t174 =>
 letO (binF Try.prog .eql 27 t174 (.int .i64 0)) fun t175 =>
 letO (some (t175 : AV)) fun t176 =>
 letO (gval t176 true (some (t24 : AV))) fun t177 =>
 letO (gval t176 true (some (t22 : AV))) fun t178 =>
 letO (gval t176 true (binF Try.prog .eql 3 t177 t178)) fun t179 =>
 letO (pickF t176 t179 (.bool false)) fun t180 =>
 letO (some (t180 : AV)) fun t181 =>
 letO (gval t181 true (some (t22 : AV))) fun t182 =>
 letO (gval t181 true (some (t7 : AV))) fun t183 =>
 letO (gval t181 true (binF Try.prog .leq 3 t182 t183)) fun t184 =>
 letO (pickF t181 t184 (.bool false)) fun t185 =>
 letO (some (t185 : AV)) fun t186 =>
 letO (gval t186 true (loadN 2 t5 H36)) fun t187 =>
 letO (gval t186 true (some (t6 : AV))) fun t188 =>
 letO (gval t186 true (some (t20 : AV))) fun t189 =>
 ∃ J37 : AV → Heap → Prop, condG t186 true (ACalls Try.prog 30 [t187, t188, t189] H36 fun t190 H38 =>
 J37 t190 H38) (J37 (.tup []) H36) ∧ ∀ t190 H39, J37 t190 H39 →
 letO (gval t186 true (some ((L35.getD 0 .any) : AV))) fun t191 =>
 letO (gval t186 true (binF Try.prog .eql 27 t190 t191)) fun t192 =>
 letO (pickF t186 t192 (.bool false)) fun t193 =>
 letO (some (t193 : AV)) fun t194 =>
 ∃ J40 : AV → Heap → Prop, condG t194 true (ACalls Try.prog 16 [] H39 fun t195 H41 =>
 J40 t195 H41) (J40 (.tup []) H39) ∧ ∀ t195 H42, J40 t195 H42 →
 letO (pickF t194 t195 (.bool false)) fun t196 =>
 letO (some (t196 : AV)) fun t4 =>
endK t4 H42 K))))) H4) H3

theorem W12_ok {x0 x1 : AV} {H : Heap} {K : AV → Heap → Prop} (h : W12 x0 x1 H K) : ACalls Try.prog 12 [x0, x1] H K :=
  acallsB (fn := Try.f12) (cfg := cfgOf [] [135, 141] [(17, [0, 0, 0, 0, 12, 28, 0, 64, 192, 448, 960, 2044, 0, 4096, 12288, 28672, 61440, 131068, 262140, 524287, 1048575])] [] []) (hh := (.dir .nil (.dir .nil (.dir .nil (.dir .nil (.dir .nil (.dir .nil (.dir .nil (.dir .nil (.dir (.dir .nil (.dir .nil .nil)) (.dir .nil (.dir (.dir .nil (.dir .nil .nil)) (.dir .nil (.dir (.dir .nil (.blk (.loop [124] [125, 126, 21, 127, 128, 129, 130, 131, 132, 133, 134, 135, 136, 137, 138, 139, 140, 141, 142, 143, 144, 145, 146, 147, 124] (.dir .nil (.dir .nil (.dir .nil .nil)))))) (.dir .nil (.dir .nil (.dir (.dir .nil (.dir .nil .nil)) (.dir .nil (.cut [25] [171, 172, 173, 25] (.dir .nil .nil) .nil))))))))))))))))))) follows Try.func12 (by kernel_rfl) (Nat.le_of_ble_eq_true (by kernel_rfl)) (by kernel_rfl) h

/-- headword.headwordref13.First -/
def W18 (x0 : AV) (H : Heap) (K : AV → Heap → Prop) : Prop :=
 letO (cellsOf? x0) fun c1 =>
 letO (some (.nils : AV)) fun t2 =>
 letO (some ((.int .i64 0) : AV)) fun t3 =>
 letO (loadN 2 (.iptr c1) H) fun t5 =>
 ACalls Try.prog 51 [t5] H fun t6 H2 =>
 letO (some (t6 : AV)) fun t4 =>
 letO (some (t4 : AV)) fun t7 =>
 letO (binF Try.prog .neq 27 t7 (.int .i64 0)) fun t8 =>
 condA t8 true (
 letO (some (t4 : AV)) fun t9 =>
 letO (some (.nils : AV)) fun t2 =>
 letO (some (t9 : AV)) fun t3 =>
endK (.tup [t2, t3]) H2 K) (
 letO (loadN 2 (.iptr c1) H2) fun t10 =>
 ACalls Try.prog 65 [t10] H2 fun t11 H3 =>
 letO (idx 1 t11 (.int .i64 0)) fun t12 =>
 letO (load1 t12 H3) fun t13 =>
 letO (some (t13 : AV)) fun t2 =>
 letO (some ((.int .i64 0) : AV)) fun t3 =>
endK (.tup [t2, t3]) H3 K)

theorem W18_ok {x0 : AV} {H : Heap} {K : AV → Heap → Prop} (h : W18 x0 H K) : ACalls Try.prog 18 [x0] H K :=
  acallsB (fn := Try.f18) (cfg := cfgOf [] [] [] [] []) (hh := (.dir .nil (.dir .nil (.dir (.dir .nil (.dir .nil .nil)) .nil)))) follows Try.func18 (by kernel_rfl) (Nat.le_of_ble_eq_true (by kernel_rfl)) (by kernel_rfl) h

/-- headword.headwordref13.Least -/
def W20 (x0 : AV) (H : Heap) (K : AV → Heap → Prop) : Prop :=
 letO (cellsOf? x0) fun c1 =>
 letO (some ((.int .i64 0) : AV)) fun t2 =>
 letO (some ((.int .i64 0) : AV)) fun t3 =>
 letO (loadN 2 (.iptr c1) H) fun t6 =>
 ACalls Try.prog 51 [t6] H fun t7 H2 =>
 letO (some (t7 : AV)) fun t4 =>
 letO (some (t4 : AV)) fun t8 =>
 letO (binF Try.prog .neq 27 t8 (.int .i64 0)) fun t9 =>
 condA t9 true (
 letO (some (t4 : AV)) fun t10 =>
 letO (some ((.int .i64 0) : AV)) fun t2 =>
 letO (some (t10 : AV)) fun t3 =>
endK (.tup [t2, t3]) H2 K) (
 letO (loadN 2 (.iptr c1) H2) fun t11 =>
 ACalls Try.prog 65 [t11] H2 fun t12 H3 =>
 letO (idx 1 t12 (.int .i64 0)) fun t13 =>
 letO (load1 t13 H3) fun t14 =>
 letO (some (t14 : AV)) fun t5 =>
 letO (loadN 2 (.iptr c1) H3) fun t15 =>
 letO (some (t5 : AV)) fun t16 =>
 letO (some (t5 : AV)) fun t17 =>
 letO (lenA t17) fun t18 =>
 letO (binF Try.prog .sub 3 t18 (.int .i64 1)) fun t19 =>
 ACalls Try.prog 66 [t15, t16, t19] H3 fun t20 H4 =>
 letO (some (t20 : AV)) fun t2 =>
 letO (some ((.int .i64 0) : AV)) fun t3 =>
endK (.tup [t2, t3]) H4 K)

theorem W20_ok {x0 : AV} {H : Heap} {K : AV → Heap → Prop} (h : W20 x0 H K) : ACalls Try.prog 20 [x0] H K :=
  acallsB (fn := Try.f20) (cfg := cfgOf [] [] [] [] []) (hh := (.dir .nil (.dir .nil (.dir (.dir .nil (.dir .nil .nil)) (.dir .nil .nil))))) follows Try.func20 (by kernel_rfl) (Nat.le_of_ble_eq_true (by kernel_rfl)) (by kernel_rfl) h

/-- headword.headwordref13.Count -/
def W22 (x0 : AV) (H : Heap) (K : AV → Heap → Prop) : Prop :=
 letO (cellsOf? x0) fun c1 =>
 letO (some ((.int .i64 0) : AV)) fun t2 =>
 letO (some ((.int .i64 0) : AV)) fun t3 =>
 letO (loadN 2 (.iptr c1) H) fun t5 =>
 ACalls Try.prog 51 [t5] H fun t6 H2 =>
 letO (some (t6 : AV)) fun t4 =>
 letO (some (t4 : AV)) fun t7 =>
 letO (binF Try.prog .neq 27 t7 (.int .i64 0)) fun t8 =>
 condA t8 true (
 letO (some (t4 : AV)) fun t9 =>
 letO (some ((.int .i64 0) : AV)) fun t2 =>
 letO (some (t9 : AV)) fun t3 =>
endK (.tup [t2, t3]) H2 K) (
 letO (loadN 2 (.iptr c1) H2) fun t10 =>
 ACalls Try.prog 65 [t10] H2 fun t11 H3 =>
 letO (lenA t11) fun t12 =>
 letO (some (t12 : AV)) fun t2 =>
 letO (some ((.int .i64 0) : AV)) fun t3 =>
endK (.tup [t2, t3]) H3 K)

theorem W22_ok {x0 : AV} {H : Heap} {K : AV → Heap → Prop} (h : W22 x0 H K) : ACalls Try.prog 22 [x0] H K :=
  acallsB (fn := Try.f22) (cfg := cfgOf [] [] [] [] []) (hh := (.dir .nil (.dir .nil (.dir (.dir .nil (.dir .nil .nil)) .nil)))) follows Try.func22 (by kernel_rfl) (Nat.le_of_ble_eq_true (by kernel_rfl)) (by kernel_rfl) h

/-- headword.headwordref13.Starts -/
def W24 (x0 : AV) (H : Heap) (K : AV → Heap → Prop) : Prop :=
 letO (cellsOf? x0) fun c1 =>
 letO (some (.nils : AV)) fun t2 =>
 letO (some ((.int .i64 0) : AV)) fun t3 =>
 letO (loadN 2 (.iptr c1) H) fun t9 =>
 ACalls Try.prog 51 [t9] H fun t10 H2 =>
 letO (some (t10 : AV)) fun t4 =>
 letO (some (t4 : AV)) fun t11 =>
 letO (binF Try.prog .neq 27 t11 (.int .i64 0)) fun t12 =>
 condA t12 true (
 letO (some (t4 : AV)) fun t13 =>
 letO (some (.nils : AV)) fun t2 =>
 letO (some (t13 : AV)) fun t3 =>
endK (.tup [t2, t3]) H2 K) (
 letO (some (.nils : AV)) fun t5 =>
 letO (some ((.int .i64 1) : AV)) fun t6 =>
 true = true ∧ ∃ (I3 : List AV → Heap → Prop) (μ4 : List AV → Heap → Nat), I3 [t5, t6] H2 ∧ ∀ L5 H6, I3 L5 H6 → -- [t5, t6]
 letO (some ((L5.getD 1 .any) : AV)) fun t14 =>
 letO (faddr 1 (.iptr c1)) fun t15 =>
 letO (load1 t15 H6) fun t16 =>
 letO (lenA t16) fun t17 =>
 letO (binF Try.prog .leq 3 t14 t17) fun t18 =>
 condA t18 true (
 letO (loadN 2 (.iptr c1) H6) fun t22 =>
 letO (some ((L5.getD 1 .any) : AV)) fun t23 =>
 ACalls Try.prog 68 [t22, t23] H6 fun t24 H7 =>
 letO (some (t24 : AV)) fun t21 =>
 letO (extrF t21 0) fun t25 =>
 letO (extrF t21 1) fun t26 =>
 letO (some (t25 : AV)) fun t7 =>
 letO (some (t26 : AV)) fun t8 =>
 letO (some ((L5.getD 0 .any) : AV)) fun t27 =>
 letO (some (t8 : AV)) fun t28 =>
 letO (literalF Try.prog 22 1 [(0, t28)]) fun c8 =>
 appendA 1 8 t27 (.imm 1 true c8) (fun t30 H9 =>
 letO (some (t30 : AV)) fun t5 =>
 letO (some ((L5.getD 1 .any) : AV)) fun t19 =>
 letO (binF Try.prog .add 3 t19 (.int .i64 1)) fun t20 =>
 letO (some (t20 : AV)) fun t6 =>
 I3 [t5, t6] H9 ∧ μ4 [t5, t6] H9 < μ4 L5 H6) H7) (
 letO (some ((L5.getD 0 .any) : AV)) fun t31 =>
 letO (some (t31 : AV)) fun t2 =>
 letO (some ((.int .i64 0) : AV)) fun t3 =>
endK (.tup [t2, t3]) H6 K))

theorem W24_ok {x0 : AV} {H : Heap} {K : AV → Heap → Prop} (h : W24 x0 H K) : ACalls Try.prog 24 [x0] H K :=
  acallsB (fn := Try.f24) (cfg := cfgOf [] [] [] [] []) (hh := (.dir .nil (.dir .nil (.dir (.dir .nil (.dir .nil .nil)) (.dir .nil (.dir (.dir .nil (.blk (.loop [5, 6] [14, 15, 16, 17, 18, 22, 23, 24, 21, 25, 26, 7, 8, 27, 28, 29, 30, 5, 19, 20, 6] (.dir (.dir .nil .nil) (.dir .nil .nil))))) .nil)))))) follows Try.func24 (by kernel_rfl) (Nat.le_of_ble_eq_true (by kernel_rfl)) (by kernel_rfl) h

/-- headword.headwordref13.Prices -/
def W27 (x0 : AV) (H : Heap) (K : AV → Heap → Prop) : Prop :=
 letO (cellsOf? x0) fun c1 =>
 letO (some (.nils : AV)) fun t2 =>
 letO (some ((.int .i64 0) : AV)) fun t3 =>
 letO (loadN 2 (.iptr c1) H) fun t5 =>
 ACalls Try.prog 51 [t5] H fun t6 H2 =>
 letO (some (t6 : AV)) fun t4 =>
 letO (some (t4 : AV)) fun t7 =>
 letO (binF Try.prog .neq 27 t7 (.int .i64 0)) fun t8 =>
 condA t8 true (
 letO (some (t4 : AV)) fun t9 =>
 letO (some (.nils : AV)) fun t2 =>
 letO (some (t9 : AV)) fun t3 =>
endK (.tup [t2, t3]) H2 K) (
 letO (loadN 2 (.iptr c1) H2) fun t10 =>
 ACalls Try.prog 69 [t10] H2 fun t11 H3 =>
 letO (some (t11 : AV)) fun t2 =>
 letO (some ((.int .i64 0) : AV)) fun t3 =>
endK (.tup [t2, t3]) H3 K)

theorem W27_ok {x0 : AV} {H : Heap} {K : AV → Heap → Prop} (h : W27 x0 H K) : ACalls Try.prog 27 [x0] H K :=
  acallsB (fn := Try.f27) (cfg := cfgOf [] [] [] [] []) (hh := (.dir .nil (.dir .nil (.dir (.dir .nil (.dir .nil .nil)) .nil)))) follows Try.func27 (by kernel_rfl) (Nat.le_of_ble_eq_true (by kernel_rfl)) (by kernel_rfl) h

/-- headword.headwordref13.Bound -/
def W29 (x0 x1 : AV) (H : Heap) (K : AV → Heap → Prop) : Prop :=
 letO (cellsOf? x0) fun c1 =>
 letO (some ((.int .i64 0) : AV)) fun t4 =>
 letO (some ((.int .i64 0) : AV)) fun t5 =>
 letO (loadN 2 (.iptr c1) H) fun t7 =>
 ACalls Try.prog 51 [t7] H fun t8 H2 =>
 letO (some (t8 : AV)) fun t6 =>
 letO (some (t6 : AV)) fun t9 =>
 letO (binF Try.prog .neq 27 t9 (.int .i64 0)) fun t10 =>
 condA t10 true (
 letO (some (t6 : AV)) fun t11 =>
 letO (some ((.int .i64 0) : AV)) fun t4 =>
 letO (some (t11 : AV)) fun t5 =>
endK (.tup [t4, t5]) H2 K) (
 letO (loadN 2 (.iptr c1) H2) fun t12 =>
 letO (some (x1 : AV)) fun t13 =>
 ACalls Try.prog 71 [t12, t13] H2 fun t14 H3 =>
 letO (extrF t14 0) fun t15 =>
 letO (extrF t14 1) fun t16 =>
 letO (some (t15 : AV)) fun t4 =>
 letO (some (t16 : AV)) fun t5 =>
endK (.tup [t4, t5]) H3 K)

theorem W29_ok {x0 x1 : AV} {H : Heap} {K : AV → Heap → Prop} (h : W29 x0 x1 H K) : ACalls Try.prog 29 [x0, x1] H K :=
  acallsB (fn := Try.f29) (cfg := cfgOf [] [] [] [] []) (hh := (.dir .nil (.dir .nil (.dir (.dir .nil (.dir .nil .nil)) .nil)))) follows Try.func29 (by kernel_rfl) (Nat.le_of_ble_eq_true (by kernel_rfl)) (by kernel_rfl) h

/-- headword.headwordref13.Proves -/
def W31 (x0 x1 x2 : AV) (H : Heap) (K : AV → Heap → Prop) : Prop :=
 letO (cellsOf? x0) fun c1 =>
 letO (some ((.int .i64 0) : AV)) fun t6 =>
 letO (loadN 2 (.iptr c1) H) fun t9 =>
 letO (some (x1 : AV)) fun t10 =>
 ACalls Try.prog 52 [t9, t10] H fun t11 H2 =>
 letO (some (t11 : AV)) fun t7 =>
 letO (some (t7 : AV)) fun t12 =>
 letO (binF Try.prog .neq 27 t12 (.int .i64 0)) fun t13 =>
 condA t13 true (
 letO (some (t7 : AV)) fun t14 =>
 letO (some (t14 : AV)) fun t6 =>
endK t6 H2 K) (
 letO (loadN 2 (.iptr c1) H2) fun t16 =>
 letO (some (x2 : AV)) fun t17 =>
 ACalls Try.prog 71 [t16, t17] H2 fun t18 H3 =>
 letO (some (t18 : AV)) fun t15 =>
 letO (extrF t15 0) fun t19 =>
 letO (extrF t15 1) fun t20 =>
 letO (some (t19 : AV)) fun t8 =>
 letO (some (t20 : AV)) fun t7 =>
 true = true ∧ ∃ J4 : List AV → Heap → Prop, (
 letO (some (t7 : AV)) fun t21 =>
 letO (binF Try.prog .eql 27 t21 (.int .i64 0)) fun t22 =>
 letO (some (t22 : AV)) fun t23 =>
 letO (gval t23 true (some (t8 : AV))) fun t24 =>
 letO (gval t23 true (loadN 2 (.iptr c1) H3)) fun t25 =>
 letO (gval t23 true (some (x1 : AV))) fun t26 =>
 letO (gval t23 true (some (x1 : AV))) fun t27 =>
 letO (gval t23 true (lenA t27)) fun t28 =>
 letO (gval t23 true (binF Try.prog .sub 3 t28 (.int .i64 1))) fun t29 =>
 ∃ J5 : AV → Heap → Prop, condG t23 true (ACalls Try.prog 66 [t25, t26, t29] H3 fun t30 H6 =>
 J5 t30 H6) (J5 (.tup []) H3) ∧ ∀ t30 H7, J5 t30 H7 →
 letO (gval t23 true (binF Try.prog .neq 3 t24 t30)) fun t31 =>
 letO (pickF t23 t31 (.bool false)) fun t32 =>
 condA t32 true (
 letO (some ((.int .i64 14) : AV)) fun t7 =>
 J4 [t7] H7) (
 J4 [t7] H7)) ∧ ∀ L8 H9, J4 L8 H9 → -- [t7]
 letO (some ((L8.getD 0 .any) : AV)) fun t33 =>
 letO (some (t33 : AV)) fun t6 =>
endK t6 H9 K)

theorem W31_ok {x0 x1 x2 : AV} {H : Heap} {K : AV → Heap → Prop} (h : W31 x0 x1 x2 H K) : ACalls Try.prog 31 [x0, x1, x2] H K :=
  acallsB (fn := Try.f31) (cfg := cfgOf [] [] [] [] []) (hh := (.dir .nil (.dir .nil (.dir (.dir .nil (.dir .nil .nil)) (.dir .nil (.cut [7] [21, 22, 23, 24, 25, 26, 27, 28, 29, 30, 31, 32, 7] (.dir .nil .nil) .nil)))))) follows Try.func31 (by kernel_rfl) (Nat.le_of_ble_eq_true (by kernel_rfl)) (by kernel_rfl) h

/-- (headword.headwordlaw13.Galley).made -/
def W34 (x0 x1 : AV) (H : Heap) (K : AV → Heap → Prop) : Prop :=
 letO (cellsOf? x0) fun c1 =>
 allocA [(.int .i64 0), .nils] (fun t4 H2 =>
 letO (faddr 0 (.iptr c1)) fun t9 =>
 letO (load1 t9 H2) fun t10 =>
 letO (convF Try.prog 5 3 t10) fun t11 =>
 letO (binF Try.prog .rem 3 t11 (.int .i64 40)) fun t12 =>
 letO (binF Try.prog .add 3 (.int .i64 1) t12) fun t13 =>
 letO (buildF Try.prog 24 [(0, t13)]) fun t14 =>
 allocA [(.int .i64 0), .nils] (fun t5 H3 =>
 storeA 2 t5 t14 (fun H4 =>
 letO (faddr 0 t5) fun t15 =>
 letO (load1 t15 H4) fun t16 =>
 letO (some (t16 : AV)) fun t6 =>
 true = true ∧ ∃ J5 : List AV → Heap → Prop, (
 letO (faddr 2 (.iptr c1)) fun t17 =>
 letO (load1 t17 H4) fun t18 =>
 letO (binF Try.prog .rem 5 t18 (.int .u8 3)) fun t19 =>
 letO (binF Try.prog .gtr 5 t19 (.int .u8 0)) fun t20 =>
 condA t20 true (
 letO (faddr 0 t5) fun t21 =>
 letO (load1 t21 H4) fun t22 =>
 letO (binF Try.prog .quo 3 t22 (.int .i64 2)) fun t23 =>
 letO (binF Try.prog .add 3 (.int .i64 1) t23) fun t24 =>
 letO (some (t24 : AV)) fun t6 =>
 J5 [t6] H4) (
 J5 [t6] H4)) ∧ ∀ L6 H7, J5 L6 H7 → -- [t6]
 letO (faddr 3 (.iptr c1)) fun t25 =>
 letO (faddr 1 (.iptr c1)) fun t26 =>
 letO (load1 t26 H7) fun t27 =>
 letO (convF Try.prog 5 3 t27) fun t28 =>
 letO (some (x1 : AV)) fun t29 =>
 letO (binF Try.prog .rem 3 t28 t29) fun t30 =>
 letO (binF Try.prog .add 3 (.int .i64 1) t30) fun t31 =>
 letO (slcArr 10 1 t25 none (some t31) none) fun t32 =>
 letO (lenA t32) fun t33 =>
 letO (some ((.int .i64 0) : AV)) fun t34 =>
 true = true ∧ ∃ (I8 : List AV → Heap → Prop) (μ9 : List AV → Heap → Nat), I8 [t34] H7 ∧ ∀ L10 H11, I8 L10 H11 → -- [t34]
 letO (binF Try.prog .lss 3 (L10.getD 0 .any) t33) fun t35 =>
 condA t35 true (
 letO (idx 1 t32 (L10.getD 0 .any)) fun t36 =>
 letO (load1 t36 H11) fun t37 =>
 letO (some (t37 : AV)) fun t8 =>
 true = true ∧
 letO (faddr 1 t5) fun t38 =>
 letO (load1 t38 H11) fun t39 =>
 letO (some (t8 : AV)) fun t40 =>
 letO (convF Try.prog 5 3 t40) fun t41 =>
 letO (some ((L6.getD 0 .any) : AV)) fun t42 =>
 letO (faddr 0 t5) fun t43 =>
 letO (load1 t43 H11) fun t44 =>
 letO (min2F t42 t44) fun t45 =>
 letO (binF Try.prog .rem 3 t41 t45) fun t46 =>
 letO (binF Try.prog .add 3 (.int .i64 1) t46) fun t47 =>
 letO (literalF Try.prog 22 1 [(0, t47)]) fun c12 =>
 appendA 1 8 t39 (.imm 1 true c12) (fun t49 H13 =>
 letO (faddr 1 t5) fun t50 =>
 storeA 1 t50 t49 (fun H14 =>
 letO (binF Try.prog .add 3 (L10.getD 0 .any) (.int .i64 1)) fun t51 =>
 letO (some (t51 : AV)) fun t34 =>
 I8 [t34] H14 ∧ μ9 [t34] H14 < μ9 L10 H11) H13) H11) (
 letO (loadN 2 t5 H11) fun t52 =>
 storeA 2 t4 t52 (fun H15 =>
 letO (loadN 2 t4 H15) fun r16 => endK r16 H15 K) H11)) H3) H2) H

theorem W34_ok {x0 x1 : AV} {H : Heap} {K : AV → Heap → Prop} (h : W34 x0 x1 H K) : ACalls Try.prog 34 [x0, x1] H K :=
  acallsB (fn := Try.f34) (cfg := cfgOf [] [] [(8, [0, 1, 0, 4, 0, 0, 32, 112, 252, 508, 1020, 2047, 4095, 8191])] [] []) (hh := (.dir .nil (.dir .nil (.dir .nil (.cut [6] [17, 18, 19, 20, 21, 22, 23, 24, 6] (.dir .nil .nil) (.dir (.dir .nil (.blk (.loop [34] [35, 36, 37, 8, 38, 39, 40, 41, 42, 43, 44, 45, 46, 47, 48, 49, 50, 51, 34] (.dir .nil (.dir .nil (.dir .nil .nil)))))) .nil)))))) follows Try.func34 (by kernel_rfl) (Nat.le_of_ble_eq_true (by kernel_rfl)) (by kernel_rfl) h

/-- headword.headwordlaw13.filled -/
def W35 (x0 : AV) (H : Heap) (K : AV → Heap → Prop) : Prop :=
 letO (cellsOf? x0) fun c1 =>
 letO (some (.nils : AV)) fun t2 =>
 letO (some (.nils : AV)) fun t3 =>
 letO (some ((.int .i64 0) : AV)) fun t4 =>
 true = true ∧ ∃ (I2 : List AV → Heap → Prop) (μ3 : List AV → Heap → Nat), I2 [t3, t4] H ∧ ∀ L4 H5, I2 L4 H5 → -- [t3, t4]
 letO (some ((L4.getD 1 .any) : AV)) fun t6 =>
 letO (faddr 1 (.iptr c1)) fun t7 =>
 letO (load1 t7 H5) fun t8 =>
 letO (lenA t8) fun t9 =>
 letO (binF Try.prog .lss 3 t6 t9) fun t10 =>
 condA t10 true (
 letO (some ((L4.getD 1 .any) : AV)) fun t11 =>
 letO (binF Try.prog .add 3 t11 (.int .i64 1)) fun t12 =>
 letO (some (t12 : AV)) fun t5 =>
 true = true ∧ ∃ (I6 : List AV → Heap → Prop) (μ7 : List AV → Heap → Nat), I6 [t5] H5 ∧ ∀ L8 H9, I6 L8 H9 → -- [t5]
 letO (some ((L8.getD 0 .any) : AV)) fun t13 =>
 letO (faddr 1 (.iptr c1)) fun t14 =>
 letO (load1 t14 H9) fun t15 =>
 letO (lenA t15) fun t16 =>
 letO (binF Try.prog .lss 3 t13 t16) fun t17 =>
 letO (some (t17 : AV)) fun t18 =>
 letO (gval t18 true (loadN 2 (.iptr c1) H9)) fun t19 =>
 letO (gval t18 true (some ((L4.getD 1 .any) : AV))) fun t20 =>
 letO (gval t18 true (some ((L8.getD 0 .any) : AV))) fun t21 =>
 letO (gval t18 true (binF Try.prog .add 3 t21 (.int .i64 1))) fun t22 =>
 ∃ J10 : AV → Heap → Prop, condG t18 true (ACalls Try.prog 43 [t19, t20, t22] H9 fun t23 H11 =>
 J10 t23 H11) (J10 (.tup []) H9) ∧ ∀ t23 H12, J10 t23 H12 →
 letO (gval t18 true (binF Try.prog .geq 3 t23 (.int .i64 0))) fun t24 =>
 letO (pickF t18 t24 (.bool false)) fun t25 =>
 condA t25 true (
 letO (some ((L8.getD 0 .any) : AV)) fun t26 =>
 letO (binF Try.prog .add 3 t26 (.int .i64 1)) fun t27 =>
 letO (some (t27 : AV)) fun t5 =>
 I6 [t5] H12 ∧ μ7 [t5] H12 < μ7 L8 H9) (
 letO (some ((L4.getD 0 .any) : AV)) fun t28 =>
 letO (some ((L8.getD 0 .any) : AV)) fun t29 =>
 letO (literalF Try.prog 22 1 [(0, t29)]) fun c13 =>
 appendA 1 8 t28 (.imm 1 true c13) (fun t31 H14 =>
 letO (some (t31 : AV)) fun t3 =>
 letO (some ((L8.getD 0 .any) : AV)) fun t32 =>
 letO (some (t32 : AV)) fun t4 =>
 I2 [t3, t4] H14 ∧ μ3 [t3, t4] H14 < μ3 L4 H5) H12)) (
 letO (some ((L4.getD 0 .any) : AV)) fun t33 =>
 letO (some (t33 : AV)) fun t2 =>
endK t2 H5 K)

theorem W35_ok {x0 : AV} {H : Heap} {K : AV → Heap → Prop} (h : W35 x0 H K) : ACalls Try.prog 35 [x0] H K :=
  acallsB (fn := Try.f35) (cfg := cfgOf [] [] [] [] []) (hh := (.dir .nil (.dir .nil (.dir (.dir .nil (.blk (.loop [3, 4] [6, 7, 8, 9, 10, 11, 12, 5, 13, 14, 15, 16, 17, 18, 19, 20, 21, 22, 23, 24, 25, 26, 27, 28, 29, 30, 31, 3, 32, 4] (.dir (.dir .nil .nil) (.blk (.dir .nil (.dir (.blk (.loop [5] [13, 14, 15, 16, 17, 18, 19, 20, 21, 22, 23, 24, 25, 26, 27, 5] (.dir (.dir .nil .nil) .nil))) .nil))))))) .nil)))) follows Try.func35 (by kernel_rfl) (Nat.le_of_ble_eq_true (by kernel_rfl)) (by kernel_rfl) h

/-- headword.headwordlaw13.each -/
def W37 (x0 x1 : AV) (H : Heap) (K : AV → Heap → Prop) : Prop :=
 letO (cellsOf? x0) fun c1 =>
 letO (cellsOf? x1) fun c2 =>
 allocA [.nilf] (fun t4 H3 =>
 letO (some (AV.fn 80 [(.iptr c1), (.iptr c2), t4])) fun t5 =>
 storeA 1 t4 t5 (fun H4 =>
 letO (load1 t4 H4) fun t6 =>
 callA Try.prog t6 [.nils, .nils, (.int .i64 0)] (fun t7 H5 =>
endK (.tup []) H5 K) H4) H3) H

theorem W37_ok {x0 x1 : AV} {H : Heap} {K : AV → Heap → Prop} (h : W37 x0 x1 H K) : ACalls Try.prog 37 [x0, x1] H K :=
  acallsB (fn := Try.f37) (cfg := cfgOf [] [] [] [] []) (hh := (.dir .nil (.dir .nil .nil))) follows Try.func37 (by kernel_rfl) (Nat.le_of_ble_eq_true (by kernel_rfl)) (by kernel_rfl) h

/-- headword.headwordlaw13.broken -/
def W39 (x0 x1 : AV) (H : Heap) (K : AV → Heap → Prop) : Prop :=
 letO (cellsOf? x0) fun c1 =>
 letO (cellsOf? x1) fun c2 =>
 letO (some (.nils : AV)) fun t4 =>
 letO (some (.nils : AV)) fun t5 =>
 letO (some ((.int .i64 0) : AV)) fun t6 =>
 true = true ∧ ∃ (I3 : List AV → Heap → Prop) (μ4 : List AV → Heap → Nat), I3 [t5, t6] H ∧ ∀ L5 H6, I3 L5 H6 → -- [t5, t6]
 letO (some ((L5.getD 1 .any) : AV)) fun t8 =>
 letO (faddr 1 (.iptr c1)) fun t9 =>
 letO (load1 t9 H6) fun t10 =>
 letO (lenA t10) fun t11 =>
 letO (binF Try.prog .lss 3 t8 t11) fun t12 =>
 condA t12 true (
 letO (some ((L5.getD 1 .any) : AV)) fun t13 =>
 letO (binF Try.prog .add 3 t13 (.int .i64 1)) fun t14 =>
 letO (some (t14 : AV)) fun t7 =>
 true = true ∧ ∃ (I7 : List AV → Heap → Prop) (μ8 : List AV → Heap → Nat), I7 [t7] H6 ∧ ∀ L9 H10, I7 L9 H10 → -- [t7]
 letO (some ((L9.getD 0 .any) : AV)) fun t15 =>
 letO (faddr 1 (.iptr c1)) fun t16 =>
 letO (load1 t16 H10) fun t17 =>
 letO (lenA t17) fun t18 =>
 letO (binF Try.prog .lss 3 t15 t18) fun t19 =>
 letO (some (t19 : AV)) fun t20 =>
 letO (gval t20 true (loadN 2 (.iptr c1) H10)) fun t21 =>
 letO (gval t20 true (some ((L5.getD 1 .any) : AV))) fun t22 =>
 letO (gval t20 true (some ((L9.getD 0 .any) : AV))) fun t23 =>
 letO (gval t20 true (binF Try.prog .add 3 t23 (.int .i64 1))) fun t24 =>
 ∃ J11 : AV → Heap → Prop, condG t20 true (ACalls Try.prog 43 [t21, t22, t24] H10 fun t25 H12 =>
 J11 t25 H12) (J11 (.tup []) H10) ∧ ∀ t25 H13, J11 t25 H13 →
 letO (gval t20 true (binF Try.prog .geq 3 t25 (.int .i64 0))) fun t26 =>
 letO (pickF t20 t26 (.bool false)) fun t27 =>
 letO (some (t27 : AV)) fun t28 =>
 letO (gval t28 true (some ((L9.getD 0 .any) : AV))) fun t29 =>
 letO (gval t28 true (idxArr 10 1 (.iptr c2) t29)) fun t30 =>
 letO (gval t28 true (load1 t30 H13)) fun t31 =>
 letO (gval t28 true (binF Try.prog .rem 5 t31 (.int .u8 4))) fun t32 =>
 letO (gval t28 true (binF Try.prog .gtr 5 t32 (.int .u8 0))) fun t33 =>
 letO (pickF t28 t33 (.bool false)) fun t34 =>
 condA t34 true (
 letO (some ((L9.getD 0 .any) : AV)) fun t35 =>
 letO (binF Try.prog .add 3 t35 (.int .i64 1)) fun t36 =>
 letO (some (t36 : AV)) fun t7 =>
 I7 [t7] H13 ∧ μ8 [t7] H13 < μ8 L9 H10) (
 letO (some ((L5.getD 0 .any) : AV)) fun t37 =>
 letO (some ((L9.getD 0 .any) : AV)) fun t38 =>
 letO (literalF Try.prog 22 1 [(0, t38)]) fun c14 =>
 appendA 1 8 t37 (.imm 1 true c14) (fun t40 H15 =>
 letO (some (t40 : AV)) fun t5 =>
 letO (some ((L9.getD 0 .any) : AV)) fun t41 =>
 letO (some (t41 : AV)) fun t6 =>
 I3 [t5, t6] H15 ∧ μ4 [t5, t6] H15 < μ4 L5 H6) H13)) (
 letO (some ((L5.getD 0 .any) : AV)) fun t42 =>
 letO (some (t42 : AV)) fun t4 =>
endK t4 H6 K)

theorem W39_ok {x0 x1 : AV} {H : Heap} {K : AV → Heap → Prop} (h : W39 x0 x1 H K) : ACalls Try.prog 39 [x0, x1] H K :=
  acallsB (fn := Try.f39) (cfg := cfgOf [] [] [] [] []) (hh := (.dir .nil (.dir .nil (.dir (.dir .nil (.blk (.loop [5, 6] [8, 9, 10, 11, 12, 13, 14, 7, 15, 16, 17, 18, 19, 20, 21, 22, 23, 24, 25, 26, 27, 28, 29, 30, 31, 32, 33, 34, 35, 36, 37, 38, 39, 40, 5, 41, 6] (.dir (.dir .nil .nil) (.blk (.dir .nil (.dir (.blk (.loop [7] [15, 16, 17, 18, 19, 20, 21, 22, 23, 24, 25, 26, 27, 28, 29, 30, 31, 32, 33, 34, 35, 36, 7] (.dir (.dir .nil .nil) .nil))) .nil))))))) .nil)))) follows Try.func39 (by kernel_rfl) (Nat.le_of_ble_eq_true (by kernel_rfl)) (by kernel_rfl) h

/-- headword.headwordlaw13.left -/
def W43 (x0 x1 x2 : AV) (H : Heap) (K : AV → Heap → Prop) : Prop :=
 letO (cellsOf? x0) fun c1 =>
 letO (some ((.int .i64 0) : AV)) fun t6 =>
 letO (some ((.int .i64 (-1)) : AV)) fun t7 =>
 letO (faddr 1 (.iptr c1)) fun t10 =>
 letO (load1 t10 H) fun t11 =>
 letO (some (x1 : AV)) fun t12 =>
 letO (some (x2 : AV)) fun t13 =>
 letO (slc 1 t11 (some t12) (some t13) none) fun t14 =>
 letO (lenA t14) fun t15 =>
 letO (some ((.int .i64 0) : AV)) fun t16 =>
 true = true ∧ ∃ (I2 : List AV → Heap → Prop) (μ3 : List AV → Heap → Nat), I2 [t7, t16] H ∧ ∀ L4 H5, I2 L4 H5 → -- [t7, t16]
 letO (binF Try.prog .lss 3 (L4.getD 1 .any) t15) fun t17 =>
 condA t17 true (
 letO (idx 1 t14 (L4.getD 1 .any)) fun t18 =>
 letO (load1 t18 H5) fun t19 =>
 letO (some (t19 : AV)) fun t9 =>
 letO (some ((L4.getD 0 .any) : AV)) fun t20 =>
 letO (some (t9 : AV)) fun t21 =>
 letO (binF Try.prog .add 3 t21 (.int .i64 1)) fun t22 =>
 letO (binF Try.prog .add 3 t20 t22) fun t23 =>
 letO (some (t23 : AV)) fun t7 =>
 letO (binF Try.prog .add 3 (L4.getD 1 .any) (.int .i64 1)) fun t24 =>
 letO (some (t24 : AV)) fun t16 =>
 I2 [t7, t16] H5 ∧ μ3 [t7, t16] H5 < μ3 L4 H5) (
 letO (faddr 0 (.iptr c1)) fun t25 =>
 letO (load1 t25 H5) fun t26 =>
 letO (some ((L4.getD 0 .any) : AV)) fun t27 =>
 letO (binF Try.prog .sub 3 t26 t27) fun t28 =>
 letO (some (t28 : AV)) fun t6 =>
endK t6 H5 K)

theorem W43_ok {x0 x1 x2 : AV} {H : Heap} {K : AV → Heap → Prop} (h : W43 x0 x1 x2 H K) : ACalls Try.prog 43 [x0, x1, x2] H K :=
  acallsB (fn := Try.f43) (cfg := cfgOf [] [] [] [] []) (hh := (.dir .nil (.dir .nil (.dir (.dir .nil (.blk (.loop [7, 16] [17, 18, 19, 9, 20, 21, 22, 23, 7, 24, 16] (.dir .nil (.dir .nil (.dir .nil .nil)))))) .nil)))) follows Try.func43 (by kernel_rfl) (Nat.le_of_ble_eq_true (by kernel_rfl)) (by kernel_rfl) h

/-- headword.headwordref13.Left -/
def W47 (x0 x1 : AV) (H : Heap) (K : AV → Heap → Prop) : Prop :=
 letO (cellsOf? x0) fun c1 =>
 letO (some (.nils : AV)) fun t4 =>
 letO (some ((.int .i64 0) : AV)) fun t5 =>
 letO (loadN 2 (.iptr c1) H) fun t9 =>
 letO (some (x1 : AV)) fun t10 =>
 ACalls Try.prog 52 [t9, t10] H fun t11 H2 =>
 letO (some (t11 : AV)) fun t6 =>
 letO (some (t6 : AV)) fun t12 =>
 letO (binF Try.prog .neq 27 t12 (.int .i64 0)) fun t13 =>
 condA t13 true (
 letO (some (t6 : AV)) fun t14 =>
 letO (some (.nils : AV)) fun t4 =>
 letO (some (t14 : AV)) fun t5 =>
endK (.tup [t4, t5]) H2 K) (
 letO (some (.nils : AV)) fun t7 =>
 letO (some ((.int .i64 0) : AV)) fun t8 =>
 true = true ∧ ∃ (I3 : List AV → Heap → Prop) (μ4 : List AV → Heap → Nat), I3 [t7, t8] H2 ∧ ∀ L5 H6, I3 L5 H6 → -- [t7, t8]
 letO (some ((L5.getD 1 .any) : AV)) fun t15 =>
 letO (some (x1 : AV)) fun t16 =>
 letO (lenA t16) fun t17 =>
 letO (binF Try.prog .lss 3 t15 t17) fun t18 =>
 condA t18 true (
 true = true ∧
 letO (some ((L5.getD 0 .any) : AV)) fun t21 =>
 letO (loadN 2 (.iptr c1) Heap.none) fun t22 =>
 letO (some (x1 : AV)) fun t23 =>
 letO (some ((L5.getD 1 .any) : AV)) fun t24 =>
 ∃ t25, (ACalls Try.prog 78 [t23, t24] H6 fun r h => r = t25 ∧ h = H6) ∧
 letO (some (x1 : AV)) fun t26 =>
 letO (some ((L5.getD 1 .any) : AV)) fun t27 =>
 letO (idx 1 t26 t27) fun t28 =>
 letO (load1 t28 H6) fun t29 =>
 ∃ t30, (ACalls Try.prog 79 [t22, t25, t29] H6 fun r h => r = t30 ∧ h = H6) ∧
 letO (literalF Try.prog 22 1 [(0, t30)]) fun c7 =>
 appendA 1 8 t21 (.imm 1 true c7) (fun t32 H8 =>
 letO (some (t32 : AV)) fun t7 =>
 letO (some ((L5.getD 1 .any) : AV)) fun t19 =>
 letO (binF Try.prog .add 3 t19 (.int .i64 1)) fun t20 =>
 letO (some (t20 : AV)) fun t8 =>
 I3 [t7, t8] H8 ∧ μ4 [t7, t8] H8 < μ4 L5 H6) H6) (
 letO (some ((L5.getD 0 .any) : AV)) fun t33 =>
 letO (some (t33 : AV)) fun t4 =>
 letO (some ((.int .i64 0) : AV)) fun t5 =>
endK (.tup [t4, t5]) H6 K))

theorem W47_ok {x0 x1 : AV} {H : Heap} {K : AV → Heap → Prop} (h : W47 x0 x1 H K) : ACalls Try.prog 47 [x0, x1] H K :=
  acallsB (fn := Try.f47) (cfg := cfgOf [] [22] [(8, [0, 0, 0, 0, 12, 0, 0, 96, 224, 510, 1022, 2047, 4095])] [] []) (hh := (.dir .nil (.dir .nil (.dir (.dir .nil (.dir .nil .nil)) (.dir .nil (.dir (.dir .nil (.blk (.loop [7, 8] [15, 16, 17, 18, 21, 22, 23, 24, 25, 26, 27, 28, 29, 30, 31, 32, 7, 19, 20, 8] (.dir (.dir .nil .nil) (.dir .nil .nil))))) .nil)))))) follows Try.func47 (by kernel_rfl) (Nat.le_of_ble_eq_true (by kernel_rfl)) (by kernel_rfl) h

/-- headword.headwordref13.Cost -/
def W48 (x0 x1 : AV) (H : Heap) (K : AV → Heap → Prop) : Prop :=
 letO (cellsOf? x0) fun c1 =>
 letO (some ((.int .i64 0) : AV)) fun t4 =>
 letO (some ((.int .i64 0) : AV)) fun t5 =>
 letO (loadN 2 (.iptr c1) H) fun t7 =>
 letO (some (x1 : AV)) fun t8 =>
 ACalls Try.prog 52 [t7, t8] H fun t9 H2 =>
 letO (some (t9 : AV)) fun t6 =>
 letO (some (t6 : AV)) fun t10 =>
 letO (binF Try.prog .neq 27 t10 (.int .i64 0)) fun t11 =>
 condA t11 true (
 letO (some (t6 : AV)) fun t12 =>
 letO (some ((.int .i64 0) : AV)) fun t4 =>
 letO (some (t12 : AV)) fun t5 =>
endK (.tup [t4, t5]) H2 K) (
 letO (loadN 2 (.iptr c1) H2) fun t13 =>
 letO (some (x1 : AV)) fun t14 =>
 letO (some (x1 : AV)) fun t15 =>
 letO (lenA t15) fun t16 =>
 letO (binF Try.prog .sub 3 t16 (.int .i64 1)) fun t17 =>
 ACalls Try.prog 66 [t13, t14, t17] H2 fun t18 H3 =>
 letO (some (t18 : AV)) fun t4 =>
 letO (some ((.int .i64 0) : AV)) fun t5 =>
endK (.tup [t4, t5]) H3 K)

theorem W48_ok {x0 x1 : AV} {H : Heap} {K : AV → Heap → Prop} (h : W48 x0 x1 H K) : ACalls Try.prog 48 [x0, x1] H K :=
  acallsB (fn := Try.f48) (cfg := cfgOf [] [] [] [] []) (hh := (.dir .nil (.dir .nil (.dir (.dir .nil (.dir .nil .nil)) .nil)))) follows Try.func48 (by kernel_rfl) (Nat.le_of_ble_eq_true (by kernel_rfl)) (by kernel_rfl) h

/-- headword.headwordref13.Full -/
def W49 (x0 : AV) (H : Heap) (K : AV → Heap → Prop) : Prop :=
 letO (cellsOf? x0) fun c1 =>
 letO (some (.nils : AV)) fun t2 =>
 letO (some ((.int .i64 0) : AV)) fun t3 =>
 letO (loadN 2 (.iptr c1) H) fun t8 =>
 ACalls Try.prog 51 [t8] H fun t9 H2 =>
 letO (some (t9 : AV)) fun t4 =>
 letO (some (t4 : AV)) fun t10 =>
 letO (binF Try.prog .neq 27 t10 (.int .i64 0)) fun t11 =>
 condA t11 true (
 letO (some (t4 : AV)) fun t12 =>
 letO (some (.nils : AV)) fun t2 =>
 letO (some (t12 : AV)) fun t3 =>
endK (.tup [t2, t3]) H2 K) (
 letO (some (.nils : AV)) fun t5 =>
 letO (some ((.int .i64 0) : AV)) fun t6 =>
 letO (some ((.int .i64 1) : AV)) fun t7 =>
 true = true ∧ ∃ (I3 : List AV → Heap → Prop) (μ4 : List AV → Heap → Nat), I3 [t5, t6, t7] H2 ∧ ∀ L5 H6, I3 L5 H6 → -- [t5, t6, t7]
 letO (some ((L5.getD 2 .any) : AV)) fun t13 =>
 letO (faddr 1 (.iptr c1)) fun t14 =>
 letO (load1 t14 H6) fun t15 =>
 letO (lenA t15) fun t16 =>
 letO (binF Try.prog .leq 3 t13 t16) fun t17 =>
 condA t17 true (
 true = true ∧ ∃ J7 : List AV → Heap → Prop, (
 letO (some ((L5.getD 2 .any) : AV)) fun t20 =>
 letO (faddr 1 (.iptr c1)) fun t21 =>
 letO (load1 t21 H6) fun t22 =>
 letO (lenA t22) fun t23 =>
 letO (binF Try.prog .eql 3 t20 t23) fun t24 =>
 letO (some (t24 : AV)) fun t25 =>
 letO (gval t25 false (loadN 2 (.iptr c1) H6)) fun t26 =>
 letO (gval t25 false (some ((L5.getD 1 .any) : AV))) fun t27 =>
 letO (gval t25 false (some ((L5.getD 2 .any) : AV))) fun t28 =>
 letO (gval t25 false (binF Try.prog .add 3 t28 (.int .i64 1))) fun t29 =>
 ∃ J8 : AV → Heap → Prop, condG t25 false (ACalls Try.prog 79 [t26, t27, t29] H6 fun t30 H9 =>
 J8 t30 H9) (J8 (.tup []) H6) ∧ ∀ t30 H10, J8 t30 H10 →
 letO (gval t25 false (binF Try.prog .lss 3 t30 (.int .i64 0))) fun t31 =>
 letO (pickF t25 (.bool true) t31) fun t32 =>
 condA t32 true (
 letO (some ((L5.getD 0 .any) : AV)) fun t33 =>
 letO (some ((L5.getD 2 .any) : AV)) fun t34 =>
 letO (literalF Try.prog 22 1 [(0, t34)]) fun c11 =>
 appendA 1 8 t33 (.imm 1 true c11) (fun t36 H12 =>
 letO (some (t36 : AV)) fun t5 =>
 letO (some ((L5.getD 2 .any) : AV)) fun t37 =>
 letO (some (t37 : AV)) fun t6 =>
 J7 [t5, t6] H12) H10) (
 J7 [(L5.getD 0 .any), (L5.getD 1 .any)] H10)) ∧ ∀ L13 H14, J7 L13 H14 → -- [t5, t6]
 letO (some ((L5.getD 2 .any) : AV)) fun t18 =>
 letO (binF Try.prog .add 3 t18 (.int .i64 1)) fun t19 =>
 letO (some (t19 : AV)) fun t7 =>
 I3 [(L13.getD 0 .any), (L13.getD 1 .any), t7] H14 ∧ μ4 [(L13.getD 0 .any), (L13.getD 1 .any), t7] H14 < μ4 L5 H6) (
 letO (some ((L5.getD 0 .any) : AV)) fun t38 =>
 letO (some (t38 : AV)) fun t2 =>
 letO (some ((.int .i64 0) : AV)) fun t3 =>
endK (.tup [t2, t3]) H6 K))

theorem W49_ok {x0 : AV} {H : Heap} {K : AV → Heap → Prop} (h : W49 x0 H K) : ACalls Try.prog 49 [x0] H K :=
  acallsB (fn := Try.f49) (cfg := cfgOf [] [] [] [] []) (hh := (.dir .nil (.dir .nil (.dir (.dir .nil (.dir .nil .nil)) (.dir .nil (.dir .nil (.dir (.dir .nil (.blk (.loop [5, 6, 7] [13, 14, 15, 16, 17, 20, 21, 22, 23, 24, 25, 26, 27, 28, 29, 30, 31, 32, 33, 34, 35, 36, 5, 37, 6, 18, 19, 7] (.dir (.dir .nil .nil) (.cut [5, 6] [20, 21, 22, 23, 24, 25, 26, 27, 28, 29, 30, 31, 32, 33, 34, 35, 36, 5, 37, 6] (.blk (.dir .nil (.dir .nil .nil))) .nil))))) .nil))))))) follows Try.func49 (by kernel_rfl) (Nat.le_of_ble_eq_true (by kernel_rfl)) (by kernel_rfl) h

/-- headword.headwordref13.Check -/
def W51 (x0 : AV) (H : Heap) (K : AV → Heap → Prop) : Prop :=
 letO (cellsOf? x0) fun c1 =>
 letO (some ((.int .i64 0) : AV)) fun t2 =>
 letO (faddr 0 (.iptr c1)) fun t4 =>
 letO (load1 t4 H) fun t5 =>
 ACalls Try.prog 77 [t5, (.int .i64 1), (.int .i64 40)] H fun t6 H2 =>
 letO (unF .not t6) fun t7 =>
 condA t7 true (
 letO (some ((.int .i64 1) : AV)) fun t2 =>
endK t2 H2 K) (
 letO (faddr 1 (.iptr c1)) fun t8 =>
 letO (load1 t8 H2) fun t9 =>
 letO (lenA t9) fun t10 =>
 letO (binF Try.prog .eql 3 t10 (.int .i64 0)) fun t11 =>
 condA t11 true (
 letO (some ((.int .i64 4) : AV)) fun t2 =>
endK t2 H2 K) (
 letO (faddr 1 (.iptr c1)) fun t12 =>
 letO (load1 t12 H2) fun t13 =>
 letO (lenA t13) fun t14 =>
 letO (binF Try.prog .gtr 3 t14 (.int .i64 10)) fun t15 =>
 condA t15 true (
 letO (some ((.int .i64 3) : AV)) fun t2 =>
endK t2 H2 K) (
 letO (some ((.int .i64 0) : AV)) fun t3 =>
 true = true ∧ ∃ (I3 : List AV → Heap → Prop) (μ4 : List AV → Heap → Nat), I3 [t3] H2 ∧ ∀ L5 H6, I3 L5 H6 → -- [t3]
 letO (some ((L5.getD 0 .any) : AV)) fun t16 =>
 letO (faddr 1 (.iptr c1)) fun t17 =>
 letO (load1 t17 H6) fun t18 =>
 letO (lenA t18) fun t19 =>
 letO (binF Try.prog .lss 3 t16 t19) fun t20 =>
 condA t20 true (
 true = true ∧
 letO (faddr 1 (.iptr c1)) fun t23 =>
 letO (load1 t23 Heap.none) fun t24 =>
 letO (some ((L5.getD 0 .any) : AV)) fun t25 =>
 letO (idx 1 t24 t25) fun t26 =>
 letO (load1 t26 H6) fun t27 =>
 letO (faddr 0 (.iptr c1)) fun t28 =>
 letO (load1 t28 Heap.none) fun t29 =>
 ACalls Try.prog 77 [t27, (.int .i64 1), t29] H6 fun t30 H7 =>
 letO (unF .not t30) fun t31 =>
 condA t31 true (
 letO (some ((.int .i64 1) : AV)) fun t2 =>
endK t2 H7 K) (
 letO (some ((L5.getD 0 .any) : AV)) fun t21 =>
 letO (binF Try.prog .add 3 t21 (.int .i64 1)) fun t22 =>
 letO (some (t22 : AV)) fun t3 =>
 I3 [t3] H7 ∧ μ4 [t3] H7 < μ4 L5 H6)) (
 letO (some ((.int .i64 0) : AV)) fun t2 =>
endK t2 H6 K))))

theorem W51_ok {x0 : AV} {H : Heap} {K : AV → Heap → Prop} (h : W51 x0 H K) : ACalls Try.prog 51 [x0] H K :=
  acallsB (fn := Try.f51) (cfg := cfgOf [] [24, 29] [(10, [0, 1, 0, 7, 15, 0, 32, 127, 255])] [] []) (hh := (.dir .nil (.dir (.dir .nil (.dir .nil .nil)) (.dir (.dir .nil (.dir .nil .nil)) (.dir (.dir .nil (.dir .nil .nil)) (.dir (.dir .nil (.blk (.loop [3] [16, 17, 18, 19, 20, 23, 24, 25, 26, 27, 28, 29, 30, 31, 2, 21, 22, 3] (.dir (.dir .nil .nil) (.dir (.blk (.dir .nil (.dir .nil .nil))) .nil))))) .nil)))))) follows Try.func51 (by kernel_rfl) (Nat.le_of_ble_eq_true (by kernel_rfl)) (by kernel_rfl) h

/-- headword.headwordref13.Fits -/
def W52 (x0 x1 : AV) (H : Heap) (K : AV → Heap → Prop) : Prop :=
 letO (cellsOf? x0) fun c1 =>
 letO (some ((.int .i64 0) : AV)) fun t4 =>
 letO (loadN 2 (.iptr c1) H) fun t6 =>
 letO (some (x1 : AV)) fun t7 =>
 ACalls Try.prog 82 [t6, t7] H fun t8 H2 =>
 letO (some (t8 : AV)) fun t5 =>
 true = true ∧ ∃ J3 : List AV → Heap → Prop, (
 letO (some (t5 : AV)) fun t9 =>
 letO (binF Try.prog .eql 27 t9 (.int .i64 0)) fun t10 =>
 letO (some (t10 : AV)) fun t11 =>
 letO (gval t11 true (loadN 2 (.iptr c1) H2)) fun t12 =>
 letO (gval t11 true (some (x1 : AV))) fun t13 =>
 ∃ J4 : AV → Heap → Prop, condG t11 true (ACalls Try.prog 83 [t12, t13] H2 fun t14 H5 =>
 J4 t14 H5) (J4 (.tup []) H2) ∧ ∀ t14 H6, J4 t14 H6 →
 letO (gval t11 true (unF .not t14)) fun t15 =>
 letO (pickF t11 t15 (.bool false)) fun t16 =>
 condA t16 true (
 letO (some ((.int .i64 15) : AV)) fun t5 =>
 J3 [t5] H6) (
 J3 [t5] H6)) ∧ ∀ L7 H8, J3 L7 H8 → -- [t5]
 letO (some ((L7.getD 0 .any) : AV)) fun t17 =>
 letO (some (t17 : AV)) fun t4 =>
endK t4 H8 K

theorem W52_ok {x0 x1 : AV} {H : Heap} {K : AV → Heap → Prop} (h : W52 x0 x1 H K) : ACalls Try.prog 52 [x0, x1] H K :=
  acallsB (fn := Try.f52) (cfg := cfgOf [] [] [] [] []) (hh := (.dir .nil (.dir .nil (.cut [5] [9, 10, 11, 12, 13, 14, 15, 16, 5] (.dir .nil .nil) .nil)))) follows Try.func52 (by kernel_rfl) (Nat.le_of_ble_eq_true (by kernel_rfl)) (by kernel_rfl) h

/-- headword.headwordlaw13.best -/
def W53 (x0 : AV) (H : Heap) (K : AV → Heap → Prop) : Prop :=
 letO (cellsOf? x0) fun c1 =>
 allocA [.nils] (fun t2 H2 =>
 allocA [(.int .i64 0)] (fun t3 H3 =>
 allocA [(.int .i64 0)] (fun t4 H4 =>
 letO (loadN 2 (.iptr c1) H4) fun t5 =>
 letO (some (AV.fn 84 [t4, t3, t2])) fun t6 =>
 ACalls Try.prog 37 [t5, t6] H4 fun t7 H5 =>
 true = true ∧
 letO (load1 t2 H5) fun t8 =>
 letO (load1 t3 H5) fun t9 =>
 letO (load1 t4 H5) fun t10 =>
 selfA 1 t2 t8 H5 ∧
 selfA 1 t3 t9 H5 ∧
 selfA 1 t4 t10 H5 ∧
 letO (load1 t2 H5) fun r6 => letO (load1 t3 H5) fun r7 => letO (load1 t4 H5) fun r8 => endK (.tup [r6, r7, r8]) H5 K) H3) H2) H

theorem W53_ok {x0 : AV} {H : Heap} {K : AV → Heap → Prop} (h : W53 x0 H K) : ACalls Try.prog 53 [x0] H K :=
  acallsB (fn := Try.f53) (cfg := cfgOf [] [] [(2, [0, 0, 0, 1, 11, 31])] [] [8, 9, 10]) (hh := (.dir .nil (.dir .nil .nil))) follows Try.func53 (by kernel_rfl) (Nat.le_of_ble_eq_true (by kernel_rfl)) (by kernel_rfl) h

/-- headword.headwordlaw13.prices -/
def W54 (x0 : AV) (H : Heap) (K : AV → Heap → Prop) : Prop :=
 letO (cellsOf? x0) fun c1 =>
 letO (some (.nils : AV)) fun t2 =>
 letO (some (.nils : AV)) fun t3 =>
 letO (literalF Try.prog 22 1 [(0, (.int .i64 0))]) fun c2 =>
 ACalls Try.prog 46 [(.imm 1 true c2)] H fun t11 H3 =>
 letO (some (t11 : AV)) fun t2 =>
 letO (some ((.int .i64 1) : AV)) fun t4 =>
 true = true ∧ ∃ (I4 : List AV → Heap → Prop) (μ5 : List AV → Heap → Nat), I4 [t2, t3, t4] H3 ∧ ∀ L6 H7, I4 L6 H7 → -- [t2, t3, t4]
 letO (some ((L6.getD 2 .any) : AV)) fun t12 =>
 letO (faddr 1 (.iptr c1)) fun t13 =>
 letO (load1 t13 H7) fun t14 =>
 letO (lenA t14) fun t15 =>
 letO (binF Try.prog .leq 3 t12 t15) fun t16 =>
 condA t16 true (
 letO (some ((.int .i64 (-1)) : AV)) fun t5 =>
 letO (some ((.int .i64 0) : AV)) fun t6 =>
 letO (some ((L6.getD 2 .any) : AV)) fun t19 =>
 letO (some ((.int .i64 0) : AV)) fun t20 =>
 true = true ∧ ∃ (I8 : List AV → Heap → Prop) (μ9 : List AV → Heap → Nat), I8 [t5, t6, t20] H7 ∧ ∀ L10 H11, I8 L10 H11 → -- [t5, t6, t20]
 letO (binF Try.prog .lss 3 (L10.getD 2 .any) t19) fun t21 =>
 condA t21 true (
 true = true ∧ ∃ J12 : List AV → Heap → Prop, (
 letO (some ((L10.getD 2 .any) : AV)) fun t22 =>
 letO (some (t22 : AV)) fun t7 =>
 letO (loadN 2 (.iptr c1) H11) fun t23 =>
 letO (some (t7 : AV)) fun t24 =>
 letO (some ((L6.getD 2 .any) : AV)) fun t25 =>
 ACalls Try.prog 43 [t23, t24, t25] H11 fun t26 H13 =>
 letO (some (t26 : AV)) fun t8 =>
 letO (some (t8 : AV)) fun t27 =>
 letO (binF Try.prog .lss 3 t27 (.int .i64 0)) fun t28 =>
 condA t28 true (
 J12 [(L10.getD 0 .any), (L10.getD 1 .any)] H13) (
 letO (some ((L6.getD 0 .any) : AV)) fun t29 =>
 letO (some (t7 : AV)) fun t30 =>
 letO (idx 1 t29 t30) fun t31 =>
 letO (load1 t31 H13) fun t32 =>
 letO (some (t8 : AV)) fun t33 =>
 letO (some (t8 : AV)) fun t34 =>
 letO (binF Try.prog .mul 3 t33 t34) fun t35 =>
 letO (binF Try.prog .add 3 t32 t35) fun t36 =>
 letO (some (t36 : AV)) fun t9 =>
 letO (some ((L10.getD 0 .any) : AV)) fun t37 =>
 letO (binF Try.prog .lss 3 t37 (.int .i64 0)) fun t38 =>
 letO (some (t38 : AV)) fun t39 =>
 letO (gval t39 false (some (t9 : AV))) fun t40 =>
 letO (gval t39 false (some ((L10.getD 0 .any) : AV))) fun t41 =>
 letO (gval t39 false (binF Try.prog .lss 3 t40 t41)) fun t42 =>
 letO (pickF t39 (.bool true) t42) fun t43 =>
 condA t43 true (
 letO (some (t9 : AV)) fun t44 =>
 letO (some (t7 : AV)) fun t45 =>
 letO (some (t44 : AV)) fun t5 =>
 letO (some (t45 : AV)) fun t6 =>
 J12 [t5, t6] H13) (
 J12 [(L10.getD 0 .any), (L10.getD 1 .any)] H13))) ∧ ∀ L14 H15, J12 L14 H15 → -- [t5, t6]
 letO (binF Try.prog .add 3 (L10.getD 2 .any) (.int .i64 1)) fun t46 =>
 letO (some (t46 : AV)) fun t20 =>
 I8 [(L14.getD 0 .any), (L14.getD 1 .any), t20] H15 ∧ μ9 [(L14.getD 0 .any), (L14.getD 1 .any), t20] H15 < μ9 L10 H11) (
 letO (some ((L6.getD 0 .any) : AV)) fun t47 =>
 letO (some ((L10.getD 0 .any) : AV)) fun t48 =>
 letO (literalF Try.prog 22 1 [(0, t48)]) fun c16 =>
 appendA 1 8 t47 (.imm 1 true c16) (fun t50 H17 =>
 letO (some ((L6.getD 1 .any) : AV)) fun t51 =>
 letO (some ((L10.getD 1 .any) : AV)) fun t52 =>
 letO (literalF Try.prog 22 1 [(0, t52)]) fun c18 =>
 appendA 1 8 t51 (.imm 1 true c18) (fun t54 H19 =>
 letO (some (t50 : AV)) fun t2 =>
 letO (some (t54 : AV)) fun t3 =>
 letO (some ((L6.getD 2 .any) : AV)) fun t17 =>
 letO (binF Try.prog .add 3 t17 (.int .i64 1)) fun t18 =>
 letO (some (t18 : AV)) fun t4 =>
 I4 [t2, t3, t4] H19 ∧ μ5 [t2, t3, t4] H19 < μ5 L6 H7) H17) H11)) (
 letO (some ((L6.getD 0 .any) : AV)) fun t55 =>
 letO (faddr 1 (.iptr c1)) fun t56 =>
 letO (load1 t56 H7) fun t57 =>
 letO (lenA t57) fun t58 =>
 letO (slc 1 t55 none (some t58) none) fun t59 =>
 letO (some ((L6.getD 1 .any) : AV)) fun t60 =>
 letO (some (t59 : AV)) fun t2 =>
 letO (some (t60 : AV)) fun t3 =>
endK (.tup [t2, t3]) H7 K)

theorem W54_ok {x0 : AV} {H : Heap} {K : AV → Heap → Prop} (h : W54 x0 H K) : ACalls Try.prog 54 [x0] H K :=
  acallsB (fn := Try.f54) (cfg := cfgOf [] [] [] [] []) (hh := (.dir .nil (.dir .nil (.dir (.dir .nil (.blk (.loop [2, 3, 4] [12, 13, 14, 15, 16, 5, 6, 19, 20, 21, 22, 7, 23, 24, 25, 26, 8, 27, 28, 29, 30, 31, 32, 33, 34, 35, 36, 9, 37, 38, 39, 40, 41, 42, 43, 44, 45, 46, 47, 48, 49, 50, 51, 52, 53, 54, 2, 3, 17, 18, 4] (.dir (.dir .nil .nil) (.dir (.blk (.dir .nil (.dir (.dir .nil (.blk (.loop [5, 6, 20] [21, 22, 7, 23, 24, 25, 26, 8, 27, 28, 29, 30, 31, 32, 33, 34, 35, 36, 9, 37, 38, 39, 40, 41, 42, 43, 44, 45, 5, 6, 46, 20] (.dir .nil (.dir .nil (.cut [5, 6] [22, 7, 23, 24, 25, 26, 8, 27, 28, 29, 30, 31, 32, 33, 34, 35, 36, 9, 37, 38, 39, 40, 41, 42, 43, 44, 45, 5, 6] (.blk (.dir .nil (.dir .nil (.dir (.dir .nil .nil) (.dir .nil (.dir .nil .nil)))))) .nil)))))) .nil))) .nil))))) .nil)))) follows Try.func54 (by kernel_rfl) (Nat.le_of_ble_eq_true (by kernel_rfl)) (by kernel_rfl) h

/-- headword.headwordlaw13.proved -/
def W55 (x0 x1 : AV) (H : Heap) (K : AV → Heap → Prop) : Prop :=
 letO (cellsOf? x0) fun c1 =>
 letO (some ((.int .i64 0) : AV)) fun t4 =>
 letO (some ((.bool false) : AV)) fun t5 =>
 letO (faddr 1 (.iptr c1)) fun t12 =>
 letO (load1 t12 H) fun t13 =>
 letO (lenA t13) fun t14 =>
 letO (some (t14 : AV)) fun t6 =>
 true = true ∧
 letO (some (x1 : AV)) fun t15 =>
 letO (some (t6 : AV)) fun t16 =>
 letO (binF Try.prog .sub 3 t16 (.int .i64 1)) fun t17 =>
 letO (idx 1 t15 t17) fun t18 =>
 letO (load1 t18 H) fun t19 =>
 letO (some (x1 : AV)) fun t20 =>
 letO (idx 1 t20 (.int .i64 0)) fun t21 =>
 letO (load1 t21 H) fun t22 =>
 letO (binF Try.prog .eql 3 t22 (.int .i64 0)) fun t23 =>
 letO (some (t19 : AV)) fun t7 =>
 letO (some (t23 : AV)) fun t8 =>
 letO (some (t6 : AV)) fun t24 =>
 letO (binF Try.prog .add 3 t24 (.int .i64 1)) fun t25 =>
 letO (some ((.int .i64 0) : AV)) fun t26 =>
 true = true ∧ ∃ (I2 : List AV → Heap → Prop) (μ3 : List AV → Heap → Nat), I2 [t7, t8, t26] H ∧ ∀ L4 H5, I2 L4 H5 → -- [t7, t8, t26]
 letO (binF Try.prog .lss 3 (L4.getD 2 .any) t25) fun t27 =>
 condA t27 true (
 letO (some ((L4.getD 2 .any) : AV)) fun t28 =>
 letO (some (t28 : AV)) fun t9 =>
 letO (some (t9 : AV)) fun t29 =>
 letO (some ((.int .i64 0) : AV)) fun t30 =>
 true = true ∧ ∃ (I6 : List AV → Heap → Prop) (μ7 : List AV → Heap → Nat), I6 [(L4.getD 0 .any), (L4.getD 1 .any), t30] H5 ∧ ∀ L8 H9, I6 L8 H9 → -- [t7, t8, t30]
 letO (binF Try.prog .lss 3 (L8.getD 2 .any) t29) fun t31 =>
 condA t31 true (
 true = true ∧ ∃ J10 : List AV → Heap → Prop, (
 letO (some ((L8.getD 2 .any) : AV)) fun t32 =>
 letO (some (t32 : AV)) fun t10 =>
 letO (loadN 2 (.iptr c1) H9) fun t33 =>
 letO (some (t10 : AV)) fun t34 =>
 letO (some (t9 : AV)) fun t35 =>
 ACalls Try.prog 43 [t33, t34, t35] H9 fun t36 H11 =>
 letO (some (t36 : AV)) fun t11 =>
 letO (some (t11 : AV)) fun t54 =>
 letO (binF Try.prog .lss 3 t54 (.int .i64 0)) fun t55 =>
 letO (some (t55 : AV)) fun t53 =>
 condA t53 true (
 J10 [(L8.getD 0 .any), (L8.getD 1 .any)] H11) (
 letO (some (t9 : AV)) fun t57 =>
 letO (some (t6 : AV)) fun t58 =>
 letO (binF Try.prog .eql 3 t57 t58) fun t59 =>
 letO (some (t59 : AV)) fun t56 =>
 condA t56 true (
 letO (some ((L8.getD 0 .any) : AV)) fun t60 =>
 letO (some (x1 : AV)) fun t61 =>
 letO (some (t10 : AV)) fun t62 =>
 letO (idx 1 t61 t62) fun t63 =>
 letO (load1 t63 H11) fun t64 =>
 letO (min2F t60 t64) fun t65 =>
 letO (some (t65 : AV)) fun t7 =>
 J10 [t7, (L8.getD 1 .any)] H11) (
 true = true ∧
 letO (some ((L8.getD 1 .any) : AV)) fun t37 =>
 letO (some (t37 : AV)) fun t38 =>
 letO (gval t38 true (some (x1 : AV))) fun t39 =>
 letO (gval t38 true (some (t9 : AV))) fun t40 =>
 letO (gval t38 true (idx 1 t39 t40)) fun t41 =>
 letO (gval t38 true (load1 t41 H11)) fun t42 =>
 letO (gval t38 true (some (x1 : AV))) fun t43 =>
 letO (gval t38 true (some (t10 : AV))) fun t44 =>
 letO (gval t38 true (idx 1 t43 t44)) fun t45 =>
 letO (gval t38 true (load1 t45 H11)) fun t46 =>
 letO (gval t38 true (binF Try.prog .sub 3 t42 t46)) fun t47 =>
 letO (gval t38 true (some (t11 : AV))) fun t48 =>
 letO (gval t38 true (some (t11 : AV))) fun t49 =>
 letO (gval t38 true (binF Try.prog .mul 3 t48 t49)) fun t50 =>
 letO (gval t38 true (binF Try.prog .leq 3 t47 t50)) fun t51 =>
 letO (pickF t38 t51 (.bool false)) fun t52 =>
 letO (some (t52 : AV)) fun t8 =>
 J10 [(L8.getD 0 .any), t8] H11))) ∧ ∀ L12 H13, J10 L12 H13 → -- [t7, t8]
 letO (binF Try.prog .add 3 (L8.getD 2 .any) (.int .i64 1)) fun t66 =>
 letO (some (t66 : AV)) fun t30 =>
 I6 [(L12.getD 0 .any), (L12.getD 1 .any), t30] H13 ∧ μ7 [(L12.getD 0 .any), (L12.getD 1 .any), t30] H13 < μ7 L8 H9) (
 letO (binF Try.prog .add 3 (L4.getD 2 .any) (.int .i64 1)) fun t67 =>
 letO (some (t67 : AV)) fun t26 =>
 I2 [(L8.getD 0 .any), (L8.getD 1 .any), t26] H9 ∧ μ3 [(L8.getD 0 .any), (L8.getD 1 .any), t26] H9 < μ3 L4 H5)) (
 letO (some ((L4.getD 0 .any) : AV)) fun t68 =>
 letO (some ((L4.getD 1 .any) : AV)) fun t69 =>
 letO (some (t68 : AV)) fun t4 =>
 letO (some (t69 : AV)) fun t5 =>
endK (.tup [t4, t5]) H5 K)

theorem W55_ok {x0 x1 : AV} {H : Heap} {K : AV → Heap → Prop} (h : W55 x0 x1 H K) : ACalls Try.prog 55 [x0, x1] H K :=
  acallsB (fn := Try.f55) (cfg := cfgOf [] [] [(2, [0, 0, 2, 7, 15, 0, 32, 96, 224, 31, 1023]), (10, [0, 1, 3, 3, 15, 31, 3, 3, 195, 451, 1023, 3, 3, 6147, 16383, 32767, 65535])] [] []) (hh := (.dir .nil (.dir .nil (.dir .nil (.dir (.dir .nil (.blk (.loop [7, 8, 26] [27, 28, 9, 29, 30, 31, 32, 10, 33, 34, 35, 36, 11, 54, 55, 53, 57, 58, 59, 56, 60, 61, 62, 63, 64, 65, 7, 37, 38, 39, 40, 41, 42, 43, 44, 45, 46, 47, 48, 49, 50, 51, 52, 8, 66, 67, 26] (.dir .nil (.dir .nil (.dir (.blk (.dir .nil (.dir .nil (.blk (.loop [7, 8, 30] [31, 32, 10, 33, 34, 35, 36, 11, 54, 55, 53, 57, 58, 59, 56, 60, 61, 62, 63, 64, 65, 7, 37, 38, 39, 40, 41, 42, 43, 44, 45, 46, 47, 48, 49, 50, 51, 52, 8, 66, 30] (.dir .nil (.dir .nil (.cut [7, 8] [32, 10, 33, 34, 35, 36, 11, 54, 55, 53, 57, 58, 59, 56, 60, 61, 62, 63, 64, 65, 7, 37, 38, 39, 40, 41, 42, 43, 44, 45, 46, 47, 48, 49, 50, 51, 52, 8] (.blk (.dir .nil (.dir .nil (.blk (.dir .nil (.dir .nil (.dir .nil .nil))))))) .nil)))))))) .nil)))))) .nil))))) follows Try.func55 (by kernel_rfl) (Nat.le_of_ble_eq_true (by kernel_rfl)) (by kernel_rfl) h

/-- slices.IsSorted[[]int,int] -/
def W61 (x0 : AV) (H : Heap) (K : AV → Heap → Prop) : Prop :=
 letO (some ((.bool false) : AV)) fun t2 =>
 letO (some (x0 : AV)) fun t4 =>
 letO (lenA t4) fun t5 =>
 letO (binF Try.prog .sub 3 t5 (.int .i64 1)) fun t6 =>
 letO (some (t6 : AV)) fun t3 =>
 true = true ∧ ∃ (I1 : List AV → Heap → Prop) (μ2 : List AV → Heap → Nat), I1 [t3] H ∧ ∀ L3 H4, I1 L3 H4 → -- [t3]
 letO (some ((L3.getD 0 .any) : AV)) fun t7 =>
 letO (binF Try.prog .gtr 3 t7 (.int .i64 0)) fun t8 =>
 condA t8 true (
 true = true ∧
 letO (some (x0 : AV)) fun t11 =>
 letO (some ((L3.getD 0 .any) : AV)) fun t12 =>
 letO (idx 1 t11 t12) fun t13 =>
 letO (load1 t13 H4) fun t14 =>
 letO (some (x0 : AV)) fun t15 =>
 letO (some ((L3.getD 0 .any) : AV)) fun t16 =>
 letO (binF Try.prog .sub 3 t16 (.int .i64 1)) fun t17 =>
 letO (idx 1 t15 t17) fun t18 =>
 letO (load1 t18 H4) fun t19 =>
 ACalls Try.prog 86 [t14, t19] H4 fun t20 H5 =>
 condA t20 true (
 letO (some ((.bool false) : AV)) fun t2 =>
endK t2 H5 K) (
 letO (some ((L3.getD 0 .any) : AV)) fun t9 =>
 letO (binF Try.prog .sub 3 t9 (.int .i64 1)) fun t10 =>
 letO (some (t10 : AV)) fun t3 =>
 I1 [t3] H5 ∧ μ2 [t3] H5 < μ2 L3 H4)) (
 letO (some ((.bool true) : AV)) fun t2 =>
endK t2 H4 K)

theorem W61_ok {x0 : AV} {H : Heap} {K : AV → Heap → Prop} (h : W61 x0 H K) : ACalls Try.prog 61 [x0] H K :=
  acallsB (fn := Try.f61) (cfg := cfgOf [] [] [(4, [0, 0, 3, 7, 0, 0, 32, 112, 240, 511])] [] []) (hh := (.dir .nil (.dir (.dir .nil (.blk (.loop [3] [7, 8, 11, 12, 13, 14, 15, 16, 17, 18, 19, 20, 2, 9, 10, 3] (.dir (.dir .nil .nil) (.dir (.blk (.dir .nil (.dir .nil .nil))) .nil))))) .nil))) follows Try.func61 (by kernel_rfl) (Nat.le_of_ble_eq_true (by kernel_rfl)) (by kernel_rfl) h

/-- headword.headwordref13.best -/
def W65 (x0 : AV) (H : Heap) (K : AV → Heap → Prop) : Prop :=
 letO (cellsOf? x0) fun c1 =>
 letO (some (.nils : AV)) fun t2 =>
 letO (some (.nils : AV)) fun t3 =>
 letO (some ((.int .i64 0) : AV)) fun t4 =>
 letO (loadN 2 (.iptr c1) H) fun t8 =>
 letO (faddr 1 (.iptr c1)) fun t9 =>
 letO (load1 t9 H) fun t10 =>
 letO (lenA t10) fun t11 =>
 ACalls Try.prog 88 [t8, t11, .nils] H fun t12 H2 =>
 letO (some (t12 : AV)) fun t5 =>
 letO (some ((.int .i64 0) : AV)) fun t6 =>
 true = true ∧ ∃ (I3 : List AV → Heap → Prop) (μ4 : List AV → Heap → Nat), I3 [t4, t3, t6] H2 ∧ ∀ L5 H6, I3 L5 H6 → -- [t4, t3, t6]
 letO (some ((L5.getD 2 .any) : AV)) fun t13 =>
 letO (some (t5 : AV)) fun t14 =>
 letO (lenA t14) fun t15 =>
 letO (binF Try.prog .lss 3 t13 t15) fun t16 =>
 condA t16 true (
 true = true ∧ ∃ J7 : List AV → Heap → Prop, (
 true = true ∧
 letO (loadN 2 (.iptr c1) Heap.none) fun t19 =>
 letO (some (t5 : AV)) fun t20 =>
 letO (some ((L5.getD 2 .any) : AV)) fun t21 =>
 letO (idx 1 t20 t21) fun t22 =>
 letO (load1 t22 H6) fun t23 =>
 letO (some (t5 : AV)) fun t24 =>
 letO (some ((L5.getD 2 .any) : AV)) fun t25 =>
 letO (idx 1 t24 t25) fun t26 =>
 letO (load1 t26 H6) fun t27 =>
 letO (lenA t27) fun t28 =>
 letO (binF Try.prog .sub 3 t28 (.int .i64 1)) fun t29 =>
 ACalls Try.prog 66 [t19, t23, t29] H6 fun t30 H8 =>
 letO (some (t30 : AV)) fun t7 =>
 true = true ∧ ∃ J9 : List AV → Heap → Prop, (
 letO (some ((L5.getD 2 .any) : AV)) fun t31 =>
 letO (binF Try.prog .eql 3 t31 (.int .i64 0)) fun t32 =>
 letO (some (t32 : AV)) fun t33 =>
 letO (gval t33 false (some (t7 : AV))) fun t34 =>
 letO (gval t33 false (some ((L5.getD 0 .any) : AV))) fun t35 =>
 letO (gval t33 false (binF Try.prog .lss 3 t34 t35)) fun t36 =>
 letO (pickF t33 (.bool true) t36) fun t37 =>
 condA t37 true (
 letO (some (t7 : AV)) fun t38 =>
 letO (some (t38 : AV)) fun t4 =>
 letO (some (.nils : AV)) fun t3 =>
 J9 [t4, t3] H8) (
 J9 [(L5.getD 0 .any), (L5.getD 1 .any)] H8)) ∧ ∀ L10 H11, J9 L10 H11 → -- [t4, t3]
 letO (some (t7 : AV)) fun t39 =>
 letO (some ((L10.getD 0 .any) : AV)) fun t40 =>
 letO (binF Try.prog .eql 3 t39 t40) fun t41 =>
 condA t41 true (
 letO (some ((L10.getD 1 .any) : AV)) fun t42 =>
 letO (some (t5 : AV)) fun t43 =>
 letO (some ((L5.getD 2 .any) : AV)) fun t44 =>
 letO (idx 1 t43 t44) fun t45 =>
 letO (load1 t45 H11) fun t46 =>
 letO (literalF Try.prog 88 1 [(0, t46)]) fun c12 =>
 appendA 1 24 t42 (.imm 1 true c12) (fun t48 H13 =>
 letO (some (t48 : AV)) fun t3 =>
 J7 [(L10.getD 0 .any), t3] H13) H11) (
 J7 [(L10.getD 0 .any), (L10.getD 1 .any)] H11)) ∧ ∀ L14 H15, J7 L14 H15 → -- [t4, t3]
 letO (some ((L5.getD 2 .any) : AV)) fun t17 =>
 letO (binF Try.prog .add 3 t17 (.int .i64 1)) fun t18 =>
 letO (some (t18 : AV)) fun t6 =>
 I3 [(L14.getD 0 .any), (L14.getD 1 .any), t6] H15 ∧ μ4 [(L14.getD 0 .any), (L14.getD 1 .any), t6] H15 < μ4 L5 H6) (
 letO (some ((L5.getD 1 .any) : AV)) fun t49 =>
 letO (some (t49 : AV)) fun t2 =>
endK t2 H6 K)

theorem W65_ok {x0 : AV} {H : Heap} {K : AV → Heap → Prop} (h : W65 x0 H K) : ACalls Try.prog 65 [x0] H K :=
  acallsB (fn := Try.f65) (cfg := cfgOf [] [19] [(7, [0, 0, 0, 6, 14, 0, 0, 96, 224, 480, 992, 2047, 4095])] [] []) (hh := (.dir .nil (.dir .nil (.dir .nil (.dir .nil (.dir (.dir .nil (.blk (.loop [4, 3, 6] [13, 14, 15, 16, 19, 20, 21, 22, 23, 24, 25, 26, 27, 28, 29, 30, 7, 31, 32, 33, 34, 35, 36, 37, 38, 4, 3, 39, 40, 41, 42, 43, 44, 45, 46, 47, 48, 17, 18, 6] (.dir (.dir .nil .nil) (.cut [4, 3] [19, 20, 21, 22, 23, 24, 25, 26, 27, 28, 29, 30, 7, 31, 32, 33, 34, 35, 36, 37, 38, 4, 3, 39, 40, 41, 42, 43, 44, 45, 46, 47, 48] (.blk (.dir .nil (.cut [4, 3] [31, 32, 33, 34, 35, 36, 37, 38, 4, 3] (.dir .nil (.dir .nil .nil)) (.dir .nil .nil)))) .nil))))) .nil)))))) follows Try.func65 (by kernel_rfl) (Nat.le_of_ble_eq_true (by kernel_rfl)) (by kernel_rfl) h

/-- headword.headwordref13.squares -/
def W66 (x0 x1 x2 : AV) (H : Heap) (K : AV → Heap → Prop) : Prop :=
 letO (cellsOf? x0) fun c1 =>
 letO (some ((.int .i64 0) : AV)) fun t6 =>
 letO (some ((.int .i64 0) : AV)) fun t7 =>
 letO (some ((.int .i64 0) : AV)) fun t8 =>
 true = true ∧ ∃ (I2 : List AV → Heap → Prop) (μ3 : List AV → Heap → Nat), I2 [t7, t8] H ∧ ∀ L4 H5, I2 L4 H5 → -- [t7, t8]
 letO (some ((L4.getD 1 .any) : AV)) fun t10 =>
 letO (some (x2 : AV)) fun t11 =>
 letO (binF Try.prog .lss 3 t10 t11) fun t12 =>
 condA t12 true (
 true = true ∧
 letO (loadN 2 (.iptr c1) Heap.none) fun t15 =>
 letO (some (x1 : AV)) fun t16 =>
 letO (some ((L4.getD 1 .any) : AV)) fun t17 =>
 ∃ t18, (ACalls Try.prog 78 [t16, t17] H5 fun r h => r = t18 ∧ h = H5) ∧
 letO (some (x1 : AV)) fun t19 =>
 letO (some ((L4.getD 1 .any) : AV)) fun t20 =>
 letO (idx 1 t19 t20) fun t21 =>
 letO (load1 t21 H5) fun t22 =>
 ACalls Try.prog 79 [t15, t18, t22] H5 fun t23 H6 =>
 letO (some (t23 : AV)) fun t9 =>
 letO (some ((L4.getD 0 .any) : AV)) fun t24 =>
 letO (some (t9 : AV)) fun t25 =>
 letO (some (t9 : AV)) fun t26 =>
 letO (binF Try.prog .mul 3 t25 t26) fun t27 =>
 letO (binF Try.prog .add 3 t24 t27) fun t28 =>
 letO (some (t28 : AV)) fun t7 =>
 letO (some ((L4.getD 1 .any) : AV)) fun t13 =>
 letO (binF Try.prog .add 3 t13 (.int .i64 1)) fun t14 =>
 letO (some (t14 : AV)) fun t8 =>
 I2 [t7, t8] H6 ∧ μ3 [t7, t8] H6 < μ3 L4 H5) (
 letO (some ((L4.getD 0 .any) : AV)) fun t29 =>
 letO (some (t29 : AV)) fun t6 =>
endK t6 H5 K)

theorem W66_ok {x0 x1 x2 : AV} {H : Heap} {K : AV → Heap → Prop} (h : W66 x0 x1 x2 H K) : ACalls Try.prog 66 [x0, x1, x2] H K :=
  acallsB (fn := Try.f66) (cfg := cfgOf [] [15] [(5, [0, 0, 0, 6, 0, 0, 48, 112, 255, 511])] [] []) (hh := (.dir .nil (.dir .nil (.dir (.dir .nil (.blk (.loop [7, 8] [10, 11, 12, 15, 16, 17, 18, 19, 20, 21, 22, 23, 9, 24, 25, 26, 27, 28, 7, 13, 14, 8] (.dir (.dir .nil .nil) (.dir .nil .nil))))) .nil)))) follows Try.func66 (by kernel_rfl) (Nat.le_of_ble_eq_true (by kernel_rfl)) (by kernel_rfl) h

/-- headword.headwordref13.even -/
def W68 (x0 x1 : AV) (H : Heap) (K : AV → Heap → Prop) : Prop :=
 letO (cellsOf? x0) fun c1 =>
 letO (some ((.int .i64 0) : AV)) fun t4 =>
 letO (some ((.int .i64 0) : AV)) fun t5 =>
 letO (some ((.int .i64 0) : AV)) fun t6 =>
 letO (some ((.int .i64 0) : AV)) fun t7 =>
 letO (loadN 2 (.iptr c1) H) fun t12 =>
 letO (some (x1 : AV)) fun t13 =>
 ACalls Try.prog 88 [t12, t13, .nils] H fun t14 H2 =>
 letO (some (t14 : AV)) fun t8 =>
 letO (some ((.int .i64 0) : AV)) fun t9 =>
 true = true ∧ ∃ (I3 : List AV → Heap → Prop) (μ4 : List AV → Heap → Nat), I3 [t6, t7, t9] H2 ∧ ∀ L5 H6, I3 L5 H6 → -- [t6, t7, t9]
 letO (some ((L5.getD 2 .any) : AV)) fun t15 =>
 letO (some (t8 : AV)) fun t16 =>
 letO (lenA t16) fun t17 =>
 letO (binF Try.prog .lss 3 t15 t17) fun t18 =>
 condA t18 true (
 true = true ∧ ∃ J7 : List AV → Heap → Prop, (
 true = true ∧
 letO (loadN 2 (.iptr c1) Heap.none) fun t21 =>
 letO (some (t8 : AV)) fun t22 =>
 letO (some ((L5.getD 2 .any) : AV)) fun t23 =>
 letO (idx 1 t22 t23) fun t24 =>
 letO (load1 t24 H6) fun t25 =>
 letO (some (t8 : AV)) fun t26 =>
 letO (some ((L5.getD 2 .any) : AV)) fun t27 =>
 letO (idx 1 t26 t27) fun t28 =>
 letO (load1 t28 H6) fun t29 =>
 letO (lenA t29) fun t30 =>
 ACalls Try.prog 66 [t21, t25, t30] H6 fun t31 H8 =>
 letO (some (t31 : AV)) fun t10 =>
 true = true ∧
 letO (some (t8 : AV)) fun t32 =>
 letO (some ((L5.getD 2 .any) : AV)) fun t33 =>
 letO (idx 1 t32 t33) fun t34 =>
 letO (load1 t34 H8) fun t35 =>
 letO (some (t8 : AV)) fun t36 =>
 letO (some ((L5.getD 2 .any) : AV)) fun t37 =>
 letO (idx 1 t36 t37) fun t38 =>
 letO (load1 t38 H8) fun t39 =>
 letO (lenA t39) fun t40 =>
 letO (binF Try.prog .sub 3 t40 (.int .i64 1)) fun t41 =>
 ACalls Try.prog 78 [t35, t41] H8 fun t42 H9 =>
 letO (some (t42 : AV)) fun t11 =>
 letO (some ((L5.getD 2 .any) : AV)) fun t43 =>
 letO (binF Try.prog .eql 3 t43 (.int .i64 0)) fun t44 =>
 letO (some (t44 : AV)) fun t45 =>
 letO (gval t45 false (some (t10 : AV))) fun t46 =>
 letO (gval t45 false (some ((L5.getD 0 .any) : AV))) fun t47 =>
 letO (gval t45 false (binF Try.prog .lss 3 t46 t47)) fun t48 =>
 letO (pickF t45 (.bool true) t48) fun t49 =>
 letO (some (t49 : AV)) fun t50 =>
 letO (gval t50 false (some (t10 : AV))) fun t51 =>
 letO (gval t50 false (some ((L5.getD 0 .any) : AV))) fun t52 =>
 letO (gval t50 false (binF Try.prog .eql 3 t51 t52)) fun t53 =>
 letO (gval t50 false (some (t53 : AV))) fun t54 =>
 letO (gval t54 true (some (t11 : AV))) fun t55 =>
 letO (gval t54 true (some ((L5.getD 1 .any) : AV))) fun t56 =>
 letO (gval t54 true (binF Try.prog .lss 3 t55 t56)) fun t57 =>
 letO (gval t50 false (pickF t54 t57 (.bool false))) fun t58 =>
 letO (pickF t50 (.bool true) t58) fun t59 =>
 condA t59 true (
 letO (some (t10 : AV)) fun t60 =>
 letO (some (t11 : AV)) fun t61 =>
 letO (some (t60 : AV)) fun t6 =>
 letO (some (t61 : AV)) fun t7 =>
 J7 [t6, t7] H9) (
 J7 [(L5.getD 0 .any), (L5.getD 1 .any)] H9)) ∧ ∀ L10 H11, J7 L10 H11 → -- [t6, t7]
 letO (some ((L5.getD 2 .any) : AV)) fun t19 =>
 letO (binF Try.prog .add 3 t19 (.int .i64 1)) fun t20 =>
 letO (some (t20 : AV)) fun t9 =>
 I3 [(L10.getD 0 .any), (L10.getD 1 .any), t9] H11 ∧ μ4 [(L10.getD 0 .any), (L10.getD 1 .any), t9] H11 < μ4 L5 H6) (
 letO (some ((L5.getD 0 .any) : AV)) fun t62 =>
 letO (some ((L5.getD 1 .any) : AV)) fun t63 =>
 letO (some (t62 : AV)) fun t4 =>
 letO (some (t63 : AV)) fun t5 =>
endK (.tup [t4, t5]) H6 K)

theorem W68_ok {x0 x1 : AV} {H : Heap} {K : AV → Heap → Prop} (h : W68 x0 x1 H K) : ACalls Try.prog 68 [x0, x1] H K :=
  acallsB (fn := Try.f68) (cfg := cfgOf [] [21] [(6, [0, 0, 0, 6, 14, 0, 0, 96, 224, 480, 1023, 2047]), (7, [0, 0, 3, 7, 0, 0, 48, 112, 240, 496, 1023, 2047])] [] []) (hh := (.dir .nil (.dir .nil (.dir .nil (.dir (.dir .nil (.blk (.loop [6, 7, 9] [15, 16, 17, 18, 21, 22, 23, 24, 25, 26, 27, 28, 29, 30, 31, 10, 32, 33, 34, 35, 36, 37, 38, 39, 40, 41, 42, 11, 43, 44, 45, 46, 47, 48, 49, 50, 51, 52, 53, 54, 55, 56, 57, 58, 59, 60, 61, 6, 7, 19, 20, 9] (.dir (.dir .nil .nil) (.cut [6, 7] [21, 22, 23, 24, 25, 26, 27, 28, 29, 30, 31, 10, 32, 33, 34, 35, 36, 37, 38, 39, 40, 41, 42, 11, 43, 44, 45, 46, 47, 48, 49, 50, 51, 52, 53, 54, 55, 56, 57, 58, 59, 60, 61, 6, 7] (.blk (.dir .nil (.dir .nil (.dir .nil .nil)))) .nil))))) .nil))))) follows Try.func68 (by kernel_rfl) (Nat.le_of_ble_eq_true (by kernel_rfl)) (by kernel_rfl) h

/-- headword.headwordref13.prices -/
def W69 (x0 : AV) (H : Heap) (K : AV → Heap → Prop) : Prop :=
 letO (cellsOf? x0) fun c1 =>
 letO (some (.nils : AV)) fun t2 =>
 letO (literalF Try.prog 22 1 [(0, (.int .i64 0))]) fun c2 =>
 letO (some ((.imm 1 true c2) : AV)) fun t3 =>
 letO (some ((.int .i64 1) : AV)) fun t4 =>
 true = true ∧ ∃ (I3 : List AV → Heap → Prop) (μ4 : List AV → Heap → Nat), I3 [t3, t4] H ∧ ∀ L5 H6, I3 L5 H6 → -- [t3, t4]
 letO (some ((L5.getD 1 .any) : AV)) fun t8 =>
 letO (faddr 1 (.iptr c1)) fun t9 =>
 letO (load1 t9 H6) fun t10 =>
 letO (lenA t10) fun t11 =>
 letO (binF Try.prog .lss 3 t8 t11) fun t12 =>
 condA t12 true (
 letO (loadN 2 (.iptr c1) H6) fun t16 =>
 letO (some ((L5.getD 1 .any) : AV)) fun t17 =>
 ACalls Try.prog 68 [t16, t17] H6 fun t18 H7 =>
 letO (some (t18 : AV)) fun t15 =>
 letO (extrF t15 0) fun t19 =>
 letO (extrF t15 1) fun t20 =>
 letO (some (t19 : AV)) fun t5 =>
 letO (some (t20 : AV)) fun t6 =>
 letO (some ((L5.getD 0 .any) : AV)) fun t21 =>
 letO (some (t5 : AV)) fun t22 =>
 letO (literalF Try.prog 22 1 [(0, t22)]) fun c8 =>
 appendA 1 8 t21 (.imm 1 true c8) (fun t24 H9 =>
 letO (some (t24 : AV)) fun t3 =>
 letO (some ((L5.getD 1 .any) : AV)) fun t13 =>
 letO (binF Try.prog .add 3 t13 (.int .i64 1)) fun t14 =>
 letO (some (t14 : AV)) fun t4 =>
 I3 [t3, t4] H9 ∧ μ4 [t3, t4] H9 < μ4 L5 H6) H7) (
 letO (some ((L5.getD 0 .any) : AV)) fun t25 =>
 letO (some (t25 : AV)) fun t2 =>
endK t2 H6 K)

theorem W69_ok {x0 : AV} {H : Heap} {K : AV → Heap → Prop} (h : W69 x0 H K) : ACalls Try.prog 69 [x0] H K :=
  acallsB (fn := Try.f69) (cfg := cfgOf [] [] [] [] []) (hh := (.dir .nil (.dir .nil (.dir (.dir .nil (.blk (.loop [3, 4] [8, 9, 10, 11, 12, 16, 17, 18, 15, 19, 20, 5, 6, 21, 22, 23, 24, 3, 13, 14, 4] (.dir (.dir .nil .nil) (.dir .nil .nil))))) .nil)))) follows Try.func69 (by kernel_rfl) (Nat.le_of_ble_eq_true (by kernel_rfl)) (by kernel_rfl) h

/-- headword.headwordref13.bound -/
def W71 (x0 x1 : AV) (H : Heap) (K : AV → Heap → Prop) : Prop :=
 letO (cellsOf? x0) fun c1 =>
 letO (some ((.int .i64 0) : AV)) fun t4 =>
 letO (some ((.int .i64 0) : AV)) fun t5 =>
 letO (faddr 1 (.iptr c1)) fun t12 =>
 letO (load1 t12 H) fun t13 =>
 letO (lenA t13) fun t14 =>
 letO (some (t14 : AV)) fun t6 =>
 letO (some (x1 : AV)) fun t15 =>
 letO (lenA t15) fun t16 =>
 letO (some (t6 : AV)) fun t17 =>
 letO (binF Try.prog .neq 3 t16 t17) fun t18 =>
 condA t18 true (
 letO (some ((.int .i64 0) : AV)) fun t4 =>
 letO (some ((.int .i64 5) : AV)) fun t5 =>
endK (.tup [t4, t5]) H K) (
 letO (some ((.int .i64 0) : AV)) fun t7 =>
 true = true ∧ ∃ (I2 : List AV → Heap → Prop) (μ3 : List AV → Heap → Nat), I2 [t7] H ∧ ∀ L4 H5, I2 L4 H5 → -- [t7]
 letO (some ((L4.getD 0 .any) : AV)) fun t19 =>
 letO (some (t6 : AV)) fun t20 =>
 letO (binF Try.prog .lss 3 t19 t20) fun t21 =>
 condA t21 true (
 letO (some (x1 : AV)) fun t24 =>
 letO (some ((L4.getD 0 .any) : AV)) fun t25 =>
 letO (idx 1 t24 t25) fun t26 =>
 letO (load1 t26 H5) fun t27 =>
 ACalls Try.prog 77 [t27, (.int .i64 0), (.int .i64 20000)] H5 fun t28 H6 =>
 letO (unF .not t28) fun t29 =>
 condA t29 true (
 letO (some ((.int .i64 0) : AV)) fun t4 =>
 letO (some ((.int .i64 1) : AV)) fun t5 =>
endK (.tup [t4, t5]) H6 K) (
 letO (some ((L4.getD 0 .any) : AV)) fun t22 =>
 letO (binF Try.prog .add 3 t22 (.int .i64 1)) fun t23 =>
 letO (some (t23 : AV)) fun t7 =>
 I2 [t7] H6 ∧ μ3 [t7] H6 < μ3 L4 H5)) (
 letO (some (x1 : AV)) fun t30 =>
 letO (idx 1 t30 (.int .i64 0)) fun t31 =>
 letO (load1 t31 H5) fun t32 =>
 letO (binF Try.prog .neq 3 t32 (.int .i64 0)) fun t33 =>
 condA t33 true (
 letO (some ((.int .i64 0) : AV)) fun t4 =>
 letO (some ((.int .i64 14) : AV)) fun t5 =>
endK (.tup [t4, t5]) H5 K) (
 letO (some (x1 : AV)) fun t34 =>
 letO (some (t6 : AV)) fun t35 =>
 letO (binF Try.prog .sub 3 t35 (.int .i64 1)) fun t36 =>
 letO (idx 1 t34 t36) fun t37 =>
 letO (load1 t37 H5) fun t38 =>
 letO (some (t38 : AV)) fun t8 =>
 letO (some ((.int .i64 0) : AV)) fun t9 =>
 true = true ∧ ∃ (I7 : List AV → Heap → Prop) (μ8 : List AV → Heap → Nat), I7 [t8, t9] H5 ∧ ∀ L9 H10, I7 L9 H10 → -- [t8, t9]
 letO (some ((L9.getD 1 .any) : AV)) fun t39 =>
 letO (some (t6 : AV)) fun t40 =>
 letO (binF Try.prog .lss 3 t39 t40) fun t41 =>
 condA t41 true (
 letO (some ((L9.getD 1 .any) : AV)) fun t44 =>
 letO (binF Try.prog .add 3 t44 (.int .i64 1)) fun t45 =>
 letO (some (t45 : AV)) fun t10 =>
 true = true ∧ ∃ (I11 : List AV → Heap → Prop) (μ12 : List AV → Heap → Nat), I11 [(L9.getD 0 .any), t10] H10 ∧ ∀ L13 H14, I11 L13 H14 → -- [t8, t10]
 letO (some ((L13.getD 1 .any) : AV)) fun t46 =>
 letO (some (t6 : AV)) fun t47 =>
 letO (binF Try.prog .leq 3 t46 t47) fun t48 =>
 condA t48 true (
 true = true ∧ ∃ J15 : List AV → Heap → Prop, (
 letO (loadN 2 (.iptr c1) H14) fun t51 =>
 letO (some ((L9.getD 1 .any) : AV)) fun t52 =>
 letO (some ((L13.getD 1 .any) : AV)) fun t53 =>
 ACalls Try.prog 79 [t51, t52, t53] H14 fun t54 H16 =>
 letO (some (t54 : AV)) fun t11 =>
 true = true ∧
 letO (some (t11 : AV)) fun t55 =>
 letO (binF Try.prog .geq 3 t55 (.int .i64 0)) fun t56 =>
 letO (some (t56 : AV)) fun t57 =>
 letO (gval t57 true (some ((L13.getD 1 .any) : AV))) fun t58 =>
 letO (gval t57 true (some (t6 : AV))) fun t59 =>
 letO (gval t57 true (binF Try.prog .lss 3 t58 t59)) fun t60 =>
 letO (pickF t57 t60 (.bool false)) fun t61 =>
 letO (some (t61 : AV)) fun t62 =>
 letO (gval t62 true (some (x1 : AV))) fun t63 =>
 letO (gval t62 true (some ((L13.getD 1 .any) : AV))) fun t64 =>
 letO (gval t62 true (idx 1 t63 t64)) fun t65 =>
 letO (gval t62 true (load1 t65 H16)) fun t66 =>
 letO (gval t62 true (some (x1 : AV))) fun t67 =>
 letO (gval t62 true (some ((L9.getD 1 .any) : AV))) fun t68 =>
 letO (gval t62 true (idx 1 t67 t68)) fun t69 =>
 letO (gval t62 true (load1 t69 H16)) fun t70 =>
 letO (gval t62 true (some (t11 : AV))) fun t71 =>
 letO (gval t62 true (some (t11 : AV))) fun t72 =>
 letO (gval t62 true (binF Try.prog .mul 3 t71 t72)) fun t73 =>
 letO (gval t62 true (binF Try.prog .add 3 t70 t73)) fun t74 =>
 letO (gval t62 true (binF Try.prog .gtr 3 t66 t74)) fun t75 =>
 letO (pickF t62 t75 (.bool false)) fun t76 =>
 condA t76 true (
 letO (some ((.int .i64 0) : AV)) fun t4 =>
 letO (some ((.int .i64 14) : AV)) fun t5 =>
endK (.tup [t4, t5]) H16 K) (
 letO (some (t11 : AV)) fun t77 =>
 letO (binF Try.prog .geq 3 t77 (.int .i64 0)) fun t78 =>
 letO (some (t78 : AV)) fun t79 =>
 letO (gval t79 true (some ((L13.getD 1 .any) : AV))) fun t80 =>
 letO (gval t79 true (some (t6 : AV))) fun t81 =>
 letO (gval t79 true (binF Try.prog .eql 3 t80 t81)) fun t82 =>
 letO (pickF t79 t82 (.bool false)) fun t83 =>
 condA t83 true (
 letO (some ((L13.getD 0 .any) : AV)) fun t84 =>
 letO (some (x1 : AV)) fun t85 =>
 letO (some ((L9.getD 1 .any) : AV)) fun t86 =>
 letO (idx 1 t85 t86) fun t87 =>
 letO (load1 t87 H16) fun t88 =>
 letO (min2F t84 t88) fun t89 =>
 letO (some (t89 : AV)) fun t8 =>
 J15 [t8] H16) (
 J15 [(L13.getD 0 .any)] H16))) ∧ ∀ L17 H18, J15 L17 H18 → -- [t8]
 letO (some ((L13.getD 1 .any) : AV)) fun t49 =>
 letO (binF Try.prog .add 3 t49 (.int .i64 1)) fun t50 =>
 letO (some (t50 : AV)) fun t10 =>
 I11 [(L17.getD 0 .any), t10] H18 ∧ μ12 [(L17.getD 0 .any), t10] H18 < μ12 L13 H14) (
 letO (some ((L9.getD 1 .any) : AV)) fun t42 =>
 letO (binF Try.prog .add 3 t42 (.int .i64 1)) fun t43 =>
 letO (some (t43 : AV)) fun t9 =>
 I7 [(L13.getD 0 .any), t9] H14 ∧ μ8 [(L13.getD 0 .any), t9] H14 < μ8 L9 H10)) (
 letO (some ((L9.getD 0 .any) : AV)) fun t90 =>
 letO (some (t90 : AV)) fun t4 =>
 letO (some ((.int .i64 0) : AV)) fun t5 =>
endK (.tup [t4, t5]) H10 K))))

theorem W71_ok {x0 x1 : AV} {H : Heap} {K : AV → Heap → Prop} (h : W71 x0 x1 H K) : ACalls Try.prog 71 [x0, x1] H K :=
  acallsB (fn := Try.f71) (cfg := cfgOf [] [] [(19, [0, 1, 3, 7, 7, 31, 63, 127, 255, 255, 1023, 2047, 255, 255, 12543, 28927, 255, 255, 196863, 520447, 1048575, 2097151])] [] []) (hh := (.dir .nil (.dir .nil (.dir (.dir .nil (.dir .nil .nil)) (.dir (.dir .nil (.blk (.loop [7] [19, 20, 21, 24, 25, 26, 27, 28, 29, 4, 5, 22, 23, 7] (.dir (.dir .nil .nil) (.dir (.blk (.dir .nil (.dir .nil .nil))) .nil))))) (.dir (.dir .nil (.dir .nil .nil)) (.dir .nil (.dir (.dir .nil (.blk (.loop [8, 9] [39, 40, 41, 44, 45, 10, 46, 47, 48, 51, 52, 53, 54, 11, 55, 56, 57, 58, 59, 60, 61, 62, 63, 64, 65, 66, 67, 68, 69, 70, 71, 72, 73, 74, 75, 76, 4, 5, 77, 78, 79, 80, 81, 82, 83, 84, 85, 86, 87, 88, 89, 8, 49, 50, 42, 43, 9] (.dir (.dir .nil .nil) (.dir (.blk (.dir .nil (.blk (.loop [8, 10] [46, 47, 48, 51, 52, 53, 54, 11, 55, 56, 57, 58, 59, 60, 61, 62, 63, 64, 65, 66, 67, 68, 69, 70, 71, 72, 73, 74, 75, 76, 4, 5, 77, 78, 79, 80, 81, 82, 83, 84, 85, 86, 87, 88, 89, 8, 49, 50, 10] (.dir (.dir .nil .nil) (.cut [8] [51, 52, 53, 54, 11, 55, 56, 57, 58, 59, 60, 61, 62, 63, 64, 65, 66, 67, 68, 69, 70, 71, 72, 73, 74, 75, 76, 4, 5, 77, 78, 79, 80, 81, 82, 83, 84, 85, 86, 87, 88, 89, 8] (.blk (.dir .nil (.dir (.dir .nil (.dir .nil .nil)) (.dir .nil .nil)))) .nil)))))) .nil))))) .nil)))))))) follows Try.func71 (by kernel_rfl) (Nat.le_of_ble_eq_true (by kernel_rfl)) (by kernel_rfl) h

/-- headword.headwordref13.in -/
def W77 (x0 x1 x2 : AV) (H : Heap) (K : AV → Heap → Prop) : Prop :=
 letO (some ((.bool false) : AV)) fun t6 =>
 letO (some (x0 : AV)) fun t7 =>
 letO (some (x1 : AV)) fun t8 =>
 letO (binF Try.prog .geq 3 t7 t8) fun t9 =>
 letO (some (t9 : AV)) fun t10 =>
 letO (gval t10 true (some (x0 : AV))) fun t11 =>
 letO (gval t10 true (some (x2 : AV))) fun t12 =>
 letO (gval t10 true (binF Try.prog .leq 3 t11 t12)) fun t13 =>
 letO (pickF t10 t13 (.bool false)) fun t14 =>
 letO (some (t14 : AV)) fun t6 =>
endK t6 H K

theorem W77_ok {x0 x1 x2 : AV} {H : Heap} {K : AV → Heap → Prop} (h : W77 x0 x1 x2 H K) : ACalls Try.prog 77 [x0, x1, x2] H K :=
  acallsB (fn := Try.f77) (cfg := cfgOf [] [] [] [] []) (hh := (.dir .nil .nil)) follows Try.func77 (by kernel_rfl) (Nat.le_of_ble_eq_true (by kernel_rfl)) (by kernel_rfl) h

/-- headword.headwordref13.begin -/
def W78 (x0 x1 : AV) (H : Heap) (K : AV → Heap → Prop) : Prop :=
 letO (some ((.int .i64 0) : AV)) fun t4 =>
 letO (some (x1 : AV)) fun t5 =>
 letO (binF Try.prog .eql 3 t5 (.int .i64 0)) fun t6 =>
 condA t6 true (
 letO (some ((.int .i64 0) : AV)) fun t4 =>
endK t4 H K) (
 letO (some (x0 : AV)) fun t7 =>
 letO (some (x1 : AV)) fun t8 =>
 letO (binF Try.prog .sub 3 t8 (.int .i64 1)) fun t9 =>
 letO (idx 1 t7 t9) fun t10 =>
 letO (load1 t10 H) fun t11 =>
 letO (some (t11 : AV)) fun t4 =>
endK t4 H K)

theorem W78_ok {x0 x1 : AV} {H : Heap} {K : AV → Heap → Prop} (h : W78 x0 x1 H K) : ACalls Try.prog 78 [x0, x1] H K :=
  acallsB (fn := Try.f78) (cfg := cfgOf [] [] [] [] []) (hh := (.dir .nil (.dir (.dir .nil (.dir .nil .nil)) .nil))) follows Try.func78 (by kernel_rfl) (Nat.le_of_ble_eq_true (by kernel_rfl)) (by kernel_rfl) h

/-- headword.headwordref13.left -/
def W79 (x0 x1 x2 : AV) (H : Heap) (K : AV → Heap → Prop) : Prop :=
 letO (cellsOf? x0) fun c1 =>
 letO (some ((.int .i64 0) : AV)) fun t6 =>
 letO (faddr 0 (.iptr c1)) fun t9 =>
 letO (load1 t9 H) fun t10 =>
 letO (some (x2 : AV)) fun t11 =>
 letO (some (x1 : AV)) fun t12 =>
 letO (binF Try.prog .sub 3 t11 t12) fun t13 =>
 letO (binF Try.prog .sub 3 t13 (.int .i64 1)) fun t14 =>
 letO (binF Try.prog .sub 3 t10 t14) fun t15 =>
 letO (some (t15 : AV)) fun t7 =>
 letO (some (x1 : AV)) fun t16 =>
 letO (some (t16 : AV)) fun t8 =>
 true = true ∧ ∃ (I2 : List AV → Heap → Prop) (μ3 : List AV → Heap → Nat), I2 [t7, t8] H ∧ ∀ L4 H5, I2 L4 H5 → -- [t7, t8]
 letO (some ((L4.getD 1 .any) : AV)) fun t17 =>
 letO (some (x2 : AV)) fun t18 =>
 letO (binF Try.prog .lss 3 t17 t18) fun t19 =>
 condA t19 true (
 letO (some ((L4.getD 0 .any) : AV)) fun t22 =>
 letO (faddr 1 (.iptr c1)) fun t23 =>
 letO (load1 t23 H5) fun t24 =>
 letO (some ((L4.getD 1 .any) : AV)) fun t25 =>
 letO (idx 1 t24 t25) fun t26 =>
 letO (load1 t26 H5) fun t27 =>
 letO (binF Try.prog .sub 3 t22 t27) fun t28 =>
 letO (some (t28 : AV)) fun t7 =>
 letO (some ((L4.getD 1 .any) : AV)) fun t20 =>
 letO (binF Try.prog .add 3 t20 (.int .i64 1)) fun t21 =>
 letO (some (t21 : AV)) fun t8 =>
 I2 [t7, t8] H5 ∧ μ3 [t7, t8] H5 < μ3 L4 H5) (
 letO (some ((L4.getD 0 .any) : AV)) fun t29 =>
 letO (some (t29 : AV)) fun t6 =>
endK t6 H5 K)

theorem W79_ok {x0 x1 x2 : AV} {H : Heap} {K : AV → Heap → Prop} (h : W79 x0 x1 x2 H K) : ACalls Try.prog 79 [x0, x1, x2] H K :=
  acallsB (fn := Try.f79) (cfg := cfgOf [] [] [] [] []) (hh := (.dir .nil (.dir .nil (.dir (.dir .nil (.blk (.loop [7, 8] [17, 18, 19, 22, 23, 24, 25, 26, 27, 28, 7, 20, 21, 8] (.dir (.dir .nil .nil) (.dir .nil .nil))))) .nil)))) follows Try.func79 (by kernel_rfl) (Nat.le_of_ble_eq_true (by kernel_rfl)) (by kernel_rfl) h

/-- headword.headwordlaw13.each$1 -/
def W80 (x0 x1 x2 x3 x4 x5 : AV) (H : Heap) (K : AV → Heap → Prop) : Prop :=
 letO (some (x2 : AV)) fun t12 =>
 letO (faddr 1 x3) fun t13 =>
 letO (load1 t13 H) fun t14 =>
 letO (lenA t14) fun t15 =>
 letO (binF Try.prog .eql 3 t12 t15) fun t16 =>
 condA t16 true (
 letO (load1 x4 H) fun t17 =>
 letO (some (x0 : AV)) fun t18 =>
 letO (some (x1 : AV)) fun t19 =>
 callA Try.prog t17 [t18, t19] (fun t20 H1 =>
endK (.tup []) H1 K) H) (
 letO (some (x0 : AV)) fun t21 =>
 letO (lenA t21) fun t22 =>
 letO (some (t22 : AV)) fun t9 =>
 letO (some (x2 : AV)) fun t23 =>
 letO (binF Try.prog .add 3 t23 (.int .i64 1)) fun t24 =>
 letO (some (t24 : AV)) fun t10 =>
 true = true ∧ ∃ (I2 : List AV → Heap → Prop) (μ3 : List AV → Heap → Nat), I2 [t10] H ∧ ∀ L4 H5, I2 L4 H5 → -- [t10]
 letO (some ((L4.getD 0 .any) : AV)) fun t25 =>
 letO (faddr 1 x3) fun t26 =>
 letO (load1 t26 H5) fun t27 =>
 letO (lenA t27) fun t28 =>
 letO (binF Try.prog .leq 3 t25 t28) fun t29 =>
 condA t29 true (
 true = true ∧ ∃ J6 : List AV → Heap → Prop, (
 letO (loadN 2 x3 H5) fun t32 =>
 letO (some (x2 : AV)) fun t33 =>
 letO (some ((L4.getD 0 .any) : AV)) fun t34 =>
 ACalls Try.prog 43 [t32, t33, t34] H5 fun t35 H7 =>
 letO (some (t35 : AV)) fun t11 =>
 letO (some (t11 : AV)) fun t36 =>
 letO (binF Try.prog .geq 3 t36 (.int .i64 0)) fun t37 =>
 condA t37 true (
 true = true ∧
 letO (load1 x5 H7) fun t38 =>
 letO (some (x0 : AV)) fun t39 =>
 letO (some (t9 : AV)) fun t40 =>
 letO (some (t9 : AV)) fun t41 =>
 letO (slc 1 t39 none (some t40) (some t41)) fun t42 =>
 letO (some ((L4.getD 0 .any) : AV)) fun t43 =>
 letO (literalF Try.prog 22 1 [(0, t43)]) fun c8 =>
 letO (some (x1 : AV)) fun t46 =>
 letO (some (t9 : AV)) fun t47 =>
 letO (some (t9 : AV)) fun t48 =>
 letO (slc 1 t46 none (some t47) (some t48)) fun t49 =>
 letO (some (t11 : AV)) fun t50 =>
 letO (literalF Try.prog 22 1 [(0, t50)]) fun c9 =>
 letO (some ((L4.getD 0 .any) : AV)) fun t53 =>
 isRef t42 = false ∧ appendA 1 8 t42 (.imm 1 true c8) (fun t45 H10 =>
 isRef t49 = false ∧ appendA 1 8 t49 (.imm 1 true c9) (fun t52 H11 =>
 callA Try.prog t38 [t45, t52, t53] (fun t54 H12 =>
 J6 [] H12) H11) H10) H7) (
 J6 [] H7)) ∧ ∀ L13 H14, J6 L13 H14 → -- []
 letO (some ((L4.getD 0 .any) : AV)) fun t30 =>
 letO (binF Try.prog .add 3 t30 (.int .i64 1)) fun t31 =>
 letO (some (t31 : AV)) fun t10 =>
 I2 [t10] H14 ∧ μ3 [t10] H14 < μ3 L4 H5) (
endK (.tup []) H5 K))

theorem W80_ok {x0 x1 x2 x3 x4 x5 : AV} {H : Heap} {K : AV → Heap → Prop} (h : W80 x0 x1 x2 x3 x4 x5 H K) : ACalls Try.prog 80 [x0, x1, x2, x3, x4, x5] H K :=
  acallsB (fn := Try.f80) (cfg := cfgOf [] [] [(8, [0, 0, 0, 0, 14, 0, 32, 126, 0, 0, 0, 1792, 0, 4096, 16382, 0, 65535])] [45, 52] []) (hh := (.dir (.dir .nil (.dir .nil .nil)) (.dir .nil (.dir .nil (.blk (.loop [10] [25, 26, 27, 28, 29, 32, 33, 34, 35, 11, 36, 37, 38, 39, 40, 41, 42, 43, 44, 45, 46, 47, 48, 49, 50, 51, 52, 53, 54, 30, 31, 10] (.dir (.dir .nil .nil) (.cut [] [32, 33, 34, 35, 11, 36, 37, 38, 39, 40, 41, 42, 43, 44, 45, 46, 47, 48, 49, 50, 51, 52, 53, 54] (.blk (.dir .nil (.dir .nil .nil))) .nil)))))))) follows Try.func80 (by kernel_rfl) (Nat.le_of_ble_eq_true (by kernel_rfl)) (by kernel_rfl) h

/-- headword.headwordref13.ended -/
def W82 (x0 x1 : AV) (H : Heap) (K : AV → Heap → Prop) : Prop :=
 letO (cellsOf? x0) fun c1 =>
 letO (some ((.int .i64 0) : AV)) fun t4 =>
 letO (loadN 2 (.iptr c1) H) fun t7 =>
 ACalls Try.prog 51 [t7] H fun t8 H2 =>
 letO (some (t8 : AV)) fun t5 =>
 letO (some ((.int .i64 0) : AV)) fun t6 =>
 true = true ∧ ∃ (I3 : List AV → Heap → Prop) (μ4 : List AV → Heap → Nat), I3 [t5, t6] H2 ∧ ∀ L5 H6, I3 L5 H6 → -- [t5, t6]
 letO (some ((L5.getD 1 .any) : AV)) fun t9 =>
 letO (some (x1 : AV)) fun t10 =>
 letO (lenA t10) fun t11 =>
 letO (binF Try.prog .lss 3 t9 t11) fun t12 =>
 letO (some (t12 : AV)) fun t13 =>
 letO (gval t13 true (some ((L5.getD 0 .any) : AV))) fun t14 =>
 letO (gval t13 true (binF Try.prog .eql 27 t14 (.int .i64 0))) fun t15 =>
 letO (pickF t13 t15 (.bool false)) fun t16 =>
 condA t16 true (
 true = true ∧ ∃ J7 : List AV → Heap → Prop, (
 true = true ∧
 letO (some (x1 : AV)) fun t19 =>
 letO (some ((L5.getD 1 .any) : AV)) fun t20 =>
 letO (idx 1 t19 t20) fun t21 =>
 letO (load1 t21 H6) fun t22 =>
 letO (faddr 1 (.iptr c1)) fun t23 =>
 letO (load1 t23 Heap.none) fun t24 =>
 letO (lenA t24) fun t25 =>
 ACalls Try.prog 77 [t22, (.int .i64 1), t25] H6 fun t26 H8 =>
 letO (unF .not t26) fun t27 =>
 condA t27 true (
 letO (some ((.int .i64 2) : AV)) fun t5 =>
 J7 [t5] H8) (
 true = true ∧
 letO (some ((L5.getD 1 .any) : AV)) fun t28 =>
 letO (binF Try.prog .gtr 3 t28 (.int .i64 0)) fun t29 =>
 letO (some (t29 : AV)) fun t30 =>
 letO (gval t30 true (some (x1 : AV))) fun t31 =>
 letO (gval t30 true (some ((L5.getD 1 .any) : AV))) fun t32 =>
 letO (gval t30 true (idx 1 t31 t32)) fun t33 =>
 letO (gval t30 true (load1 t33 H8)) fun t34 =>
 letO (gval t30 true (some (x1 : AV))) fun t35 =>
 letO (gval t30 true (some ((L5.getD 1 .any) : AV))) fun t36 =>
 letO (gval t30 true (binF Try.prog .sub 3 t36 (.int .i64 1))) fun t37 =>
 letO (gval t30 true (idx 1 t35 t37)) fun t38 =>
 letO (gval t30 true (load1 t38 H8)) fun t39 =>
 letO (gval t30 true (binF Try.prog .leq 3 t34 t39)) fun t40 =>
 letO (pickF t30 t40 (.bool false)) fun t41 =>
 condA t41 true (
 letO (some ((.int .i64 7) : AV)) fun t5 =>
 J7 [t5] H8) (
 J7 [(L5.getD 0 .any)] H8))) ∧ ∀ L9 H10, J7 L9 H10 → -- [t5]
 letO (some ((L5.getD 1 .any) : AV)) fun t17 =>
 letO (binF Try.prog .add 3 t17 (.int .i64 1)) fun t18 =>
 letO (some (t18 : AV)) fun t6 =>
 I3 [(L9.getD 0 .any), t6] H10 ∧ μ4 [(L9.getD 0 .any), t6] H10 < μ4 L5 H6) (
 true = true ∧ ∃ J11 : List AV → Heap → Prop, (
 true = true ∧
 letO (some ((L5.getD 0 .any) : AV)) fun t42 =>
 letO (binF Try.prog .eql 27 t42 (.int .i64 0)) fun t43 =>
 letO (some (t43 : AV)) fun t44 =>
 letO (gval t44 true (some (x1 : AV))) fun t45 =>
 letO (gval t44 true (lenA t45)) fun t46 =>
 letO (gval t44 true (binF Try.prog .eql 3 t46 (.int .i64 0))) fun t47 =>
 letO (gval t44 true (some (t47 : AV))) fun t48 =>
 letO (gval t48 false (some (x1 : AV))) fun t49 =>
 letO (gval t48 false (some (x1 : AV))) fun t50 =>
 letO (gval t48 false (lenA t50)) fun t51 =>
 letO (gval t48 false (binF Try.prog .sub 3 t51 (.int .i64 1))) fun t52 =>
 letO (gval t48 false (idx 1 t49 t52)) fun t53 =>
 letO (gval t48 false (load1 t53 H6)) fun t54 =>
 letO (gval t48 false (faddr 1 (.iptr c1))) fun t55 =>
 letO (gval t48 false (load1 t55 Heap.none)) fun t56 =>
 letO (gval t48 false (lenA t56)) fun t57 =>
 letO (gval t48 false (binF Try.prog .neq 3 t54 t57)) fun t58 =>
 letO (gval t44 true (pickF t48 (.bool true) t58)) fun t59 =>
 letO (pickF t44 t59 (.bool false)) fun t60 =>
 condA t60 true (
 letO (some ((.int .i64 5) : AV)) fun t5 =>
 J11 [t5] H6) (
 J11 [(L5.getD 0 .any)] H6)) ∧ ∀ L12 H13, J11 L12 H13 → -- [t5]
 letO (some ((L12.getD 0 .any) : AV)) fun t61 =>
 letO (some (t61 : AV)) fun t4 =>
endK t4 H13 K)

theorem W82_ok {x0 x1 : AV} {H : Heap} {K : AV → Heap → Prop} (h : W82 x0 x1 H K) : ACalls Try.prog 82 [x0, x1] H K :=
  acallsB (fn := Try.f82) (cfg := cfgOf [] [24, 56] [(5, [0, 0, 3, 7, 0, 16, 48, 127, 255]), (7, [0, 1, 3, 7, 7, 31, 63, 7, 7, 263, 903, 1927, 4095, 8191]), (9, [0, 1, 3, 7, 15, 31, 63, 127, 127, 383, 895, 2047, 4095, 127, 8319, 24703, 65535, 131071, 262143])] [] []) (hh := (.dir .nil (.dir .nil (.dir (.dir .nil (.blk (.loop [5, 6] [9, 10, 11, 12, 13, 14, 15, 16, 19, 20, 21, 22, 23, 24, 25, 26, 27, 5, 28, 29, 30, 31, 32, 33, 34, 35, 36, 37, 38, 39, 40, 41, 17, 18, 6] (.dir (.dir .nil .nil) (.cut [5] [19, 20, 21, 22, 23, 24, 25, 26, 27, 5, 28, 29, 30, 31, 32, 33, 34, 35, 36, 37, 38, 39, 40, 41] (.blk (.dir .nil (.dir .nil (.dir .nil .nil)))) .nil))))) (.cut [5] [42, 43, 44, 45, 46, 47, 48, 49, 50, 51, 52, 53, 54, 55, 56, 57, 58, 59, 60, 5] (.dir .nil .nil) .nil))))) follows Try.func82 (by kernel_rfl) (Nat.le_of_ble_eq_true (by kernel_rfl)) (by kernel_rfl) h

/-- headword.headwordref13.fits -/
def W83 (x0 x1 : AV) (H : Heap) (K : AV → Heap → Prop) : Prop :=
 letO (cellsOf? x0) fun c1 =>
 letO (some ((.bool false) : AV)) fun t4 =>
 letO (some ((.int .i64 0) : AV)) fun t5 =>
 true = true ∧ ∃ (I2 : List AV → Heap → Prop) (μ3 : List AV → Heap → Nat), I2 [t5] H ∧ ∀ L4 H5, I2 L4 H5 → -- [t5]
 letO (some ((L4.getD 0 .any) : AV)) fun t6 =>
 letO (some (x1 : AV)) fun t7 =>
 letO (lenA t7) fun t8 =>
 letO (binF Try.prog .lss 3 t6 t8) fun t9 =>
 condA t9 true (
 true = true ∧
 letO (loadN 2 (.iptr c1) Heap.none) fun t12 =>
 letO (some (x1 : AV)) fun t13 =>
 letO (some ((L4.getD 0 .any) : AV)) fun t14 =>
 ∃ t15, (ACalls Try.prog 78 [t13, t14] H5 fun r h => r = t15 ∧ h = H5) ∧
 letO (some (x1 : AV)) fun t16 =>
 letO (some ((L4.getD 0 .any) : AV)) fun t17 =>
 letO (idx 1 t16 t17) fun t18 =>
 letO (load1 t18 H5) fun t19 =>
 ACalls Try.prog 79 [t12, t15, t19] H5 fun t20 H6 =>
 letO (binF Try.prog .lss 3 t20 (.int .i64 0)) fun t21 =>
 condA t21 true (
 letO (some ((.bool false) : AV)) fun t4 =>
endK t4 H6 K) (
 letO (some ((L4.getD 0 .any) : AV)) fun t10 =>
 letO (binF Try.prog .add 3 t10 (.int .i64 1)) fun t11 =>
 letO (some (t11 : AV)) fun t5 =>
 I2 [t5] H6 ∧ μ3 [t5] H6 < μ3 L4 H5)) (
 letO (some ((.bool true) : AV)) fun t4 =>
endK t4 H5 K)

theorem W83_ok {x0 x1 : AV} {H : Heap} {K : AV → Heap → Prop} (h : W83 x0 x1 H K) : ACalls Try.prog 83 [x0, x1] H K :=
  acallsB (fn := Try.f83) (cfg := cfgOf [] [12] [(4, [0, 0, 0, 6, 0, 0, 48, 112, 255, 511])] [] []) (hh := (.dir .nil (.dir (.dir .nil (.blk (.loop [5] [6, 7, 8, 9, 12, 13, 14, 15, 16, 17, 18, 19, 20, 21, 4, 10, 11, 5] (.dir (.dir .nil .nil) (.dir (.blk (.dir .nil (.dir .nil .nil))) .nil))))) .nil))) follows Try.func83 (by kernel_rfl) (Nat.le_of_ble_eq_true (by kernel_rfl)) (by kernel_rfl) h

/-- headword.headwordlaw13.best$1 -/
def W84 (x0 x1 x2 x3 x4 : AV) (H : Heap) (K : AV → Heap → Prop) : Prop :=
 letO (some (x1 : AV)) fun t8 =>
 letO (some (x1 : AV)) fun t9 =>
 letO (lenA t9) fun t10 =>
 letO (binF Try.prog .sub 3 t10 (.int .i64 1)) fun t11 =>
 letO (slc 1 t8 none (some t11) none) fun t12 =>
 ACalls Try.prog 85 [t12] H fun t13 H1 =>
 letO (some (t13 : AV)) fun t7 =>
 letO (load1 x2 H1) fun t15 =>
 letO (binF Try.prog .eql 3 t15 (.int .i64 0)) fun t16 =>
 letO (some (t16 : AV)) fun t17 =>
 letO (gval t17 false (some (t7 : AV))) fun t18 =>
 letO (gval t17 false (load1 x3 H1)) fun t19 =>
 letO (gval t17 false (binF Try.prog .lss 3 t18 t19)) fun t20 =>
 letO (pickF t17 (.bool true) t20) fun t21 =>
 letO (some (t21 : AV)) fun t14 =>
 condA t14 true (
 letO (some (x0 : AV)) fun t22 =>
 letO (some (t7 : AV)) fun t23 =>
 storeA 1 x4 t22 (fun H2 =>
 storeA 1 x3 t23 (fun H3 =>
 storeA 1 x2 (.int .i64 1) (fun H4 =>
endK (.tup []) H4 K) H3) H2) H1) (
 letO (some (t7 : AV)) fun t25 =>
 letO (load1 x3 H1) fun t26 =>
 letO (binF Try.prog .eql 3 t25 t26) fun t27 =>
 letO (some (t27 : AV)) fun t24 =>
 condA t24 true (
 letO (load1 x2 H1) fun t28 =>
 letO (binF Try.prog .add 3 t28 (.int .i64 1)) fun t29 =>
 storeA 1 x2 t29 (fun H5 =>
endK (.tup []) H5 K) H1) (
endK (.tup []) H1 K))

theorem W84_ok {x0 x1 x2 x3 x4 : AV} {H : Heap} {K : AV → Heap → Prop} (h : W84 x0 x1 x2 x3 x4 H K) : ACalls Try.prog 84 [x0, x1, x2, x3, x4] H K :=
  acallsB (fn := Try.f84) (cfg := cfgOf [] [] [] [] []) (hh := (.dir .nil (.blk (.dir .nil (.dir .nil (.dir .nil .nil)))))) follows Try.func84 (by kernel_rfl) (Nat.le_of_ble_eq_true (by kernel_rfl)) (by kernel_rfl) h

/-- headword.headwordlaw13.squares -/
def W85 (x0 : AV) (H : Heap) (K : AV → Heap → Prop) : Prop :=
 letO (some ((.int .i64 0) : AV)) fun t2 =>
 letO (some ((.int .i64 0) : AV)) fun t3 =>
 letO (some (x0 : AV)) fun t6 =>
 letO (lenA t6) fun t7 =>
 letO (some ((.int .i64 0) : AV)) fun t8 =>
 true = true ∧ ∃ (I1 : List AV → Heap → Prop) (μ2 : List AV → Heap → Nat), I1 [t3, t8] H ∧ ∀ L3 H4, I1 L3 H4 → -- [t3, t8]
 letO (binF Try.prog .lss 3 (L3.getD 1 .any) t7) fun t9 =>
 condA t9 true (
 letO (idx 1 t6 (L3.getD 1 .any)) fun t10 =>
 letO (load1 t10 H4) fun t11 =>
 letO (some (t11 : AV)) fun t5 =>
 letO (some ((L3.getD 0 .any) : AV)) fun t12 =>
 letO (some (t5 : AV)) fun t13 =>
 letO (some (t5 : AV)) fun t14 =>
 letO (binF Try.prog .mul 3 t13 t14) fun t15 =>
 letO (binF Try.prog .add 3 t12 t15) fun t16 =>
 letO (some (t16 : AV)) fun t3 =>
 letO (binF Try.prog .add 3 (L3.getD 1 .any) (.int .i64 1)) fun t17 =>
 letO (some (t17 : AV)) fun t8 =>
 I1 [t3, t8] H4 ∧ μ2 [t3, t8] H4 < μ2 L3 H4) (
 letO (some ((L3.getD 0 .any) : AV)) fun t18 =>
 letO (some (t18 : AV)) fun t2 =>
endK t2 H4 K)

theorem W85_ok {x0 : AV} {H : Heap} {K : AV → Heap → Prop} (h : W85 x0 H K) : ACalls Try.prog 85 [x0] H K :=
  acallsB (fn := Try.f85) (cfg := cfgOf [] [] [] [] []) (hh := (.dir .nil (.dir .nil (.dir (.dir .nil (.blk (.loop [3, 8] [9, 10, 11, 5, 12, 13, 14, 15, 16, 3, 17, 8] (.dir .nil (.dir .nil (.dir .nil .nil)))))) .nil)))) follows Try.func85 (by kernel_rfl) (Nat.le_of_ble_eq_true (by kernel_rfl)) (by kernel_rfl) h

/-- cmp.Less[int] -/
def W86 (x0 x1 : AV) (H : Heap) (K : AV → Heap → Prop) : Prop :=
 letO (some ((.bool false) : AV)) fun t4 =>
 letO (some (x0 : AV)) fun t5 =>
 ACalls Try.prog 94 [t5] H fun t6 H1 =>
 letO (some (t6 : AV)) fun t7 =>
 letO (gval t7 true (some (x1 : AV))) fun t8 =>
 ∃ J2 : AV → Heap → Prop, condG t7 true (ACalls Try.prog 94 [t8] H1 fun t9 H3 =>
 J2 t9 H3) (J2 (.tup []) H1) ∧ ∀ t9 H4, J2 t9 H4 →
 letO (gval t7 true (unF .not t9)) fun t10 =>
 letO (pickF t7 t10 (.bool false)) fun t11 =>
 letO (some (t11 : AV)) fun t12 =>
 letO (gval t12 false (some (x0 : AV))) fun t13 =>
 letO (gval t12 false (some (x1 : AV))) fun t14 =>
 letO (gval t12 false (binF Try.prog .lss 3 t13 t14)) fun t15 =>
 letO (pickF t12 (.bool true) t15) fun t16 =>
 letO (some (t16 : AV)) fun t4 =>
endK t4 H4 K

theorem W86_ok {x0 x1 : AV} {H : Heap} {K : AV → Heap → Prop} (h : W86 x0 x1 H K) : ACalls Try.prog 86 [x0, x1] H K :=
  acallsB (fn := Try.f86) (cfg := cfgOf [] [] [] [] []) (hh := (.dir .nil .nil)) follows Try.func86 (by kernel_rfl) (Nat.le_of_ble_eq_true (by kernel_rfl)) (by kernel_rfl) h

/-- headword.headwordref13.all -/
def W88 (x0 x1 x2 : AV) (H : Heap) (K : AV → Heap → Prop) : Prop :=
 letO (cellsOf? x0) fun c1 =>
 letO (some (.nils : AV)) fun t6 =>
 letO (some (x2 : AV)) fun t10 =>
 letO (some (x2 : AV)) fun t11 =>
 letO (lenA t11) fun t12 =>
 ACalls Try.prog 78 [t10, t12] H fun t13 H2 =>
 letO (some (t13 : AV)) fun t7 =>
 letO (some (t7 : AV)) fun t14 =>
 letO (some (x1 : AV)) fun t15 =>
 letO (binF Try.prog .eql 3 t14 t15) fun t16 =>
 condA t16 true (
 letO (some (x2 : AV)) fun t17 =>
 letO (literalF Try.prog 88 1 [(0, t17)]) fun c3 =>
 letO (some ((.imm 1 true c3) : AV)) fun t6 =>
endK t6 H2 K) (
 letO (some (.nils : AV)) fun t8 =>
 letO (some (t7 : AV)) fun t19 =>
 letO (binF Try.prog .add 3 t19 (.int .i64 1)) fun t20 =>
 letO (some (t20 : AV)) fun t9 =>
 true = true ∧ ∃ (I4 : List AV → Heap → Prop) (μ5 : List AV → Heap → Nat), I4 [t8, t9] H2 ∧ ∀ L6 H7, I4 L6 H7 → -- [t8, t9]
 letO (some ((L6.getD 1 .any) : AV)) fun t21 =>
 letO (some (x1 : AV)) fun t22 =>
 letO (binF Try.prog .leq 3 t21 t22) fun t23 =>
 condA t23 true (
 true = true ∧ ∃ J8 : List AV → Heap → Prop, (
 letO (loadN 2 (.iptr c1) H7) fun t26 =>
 letO (some (t7 : AV)) fun t27 =>
 letO (some ((L6.getD 1 .any) : AV)) fun t28 =>
 ACalls Try.prog 79 [t26, t27, t28] H7 fun t29 H9 =>
 letO (binF Try.prog .geq 3 t29 (.int .i64 0)) fun t30 =>
 condA t30 true (
 true = true ∧
 letO (some ((L6.getD 0 .any) : AV)) fun t31 =>
 letO (loadN 2 (.iptr c1) Heap.none) fun t32 =>
 letO (some (x1 : AV)) fun t33 =>
 letO (literalF Try.prog 22 0 []) fun c10 =>
 letO (some (x2 : AV)) fun t35 =>
 letO (some ((L6.getD 1 .any) : AV)) fun t37 =>
 letO (literalF Try.prog 22 1 [(0, t37)]) fun c11 =>
 isRef (.imm 0 true c10) = false ∧ appendA 1 8 (.imm 0 true c10) t35 (fun t36 H12 =>
 appendA 1 8 t36 (.imm 1 true c11) (fun t39 H13 =>
 ∃ t40, (ACalls Try.prog 88 [t32, t33, t39] H13 fun r h => r = t40 ∧ h = H13) ∧
 appendA 1 24 t31 t40 (fun t41 H14 =>
 letO (some (t41 : AV)) fun t8 =>
 J8 [t8] H14) H13) H12) H9) (
 J8 [(L6.getD 0 .any)] H9)) ∧ ∀ L15 H16, J8 L15 H16 → -- [t8]
 letO (some ((L6.getD 1 .any) : AV)) fun t24 =>
 letO (binF Try.prog .add 3 t24 (.int .i64 1)) fun t25 =>
 letO (some (t25 : AV)) fun t9 =>
 I4 [(L15.getD 0 .any), t9] H16 ∧ μ5 [(L15.getD 0 .any), t9] H16 < μ5 L6 H7) (
 letO (some ((L6.getD 0 .any) : AV)) fun t42 =>
 letO (some (t42 : AV)) fun t6 =>
endK t6 H7 K))

theorem W88_ok {x0 x1 x2 : AV} {H : Heap} {K : AV → Heap → Prop} (h : W88 x0 x1 x2 H K) : ACalls Try.prog 88 [x0, x1, x2] H K :=
  acallsB (fn := Try.f88) (cfg := cfgOf [] [32] [(9, [0, 0, 0, 0, 0, 24, 0, 64, 248, 510, 1023, 2047])] [36] []) (hh := (.dir .nil (.dir .nil (.dir (.dir .nil (.dir .nil .nil)) (.dir .nil (.dir (.dir .nil (.blk (.loop [8, 9] [21, 22, 23, 26, 27, 28, 29, 30, 31, 32, 33, 34, 35, 36, 37, 38, 39, 40, 41, 8, 24, 25, 9] (.dir (.dir .nil .nil) (.cut [8] [26, 27, 28, 29, 30, 31, 32, 33, 34, 35, 36, 37, 38, 39, 40, 41, 8] (.blk (.dir .nil .nil)) .nil))))) .nil)))))) follows Try.func88 (by kernel_rfl) (Nat.le_of_ble_eq_true (by kernel_rfl)) (by kernel_rfl) h

/-- cmp.isNaN[int] -/
def W94 (x0 : AV) (H : Heap) (K : AV → Heap → Prop) : Prop :=
 letO (some ((.bool false) : AV)) fun t2 =>
 letO (some (x0 : AV)) fun t3 =>
 letO (some (x0 : AV)) fun t4 =>
 letO (binF Try.prog .neq 3 t3 t4) fun t5 =>
 letO (some (t5 : AV)) fun t2 =>
endK t2 H K

theorem W94_ok {x0 : AV} {H : Heap} {K : AV → Heap → Prop} (h : W94 x0 H K) : ACalls Try.prog 94 [x0] H K :=
  acallsB (fn := Try.f94) (cfg := cfgOf [] [] [] [] []) (hh := (.dir .nil .nil)) follows Try.func94 (by kernel_rfl) (Nat.le_of_ble_eq_true (by kernel_rfl)) (by kernel_rfl) h


end Go.Proofs.Ytlajhbpkogekfaa
