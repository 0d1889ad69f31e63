import Derived.Test.YtbofkeoebnjjkaaDoorAvB
import Derived.KernelRfl
import Derived.Test.YtbofkeoebnjjkaaDoorChecked
/- The functions of the table package, each in the words of its walk; made by program. No conditions. -/
set_option linter.unusedVariables false
set_option maxRecDepth 100000
namespace Go.Proofs.YtbofkeoebnjjkaaDoor
open Go.Av
theorem follows : Tryd.prog.follows .mixedOrders = true := by kernel_rfl
/-- headword.headwordlaw11.works -/
def W17 (H : Heap) (K : AV → Heap → Prop) : Prop :=
 letO (some ((.bool false) : AV)) fun t0 =>
 ACalls Tryd.prog 65 [] H fun t19 H1 =>
 ACalls Tryd.prog 18 [t19] H1 fun t20 H2 =>
 letO (some (t20 : AV)) fun t18 =>
 letO (extrF t18 0) fun t21 =>
 letO (extrF t18 1) fun t22 =>
 letO (some (t21 : AV)) fun t1 =>
 letO (some (t22 : AV)) fun t2 =>
 ACalls Tryd.prog 63 [] H2 fun t24 H3 =>
 ACalls Tryd.prog 20 [t24] H3 fun t25 H4 =>
 letO (some (t25 : AV)) fun t23 =>
 letO (extrF t23 0) fun t26 =>
 letO (extrF t23 1) fun t27 =>
 letO (some (t26 : AV)) fun t3 =>
 letO (some (t27 : AV)) fun t4 =>
 ACalls Tryd.prog 63 [] H4 fun t29 H5 =>
 ACalls Tryd.prog 22 [t29] H5 fun t30 H6 =>
 letO (some (t30 : AV)) fun t28 =>
 letO (extrF t28 0) fun t31 =>
 letO (extrF t28 1) fun t32 =>
 letO (some (t31 : AV)) fun t5 =>
 letO (some (t32 : AV)) fun t6 =>
 ACalls Tryd.prog 65 [] H6 fun t34 H7 =>
 ACalls Tryd.prog 25 [t34] H7 fun t35 H8 =>
 letO (some (t35 : AV)) fun t33 =>
 letO (extrF t33 0) fun t36 =>
 letO (extrF t33 1) fun t37 =>
 letO (some (t36 : AV)) fun t7 =>
 letO (some (t37 : AV)) fun t8 =>
 ACalls Tryd.prog 64 [] H8 fun t39 H9 =>
 ACalls Tryd.prog 34 [t39] H9 fun t40 H10 =>
 letO (some (t40 : AV)) fun t38 =>
 letO (extrF t38 0) fun t41 =>
 letO (extrF t38 1) fun t42 =>
 letO (extrF t38 2) fun t43 =>
 letO (some (t41 : AV)) fun t9 =>
 letO (some (t42 : AV)) fun t10 =>
 letO (some (t43 : AV)) fun t11 =>
 ACalls Tryd.prog 65 [] H10 fun t45 H11 =>
 ACalls Tryd.prog 38 [t45] H11 fun t46 H12 =>
 letO (some (t46 : AV)) fun t44 =>
 letO (extrF t44 0) fun t47 =>
 letO (extrF t44 1) fun t48 =>
 letO (some (t47 : AV)) fun t12 =>
 letO (some (t48 : AV)) fun t13 =>
 ACalls Tryd.prog 65 [] H12 fun t50 H13 =>
 ACalls Tryd.prog 40 [t50] H13 fun t51 H14 =>
 letO (some (t51 : AV)) fun t49 =>
 letO (extrF t49 0) fun t52 =>
 letO (extrF t49 1) fun t53 =>
 letO (some (t52 : AV)) fun t14 =>
 letO (some (t53 : AV)) fun t15 =>
 letO (some (t2 : AV)) fun t54 =>
 letO (binF Tryd.prog .neq 26 t54 (.int .i64 0)) fun t55 =>
 letO (some (t55 : AV)) fun t56 =>
 letO (gval t56 false (some (t4 : AV))) fun t57 =>
 letO (gval t56 false (binF Tryd.prog .neq 26 t57 (.int .i64 0))) fun t58 =>
 letO (pickF t56 (.bool true) t58) fun t59 =>
 letO (some (t59 : AV)) fun t60 =>
 letO (gval t60 false (some (t6 : AV))) fun t61 =>
 letO (gval t60 false (binF Tryd.prog .neq 26 t61 (.int .i64 0))) fun t62 =>
 letO (pickF t60 (.bool true) t62) fun t63 =>
 letO (some (t63 : AV)) fun t64 =>
 letO (gval t64 false (some (t8 : AV))) fun t65 =>
 letO (gval t64 false (binF Tryd.prog .neq 26 t65 (.int .i64 0))) fun t66 =>
 letO (pickF t64 (.bool true) t66) fun t67 =>
 letO (some (t67 : AV)) fun t68 =>
 letO (gval t68 false (some (t11 : AV))) fun t69 =>
 letO (gval t68 false (binF Tryd.prog .neq 26 t69 (.int .i64 0))) fun t70 =>
 letO (pickF t68 (.bool true) t70) fun t71 =>
 letO (some (t71 : AV)) fun t72 =>
 letO (gval t72 false (some (t13 : AV))) fun t73 =>
 letO (gval t72 false (binF Tryd.prog .neq 26 t73 (.int .i64 0))) fun t74 =>
 letO (pickF t72 (.bool true) t74) fun t75 =>
 letO (some (t75 : AV)) fun t76 =>
 letO (gval t76 false (some (t15 : AV))) fun t77 =>
 letO (gval t76 false (binF Tryd.prog .neq 26 t77 (.int .i64 0))) fun t78 =>
 letO (pickF t76 (.bool true) t78) fun t79 =>
 condA t79 true (
 letO (some ((.bool false) : AV)) fun t0 =>
endK t0 H14 K) (
 letO (literalF Tryd.prog 23 3 [(0, (.int .i64 0)), (1, (.int .i64 1)), (2, (.int .i64 2))]) fun c15 =>
 ACalls Tryd.prog 66 [(.int .i64 1), (.imm 3 true c15)] H14 fun t82 H16 =>
 letO (literalF Tryd.prog 23 3 [(0, (.int .i64 1)), (1, (.int .i64 2)), (2, (.int .i64 0))]) fun c17 =>
 ACalls Tryd.prog 66 [(.int .i64 1), (.imm 3 true c17)] H16 fun t84 H18 =>
 letO (literalF Tryd.prog 42 2 [(0, t82), (1, t84)]) fun c19 =>
 ACalls Tryd.prog 42 [(.int .i64 3), (.imm 2 true c19)] H18 fun t86 H20 =>
 letO (some (t86 : AV)) fun t80 =>
 letO (extrF t80 0) fun t87 =>
 letO (extrF t80 1) fun t88 =>
 letO (some (t87 : AV)) fun t16 =>
 letO (some (t88 : AV)) fun t2 =>
 ACalls Tryd.prog 63 [] H20 fun t90 H21 =>
 ACalls Tryd.prog 27 [t90] H21 fun t91 H22 =>
 letO (some (t91 : AV)) fun t89 =>
 letO (extrF t89 0) fun t92 =>
 letO (extrF t89 1) fun t93 =>
 letO (some (t92 : AV)) fun t17 =>
 letO (some (t93 : AV)) fun t4 =>
 ACalls Tryd.prog 64 [] H22 fun t95 H23 =>
 ACalls Tryd.prog 20 [t95] H23 fun t96 H24 =>
 letO (some (t96 : AV)) fun t94 =>
 letO (extrF t94 0) fun t97 =>
 letO (extrF t94 1) fun t98 =>
 letO (some (t98 : AV)) fun t6 =>
 ACalls Tryd.prog 63 [] H24 fun t100 H25 =>
 ACalls Tryd.prog 34 [t100] H25 fun t101 H26 =>
 letO (some (t101 : AV)) fun t99 =>
 letO (extrF t99 0) fun t102 =>
 letO (extrF t99 1) fun t103 =>
 letO (extrF t99 2) fun t104 =>
 letO (some (t104 : AV)) fun t8 =>
 ACalls Tryd.prog 64 [] H26 fun t106 H27 =>
 ACalls Tryd.prog 38 [t106] H27 fun t107 H28 =>
 letO (some (t107 : AV)) fun t105 =>
 letO (extrF t105 0) fun t108 =>
 letO (extrF t105 1) fun t109 =>
 letO (some (t109 : AV)) fun t11 =>
 letO (literalF Tryd.prog 23 3 [(0, (.int .i64 0)), (1, (.int .i64 1)), (2, (.int .i64 2))]) fun c29 =>
 ACalls Tryd.prog 66 [(.int .i64 10), (.imm 3 true c29)] H28 fun t112 H30 =>
 letO (literalF Tryd.prog 42 1 [(0, t112)]) fun c31 =>
 ACalls Tryd.prog 42 [(.int .i64 3), (.imm 1 true c31)] H30 fun t114 H32 =>
 letO (some (t114 : AV)) fun t110 =>
 letO (extrF t110 0) fun t115 =>
 letO (extrF t110 1) fun t116 =>
 letO (some (t116 : AV)) fun t13 =>
 letO (some (t2 : AV)) fun t117 =>
 letO (binF Tryd.prog .eql 26 t117 (.int .i64 0)) fun t118 =>
 letO (some (t118 : AV)) fun t119 =>
 letO (gval t119 true (some (t4 : AV))) fun t120 =>
 letO (gval t119 true (binF Tryd.prog .eql 26 t120 (.int .i64 0))) fun t121 =>
 letO (pickF t119 t121 (.bool false)) fun t122 =>
 letO (some (t122 : AV)) fun t123 =>
 letO (gval t123 true (some (t6 : AV))) fun t124 =>
 letO (gval t123 true (binF Tryd.prog .eql 26 t124 (.int .i64 12))) fun t125 =>
 letO (pickF t123 t125 (.bool false)) fun t126 =>
 letO (some (t126 : AV)) fun t127 =>
 letO (gval t127 true (some (t8 : AV))) fun t128 =>
 letO (gval t127 true (binF Tryd.prog .eql 26 t128 (.int .i64 13))) fun t129 =>
 letO (pickF t127 t129 (.bool false)) fun t130 =>
 letO (some (t130 : AV)) fun t131 =>
 letO (gval t131 true (some (t11 : AV))) fun t132 =>
 letO (gval t131 true (binF Tryd.prog .eql 26 t132 (.int .i64 17))) fun t133 =>
 letO (pickF t131 t133 (.bool false)) fun t134 =>
 letO (some (t134 : AV)) fun t135 =>
 letO (gval t135 true (some (t13 : AV))) fun t136 =>
 letO (gval t135 true (binF Tryd.prog .eql 26 t136 (.int .i64 15))) fun t137 =>
 letO (pickF t135 t137 (.bool false)) fun t138 =>
 letO (some (t138 : AV)) fun t139 =>
 letO (gval t139 true (some (t1 : AV))) fun t140 =>
 letO (gval t139 true (binF Tryd.prog .eql 3 t140 (.int .i64 4))) fun t141 =>
 letO (pickF t139 t141 (.bool false)) fun t142 =>
 letO (some (t142 : AV)) fun t143 =>
 letO (gval t143 true (some (t3 : AV))) fun t144 =>
 letO (gval t143 true ((literalF Tryd.prog 23 3 [(0, (.int .i64 0)), (1, (.int .i64 1)), (2, (.int .i64 2))]).map (.imm 3 true))) fun t145 =>
 ∃ J33 : AV → Heap → Prop, condG t143 true (ACalls Tryd.prog 68 [t145] H32 fun t146 H34 =>
 J33 t146 H34) (J33 (.tup []) H32) ∧ ∀ t146 H35, J33 t146 H35 →
 ∃ J36 : AV → Heap → Prop, condG t143 true (ACalls Tryd.prog 24 [t144, t146] H35 fun t147 H37 =>
 J36 t147 H37) (J36 (.tup []) H35) ∧ ∀ t147 H38, J36 t147 H38 →
 letO (pickF t143 t147 (.bool false)) fun t148 =>
 letO (some (t148 : AV)) fun t149 =>
 letO (gval t149 true (some (t5 : AV))) fun t150 =>
 letO (gval t149 true (binF Tryd.prog .eql 3 t150 (.int .i64 2))) fun t151 =>
 letO (pickF t149 t151 (.bool false)) fun t152 =>
 letO (some (t152 : AV)) fun t153 =>
 letO (gval t153 true (some (t7 : AV))) fun t154 =>
 letO (gval t153 true (binF Tryd.prog .eql 3 t154 (.int .i64 16))) fun t155 =>
 letO (pickF t153 t155 (.bool false)) fun t156 =>
 letO (some (t156 : AV)) fun t157 =>
 letO (gval t157 true (some (t9 : AV))) fun t158 =>
 letO (gval t157 true ((literalF Tryd.prog 23 2 [(0, (.int .i64 0)), (1, (.int .i64 1))]).map (.imm 2 true))) fun t159 =>
 ∃ J39 : AV → Heap → Prop, condG t157 true (ACalls Tryd.prog 68 [t159] H38 fun t160 H40 =>
 J39 t160 H40) (J39 (.tup []) H38) ∧ ∀ t160 H41, J39 t160 H41 →
 ∃ J42 : AV → Heap → Prop, condG t157 true (ACalls Tryd.prog 24 [t158, t160] H41 fun t161 H43 =>
 J42 t161 H43) (J42 (.tup []) H41) ∧ ∀ t161 H44, J42 t161 H44 →
 letO (pickF t157 t161 (.bool false)) fun t162 =>
 letO (some (t162 : AV)) fun t163 =>
 letO (gval t163 true (some (t10 : AV))) fun t164 =>
 letO (gval t163 true ((literalF Tryd.prog 23 2 [(0, (.int .i64 1)), (1, (.int .i64 2))]).map (.imm 2 true))) fun t165 =>
 ∃ J45 : AV → Heap → Prop, condG t163 true (ACalls Tryd.prog 68 [t165] H44 fun t166 H46 =>
 J45 t166 H46) (J45 (.tup []) H44) ∧ ∀ t166 H47, J45 t166 H47 →
 ∃ J48 : AV → Heap → Prop, condG t163 true (ACalls Tryd.prog 24 [t164, t166] H47 fun t167 H49 =>
 J48 t167 H49) (J48 (.tup []) H47) ∧ ∀ t167 H50, J48 t167 H50 →
 letO (pickF t163 t167 (.bool false)) fun t168 =>
 letO (some (t168 : AV)) fun t169 =>
 letO (gval t169 true (some (t12 : AV))) fun t170 =>
 letO (gval t169 true ((literalF Tryd.prog 23 3 [(0, (.int .i64 0)), (1, (.int .i64 1)), (2, (.int .i64 2))]).map (.imm 3 true))) fun t171 =>
 ∃ J51 : AV → Heap → Prop, condG t169 true (ACalls Tryd.prog 66 [(.int .i64 2), t171] H50 fun t172 H52 =>
 J51 t172 H52) (J51 (.tup []) H50) ∧ ∀ t172 H53, J51 t172 H53 →
 letO (gval t169 true ((literalF Tryd.prog 23 3 [(0, (.int .i64 1)), (1, (.int .i64 2)), (2, (.int .i64 0))]).map (.imm 3 true))) fun t173 =>
 ∃ J54 : AV → Heap → Prop, condG t169 true (ACalls Tryd.prog 66 [(.int .i64 1), t173] H53 fun t174 H55 =>
 J54 t174 H55) (J54 (.tup []) H53) ∧ ∀ t174 H56, J54 t174 H56 →
 letO (gval t169 true ((literalF Tryd.prog 23 3 [(0, (.int .i64 2)), (1, (.int .i64 0)), (2, (.int .i64 1))]).map (.imm 3 true))) fun t175 =>
 ∃ J57 : AV → Heap → Prop, condG t169 true (ACalls Tryd.prog 66 [(.int .i64 1), t175] H56 fun t176 H58 =>
 J57 t176 H58) (J57 (.tup []) H56) ∧ ∀ t176 H59, J57 t176 H59 →
 letO (gval t169 true ((literalF Tryd.prog 42 3 [(0, t172), (1, t174), (2, t176)]).map (.imm 3 true))) fun t177 =>
 ∃ J60 : AV → Heap → Prop, condG t169 true (ACalls Tryd.prog 67 [t170, t177] H59 fun t178 H61 =>
 J60 t178 H61) (J60 (.tup []) H59) ∧ ∀ t178 H62, J60 t178 H62 →
 letO (pickF t169 t178 (.bool false)) fun t179 =>
 letO (some (t179 : AV)) fun t180 =>
 letO (gval t180 true (some (t14 : AV))) fun t181 =>
 letO (gval t180 true (binF Tryd.prog .eql 3 t181 (.int .i64 2))) fun t182 =>
 letO (pickF t180 t182 (.bool false)) fun t183 =>
 letO (some (t183 : AV)) fun t184 =>
 letO (gval t184 true (some (t16 : AV))) fun t185 =>
 ∃ J63 : AV → Heap → Prop, condG t184 true (ACalls Tryd.prog 63 [] H62 fun t186 H64 =>
 J63 t186 H64) (J63 (.tup []) H62) ∧ ∀ t186 H65, J63 t186 H65 →
 ∃ J66 : AV → Heap → Prop, condG t184 true (ACalls Tryd.prog 29 [t185, t186] H65 fun t187 H67 =>
 J66 t187 H67) (J66 (.tup []) H65) ∧ ∀ t187 H68, J66 t187 H68 →
 letO (pickF t184 t187 (.bool false)) fun t188 =>
 letO (some (t188 : AV)) fun t189 =>
 letO (gval t189 true (some (t17 : AV))) fun t190 =>
 letO (gval t189 true ((literalF Tryd.prog 23 3 [(0, (.int .i64 1)), (1, (.int .i64 0)), (2, (.int .i64 1))]).map (.imm 3 true))) fun t191 =>
 ∃ J69 : AV → Heap → Prop, condG t189 true (ACalls Tryd.prog 68 [t191] H68 fun t192 H70 =>
 J69 t192 H70) (J69 (.tup []) H68) ∧ ∀ t192 H71, J69 t192 H71 →
 letO (gval t189 true ((literalF Tryd.prog 23 3 [(0, (.int .i64 1)), (1, (.int .i64 1)), (2, (.int .i64 0))]).map (.imm 3 true))) fun t193 =>
 ∃ J72 : AV → Heap → Prop, condG t189 true (ACalls Tryd.prog 68 [t193] H71 fun t194 H73 =>
 J72 t194 H73) (J72 (.tup []) H71) ∧ ∀ t194 H74, J72 t194 H74 →
 letO (gval t189 true ((literalF Tryd.prog 23 3 [(0, (.int .i64 0)), (1, (.int .i64 1)), (2, (.int .i64 1))]).map (.imm 3 true))) fun t195 =>
 ∃ J75 : AV → Heap → Prop, condG t189 true (ACalls Tryd.prog 68 [t195] H74 fun t196 H76 =>
 J75 t196 H76) (J75 (.tup []) H74) ∧ ∀ t196 H77, J75 t196 H77 →
 letO (gval t189 true ((literalF Tryd.prog 22 3 [(0, t192), (1, t194), (2, t196)]).map (.imm 3 true))) fun t197 =>
 ∃ J78 : AV → Heap → Prop, condG t189 true (ACalls Tryd.prog 69 [t197] H77 fun t198 H79 =>
 J78 t198 H79) (J78 (.tup []) H77) ∧ ∀ t198 H80, J78 t198 H80 →
 ∃ J81 : AV → Heap → Prop, condG t189 true (ACalls Tryd.prog 29 [t190, t198] H80 fun t199 H82 =>
 J81 t199 H82) (J81 (.tup []) H80) ∧ ∀ t199 H83, J81 t199 H83 →
 letO (pickF t189 t199 (.bool false)) fun t200 =>
 letO (some (t200 : AV)) fun t201 =>
 ∃ J84 : AV → Heap → Prop, condG t201 true (ACalls Tryd.prog 63 [] H83 fun t202 H85 =>
 J84 t202 H85) (J84 (.tup []) H83) ∧ ∀ t202 H86, J84 t202 H86 →
 letO (gval t201 true ((literalF Tryd.prog 23 3 [(0, (.int .i64 1)), (1, (.int .i64 2)), (2, (.int .i64 0))]).map (.imm 3 true))) fun t203 =>
 ∃ J87 : AV → Heap → Prop, condG t201 true (ACalls Tryd.prog 68 [t203] H86 fun t204 H88 =>
 J87 t204 H88) (J87 (.tup []) H86) ∧ ∀ t204 H89, J87 t204 H89 →
 ∃ J90 : AV → Heap → Prop, condG t201 true (ACalls Tryd.prog 32 [t202, t204] H89 fun t205 H91 =>
 J90 t205 H91) (J90 (.tup []) H89) ∧ ∀ t205 H92, J90 t205 H92 →
 letO (gval t201 true (binF Tryd.prog .eql 26 t205 (.int .i64 0))) fun t206 =>
 letO (pickF t201 t206 (.bool false)) fun t207 =>
 letO (some (t207 : AV)) fun t208 =>
 ∃ J93 : AV → Heap → Prop, condG t208 true (ACalls Tryd.prog 63 [] H92 fun t209 H94 =>
 J93 t209 H94) (J93 (.tup []) H92) ∧ ∀ t209 H95, J93 t209 H95 →
 letO (gval t208 true ((literalF Tryd.prog 23 3 [(0, (.int .i64 0)), (1, (.int .i64 2)), (2, (.int .i64 1))]).map (.imm 3 true))) fun t210 =>
 ∃ J96 : AV → Heap → Prop, condG t208 true (ACalls Tryd.prog 68 [t210] H95 fun t211 H97 =>
 J96 t211 H97) (J96 (.tup []) H95) ∧ ∀ t211 H98, J96 t211 H98 →
 ∃ J99 : AV → Heap → Prop, condG t208 true (ACalls Tryd.prog 32 [t209, t211] H98 fun t212 H100 =>
 J99 t212 H100) (J99 (.tup []) H98) ∧ ∀ t212 H101, J99 t212 H101 →
 letO (gval t208 true (binF Tryd.prog .eql 26 t212 (.int .i64 12))) fun t213 =>
 letO (pickF t208 t213 (.bool false)) fun t214 =>
 letO (some (t214 : AV)) fun t215 =>
 ∃ J102 : AV → Heap → Prop, condG t215 true (ACalls Tryd.prog 64 [] H101 fun t216 H103 =>
 J102 t216 H103) (J102 (.tup []) H101) ∧ ∀ t216 H104, J102 t216 H104 →
 letO (gval t215 true ((literalF Tryd.prog 23 2 [(0, (.int .i64 0)), (1, (.int .i64 1))]).map (.imm 2 true))) fun t217 =>
 ∃ J105 : AV → Heap → Prop, condG t215 true (ACalls Tryd.prog 68 [t217] H104 fun t218 H106 =>
 J105 t218 H106) (J105 (.tup []) H104) ∧ ∀ t218 H107, J105 t218 H107 →
 letO (gval t215 true ((literalF Tryd.prog 23 2 [(0, (.int .i64 1)), (1, (.int .i64 2))]).map (.imm 2 true))) fun t219 =>
 ∃ J108 : AV → Heap → Prop, condG t215 true (ACalls Tryd.prog 68 [t219] H107 fun t220 H109 =>
 J108 t220 H109) (J108 (.tup []) H107) ∧ ∀ t220 H110, J108 t220 H110 →
 ∃ J111 : AV → Heap → Prop, condG t215 true (ACalls Tryd.prog 36 [t216, t218, t220] H110 fun t221 H112 =>
 J111 t221 H112) (J111 (.tup []) H110) ∧ ∀ t221 H113, J111 t221 H113 →
 letO (gval t215 true (binF Tryd.prog .eql 26 t221 (.int .i64 0))) fun t222 =>
 letO (pickF t215 t222 (.bool false)) fun t223 =>
 letO (some (t223 : AV)) fun t224 =>
 ∃ J114 : AV → Heap → Prop, condG t224 true (ACalls Tryd.prog 64 [] H113 fun t225 H115 =>
 J114 t225 H115) (J114 (.tup []) H113) ∧ ∀ t225 H116, J114 t225 H116 →
 letO (gval t224 true ((literalF Tryd.prog 23 1 [(0, (.int .i64 0))]).map (.imm 1 true))) fun t226 =>
 ∃ J117 : AV → Heap → Prop, condG t224 true (ACalls Tryd.prog 68 [t226] H116 fun t227 H118 =>
 J117 t227 H118) (J117 (.tup []) H116) ∧ ∀ t227 H119, J117 t227 H119 →
 letO (gval t224 true ((literalF Tryd.prog 23 2 [(0, (.int .i64 1)), (1, (.int .i64 2))]).map (.imm 2 true))) fun t228 =>
 ∃ J120 : AV → Heap → Prop, condG t224 true (ACalls Tryd.prog 68 [t228] H119 fun t229 H121 =>
 J120 t229 H121) (J120 (.tup []) H119) ∧ ∀ t229 H122, J120 t229 H122 →
 ∃ J123 : AV → Heap → Prop, condG t224 true (ACalls Tryd.prog 36 [t225, t227, t229] H122 fun t230 H124 =>
 J123 t230 H124) (J123 (.tup []) H122) ∧ ∀ t230 H125, J123 t230 H125 →
 letO (gval t224 true (binF Tryd.prog .eql 26 t230 (.int .i64 14))) fun t231 =>
 letO (pickF t224 t231 (.bool false)) fun t232 =>
 letO (some (t232 : AV)) fun t0 =>
endK t0 H125 K)

theorem W17_ok {H : Heap} {K : AV → Heap → Prop} (h : W17 H K) : ACalls Tryd.prog 17 [] H K :=
  acallsB (fn := Tryd.f17) (cfg := cfgOf [] [] [] [] []) (hh := (.dir .nil (.dir .nil (.dir .nil (.dir .nil (.dir .nil (.dir .nil (.dir .nil (.dir .nil (.dir (.dir .nil (.dir .nil .nil)) (.dir .nil (.dir .nil (.dir .nil (.dir .nil (.dir .nil (.dir .nil .nil)))))))))))))))) follows Tryd.func17 (by kernel_rfl) (Nat.le_of_ble_eq_true (by kernel_rfl)) (by kernel_rfl) h

/-- headword.table.Even -/
def W18 (x0 : AV) (H : Heap) (K : AV → Heap → Prop) : Prop :=
 letO (some ((.int .i64 0) : AV)) fun t2 =>
 letO (some ((.int .i64 0) : AV)) fun t3 =>
 letO (some (x0 : AV)) fun t8 =>
 ACalls Tryd.prog 30 [t8] H fun t9 H1 =>
 letO (some (t9 : AV)) fun t4 =>
 letO (some (t4 : AV)) fun t10 =>
 letO (binF Tryd.prog .neq 26 t10 (.int .i64 0)) fun t11 =>
 condA t11 true (
 letO (some (t4 : AV)) fun t12 =>
 letO (some ((.int .i64 0) : AV)) fun t2 =>
 letO (some (t12 : AV)) fun t3 =>
endK (.tup [t2, t3]) H1 K) (
 letO (some (x0 : AV)) fun t13 =>
 letO (idx 1 t13 (.int .i64 0)) fun t14 =>
 letO (load1 t14 H1) fun t15 =>
 ACalls Tryd.prog 70 [t15] H1 fun t16 H2 =>
 letO (some (t16 : AV)) fun t5 =>
 letO (some (x0 : AV)) fun t17 =>
 ACalls Tryd.prog 71 [t17] H2 fun t18 H3 =>
 letO (some (x0 : AV)) fun t19 =>
 appendA 1 24 t18 t19 (fun t20 H4 =>
 letO (lenA t20) fun t21 =>
 letO (some ((.int .i64 0) : AV)) fun t22 =>
 true = true ∧ ∃ (I5 : List AV → Heap → Prop) (μ6 : List AV → Heap → Nat), I5 [t22] H4 ∧ ∀ L7 H8, I5 L7 H8 → -- [t22]
 letO (binF Tryd.prog .lss 3 (L7.getD 0 .any) t21) fun t23 =>
 condA t23 true (
 letO (idx 1 t20 (L7.getD 0 .any)) fun t24 =>
 letO (load1 t24 H8) fun t25 =>
 letO (some (t25 : AV)) fun t7 =>
 letO (some (t7 : AV)) fun t26 =>
 ACalls Tryd.prog 70 [t26] H8 fun t27 H9 =>
 letO (some (t5 : AV)) fun t28 =>
 letO (binF Tryd.prog .neq 3 t27 t28) fun t29 =>
 condA t29 true (
 letO (some ((.int .i64 0) : AV)) fun t2 =>
 letO (some ((.int .i64 17) : AV)) fun t3 =>
endK (.tup [t2, t3]) H9 K) (
 letO (binF Tryd.prog .add 3 (L7.getD 0 .any) (.int .i64 1)) fun t30 =>
 letO (some (t30 : AV)) fun t22 =>
 I5 [t22] H9 ∧ μ6 [t22] H9 < μ6 L7 H8)) (
 letO (some (t5 : AV)) fun t31 =>
 letO (some (t31 : AV)) fun t2 =>
 letO (some ((.int .i64 0) : AV)) fun t3 =>
endK (.tup [t2, t3]) H8 K)) H3)

theorem W18_ok {x0 : AV} {H : Heap} {K : AV → Heap → Prop} (h : W18 x0 H K) : ACalls Tryd.prog 18 [x0] H K :=
  acallsB (fn := Tryd.f18) (cfg := cfgOf [] [] [] [] []) (hh := (.dir .nil (.dir (.dir .nil (.dir .nil (.dir .nil .nil))) (.dir .nil (.dir (.dir .nil (.blk (.loop [22] [23, 24, 25, 7, 26, 27, 28, 29, 2, 3, 30, 22] (.dir .nil (.dir .nil (.dir (.blk (.dir .nil (.dir .nil (.dir .nil .nil)))) .nil)))))) .nil))))) follows Tryd.func18 (by kernel_rfl) (Nat.le_of_ble_eq_true (by kernel_rfl)) (by kernel_rfl) h

/-- headword.table.First -/
def W20 (x0 : AV) (H : Heap) (K : AV → Heap → Prop) : Prop :=
 letO (some (.nils : AV)) fun t2 =>
 letO (some ((.int .i64 0) : AV)) fun t3 =>
 letO (some (x0 : AV)) fun t7 =>
 ACalls Tryd.prog 30 [t7] H fun t8 H1 =>
 letO (some (t8 : AV)) fun t4 =>
 letO (some (t4 : AV)) fun t9 =>
 letO (binF Tryd.prog .neq 26 t9 (.int .i64 0)) fun t10 =>
 condA t10 true (
 letO (some (t4 : AV)) fun t11 =>
 letO (some (.nils : AV)) fun t2 =>
 letO (some (t11 : AV)) fun t3 =>
endK (.tup [t2, t3]) H1 K) (
 letO (some (x0 : AV)) fun t13 =>
 ACalls Tryd.prog 73 [t13] H1 fun t14 H2 =>
 letO (some (t14 : AV)) fun t12 =>
 letO (extrF t12 0) fun t15 =>
 letO (extrF t12 1) fun t16 =>
 letO (some (t15 : AV)) fun t5 =>
 letO (some (t16 : AV)) fun t6 =>
 letO (some (t5 : AV)) fun t17 =>
 letO (binF Tryd.prog .eql 23 t17 .nils) fun t18 =>
 condA t18 true (
 letO (some (.nils : AV)) fun t2 =>
 letO (some ((.int .i64 12) : AV)) fun t3 =>
endK (.tup [t2, t3]) H2 K) (
 letO (some (t5 : AV)) fun t19 =>
 letO (some (t19 : AV)) fun t2 =>
 letO (some ((.int .i64 0) : AV)) fun t3 =>
endK (.tup [t2, t3]) H2 K))

theorem W20_ok {x0 : AV} {H : Heap} {K : AV → Heap → Prop} (h : W20 x0 H K) : ACalls Tryd.prog 20 [x0] H K :=
  acallsB (fn := Tryd.f20) (cfg := cfgOf [] [] [] [] []) (hh := (.dir .nil (.dir (.dir .nil (.dir .nil (.dir .nil .nil))) (.dir .nil (.dir (.dir .nil (.dir .nil .nil)) .nil))))) follows Tryd.func20 (by kernel_rfl) (Nat.le_of_ble_eq_true (by kernel_rfl)) (by kernel_rfl) h

/-- headword.table.Count -/
def W22 (x0 : AV) (H : Heap) (K : AV → Heap → Prop) : Prop :=
 letO (some ((.int .i64 0) : AV)) fun t2 =>
 letO (some ((.int .i64 0) : AV)) fun t3 =>
 letO (some (x0 : AV)) fun t8 =>
 ACalls Tryd.prog 75 [t8] H fun t9 H1 =>
 letO (some (t9 : AV)) fun t7 =>
 letO (extrF t7 0) fun t10 =>
 letO (extrF t7 1) fun t11 =>
 letO (extrF t7 2) fun t12 =>
 letO (some (t10 : AV)) fun t4 =>
 letO (some (t11 : AV)) fun t5 =>
 letO (some (t12 : AV)) fun t6 =>
 letO (some (t4 : AV)) fun t13 =>
 letO (some (t6 : AV)) fun t14 =>
 letO (some (t13 : AV)) fun t2 =>
 letO (some (t14 : AV)) fun t3 =>
endK (.tup [t2, t3]) H1 K

theorem W22_ok {x0 : AV} {H : Heap} {K : AV → Heap → Prop} (h : W22 x0 H K) : ACalls Tryd.prog 22 [x0] H K :=
  acallsB (fn := Tryd.f22) (cfg := cfgOf [] [] [] [] []) (hh := (.dir .nil (.dir .nil .nil))) follows Tryd.func22 (by kernel_rfl) (Nat.le_of_ble_eq_true (by kernel_rfl)) (by kernel_rfl) h

/-- headword.headwordlaw11.same -/
def W24 (x0 x1 : AV) (H : Heap) (K : AV → Heap → Prop) : Prop :=
 letO (some ((.bool false) : AV)) fun t4 =>
 letO (some (x0 : AV)) fun t6 =>
 letO (lenA t6) fun t7 =>
 letO (some (x1 : AV)) fun t8 =>
 letO (lenA t8) fun t9 =>
 letO (binF Tryd.prog .neq 3 t7 t9) fun t10 =>
 condA t10 true (
 letO (some ((.bool false) : AV)) fun t4 =>
endK t4 H K) (
 letO (some ((.int .i64 0) : AV)) fun t5 =>
 true = true ∧ ∃ (I1 : List AV → Heap → Prop) (μ2 : List AV → Heap → Nat), I1 [t5] H ∧ ∀ L3 H4, I1 L3 H4 → -- [t5]
 letO (some ((L3.getD 0 .any) : AV)) fun t11 =>
 letO (some (x0 : AV)) fun t12 =>
 letO (lenA t12) fun t13 =>
 letO (binF Tryd.prog .lss 3 t11 t13) fun t14 =>
 condA t14 true (
 true = true ∧
 letO (some (x0 : AV)) fun t17 =>
 letO (some ((L3.getD 0 .any) : AV)) fun t18 =>
 letO (idx 1 t17 t18) fun t19 =>
 letO (load1 t19 H4) fun t20 =>
 letO (some (x1 : AV)) fun t21 =>
 letO (some ((L3.getD 0 .any) : AV)) fun t22 =>
 letO (idx 1 t21 t22) fun t23 =>
 letO (load1 t23 H4) fun t24 =>
 letO (binF Tryd.prog .neq 3 t20 t24) fun t25 =>
 condA t25 true (
 letO (some ((.bool false) : AV)) fun t4 =>
endK t4 H4 K) (
 letO (some ((L3.getD 0 .any) : AV)) fun t15 =>
 letO (binF Tryd.prog .add 3 t15 (.int .i64 1)) fun t16 =>
 letO (some (t16 : AV)) fun t5 =>
 I1 [t5] H4 ∧ μ2 [t5] H4 < μ2 L3 H4)) (
 letO (some ((.bool true) : AV)) fun t4 =>
endK t4 H4 K))

theorem W24_ok {x0 x1 : AV} {H : Heap} {K : AV → Heap → Prop} (h : W24 x0 x1 H K) : ACalls Tryd.prog 24 [x0, x1] H K :=
  acallsB (fn := Tryd.f24) (cfg := cfgOf [] [] [(6, [0, 0, 3, 7, 0, 0, 48, 112, 255])] [] []) (hh := (.dir .nil (.dir (.dir .nil (.dir .nil .nil)) (.dir (.dir .nil (.blk (.loop [5] [11, 12, 13, 14, 17, 18, 19, 20, 21, 22, 23, 24, 25, 4, 15, 16, 5] (.dir (.dir .nil .nil) (.dir (.blk (.dir .nil (.dir .nil .nil))) .nil))))) .nil)))) follows Tryd.func24 (by kernel_rfl) (Nat.le_of_ble_eq_true (by kernel_rfl)) (by kernel_rfl) h

/-- headword.table.Weight -/
def W25 (x0 : AV) (H : Heap) (K : AV → Heap → Prop) : Prop :=
 letO (some ((.int .i64 0) : AV)) fun t2 =>
 letO (some ((.int .i64 0) : AV)) fun t3 =>
 letO (some (x0 : AV)) fun t8 =>
 ACalls Tryd.prog 75 [t8] H fun t9 H1 =>
 letO (some (t9 : AV)) fun t7 =>
 letO (extrF t7 0) fun t10 =>
 letO (extrF t7 1) fun t11 =>
 letO (extrF t7 2) fun t12 =>
 letO (some (t10 : AV)) fun t4 =>
 letO (some (t11 : AV)) fun t5 =>
 letO (some (t12 : AV)) fun t6 =>
 letO (some (t5 : AV)) fun t13 =>
 letO (some (t6 : AV)) fun t14 =>
 letO (some (t13 : AV)) fun t2 =>
 letO (some (t14 : AV)) fun t3 =>
endK (.tup [t2, t3]) H1 K

theorem W25_ok {x0 : AV} {H : Heap} {K : AV → Heap → Prop} (h : W25 x0 H K) : ACalls Tryd.prog 25 [x0] H K :=
  acallsB (fn := Tryd.f25) (cfg := cfgOf [] [] [] [] []) (hh := (.dir .nil (.dir .nil .nil))) follows Tryd.func25 (by kernel_rfl) (Nat.le_of_ble_eq_true (by kernel_rfl)) (by kernel_rfl) h

/-- headword.table.Turn -/
def W27 (x0 : AV) (H : Heap) (K : AV → Heap → Prop) : Prop :=
 letO (some (.nils : AV)) fun t2 =>
 letO (some ((.int .i64 0) : AV)) fun t3 =>
 letO (some (x0 : AV)) fun t5 =>
 ACalls Tryd.prog 30 [t5] H fun t6 H1 =>
 letO (some (t6 : AV)) fun t4 =>
 letO (some (t4 : AV)) fun t7 =>
 letO (binF Tryd.prog .neq 26 t7 (.int .i64 0)) fun t8 =>
 condA t8 true (
 letO (some (t4 : AV)) fun t9 =>
 letO (some (.nils : AV)) fun t2 =>
 letO (some (t9 : AV)) fun t3 =>
endK (.tup [t2, t3]) H1 K) (
 letO (some (x0 : AV)) fun t10 =>
 ACalls Tryd.prog 71 [t10] H1 fun t11 H2 =>
 letO (some (t11 : AV)) fun t2 =>
 letO (some ((.int .i64 0) : AV)) fun t3 =>
endK (.tup [t2, t3]) H2 K)

theorem W27_ok {x0 : AV} {H : Heap} {K : AV → Heap → Prop} (h : W27 x0 H K) : ACalls Tryd.prog 27 [x0] H K :=
  acallsB (fn := Tryd.f27) (cfg := cfgOf [] [] [] [] []) (hh := (.dir .nil (.dir (.dir .nil (.dir .nil (.dir .nil .nil))) .nil))) follows Tryd.func27 (by kernel_rfl) (Nat.le_of_ble_eq_true (by kernel_rfl)) (by kernel_rfl) h

/-- headword.headwordlaw11.alike -/
def W29 (x0 x1 : AV) (H : Heap) (K : AV → Heap → Prop) : Prop :=
 letO (some ((.bool false) : AV)) fun t4 =>
 letO (some (x0 : AV)) fun t6 =>
 letO (lenA t6) fun t7 =>
 letO (some (x1 : AV)) fun t8 =>
 letO (lenA t8) fun t9 =>
 letO (binF Tryd.prog .neq 3 t7 t9) fun t10 =>
 condA t10 true (
 letO (some ((.bool false) : AV)) fun t4 =>
endK t4 H K) (
 letO (some ((.int .i64 0) : AV)) fun t5 =>
 true = true ∧ ∃ (I1 : List AV → Heap → Prop) (μ2 : List AV → Heap → Nat), I1 [t5] H ∧ ∀ L3 H4, I1 L3 H4 → -- [t5]
 letO (some ((L3.getD 0 .any) : AV)) fun t11 =>
 letO (some (x0 : AV)) fun t12 =>
 letO (lenA t12) fun t13 =>
 letO (binF Tryd.prog .lss 3 t11 t13) fun t14 =>
 condA t14 true (
 true = true ∧
 letO (some (x0 : AV)) fun t17 =>
 letO (some ((L3.getD 0 .any) : AV)) fun t18 =>
 letO (idx 1 t17 t18) fun t19 =>
 letO (load1 t19 H4) fun t20 =>
 letO (some (x1 : AV)) fun t21 =>
 letO (some ((L3.getD 0 .any) : AV)) fun t22 =>
 letO (idx 1 t21 t22) fun t23 =>
 letO (load1 t23 H4) fun t24 =>
 ACalls Tryd.prog 24 [t20, t24] H4 fun t25 H5 =>
 letO (unF .not t25) fun t26 =>
 condA t26 true (
 letO (some ((.bool false) : AV)) fun t4 =>
endK t4 H5 K) (
 letO (some ((L3.getD 0 .any) : AV)) fun t15 =>
 letO (binF Tryd.prog .add 3 t15 (.int .i64 1)) fun t16 =>
 letO (some (t16 : AV)) fun t5 =>
 I1 [t5] H5 ∧ μ2 [t5] H5 < μ2 L3 H4)) (
 letO (some ((.bool true) : AV)) fun t4 =>
endK t4 H4 K))

theorem W29_ok {x0 x1 : AV} {H : Heap} {K : AV → Heap → Prop} (h : W29 x0 x1 H K) : ACalls Tryd.prog 29 [x0, x1] H K :=
  acallsB (fn := Tryd.f29) (cfg := cfgOf [] [] [(6, [0, 0, 3, 7, 0, 0, 48, 112, 255, 511])] [] []) (hh := (.dir .nil (.dir (.dir .nil (.dir .nil .nil)) (.dir (.dir .nil (.blk (.loop [5] [11, 12, 13, 14, 17, 18, 19, 20, 21, 22, 23, 24, 25, 26, 4, 15, 16, 5] (.dir (.dir .nil .nil) (.dir (.blk (.dir .nil (.dir .nil .nil))) .nil))))) .nil)))) follows Tryd.func29 (by kernel_rfl) (Nat.le_of_ble_eq_true (by kernel_rfl)) (by kernel_rfl) h

/-- headword.table.Check -/
def W30 (x0 : AV) (H : Heap) (K : AV → Heap → Prop) : Prop :=
 letO (some ((.int .i64 0) : AV)) fun t2 =>
 letO (some (x0 : AV)) fun t6 =>
 letO (lenA t6) fun t7 =>
 letO (binF Tryd.prog .eql 3 t7 (.int .i64 0)) fun t8 =>
 letO (some (t8 : AV)) fun t5 =>
 condA t5 true (
 letO (some ((.int .i64 4) : AV)) fun t2 =>
endK t2 H K) (
 letO (some (x0 : AV)) fun t10 =>
 letO (lenA t10) fun t11 =>
 letO (binF Tryd.prog .gtr 3 t11 (.int .i64 4)) fun t12 =>
 letO (some (t12 : AV)) fun t9 =>
 condA t9 true (
 letO (some ((.int .i64 3) : AV)) fun t2 =>
endK t2 H K) (
 letO (some (x0 : AV)) fun t13 =>
 letO (lenA t13) fun t14 =>
 letO (some ((.int .i64 0) : AV)) fun t15 =>
 true = true ∧ ∃ (I1 : List AV → Heap → Prop) (μ2 : List AV → Heap → Nat), I1 [t15] H ∧ ∀ L3 H4, I1 L3 H4 → -- [t15]
 letO (binF Tryd.prog .lss 3 (L3.getD 0 .any) t14) fun t16 =>
 condA t16 true (
 letO (idx 1 t13 (L3.getD 0 .any)) fun t17 =>
 letO (load1 t17 H4) fun t18 =>
 letO (some (t18 : AV)) fun t4 =>
 letO (some (t4 : AV)) fun t20 =>
 letO (lenA t20) fun t21 =>
 letO (some (x0 : AV)) fun t22 =>
 letO (lenA t22) fun t23 =>
 letO (binF Tryd.prog .neq 3 t21 t23) fun t24 =>
 letO (some (t24 : AV)) fun t19 =>
 condA t19 true (
 letO (some ((.int .i64 5) : AV)) fun t2 =>
endK t2 H4 K) (
 letO (some (t4 : AV)) fun t26 =>
 ACalls Tryd.prog 55 [t26, (.fn 77 [])] H4 fun t27 H5 =>
 letO (some (t27 : AV)) fun t25 =>
 condA t25 true (
 letO (some ((.int .i64 1) : AV)) fun t2 =>
endK t2 H5 K) (
 letO (binF Tryd.prog .add 3 (L3.getD 0 .any) (.int .i64 1)) fun t28 =>
 letO (some (t28 : AV)) fun t15 =>
 I1 [t15] H5 ∧ μ2 [t15] H5 < μ2 L3 H4))) (
 letO (some ((.int .i64 0) : AV)) fun t2 =>
endK t2 H4 K)))

theorem W30_ok {x0 : AV} {H : Heap} {K : AV → Heap → Prop} (h : W30 x0 H K) : ACalls Tryd.prog 30 [x0] H K :=
  acallsB (fn := Tryd.f30) (cfg := cfgOf [] [] [] [] []) (hh := (.dir .nil (.dir (.blk (.dir .nil (.dir .nil (.dir .nil (.dir .nil .nil))))) (.dir (.dir .nil (.blk (.loop [15] [16, 17, 18, 4, 20, 21, 22, 23, 24, 19, 2, 26, 27, 25, 28, 15] (.dir .nil (.dir .nil (.dir (.blk (.dir .nil (.blk (.dir .nil (.dir .nil (.dir .nil (.dir .nil .nil))))))) .nil)))))) .nil)))) follows Tryd.func30 (by kernel_rfl) (Nat.le_of_ble_eq_true (by kernel_rfl)) (by kernel_rfl) h

/-- headword.table.Within -/
def W32 (x0 x1 : AV) (H : Heap) (K : AV → Heap → Prop) : Prop :=
 letO (some ((.int .i64 0) : AV)) fun t4 =>
 letO (some (x0 : AV)) fun t9 =>
 ACalls Tryd.prog 30 [t9] H fun t10 H1 =>
 letO (some (t10 : AV)) fun t5 =>
 letO (some (t5 : AV)) fun t11 =>
 letO (binF Tryd.prog .neq 26 t11 (.int .i64 0)) fun t12 =>
 condA t12 true (
 letO (some (t5 : AV)) fun t13 =>
 letO (some (t13 : AV)) fun t4 =>
endK t4 H1 K) (
 letO (some (x0 : AV)) fun t14 =>
 letO (lenA t14) fun t15 =>
 letO (some (x1 : AV)) fun t16 =>
 ACalls Tryd.prog 79 [t15, t16] H1 fun t17 H2 =>
 letO (some (t17 : AV)) fun t6 =>
 letO (some (t6 : AV)) fun t18 =>
 letO (binF Tryd.prog .neq 26 t18 (.int .i64 0)) fun t19 =>
 condA t19 true (
 letO (some (t6 : AV)) fun t20 =>
 letO (some (t20 : AV)) fun t4 =>
endK t4 H2 K) (
 letO (some (x1 : AV)) fun t21 =>
 letO (lenA t21) fun t22 =>
 letO (some ((.int .i64 0) : AV)) fun t23 =>
 true = true ∧ ∃ (I3 : List AV → Heap → Prop) (μ4 : List AV → Heap → Nat), I3 [t23] H2 ∧ ∀ L5 H6, I3 L5 H6 → -- [t23]
 letO (binF Tryd.prog .lss 3 (L5.getD 0 .any) t22) fun t24 =>
 condA t24 true (
 letO (some ((L5.getD 0 .any) : AV)) fun t25 =>
 letO (idx 1 t21 (L5.getD 0 .any)) fun t26 =>
 letO (load1 t26 H6) fun t27 =>
 letO (some (t25 : AV)) fun t7 =>
 letO (some (t27 : AV)) fun t8 =>
 letO (some (x0 : AV)) fun t28 =>
 letO (some (t7 : AV)) fun t29 =>
 letO (idx 1 t28 t29) fun t30 =>
 letO (load1 t30 H6) fun t31 =>
 letO (some (t8 : AV)) fun t32 =>
 letO (idx 1 t31 t32) fun t33 =>
 letO (load1 t33 H6) fun t34 =>
 letO (binF Tryd.prog .eql 3 t34 (.int .i64 0)) fun t35 =>
 condA t35 true (
 letO (some ((.int .i64 12) : AV)) fun t4 =>
endK t4 H6 K) (
 letO (binF Tryd.prog .add 3 (L5.getD 0 .any) (.int .i64 1)) fun t36 =>
 letO (some (t36 : AV)) fun t23 =>
 I3 [t23] H6 ∧ μ4 [t23] H6 < μ4 L5 H6)) (
 letO (some ((.int .i64 0) : AV)) fun t4 =>
endK t4 H6 K)))

theorem W32_ok {x0 x1 : AV} {H : Heap} {K : AV → Heap → Prop} (h : W32 x0 x1 H K) : ACalls Tryd.prog 32 [x0, x1] H K :=
  acallsB (fn := Tryd.f32) (cfg := cfgOf [] [] [] [] []) (hh := (.dir .nil (.dir (.dir .nil (.dir .nil (.dir .nil .nil))) (.dir (.dir .nil (.dir .nil (.dir .nil .nil))) (.dir (.dir .nil (.blk (.loop [23] [24, 25, 26, 27, 7, 8, 28, 29, 30, 31, 32, 33, 34, 35, 4, 36, 23] (.dir .nil (.dir .nil (.dir (.blk (.dir .nil (.dir .nil (.dir .nil .nil)))) .nil)))))) .nil))))) follows Tryd.func32 (by kernel_rfl) (Nat.le_of_ble_eq_true (by kernel_rfl)) (by kernel_rfl) h

/-- headword.table.Bar -/
def W34 (x0 : AV) (H : Heap) (K : AV → Heap → Prop) : Prop :=
 letO (some (.nils : AV)) fun t2 =>
 letO (some (.nils : AV)) fun t3 =>
 letO (some ((.int .i64 0) : AV)) fun t4 =>
 letO (some (x0 : AV)) fun t9 =>
 ACalls Tryd.prog 30 [t9] H fun t10 H1 =>
 letO (some (t10 : AV)) fun t5 =>
 letO (some (t5 : AV)) fun t11 =>
 letO (binF Tryd.prog .neq 26 t11 (.int .i64 0)) fun t12 =>
 condA t12 true (
 letO (some (t5 : AV)) fun t13 =>
 letO (some (.nils : AV)) fun t2 =>
 letO (some (.nils : AV)) fun t3 =>
 letO (some (t13 : AV)) fun t4 =>
endK (.tup [t2, t3, t4]) H1 K) (
 letO (some (x0 : AV)) fun t14 =>
 letO (lenA t14) fun t15 =>
 letO (binF Tryd.prog .shl 101 (.int .u64 1) t15) fun t16 =>
 letO (some ((.int .u64 0) : AV)) fun t17 =>
 true = true ∧ ∃ (I2 : List AV → Heap → Prop) (μ3 : List AV → Heap → Nat), I2 [t2, t3, t17] H1 ∧ ∀ L4 H5, I2 L4 H5 → -- [t2, t3, t17]
 letO (binF Tryd.prog .lss 101 (L4.getD 2 .any) t16) fun t18 =>
 condA t18 true (
 true = true ∧ ∃ J6 : List AV → Heap → Prop, (
 letO (some ((L4.getD 2 .any) : AV)) fun t19 =>
 letO (some (t19 : AV)) fun t6 =>
 letO (some (x0 : AV)) fun t20 =>
 letO (some (t6 : AV)) fun t21 =>
 ACalls Tryd.prog 82 [t20, t21] H5 fun t22 H7 =>
 letO (some (t22 : AV)) fun t7 =>
 letO (some (t6 : AV)) fun t23 =>
 ACalls Tryd.prog 83 [t23] H7 fun t24 H8 =>
 letO (some (t24 : AV)) fun t8 =>
 letO (some (t8 : AV)) fun t25 =>
 letO (lenA t25) fun t26 =>
 letO (binF Tryd.prog .eql 3 t26 (.int .i64 0)) fun t27 =>
 letO (some (t27 : AV)) fun t28 =>
 letO (gval t28 false (some (t8 : AV))) fun t29 =>
 letO (gval t28 false (lenA t29)) fun t30 =>
 letO (gval t28 false (some (t7 : AV))) fun t31 =>
 ∃ J9 : AV → Heap → Prop, condG t28 false (ACalls Tryd.prog 84 [t31] H8 fun t32 H10 =>
 J9 t32 H10) (J9 (.tup []) H8) ∧ ∀ t32 H11, J9 t32 H11 →
 letO (gval t28 false (binF Tryd.prog .add 3 t30 t32)) fun t33 =>
 letO (gval t28 false (some (x0 : AV))) fun t34 =>
 letO (gval t28 false (lenA t34)) fun t35 =>
 letO (gval t28 false (binF Tryd.prog .leq 3 t33 t35)) fun t36 =>
 letO (pickF t28 (.bool true) t36) fun t37 =>
 condA t37 true (
 J6 [(L4.getD 0 .any), (L4.getD 1 .any)] H11) (
 letO (some ((L4.getD 0 .any) : AV)) fun t38 =>
 letO (binF Tryd.prog .eql 23 t38 .nils) fun t39 =>
 letO (some (t39 : AV)) fun t40 =>
 letO (gval t40 false (some (t8 : AV))) fun t41 =>
 letO (gval t40 false (lenA t41)) fun t42 =>
 letO (gval t40 false (some ((L4.getD 0 .any) : AV))) fun t43 =>
 letO (gval t40 false (lenA t43)) fun t44 =>
 letO (gval t40 false (binF Tryd.prog .lss 3 t42 t44)) fun t45 =>
 letO (pickF t40 (.bool true) t45) fun t46 =>
 letO (some (t46 : AV)) fun t47 =>
 letO (gval t47 false (some (t8 : AV))) fun t48 =>
 letO (gval t47 false (lenA t48)) fun t49 =>
 letO (gval t47 false (some ((L4.getD 0 .any) : AV))) fun t50 =>
 letO (gval t47 false (lenA t50)) fun t51 =>
 letO (gval t47 false (binF Tryd.prog .eql 3 t49 t51)) fun t52 =>
 letO (gval t47 false (some (t52 : AV))) fun t53 =>
 letO (gval t53 true (some (t8 : AV))) fun t54 =>
 letO (gval t53 true (some ((L4.getD 0 .any) : AV))) fun t55 =>
 ∃ J12 : AV → Heap → Prop, condG t53 true (ACalls Tryd.prog 57 [t54, t55] H11 fun t56 H13 =>
 J12 t56 H13) (J12 (.tup []) H11) ∧ ∀ t56 H14, J12 t56 H14 →
 letO (gval t53 true (binF Tryd.prog .lss 3 t56 (.int .i64 0))) fun t57 =>
 letO (gval t47 false (pickF t53 t57 (.bool false))) fun t58 =>
 letO (pickF t47 (.bool true) t58) fun t59 =>
 condA t59 true (
 letO (some (t8 : AV)) fun t60 =>
 letO (some (t7 : AV)) fun t61 =>
 ACalls Tryd.prog 83 [t61] H14 fun t62 H15 =>
 letO (some (t60 : AV)) fun t2 =>
 letO (some (t62 : AV)) fun t3 =>
 J6 [t2, t3] H15) (
 J6 [(L4.getD 0 .any), (L4.getD 1 .any)] H14))) ∧ ∀ L16 H17, J6 L16 H17 → -- [t2, t3]
 letO (binF Tryd.prog .add 101 (L4.getD 2 .any) (.int .u64 1)) fun t63 =>
 letO (some (t63 : AV)) fun t17 =>
 I2 [(L16.getD 0 .any), (L16.getD 1 .any), t17] H17 ∧ μ3 [(L16.getD 0 .any), (L16.getD 1 .any), t17] H17 < μ3 L4 H5) (
 letO (some ((L4.getD 0 .any) : AV)) fun t64 =>
 letO (binF Tryd.prog .eql 23 t64 .nils) fun t65 =>
 condA t65 true (
 letO (some (.nils : AV)) fun t2 =>
 letO (some (.nils : AV)) fun t3 =>
 letO (some ((.int .i64 13) : AV)) fun t4 =>
endK (.tup [t2, t3, t4]) H5 K) (
 letO (some ((L4.getD 0 .any) : AV)) fun t66 =>
 letO (some ((L4.getD 1 .any) : AV)) fun t67 =>
 letO (some (t66 : AV)) fun t2 =>
 letO (some (t67 : AV)) fun t3 =>
 letO (some ((.int .i64 0) : AV)) fun t4 =>
endK (.tup [t2, t3, t4]) H5 K)))

theorem W34_ok {x0 : AV} {H : Heap} {K : AV → Heap → Prop} (h : W34 x0 H K) : ACalls Tryd.prog 34 [x0] H K :=
  acallsB (fn := Tryd.f34) (cfg := cfgOf [] [] [] [] []) (hh := (.dir .nil (.dir (.dir .nil (.dir .nil (.dir .nil .nil))) (.dir (.dir .nil (.blk (.loop [2, 3, 17] [18, 19, 6, 20, 21, 22, 7, 23, 24, 8, 25, 26, 27, 28, 29, 30, 31, 32, 33, 34, 35, 36, 37, 38, 39, 40, 41, 42, 43, 44, 45, 46, 47, 48, 49, 50, 51, 52, 53, 54, 55, 56, 57, 58, 59, 60, 61, 62, 2, 3, 63, 17] (.dir .nil (.dir .nil (.cut [2, 3] [19, 6, 20, 21, 22, 7, 23, 24, 8, 25, 26, 27, 28, 29, 30, 31, 32, 33, 34, 35, 36, 37, 38, 39, 40, 41, 42, 43, 44, 45, 46, 47, 48, 49, 50, 51, 52, 53, 54, 55, 56, 57, 58, 59, 60, 61, 62, 2, 3] (.blk (.dir .nil (.dir .nil (.dir .nil (.dir (.dir .nil .nil) (.dir .nil .nil)))))) .nil)))))) (.dir (.dir .nil (.dir .nil .nil)) .nil))))) follows Tryd.func34 (by kernel_rfl) (Nat.le_of_ble_eq_true (by kernel_rfl)) (by kernel_rfl) h

/-- headword.table.Proves -/
def W36 (x0 x1 x2 : AV) (H : Heap) (K : AV → Heap → Prop) : Prop :=
 letO (some ((.int .i64 0) : AV)) fun t6 =>
 letO (some (x0 : AV)) fun t11 =>
 ACalls Tryd.prog 30 [t11] H fun t12 H1 =>
 letO (some (t12 : AV)) fun t7 =>
 letO (some (t7 : AV)) fun t13 =>
 letO (binF Tryd.prog .neq 26 t13 (.int .i64 0)) fun t14 =>
 condA t14 true (
 letO (some (t7 : AV)) fun t15 =>
 letO (some (t15 : AV)) fun t6 =>
endK t6 H1 K) (
 letO (some (x0 : AV)) fun t17 =>
 letO (lenA t17) fun t18 =>
 letO (some (x1 : AV)) fun t19 =>
 ACalls Tryd.prog 87 [t18, t19] H1 fun t20 H2 =>
 letO (some (t20 : AV)) fun t16 =>
 letO (extrF t16 0) fun t21 =>
 letO (extrF t16 1) fun t22 =>
 letO (some (t21 : AV)) fun t8 =>
 letO (some (t22 : AV)) fun t9 =>
 letO (some (t9 : AV)) fun t23 =>
 letO (binF Tryd.prog .neq 26 t23 (.int .i64 0)) fun t24 =>
 condA t24 true (
 letO (some (t9 : AV)) fun t25 =>
 letO (some (t25 : AV)) fun t6 =>
endK t6 H2 K) (
 letO (some (x0 : AV)) fun t27 =>
 letO (lenA t27) fun t28 =>
 letO (some (x2 : AV)) fun t29 =>
 ACalls Tryd.prog 87 [t28, t29] H2 fun t30 H3 =>
 letO (some (t30 : AV)) fun t26 =>
 letO (extrF t26 0) fun t31 =>
 letO (extrF t26 1) fun t32 =>
 letO (some (t31 : AV)) fun t10 =>
 letO (some (t32 : AV)) fun t9 =>
 letO (some (t9 : AV)) fun t34 =>
 letO (binF Tryd.prog .neq 26 t34 (.int .i64 0)) fun t35 =>
 letO (some (t35 : AV)) fun t33 =>
 condA t33 true (
 letO (some (t9 : AV)) fun t36 =>
 letO (some (t36 : AV)) fun t6 =>
endK t6 H3 K) (
 letO (some (t10 : AV)) fun t38 =>
 letO (some (x0 : AV)) fun t39 =>
 letO (some (t8 : AV)) fun t40 =>
 ACalls Tryd.prog 82 [t39, t40] H3 fun t41 H4 =>
 letO (binF Tryd.prog .andNot 101 t38 t41) fun t42 =>
 letO (binF Tryd.prog .neq 101 t42 (.int .u64 0)) fun t43 =>
 letO (some (t43 : AV)) fun t44 =>
 letO (gval t44 false (some (t8 : AV))) fun t45 =>
 ∃ J5 : AV → Heap → Prop, condG t44 false (ACalls Tryd.prog 84 [t45] H4 fun t46 H6 =>
 J5 t46 H6) (J5 (.tup []) H4) ∧ ∀ t46 H7, J5 t46 H7 →
 letO (gval t44 false (some (t10 : AV))) fun t47 =>
 ∃ J8 : AV → Heap → Prop, condG t44 false (ACalls Tryd.prog 84 [t47] H7 fun t48 H9 =>
 J8 t48 H9) (J8 (.tup []) H7) ∧ ∀ t48 H10, J8 t48 H10 →
 letO (gval t44 false (binF Tryd.prog .add 3 t46 t48)) fun t49 =>
 letO (gval t44 false (some (x0 : AV))) fun t50 =>
 letO (gval t44 false (lenA t50)) fun t51 =>
 letO (gval t44 false (binF Tryd.prog .leq 3 t49 t51)) fun t52 =>
 letO (pickF t44 (.bool true) t52) fun t53 =>
 letO (some (t53 : AV)) fun t37 =>
 condA t37 true (
 letO (some ((.int .i64 14) : AV)) fun t6 =>
endK t6 H10 K) (
 letO (some ((.int .i64 0) : AV)) fun t6 =>
endK t6 H10 K))))

theorem W36_ok {x0 x1 x2 : AV} {H : Heap} {K : AV → Heap → Prop} (h : W36 x0 x1 x2 H K) : ACalls Tryd.prog 36 [x0, x1, x2] H K :=
  acallsB (fn := Tryd.f36) (cfg := cfgOf [] [] [] [] []) (hh := (.dir .nil (.dir (.dir .nil (.dir .nil (.dir .nil .nil))) (.dir .nil (.dir (.dir .nil (.dir .nil .nil)) (.dir .nil (.dir (.blk (.dir .nil (.dir .nil (.dir .nil (.dir .nil .nil))))) .nil))))))) follows Tryd.func36 (by kernel_rfl) (Nat.le_of_ble_eq_true (by kernel_rfl)) (by kernel_rfl) h

/-- headword.table.Split -/
def W38 (x0 : AV) (H : Heap) (K : AV → Heap → Prop) : Prop :=
 letO (some (.nils : AV)) fun t2 =>
 letO (some ((.int .i64 0) : AV)) fun t3 =>
 letO (some (x0 : AV)) fun t11 =>
 ACalls Tryd.prog 18 [t11] H fun t12 H1 =>
 letO (some (t12 : AV)) fun t10 =>
 letO (extrF t10 0) fun t13 =>
 letO (extrF t10 1) fun t14 =>
 letO (some (t13 : AV)) fun t4 =>
 letO (some (t14 : AV)) fun t5 =>
 letO (some (t5 : AV)) fun t15 =>
 letO (binF Tryd.prog .neq 26 t15 (.int .i64 0)) fun t16 =>
 condA t16 true (
 letO (some (t5 : AV)) fun t17 =>
 letO (some (.nils : AV)) fun t2 =>
 letO (some (t17 : AV)) fun t3 =>
endK (.tup [t2, t3]) H1 K) (
 letO (some (x0 : AV)) fun t18 =>
 ACalls Tryd.prog 90 [t18] H1 fun t19 H2 =>
 letO (some (t19 : AV)) fun t6 =>
 letO (some (.nils : AV)) fun t7 =>
 letO (some (t6 : AV)) fun t21 =>
 ACalls Tryd.prog 73 [t21] H2 fun t22 H3 =>
 letO (some (t22 : AV)) fun t20 =>
 letO (extrF t20 0) fun t23 =>
 letO (extrF t20 1) fun t24 =>
 letO (some (t23 : AV)) fun t8 =>
 letO (some (t24 : AV)) fun t9 =>
 true = true ∧ ∃ (I4 : List AV → Heap → Prop) (μ5 : List AV → Heap → Nat), I4 [t7, t8, t9] H3 ∧ ∀ L6 H7, I4 L6 H7 → -- [t7, t8, t9]
 letO (some ((L6.getD 1 .any) : AV)) fun t25 =>
 letO (binF Tryd.prog .neq 23 t25 .nils) fun t26 =>
 condA t26 true (
 letO (some ((L6.getD 0 .any) : AV)) fun t32 =>
 letO (some ((L6.getD 1 .any) : AV)) fun t33 =>
 letO (some ((L6.getD 2 .any) : AV)) fun t34 =>
 letO (buildF Tryd.prog 49 [(0, t33), (1, t34)]) fun t35 =>
 letO (literalF Tryd.prog 42 1 [(0, t35)]) fun c8 =>
 appendA 2 32 t32 (.imm 1 true c8) (fun t37 H9 =>
 letO (some (t37 : AV)) fun t7 =>
 letO (some (t6 : AV)) fun t38 =>
 letO (some ((L6.getD 1 .any) : AV)) fun t39 =>
 letO (some ((L6.getD 2 .any) : AV)) fun t40 =>
 ACalls Tryd.prog 91 [t38, t39, t40] H9 fun t41 H10 =>
 letO (some (t6 : AV)) fun t28 =>
 ACalls Tryd.prog 73 [t28] H10 fun t29 H11 =>
 letO (some (t29 : AV)) fun t27 =>
 letO (extrF t27 0) fun t30 =>
 letO (extrF t27 1) fun t31 =>
 letO (some (t30 : AV)) fun t8 =>
 letO (some (t31 : AV)) fun t9 =>
 I4 [t7, t8, t9] H11 ∧ μ5 [t7, t8, t9] H11 < μ5 L6 H7) H7) (
 letO (some ((L6.getD 0 .any) : AV)) fun t42 =>
 letO (some (t42 : AV)) fun t2 =>
 letO (some ((.int .i64 0) : AV)) fun t3 =>
endK (.tup [t2, t3]) H7 K))

theorem W38_ok {x0 : AV} {H : Heap} {K : AV → Heap → Prop} (h : W38 x0 H K) : ACalls Tryd.prog 38 [x0] H K :=
  acallsB (fn := Tryd.f38) (cfg := cfgOf [] [] [] [] []) (hh := (.dir .nil (.dir (.dir .nil (.dir .nil (.dir .nil .nil))) (.dir .nil (.dir .nil (.dir (.dir .nil (.blk (.loop [7, 8, 9] [25, 26, 32, 33, 34, 35, 36, 37, 7, 38, 39, 40, 41, 28, 29, 27, 30, 31, 8, 9] (.dir (.dir .nil .nil) (.dir .nil .nil))))) .nil)))))) follows Tryd.func38 (by kernel_rfl) (Nat.le_of_ble_eq_true (by kernel_rfl)) (by kernel_rfl) h

/-- headword.table.Splits -/
def W40 (x0 : AV) (H : Heap) (K : AV → Heap → Prop) : Prop :=
 letO (some ((.int .i64 0) : AV)) fun t2 =>
 letO (some ((.int .i64 0) : AV)) fun t3 =>
 letO (some (x0 : AV)) fun t10 =>
 ACalls Tryd.prog 18 [t10] H fun t11 H1 =>
 letO (some (t11 : AV)) fun t9 =>
 letO (extrF t9 0) fun t12 =>
 letO (extrF t9 1) fun t13 =>
 letO (some (t12 : AV)) fun t4 =>
 letO (some (t13 : AV)) fun t5 =>
 letO (some (t5 : AV)) fun t15 =>
 letO (binF Tryd.prog .neq 26 t15 (.int .i64 0)) fun t16 =>
 letO (some (t16 : AV)) fun t14 =>
 condA t14 true (
 letO (some (t5 : AV)) fun t17 =>
 letO (some ((.int .i64 0) : AV)) fun t2 =>
 letO (some (t17 : AV)) fun t3 =>
endK (.tup [t2, t3]) H1 K) (
 letO (some (t4 : AV)) fun t19 =>
 letO (binF Tryd.prog .gtr 3 t19 (.int .i64 6)) fun t20 =>
 letO (some (t20 : AV)) fun t18 =>
 condA t18 true (
 letO (some ((.int .i64 0) : AV)) fun t2 =>
 letO (some ((.int .i64 15) : AV)) fun t3 =>
endK (.tup [t2, t3]) H1 K) (
 allocA [.nils] (fun t6 H2 =>
 letO (some (x0 : AV)) fun t21 =>
 letO (some (AV.fn 93 [t6])) fun t22 =>
 letO (buildF Tryd.prog 113 [(0, t21), (1, t22)]) fun t23 =>
 ACalls Tryd.prog 94 [t23, .nils, (.int .i64 1), (.int .i64 9)] H2 fun t24 H3 =>
 letO (some (x0 : AV)) fun t25 =>
 ACalls Tryd.prog 90 [t25] H3 fun t26 H4 =>
 allocA [.nils] (fun t7 H5 =>
 storeA 1 t7 t26 (fun H6 =>
 allocA [.nilf] (fun t8 H7 =>
 letO (some (AV.fn 95 [t6, t8, t7])) fun t27 =>
 storeA 1 t8 t27 (fun H8 =>
 letO (load1 t8 H8) fun t28 =>
 letO (some (t4 : AV)) fun t29 =>
 callA Tryd.prog t28 [(.int .i64 0), t29] (fun t30 H9 =>
 letO (some (t30 : AV)) fun t2 =>
 letO (some ((.int .i64 0) : AV)) fun t3 =>
endK (.tup [t2, t3]) H9 K) H8) H7) H6) H5) H4) H1))

theorem W40_ok {x0 : AV} {H : Heap} {K : AV → Heap → Prop} (h : W40 x0 H K) : ACalls Tryd.prog 40 [x0] H K :=
  acallsB (fn := Tryd.f40) (cfg := cfgOf [] [] [] [] []) (hh := (.dir .nil (.dir .nil (.dir (.blk (.dir .nil (.dir .nil (.dir .nil (.dir .nil .nil))))) (.dir .nil (.dir .nil (.dir .nil (.dir .nil (.dir .nil .nil))))))))) follows Tryd.func40 (by kernel_rfl) (Nat.le_of_ble_eq_true (by kernel_rfl)) (by kernel_rfl) h

/-- headword.table.Sum -/
def W42 (x0 x1 : AV) (H : Heap) (K : AV → Heap → Prop) : Prop :=
 letO (some (.nils : AV)) fun t4 =>
 letO (some ((.int .i64 0) : AV)) fun t5 =>
 letO (some (x0 : AV)) fun t12 =>
 letO (binF Tryd.prog .lss 3 t12 (.int .i64 1)) fun t13 =>
 letO (some (t13 : AV)) fun t14 =>
 letO (gval t14 false (some (x0 : AV))) fun t15 =>
 letO (gval t14 false (binF Tryd.prog .gtr 3 t15 (.int .i64 4))) fun t16 =>
 letO (pickF t14 (.bool true) t16) fun t17 =>
 letO (some (t17 : AV)) fun t11 =>
 condA t11 true (
 letO (some (.nils : AV)) fun t4 =>
 letO (some ((.int .i64 1) : AV)) fun t5 =>
endK (.tup [t4, t5]) H K) (
 letO (some (x1 : AV)) fun t19 =>
 letO (lenA t19) fun t20 =>
 letO (binF Tryd.prog .gtr 3 t20 (.int .i64 10)) fun t21 =>
 letO (some (t21 : AV)) fun t18 =>
 condA t18 true (
 letO (some (.nils : AV)) fun t4 =>
 letO (some ((.int .i64 3) : AV)) fun t5 =>
endK (.tup [t4, t5]) H K) (
 letO (some (x0 : AV)) fun t22 =>
 makeA [.nils] 1 24 t22 t22 (fun t23 H1 =>
 letO (some (t23 : AV)) fun t6 =>
 letO (some (x0 : AV)) fun t24 =>
 letO (some ((.int .i64 0) : AV)) fun t25 =>
 true = true ∧ ∃ (I2 : List AV → Heap → Prop) (μ3 : List AV → Heap → Nat), I2 [t25] H1 ∧ ∀ L4 H5, I2 L4 H5 → -- [t25]
 letO (binF Tryd.prog .lss 3 (L4.getD 0 .any) t24) fun t26 =>
 condA t26 true (
 letO (some ((L4.getD 0 .any) : AV)) fun t27 =>
 letO (some (t27 : AV)) fun t7 =>
 letO (some (t6 : AV)) fun t28 =>
 letO (some (t7 : AV)) fun t29 =>
 letO (some (x0 : AV)) fun t30 =>
 makeA [(.int .i64 0)] 1 8 t30 t30 (fun t31 H6 =>
 letO (idx 1 t28 t29) fun t32 =>
 storeA 1 t32 t31 (fun H7 =>
 letO (binF Tryd.prog .add 3 (L4.getD 0 .any) (.int .i64 1)) fun t33 =>
 letO (some (t33 : AV)) fun t25 =>
 I2 [t25] H7 ∧ μ3 [t25] H7 < μ3 L4 H5) H6) H5) (
 letO (some (x1 : AV)) fun t34 =>
 letO (lenA t34) fun t35 =>
 letO (some ((.int .i64 0) : AV)) fun t36 =>
 true = true ∧ ∃ (I8 : List AV → Heap → Prop) (μ9 : List AV → Heap → Nat), I8 [t36] H5 ∧ ∀ L10 H11, I8 L10 H11 → -- [t36]
 letO (binF Tryd.prog .lss 3 (L10.getD 0 .any) t35) fun t37 =>
 condA t37 true (
 letO (idx 2 t34 (L10.getD 0 .any)) fun t38 =>
 letO (loadN 2 t38 H11) fun t39 =>
 allocA [.nils, (.int .i64 0)] (fun t9 H12 =>
 storeA 2 t9 t39 (fun H13 =>
 letO (some (x0 : AV)) fun t40 =>
 letO (faddr 0 t9) fun t41 =>
 letO (load1 t41 H13) fun t42 =>
 ACalls Tryd.prog 79 [t40, t42] H13 fun t43 H14 =>
 letO (some (t43 : AV)) fun t10 =>
 letO (some (t10 : AV)) fun t44 =>
 letO (binF Tryd.prog .neq 26 t44 (.int .i64 0)) fun t45 =>
 condA t45 true (
 letO (some (t10 : AV)) fun t46 =>
 letO (some (.nils : AV)) fun t4 =>
 letO (some (t46 : AV)) fun t5 =>
endK (.tup [t4, t5]) H14 K) (
 letO (faddr 1 t9) fun t47 =>
 letO (load1 t47 H14) fun t48 =>
 letO (binF Tryd.prog .lss 3 t48 (.int .i64 1)) fun t49 =>
 letO (some (t49 : AV)) fun t50 =>
 letO (gval t50 false (faddr 1 t9)) fun t51 =>
 letO (gval t50 false (load1 t51 H14)) fun t52 =>
 letO (gval t50 false (binF Tryd.prog .gtr 3 t52 (.int .i64 36))) fun t53 =>
 letO (pickF t50 (.bool true) t53) fun t54 =>
 condA t54 true (
 letO (some (.nils : AV)) fun t4 =>
 letO (some ((.int .i64 1) : AV)) fun t5 =>
endK (.tup [t4, t5]) H14 K) (
 letO (some (t6 : AV)) fun t55 =>
 letO (faddr 0 t9) fun t56 =>
 letO (load1 t56 H14) fun t57 =>
 letO (faddr 1 t9) fun t58 =>
 letO (load1 t58 H14) fun t59 =>
 letO (unF .neg t59) fun t60 =>
 ACalls Tryd.prog 91 [t55, t57, t60] H14 fun t61 H15 =>
 letO (binF Tryd.prog .add 3 (L10.getD 0 .any) (.int .i64 1)) fun t62 =>
 letO (some (t62 : AV)) fun t36 =>
 I8 [t36] H15 ∧ μ9 [t36] H15 < μ9 L10 H11))) H12) H11) (
 letO (some (t6 : AV)) fun t63 =>
 ACalls Tryd.prog 30 [t63] H11 fun t64 H16 =>
 letO (binF Tryd.prog .neq 26 t64 (.int .i64 0)) fun t65 =>
 condA t65 true (
 letO (some (.nils : AV)) fun t4 =>
 letO (some ((.int .i64 15) : AV)) fun t5 =>
endK (.tup [t4, t5]) H16 K) (
 letO (some (t6 : AV)) fun t66 =>
 letO (some (t66 : AV)) fun t4 =>
 letO (some ((.int .i64 0) : AV)) fun t5 =>
endK (.tup [t4, t5]) H16 K)))) H))

theorem W42_ok {x0 x1 : AV} {H : Heap} {K : AV → Heap → Prop} (h : W42 x0 x1 H K) : ACalls Tryd.prog 42 [x0, x1] H K :=
  acallsB (fn := Tryd.f42) (cfg := cfgOf [] [] [] [] []) (hh := (.dir .nil (.dir (.blk (.dir .nil (.dir .nil (.dir .nil (.dir .nil .nil))))) (.dir .nil (.dir (.dir .nil (.blk (.loop [25] [26, 27, 7, 28, 29, 30, 31, 32, 33, 25] (.dir .nil (.dir .nil (.dir .nil .nil)))))) (.dir (.dir .nil (.blk (.loop [36] [37, 38, 39, 9, 40, 41, 42, 43, 10, 44, 45, 46, 4, 5, 47, 48, 49, 50, 51, 52, 53, 54, 55, 56, 57, 58, 59, 60, 61, 62, 36] (.dir .nil (.dir .nil (.dir (.blk (.dir .nil (.dir (.dir .nil (.dir .nil (.dir .nil .nil))) (.dir (.dir .nil (.dir .nil .nil)) .nil)))) .nil)))))) (.dir (.dir .nil (.dir .nil .nil)) .nil))))))) follows Tryd.func42 (by kernel_rfl) (Nat.le_of_ble_eq_true (by kernel_rfl)) (by kernel_rfl) h

/-- headword.headwordlaw11.empty -/
def W49 (x0 : AV) (H : Heap) (K : AV → Heap → Prop) : Prop :=
 letO (some (.nils : AV)) fun t2 =>
 letO (some (.nils : AV)) fun t3 =>
 letO (some (x0 : AV)) fun t4 =>
 letO (some ((.int .i64 0) : AV)) fun t5 =>
 true = true ∧ ∃ (I1 : List AV → Heap → Prop) (μ2 : List AV → Heap → Nat), I1 [t3, t5] H ∧ ∀ L3 H4, I1 L3 H4 → -- [t3, t5]
 letO (binF Tryd.prog .lss 3 (L3.getD 1 .any) t4) fun t6 =>
 condA t6 true (
 letO (some ((L3.getD 0 .any) : AV)) fun t7 =>
 letO (some (x0 : AV)) fun t8 =>
 makeA [(.int .i64 0)] 1 8 t8 t8 (fun t9 H5 =>
 letO (literalF Tryd.prog 22 1 [(0, t9)]) fun c6 =>
 appendA 1 24 t7 (.imm 1 true c6) (fun t11 H7 =>
 letO (some (t11 : AV)) fun t3 =>
 letO (binF Tryd.prog .add 3 (L3.getD 1 .any) (.int .i64 1)) fun t12 =>
 letO (some (t12 : AV)) fun t5 =>
 I1 [t3, t5] H7 ∧ μ2 [t3, t5] H7 < μ2 L3 H4) H5) H4) (
 letO (some ((L3.getD 0 .any) : AV)) fun t13 =>
 letO (some (t13 : AV)) fun t2 =>
endK t2 H4 K)

theorem W49_ok {x0 : AV} {H : Heap} {K : AV → Heap → Prop} (h : W49 x0 H K) : ACalls Tryd.prog 49 [x0] H K :=
  acallsB (fn := Tryd.f49) (cfg := cfgOf [] [] [] [] []) (hh := (.dir .nil (.dir .nil (.dir (.dir .nil (.blk (.loop [3, 5] [6, 7, 8, 9, 10, 11, 3, 12, 5] (.dir .nil (.dir .nil (.dir .nil .nil)))))) .nil)))) follows Tryd.func49 (by kernel_rfl) (Nat.le_of_ble_eq_true (by kernel_rfl)) (by kernel_rfl) h

/-- slices.ContainsFunc[[]int,int] -/
def W55 (x0 x1 : AV) (H : Heap) (K : AV → Heap → Prop) : Prop :=
 letO (some ((.bool false) : AV)) fun t4 =>
 letO (some (x0 : AV)) fun t5 =>
 letO (some (x1 : AV)) fun t6 =>
 ACalls Tryd.prog 98 [t5, t6] H fun t7 H1 =>
 letO (binF Tryd.prog .geq 3 t7 (.int .i64 0)) fun t8 =>
 letO (some (t8 : AV)) fun t4 =>
endK t4 H1 K

theorem W55_ok {x0 x1 : AV} {H : Heap} {K : AV → Heap → Prop} (h : W55 x0 x1 H K) : ACalls Tryd.prog 55 [x0, x1] H K :=
  acallsB (fn := Tryd.f55) (cfg := cfgOf [] [] [] [] []) (hh := (.dir .nil .nil)) follows Tryd.func55 (by kernel_rfl) (Nat.le_of_ble_eq_true (by kernel_rfl)) (by kernel_rfl) h

/-- slices.Compare[[]int,int] -/
def W57 (x0 x1 : AV) (H : Heap) (K : AV → Heap → Prop) : Prop :=
 letO (some ((.int .i64 0) : AV)) fun t4 =>
 letO (some (x0 : AV)) fun t9 =>
 letO (lenA t9) fun t10 =>
 letO (some ((.int .i64 0) : AV)) fun t11 =>
 true = true ∧ ∃ (I1 : List AV → Heap → Prop) (μ2 : List AV → Heap → Nat), I1 [t11] H ∧ ∀ L3 H4, I1 L3 H4 → -- [t11]
 letO (binF Tryd.prog .lss 3 (L3.getD 0 .any) t10) fun t12 =>
 condA t12 true (
 letO (some ((L3.getD 0 .any) : AV)) fun t13 =>
 letO (idx 1 t9 (L3.getD 0 .any)) fun t14 =>
 letO (load1 t14 H4) fun t15 =>
 letO (some (t13 : AV)) fun t5 =>
 letO (some (t15 : AV)) fun t6 =>
 letO (some (t5 : AV)) fun t16 =>
 letO (some (x1 : AV)) fun t17 =>
 letO (lenA t17) fun t18 =>
 letO (binF Tryd.prog .geq 3 t16 t18) fun t19 =>
 condA t19 true (
 letO (some ((.int .i64 1) : AV)) fun t4 =>
endK t4 H4 K) (
 letO (some (x1 : AV)) fun t20 =>
 letO (some (t5 : AV)) fun t21 =>
 letO (idx 1 t20 t21) fun t22 =>
 letO (load1 t22 H4) fun t23 =>
 letO (some (t23 : AV)) fun t7 =>
 letO (some (t6 : AV)) fun t24 =>
 letO (some (t7 : AV)) fun t25 =>
 ACalls Tryd.prog 99 [t24, t25] H4 fun t26 H5 =>
 letO (some (t26 : AV)) fun t8 =>
 letO (some (t8 : AV)) fun t27 =>
 letO (binF Tryd.prog .neq 3 t27 (.int .i64 0)) fun t28 =>
 condA t28 true (
 letO (some (t8 : AV)) fun t29 =>
 letO (some (t29 : AV)) fun t4 =>
endK t4 H5 K) (
 letO (binF Tryd.prog .add 3 (L3.getD 0 .any) (.int .i64 1)) fun t30 =>
 letO (some (t30 : AV)) fun t11 =>
 I1 [t11] H5 ∧ μ2 [t11] H5 < μ2 L3 H4))) (
 letO (some (x0 : AV)) fun t31 =>
 letO (lenA t31) fun t32 =>
 letO (some (x1 : AV)) fun t33 =>
 letO (lenA t33) fun t34 =>
 letO (binF Tryd.prog .lss 3 t32 t34) fun t35 =>
 condA t35 true (
 letO (some ((.int .i64 (-1)) : AV)) fun t4 =>
endK t4 H4 K) (
 letO (some ((.int .i64 0) : AV)) fun t4 =>
endK t4 H4 K))

theorem W57_ok {x0 x1 : AV} {H : Heap} {K : AV → Heap → Prop} (h : W57 x0 x1 H K) : ACalls Tryd.prog 57 [x0, x1] H K :=
  acallsB (fn := Tryd.f57) (cfg := cfgOf [] [] [] [] []) (hh := (.dir .nil (.dir (.dir .nil (.blk (.loop [11] [12, 13, 14, 15, 5, 6, 16, 17, 18, 19, 4, 20, 21, 22, 23, 7, 24, 25, 26, 8, 27, 28, 29, 30, 11] (.dir .nil (.dir .nil (.dir (.blk (.dir .nil (.dir (.dir .nil (.dir .nil .nil)) (.dir .nil (.dir .nil (.dir .nil (.dir .nil .nil))))))) .nil)))))) (.dir (.dir .nil (.dir .nil .nil)) .nil)))) follows Tryd.func57 (by kernel_rfl) (Nat.le_of_ble_eq_true (by kernel_rfl)) (by kernel_rfl) h

/-- slices.Clone[[]int,int] -/
def W59 (x0 : AV) (H : Heap) (K : AV → Heap → Prop) : Prop :=
 letO (some (.nils : AV)) fun t2 =>
 letO (some (x0 : AV)) fun t3 =>
 letO (binF Tryd.prog .eql 23 t3 .nils) fun t4 =>
 condA t4 true (
 letO (some (.nils : AV)) fun t2 =>
endK t2 H K) (
 letO (literalF Tryd.prog 23 0 []) fun c1 =>
 letO (some (x0 : AV)) fun t6 =>
 appendA 1 8 (.imm 0 true c1) t6 (fun t7 H2 =>
 letO (some (t7 : AV)) fun t2 =>
endK t2 H2 K) H)

theorem W59_ok {x0 : AV} {H : Heap} {K : AV → Heap → Prop} (h : W59 x0 H K) : ACalls Tryd.prog 59 [x0] H K :=
  acallsB (fn := Tryd.f59) (cfg := cfgOf [] [] [] [] []) (hh := (.dir .nil (.dir (.dir .nil (.dir .nil .nil)) .nil))) follows Tryd.func59 (by kernel_rfl) (Nat.le_of_ble_eq_true (by kernel_rfl)) (by kernel_rfl) h

/-- slices.Contains[[]int,int] -/
def W62 (x0 x1 : AV) (H : Heap) (K : AV → Heap → Prop) : Prop :=
 letO (some ((.bool false) : AV)) fun t4 =>
 letO (some (x0 : AV)) fun t5 =>
 letO (some (x1 : AV)) fun t6 =>
 ACalls Tryd.prog 100 [t5, t6] H fun t7 H1 =>
 letO (binF Tryd.prog .geq 3 t7 (.int .i64 0)) fun t8 =>
 letO (some (t8 : AV)) fun t4 =>
endK t4 H1 K

theorem W62_ok {x0 x1 : AV} {H : Heap} {K : AV → Heap → Prop} (h : W62 x0 x1 H K) : ACalls Tryd.prog 62 [x0, x1] H K :=
  acallsB (fn := Tryd.f62) (cfg := cfgOf [] [] [] [] []) (hh := (.dir .nil .nil)) follows Tryd.func62 (by kernel_rfl) (Nat.le_of_ble_eq_true (by kernel_rfl)) (by kernel_rfl) h

/-- headword.headwordlaw11.A -/
def W63 (H : Heap) (K : AV → Heap → Prop) : Prop :=
 letO (some (.nils : AV)) fun t0 =>
 letO (literalF Tryd.prog 23 3 [(0, (.int .i64 1)), (1, (.int .i64 1)), (2, (.int .i64 0))]) fun c1 =>
 ACalls Tryd.prog 68 [(.imm 3 true c1)] H fun t2 H2 =>
 letO (literalF Tryd.prog 23 3 [(0, (.int .i64 0)), (1, (.int .i64 1)), (2, (.int .i64 1))]) fun c3 =>
 ACalls Tryd.prog 68 [(.imm 3 true c3)] H2 fun t4 H4 =>
 letO (literalF Tryd.prog 23 3 [(0, (.int .i64 1)), (1, (.int .i64 0)), (2, (.int .i64 1))]) fun c5 =>
 ACalls Tryd.prog 68 [(.imm 3 true c5)] H4 fun t6 H6 =>
 letO (literalF Tryd.prog 22 3 [(0, t2), (1, t4), (2, t6)]) fun c7 =>
 ACalls Tryd.prog 69 [(.imm 3 true c7)] H6 fun t8 H8 =>
 letO (some (t8 : AV)) fun t0 =>
endK t0 H8 K

theorem W63_ok {H : Heap} {K : AV → Heap → Prop} (h : W63 H K) : ACalls Tryd.prog 63 [] H K :=
  acallsB (fn := Tryd.f63) (cfg := cfgOf [] [] [] [] []) (hh := (.dir .nil .nil)) follows Tryd.func63 (by kernel_rfl) (Nat.le_of_ble_eq_true (by kernel_rfl)) (by kernel_rfl) h

/-- headword.headwordlaw11.C -/
def W64 (H : Heap) (K : AV → Heap → Prop) : Prop :=
 letO (some (.nils : AV)) fun t0 =>
 letO (literalF Tryd.prog 23 3 [(0, (.int .i64 1)), (1, (.int .i64 0)), (2, (.int .i64 0))]) fun c1 =>
 ACalls Tryd.prog 68 [(.imm 3 true c1)] H fun t2 H2 =>
 letO (literalF Tryd.prog 23 3 [(0, (.int .i64 1)), (1, (.int .i64 0)), (2, (.int .i64 0))]) fun c3 =>
 ACalls Tryd.prog 68 [(.imm 3 true c3)] H2 fun t4 H4 =>
 letO (literalF Tryd.prog 23 3 [(0, (.int .i64 0)), (1, (.int .i64 1)), (2, (.int .i64 1))]) fun c5 =>
 ACalls Tryd.prog 68 [(.imm 3 true c5)] H4 fun t6 H6 =>
 letO (literalF Tryd.prog 22 3 [(0, t2), (1, t4), (2, t6)]) fun c7 =>
 ACalls Tryd.prog 69 [(.imm 3 true c7)] H6 fun t8 H8 =>
 letO (some (t8 : AV)) fun t0 =>
endK t0 H8 K

theorem W64_ok {H : Heap} {K : AV → Heap → Prop} (h : W64 H K) : ACalls Tryd.prog 64 [] H K :=
  acallsB (fn := Tryd.f64) (cfg := cfgOf [] [] [] [] []) (hh := (.dir .nil .nil)) follows Tryd.func64 (by kernel_rfl) (Nat.le_of_ble_eq_true (by kernel_rfl)) (by kernel_rfl) h

/-- headword.headwordlaw11.B -/
def W65 (H : Heap) (K : AV → Heap → Prop) : Prop :=
 letO (some (.nils : AV)) fun t0 =>
 letO (literalF Tryd.prog 23 3 [(0, (.int .i64 2)), (1, (.int .i64 1)), (2, (.int .i64 1))]) fun c1 =>
 ACalls Tryd.prog 68 [(.imm 3 true c1)] H fun t2 H2 =>
 letO (literalF Tryd.prog 23 3 [(0, (.int .i64 1)), (1, (.int .i64 2)), (2, (.int .i64 1))]) fun c3 =>
 ACalls Tryd.prog 68 [(.imm 3 true c3)] H2 fun t4 H4 =>
 letO (literalF Tryd.prog 23 3 [(0, (.int .i64 1)), (1, (.int .i64 1)), (2, (.int .i64 2))]) fun c5 =>
 ACalls Tryd.prog 68 [(.imm 3 true c5)] H4 fun t6 H6 =>
 letO (literalF Tryd.prog 22 3 [(0, t2), (1, t4), (2, t6)]) fun c7 =>
 ACalls Tryd.prog 69 [(.imm 3 true c7)] H6 fun t8 H8 =>
 letO (some (t8 : AV)) fun t0 =>
endK t0 H8 K

theorem W65_ok {H : Heap} {K : AV → Heap → Prop} (h : W65 H K) : ACalls Tryd.prog 65 [] H K :=
  acallsB (fn := Tryd.f65) (cfg := cfgOf [] [] [] [] []) (hh := (.dir .nil .nil)) follows Tryd.func65 (by kernel_rfl) (Nat.le_of_ble_eq_true (by kernel_rfl)) (by kernel_rfl) h

/-- headword.headwordlaw11.share -/
def W66 (x0 x1 : AV) (H : Heap) (K : AV → Heap → Prop) : Prop :=
 allocA [.nils, (.int .i64 0)] (fun t4 H1 =>
 letO (some (x1 : AV)) fun t5 =>
 letO (some (x0 : AV)) fun t6 =>
 letO (buildF Tryd.prog 49 [(0, t5), (1, t6)]) fun t7 =>
 storeA 2 t4 t7 (fun H2 =>
 letO (loadN 2 t4 H2) fun r3 => endK r3 H2 K) H1) H

theorem W66_ok {x0 x1 : AV} {H : Heap} {K : AV → Heap → Prop} (h : W66 x0 x1 H K) : ACalls Tryd.prog 66 [x0, x1] H K :=
  acallsB (fn := Tryd.f66) (cfg := cfgOf [] [] [] [] []) (hh := (.dir .nil .nil)) follows Tryd.func66 (by kernel_rfl) (Nat.le_of_ble_eq_true (by kernel_rfl)) (by kernel_rfl) h

/-- headword.headwordlaw11.equal -/
def W67 (x0 x1 : AV) (H : Heap) (K : AV → Heap → Prop) : Prop :=
 letO (some ((.bool false) : AV)) fun t4 =>
 letO (some (x0 : AV)) fun t6 =>
 letO (lenA t6) fun t7 =>
 letO (some (x1 : AV)) fun t8 =>
 letO (lenA t8) fun t9 =>
 letO (binF Tryd.prog .neq 3 t7 t9) fun t10 =>
 condA t10 true (
 letO (some ((.bool false) : AV)) fun t4 =>
endK t4 H K) (
 letO (some ((.int .i64 0) : AV)) fun t5 =>
 true = true ∧ ∃ (I1 : List AV → Heap → Prop) (μ2 : List AV → Heap → Nat), I1 [t5] H ∧ ∀ L3 H4, I1 L3 H4 → -- [t5]
 letO (some ((L3.getD 0 .any) : AV)) fun t11 =>
 letO (some (x0 : AV)) fun t12 =>
 letO (lenA t12) fun t13 =>
 letO (binF Tryd.prog .lss 3 t11 t13) fun t14 =>
 condA t14 true (
 true = true ∧
 letO (some (x0 : AV)) fun t17 =>
 letO (some ((L3.getD 0 .any) : AV)) fun t18 =>
 letO (idx 2 t17 t18) fun t19 =>
 letO (faddr 0 t19) fun t20 =>
 letO (load1 t20 H4) fun t21 =>
 letO (some (x1 : AV)) fun t22 =>
 letO (some ((L3.getD 0 .any) : AV)) fun t23 =>
 letO (idx 2 t22 t23) fun t24 =>
 letO (faddr 0 t24) fun t25 =>
 letO (load1 t25 H4) fun t26 =>
 ACalls Tryd.prog 24 [t21, t26] H4 fun t27 H5 =>
 letO (unF .not t27) fun t28 =>
 letO (some (t28 : AV)) fun t29 =>
 letO (gval t29 false (some (x0 : AV))) fun t30 =>
 letO (gval t29 false (some ((L3.getD 0 .any) : AV))) fun t31 =>
 letO (gval t29 false (idx 2 t30 t31)) fun t32 =>
 letO (gval t29 false (faddr 1 t32)) fun t33 =>
 letO (gval t29 false (load1 t33 H5)) fun t34 =>
 letO (gval t29 false (some (x1 : AV))) fun t35 =>
 letO (gval t29 false (some ((L3.getD 0 .any) : AV))) fun t36 =>
 letO (gval t29 false (idx 2 t35 t36)) fun t37 =>
 letO (gval t29 false (faddr 1 t37)) fun t38 =>
 letO (gval t29 false (load1 t38 H5)) fun t39 =>
 letO (gval t29 false (binF Tryd.prog .neq 3 t34 t39)) fun t40 =>
 letO (pickF t29 (.bool true) t40) fun t41 =>
 condA t41 true (
 letO (some ((.bool false) : AV)) fun t4 =>
endK t4 H5 K) (
 letO (some ((L3.getD 0 .any) : AV)) fun t15 =>
 letO (binF Tryd.prog .add 3 t15 (.int .i64 1)) fun t16 =>
 letO (some (t16 : AV)) fun t5 =>
 I1 [t5] H5 ∧ μ2 [t5] H5 < μ2 L3 H4)) (
 letO (some ((.bool true) : AV)) fun t4 =>
endK t4 H4 K))

theorem W67_ok {x0 x1 : AV} {H : Heap} {K : AV → Heap → Prop} (h : W67 x0 x1 H K) : ACalls Tryd.prog 67 [x0, x1] H K :=
  acallsB (fn := Tryd.f67) (cfg := cfgOf [] [] [(6, [0, 0, 3, 7, 15, 0, 0, 96, 224, 480, 1023, 2047, 4095, 8191, 8191, 32767, 65535, 131071, 8191, 8191, 794623, 1843199, 3940351, 8388607, 16777215])] [] []) (hh := (.dir .nil (.dir (.dir .nil (.dir .nil .nil)) (.dir (.dir .nil (.blk (.loop [5] [11, 12, 13, 14, 17, 18, 19, 20, 21, 22, 23, 24, 25, 26, 27, 28, 29, 30, 31, 32, 33, 34, 35, 36, 37, 38, 39, 40, 41, 4, 15, 16, 5] (.dir (.dir .nil .nil) (.dir (.blk (.dir .nil (.dir .nil .nil))) .nil))))) .nil)))) follows Tryd.func67 (by kernel_rfl) (Nat.le_of_ble_eq_true (by kernel_rfl)) (by kernel_rfl) h

/-- headword.headwordlaw11.list -/
def W68 (x0 : AV) (H : Heap) (K : AV → Heap → Prop) : Prop :=
 letO (some (.nils : AV)) fun t2 =>
 letO (some (x0 : AV)) fun t3 =>
 letO (some (t3 : AV)) fun t2 =>
endK t2 H K

theorem W68_ok {x0 : AV} {H : Heap} {K : AV → Heap → Prop} (h : W68 x0 H K) : ACalls Tryd.prog 68 [x0] H K :=
  acallsB (fn := Tryd.f68) (cfg := cfgOf [] [] [] [] []) (hh := (.dir .nil .nil)) follows Tryd.func68 (by kernel_rfl) (Nat.le_of_ble_eq_true (by kernel_rfl)) (by kernel_rfl) h

/-- headword.headwordlaw11.lists -/
def W69 (x0 : AV) (H : Heap) (K : AV → Heap → Prop) : Prop :=
 letO (some (.nils : AV)) fun t2 =>
 letO (some (x0 : AV)) fun t3 =>
 letO (some (t3 : AV)) fun t2 =>
endK t2 H K

theorem W69_ok {x0 : AV} {H : Heap} {K : AV → Heap → Prop} (h : W69 x0 H K) : ACalls Tryd.prog 69 [x0] H K :=
  acallsB (fn := Tryd.f69) (cfg := cfgOf [] [] [] [] []) (hh := (.dir .nil .nil)) follows Tryd.func69 (by kernel_rfl) (Nat.le_of_ble_eq_true (by kernel_rfl)) (by kernel_rfl) h

/-- headword.table.total -/
def W70 (x0 : AV) (H : Heap) (K : AV → Heap → Prop) : Prop :=
 letO (some ((.int .i64 0) : AV)) fun t2 =>
 letO (some ((.int .i64 0) : AV)) fun t3 =>
 letO (some (x0 : AV)) fun t6 =>
 letO (lenA t6) fun t7 =>
 letO (some ((.int .i64 0) : AV)) fun t8 =>
 true = true ∧ ∃ (I1 : List AV → Heap → Prop) (μ2 : List AV → Heap → Nat), I1 [t3, t8] H ∧ ∀ L3 H4, I1 L3 H4 → -- [t3, t8]
 letO (binF Tryd.prog .lss 3 (L3.getD 1 .any) t7) fun t9 =>
 condA t9 true (
 letO (idx 1 t6 (L3.getD 1 .any)) fun t10 =>
 letO (load1 t10 H4) fun t11 =>
 letO (some (t11 : AV)) fun t5 =>
 letO (some ((L3.getD 0 .any) : AV)) fun t12 =>
 letO (some (t5 : AV)) fun t13 =>
 letO (binF Tryd.prog .add 3 t12 t13) fun t14 =>
 letO (some (t14 : AV)) fun t3 =>
 letO (binF Tryd.prog .add 3 (L3.getD 1 .any) (.int .i64 1)) fun t15 =>
 letO (some (t15 : AV)) fun t8 =>
 I1 [t3, t8] H4 ∧ μ2 [t3, t8] H4 < μ2 L3 H4) (
 letO (some ((L3.getD 0 .any) : AV)) fun t16 =>
 letO (some (t16 : AV)) fun t2 =>
endK t2 H4 K)

theorem W70_ok {x0 : AV} {H : Heap} {K : AV → Heap → Prop} (h : W70 x0 H K) : ACalls Tryd.prog 70 [x0] H K :=
  acallsB (fn := Tryd.f70) (cfg := cfgOf [] [] [] [] []) (hh := (.dir .nil (.dir .nil (.dir (.dir .nil (.blk (.loop [3, 8] [9, 10, 11, 5, 12, 13, 14, 3, 15, 8] (.dir .nil (.dir .nil (.dir .nil .nil)))))) .nil)))) follows Tryd.func70 (by kernel_rfl) (Nat.le_of_ble_eq_true (by kernel_rfl)) (by kernel_rfl) h

/-- headword.table.turned -/
def W71 (x0 : AV) (H : Heap) (K : AV → Heap → Prop) : Prop :=
 letO (some (.nils : AV)) fun t2 =>
 letO (some (x0 : AV)) fun t6 =>
 letO (lenA t6) fun t7 =>
 makeA [.nils] 1 24 t7 t7 (fun t8 H1 =>
 letO (some (t8 : AV)) fun t3 =>
 letO (some (x0 : AV)) fun t9 =>
 letO (lenA t9) fun t10 =>
 letO (some ((.int .i64 0) : AV)) fun t11 =>
 true = true ∧ ∃ (I2 : List AV → Heap → Prop) (μ3 : List AV → Heap → Nat), I2 [t11] H1 ∧ ∀ L4 H5, I2 L4 H5 → -- [t11]
 letO (binF Tryd.prog .lss 3 (L4.getD 0 .any) t10) fun t12 =>
 condA t12 true (
 letO (some ((L4.getD 0 .any) : AV)) fun t13 =>
 letO (some (t13 : AV)) fun t4 =>
 letO (some (x0 : AV)) fun t14 =>
 letO (lenA t14) fun t15 =>
 letO (some ((.int .i64 0) : AV)) fun t16 =>
 true = true ∧ ∃ (I6 : List AV → Heap → Prop) (μ7 : List AV → Heap → Nat), I6 [t16] H5 ∧ ∀ L8 H9, I6 L8 H9 → -- [t16]
 letO (binF Tryd.prog .lss 3 (L8.getD 0 .any) t15) fun t17 =>
 condA t17 true (
 letO (some ((L8.getD 0 .any) : AV)) fun t18 =>
 letO (some (t18 : AV)) fun t5 =>
 true = true ∧
 letO (some (t3 : AV)) fun t19 =>
 letO (some (t4 : AV)) fun t20 =>
 letO (some (t3 : AV)) fun t21 =>
 letO (some (t4 : AV)) fun t22 =>
 letO (idx 1 t21 t22) fun t23 =>
 letO (load1 t23 H9) fun t24 =>
 letO (some (x0 : AV)) fun t25 =>
 letO (some (t5 : AV)) fun t26 =>
 letO (idx 1 t25 t26) fun t27 =>
 letO (load1 t27 H9) fun t28 =>
 letO (some (t4 : AV)) fun t29 =>
 letO (idx 1 t28 t29) fun t30 =>
 letO (load1 t30 H9) fun t31 =>
 letO (literalF Tryd.prog 23 1 [(0, t31)]) fun c10 =>
 appendA 1 8 t24 (.imm 1 true c10) (fun t33 H11 =>
 letO (idx 1 t19 t20) fun t34 =>
 storeA 1 t34 t33 (fun H12 =>
 letO (binF Tryd.prog .add 3 (L8.getD 0 .any) (.int .i64 1)) fun t35 =>
 letO (some (t35 : AV)) fun t16 =>
 I6 [t16] H12 ∧ μ7 [t16] H12 < μ7 L8 H9) H11) H9) (
 letO (binF Tryd.prog .add 3 (L4.getD 0 .any) (.int .i64 1)) fun t36 =>
 letO (some (t36 : AV)) fun t11 =>
 I2 [t11] H9 ∧ μ3 [t11] H9 < μ3 L4 H5)) (
 letO (some (t3 : AV)) fun t37 =>
 letO (some (t37 : AV)) fun t2 =>
endK t2 H5 K)) H

theorem W71_ok {x0 : AV} {H : Heap} {K : AV → Heap → Prop} (h : W71 x0 H K) : ACalls Tryd.prog 71 [x0] H K :=
  acallsB (fn := Tryd.f71) (cfg := cfgOf [] [] [(8, [0, 0, 0, 0, 12, 28, 0, 0, 192, 448, 0, 1984, 4032, 8128, 16380, 32767, 65535])] [] []) (hh := (.dir .nil (.dir .nil (.dir (.dir .nil (.blk (.loop [11] [12, 13, 4, 14, 15, 16, 17, 18, 5, 19, 20, 21, 22, 23, 24, 25, 26, 27, 28, 29, 30, 31, 32, 33, 34, 35, 36, 11] (.dir .nil (.dir .nil (.dir (.blk (.dir .nil (.dir .nil (.blk (.loop [16] [17, 18, 5, 19, 20, 21, 22, 23, 24, 25, 26, 27, 28, 29, 30, 31, 32, 33, 34, 35, 16] (.dir .nil (.dir .nil (.dir .nil .nil)))))))) .nil)))))) .nil)))) follows Tryd.func71 (by kernel_rfl) (Nat.le_of_ble_eq_true (by kernel_rfl)) (by kernel_rfl) h

/-- headword.table.first -/
def W73 (x0 : AV) (H : Heap) (K : AV → Heap → Prop) : Prop :=
 allocA [.nils] (fun t2 H1 =>
 allocA [(.int .i64 0)] (fun t3 H2 =>
 letO (some (x0 : AV)) fun t4 =>
 letO (some (AV.fn 101 [t2, t3])) fun t5 =>
 letO (buildF Tryd.prog 113 [(0, t4), (1, t5)]) fun t6 =>
 ACalls Tryd.prog 94 [t6, .nils, (.int .i64 1), (.int .i64 9)] H2 fun t7 H3 =>
 true = true ∧
 letO (load1 t2 H3) fun t8 =>
 letO (load1 t3 H3) fun t9 =>
 selfA 1 t2 t8 H3 ∧
 selfA 1 t3 t9 H3 ∧
 letO (load1 t2 H3) fun r4 => letO (load1 t3 H3) fun r5 => endK (.tup [r4, r5]) H3 K) H1) H

theorem W73_ok {x0 : AV} {H : Heap} {K : AV → Heap → Prop} (h : W73 x0 H K) : ACalls Tryd.prog 73 [x0] H K :=
  acallsB (fn := Tryd.f73) (cfg := cfgOf [] [] [(2, [0, 0, 1, 7])] [] [8, 9]) (hh := (.dir .nil (.dir .nil .nil))) follows Tryd.func73 (by kernel_rfl) (Nat.le_of_ble_eq_true (by kernel_rfl)) (by kernel_rfl) h

/-- headword.table.counted -/
def W75 (x0 : AV) (H : Heap) (K : AV → Heap → Prop) : Prop :=
 allocA [(.int .i64 0)] (fun t2 H1 =>
 allocA [(.int .i64 0)] (fun t3 H2 =>
 letO (some ((.int .i64 0) : AV)) fun t4 =>
 letO (some (x0 : AV)) fun t6 =>
 ACalls Tryd.prog 30 [t6] H2 fun t7 H3 =>
 letO (some (t7 : AV)) fun t5 =>
 letO (some (t5 : AV)) fun t8 =>
 letO (binF Tryd.prog .neq 26 t8 (.int .i64 0)) fun t9 =>
 condA t9 true (
 letO (some (t5 : AV)) fun t10 =>
 storeA 1 t2 (.int .i64 0) (fun H4 =>
 storeA 1 t3 (.int .i64 0) (fun H5 =>
 letO (some (t10 : AV)) fun t4 =>
 letO (load1 t2 H5) fun r6 => letO (load1 t3 H5) fun r7 => endK (.tup [r6, r7, t4]) H5 K) H4) H3) (
 letO (some (x0 : AV)) fun t11 =>
 letO (some (AV.fn 102 [t2, t3])) fun t12 =>
 letO (buildF Tryd.prog 113 [(0, t11), (1, t12)]) fun t13 =>
 ACalls Tryd.prog 94 [t13, .nils, (.int .i64 1), (.int .i64 9)] H3 fun t14 H8 =>
 true = true ∧
 letO (load1 t2 H8) fun t15 =>
 letO (load1 t3 H8) fun t16 =>
 selfA 1 t2 t15 H8 ∧
 selfA 1 t3 t16 H8 ∧
 letO (some ((.int .i64 0) : AV)) fun t4 =>
 letO (load1 t2 H8) fun r9 => letO (load1 t3 H8) fun r10 => endK (.tup [r9, r10, t4]) H8 K)) H1) H

theorem W75_ok {x0 : AV} {H : Heap} {K : AV → Heap → Prop} (h : W75 x0 H K) : ACalls Tryd.prog 75 [x0] H K :=
  acallsB (fn := Tryd.f75) (cfg := cfgOf [] [] [(5, [0, 0, 1, 7, 15])] [] [15, 16]) (hh := (.dir .nil (.dir (.dir .nil (.dir .nil (.dir .nil .nil))) (.dir .nil .nil)))) follows Tryd.func75 (by kernel_rfl) (Nat.le_of_ble_eq_true (by kernel_rfl)) (by kernel_rfl) h

/-- headword.table.Check$1 -/
def W77 (x0 : AV) (H : Heap) (K : AV → Heap → Prop) : Prop :=
 letO (some ((.bool false) : AV)) fun t2 =>
 letO (some (x0 : AV)) fun t3 =>
 letO (binF Tryd.prog .lss 3 t3 (.int .i64 0)) fun t4 =>
 letO (some (t4 : AV)) fun t5 =>
 letO (gval t5 false (some (x0 : AV))) fun t6 =>
 letO (gval t5 false (binF Tryd.prog .gtr 3 t6 (.int .i64 9))) fun t7 =>
 letO (pickF t5 (.bool true) t7) fun t8 =>
 letO (some (t8 : AV)) fun t2 =>
endK t2 H K

theorem W77_ok {x0 : AV} {H : Heap} {K : AV → Heap → Prop} (h : W77 x0 H K) : ACalls Tryd.prog 77 [x0] H K :=
  acallsB (fn := Tryd.f77) (cfg := cfgOf [] [] [] [] []) (hh := (.dir .nil .nil)) follows Tryd.func77 (by kernel_rfl) (Nat.le_of_ble_eq_true (by kernel_rfl)) (by kernel_rfl) h

/-- headword.table.planned -/
def W79 (x0 x1 : AV) (H : Heap) (K : AV → Heap → Prop) : Prop :=
 letO (some ((.int .i64 0) : AV)) fun t4 =>
 letO (some (x1 : AV)) fun t7 =>
 letO (lenA t7) fun t8 =>
 letO (some (x0 : AV)) fun t9 =>
 letO (binF Tryd.prog .neq 3 t8 t9) fun t10 =>
 condA t10 true (
 letO (some ((.int .i64 5) : AV)) fun t4 =>
endK t4 H K) (
 letO (some (x1 : AV)) fun t11 =>
 letO (lenA t11) fun t12 =>
 letO (some ((.int .i64 0) : AV)) fun t13 =>
 true = true ∧ ∃ (I1 : List AV → Heap → Prop) (μ2 : List AV → Heap → Nat), I1 [t13] H ∧ ∀ L3 H4, I1 L3 H4 → -- [t13]
 letO (binF Tryd.prog .lss 3 (L3.getD 0 .any) t12) fun t14 =>
 condA t14 true (
 letO (some ((L3.getD 0 .any) : AV)) fun t15 =>
 letO (idx 1 t11 (L3.getD 0 .any)) fun t16 =>
 letO (load1 t16 H4) fun t17 =>
 letO (some (t15 : AV)) fun t5 =>
 letO (some (t17 : AV)) fun t6 =>
 letO (some (t6 : AV)) fun t19 =>
 letO (binF Tryd.prog .lss 3 t19 (.int .i64 0)) fun t20 =>
 letO (some (t20 : AV)) fun t21 =>
 letO (gval t21 false (some (t6 : AV))) fun t22 =>
 letO (gval t21 false (some (x0 : AV))) fun t23 =>
 letO (gval t21 false (binF Tryd.prog .geq 3 t22 t23)) fun t24 =>
 letO (pickF t21 (.bool true) t24) fun t25 =>
 letO (some (t25 : AV)) fun t18 =>
 condA t18 true (
 letO (some ((.int .i64 2) : AV)) fun t4 =>
endK t4 H4 K) (
 letO (some (x1 : AV)) fun t27 =>
 letO (some (t5 : AV)) fun t28 =>
 letO (slc 1 t27 none (some t28) none) fun t29 =>
 letO (some (t6 : AV)) fun t30 =>
 ACalls Tryd.prog 62 [t29, t30] H4 fun t31 H5 =>
 letO (some (t31 : AV)) fun t26 =>
 condA t26 true (
 letO (some ((.int .i64 6) : AV)) fun t4 =>
endK t4 H5 K) (
 letO (binF Tryd.prog .add 3 (L3.getD 0 .any) (.int .i64 1)) fun t32 =>
 letO (some (t32 : AV)) fun t13 =>
 I1 [t13] H5 ∧ μ2 [t13] H5 < μ2 L3 H4))) (
 letO (some ((.int .i64 0) : AV)) fun t4 =>
endK t4 H4 K))

theorem W79_ok {x0 x1 : AV} {H : Heap} {K : AV → Heap → Prop} (h : W79 x0 x1 H K) : ACalls Tryd.prog 79 [x0, x1] H K :=
  acallsB (fn := Tryd.f79) (cfg := cfgOf [] [] [] [] []) (hh := (.dir .nil (.dir (.dir .nil (.dir .nil .nil)) (.dir (.dir .nil (.blk (.loop [13] [14, 15, 16, 17, 5, 6, 19, 20, 21, 22, 23, 24, 25, 18, 4, 27, 28, 29, 30, 31, 26, 32, 13] (.dir .nil (.dir .nil (.dir (.blk (.dir .nil (.blk (.dir .nil (.dir .nil (.dir .nil (.dir .nil .nil))))))) .nil)))))) .nil)))) follows Tryd.func79 (by kernel_rfl) (Nat.le_of_ble_eq_true (by kernel_rfl)) (by kernel_rfl) h

/-- headword.table.zeros -/
def W82 (x0 x1 : AV) (H : Heap) (K : AV → Heap → Prop) : Prop :=
 letO (some ((.int .u64 0) : AV)) fun t4 =>
 letO (some (x0 : AV)) fun t10 =>
 letO (lenA t10) fun t11 =>
 letO (binF Tryd.prog .shl 101 (.int .u64 1) t11) fun t12 =>
 letO (binF Tryd.prog .sub 101 t12 (.int .u64 1)) fun t13 =>
 letO (some (t13 : AV)) fun t5 =>
 letO (some (x1 : AV)) fun t14 =>
 ACalls Tryd.prog 83 [t14] H fun t15 H1 =>
 letO (lenA t15) fun t16 =>
 letO (some ((.int .i64 0) : AV)) fun t17 =>
 true = true ∧ ∃ (I2 : List AV → Heap → Prop) (μ3 : List AV → Heap → Nat), I2 [t5, t17] H1 ∧ ∀ L4 H5, I2 L4 H5 → -- [t5, t17]
 letO (binF Tryd.prog .lss 3 (L4.getD 1 .any) t16) fun t18 =>
 condA t18 true (
 letO (idx 1 t15 (L4.getD 1 .any)) fun t19 =>
 letO (load1 t19 H5) fun t20 =>
 letO (some (t20 : AV)) fun t7 =>
 letO (some (x0 : AV)) fun t21 =>
 letO (some (t7 : AV)) fun t22 =>
 letO (idx 1 t21 t22) fun t23 =>
 letO (load1 t23 H5) fun t24 =>
 letO (lenA t24) fun t25 =>
 letO (some ((.int .i64 0) : AV)) fun t26 =>
 true = true ∧ ∃ (I6 : List AV → Heap → Prop) (μ7 : List AV → Heap → Nat), I6 [(L4.getD 0 .any), t26] H5 ∧ ∀ L8 H9, I6 L8 H9 → -- [t5, t26]
 letO (binF Tryd.prog .lss 3 (L8.getD 1 .any) t25) fun t27 =>
 condA t27 true (
 true = true ∧ ∃ J10 : List AV → Heap → Prop, (
 letO (some ((L8.getD 1 .any) : AV)) fun t28 =>
 letO (idx 1 t24 (L8.getD 1 .any)) fun t29 =>
 letO (load1 t29 H9) fun t30 =>
 letO (some (t28 : AV)) fun t8 =>
 letO (some (t30 : AV)) fun t9 =>
 letO (some (t9 : AV)) fun t31 =>
 letO (binF Tryd.prog .gtr 3 t31 (.int .i64 0)) fun t32 =>
 condA t32 true (
 letO (some ((L8.getD 0 .any) : AV)) fun t33 =>
 letO (some (t8 : AV)) fun t34 =>
 letO (binF Tryd.prog .shl 101 (.int .u64 1) t34) fun t35 =>
 letO (binF Tryd.prog .andNot 101 t33 t35) fun t36 =>
 letO (some (t36 : AV)) fun t5 =>
 J10 [t5] H9) (
 J10 [(L8.getD 0 .any)] H9)) ∧ ∀ L11 H12, J10 L11 H12 → -- [t5]
 letO (binF Tryd.prog .add 3 (L8.getD 1 .any) (.int .i64 1)) fun t37 =>
 letO (some (t37 : AV)) fun t26 =>
 I6 [(L11.getD 0 .any), t26] H12 ∧ μ7 [(L11.getD 0 .any), t26] H12 < μ7 L8 H9) (
 letO (binF Tryd.prog .add 3 (L4.getD 1 .any) (.int .i64 1)) fun t38 =>
 letO (some (t38 : AV)) fun t17 =>
 I2 [(L8.getD 0 .any), t17] H9 ∧ μ3 [(L8.getD 0 .any), t17] H9 < μ3 L4 H5)) (
 letO (some ((L4.getD 0 .any) : AV)) fun t39 =>
 letO (some (t39 : AV)) fun t4 =>
endK t4 H5 K)

theorem W82_ok {x0 x1 : AV} {H : Heap} {K : AV → Heap → Prop} (h : W82 x0 x1 H K) : ACalls Tryd.prog 82 [x0, x1] H K :=
  acallsB (fn := Tryd.f82) (cfg := cfgOf [] [] [] [] []) (hh := (.dir .nil (.dir .nil (.dir (.dir .nil (.blk (.loop [5, 17] [18, 19, 20, 7, 21, 22, 23, 24, 25, 26, 27, 28, 29, 30, 8, 9, 31, 32, 33, 34, 35, 36, 5, 37, 38, 17] (.dir .nil (.dir .nil (.dir (.blk (.dir .nil (.dir .nil (.blk (.loop [5, 26] [27, 28, 29, 30, 8, 9, 31, 32, 33, 34, 35, 36, 5, 37, 26] (.dir .nil (.dir .nil (.cut [5] [28, 29, 30, 8, 9, 31, 32, 33, 34, 35, 36, 5] (.blk (.dir .nil (.dir .nil .nil))) .nil)))))))) .nil)))))) .nil)))) follows Tryd.func82 (by kernel_rfl) (Nat.le_of_ble_eq_true (by kernel_rfl)) (by kernel_rfl) h

/-- headword.table.list -/
def W83 (x0 : AV) (H : Heap) (K : AV → Heap → Prop) : Prop :=
 letO (some (.nils : AV)) fun t2 =>
 letO (some (.nils : AV)) fun t3 =>
 true = true ∧ ∃ (I1 : List AV → Heap → Prop) (μ2 : List AV → Heap → Nat), I1 [t3, x0] H ∧ ∀ L3 H4, I1 L3 H4 → -- [t3, t0]
 letO (some ((L3.getD 1 .any) : AV)) fun t4 =>
 letO (binF Tryd.prog .neq 101 t4 (.int .u64 0)) fun t5 =>
 condA t5 true (
 letO (some ((L3.getD 0 .any) : AV)) fun t10 =>
 letO (some ((L3.getD 1 .any) : AV)) fun t11 =>
 ACalls Tryd.prog 103 [t11] H4 fun t12 H5 =>
 letO (literalF Tryd.prog 23 1 [(0, t12)]) fun c6 =>
 appendA 1 8 t10 (.imm 1 true c6) (fun t14 H7 =>
 letO (some (t14 : AV)) fun t3 =>
 letO (some ((L3.getD 1 .any) : AV)) fun t6 =>
 letO (some ((L3.getD 1 .any) : AV)) fun t7 =>
 letO (binF Tryd.prog .sub 101 t7 (.int .u64 1)) fun t8 =>
 letO (binF Tryd.prog .and 101 t6 t8) fun t9 =>
 letO (some (t9 : AV)) fun t0 =>
 I1 [t3, t0] H7 ∧ μ2 [t3, t0] H7 < μ2 L3 H4) H5) (
 letO (some ((L3.getD 0 .any) : AV)) fun t15 =>
 letO (some (t15 : AV)) fun t2 =>
endK t2 H4 K)

theorem W83_ok {x0 : AV} {H : Heap} {K : AV → Heap → Prop} (h : W83 x0 H K) : ACalls Tryd.prog 83 [x0] H K :=
  acallsB (fn := Tryd.f83) (cfg := cfgOf [] [] [] [] []) (hh := (.dir .nil (.dir .nil (.dir (.blk (.loop [3, 0] [4, 5, 10, 11, 12, 13, 14, 3, 6, 7, 8, 9, 0] (.dir (.dir .nil .nil) (.dir .nil .nil)))) .nil)))) follows Tryd.func83 (by kernel_rfl) (Nat.le_of_ble_eq_true (by kernel_rfl)) (by kernel_rfl) h

/-- math.bits.OnesCount -/
def W84 (x0 : AV) (H : Heap) (K : AV → Heap → Prop) : Prop :=
 letO (some ((.int .i64 0) : AV)) fun t2 =>
 condA (.bool false) true (
 letO (some (x0 : AV)) fun t3 =>
 letO (convF Tryd.prog 101 119 t3) fun t4 =>
 ACalls Tryd.prog 104 [t4] H fun t5 H1 =>
 letO (some (t5 : AV)) fun t2 =>
endK t2 H1 K) (
 letO (some (x0 : AV)) fun t6 =>
 ACalls Tryd.prog 105 [t6] H fun t7 H2 =>
 letO (some (t7 : AV)) fun t2 =>
endK t2 H2 K)

theorem W84_ok {x0 : AV} {H : Heap} {K : AV → Heap → Prop} (h : W84 x0 H K) : ACalls Tryd.prog 84 [x0] H K :=
  acallsB (fn := Tryd.f84) (cfg := cfgOf [] [] [] [] []) (hh := (.dir .nil (.dir (.dir .nil .nil) .nil))) follows Tryd.func84 (by kernel_rfl) (Nat.le_of_ble_eq_true (by kernel_rfl)) (by kernel_rfl) h

/-- headword.table.read -/
def W87 (x0 x1 : AV) (H : Heap) (K : AV → Heap → Prop) : Prop :=
 letO (some ((.int .u64 0) : AV)) fun t4 =>
 letO (some ((.int .i64 0) : AV)) fun t5 =>
 letO (some ((.int .u64 0) : AV)) fun t6 =>
 letO (some ((.int .i64 (-1)) : AV)) fun t7 =>
 letO (some (x1 : AV)) fun t10 =>
 letO (lenA t10) fun t11 =>
 letO (some ((.int .i64 0) : AV)) fun t12 =>
 true = true ∧ ∃ (I1 : List AV → Heap → Prop) (μ2 : List AV → Heap → Nat), I1 [t6, t7, t12] H ∧ ∀ L3 H4, I1 L3 H4 → -- [t6, t7, t12]
 letO (binF Tryd.prog .lss 3 (L3.getD 2 .any) t11) fun t13 =>
 condA t13 true (
 letO (idx 1 t10 (L3.getD 2 .any)) fun t14 =>
 letO (load1 t14 H4) fun t15 =>
 letO (some (t15 : AV)) fun t9 =>
 letO (some (t9 : AV)) fun t17 =>
 letO (binF Tryd.prog .lss 3 t17 (.int .i64 0)) fun t18 =>
 letO (some (t18 : AV)) fun t19 =>
 letO (gval t19 false (some (t9 : AV))) fun t20 =>
 letO (gval t19 false (some (x0 : AV))) fun t21 =>
 letO (gval t19 false (binF Tryd.prog .geq 3 t20 t21)) fun t22 =>
 letO (pickF t19 (.bool true) t22) fun t23 =>
 letO (some (t23 : AV)) fun t16 =>
 condA t16 true (
 letO (some ((.int .u64 0) : AV)) fun t4 =>
 letO (some ((.int .i64 2) : AV)) fun t5 =>
endK (.tup [t4, t5]) H4 K) (
 letO (some (t9 : AV)) fun t25 =>
 letO (some ((L3.getD 1 .any) : AV)) fun t26 =>
 letO (binF Tryd.prog .leq 3 t25 t26) fun t27 =>
 letO (some (t27 : AV)) fun t24 =>
 condA t24 true (
 letO (some ((.int .u64 0) : AV)) fun t4 =>
 letO (some ((.int .i64 7) : AV)) fun t5 =>
endK (.tup [t4, t5]) H4 K) (
 letO (some ((L3.getD 0 .any) : AV)) fun t28 =>
 letO (some (t9 : AV)) fun t29 =>
 letO (binF Tryd.prog .shl 101 (.int .u64 1) t29) fun t30 =>
 letO (binF Tryd.prog .or 101 t28 t30) fun t31 =>
 letO (some (t9 : AV)) fun t32 =>
 letO (some (t31 : AV)) fun t6 =>
 letO (some (t32 : AV)) fun t7 =>
 letO (binF Tryd.prog .add 3 (L3.getD 2 .any) (.int .i64 1)) fun t33 =>
 letO (some (t33 : AV)) fun t12 =>
 I1 [t6, t7, t12] H4 ∧ μ2 [t6, t7, t12] H4 < μ2 L3 H4))) (
 letO (some ((L3.getD 0 .any) : AV)) fun t34 =>
 letO (some (t34 : AV)) fun t4 =>
 letO (some ((.int .i64 0) : AV)) fun t5 =>
endK (.tup [t4, t5]) H4 K)

theorem W87_ok {x0 x1 : AV} {H : Heap} {K : AV → Heap → Prop} (h : W87 x0 x1 H K) : ACalls Tryd.prog 87 [x0, x1] H K :=
  acallsB (fn := Tryd.f87) (cfg := cfgOf [] [] [] [] []) (hh := (.dir .nil (.dir .nil (.dir (.dir .nil (.blk (.loop [6, 7, 12] [13, 14, 15, 9, 17, 18, 19, 20, 21, 22, 23, 16, 4, 5, 25, 26, 27, 24, 28, 29, 30, 31, 32, 6, 7, 33, 12] (.dir .nil (.dir .nil (.dir (.blk (.dir .nil (.dir (.blk (.dir .nil (.dir .nil (.dir .nil (.dir .nil .nil))))) .nil))) .nil)))))) .nil)))) follows Tryd.func87 (by kernel_rfl) (Nat.le_of_ble_eq_true (by kernel_rfl)) (by kernel_rfl) h

/-- headword.table.copied -/
def W90 (x0 : AV) (H : Heap) (K : AV → Heap → Prop) : Prop :=
 letO (some (.nils : AV)) fun t2 =>
 letO (some (.nils : AV)) fun t3 =>
 letO (some (x0 : AV)) fun t6 =>
 letO (lenA t6) fun t7 =>
 letO (some ((.int .i64 0) : AV)) fun t8 =>
 true = true ∧ ∃ (I1 : List AV → Heap → Prop) (μ2 : List AV → Heap → Nat), I1 [t3, t8] H ∧ ∀ L3 H4, I1 L3 H4 → -- [t3, t8]
 letO (binF Tryd.prog .lss 3 (L3.getD 1 .any) t7) fun t9 =>
 condA t9 true (
 letO (idx 1 t6 (L3.getD 1 .any)) fun t10 =>
 letO (load1 t10 H4) fun t11 =>
 letO (some (t11 : AV)) fun t5 =>
 letO (some ((L3.getD 0 .any) : AV)) fun t12 =>
 letO (some (t5 : AV)) fun t13 =>
 ACalls Tryd.prog 59 [t13] H4 fun t14 H5 =>
 letO (literalF Tryd.prog 22 1 [(0, t14)]) fun c6 =>
 appendA 1 24 t12 (.imm 1 true c6) (fun t16 H7 =>
 letO (some (t16 : AV)) fun t3 =>
 letO (binF Tryd.prog .add 3 (L3.getD 1 .any) (.int .i64 1)) fun t17 =>
 letO (some (t17 : AV)) fun t8 =>
 I1 [t3, t8] H7 ∧ μ2 [t3, t8] H7 < μ2 L3 H4) H5) (
 letO (some ((L3.getD 0 .any) : AV)) fun t18 =>
 letO (some (t18 : AV)) fun t2 =>
endK t2 H4 K)

theorem W90_ok {x0 : AV} {H : Heap} {K : AV → Heap → Prop} (h : W90 x0 H K) : ACalls Tryd.prog 90 [x0] H K :=
  acallsB (fn := Tryd.f90) (cfg := cfgOf [] [] [] [] []) (hh := (.dir .nil (.dir .nil (.dir (.dir .nil (.blk (.loop [3, 8] [9, 10, 11, 5, 12, 13, 14, 15, 16, 3, 17, 8] (.dir .nil (.dir .nil (.dir .nil .nil)))))) .nil)))) follows Tryd.func90 (by kernel_rfl) (Nat.le_of_ble_eq_true (by kernel_rfl)) (by kernel_rfl) h

/-- headword.table.take -/
def W91 (x0 x1 x2 : AV) (H : Heap) (K : AV → Heap → Prop) : Prop :=
 letO (some (x1 : AV)) fun t8 =>
 letO (lenA t8) fun t9 =>
 letO (some ((.int .i64 0) : AV)) fun t10 =>
 true = true ∧ ∃ (I1 : List AV → Heap → Prop) (μ2 : List AV → Heap → Nat), I1 [t10] H ∧ ∀ L3 H4, I1 L3 H4 → -- [t10]
 letO (binF Tryd.prog .lss 3 (L3.getD 0 .any) t9) fun t11 =>
 condA t11 true (
 letO (some ((L3.getD 0 .any) : AV)) fun t12 =>
 letO (idx 1 t8 (L3.getD 0 .any)) fun t13 =>
 letO (load1 t13 H4) fun t14 =>
 letO (some (t12 : AV)) fun t6 =>
 letO (some (t14 : AV)) fun t7 =>
 letO (some (x0 : AV)) fun t15 =>
 letO (some (t6 : AV)) fun t16 =>
 letO (idx 1 t15 t16) fun t17 =>
 letO (load1 t17 H4) fun t18 =>
 letO (some (t7 : AV)) fun t19 =>
 letO (idx 1 t18 t19) fun t20 =>
 letO (load1 t20 H4) fun t21 =>
 letO (some (x2 : AV)) fun t22 =>
 letO (binF Tryd.prog .sub 3 t21 t22) fun t23 =>
 letO (idx 1 t18 t19) fun t24 =>
 storeA 1 t24 t23 (fun H5 =>
 letO (binF Tryd.prog .add 3 (L3.getD 0 .any) (.int .i64 1)) fun t25 =>
 letO (some (t25 : AV)) fun t10 =>
 I1 [t10] H5 ∧ μ2 [t10] H5 < μ2 L3 H4) H4) (
endK (.tup []) H4 K)

theorem W91_ok {x0 x1 x2 : AV} {H : Heap} {K : AV → Heap → Prop} (h : W91 x0 x1 x2 H K) : ACalls Tryd.prog 91 [x0, x1, x2] H K :=
  acallsB (fn := Tryd.f91) (cfg := cfgOf [] [] [] [] []) (hh := (.dir .nil (.blk (.loop [10] [11, 12, 13, 14, 6, 7, 15, 16, 17, 18, 19, 20, 21, 22, 23, 24, 25, 10] (.dir .nil (.dir .nil (.dir .nil .nil))))))) follows Tryd.func91 (by kernel_rfl) (Nat.le_of_ble_eq_true (by kernel_rfl)) (by kernel_rfl) h

/-- headword.table.Splits$1 -/
def W93 (x0 x1 x2 x3 : AV) (H : Heap) (K : AV → Heap → Prop) : Prop :=
 letO (some ((.bool false) : AV)) fun t7 =>
 letO (load1 x3 H) fun t8 =>
 letO (some (x0 : AV)) fun t9 =>
 letO (literalF Tryd.prog 22 1 [(0, t9)]) fun c1 =>
 appendA 1 24 t8 (.imm 1 true c1) (fun t11 H2 =>
 storeA 1 x3 t11 (fun H3 =>
 letO (some ((.bool true) : AV)) fun t7 =>
endK t7 H3 K) H2) H

theorem W93_ok {x0 x1 x2 x3 : AV} {H : Heap} {K : AV → Heap → Prop} (h : W93 x0 x1 x2 x3 H K) : ACalls Tryd.prog 93 [x0, x1, x2, x3] H K :=
  acallsB (fn := Tryd.f93) (cfg := cfgOf [] [] [] [] []) (hh := (.dir .nil (.dir .nil .nil))) follows Tryd.func93 (by kernel_rfl) (Nat.le_of_ble_eq_true (by kernel_rfl)) (by kernel_rfl) h

/-- (headword.table.walk).from -/
def W94 (x0 x1 x2 x3 : AV) (H : Heap) (K : AV → Heap → Prop) : Prop :=
 letO (cellsOf? x0) fun c1 =>
 letO (some ((.bool false) : AV)) fun t8 =>
 letO (some (x1 : AV)) fun t12 =>
 letO (lenA t12) fun t13 =>
 letO (some (t13 : AV)) fun t9 =>
 letO (some (t9 : AV)) fun t14 =>
 letO (faddr 0 (.iptr c1)) fun t15 =>
 letO (load1 t15 H) fun t16 =>
 letO (lenA t16) fun t17 =>
 letO (binF Tryd.prog .eql 3 t14 t17) fun t18 =>
 condA t18 true (
 letO (faddr 1 (.iptr c1)) fun t19 =>
 letO (load1 t19 H) fun t20 =>
 letO (some (x1 : AV)) fun t21 =>
 letO (some (x2 : AV)) fun t22 =>
 letO (some (x3 : AV)) fun t23 =>
 callA Tryd.prog t20 [t21, t22, t23] (fun t24 H2 =>
 letO (some (t24 : AV)) fun t8 =>
endK t8 H2 K) H) (
 letO (faddr 0 (.iptr c1)) fun t25 =>
 letO (load1 t25 H) fun t26 =>
 letO (some (t9 : AV)) fun t27 =>
 letO (idx 1 t26 t27) fun t28 =>
 letO (load1 t28 H) fun t29 =>
 letO (lenA t29) fun t30 =>
 letO (some ((.int .i64 0) : AV)) fun t31 =>
 true = true ∧ ∃ (I3 : List AV → Heap → Prop) (μ4 : List AV → Heap → Nat), I3 [t31] H ∧ ∀ L5 H6, I3 L5 H6 → -- [t31]
 letO (binF Tryd.prog .lss 3 (L5.getD 0 .any) t30) fun t32 =>
 condA t32 true (
 letO (some ((L5.getD 0 .any) : AV)) fun t33 =>
 letO (idx 1 t29 (L5.getD 0 .any)) fun t34 =>
 letO (load1 t34 H6) fun t35 =>
 letO (some (t33 : AV)) fun t10 =>
 letO (some (t35 : AV)) fun t11 =>
 true = true ∧
 letO (some (t11 : AV)) fun t36 =>
 letO (binF Tryd.prog .gtr 3 t36 (.int .i64 0)) fun t37 =>
 letO (some (t37 : AV)) fun t38 =>
 letO (gval t38 true (some (x1 : AV))) fun t39 =>
 letO (gval t38 true (some (t10 : AV))) fun t40 =>
 ∃ J7 : AV → Heap → Prop, condG t38 true (ACalls Tryd.prog 62 [t39, t40] H6 fun t41 H8 =>
 J7 t41 H8) (J7 (.tup []) H6) ∧ ∀ t41 H9, J7 t41 H9 →
 letO (gval t38 true (unF .not t41)) fun t42 =>
 letO (pickF t38 t42 (.bool false)) fun t43 =>
 letO (some (t43 : AV)) fun t44 =>
 letO (gval t44 true (loadN 2 (.iptr c1) Heap.none)) fun t45 =>
 letO (gval t44 true (some (x1 : AV))) fun t46 =>
 letO (gval t44 true (some (t9 : AV))) fun t47 =>
 letO (gval t44 true (some (t9 : AV))) fun t48 =>
 letO (gval t44 true (slc 1 t46 none (some t47) (some t48))) fun t49 =>
 letO (gval t44 true (some (t10 : AV))) fun t50 =>
 letO (gval t44 true ((literalF Tryd.prog 23 1 [(0, t50)]).map (.imm 1 true))) fun t51 =>
 letO (gval t44 true (some (x2 : AV))) fun t53 =>
 letO (gval t44 true (some (t11 : AV))) fun t54 =>
 letO (gval t44 true (binF Tryd.prog .mul 3 t53 t54)) fun t55 =>
 letO (gval t44 true (some (x3 : AV))) fun t56 =>
 letO (gval t44 true (some (t11 : AV))) fun t57 =>
 letO (gval t44 true (min2F t56 t57)) fun t58 =>
 ∃ J10 : AV → Heap → Prop, condG t44 true (isRef t49 = false ∧ appendA 1 8 t49 t51 (fun t52 H11 =>
 J10 t52 H11) H9) (J10 (.tup []) H9) ∧ ∀ t52 H12, J10 t52 H12 →
 ∃ J13 : AV → Heap → Prop, condG t44 true (ACalls Tryd.prog 94 [t45, t52, t55, t58] H12 fun t59 H14 =>
 J13 t59 H14) (J13 (.tup []) H12) ∧ ∀ t59 H15, J13 t59 H15 →
 letO (gval t44 true (unF .not t59)) fun t60 =>
 letO (pickF t44 t60 (.bool false)) fun t61 =>
 condA t61 true (
 letO (some ((.bool false) : AV)) fun t8 =>
endK t8 H15 K) (
 letO (binF Tryd.prog .add 3 (L5.getD 0 .any) (.int .i64 1)) fun t62 =>
 letO (some (t62 : AV)) fun t31 =>
 I3 [t31] H15 ∧ μ4 [t31] H15 < μ4 L5 H6)) (
 letO (some ((.bool true) : AV)) fun t8 =>
endK t8 H6 K))

theorem W94_ok {x0 x1 x2 x3 : AV} {H : Heap} {K : AV → Heap → Prop} (h : W94 x0 x1 x2 x3 H K) : ACalls Tryd.prog 94 [x0, x1, x2, x3] H K :=
  acallsB (fn := Tryd.f94) (cfg := cfgOf [] [45] [(7, [0, 1, 3, 7, 7, 31, 63, 127, 255, 511, 511, 511, 511, 7679, 511, 16895, 65023, 511, 511, 393727, 511, 511, 3146239, 8388607, 16777215, 33554431])] [52] []) (hh := (.dir .nil (.dir .nil (.dir (.dir .nil (.dir .nil .nil)) (.dir (.dir .nil (.blk (.loop [31] [32, 33, 34, 35, 10, 11, 36, 37, 38, 39, 40, 41, 42, 43, 44, 45, 46, 47, 48, 49, 50, 51, 52, 53, 54, 55, 56, 57, 58, 59, 60, 61, 8, 62, 31] (.dir .nil (.dir .nil (.dir (.blk (.dir .nil (.dir .nil (.dir .nil .nil)))) .nil)))))) .nil))))) follows Tryd.func94 (by kernel_rfl) (Nat.le_of_ble_eq_true (by kernel_rfl)) (by kernel_rfl) h

/-- headword.table.Splits$2 -/
def W95 (x0 x1 x2 x3 x4 : AV) (H : Heap) (K : AV → Heap → Prop) : Prop :=
 letO (some ((.int .i64 0) : AV)) fun t7 =>
 letO (some (x1 : AV)) fun t14 =>
 letO (binF Tryd.prog .eql 3 t14 (.int .i64 0)) fun t15 =>
 letO (some (t15 : AV)) fun t13 =>
 condA t13 true (
 letO (some ((.int .i64 1) : AV)) fun t7 =>
endK t7 H K) (
 letO (some (x0 : AV)) fun t17 =>
 letO (load1 x2 H) fun t18 =>
 letO (lenA t18) fun t19 =>
 letO (binF Tryd.prog .eql 3 t17 t19) fun t20 =>
 letO (some (t20 : AV)) fun t16 =>
 condA t16 true (
 letO (some ((.int .i64 0) : AV)) fun t7 =>
endK t7 H K) (
 letO (load1 x3 H) fun t21 =>
 letO (some (x0 : AV)) fun t22 =>
 letO (binF Tryd.prog .add 3 t22 (.int .i64 1)) fun t23 =>
 letO (some (x1 : AV)) fun t24 =>
 callA Tryd.prog t21 [t23, t24] (fun t25 H1 =>
 letO (some (t25 : AV)) fun t8 =>
 letO (some ((.int .i64 9) : AV)) fun t9 =>
 letO (load1 x2 H1) fun t26 =>
 letO (some (x0 : AV)) fun t27 =>
 letO (idx 1 t26 t27) fun t28 =>
 letO (load1 t28 H1) fun t29 =>
 letO (lenA t29) fun t30 =>
 letO (some ((.int .i64 0) : AV)) fun t31 =>
 true = true ∧ ∃ (I2 : List AV → Heap → Prop) (μ3 : List AV → Heap → Nat), I2 [t9, t31] H1 ∧ ∀ L4 H5, I2 L4 H5 → -- [t9, t31]
 letO (binF Tryd.prog .lss 3 (L4.getD 1 .any) t30) fun t32 =>
 condA t32 true (
 letO (some ((L4.getD 1 .any) : AV)) fun t33 =>
 letO (idx 1 t29 (L4.getD 1 .any)) fun t34 =>
 letO (load1 t34 H5) fun t35 =>
 letO (some (t33 : AV)) fun t10 =>
 letO (some (t35 : AV)) fun t11 =>
 letO (some ((L4.getD 0 .any) : AV)) fun t36 =>
 letO (load1 x4 H5) fun t37 =>
 letO (some (t10 : AV)) fun t38 =>
 letO (idx 1 t37 t38) fun t39 =>
 letO (load1 t39 H5) fun t40 =>
 letO (some (t11 : AV)) fun t41 =>
 letO (idx 1 t40 t41) fun t42 =>
 letO (load1 t42 H5) fun t43 =>
 letO (min2F t36 t43) fun t44 =>
 letO (some (t44 : AV)) fun t9 =>
 letO (binF Tryd.prog .add 3 (L4.getD 1 .any) (.int .i64 1)) fun t45 =>
 letO (some (t45 : AV)) fun t31 =>
 I2 [t9, t31] H5 ∧ μ3 [t9, t31] H5 < μ3 L4 H5) (
 letO (some ((L4.getD 0 .any) : AV)) fun t46 =>
 letO (some ((.int .i64 0) : AV)) fun t47 =>
 true = true ∧ ∃ (I6 : List AV → Heap → Prop) (μ7 : List AV → Heap → Nat), I6 [t8, t47] H5 ∧ ∀ L8 H9, I6 L8 H9 → -- [t8, t47]
 letO (binF Tryd.prog .lss 3 (L8.getD 1 .any) t46) fun t48 =>
 condA t48 true (
 letO (some ((L8.getD 1 .any) : AV)) fun t49 =>
 letO (some (t49 : AV)) fun t12 =>
 true = true ∧
 letO (load1 x4 H9) fun t50 =>
 letO (load1 x2 H9) fun t51 =>
 letO (some (x0 : AV)) fun t52 =>
 letO (idx 1 t51 t52) fun t53 =>
 letO (load1 t53 H9) fun t54 =>
 ACalls Tryd.prog 91 [t50, t54, (.int .i64 1)] H9 fun t55 H10 =>
 letO (some ((L8.getD 0 .any) : AV)) fun t56 =>
 letO (load1 x3 H10) fun t57 =>
 letO (some (x0 : AV)) fun t58 =>
 letO (binF Tryd.prog .add 3 t58 (.int .i64 1)) fun t59 =>
 letO (some (x1 : AV)) fun t60 =>
 letO (some (t12 : AV)) fun t61 =>
 letO (binF Tryd.prog .sub 3 t60 t61) fun t62 =>
 letO (binF Tryd.prog .sub 3 t62 (.int .i64 1)) fun t63 =>
 callA Tryd.prog t57 [t59, t63] (fun t64 H11 =>
 letO (binF Tryd.prog .add 3 t56 t64) fun t65 =>
 letO (some (t65 : AV)) fun t8 =>
 letO (binF Tryd.prog .add 3 (L8.getD 1 .any) (.int .i64 1)) fun t66 =>
 letO (some (t66 : AV)) fun t47 =>
 I6 [t8, t47] H11 ∧ μ7 [t8, t47] H11 < μ7 L8 H9) H10) (
 true = true ∧
 letO (load1 x4 H9) fun t67 =>
 letO (load1 x2 H9) fun t68 =>
 letO (some (x0 : AV)) fun t69 =>
 letO (idx 1 t68 t69) fun t70 =>
 letO (load1 t70 H9) fun t71 =>
 letO (some ((L4.getD 0 .any) : AV)) fun t72 =>
 letO (unF .neg t72) fun t73 =>
 ACalls Tryd.prog 91 [t67, t71, t73] H9 fun t74 H12 =>
 letO (some ((L8.getD 0 .any) : AV)) fun t75 =>
 letO (some (t75 : AV)) fun t7 =>
endK t7 H12 K))) H))

theorem W95_ok {x0 x1 x2 x3 x4 : AV} {H : Heap} {K : AV → Heap → Prop} (h : W95 x0 x1 x2 x3 x4 H K) : ACalls Tryd.prog 95 [x0, x1, x2, x3, x4] H K :=
  acallsB (fn := Tryd.f95) (cfg := cfgOf [] [] [(15, [0, 0, 0, 6, 14, 31]), (18, [0, 0, 0, 6, 14, 0, 32, 127])] [] []) (hh := (.dir .nil (.dir (.blk (.dir .nil (.dir .nil (.dir .nil (.dir .nil .nil))))) (.dir .nil (.dir .nil (.dir (.dir .nil (.blk (.loop [9, 31] [32, 33, 34, 35, 10, 11, 36, 37, 38, 39, 40, 41, 42, 43, 44, 9, 45, 31] (.dir .nil (.dir .nil (.dir .nil .nil)))))) (.dir (.dir .nil (.blk (.loop [8, 47] [48, 49, 12, 50, 51, 52, 53, 54, 55, 56, 57, 58, 59, 60, 61, 62, 63, 64, 65, 8, 66, 47] (.dir .nil (.dir .nil (.dir (.blk (.dir .nil .nil)) .nil)))))) (.dir .nil .nil)))))))) follows Tryd.func95 (by kernel_rfl) (Nat.le_of_ble_eq_true (by kernel_rfl)) (by kernel_rfl) h

/-- slices.IndexFunc[[]int,int] -/
def W98 (x0 x1 : AV) (H : Heap) (K : AV → Heap → Prop) : Prop :=
 letO (some ((.int .i64 0) : AV)) fun t4 =>
 letO (some (x0 : AV)) fun t6 =>
 letO (lenA t6) fun t7 =>
 letO (some ((.int .i64 0) : AV)) fun t8 =>
 true = true ∧ ∃ (I1 : List AV → Heap → Prop) (μ2 : List AV → Heap → Nat), I1 [t8] H ∧ ∀ L3 H4, I1 L3 H4 → -- [t8]
 letO (binF Tryd.prog .lss 3 (L3.getD 0 .any) t7) fun t9 =>
 condA t9 true (
 letO (some ((L3.getD 0 .any) : AV)) fun t10 =>
 letO (some (t10 : AV)) fun t5 =>
 letO (some (x1 : AV)) fun t11 =>
 letO (some (x0 : AV)) fun t12 =>
 letO (some (t5 : AV)) fun t13 =>
 letO (idx 1 t12 t13) fun t14 =>
 letO (load1 t14 H4) fun t15 =>
 callA Tryd.prog t11 [t15] (fun t16 H5 =>
 condA t16 true (
 letO (some (t5 : AV)) fun t17 =>
 letO (some (t17 : AV)) fun t4 =>
endK t4 H5 K) (
 letO (binF Tryd.prog .add 3 (L3.getD 0 .any) (.int .i64 1)) fun t18 =>
 letO (some (t18 : AV)) fun t8 =>
 I1 [t8] H5 ∧ μ2 [t8] H5 < μ2 L3 H4)) H4) (
 letO (some ((.int .i64 (-1)) : AV)) fun t4 =>
endK t4 H4 K)

theorem W98_ok {x0 x1 : AV} {H : Heap} {K : AV → Heap → Prop} (h : W98 x0 x1 H K) : ACalls Tryd.prog 98 [x0, x1] H K :=
  acallsB (fn := Tryd.f98) (cfg := cfgOf [] [] [] [] []) (hh := (.dir .nil (.dir (.dir .nil (.blk (.loop [8] [9, 10, 5, 11, 12, 13, 14, 15, 16, 17, 4, 18, 8] (.dir .nil (.dir .nil (.dir (.blk (.dir .nil (.dir .nil (.dir .nil .nil)))) .nil)))))) .nil))) follows Tryd.func98 (by kernel_rfl) (Nat.le_of_ble_eq_true (by kernel_rfl)) (by kernel_rfl) h

/-- cmp.Compare[int] -/
def W99 (x0 x1 : AV) (H : Heap) (K : AV → Heap → Prop) : Prop :=
 letO (some ((.int .i64 0) : AV)) fun t4 =>
 letO (some (x0 : AV)) fun t7 =>
 ACalls Tryd.prog 106 [t7] H fun t8 H1 =>
 letO (some (t8 : AV)) fun t5 =>
 letO (some (x1 : AV)) fun t9 =>
 ACalls Tryd.prog 106 [t9] H1 fun t10 H2 =>
 letO (some (t10 : AV)) fun t6 =>
 letO (some (t5 : AV)) fun t11 =>
 condA t11 true (
 letO (some (t6 : AV)) fun t12 =>
 condA t12 true (
 letO (some ((.int .i64 0) : AV)) fun t4 =>
endK t4 H2 K) (
 letO (some ((.int .i64 (-1)) : AV)) fun t4 =>
endK t4 H2 K)) (
 letO (some (t6 : AV)) fun t13 =>
 condA t13 true (
 letO (some ((.int .i64 1) : AV)) fun t4 =>
endK t4 H2 K) (
 letO (some (x0 : AV)) fun t14 =>
 letO (some (x1 : AV)) fun t15 =>
 letO (binF Tryd.prog .lss 3 t14 t15) fun t16 =>
 condA t16 true (
 letO (some ((.int .i64 (-1)) : AV)) fun t4 =>
endK t4 H2 K) (
 letO (some (x0 : AV)) fun t17 =>
 letO (some (x1 : AV)) fun t18 =>
 letO (binF Tryd.prog .gtr 3 t17 t18) fun t19 =>
 condA t19 true (
 letO (some ((.int .i64 1) : AV)) fun t4 =>
endK t4 H2 K) (
 letO (some ((.int .i64 0) : AV)) fun t4 =>
endK t4 H2 K))))

theorem W99_ok {x0 x1 : AV} {H : Heap} {K : AV → Heap → Prop} (h : W99 x0 x1 H K) : ACalls Tryd.prog 99 [x0, x1] H K :=
  acallsB (fn := Tryd.f99) (cfg := cfgOf [] [] [] [] []) (hh := (.dir .nil (.dir .nil (.dir .nil (.dir (.dir .nil (.dir (.dir (.dir .nil (.dir .nil .nil)) .nil) .nil)) (.dir (.dir .nil (.dir .nil .nil)) (.dir (.dir .nil (.dir .nil .nil)) (.dir (.dir .nil (.dir .nil .nil)) .nil)))))))) follows Tryd.func99 (by kernel_rfl) (Nat.le_of_ble_eq_true (by kernel_rfl)) (by kernel_rfl) h

/-- slices.Index[[]int,int] -/
def W100 (x0 x1 : AV) (H : Heap) (K : AV → Heap → Prop) : Prop :=
 letO (some ((.int .i64 0) : AV)) fun t4 =>
 letO (some (x0 : AV)) fun t6 =>
 letO (lenA t6) fun t7 =>
 letO (some ((.int .i64 0) : AV)) fun t8 =>
 true = true ∧ ∃ (I1 : List AV → Heap → Prop) (μ2 : List AV → Heap → Nat), I1 [t8] H ∧ ∀ L3 H4, I1 L3 H4 → -- [t8]
 letO (binF Tryd.prog .lss 3 (L3.getD 0 .any) t7) fun t9 =>
 condA t9 true (
 letO (some ((L3.getD 0 .any) : AV)) fun t10 =>
 letO (some (t10 : AV)) fun t5 =>
 letO (some (x1 : AV)) fun t11 =>
 letO (some (x0 : AV)) fun t12 =>
 letO (some (t5 : AV)) fun t13 =>
 letO (idx 1 t12 t13) fun t14 =>
 letO (load1 t14 H4) fun t15 =>
 letO (binF Tryd.prog .eql 3 t11 t15) fun t16 =>
 condA t16 true (
 letO (some (t5 : AV)) fun t17 =>
 letO (some (t17 : AV)) fun t4 =>
endK t4 H4 K) (
 letO (binF Tryd.prog .add 3 (L3.getD 0 .any) (.int .i64 1)) fun t18 =>
 letO (some (t18 : AV)) fun t8 =>
 I1 [t8] H4 ∧ μ2 [t8] H4 < μ2 L3 H4)) (
 letO (some ((.int .i64 (-1)) : AV)) fun t4 =>
endK t4 H4 K)

theorem W100_ok {x0 x1 : AV} {H : Heap} {K : AV → Heap → Prop} (h : W100 x0 x1 H K) : ACalls Tryd.prog 100 [x0, x1] H K :=
  acallsB (fn := Tryd.f100) (cfg := cfgOf [] [] [] [] []) (hh := (.dir .nil (.dir (.dir .nil (.blk (.loop [8] [9, 10, 5, 11, 12, 13, 14, 15, 16, 17, 4, 18, 8] (.dir .nil (.dir .nil (.dir (.blk (.dir .nil (.dir .nil (.dir .nil .nil)))) .nil)))))) .nil))) follows Tryd.func100 (by kernel_rfl) (Nat.le_of_ble_eq_true (by kernel_rfl)) (by kernel_rfl) h

/-- headword.table.first$1 -/
def W101 (x0 x1 x2 x3 x4 : AV) (H : Heap) (K : AV → Heap → Prop) : Prop :=
 letO (some ((.bool false) : AV)) fun t8 =>
 letO (some (x0 : AV)) fun t9 =>
 letO (some (x2 : AV)) fun t10 =>
 storeA 1 x3 t9 (fun H1 =>
 storeA 1 x4 t10 (fun H2 =>
 letO (some ((.bool false) : AV)) fun t8 =>
endK t8 H2 K) H1) H

theorem W101_ok {x0 x1 x2 x3 x4 : AV} {H : Heap} {K : AV → Heap → Prop} (h : W101 x0 x1 x2 x3 x4 H K) : ACalls Tryd.prog 101 [x0, x1, x2, x3, x4] H K :=
  acallsB (fn := Tryd.f101) (cfg := cfgOf [] [] [] [] []) (hh := (.dir .nil (.dir .nil .nil))) follows Tryd.func101 (by kernel_rfl) (Nat.le_of_ble_eq_true (by kernel_rfl)) (by kernel_rfl) h

/-- headword.table.counted$1 -/
def W102 (x0 x1 x2 x3 x4 : AV) (H : Heap) (K : AV → Heap → Prop) : Prop :=
 letO (some ((.bool false) : AV)) fun t8 =>
 letO (load1 x3 H) fun t9 =>
 letO (binF Tryd.prog .add 3 t9 (.int .i64 1)) fun t10 =>
 storeA 1 x3 t10 (fun H1 =>
 letO (load1 x4 H1) fun t11 =>
 letO (some (x1 : AV)) fun t12 =>
 letO (binF Tryd.prog .add 3 t11 t12) fun t13 =>
 storeA 1 x4 t13 (fun H2 =>
 letO (some ((.bool true) : AV)) fun t8 =>
endK t8 H2 K) H1) H

theorem W102_ok {x0 x1 x2 x3 x4 : AV} {H : Heap} {K : AV → Heap → Prop} (h : W102 x0 x1 x2 x3 x4 H K) : ACalls Tryd.prog 102 [x0, x1, x2, x3, x4] H K :=
  acallsB (fn := Tryd.f102) (cfg := cfgOf [] [] [] [] []) (hh := (.dir .nil (.dir .nil (.dir .nil .nil)))) follows Tryd.func102 (by kernel_rfl) (Nat.le_of_ble_eq_true (by kernel_rfl)) (by kernel_rfl) h

/-- math.bits.TrailingZeros -/
def W103 (x0 : AV) (H : Heap) (K : AV → Heap → Prop) : Prop :=
 letO (some ((.int .i64 0) : AV)) fun t2 =>
 condA (.bool false) true (
 letO (some (x0 : AV)) fun t3 =>
 letO (convF Tryd.prog 101 119 t3) fun t4 =>
 ACalls Tryd.prog 107 [t4] H fun t5 H1 =>
 letO (some (t5 : AV)) fun t2 =>
endK t2 H1 K) (
 letO (some (x0 : AV)) fun t6 =>
 ACalls Tryd.prog 108 [t6] H fun t7 H2 =>
 letO (some (t7 : AV)) fun t2 =>
endK t2 H2 K)

theorem W103_ok {x0 : AV} {H : Heap} {K : AV → Heap → Prop} (h : W103 x0 H K) : ACalls Tryd.prog 103 [x0] H K :=
  acallsB (fn := Tryd.f103) (cfg := cfgOf [] [] [] [] []) (hh := (.dir .nil (.dir (.dir .nil .nil) .nil))) follows Tryd.func103 (by kernel_rfl) (Nat.le_of_ble_eq_true (by kernel_rfl)) (by kernel_rfl) h

/-- math.bits.OnesCount64 -/
def W105 (x0 : AV) (H : Heap) (K : AV → Heap → Prop) : Prop :=
 letO (some ((.int .i64 0) : AV)) fun t2 =>
 letO (some (x0 : AV)) fun t3 =>
 letO (binF Tryd.prog .shr 121 t3 (.int .u64 1)) fun t4 =>
 letO (binF Tryd.prog .and 121 t4 (.int .u64 6148914691236517205)) fun t5 =>
 letO (some (x0 : AV)) fun t6 =>
 letO (binF Tryd.prog .and 121 t6 (.int .u64 6148914691236517205)) fun t7 =>
 letO (binF Tryd.prog .add 121 t5 t7) fun t8 =>
 letO (some (t8 : AV)) fun t0 =>
 letO (some (t0 : AV)) fun t9 =>
 letO (binF Tryd.prog .shr 121 t9 (.int .u64 2)) fun t10 =>
 letO (binF Tryd.prog .and 121 t10 (.int .u64 3689348814741910323)) fun t11 =>
 letO (some (t0 : AV)) fun t12 =>
 letO (binF Tryd.prog .and 121 t12 (.int .u64 3689348814741910323)) fun t13 =>
 letO (binF Tryd.prog .add 121 t11 t13) fun t14 =>
 letO (some (t14 : AV)) fun t0 =>
 letO (some (t0 : AV)) fun t15 =>
 letO (binF Tryd.prog .shr 121 t15 (.int .u64 4)) fun t16 =>
 letO (some (t0 : AV)) fun t17 =>
 letO (binF Tryd.prog .add 121 t16 t17) fun t18 =>
 letO (binF Tryd.prog .and 121 t18 (.int .u64 1085102592571150095)) fun t19 =>
 letO (some (t19 : AV)) fun t0 =>
 letO (some (t0 : AV)) fun t20 =>
 letO (some (t0 : AV)) fun t21 =>
 letO (binF Tryd.prog .shr 121 t21 (.int .u64 8)) fun t22 =>
 letO (binF Tryd.prog .add 121 t20 t22) fun t23 =>
 letO (some (t23 : AV)) fun t0 =>
 letO (some (t0 : AV)) fun t24 =>
 letO (some (t0 : AV)) fun t25 =>
 letO (binF Tryd.prog .shr 121 t25 (.int .u64 16)) fun t26 =>
 letO (binF Tryd.prog .add 121 t24 t26) fun t27 =>
 letO (some (t27 : AV)) fun t0 =>
 letO (some (t0 : AV)) fun t28 =>
 letO (some (t0 : AV)) fun t29 =>
 letO (binF Tryd.prog .shr 121 t29 (.int .u64 32)) fun t30 =>
 letO (binF Tryd.prog .add 121 t28 t30) fun t31 =>
 letO (some (t31 : AV)) fun t0 =>
 letO (some (t0 : AV)) fun t32 =>
 letO (convF Tryd.prog 121 3 t32) fun t33 =>
 letO (binF Tryd.prog .and 3 t33 (.int .i64 127)) fun t34 =>
 letO (some (t34 : AV)) fun t2 =>
endK t2 H K

theorem W105_ok {x0 : AV} {H : Heap} {K : AV → Heap → Prop} (h : W105 x0 H K) : ACalls Tryd.prog 105 [x0] H K :=
  acallsB (fn := Tryd.f105) (cfg := cfgOf [] [] [] [] []) (hh := (.dir .nil (.dir .nil (.dir .nil (.dir .nil (.dir .nil (.dir .nil (.dir .nil .nil)))))))) follows Tryd.func105 (by kernel_rfl) (Nat.le_of_ble_eq_true (by kernel_rfl)) (by kernel_rfl) h

/-- cmp.isNaN[int] -/
def W106 (x0 : AV) (H : Heap) (K : AV → Heap → Prop) : Prop :=
 letO (some ((.bool false) : AV)) fun t2 =>
 letO (some (x0 : AV)) fun t3 =>
 letO (some (x0 : AV)) fun t4 =>
 letO (binF Tryd.prog .neq 3 t3 t4) fun t5 =>
 letO (some (t5 : AV)) fun t2 =>
endK t2 H K

theorem W106_ok {x0 : AV} {H : Heap} {K : AV → Heap → Prop} (h : W106 x0 H K) : ACalls Tryd.prog 106 [x0] H K :=
  acallsB (fn := Tryd.f106) (cfg := cfgOf [] [] [] [] []) (hh := (.dir .nil .nil)) follows Tryd.func106 (by kernel_rfl) (Nat.le_of_ble_eq_true (by kernel_rfl)) (by kernel_rfl) h

/-- math.bits.TrailingZeros64 -/
def W108 (x0 : AV) (H : Heap) (K : AV → Heap → Prop) : Prop :=
 letO (some ((.int .i64 0) : AV)) fun t2 =>
 letO (some (x0 : AV)) fun t3 =>
 letO (binF Tryd.prog .eql 121 t3 (.int .u64 0)) fun t4 =>
 condA t4 true (
 letO (some ((.int .i64 64) : AV)) fun t2 =>
endK t2 H K) (
 letO (some (x0 : AV)) fun t5 =>
 letO (some (x0 : AV)) fun t6 =>
 letO (unF .neg t6) fun t7 =>
 letO (binF Tryd.prog .and 121 t5 t7) fun t8 =>
 letO (binF Tryd.prog .mul 121 t8 (.int .u64 285870213051353865)) fun t9 =>
 letO (binF Tryd.prog .shr 121 t9 (.int .u64 58)) fun t10 =>
 letO (idxArr 64 1 (.iptr tz64) t10) fun t11 =>
 letO (load1 t11 H) fun t12 =>
 letO (convF Tryd.prog 5 3 t12) fun t13 =>
 letO (some (t13 : AV)) fun t2 =>
endK t2 H K)

theorem W108_ok {x0 : AV} {H : Heap} {K : AV → Heap → Prop} (h : W108 x0 H K) : ACalls Tryd.prog 108 [x0] H K :=
  acallsB (fn := Tryd.f108) (cfg := cfgOf [] [] [] [] []) (hh := (.dir .nil (.dir (.dir .nil (.dir .nil .nil)) .nil))) follows Tryd.func108 (by kernel_rfl) (Nat.le_of_ble_eq_true (by kernel_rfl)) (by kernel_rfl) h


end Go.Proofs.YtbofkeoebnjjkaaDoor
