import Derived.Test.YtbofkeoebnjjkaaDoorConB
/- The functions of the statement TableKnown that the common text does not hold, each in the words of its walk; made by program. -/
set_option linter.unusedVariables false
set_option maxRecDepth 100000
namespace Go.Proofs.YtbofkeoebnjjkaaDoor
open Go.Av
/-- headword.headwordlaw11.TableKnown -/
def W15 (H : Heap) (K : AV → Heap → Prop) : Prop :=
 letO (some ((.bool false) : AV)) fun t0 =>
 ACalls Tryd.prog 63 [] H fun t20 H1 =>
 ACalls Tryd.prog 18 [t20] H1 fun t21 H2 =>
 letO (some (t21 : AV)) fun t19 =>
 letO (extrF t19 0) fun t22 =>
 letO (extrF t19 1) fun t23 =>
 letO (some (t22 : AV)) fun t1 =>
 letO (some (t23 : AV)) fun t2 =>
 ACalls Tryd.prog 64 [] H2 fun t25 H3 =>
 ACalls Tryd.prog 18 [t25] H3 fun t26 H4 =>
 letO (some (t26 : AV)) fun t24 =>
 letO (extrF t24 0) fun t27 =>
 letO (extrF t24 1) fun t28 =>
 letO (some (t27 : AV)) fun t3 =>
 letO (some (t28 : AV)) fun t4 =>
 ACalls Tryd.prog 65 [] H4 fun t30 H5 =>
 ACalls Tryd.prog 22 [t30] H5 fun t31 H6 =>
 letO (some (t31 : AV)) fun t29 =>
 letO (extrF t29 0) fun t32 =>
 letO (extrF t29 1) fun t33 =>
 letO (some (t32 : AV)) fun t5 =>
 letO (some (t33 : AV)) fun t6 =>
 ACalls Tryd.prog 64 [] H6 fun t35 H7 =>
 ACalls Tryd.prog 22 [t35] H7 fun t36 H8 =>
 letO (some (t36 : AV)) fun t34 =>
 letO (extrF t34 0) fun t37 =>
 letO (extrF t34 1) fun t38 =>
 letO (some (t37 : AV)) fun t7 =>
 letO (some (t38 : AV)) fun t8 =>
 ACalls Tryd.prog 63 [] H8 fun t40 H9 =>
 ACalls Tryd.prog 25 [t40] H9 fun t41 H10 =>
 letO (some (t41 : AV)) fun t39 =>
 letO (extrF t39 0) fun t42 =>
 letO (extrF t39 1) fun t43 =>
 letO (some (t42 : AV)) fun t9 =>
 letO (some (t43 : AV)) fun t10 =>
 ACalls Tryd.prog 64 [] H10 fun t45 H11 =>
 ACalls Tryd.prog 25 [t45] H11 fun t46 H12 =>
 letO (some (t46 : AV)) fun t44 =>
 letO (extrF t44 0) fun t47 =>
 letO (extrF t44 1) fun t48 =>
 letO (some (t47 : AV)) fun t11 =>
 letO (some (t48 : AV)) fun t12 =>
 ACalls Tryd.prog 63 [] H12 fun t50 H13 =>
 ACalls Tryd.prog 40 [t50] H13 fun t51 H14 =>
 letO (some (t51 : AV)) fun t49 =>
 letO (extrF t49 0) fun t52 =>
 letO (extrF t49 1) fun t53 =>
 letO (some (t52 : AV)) fun t13 =>
 letO (some (t53 : AV)) fun t14 =>
 ACalls Tryd.prog 64 [] H14 fun t55 H15 =>
 ACalls Tryd.prog 40 [t55] H15 fun t56 H16 =>
 letO (some (t56 : AV)) fun t54 =>
 letO (extrF t54 0) fun t57 =>
 letO (extrF t54 1) fun t58 =>
 letO (some (t57 : AV)) fun t15 =>
 letO (some (t58 : AV)) fun t16 =>
 letO (some (t2 : AV)) fun t59 =>
 letO (binF Tryd.prog .neq 26 t59 (.int .i64 0)) fun t60 =>
 letO (some (t60 : AV)) fun t61 =>
 letO (gval t61 false (some (t4 : AV))) fun t62 =>
 letO (gval t61 false (binF Tryd.prog .neq 26 t62 (.int .i64 17))) fun t63 =>
 letO (pickF t61 (.bool true) t63) fun t64 =>
 letO (some (t64 : AV)) fun t65 =>
 letO (gval t65 false (some (t6 : AV))) fun t66 =>
 letO (gval t65 false (binF Tryd.prog .neq 26 t66 (.int .i64 0))) fun t67 =>
 letO (pickF t65 (.bool true) t67) fun t68 =>
 letO (some (t68 : AV)) fun t69 =>
 letO (gval t69 false (some (t8 : AV))) fun t70 =>
 letO (gval t69 false (binF Tryd.prog .neq 26 t70 (.int .i64 0))) fun t71 =>
 letO (pickF t69 (.bool true) t71) fun t72 =>
 letO (some (t72 : AV)) fun t73 =>
 letO (gval t73 false (some (t10 : AV))) fun t74 =>
 letO (gval t73 false (binF Tryd.prog .neq 26 t74 (.int .i64 0))) fun t75 =>
 letO (pickF t73 (.bool true) t75) fun t76 =>
 letO (some (t76 : AV)) fun t77 =>
 letO (gval t77 false (some (t12 : AV))) fun t78 =>
 letO (gval t77 false (binF Tryd.prog .neq 26 t78 (.int .i64 0))) fun t79 =>
 letO (pickF t77 (.bool true) t79) fun t80 =>
 letO (some (t80 : AV)) fun t81 =>
 letO (gval t81 false (some (t14 : AV))) fun t82 =>
 letO (gval t81 false (binF Tryd.prog .neq 26 t82 (.int .i64 0))) fun t83 =>
 letO (pickF t81 (.bool true) t83) fun t84 =>
 letO (some (t84 : AV)) fun t85 =>
 letO (gval t85 false (some (t16 : AV))) fun t86 =>
 letO (gval t85 false (binF Tryd.prog .neq 26 t86 (.int .i64 17))) fun t87 =>
 letO (pickF t85 (.bool true) t87) fun t88 =>
 letO (some (t88 : AV)) fun t89 =>
 letO (gval t89 false (some (t1 : AV))) fun t90 =>
 letO (gval t89 false (binF Tryd.prog .neq 3 t90 (.int .i64 2))) fun t91 =>
 letO (pickF t89 (.bool true) t91) fun t92 =>
 letO (some (t92 : AV)) fun t93 =>
 letO (gval t93 false (some (t5 : AV))) fun t94 =>
 letO (gval t93 false (binF Tryd.prog .neq 3 t94 (.int .i64 6))) fun t95 =>
 letO (pickF t93 (.bool true) t95) fun t96 =>
 letO (some (t96 : AV)) fun t97 =>
 letO (gval t97 false (some (t7 : AV))) fun t98 =>
 letO (gval t97 false (binF Tryd.prog .neq 3 t98 (.int .i64 0))) fun t99 =>
 letO (pickF t97 (.bool true) t99) fun t100 =>
 letO (some (t100 : AV)) fun t101 =>
 letO (gval t101 false (some (t9 : AV))) fun t102 =>
 letO (gval t101 false (binF Tryd.prog .neq 3 t102 (.int .i64 2))) fun t103 =>
 letO (pickF t101 (.bool true) t103) fun t104 =>
 letO (some (t104 : AV)) fun t105 =>
 letO (gval t105 false (some (t11 : AV))) fun t106 =>
 letO (gval t105 false (binF Tryd.prog .neq 3 t106 (.int .i64 0))) fun t107 =>
 letO (pickF t105 (.bool true) t107) fun t108 =>
 letO (some (t108 : AV)) fun t109 =>
 letO (gval t109 false (some (t13 : AV))) fun t110 =>
 letO (gval t109 false (binF Tryd.prog .neq 3 t110 (.int .i64 1))) fun t111 =>
 letO (pickF t109 (.bool true) t111) fun t112 =>
 condA t112 true (
 letO (some ((.bool false) : AV)) fun t0 =>
endK t0 H16 K) (
 ACalls Tryd.prog 63 [] H16 fun t114 H17 =>
 ACalls Tryd.prog 38 [t114] H17 fun t115 H18 =>
 letO (some (t115 : AV)) fun t113 =>
 letO (extrF t113 0) fun t116 =>
 letO (extrF t113 1) fun t117 =>
 letO (some (t116 : AV)) fun t17 =>
 letO (some (t117 : AV)) fun t2 =>
 letO (literalF Tryd.prog 23 3 [(0, (.int .i64 0)), (1, (.int .i64 1)), (2, (.int .i64 2))]) fun c19 =>
 ACalls Tryd.prog 66 [(.int .i64 0), (.imm 3 true c19)] H18 fun t120 H20 =>
 letO (literalF Tryd.prog 42 1 [(0, t120)]) fun c21 =>
 ACalls Tryd.prog 42 [(.int .i64 3), (.imm 1 true c21)] H20 fun t122 H22 =>
 letO (some (t122 : AV)) fun t118 =>
 letO (extrF t118 0) fun t123 =>
 letO (extrF t118 1) fun t124 =>
 letO (some (t124 : AV)) fun t4 =>
 letO (literalF Tryd.prog 23 3 [(0, (.int .i64 0)), (1, (.int .i64 1)), (2, (.int .i64 2))]) fun c23 =>
 ACalls Tryd.prog 66 [(.int .i64 1), (.imm 3 true c23)] H22 fun t127 H24 =>
 letO (literalF Tryd.prog 42 1 [(0, t127)]) fun c25 =>
 ACalls Tryd.prog 42 [(.int .i64 2), (.imm 1 true c25)] H24 fun t129 H26 =>
 letO (some (t129 : AV)) fun t125 =>
 letO (extrF t125 0) fun t130 =>
 letO (extrF t125 1) fun t131 =>
 letO (some (t131 : AV)) fun t6 =>
 ACalls Tryd.prog 42 [(.int .i64 3), .nils] H26 fun t133 H27 =>
 letO (some (t133 : AV)) fun t132 =>
 letO (extrF t132 0) fun t134 =>
 letO (extrF t132 1) fun t135 =>
 letO (some (t134 : AV)) fun t18 =>
 letO (some (t135 : AV)) fun t8 =>
 letO (some (t2 : AV)) fun t136 =>
 letO (binF Tryd.prog .neq 26 t136 (.int .i64 0)) fun t137 =>
 letO (some (t137 : AV)) fun t138 =>
 letO (gval t138 false (some (t4 : AV))) fun t139 =>
 letO (gval t138 false (binF Tryd.prog .neq 26 t139 (.int .i64 1))) fun t140 =>
 letO (pickF t138 (.bool true) t140) fun t141 =>
 letO (some (t141 : AV)) fun t142 =>
 letO (gval t142 false (some (t6 : AV))) fun t143 =>
 letO (gval t142 false (binF Tryd.prog .neq 26 t143 (.int .i64 5))) fun t144 =>
 letO (pickF t142 (.bool true) t144) fun t145 =>
 letO (some (t145 : AV)) fun t146 =>
 letO (gval t146 false (some (t8 : AV))) fun t147 =>
 letO (gval t146 false (binF Tryd.prog .neq 26 t147 (.int .i64 0))) fun t148 =>
 letO (pickF t146 (.bool true) t148) fun t149 =>
 letO (some (t149 : AV)) fun t150 =>
 letO (gval t150 false (some (t17 : AV))) fun t151 =>
 letO (gval t150 false ((literalF Tryd.prog 23 3 [(0, (.int .i64 0)), (1, (.int .i64 1)), (2, (.int .i64 2))]).map (.imm 3 true))) fun t152 =>
 ∃ J28 : AV → Heap → Prop, condG t150 false (ACalls Tryd.prog 66 [(.int .i64 1), t152] H27 fun t153 H29 =>
 J28 t153 H29) (J28 (.tup []) H27) ∧ ∀ t153 H30, J28 t153 H30 →
 letO (gval t150 false ((literalF Tryd.prog 23 3 [(0, (.int .i64 1)), (1, (.int .i64 2)), (2, (.int .i64 0))]).map (.imm 3 true))) fun t154 =>
 ∃ J31 : AV → Heap → Prop, condG t150 false (ACalls Tryd.prog 66 [(.int .i64 1), t154] H30 fun t155 H32 =>
 J31 t155 H32) (J31 (.tup []) H30) ∧ ∀ t155 H33, J31 t155 H33 →
 letO (gval t150 false ((literalF Tryd.prog 42 2 [(0, t153), (1, t155)]).map (.imm 2 true))) fun t156 =>
 ∃ J34 : AV → Heap → Prop, condG t150 false (ACalls Tryd.prog 67 [t151, t156] H33 fun t157 H35 =>
 J34 t157 H35) (J34 (.tup []) H33) ∧ ∀ t157 H36, J34 t157 H36 →
 letO (gval t150 false (unF .not t157)) fun t158 =>
 letO (pickF t150 (.bool true) t158) fun t159 =>
 letO (some (t159 : AV)) fun t160 =>
 letO (gval t160 false (some (t18 : AV))) fun t161 =>
 ∃ J37 : AV → Heap → Prop, condG t160 false (ACalls Tryd.prog 49 [(.int .i64 3)] H36 fun t162 H38 =>
 J37 t162 H38) (J37 (.tup []) H36) ∧ ∀ t162 H39, J37 t162 H39 →
 ∃ J40 : AV → Heap → Prop, condG t160 false (ACalls Tryd.prog 29 [t161, t162] H39 fun t163 H41 =>
 J40 t163 H41) (J40 (.tup []) H39) ∧ ∀ t163 H42, J40 t163 H42 →
 letO (gval t160 false (unF .not t163)) fun t164 =>
 letO (pickF t160 (.bool true) t164) fun t165 =>
 condA t165 true (
 letO (some ((.bool false) : AV)) fun t0 =>
endK t0 H42 K) (
 ACalls Tryd.prog 63 [] H42 fun t166 H43 =>
 letO (literalF Tryd.prog 23 2 [(0, (.int .i64 0)), (1, (.int .i64 1))]) fun c44 =>
 ACalls Tryd.prog 68 [(.imm 2 true c44)] H43 fun t168 H45 =>
 ACalls Tryd.prog 32 [t166, t168] H45 fun t169 H46 =>
 letO (binF Tryd.prog .eql 26 t169 (.int .i64 5)) fun t170 =>
 letO (some (t170 : AV)) fun t171 =>
 ∃ J47 : AV → Heap → Prop, condG t171 true (ACalls Tryd.prog 63 [] H46 fun t172 H48 =>
 J47 t172 H48) (J47 (.tup []) H46) ∧ ∀ t172 H49, J47 t172 H49 →
 letO (gval t171 true ((literalF Tryd.prog 23 3 [(0, (.int .i64 0)), (1, (.int .i64 0)), (2, (.int .i64 1))]).map (.imm 3 true))) fun t173 =>
 ∃ J50 : AV → Heap → Prop, condG t171 true (ACalls Tryd.prog 68 [t173] H49 fun t174 H51 =>
 J50 t174 H51) (J50 (.tup []) H49) ∧ ∀ t174 H52, J50 t174 H52 →
 ∃ J53 : AV → Heap → Prop, condG t171 true (ACalls Tryd.prog 32 [t172, t174] H52 fun t175 H54 =>
 J53 t175 H54) (J53 (.tup []) H52) ∧ ∀ t175 H55, J53 t175 H55 →
 letO (gval t171 true (binF Tryd.prog .eql 26 t175 (.int .i64 6))) fun t176 =>
 letO (pickF t171 t176 (.bool false)) fun t177 =>
 letO (some (t177 : AV)) fun t178 =>
 ∃ J56 : AV → Heap → Prop, condG t178 true (ACalls Tryd.prog 63 [] H55 fun t179 H57 =>
 J56 t179 H57) (J56 (.tup []) H55) ∧ ∀ t179 H58, J56 t179 H58 →
 letO (gval t178 true ((literalF Tryd.prog 23 3 [(0, (.int .i64 0)), (1, (.int .i64 3)), (2, (.int .i64 1))]).map (.imm 3 true))) fun t180 =>
 ∃ J59 : AV → Heap → Prop, condG t178 true (ACalls Tryd.prog 68 [t180] H58 fun t181 H60 =>
 J59 t181 H60) (J59 (.tup []) H58) ∧ ∀ t181 H61, J59 t181 H61 →
 ∃ J62 : AV → Heap → Prop, condG t178 true (ACalls Tryd.prog 32 [t179, t181] H61 fun t182 H63 =>
 J62 t182 H63) (J62 (.tup []) H61) ∧ ∀ t182 H64, J62 t182 H64 →
 letO (gval t178 true (binF Tryd.prog .eql 26 t182 (.int .i64 2))) fun t183 =>
 letO (pickF t178 t183 (.bool false)) fun t184 =>
 letO (some (t184 : AV)) fun t185 =>
 ∃ J65 : AV → Heap → Prop, condG t185 true (ACalls Tryd.prog 64 [] H64 fun t186 H66 =>
 J65 t186 H66) (J65 (.tup []) H64) ∧ ∀ t186 H67, J65 t186 H67 →
 letO (gval t185 true ((literalF Tryd.prog 23 2 [(0, (.int .i64 0)), (1, (.int .i64 2))]).map (.imm 2 true))) fun t187 =>
 ∃ J68 : AV → Heap → Prop, condG t185 true (ACalls Tryd.prog 68 [t187] H67 fun t188 H69 =>
 J68 t188 H69) (J68 (.tup []) H67) ∧ ∀ t188 H70, J68 t188 H70 →
 letO (gval t185 true ((literalF Tryd.prog 23 2 [(0, (.int .i64 1)), (1, (.int .i64 2))]).map (.imm 2 true))) fun t189 =>
 ∃ J71 : AV → Heap → Prop, condG t185 true (ACalls Tryd.prog 68 [t189] H70 fun t190 H72 =>
 J71 t190 H72) (J71 (.tup []) H70) ∧ ∀ t190 H73, J71 t190 H73 →
 ∃ J74 : AV → Heap → Prop, condG t185 true (ACalls Tryd.prog 36 [t186, t188, t190] H73 fun t191 H75 =>
 J74 t191 H75) (J74 (.tup []) H73) ∧ ∀ t191 H76, J74 t191 H76 →
 letO (gval t185 true (binF Tryd.prog .eql 26 t191 (.int .i64 14))) fun t192 =>
 letO (pickF t185 t192 (.bool false)) fun t193 =>
 letO (some (t193 : AV)) fun t194 =>
 ∃ J77 : AV → Heap → Prop, condG t194 true (ACalls Tryd.prog 64 [] H76 fun t195 H78 =>
 J77 t195 H78) (J77 (.tup []) H76) ∧ ∀ t195 H79, J77 t195 H79 →
 letO (gval t194 true ((literalF Tryd.prog 23 2 [(0, (.int .i64 1)), (1, (.int .i64 0))]).map (.imm 2 true))) fun t196 =>
 ∃ J80 : AV → Heap → Prop, condG t194 true (ACalls Tryd.prog 68 [t196] H79 fun t197 H81 =>
 J80 t197 H81) (J80 (.tup []) H79) ∧ ∀ t197 H82, J80 t197 H82 →
 letO (gval t194 true ((literalF Tryd.prog 23 2 [(0, (.int .i64 1)), (1, (.int .i64 2))]).map (.imm 2 true))) fun t198 =>
 ∃ J83 : AV → Heap → Prop, condG t194 true (ACalls Tryd.prog 68 [t198] H82 fun t199 H84 =>
 J83 t199 H84) (J83 (.tup []) H82) ∧ ∀ t199 H85, J83 t199 H85 →
 ∃ J86 : AV → Heap → Prop, condG t194 true (ACalls Tryd.prog 36 [t195, t197, t199] H85 fun t200 H87 =>
 J86 t200 H87) (J86 (.tup []) H85) ∧ ∀ t200 H88, J86 t200 H88 →
 letO (gval t194 true (binF Tryd.prog .eql 26 t200 (.int .i64 7))) fun t201 =>
 letO (pickF t194 t201 (.bool false)) fun t202 =>
 letO (some (t202 : AV)) fun t203 =>
 ∃ J89 : AV → Heap → Prop, condG t203 true (ACalls Tryd.prog 64 [] H88 fun t204 H90 =>
 J89 t204 H90) (J89 (.tup []) H88) ∧ ∀ t204 H91, J89 t204 H91 →
 letO (gval t203 true ((literalF Tryd.prog 23 2 [(0, (.int .i64 0)), (1, (.int .i64 3))]).map (.imm 2 true))) fun t205 =>
 ∃ J92 : AV → Heap → Prop, condG t203 true (ACalls Tryd.prog 68 [t205] H91 fun t206 H93 =>
 J92 t206 H93) (J92 (.tup []) H91) ∧ ∀ t206 H94, J92 t206 H94 →
 letO (gval t203 true ((literalF Tryd.prog 23 2 [(0, (.int .i64 1)), (1, (.int .i64 2))]).map (.imm 2 true))) fun t207 =>
 ∃ J95 : AV → Heap → Prop, condG t203 true (ACalls Tryd.prog 68 [t207] H94 fun t208 H96 =>
 J95 t208 H96) (J95 (.tup []) H94) ∧ ∀ t208 H97, J95 t208 H97 →
 ∃ J98 : AV → Heap → Prop, condG t203 true (ACalls Tryd.prog 36 [t204, t206, t208] H97 fun t209 H99 =>
 J98 t209 H99) (J98 (.tup []) H97) ∧ ∀ t209 H100, J98 t209 H100 →
 letO (gval t203 true (binF Tryd.prog .eql 26 t209 (.int .i64 2))) fun t210 =>
 letO (pickF t203 t210 (.bool false)) fun t211 =>
 letO (some (t211 : AV)) fun t212 =>
 ∃ J101 : AV → Heap → Prop, condG t212 true (ACalls Tryd.prog 30 [.nils] H100 fun t213 H102 =>
 J101 t213 H102) (J101 (.tup []) H100) ∧ ∀ t213 H103, J101 t213 H103 →
 letO (gval t212 true (binF Tryd.prog .eql 26 t213 (.int .i64 4))) fun t214 =>
 letO (pickF t212 t214 (.bool false)) fun t215 =>
 letO (some (t215 : AV)) fun t216 =>
 letO (gval t216 true ((literalF Tryd.prog 23 2 [(0, (.int .i64 1)), (1, (.int .i64 0))]).map (.imm 2 true))) fun t217 =>
 ∃ J104 : AV → Heap → Prop, condG t216 true (ACalls Tryd.prog 68 [t217] H103 fun t218 H105 =>
 J104 t218 H105) (J104 (.tup []) H103) ∧ ∀ t218 H106, J104 t218 H106 →
 letO (gval t216 true ((literalF Tryd.prog 23 1 [(0, (.int .i64 1))]).map (.imm 1 true))) fun t219 =>
 ∃ J107 : AV → Heap → Prop, condG t216 true (ACalls Tryd.prog 68 [t219] H106 fun t220 H108 =>
 J107 t220 H108) (J107 (.tup []) H106) ∧ ∀ t220 H109, J107 t220 H109 →
 letO (gval t216 true ((literalF Tryd.prog 22 2 [(0, t218), (1, t220)]).map (.imm 2 true))) fun t221 =>
 ∃ J110 : AV → Heap → Prop, condG t216 true (ACalls Tryd.prog 69 [t221] H109 fun t222 H111 =>
 J110 t222 H111) (J110 (.tup []) H109) ∧ ∀ t222 H112, J110 t222 H112 →
 ∃ J113 : AV → Heap → Prop, condG t216 true (ACalls Tryd.prog 30 [t222] H112 fun t223 H114 =>
 J113 t223 H114) (J113 (.tup []) H112) ∧ ∀ t223 H115, J113 t223 H115 →
 letO (gval t216 true (binF Tryd.prog .eql 26 t223 (.int .i64 5))) fun t224 =>
 letO (pickF t216 t224 (.bool false)) fun t225 =>
 letO (some (t225 : AV)) fun t226 =>
 letO (gval t226 true ((literalF Tryd.prog 23 1 [(0, (.int .i64 10))]).map (.imm 1 true))) fun t227 =>
 ∃ J116 : AV → Heap → Prop, condG t226 true (ACalls Tryd.prog 68 [t227] H115 fun t228 H117 =>
 J116 t228 H117) (J116 (.tup []) H115) ∧ ∀ t228 H118, J116 t228 H118 →
 letO (gval t226 true ((literalF Tryd.prog 22 1 [(0, t228)]).map (.imm 1 true))) fun t229 =>
 ∃ J119 : AV → Heap → Prop, condG t226 true (ACalls Tryd.prog 69 [t229] H118 fun t230 H120 =>
 J119 t230 H120) (J119 (.tup []) H118) ∧ ∀ t230 H121, J119 t230 H121 →
 ∃ J122 : AV → Heap → Prop, condG t226 true (ACalls Tryd.prog 30 [t230] H121 fun t231 H123 =>
 J122 t231 H123) (J122 (.tup []) H121) ∧ ∀ t231 H124, J122 t231 H124 →
 letO (gval t226 true (binF Tryd.prog .eql 26 t231 (.int .i64 1))) fun t232 =>
 letO (pickF t226 t232 (.bool false)) fun t233 =>
 letO (some (t233 : AV)) fun t234 =>
 ∃ J125 : AV → Heap → Prop, condG t234 true (makeA [.nils] 1 24 (.int .i64 5) (.int .i64 5) (fun t235 H126 =>
 J125 t235 H126) H124) (J125 (.tup []) H124) ∧ ∀ t235 H127, J125 t235 H127 →
 ∃ J128 : AV → Heap → Prop, condG t234 true (ACalls Tryd.prog 30 [t235] H127 fun t236 H129 =>
 J128 t236 H129) (J128 (.tup []) H127) ∧ ∀ t236 H130, J128 t236 H130 →
 letO (gval t234 true (binF Tryd.prog .eql 26 t236 (.int .i64 3))) fun t237 =>
 letO (pickF t234 t237 (.bool false)) fun t238 =>
 letO (some (t238 : AV)) fun t239 =>
 ∃ J131 : AV → Heap → Prop, condG t239 true (ACalls Tryd.prog 17 [] H130 fun t240 H132 =>
 J131 t240 H132) (J131 (.tup []) H130) ∧ ∀ t240 H133, J131 t240 H133 →
 letO (pickF t239 t240 (.bool false)) fun t241 =>
 letO (some (t241 : AV)) fun t0 =>
endK t0 H133 K))

theorem W15_ok {H : Heap} {K : AV → Heap → Prop} (h : W15 H K) : ACalls Tryd.prog 15 [] H K :=
  acallsB (fn := Tryd.f15) (cfg := cfgOf [] [] [] [] []) (hh := (.dir .nil (.dir .nil (.dir .nil (.dir .nil (.dir .nil (.dir .nil (.dir .nil (.dir .nil (.dir .nil (.dir (.dir .nil (.dir .nil .nil)) (.dir .nil (.dir .nil (.dir .nil (.dir .nil (.dir (.dir .nil (.dir .nil .nil)) .nil)))))))))))))))) follows Tryd.func15 (by kernel_rfl) (Nat.le_of_ble_eq_true (by kernel_rfl)) (by kernel_rfl) h

/-- headword.headwordlaw11.empty -/
def W49 (x0 : AV) (H : Heap) (K : AV → Heap → Prop) : Prop :=
 letO (some (.nils : AV)) fun t2 =>
 letO (some (.nils : AV)) fun t3 =>
 letO (some (x0 : AV)) fun t4 =>
 letO (some ((.int .i64 0) : AV)) fun t5 =>
 true = true ∧ ∃ (I1 : List AV → Heap → Prop) (μ2 : List AV → Heap → Nat), I1 [t3, t5] H ∧ ∀ L3 H4, I1 L3 H4 → -- [t3, t5]
 letO (binF Tryd.prog .lss 3 (L3.getD 1 .any) t4) fun t6 =>
 condA t6 true (
 letO (some ((L3.getD 0 .any) : AV)) fun t7 =>
 letO (some (x0 : AV)) fun t8 =>
 makeA [(.int .i64 0)] 1 8 t8 t8 (fun t9 H5 =>
 letO (literalF Tryd.prog 22 1 [(0, t9)]) fun c6 =>
 appendA 1 24 t7 (.imm 1 true c6) (fun t11 H7 =>
 letO (some (t11 : AV)) fun t3 =>
 letO (binF Tryd.prog .add 3 (L3.getD 1 .any) (.int .i64 1)) fun t12 =>
 letO (some (t12 : AV)) fun t5 =>
 I1 [t3, t5] H7 ∧ μ2 [t3, t5] H7 < μ2 L3 H4) H5) H4) (
 letO (some ((L3.getD 0 .any) : AV)) fun t13 =>
 letO (some (t13 : AV)) fun t2 =>
endK t2 H4 K)

theorem W49_ok {x0 : AV} {H : Heap} {K : AV → Heap → Prop} (h : W49 x0 H K) : ACalls Tryd.prog 49 [x0] H K :=
  acallsB (fn := Tryd.f49) (cfg := cfgOf [] [] [] [] []) (hh := (.dir .nil (.dir .nil (.dir (.dir .nil (.blk (.loop [3, 5] [6, 7, 8, 9, 10, 11, 3, 12, 5] (.dir .nil (.dir .nil (.dir .nil .nil)))))) .nil)))) follows Tryd.func49 (by kernel_rfl) (Nat.le_of_ble_eq_true (by kernel_rfl)) (by kernel_rfl) h


end Go.Proofs.YtbofkeoebnjjkaaDoor
