import Derived.Test.YtlajhbpkogekfaaCon
/- The functions of the statement LineKnown that the line package does not hold, each in the words of its walk; made by program. -/
set_option linter.unusedVariables false
set_option maxRecDepth 100000
namespace Go.Proofs.Ytlajhbpkogekfaa
open Go.Av
/-- headword.headwordlaw13.LineKnown -/
def W13 (H : Heap) (K : AV → Heap → Prop) : Prop :=
 letO (some ((.bool false) : AV)) fun t0 =>
 ACalls Try.prog 56 [] H fun t25 H1 =>
 ACalls Try.prog 17 [t25] H1 fun t26 H2 =>
 letO (some (t26 : AV)) fun t24 =>
 letO (extrF t24 0) fun t27 =>
 letO (extrF t24 1) fun t28 =>
 letO (some (t27 : AV)) fun t1 =>
 letO (some (t28 : AV)) fun t2 =>
 ACalls Try.prog 57 [] H2 fun t30 H3 =>
 ACalls Try.prog 17 [t30] H3 fun t31 H4 =>
 letO (some (t31 : AV)) fun t29 =>
 letO (extrF t29 0) fun t32 =>
 letO (extrF t29 1) fun t33 =>
 letO (some (t32 : AV)) fun t3 =>
 letO (some (t33 : AV)) fun t4 =>
 ACalls Try.prog 58 [] H4 fun t35 H5 =>
 ACalls Try.prog 19 [t35] H5 fun t36 H6 =>
 letO (some (t36 : AV)) fun t34 =>
 letO (extrF t34 0) fun t37 =>
 letO (extrF t34 1) fun t38 =>
 letO (some (t37 : AV)) fun t5 =>
 letO (some (t38 : AV)) fun t6 =>
 ACalls Try.prog 57 [] H6 fun t40 H7 =>
 ACalls Try.prog 19 [t40] H7 fun t41 H8 =>
 letO (some (t41 : AV)) fun t39 =>
 letO (extrF t39 0) fun t42 =>
 letO (extrF t39 1) fun t43 =>
 letO (some (t42 : AV)) fun t7 =>
 letO (some (t43 : AV)) fun t8 =>
 ACalls Try.prog 56 [] H8 fun t45 H9 =>
 ACalls Try.prog 36 [t45] H9 fun t46 H10 =>
 letO (some (t46 : AV)) fun t44 =>
 letO (extrF t44 0) fun t47 =>
 letO (extrF t44 1) fun t48 =>
 letO (some (t47 : AV)) fun t9 =>
 letO (some (t48 : AV)) fun t10 =>
 ACalls Try.prog 56 [] H10 fun t50 H11 =>
 ACalls Try.prog 26 [t50] H11 fun t51 H12 =>
 letO (some (t51 : AV)) fun t49 =>
 letO (extrF t49 0) fun t52 =>
 letO (extrF t49 1) fun t53 =>
 letO (some (t52 : AV)) fun t11 =>
 letO (some (t53 : AV)) fun t12 =>
 ACalls Try.prog 58 [] H12 fun t55 H13 =>
 ACalls Try.prog 23 [t55] H13 fun t56 H14 =>
 letO (some (t56 : AV)) fun t54 =>
 letO (extrF t54 0) fun t57 =>
 letO (extrF t54 1) fun t58 =>
 letO (some (t57 : AV)) fun t13 =>
 letO (some (t58 : AV)) fun t14 =>
 ACalls Try.prog 57 [] H14 fun t60 H15 =>
 ACalls Try.prog 23 [t60] H15 fun t61 H16 =>
 letO (some (t61 : AV)) fun t59 =>
 letO (extrF t59 0) fun t62 =>
 letO (extrF t59 1) fun t63 =>
 letO (some (t62 : AV)) fun t15 =>
 letO (some (t63 : AV)) fun t16 =>
 letO (some (t2 : AV)) fun t64 =>
 letO (binF Try.prog .neq 27 t64 (.int .i64 0)) fun t65 =>
 letO (some (t65 : AV)) fun t66 =>
 letO (gval t66 false (some (t4 : AV))) fun t67 =>
 letO (gval t66 false (binF Try.prog .neq 27 t67 (.int .i64 0))) fun t68 =>
 letO (pickF t66 (.bool true) t68) fun t69 =>
 letO (some (t69 : AV)) fun t70 =>
 letO (gval t70 false (some (t6 : AV))) fun t71 =>
 letO (gval t70 false (binF Try.prog .neq 27 t71 (.int .i64 0))) fun t72 =>
 letO (pickF t70 (.bool true) t72) fun t73 =>
 letO (some (t73 : AV)) fun t74 =>
 letO (gval t74 false (some (t8 : AV))) fun t75 =>
 letO (gval t74 false (binF Try.prog .neq 27 t75 (.int .i64 0))) fun t76 =>
 letO (pickF t74 (.bool true) t76) fun t77 =>
 letO (some (t77 : AV)) fun t78 =>
 letO (gval t78 false (some (t10 : AV))) fun t79 =>
 letO (gval t78 false (binF Try.prog .neq 27 t79 (.int .i64 0))) fun t80 =>
 letO (pickF t78 (.bool true) t80) fun t81 =>
 letO (some (t81 : AV)) fun t82 =>
 letO (gval t82 false (some (t12 : AV))) fun t83 =>
 letO (gval t82 false (binF Try.prog .neq 27 t83 (.int .i64 0))) fun t84 =>
 letO (pickF t82 (.bool true) t84) fun t85 =>
 letO (some (t85 : AV)) fun t86 =>
 letO (gval t86 false (some (t14 : AV))) fun t87 =>
 letO (gval t86 false (binF Try.prog .neq 27 t87 (.int .i64 0))) fun t88 =>
 letO (pickF t86 (.bool true) t88) fun t89 =>
 letO (some (t89 : AV)) fun t90 =>
 letO (gval t90 false (some (t16 : AV))) fun t91 =>
 letO (gval t90 false (binF Try.prog .neq 27 t91 (.int .i64 0))) fun t92 =>
 letO (pickF t90 (.bool true) t92) fun t93 =>
 letO (some (t93 : AV)) fun t94 =>
 letO (gval t94 false (some (t1 : AV))) fun t95 =>
 letO (gval t94 false ((literalF Try.prog 22 3 [(0, (.int .i64 2)), (1, (.int .i64 4)), (2, (.int .i64 5))]).map (.imm 3 true))) fun t96 =>
 ∃ J17 : AV → Heap → Prop, condA t94 false (ACalls Try.prog 46 [t96] H16 fun t97 H18 =>
 J17 t97 H18) (J17 .any H16) ∧ ∀ t97 H19, J17 t97 H19 →
 ∃ J20 : AV → Heap → Prop, condA t94 false (ACalls Try.prog 25 [t95, t97] H19 fun t98 H21 =>
 J20 t98 H21) (J20 .any H19) ∧ ∀ t98 H22, J20 t98 H22 →
 letO (gval t94 false (unF .not t98)) fun t99 =>
 letO (pickF t94 (.bool true) t99) fun t100 =>
 letO (some (t100 : AV)) fun t101 =>
 letO (gval t101 false (some (t3 : AV))) fun t102 =>
 letO (gval t101 false ((literalF Try.prog 22 2 [(0, (.int .i64 3)), (1, (.int .i64 6))]).map (.imm 2 true))) fun t103 =>
 ∃ J23 : AV → Heap → Prop, condA t101 false (ACalls Try.prog 46 [t103] H22 fun t104 H24 =>
 J23 t104 H24) (J23 .any H22) ∧ ∀ t104 H25, J23 t104 H25 →
 ∃ J26 : AV → Heap → Prop, condA t101 false (ACalls Try.prog 25 [t102, t104] H25 fun t105 H27 =>
 J26 t105 H27) (J26 .any H25) ∧ ∀ t105 H28, J26 t105 H28 →
 letO (gval t101 false (unF .not t105)) fun t106 =>
 letO (pickF t101 (.bool true) t106) fun t107 =>
 letO (some (t107 : AV)) fun t108 =>
 letO (gval t108 false (some (t5 : AV))) fun t109 =>
 letO (gval t108 false (binF Try.prog .neq 3 t109 (.int .i64 10))) fun t110 =>
 letO (pickF t108 (.bool true) t110) fun t111 =>
 letO (some (t111 : AV)) fun t112 =>
 letO (gval t112 false (some (t7 : AV))) fun t113 =>
 letO (gval t112 false (binF Try.prog .neq 3 t113 (.int .i64 1))) fun t114 =>
 letO (pickF t112 (.bool true) t114) fun t115 =>
 letO (some (t115 : AV)) fun t116 =>
 letO (gval t116 false (some (t9 : AV))) fun t117 =>
 letO (gval t116 false ((literalF Try.prog 22 3 [(0, (.int .i64 2)), (1, (.int .i64 4)), (2, (.int .i64 5))]).map (.imm 3 true))) fun t118 =>
 ∃ J29 : AV → Heap → Prop, condA t116 false (ACalls Try.prog 46 [t118] H28 fun t119 H30 =>
 J29 t119 H30) (J29 .any H28) ∧ ∀ t119 H31, J29 t119 H31 →
 ∃ J32 : AV → Heap → Prop, condA t116 false (ACalls Try.prog 25 [t117, t119] H31 fun t120 H33 =>
 J32 t120 H33) (J32 .any H31) ∧ ∀ t120 H34, J32 t120 H34 →
 letO (gval t116 false (unF .not t120)) fun t121 =>
 letO (pickF t116 (.bool true) t121) fun t122 =>
 letO (some (t122 : AV)) fun t123 =>
 letO (gval t123 false (some (t11 : AV))) fun t124 =>
 letO (gval t123 false ((literalF Try.prog 22 5 [(0, (.int .i64 0)), (1, (.int .i64 49)), (2, (.int .i64 9)), (3, (.int .i64 45)), (4, (.int .i64 18))]).map (.imm 5 true))) fun t125 =>
 ∃ J35 : AV → Heap → Prop, condA t123 false (ACalls Try.prog 46 [t125] H34 fun t126 H36 =>
 J35 t126 H36) (J35 .any H34) ∧ ∀ t126 H37, J35 t126 H37 →
 ∃ J38 : AV → Heap → Prop, condA t123 false (ACalls Try.prog 25 [t124, t126] H37 fun t127 H39 =>
 J38 t127 H39) (J38 .any H37) ∧ ∀ t127 H40, J38 t127 H40 →
 letO (gval t123 false (unF .not t127)) fun t128 =>
 letO (pickF t123 (.bool true) t128) fun t129 =>
 letO (some (t129 : AV)) fun t130 =>
 letO (gval t130 false (some (t13 : AV))) fun t131 =>
 letO (gval t130 false ((literalF Try.prog 22 4 [(0, (.int .i64 0)), (1, (.int .i64 0)), (2, (.int .i64 1)), (3, (.int .i64 3))]).map (.imm 4 true))) fun t132 =>
 ∃ J41 : AV → Heap → Prop, condA t130 false (ACalls Try.prog 46 [t132] H40 fun t133 H42 =>
 J41 t133 H42) (J41 .any H40) ∧ ∀ t133 H43, J41 t133 H43 →
 ∃ J44 : AV → Heap → Prop, condA t130 false (ACalls Try.prog 25 [t131, t133] H43 fun t134 H45 =>
 J44 t134 H45) (J44 .any H43) ∧ ∀ t134 H46, J44 t134 H46 →
 letO (gval t130 false (unF .not t134)) fun t135 =>
 letO (pickF t130 (.bool true) t135) fun t136 =>
 letO (some (t136 : AV)) fun t137 =>
 letO (gval t137 false (some (t15 : AV))) fun t138 =>
 letO (gval t137 false ((literalF Try.prog 22 6 [(0, (.int .i64 0)), (1, (.int .i64 0)), (2, (.int .i64 0)), (3, (.int .i64 2)), (4, (.int .i64 2)), (5, (.int .i64 3))]).map (.imm 6 true))) fun t139 =>
 ∃ J47 : AV → Heap → Prop, condA t137 false (ACalls Try.prog 46 [t139] H46 fun t140 H48 =>
 J47 t140 H48) (J47 .any H46) ∧ ∀ t140 H49, J47 t140 H49 →
 ∃ J50 : AV → Heap → Prop, condA t137 false (ACalls Try.prog 25 [t138, t140] H49 fun t141 H51 =>
 J50 t141 H51) (J50 .any H49) ∧ ∀ t141 H52, J50 t141 H52 →
 letO (gval t137 false (unF .not t141)) fun t142 =>
 letO (pickF t137 (.bool true) t142) fun t143 =>
 condA t143 true (
 letO (some ((.bool false) : AV)) fun t0 =>
endK t0 H52 K) (
 ACalls Try.prog 58 [] H52 fun t145 H53 =>
 letO (literalF Try.prog 22 4 [(0, (.int .i64 0)), (1, (.int .i64 0)), (2, (.int .i64 0)), (3, (.int .i64 0))]) fun c54 =>
 ACalls Try.prog 46 [(.imm 4 true c54)] H53 fun t147 H55 =>
 ACalls Try.prog 28 [t145, t147] H55 fun t148 H56 =>
 letO (some (t148 : AV)) fun t144 =>
 letO (extrF t144 0) fun t149 =>
 letO (extrF t144 1) fun t150 =>
 letO (some (t149 : AV)) fun t17 =>
 letO (some (t150 : AV)) fun t2 =>
 ACalls Try.prog 58 [] H56 fun t152 H57 =>
 letO (literalF Try.prog 22 4 [(0, (.int .i64 1)), (1, (.int .i64 9)), (2, (.int .i64 0)), (3, (.int .i64 10))]) fun c58 =>
 ACalls Try.prog 46 [(.imm 4 true c58)] H57 fun t154 H59 =>
 ACalls Try.prog 28 [t152, t154] H59 fun t155 H60 =>
 letO (some (t155 : AV)) fun t151 =>
 letO (extrF t151 0) fun t156 =>
 letO (extrF t151 1) fun t157 =>
 letO (some (t157 : AV)) fun t4 =>
 ACalls Try.prog 58 [] H60 fun t159 H61 =>
 letO (literalF Try.prog 22 3 [(0, (.int .i64 0)), (1, (.int .i64 9)), (2, (.int .i64 0))]) fun c62 =>
 ACalls Try.prog 46 [(.imm 3 true c62)] H61 fun t161 H63 =>
 ACalls Try.prog 28 [t159, t161] H63 fun t162 H64 =>
 letO (some (t162 : AV)) fun t158 =>
 letO (extrF t158 0) fun t163 =>
 letO (extrF t158 1) fun t164 =>
 letO (some (t164 : AV)) fun t6 =>
 ACalls Try.prog 58 [] H64 fun t166 H65 =>
 letO (literalF Try.prog 22 3 [(0, (.int .i64 1)), (1, (.int .i64 3)), (2, (.int .i64 4))]) fun c66 =>
 ACalls Try.prog 46 [(.imm 3 true c66)] H65 fun t168 H67 =>
 ACalls Try.prog 32 [t166, t168, (.int .i64 1), (.int .i64 1)] H67 fun t169 H68 =>
 letO (some (t169 : AV)) fun t165 =>
 letO (extrF t165 0) fun t170 =>
 letO (extrF t165 1) fun t171 =>
 letO (extrF t165 2) fun t172 =>
 letO (some (t170 : AV)) fun t18 =>
 letO (some (t171 : AV)) fun t19 =>
 letO (some (t172 : AV)) fun t8 =>
 ACalls Try.prog 58 [] H68 fun t174 H69 =>
 letO (literalF Try.prog 22 3 [(0, (.int .i64 1)), (1, (.int .i64 3)), (2, (.int .i64 4))]) fun c70 =>
 ACalls Try.prog 46 [(.imm 3 true c70)] H69 fun t176 H71 =>
 ACalls Try.prog 32 [t174, t176, (.int .i64 3), (.int .i64 1)] H71 fun t177 H72 =>
 letO (some (t177 : AV)) fun t173 =>
 letO (extrF t173 0) fun t178 =>
 letO (extrF t173 1) fun t179 =>
 letO (extrF t173 2) fun t180 =>
 letO (some (t178 : AV)) fun t20 =>
 letO (some (t179 : AV)) fun t21 =>
 letO (some (t180 : AV)) fun t10 =>
 ACalls Try.prog 56 [] H72 fun t182 H73 =>
 letO (literalF Try.prog 22 3 [(0, (.int .i64 2)), (1, (.int .i64 4)), (2, (.int .i64 5))]) fun c74 =>
 ACalls Try.prog 46 [(.imm 3 true c74)] H73 fun t184 H75 =>
 ACalls Try.prog 32 [t182, t184, (.int .i64 0), (.int .i64 4)] H75 fun t185 H76 =>
 letO (some (t185 : AV)) fun t181 =>
 letO (extrF t181 0) fun t186 =>
 letO (extrF t181 1) fun t187 =>
 letO (extrF t181 2) fun t188 =>
 letO (some (t186 : AV)) fun t22 =>
 letO (some (t187 : AV)) fun t23 =>
 letO (some (t188 : AV)) fun t12 =>
 letO (some (t2 : AV)) fun t189 =>
 letO (binF Try.prog .neq 27 t189 (.int .i64 0)) fun t190 =>
 letO (some (t190 : AV)) fun t191 =>
 letO (gval t191 false (some (t4 : AV))) fun t192 =>
 letO (gval t191 false (binF Try.prog .neq 27 t192 (.int .i64 14))) fun t193 =>
 letO (pickF t191 (.bool true) t193) fun t194 =>
 letO (some (t194 : AV)) fun t195 =>
 letO (gval t195 false (some (t6 : AV))) fun t196 =>
 letO (gval t195 false (binF Try.prog .neq 27 t196 (.int .i64 5))) fun t197 =>
 letO (pickF t195 (.bool true) t197) fun t198 =>
 letO (some (t198 : AV)) fun t199 =>
 letO (gval t199 false (some (t8 : AV))) fun t200 =>
 letO (gval t199 false (binF Try.prog .neq 27 t200 (.int .i64 0))) fun t201 =>
 letO (pickF t199 (.bool true) t201) fun t202 =>
 letO (some (t202 : AV)) fun t203 =>
 letO (gval t203 false (some (t10 : AV))) fun t204 =>
 letO (gval t203 false (binF Try.prog .neq 27 t204 (.int .i64 0))) fun t205 =>
 letO (pickF t203 (.bool true) t205) fun t206 =>
 letO (some (t206 : AV)) fun t207 =>
 letO (gval t207 false (some (t12 : AV))) fun t208 =>
 letO (gval t207 false (binF Try.prog .neq 27 t208 (.int .i64 0))) fun t209 =>
 letO (pickF t207 (.bool true) t209) fun t210 =>
 letO (some (t210 : AV)) fun t211 =>
 letO (gval t211 false (some (t17 : AV))) fun t212 =>
 letO (gval t211 false (binF Try.prog .neq 3 t212 (.int .i64 0))) fun t213 =>
 letO (pickF t211 (.bool true) t213) fun t214 =>
 letO (some (t214 : AV)) fun t215 =>
 letO (gval t215 false (some (t18 : AV))) fun t216 =>
 letO (gval t215 false ((literalF Try.prog 22 3 [(0, (.int .i64 1)), (1, (.int .i64 3)), (2, (.int .i64 4))]).map (.imm 3 true))) fun t217 =>
 ∃ J77 : AV → Heap → Prop, condA t215 false (ACalls Try.prog 46 [t217] H76 fun t218 H78 =>
 J77 t218 H78) (J77 .any H76) ∧ ∀ t218 H79, J77 t218 H79 →
 ∃ J80 : AV → Heap → Prop, condA t215 false (ACalls Try.prog 25 [t216, t218] H79 fun t219 H81 =>
 J80 t219 H81) (J80 .any H79) ∧ ∀ t219 H82, J80 t219 H82 →
 letO (gval t215 false (unF .not t219)) fun t220 =>
 letO (pickF t215 (.bool true) t220) fun t221 =>
 letO (some (t221 : AV)) fun t222 =>
 letO (gval t222 false (some (t19 : AV))) fun t223 =>
 letO (gval t222 false (binF Try.prog .neq 3 t223 (.int .i64 1))) fun t224 =>
 letO (pickF t222 (.bool true) t224) fun t225 =>
 letO (some (t225 : AV)) fun t226 =>
 letO (gval t226 false (some (t20 : AV))) fun t227 =>
 letO (gval t226 false ((literalF Try.prog 22 3 [(0, (.int .i64 1)), (1, (.int .i64 3)), (2, (.int .i64 4))]).map (.imm 3 true))) fun t228 =>
 ∃ J83 : AV → Heap → Prop, condA t226 false (ACalls Try.prog 46 [t228] H82 fun t229 H84 =>
 J83 t229 H84) (J83 .any H82) ∧ ∀ t229 H85, J83 t229 H85 →
 ∃ J86 : AV → Heap → Prop, condA t226 false (ACalls Try.prog 25 [t227, t229] H85 fun t230 H87 =>
 J86 t230 H87) (J86 .any H85) ∧ ∀ t230 H88, J86 t230 H88 →
 letO (gval t226 false (unF .not t230)) fun t231 =>
 letO (pickF t226 (.bool true) t231) fun t232 =>
 letO (some (t232 : AV)) fun t233 =>
 letO (gval t233 false (some (t21 : AV))) fun t234 =>
 letO (gval t233 false (binF Try.prog .neq 3 t234 (.int .i64 2))) fun t235 =>
 letO (pickF t233 (.bool true) t235) fun t236 =>
 letO (some (t236 : AV)) fun t237 =>
 letO (gval t237 false (some (t22 : AV))) fun t238 =>
 letO (gval t237 false ((literalF Try.prog 22 3 [(0, (.int .i64 1)), (1, (.int .i64 3)), (2, (.int .i64 5))]).map (.imm 3 true))) fun t239 =>
 ∃ J89 : AV → Heap → Prop, condA t237 false (ACalls Try.prog 46 [t239] H88 fun t240 H90 =>
 J89 t240 H90) (J89 .any H88) ∧ ∀ t240 H91, J89 t240 H91 →
 ∃ J92 : AV → Heap → Prop, condA t237 false (ACalls Try.prog 25 [t238, t240] H91 fun t241 H93 =>
 J92 t241 H93) (J92 .any H91) ∧ ∀ t241 H94, J92 t241 H94 →
 letO (gval t237 false (unF .not t241)) fun t242 =>
 letO (pickF t237 (.bool true) t242) fun t243 =>
 letO (some (t243 : AV)) fun t244 =>
 letO (gval t244 false (some (t23 : AV))) fun t245 =>
 letO (gval t244 false (binF Try.prog .neq 3 t245 (.int .i64 2))) fun t246 =>
 letO (pickF t244 (.bool true) t246) fun t247 =>
 condA t247 true (
 letO (some ((.bool false) : AV)) fun t0 =>
endK t0 H94 K) (
 ACalls Try.prog 58 [] H94 fun t248 H95 =>
 letO (literalF Try.prog 22 3 [(0, (.int .i64 1)), (1, (.int .i64 3)), (2, (.int .i64 4))]) fun c96 =>
 ACalls Try.prog 46 [(.imm 3 true c96)] H95 fun t250 H97 =>
 letO (literalF Try.prog 22 4 [(0, (.int .i64 0)), (1, (.int .i64 0)), (2, (.int .i64 0)), (3, (.int .i64 0))]) fun c98 =>
 ACalls Try.prog 46 [(.imm 4 true c98)] H97 fun t252 H99 =>
 ACalls Try.prog 30 [t248, t250, t252] H99 fun t253 H100 =>
 letO (binF Try.prog .eql 27 t253 (.int .i64 14)) fun t254 =>
 letO (some (t254 : AV)) fun t255 =>
 ∃ J101 : AV → Heap → Prop, condA t255 true (ACalls Try.prog 58 [] H100 fun t256 H102 =>
 J101 t256 H102) (J101 .any H100) ∧ ∀ t256 H103, J101 t256 H103 →
 letO (gval t255 true ((literalF Try.prog 22 3 [(0, (.int .i64 2)), (1, (.int .i64 2)), (2, (.int .i64 4))]).map (.imm 3 true))) fun t257 =>
 ∃ J104 : AV → Heap → Prop, condA t255 true (ACalls Try.prog 46 [t257] H103 fun t258 H105 =>
 J104 t258 H105) (J104 .any H103) ∧ ∀ t258 H106, J104 t258 H106 →
 ∃ J107 : AV → Heap → Prop, condA t255 true (ACalls Try.prog 42 [t256, t258] H106 fun t259 H108 =>
 J107 t259 H108) (J107 .any H106) ∧ ∀ t259 H109, J107 t259 H109 →
 letO (gval t255 true (binF Try.prog .eql 27 t259 (.int .i64 7))) fun t260 =>
 letO (pickF t255 t260 (.bool false)) fun t261 =>
 letO (some (t261 : AV)) fun t262 =>
 ∃ J110 : AV → Heap → Prop, condA t262 true (ACalls Try.prog 58 [] H109 fun t263 H111 =>
 J110 t263 H111) (J110 .any H109) ∧ ∀ t263 H112, J110 t263 H112 →
 letO (gval t262 true ((literalF Try.prog 22 2 [(0, (.int .i64 1)), (1, (.int .i64 3))]).map (.imm 2 true))) fun t264 =>
 ∃ J113 : AV → Heap → Prop, condA t262 true (ACalls Try.prog 46 [t264] H112 fun t265 H114 =>
 J113 t265 H114) (J113 .any H112) ∧ ∀ t265 H115, J113 t265 H115 →
 ∃ J116 : AV → Heap → Prop, condA t262 true (ACalls Try.prog 42 [t263, t265] H115 fun t266 H117 =>
 J116 t266 H117) (J116 .any H115) ∧ ∀ t266 H118, J116 t266 H118 →
 letO (gval t262 true (binF Try.prog .eql 27 t266 (.int .i64 5))) fun t267 =>
 letO (pickF t262 t267 (.bool false)) fun t268 =>
 letO (some (t268 : AV)) fun t269 =>
 ∃ J119 : AV → Heap → Prop, condA t269 true (ACalls Try.prog 58 [] H118 fun t270 H120 =>
 J119 t270 H120) (J119 .any H118) ∧ ∀ t270 H121, J119 t270 H121 →
 letO (gval t269 true ((literalF Try.prog 22 1 [(0, (.int .i64 5))]).map (.imm 1 true))) fun t271 =>
 ∃ J122 : AV → Heap → Prop, condA t269 true (ACalls Try.prog 46 [t271] H121 fun t272 H123 =>
 J122 t272 H123) (J122 .any H121) ∧ ∀ t272 H124, J122 t272 H124 →
 ∃ J125 : AV → Heap → Prop, condA t269 true (ACalls Try.prog 42 [t270, t272] H124 fun t273 H126 =>
 J125 t273 H126) (J125 .any H124) ∧ ∀ t273 H127, J125 t273 H127 →
 letO (gval t269 true (binF Try.prog .eql 27 t273 (.int .i64 2))) fun t274 =>
 letO (pickF t269 t274 (.bool false)) fun t275 =>
 letO (some (t275 : AV)) fun t276 =>
 ∃ J128 : AV → Heap → Prop, condA t276 true (ACalls Try.prog 58 [] H127 fun t277 H129 =>
 J128 t277 H129) (J128 .any H127) ∧ ∀ t277 H130, J128 t277 H130 →
 ∃ J131 : AV → Heap → Prop, condA t276 true (ACalls Try.prog 42 [t277, .nils] H130 fun t278 H132 =>
 J131 t278 H132) (J131 .any H130) ∧ ∀ t278 H133, J131 t278 H133 →
 letO (gval t276 true (binF Try.prog .eql 27 t278 (.int .i64 5))) fun t279 =>
 letO (pickF t276 t279 (.bool false)) fun t280 =>
 letO (some (t280 : AV)) fun t281 =>
 letO (gval t281 true ((literalF Try.prog 22 1 [(0, (.int .i64 1))]).map (.imm 1 true))) fun t282 =>
 ∃ J134 : AV → Heap → Prop, condA t281 true (ACalls Try.prog 59 [(.int .i64 41), t282] H133 fun t283 H135 =>
 J134 t283 H135) (J134 .any H133) ∧ ∀ t283 H136, J134 t283 H136 →
 ∃ J137 : AV → Heap → Prop, condA t281 true (ACalls Try.prog 50 [t283] H136 fun t284 H138 =>
 J137 t284 H138) (J137 .any H136) ∧ ∀ t284 H139, J137 t284 H139 →
 letO (gval t281 true (binF Try.prog .eql 27 t284 (.int .i64 1))) fun t285 =>
 letO (pickF t281 t285 (.bool false)) fun t286 =>
 letO (some (t286 : AV)) fun t287 =>
 ∃ J140 : AV → Heap → Prop, condA t287 true (ACalls Try.prog 59 [(.int .i64 5), .nils] H139 fun t288 H141 =>
 J140 t288 H141) (J140 .any H139) ∧ ∀ t288 H142, J140 t288 H142 →
 ∃ J143 : AV → Heap → Prop, condA t287 true (ACalls Try.prog 50 [t288] H142 fun t289 H144 =>
 J143 t289 H144) (J143 .any H142) ∧ ∀ t289 H145, J143 t289 H145 →
 letO (gval t287 true (binF Try.prog .eql 27 t289 (.int .i64 4))) fun t290 =>
 letO (pickF t287 t290 (.bool false)) fun t291 =>
 letO (some (t291 : AV)) fun t292 =>
 letO (gval t292 true ((literalF Try.prog 22 1 [(0, (.int .i64 4))]).map (.imm 1 true))) fun t293 =>
 ∃ J146 : AV → Heap → Prop, condA t292 true (ACalls Try.prog 59 [(.int .i64 3), t293] H145 fun t294 H147 =>
 J146 t294 H147) (J146 .any H145) ∧ ∀ t294 H148, J146 t294 H148 →
 ∃ J149 : AV → Heap → Prop, condA t292 true (ACalls Try.prog 50 [t294] H148 fun t295 H150 =>
 J149 t295 H150) (J149 .any H148) ∧ ∀ t295 H151, J149 t295 H151 →
 letO (gval t292 true (binF Try.prog .eql 27 t295 (.int .i64 1))) fun t296 =>
 letO (pickF t292 t296 (.bool false)) fun t297 =>
 letO (some (t297 : AV)) fun t298 =>
 ∃ J152 : AV → Heap → Prop, condA t298 true (makeA [(.int .i64 0)] 1 8 (.int .i64 11) (.int .i64 11) (fun t299 H153 =>
 J152 t299 H153) H151) (J152 .any H151) ∧ ∀ t299 H154, J152 t299 H154 →
 ∃ J155 : AV → Heap → Prop, condA t298 true (ACalls Try.prog 59 [(.int .i64 3), t299] H154 fun t300 H156 =>
 J155 t300 H156) (J155 .any H154) ∧ ∀ t300 H157, J155 t300 H157 →
 ∃ J158 : AV → Heap → Prop, condA t298 true (ACalls Try.prog 50 [t300] H157 fun t301 H159 =>
 J158 t301 H159) (J158 .any H157) ∧ ∀ t301 H160, J158 t301 H160 →
 letO (gval t298 true (binF Try.prog .eql 27 t301 (.int .i64 3))) fun t302 =>
 letO (pickF t298 t302 (.bool false)) fun t303 =>
 letO (some (t303 : AV)) fun t304 =>
 ∃ J161 : AV → Heap → Prop, condA t304 true (ACalls Try.prog 16 [] H160 fun t305 H162 =>
 J161 t305 H162) (J161 .any H160) ∧ ∀ t305 H163, J161 t305 H163 →
 letO (pickF t304 t305 (.bool false)) fun t306 =>
 letO (some (t306 : AV)) fun t0 =>
endK t0 H163 K))

theorem W13_ok {H : Heap} {K : AV → Heap → Prop} (h : W13 H K) : ACalls Try.prog 13 [] H K :=
  acallsB (fn := Try.f13) (cfg := cfgOf [] [] [] [] []) (hh := (.dir .nil (.dir .nil (.dir .nil (.dir .nil (.dir .nil (.dir .nil (.dir .nil (.dir .nil (.dir .nil (.dir (.dir .nil (.dir .nil .nil)) (.dir .nil (.dir .nil (.dir .nil (.dir .nil (.dir .nil (.dir .nil (.dir (.dir .nil (.dir .nil .nil)) .nil)))))))))))))))))) follows Try.func13 (by kernel_rfl) (Nat.le_of_ble_eq_true (by kernel_rfl)) (by kernel_rfl) h


end Go.Proofs.Ytlajhbpkogekfaa
