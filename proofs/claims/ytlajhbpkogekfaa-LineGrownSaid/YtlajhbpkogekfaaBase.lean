import Derived.Test.YtlajhbpkogekfaaAvB
import Derived.KernelRfl
import Derived.Test.YtlajhbpkogekfaaChecked
/- The functions of the line package, each in the words of its walk; made by program. No conditions. -/
set_option linter.unusedVariables false
set_option maxRecDepth 100000
namespace Go.Proofs.Ytlajhbpkogekfaa
open Go.Av
theorem follows : Try.prog.follows .mixedOrders = true := by kernel_rfl
/-- headword.headwordlaw13.works -/
def W16 (H : Heap) (K : AV → Heap → Prop) : Prop :=
 letO (some ((.bool false) : AV)) fun t0 =>
 ACalls Try.prog 58 [] H fun t20 H1 =>
 ACalls Try.prog 17 [t20] H1 fun t21 H2 =>
 letO (some (t21 : AV)) fun t19 =>
 letO (extrF t19 0) fun t22 =>
 letO (extrF t19 1) fun t23 =>
 letO (some (t22 : AV)) fun t1 =>
 letO (some (t23 : AV)) fun t2 =>
 ACalls Try.prog 56 [] H2 fun t25 H3 =>
 ACalls Try.prog 19 [t25] H3 fun t26 H4 =>
 letO (some (t26 : AV)) fun t24 =>
 letO (extrF t24 0) fun t27 =>
 letO (extrF t24 1) fun t28 =>
 letO (some (t27 : AV)) fun t3 =>
 letO (some (t28 : AV)) fun t4 =>
 ACalls Try.prog 57 [] H4 fun t30 H5 =>
 ACalls Try.prog 21 [t30] H5 fun t31 H6 =>
 letO (some (t31 : AV)) fun t29 =>
 letO (extrF t29 0) fun t32 =>
 letO (extrF t29 1) fun t33 =>
 letO (some (t32 : AV)) fun t5 =>
 letO (some (t33 : AV)) fun t6 =>
 ACalls Try.prog 58 [] H6 fun t35 H7 =>
 ACalls Try.prog 36 [t35] H7 fun t36 H8 =>
 letO (some (t36 : AV)) fun t34 =>
 letO (extrF t34 0) fun t37 =>
 letO (extrF t34 1) fun t38 =>
 letO (some (t37 : AV)) fun t7 =>
 letO (some (t38 : AV)) fun t8 =>
 ACalls Try.prog 58 [] H8 fun t40 H9 =>
 letO (literalF Try.prog 22 3 [(0, (.int .i64 2)), (1, (.int .i64 3)), (2, (.int .i64 4))]) fun c10 =>
 ACalls Try.prog 46 [(.imm 3 true c10)] H9 fun t42 H11 =>
 ACalls Try.prog 45 [t40, t42] H11 fun t43 H12 =>
 letO (some (t43 : AV)) fun t39 =>
 letO (extrF t39 0) fun t44 =>
 letO (extrF t39 1) fun t45 =>
 letO (some (t44 : AV)) fun t9 =>
 letO (some (t45 : AV)) fun t10 =>
 ACalls Try.prog 58 [] H12 fun t47 H13 =>
 letO (literalF Try.prog 22 3 [(0, (.int .i64 2)), (1, (.int .i64 3)), (2, (.int .i64 4))]) fun c14 =>
 ACalls Try.prog 46 [(.imm 3 true c14)] H13 fun t49 H15 =>
 ACalls Try.prog 44 [t47, t49] H15 fun t50 H16 =>
 letO (some (t50 : AV)) fun t46 =>
 letO (extrF t46 0) fun t51 =>
 letO (extrF t46 1) fun t52 =>
 letO (some (t51 : AV)) fun t11 =>
 letO (some (t52 : AV)) fun t12 =>
 ACalls Try.prog 58 [] H16 fun t54 H17 =>
 ACalls Try.prog 26 [t54] H17 fun t55 H18 =>
 letO (some (t55 : AV)) fun t53 =>
 letO (extrF t53 0) fun t56 =>
 letO (extrF t53 1) fun t57 =>
 letO (some (t56 : AV)) fun t13 =>
 letO (some (t57 : AV)) fun t14 =>
 letO (some (t2 : AV)) fun t58 =>
 letO (binF Try.prog .neq 27 t58 (.int .i64 0)) fun t59 =>
 letO (some (t59 : AV)) fun t60 =>
 letO (gval t60 false (some (t4 : AV))) fun t61 =>
 letO (gval t60 false (binF Try.prog .neq 27 t61 (.int .i64 0))) fun t62 =>
 letO (pickF t60 (.bool true) t62) fun t63 =>
 letO (some (t63 : AV)) fun t64 =>
 letO (gval t64 false (some (t6 : AV))) fun t65 =>
 letO (gval t64 false (binF Try.prog .neq 27 t65 (.int .i64 0))) fun t66 =>
 letO (pickF t64 (.bool true) t66) fun t67 =>
 letO (some (t67 : AV)) fun t68 =>
 letO (gval t68 false (some (t8 : AV))) fun t69 =>
 letO (gval t68 false (binF Try.prog .neq 27 t69 (.int .i64 0))) fun t70 =>
 letO (pickF t68 (.bool true) t70) fun t71 =>
 letO (some (t71 : AV)) fun t72 =>
 letO (gval t72 false (some (t10 : AV))) fun t73 =>
 letO (gval t72 false (binF Try.prog .neq 27 t73 (.int .i64 0))) fun t74 =>
 letO (pickF t72 (.bool true) t74) fun t75 =>
 letO (some (t75 : AV)) fun t76 =>
 letO (gval t76 false (some (t12 : AV))) fun t77 =>
 letO (gval t76 false (binF Try.prog .neq 27 t77 (.int .i64 0))) fun t78 =>
 letO (pickF t76 (.bool true) t78) fun t79 =>
 letO (some (t79 : AV)) fun t80 =>
 letO (gval t80 false (some (t14 : AV))) fun t81 =>
 letO (gval t80 false (binF Try.prog .neq 27 t81 (.int .i64 0))) fun t82 =>
 letO (pickF t80 (.bool true) t82) fun t83 =>
 condA t83 true (
 letO (some ((.bool false) : AV)) fun t0 =>
endK t0 H18 K) (
 ACalls Try.prog 58 [] H18 fun t85 H19 =>
 letO (literalF Try.prog 22 4 [(0, (.int .i64 0)), (1, (.int .i64 9)), (2, (.int .i64 0)), (3, (.int .i64 10))]) fun c20 =>
 ACalls Try.prog 46 [(.imm 4 true c20)] H19 fun t87 H21 =>
 ACalls Try.prog 28 [t85, t87] H21 fun t88 H22 =>
 letO (some (t88 : AV)) fun t84 =>
 letO (extrF t84 0) fun t89 =>
 letO (extrF t84 1) fun t90 =>
 letO (some (t89 : AV)) fun t15 =>
 letO (some (t90 : AV)) fun t2 =>
 ACalls Try.prog 56 [] H22 fun t92 H23 =>
 ACalls Try.prog 23 [t92] H23 fun t93 H24 =>
 letO (some (t93 : AV)) fun t91 =>
 letO (extrF t91 0) fun t94 =>
 letO (extrF t91 1) fun t95 =>
 letO (some (t94 : AV)) fun t16 =>
 letO (some (t95 : AV)) fun t4 =>
 ACalls Try.prog 58 [] H24 fun t97 H25 =>
 letO (literalF Try.prog 22 3 [(0, (.int .i64 1)), (1, (.int .i64 3)), (2, (.int .i64 4))]) fun c26 =>
 ACalls Try.prog 46 [(.imm 3 true c26)] H25 fun t99 H27 =>
 ACalls Try.prog 32 [t97, t99, (.int .i64 1), (.int .i64 2)] H27 fun t100 H28 =>
 letO (some (t100 : AV)) fun t96 =>
 letO (extrF t96 0) fun t101 =>
 letO (extrF t96 1) fun t102 =>
 letO (extrF t96 2) fun t103 =>
 letO (some (t101 : AV)) fun t17 =>
 letO (some (t102 : AV)) fun t18 =>
 letO (some (t103 : AV)) fun t6 =>
 ACalls Try.prog 58 [] H28 fun t105 H29 =>
 letO (literalF Try.prog 22 4 [(0, (.int .i64 0)), (1, (.int .i64 9)), (2, (.int .i64 0)), (3, (.int .i64 11))]) fun c30 =>
 ACalls Try.prog 46 [(.imm 4 true c30)] H29 fun t107 H31 =>
 ACalls Try.prog 28 [t105, t107] H31 fun t108 H32 =>
 letO (some (t108 : AV)) fun t104 =>
 letO (extrF t104 0) fun t109 =>
 letO (extrF t104 1) fun t110 =>
 letO (some (t110 : AV)) fun t8 =>
 ACalls Try.prog 58 [] H32 fun t112 H33 =>
 letO (literalF Try.prog 22 3 [(0, (.int .i64 1)), (1, (.int .i64 3)), (2, (.int .i64 4))]) fun c34 =>
 ACalls Try.prog 46 [(.imm 3 true c34)] H33 fun t114 H35 =>
 ACalls Try.prog 32 [t112, t114, (.int .i64 3), (.int .i64 2)] H35 fun t115 H36 =>
 letO (some (t115 : AV)) fun t111 =>
 letO (extrF t111 0) fun t116 =>
 letO (extrF t111 1) fun t117 =>
 letO (extrF t111 2) fun t118 =>
 letO (some (t118 : AV)) fun t10 =>
 letO (some (t2 : AV)) fun t119 =>
 letO (binF Try.prog .eql 27 t119 (.int .i64 0)) fun t120 =>
 letO (some (t120 : AV)) fun t121 =>
 letO (gval t121 true (some (t4 : AV))) fun t122 =>
 letO (gval t121 true (binF Try.prog .eql 27 t122 (.int .i64 0))) fun t123 =>
 letO (pickF t121 t123 (.bool false)) fun t124 =>
 letO (some (t124 : AV)) fun t125 =>
 letO (gval t125 true (some (t6 : AV))) fun t126 =>
 letO (gval t125 true (binF Try.prog .eql 27 t126 (.int .i64 0))) fun t127 =>
 letO (pickF t125 t127 (.bool false)) fun t128 =>
 letO (some (t128 : AV)) fun t129 =>
 letO (gval t129 true (some (t8 : AV))) fun t130 =>
 letO (gval t129 true (binF Try.prog .eql 27 t130 (.int .i64 14))) fun t131 =>
 letO (pickF t129 t131 (.bool false)) fun t132 =>
 letO (some (t132 : AV)) fun t133 =>
 letO (gval t133 true (some (t10 : AV))) fun t134 =>
 letO (gval t133 true (binF Try.prog .eql 27 t134 (.int .i64 12))) fun t135 =>
 letO (pickF t133 t135 (.bool false)) fun t136 =>
 letO (some (t136 : AV)) fun t137 =>
 letO (gval t137 true (some (t1 : AV))) fun t138 =>
 letO (gval t137 true ((literalF Try.prog 22 3 [(0, (.int .i64 1)), (1, (.int .i64 3)), (2, (.int .i64 4))]).map (.imm 3 true))) fun t139 =>
 ∃ J37 : AV → Heap → Prop, condG t137 true (ACalls Try.prog 46 [t139] H36 fun t140 H38 =>
 J37 t140 H38) (J37 (.tup []) H36) ∧ ∀ t140 H39, J37 t140 H39 →
 ∃ J40 : AV → Heap → Prop, condG t137 true (ACalls Try.prog 25 [t138, t140] H39 fun t141 H41 =>
 J40 t141 H41) (J40 (.tup []) H39) ∧ ∀ t141 H42, J40 t141 H42 →
 letO (pickF t137 t141 (.bool false)) fun t142 =>
 letO (some (t142 : AV)) fun t143 =>
 letO (gval t143 true (some (t3 : AV))) fun t144 =>
 letO (gval t143 true (binF Try.prog .eql 3 t144 (.int .i64 18))) fun t145 =>
 letO (pickF t143 t145 (.bool false)) fun t146 =>
 letO (some (t146 : AV)) fun t147 =>
 letO (gval t147 true (some (t5 : AV))) fun t148 =>
 letO (gval t147 true (binF Try.prog .eql 3 t148 (.int .i64 1))) fun t149 =>
 letO (pickF t147 t149 (.bool false)) fun t150 =>
 letO (some (t150 : AV)) fun t151 =>
 letO (gval t151 true (some (t7 : AV))) fun t152 =>
 letO (gval t151 true ((literalF Try.prog 22 3 [(0, (.int .i64 2)), (1, (.int .i64 3)), (2, (.int .i64 4))]).map (.imm 3 true))) fun t153 =>
 ∃ J43 : AV → Heap → Prop, condG t151 true (ACalls Try.prog 46 [t153] H42 fun t154 H44 =>
 J43 t154 H44) (J43 (.tup []) H42) ∧ ∀ t154 H45, J43 t154 H45 →
 ∃ J46 : AV → Heap → Prop, condG t151 true (ACalls Try.prog 25 [t152, t154] H45 fun t155 H47 =>
 J46 t155 H47) (J46 (.tup []) H45) ∧ ∀ t155 H48, J46 t155 H48 →
 letO (pickF t151 t155 (.bool false)) fun t156 =>
 letO (some (t156 : AV)) fun t157 =>
 letO (gval t157 true (some (t9 : AV))) fun t158 =>
 letO (gval t157 true (binF Try.prog .eql 3 t158 (.int .i64 16))) fun t159 =>
 letO (pickF t157 t159 (.bool false)) fun t160 =>
 letO (some (t160 : AV)) fun t161 =>
 letO (gval t161 true (some (t11 : AV))) fun t162 =>
 letO (gval t161 true ((literalF Try.prog 22 3 [(0, (.int .i64 0)), (1, (.int .i64 4)), (2, (.int .i64 1))]).map (.imm 3 true))) fun t163 =>
 ∃ J49 : AV → Heap → Prop, condG t161 true (ACalls Try.prog 46 [t163] H48 fun t164 H50 =>
 J49 t164 H50) (J49 (.tup []) H48) ∧ ∀ t164 H51, J49 t164 H51 →
 ∃ J52 : AV → Heap → Prop, condG t161 true (ACalls Try.prog 25 [t162, t164] H51 fun t165 H53 =>
 J52 t165 H53) (J52 (.tup []) H51) ∧ ∀ t165 H54, J52 t165 H54 →
 letO (pickF t161 t165 (.bool false)) fun t166 =>
 letO (some (t166 : AV)) fun t167 =>
 letO (gval t167 true (some (t13 : AV))) fun t168 =>
 letO (gval t167 true ((literalF Try.prog 22 4 [(0, (.int .i64 0)), (1, (.int .i64 9)), (2, (.int .i64 0)), (3, (.int .i64 10))]).map (.imm 4 true))) fun t169 =>
 ∃ J55 : AV → Heap → Prop, condG t167 true (ACalls Try.prog 46 [t169] H54 fun t170 H56 =>
 J55 t170 H56) (J55 (.tup []) H54) ∧ ∀ t170 H57, J55 t170 H57 →
 ∃ J58 : AV → Heap → Prop, condG t167 true (ACalls Try.prog 25 [t168, t170] H57 fun t171 H59 =>
 J58 t171 H59) (J58 (.tup []) H57) ∧ ∀ t171 H60, J58 t171 H60 →
 letO (pickF t167 t171 (.bool false)) fun t172 =>
 letO (some (t172 : AV)) fun t173 =>
 letO (gval t173 true (some (t15 : AV))) fun t174 =>
 letO (gval t173 true (binF Try.prog .eql 3 t174 (.int .i64 10))) fun t175 =>
 letO (pickF t173 t175 (.bool false)) fun t176 =>
 letO (some (t176 : AV)) fun t177 =>
 letO (gval t177 true (some (t16 : AV))) fun t178 =>
 letO (gval t177 true ((literalF Try.prog 22 5 [(0, (.int .i64 0)), (1, (.int .i64 0)), (2, (.int .i64 2)), (3, (.int .i64 2)), (4, (.int .i64 4))]).map (.imm 5 true))) fun t179 =>
 ∃ J61 : AV → Heap → Prop, condG t177 true (ACalls Try.prog 46 [t179] H60 fun t180 H62 =>
 J61 t180 H62) (J61 (.tup []) H60) ∧ ∀ t180 H63, J61 t180 H63 →
 ∃ J64 : AV → Heap → Prop, condG t177 true (ACalls Try.prog 25 [t178, t180] H63 fun t181 H65 =>
 J64 t181 H65) (J64 (.tup []) H63) ∧ ∀ t181 H66, J64 t181 H66 →
 letO (pickF t177 t181 (.bool false)) fun t182 =>
 letO (some (t182 : AV)) fun t183 =>
 letO (gval t183 true (some (t17 : AV))) fun t184 =>
 letO (gval t183 true ((literalF Try.prog 22 4 [(0, (.int .i64 1)), (1, (.int .i64 2)), (2, (.int .i64 3)), (3, (.int .i64 4))]).map (.imm 4 true))) fun t185 =>
 ∃ J67 : AV → Heap → Prop, condG t183 true (ACalls Try.prog 46 [t185] H66 fun t186 H68 =>
 J67 t186 H68) (J67 (.tup []) H66) ∧ ∀ t186 H69, J67 t186 H69 →
 ∃ J70 : AV → Heap → Prop, condG t183 true (ACalls Try.prog 25 [t184, t186] H69 fun t187 H71 =>
 J70 t187 H71) (J70 (.tup []) H69) ∧ ∀ t187 H72, J70 t187 H72 →
 letO (pickF t183 t187 (.bool false)) fun t188 =>
 letO (some (t188 : AV)) fun t189 =>
 letO (gval t189 true (some (t18 : AV))) fun t190 =>
 letO (gval t189 true (binF Try.prog .eql 3 t190 (.int .i64 3))) fun t191 =>
 letO (pickF t189 t191 (.bool false)) fun t192 =>
 letO (some (t192 : AV)) fun t193 =>
 ∃ J73 : AV → Heap → Prop, condG t193 true (ACalls Try.prog 58 [] H72 fun t194 H74 =>
 J73 t194 H74) (J73 (.tup []) H72) ∧ ∀ t194 H75, J73 t194 H75 →
 letO (gval t193 true (some (t1 : AV))) fun t195 =>
 letO (gval t193 true (some (t13 : AV))) fun t196 =>
 ∃ J76 : AV → Heap → Prop, condG t193 true (ACalls Try.prog 30 [t194, t195, t196] H75 fun t197 H77 =>
 J76 t197 H77) (J76 (.tup []) H75) ∧ ∀ t197 H78, J76 t197 H78 →
 letO (gval t193 true (binF Try.prog .eql 27 t197 (.int .i64 0))) fun t198 =>
 letO (pickF t193 t198 (.bool false)) fun t199 =>
 letO (some (t199 : AV)) fun t200 =>
 ∃ J79 : AV → Heap → Prop, condG t200 true (ACalls Try.prog 58 [] H78 fun t201 H80 =>
 J79 t201 H80) (J79 (.tup []) H78) ∧ ∀ t201 H81, J79 t201 H81 →
 letO (gval t200 true (some (t7 : AV))) fun t202 =>
 letO (gval t200 true (some (t13 : AV))) fun t203 =>
 ∃ J82 : AV → Heap → Prop, condG t200 true (ACalls Try.prog 30 [t201, t202, t203] H81 fun t204 H83 =>
 J82 t204 H83) (J82 (.tup []) H81) ∧ ∀ t204 H84, J82 t204 H84 →
 letO (gval t200 true (binF Try.prog .eql 27 t204 (.int .i64 14))) fun t205 =>
 letO (pickF t200 t205 (.bool false)) fun t206 =>
 letO (some (t206 : AV)) fun t207 =>
 ∃ J85 : AV → Heap → Prop, condG t207 true (ACalls Try.prog 58 [] H84 fun t208 H86 =>
 J85 t208 H86) (J85 (.tup []) H84) ∧ ∀ t208 H87, J85 t208 H87 →
 letO (gval t207 true ((literalF Try.prog 22 1 [(0, (.int .i64 4))]).map (.imm 1 true))) fun t209 =>
 ∃ J88 : AV → Heap → Prop, condG t207 true (ACalls Try.prog 46 [t209] H87 fun t210 H89 =>
 J88 t210 H89) (J88 (.tup []) H87) ∧ ∀ t210 H90, J88 t210 H90 →
 ∃ J91 : AV → Heap → Prop, condG t207 true (ACalls Try.prog 42 [t208, t210] H90 fun t211 H92 =>
 J91 t211 H92) (J91 (.tup []) H90) ∧ ∀ t211 H93, J91 t211 H93 →
 letO (gval t207 true (binF Try.prog .eql 27 t211 (.int .i64 15))) fun t212 =>
 letO (pickF t207 t212 (.bool false)) fun t213 =>
 letO (some (t213 : AV)) fun t0 =>
endK t0 H93 K)

theorem W16_ok {H : Heap} {K : AV → Heap → Prop} (h : W16 H K) : ACalls Try.prog 16 [] H K :=
  acallsB (fn := Try.f16) (cfg := cfgOf [] [] [] [] []) (hh := (.dir .nil (.dir .nil (.dir .nil (.dir .nil (.dir .nil (.dir .nil (.dir .nil (.dir .nil (.dir (.dir .nil (.dir .nil .nil)) (.dir .nil (.dir .nil (.dir .nil (.dir .nil (.dir .nil .nil))))))))))))))) follows Try.func16 (by kernel_rfl) (Nat.le_of_ble_eq_true (by kernel_rfl)) (by kernel_rfl) h

/-- headword.line.First -/
def W17 (x0 : AV) (H : Heap) (K : AV → Heap → Prop) : Prop :=
 letO (cellsOf? x0) fun c1 =>
 letO (some (.nils : AV)) fun t2 =>
 letO (some ((.int .i64 0) : AV)) fun t3 =>
 letO (loadN 2 (.iptr c1) H) fun t10 =>
 ACalls Try.prog 62 [t10] H fun t11 H2 =>
 letO (some (t11 : AV)) fun t9 =>
 letO (extrF t9 0) fun t12 =>
 letO (extrF t9 1) fun t13 =>
 allocA [(.int .i64 0), .nils] (fun t4 H3 =>
 storeA 2 t4 t12 (fun H4 =>
 letO (some (t13 : AV)) fun t5 =>
 letO (some (t5 : AV)) fun t14 =>
 letO (binF Try.prog .neq 27 t14 (.int .i64 0)) fun t15 =>
 condA t15 true (
 letO (some (t5 : AV)) fun t16 =>
 letO (some (.nils : AV)) fun t2 =>
 letO (some (t16 : AV)) fun t3 =>
endK (.tup [t2, t3]) H4 K) (
 letO (loadN 2 t4 H4) fun t17 =>
 ACalls Try.prog 63 [t17] H4 fun t18 H5 =>
 letO (some (t18 : AV)) fun t6 =>
 letO (some (.nils : AV)) fun t7 =>
 letO (some ((.int .i64 0) : AV)) fun t8 =>
 true = true ∧ ∃ (I6 : List AV → Heap → Prop) (μ7 : List AV → Heap → Nat), I6 [t8, t7] H5 ∧ ∀ L8 H9, I6 L8 H9 → -- [t8, t7]
 letO (some ((L8.getD 0 .any) : AV)) fun t19 =>
 letO (loadN 2 t4 H9) fun t20 =>
 ACalls Try.prog 64 [t20] H9 fun t21 H10 =>
 letO (binF Try.prog .lss 3 t19 t21) fun t22 =>
 condA t22 true (
 letO (some (t6 : AV)) fun t23 =>
 letO (some ((L8.getD 0 .any) : AV)) fun t24 =>
 letO (idx 3 t23 t24) fun t25 =>
 letO (faddr 1 t25) fun t26 =>
 letO (load1 t26 H10) fun t27 =>
 letO (some (t27 : AV)) fun t8 =>
 letO (some ((L8.getD 1 .any) : AV)) fun t28 =>
 letO (some (t8 : AV)) fun t29 =>
 letO (literalF Try.prog 22 1 [(0, t29)]) fun c11 =>
 appendA 1 8 t28 (.imm 1 true c11) (fun t31 H12 =>
 letO (some (t31 : AV)) fun t7 =>
 I6 [t8, t7] H12 ∧ μ7 [t8, t7] H12 < μ7 L8 H9) H10) (
 letO (some ((L8.getD 1 .any) : AV)) fun t32 =>
 letO (some (t32 : AV)) fun t2 =>
 letO (some ((.int .i64 0) : AV)) fun t3 =>
endK (.tup [t2, t3]) H10 K))) H3) H2

theorem W17_ok {x0 : AV} {H : Heap} {K : AV → Heap → Prop} (h : W17 x0 H K) : ACalls Try.prog 17 [x0] H K :=
  acallsB (fn := Try.f17) (cfg := cfgOf [] [] [] [] []) (hh := (.dir .nil (.dir .nil (.dir (.dir .nil (.dir .nil .nil)) (.dir .nil (.dir .nil (.dir (.dir .nil (.blk (.loop [8, 7] [19, 20, 21, 22, 23, 24, 25, 26, 27, 8, 28, 29, 30, 31, 7] (.dir (.dir .nil .nil) .nil)))) .nil))))))) follows Try.func17 (by kernel_rfl) (Nat.le_of_ble_eq_true (by kernel_rfl)) (by kernel_rfl) h

/-- headword.line.Least -/
def W19 (x0 : AV) (H : Heap) (K : AV → Heap → Prop) : Prop :=
 letO (cellsOf? x0) fun c1 =>
 letO (some ((.int .i64 0) : AV)) fun t2 =>
 letO (some ((.int .i64 0) : AV)) fun t3 =>
 letO (loadN 2 (.iptr c1) H) fun t7 =>
 ACalls Try.prog 62 [t7] H fun t8 H2 =>
 letO (some (t8 : AV)) fun t6 =>
 letO (extrF t6 0) fun t9 =>
 letO (extrF t6 1) fun t10 =>
 allocA [(.int .i64 0), .nils] (fun t4 H3 =>
 storeA 2 t4 t9 (fun H4 =>
 letO (some (t10 : AV)) fun t5 =>
 letO (some (t5 : AV)) fun t11 =>
 letO (binF Try.prog .neq 27 t11 (.int .i64 0)) fun t12 =>
 condA t12 true (
 letO (some (t5 : AV)) fun t13 =>
 letO (some ((.int .i64 0) : AV)) fun t2 =>
 letO (some (t13 : AV)) fun t3 =>
endK (.tup [t2, t3]) H4 K) (
 letO (loadN 2 t4 H4) fun t14 =>
 ACalls Try.prog 63 [t14] H4 fun t15 H5 =>
 letO (idx 3 t15 (.int .i64 0)) fun t16 =>
 letO (faddr 0 t16) fun t17 =>
 letO (load1 t17 H5) fun t18 =>
 letO (some (t18 : AV)) fun t2 =>
 letO (some ((.int .i64 0) : AV)) fun t3 =>
endK (.tup [t2, t3]) H5 K)) H3) H2

theorem W19_ok {x0 : AV} {H : Heap} {K : AV → Heap → Prop} (h : W19 x0 H K) : ACalls Try.prog 19 [x0] H K :=
  acallsB (fn := Try.f19) (cfg := cfgOf [] [] [] [] []) (hh := (.dir .nil (.dir .nil (.dir (.dir .nil (.dir .nil .nil)) .nil)))) follows Try.func19 (by kernel_rfl) (Nat.le_of_ble_eq_true (by kernel_rfl)) (by kernel_rfl) h

/-- headword.line.Count -/
def W21 (x0 : AV) (H : Heap) (K : AV → Heap → Prop) : Prop :=
 letO (cellsOf? x0) fun c1 =>
 letO (some ((.int .i64 0) : AV)) fun t2 =>
 letO (some ((.int .i64 0) : AV)) fun t3 =>
 letO (loadN 2 (.iptr c1) H) fun t7 =>
 ACalls Try.prog 62 [t7] H fun t8 H2 =>
 letO (some (t8 : AV)) fun t6 =>
 letO (extrF t6 0) fun t9 =>
 letO (extrF t6 1) fun t10 =>
 allocA [(.int .i64 0), .nils] (fun t4 H3 =>
 storeA 2 t4 t9 (fun H4 =>
 letO (some (t10 : AV)) fun t5 =>
 letO (some (t5 : AV)) fun t11 =>
 letO (binF Try.prog .neq 27 t11 (.int .i64 0)) fun t12 =>
 condA t12 true (
 letO (some (t5 : AV)) fun t13 =>
 letO (some ((.int .i64 0) : AV)) fun t2 =>
 letO (some (t13 : AV)) fun t3 =>
endK (.tup [t2, t3]) H4 K) (
 letO (loadN 2 t4 H4) fun t14 =>
 ACalls Try.prog 63 [t14] H4 fun t15 H5 =>
 letO (idx 3 t15 (.int .i64 0)) fun t16 =>
 letO (faddr 2 t16) fun t17 =>
 letO (load1 t17 H5) fun t18 =>
 letO (some (t18 : AV)) fun t2 =>
 letO (some ((.int .i64 0) : AV)) fun t3 =>
endK (.tup [t2, t3]) H5 K)) H3) H2

theorem W21_ok {x0 : AV} {H : Heap} {K : AV → Heap → Prop} (h : W21 x0 H K) : ACalls Try.prog 21 [x0] H K :=
  acallsB (fn := Try.f21) (cfg := cfgOf [] [] [] [] []) (hh := (.dir .nil (.dir .nil (.dir (.dir .nil (.dir .nil .nil)) .nil)))) follows Try.func21 (by kernel_rfl) (Nat.le_of_ble_eq_true (by kernel_rfl)) (by kernel_rfl) h

/-- headword.line.Starts -/
def W23 (x0 : AV) (H : Heap) (K : AV → Heap → Prop) : Prop :=
 letO (cellsOf? x0) fun c1 =>
 letO (some (.nils : AV)) fun t2 =>
 letO (some ((.int .i64 0) : AV)) fun t3 =>
 letO (loadN 2 (.iptr c1) H) fun t10 =>
 ACalls Try.prog 62 [t10] H fun t11 H2 =>
 letO (some (t11 : AV)) fun t9 =>
 letO (extrF t9 0) fun t12 =>
 letO (extrF t9 1) fun t13 =>
 allocA [(.int .i64 0), .nils] (fun t4 H3 =>
 storeA 2 t4 t12 (fun H4 =>
 letO (some (t13 : AV)) fun t5 =>
 letO (some (t5 : AV)) fun t14 =>
 letO (binF Try.prog .neq 27 t14 (.int .i64 0)) fun t15 =>
 condA t15 true (
 letO (some (t5 : AV)) fun t16 =>
 letO (some (.nils : AV)) fun t2 =>
 letO (some (t16 : AV)) fun t3 =>
endK (.tup [t2, t3]) H4 K) (
 letO (some (.nils : AV)) fun t6 =>
 letO (loadN 2 t4 H4) fun t17 =>
 ACalls Try.prog 67 [t17] H4 fun t18 H5 =>
 letO (slc 2 t18 (some (.int .i64 1)) none none) fun t19 =>
 letO (lenA t19) fun t20 =>
 letO (some ((.int .i64 0) : AV)) fun t21 =>
 true = true ∧ ∃ (I6 : List AV → Heap → Prop) (μ7 : List AV → Heap → Nat), I6 [t6, t21] H5 ∧ ∀ L8 H9, I6 L8 H9 → -- [t6, t21]
 letO (binF Try.prog .lss 3 (L8.getD 1 .any) t20) fun t22 =>
 condA t22 true (
 letO (idx 2 t19 (L8.getD 1 .any)) fun t23 =>
 letO (loadN 2 t23 H9) fun t24 =>
 allocA [(.int .i64 0), (.int .i64 0)] (fun t8 H10 =>
 storeA 2 t8 t24 (fun H11 =>
 letO (some ((L8.getD 0 .any) : AV)) fun t25 =>
 letO (idxArr 2 1 t8 (.int .i64 1)) fun t26 =>
 letO (load1 t26 H11) fun t27 =>
 letO (literalF Try.prog 22 1 [(0, t27)]) fun c12 =>
 appendA 1 8 t25 (.imm 1 true c12) (fun t29 H13 =>
 letO (some (t29 : AV)) fun t6 =>
 letO (binF Try.prog .add 3 (L8.getD 1 .any) (.int .i64 1)) fun t30 =>
 letO (some (t30 : AV)) fun t21 =>
 I6 [t6, t21] H13 ∧ μ7 [t6, t21] H13 < μ7 L8 H9) H11) H10) H9) (
 letO (some ((L8.getD 0 .any) : AV)) fun t31 =>
 letO (some (t31 : AV)) fun t2 =>
 letO (some ((.int .i64 0) : AV)) fun t3 =>
endK (.tup [t2, t3]) H9 K))) H3) H2

theorem W23_ok {x0 : AV} {H : Heap} {K : AV → Heap → Prop} (h : W23 x0 H K) : ACalls Try.prog 23 [x0] H K :=
  acallsB (fn := Try.f23) (cfg := cfgOf [] [] [] [] []) (hh := (.dir .nil (.dir .nil (.dir (.dir .nil (.dir .nil .nil)) (.dir .nil (.dir (.dir .nil (.blk (.loop [6, 21] [22, 23, 24, 8, 25, 26, 27, 28, 29, 6, 30, 21] (.dir .nil (.dir .nil (.dir .nil .nil)))))) .nil)))))) follows Try.func23 (by kernel_rfl) (Nat.le_of_ble_eq_true (by kernel_rfl)) (by kernel_rfl) h

/-- headword.headwordlaw13.same -/
def W25 (x0 x1 : AV) (H : Heap) (K : AV → Heap → Prop) : Prop :=
 letO (some ((.bool false) : AV)) fun t4 =>
 letO (some (x0 : AV)) fun t6 =>
 letO (lenA t6) fun t7 =>
 letO (some (x1 : AV)) fun t8 =>
 letO (lenA t8) fun t9 =>
 letO (binF Try.prog .neq 3 t7 t9) fun t10 =>
 condA t10 true (
 letO (some ((.bool false) : AV)) fun t4 =>
endK t4 H K) (
 letO (some ((.int .i64 0) : AV)) fun t5 =>
 true = true ∧ ∃ (I1 : List AV → Heap → Prop) (μ2 : List AV → Heap → Nat), I1 [t5] H ∧ ∀ L3 H4, I1 L3 H4 → -- [t5]
 letO (some ((L3.getD 0 .any) : AV)) fun t11 =>
 letO (some (x0 : AV)) fun t12 =>
 letO (lenA t12) fun t13 =>
 letO (binF Try.prog .lss 3 t11 t13) fun t14 =>
 condA t14 true (
 true = true ∧
 letO (some (x0 : AV)) fun t17 =>
 letO (some ((L3.getD 0 .any) : AV)) fun t18 =>
 letO (idx 1 t17 t18) fun t19 =>
 letO (load1 t19 H4) fun t20 =>
 letO (some (x1 : AV)) fun t21 =>
 letO (some ((L3.getD 0 .any) : AV)) fun t22 =>
 letO (idx 1 t21 t22) fun t23 =>
 letO (load1 t23 H4) fun t24 =>
 letO (binF Try.prog .neq 3 t20 t24) fun t25 =>
 condA t25 true (
 letO (some ((.bool false) : AV)) fun t4 =>
endK t4 H4 K) (
 letO (some ((L3.getD 0 .any) : AV)) fun t15 =>
 letO (binF Try.prog .add 3 t15 (.int .i64 1)) fun t16 =>
 letO (some (t16 : AV)) fun t5 =>
 I1 [t5] H4 ∧ μ2 [t5] H4 < μ2 L3 H4)) (
 letO (some ((.bool true) : AV)) fun t4 =>
endK t4 H4 K))

theorem W25_ok {x0 x1 : AV} {H : Heap} {K : AV → Heap → Prop} (h : W25 x0 x1 H K) : ACalls Try.prog 25 [x0, x1] H K :=
  acallsB (fn := Try.f25) (cfg := cfgOf [] [] [(6, [0, 0, 3, 7, 0, 0, 48, 112, 255])] [] []) (hh := (.dir .nil (.dir (.dir .nil (.dir .nil .nil)) (.dir (.dir .nil (.blk (.loop [5] [11, 12, 13, 14, 17, 18, 19, 20, 21, 22, 23, 24, 25, 4, 15, 16, 5] (.dir (.dir .nil .nil) (.dir (.blk (.dir .nil (.dir .nil .nil))) .nil))))) .nil)))) follows Try.func25 (by kernel_rfl) (Nat.le_of_ble_eq_true (by kernel_rfl)) (by kernel_rfl) h

/-- headword.line.Prices -/
def W26 (x0 : AV) (H : Heap) (K : AV → Heap → Prop) : Prop :=
 letO (cellsOf? x0) fun c1 =>
 letO (some (.nils : AV)) fun t2 =>
 letO (some ((.int .i64 0) : AV)) fun t3 =>
 letO (loadN 2 (.iptr c1) H) fun t10 =>
 ACalls Try.prog 62 [t10] H fun t11 H2 =>
 letO (some (t11 : AV)) fun t9 =>
 letO (extrF t9 0) fun t12 =>
 letO (extrF t9 1) fun t13 =>
 allocA [(.int .i64 0), .nils] (fun t4 H3 =>
 storeA 2 t4 t12 (fun H4 =>
 letO (some (t13 : AV)) fun t5 =>
 letO (some (t5 : AV)) fun t14 =>
 letO (binF Try.prog .neq 27 t14 (.int .i64 0)) fun t15 =>
 condA t15 true (
 letO (some (t5 : AV)) fun t16 =>
 letO (some (.nils : AV)) fun t2 =>
 letO (some (t16 : AV)) fun t3 =>
endK (.tup [t2, t3]) H4 K) (
 letO (some (.nils : AV)) fun t6 =>
 true = true ∧
 letO (loadN 2 t4 H4) fun t17 =>
 ∃ t18, (ACalls Try.prog 67 [t17] H4 fun r h => r = t18 ∧ h = H4) ∧
 letO (loadN 2 t4 H4) fun t19 =>
 ∃ t20, (ACalls Try.prog 64 [t19] H4 fun r h => r = t20 ∧ h = H4) ∧
 letO (slc 2 t18 none (some t20) none) fun t21 =>
 letO (lenA t21) fun t22 =>
 letO (some ((.int .i64 0) : AV)) fun t23 =>
 true = true ∧ ∃ (I5 : List AV → Heap → Prop) (μ6 : List AV → Heap → Nat), I5 [t6, t23] H4 ∧ ∀ L7 H8, I5 L7 H8 → -- [t6, t23]
 letO (binF Try.prog .lss 3 (L7.getD 1 .any) t22) fun t24 =>
 condA t24 true (
 letO (idx 2 t21 (L7.getD 1 .any)) fun t25 =>
 letO (loadN 2 t25 H8) fun t26 =>
 allocA [(.int .i64 0), (.int .i64 0)] (fun t8 H9 =>
 storeA 2 t8 t26 (fun H10 =>
 letO (some ((L7.getD 0 .any) : AV)) fun t27 =>
 letO (idxArr 2 1 t8 (.int .i64 0)) fun t28 =>
 letO (load1 t28 H10) fun t29 =>
 letO (literalF Try.prog 22 1 [(0, t29)]) fun c11 =>
 appendA 1 8 t27 (.imm 1 true c11) (fun t31 H12 =>
 letO (some (t31 : AV)) fun t6 =>
 letO (binF Try.prog .add 3 (L7.getD 1 .any) (.int .i64 1)) fun t32 =>
 letO (some (t32 : AV)) fun t23 =>
 I5 [t6, t23] H12 ∧ μ6 [t6, t23] H12 < μ6 L7 H8) H10) H9) H8) (
 letO (some ((L7.getD 0 .any) : AV)) fun t33 =>
 letO (some (t33 : AV)) fun t2 =>
 letO (some ((.int .i64 0) : AV)) fun t3 =>
endK (.tup [t2, t3]) H8 K))) H3) H2

theorem W26_ok {x0 : AV} {H : Heap} {K : AV → Heap → Prop} (h : W26 x0 H K) : ACalls Try.prog 26 [x0] H K :=
  acallsB (fn := Try.f26) (cfg := cfgOf [] [] [(5, [0, 1, 0, 7, 15, 31, 0])] [] []) (hh := (.dir .nil (.dir .nil (.dir (.dir .nil (.dir .nil .nil)) (.dir .nil (.dir (.dir .nil (.blk (.loop [6, 23] [24, 25, 26, 8, 27, 28, 29, 30, 31, 6, 32, 23] (.dir .nil (.dir .nil (.dir .nil .nil)))))) .nil)))))) follows Try.func26 (by kernel_rfl) (Nat.le_of_ble_eq_true (by kernel_rfl)) (by kernel_rfl) h

/-- headword.line.Bound -/
def W28 (x0 x1 : AV) (H : Heap) (K : AV → Heap → Prop) : Prop :=
 letO (cellsOf? x0) fun c1 =>
 letO (some ((.int .i64 0) : AV)) fun t4 =>
 letO (some ((.int .i64 0) : AV)) fun t5 =>
 letO (loadN 2 (.iptr c1) H) fun t9 =>
 ACalls Try.prog 62 [t9] H fun t10 H2 =>
 letO (some (t10 : AV)) fun t8 =>
 letO (extrF t8 0) fun t11 =>
 letO (extrF t8 1) fun t12 =>
 allocA [(.int .i64 0), .nils] (fun t6 H3 =>
 storeA 2 t6 t11 (fun H4 =>
 letO (some (t12 : AV)) fun t7 =>
 letO (some (t7 : AV)) fun t13 =>
 letO (binF Try.prog .neq 27 t13 (.int .i64 0)) fun t14 =>
 condA t14 true (
 letO (some (t7 : AV)) fun t15 =>
 letO (some ((.int .i64 0) : AV)) fun t4 =>
 letO (some (t15 : AV)) fun t5 =>
endK (.tup [t4, t5]) H4 K) (
 letO (loadN 2 t6 H4) fun t16 =>
 letO (some (x1 : AV)) fun t17 =>
 ACalls Try.prog 70 [t16, t17] H4 fun t18 H5 =>
 letO (extrF t18 0) fun t19 =>
 letO (extrF t18 1) fun t20 =>
 letO (some (t19 : AV)) fun t4 =>
 letO (some (t20 : AV)) fun t5 =>
endK (.tup [t4, t5]) H5 K)) H3) H2

theorem W28_ok {x0 x1 : AV} {H : Heap} {K : AV → Heap → Prop} (h : W28 x0 x1 H K) : ACalls Try.prog 28 [x0, x1] H K :=
  acallsB (fn := Try.f28) (cfg := cfgOf [] [] [] [] []) (hh := (.dir .nil (.dir .nil (.dir (.dir .nil (.dir .nil .nil)) .nil)))) follows Try.func28 (by kernel_rfl) (Nat.le_of_ble_eq_true (by kernel_rfl)) (by kernel_rfl) h

/-- headword.line.Proves -/
def W30 (x0 x1 x2 : AV) (H : Heap) (K : AV → Heap → Prop) : Prop :=
 letO (cellsOf? x0) fun c1 =>
 letO (some ((.int .i64 0) : AV)) fun t6 =>
 letO (loadN 2 (.iptr c1) H) fun t13 =>
 letO (some (x1 : AV)) fun t14 =>
 ACalls Try.prog 72 [t13, t14] H fun t15 H2 =>
 letO (some (t15 : AV)) fun t12 =>
 letO (extrF t12 0) fun t16 =>
 letO (extrF t12 1) fun t17 =>
 letO (extrF t12 2) fun t18 =>
 allocA [(.int .i64 0), .nils] (fun t7 H3 =>
 storeA 2 t7 t16 (fun H4 =>
 letO (some (t17 : AV)) fun t8 =>
 letO (some (t18 : AV)) fun t9 =>
 letO (some (t9 : AV)) fun t19 =>
 letO (binF Try.prog .neq 27 t19 (.int .i64 0)) fun t20 =>
 condA t20 true (
 letO (some (t9 : AV)) fun t21 =>
 letO (some (t21 : AV)) fun t6 =>
endK t6 H4 K) (
 letO (loadN 2 t7 H4) fun t23 =>
 letO (some (x2 : AV)) fun t24 =>
 ACalls Try.prog 70 [t23, t24] H4 fun t25 H5 =>
 letO (some (t25 : AV)) fun t22 =>
 letO (extrF t22 0) fun t26 =>
 letO (extrF t22 1) fun t27 =>
 letO (some (t26 : AV)) fun t10 =>
 letO (some (t27 : AV)) fun t11 =>
 letO (some (t11 : AV)) fun t29 =>
 letO (binF Try.prog .neq 27 t29 (.int .i64 0)) fun t30 =>
 letO (some (t30 : AV)) fun t28 =>
 condA t28 true (
 letO (some (t11 : AV)) fun t31 =>
 letO (some (t31 : AV)) fun t6 =>
endK t6 H5 K) (
 letO (some (t10 : AV)) fun t33 =>
 letO (loadN 2 t7 H5) fun t34 =>
 letO (some (t8 : AV)) fun t35 =>
 ACalls Try.prog 73 [t34, t35] H5 fun t36 H6 =>
 letO (binF Try.prog .neq 3 t33 t36) fun t37 =>
 letO (some (t37 : AV)) fun t32 =>
 condA t32 true (
 letO (some ((.int .i64 14) : AV)) fun t6 =>
endK t6 H6 K) (
 letO (some ((.int .i64 0) : AV)) fun t6 =>
endK t6 H6 K)))) H3) H2

theorem W30_ok {x0 x1 x2 : AV} {H : Heap} {K : AV → Heap → Prop} (h : W30 x0 x1 x2 H K) : ACalls Try.prog 30 [x0, x1, x2] H K :=
  acallsB (fn := Try.f30) (cfg := cfgOf [] [] [] [] []) (hh := (.dir .nil (.dir .nil (.dir (.dir .nil (.dir .nil .nil)) (.dir (.dir .nil (.blk (.dir .nil (.dir .nil (.dir .nil (.dir .nil .nil)))))) .nil))))) follows Try.func30 (by kernel_rfl) (Nat.le_of_ble_eq_true (by kernel_rfl)) (by kernel_rfl) h

/-- headword.line.Grow -/
def W32 (x0 x1 x2 x3 : AV) (H : Heap) (K : AV → Heap → Prop) : Prop :=
 letO (cellsOf? x0) fun c1 =>
 letO (cellsOf? x2) fun c2 =>
 letO (some (.nils : AV)) fun t8 =>
 letO (some ((.int .i64 0) : AV)) fun t9 =>
 letO (some ((.int .i64 0) : AV)) fun t10 =>
 letO (loadN 2 (.iptr c1) H) fun t17 =>
 letO (some (x1 : AV)) fun t18 =>
 ACalls Try.prog 72 [t17, t18] H fun t19 H3 =>
 letO (some (t19 : AV)) fun t16 =>
 letO (extrF t16 0) fun t20 =>
 letO (extrF t16 1) fun t21 =>
 letO (extrF t16 2) fun t22 =>
 allocA [(.int .i64 0), .nils] (fun t11 H4 =>
 storeA 2 t11 t20 (fun H5 =>
 letO (some (t21 : AV)) fun t12 =>
 letO (some (t22 : AV)) fun t10 =>
 letO (some (t10 : AV)) fun t24 =>
 letO (binF Try.prog .neq 27 t24 (.int .i64 0)) fun t25 =>
 letO (some (t25 : AV)) fun t23 =>
 condA t23 true (
 letO (some (t10 : AV)) fun t26 =>
 letO (some (.nils : AV)) fun t8 =>
 letO (some ((.int .i64 0) : AV)) fun t9 =>
 letO (some (t26 : AV)) fun t10 =>
endK (.tup [t8, t9, t10]) H5 K) (
 true = true ∧
 letO (load1 (.iptr c2) Heap.none) fun t28 =>
 letO (binF Try.prog .lss 3 t28 (.int .i64 0)) fun t29 =>
 letO (some (t29 : AV)) fun t30 =>
 letO (gval t30 false (load1 (.iptr c2) Heap.none)) fun t31 =>
 letO (gval t30 false (loadN 2 t11 H5)) fun t32 =>
 ∃ t33, condG t30 false (ACalls Try.prog 64 [t32] H5 fun r h => r = t33 ∧ h = H5) (t33 = .tup []) ∧
 letO (gval t30 false (binF Try.prog .geq 3 t31 t33)) fun t34 =>
 letO (pickF t30 (.bool true) t34) fun t35 =>
 letO (some (t35 : AV)) fun t27 =>
 condA t27 true (
 letO (some (.nils : AV)) fun t8 =>
 letO (some ((.int .i64 0) : AV)) fun t9 =>
 letO (some ((.int .i64 2) : AV)) fun t10 =>
endK (.tup [t8, t9, t10]) H5 K) (
 letO (some (x3 : AV)) fun t37 =>
 letO (binF Try.prog .lss 3 t37 (.int .i64 1)) fun t38 =>
 letO (some (t38 : AV)) fun t39 =>
 letO (gval t39 false (some (x3 : AV))) fun t40 =>
 letO (gval t39 false (binF Try.prog .gtr 3 t40 (.int .i64 40))) fun t41 =>
 letO (pickF t39 (.bool true) t41) fun t42 =>
 letO (some (t42 : AV)) fun t36 =>
 condA t36 true (
 letO (some (.nils : AV)) fun t8 =>
 letO (some ((.int .i64 0) : AV)) fun t9 =>
 letO (some ((.int .i64 1) : AV)) fun t10 =>
endK (.tup [t8, t9, t10]) H5 K) (
 true = true ∧
 letO (faddr 1 (.iptr c1)) fun t44 =>
 letO (load1 t44 Heap.none) fun t45 =>
 letO (load1 (.iptr c2) Heap.none) fun t46 =>
 letO (idx 1 t45 t46) fun t47 =>
 letO (load1 t47 H5) fun t48 =>
 letO (some (x3 : AV)) fun t49 =>
 letO (binF Try.prog .add 3 t48 t49) fun t50 =>
 letO (faddr 0 (.iptr c1)) fun t51 =>
 letO (load1 t51 Heap.none) fun t52 =>
 letO (binF Try.prog .gtr 3 t50 t52) fun t53 =>
 letO (some (t53 : AV)) fun t43 =>
 condA t43 true (
 letO (some (.nils : AV)) fun t8 =>
 letO (some ((.int .i64 0) : AV)) fun t9 =>
 letO (some ((.int .i64 12) : AV)) fun t10 =>
endK (.tup [t8, t9, t10]) H5 K) (
 letO (load1 (.iptr c2) H5) fun t54 =>
 letO (binF Try.prog .add 3 t54 (.int .i64 1)) fun t55 =>
 letO (some (t55 : AV)) fun t13 =>
 true = true ∧ ∃ (I6 : List AV → Heap → Prop) (μ7 : List AV → Heap → Nat), I6 [t13] H5 ∧ ∀ L8 H9, I6 L8 H9 → -- [t13]
 letO (some ((L8.getD 0 .any) : AV)) fun t56 =>
 letO (loadN 2 t11 H9) fun t57 =>
 ACalls Try.prog 64 [t57] H9 fun t58 H10 =>
 letO (binF Try.prog .leq 3 t56 t58) fun t59 =>
 condA t59 true (
 letO (faddr 1 t11) fun t62 =>
 letO (load1 t62 H10) fun t63 =>
 letO (some ((L8.getD 0 .any) : AV)) fun t64 =>
 letO (idx 1 t63 t64) fun t65 =>
 letO (load1 t65 H10) fun t66 =>
 letO (some (x3 : AV)) fun t67 =>
 letO (binF Try.prog .add 3 t66 t67) fun t68 =>
 letO (idx 1 t63 t64) fun t69 =>
 storeA 1 t69 t68 (fun H11 =>
 letO (some ((L8.getD 0 .any) : AV)) fun t60 =>
 letO (binF Try.prog .add 3 t60 (.int .i64 1)) fun t61 =>
 letO (some (t61 : AV)) fun t13 =>
 I6 [t13] H11 ∧ μ7 [t13] H11 < μ7 L8 H9) H10) (
 letO (some (t12 : AV)) fun t70 =>
 letO (some (AV.fn 75 [(.iptr c2)])) fun t71 =>
 ACalls Try.prog 74 [t70, t71] H10 fun t72 H12 =>
 letO (some (t72 : AV)) fun t9 =>
 letO (some (x1 : AV)) fun t73 =>
 ACalls Try.prog 40 [t73] H12 fun t74 H13 =>
 letO (some (t74 : AV)) fun t8 =>
 letO (some (t12 : AV)) fun t75 =>
 letO (some (t9 : AV)) fun t76 =>
 letO (idx 2 t75 t76) fun t77 =>
 letO (idxArr 2 1 t77 (.int .i64 0)) fun t78 =>
 letO (load1 t78 H13) fun t79 =>
 letO (some (t79 : AV)) fun t14 =>
 true = true ∧ ∃ (I14 : List AV → Heap → Prop) (μ15 : List AV → Heap → Nat), I14 [t8, t9, t14] H13 ∧ ∀ L16 H17, I14 L16 H17 → -- [t8, t9, t14]
 letO (some ((L16.getD 0 .any) : AV)) fun t80 =>
 letO (some ((L16.getD 1 .any) : AV)) fun t81 =>
 letO (idx 1 t80 t81) fun t82 =>
 letO (load1 t82 H17) fun t83 =>
 letO (some (t83 : AV)) fun t15 =>
 letO (some ((L16.getD 0 .any) : AV)) fun t84 =>
 letO (some ((L16.getD 1 .any) : AV)) fun t85 =>
 letO (loadN 2 t11 H17) fun t86 =>
 letO (some ((L16.getD 2 .any) : AV)) fun t87 =>
 letO (some (t15 : AV)) fun t88 =>
 ACalls Try.prog 76 [t86, t87, t88] H17 fun t89 H18 =>
 letO (idx 1 t84 t85) fun t90 =>
 storeA 1 t90 t89 (fun H19 =>
 letO (some ((L16.getD 0 .any) : AV)) fun t91 =>
 letO (some ((L16.getD 1 .any) : AV)) fun t92 =>
 letO (idx 1 t91 t92) fun t93 =>
 letO (load1 t93 H19) fun t94 =>
 letO (some (t15 : AV)) fun t95 =>
 letO (binF Try.prog .eql 3 t94 t95) fun t96 =>
 condA t96 true (
 letO (some ((L16.getD 0 .any) : AV)) fun t97 =>
 letO (some ((L16.getD 1 .any) : AV)) fun t98 =>
 letO (some (t97 : AV)) fun t8 =>
 letO (some (t98 : AV)) fun t9 =>
 letO (some ((.int .i64 0) : AV)) fun t10 =>
endK (.tup [t8, t9, t10]) H19 K) (
 letO (some ((L16.getD 0 .any) : AV)) fun t99 =>
 letO (some ((L16.getD 1 .any) : AV)) fun t100 =>
 letO (idx 1 t99 t100) fun t101 =>
 letO (load1 t101 H19) fun t102 =>
 letO (some (t102 : AV)) fun t14 =>
 letO (some ((L16.getD 1 .any) : AV)) fun t103 =>
 letO (binF Try.prog .add 3 t103 (.int .i64 1)) fun t104 =>
 letO (some (t104 : AV)) fun t9 =>
 letO (some (t9 : AV)) fun t105 =>
 letO (some ((L16.getD 0 .any) : AV)) fun t106 =>
 letO (lenA t106) fun t107 =>
 letO (binF Try.prog .eql 3 t105 t107) fun t108 =>
 condA t108 true (
 letO (some ((L16.getD 0 .any) : AV)) fun t109 =>
 letO (loadN 2 t11 H19) fun t110 =>
 ACalls Try.prog 64 [t110] H19 fun t111 H20 =>
 letO (literalF Try.prog 22 1 [(0, t111)]) fun c21 =>
 appendA 1 8 t109 (.imm 1 true c21) (fun t113 H22 =>
 letO (some (t113 : AV)) fun t8 =>
 I14 [t8, t9, t14] H22 ∧ μ15 [t8, t9, t14] H22 < μ15 L16 H17) H20) (
 I14 [(L16.getD 0 .any), t9, t14] H19 ∧ μ15 [(L16.getD 0 .any), t9, t14] H19 < μ15 L16 H17))) H18)))))) H4) H3

theorem W32_ok {x0 x1 x2 x3 : AV} {H : Heap} {K : AV → Heap → Prop} (h : W32 x0 x1 x2 x3 H K) : ACalls Try.prog 32 [x0, x1, x2, x3] H K :=
  acallsB (fn := Try.f32) (cfg := cfgOf [] [28, 31, 45, 46, 52] [(4, [0, 1, 3, 7, 7, 23, 63, 127, 255]), (8, [0, 1, 0, 7, 15, 0, 63, 0, 128, 511, 1023])] [] []) (hh := (.dir .nil (.dir .nil (.dir (.blk (.dir .nil (.dir .nil (.dir .nil (.dir .nil (.dir .nil (.dir .nil (.dir .nil (.dir .nil .nil))))))))) (.dir (.dir .nil (.blk (.loop [13] [56, 57, 58, 59, 62, 63, 64, 65, 66, 67, 68, 69, 60, 61, 13] (.dir (.dir .nil .nil) (.dir .nil .nil))))) (.dir .nil (.dir .nil (.dir .nil (.blk (.loop [8, 9, 14] [80, 81, 82, 83, 15, 84, 85, 86, 87, 88, 89, 90, 91, 92, 93, 94, 95, 96, 97, 98, 8, 9, 10, 99, 100, 101, 102, 14, 103, 104, 105, 106, 107, 108, 109, 110, 111, 112, 113] (.blk (.dir .nil (.dir (.dir .nil (.dir .nil (.dir .nil .nil))) (.dir .nil (.dir .nil (.dir .nil .nil)))))))))))))))) follows Try.func32 (by kernel_rfl) (Nat.le_of_ble_eq_true (by kernel_rfl)) (by kernel_rfl) h

/-- headword.line.Full -/
def W36 (x0 : AV) (H : Heap) (K : AV → Heap → Prop) : Prop :=
 letO (cellsOf? x0) fun c1 =>
 letO (some (.nils : AV)) fun t2 =>
 letO (some ((.int .i64 0) : AV)) fun t3 =>
 letO (loadN 2 (.iptr c1) H) fun t9 =>
 ACalls Try.prog 62 [t9] H fun t10 H2 =>
 letO (some (t10 : AV)) fun t8 =>
 letO (extrF t8 0) fun t11 =>
 letO (extrF t8 1) fun t12 =>
 allocA [(.int .i64 0), .nils] (fun t4 H3 =>
 storeA 2 t4 t11 (fun H4 =>
 letO (some (t12 : AV)) fun t5 =>
 letO (some (t5 : AV)) fun t13 =>
 letO (binF Try.prog .neq 27 t13 (.int .i64 0)) fun t14 =>
 condA t14 true (
 letO (some (t5 : AV)) fun t15 =>
 letO (some (.nils : AV)) fun t2 =>
 letO (some (t15 : AV)) fun t3 =>
endK (.tup [t2, t3]) H4 K) (
 letO (some (.nils : AV)) fun t6 =>
 letO (some ((.int .i64 0) : AV)) fun t7 =>
 true = true ∧ ∃ (I5 : List AV → Heap → Prop) (μ6 : List AV → Heap → Nat), I5 [t7, t6] H4 ∧ ∀ L7 H8, I5 L7 H8 → -- [t7, t6]
 letO (some ((L7.getD 0 .any) : AV)) fun t16 =>
 letO (loadN 2 t4 H8) fun t17 =>
 ACalls Try.prog 64 [t17] H8 fun t18 H9 =>
 letO (binF Try.prog .lss 3 t16 t18) fun t19 =>
 condA t19 true (
 true = true ∧
 letO (loadN 2 t4 H9) fun t20 =>
 letO (some ((L7.getD 0 .any) : AV)) fun t21 =>
 letO (loadN 2 t4 H9) fun t22 =>
 ∃ t23, (ACalls Try.prog 64 [t22] H9 fun r h => r = t23 ∧ h = H9) ∧
 ACalls Try.prog 76 [t20, t21, t23] H9 fun t24 H10 =>
 letO (some (t24 : AV)) fun t7 =>
 letO (some ((L7.getD 1 .any) : AV)) fun t25 =>
 letO (some (t7 : AV)) fun t26 =>
 letO (literalF Try.prog 22 1 [(0, t26)]) fun c11 =>
 appendA 1 8 t25 (.imm 1 true c11) (fun t28 H12 =>
 letO (some (t28 : AV)) fun t6 =>
 I5 [t7, t6] H12 ∧ μ6 [t7, t6] H12 < μ6 L7 H8) H10) (
 letO (some ((L7.getD 1 .any) : AV)) fun t29 =>
 letO (some (t29 : AV)) fun t2 =>
 letO (some ((.int .i64 0) : AV)) fun t3 =>
endK (.tup [t2, t3]) H9 K))) H3) H2

theorem W36_ok {x0 : AV} {H : Heap} {K : AV → Heap → Prop} (h : W36 x0 H K) : ACalls Try.prog 36 [x0] H K :=
  acallsB (fn := Try.f36) (cfg := cfgOf [] [] [(7, [0, 0, 0, 4, 15, 31])] [] []) (hh := (.dir .nil (.dir .nil (.dir (.dir .nil (.dir .nil .nil)) (.dir .nil (.dir (.dir .nil (.blk (.loop [7, 6] [16, 17, 18, 19, 20, 21, 22, 23, 24, 7, 25, 26, 27, 28, 6] (.dir (.dir .nil .nil) .nil)))) .nil)))))) follows Try.func36 (by kernel_rfl) (Nat.le_of_ble_eq_true (by kernel_rfl)) (by kernel_rfl) h

/-- slices.Clone[[]int,int] -/
def W40 (x0 : AV) (H : Heap) (K : AV → Heap → Prop) : Prop :=
 letO (some (.nils : AV)) fun t2 =>
 letO (some (x0 : AV)) fun t3 =>
 letO (binF Try.prog .eql 22 t3 .nils) fun t4 =>
 condA t4 true (
 letO (some (.nils : AV)) fun t2 =>
endK t2 H K) (
 letO (literalF Try.prog 22 0 []) fun c1 =>
 letO (some (x0 : AV)) fun t6 =>
 appendA 1 8 (.imm 0 true c1) t6 (fun t7 H2 =>
 letO (some (t7 : AV)) fun t2 =>
endK t2 H2 K) H)

theorem W40_ok {x0 : AV} {H : Heap} {K : AV → Heap → Prop} (h : W40 x0 H K) : ACalls Try.prog 40 [x0] H K :=
  acallsB (fn := Try.f40) (cfg := cfgOf [] [] [] [] []) (hh := (.dir .nil (.dir (.dir .nil (.dir .nil .nil)) .nil))) follows Try.func40 (by kernel_rfl) (Nat.le_of_ble_eq_true (by kernel_rfl)) (by kernel_rfl) h

/-- headword.line.Fits -/
def W42 (x0 x1 : AV) (H : Heap) (K : AV → Heap → Prop) : Prop :=
 letO (cellsOf? x0) fun c1 =>
 letO (some ((.int .i64 0) : AV)) fun t4 =>
 letO (loadN 2 (.iptr c1) H) fun t9 =>
 letO (some (x1 : AV)) fun t10 =>
 ACalls Try.prog 72 [t9, t10] H fun t11 H2 =>
 letO (some (t11 : AV)) fun t8 =>
 letO (extrF t8 0) fun t12 =>
 letO (extrF t8 1) fun t13 =>
 letO (extrF t8 2) fun t14 =>
 allocA [(.int .i64 0), .nils] (fun t5 H3 =>
 storeA 2 t5 t12 (fun H4 =>
 letO (some (t13 : AV)) fun t6 =>
 letO (some (t14 : AV)) fun t7 =>
 letO (some (t7 : AV)) fun t15 =>
 letO (some (t15 : AV)) fun t4 =>
endK t4 H4 K) H3) H2

theorem W42_ok {x0 x1 : AV} {H : Heap} {K : AV → Heap → Prop} (h : W42 x0 x1 H K) : ACalls Try.prog 42 [x0, x1] H K :=
  acallsB (fn := Try.f42) (cfg := cfgOf [] [] [] [] []) (hh := (.dir .nil (.dir .nil .nil))) follows Try.func42 (by kernel_rfl) (Nat.le_of_ble_eq_true (by kernel_rfl)) (by kernel_rfl) h

/-- headword.line.Left -/
def W44 (x0 x1 : AV) (H : Heap) (K : AV → Heap → Prop) : Prop :=
 letO (cellsOf? x0) fun c1 =>
 letO (some (.nils : AV)) fun t4 =>
 letO (some ((.int .i64 0) : AV)) fun t5 =>
 letO (loadN 2 (.iptr c1) H) fun t13 =>
 letO (some (x1 : AV)) fun t14 =>
 ACalls Try.prog 72 [t13, t14] H fun t15 H2 =>
 letO (some (t15 : AV)) fun t12 =>
 letO (extrF t12 0) fun t16 =>
 letO (extrF t12 1) fun t17 =>
 letO (extrF t12 2) fun t18 =>
 allocA [(.int .i64 0), .nils] (fun t6 H3 =>
 storeA 2 t6 t16 (fun H4 =>
 letO (some (t17 : AV)) fun t7 =>
 letO (some (t18 : AV)) fun t8 =>
 letO (some (t8 : AV)) fun t19 =>
 letO (binF Try.prog .neq 27 t19 (.int .i64 0)) fun t20 =>
 condA t20 true (
 letO (some (t8 : AV)) fun t21 =>
 letO (some (.nils : AV)) fun t4 =>
 letO (some (t21 : AV)) fun t5 =>
endK (.tup [t4, t5]) H4 K) (
 letO (some (.nils : AV)) fun t9 =>
 letO (some (t7 : AV)) fun t22 =>
 letO (lenA t22) fun t23 =>
 letO (some ((.int .i64 0) : AV)) fun t24 =>
 true = true ∧ ∃ (I5 : List AV → Heap → Prop) (μ6 : List AV → Heap → Nat), I5 [t9, t24] H4 ∧ ∀ L7 H8, I5 L7 H8 → -- [t9, t24]
 letO (binF Try.prog .lss 3 (L7.getD 1 .any) t23) fun t25 =>
 condA t25 true (
 letO (idx 2 t22 (L7.getD 1 .any)) fun t26 =>
 letO (loadN 2 t26 H8) fun t27 =>
 allocA [(.int .i64 0), (.int .i64 0)] (fun t11 H9 =>
 storeA 2 t11 t27 (fun H10 =>
 letO (some ((L7.getD 0 .any) : AV)) fun t28 =>
 letO (loadN 2 t6 H10) fun t29 =>
 letO (loadN 2 t11 H10) fun t30 =>
 ACalls Try.prog 81 [t29, t30] H10 fun t31 H11 =>
 letO (literalF Try.prog 22 1 [(0, t31)]) fun c12 =>
 appendA 1 8 t28 (.imm 1 true c12) (fun t33 H13 =>
 letO (some (t33 : AV)) fun t9 =>
 letO (binF Try.prog .add 3 (L7.getD 1 .any) (.int .i64 1)) fun t34 =>
 letO (some (t34 : AV)) fun t24 =>
 I5 [t9, t24] H13 ∧ μ6 [t9, t24] H13 < μ6 L7 H8) H11) H9) H8) (
 letO (some ((L7.getD 0 .any) : AV)) fun t35 =>
 letO (some (t35 : AV)) fun t4 =>
 letO (some ((.int .i64 0) : AV)) fun t5 =>
endK (.tup [t4, t5]) H8 K))) H3) H2

theorem W44_ok {x0 x1 : AV} {H : Heap} {K : AV → Heap → Prop} (h : W44 x0 x1 H K) : ACalls Try.prog 44 [x0, x1] H K :=
  acallsB (fn := Try.f44) (cfg := cfgOf [] [] [] [] []) (hh := (.dir .nil (.dir .nil (.dir (.dir .nil (.dir .nil .nil)) (.dir .nil (.dir (.dir .nil (.blk (.loop [9, 24] [25, 26, 27, 11, 28, 29, 30, 31, 32, 33, 9, 34, 24] (.dir .nil (.dir .nil (.dir .nil .nil)))))) .nil)))))) follows Try.func44 (by kernel_rfl) (Nat.le_of_ble_eq_true (by kernel_rfl)) (by kernel_rfl) h

/-- headword.line.Cost -/
def W45 (x0 x1 : AV) (H : Heap) (K : AV → Heap → Prop) : Prop :=
 letO (cellsOf? x0) fun c1 =>
 letO (some ((.int .i64 0) : AV)) fun t4 =>
 letO (some ((.int .i64 0) : AV)) fun t5 =>
 letO (loadN 2 (.iptr c1) H) fun t10 =>
 letO (some (x1 : AV)) fun t11 =>
 ACalls Try.prog 72 [t10, t11] H fun t12 H2 =>
 letO (some (t12 : AV)) fun t9 =>
 letO (extrF t9 0) fun t13 =>
 letO (extrF t9 1) fun t14 =>
 letO (extrF t9 2) fun t15 =>
 allocA [(.int .i64 0), .nils] (fun t6 H3 =>
 storeA 2 t6 t13 (fun H4 =>
 letO (some (t14 : AV)) fun t7 =>
 letO (some (t15 : AV)) fun t8 =>
 letO (some (t8 : AV)) fun t16 =>
 letO (binF Try.prog .neq 27 t16 (.int .i64 0)) fun t17 =>
 condA t17 true (
 letO (some (t8 : AV)) fun t18 =>
 letO (some ((.int .i64 0) : AV)) fun t4 =>
 letO (some (t18 : AV)) fun t5 =>
endK (.tup [t4, t5]) H4 K) (
 letO (loadN 2 t6 H4) fun t19 =>
 letO (some (t7 : AV)) fun t20 =>
 ACalls Try.prog 73 [t19, t20] H4 fun t21 H5 =>
 letO (some (t21 : AV)) fun t4 =>
 letO (some ((.int .i64 0) : AV)) fun t5 =>
endK (.tup [t4, t5]) H5 K)) H3) H2

theorem W45_ok {x0 x1 : AV} {H : Heap} {K : AV → Heap → Prop} (h : W45 x0 x1 H K) : ACalls Try.prog 45 [x0, x1] H K :=
  acallsB (fn := Try.f45) (cfg := cfgOf [] [] [] [] []) (hh := (.dir .nil (.dir .nil (.dir (.dir .nil (.dir .nil .nil)) .nil)))) follows Try.func45 (by kernel_rfl) (Nat.le_of_ble_eq_true (by kernel_rfl)) (by kernel_rfl) h

/-- headword.headwordlaw13.list -/
def W46 (x0 : AV) (H : Heap) (K : AV → Heap → Prop) : Prop :=
 letO (some (.nils : AV)) fun t2 =>
 letO (some (x0 : AV)) fun t3 =>
 letO (some (t3 : AV)) fun t2 =>
endK t2 H K

theorem W46_ok {x0 : AV} {H : Heap} {K : AV → Heap → Prop} (h : W46 x0 H K) : ACalls Try.prog 46 [x0] H K :=
  acallsB (fn := Try.f46) (cfg := cfgOf [] [] [] [] []) (hh := (.dir .nil .nil)) follows Try.func46 (by kernel_rfl) (Nat.le_of_ble_eq_true (by kernel_rfl)) (by kernel_rfl) h

/-- headword.line.Check -/
def W50 (x0 : AV) (H : Heap) (K : AV → Heap → Prop) : Prop :=
 letO (cellsOf? x0) fun c1 =>
 letO (some ((.int .i64 0) : AV)) fun t2 =>
 letO (loadN 2 (.iptr c1) H) fun t6 =>
 ACalls Try.prog 62 [t6] H fun t7 H2 =>
 letO (some (t7 : AV)) fun t5 =>
 letO (extrF t5 0) fun t8 =>
 letO (extrF t5 1) fun t9 =>
 allocA [(.int .i64 0), .nils] (fun t3 H3 =>
 storeA 2 t3 t8 (fun H4 =>
 letO (some (t9 : AV)) fun t4 =>
 letO (some (t4 : AV)) fun t10 =>
 letO (some (t10 : AV)) fun t2 =>
endK t2 H4 K) H3) H2

theorem W50_ok {x0 : AV} {H : Heap} {K : AV → Heap → Prop} (h : W50 x0 H K) : ACalls Try.prog 50 [x0] H K :=
  acallsB (fn := Try.f50) (cfg := cfgOf [] [] [] [] []) (hh := (.dir .nil (.dir .nil .nil))) follows Try.func50 (by kernel_rfl) (Nat.le_of_ble_eq_true (by kernel_rfl)) (by kernel_rfl) h

/-- headword.headwordlaw13.A -/
def W56 (H : Heap) (K : AV → Heap → Prop) : Prop :=
 allocA [(.int .i64 0), .nils] (fun t0 H1 =>
 letO (literalF Try.prog 22 5 [(0, (.int .i64 3)), (1, (.int .i64 3)), (2, (.int .i64 4)), (3, (.int .i64 2)), (4, (.int .i64 5))]) fun c2 =>
 ACalls Try.prog 59 [(.int .i64 10), (.imm 5 true c2)] H1 fun t2 H3 =>
 storeA 2 t0 t2 (fun H4 =>
 letO (loadN 2 t0 H4) fun r5 => endK r5 H4 K) H3) H

theorem W56_ok {H : Heap} {K : AV → Heap → Prop} (h : W56 H K) : ACalls Try.prog 56 [] H K :=
  acallsB (fn := Try.f56) (cfg := cfgOf [] [] [] [] []) (hh := (.dir .nil .nil)) follows Try.func56 (by kernel_rfl) (Nat.le_of_ble_eq_true (by kernel_rfl)) (by kernel_rfl) h

/-- headword.headwordlaw13.C -/
def W57 (H : Heap) (K : AV → Heap → Prop) : Prop :=
 allocA [(.int .i64 0), .nils] (fun t0 H1 =>
 letO (literalF Try.prog 22 6 [(0, (.int .i64 1)), (1, (.int .i64 1)), (2, (.int .i64 1)), (3, (.int .i64 1)), (4, (.int .i64 1)), (5, (.int .i64 1))]) fun c2 =>
 ACalls Try.prog 59 [(.int .i64 6), (.imm 6 true c2)] H1 fun t2 H3 =>
 storeA 2 t0 t2 (fun H4 =>
 letO (loadN 2 t0 H4) fun r5 => endK r5 H4 K) H3) H

theorem W57_ok {H : Heap} {K : AV → Heap → Prop} (h : W57 H K) : ACalls Try.prog 57 [] H K :=
  acallsB (fn := Try.f57) (cfg := cfgOf [] [] [] [] []) (hh := (.dir .nil .nil)) follows Try.func57 (by kernel_rfl) (Nat.le_of_ble_eq_true (by kernel_rfl)) (by kernel_rfl) h

/-- headword.headwordlaw13.B -/
def W58 (H : Heap) (K : AV → Heap → Prop) : Prop :=
 allocA [(.int .i64 0), .nils] (fun t0 H1 =>
 letO (literalF Try.prog 22 4 [(0, (.int .i64 3)), (1, (.int .i64 2)), (2, (.int .i64 2)), (3, (.int .i64 5))]) fun c2 =>
 ACalls Try.prog 59 [(.int .i64 6), (.imm 4 true c2)] H1 fun t2 H3 =>
 storeA 2 t0 t2 (fun H4 =>
 letO (loadN 2 t0 H4) fun r5 => endK r5 H4 K) H3) H

theorem W58_ok {H : Heap} {K : AV → Heap → Prop} (h : W58 H K) : ACalls Try.prog 58 [] H K :=
  acallsB (fn := Try.f58) (cfg := cfgOf [] [] [] [] []) (hh := (.dir .nil .nil)) follows Try.func58 (by kernel_rfl) (Nat.le_of_ble_eq_true (by kernel_rfl)) (by kernel_rfl) h

/-- headword.headwordlaw13.text -/
def W59 (x0 x1 : AV) (H : Heap) (K : AV → Heap → Prop) : Prop :=
 allocA [(.int .i64 0), .nils] (fun t4 H1 =>
 letO (some (x0 : AV)) fun t5 =>
 letO (some (x1 : AV)) fun t6 =>
 letO (buildF Try.prog 24 [(0, t5), (1, t6)]) fun t7 =>
 storeA 2 t4 t7 (fun H2 =>
 letO (loadN 2 t4 H2) fun r3 => endK r3 H2 K) H1) H

theorem W59_ok {x0 x1 : AV} {H : Heap} {K : AV → Heap → Prop} (h : W59 x0 x1 H K) : ACalls Try.prog 59 [x0, x1] H K :=
  acallsB (fn := Try.f59) (cfg := cfgOf [] [] [] [] []) (hh := (.dir .nil .nil)) follows Try.func59 (by kernel_rfl) (Nat.le_of_ble_eq_true (by kernel_rfl)) (by kernel_rfl) h

/-- headword.line.open -/
def W62 (x0 : AV) (H : Heap) (K : AV → Heap → Prop) : Prop :=
 letO (cellsOf? x0) fun c1 =>
 allocA [(.int .i64 0), .nils] (fun t2 H2 =>
 letO (some ((.int .i64 0) : AV)) fun t3 =>
 letO (faddr 0 (.iptr c1)) fun t8 =>
 letO (load1 t8 H2) fun t9 =>
 letO (binF Try.prog .lss 3 t9 (.int .i64 1)) fun t10 =>
 letO (some (t10 : AV)) fun t11 =>
 letO (gval t11 false (faddr 0 (.iptr c1))) fun t12 =>
 letO (gval t11 false (load1 t12 H2)) fun t13 =>
 letO (gval t11 false (binF Try.prog .gtr 3 t13 (.int .i64 40))) fun t14 =>
 letO (pickF t11 (.bool true) t14) fun t15 =>
 letO (some (t15 : AV)) fun t7 =>
 condA t7 true (
 letO (buildF Try.prog 80 []) fun t16 =>
 storeA 2 t2 t16 (fun H3 =>
 letO (some ((.int .i64 1) : AV)) fun t3 =>
 letO (loadN 2 t2 H3) fun r4 => endK (.tup [r4, t3]) H3 K) H2) (
 letO (faddr 1 (.iptr c1)) fun t18 =>
 letO (load1 t18 H2) fun t19 =>
 letO (lenA t19) fun t20 =>
 letO (binF Try.prog .eql 3 t20 (.int .i64 0)) fun t21 =>
 letO (some (t21 : AV)) fun t17 =>
 condA t17 true (
 letO (buildF Try.prog 80 []) fun t22 =>
 storeA 2 t2 t22 (fun H5 =>
 letO (some ((.int .i64 4) : AV)) fun t3 =>
 letO (loadN 2 t2 H5) fun r6 => endK (.tup [r6, t3]) H5 K) H2) (
 letO (faddr 1 (.iptr c1)) fun t24 =>
 letO (load1 t24 H2) fun t25 =>
 letO (lenA t25) fun t26 =>
 letO (binF Try.prog .gtr 3 t26 (.int .i64 10)) fun t27 =>
 letO (some (t27 : AV)) fun t23 =>
 condA t23 true (
 letO (buildF Try.prog 80 []) fun t28 =>
 storeA 2 t2 t28 (fun H7 =>
 letO (some ((.int .i64 3) : AV)) fun t3 =>
 letO (loadN 2 t2 H7) fun r8 => endK (.tup [r8, t3]) H7 K) H2) (
 letO (faddr 0 (.iptr c1)) fun t29 =>
 letO (load1 t29 H2) fun t30 =>
 letO (literalF Try.prog 22 1 [(0, (.int .i64 0))]) fun c9 =>
 letO (buildF Try.prog 80 [(0, t30), (1, (.imm 1 true c9))]) fun t32 =>
 allocA [(.int .i64 0), .nils] (fun t4 H10 =>
 storeA 2 t4 t32 (fun H11 =>
 letO (faddr 1 (.iptr c1)) fun t33 =>
 letO (load1 t33 H11) fun t34 =>
 letO (lenA t34) fun t35 =>
 letO (some ((.int .i64 0) : AV)) fun t36 =>
 true = true ∧ ∃ (I12 : List AV → Heap → Prop) (μ13 : List AV → Heap → Nat), I12 [t36] H11 ∧ ∀ L14 H15, I12 L14 H15 → -- [t36]
 letO (binF Try.prog .lss 3 (L14.getD 0 .any) t35) fun t37 =>
 condA t37 true (
 letO (some ((L14.getD 0 .any) : AV)) fun t38 =>
 letO (idx 1 t34 (L14.getD 0 .any)) fun t39 =>
 letO (load1 t39 H15) fun t40 =>
 letO (some (t38 : AV)) fun t5 =>
 letO (some (t40 : AV)) fun t6 =>
 letO (some (t6 : AV)) fun t41 =>
 letO (binF Try.prog .lss 3 t41 (.int .i64 1)) fun t42 =>
 letO (some (t42 : AV)) fun t43 =>
 letO (gval t43 false (some (t6 : AV))) fun t44 =>
 letO (gval t43 false (faddr 0 (.iptr c1))) fun t45 =>
 letO (gval t43 false (load1 t45 H15)) fun t46 =>
 letO (gval t43 false (binF Try.prog .gtr 3 t44 t46)) fun t47 =>
 letO (pickF t43 (.bool true) t47) fun t48 =>
 condA t48 true (
 letO (buildF Try.prog 80 []) fun t49 =>
 storeA 2 t2 t49 (fun H16 =>
 letO (some ((.int .i64 1) : AV)) fun t3 =>
 letO (loadN 2 t2 H16) fun r17 => endK (.tup [r17, t3]) H16 K) H15) (
 true = true ∧
 letO (faddr 1 t4) fun t50 =>
 letO (load1 t50 H15) fun t51 =>
 letO (faddr 1 t4) fun t52 =>
 letO (load1 t52 H15) fun t53 =>
 letO (some (t5 : AV)) fun t54 =>
 letO (idx 1 t53 t54) fun t55 =>
 letO (load1 t55 H15) fun t56 =>
 letO (some (t6 : AV)) fun t57 =>
 letO (binF Try.prog .add 3 t56 t57) fun t58 =>
 letO (binF Try.prog .add 3 t58 (.int .i64 1)) fun t59 =>
 letO (literalF Try.prog 22 1 [(0, t59)]) fun c18 =>
 appendA 1 8 t51 (.imm 1 true c18) (fun t61 H19 =>
 letO (faddr 1 t4) fun t62 =>
 storeA 1 t62 t61 (fun H20 =>
 letO (binF Try.prog .add 3 (L14.getD 0 .any) (.int .i64 1)) fun t63 =>
 letO (some (t63 : AV)) fun t36 =>
 I12 [t36] H20 ∧ μ13 [t36] H20 < μ13 L14 H15) H19) H15)) (
 letO (loadN 2 t4 H15) fun t64 =>
 storeA 2 t2 t64 (fun H21 =>
 letO (some ((.int .i64 0) : AV)) fun t3 =>
 letO (loadN 2 t2 H21) fun r22 => endK (.tup [r22, t3]) H21 K) H15)) H10) H2)))) H

theorem W62_ok {x0 : AV} {H : Heap} {K : AV → Heap → Prop} (h : W62 x0 H K) : ACalls Try.prog 62 [x0] H K :=
  acallsB (fn := Try.f62) (cfg := cfgOf [] [] [(13, [0, 1, 0, 4, 0, 28, 60, 0, 252, 508, 1020, 2047, 4095, 8191])] [] []) (hh := (.dir .nil (.dir (.blk (.dir .nil (.dir .nil (.dir .nil (.dir .nil (.dir .nil (.dir .nil .nil))))))) (.dir .nil (.dir (.dir .nil (.blk (.loop [36] [37, 38, 39, 40, 5, 6, 41, 42, 43, 44, 45, 46, 47, 48, 49, 3, 50, 51, 52, 53, 54, 55, 56, 57, 58, 59, 60, 61, 62, 63, 36] (.dir .nil (.dir .nil (.dir (.blk (.dir .nil (.dir (.dir .nil (.dir .nil .nil)) .nil))) .nil)))))) .nil))))) follows Try.func62 (by kernel_rfl) (Nat.le_of_ble_eq_true (by kernel_rfl)) (by kernel_rfl) h

/-- (headword.line.opened).rests -/
def W63 (x0 : AV) (H : Heap) (K : AV → Heap → Prop) : Prop :=
 letO (cellsOf? x0) fun c1 =>
 letO (some (.nils : AV)) fun t2 =>
 letO (loadN 2 (.iptr c1) H) fun t9 =>
 ACalls Try.prog 64 [t9] H fun t10 H2 =>
 letO (some (t10 : AV)) fun t3 =>
 letO (some (t3 : AV)) fun t11 =>
 makeA [(.int .i64 0), (.int .i64 0), (.int .i64 0)] 3 24 t11 t11 (fun t12 H3 =>
 letO (some (t12 : AV)) fun t4 =>
 letO (some (t3 : AV)) fun t13 =>
 letO (binF Try.prog .sub 3 t13 (.int .i64 1)) fun t14 =>
 letO (some (t14 : AV)) fun t5 =>
 true = true ∧ ∃ (I4 : List AV → Heap → Prop) (μ5 : List AV → Heap → Nat), I4 [t5] H3 ∧ ∀ L6 H7, I4 L6 H7 → -- [t5]
 letO (some ((L6.getD 0 .any) : AV)) fun t15 =>
 letO (binF Try.prog .geq 3 t15 (.int .i64 0)) fun t16 =>
 condA t16 true (
 letO (some (t3 : AV)) fun t19 =>
 letO (some (t19 : AV)) fun t6 =>
 true = true ∧ ∃ (I8 : List AV → Heap → Prop) (μ9 : List AV → Heap → Nat), I8 [t6] H7 ∧ ∀ L10 H11, I8 L10 H11 → -- [t6]
 letO (some ((L10.getD 0 .any) : AV)) fun t20 =>
 letO (some ((L6.getD 0 .any) : AV)) fun t21 =>
 letO (binF Try.prog .gtr 3 t20 t21) fun t22 =>
 condA t22 true (
 true = true ∧ ∃ J12 : List AV → Heap → Prop, (
 letO (some ((L6.getD 0 .any) : AV)) fun t25 =>
 letO (some ((L10.getD 0 .any) : AV)) fun t26 =>
 letO (buildF Try.prog 104 [(0, t25), (1, t26)]) fun t27 =>
 allocA [(.int .i64 0), (.int .i64 0)] (fun t7 H13 =>
 storeA 2 t7 t27 (fun H14 =>
 letO (loadN 2 (.iptr c1) H14) fun t28 =>
 letO (loadN 2 t7 H14) fun t29 =>
 ACalls Try.prog 81 [t28, t29] H14 fun t30 H15 =>
 letO (binF Try.prog .lss 3 t30 (.int .i64 0)) fun t31 =>
 condA t31 true (
 J12 [] H15) (
 letO (some (t3 : AV)) fun t32 =>
 letO (buildF Try.prog 87 [(0, (.int .i64 0)), (1, t32), (2, (.int .i64 1))]) fun t33 =>
 allocA [(.int .i64 0), (.int .i64 0), (.int .i64 0)] (fun t8 H16 =>
 storeA 3 t8 t33 (fun H17 =>
 true = true ∧ ∃ J18 : List AV → Heap → Prop, (
 letO (some ((L10.getD 0 .any) : AV)) fun t34 =>
 letO (some (t3 : AV)) fun t35 =>
 letO (binF Try.prog .lss 3 t34 t35) fun t36 =>
 condA t36 true (
 true = true ∧
 letO (loadN 2 (.iptr c1) Heap.none) fun t37 =>
 letO (loadN 2 t7 H17) fun t38 =>
 ∃ t39, (ACalls Try.prog 87 [t37, t38] H17 fun r h => r = t39 ∧ h = H17) ∧
 letO (some (t4 : AV)) fun t40 =>
 letO (some ((L10.getD 0 .any) : AV)) fun t41 =>
 letO (idx 3 t40 t41) fun t42 =>
 letO (faddr 0 t42) fun t43 =>
 letO (load1 t43 H17) fun t44 =>
 letO (binF Try.prog .add 3 t39 t44) fun t45 =>
 letO (some ((L10.getD 0 .any) : AV)) fun t46 =>
 letO (some (t4 : AV)) fun t47 =>
 letO (some ((L10.getD 0 .any) : AV)) fun t48 =>
 letO (idx 3 t47 t48) fun t49 =>
 letO (faddr 2 t49) fun t50 =>
 letO (load1 t50 H17) fun t51 =>
 letO (buildF Try.prog 87 [(0, t45), (1, t46), (2, t51)]) fun t52 =>
 storeA 3 t8 t52 (fun H19 =>
 J18 [] H19) H17) (
 J18 [] H17)) ∧ ∀ L20 H21, J18 L20 H21 → -- []
 true = true ∧
 letO (some (t4 : AV)) fun t54 =>
 letO (some ((L6.getD 0 .any) : AV)) fun t55 =>
 letO (idx 3 t54 t55) fun t56 =>
 letO (faddr 2 t56) fun t57 =>
 letO (load1 t57 H21) fun t58 =>
 letO (binF Try.prog .eql 3 t58 (.int .i64 0)) fun t59 =>
 letO (some (t59 : AV)) fun t60 =>
 letO (gval t60 false (faddr 0 t8)) fun t61 =>
 letO (gval t60 false (load1 t61 H21)) fun t62 =>
 letO (gval t60 false (some (t4 : AV))) fun t63 =>
 letO (gval t60 false (some ((L6.getD 0 .any) : AV))) fun t64 =>
 letO (gval t60 false (idx 3 t63 t64)) fun t65 =>
 letO (gval t60 false (faddr 0 t65)) fun t66 =>
 letO (gval t60 false (load1 t66 H21)) fun t67 =>
 letO (gval t60 false (binF Try.prog .lss 3 t62 t67)) fun t68 =>
 letO (pickF t60 (.bool true) t68) fun t69 =>
 letO (some (t69 : AV)) fun t53 =>
 condA t53 true (
 letO (some (t4 : AV)) fun t70 =>
 letO (some ((L6.getD 0 .any) : AV)) fun t71 =>
 letO (loadN 3 t8 H21) fun t72 =>
 letO (idx 3 t70 t71) fun t73 =>
 storeA 3 t73 t72 (fun H22 =>
 J12 [] H22) H21) (
 true = true ∧
 letO (faddr 0 t8) fun t75 =>
 letO (load1 t75 H21) fun t76 =>
 letO (some (t4 : AV)) fun t77 =>
 letO (some ((L6.getD 0 .any) : AV)) fun t78 =>
 letO (idx 3 t77 t78) fun t79 =>
 letO (faddr 0 t79) fun t80 =>
 letO (load1 t80 H21) fun t81 =>
 letO (binF Try.prog .eql 3 t76 t81) fun t82 =>
 letO (some (t82 : AV)) fun t74 =>
 condA t74 true (
 true = true ∧
 letO (some (t4 : AV)) fun t83 =>
 letO (some ((L6.getD 0 .any) : AV)) fun t84 =>
 letO (faddr 0 t8) fun t85 =>
 letO (load1 t85 H21) fun t86 =>
 letO (some ((L10.getD 0 .any) : AV)) fun t87 =>
 letO (some (t4 : AV)) fun t88 =>
 letO (some ((L6.getD 0 .any) : AV)) fun t89 =>
 letO (idx 3 t88 t89) fun t90 =>
 letO (faddr 2 t90) fun t91 =>
 letO (load1 t91 H21) fun t92 =>
 letO (faddr 2 t8) fun t93 =>
 letO (load1 t93 H21) fun t94 =>
 letO (binF Try.prog .add 3 t92 t94) fun t95 =>
 letO (buildF Try.prog 87 [(0, t86), (1, t87), (2, t95)]) fun t96 =>
 letO (idx 3 t83 t84) fun t97 =>
 storeA 3 t97 t96 (fun H23 =>
 J12 [] H23) H21) (
 J12 [] H21))) H16) H15)) H13) H11) ∧ ∀ L24 H25, J12 L24 H25 → -- []
 letO (some ((L10.getD 0 .any) : AV)) fun t23 =>
 letO (binF Try.prog .sub 3 t23 (.int .i64 1)) fun t24 =>
 letO (some (t24 : AV)) fun t6 =>
 I8 [t6] H25 ∧ μ9 [t6] H25 < μ9 L10 H11) (
 letO (some ((L6.getD 0 .any) : AV)) fun t17 =>
 letO (binF Try.prog .sub 3 t17 (.int .i64 1)) fun t18 =>
 letO (some (t18 : AV)) fun t5 =>
 I4 [t5] H11 ∧ μ5 [t5] H11 < μ5 L6 H7)) (
 letO (some (t4 : AV)) fun t98 =>
 letO (some (t98 : AV)) fun t2 =>
endK t2 H7 K)) H2

theorem W63_ok {x0 : AV} {H : Heap} {K : AV → Heap → Prop} (h : W63 x0 H K) : ACalls Try.prog 63 [x0] H K :=
  acallsB (fn := Try.f63) (cfg := cfgOf [] [37] [(13, [0, 0, 3, 0, 0, 24, 56, 120, 255, 0, 0, 0, 3072, 7168, 15360, 32767, 65535]), (14, [0, 0, 3, 7, 15, 31, 63, 127, 255, 127, 127, 1663, 3711, 7807, 16383, 32767, 65535]), (16, [0, 1, 0, 0, 12, 28, 60, 127, 255]), (17, [0, 0, 0, 4, 0, 0, 0, 96, 224, 480, 0, 1024, 4064, 8188, 16383, 32767])] [] []) (hh := (.dir .nil (.dir .nil (.dir .nil (.dir (.dir .nil (.blk (.loop [5] [15, 16, 19, 6, 20, 21, 22, 25, 26, 27, 7, 28, 29, 30, 31, 32, 33, 8, 34, 35, 36, 37, 38, 39, 40, 41, 42, 43, 44, 45, 46, 47, 48, 49, 50, 51, 52, 54, 55, 56, 57, 58, 59, 60, 61, 62, 63, 64, 65, 66, 67, 68, 69, 53, 70, 71, 72, 73, 75, 76, 77, 78, 79, 80, 81, 82, 74, 83, 84, 85, 86, 87, 88, 89, 90, 91, 92, 93, 94, 95, 96, 97, 23, 24, 17, 18, 5] (.dir (.dir .nil .nil) (.dir (.blk (.dir .nil (.blk (.loop [6] [20, 21, 22, 25, 26, 27, 7, 28, 29, 30, 31, 32, 33, 8, 34, 35, 36, 37, 38, 39, 40, 41, 42, 43, 44, 45, 46, 47, 48, 49, 50, 51, 52, 54, 55, 56, 57, 58, 59, 60, 61, 62, 63, 64, 65, 66, 67, 68, 69, 53, 70, 71, 72, 73, 75, 76, 77, 78, 79, 80, 81, 82, 74, 83, 84, 85, 86, 87, 88, 89, 90, 91, 92, 93, 94, 95, 96, 97, 23, 24, 6] (.dir (.dir .nil .nil) (.cut [] [25, 26, 27, 7, 28, 29, 30, 31, 32, 33, 8, 34, 35, 36, 37, 38, 39, 40, 41, 42, 43, 44, 45, 46, 47, 48, 49, 50, 51, 52, 54, 55, 56, 57, 58, 59, 60, 61, 62, 63, 64, 65, 66, 67, 68, 69, 53, 70, 71, 72, 73, 75, 76, 77, 78, 79, 80, 81, 82, 74, 83, 84, 85, 86, 87, 88, 89, 90, 91, 92, 93, 94, 95, 96, 97] (.blk (.dir .nil (.dir (.dir .nil .nil) (.dir .nil (.cut [] [34, 35, 36, 37, 38, 39, 40, 41, 42, 43, 44, 45, 46, 47, 48, 49, 50, 51, 52] (.dir .nil .nil) (.blk (.dir .nil (.dir .nil (.dir .nil .nil))))))))) .nil)))))) .nil))))) .nil))))) follows Try.func63 (by kernel_rfl) (Nat.le_of_ble_eq_true (by kernel_rfl)) (by kernel_rfl) h

/-- (headword.line.opened).n -/
def W64 (x0 : AV) (H : Heap) (K : AV → Heap → Prop) : Prop :=
 letO (cellsOf? x0) fun c1 =>
 letO (some ((.int .i64 0) : AV)) fun t2 =>
 letO (faddr 1 (.iptr c1)) fun t3 =>
 letO (load1 t3 H) fun t4 =>
 letO (lenA t4) fun t5 =>
 letO (binF Try.prog .sub 3 t5 (.int .i64 1)) fun t6 =>
 letO (some (t6 : AV)) fun t2 =>
endK t2 H K

theorem W64_ok {x0 : AV} {H : Heap} {K : AV → Heap → Prop} (h : W64 x0 H K) : ACalls Try.prog 64 [x0] H K :=
  acallsB (fn := Try.f64) (cfg := cfgOf [] [] [] [] []) (hh := (.dir .nil .nil)) follows Try.func64 (by kernel_rfl) (Nat.le_of_ble_eq_true (by kernel_rfl)) (by kernel_rfl) h

/-- (headword.line.opened).places -/
def W67 (x0 : AV) (H : Heap) (K : AV → Heap → Prop) : Prop :=
 letO (cellsOf? x0) fun c1 =>
 letO (some (.nils : AV)) fun t2 =>
 letO (loadN 2 (.iptr c1) H) fun t7 =>
 ACalls Try.prog 64 [t7] H fun t8 H2 =>
 letO (binF Try.prog .add 3 t8 (.int .i64 1)) fun t9 =>
 makeA [(.int .i64 0), (.int .i64 0)] 2 16 t9 t9 (fun t10 H3 =>
 letO (some (t10 : AV)) fun t3 =>
 letO (some ((.int .i64 1) : AV)) fun t4 =>
 true = true ∧ ∃ (I4 : List AV → Heap → Prop) (μ5 : List AV → Heap → Nat), I4 [t4] H3 ∧ ∀ L6 H7, I4 L6 H7 → -- [t4]
 letO (some ((L6.getD 0 .any) : AV)) fun t11 =>
 letO (loadN 2 (.iptr c1) H7) fun t12 =>
 ACalls Try.prog 64 [t12] H7 fun t13 H8 =>
 letO (binF Try.prog .leq 3 t11 t13) fun t14 =>
 condA t14 true (
 letO (some ((L6.getD 0 .any) : AV)) fun t17 =>
 letO (binF Try.prog .sub 3 t17 (.int .i64 1)) fun t18 =>
 letO (some (t18 : AV)) fun t5 =>
 true = true ∧ ∃ (I9 : List AV → Heap → Prop) (μ10 : List AV → Heap → Nat), I9 [t5] H8 ∧ ∀ L11 H12, I9 L11 H12 → -- [t5]
 letO (some ((L11.getD 0 .any) : AV)) fun t19 =>
 letO (binF Try.prog .geq 3 t19 (.int .i64 0)) fun t20 =>
 letO (some (t20 : AV)) fun t21 =>
 letO (gval t21 true (loadN 2 (.iptr c1) H12)) fun t22 =>
 letO (gval t21 true (some ((L11.getD 0 .any) : AV))) fun t23 =>
 letO (gval t21 true (some ((L6.getD 0 .any) : AV))) fun t24 =>
 letO (gval t21 true (buildF Try.prog 104 [(0, t23), (1, t24)])) fun t25 =>
 ∃ J13 : AV → Heap → Prop, condG t21 true (ACalls Try.prog 81 [t22, t25] H12 fun t26 H14 =>
 J13 t26 H14) (J13 (.tup []) H12) ∧ ∀ t26 H15, J13 t26 H15 →
 letO (gval t21 true (binF Try.prog .geq 3 t26 (.int .i64 0))) fun t27 =>
 letO (pickF t21 t27 (.bool false)) fun t28 =>
 condA t28 true (
 true = true ∧ ∃ J16 : List AV → Heap → Prop, (
 true = true ∧
 letO (some (t3 : AV)) fun t31 =>
 letO (some ((L11.getD 0 .any) : AV)) fun t32 =>
 letO (idx 2 t31 t32) fun t33 =>
 letO (idxArr 2 1 t33 (.int .i64 0)) fun t34 =>
 letO (load1 t34 H15) fun t35 =>
 letO (loadN 2 (.iptr c1) Heap.none) fun t36 =>
 letO (some ((L11.getD 0 .any) : AV)) fun t37 =>
 letO (some ((L6.getD 0 .any) : AV)) fun t38 =>
 letO (buildF Try.prog 104 [(0, t37), (1, t38)]) fun t39 =>
 ∃ t40, (ACalls Try.prog 87 [t36, t39] H15 fun r h => r = t40 ∧ h = H15) ∧
 letO (binF Try.prog .add 3 t35 t40) fun t41 =>
 letO (some (t41 : AV)) fun t6 =>
 letO (some ((L11.getD 0 .any) : AV)) fun t42 =>
 letO (some ((L6.getD 0 .any) : AV)) fun t43 =>
 letO (binF Try.prog .sub 3 t43 (.int .i64 1)) fun t44 =>
 letO (binF Try.prog .eql 3 t42 t44) fun t45 =>
 letO (some (t45 : AV)) fun t46 =>
 letO (gval t46 false (some (t6 : AV))) fun t47 =>
 letO (gval t46 false (some (t3 : AV))) fun t48 =>
 letO (gval t46 false (some ((L6.getD 0 .any) : AV))) fun t49 =>
 letO (gval t46 false (idx 2 t48 t49)) fun t50 =>
 letO (gval t46 false (idxArr 2 1 t50 (.int .i64 0))) fun t51 =>
 letO (gval t46 false (load1 t51 H15)) fun t52 =>
 letO (gval t46 false (binF Try.prog .leq 3 t47 t52)) fun t53 =>
 letO (pickF t46 (.bool true) t53) fun t54 =>
 condA t54 true (
 letO (some (t3 : AV)) fun t55 =>
 letO (some ((L6.getD 0 .any) : AV)) fun t56 =>
 letO (some (t6 : AV)) fun t57 =>
 letO (some ((L11.getD 0 .any) : AV)) fun t58 =>
 letO (buildF Try.prog 94 [(0, t57), (1, t58)]) fun t59 =>
 letO (idx 2 t55 t56) fun t60 =>
 storeA 2 t60 t59 (fun H17 =>
 J16 [] H17) H15) (
 J16 [] H15)) ∧ ∀ L18 H19, J16 L18 H19 → -- []
 letO (some ((L11.getD 0 .any) : AV)) fun t29 =>
 letO (binF Try.prog .sub 3 t29 (.int .i64 1)) fun t30 =>
 letO (some (t30 : AV)) fun t5 =>
 I9 [t5] H19 ∧ μ10 [t5] H19 < μ10 L11 H12) (
 letO (some ((L6.getD 0 .any) : AV)) fun t15 =>
 letO (binF Try.prog .add 3 t15 (.int .i64 1)) fun t16 =>
 letO (some (t16 : AV)) fun t4 =>
 I4 [t4] H15 ∧ μ5 [t4] H15 < μ5 L6 H7)) (
 letO (some (t3 : AV)) fun t61 =>
 letO (some (t61 : AV)) fun t2 =>
endK t2 H8 K)) H2

theorem W67_ok {x0 : AV} {H : Heap} {K : AV → Heap → Prop} (h : W67 x0 H K) : ACalls Try.prog 67 [x0] H K :=
  acallsB (fn := Try.f67) (cfg := cfgOf [] [36] [(8, [0, 0, 3, 7, 15, 0, 0, 0, 192, 480, 1023, 2047])] [] []) (hh := (.dir .nil (.dir .nil (.dir (.dir .nil (.blk (.loop [4] [11, 12, 13, 14, 17, 18, 5, 19, 20, 21, 22, 23, 24, 25, 26, 27, 28, 31, 32, 33, 34, 35, 36, 37, 38, 39, 40, 41, 6, 42, 43, 44, 45, 46, 47, 48, 49, 50, 51, 52, 53, 54, 55, 56, 57, 58, 59, 60, 29, 30, 15, 16, 4] (.dir (.dir .nil .nil) (.dir (.blk (.dir .nil (.blk (.loop [5] [19, 20, 21, 22, 23, 24, 25, 26, 27, 28, 31, 32, 33, 34, 35, 36, 37, 38, 39, 40, 41, 6, 42, 43, 44, 45, 46, 47, 48, 49, 50, 51, 52, 53, 54, 55, 56, 57, 58, 59, 60, 29, 30, 5] (.dir (.dir .nil .nil) (.cut [] [31, 32, 33, 34, 35, 36, 37, 38, 39, 40, 41, 6, 42, 43, 44, 45, 46, 47, 48, 49, 50, 51, 52, 53, 54, 55, 56, 57, 58, 59, 60] (.blk (.dir .nil (.dir .nil .nil))) .nil)))))) .nil))))) .nil)))) follows Try.func67 (by kernel_rfl) (Nat.le_of_ble_eq_true (by kernel_rfl)) (by kernel_rfl) h

/-- (headword.line.opened).bound -/
def W70 (x0 x1 : AV) (H : Heap) (K : AV → Heap → Prop) : Prop :=
 letO (cellsOf? x0) fun c1 =>
 letO (some ((.int .i64 0) : AV)) fun t4 =>
 letO (some ((.int .i64 0) : AV)) fun t5 =>
 letO (loadN 2 (.iptr c1) H) fun t11 =>
 ACalls Try.prog 64 [t11] H fun t12 H2 =>
 letO (some (t12 : AV)) fun t6 =>
 letO (some (x1 : AV)) fun t14 =>
 letO (lenA t14) fun t15 =>
 letO (some (t6 : AV)) fun t16 =>
 letO (binF Try.prog .neq 3 t15 t16) fun t17 =>
 letO (some (t17 : AV)) fun t13 =>
 condA t13 true (
 letO (some ((.int .i64 0) : AV)) fun t4 =>
 letO (some ((.int .i64 5) : AV)) fun t5 =>
endK (.tup [t4, t5]) H2 K) (
 letO (some (x1 : AV)) fun t19 =>
 ACalls Try.prog 89 [t19, (.fn 90 [])] H2 fun t20 H3 =>
 letO (some (t20 : AV)) fun t18 =>
 condA t18 true (
 letO (some ((.int .i64 0) : AV)) fun t4 =>
 letO (some ((.int .i64 1) : AV)) fun t5 =>
endK (.tup [t4, t5]) H3 K) (
 letO (some (x1 : AV)) fun t22 =>
 letO (idx 1 t22 (.int .i64 0)) fun t23 =>
 letO (load1 t23 H3) fun t24 =>
 letO (binF Try.prog .neq 3 t24 (.int .i64 0)) fun t25 =>
 letO (some (t25 : AV)) fun t21 =>
 condA t21 true (
 letO (some ((.int .i64 0) : AV)) fun t4 =>
 letO (some ((.int .i64 14) : AV)) fun t5 =>
endK (.tup [t4, t5]) H3 K) (
 letO (some ((.int .i64 20000) : AV)) fun t7 =>
 letO (some (x1 : AV)) fun t26 =>
 letO (lenA t26) fun t27 =>
 letO (some ((.int .i64 0) : AV)) fun t28 =>
 true = true ∧ ∃ (I4 : List AV → Heap → Prop) (μ5 : List AV → Heap → Nat), I4 [t7, t28] H3 ∧ ∀ L6 H7, I4 L6 H7 → -- [t7, t28]
 letO (binF Try.prog .lss 3 (L6.getD 1 .any) t27) fun t29 =>
 condA t29 true (
 letO (some ((L6.getD 1 .any) : AV)) fun t30 =>
 letO (idx 1 t26 (L6.getD 1 .any)) fun t31 =>
 letO (load1 t31 H7) fun t32 =>
 letO (some (t30 : AV)) fun t8 =>
 letO (some (t32 : AV)) fun t9 =>
 letO (some (t8 : AV)) fun t33 =>
 letO (binF Try.prog .add 3 t33 (.int .i64 1)) fun t34 =>
 letO (some (t34 : AV)) fun t10 =>
 true = true ∧ ∃ (I8 : List AV → Heap → Prop) (μ9 : List AV → Heap → Nat), I8 [(L6.getD 0 .any), t10] H7 ∧ ∀ L10 H11, I8 L10 H11 → -- [t7, t10]
 letO (some ((L10.getD 1 .any) : AV)) fun t35 =>
 letO (some (t6 : AV)) fun t36 =>
 letO (binF Try.prog .leq 3 t35 t36) fun t37 =>
 letO (some (t37 : AV)) fun t38 =>
 letO (gval t38 true (loadN 2 (.iptr c1) H11)) fun t39 =>
 letO (gval t38 true (some (t8 : AV))) fun t40 =>
 letO (gval t38 true (some ((L10.getD 1 .any) : AV))) fun t41 =>
 letO (gval t38 true (buildF Try.prog 104 [(0, t40), (1, t41)])) fun t42 =>
 ∃ J12 : AV → Heap → Prop, condG t38 true (ACalls Try.prog 81 [t39, t42] H11 fun t43 H13 =>
 J12 t43 H13) (J12 (.tup []) H11) ∧ ∀ t43 H14, J12 t43 H14 →
 letO (gval t38 true (binF Try.prog .geq 3 t43 (.int .i64 0))) fun t44 =>
 letO (pickF t38 t44 (.bool false)) fun t45 =>
 condA t45 true (
 true = true ∧ ∃ J15 : List AV → Heap → Prop, (
 letO (some ((L10.getD 1 .any) : AV)) fun t49 =>
 letO (some (t6 : AV)) fun t50 =>
 letO (binF Try.prog .eql 3 t49 t50) fun t51 =>
 letO (some (t51 : AV)) fun t48 =>
 condA t48 true (
 letO (some ((L10.getD 0 .any) : AV)) fun t52 =>
 letO (some (t9 : AV)) fun t53 =>
 letO (min2F t52 t53) fun t54 =>
 letO (some (t54 : AV)) fun t7 =>
 J15 [t7] H14) (
 true = true ∧
 letO (some (x1 : AV)) fun t56 =>
 letO (some ((L10.getD 1 .any) : AV)) fun t57 =>
 letO (idx 1 t56 t57) fun t58 =>
 letO (load1 t58 H14) fun t59 =>
 letO (some (t9 : AV)) fun t60 =>
 letO (loadN 2 (.iptr c1) Heap.none) fun t61 =>
 letO (some (t8 : AV)) fun t62 =>
 letO (some ((L10.getD 1 .any) : AV)) fun t63 =>
 letO (buildF Try.prog 104 [(0, t62), (1, t63)]) fun t64 =>
 ∃ t65, (ACalls Try.prog 87 [t61, t64] H14 fun r h => r = t65 ∧ h = H14) ∧
 letO (binF Try.prog .add 3 t60 t65) fun t66 =>
 letO (binF Try.prog .gtr 3 t59 t66) fun t67 =>
 letO (some (t67 : AV)) fun t55 =>
 condA t55 true (
 letO (some ((.int .i64 0) : AV)) fun t4 =>
 letO (some ((.int .i64 14) : AV)) fun t5 =>
endK (.tup [t4, t5]) H14 K) (
 J15 [(L10.getD 0 .any)] H14))) ∧ ∀ L16 H17, J15 L16 H17 → -- [t7]
 letO (some ((L10.getD 1 .any) : AV)) fun t46 =>
 letO (binF Try.prog .add 3 t46 (.int .i64 1)) fun t47 =>
 letO (some (t47 : AV)) fun t10 =>
 I8 [(L16.getD 0 .any), t10] H17 ∧ μ9 [(L16.getD 0 .any), t10] H17 < μ9 L10 H11) (
 letO (binF Try.prog .add 3 (L6.getD 1 .any) (.int .i64 1)) fun t68 =>
 letO (some (t68 : AV)) fun t28 =>
 I4 [(L10.getD 0 .any), t28] H14 ∧ μ5 [(L10.getD 0 .any), t28] H14 < μ5 L6 H7)) (
 letO (some ((L6.getD 0 .any) : AV)) fun t69 =>
 letO (some (t69 : AV)) fun t4 =>
 letO (some ((.int .i64 0) : AV)) fun t5 =>
endK (.tup [t4, t5]) H7 K))))

theorem W70_ok {x0 x1 : AV} {H : Heap} {K : AV → Heap → Prop} (h : W70 x0 x1 H K) : ACalls Try.prog 70 [x0, x1] H K :=
  acallsB (fn := Try.f70) (cfg := cfgOf [] [61] [(17, [0, 0, 3, 7, 0, 0, 0, 0, 192, 480, 1008, 2047, 4095])] [] []) (hh := (.dir .nil (.dir .nil (.dir (.blk (.dir .nil (.dir .nil (.dir .nil (.dir .nil (.dir .nil (.dir .nil .nil))))))) (.dir .nil (.dir (.dir .nil (.blk (.loop [7, 28] [29, 30, 31, 32, 8, 9, 33, 34, 10, 35, 36, 37, 38, 39, 40, 41, 42, 43, 44, 45, 49, 50, 51, 48, 52, 53, 54, 7, 56, 57, 58, 59, 60, 61, 62, 63, 64, 65, 66, 67, 55, 4, 5, 46, 47, 68, 28] (.dir .nil (.dir .nil (.dir (.blk (.dir .nil (.dir .nil (.blk (.loop [7, 10] [35, 36, 37, 38, 39, 40, 41, 42, 43, 44, 45, 49, 50, 51, 48, 52, 53, 54, 7, 56, 57, 58, 59, 60, 61, 62, 63, 64, 65, 66, 67, 55, 4, 5, 46, 47, 10] (.dir (.dir .nil .nil) (.cut [7] [49, 50, 51, 48, 52, 53, 54, 7, 56, 57, 58, 59, 60, 61, 62, 63, 64, 65, 66, 67, 55, 4, 5] (.blk (.blk (.dir .nil (.dir .nil (.dir .nil (.dir .nil .nil)))))) .nil))))))) .nil)))))) .nil)))))) follows Try.func70 (by kernel_rfl) (Nat.le_of_ble_eq_true (by kernel_rfl)) (by kernel_rfl) h

/-- headword.line.ended -/
def W72 (x0 x1 : AV) (H : Heap) (K : AV → Heap → Prop) : Prop :=
 letO (cellsOf? x0) fun c1 =>
 allocA [(.int .i64 0), .nils] (fun t4 H2 =>
 letO (some (.nils : AV)) fun t5 =>
 letO (some ((.int .i64 0) : AV)) fun t6 =>
 letO (loadN 2 (.iptr c1) H2) fun t14 =>
 ACalls Try.prog 62 [t14] H2 fun t15 H3 =>
 letO (some (t15 : AV)) fun t13 =>
 letO (extrF t13 0) fun t16 =>
 letO (extrF t13 1) fun t17 =>
 allocA [(.int .i64 0), .nils] (fun t7 H4 =>
 storeA 2 t7 t16 (fun H5 =>
 letO (some (t17 : AV)) fun t8 =>
 letO (some (t8 : AV)) fun t18 =>
 letO (binF Try.prog .neq 27 t18 (.int .i64 0)) fun t19 =>
 condA t19 true (
 letO (loadN 2 t7 H5) fun t20 =>
 letO (some (t8 : AV)) fun t21 =>
 storeA 2 t4 t20 (fun H6 =>
 letO (some (.nils : AV)) fun t5 =>
 letO (some (t21 : AV)) fun t6 =>
 letO (loadN 2 t4 H6) fun r7 => endK (.tup [r7, t5, t6]) H6 K) H5) (
 letO (some ((.int .i64 0) : AV)) fun t9 =>
 letO (some (x1 : AV)) fun t22 =>
 letO (lenA t22) fun t23 =>
 letO (some ((.int .i64 0) : AV)) fun t24 =>
 true = true ∧ ∃ (I8 : List AV → Heap → Prop) (μ9 : List AV → Heap → Nat), I8 [t9, t24] H5 ∧ ∀ L10 H11, I8 L10 H11 → -- [t9, t24]
 letO (binF Try.prog .lss 3 (L10.getD 1 .any) t23) fun t25 =>
 condA t25 true (
 letO (idx 1 t22 (L10.getD 1 .any)) fun t26 =>
 letO (load1 t26 H11) fun t27 =>
 letO (some (t27 : AV)) fun t11 =>
 letO (some (t11 : AV)) fun t29 =>
 letO (binF Try.prog .lss 3 t29 (.int .i64 1)) fun t30 =>
 letO (some (t30 : AV)) fun t31 =>
 letO (gval t31 false (some (t11 : AV))) fun t32 =>
 letO (gval t31 false (loadN 2 t7 H11)) fun t33 =>
 ∃ J12 : AV → Heap → Prop, condG t31 false (ACalls Try.prog 64 [t33] H11 fun t34 H13 =>
 J12 t34 H13) (J12 (.tup []) H11) ∧ ∀ t34 H14, J12 t34 H14 →
 letO (gval t31 false (binF Try.prog .gtr 3 t32 t34)) fun t35 =>
 letO (pickF t31 (.bool true) t35) fun t36 =>
 letO (some (t36 : AV)) fun t28 =>
 condA t28 true (
 letO (loadN 2 t7 H14) fun t37 =>
 storeA 2 t4 t37 (fun H15 =>
 letO (some (.nils : AV)) fun t5 =>
 letO (some ((.int .i64 2) : AV)) fun t6 =>
 letO (loadN 2 t4 H15) fun r16 => endK (.tup [r16, t5, t6]) H15 K) H14) (
 letO (some (t11 : AV)) fun t39 =>
 letO (some ((L10.getD 0 .any) : AV)) fun t40 =>
 letO (binF Try.prog .leq 3 t39 t40) fun t41 =>
 letO (some (t41 : AV)) fun t38 =>
 condA t38 true (
 letO (loadN 2 t7 H14) fun t42 =>
 storeA 2 t4 t42 (fun H17 =>
 letO (some (.nils : AV)) fun t5 =>
 letO (some ((.int .i64 7) : AV)) fun t6 =>
 letO (loadN 2 t4 H17) fun r18 => endK (.tup [r18, t5, t6]) H17 K) H14) (
 letO (some (t11 : AV)) fun t43 =>
 letO (some (t43 : AV)) fun t9 =>
 letO (binF Try.prog .add 3 (L10.getD 1 .any) (.int .i64 1)) fun t44 =>
 letO (some (t44 : AV)) fun t24 =>
 I8 [t9, t24] H14 ∧ μ9 [t9, t24] H14 < μ9 L10 H11))) (
 letO (some ((L10.getD 0 .any) : AV)) fun t45 =>
 letO (loadN 2 t7 H11) fun t46 =>
 ACalls Try.prog 64 [t46] H11 fun t47 H19 =>
 letO (binF Try.prog .neq 3 t45 t47) fun t48 =>
 condA t48 true (
 letO (loadN 2 t7 H19) fun t49 =>
 storeA 2 t4 t49 (fun H20 =>
 letO (some (.nils : AV)) fun t5 =>
 letO (some ((.int .i64 5) : AV)) fun t6 =>
 letO (loadN 2 t4 H20) fun r21 => endK (.tup [r21, t5, t6]) H20 K) H19) (
 letO (some (x1 : AV)) fun t50 =>
 ACalls Try.prog 91 [t50] H19 fun t51 H22 =>
 letO (some (t51 : AV)) fun t12 =>
 letO (some (t12 : AV)) fun t52 =>
 letO (some (AV.fn 93 [t7])) fun t53 =>
 ACalls Try.prog 92 [t52, t53] H22 fun t54 H23 =>
 condA t54 true (
 letO (loadN 2 t7 H23) fun t55 =>
 storeA 2 t4 t55 (fun H24 =>
 letO (some (.nils : AV)) fun t5 =>
 letO (some ((.int .i64 15) : AV)) fun t6 =>
 letO (loadN 2 t4 H24) fun r25 => endK (.tup [r25, t5, t6]) H24 K) H23) (
 letO (loadN 2 t7 H23) fun t56 =>
 letO (some (t12 : AV)) fun t57 =>
 storeA 2 t4 t56 (fun H26 =>
 letO (some (t57 : AV)) fun t5 =>
 letO (some ((.int .i64 0) : AV)) fun t6 =>
 letO (loadN 2 t4 H26) fun r27 => endK (.tup [r27, t5, t6]) H26 K) H23))))) H4) H3) H

theorem W72_ok {x0 x1 : AV} {H : Heap} {K : AV → Heap → Prop} (h : W72 x0 x1 H K) : ACalls Try.prog 72 [x0, x1] H K :=
  acallsB (fn := Try.f72) (cfg := cfgOf [] [] [] [] []) (hh := (.dir .nil (.dir .nil (.dir (.dir .nil (.dir .nil .nil)) (.dir .nil (.dir (.dir .nil (.blk (.loop [9, 24] [25, 26, 27, 11, 29, 30, 31, 32, 33, 34, 35, 36, 28, 37, 5, 6, 39, 40, 41, 38, 42, 43, 9, 44, 24] (.dir .nil (.dir .nil (.dir (.blk (.dir .nil (.dir (.blk (.dir .nil (.dir .nil (.dir .nil (.dir .nil .nil))))) .nil))) .nil)))))) (.dir (.dir .nil (.dir .nil .nil)) (.dir .nil (.dir (.dir .nil (.dir .nil .nil)) .nil))))))))) follows Try.func72 (by kernel_rfl) (Nat.le_of_ble_eq_true (by kernel_rfl)) (by kernel_rfl) h

/-- (headword.line.opened).cost -/
def W73 (x0 x1 : AV) (H : Heap) (K : AV → Heap → Prop) : Prop :=
 letO (cellsOf? x0) fun c1 =>
 letO (some ((.int .i64 0) : AV)) fun t4 =>
 letO (some (x1 : AV)) fun t9 =>
 letO (some (x1 : AV)) fun t10 =>
 letO (lenA t10) fun t11 =>
 letO (binF Try.prog .sub 3 t11 (.int .i64 1)) fun t12 =>
 letO (idx 2 t9 t12) fun t13 =>
 letO (loadN 2 t13 H) fun t14 =>
 allocA [(.int .i64 0), (.int .i64 0)] (fun t5 H2 =>
 storeA 2 t5 t14 (fun H3 =>
 letO (some ((.int .i64 0) : AV)) fun t6 =>
 letO (some (x1 : AV)) fun t15 =>
 letO (lenA t15) fun t16 =>
 letO (some ((.int .i64 0) : AV)) fun t17 =>
 true = true ∧ ∃ (I4 : List AV → Heap → Prop) (μ5 : List AV → Heap → Nat), I4 [t6, t17] H3 ∧ ∀ L6 H7, I4 L6 H7 → -- [t6, t17]
 letO (binF Try.prog .lss 3 (L6.getD 1 .any) t16) fun t18 =>
 condA t18 true (
 true = true ∧ ∃ J8 : List AV → Heap → Prop, (
 letO (idx 2 t15 (L6.getD 1 .any)) fun t19 =>
 letO (loadN 2 t19 H7) fun t20 =>
 allocA [(.int .i64 0), (.int .i64 0)] (fun t8 H9 =>
 storeA 2 t8 t20 (fun H10 =>
 letO (loadN 2 t8 H10) fun t21 =>
 letO (loadN 2 t5 H10) fun t22 =>
 letO (binF Try.prog .neq 104 t21 t22) fun t23 =>
 condA t23 true (
 letO (some ((L6.getD 0 .any) : AV)) fun t24 =>
 letO (loadN 2 (.iptr c1) H10) fun t25 =>
 letO (loadN 2 t8 H10) fun t26 =>
 ACalls Try.prog 87 [t25, t26] H10 fun t27 H11 =>
 letO (binF Try.prog .add 3 t24 t27) fun t28 =>
 letO (some (t28 : AV)) fun t6 =>
 J8 [t6] H11) (
 J8 [(L6.getD 0 .any)] H10)) H9) H7) ∧ ∀ L12 H13, J8 L12 H13 → -- [t6]
 letO (binF Try.prog .add 3 (L6.getD 1 .any) (.int .i64 1)) fun t29 =>
 letO (some (t29 : AV)) fun t17 =>
 I4 [(L12.getD 0 .any), t17] H13 ∧ μ5 [(L12.getD 0 .any), t17] H13 < μ5 L6 H7) (
 letO (some ((L6.getD 0 .any) : AV)) fun t30 =>
 letO (some (t30 : AV)) fun t4 =>
endK t4 H7 K)) H2) H

theorem W73_ok {x0 x1 : AV} {H : Heap} {K : AV → Heap → Prop} (h : W73 x0 x1 H K) : ACalls Try.prog 73 [x0, x1] H K :=
  acallsB (fn := Try.f73) (cfg := cfgOf [] [] [] [] []) (hh := (.dir .nil (.dir .nil (.dir .nil (.dir (.dir .nil (.blk (.loop [6, 17] [18, 19, 20, 8, 21, 22, 23, 24, 25, 26, 27, 28, 6, 29, 17] (.dir .nil (.dir .nil (.cut [6] [19, 20, 8, 21, 22, 23, 24, 25, 26, 27, 28, 6] (.blk (.dir .nil (.dir .nil .nil))) .nil)))))) .nil))))) follows Try.func73 (by kernel_rfl) (Nat.le_of_ble_eq_true (by kernel_rfl)) (by kernel_rfl) h

/-- slices.IndexFunc[[]headword.line.span,headword.line.span] -/
def W74 (x0 x1 : AV) (H : Heap) (K : AV → Heap → Prop) : Prop :=
 letO (some ((.int .i64 0) : AV)) fun t4 =>
 letO (some (x0 : AV)) fun t6 =>
 letO (lenA t6) fun t7 =>
 letO (some ((.int .i64 0) : AV)) fun t8 =>
 true = true ∧ ∃ (I1 : List AV → Heap → Prop) (μ2 : List AV → Heap → Nat), I1 [t8] H ∧ ∀ L3 H4, I1 L3 H4 → -- [t8]
 letO (binF Try.prog .lss 3 (L3.getD 0 .any) t7) fun t9 =>
 condA t9 true (
 letO (some ((L3.getD 0 .any) : AV)) fun t10 =>
 letO (some (t10 : AV)) fun t5 =>
 letO (some (x1 : AV)) fun t11 =>
 letO (some (x0 : AV)) fun t12 =>
 letO (some (t5 : AV)) fun t13 =>
 letO (idx 2 t12 t13) fun t14 =>
 letO (loadN 2 t14 H4) fun t15 =>
 callA Try.prog t11 [t15] (fun t16 H5 =>
 condA t16 true (
 letO (some (t5 : AV)) fun t17 =>
 letO (some (t17 : AV)) fun t4 =>
endK t4 H5 K) (
 letO (binF Try.prog .add 3 (L3.getD 0 .any) (.int .i64 1)) fun t18 =>
 letO (some (t18 : AV)) fun t8 =>
 I1 [t8] H5 ∧ μ2 [t8] H5 < μ2 L3 H4)) H4) (
 letO (some ((.int .i64 (-1)) : AV)) fun t4 =>
endK t4 H4 K)

theorem W74_ok {x0 x1 : AV} {H : Heap} {K : AV → Heap → Prop} (h : W74 x0 x1 H K) : ACalls Try.prog 74 [x0, x1] H K :=
  acallsB (fn := Try.f74) (cfg := cfgOf [] [] [] [] []) (hh := (.dir .nil (.dir (.dir .nil (.blk (.loop [8] [9, 10, 5, 11, 12, 13, 14, 15, 16, 17, 4, 18, 8] (.dir .nil (.dir .nil (.dir (.blk (.dir .nil (.dir .nil (.dir .nil .nil)))) .nil)))))) .nil))) follows Try.func74 (by kernel_rfl) (Nat.le_of_ble_eq_true (by kernel_rfl)) (by kernel_rfl) h

/-- headword.line.Grow$1 -/
def W75 (x0 x1 : AV) (H : Heap) (K : AV → Heap → Prop) : Prop :=
 letO (cellsOf? x0) fun c1 =>
 letO (some ((.bool false) : AV)) fun t3 =>
 letO (load1 x1 H) fun t4 =>
 letO (idxArr 2 1 (.iptr c1) (.int .i64 1)) fun t5 =>
 letO (load1 t5 H) fun t6 =>
 letO (binF Try.prog .lss 3 t4 t6) fun t7 =>
 letO (some (t7 : AV)) fun t3 =>
endK t3 H K

theorem W75_ok {x0 x1 : AV} {H : Heap} {K : AV → Heap → Prop} (h : W75 x0 x1 H K) : ACalls Try.prog 75 [x0, x1] H K :=
  acallsB (fn := Try.f75) (cfg := cfgOf [] [] [] [] []) (hh := (.dir .nil .nil)) follows Try.func75 (by kernel_rfl) (Nat.le_of_ble_eq_true (by kernel_rfl)) (by kernel_rfl) h

/-- (headword.line.opened).end -/
def W76 (x0 x1 x2 : AV) (H : Heap) (K : AV → Heap → Prop) : Prop :=
 letO (cellsOf? x0) fun c1 =>
 letO (some ((.int .i64 0) : AV)) fun t6 =>
 true = true ∧ ∃ (I2 : List AV → Heap → Prop) (μ3 : List AV → Heap → Nat), I2 [x2] H ∧ ∀ L4 H5, I2 L4 H5 → -- [t2]
 letO (loadN 2 (.iptr c1) H5) fun t7 =>
 letO (some (x1 : AV)) fun t8 =>
 letO (some ((L4.getD 0 .any) : AV)) fun t9 =>
 letO (buildF Try.prog 104 [(0, t8), (1, t9)]) fun t10 =>
 ACalls Try.prog 81 [t7, t10] H5 fun t11 H6 =>
 letO (binF Try.prog .lss 3 t11 (.int .i64 0)) fun t12 =>
 condA t12 true (
 letO (some ((L4.getD 0 .any) : AV)) fun t13 =>
 letO (binF Try.prog .sub 3 t13 (.int .i64 1)) fun t14 =>
 letO (some (t14 : AV)) fun t2 =>
 I2 [t2] H6 ∧ μ3 [t2] H6 < μ3 L4 H5) (
 letO (some ((L4.getD 0 .any) : AV)) fun t15 =>
 letO (some (t15 : AV)) fun t6 =>
endK t6 H6 K)

theorem W76_ok {x0 x1 x2 : AV} {H : Heap} {K : AV → Heap → Prop} (h : W76 x0 x1 x2 H K) : ACalls Try.prog 76 [x0, x1, x2] H K :=
  acallsB (fn := Try.f76) (cfg := cfgOf [] [] [] [] []) (hh := (.dir .nil (.dir (.blk (.loop [2] [7, 8, 9, 10, 11, 12, 13, 14, 2] (.dir (.dir .nil .nil) .nil))) .nil))) follows Try.func76 (by kernel_rfl) (Nat.le_of_ble_eq_true (by kernel_rfl)) (by kernel_rfl) h

/-- (headword.line.opened).left -/
def W81 (x0 x1 : AV) (H : Heap) (K : AV → Heap → Prop) : Prop :=
 letO (cellsOf? x0) fun c1 =>
 letO (cellsOf? x1) fun c2 =>
 letO (some ((.int .i64 0) : AV)) fun t4 =>
 true = true ∧
 letO (faddr 0 (.iptr c1)) fun t5 =>
 letO (load1 t5 Heap.none) fun t6 =>
 letO (binF Try.prog .add 3 t6 (.int .i64 1)) fun t7 =>
 letO (faddr 1 (.iptr c1)) fun t8 =>
 letO (load1 t8 Heap.none) fun t9 =>
 letO (idxArr 2 1 (.iptr c2) (.int .i64 1)) fun t10 =>
 letO (load1 t10 Heap.none) fun t11 =>
 letO (idx 1 t9 t11) fun t12 =>
 letO (load1 t12 H) fun t13 =>
 letO (faddr 1 (.iptr c1)) fun t14 =>
 letO (load1 t14 Heap.none) fun t15 =>
 letO (idxArr 2 1 (.iptr c2) (.int .i64 0)) fun t16 =>
 letO (load1 t16 Heap.none) fun t17 =>
 letO (idx 1 t15 t17) fun t18 =>
 letO (load1 t18 H) fun t19 =>
 letO (binF Try.prog .sub 3 t13 t19) fun t20 =>
 letO (binF Try.prog .sub 3 t7 t20) fun t21 =>
 letO (some (t21 : AV)) fun t4 =>
endK t4 H K

theorem W81_ok {x0 x1 : AV} {H : Heap} {K : AV → Heap → Prop} (h : W81 x0 x1 H K) : ACalls Try.prog 81 [x0, x1] H K :=
  acallsB (fn := Try.f81) (cfg := cfgOf [] [6, 9, 11, 15, 17] [(1, [0, 1, 3, 0, 8, 0, 32, 120, 248, 0, 512, 0, 2048, 7680, 15872, 32760, 65535, 131071])] [] []) (hh := (.dir .nil .nil)) follows Try.func81 (by kernel_rfl) (Nat.le_of_ble_eq_true (by kernel_rfl)) (by kernel_rfl) h

/-- (headword.line.opened).square -/
def W87 (x0 x1 : AV) (H : Heap) (K : AV → Heap → Prop) : Prop :=
 letO (cellsOf? x0) fun c1 =>
 letO (cellsOf? x1) fun c2 =>
 letO (some ((.int .i64 0) : AV)) fun t4 =>
 true = true ∧
 letO (loadN 2 (.iptr c1) Heap.none) fun t5 =>
 letO (loadN 2 (.iptr c2) Heap.none) fun t6 =>
 ∃ t7, (ACalls Try.prog 81 [t5, t6] H fun r h => r = t7 ∧ h = H) ∧
 letO (loadN 2 (.iptr c1) Heap.none) fun t8 =>
 letO (loadN 2 (.iptr c2) Heap.none) fun t9 =>
 ACalls Try.prog 81 [t8, t9] H fun t10 H3 =>
 letO (binF Try.prog .mul 3 t7 t10) fun t11 =>
 letO (some (t11 : AV)) fun t4 =>
endK t4 H3 K

theorem W87_ok {x0 x1 : AV} {H : Heap} {K : AV → Heap → Prop} (h : W87 x0 x1 H K) : ACalls Try.prog 87 [x0, x1] H K :=
  acallsB (fn := Try.f87) (cfg := cfgOf [] [5, 6, 8, 9] [(1, [0, 0, 3, 0, 0, 31, 63, 127])] [] []) (hh := (.dir .nil .nil)) follows Try.func87 (by kernel_rfl) (Nat.le_of_ble_eq_true (by kernel_rfl)) (by kernel_rfl) h

/-- slices.ContainsFunc[[]int,int] -/
def W89 (x0 x1 : AV) (H : Heap) (K : AV → Heap → Prop) : Prop :=
 letO (some ((.bool false) : AV)) fun t4 =>
 letO (some (x0 : AV)) fun t5 =>
 letO (some (x1 : AV)) fun t6 =>
 ACalls Try.prog 95 [t5, t6] H fun t7 H1 =>
 letO (binF Try.prog .geq 3 t7 (.int .i64 0)) fun t8 =>
 letO (some (t8 : AV)) fun t4 =>
endK t4 H1 K

theorem W89_ok {x0 x1 : AV} {H : Heap} {K : AV → Heap → Prop} (h : W89 x0 x1 H K) : ACalls Try.prog 89 [x0, x1] H K :=
  acallsB (fn := Try.f89) (cfg := cfgOf [] [] [] [] []) (hh := (.dir .nil .nil)) follows Try.func89 (by kernel_rfl) (Nat.le_of_ble_eq_true (by kernel_rfl)) (by kernel_rfl) h

/-- (headword.line.opened).bound$1 -/
def W90 (x0 : AV) (H : Heap) (K : AV → Heap → Prop) : Prop :=
 letO (some ((.bool false) : AV)) fun t2 =>
 letO (some (x0 : AV)) fun t3 =>
 letO (binF Try.prog .lss 3 t3 (.int .i64 0)) fun t4 =>
 letO (some (t4 : AV)) fun t5 =>
 letO (gval t5 false (some (x0 : AV))) fun t6 =>
 letO (gval t5 false (binF Try.prog .gtr 3 t6 (.int .i64 20000))) fun t7 =>
 letO (pickF t5 (.bool true) t7) fun t8 =>
 letO (some (t8 : AV)) fun t2 =>
endK t2 H K

theorem W90_ok {x0 : AV} {H : Heap} {K : AV → Heap → Prop} (h : W90 x0 H K) : ACalls Try.prog 90 [x0] H K :=
  acallsB (fn := Try.f90) (cfg := cfgOf [] [] [] [] []) (hh := (.dir .nil .nil)) follows Try.func90 (by kernel_rfl) (Nat.le_of_ble_eq_true (by kernel_rfl)) (by kernel_rfl) h

/-- headword.line.spans -/
def W91 (x0 : AV) (H : Heap) (K : AV → Heap → Prop) : Prop :=
 letO (some (.nils : AV)) fun t2 =>
 letO (some (.nils : AV)) fun t3 =>
 letO (some ((.int .i64 0) : AV)) fun t4 =>
 letO (some (x0 : AV)) fun t7 =>
 letO (lenA t7) fun t8 =>
 letO (some ((.int .i64 0) : AV)) fun t9 =>
 true = true ∧ ∃ (I1 : List AV → Heap → Prop) (μ2 : List AV → Heap → Nat), I1 [t3, t4, t9] H ∧ ∀ L3 H4, I1 L3 H4 → -- [t3, t4, t9]
 letO (binF Try.prog .lss 3 (L3.getD 2 .any) t8) fun t10 =>
 condA t10 true (
 letO (idx 1 t7 (L3.getD 2 .any)) fun t11 =>
 letO (load1 t11 H4) fun t12 =>
 letO (some (t12 : AV)) fun t6 =>
 letO (some ((L3.getD 0 .any) : AV)) fun t13 =>
 letO (some ((L3.getD 1 .any) : AV)) fun t14 =>
 letO (some (t6 : AV)) fun t15 =>
 letO (buildF Try.prog 104 [(0, t14), (1, t15)]) fun t16 =>
 letO (literalF Try.prog 99 1 [(0, t16)]) fun c5 =>
 appendA 2 16 t13 (.imm 1 true c5) (fun t18 H6 =>
 letO (some (t18 : AV)) fun t3 =>
 letO (some (t6 : AV)) fun t19 =>
 letO (some (t19 : AV)) fun t4 =>
 letO (binF Try.prog .add 3 (L3.getD 2 .any) (.int .i64 1)) fun t20 =>
 letO (some (t20 : AV)) fun t9 =>
 I1 [t3, t4, t9] H6 ∧ μ2 [t3, t4, t9] H6 < μ2 L3 H4) H4) (
 letO (some ((L3.getD 0 .any) : AV)) fun t21 =>
 letO (some (t21 : AV)) fun t2 =>
endK t2 H4 K)

theorem W91_ok {x0 : AV} {H : Heap} {K : AV → Heap → Prop} (h : W91 x0 H K) : ACalls Try.prog 91 [x0] H K :=
  acallsB (fn := Try.f91) (cfg := cfgOf [] [] [] [] []) (hh := (.dir .nil (.dir .nil (.dir .nil (.dir (.dir .nil (.blk (.loop [3, 4, 9] [10, 11, 12, 6, 13, 14, 15, 16, 17, 18, 3, 19, 4, 20, 9] (.dir .nil (.dir .nil (.dir (.blk (.dir .nil .nil)) .nil)))))) .nil))))) follows Try.func91 (by kernel_rfl) (Nat.le_of_ble_eq_true (by kernel_rfl)) (by kernel_rfl) h

/-- slices.ContainsFunc[[]headword.line.span,headword.line.span] -/
def W92 (x0 x1 : AV) (H : Heap) (K : AV → Heap → Prop) : Prop :=
 letO (some ((.bool false) : AV)) fun t4 =>
 letO (some (x0 : AV)) fun t5 =>
 letO (some (x1 : AV)) fun t6 =>
 ACalls Try.prog 74 [t5, t6] H fun t7 H1 =>
 letO (binF Try.prog .geq 3 t7 (.int .i64 0)) fun t8 =>
 letO (some (t8 : AV)) fun t4 =>
endK t4 H1 K

theorem W92_ok {x0 x1 : AV} {H : Heap} {K : AV → Heap → Prop} (h : W92 x0 x1 H K) : ACalls Try.prog 92 [x0, x1] H K :=
  acallsB (fn := Try.f92) (cfg := cfgOf [] [] [] [] []) (hh := (.dir .nil .nil)) follows Try.func92 (by kernel_rfl) (Nat.le_of_ble_eq_true (by kernel_rfl)) (by kernel_rfl) h

/-- headword.line.ended$1 -/
def W93 (x0 x1 : AV) (H : Heap) (K : AV → Heap → Prop) : Prop :=
 letO (cellsOf? x0) fun c1 =>
 letO (some ((.bool false) : AV)) fun t3 =>
 letO (loadN 2 x1 H) fun t4 =>
 letO (loadN 2 (.iptr c1) H) fun t5 =>
 ACalls Try.prog 81 [t4, t5] H fun t6 H2 =>
 letO (binF Try.prog .lss 3 t6 (.int .i64 0)) fun t7 =>
 letO (some (t7 : AV)) fun t3 =>
endK t3 H2 K

theorem W93_ok {x0 x1 : AV} {H : Heap} {K : AV → Heap → Prop} (h : W93 x0 x1 H K) : ACalls Try.prog 93 [x0, x1] H K :=
  acallsB (fn := Try.f93) (cfg := cfgOf [] [] [] [] []) (hh := (.dir .nil .nil)) follows Try.func93 (by kernel_rfl) (Nat.le_of_ble_eq_true (by kernel_rfl)) (by kernel_rfl) h

/-- slices.IndexFunc[[]int,int] -/
def W95 (x0 x1 : AV) (H : Heap) (K : AV → Heap → Prop) : Prop :=
 letO (some ((.int .i64 0) : AV)) fun t4 =>
 letO (some (x0 : AV)) fun t6 =>
 letO (lenA t6) fun t7 =>
 letO (some ((.int .i64 0) : AV)) fun t8 =>
 true = true ∧ ∃ (I1 : List AV → Heap → Prop) (μ2 : List AV → Heap → Nat), I1 [t8] H ∧ ∀ L3 H4, I1 L3 H4 → -- [t8]
 letO (binF Try.prog .lss 3 (L3.getD 0 .any) t7) fun t9 =>
 condA t9 true (
 letO (some ((L3.getD 0 .any) : AV)) fun t10 =>
 letO (some (t10 : AV)) fun t5 =>
 letO (some (x1 : AV)) fun t11 =>
 letO (some (x0 : AV)) fun t12 =>
 letO (some (t5 : AV)) fun t13 =>
 letO (idx 1 t12 t13) fun t14 =>
 letO (load1 t14 H4) fun t15 =>
 callA Try.prog t11 [t15] (fun t16 H5 =>
 condA t16 true (
 letO (some (t5 : AV)) fun t17 =>
 letO (some (t17 : AV)) fun t4 =>
endK t4 H5 K) (
 letO (binF Try.prog .add 3 (L3.getD 0 .any) (.int .i64 1)) fun t18 =>
 letO (some (t18 : AV)) fun t8 =>
 I1 [t8] H5 ∧ μ2 [t8] H5 < μ2 L3 H4)) H4) (
 letO (some ((.int .i64 (-1)) : AV)) fun t4 =>
endK t4 H4 K)

theorem W95_ok {x0 x1 : AV} {H : Heap} {K : AV → Heap → Prop} (h : W95 x0 x1 H K) : ACalls Try.prog 95 [x0, x1] H K :=
  acallsB (fn := Try.f95) (cfg := cfgOf [] [] [] [] []) (hh := (.dir .nil (.dir (.dir .nil (.blk (.loop [8] [9, 10, 5, 11, 12, 13, 14, 15, 16, 17, 4, 18, 8] (.dir .nil (.dir .nil (.dir (.blk (.dir .nil (.dir .nil (.dir .nil .nil)))) .nil)))))) .nil))) follows Try.func95 (by kernel_rfl) (Nat.le_of_ble_eq_true (by kernel_rfl)) (by kernel_rfl) h


end Go.Proofs.Ytlajhbpkogekfaa
