import Derived.Test.YtlajhbpkogekfaaCon
/- The functions of the statement LineGrows that the line package does not hold, each in the words of its walk; made by program. -/
set_option linter.unusedVariables false
set_option maxRecDepth 100000
namespace Go.Proofs.Ytlajhbpkogekfaa
open Go.Av
/-- headword.headwordlaw13.LineGrows -/
def W5 (x0 x1 x2 x3 : AV) (H : Heap) (K : AV → Heap → Prop) : Prop :=
 letO (cellsOf? x0) fun c1 =>
 letO (some ((.bool false) : AV)) fun t8 =>
 letO (faddr 1 (.iptr c1)) fun t15 =>
 letO (load1 t15 H) fun t16 =>
 letO (lenA t16) fun t17 =>
 letO (binF Try.prog .gtr 3 t17 (.int .i64 40)) fun t18 =>
 letO (some (t18 : AV)) fun t19 =>
 letO (gval t19 false (some (x1 : AV))) fun t20 =>
 letO (gval t19 false (lenA t20)) fun t21 =>
 letO (gval t19 false (binF Try.prog .gtr 3 t21 (.int .i64 40))) fun t22 =>
 letO (pickF t19 (.bool true) t22) fun t23 =>
 condA t23 true (
 ACalls Try.prog 16 [] H fun t24 H2 =>
 letO (some (t24 : AV)) fun t8 =>
endK t8 H2 K) (
 letO (loadN 2 (.iptr c1) H) fun t26 =>
 letO (some (x1 : AV)) fun t27 =>
 letO (some (x2 : AV)) fun t28 =>
 letO (some (x3 : AV)) fun t29 =>
 ACalls Try.prog 32 [t26, t27, t28, t29] H fun t30 H3 =>
 letO (some (t30 : AV)) fun t25 =>
 letO (extrF t25 0) fun t31 =>
 letO (extrF t25 1) fun t32 =>
 letO (extrF t25 2) fun t33 =>
 letO (some (t31 : AV)) fun t9 =>
 letO (some (t32 : AV)) fun t10 =>
 letO (some (t33 : AV)) fun t11 =>
 letO (loadN 2 (.iptr c1) H3) fun t35 =>
 letO (some (x1 : AV)) fun t36 =>
 letO (some (x2 : AV)) fun t37 =>
 letO (some (x3 : AV)) fun t38 =>
 ACalls Try.prog 33 [t35, t36, t37, t38] H3 fun t39 H4 =>
 letO (some (t39 : AV)) fun t34 =>
 letO (extrF t34 0) fun t40 =>
 letO (extrF t34 1) fun t41 =>
 letO (extrF t34 2) fun t42 =>
 letO (some (t40 : AV)) fun t12 =>
 letO (some (t41 : AV)) fun t13 =>
 letO (some (t42 : AV)) fun t14 =>
 letO (some (t9 : AV)) fun t43 =>
 letO (some (t12 : AV)) fun t44 =>
 ACalls Try.prog 25 [t43, t44] H4 fun t45 H5 =>
 letO (some (t45 : AV)) fun t46 =>
 letO (gval t46 true (some (t10 : AV))) fun t47 =>
 letO (gval t46 true (some (t13 : AV))) fun t48 =>
 letO (gval t46 true (binF Try.prog .eql 3 t47 t48)) fun t49 =>
 letO (pickF t46 t49 (.bool false)) fun t50 =>
 letO (some (t50 : AV)) fun t51 =>
 letO (gval t51 true (some (t11 : AV))) fun t52 =>
 letO (gval t51 true (some (t14 : AV))) fun t53 =>
 letO (gval t51 true (binF Try.prog .eql 27 t52 t53)) fun t54 =>
 letO (pickF t51 t54 (.bool false)) fun t55 =>
 letO (some (t55 : AV)) fun t56 =>
 ∃ J6 : AV → Heap → Prop, condG t56 true (ACalls Try.prog 16 [] H5 fun t57 H7 =>
 J6 t57 H7) (J6 (.tup []) H5) ∧ ∀ t57 H8, J6 t57 H8 →
 letO (pickF t56 t57 (.bool false)) fun t58 =>
 letO (some (t58 : AV)) fun t8 =>
endK t8 H8 K)

theorem W5_ok {x0 x1 x2 x3 : AV} {H : Heap} {K : AV → Heap → Prop} (h : W5 x0 x1 x2 x3 H K) : ACalls Try.prog 5 [x0, x1, x2, x3] H K :=
  acallsB (fn := Try.f5) (cfg := cfgOf [] [] [] [] []) (hh := (.dir .nil (.dir (.dir .nil (.dir .nil .nil)) (.dir .nil (.dir .nil .nil))))) follows Try.func5 (by kernel_rfl) (Nat.le_of_ble_eq_true (by kernel_rfl)) (by kernel_rfl) h

/-- headword.headwordref13.Grow -/
def W33 (x0 x1 x2 x3 : AV) (H : Heap) (K : AV → Heap → Prop) : Prop :=
 letO (cellsOf? x0) fun c1 => allocA c1 (fun t4 H2 =>
 letO (some (.nils : AV)) fun t8 =>
 letO (some ((.int .i64 0) : AV)) fun t9 =>
 letO (some ((.int .i64 0) : AV)) fun t10 =>
 letO (loadN 2 t4 H2) fun t20 =>
 letO (some (x1 : AV)) fun t21 =>
 ACalls Try.prog 52 [t20, t21] H2 fun t22 H3 =>
 letO (some (t22 : AV)) fun t11 =>
 true = true ∧ ∃ J4 : List AV → Heap → Prop, (
 letO (some (t11 : AV)) fun t23 =>
 letO (binF Try.prog .eql 27 t23 (.int .i64 0)) fun t24 =>
 letO (some (t24 : AV)) fun t25 =>
 letO (gval t25 true (some (x2 : AV))) fun t26 =>
 letO (gval t25 true (faddr 1 t4)) fun t27 =>
 letO (gval t25 true (load1 t27 H3)) fun t28 =>
 letO (gval t25 true (lenA t28)) fun t29 =>
 letO (gval t25 true (binF Try.prog .sub 3 t29 (.int .i64 1))) fun t30 =>
 ∃ J5 : AV → Heap → Prop, condG t25 true (ACalls Try.prog 77 [t26, (.int .i64 0), t30] H3 fun t31 H6 =>
 J5 t31 H6) (J5 (.tup []) H3) ∧ ∀ t31 H7, J5 t31 H7 →
 letO (gval t25 true (unF .not t31)) fun t32 =>
 letO (pickF t25 t32 (.bool false)) fun t33 =>
 condA t33 true (
 letO (some ((.int .i64 2) : AV)) fun t11 =>
 J4 [t11] H7) (
 J4 [t11] H7)) ∧ ∀ L8 H9, J4 L8 H9 → -- [t11]
 true = true ∧ ∃ J10 : List AV → Heap → Prop, (
 letO (some ((L8.getD 0 .any) : AV)) fun t34 =>
 letO (binF Try.prog .eql 27 t34 (.int .i64 0)) fun t35 =>
 letO (some (t35 : AV)) fun t36 =>
 letO (gval t36 true (some (x3 : AV))) fun t37 =>
 ∃ J11 : AV → Heap → Prop, condG t36 true (ACalls Try.prog 77 [t37, (.int .i64 1), (.int .i64 40)] H9 fun t38 H12 =>
 J11 t38 H12) (J11 (.tup []) H9) ∧ ∀ t38 H13, J11 t38 H13 →
 letO (gval t36 true (unF .not t38)) fun t39 =>
 letO (pickF t36 t39 (.bool false)) fun t40 =>
 condA t40 true (
 letO (some ((.int .i64 1) : AV)) fun t11 =>
 J10 [t11] H13) (
 J10 [(L8.getD 0 .any)] H13)) ∧ ∀ L14 H15, J10 L14 H15 → -- [t11]
 true = true ∧ ∃ J16 : List AV → Heap → Prop, (
 true = true ∧
 letO (some ((L14.getD 0 .any) : AV)) fun t41 =>
 letO (binF Try.prog .eql 27 t41 (.int .i64 0)) fun t42 =>
 letO (some (t42 : AV)) fun t43 =>
 letO (gval t43 true (faddr 1 t4)) fun t44 =>
 letO (gval t43 true (load1 t44 H15)) fun t45 =>
 letO (gval t43 true (some (x2 : AV))) fun t46 =>
 letO (gval t43 true (idx 1 t45 t46)) fun t47 =>
 letO (gval t43 true (load1 t47 H15)) fun t48 =>
 letO (gval t43 true (some (x3 : AV))) fun t49 =>
 letO (gval t43 true (binF Try.prog .add 3 t48 t49)) fun t50 =>
 letO (gval t43 true (faddr 0 t4)) fun t51 =>
 letO (gval t43 true (load1 t51 H15)) fun t52 =>
 letO (gval t43 true (binF Try.prog .gtr 3 t50 t52)) fun t53 =>
 letO (pickF t43 t53 (.bool false)) fun t54 =>
 condA t54 true (
 letO (some ((.int .i64 12) : AV)) fun t11 =>
 J16 [t11] H15) (
 J16 [(L14.getD 0 .any)] H15)) ∧ ∀ L17 H18, J16 L17 H18 → -- [t11]
 letO (some ((L17.getD 0 .any) : AV)) fun t55 =>
 letO (binF Try.prog .neq 27 t55 (.int .i64 0)) fun t56 =>
 condA t56 true (
 letO (some ((L17.getD 0 .any) : AV)) fun t57 =>
 letO (some (.nils : AV)) fun t8 =>
 letO (some ((.int .i64 0) : AV)) fun t9 =>
 letO (some (t57 : AV)) fun t10 =>
endK (.tup [t8, t9, t10]) H18 K) (
 letO (literalF Try.prog 22 0 []) fun c19 =>
 letO (faddr 1 t4) fun t59 =>
 letO (load1 t59 H18) fun t60 =>
 appendA 1 8 (.imm 0 true c19) t60 (fun t61 H20 =>
 letO (faddr 1 t4) fun t62 =>
 storeA 1 t62 t61 (fun H21 =>
 letO (faddr 1 t4) fun t63 =>
 letO (load1 t63 H21) fun t64 =>
 letO (some (x2 : AV)) fun t65 =>
 letO (idx 1 t64 t65) fun t66 =>
 letO (load1 t66 H21) fun t67 =>
 letO (some (x3 : AV)) fun t68 =>
 letO (binF Try.prog .add 3 t67 t68) fun t69 =>
 letO (idx 1 t64 t65) fun t70 =>
 storeA 1 t70 t69 (fun H22 =>
 letO (some (.nils : AV)) fun t12 =>
 letO (some ((.int .i64 0) : AV)) fun t13 =>
 letO (some ((.int .i64 0) : AV)) fun t14 =>
 true = true ∧ ∃ (I23 : List AV → Heap → Prop) (μ24 : List AV → Heap → Nat), I23 [t13, t12, t14] H22 ∧ ∀ L25 H26, I23 L25 H26 → -- [t13, t12, t14]
 letO (some ((L25.getD 2 .any) : AV)) fun t71 =>
 letO (some (x1 : AV)) fun t72 =>
 letO (lenA t72) fun t73 =>
 letO (binF Try.prog .lss 3 t71 t73) fun t74 =>
 condA t74 true (
 letO (some (.nils : AV)) fun t15 =>
 letO (some (x1 : AV)) fun t77 =>
 letO (some ((L25.getD 2 .any) : AV)) fun t78 =>
 ACalls Try.prog 78 [t77, t78] H26 fun t79 H27 =>
 letO (some (t79 : AV)) fun t16 =>
 true = true ∧ ∃ (I28 : List AV → Heap → Prop) (μ29 : List AV → Heap → Nat), I28 [t15, (L25.getD 0 .any), t16] H27 ∧ ∀ L30 H31, I28 L30 H31 → -- [t15, t13, t16]
 letO (some ((L30.getD 2 .any) : AV)) fun t80 =>
 letO (some (x1 : AV)) fun t81 =>
 letO (some ((L25.getD 2 .any) : AV)) fun t82 =>
 letO (idx 1 t81 t82) fun t83 =>
 letO (load1 t83 H31) fun t84 =>
 letO (binF Try.prog .lss 3 t80 t84) fun t85 =>
 condA t85 true (
 true = true ∧ ∃ J32 : List AV → Heap → Prop, (
 letO (some ((L30.getD 0 .any) : AV)) fun t88 =>
 letO (some ((L30.getD 2 .any) : AV)) fun t89 =>
 letO (literalF Try.prog 22 1 [(0, t89)]) fun c33 =>
 appendA 1 8 t88 (.imm 1 true c33) (fun t91 H34 =>
 letO (some (t91 : AV)) fun t15 =>
 letO (some ((L30.getD 2 .any) : AV)) fun t92 =>
 letO (some (x2 : AV)) fun t93 =>
 letO (binF Try.prog .eql 3 t92 t93) fun t94 =>
 condA t94 true (
 letO (some ((L25.getD 2 .any) : AV)) fun t95 =>
 letO (some (t95 : AV)) fun t13 =>
 J32 [t15, t13] H34) (
 J32 [t15, (L30.getD 1 .any)] H34)) H31) ∧ ∀ L35 H36, J32 L35 H36 → -- [t15, t13]
 letO (some ((L30.getD 2 .any) : AV)) fun t86 =>
 letO (binF Try.prog .add 3 t86 (.int .i64 1)) fun t87 =>
 letO (some (t87 : AV)) fun t16 =>
 I28 [(L35.getD 0 .any), (L35.getD 1 .any), t16] H36 ∧ μ29 [(L35.getD 0 .any), (L35.getD 1 .any), t16] H36 < μ29 L30 H31) (
 letO (some ((L25.getD 1 .any) : AV)) fun t96 =>
 letO (some ((L30.getD 0 .any) : AV)) fun t97 =>
 letO (literalF Try.prog 88 1 [(0, t97)]) fun c37 =>
 appendA 1 24 t96 (.imm 1 true c37) (fun t99 H38 =>
 letO (some (t99 : AV)) fun t12 =>
 letO (some ((L25.getD 2 .any) : AV)) fun t75 =>
 letO (binF Try.prog .add 3 t75 (.int .i64 1)) fun t76 =>
 letO (some (t76 : AV)) fun t14 =>
 I23 [(L30.getD 1 .any), t12, t14] H38 ∧ μ24 [(L30.getD 1 .any), t12, t14] H38 < μ24 L25 H26) H31)) (
 true = true ∧ ∃ (I39 : List AV → Heap → Prop) (μ40 : List AV → Heap → Nat), I39 [(L25.getD 1 .any), (L25.getD 0 .any)] H26 ∧ ∀ L41 H42, I39 L41 H42 → -- [t12, t13]
 true = true ∧
 letO (loadN 2 t4 H42) fun t100 =>
 letO (some ((L41.getD 0 .any) : AV)) fun t101 =>
 letO (some ((L41.getD 1 .any) : AV)) fun t102 =>
 letO (idx 1 t101 t102) fun t103 =>
 letO (load1 t103 H42) fun t104 =>
 letO (idx 1 t104 (.int .i64 0)) fun t105 =>
 letO (load1 t105 H42) fun t106 =>
 letO (some ((L41.getD 0 .any) : AV)) fun t107 =>
 letO (some ((L41.getD 1 .any) : AV)) fun t108 =>
 letO (idx 1 t107 t108) fun t109 =>
 letO (load1 t109 H42) fun t110 =>
 letO (some ((L41.getD 0 .any) : AV)) fun t111 =>
 letO (some ((L41.getD 1 .any) : AV)) fun t112 =>
 letO (idx 1 t111 t112) fun t113 =>
 letO (load1 t113 H42) fun t114 =>
 letO (lenA t114) fun t115 =>
 letO (binF Try.prog .sub 3 t115 (.int .i64 1)) fun t116 =>
 letO (idx 1 t110 t116) fun t117 =>
 letO (load1 t117 H42) fun t118 =>
 letO (binF Try.prog .add 3 t118 (.int .i64 1)) fun t119 =>
 ACalls Try.prog 79 [t100, t106, t119] H42 fun t120 H43 =>
 letO (binF Try.prog .lss 3 t120 (.int .i64 0)) fun t121 =>
 condA t121 true (
 true = true ∧ ∃ J44 : List AV → Heap → Prop, (
 letO (some ((L41.getD 1 .any) : AV)) fun t122 =>
 letO (binF Try.prog .add 3 t122 (.int .i64 1)) fun t123 =>
 letO (some ((L41.getD 0 .any) : AV)) fun t124 =>
 letO (lenA t124) fun t125 =>
 letO (binF Try.prog .eql 3 t123 t125) fun t126 =>
 condA t126 true (
 letO (some ((L41.getD 0 .any) : AV)) fun t127 =>
 letO (literalF Try.prog 88 1 [(0, .nils)]) fun c45 =>
 appendA 1 24 t127 (.imm 1 true c45) (fun t129 H46 =>
 letO (some (t129 : AV)) fun t12 =>
 J44 [t12] H46) H43) (
 J44 [(L41.getD 0 .any)] H43)) ∧ ∀ L47 H48, J44 L47 H48 → -- [t12]
 true = true ∧ ∃ (I49 : List AV → Heap → Prop) (μ50 : List AV → Heap → Nat), I49 [] H48 ∧ ∀ L51 H52, I49 L51 H52 → -- []
 true = true ∧
 letO (loadN 2 t4 H52) fun t130 =>
 letO (some ((L47.getD 0 .any) : AV)) fun t131 =>
 letO (some ((L41.getD 1 .any) : AV)) fun t132 =>
 letO (idx 1 t131 t132) fun t133 =>
 letO (load1 t133 H52) fun t134 =>
 letO (idx 1 t134 (.int .i64 0)) fun t135 =>
 letO (load1 t135 H52) fun t136 =>
 letO (some ((L47.getD 0 .any) : AV)) fun t137 =>
 letO (some ((L41.getD 1 .any) : AV)) fun t138 =>
 letO (idx 1 t137 t138) fun t139 =>
 letO (load1 t139 H52) fun t140 =>
 letO (some ((L47.getD 0 .any) : AV)) fun t141 =>
 letO (some ((L41.getD 1 .any) : AV)) fun t142 =>
 letO (idx 1 t141 t142) fun t143 =>
 letO (load1 t143 H52) fun t144 =>
 letO (lenA t144) fun t145 =>
 letO (binF Try.prog .sub 3 t145 (.int .i64 1)) fun t146 =>
 letO (idx 1 t140 t146) fun t147 =>
 letO (load1 t147 H52) fun t148 =>
 letO (binF Try.prog .add 3 t148 (.int .i64 1)) fun t149 =>
 ACalls Try.prog 79 [t130, t136, t149] H52 fun t150 H53 =>
 letO (binF Try.prog .lss 3 t150 (.int .i64 0)) fun t151 =>
 condA t151 true (
 letO (some ((L47.getD 0 .any) : AV)) fun t152 =>
 letO (some ((L41.getD 1 .any) : AV)) fun t153 =>
 letO (idx 1 t152 t153) fun t154 =>
 letO (load1 t154 H53) fun t155 =>
 letO (lenA t155) fun t156 =>
 letO (binF Try.prog .sub 3 t156 (.int .i64 1)) fun t157 =>
 letO (some (t157 : AV)) fun t17 =>
 true = true ∧
 letO (some ((L47.getD 0 .any) : AV)) fun t158 =>
 letO (some ((L41.getD 1 .any) : AV)) fun t159 =>
 letO (binF Try.prog .add 3 t159 (.int .i64 1)) fun t160 =>
 letO (some ((L47.getD 0 .any) : AV)) fun t161 =>
 letO (some ((L41.getD 1 .any) : AV)) fun t162 =>
 letO (idx 1 t161 t162) fun t163 =>
 letO (load1 t163 H53) fun t164 =>
 letO (some (t17 : AV)) fun t165 =>
 letO (idx 1 t164 t165) fun t166 =>
 letO (load1 t166 H53) fun t167 =>
 letO (literalF Try.prog 22 1 [(0, t167)]) fun c54 =>
 letO (some ((L47.getD 0 .any) : AV)) fun t169 =>
 letO (some ((L41.getD 1 .any) : AV)) fun t170 =>
 letO (binF Try.prog .add 3 t170 (.int .i64 1)) fun t171 =>
 letO (idx 1 t169 t171) fun t172 =>
 letO (load1 t172 H53) fun t173 =>
 isRef (.imm 1 true c54) = false ∧ appendA 1 8 (.imm 1 true c54) t173 (fun t174 H55 =>
 letO (idx 1 t158 t160) fun t175 =>
 storeA 1 t175 t174 (fun H56 =>
 letO (some ((L47.getD 0 .any) : AV)) fun t176 =>
 letO (some ((L41.getD 1 .any) : AV)) fun t177 =>
 letO (some ((L47.getD 0 .any) : AV)) fun t178 =>
 letO (some ((L41.getD 1 .any) : AV)) fun t179 =>
 letO (idx 1 t178 t179) fun t180 =>
 letO (load1 t180 H56) fun t181 =>
 letO (some (t17 : AV)) fun t182 =>
 letO (slc 1 t181 none (some t182) none) fun t183 =>
 letO (idx 1 t176 t177) fun t184 =>
 storeA 1 t184 t183 (fun H57 =>
 I49 [] H57 ∧ μ50 [] H57 < μ50 L51 H52) H56) H55) H53) (
 letO (some ((L41.getD 1 .any) : AV)) fun t185 =>
 letO (binF Try.prog .add 3 t185 (.int .i64 1)) fun t186 =>
 letO (some (t186 : AV)) fun t13 =>
 I39 [(L47.getD 0 .any), t13] H53 ∧ μ40 [(L47.getD 0 .any), t13] H53 < μ40 L41 H42)) (
 letO (some (.nils : AV)) fun t18 =>
 letO (some ((.int .i64 0) : AV)) fun t19 =>
 true = true ∧ ∃ (I58 : List AV → Heap → Prop) (μ59 : List AV → Heap → Nat), I58 [t18, t19] H43 ∧ ∀ L60 H61, I58 L60 H61 → -- [t18, t19]
 letO (some ((L60.getD 1 .any) : AV)) fun t187 =>
 letO (some ((L41.getD 0 .any) : AV)) fun t188 =>
 letO (lenA t188) fun t189 =>
 letO (binF Try.prog .lss 3 t187 t189) fun t190 =>
 condA t190 true (
 true = true ∧
 letO (some ((L60.getD 0 .any) : AV)) fun t193 =>
 letO (some ((L41.getD 0 .any) : AV)) fun t194 =>
 letO (some ((L60.getD 1 .any) : AV)) fun t195 =>
 letO (idx 1 t194 t195) fun t196 =>
 letO (load1 t196 H61) fun t197 =>
 letO (some ((L41.getD 0 .any) : AV)) fun t198 =>
 letO (some ((L60.getD 1 .any) : AV)) fun t199 =>
 letO (idx 1 t198 t199) fun t200 =>
 letO (load1 t200 H61) fun t201 =>
 letO (lenA t201) fun t202 =>
 letO (binF Try.prog .sub 3 t202 (.int .i64 1)) fun t203 =>
 letO (idx 1 t197 t203) fun t204 =>
 letO (load1 t204 H61) fun t205 =>
 letO (binF Try.prog .add 3 t205 (.int .i64 1)) fun t206 =>
 letO (literalF Try.prog 22 1 [(0, t206)]) fun c62 =>
 appendA 1 8 t193 (.imm 1 true c62) (fun t208 H63 =>
 letO (some (t208 : AV)) fun t18 =>
 letO (some ((L60.getD 1 .any) : AV)) fun t191 =>
 letO (binF Try.prog .add 3 t191 (.int .i64 1)) fun t192 =>
 letO (some (t192 : AV)) fun t19 =>
 I58 [t18, t19] H63 ∧ μ59 [t18, t19] H63 < μ59 L60 H61) H61) (
 letO (some ((L60.getD 0 .any) : AV)) fun t209 =>
 letO (some ((L41.getD 1 .any) : AV)) fun t210 =>
 letO (some (t209 : AV)) fun t8 =>
 letO (some (t210 : AV)) fun t9 =>
 letO (some ((.int .i64 0) : AV)) fun t10 =>
endK (.tup [t8, t9, t10]) H61 K)))) H21) H20) H18)) H

theorem W33_ok {x0 x1 x2 x3 : AV} {H : Heap} {K : AV → Heap → Prop} (h : W33 x0 x1 x2 x3 H K) : ACalls Try.prog 33 [x0, x1, x2, x3] H K :=
  acallsB (fn := Try.f33) (cfg := cfgOf [4] [] [(6, [0, 1, 3, 7, 15, 7, 63, 127, 7, 511, 7, 1031, 4095, 8191]), (25, [0, 0, 0, 6, 14, 30, 62, 0, 0, 384, 896, 0, 0, 6144, 14336, 30720, 63488, 130944, 262016, 524160, 1048575, 2097151]), (28, [0, 0, 0, 6, 14, 30, 62, 0, 0, 384, 896, 0, 0, 6144, 14336, 30720, 63488, 130944, 262016, 524160, 1048575, 2097151]), (30, [0, 0, 2, 0, 0, 24, 56, 0, 248, 504, 1016, 0, 0, 4096, 14336, 30720, 65528, 131071, 262143]), (37, [0, 0, 0, 6, 14, 0, 0, 96, 224, 480, 992, 2046, 4094, 8190, 16382, 32767, 65535])] [174] []) (hh := (.dir .nil (.dir .nil (.cut [11] [23, 24, 25, 26, 27, 28, 29, 30, 31, 32, 33, 11] (.dir .nil .nil) (.cut [11] [34, 35, 36, 37, 38, 39, 40, 11] (.dir .nil .nil) (.cut [11] [41, 42, 43, 44, 45, 46, 47, 48, 49, 50, 51, 52, 53, 54, 11] (.dir .nil .nil) (.dir (.dir .nil (.dir .nil .nil)) (.dir .nil (.dir .nil (.dir .nil (.dir .nil (.dir (.dir .nil (.blk (.loop [13, 12, 14] [71, 72, 73, 74, 15, 77, 78, 79, 16, 80, 81, 82, 83, 84, 85, 88, 89, 90, 91, 92, 93, 94, 95, 13, 86, 87, 96, 97, 98, 99, 12, 75, 76, 14] (.dir (.dir .nil .nil) (.dir (.blk (.dir .nil (.dir (.dir .nil (.blk (.loop [15, 13, 16] [80, 81, 82, 83, 84, 85, 88, 89, 90, 91, 15, 92, 93, 94, 95, 13, 86, 87, 16] (.dir (.dir .nil .nil) (.cut [15, 13] [88, 89, 90, 91, 15, 92, 93, 94, 95, 13] (.blk (.dir .nil (.dir .nil .nil))) .nil))))) .nil))) .nil))))) (.dir (.blk (.loop [12, 13] [100, 101, 102, 103, 104, 105, 106, 107, 108, 109, 110, 111, 112, 113, 114, 115, 116, 117, 118, 119, 120, 121, 122, 123, 124, 125, 126, 127, 128, 129, 12, 130, 131, 132, 133, 134, 135, 136, 137, 138, 139, 140, 141, 142, 143, 144, 145, 146, 147, 148, 149, 150, 151, 152, 153, 154, 155, 156, 157, 17, 158, 159, 160, 161, 162, 163, 164, 165, 166, 167, 168, 169, 170, 171, 172, 173, 174, 175, 176, 177, 178, 179, 180, 181, 182, 183, 184, 185, 186, 13] (.dir (.dir .nil .nil) (.blk (.cut [12] [122, 123, 124, 125, 126, 127, 128, 129, 12] (.dir .nil .nil) (.dir (.blk (.loop [] [130, 131, 132, 133, 134, 135, 136, 137, 138, 139, 140, 141, 142, 143, 144, 145, 146, 147, 148, 149, 150, 151, 152, 153, 154, 155, 156, 157, 17, 158, 159, 160, 161, 162, 163, 164, 165, 166, 167, 168, 169, 170, 171, 172, 173, 174, 175, 176, 177, 178, 179, 180, 181, 182, 183, 184] (.dir (.dir .nil .nil) (.blk (.dir .nil .nil))))) .nil)))))) (.dir .nil (.dir (.dir .nil (.blk (.loop [18, 19] [187, 188, 189, 190, 193, 194, 195, 196, 197, 198, 199, 200, 201, 202, 203, 204, 205, 206, 207, 208, 18, 191, 192, 19] (.dir (.dir .nil .nil) (.dir .nil .nil))))) .nil))))))))))))))) follows Try.func33 (by kernel_rfl) (Nat.le_of_ble_eq_true (by kernel_rfl)) (by kernel_rfl) h

/-- (headword.headwordlaw13.Galley).made -/
def W34 (x0 x1 : AV) (H : Heap) (K : AV → Heap → Prop) : Prop :=
 letO (cellsOf? x0) fun c1 =>
 allocA [(.int .i64 0), .nils] (fun t4 H2 =>
 letO (faddr 0 (.iptr c1)) fun t9 =>
 letO (load1 t9 H2) fun t10 =>
 letO (convF Try.prog 5 3 t10) fun t11 =>
 letO (binF Try.prog .rem 3 t11 (.int .i64 40)) fun t12 =>
 letO (binF Try.prog .add 3 (.int .i64 1) t12) fun t13 =>
 letO (buildF Try.prog 24 [(0, t13)]) fun t14 =>
 allocA [(.int .i64 0), .nils] (fun t5 H3 =>
 storeA 2 t5 t14 (fun H4 =>
 letO (faddr 0 t5) fun t15 =>
 letO (load1 t15 H4) fun t16 =>
 letO (some (t16 : AV)) fun t6 =>
 true = true ∧ ∃ J5 : List AV → Heap → Prop, (
 letO (faddr 2 (.iptr c1)) fun t17 =>
 letO (load1 t17 H4) fun t18 =>
 letO (binF Try.prog .rem 5 t18 (.int .u8 3)) fun t19 =>
 letO (binF Try.prog .gtr 5 t19 (.int .u8 0)) fun t20 =>
 condA t20 true (
 letO (faddr 0 t5) fun t21 =>
 letO (load1 t21 H4) fun t22 =>
 letO (binF Try.prog .quo 3 t22 (.int .i64 2)) fun t23 =>
 letO (binF Try.prog .add 3 (.int .i64 1) t23) fun t24 =>
 letO (some (t24 : AV)) fun t6 =>
 J5 [t6] H4) (
 J5 [t6] H4)) ∧ ∀ L6 H7, J5 L6 H7 → -- [t6]
 letO (faddr 3 (.iptr c1)) fun t25 =>
 letO (faddr 1 (.iptr c1)) fun t26 =>
 letO (load1 t26 H7) fun t27 =>
 letO (convF Try.prog 5 3 t27) fun t28 =>
 letO (some (x1 : AV)) fun t29 =>
 letO (binF Try.prog .rem 3 t28 t29) fun t30 =>
 letO (binF Try.prog .add 3 (.int .i64 1) t30) fun t31 =>
 letO (slcArr 10 1 t25 none (some t31) none) fun t32 =>
 letO (lenA t32) fun t33 =>
 letO (some ((.int .i64 0) : AV)) fun t34 =>
 true = true ∧ ∃ (I8 : List AV → Heap → Prop) (μ9 : List AV → Heap → Nat), I8 [t34] H7 ∧ ∀ L10 H11, I8 L10 H11 → -- [t34]
 letO (binF Try.prog .lss 3 (L10.getD 0 .any) t33) fun t35 =>
 condA t35 true (
 letO (idx 1 t32 (L10.getD 0 .any)) fun t36 =>
 letO (load1 t36 H11) fun t37 =>
 letO (some (t37 : AV)) fun t8 =>
 true = true ∧
 letO (faddr 1 t5) fun t38 =>
 letO (load1 t38 H11) fun t39 =>
 letO (some (t8 : AV)) fun t40 =>
 letO (convF Try.prog 5 3 t40) fun t41 =>
 letO (some ((L6.getD 0 .any) : AV)) fun t42 =>
 letO (faddr 0 t5) fun t43 =>
 letO (load1 t43 H11) fun t44 =>
 letO (min2F t42 t44) fun t45 =>
 letO (binF Try.prog .rem 3 t41 t45) fun t46 =>
 letO (binF Try.prog .add 3 (.int .i64 1) t46) fun t47 =>
 letO (literalF Try.prog 22 1 [(0, t47)]) fun c12 =>
 appendA 1 8 t39 (.imm 1 true c12) (fun t49 H13 =>
 letO (faddr 1 t5) fun t50 =>
 storeA 1 t50 t49 (fun H14 =>
 letO (binF Try.prog .add 3 (L10.getD 0 .any) (.int .i64 1)) fun t51 =>
 letO (some (t51 : AV)) fun t34 =>
 I8 [t34] H14 ∧ μ9 [t34] H14 < μ9 L10 H11) H13) H11) (
 letO (loadN 2 t5 H11) fun t52 =>
 storeA 2 t4 t52 (fun H15 =>
 letO (loadN 2 t4 H15) fun r16 => endK r16 H15 K) H11)) H3) H2) H

theorem W34_ok {x0 x1 : AV} {H : Heap} {K : AV → Heap → Prop} (h : W34 x0 x1 H K) : ACalls Try.prog 34 [x0, x1] H K :=
  acallsB (fn := Try.f34) (cfg := cfgOf [] [] [(8, [0, 1, 0, 4, 0, 0, 32, 112, 252, 508, 1020, 2047, 4095, 8191])] [] []) (hh := (.dir .nil (.dir .nil (.dir .nil (.cut [6] [17, 18, 19, 20, 21, 22, 23, 24, 6] (.dir .nil .nil) (.dir (.dir .nil (.blk (.loop [34] [35, 36, 37, 8, 38, 39, 40, 41, 42, 43, 44, 45, 46, 47, 48, 49, 50, 51, 34] (.dir .nil (.dir .nil (.dir .nil .nil)))))) .nil)))))) follows Try.func34 (by kernel_rfl) (Nat.le_of_ble_eq_true (by kernel_rfl)) (by kernel_rfl) h

/-- headword.headwordlaw13.left -/
def W43 (x0 x1 x2 : AV) (H : Heap) (K : AV → Heap → Prop) : Prop :=
 letO (cellsOf? x0) fun c1 =>
 letO (some ((.int .i64 0) : AV)) fun t6 =>
 letO (some ((.int .i64 (-1)) : AV)) fun t7 =>
 letO (faddr 1 (.iptr c1)) fun t10 =>
 letO (load1 t10 H) fun t11 =>
 letO (some (x1 : AV)) fun t12 =>
 letO (some (x2 : AV)) fun t13 =>
 letO (slc 1 t11 (some t12) (some t13) none) fun t14 =>
 letO (lenA t14) fun t15 =>
 letO (some ((.int .i64 0) : AV)) fun t16 =>
 true = true ∧ ∃ (I2 : List AV → Heap → Prop) (μ3 : List AV → Heap → Nat), I2 [t7, t16] H ∧ ∀ L4 H5, I2 L4 H5 → -- [t7, t16]
 letO (binF Try.prog .lss 3 (L4.getD 1 .any) t15) fun t17 =>
 condA t17 true (
 letO (idx 1 t14 (L4.getD 1 .any)) fun t18 =>
 letO (load1 t18 H5) fun t19 =>
 letO (some (t19 : AV)) fun t9 =>
 letO (some ((L4.getD 0 .any) : AV)) fun t20 =>
 letO (some (t9 : AV)) fun t21 =>
 letO (binF Try.prog .add 3 t21 (.int .i64 1)) fun t22 =>
 letO (binF Try.prog .add 3 t20 t22) fun t23 =>
 letO (some (t23 : AV)) fun t7 =>
 letO (binF Try.prog .add 3 (L4.getD 1 .any) (.int .i64 1)) fun t24 =>
 letO (some (t24 : AV)) fun t16 =>
 I2 [t7, t16] H5 ∧ μ3 [t7, t16] H5 < μ3 L4 H5) (
 letO (faddr 0 (.iptr c1)) fun t25 =>
 letO (load1 t25 H5) fun t26 =>
 letO (some ((L4.getD 0 .any) : AV)) fun t27 =>
 letO (binF Try.prog .sub 3 t26 t27) fun t28 =>
 letO (some (t28 : AV)) fun t6 =>
endK t6 H5 K)

theorem W43_ok {x0 x1 x2 : AV} {H : Heap} {K : AV → Heap → Prop} (h : W43 x0 x1 x2 H K) : ACalls Try.prog 43 [x0, x1, x2] H K :=
  acallsB (fn := Try.f43) (cfg := cfgOf [] [] [] [] []) (hh := (.dir .nil (.dir .nil (.dir (.dir .nil (.blk (.loop [7, 16] [17, 18, 19, 9, 20, 21, 22, 23, 7, 24, 16] (.dir .nil (.dir .nil (.dir .nil .nil)))))) .nil)))) follows Try.func43 (by kernel_rfl) (Nat.le_of_ble_eq_true (by kernel_rfl)) (by kernel_rfl) h

/-- headword.headwordref13.Left -/
def W47 (x0 x1 : AV) (H : Heap) (K : AV → Heap → Prop) : Prop :=
 letO (cellsOf? x0) fun c1 =>
 letO (some (.nils : AV)) fun t4 =>
 letO (some ((.int .i64 0) : AV)) fun t5 =>
 letO (loadN 2 (.iptr c1) H) fun t9 =>
 letO (some (x1 : AV)) fun t10 =>
 ACalls Try.prog 52 [t9, t10] H fun t11 H2 =>
 letO (some (t11 : AV)) fun t6 =>
 letO (some (t6 : AV)) fun t12 =>
 letO (binF Try.prog .neq 27 t12 (.int .i64 0)) fun t13 =>
 condA t13 true (
 letO (some (t6 : AV)) fun t14 =>
 letO (some (.nils : AV)) fun t4 =>
 letO (some (t14 : AV)) fun t5 =>
endK (.tup [t4, t5]) H2 K) (
 letO (some (.nils : AV)) fun t7 =>
 letO (some ((.int .i64 0) : AV)) fun t8 =>
 true = true ∧ ∃ (I3 : List AV → Heap → Prop) (μ4 : List AV → Heap → Nat), I3 [t7, t8] H2 ∧ ∀ L5 H6, I3 L5 H6 → -- [t7, t8]
 letO (some ((L5.getD 1 .any) : AV)) fun t15 =>
 letO (some (x1 : AV)) fun t16 =>
 letO (lenA t16) fun t17 =>
 letO (binF Try.prog .lss 3 t15 t17) fun t18 =>
 condA t18 true (
 true = true ∧
 letO (some ((L5.getD 0 .any) : AV)) fun t21 =>
 letO (loadN 2 (.iptr c1) Heap.none) fun t22 =>
 letO (some (x1 : AV)) fun t23 =>
 letO (some ((L5.getD 1 .any) : AV)) fun t24 =>
 ∃ t25, (ACalls Try.prog 78 [t23, t24] H6 fun r h => r = t25 ∧ h = H6) ∧
 letO (some (x1 : AV)) fun t26 =>
 letO (some ((L5.getD 1 .any) : AV)) fun t27 =>
 letO (idx 1 t26 t27) fun t28 =>
 letO (load1 t28 H6) fun t29 =>
 ∃ t30, (ACalls Try.prog 79 [t22, t25, t29] H6 fun r h => r = t30 ∧ h = H6) ∧
 letO (literalF Try.prog 22 1 [(0, t30)]) fun c7 =>
 appendA 1 8 t21 (.imm 1 true c7) (fun t32 H8 =>
 letO (some (t32 : AV)) fun t7 =>
 letO (some ((L5.getD 1 .any) : AV)) fun t19 =>
 letO (binF Try.prog .add 3 t19 (.int .i64 1)) fun t20 =>
 letO (some (t20 : AV)) fun t8 =>
 I3 [t7, t8] H8 ∧ μ4 [t7, t8] H8 < μ4 L5 H6) H6) (
 letO (some ((L5.getD 0 .any) : AV)) fun t33 =>
 letO (some (t33 : AV)) fun t4 =>
 letO (some ((.int .i64 0) : AV)) fun t5 =>
endK (.tup [t4, t5]) H6 K))

theorem W47_ok {x0 x1 : AV} {H : Heap} {K : AV → Heap → Prop} (h : W47 x0 x1 H K) : ACalls Try.prog 47 [x0, x1] H K :=
  acallsB (fn := Try.f47) (cfg := cfgOf [] [22] [(8, [0, 0, 0, 0, 12, 0, 0, 96, 224, 510, 1022, 2047, 4095])] [] []) (hh := (.dir .nil (.dir .nil (.dir (.dir .nil (.dir .nil .nil)) (.dir .nil (.dir (.dir .nil (.blk (.loop [7, 8] [15, 16, 17, 18, 21, 22, 23, 24, 25, 26, 27, 28, 29, 30, 31, 32, 7, 19, 20, 8] (.dir (.dir .nil .nil) (.dir .nil .nil))))) .nil)))))) follows Try.func47 (by kernel_rfl) (Nat.le_of_ble_eq_true (by kernel_rfl)) (by kernel_rfl) h

/-- headword.headwordref13.Cost -/
def W48 (x0 x1 : AV) (H : Heap) (K : AV → Heap → Prop) : Prop :=
 letO (cellsOf? x0) fun c1 =>
 letO (some ((.int .i64 0) : AV)) fun t4 =>
 letO (some ((.int .i64 0) : AV)) fun t5 =>
 letO (loadN 2 (.iptr c1) H) fun t7 =>
 letO (some (x1 : AV)) fun t8 =>
 ACalls Try.prog 52 [t7, t8] H fun t9 H2 =>
 letO (some (t9 : AV)) fun t6 =>
 letO (some (t6 : AV)) fun t10 =>
 letO (binF Try.prog .neq 27 t10 (.int .i64 0)) fun t11 =>
 condA t11 true (
 letO (some (t6 : AV)) fun t12 =>
 letO (some ((.int .i64 0) : AV)) fun t4 =>
 letO (some (t12 : AV)) fun t5 =>
endK (.tup [t4, t5]) H2 K) (
 letO (loadN 2 (.iptr c1) H2) fun t13 =>
 letO (some (x1 : AV)) fun t14 =>
 letO (some (x1 : AV)) fun t15 =>
 letO (lenA t15) fun t16 =>
 letO (binF Try.prog .sub 3 t16 (.int .i64 1)) fun t17 =>
 ACalls Try.prog 66 [t13, t14, t17] H2 fun t18 H3 =>
 letO (some (t18 : AV)) fun t4 =>
 letO (some ((.int .i64 0) : AV)) fun t5 =>
endK (.tup [t4, t5]) H3 K)

theorem W48_ok {x0 x1 : AV} {H : Heap} {K : AV → Heap → Prop} (h : W48 x0 x1 H K) : ACalls Try.prog 48 [x0, x1] H K :=
  acallsB (fn := Try.f48) (cfg := cfgOf [] [] [] [] []) (hh := (.dir .nil (.dir .nil (.dir (.dir .nil (.dir .nil .nil)) .nil)))) follows Try.func48 (by kernel_rfl) (Nat.le_of_ble_eq_true (by kernel_rfl)) (by kernel_rfl) h

/-- headword.headwordref13.Full -/
def W49 (x0 : AV) (H : Heap) (K : AV → Heap → Prop) : Prop :=
 letO (cellsOf? x0) fun c1 =>
 letO (some (.nils : AV)) fun t2 =>
 letO (some ((.int .i64 0) : AV)) fun t3 =>
 letO (loadN 2 (.iptr c1) H) fun t8 =>
 ACalls Try.prog 51 [t8] H fun t9 H2 =>
 letO (some (t9 : AV)) fun t4 =>
 letO (some (t4 : AV)) fun t10 =>
 letO (binF Try.prog .neq 27 t10 (.int .i64 0)) fun t11 =>
 condA t11 true (
 letO (some (t4 : AV)) fun t12 =>
 letO (some (.nils : AV)) fun t2 =>
 letO (some (t12 : AV)) fun t3 =>
endK (.tup [t2, t3]) H2 K) (
 letO (some (.nils : AV)) fun t5 =>
 letO (some ((.int .i64 0) : AV)) fun t6 =>
 letO (some ((.int .i64 1) : AV)) fun t7 =>
 true = true ∧ ∃ (I3 : List AV → Heap → Prop) (μ4 : List AV → Heap → Nat), I3 [t5, t6, t7] H2 ∧ ∀ L5 H6, I3 L5 H6 → -- [t5, t6, t7]
 letO (some ((L5.getD 2 .any) : AV)) fun t13 =>
 letO (faddr 1 (.iptr c1)) fun t14 =>
 letO (load1 t14 H6) fun t15 =>
 letO (lenA t15) fun t16 =>
 letO (binF Try.prog .leq 3 t13 t16) fun t17 =>
 condA t17 true (
 true = true ∧ ∃ J7 : List AV → Heap → Prop, (
 letO (some ((L5.getD 2 .any) : AV)) fun t20 =>
 letO (faddr 1 (.iptr c1)) fun t21 =>
 letO (load1 t21 H6) fun t22 =>
 letO (lenA t22) fun t23 =>
 letO (binF Try.prog .eql 3 t20 t23) fun t24 =>
 letO (some (t24 : AV)) fun t25 =>
 letO (gval t25 false (loadN 2 (.iptr c1) H6)) fun t26 =>
 letO (gval t25 false (some ((L5.getD 1 .any) : AV))) fun t27 =>
 letO (gval t25 false (some ((L5.getD 2 .any) : AV))) fun t28 =>
 letO (gval t25 false (binF Try.prog .add 3 t28 (.int .i64 1))) fun t29 =>
 ∃ J8 : AV → Heap → Prop, condG t25 false (ACalls Try.prog 79 [t26, t27, t29] H6 fun t30 H9 =>
 J8 t30 H9) (J8 (.tup []) H6) ∧ ∀ t30 H10, J8 t30 H10 →
 letO (gval t25 false (binF Try.prog .lss 3 t30 (.int .i64 0))) fun t31 =>
 letO (pickF t25 (.bool true) t31) fun t32 =>
 condA t32 true (
 letO (some ((L5.getD 0 .any) : AV)) fun t33 =>
 letO (some ((L5.getD 2 .any) : AV)) fun t34 =>
 letO (literalF Try.prog 22 1 [(0, t34)]) fun c11 =>
 appendA 1 8 t33 (.imm 1 true c11) (fun t36 H12 =>
 letO (some (t36 : AV)) fun t5 =>
 letO (some ((L5.getD 2 .any) : AV)) fun t37 =>
 letO (some (t37 : AV)) fun t6 =>
 J7 [t5, t6] H12) H10) (
 J7 [(L5.getD 0 .any), (L5.getD 1 .any)] H10)) ∧ ∀ L13 H14, J7 L13 H14 → -- [t5, t6]
 letO (some ((L5.getD 2 .any) : AV)) fun t18 =>
 letO (binF Try.prog .add 3 t18 (.int .i64 1)) fun t19 =>
 letO (some (t19 : AV)) fun t7 =>
 I3 [(L13.getD 0 .any), (L13.getD 1 .any), t7] H14 ∧ μ4 [(L13.getD 0 .any), (L13.getD 1 .any), t7] H14 < μ4 L5 H6) (
 letO (some ((L5.getD 0 .any) : AV)) fun t38 =>
 letO (some (t38 : AV)) fun t2 =>
 letO (some ((.int .i64 0) : AV)) fun t3 =>
endK (.tup [t2, t3]) H6 K))

theorem W49_ok {x0 : AV} {H : Heap} {K : AV → Heap → Prop} (h : W49 x0 H K) : ACalls Try.prog 49 [x0] H K :=
  acallsB (fn := Try.f49) (cfg := cfgOf [] [] [] [] []) (hh := (.dir .nil (.dir .nil (.dir (.dir .nil (.dir .nil .nil)) (.dir .nil (.dir .nil (.dir (.dir .nil (.blk (.loop [5, 6, 7] [13, 14, 15, 16, 17, 20, 21, 22, 23, 24, 25, 26, 27, 28, 29, 30, 31, 32, 33, 34, 35, 36, 5, 37, 6, 18, 19, 7] (.dir (.dir .nil .nil) (.cut [5, 6] [20, 21, 22, 23, 24, 25, 26, 27, 28, 29, 30, 31, 32, 33, 34, 35, 36, 5, 37, 6] (.blk (.dir .nil (.dir .nil .nil))) .nil))))) .nil))))))) follows Try.func49 (by kernel_rfl) (Nat.le_of_ble_eq_true (by kernel_rfl)) (by kernel_rfl) h

/-- headword.headwordref13.Check -/
def W51 (x0 : AV) (H : Heap) (K : AV → Heap → Prop) : Prop :=
 letO (cellsOf? x0) fun c1 =>
 letO (some ((.int .i64 0) : AV)) fun t2 =>
 letO (faddr 0 (.iptr c1)) fun t4 =>
 letO (load1 t4 H) fun t5 =>
 ACalls Try.prog 77 [t5, (.int .i64 1), (.int .i64 40)] H fun t6 H2 =>
 letO (unF .not t6) fun t7 =>
 condA t7 true (
 letO (some ((.int .i64 1) : AV)) fun t2 =>
endK t2 H2 K) (
 letO (faddr 1 (.iptr c1)) fun t8 =>
 letO (load1 t8 H2) fun t9 =>
 letO (lenA t9) fun t10 =>
 letO (binF Try.prog .eql 3 t10 (.int .i64 0)) fun t11 =>
 condA t11 true (
 letO (some ((.int .i64 4) : AV)) fun t2 =>
endK t2 H2 K) (
 letO (faddr 1 (.iptr c1)) fun t12 =>
 letO (load1 t12 H2) fun t13 =>
 letO (lenA t13) fun t14 =>
 letO (binF Try.prog .gtr 3 t14 (.int .i64 10)) fun t15 =>
 condA t15 true (
 letO (some ((.int .i64 3) : AV)) fun t2 =>
endK t2 H2 K) (
 letO (some ((.int .i64 0) : AV)) fun t3 =>
 true = true ∧ ∃ (I3 : List AV → Heap → Prop) (μ4 : List AV → Heap → Nat), I3 [t3] H2 ∧ ∀ L5 H6, I3 L5 H6 → -- [t3]
 letO (some ((L5.getD 0 .any) : AV)) fun t16 =>
 letO (faddr 1 (.iptr c1)) fun t17 =>
 letO (load1 t17 H6) fun t18 =>
 letO (lenA t18) fun t19 =>
 letO (binF Try.prog .lss 3 t16 t19) fun t20 =>
 condA t20 true (
 true = true ∧
 letO (faddr 1 (.iptr c1)) fun t23 =>
 letO (load1 t23 Heap.none) fun t24 =>
 letO (some ((L5.getD 0 .any) : AV)) fun t25 =>
 letO (idx 1 t24 t25) fun t26 =>
 letO (load1 t26 H6) fun t27 =>
 letO (faddr 0 (.iptr c1)) fun t28 =>
 letO (load1 t28 Heap.none) fun t29 =>
 ACalls Try.prog 77 [t27, (.int .i64 1), t29] H6 fun t30 H7 =>
 letO (unF .not t30) fun t31 =>
 condA t31 true (
 letO (some ((.int .i64 1) : AV)) fun t2 =>
endK t2 H7 K) (
 letO (some ((L5.getD 0 .any) : AV)) fun t21 =>
 letO (binF Try.prog .add 3 t21 (.int .i64 1)) fun t22 =>
 letO (some (t22 : AV)) fun t3 =>
 I3 [t3] H7 ∧ μ4 [t3] H7 < μ4 L5 H6)) (
 letO (some ((.int .i64 0) : AV)) fun t2 =>
endK t2 H6 K))))

theorem W51_ok {x0 : AV} {H : Heap} {K : AV → Heap → Prop} (h : W51 x0 H K) : ACalls Try.prog 51 [x0] H K :=
  acallsB (fn := Try.f51) (cfg := cfgOf [] [24, 29] [(10, [0, 1, 0, 7, 15, 0, 32, 127, 255])] [] []) (hh := (.dir .nil (.dir (.dir .nil (.dir .nil .nil)) (.dir (.dir .nil (.dir .nil .nil)) (.dir (.dir .nil (.dir .nil .nil)) (.dir (.dir .nil (.blk (.loop [3] [16, 17, 18, 19, 20, 23, 24, 25, 26, 27, 28, 29, 30, 31, 2, 21, 22, 3] (.dir (.dir .nil .nil) (.dir (.blk (.dir .nil (.dir .nil .nil))) .nil))))) .nil)))))) follows Try.func51 (by kernel_rfl) (Nat.le_of_ble_eq_true (by kernel_rfl)) (by kernel_rfl) h

/-- headword.headwordref13.Fits -/
def W52 (x0 x1 : AV) (H : Heap) (K : AV → Heap → Prop) : Prop :=
 letO (cellsOf? x0) fun c1 =>
 letO (some ((.int .i64 0) : AV)) fun t4 =>
 letO (loadN 2 (.iptr c1) H) fun t6 =>
 letO (some (x1 : AV)) fun t7 =>
 ACalls Try.prog 82 [t6, t7] H fun t8 H2 =>
 letO (some (t8 : AV)) fun t5 =>
 true = true ∧ ∃ J3 : List AV → Heap → Prop, (
 letO (some (t5 : AV)) fun t9 =>
 letO (binF Try.prog .eql 27 t9 (.int .i64 0)) fun t10 =>
 letO (some (t10 : AV)) fun t11 =>
 letO (gval t11 true (loadN 2 (.iptr c1) H2)) fun t12 =>
 letO (gval t11 true (some (x1 : AV))) fun t13 =>
 ∃ J4 : AV → Heap → Prop, condG t11 true (ACalls Try.prog 83 [t12, t13] H2 fun t14 H5 =>
 J4 t14 H5) (J4 (.tup []) H2) ∧ ∀ t14 H6, J4 t14 H6 →
 letO (gval t11 true (unF .not t14)) fun t15 =>
 letO (pickF t11 t15 (.bool false)) fun t16 =>
 condA t16 true (
 letO (some ((.int .i64 15) : AV)) fun t5 =>
 J3 [t5] H6) (
 J3 [t5] H6)) ∧ ∀ L7 H8, J3 L7 H8 → -- [t5]
 letO (some ((L7.getD 0 .any) : AV)) fun t17 =>
 letO (some (t17 : AV)) fun t4 =>
endK t4 H8 K

theorem W52_ok {x0 x1 : AV} {H : Heap} {K : AV → Heap → Prop} (h : W52 x0 x1 H K) : ACalls Try.prog 52 [x0, x1] H K :=
  acallsB (fn := Try.f52) (cfg := cfgOf [] [] [] [] []) (hh := (.dir .nil (.dir .nil (.cut [5] [9, 10, 11, 12, 13, 14, 15, 16, 5] (.dir .nil .nil) .nil)))) follows Try.func52 (by kernel_rfl) (Nat.le_of_ble_eq_true (by kernel_rfl)) (by kernel_rfl) h

/-- headword.headwordlaw13.prices -/
def W54 (x0 : AV) (H : Heap) (K : AV → Heap → Prop) : Prop :=
 letO (cellsOf? x0) fun c1 =>
 letO (some (.nils : AV)) fun t2 =>
 letO (some (.nils : AV)) fun t3 =>
 letO (literalF Try.prog 22 1 [(0, (.int .i64 0))]) fun c2 =>
 ACalls Try.prog 46 [(.imm 1 true c2)] H fun t11 H3 =>
 letO (some (t11 : AV)) fun t2 =>
 letO (some ((.int .i64 1) : AV)) fun t4 =>
 true = true ∧ ∃ (I4 : List AV → Heap → Prop) (μ5 : List AV → Heap → Nat), I4 [t2, t3, t4] H3 ∧ ∀ L6 H7, I4 L6 H7 → -- [t2, t3, t4]
 letO (some ((L6.getD 2 .any) : AV)) fun t12 =>
 letO (faddr 1 (.iptr c1)) fun t13 =>
 letO (load1 t13 H7) fun t14 =>
 letO (lenA t14) fun t15 =>
 letO (binF Try.prog .leq 3 t12 t15) fun t16 =>
 condA t16 true (
 letO (some ((.int .i64 (-1)) : AV)) fun t5 =>
 letO (some ((.int .i64 0) : AV)) fun t6 =>
 letO (some ((L6.getD 2 .any) : AV)) fun t19 =>
 letO (some ((.int .i64 0) : AV)) fun t20 =>
 true = true ∧ ∃ (I8 : List AV → Heap → Prop) (μ9 : List AV → Heap → Nat), I8 [t5, t6, t20] H7 ∧ ∀ L10 H11, I8 L10 H11 → -- [t5, t6, t20]
 letO (binF Try.prog .lss 3 (L10.getD 2 .any) t19) fun t21 =>
 condA t21 true (
 true = true ∧ ∃ J12 : List AV → Heap → Prop, (
 letO (some ((L10.getD 2 .any) : AV)) fun t22 =>
 letO (some (t22 : AV)) fun t7 =>
 letO (loadN 2 (.iptr c1) H11) fun t23 =>
 letO (some (t7 : AV)) fun t24 =>
 letO (some ((L6.getD 2 .any) : AV)) fun t25 =>
 ACalls Try.prog 43 [t23, t24, t25] H11 fun t26 H13 =>
 letO (some (t26 : AV)) fun t8 =>
 letO (some (t8 : AV)) fun t27 =>
 letO (binF Try.prog .lss 3 t27 (.int .i64 0)) fun t28 =>
 condA t28 true (
 J12 [(L10.getD 0 .any), (L10.getD 1 .any)] H13) (
 letO (some ((L6.getD 0 .any) : AV)) fun t29 =>
 letO (some (t7 : AV)) fun t30 =>
 letO (idx 1 t29 t30) fun t31 =>
 letO (load1 t31 H13) fun t32 =>
 letO (some (t8 : AV)) fun t33 =>
 letO (some (t8 : AV)) fun t34 =>
 letO (binF Try.prog .mul 3 t33 t34) fun t35 =>
 letO (binF Try.prog .add 3 t32 t35) fun t36 =>
 letO (some (t36 : AV)) fun t9 =>
 letO (some ((L10.getD 0 .any) : AV)) fun t37 =>
 letO (binF Try.prog .lss 3 t37 (.int .i64 0)) fun t38 =>
 letO (some (t38 : AV)) fun t39 =>
 letO (gval t39 false (some (t9 : AV))) fun t40 =>
 letO (gval t39 false (some ((L10.getD 0 .any) : AV))) fun t41 =>
 letO (gval t39 false (binF Try.prog .lss 3 t40 t41)) fun t42 =>
 letO (pickF t39 (.bool true) t42) fun t43 =>
 condA t43 true (
 letO (some (t9 : AV)) fun t44 =>
 letO (some (t7 : AV)) fun t45 =>
 letO (some (t44 : AV)) fun t5 =>
 letO (some (t45 : AV)) fun t6 =>
 J12 [t5, t6] H13) (
 J12 [(L10.getD 0 .any), (L10.getD 1 .any)] H13))) ∧ ∀ L14 H15, J12 L14 H15 → -- [t5, t6]
 letO (binF Try.prog .add 3 (L10.getD 2 .any) (.int .i64 1)) fun t46 =>
 letO (some (t46 : AV)) fun t20 =>
 I8 [(L14.getD 0 .any), (L14.getD 1 .any), t20] H15 ∧ μ9 [(L14.getD 0 .any), (L14.getD 1 .any), t20] H15 < μ9 L10 H11) (
 letO (some ((L6.getD 0 .any) : AV)) fun t47 =>
 letO (some ((L10.getD 0 .any) : AV)) fun t48 =>
 letO (literalF Try.prog 22 1 [(0, t48)]) fun c16 =>
 appendA 1 8 t47 (.imm 1 true c16) (fun t50 H17 =>
 letO (some ((L6.getD 1 .any) : AV)) fun t51 =>
 letO (some ((L10.getD 1 .any) : AV)) fun t52 =>
 letO (literalF Try.prog 22 1 [(0, t52)]) fun c18 =>
 appendA 1 8 t51 (.imm 1 true c18) (fun t54 H19 =>
 letO (some (t50 : AV)) fun t2 =>
 letO (some (t54 : AV)) fun t3 =>
 letO (some ((L6.getD 2 .any) : AV)) fun t17 =>
 letO (binF Try.prog .add 3 t17 (.int .i64 1)) fun t18 =>
 letO (some (t18 : AV)) fun t4 =>
 I4 [t2, t3, t4] H19 ∧ μ5 [t2, t3, t4] H19 < μ5 L6 H7) H17) H11)) (
 letO (some ((L6.getD 0 .any) : AV)) fun t55 =>
 letO (faddr 1 (.iptr c1)) fun t56 =>
 letO (load1 t56 H7) fun t57 =>
 letO (lenA t57) fun t58 =>
 letO (slc 1 t55 none (some t58) none) fun t59 =>
 letO (some ((L6.getD 1 .any) : AV)) fun t60 =>
 letO (some (t59 : AV)) fun t2 =>
 letO (some (t60 : AV)) fun t3 =>
endK (.tup [t2, t3]) H7 K)

theorem W54_ok {x0 : AV} {H : Heap} {K : AV → Heap → Prop} (h : W54 x0 H K) : ACalls Try.prog 54 [x0] H K :=
  acallsB (fn := Try.f54) (cfg := cfgOf [] [] [] [] []) (hh := (.dir .nil (.dir .nil (.dir (.dir .nil (.blk (.loop [2, 3, 4] [12, 13, 14, 15, 16, 5, 6, 19, 20, 21, 22, 7, 23, 24, 25, 26, 8, 27, 28, 29, 30, 31, 32, 33, 34, 35, 36, 9, 37, 38, 39, 40, 41, 42, 43, 44, 45, 46, 47, 48, 49, 50, 51, 52, 53, 54, 2, 3, 17, 18, 4] (.dir (.dir .nil .nil) (.dir (.blk (.dir .nil (.dir (.dir .nil (.blk (.loop [5, 6, 20] [21, 22, 7, 23, 24, 25, 26, 8, 27, 28, 29, 30, 31, 32, 33, 34, 35, 36, 9, 37, 38, 39, 40, 41, 42, 43, 44, 45, 5, 6, 46, 20] (.dir .nil (.dir .nil (.cut [5, 6] [22, 7, 23, 24, 25, 26, 8, 27, 28, 29, 30, 31, 32, 33, 34, 35, 36, 9, 37, 38, 39, 40, 41, 42, 43, 44, 45, 5, 6] (.blk (.dir .nil (.dir .nil (.dir (.dir .nil .nil) (.dir .nil (.dir .nil .nil)))))) .nil)))))) .nil))) .nil))))) .nil)))) follows Try.func54 (by kernel_rfl) (Nat.le_of_ble_eq_true (by kernel_rfl)) (by kernel_rfl) h

/-- slices.IsSorted[[]int,int] -/
def W61 (x0 : AV) (H : Heap) (K : AV → Heap → Prop) : Prop :=
 letO (some ((.bool false) : AV)) fun t2 =>
 letO (some (x0 : AV)) fun t4 =>
 letO (lenA t4) fun t5 =>
 letO (binF Try.prog .sub 3 t5 (.int .i64 1)) fun t6 =>
 letO (some (t6 : AV)) fun t3 =>
 true = true ∧ ∃ (I1 : List AV → Heap → Prop) (μ2 : List AV → Heap → Nat), I1 [t3] H ∧ ∀ L3 H4, I1 L3 H4 → -- [t3]
 letO (some ((L3.getD 0 .any) : AV)) fun t7 =>
 letO (binF Try.prog .gtr 3 t7 (.int .i64 0)) fun t8 =>
 condA t8 true (
 true = true ∧
 letO (some (x0 : AV)) fun t11 =>
 letO (some ((L3.getD 0 .any) : AV)) fun t12 =>
 letO (idx 1 t11 t12) fun t13 =>
 letO (load1 t13 H4) fun t14 =>
 letO (some (x0 : AV)) fun t15 =>
 letO (some ((L3.getD 0 .any) : AV)) fun t16 =>
 letO (binF Try.prog .sub 3 t16 (.int .i64 1)) fun t17 =>
 letO (idx 1 t15 t17) fun t18 =>
 letO (load1 t18 H4) fun t19 =>
 ACalls Try.prog 86 [t14, t19] H4 fun t20 H5 =>
 condA t20 true (
 letO (some ((.bool false) : AV)) fun t2 =>
endK t2 H5 K) (
 letO (some ((L3.getD 0 .any) : AV)) fun t9 =>
 letO (binF Try.prog .sub 3 t9 (.int .i64 1)) fun t10 =>
 letO (some (t10 : AV)) fun t3 =>
 I1 [t3] H5 ∧ μ2 [t3] H5 < μ2 L3 H4)) (
 letO (some ((.bool true) : AV)) fun t2 =>
endK t2 H4 K)

theorem W61_ok {x0 : AV} {H : Heap} {K : AV → Heap → Prop} (h : W61 x0 H K) : ACalls Try.prog 61 [x0] H K :=
  acallsB (fn := Try.f61) (cfg := cfgOf [] [] [(4, [0, 0, 3, 7, 0, 0, 32, 112, 240, 511])] [] []) (hh := (.dir .nil (.dir (.dir .nil (.blk (.loop [3] [7, 8, 11, 12, 13, 14, 15, 16, 17, 18, 19, 20, 2, 9, 10, 3] (.dir (.dir .nil .nil) (.dir (.blk (.dir .nil (.dir .nil .nil))) .nil))))) .nil))) follows Try.func61 (by kernel_rfl) (Nat.le_of_ble_eq_true (by kernel_rfl)) (by kernel_rfl) h

/-- headword.headwordref13.squares -/
def W66 (x0 x1 x2 : AV) (H : Heap) (K : AV → Heap → Prop) : Prop :=
 letO (cellsOf? x0) fun c1 =>
 letO (some ((.int .i64 0) : AV)) fun t6 =>
 letO (some ((.int .i64 0) : AV)) fun t7 =>
 letO (some ((.int .i64 0) : AV)) fun t8 =>
 true = true ∧ ∃ (I2 : List AV → Heap → Prop) (μ3 : List AV → Heap → Nat), I2 [t7, t8] H ∧ ∀ L4 H5, I2 L4 H5 → -- [t7, t8]
 letO (some ((L4.getD 1 .any) : AV)) fun t10 =>
 letO (some (x2 : AV)) fun t11 =>
 letO (binF Try.prog .lss 3 t10 t11) fun t12 =>
 condA t12 true (
 true = true ∧
 letO (loadN 2 (.iptr c1) Heap.none) fun t15 =>
 letO (some (x1 : AV)) fun t16 =>
 letO (some ((L4.getD 1 .any) : AV)) fun t17 =>
 ∃ t18, (ACalls Try.prog 78 [t16, t17] H5 fun r h => r = t18 ∧ h = H5) ∧
 letO (some (x1 : AV)) fun t19 =>
 letO (some ((L4.getD 1 .any) : AV)) fun t20 =>
 letO (idx 1 t19 t20) fun t21 =>
 letO (load1 t21 H5) fun t22 =>
 ACalls Try.prog 79 [t15, t18, t22] H5 fun t23 H6 =>
 letO (some (t23 : AV)) fun t9 =>
 letO (some ((L4.getD 0 .any) : AV)) fun t24 =>
 letO (some (t9 : AV)) fun t25 =>
 letO (some (t9 : AV)) fun t26 =>
 letO (binF Try.prog .mul 3 t25 t26) fun t27 =>
 letO (binF Try.prog .add 3 t24 t27) fun t28 =>
 letO (some (t28 : AV)) fun t7 =>
 letO (some ((L4.getD 1 .any) : AV)) fun t13 =>
 letO (binF Try.prog .add 3 t13 (.int .i64 1)) fun t14 =>
 letO (some (t14 : AV)) fun t8 =>
 I2 [t7, t8] H6 ∧ μ3 [t7, t8] H6 < μ3 L4 H5) (
 letO (some ((L4.getD 0 .any) : AV)) fun t29 =>
 letO (some (t29 : AV)) fun t6 =>
endK t6 H5 K)

theorem W66_ok {x0 x1 x2 : AV} {H : Heap} {K : AV → Heap → Prop} (h : W66 x0 x1 x2 H K) : ACalls Try.prog 66 [x0, x1, x2] H K :=
  acallsB (fn := Try.f66) (cfg := cfgOf [] [15] [(5, [0, 0, 0, 6, 0, 0, 48, 112, 255, 511])] [] []) (hh := (.dir .nil (.dir .nil (.dir (.dir .nil (.blk (.loop [7, 8] [10, 11, 12, 15, 16, 17, 18, 19, 20, 21, 22, 23, 9, 24, 25, 26, 27, 28, 7, 13, 14, 8] (.dir (.dir .nil .nil) (.dir .nil .nil))))) .nil)))) follows Try.func66 (by kernel_rfl) (Nat.le_of_ble_eq_true (by kernel_rfl)) (by kernel_rfl) h

/-- headword.headwordref13.in -/
def W77 (x0 x1 x2 : AV) (H : Heap) (K : AV → Heap → Prop) : Prop :=
 letO (some ((.bool false) : AV)) fun t6 =>
 letO (some (x0 : AV)) fun t7 =>
 letO (some (x1 : AV)) fun t8 =>
 letO (binF Try.prog .geq 3 t7 t8) fun t9 =>
 letO (some (t9 : AV)) fun t10 =>
 letO (gval t10 true (some (x0 : AV))) fun t11 =>
 letO (gval t10 true (some (x2 : AV))) fun t12 =>
 letO (gval t10 true (binF Try.prog .leq 3 t11 t12)) fun t13 =>
 letO (pickF t10 t13 (.bool false)) fun t14 =>
 letO (some (t14 : AV)) fun t6 =>
endK t6 H K

theorem W77_ok {x0 x1 x2 : AV} {H : Heap} {K : AV → Heap → Prop} (h : W77 x0 x1 x2 H K) : ACalls Try.prog 77 [x0, x1, x2] H K :=
  acallsB (fn := Try.f77) (cfg := cfgOf [] [] [] [] []) (hh := (.dir .nil .nil)) follows Try.func77 (by kernel_rfl) (Nat.le_of_ble_eq_true (by kernel_rfl)) (by kernel_rfl) h

/-- headword.headwordref13.begin -/
def W78 (x0 x1 : AV) (H : Heap) (K : AV → Heap → Prop) : Prop :=
 letO (some ((.int .i64 0) : AV)) fun t4 =>
 letO (some (x1 : AV)) fun t5 =>
 letO (binF Try.prog .eql 3 t5 (.int .i64 0)) fun t6 =>
 condA t6 true (
 letO (some ((.int .i64 0) : AV)) fun t4 =>
endK t4 H K) (
 letO (some (x0 : AV)) fun t7 =>
 letO (some (x1 : AV)) fun t8 =>
 letO (binF Try.prog .sub 3 t8 (.int .i64 1)) fun t9 =>
 letO (idx 1 t7 t9) fun t10 =>
 letO (load1 t10 H) fun t11 =>
 letO (some (t11 : AV)) fun t4 =>
endK t4 H K)

theorem W78_ok {x0 x1 : AV} {H : Heap} {K : AV → Heap → Prop} (h : W78 x0 x1 H K) : ACalls Try.prog 78 [x0, x1] H K :=
  acallsB (fn := Try.f78) (cfg := cfgOf [] [] [] [] []) (hh := (.dir .nil (.dir (.dir .nil (.dir .nil .nil)) .nil))) follows Try.func78 (by kernel_rfl) (Nat.le_of_ble_eq_true (by kernel_rfl)) (by kernel_rfl) h

/-- headword.headwordref13.left -/
def W79 (x0 x1 x2 : AV) (H : Heap) (K : AV → Heap → Prop) : Prop :=
 letO (cellsOf? x0) fun c1 =>
 letO (some ((.int .i64 0) : AV)) fun t6 =>
 letO (faddr 0 (.iptr c1)) fun t9 =>
 letO (load1 t9 H) fun t10 =>
 letO (some (x2 : AV)) fun t11 =>
 letO (some (x1 : AV)) fun t12 =>
 letO (binF Try.prog .sub 3 t11 t12) fun t13 =>
 letO (binF Try.prog .sub 3 t13 (.int .i64 1)) fun t14 =>
 letO (binF Try.prog .sub 3 t10 t14) fun t15 =>
 letO (some (t15 : AV)) fun t7 =>
 letO (some (x1 : AV)) fun t16 =>
 letO (some (t16 : AV)) fun t8 =>
 true = true ∧ ∃ (I2 : List AV → Heap → Prop) (μ3 : List AV → Heap → Nat), I2 [t7, t8] H ∧ ∀ L4 H5, I2 L4 H5 → -- [t7, t8]
 letO (some ((L4.getD 1 .any) : AV)) fun t17 =>
 letO (some (x2 : AV)) fun t18 =>
 letO (binF Try.prog .lss 3 t17 t18) fun t19 =>
 condA t19 true (
 letO (some ((L4.getD 0 .any) : AV)) fun t22 =>
 letO (faddr 1 (.iptr c1)) fun t23 =>
 letO (load1 t23 H5) fun t24 =>
 letO (some ((L4.getD 1 .any) : AV)) fun t25 =>
 letO (idx 1 t24 t25) fun t26 =>
 letO (load1 t26 H5) fun t27 =>
 letO (binF Try.prog .sub 3 t22 t27) fun t28 =>
 letO (some (t28 : AV)) fun t7 =>
 letO (some ((L4.getD 1 .any) : AV)) fun t20 =>
 letO (binF Try.prog .add 3 t20 (.int .i64 1)) fun t21 =>
 letO (some (t21 : AV)) fun t8 =>
 I2 [t7, t8] H5 ∧ μ3 [t7, t8] H5 < μ3 L4 H5) (
 letO (some ((L4.getD 0 .any) : AV)) fun t29 =>
 letO (some (t29 : AV)) fun t6 =>
endK t6 H5 K)

theorem W79_ok {x0 x1 x2 : AV} {H : Heap} {K : AV → Heap → Prop} (h : W79 x0 x1 x2 H K) : ACalls Try.prog 79 [x0, x1, x2] H K :=
  acallsB (fn := Try.f79) (cfg := cfgOf [] [] [] [] []) (hh := (.dir .nil (.dir .nil (.dir (.dir .nil (.blk (.loop [7, 8] [17, 18, 19, 22, 23, 24, 25, 26, 27, 28, 7, 20, 21, 8] (.dir (.dir .nil .nil) (.dir .nil .nil))))) .nil)))) follows Try.func79 (by kernel_rfl) (Nat.le_of_ble_eq_true (by kernel_rfl)) (by kernel_rfl) h

/-- headword.headwordref13.ended -/
def W82 (x0 x1 : AV) (H : Heap) (K : AV → Heap → Prop) : Prop :=
 letO (cellsOf? x0) fun c1 =>
 letO (some ((.int .i64 0) : AV)) fun t4 =>
 letO (loadN 2 (.iptr c1) H) fun t7 =>
 ACalls Try.prog 51 [t7] H fun t8 H2 =>
 letO (some (t8 : AV)) fun t5 =>
 letO (some ((.int .i64 0) : AV)) fun t6 =>
 true = true ∧ ∃ (I3 : List AV → Heap → Prop) (μ4 : List AV → Heap → Nat), I3 [t5, t6] H2 ∧ ∀ L5 H6, I3 L5 H6 → -- [t5, t6]
 letO (some ((L5.getD 1 .any) : AV)) fun t9 =>
 letO (some (x1 : AV)) fun t10 =>
 letO (lenA t10) fun t11 =>
 letO (binF Try.prog .lss 3 t9 t11) fun t12 =>
 letO (some (t12 : AV)) fun t13 =>
 letO (gval t13 true (some ((L5.getD 0 .any) : AV))) fun t14 =>
 letO (gval t13 true (binF Try.prog .eql 27 t14 (.int .i64 0))) fun t15 =>
 letO (pickF t13 t15 (.bool false)) fun t16 =>
 condA t16 true (
 true = true ∧ ∃ J7 : List AV → Heap → Prop, (
 true = true ∧
 letO (some (x1 : AV)) fun t19 =>
 letO (some ((L5.getD 1 .any) : AV)) fun t20 =>
 letO (idx 1 t19 t20) fun t21 =>
 letO (load1 t21 H6) fun t22 =>
 letO (faddr 1 (.iptr c1)) fun t23 =>
 letO (load1 t23 Heap.none) fun t24 =>
 letO (lenA t24) fun t25 =>
 ACalls Try.prog 77 [t22, (.int .i64 1), t25] H6 fun t26 H8 =>
 letO (unF .not t26) fun t27 =>
 condA t27 true (
 letO (some ((.int .i64 2) : AV)) fun t5 =>
 J7 [t5] H8) (
 true = true ∧
 letO (some ((L5.getD 1 .any) : AV)) fun t28 =>
 letO (binF Try.prog .gtr 3 t28 (.int .i64 0)) fun t29 =>
 letO (some (t29 : AV)) fun t30 =>
 letO (gval t30 true (some (x1 : AV))) fun t31 =>
 letO (gval t30 true (some ((L5.getD 1 .any) : AV))) fun t32 =>
 letO (gval t30 true (idx 1 t31 t32)) fun t33 =>
 letO (gval t30 true (load1 t33 H8)) fun t34 =>
 letO (gval t30 true (some (x1 : AV))) fun t35 =>
 letO (gval t30 true (some ((L5.getD 1 .any) : AV))) fun t36 =>
 letO (gval t30 true (binF Try.prog .sub 3 t36 (.int .i64 1))) fun t37 =>
 letO (gval t30 true (idx 1 t35 t37)) fun t38 =>
 letO (gval t30 true (load1 t38 H8)) fun t39 =>
 letO (gval t30 true (binF Try.prog .leq 3 t34 t39)) fun t40 =>
 letO (pickF t30 t40 (.bool false)) fun t41 =>
 condA t41 true (
 letO (some ((.int .i64 7) : AV)) fun t5 =>
 J7 [t5] H8) (
 J7 [(L5.getD 0 .any)] H8))) ∧ ∀ L9 H10, J7 L9 H10 → -- [t5]
 letO (some ((L5.getD 1 .any) : AV)) fun t17 =>
 letO (binF Try.prog .add 3 t17 (.int .i64 1)) fun t18 =>
 letO (some (t18 : AV)) fun t6 =>
 I3 [(L9.getD 0 .any), t6] H10 ∧ μ4 [(L9.getD 0 .any), t6] H10 < μ4 L5 H6) (
 true = true ∧ ∃ J11 : List AV → Heap → Prop, (
 true = true ∧
 letO (some ((L5.getD 0 .any) : AV)) fun t42 =>
 letO (binF Try.prog .eql 27 t42 (.int .i64 0)) fun t43 =>
 letO (some (t43 : AV)) fun t44 =>
 letO (gval t44 true (some (x1 : AV))) fun t45 =>
 letO (gval t44 true (lenA t45)) fun t46 =>
 letO (gval t44 true (binF Try.prog .eql 3 t46 (.int .i64 0))) fun t47 =>
 letO (gval t44 true (some (t47 : AV))) fun t48 =>
 letO (gval t48 false (some (x1 : AV))) fun t49 =>
 letO (gval t48 false (some (x1 : AV))) fun t50 =>
 letO (gval t48 false (lenA t50)) fun t51 =>
 letO (gval t48 false (binF Try.prog .sub 3 t51 (.int .i64 1))) fun t52 =>
 letO (gval t48 false (idx 1 t49 t52)) fun t53 =>
 letO (gval t48 false (load1 t53 H6)) fun t54 =>
 letO (gval t48 false (faddr 1 (.iptr c1))) fun t55 =>
 letO (gval t48 false (load1 t55 Heap.none)) fun t56 =>
 letO (gval t48 false (lenA t56)) fun t57 =>
 letO (gval t48 false (binF Try.prog .neq 3 t54 t57)) fun t58 =>
 letO (gval t44 true (pickF t48 (.bool true) t58)) fun t59 =>
 letO (pickF t44 t59 (.bool false)) fun t60 =>
 condA t60 true (
 letO (some ((.int .i64 5) : AV)) fun t5 =>
 J11 [t5] H6) (
 J11 [(L5.getD 0 .any)] H6)) ∧ ∀ L12 H13, J11 L12 H13 → -- [t5]
 letO (some ((L12.getD 0 .any) : AV)) fun t61 =>
 letO (some (t61 : AV)) fun t4 =>
endK t4 H13 K)

theorem W82_ok {x0 x1 : AV} {H : Heap} {K : AV → Heap → Prop} (h : W82 x0 x1 H K) : ACalls Try.prog 82 [x0, x1] H K :=
  acallsB (fn := Try.f82) (cfg := cfgOf [] [24, 56] [(5, [0, 0, 3, 7, 0, 16, 48, 127, 255]), (7, [0, 1, 3, 7, 7, 31, 63, 7, 7, 263, 903, 1927, 4095, 8191]), (9, [0, 1, 3, 7, 15, 31, 63, 127, 127, 383, 895, 2047, 4095, 127, 8319, 24703, 65535, 131071, 262143])] [] []) (hh := (.dir .nil (.dir .nil (.dir (.dir .nil (.blk (.loop [5, 6] [9, 10, 11, 12, 13, 14, 15, 16, 19, 20, 21, 22, 23, 24, 25, 26, 27, 5, 28, 29, 30, 31, 32, 33, 34, 35, 36, 37, 38, 39, 40, 41, 17, 18, 6] (.dir (.dir .nil .nil) (.cut [5] [19, 20, 21, 22, 23, 24, 25, 26, 27, 5, 28, 29, 30, 31, 32, 33, 34, 35, 36, 37, 38, 39, 40, 41] (.blk (.dir .nil (.dir .nil (.dir .nil .nil)))) .nil))))) (.cut [5] [42, 43, 44, 45, 46, 47, 48, 49, 50, 51, 52, 53, 54, 55, 56, 57, 58, 59, 60, 5] (.dir .nil .nil) .nil))))) follows Try.func82 (by kernel_rfl) (Nat.le_of_ble_eq_true (by kernel_rfl)) (by kernel_rfl) h

/-- headword.headwordref13.fits -/
def W83 (x0 x1 : AV) (H : Heap) (K : AV → Heap → Prop) : Prop :=
 letO (cellsOf? x0) fun c1 =>
 letO (some ((.bool false) : AV)) fun t4 =>
 letO (some ((.int .i64 0) : AV)) fun t5 =>
 true = true ∧ ∃ (I2 : List AV → Heap → Prop) (μ3 : List AV → Heap → Nat), I2 [t5] H ∧ ∀ L4 H5, I2 L4 H5 → -- [t5]
 letO (some ((L4.getD 0 .any) : AV)) fun t6 =>
 letO (some (x1 : AV)) fun t7 =>
 letO (lenA t7) fun t8 =>
 letO (binF Try.prog .lss 3 t6 t8) fun t9 =>
 condA t9 true (
 true = true ∧
 letO (loadN 2 (.iptr c1) Heap.none) fun t12 =>
 letO (some (x1 : AV)) fun t13 =>
 letO (some ((L4.getD 0 .any) : AV)) fun t14 =>
 ∃ t15, (ACalls Try.prog 78 [t13, t14] H5 fun r h => r = t15 ∧ h = H5) ∧
 letO (some (x1 : AV)) fun t16 =>
 letO (some ((L4.getD 0 .any) : AV)) fun t17 =>
 letO (idx 1 t16 t17) fun t18 =>
 letO (load1 t18 H5) fun t19 =>
 ACalls Try.prog 79 [t12, t15, t19] H5 fun t20 H6 =>
 letO (binF Try.prog .lss 3 t20 (.int .i64 0)) fun t21 =>
 condA t21 true (
 letO (some ((.bool false) : AV)) fun t4 =>
endK t4 H6 K) (
 letO (some ((L4.getD 0 .any) : AV)) fun t10 =>
 letO (binF Try.prog .add 3 t10 (.int .i64 1)) fun t11 =>
 letO (some (t11 : AV)) fun t5 =>
 I2 [t5] H6 ∧ μ3 [t5] H6 < μ3 L4 H5)) (
 letO (some ((.bool true) : AV)) fun t4 =>
endK t4 H5 K)

theorem W83_ok {x0 x1 : AV} {H : Heap} {K : AV → Heap → Prop} (h : W83 x0 x1 H K) : ACalls Try.prog 83 [x0, x1] H K :=
  acallsB (fn := Try.f83) (cfg := cfgOf [] [12] [(4, [0, 0, 0, 6, 0, 0, 48, 112, 255, 511])] [] []) (hh := (.dir .nil (.dir (.dir .nil (.blk (.loop [5] [6, 7, 8, 9, 12, 13, 14, 15, 16, 17, 18, 19, 20, 21, 4, 10, 11, 5] (.dir (.dir .nil .nil) (.dir (.blk (.dir .nil (.dir .nil .nil))) .nil))))) .nil))) follows Try.func83 (by kernel_rfl) (Nat.le_of_ble_eq_true (by kernel_rfl)) (by kernel_rfl) h

/-- cmp.Less[int] -/
def W86 (x0 x1 : AV) (H : Heap) (K : AV → Heap → Prop) : Prop :=
 letO (some ((.bool false) : AV)) fun t4 =>
 letO (some (x0 : AV)) fun t5 =>
 ACalls Try.prog 94 [t5] H fun t6 H1 =>
 letO (some (t6 : AV)) fun t7 =>
 letO (gval t7 true (some (x1 : AV))) fun t8 =>
 ∃ J2 : AV → Heap → Prop, condG t7 true (ACalls Try.prog 94 [t8] H1 fun t9 H3 =>
 J2 t9 H3) (J2 (.tup []) H1) ∧ ∀ t9 H4, J2 t9 H4 →
 letO (gval t7 true (unF .not t9)) fun t10 =>
 letO (pickF t7 t10 (.bool false)) fun t11 =>
 letO (some (t11 : AV)) fun t12 =>
 letO (gval t12 false (some (x0 : AV))) fun t13 =>
 letO (gval t12 false (some (x1 : AV))) fun t14 =>
 letO (gval t12 false (binF Try.prog .lss 3 t13 t14)) fun t15 =>
 letO (pickF t12 (.bool true) t15) fun t16 =>
 letO (some (t16 : AV)) fun t4 =>
endK t4 H4 K

theorem W86_ok {x0 x1 : AV} {H : Heap} {K : AV → Heap → Prop} (h : W86 x0 x1 H K) : ACalls Try.prog 86 [x0, x1] H K :=
  acallsB (fn := Try.f86) (cfg := cfgOf [] [] [] [] []) (hh := (.dir .nil .nil)) follows Try.func86 (by kernel_rfl) (Nat.le_of_ble_eq_true (by kernel_rfl)) (by kernel_rfl) h

/-- headword.headwordref13.all -/
def W88 (x0 x1 x2 : AV) (H : Heap) (K : AV → Heap → Prop) : Prop :=
 letO (cellsOf? x0) fun c1 =>
 letO (some (.nils : AV)) fun t6 =>
 letO (some (x2 : AV)) fun t10 =>
 letO (some (x2 : AV)) fun t11 =>
 letO (lenA t11) fun t12 =>
 ACalls Try.prog 78 [t10, t12] H fun t13 H2 =>
 letO (some (t13 : AV)) fun t7 =>
 letO (some (t7 : AV)) fun t14 =>
 letO (some (x1 : AV)) fun t15 =>
 letO (binF Try.prog .eql 3 t14 t15) fun t16 =>
 condA t16 true (
 letO (some (x2 : AV)) fun t17 =>
 letO (literalF Try.prog 88 1 [(0, t17)]) fun c3 =>
 letO (some ((.imm 1 true c3) : AV)) fun t6 =>
endK t6 H2 K) (
 letO (some (.nils : AV)) fun t8 =>
 letO (some (t7 : AV)) fun t19 =>
 letO (binF Try.prog .add 3 t19 (.int .i64 1)) fun t20 =>
 letO (some (t20 : AV)) fun t9 =>
 true = true ∧ ∃ (I4 : List AV → Heap → Prop) (μ5 : List AV → Heap → Nat), I4 [t8, t9] H2 ∧ ∀ L6 H7, I4 L6 H7 → -- [t8, t9]
 letO (some ((L6.getD 1 .any) : AV)) fun t21 =>
 letO (some (x1 : AV)) fun t22 =>
 letO (binF Try.prog .leq 3 t21 t22) fun t23 =>
 condA t23 true (
 true = true ∧ ∃ J8 : List AV → Heap → Prop, (
 letO (loadN 2 (.iptr c1) H7) fun t26 =>
 letO (some (t7 : AV)) fun t27 =>
 letO (some ((L6.getD 1 .any) : AV)) fun t28 =>
 ACalls Try.prog 79 [t26, t27, t28] H7 fun t29 H9 =>
 letO (binF Try.prog .geq 3 t29 (.int .i64 0)) fun t30 =>
 condA t30 true (
 true = true ∧
 letO (some ((L6.getD 0 .any) : AV)) fun t31 =>
 letO (loadN 2 (.iptr c1) Heap.none) fun t32 =>
 letO (some (x1 : AV)) fun t33 =>
 letO (literalF Try.prog 22 0 []) fun c10 =>
 letO (some (x2 : AV)) fun t35 =>
 letO (some ((L6.getD 1 .any) : AV)) fun t37 =>
 letO (literalF Try.prog 22 1 [(0, t37)]) fun c11 =>
 isRef (.imm 0 true c10) = false ∧ appendA 1 8 (.imm 0 true c10) t35 (fun t36 H12 =>
 appendA 1 8 t36 (.imm 1 true c11) (fun t39 H13 =>
 ∃ t40, (ACalls Try.prog 88 [t32, t33, t39] H13 fun r h => r = t40 ∧ h = H13) ∧
 appendA 1 24 t31 t40 (fun t41 H14 =>
 letO (some (t41 : AV)) fun t8 =>
 J8 [t8] H14) H13) H12) H9) (
 J8 [(L6.getD 0 .any)] H9)) ∧ ∀ L15 H16, J8 L15 H16 → -- [t8]
 letO (some ((L6.getD 1 .any) : AV)) fun t24 =>
 letO (binF Try.prog .add 3 t24 (.int .i64 1)) fun t25 =>
 letO (some (t25 : AV)) fun t9 =>
 I4 [(L15.getD 0 .any), t9] H16 ∧ μ5 [(L15.getD 0 .any), t9] H16 < μ5 L6 H7) (
 letO (some ((L6.getD 0 .any) : AV)) fun t42 =>
 letO (some (t42 : AV)) fun t6 =>
endK t6 H7 K))

theorem W88_ok {x0 x1 x2 : AV} {H : Heap} {K : AV → Heap → Prop} (h : W88 x0 x1 x2 H K) : ACalls Try.prog 88 [x0, x1, x2] H K :=
  acallsB (fn := Try.f88) (cfg := cfgOf [] [32] [(9, [0, 0, 0, 0, 0, 24, 0, 64, 248, 510, 1023, 2047])] [36] []) (hh := (.dir .nil (.dir .nil (.dir (.dir .nil (.dir .nil .nil)) (.dir .nil (.dir (.dir .nil (.blk (.loop [8, 9] [21, 22, 23, 26, 27, 28, 29, 30, 31, 32, 33, 34, 35, 36, 37, 38, 39, 40, 41, 8, 24, 25, 9] (.dir (.dir .nil .nil) (.cut [8] [26, 27, 28, 29, 30, 31, 32, 33, 34, 35, 36, 37, 38, 39, 40, 41, 8] (.blk (.dir .nil .nil)) .nil))))) .nil)))))) follows Try.func88 (by kernel_rfl) (Nat.le_of_ble_eq_true (by kernel_rfl)) (by kernel_rfl) h

/-- cmp.isNaN[int] -/
def W94 (x0 : AV) (H : Heap) (K : AV → Heap → Prop) : Prop :=
 letO (some ((.bool false) : AV)) fun t2 =>
 letO (some (x0 : AV)) fun t3 =>
 letO (some (x0 : AV)) fun t4 =>
 letO (binF Try.prog .neq 3 t3 t4) fun t5 =>
 letO (some (t5 : AV)) fun t2 =>
endK t2 H K

theorem W94_ok {x0 : AV} {H : Heap} {K : AV → Heap → Prop} (h : W94 x0 H K) : ACalls Try.prog 94 [x0] H K :=
  acallsB (fn := Try.f94) (cfg := cfgOf [] [] [] [] []) (hh := (.dir .nil .nil)) follows Try.func94 (by kernel_rfl) (Nat.le_of_ble_eq_true (by kernel_rfl)) (by kernel_rfl) h


end Go.Proofs.Ytlajhbpkogekfaa
