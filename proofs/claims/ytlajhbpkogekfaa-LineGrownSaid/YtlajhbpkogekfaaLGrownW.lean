import Derived.Test.YtlajhbpkogekfaaCon
/- The functions of the statement LineGrown that the line package does not hold, each in the words of its walk; made by program. -/
set_option linter.unusedVariables false
set_option maxRecDepth 100000
namespace Go.Proofs.Ytlajhbpkogekfaa
open Go.Av
/-- headword.headwordlaw13.LineGrown -/
def W7 (x0 x1 x2 x3 : AV) (H : Heap) (K : AV → Heap → Prop) : Prop :=
 letO (cellsOf? x0) fun c1 =>
 letO (cellsOf? x1) fun c2 =>
 letO (some ((.bool false) : AV)) fun t8 =>
 letO (loadN 13 (.iptr c1) H) fun t24 =>
 ACalls Try.prog 34 [t24, (.int .i64 8)] H fun t25 H3 =>
 allocA [(.int .i64 0), .nils] (fun t9 H4 =>
 storeA 2 t9 t25 (fun H5 =>
 letO (loadN 2 t9 H5) fun t26 =>
 letO (loadN 10 (.iptr c2) H5) fun t27 =>
 ACalls Try.prog 39 [t26, t27] H5 fun t28 H6 =>
 allocA [.nils] (fun t10 H7 =>
 storeA 1 t10 t28 (fun H8 =>
 letO (some (x2 : AV)) fun t29 =>
 letO (convF Try.prog 5 3 t29) fun t30 =>
 letO (faddr 1 t9) fun t31 =>
 letO (load1 t31 H8) fun t32 =>
 letO (lenA t32) fun t33 =>
 letO (binF Try.prog .rem 3 t30 t33) fun t34 =>
 letO (some (x3 : AV)) fun t35 =>
 letO (convF Try.prog 5 3 t35) fun t36 =>
 letO (binF Try.prog .rem 3 t36 (.int .i64 6)) fun t37 =>
 letO (binF Try.prog .add 3 (.int .i64 1) t37) fun t38 =>
 letO (some (t34 : AV)) fun t11 =>
 letO (some (t38 : AV)) fun t12 =>
 letO (loadN 2 t9 H8) fun t40 =>
 letO (load1 t10 H8) fun t41 =>
 letO (some (t11 : AV)) fun t42 =>
 letO (some (t12 : AV)) fun t43 =>
 ACalls Try.prog 32 [t40, t41, t42, t43] H8 fun t44 H9 =>
 letO (some (t44 : AV)) fun t39 =>
 letO (extrF t39 0) fun t45 =>
 letO (extrF t39 1) fun t46 =>
 letO (extrF t39 2) fun t47 =>
 letO (some (t45 : AV)) fun t13 =>
 letO (some (t46 : AV)) fun t14 =>
 letO (some (t47 : AV)) fun t15 =>
 true = true ∧
 letO (faddr 1 t9) fun t48 =>
 letO (load1 t48 H9) fun t49 =>
 letO (some (t11 : AV)) fun t50 =>
 letO (idx 1 t49 t50) fun t51 =>
 letO (load1 t51 H9) fun t52 =>
 letO (some (t12 : AV)) fun t53 =>
 letO (binF Try.prog .add 3 t52 t53) fun t54 =>
 letO (faddr 0 t9) fun t55 =>
 letO (load1 t55 H9) fun t56 =>
 letO (binF Try.prog .gtr 3 t54 t56) fun t57 =>
 condA t57 true (
 letO (some (t15 : AV)) fun t58 =>
 letO (binF Try.prog .eql 27 t58 (.int .i64 12)) fun t59 =>
 letO (some (t59 : AV)) fun t60 =>
 letO (gval t60 true (some (t13 : AV))) fun t61 =>
 letO (gval t60 true (lenA t61)) fun t62 =>
 letO (gval t60 true (binF Try.prog .eql 3 t62 (.int .i64 0))) fun t63 =>
 letO (pickF t60 t63 (.bool false)) fun t64 =>
 letO (some (t64 : AV)) fun t65 =>
 letO (gval t65 true (some (t14 : AV))) fun t66 =>
 letO (gval t65 true (binF Try.prog .eql 3 t66 (.int .i64 0))) fun t67 =>
 letO (pickF t65 t67 (.bool false)) fun t68 =>
 letO (some (t68 : AV)) fun t69 =>
 ∃ J10 : AV → Heap → Prop, condG t69 true (ACalls Try.prog 16 [] H9 fun t70 H11 =>
 J10 t70 H11) (J10 (.tup []) H9) ∧ ∀ t70 H12, J10 t70 H12 →
 letO (pickF t69 t70 (.bool false)) fun t71 =>
 letO (some (t71 : AV)) fun t8 =>
endK t8 H12 K) (
 true = true ∧
 letO (faddr 0 t9) fun t72 =>
 letO (load1 t72 H9) fun t73 =>
 letO (faddr 1 t9) fun t74 =>
 letO (load1 t74 H9) fun t75 =>
 true = true ∧ ACalls Try.prog 40 [t75] H9 fun t76 H13 =>
 H9.le H13 ∧
 letO (buildF Try.prog 24 [(0, t73), (1, t76)]) fun t77 =>
 true = true ∧ allocA [(.int .i64 0), .nils] (fun t16 H14 =>
 H9.le H14 ∧
 true = true ∧ storeA 2 t16 t77 (fun H15 =>
 H9.le H15 ∧
 letO (faddr 1 t16) fun t78 =>
 letO (load1 t78 H15) fun t79 =>
 letO (some (t11 : AV)) fun t80 =>
 letO (idx 1 t79 t80) fun t81 =>
 letO (load1 t81 H15) fun t82 =>
 letO (some (t12 : AV)) fun t83 =>
 letO (binF Try.prog .add 3 t82 t83) fun t84 =>
 letO (idx 1 t79 t80) fun t85 =>
 storeA 1 t85 t84 (fun H16 =>
 letO (load1 t10 H16) fun t86 =>
 ACalls Try.prog 40 [t86] H16 fun t87 H17 =>
 allocA [.nils] (fun t17 H18 =>
 storeA 1 t17 t87 (fun H19 =>
 letO (load1 t17 H19) fun t88 =>
 letO (lenA t88) fun t89 =>
 letO (some ((.int .i64 0) : AV)) fun t90 =>
 true = true ∧ ∃ (I20 : List AV → Heap → Prop) (μ21 : List AV → Heap → Nat), I20 [t90] H19 ∧ ∀ L22 H23, I20 L22 H23 → -- [t90]
 letO (binF Try.prog .lss 3 (L22.getD 0 .any) t89) fun t91 =>
 condA t91 true (
 letO (some ((L22.getD 0 .any) : AV)) fun t92 =>
 letO (some (t92 : AV)) fun t18 =>
 letO (load1 t17 H23) fun t93 =>
 letO (some (t18 : AV)) fun t94 =>
 letO (idx 1 t93 t94) fun t95 =>
 storeA 1 t95 (.int .i64 0) (fun H24 =>
 letO (binF Try.prog .add 3 (L22.getD 0 .any) (.int .i64 1)) fun t96 =>
 letO (some (t96 : AV)) fun t90 =>
 I20 [t90] H24 ∧ μ21 [t90] H24 < μ21 L22 H23) H23) (
 allocA [(.bool false)] (fun t19 H25 =>
 storeA 1 t19 (.bool false) (fun H26 =>
 letO (loadN 2 t16 H26) fun t97 =>
 letO (some (AV.fn 41 [t10, t19, t17])) fun t98 =>
 ACalls Try.prog 37 [t97, t98] H26 fun t99 H27 =>
 true = true ∧
 letO (load1 t19 H27) fun t100 =>
 letO (unF .not t100) fun t101 =>
 letO (some (t101 : AV)) fun t102 =>
 letO (gval t102 false (some (t15 : AV))) fun t103 =>
 letO (gval t102 false (binF Try.prog .neq 27 t103 (.int .i64 0))) fun t104 =>
 letO (pickF t102 (.bool true) t104) fun t105 =>
 letO (some (t105 : AV)) fun t106 =>
 letO (gval t106 false (loadN 2 t16 H27)) fun t107 =>
 letO (gval t106 false (some (t13 : AV))) fun t108 =>
 ∃ J28 : AV → Heap → Prop, condG t106 false (ACalls Try.prog 42 [t107, t108] H27 fun t109 H29 =>
 J28 t109 H29) (J28 (.tup []) H27) ∧ ∀ t109 H30, J28 t109 H30 →
 letO (gval t106 false (binF Try.prog .neq 27 t109 (.int .i64 0))) fun t110 =>
 letO (pickF t106 (.bool true) t110) fun t111 =>
 letO (some (t111 : AV)) fun t112 =>
 letO (gval t112 false (some (t13 : AV))) fun t113 =>
 letO (gval t112 false (lenA t113)) fun t114 =>
 letO (gval t112 false (load1 t10 H30)) fun t115 =>
 letO (gval t112 false (lenA t115)) fun t116 =>
 letO (gval t112 false (binF Try.prog .lss 3 t114 t116)) fun t117 =>
 letO (pickF t112 (.bool true) t117) fun t118 =>
 letO (some (t118 : AV)) fun t119 =>
 letO (gval t119 false (some (t13 : AV))) fun t120 =>
 letO (gval t119 false (load1 t10 H30)) fun t121 =>
 letO (gval t119 false (lenA t121)) fun t122 =>
 letO (gval t119 false (slc 1 t120 none (some t122) none)) fun t123 =>
 letO (gval t119 false (load1 t17 H30)) fun t124 =>
 ∃ J31 : AV → Heap → Prop, condG t119 false (ACalls Try.prog 25 [t123, t124] H30 fun t125 H32 =>
 J31 t125 H32) (J31 (.tup []) H30) ∧ ∀ t125 H33, J31 t125 H33 →
 letO (gval t119 false (unF .not t125)) fun t126 =>
 letO (pickF t119 (.bool true) t126) fun t127 =>
 condA t127 true (
 letO (some ((.bool false) : AV)) fun t8 =>
endK t8 H33 K) (
 letO (some (t13 : AV)) fun t128 =>
 letO (load1 t10 H33) fun t129 =>
 letO (lenA t129) fun t130 =>
 letO (binF Try.prog .sub 3 t130 (.int .i64 1)) fun t131 =>
 letO (idx 1 t128 t131) fun t132 =>
 letO (load1 t132 H33) fun t133 =>
 letO (some (t133 : AV)) fun t20 =>
 letO (some (t13 : AV)) fun t134 =>
 letO (load1 t10 H33) fun t135 =>
 letO (lenA t135) fun t136 =>
 letO (slc 1 t134 (some t136) none none) fun t137 =>
 letO (lenA t137) fun t138 =>
 letO (some ((.int .i64 0) : AV)) fun t139 =>
 true = true ∧ ∃ (I34 : List AV → Heap → Prop) (μ35 : List AV → Heap → Nat), I34 [t20, t139] H33 ∧ ∀ L36 H37, I34 L36 H37 → -- [t20, t139]
 letO (binF Try.prog .lss 3 (L36.getD 1 .any) t138) fun t140 =>
 condA t140 true (
 letO (idx 1 t137 (L36.getD 1 .any)) fun t141 =>
 letO (load1 t141 H37) fun t142 =>
 letO (some (t142 : AV)) fun t22 =>
 letO (some (t22 : AV)) fun t143 =>
 letO (faddr 1 t9) fun t144 =>
 letO (load1 t144 H37) fun t145 =>
 letO (lenA t145) fun t146 =>
 letO (binF Try.prog .neq 3 t143 t146) fun t147 =>
 letO (some (t147 : AV)) fun t148 =>
 letO (gval t148 true (loadN 2 t16 H37)) fun t149 =>
 letO (gval t148 true (some ((L36.getD 0 .any) : AV))) fun t150 =>
 letO (gval t148 true (some (t22 : AV))) fun t151 =>
 letO (gval t148 true (binF Try.prog .add 3 t151 (.int .i64 1))) fun t152 =>
 ∃ J38 : AV → Heap → Prop, condG t148 true (ACalls Try.prog 43 [t149, t150, t152] H37 fun t153 H39 =>
 J38 t153 H39) (J38 (.tup []) H37) ∧ ∀ t153 H40, J38 t153 H40 →
 letO (gval t148 true (binF Try.prog .geq 3 t153 (.int .i64 0))) fun t154 =>
 letO (pickF t148 t154 (.bool false)) fun t155 =>
 condA t155 true (
 letO (some ((.bool false) : AV)) fun t8 =>
endK t8 H40 K) (
 letO (some (t22 : AV)) fun t156 =>
 letO (some (t156 : AV)) fun t20 =>
 letO (binF Try.prog .add 3 (L36.getD 1 .any) (.int .i64 1)) fun t157 =>
 letO (some (t157 : AV)) fun t139 =>
 I34 [t20, t139] H40 ∧ μ35 [t20, t139] H40 < μ35 L36 H37)) (
 letO (some ((.int .i64 0) : AV)) fun t23 =>
 true = true ∧ ∃ (I41 : List AV → Heap → Prop) (μ42 : List AV → Heap → Nat), I41 [t23] H37 ∧ ∀ L43 H44, I41 L43 H44 → -- [t23]
 letO (load1 t10 H44) fun t158 =>
 letO (some ((L43.getD 0 .any) : AV)) fun t159 =>
 letO (idx 1 t158 t159) fun t160 =>
 letO (load1 t160 H44) fun t161 =>
 letO (some (t11 : AV)) fun t162 =>
 letO (binF Try.prog .leq 3 t161 t162) fun t163 =>
 condA t163 true (
 letO (some ((L43.getD 0 .any) : AV)) fun t164 =>
 letO (binF Try.prog .add 3 t164 (.int .i64 1)) fun t165 =>
 letO (some (t165 : AV)) fun t23 =>
 I41 [t23] H44 ∧ μ42 [t23] H44 < μ42 L43 H44) (
 true = true ∧ ∃ (I45 : List AV → Heap → Prop) (μ46 : List AV → Heap → Nat), I45 [(L43.getD 0 .any)] H44 ∧ ∀ L47 H48, I45 L47 H48 → -- [t23]
 true = true ∧
 letO (some ((L47.getD 0 .any) : AV)) fun t166 =>
 letO (load1 t10 H48) fun t167 =>
 letO (lenA t167) fun t168 =>
 letO (binF Try.prog .lss 3 t166 t168) fun t169 =>
 letO (some (t169 : AV)) fun t170 =>
 letO (gval t170 true (some (t13 : AV))) fun t171 =>
 letO (gval t170 true (some ((L47.getD 0 .any) : AV))) fun t172 =>
 letO (gval t170 true (idx 1 t171 t172)) fun t173 =>
 letO (gval t170 true (load1 t173 H48)) fun t174 =>
 letO (gval t170 true (load1 t10 H48)) fun t175 =>
 letO (gval t170 true (some ((L47.getD 0 .any) : AV))) fun t176 =>
 letO (gval t170 true (idx 1 t175 t176)) fun t177 =>
 letO (gval t170 true (load1 t177 H48)) fun t178 =>
 letO (gval t170 true (binF Try.prog .neq 3 t174 t178)) fun t179 =>
 letO (pickF t170 t179 (.bool false)) fun t180 =>
 condA t180 true (
 letO (some ((L47.getD 0 .any) : AV)) fun t181 =>
 letO (binF Try.prog .add 3 t181 (.int .i64 1)) fun t182 =>
 letO (some (t182 : AV)) fun t23 =>
 I45 [t23] H48 ∧ μ46 [t23] H48 < μ46 L47 H48) (
 true = true ∧ ∃ J49 : List AV → Heap → Prop, (
 letO (some ((L47.getD 0 .any) : AV)) fun t183 =>
 letO (load1 t10 H48) fun t184 =>
 letO (lenA t184) fun t185 =>
 letO (binF Try.prog .eql 3 t183 t185) fun t186 =>
 condA t186 true (
 letO (some (t13 : AV)) fun t187 =>
 letO (lenA t187) fun t188 =>
 letO (binF Try.prog .sub 3 t188 (.int .i64 1)) fun t189 =>
 letO (some (t189 : AV)) fun t23 =>
 J49 [t23] H48) (
 J49 [(L47.getD 0 .any)] H48)) ∧ ∀ L50 H51, J49 L50 H51 → -- [t23]
 letO (some (t14 : AV)) fun t190 =>
 letO (some ((L50.getD 0 .any) : AV)) fun t191 =>
 letO (binF Try.prog .eql 3 t190 t191) fun t192 =>
 letO (some (t192 : AV)) fun t193 =>
 ∃ J52 : AV → Heap → Prop, condG t193 true (ACalls Try.prog 16 [] H51 fun t194 H53 =>
 J52 t194 H53) (J52 (.tup []) H51) ∧ ∀ t194 H54, J52 t194 H54 →
 letO (pickF t193 t194 (.bool false)) fun t195 =>
 letO (some (t195 : AV)) fun t8 =>
endK t8 H54 K))))) H25) H23)) H18) H17) H15) H14) H13)) H7) H6) H4) H3

theorem W7_ok {x0 x1 x2 x3 : AV} {H : Heap} {K : AV → Heap → Prop} (h : W7 x0 x1 x2 x3 H K) : ACalls Try.prog 7 [x0, x1, x2, x3] H K :=
  acallsB (fn := Try.f7) (cfg := cfgOf [] [] [(5, [0, 1, 0, 7, 15, 0, 63, 0, 128, 511]), (7, [0, 1, 0, 4, 12, 31, 0, 127]), (17, [0, 1, 3, 7, 15, 31, 63, 127, 127, 511, 1023, 2047, 4095, 8191, 16383, 8191, 40959, 131071, 262143, 524287, 1048575, 1048575, 3145727, 8388607, 1048575, 33554431, 67108863, 134217727]), (30, [0, 0, 2, 7, 15, 31, 31, 127, 255, 31, 31, 1567, 3615, 8191, 16383])] [76] []) (hh := (.dir .nil (.dir .nil (.dir .nil (.dir .nil (.dir .nil (.dir (.dir .nil (.dir .nil .nil)) (.dir .nil (.dir .nil (.dir .nil (.dir (.dir .nil (.blk (.loop [90] [91, 92, 18, 93, 94, 95, 96, 90] (.dir .nil (.dir .nil (.dir .nil .nil)))))) (.dir .nil (.dir .nil (.dir (.dir .nil (.dir .nil .nil)) (.dir .nil (.dir (.dir .nil (.blk (.loop [20, 139] [140, 141, 142, 22, 143, 144, 145, 146, 147, 148, 149, 150, 151, 152, 153, 154, 155, 8, 156, 20, 157, 139] (.dir .nil (.dir .nil (.dir (.blk (.dir .nil (.dir (.dir .nil (.dir .nil .nil)) .nil))) .nil)))))) (.dir .nil (.dir (.blk (.loop [23] [158, 159, 160, 161, 162, 163, 164, 165, 23] (.dir (.dir .nil .nil) .nil))) (.dir (.blk (.loop [23] [166, 167, 168, 169, 170, 171, 172, 173, 174, 175, 176, 177, 178, 179, 180, 181, 182, 23] (.dir (.dir .nil .nil) .nil))) (.cut [23] [183, 184, 185, 186, 187, 188, 189, 23] (.dir .nil .nil) .nil)))))))))))))))))))) follows Try.func7 (by kernel_rfl) (Nat.le_of_ble_eq_true (by kernel_rfl)) (by kernel_rfl) h

/-- (headword.headwordlaw13.Galley).made -/
def W34 (x0 x1 : AV) (H : Heap) (K : AV → Heap → Prop) : Prop :=
 letO (cellsOf? x0) fun c1 =>
 allocA [(.int .i64 0), .nils] (fun t4 H2 =>
 letO (faddr 0 (.iptr c1)) fun t9 =>
 letO (load1 t9 H2) fun t10 =>
 letO (convF Try.prog 5 3 t10) fun t11 =>
 letO (binF Try.prog .rem 3 t11 (.int .i64 40)) fun t12 =>
 letO (binF Try.prog .add 3 (.int .i64 1) t12) fun t13 =>
 letO (buildF Try.prog 24 [(0, t13)]) fun t14 =>
 allocA [(.int .i64 0), .nils] (fun t5 H3 =>
 storeA 2 t5 t14 (fun H4 =>
 letO (faddr 0 t5) fun t15 =>
 letO (load1 t15 H4) fun t16 =>
 letO (some (t16 : AV)) fun t6 =>
 true = true ∧ ∃ J5 : List AV → Heap → Prop, (
 letO (faddr 2 (.iptr c1)) fun t17 =>
 letO (load1 t17 H4) fun t18 =>
 letO (binF Try.prog .rem 5 t18 (.int .u8 3)) fun t19 =>
 letO (binF Try.prog .gtr 5 t19 (.int .u8 0)) fun t20 =>
 condA t20 true (
 letO (faddr 0 t5) fun t21 =>
 letO (load1 t21 H4) fun t22 =>
 letO (binF Try.prog .quo 3 t22 (.int .i64 2)) fun t23 =>
 letO (binF Try.prog .add 3 (.int .i64 1) t23) fun t24 =>
 letO (some (t24 : AV)) fun t6 =>
 J5 [t6] H4) (
 J5 [t6] H4)) ∧ ∀ L6 H7, J5 L6 H7 → -- [t6]
 letO (faddr 3 (.iptr c1)) fun t25 =>
 letO (faddr 1 (.iptr c1)) fun t26 =>
 letO (load1 t26 H7) fun t27 =>
 letO (convF Try.prog 5 3 t27) fun t28 =>
 letO (some (x1 : AV)) fun t29 =>
 letO (binF Try.prog .rem 3 t28 t29) fun t30 =>
 letO (binF Try.prog .add 3 (.int .i64 1) t30) fun t31 =>
 letO (slcArr 10 1 t25 none (some t31) none) fun t32 =>
 letO (lenA t32) fun t33 =>
 letO (some ((.int .i64 0) : AV)) fun t34 =>
 true = true ∧ ∃ (I8 : List AV → Heap → Prop) (μ9 : List AV → Heap → Nat), I8 [t34] H7 ∧ ∀ L10 H11, I8 L10 H11 → -- [t34]
 letO (binF Try.prog .lss 3 (L10.getD 0 .any) t33) fun t35 =>
 condA t35 true (
 letO (idx 1 t32 (L10.getD 0 .any)) fun t36 =>
 letO (load1 t36 H11) fun t37 =>
 letO (some (t37 : AV)) fun t8 =>
 true = true ∧
 letO (faddr 1 t5) fun t38 =>
 letO (load1 t38 H11) fun t39 =>
 letO (some (t8 : AV)) fun t40 =>
 letO (convF Try.prog 5 3 t40) fun t41 =>
 letO (some ((L6.getD 0 .any) : AV)) fun t42 =>
 letO (faddr 0 t5) fun t43 =>
 letO (load1 t43 H11) fun t44 =>
 letO (min2F t42 t44) fun t45 =>
 letO (binF Try.prog .rem 3 t41 t45) fun t46 =>
 letO (binF Try.prog .add 3 (.int .i64 1) t46) fun t47 =>
 letO (literalF Try.prog 22 1 [(0, t47)]) fun c12 =>
 appendA 1 8 t39 (.imm 1 true c12) (fun t49 H13 =>
 letO (faddr 1 t5) fun t50 =>
 storeA 1 t50 t49 (fun H14 =>
 letO (binF Try.prog .add 3 (L10.getD 0 .any) (.int .i64 1)) fun t51 =>
 letO (some (t51 : AV)) fun t34 =>
 I8 [t34] H14 ∧ μ9 [t34] H14 < μ9 L10 H11) H13) H11) (
 letO (loadN 2 t5 H11) fun t52 =>
 storeA 2 t4 t52 (fun H15 =>
 letO (loadN 2 t4 H15) fun r16 => endK r16 H15 K) H11)) H3) H2) H

theorem W34_ok {x0 x1 : AV} {H : Heap} {K : AV → Heap → Prop} (h : W34 x0 x1 H K) : ACalls Try.prog 34 [x0, x1] H K :=
  acallsB (fn := Try.f34) (cfg := cfgOf [] [] [(8, [0, 1, 0, 4, 0, 0, 32, 112, 252, 508, 1020, 2047, 4095, 8191])] [] []) (hh := (.dir .nil (.dir .nil (.dir .nil (.cut [6] [17, 18, 19, 20, 21, 22, 23, 24, 6] (.dir .nil .nil) (.dir (.dir .nil (.blk (.loop [34] [35, 36, 37, 8, 38, 39, 40, 41, 42, 43, 44, 45, 46, 47, 48, 49, 50, 51, 34] (.dir .nil (.dir .nil (.dir .nil .nil)))))) .nil)))))) follows Try.func34 (by kernel_rfl) (Nat.le_of_ble_eq_true (by kernel_rfl)) (by kernel_rfl) h

/-- headword.headwordlaw13.each -/
def W37 (x0 x1 : AV) (H : Heap) (K : AV → Heap → Prop) : Prop :=
 letO (cellsOf? x0) fun c1 =>
 letO (cellsOf? x1) fun c2 =>
 allocA [.nilf] (fun t4 H3 =>
 letO (some (AV.fn 80 [(.iptr c1), (.iptr c2), t4])) fun t5 =>
 storeA 1 t4 t5 (fun H4 =>
 letO (load1 t4 H4) fun t6 =>
 callA Try.prog t6 [.nils, .nils, (.int .i64 0)] (fun t7 H5 =>
endK (.tup []) H5 K) H4) H3) H

theorem W37_ok {x0 x1 : AV} {H : Heap} {K : AV → Heap → Prop} (h : W37 x0 x1 H K) : ACalls Try.prog 37 [x0, x1] H K :=
  acallsB (fn := Try.f37) (cfg := cfgOf [] [] [] [] []) (hh := (.dir .nil (.dir .nil .nil))) follows Try.func37 (by kernel_rfl) (Nat.le_of_ble_eq_true (by kernel_rfl)) (by kernel_rfl) h

/-- headword.headwordlaw13.broken -/
def W39 (x0 x1 : AV) (H : Heap) (K : AV → Heap → Prop) : Prop :=
 letO (cellsOf? x0) fun c1 =>
 letO (cellsOf? x1) fun c2 =>
 letO (some (.nils : AV)) fun t4 =>
 letO (some (.nils : AV)) fun t5 =>
 letO (some ((.int .i64 0) : AV)) fun t6 =>
 true = true ∧ ∃ (I3 : List AV → Heap → Prop) (μ4 : List AV → Heap → Nat), I3 [t5, t6] H ∧ ∀ L5 H6, I3 L5 H6 → -- [t5, t6]
 letO (some ((L5.getD 1 .any) : AV)) fun t8 =>
 letO (faddr 1 (.iptr c1)) fun t9 =>
 letO (load1 t9 H6) fun t10 =>
 letO (lenA t10) fun t11 =>
 letO (binF Try.prog .lss 3 t8 t11) fun t12 =>
 condA t12 true (
 letO (some ((L5.getD 1 .any) : AV)) fun t13 =>
 letO (binF Try.prog .add 3 t13 (.int .i64 1)) fun t14 =>
 letO (some (t14 : AV)) fun t7 =>
 true = true ∧ ∃ (I7 : List AV → Heap → Prop) (μ8 : List AV → Heap → Nat), I7 [t7] H6 ∧ ∀ L9 H10, I7 L9 H10 → -- [t7]
 letO (some ((L9.getD 0 .any) : AV)) fun t15 =>
 letO (faddr 1 (.iptr c1)) fun t16 =>
 letO (load1 t16 H10) fun t17 =>
 letO (lenA t17) fun t18 =>
 letO (binF Try.prog .lss 3 t15 t18) fun t19 =>
 letO (some (t19 : AV)) fun t20 =>
 letO (gval t20 true (loadN 2 (.iptr c1) H10)) fun t21 =>
 letO (gval t20 true (some ((L5.getD 1 .any) : AV))) fun t22 =>
 letO (gval t20 true (some ((L9.getD 0 .any) : AV))) fun t23 =>
 letO (gval t20 true (binF Try.prog .add 3 t23 (.int .i64 1))) fun t24 =>
 ∃ J11 : AV → Heap → Prop, condG t20 true (ACalls Try.prog 43 [t21, t22, t24] H10 fun t25 H12 =>
 J11 t25 H12) (J11 (.tup []) H10) ∧ ∀ t25 H13, J11 t25 H13 →
 letO (gval t20 true (binF Try.prog .geq 3 t25 (.int .i64 0))) fun t26 =>
 letO (pickF t20 t26 (.bool false)) fun t27 =>
 letO (some (t27 : AV)) fun t28 =>
 letO (gval t28 true (some ((L9.getD 0 .any) : AV))) fun t29 =>
 letO (gval t28 true (idxArr 10 1 (.iptr c2) t29)) fun t30 =>
 letO (gval t28 true (load1 t30 H13)) fun t31 =>
 letO (gval t28 true (binF Try.prog .rem 5 t31 (.int .u8 4))) fun t32 =>
 letO (gval t28 true (binF Try.prog .gtr 5 t32 (.int .u8 0))) fun t33 =>
 letO (pickF t28 t33 (.bool false)) fun t34 =>
 condA t34 true (
 letO (some ((L9.getD 0 .any) : AV)) fun t35 =>
 letO (binF Try.prog .add 3 t35 (.int .i64 1)) fun t36 =>
 letO (some (t36 : AV)) fun t7 =>
 I7 [t7] H13 ∧ μ8 [t7] H13 < μ8 L9 H10) (
 letO (some ((L5.getD 0 .any) : AV)) fun t37 =>
 letO (some ((L9.getD 0 .any) : AV)) fun t38 =>
 letO (literalF Try.prog 22 1 [(0, t38)]) fun c14 =>
 appendA 1 8 t37 (.imm 1 true c14) (fun t40 H15 =>
 letO (some (t40 : AV)) fun t5 =>
 letO (some ((L9.getD 0 .any) : AV)) fun t41 =>
 letO (some (t41 : AV)) fun t6 =>
 I3 [t5, t6] H15 ∧ μ4 [t5, t6] H15 < μ4 L5 H6) H13)) (
 letO (some ((L5.getD 0 .any) : AV)) fun t42 =>
 letO (some (t42 : AV)) fun t4 =>
endK t4 H6 K)

theorem W39_ok {x0 x1 : AV} {H : Heap} {K : AV → Heap → Prop} (h : W39 x0 x1 H K) : ACalls Try.prog 39 [x0, x1] H K :=
  acallsB (fn := Try.f39) (cfg := cfgOf [] [] [] [] []) (hh := (.dir .nil (.dir .nil (.dir (.dir .nil (.blk (.loop [5, 6] [8, 9, 10, 11, 12, 13, 14, 7, 15, 16, 17, 18, 19, 20, 21, 22, 23, 24, 25, 26, 27, 28, 29, 30, 31, 32, 33, 34, 35, 36, 37, 38, 39, 40, 5, 41, 6] (.dir (.dir .nil .nil) (.blk (.dir .nil (.dir (.blk (.loop [7] [15, 16, 17, 18, 19, 20, 21, 22, 23, 24, 25, 26, 27, 28, 29, 30, 31, 32, 33, 34, 35, 36, 7] (.dir (.dir .nil .nil) .nil))) .nil))))))) .nil)))) follows Try.func39 (by kernel_rfl) (Nat.le_of_ble_eq_true (by kernel_rfl)) (by kernel_rfl) h

/-- headword.headwordlaw13.LineGrown$1 -/
def W41 (x0 x1 x2 x3 x4 : AV) (H : Heap) (K : AV → Heap → Prop) : Prop :=
 letO (some (x0 : AV)) fun t10 =>
 letO (lenA t10) fun t11 =>
 letO (some ((.int .i64 0) : AV)) fun t12 =>
 true = true ∧ ∃ (I1 : List AV → Heap → Prop) (μ2 : List AV → Heap → Nat), I1 [t12] H ∧ ∀ L3 H4, I1 L3 H4 → -- [t12]
 letO (binF Try.prog .lss 3 (L3.getD 0 .any) t11) fun t13 =>
 condA t13 true (
 letO (some ((L3.getD 0 .any) : AV)) fun t14 =>
 letO (idx 1 t10 (L3.getD 0 .any)) fun t15 =>
 letO (load1 t15 H4) fun t16 =>
 letO (some (t14 : AV)) fun t7 =>
 letO (some (t16 : AV)) fun t8 =>
 letO (some (t7 : AV)) fun t17 =>
 letO (load1 x2 H4) fun t18 =>
 letO (lenA t18) fun t19 =>
 letO (binF Try.prog .lss 3 t17 t19) fun t20 =>
 letO (some (t20 : AV)) fun t21 =>
 letO (gval t21 true (some (t8 : AV))) fun t22 =>
 letO (gval t21 true (load1 x2 H4)) fun t23 =>
 letO (gval t21 true (some (t7 : AV))) fun t24 =>
 letO (gval t21 true (idx 1 t23 t24)) fun t25 =>
 letO (gval t21 true (load1 t25 H4)) fun t26 =>
 letO (gval t21 true (binF Try.prog .gtr 3 t22 t26)) fun t27 =>
 letO (pickF t21 t27 (.bool false)) fun t28 =>
 condA t28 true (
endK (.tup []) H4 K) (
 letO (binF Try.prog .add 3 (L3.getD 0 .any) (.int .i64 1)) fun t29 =>
 letO (some (t29 : AV)) fun t12 =>
 I1 [t12] H4 ∧ μ2 [t12] H4 < μ2 L3 H4)) (
 storeA 1 x3 (.bool true) (fun H5 =>
 letO (load1 x4 H5) fun t30 =>
 letO (lenA t30) fun t31 =>
 letO (some ((.int .i64 0) : AV)) fun t32 =>
 true = true ∧ ∃ (I6 : List AV → Heap → Prop) (μ7 : List AV → Heap → Nat), I6 [t32] H5 ∧ ∀ L8 H9, I6 L8 H9 → -- [t32]
 letO (binF Try.prog .lss 3 (L8.getD 0 .any) t31) fun t33 =>
 condA t33 true (
 true = true ∧ ∃ J10 : List AV → Heap → Prop, (
 letO (some ((L8.getD 0 .any) : AV)) fun t34 =>
 letO (some (t34 : AV)) fun t9 =>
 letO (some (t9 : AV)) fun t35 =>
 letO (some (x0 : AV)) fun t36 =>
 letO (lenA t36) fun t37 =>
 letO (binF Try.prog .lss 3 t35 t37) fun t38 =>
 condA t38 true (
 true = true ∧
 letO (load1 x4 H9) fun t39 =>
 letO (some (t9 : AV)) fun t40 =>
 letO (load1 x4 H9) fun t41 =>
 letO (some (t9 : AV)) fun t42 =>
 letO (idx 1 t41 t42) fun t43 =>
 letO (load1 t43 H9) fun t44 =>
 letO (some (x0 : AV)) fun t45 =>
 letO (some (t9 : AV)) fun t46 =>
 letO (idx 1 t45 t46) fun t47 =>
 letO (load1 t47 H9) fun t48 =>
 letO (max2F t44 t48) fun t49 =>
 letO (idx 1 t39 t40) fun t50 =>
 storeA 1 t50 t49 (fun H11 =>
 J10 [] H11) H9) (
 J10 [] H9)) ∧ ∀ L12 H13, J10 L12 H13 → -- []
 letO (binF Try.prog .add 3 (L8.getD 0 .any) (.int .i64 1)) fun t51 =>
 letO (some (t51 : AV)) fun t32 =>
 I6 [t32] H13 ∧ μ7 [t32] H13 < μ7 L8 H9) (
endK (.tup []) H9 K)) H4)

theorem W41_ok {x0 x1 x2 x3 x4 : AV} {H : Heap} {K : AV → Heap → Prop} (h : W41 x0 x1 x2 x3 x4 H K) : ACalls Try.prog 41 [x0, x1, x2, x3, x4] H K :=
  acallsB (fn := Try.f41) (cfg := cfgOf [] [] [(10, [0, 0, 0, 0, 12, 28, 0, 0, 192, 448, 1020, 2047, 4095])] [] []) (hh := (.dir (.dir .nil (.blk (.loop [12] [13, 14, 15, 16, 7, 8, 17, 18, 19, 20, 21, 22, 23, 24, 25, 26, 27, 28, 29, 12] (.dir .nil (.dir .nil (.dir (.blk (.dir .nil (.dir .nil .nil))) .nil)))))) (.dir .nil (.dir .nil (.blk (.loop [32] [33, 34, 9, 35, 36, 37, 38, 39, 40, 41, 42, 43, 44, 45, 46, 47, 48, 49, 50, 51, 32] (.dir .nil (.dir .nil (.cut [] [34, 9, 35, 36, 37, 38, 39, 40, 41, 42, 43, 44, 45, 46, 47, 48, 49, 50] (.blk (.dir .nil (.dir .nil .nil))) .nil))))))))) follows Try.func41 (by kernel_rfl) (Nat.le_of_ble_eq_true (by kernel_rfl)) (by kernel_rfl) h

/-- headword.headwordlaw13.left -/
def W43 (x0 x1 x2 : AV) (H : Heap) (K : AV → Heap → Prop) : Prop :=
 letO (cellsOf? x0) fun c1 =>
 letO (some ((.int .i64 0) : AV)) fun t6 =>
 letO (some ((.int .i64 (-1)) : AV)) fun t7 =>
 letO (faddr 1 (.iptr c1)) fun t10 =>
 letO (load1 t10 H) fun t11 =>
 letO (some (x1 : AV)) fun t12 =>
 letO (some (x2 : AV)) fun t13 =>
 letO (slc 1 t11 (some t12) (some t13) none) fun t14 =>
 letO (lenA t14) fun t15 =>
 letO (some ((.int .i64 0) : AV)) fun t16 =>
 true = true ∧ ∃ (I2 : List AV → Heap → Prop) (μ3 : List AV → Heap → Nat), I2 [t7, t16] H ∧ ∀ L4 H5, I2 L4 H5 → -- [t7, t16]
 letO (binF Try.prog .lss 3 (L4.getD 1 .any) t15) fun t17 =>
 condA t17 true (
 letO (idx 1 t14 (L4.getD 1 .any)) fun t18 =>
 letO (load1 t18 H5) fun t19 =>
 letO (some (t19 : AV)) fun t9 =>
 letO (some ((L4.getD 0 .any) : AV)) fun t20 =>
 letO (some (t9 : AV)) fun t21 =>
 letO (binF Try.prog .add 3 t21 (.int .i64 1)) fun t22 =>
 letO (binF Try.prog .add 3 t20 t22) fun t23 =>
 letO (some (t23 : AV)) fun t7 =>
 letO (binF Try.prog .add 3 (L4.getD 1 .any) (.int .i64 1)) fun t24 =>
 letO (some (t24 : AV)) fun t16 =>
 I2 [t7, t16] H5 ∧ μ3 [t7, t16] H5 < μ3 L4 H5) (
 letO (faddr 0 (.iptr c1)) fun t25 =>
 letO (load1 t25 H5) fun t26 =>
 letO (some ((L4.getD 0 .any) : AV)) fun t27 =>
 letO (binF Try.prog .sub 3 t26 t27) fun t28 =>
 letO (some (t28 : AV)) fun t6 =>
endK t6 H5 K)

theorem W43_ok {x0 x1 x2 : AV} {H : Heap} {K : AV → Heap → Prop} (h : W43 x0 x1 x2 H K) : ACalls Try.prog 43 [x0, x1, x2] H K :=
  acallsB (fn := Try.f43) (cfg := cfgOf [] [] [] [] []) (hh := (.dir .nil (.dir .nil (.dir (.dir .nil (.blk (.loop [7, 16] [17, 18, 19, 9, 20, 21, 22, 23, 7, 24, 16] (.dir .nil (.dir .nil (.dir .nil .nil)))))) .nil)))) follows Try.func43 (by kernel_rfl) (Nat.le_of_ble_eq_true (by kernel_rfl)) (by kernel_rfl) h

/-- headword.headwordlaw13.each$1 -/
def W80 (x0 x1 x2 x3 x4 x5 : AV) (H : Heap) (K : AV → Heap → Prop) : Prop :=
 letO (some (x2 : AV)) fun t12 =>
 letO (faddr 1 x3) fun t13 =>
 letO (load1 t13 H) fun t14 =>
 letO (lenA t14) fun t15 =>
 letO (binF Try.prog .eql 3 t12 t15) fun t16 =>
 condA t16 true (
 letO (load1 x4 H) fun t17 =>
 letO (some (x0 : AV)) fun t18 =>
 letO (some (x1 : AV)) fun t19 =>
 callA Try.prog t17 [t18, t19] (fun t20 H1 =>
endK (.tup []) H1 K) H) (
 letO (some (x0 : AV)) fun t21 =>
 letO (lenA t21) fun t22 =>
 letO (some (t22 : AV)) fun t9 =>
 letO (some (x2 : AV)) fun t23 =>
 letO (binF Try.prog .add 3 t23 (.int .i64 1)) fun t24 =>
 letO (some (t24 : AV)) fun t10 =>
 true = true ∧ ∃ (I2 : List AV → Heap → Prop) (μ3 : List AV → Heap → Nat), I2 [t10] H ∧ ∀ L4 H5, I2 L4 H5 → -- [t10]
 letO (some ((L4.getD 0 .any) : AV)) fun t25 =>
 letO (faddr 1 x3) fun t26 =>
 letO (load1 t26 H5) fun t27 =>
 letO (lenA t27) fun t28 =>
 letO (binF Try.prog .leq 3 t25 t28) fun t29 =>
 condA t29 true (
 true = true ∧ ∃ J6 : List AV → Heap → Prop, (
 letO (loadN 2 x3 H5) fun t32 =>
 letO (some (x2 : AV)) fun t33 =>
 letO (some ((L4.getD 0 .any) : AV)) fun t34 =>
 ACalls Try.prog 43 [t32, t33, t34] H5 fun t35 H7 =>
 letO (some (t35 : AV)) fun t11 =>
 letO (some (t11 : AV)) fun t36 =>
 letO (binF Try.prog .geq 3 t36 (.int .i64 0)) fun t37 =>
 condA t37 true (
 true = true ∧
 letO (load1 x5 H7) fun t38 =>
 letO (some (x0 : AV)) fun t39 =>
 letO (some (t9 : AV)) fun t40 =>
 letO (some (t9 : AV)) fun t41 =>
 letO (slc 1 t39 none (some t40) (some t41)) fun t42 =>
 letO (some ((L4.getD 0 .any) : AV)) fun t43 =>
 letO (literalF Try.prog 22 1 [(0, t43)]) fun c8 =>
 letO (some (x1 : AV)) fun t46 =>
 letO (some (t9 : AV)) fun t47 =>
 letO (some (t9 : AV)) fun t48 =>
 letO (slc 1 t46 none (some t47) (some t48)) fun t49 =>
 letO (some (t11 : AV)) fun t50 =>
 letO (literalF Try.prog 22 1 [(0, t50)]) fun c9 =>
 letO (some ((L4.getD 0 .any) : AV)) fun t53 =>
 isRef t42 = false ∧ appendA 1 8 t42 (.imm 1 true c8) (fun t45 H10 =>
 isRef t49 = false ∧ appendA 1 8 t49 (.imm 1 true c9) (fun t52 H11 =>
 callA Try.prog t38 [t45, t52, t53] (fun t54 H12 =>
 J6 [] H12) H11) H10) H7) (
 J6 [] H7)) ∧ ∀ L13 H14, J6 L13 H14 → -- []
 letO (some ((L4.getD 0 .any) : AV)) fun t30 =>
 letO (binF Try.prog .add 3 t30 (.int .i64 1)) fun t31 =>
 letO (some (t31 : AV)) fun t10 =>
 I2 [t10] H14 ∧ μ3 [t10] H14 < μ3 L4 H5) (
endK (.tup []) H5 K))

theorem W80_ok {x0 x1 x2 x3 x4 x5 : AV} {H : Heap} {K : AV → Heap → Prop} (h : W80 x0 x1 x2 x3 x4 x5 H K) : ACalls Try.prog 80 [x0, x1, x2, x3, x4, x5] H K :=
  acallsB (fn := Try.f80) (cfg := cfgOf [] [] [(8, [0, 0, 0, 0, 14, 0, 32, 126, 0, 0, 0, 1792, 0, 4096, 16382, 0, 65535])] [45, 52] []) (hh := (.dir (.dir .nil (.dir .nil .nil)) (.dir .nil (.dir .nil (.blk (.loop [10] [25, 26, 27, 28, 29, 32, 33, 34, 35, 11, 36, 37, 38, 39, 40, 41, 42, 43, 44, 45, 46, 47, 48, 49, 50, 51, 52, 53, 54, 30, 31, 10] (.dir (.dir .nil .nil) (.cut [] [32, 33, 34, 35, 11, 36, 37, 38, 39, 40, 41, 42, 43, 44, 45, 46, 47, 48, 49, 50, 51, 52, 53, 54] (.blk (.dir .nil (.dir .nil .nil))) .nil)))))))) follows Try.func80 (by kernel_rfl) (Nat.le_of_ble_eq_true (by kernel_rfl)) (by kernel_rfl) h


end Go.Proofs.Ytlajhbpkogekfaa
