import Derived.Test.YtmmfelpgcdlgfaaGreatDoorConB
/- The functions of the statement TopDivided that the common text does not hold, each in the words of its walk; made by program. -/
set_option linter.unusedVariables false
set_option maxRecDepth 100000
namespace Go.Proofs.YtmmfelpgcdlgfaaGreatDoor
open Go.Av
/-- headword.headwordtop.TopDivided -/
def W3 (x0 x1 : AV) (H : Heap) (K : AV → Heap → Prop) : Prop :=
 letO (cellsOf? x1) fun c1 =>
 letO (some ((.bool false) : AV)) fun t4 =>
 letO (some (x0 : AV)) fun t31 =>
 letO (convF Tryz.prog 5 3 t31) fun t32 =>
 letO (binF Tryz.prog .rem 3 t32 (.int .i64 6)) fun t33 =>
 letO (binF Tryz.prog .add 3 (.int .i64 2) t33) fun t34 =>
 letO (some (t34 : AV)) fun t5 =>
 letO (some ((.fn 4 []) : AV)) fun t6 =>
 letO (some (.nils : AV)) fun t7 =>
 letO (some (.nils : AV)) fun t8 =>
 letO (slcArr 8 1 (.iptr c1) none (some (.int .i64 7)) none) fun t35 =>
 letO (lenA t35) fun t36 =>
 letO (some ((.int .i64 0) : AV)) fun t37 =>
 true = true ∧ ∃ (I2 : List AV → Heap → Prop) (μ3 : List AV → Heap → Nat), I2 [t7, t8, t37] H ∧ ∀ L4 H5, I2 L4 H5 → -- [t7, t8, t37]
 letO (binF Tryz.prog .lss 3 (L4.getD 2 .any) t36) fun t38 =>
 condA t38 true (
 true = true ∧ ∃ J6 : List AV → Heap → Prop, (
 letO (idx 1 t35 (L4.getD 2 .any)) fun t39 =>
 letO (load1 t39 H5) fun t40 =>
 letO (some (t40 : AV)) fun t10 =>
 letO (some (t10 : AV)) fun t41 =>
 letO (convF Tryz.prog 5 3 t41) fun t42 =>
 letO (some (t5 : AV)) fun t43 =>
 letO (binF Tryz.prog .shl 3 (.int .i64 1) t43) fun t44 =>
 letO (binF Tryz.prog .sub 3 t44 (.int .i64 2)) fun t45 =>
 letO (binF Tryz.prog .and 3 t42 t45) fun t46 =>
 letO (some (t46 : AV)) fun t11 =>
 letO (some (t11 : AV)) fun t47 =>
 letO (binF Tryz.prog .eql 3 t47 (.int .i64 0)) fun t48 =>
 letO (some (t48 : AV)) fun t49 =>
 letO (gval t49 false (some ((L4.getD 0 .any) : AV))) fun t50 =>
 letO (gval t49 false (some (t11 : AV))) fun t51 =>
 ∃ J7 : AV → Heap → Prop, condG t49 false (ACalls Tryz.prog 5 [t50, t51] H5 fun t52 H8 =>
 J7 t52 H8) (J7 (.tup []) H5) ∧ ∀ t52 H9, J7 t52 H9 →
 letO (pickF t49 (.bool true) t52) fun t53 =>
 condA t53 true (
 J6 [(L4.getD 0 .any), (L4.getD 1 .any)] H9) (
 letO (some ((L4.getD 1 .any) : AV)) fun t54 =>
 ACalls Tryz.prog 6 [t54] H9 fun t55 H10 =>
 letO (some (t55 : AV)) fun t12 =>
 letO (some ((L4.getD 0 .any) : AV)) fun t56 =>
 letO (lenA t56) fun t57 =>
 letO (some ((.int .i64 0) : AV)) fun t58 =>
 true = true ∧ ∃ (I11 : List AV → Heap → Prop) (μ12 : List AV → Heap → Nat), I11 [t12, t58] H10 ∧ ∀ L13 H14, I11 L13 H14 → -- [t12, t58]
 letO (binF Tryz.prog .lss 3 (L13.getD 1 .any) t57) fun t59 =>
 condA t59 true (
 true = true ∧ ∃ J15 : List AV → Heap → Prop, (
 letO (some ((L13.getD 1 .any) : AV)) fun t60 =>
 letO (idx 1 t56 (L13.getD 1 .any)) fun t61 =>
 letO (load1 t61 H14) fun t62 =>
 letO (some (t60 : AV)) fun t13 =>
 letO (some (t62 : AV)) fun t14 =>
 letO (some (t6 : AV)) fun t63 =>
 letO (some (t14 : AV)) fun t64 =>
 letO (some (t11 : AV)) fun t65 =>
 callA Tryz.prog t63 [t64, t65] (fun t66 H16 =>
 letO (unF .not t66) fun t67 =>
 condA t67 true (
 letO (some ((L13.getD 0 .any) : AV)) fun t68 =>
 letO (some (t13 : AV)) fun t69 =>
 letO (some ((L4.getD 0 .any) : AV)) fun t70 =>
 letO (lenA t70) fun t71 =>
 letO (buildF Tryz.prog 29 [(0, t69), (1, t71)]) fun t72 =>
 letO (literalF Tryz.prog 25 1 [(0, t72)]) fun c17 =>
 appendA 2 16 t68 (.imm 1 true c17) (fun t74 H18 =>
 letO (some (t74 : AV)) fun t12 =>
 J15 [t12] H18) H16) (
 J15 [(L13.getD 0 .any)] H16)) H14) ∧ ∀ L19 H20, J15 L19 H20 → -- [t12]
 letO (binF Tryz.prog .add 3 (L13.getD 1 .any) (.int .i64 1)) fun t75 =>
 letO (some (t75 : AV)) fun t58 =>
 I11 [(L19.getD 0 .any), t58] H20 ∧ μ12 [(L19.getD 0 .any), t58] H20 < μ12 L13 H14) (
 letO (some ((L13.getD 0 .any) : AV)) fun t76 =>
 letO (lenA t76) fun t77 =>
 letO (binF Tryz.prog .leq 3 t77 (.int .i64 8)) fun t78 =>
 condA t78 true (
 letO (some ((L4.getD 0 .any) : AV)) fun t79 =>
 letO (some (t11 : AV)) fun t80 =>
 letO (literalF Tryz.prog 24 1 [(0, t80)]) fun c21 =>
 appendA 1 8 t79 (.imm 1 true c21) (fun t82 H22 =>
 letO (some ((L13.getD 0 .any) : AV)) fun t83 =>
 letO (some (t82 : AV)) fun t7 =>
 letO (some (t83 : AV)) fun t8 =>
 J6 [t7, t8] H22) H14) (
 J6 [(L4.getD 0 .any), (L4.getD 1 .any)] H14)))) ∧ ∀ L23 H24, J6 L23 H24 → -- [t7, t8]
 letO (binF Tryz.prog .add 3 (L4.getD 2 .any) (.int .i64 1)) fun t84 =>
 letO (some (t84 : AV)) fun t37 =>
 I2 [(L23.getD 0 .any), (L23.getD 1 .any), t37] H24 ∧ μ3 [(L23.getD 0 .any), (L23.getD 1 .any), t37] H24 < μ3 L4 H5) (
 letO (some ((L4.getD 0 .any) : AV)) fun t85 =>
 letO (lenA t85) fun t86 =>
 letO (binF Tryz.prog .eql 3 t86 (.int .i64 0)) fun t87 =>
 condA t87 true (
 ACalls Tryz.prog 7 [] H5 fun t88 H25 =>
 letO (some (t88 : AV)) fun t4 =>
endK t4 H25 K) (
 letO (some (.nils : AV)) fun t15 =>
 letO (some ((L4.getD 0 .any) : AV)) fun t89 =>
 letO (lenA t89) fun t90 =>
 letO (some ((.int .i64 0) : AV)) fun t91 =>
 true = true ∧ ∃ (I26 : List AV → Heap → Prop) (μ27 : List AV → Heap → Nat), I26 [t15, t91] H5 ∧ ∀ L28 H29, I26 L28 H29 → -- [t15, t91]
 letO (binF Tryz.prog .lss 3 (L28.getD 1 .any) t90) fun t92 =>
 condA t92 true (
 letO (idx 1 t89 (L28.getD 1 .any)) fun t93 =>
 letO (load1 t93 H29) fun t94 =>
 letO (some (t94 : AV)) fun t17 =>
 letO (some (.nils : AV)) fun t18 =>
 letO (some (t5 : AV)) fun t95 =>
 letO (some ((.int .i64 0) : AV)) fun t96 =>
 true = true ∧ ∃ (I30 : List AV → Heap → Prop) (μ31 : List AV → Heap → Nat), I30 [t18, t96] H29 ∧ ∀ L32 H33, I30 L32 H33 → -- [t18, t96]
 letO (binF Tryz.prog .lss 3 (L32.getD 1 .any) t95) fun t97 =>
 condA t97 true (
 true = true ∧ ∃ J34 : List AV → Heap → Prop, (
 letO (some ((L32.getD 1 .any) : AV)) fun t98 =>
 letO (some (t98 : AV)) fun t19 =>
 letO (some (t17 : AV)) fun t99 =>
 letO (some (t19 : AV)) fun t100 =>
 letO (binF Tryz.prog .shr 3 t99 t100) fun t101 =>
 letO (binF Tryz.prog .and 3 t101 (.int .i64 1)) fun t102 =>
 letO (binF Tryz.prog .eql 3 t102 (.int .i64 1)) fun t103 =>
 condA t103 true (
 letO (some ((L32.getD 0 .any) : AV)) fun t104 =>
 letO (some (t19 : AV)) fun t105 =>
 letO (literalF Tryz.prog 24 1 [(0, t105)]) fun c35 =>
 appendA 1 8 t104 (.imm 1 true c35) (fun t107 H36 =>
 letO (some (t107 : AV)) fun t18 =>
 J34 [t18] H36) H33) (
 J34 [(L32.getD 0 .any)] H33)) ∧ ∀ L37 H38, J34 L37 H38 → -- [t18]
 letO (binF Tryz.prog .add 3 (L32.getD 1 .any) (.int .i64 1)) fun t108 =>
 letO (some (t108 : AV)) fun t96 =>
 I30 [(L37.getD 0 .any), t96] H38 ∧ μ31 [(L37.getD 0 .any), t96] H38 < μ31 L32 H33) (
 letO (some ((L28.getD 0 .any) : AV)) fun t109 =>
 letO (some ((L32.getD 0 .any) : AV)) fun t110 =>
 letO (literalF Tryz.prog 31 1 [(0, t110)]) fun c39 =>
 appendA 1 24 t109 (.imm 1 true c39) (fun t112 H40 =>
 letO (some (t112 : AV)) fun t15 =>
 letO (binF Tryz.prog .add 3 (L28.getD 1 .any) (.int .i64 1)) fun t113 =>
 letO (some (t113 : AV)) fun t91 =>
 I26 [t15, t91] H40 ∧ μ27 [t15, t91] H40 < μ27 L28 H29) H33)) (
 letO (some (t5 : AV)) fun t115 =>
 letO (some ((L28.getD 0 .any) : AV)) fun t116 =>
 ACalls Tryz.prog 8 [t115, t116] H29 fun t117 H41 =>
 letO (some (t117 : AV)) fun t114 =>
 letO (extrF t114 0) fun t118 =>
 letO (extrF t114 1) fun t119 =>
 letO (some (t118 : AV)) fun t20 =>
 letO (some (t119 : AV)) fun t21 =>
 letO (some ((L4.getD 0 .any) : AV)) fun t121 =>
 letO (lenA t121) fun t122 =>
 letO (some ((L4.getD 1 .any) : AV)) fun t123 =>
 letO (buildF Tryz.prog 37 [(0, t122), (1, t123)]) fun t124 =>
 ACalls Tryz.prog 9 [t124] H41 fun t125 H42 =>
 letO (some (t125 : AV)) fun t120 =>
 letO (extrF t120 0) fun t126 =>
 letO (extrF t120 1) fun t127 =>
 letO (some (t126 : AV)) fun t22 =>
 letO (some (t127 : AV)) fun t23 =>
 letO (some ((L4.getD 0 .any) : AV)) fun t128 =>
 letO (lenA t128) fun t129 =>
 letO (buildF Tryz.prog 39 [(0, t129)]) fun t130 =>
 allocA [(.int .i64 0), .nils] (fun t24 H43 =>
 storeA 2 t24 t130 (fun H44 =>
 letO (some ((L4.getD 1 .any) : AV)) fun t131 =>
 letO (lenA t131) fun t132 =>
 letO (some ((.int .i64 0) : AV)) fun t133 =>
 true = true ∧ ∃ (I45 : List AV → Heap → Prop) (μ46 : List AV → Heap → Nat), I45 [t133] H44 ∧ ∀ L47 H48, I45 L47 H48 → -- [t133]
 letO (binF Tryz.prog .lss 3 (L47.getD 0 .any) t132) fun t134 =>
 condA t134 true (
 letO (idx 2 t131 (L47.getD 0 .any)) fun t135 =>
 letO (loadN 2 t135 H48) fun t136 =>
 allocA [(.int .i64 0), (.int .i64 0)] (fun t26 H49 =>
 storeA 2 t26 t136 (fun H50 =>
 letO (faddr 1 t24) fun t137 =>
 letO (load1 t137 H50) fun t138 =>
 letO (loadN 2 t26 H50) fun t139 =>
 letO (idxArr 2 1 t26 (.int .i64 1)) fun t140 =>
 letO (load1 t140 H50) fun t141 =>
 letO (idxArr 2 1 t26 (.int .i64 0)) fun t142 =>
 letO (load1 t142 H50) fun t143 =>
 letO (buildF Tryz.prog 29 [(0, t141), (1, t143)]) fun t144 =>
 letO (literalF Tryz.prog 25 2 [(0, t139), (1, t144)]) fun c51 =>
 appendA 2 16 t138 (.imm 2 true c51) (fun t146 H52 =>
 letO (faddr 1 t24) fun t147 =>
 storeA 1 t147 t146 (fun H53 =>
 letO (binF Tryz.prog .add 3 (L47.getD 0 .any) (.int .i64 1)) fun t148 =>
 letO (some (t148 : AV)) fun t133 =>
 I45 [t133] H53 ∧ μ46 [t133] H53 < μ46 L47 H48) H52) H50) H49) H48) (
 letO (loadN 2 t24 H48) fun t150 =>
 ACalls Tryz.prog 10 [t150] H48 fun t151 H54 =>
 letO (some (t151 : AV)) fun t149 =>
 letO (extrF t149 0) fun t152 =>
 letO (extrF t149 1) fun t153 =>
 letO (some (t152 : AV)) fun t27 =>
 letO (some (t153 : AV)) fun t28 =>
 letO (some (t21 : AV)) fun t154 =>
 letO (binF Tryz.prog .neq 32 t154 (.int .i64 0)) fun t155 =>
 letO (some (t155 : AV)) fun t156 =>
 letO (gval t156 false (some (t23 : AV))) fun t157 =>
 letO (gval t156 false (binF Tryz.prog .neq 32 t157 (.int .i64 0))) fun t158 =>
 letO (pickF t156 (.bool true) t158) fun t159 =>
 letO (some (t159 : AV)) fun t160 =>
 letO (gval t160 false (some (t28 : AV))) fun t161 =>
 letO (gval t160 false (binF Tryz.prog .neq 32 t161 (.int .i64 0))) fun t162 =>
 letO (pickF t160 (.bool true) t162) fun t163 =>
 letO (some (t163 : AV)) fun t164 =>
 letO (gval t164 false (some (t20 : AV))) fun t165 =>
 letO (gval t164 false (lenA t165)) fun t166 =>
 letO (gval t164 false (some ((L4.getD 0 .any) : AV))) fun t167 =>
 letO (gval t164 false (lenA t167)) fun t168 =>
 letO (gval t164 false (some (t22 : AV))) fun t169 =>
 letO (gval t164 false (lenA t169)) fun t170 =>
 letO (gval t164 false (binF Tryz.prog .sub 3 t168 t170)) fun t171 =>
 letO (gval t164 false (binF Tryz.prog .neq 3 t166 t171)) fun t172 =>
 letO (pickF t164 (.bool true) t172) fun t173 =>
 condA t173 true (
 letO (some ((.bool false) : AV)) fun t4 =>
endK t4 H54 K) (
 letO (some (t27 : AV)) fun t174 =>
 letO (lenA t174) fun t175 =>
 letO (some ((.int .i64 0) : AV)) fun t176 =>
 true = true ∧ ∃ (I55 : List AV → Heap → Prop) (μ56 : List AV → Heap → Nat), I55 [t176] H54 ∧ ∀ L57 H58, I55 L57 H58 → -- [t176]
 letO (binF Tryz.prog .lss 3 (L57.getD 0 .any) t175) fun t177 =>
 condA t177 true (
 letO (idx 1 t174 (L57.getD 0 .any)) fun t178 =>
 letO (load1 t178 H58) fun t179 =>
 letO (some (t179 : AV)) fun t30 =>
 letO (some (t30 : AV)) fun t180 =>
 letO (lenA t180) fun t181 =>
 letO (some (t20 : AV)) fun t182 =>
 letO (lenA t182) fun t183 =>
 letO (binF Tryz.prog .eql 3 t181 t183) fun t184 =>
 condA t184 true (
 letO (some (t30 : AV)) fun t185 =>
 letO (some (t20 : AV)) fun t186 =>
 ACalls Tryz.prog 11 [t185, t186] H58 fun t187 H59 =>
 letO (some (t187 : AV)) fun t188 =>
 ∃ J60 : AV → Heap → Prop, condG t188 true (ACalls Tryz.prog 7 [] H59 fun t189 H61 =>
 J60 t189 H61) (J60 (.tup []) H59) ∧ ∀ t189 H62, J60 t189 H62 →
 letO (pickF t188 t189 (.bool false)) fun t190 =>
 letO (some (t190 : AV)) fun t4 =>
endK t4 H62 K) (
 letO (binF Tryz.prog .add 3 (L57.getD 0 .any) (.int .i64 1)) fun t191 =>
 letO (some (t191 : AV)) fun t176 =>
 I55 [t176] H58 ∧ μ56 [t176] H58 < μ56 L57 H58)) (
 letO (some ((.bool false) : AV)) fun t4 =>
endK t4 H58 K)))) H43) H42)))

theorem W3_ok {x0 x1 : AV} {H : Heap} {K : AV → Heap → Prop} (h : W3 x0 x1 H K) : ACalls Tryz.prog 3 [x0, x1] H K :=
  acallsB (fn := Tryz.f3) (cfg := cfgOf [] [] [] [] [] []) (hh := (.dir .nil (.dir .nil (.dir .nil (.dir .nil (.dir .nil (.dir (.dir .nil (.blk (.loop [7, 8, 37] [38, 39, 40, 10, 41, 42, 43, 44, 45, 46, 11, 47, 48, 49, 50, 51, 52, 53, 54, 55, 12, 56, 57, 58, 59, 60, 61, 62, 13, 14, 63, 64, 65, 66, 67, 68, 69, 70, 71, 72, 73, 74, 75, 76, 77, 78, 79, 80, 81, 82, 83, 7, 8, 84, 37] (.dir .nil (.dir .nil (.cut [7, 8] [39, 40, 10, 41, 42, 43, 44, 45, 46, 11, 47, 48, 49, 50, 51, 52, 53, 54, 55, 12, 56, 57, 58, 59, 60, 61, 62, 13, 14, 63, 64, 65, 66, 67, 68, 69, 70, 71, 72, 73, 74, 75, 76, 77, 78, 79, 80, 81, 82, 83, 7, 8] (.blk (.dir .nil (.dir .nil (.dir (.dir .nil .nil) (.dir .nil (.dir (.dir .nil (.blk (.loop [12, 58] [59, 60, 61, 62, 13, 14, 63, 64, 65, 66, 67, 68, 69, 70, 71, 72, 73, 74, 12, 75, 58] (.dir .nil (.dir .nil (.cut [12] [60, 61, 62, 13, 14, 63, 64, 65, 66, 67, 68, 69, 70, 71, 72, 73, 74, 12] (.blk (.dir .nil (.dir .nil .nil))) .nil)))))) (.dir .nil .nil))))))) .nil)))))) (.dir (.dir .nil (.dir .nil .nil)) (.dir .nil (.dir (.dir .nil (.blk (.loop [15, 91] [92, 93, 94, 17, 18, 95, 96, 97, 98, 19, 99, 100, 101, 102, 103, 104, 105, 106, 107, 108, 109, 110, 111, 112, 15, 113, 91] (.dir .nil (.dir .nil (.dir (.blk (.dir .nil (.dir .nil (.dir (.dir .nil (.blk (.loop [18, 96] [97, 98, 19, 99, 100, 101, 102, 103, 104, 105, 106, 107, 18, 108, 96] (.dir .nil (.dir .nil (.cut [18] [98, 19, 99, 100, 101, 102, 103, 104, 105, 106, 107, 18] (.blk (.dir .nil (.dir .nil .nil))) .nil)))))) .nil)))) .nil)))))) (.dir .nil (.dir .nil (.dir .nil (.dir (.dir .nil (.blk (.loop [133] [134, 135, 136, 26, 137, 138, 139, 140, 141, 142, 143, 144, 145, 146, 147, 148, 133] (.dir .nil (.dir .nil (.dir .nil .nil)))))) (.dir .nil (.dir (.dir .nil (.dir .nil .nil)) (.dir (.dir .nil (.blk (.loop [176] [177, 178, 179, 30, 180, 181, 182, 183, 184, 185, 186, 187, 188, 189, 190, 4, 191, 176] (.dir .nil (.dir .nil (.dir (.blk (.dir .nil (.dir .nil (.dir .nil .nil)))) .nil)))))) .nil))))))))))))))))) follows Tryz.func3 (by kernel_rfl) (Nat.le_of_ble_eq_true (by kernel_rfl)) (by kernel_rfl) h

/-- headword.headwordtop.TopDivided$1 -/
def W4 (x0 x1 : AV) (H : Heap) (K : AV → Heap → Prop) : Prop :=
 letO (some ((.bool false) : AV)) fun t4 =>
 letO (some (x0 : AV)) fun t5 =>
 letO (some (x1 : AV)) fun t6 =>
 letO (binF Tryz.prog .and 3 t5 t6) fun t7 =>
 letO (binF Tryz.prog .eql 3 t7 (.int .i64 0)) fun t8 =>
 letO (some (t8 : AV)) fun t9 =>
 letO (gval t9 false (some (x0 : AV))) fun t10 =>
 letO (gval t9 false (some (x1 : AV))) fun t11 =>
 letO (gval t9 false (binF Tryz.prog .andNot 3 t10 t11)) fun t12 =>
 letO (gval t9 false (binF Tryz.prog .eql 3 t12 (.int .i64 0))) fun t13 =>
 letO (pickF t9 (.bool true) t13) fun t14 =>
 letO (some (t14 : AV)) fun t15 =>
 letO (gval t15 false (some (x1 : AV))) fun t16 =>
 letO (gval t15 false (some (x0 : AV))) fun t17 =>
 letO (gval t15 false (binF Tryz.prog .andNot 3 t16 t17)) fun t18 =>
 letO (gval t15 false (binF Tryz.prog .eql 3 t18 (.int .i64 0))) fun t19 =>
 letO (pickF t15 (.bool true) t19) fun t20 =>
 letO (some (t20 : AV)) fun t4 =>
endK t4 H K

theorem W4_ok {x0 x1 : AV} {H : Heap} {K : AV → Heap → Prop} (h : W4 x0 x1 H K) : ACalls Tryz.prog 4 [x0, x1] H K :=
  acallsB (fn := Tryz.f4) (cfg := cfgOf [] [] [] [] [] []) (hh := (.dir .nil .nil)) follows Tryz.func4 (by kernel_rfl) (Nat.le_of_ble_eq_true (by kernel_rfl)) (by kernel_rfl) h

/-- slices.Clone[[][2]int,[2]int] -/
def W6 (x0 : AV) (H : Heap) (K : AV → Heap → Prop) : Prop :=
 letO (some (.nils : AV)) fun t2 =>
 letO (some (x0 : AV)) fun t3 =>
 letO (binF Tryz.prog .eql 25 t3 .nils) fun t4 =>
 condA t4 true (
 letO (some (.nils : AV)) fun t2 =>
endK t2 H K) (
 letO (literalF Tryz.prog 25 0 []) fun c1 =>
 letO (some (x0 : AV)) fun t6 =>
 appendA 2 16 (.imm 0 true c1) t6 (fun t7 H2 =>
 letO (some (t7 : AV)) fun t2 =>
endK t2 H2 K) H)

theorem W6_ok {x0 : AV} {H : Heap} {K : AV → Heap → Prop} (h : W6 x0 H K) : ACalls Tryz.prog 6 [x0] H K :=
  acallsB (fn := Tryz.f6) (cfg := cfgOf [] [] [] [] [] []) (hh := (.dir .nil (.dir (.dir .nil (.dir .nil .nil)) .nil))) follows Tryz.func6 (by kernel_rfl) (Nat.le_of_ble_eq_true (by kernel_rfl)) (by kernel_rfl) h

/-- headword.headwordtop.classesWork -/
def W7 (H : Heap) (K : AV → Heap → Prop) : Prop :=
 letO (some ((.bool false) : AV)) fun t0 =>
 letO (literalF Tryz.prog 24 2 [(0, (.int .i64 1)), (1, (.int .i64 2))]) fun c1 =>
 letO (literalF Tryz.prog 24 1 [(0, (.int .i64 1))]) fun c2 =>
 letO (literalF Tryz.prog 24 1 [(0, (.int .i64 3))]) fun c3 =>
 letO (literalF Tryz.prog 31 3 [(0, (.imm 2 true c1)), (1, (.imm 1 true c2)), (2, (.imm 1 true c3))]) fun c4 =>
 ACalls Tryz.prog 13 [(.int .i64 4), (.imm 3 true c4), (.int .i64 0), (.int .i64 1)] H fun t8 H5 =>
 letO (some (t8 : AV)) fun t3 =>
 letO (extrF t3 0) fun t9 =>
 letO (extrF t3 1) fun t10 =>
 letO (some (t9 : AV)) fun t1 =>
 letO (some (t10 : AV)) fun t2 =>
 letO (some (t2 : AV)) fun t11 =>
 letO (binF Tryz.prog .eql 32 t11 (.int .i64 0)) fun t12 =>
 letO (some (t12 : AV)) fun t13 =>
 letO (gval t13 true (some (t1 : AV))) fun t14 =>
 letO (gval t13 true (binF Tryz.prog .eql 3 t14 (.int .i64 2))) fun t15 =>
 letO (pickF t13 t15 (.bool false)) fun t16 =>
 letO (some (t16 : AV)) fun t17 =>
 ∃ J6 : AV → Heap → Prop, condG t17 true (ACalls Tryz.prog 14 [] H5 fun t18 H7 =>
 J6 t18 H7) (J6 (.tup []) H5) ∧ ∀ t18 H8, J6 t18 H8 →
 letO (pickF t17 t18 (.bool false)) fun t19 =>
 letO (some (t19 : AV)) fun t20 =>
 ∃ J9 : AV → Heap → Prop, condG t20 true (ACalls Tryz.prog 15 [] H8 fun t21 H10 =>
 J9 t21 H10) (J9 (.tup []) H8) ∧ ∀ t21 H11, J9 t21 H11 →
 letO (pickF t20 t21 (.bool false)) fun t22 =>
 letO (some (t22 : AV)) fun t0 =>
endK t0 H11 K

theorem W7_ok {H : Heap} {K : AV → Heap → Prop} (h : W7 H K) : ACalls Tryz.prog 7 [] H K :=
  acallsB (fn := Tryz.f7) (cfg := cfgOf [] [] [] [] [] []) (hh := (.dir .nil (.dir .nil .nil))) follows Tryz.func7 (by kernel_rfl) (Nat.le_of_ble_eq_true (by kernel_rfl)) (by kernel_rfl) h

/-- headword.class.Most -/
def W8 (x0 x1 : AV) (H : Heap) (K : AV → Heap → Prop) : Prop :=
 letO (some (.nils : AV)) fun t4 =>
 letO (some ((.int .i64 0) : AV)) fun t5 =>
 letO (some (x0 : AV)) fun t18 =>
 letO (some (x1 : AV)) fun t19 =>
 ACalls Tryz.prog 16 [t18, t19] H fun t20 H1 =>
 letO (some (t20 : AV)) fun t17 =>
 letO (extrF t17 0) fun t21 =>
 letO (extrF t17 1) fun t22 =>
 letO (some (t21 : AV)) fun t6 =>
 letO (some (t22 : AV)) fun t7 =>
 letO (some (t7 : AV)) fun t23 =>
 letO (binF Tryz.prog .neq 32 t23 (.int .i64 0)) fun t24 =>
 condA t24 true (
 letO (some (t7 : AV)) fun t25 =>
 letO (some (.nils : AV)) fun t4 =>
 letO (some (t25 : AV)) fun t5 =>
endK (.tup [t4, t5]) H1 K) (
 letO (some (t6 : AV)) fun t26 =>
 letO (lenA t26) fun t27 =>
 makeA [(.int .u16 0)] 1 2 t27 t27 (fun t28 H2 =>
 allocA [.nils] (fun t8 H3 =>
 storeA 1 t8 t28 (fun H4 =>
 letO (some (t6 : AV)) fun t29 =>
 letO (lenA t29) fun t30 =>
 letO (some ((.int .i64 0) : AV)) fun t31 =>
 true = true ∧ ∃ (I5 : List AV → Heap → Prop) (μ6 : List AV → Heap → Nat), I5 [t31] H4 ∧ ∀ L7 H8, I5 L7 H8 → -- [t31]
 letO (binF Tryz.prog .lss 3 (L7.getD 0 .any) t30) fun t32 =>
 condA t32 true (
 letO (some ((L7.getD 0 .any) : AV)) fun t33 =>
 letO (idx 1 t29 (L7.getD 0 .any)) fun t34 =>
 letO (loadN 1 t34 H8) fun t35 =>
 allocA [(.int .u8 0)] (fun t10 H9 =>
 letO (some (t33 : AV)) fun t9 =>
 storeA 1 t10 t35 (fun H10 =>
 letO (some (t6 : AV)) fun t36 =>
 letO (lenA t36) fun t37 =>
 letO (some ((.int .i64 0) : AV)) fun t38 =>
 true = true ∧ ∃ (I11 : List AV → Heap → Prop) (μ12 : List AV → Heap → Nat), I11 [t38] H10 ∧ ∀ L13 H14, I11 L13 H14 → -- [t38]
 letO (binF Tryz.prog .lss 3 (L13.getD 0 .any) t37) fun t39 =>
 condA t39 true (
 true = true ∧ ∃ J15 : List AV → Heap → Prop, (
 letO (some ((L13.getD 0 .any) : AV)) fun t40 =>
 letO (idx 1 t36 (L13.getD 0 .any)) fun t41 =>
 letO (loadN 1 t41 H14) fun t42 =>
 allocA [(.int .u8 0)] (fun t12 H16 =>
 letO (some (t40 : AV)) fun t11 =>
 storeA 1 t12 t42 (fun H17 =>
 letO (loadN 1 t10 H17) fun t43 =>
 letO (loadN 1 t12 H17) fun t44 =>
 ACalls Tryz.prog 17 [t43, t44] H17 fun t45 H18 =>
 condA t45 true (
 true = true ∧
 letO (load1 t8 H18) fun t46 =>
 letO (some (t9 : AV)) fun t47 =>
 letO (idx 1 t46 t47) fun t48 =>
 letO (faddr 0 t48) fun t49 =>
 letO (load1 t49 H18) fun t50 =>
 letO (some (t11 : AV)) fun t51 =>
 letO (binF Tryz.prog .shl 54 (.int .u16 1) t51) fun t52 =>
 letO (binF Tryz.prog .or 54 t50 t52) fun t53 =>
 letO (idx 1 t46 t47) fun t54 =>
 letO (faddr 0 t54) fun t55 =>
 storeA 1 t55 t53 (fun H19 =>
 J15 [] H19) H18) (
 J15 [] H18)) H16) H14) ∧ ∀ L20 H21, J15 L20 H21 → -- []
 letO (binF Tryz.prog .add 3 (L13.getD 0 .any) (.int .i64 1)) fun t56 =>
 letO (some (t56 : AV)) fun t38 =>
 I11 [t38] H21 ∧ μ12 [t38] H21 < μ12 L13 H14) (
 letO (binF Tryz.prog .add 3 (L7.getD 0 .any) (.int .i64 1)) fun t57 =>
 letO (some (t57 : AV)) fun t31 =>
 I5 [t31] H14 ∧ μ6 [t31] H14 < μ6 L7 H8)) H9) H8) (
 letO (some (.nils : AV)) fun t13 =>
 letO (some (t6 : AV)) fun t58 =>
 letO (lenA t58) fun t59 =>
 letO (binF Tryz.prog .shl 3 (.int .i64 1) t59) fun t60 =>
 letO (some ((.int .i64 0) : AV)) fun t61 =>
 true = true ∧ ∃ (I22 : List AV → Heap → Prop) (μ23 : List AV → Heap → Nat), I22 [t13, t61] H8 ∧ ∀ L24 H25, I22 L24 H25 → -- [t13, t61]
 letO (binF Tryz.prog .lss 3 (L24.getD 1 .any) t60) fun t62 =>
 condA t62 true (
 true = true ∧ ∃ J26 : List AV → Heap → Prop, (
 letO (some ((L24.getD 1 .any) : AV)) fun t63 =>
 letO (some (t63 : AV)) fun t14 =>
 letO (some (t14 : AV)) fun t64 =>
 letO (convF Tryz.prog 3 54 t64) fun t65 =>
 letO (buildF Tryz.prog 56 [(0, t65)]) fun t66 =>
 allocA [(.int .u16 0)] (fun t15 H27 =>
 storeA 1 t15 t66 (fun H28 =>
 letO (loadN 1 t15 H28) fun t67 =>
 ACalls Tryz.prog 18 [t67] H28 fun t68 H29 =>
 letO (some (t68 : AV)) fun t16 =>
 letO (some (t16 : AV)) fun t69 =>
 letO (lenA t69) fun t70 =>
 letO (some ((L24.getD 0 .any) : AV)) fun t71 =>
 letO (lenA t71) fun t72 =>
 letO (binF Tryz.prog .lss 3 t70 t72) fun t73 =>
 letO (some (t73 : AV)) fun t74 =>
 letO (gval t74 false (some (t16 : AV))) fun t75 =>
 letO (gval t74 false (some (AV.fn 20 [t15, t8]))) fun t76 =>
 ∃ J30 : AV → Heap → Prop, condG t74 false (ACalls Tryz.prog 19 [t75, t76] H29 fun t77 H31 =>
 J30 t77 H31) (J30 (.tup []) H29) ∧ ∀ t77 H32, J30 t77 H32 →
 letO (pickF t74 (.bool true) t77) fun t78 =>
 condA t78 true (
 J26 [(L24.getD 0 .any)] H32) (
 letO (some (t16 : AV)) fun t79 =>
 letO (lenA t79) fun t80 =>
 letO (some ((L24.getD 0 .any) : AV)) fun t81 =>
 letO (lenA t81) fun t82 =>
 letO (binF Tryz.prog .gtr 3 t80 t82) fun t83 =>
 letO (some (t83 : AV)) fun t84 =>
 letO (gval t84 false (some (t16 : AV))) fun t85 =>
 letO (gval t84 false (some ((L24.getD 0 .any) : AV))) fun t86 =>
 ∃ J33 : AV → Heap → Prop, condG t84 false (ACalls Tryz.prog 22 [t85, t86] H32 fun t87 H34 =>
 J33 t87 H34) (J33 (.tup []) H32) ∧ ∀ t87 H35, J33 t87 H35 →
 letO (gval t84 false (binF Tryz.prog .lss 3 t87 (.int .i64 0))) fun t88 =>
 letO (pickF t84 (.bool true) t88) fun t89 =>
 condA t89 true (
 letO (some (t16 : AV)) fun t90 =>
 letO (some (t90 : AV)) fun t13 =>
 J26 [t13] H35) (
 J26 [(L24.getD 0 .any)] H35))) H27) H25) ∧ ∀ L36 H37, J26 L36 H37 → -- [t13]
 letO (binF Tryz.prog .add 3 (L24.getD 1 .any) (.int .i64 1)) fun t91 =>
 letO (some (t91 : AV)) fun t61 =>
 I22 [(L36.getD 0 .any), t61] H37 ∧ μ23 [(L36.getD 0 .any), t61] H37 < μ23 L24 H25) (
 letO (some ((L24.getD 0 .any) : AV)) fun t92 =>
 letO (some (t92 : AV)) fun t4 =>
 letO (some ((.int .i64 0) : AV)) fun t5 =>
endK (.tup [t4, t5]) H25 K))) H3) H2) H1)

theorem W8_ok {x0 x1 : AV} {H : Heap} {K : AV → Heap → Prop} (h : W8 x0 x1 H K) : ACalls Tryz.prog 8 [x0, x1] H K :=
  acallsB (fn := Tryz.f8) (cfg := cfgOf [] [] [(12, [0, 0, 3, 7, 15, 0, 32, 127, 255, 511, 1023])] [] [] []) (hh := (.dir .nil (.dir .nil (.dir (.dir .nil (.dir .nil .nil)) (.dir .nil (.dir (.dir .nil (.blk (.loop [31] [32, 33, 34, 35, 10, 9, 36, 37, 38, 39, 40, 41, 42, 12, 11, 43, 44, 45, 46, 47, 48, 49, 50, 51, 52, 53, 54, 55, 56, 57, 31] (.dir .nil (.dir .nil (.dir (.blk (.dir .nil (.dir .nil (.blk (.loop [38] [39, 40, 41, 42, 12, 11, 43, 44, 45, 46, 47, 48, 49, 50, 51, 52, 53, 54, 55, 56, 38] (.dir .nil (.dir .nil (.cut [] [40, 41, 42, 12, 11, 43, 44, 45, 46, 47, 48, 49, 50, 51, 52, 53, 54, 55] (.blk (.dir .nil (.dir .nil .nil))) .nil)))))))) .nil)))))) (.dir .nil (.dir (.dir .nil (.blk (.loop [13, 61] [62, 63, 14, 64, 65, 66, 15, 67, 68, 16, 69, 70, 71, 72, 73, 74, 75, 76, 77, 78, 79, 80, 81, 82, 83, 84, 85, 86, 87, 88, 89, 90, 13, 91, 61] (.dir .nil (.dir .nil (.cut [13] [63, 14, 64, 65, 66, 15, 67, 68, 16, 69, 70, 71, 72, 73, 74, 75, 76, 77, 78, 79, 80, 81, 82, 83, 84, 85, 86, 87, 88, 89, 90, 13] (.blk (.dir .nil (.dir .nil (.dir .nil (.dir (.dir .nil .nil) (.dir .nil .nil)))))) .nil)))))) .nil)))))))) follows Tryz.func8 (by kernel_rfl) (Nat.le_of_ble_eq_true (by kernel_rfl)) (by kernel_rfl) h

/-- headword.class.Parted -/
def W13 (x0 x1 x2 x3 : AV) (H : Heap) (K : AV → Heap → Prop) : Prop :=
 letO (some ((.int .i64 0) : AV)) fun t8 =>
 letO (some ((.int .i64 0) : AV)) fun t9 =>
 letO (some (x0 : AV)) fun t13 =>
 letO (some (x1 : AV)) fun t14 =>
 ACalls Tryz.prog 16 [t13, t14] H fun t15 H1 =>
 letO (some (t15 : AV)) fun t12 =>
 letO (extrF t12 0) fun t16 =>
 letO (extrF t12 1) fun t17 =>
 letO (some (t16 : AV)) fun t10 =>
 letO (some (t17 : AV)) fun t11 =>
 letO (some (t11 : AV)) fun t19 =>
 letO (binF Tryz.prog .neq 32 t19 (.int .i64 0)) fun t20 =>
 letO (some (t20 : AV)) fun t18 =>
 condA t18 true (
 letO (some (t11 : AV)) fun t21 =>
 letO (some ((.int .i64 0) : AV)) fun t8 =>
 letO (some (t21 : AV)) fun t9 =>
endK (.tup [t8, t9]) H1 K) (
 letO (some (x2 : AV)) fun t23 =>
 letO (some (x3 : AV)) fun t24 =>
 letO (min2F t23 t24) fun t25 =>
 letO (binF Tryz.prog .lss 3 t25 (.int .i64 0)) fun t26 =>
 letO (some (t26 : AV)) fun t27 =>
 letO (gval t27 false (some (x2 : AV))) fun t28 =>
 letO (gval t27 false (some (x3 : AV))) fun t29 =>
 letO (gval t27 false (max2F t28 t29)) fun t30 =>
 letO (gval t27 false (some (x0 : AV))) fun t31 =>
 letO (gval t27 false (binF Tryz.prog .geq 3 t30 t31)) fun t32 =>
 letO (pickF t27 (.bool true) t32) fun t33 =>
 letO (some (t33 : AV)) fun t22 =>
 condA t22 true (
 letO (some ((.int .i64 0) : AV)) fun t8 =>
 letO (some ((.int .i64 2) : AV)) fun t9 =>
endK (.tup [t8, t9]) H1 K) (
 letO (some (t10 : AV)) fun t34 =>
 letO (some (x2 : AV)) fun t35 =>
 letO (some (x3 : AV)) fun t36 =>
 ACalls Tryz.prog 29 [t34, t35, t36] H1 fun t37 H2 =>
 letO (some (t37 : AV)) fun t8 =>
 letO (some ((.int .i64 0) : AV)) fun t9 =>
endK (.tup [t8, t9]) H2 K))

theorem W13_ok {x0 x1 x2 x3 : AV} {H : Heap} {K : AV → Heap → Prop} (h : W13 x0 x1 x2 x3 H K) : ACalls Tryz.prog 13 [x0, x1, x2, x3] H K :=
  acallsB (fn := Tryz.f13) (cfg := cfgOf [] [] [] [] [] []) (hh := (.dir .nil (.dir .nil (.dir (.blk (.dir .nil (.dir .nil (.dir .nil (.dir .nil .nil))))) .nil)))) follows Tryz.func13 (by kernel_rfl) (Nat.le_of_ble_eq_true (by kernel_rfl)) (by kernel_rfl) h

/-- headword.headwordtop.quiresWork -/
def W15 (H : Heap) (K : AV → Heap → Prop) : Prop :=
 letO (some ((.bool false) : AV)) fun t0 =>
 ACalls Tryz.prog 32 [(.str (ByteArray.mk #[111, 117]))] H fun t4 H1 =>
 letO (some (t4 : AV)) fun t3 =>
 letO (extrF t3 0) fun t5 =>
 letO (extrF t3 1) fun t6 =>
 letO (some (t5 : AV)) fun t1 =>
 letO (some (t6 : AV)) fun t2 =>
 letO (some (t2 : AV)) fun t7 =>
 letO (binF Tryz.prog .eql 32 t7 (.int .i64 0)) fun t8 =>
 letO (some (t8 : AV)) fun t9 =>
 letO (gval t9 true (some (t1 : AV))) fun t10 =>
 letO (gval t9 true (binF Tryz.prog .eql 9 t10 (.str (ByteArray.mk #[104, 118, 118])))) fun t11 =>
 letO (pickF t9 t11 (.bool false)) fun t12 =>
 letO (some (t12 : AV)) fun t13 =>
 ∃ J2 : AV → Heap → Prop, condG t13 true (ACalls Tryz.prog 31 [] H1 fun t14 H3 =>
 J2 t14 H3) (J2 (.tup []) H1) ∧ ∀ t14 H4, J2 t14 H4 →
 letO (pickF t13 t14 (.bool false)) fun t15 =>
 letO (some (t15 : AV)) fun t0 =>
endK t0 H4 K

theorem W15_ok {H : Heap} {K : AV → Heap → Prop} (h : W15 H K) : ACalls Tryz.prog 15 [] H K :=
  acallsB (fn := Tryz.f15) (cfg := cfgOf [] [] [] [] [] []) (hh := (.dir .nil (.dir .nil .nil))) follows Tryz.func15 (by kernel_rfl) (Nat.le_of_ble_eq_true (by kernel_rfl)) (by kernel_rfl) h

/-- headword.class.opened -/
def W16 (x0 x1 : AV) (H : Heap) (K : AV → Heap → Prop) : Prop :=
 letO (some (.nils : AV)) fun t4 =>
 letO (some ((.int .i64 0) : AV)) fun t5 =>
 letO (some (x0 : AV)) fun t14 =>
 letO (binF Tryz.prog .lss 3 t14 (.int .i64 2)) fun t15 =>
 letO (some (t15 : AV)) fun t16 =>
 letO (gval t16 false (some (x0 : AV))) fun t17 =>
 letO (gval t16 false (binF Tryz.prog .gtr 3 t17 (.int .i64 8))) fun t18 =>
 letO (pickF t16 (.bool true) t18) fun t19 =>
 letO (some (t19 : AV)) fun t13 =>
 condA t13 true (
 letO (some (.nils : AV)) fun t4 =>
 letO (some ((.int .i64 1) : AV)) fun t5 =>
endK (.tup [t4, t5]) H K) (
 letO (some (x1 : AV)) fun t21 =>
 letO (lenA t21) fun t22 =>
 letO (binF Tryz.prog .gtr 3 t22 (.int .i64 13)) fun t23 =>
 letO (some (t23 : AV)) fun t20 =>
 condA t20 true (
 letO (some (.nils : AV)) fun t4 =>
 letO (some ((.int .i64 3) : AV)) fun t5 =>
endK (.tup [t4, t5]) H K) (
 letO (some (x0 : AV)) fun t24 =>
 letO (binF Tryz.prog .shl 5 (.int .u8 1) t24) fun t25 =>
 letO (binF Tryz.prog .sub 5 t25 (.int .u8 1)) fun t26 =>
 letO (some (t26 : AV)) fun t6 =>
 letO (some (.nils : AV)) fun t7 =>
 letO (some (x1 : AV)) fun t27 =>
 letO (lenA t27) fun t28 =>
 letO (some ((.int .i64 0) : AV)) fun t29 =>
 true = true ∧ ∃ (I1 : List AV → Heap → Prop) (μ2 : List AV → Heap → Nat), I1 [t7, t29] H ∧ ∀ L3 H4, I1 L3 H4 → -- [t7, t29]
 letO (binF Tryz.prog .lss 3 (L3.getD 1 .any) t28) fun t30 =>
 condA t30 true (
 letO (idx 1 t27 (L3.getD 1 .any)) fun t31 =>
 letO (load1 t31 H4) fun t32 =>
 letO (some (t32 : AV)) fun t9 =>
 letO (some (t9 : AV)) fun t33 =>
 letO (lenA t33) fun t34 =>
 letO (binF Tryz.prog .eql 3 t34 (.int .i64 0)) fun t35 =>
 condA t35 true (
 letO (some (.nils : AV)) fun t4 =>
 letO (some ((.int .i64 4) : AV)) fun t5 =>
endK (.tup [t4, t5]) H4 K) (
 letO (some (t9 : AV)) fun t36 =>
 letO (lenA t36) fun t37 =>
 letO (some ((.int .i64 0) : AV)) fun t38 =>
 true = true ∧ ∃ (I5 : List AV → Heap → Prop) (μ6 : List AV → Heap → Nat), I5 [t38] H4 ∧ ∀ L7 H8, I5 L7 H8 → -- [t38]
 letO (binF Tryz.prog .lss 3 (L7.getD 0 .any) t37) fun t39 =>
 condA t39 true (
 letO (some ((L7.getD 0 .any) : AV)) fun t40 =>
 letO (idx 1 t36 (L7.getD 0 .any)) fun t41 =>
 letO (load1 t41 H8) fun t42 =>
 letO (some (t40 : AV)) fun t10 =>
 letO (some (t42 : AV)) fun t11 =>
 letO (some (t11 : AV)) fun t44 =>
 letO (binF Tryz.prog .lss 3 t44 (.int .i64 0)) fun t45 =>
 letO (some (t45 : AV)) fun t46 =>
 letO (gval t46 false (some (t11 : AV))) fun t47 =>
 letO (gval t46 false (some (x0 : AV))) fun t48 =>
 letO (gval t46 false (binF Tryz.prog .geq 3 t47 t48)) fun t49 =>
 letO (pickF t46 (.bool true) t49) fun t50 =>
 letO (some (t50 : AV)) fun t43 =>
 condA t43 true (
 letO (some (.nils : AV)) fun t4 =>
 letO (some ((.int .i64 2) : AV)) fun t5 =>
endK (.tup [t4, t5]) H8 K) (
 letO (some (t10 : AV)) fun t52 =>
 letO (binF Tryz.prog .gtr 3 t52 (.int .i64 0)) fun t53 =>
 letO (some (t53 : AV)) fun t54 =>
 letO (gval t54 true (some (t11 : AV))) fun t55 =>
 letO (gval t54 true (some (t9 : AV))) fun t56 =>
 letO (gval t54 true (some (t10 : AV))) fun t57 =>
 letO (gval t54 true (binF Tryz.prog .sub 3 t57 (.int .i64 1))) fun t58 =>
 letO (gval t54 true (idx 1 t56 t58)) fun t59 =>
 letO (gval t54 true (load1 t59 H8)) fun t60 =>
 letO (gval t54 true (binF Tryz.prog .leq 3 t55 t60)) fun t61 =>
 letO (pickF t54 t61 (.bool false)) fun t62 =>
 letO (some (t62 : AV)) fun t51 =>
 condA t51 true (
 letO (some (.nils : AV)) fun t4 =>
 letO (some ((.int .i64 7) : AV)) fun t5 =>
endK (.tup [t4, t5]) H8 K) (
 letO (binF Tryz.prog .add 3 (L7.getD 0 .any) (.int .i64 1)) fun t63 =>
 letO (some (t63 : AV)) fun t38 =>
 I5 [t38] H8 ∧ μ6 [t38] H8 < μ6 L7 H8))) (
 letO (some (t9 : AV)) fun t64 =>
 ACalls Tryz.prog 33 [t64] H8 fun t65 H9 =>
 allocA [(.int .u8 0)] (fun t12 H10 =>
 storeA 1 t12 t65 (fun H11 =>
 true = true ∧ ∃ J12 : List AV → Heap → Prop, (
 letO (loadN 1 t12 H11) fun t66 =>
 ACalls Tryz.prog 34 [t66, (.int .i64 0)] H11 fun t67 H13 =>
 condA t67 true (
 letO (faddr 0 t12) fun t68 =>
 letO (load1 t68 H13) fun t69 =>
 letO (some (t6 : AV)) fun t70 =>
 letO (binF Tryz.prog .xor 5 t69 t70) fun t71 =>
 letO (faddr 0 t12) fun t72 =>
 storeA 1 t72 t71 (fun H14 =>
 J12 [] H14) H13) (
 J12 [] H13)) ∧ ∀ L15 H16, J12 L15 H16 → -- []
 letO (faddr 0 t12) fun t74 =>
 letO (load1 t74 H16) fun t75 =>
 letO (binF Tryz.prog .eql 5 t75 (.int .u8 0)) fun t76 =>
 letO (some (t76 : AV)) fun t73 =>
 condA t73 true (
 letO (some (.nils : AV)) fun t4 =>
 letO (some ((.int .i64 5) : AV)) fun t5 =>
endK (.tup [t4, t5]) H16 K) (
 letO (some ((L3.getD 0 .any) : AV)) fun t78 =>
 letO (loadN 1 t12 H16) fun t79 =>
 ACalls Tryz.prog 35 [t78, t79] H16 fun t80 H17 =>
 letO (some (t80 : AV)) fun t77 =>
 condA t77 true (
 letO (some (.nils : AV)) fun t4 =>
 letO (some ((.int .i64 6) : AV)) fun t5 =>
endK (.tup [t4, t5]) H17 K) (
 letO (some ((L3.getD 0 .any) : AV)) fun t81 =>
 letO (loadN 1 t12 H17) fun t82 =>
 letO (literalF Tryz.prog 47 1 [(0, t82)]) fun c18 =>
 appendA 1 1 t81 (.imm 1 true c18) (fun t84 H19 =>
 letO (some (t84 : AV)) fun t7 =>
 letO (binF Tryz.prog .add 3 (L3.getD 1 .any) (.int .i64 1)) fun t85 =>
 letO (some (t85 : AV)) fun t29 =>
 I1 [t7, t29] H19 ∧ μ2 [t7, t29] H19 < μ2 L3 H4) H17))) H10) H9))) (
 letO (some ((L3.getD 0 .any) : AV)) fun t86 =>
 letO (some (t86 : AV)) fun t4 =>
 letO (some ((.int .i64 0) : AV)) fun t5 =>
endK (.tup [t4, t5]) H4 K)))

theorem W16_ok {x0 x1 : AV} {H : Heap} {K : AV → Heap → Prop} (h : W16 x0 x1 H K) : ACalls Tryz.prog 16 [x0, x1] H K :=
  acallsB (fn := Tryz.f16) (cfg := cfgOf [] [] [] [] [] []) (hh := (.dir .nil (.dir (.blk (.dir .nil (.dir .nil (.dir .nil (.dir .nil .nil))))) (.dir .nil (.dir .nil (.dir (.dir .nil (.blk (.loop [7, 29] [30, 31, 32, 9, 33, 34, 35, 4, 5, 36, 37, 38, 39, 40, 41, 42, 10, 11, 44, 45, 46, 47, 48, 49, 50, 43, 52, 53, 54, 55, 56, 57, 58, 59, 60, 61, 62, 51, 63, 64, 65, 12, 66, 67, 68, 69, 70, 71, 72, 74, 75, 76, 73, 78, 79, 80, 77, 81, 82, 83, 84, 7, 85, 29] (.dir .nil (.dir .nil (.dir (.blk (.dir .nil (.dir (.dir .nil (.dir .nil .nil)) (.dir (.dir .nil (.blk (.loop [38] [39, 40, 41, 42, 10, 11, 44, 45, 46, 47, 48, 49, 50, 43, 4, 5, 52, 53, 54, 55, 56, 57, 58, 59, 60, 61, 62, 51, 63, 38] (.dir .nil (.dir .nil (.dir (.blk (.dir .nil (.blk (.dir .nil (.dir .nil (.dir .nil (.dir .nil .nil))))))) .nil)))))) (.dir .nil (.cut [] [66, 67, 68, 69, 70, 71, 72] (.dir .nil .nil) (.dir (.blk (.dir .nil (.dir .nil (.dir .nil (.dir .nil .nil))))) .nil))))))) .nil)))))) .nil)))))) follows Tryz.func16 (by kernel_rfl) (Nat.le_of_ble_eq_true (by kernel_rfl)) (by kernel_rfl) h

/-- headword.class.agree -/
def W17 (x0 x1 : AV) (H : Heap) (K : AV → Heap → Prop) : Prop :=
 letO (cellsOf? x0) fun c1 =>
 letO (cellsOf? x1) fun c2 =>
 letO (some ((.bool false) : AV)) fun t4 =>
 letO (loadN 1 (.iptr c1) H) fun t5 =>
 letO (loadN 1 (.iptr c2) H) fun t6 =>
 ACalls Tryz.prog 36 [t5, t6] H fun t7 H3 =>
 letO (some (t7 : AV)) fun t8 =>
 letO (gval t8 false (loadN 1 (.iptr c2) H3)) fun t9 =>
 letO (gval t8 false (loadN 1 (.iptr c1) H3)) fun t10 =>
 ∃ J4 : AV → Heap → Prop, condG t8 false (ACalls Tryz.prog 36 [t9, t10] H3 fun t11 H5 =>
 J4 t11 H5) (J4 (.tup []) H3) ∧ ∀ t11 H6, J4 t11 H6 →
 letO (pickF t8 (.bool true) t11) fun t12 =>
 letO (some (t12 : AV)) fun t13 =>
 letO (gval t13 false (faddr 0 (.iptr c1))) fun t14 =>
 letO (gval t13 false (load1 t14 H6)) fun t15 =>
 letO (gval t13 false (faddr 0 (.iptr c2))) fun t16 =>
 letO (gval t13 false (load1 t16 H6)) fun t17 =>
 letO (gval t13 false (binF Tryz.prog .and 5 t15 t17)) fun t18 =>
 letO (gval t13 false (binF Tryz.prog .eql 5 t18 (.int .u8 0))) fun t19 =>
 letO (pickF t13 (.bool true) t19) fun t20 =>
 letO (some (t20 : AV)) fun t4 =>
endK t4 H6 K

theorem W17_ok {x0 x1 : AV} {H : Heap} {K : AV → Heap → Prop} (h : W17 x0 x1 H K) : ACalls Tryz.prog 17 [x0, x1] H K :=
  acallsB (fn := Tryz.f17) (cfg := cfgOf [] [] [] [] [] []) (hh := (.dir .nil .nil)) follows Tryz.func17 (by kernel_rfl) (Nat.le_of_ble_eq_true (by kernel_rfl)) (by kernel_rfl) h

/-- (headword.class.set[uint16]).list -/
def W18 (x0 : AV) (H : Heap) (K : AV → Heap → Prop) : Prop :=
 letO (cellsOf? x0) fun c1 =>
 letO (some (.nils : AV)) fun t2 =>
 letO (some (.nils : AV)) fun t3 =>
 letO (faddr 0 (.iptr c1)) fun t5 =>
 letO (load1 t5 H) fun t6 =>
 letO (convF Tryz.prog 54 65 t6) fun t7 =>
 letO (some (t7 : AV)) fun t4 =>
 true = true ∧ ∃ (I2 : List AV → Heap → Prop) (μ3 : List AV → Heap → Nat), I2 [t3, t4] H ∧ ∀ L4 H5, I2 L4 H5 → -- [t3, t4]
 letO (some ((L4.getD 1 .any) : AV)) fun t8 =>
 letO (binF Tryz.prog .neq 65 t8 (.int .u64 0)) fun t9 =>
 condA t9 true (
 letO (some ((L4.getD 0 .any) : AV)) fun t14 =>
 letO (some ((L4.getD 1 .any) : AV)) fun t15 =>
 ACalls Tryz.prog 37 [t15] H5 fun t16 H6 =>
 letO (literalF Tryz.prog 24 1 [(0, t16)]) fun c7 =>
 appendA 1 8 t14 (.imm 1 true c7) (fun t18 H8 =>
 letO (some (t18 : AV)) fun t3 =>
 letO (some ((L4.getD 1 .any) : AV)) fun t10 =>
 letO (some ((L4.getD 1 .any) : AV)) fun t11 =>
 letO (binF Tryz.prog .sub 65 t11 (.int .u64 1)) fun t12 =>
 letO (binF Tryz.prog .and 65 t10 t12) fun t13 =>
 letO (some (t13 : AV)) fun t4 =>
 I2 [t3, t4] H8 ∧ μ3 [t3, t4] H8 < μ3 L4 H5) H6) (
 letO (some ((L4.getD 0 .any) : AV)) fun t19 =>
 letO (some (t19 : AV)) fun t2 =>
endK t2 H5 K)

theorem W18_ok {x0 : AV} {H : Heap} {K : AV → Heap → Prop} (h : W18 x0 H K) : ACalls Tryz.prog 18 [x0] H K :=
  acallsB (fn := Tryz.f18) (cfg := cfgOf [] [] [] [] [] []) (hh := (.dir .nil (.dir .nil (.dir (.dir .nil (.blk (.loop [3, 4] [8, 9, 14, 15, 16, 17, 18, 3, 10, 11, 12, 13, 4] (.dir (.dir .nil .nil) (.dir .nil .nil))))) .nil)))) follows Tryz.func18 (by kernel_rfl) (Nat.le_of_ble_eq_true (by kernel_rfl)) (by kernel_rfl) h

/-- slices.ContainsFunc[[]int,int] -/
def W19 (x0 x1 : AV) (H : Heap) (K : AV → Heap → Prop) : Prop :=
 letO (some ((.bool false) : AV)) fun t4 =>
 letO (some (x0 : AV)) fun t5 =>
 letO (some (x1 : AV)) fun t6 =>
 ACalls Tryz.prog 38 [t5, t6] H fun t7 H1 =>
 letO (binF Tryz.prog .geq 3 t7 (.int .i64 0)) fun t8 =>
 letO (some (t8 : AV)) fun t4 =>
endK t4 H1 K

theorem W19_ok {x0 x1 : AV} {H : Heap} {K : AV → Heap → Prop} (h : W19 x0 x1 H K) : ACalls Tryz.prog 19 [x0, x1] H K :=
  acallsB (fn := Tryz.f19) (cfg := cfgOf [] [] [] [] [] []) (hh := (.dir .nil .nil)) follows Tryz.func19 (by kernel_rfl) (Nat.le_of_ble_eq_true (by kernel_rfl)) (by kernel_rfl) h

/-- headword.class.Most$1 -/
def W20 (x0 x1 x2 : AV) (H : Heap) (K : AV → Heap → Prop) : Prop :=
 letO (some ((.bool false) : AV)) fun t4 =>
 true = true ∧
 letO (loadN 1 x1 H) fun t5 =>
 letO (load1 x2 H) fun t6 =>
 letO (some (x0 : AV)) fun t7 =>
 letO (idx 1 t6 t7) fun t8 =>
 letO (loadN 1 t8 H) fun t9 =>
 ACalls Tryz.prog 21 [t5, t9] H fun t10 H1 =>
 letO (unF .not t10) fun t11 =>
 letO (some (t11 : AV)) fun t4 =>
endK t4 H1 K

theorem W20_ok {x0 x1 x2 : AV} {H : Heap} {K : AV → Heap → Prop} (h : W20 x0 x1 x2 H K) : ACalls Tryz.prog 20 [x0, x1, x2] H K :=
  acallsB (fn := Tryz.f20) (cfg := cfgOf [] [] [(1, [0, 0, 0, 6, 14, 31, 63, 127])] [] [] []) (hh := (.dir .nil .nil)) follows Tryz.func20 (by kernel_rfl) (Nat.le_of_ble_eq_true (by kernel_rfl)) (by kernel_rfl) h

/-- (headword.class.set[uint16]).within -/
def W21 (x0 x1 : AV) (H : Heap) (K : AV → Heap → Prop) : Prop :=
 letO (cellsOf? x0) fun c1 =>
 letO (cellsOf? x1) fun c2 =>
 letO (some ((.bool false) : AV)) fun t4 =>
 letO (faddr 0 (.iptr c1)) fun t5 =>
 letO (load1 t5 H) fun t6 =>
 letO (faddr 0 (.iptr c2)) fun t7 =>
 letO (load1 t7 H) fun t8 =>
 letO (binF Tryz.prog .andNot 54 t6 t8) fun t9 =>
 letO (binF Tryz.prog .eql 54 t9 (.int .u16 0)) fun t10 =>
 letO (some (t10 : AV)) fun t4 =>
endK t4 H K

theorem W21_ok {x0 x1 : AV} {H : Heap} {K : AV → Heap → Prop} (h : W21 x0 x1 H K) : ACalls Tryz.prog 21 [x0, x1] H K :=
  acallsB (fn := Tryz.f21) (cfg := cfgOf [] [] [] [] [] []) (hh := (.dir .nil .nil)) follows Tryz.func21 (by kernel_rfl) (Nat.le_of_ble_eq_true (by kernel_rfl)) (by kernel_rfl) h

/-- headword.class.parted -/
def W29 (x0 x1 x2 : AV) (H : Heap) (K : AV → Heap → Prop) : Prop :=
 letO (some ((.int .i64 0) : AV)) fun t6 =>
 letO (some ((.int .i64 0) : AV)) fun t7 =>
 letO (some (x0 : AV)) fun t10 =>
 letO (lenA t10) fun t11 =>
 letO (some ((.int .i64 0) : AV)) fun t12 =>
 true = true ∧ ∃ (I1 : List AV → Heap → Prop) (μ2 : List AV → Heap → Nat), I1 [t7, t12] H ∧ ∀ L3 H4, I1 L3 H4 → -- [t7, t12]
 letO (binF Tryz.prog .lss 3 (L3.getD 1 .any) t11) fun t13 =>
 condA t13 true (
 true = true ∧ ∃ J5 : List AV → Heap → Prop, (
 letO (idx 1 t10 (L3.getD 1 .any)) fun t14 =>
 letO (loadN 1 t14 H4) fun t15 =>
 allocA [(.int .u8 0)] (fun t9 H6 =>
 storeA 1 t9 t15 (fun H7 =>
 true = true ∧
 letO (loadN 1 t9 H7) fun t16 =>
 letO (some (x1 : AV)) fun t17 =>
 ∃ t18, (ACalls Tryz.prog 34 [t16, t17] H7 fun r h => r = t18 ∧ h = H7) ∧
 letO (loadN 1 t9 H7) fun t19 =>
 letO (some (x2 : AV)) fun t20 =>
 ACalls Tryz.prog 34 [t19, t20] H7 fun t21 H8 =>
 letO (binF Tryz.prog .neq 4 t18 t21) fun t22 =>
 condA t22 true (
 letO (some ((L3.getD 0 .any) : AV)) fun t23 =>
 letO (binF Tryz.prog .add 3 t23 (.int .i64 1)) fun t24 =>
 letO (some (t24 : AV)) fun t7 =>
 J5 [t7] H8) (
 J5 [(L3.getD 0 .any)] H8)) H6) H4) ∧ ∀ L9 H10, J5 L9 H10 → -- [t7]
 letO (binF Tryz.prog .add 3 (L3.getD 1 .any) (.int .i64 1)) fun t25 =>
 letO (some (t25 : AV)) fun t12 =>
 I1 [(L9.getD 0 .any), t12] H10 ∧ μ2 [(L9.getD 0 .any), t12] H10 < μ2 L3 H4) (
 letO (some ((L3.getD 0 .any) : AV)) fun t26 =>
 letO (some (t26 : AV)) fun t6 =>
endK t6 H4 K)

theorem W29_ok {x0 x1 x2 : AV} {H : Heap} {K : AV → Heap → Prop} (h : W29 x0 x1 x2 H K) : ACalls Tryz.prog 29 [x0, x1, x2] H K :=
  acallsB (fn := Tryz.f29) (cfg := cfgOf [] [] [(5, [0, 0, 3, 0, 0, 31, 63])] [] [] []) (hh := (.dir .nil (.dir .nil (.dir (.dir .nil (.blk (.loop [7, 12] [13, 14, 15, 9, 16, 17, 18, 19, 20, 21, 22, 23, 24, 7, 25, 12] (.dir .nil (.dir .nil (.cut [7] [14, 15, 9, 16, 17, 18, 19, 20, 21, 22, 23, 24, 7] (.blk (.dir .nil (.dir .nil .nil))) .nil)))))) .nil)))) follows Tryz.func29 (by kernel_rfl) (Nat.le_of_ble_eq_true (by kernel_rfl)) (by kernel_rfl) h

/-- headword.quire.Creases -/
def W32 (x0 : AV) (H : Heap) (K : AV → Heap → Prop) : Prop :=
 letO (some ((.str (ByteArray.mk #[])) : AV)) fun t2 =>
 letO (some ((.int .i64 0) : AV)) fun t3 =>
 letO (some (x0 : AV)) fun t5 =>
 ACalls Tryz.prog 48 [t5] H fun t6 H1 =>
 letO (some (t6 : AV)) fun t4 =>
 letO (some (t4 : AV)) fun t7 =>
 letO (binF Tryz.prog .neq 32 t7 (.int .i64 0)) fun t8 =>
 condA t8 true (
 letO (some (t4 : AV)) fun t9 =>
 letO (some ((.str (ByteArray.mk #[])) : AV)) fun t2 =>
 letO (some (t9 : AV)) fun t3 =>
endK (.tup [t2, t3]) H1 K) (
 letO (some (x0 : AV)) fun t10 =>
 ACalls Tryz.prog 49 [t10] H1 fun t11 H2 =>
 letO (some (t11 : AV)) fun t2 =>
 letO (some ((.int .i64 0) : AV)) fun t3 =>
endK (.tup [t2, t3]) H2 K)

theorem W32_ok {x0 : AV} {H : Heap} {K : AV → Heap → Prop} (h : W32 x0 H K) : ACalls Tryz.prog 32 [x0] H K :=
  acallsB (fn := Tryz.f32) (cfg := cfgOf [] [] [] [] [] []) (hh := (.dir .nil (.dir (.dir .nil (.dir .nil (.dir .nil .nil))) .nil))) follows Tryz.func32 (by kernel_rfl) (Nat.le_of_ble_eq_true (by kernel_rfl)) (by kernel_rfl) h

/-- headword.class.of[uint8] -/
def W33 (x0 : AV) (H : Heap) (K : AV → Heap → Prop) : Prop :=
 allocA [(.int .u8 0)] (fun t2 H1 =>
 allocA [(.int .u8 0)] (fun t3 H2 =>
 letO (some (x0 : AV)) fun t6 =>
 letO (lenA t6) fun t7 =>
 letO (some ((.int .i64 0) : AV)) fun t8 =>
 true = true ∧ ∃ (I3 : List AV → Heap → Prop) (μ4 : List AV → Heap → Nat), I3 [t8] H2 ∧ ∀ L5 H6, I3 L5 H6 → -- [t8]
 letO (binF Tryz.prog .lss 3 (L5.getD 0 .any) t7) fun t9 =>
 condA t9 true (
 letO (idx 1 t6 (L5.getD 0 .any)) fun t10 =>
 letO (load1 t10 H6) fun t11 =>
 letO (some (t11 : AV)) fun t5 =>
 true = true ∧
 letO (faddr 0 t3) fun t12 =>
 letO (load1 t12 H6) fun t13 =>
 letO (some (t5 : AV)) fun t14 =>
 letO (binF Tryz.prog .shl 5 (.int .u8 1) t14) fun t15 =>
 letO (binF Tryz.prog .or 5 t13 t15) fun t16 =>
 letO (faddr 0 t3) fun t17 =>
 storeA 1 t17 t16 (fun H7 =>
 letO (binF Tryz.prog .add 3 (L5.getD 0 .any) (.int .i64 1)) fun t18 =>
 letO (some (t18 : AV)) fun t8 =>
 I3 [t8] H7 ∧ μ4 [t8] H7 < μ4 L5 H6) H6) (
 letO (loadN 1 t3 H6) fun t19 =>
 storeA 1 t2 t19 (fun H8 =>
 letO (loadN 1 t2 H8) fun r9 => endK r9 H8 K) H6)) H1) H

theorem W33_ok {x0 : AV} {H : Heap} {K : AV → Heap → Prop} (h : W33 x0 H K) : ACalls Tryz.prog 33 [x0] H K :=
  acallsB (fn := Tryz.f33) (cfg := cfgOf [] [] [(5, [0, 1, 0, 4, 15, 31, 63])] [] [] []) (hh := (.dir .nil (.dir .nil (.dir (.dir .nil (.blk (.loop [8] [9, 10, 11, 5, 12, 13, 14, 15, 16, 17, 18, 8] (.dir .nil (.dir .nil (.dir .nil .nil)))))) .nil)))) follows Tryz.func33 (by kernel_rfl) (Nat.le_of_ble_eq_true (by kernel_rfl)) (by kernel_rfl) h

/-- (headword.class.set[uint8]).has -/
def W34 (x0 x1 : AV) (H : Heap) (K : AV → Heap → Prop) : Prop :=
 letO (cellsOf? x0) fun c1 =>
 letO (some ((.bool false) : AV)) fun t4 =>
 letO (faddr 0 (.iptr c1)) fun t5 =>
 letO (load1 t5 H) fun t6 =>
 letO (some (x1 : AV)) fun t7 =>
 letO (binF Tryz.prog .shr 5 t6 t7) fun t8 =>
 letO (binF Tryz.prog .and 5 t8 (.int .u8 1)) fun t9 =>
 letO (binF Tryz.prog .eql 5 t9 (.int .u8 1)) fun t10 =>
 letO (some (t10 : AV)) fun t4 =>
endK t4 H K

theorem W34_ok {x0 x1 : AV} {H : Heap} {K : AV → Heap → Prop} (h : W34 x0 x1 H K) : ACalls Tryz.prog 34 [x0, x1] H K :=
  acallsB (fn := Tryz.f34) (cfg := cfgOf [] [] [] [] [] []) (hh := (.dir .nil .nil)) follows Tryz.func34 (by kernel_rfl) (Nat.le_of_ble_eq_true (by kernel_rfl)) (by kernel_rfl) h

/-- slices.Contains[[]headword.class.set[uint8],headword.class.set[uint8]] -/
def W35 (x0 x1 : AV) (H : Heap) (K : AV → Heap → Prop) : Prop :=
 letO (cellsOf? x1) fun c1 =>
 letO (some ((.bool false) : AV)) fun t4 =>
 letO (some (x0 : AV)) fun t5 =>
 letO (loadN 1 (.iptr c1) H) fun t6 =>
 ACalls Tryz.prog 50 [t5, t6] H fun t7 H2 =>
 letO (binF Tryz.prog .geq 3 t7 (.int .i64 0)) fun t8 =>
 letO (some (t8 : AV)) fun t4 =>
endK t4 H2 K

theorem W35_ok {x0 x1 : AV} {H : Heap} {K : AV → Heap → Prop} (h : W35 x0 x1 H K) : ACalls Tryz.prog 35 [x0, x1] H K :=
  acallsB (fn := Tryz.f35) (cfg := cfgOf [] [] [] [] [] []) (hh := (.dir .nil .nil)) follows Tryz.func35 (by kernel_rfl) (Nat.le_of_ble_eq_true (by kernel_rfl)) (by kernel_rfl) h

/-- (headword.class.set[uint8]).within -/
def W36 (x0 x1 : AV) (H : Heap) (K : AV → Heap → Prop) : Prop :=
 letO (cellsOf? x0) fun c1 =>
 letO (cellsOf? x1) fun c2 =>
 letO (some ((.bool false) : AV)) fun t4 =>
 letO (faddr 0 (.iptr c1)) fun t5 =>
 letO (load1 t5 H) fun t6 =>
 letO (faddr 0 (.iptr c2)) fun t7 =>
 letO (load1 t7 H) fun t8 =>
 letO (binF Tryz.prog .andNot 5 t6 t8) fun t9 =>
 letO (binF Tryz.prog .eql 5 t9 (.int .u8 0)) fun t10 =>
 letO (some (t10 : AV)) fun t4 =>
endK t4 H K

theorem W36_ok {x0 x1 : AV} {H : Heap} {K : AV → Heap → Prop} (h : W36 x0 x1 H K) : ACalls Tryz.prog 36 [x0, x1] H K :=
  acallsB (fn := Tryz.f36) (cfg := cfgOf [] [] [] [] [] []) (hh := (.dir .nil .nil)) follows Tryz.func36 (by kernel_rfl) (Nat.le_of_ble_eq_true (by kernel_rfl)) (by kernel_rfl) h

/-- slices.IndexFunc[[]int,int] -/
def W38 (x0 x1 : AV) (H : Heap) (K : AV → Heap → Prop) : Prop :=
 letO (some ((.int .i64 0) : AV)) fun t4 =>
 letO (some (x0 : AV)) fun t6 =>
 letO (lenA t6) fun t7 =>
 letO (some ((.int .i64 0) : AV)) fun t8 =>
 true = true ∧ ∃ (I1 : List AV → Heap → Prop) (μ2 : List AV → Heap → Nat), I1 [t8] H ∧ ∀ L3 H4, I1 L3 H4 → -- [t8]
 letO (binF Tryz.prog .lss 3 (L3.getD 0 .any) t7) fun t9 =>
 condA t9 true (
 letO (some ((L3.getD 0 .any) : AV)) fun t10 =>
 letO (some (t10 : AV)) fun t5 =>
 letO (some (x1 : AV)) fun t11 =>
 letO (some (x0 : AV)) fun t12 =>
 letO (some (t5 : AV)) fun t13 =>
 letO (idx 1 t12 t13) fun t14 =>
 letO (load1 t14 H4) fun t15 =>
 callA Tryz.prog t11 [t15] (fun t16 H5 =>
 condA t16 true (
 letO (some (t5 : AV)) fun t17 =>
 letO (some (t17 : AV)) fun t4 =>
endK t4 H5 K) (
 letO (binF Tryz.prog .add 3 (L3.getD 0 .any) (.int .i64 1)) fun t18 =>
 letO (some (t18 : AV)) fun t8 =>
 I1 [t8] H5 ∧ μ2 [t8] H5 < μ2 L3 H4)) H4) (
 letO (some ((.int .i64 (-1)) : AV)) fun t4 =>
endK t4 H4 K)

theorem W38_ok {x0 x1 : AV} {H : Heap} {K : AV → Heap → Prop} (h : W38 x0 x1 H K) : ACalls Tryz.prog 38 [x0, x1] H K :=
  acallsB (fn := Tryz.f38) (cfg := cfgOf [] [] [] [] [] []) (hh := (.dir .nil (.dir (.dir .nil (.blk (.loop [8] [9, 10, 5, 11, 12, 13, 14, 15, 16, 17, 4, 18, 8] (.dir .nil (.dir .nil (.dir (.blk (.dir .nil (.dir .nil (.dir .nil .nil)))) .nil)))))) .nil))) follows Tryz.func38 (by kernel_rfl) (Nat.le_of_ble_eq_true (by kernel_rfl)) (by kernel_rfl) h

/-- headword.quire.Check -/
def W48 (x0 : AV) (H : Heap) (K : AV → Heap → Prop) : Prop :=
 letO (some ((.int .i64 0) : AV)) fun t2 =>
 letO (some (x0 : AV)) fun t3 =>
 ACalls Tryz.prog 70 [t3, (.int .i64 6), (.str (ByteArray.mk #[111, 117]))] H fun t4 H1 =>
 letO (some (t4 : AV)) fun t2 =>
endK t2 H1 K

theorem W48_ok {x0 : AV} {H : Heap} {K : AV → Heap → Prop} (h : W48 x0 H K) : ACalls Tryz.prog 48 [x0] H K :=
  acallsB (fn := Tryz.f48) (cfg := cfgOf [] [] [] [] [] []) (hh := (.dir .nil .nil)) follows Tryz.func48 (by kernel_rfl) (Nat.le_of_ble_eq_true (by kernel_rfl)) (by kernel_rfl) h

/-- headword.quire.creases -/
def W49 (x0 : AV) (H : Heap) (K : AV → Heap → Prop) : Prop :=
 letO (some ((.str (ByteArray.mk #[])) : AV)) fun t2 =>
 letO (some (x0 : AV)) fun t5 =>
 letO (lenS t5) fun t6 =>
 letO (binF Tryz.prog .shl 3 (.int .i64 1) t6) fun t7 =>
 letO (binF Tryz.prog .sub 3 t7 (.int .i64 1)) fun t8 =>
 makeA [(.int .u8 0)] 1 1 t8 t8 (fun t9 H1 =>
 letO (some (t9 : AV)) fun t3 =>
 letO (some (t3 : AV)) fun t10 =>
 letO (lenA t10) fun t11 =>
 letO (some ((.int .i64 0) : AV)) fun t12 =>
 true = true ∧ ∃ (I2 : List AV → Heap → Prop) (μ3 : List AV → Heap → Nat), I2 [t12] H1 ∧ ∀ L4 H5, I2 L4 H5 → -- [t12]
 letO (binF Tryz.prog .lss 3 (L4.getD 0 .any) t11) fun t13 =>
 condA t13 true (
 letO (some ((L4.getD 0 .any) : AV)) fun t14 =>
 letO (some (t14 : AV)) fun t4 =>
 letO (some (t3 : AV)) fun t15 =>
 letO (some (t4 : AV)) fun t16 =>
 letO (some (x0 : AV)) fun t17 =>
 letO (some (t4 : AV)) fun t18 =>
 ACalls Tryz.prog 71 [t17, t18] H5 fun t19 H6 =>
 letO (idx 1 t15 t16) fun t20 =>
 storeA 1 t20 t19 (fun H7 =>
 letO (binF Tryz.prog .add 3 (L4.getD 0 .any) (.int .i64 1)) fun t21 =>
 letO (some (t21 : AV)) fun t12 =>
 I2 [t12] H7 ∧ μ3 [t12] H7 < μ3 L4 H5) H6) (
 letO (some (t3 : AV)) fun t22 =>
 toStrA t22 (fun t23 H8 =>
 letO (some (t23 : AV)) fun t2 =>
endK t2 H8 K) H5)) H

theorem W49_ok {x0 : AV} {H : Heap} {K : AV → Heap → Prop} (h : W49 x0 H K) : ACalls Tryz.prog 49 [x0] H K :=
  acallsB (fn := Tryz.f49) (cfg := cfgOf [] [] [] [] [] [23]) (hh := (.dir .nil (.dir .nil (.dir (.dir .nil (.blk (.loop [12] [13, 14, 4, 15, 16, 17, 18, 19, 20, 21, 12] (.dir .nil (.dir .nil (.dir .nil .nil)))))) .nil)))) follows Tryz.func49 (by kernel_rfl) (Nat.le_of_ble_eq_true (by kernel_rfl)) (by kernel_rfl) h

/-- slices.Index[[]headword.class.set[uint8],headword.class.set[uint8]] -/
def W50 (x0 x1 : AV) (H : Heap) (K : AV → Heap → Prop) : Prop :=
 letO (cellsOf? x1) fun c1 =>
 letO (some ((.int .i64 0) : AV)) fun t4 =>
 letO (some (x0 : AV)) fun t6 =>
 letO (lenA t6) fun t7 =>
 letO (some ((.int .i64 0) : AV)) fun t8 =>
 true = true ∧ ∃ (I2 : List AV → Heap → Prop) (μ3 : List AV → Heap → Nat), I2 [t8] H ∧ ∀ L4 H5, I2 L4 H5 → -- [t8]
 letO (binF Tryz.prog .lss 3 (L4.getD 0 .any) t7) fun t9 =>
 condA t9 true (
 letO (some ((L4.getD 0 .any) : AV)) fun t10 =>
 letO (some (t10 : AV)) fun t5 =>
 true = true ∧
 letO (loadN 1 (.iptr c1) Heap.none) fun t11 =>
 letO (some (x0 : AV)) fun t12 =>
 letO (some (t5 : AV)) fun t13 =>
 letO (idx 1 t12 t13) fun t14 =>
 letO (loadN 1 t14 H5) fun t15 =>
 letO (binF Tryz.prog .eql 52 t11 t15) fun t16 =>
 condA t16 true (
 letO (some (t5 : AV)) fun t17 =>
 letO (some (t17 : AV)) fun t4 =>
endK t4 H5 K) (
 letO (binF Tryz.prog .add 3 (L4.getD 0 .any) (.int .i64 1)) fun t18 =>
 letO (some (t18 : AV)) fun t8 =>
 I2 [t8] H5 ∧ μ3 [t8] H5 < μ3 L4 H5)) (
 letO (some ((.int .i64 (-1)) : AV)) fun t4 =>
endK t4 H5 K)

theorem W50_ok {x0 x1 : AV} {H : Heap} {K : AV → Heap → Prop} (h : W50 x0 x1 H K) : ACalls Tryz.prog 50 [x0, x1] H K :=
  acallsB (fn := Tryz.f50) (cfg := cfgOf [] [11] [(4, [0, 0, 0, 6, 14, 31])] [] [] []) (hh := (.dir .nil (.dir (.dir .nil (.blk (.loop [8] [9, 10, 5, 11, 12, 13, 14, 15, 16, 17, 4, 18, 8] (.dir .nil (.dir .nil (.dir (.blk (.dir .nil (.dir .nil (.dir .nil .nil)))) .nil)))))) .nil))) follows Tryz.func50 (by kernel_rfl) (Nat.le_of_ble_eq_true (by kernel_rfl)) (by kernel_rfl) h

/-- headword.quire.written -/
def W70 (x0 x1 x2 : AV) (H : Heap) (K : AV → Heap → Prop) : Prop :=
 letO (some ((.int .i64 0) : AV)) fun t6 =>
 letO (some (x0 : AV)) fun t8 =>
 letO (lenS t8) fun t9 =>
 letO (some (x1 : AV)) fun t10 =>
 letO (binF Tryz.prog .gtr 3 t9 t10) fun t11 =>
 letO (some (t11 : AV)) fun t7 =>
 condA t7 true (
 letO (some ((.int .i64 19) : AV)) fun t6 =>
endK t6 H K) (
 letO (some (x0 : AV)) fun t13 =>
 letO (some (x2 : AV)) fun t14 =>
 ACalls Tryz.prog 82 [t13, t14] H fun t15 H1 =>
 letO (binF Tryz.prog .neq 9 t15 (.str (ByteArray.mk #[]))) fun t16 =>
 letO (some (t16 : AV)) fun t12 =>
 condA t12 true (
 letO (some ((.int .i64 10) : AV)) fun t6 =>
endK t6 H1 K) (
 letO (some ((.int .i64 0) : AV)) fun t6 =>
endK t6 H1 K))

theorem W70_ok {x0 x1 x2 : AV} {H : Heap} {K : AV → Heap → Prop} (h : W70 x0 x1 x2 H K) : ACalls Tryz.prog 70 [x0, x1, x2] H K :=
  acallsB (fn := Tryz.f70) (cfg := cfgOf [] [] [] [] [] []) (hh := (.dir .nil (.dir (.blk (.dir .nil (.dir .nil (.dir .nil (.dir .nil .nil))))) .nil))) follows Tryz.func70 (by kernel_rfl) (Nat.le_of_ble_eq_true (by kernel_rfl)) (by kernel_rfl) h

/-- headword.quire.kind -/
def W71 (x0 x1 : AV) (H : Heap) (K : AV → Heap → Prop) : Prop :=
 letO (some ((.int .u8 0) : AV)) fun t4 =>
 letO (some (x1 : AV)) fun t6 =>
 letO (binF Tryz.prog .add 3 t6 (.int .i64 1)) fun t7 =>
 letO (convF Tryz.prog 3 65 t7) fun t8 =>
 ACalls Tryz.prog 37 [t8] H fun t9 H1 =>
 letO (some (t9 : AV)) fun t5 =>
 true = true ∧
 letO (some (x0 : AV)) fun t10 =>
 letO (some (x0 : AV)) fun t11 =>
 letO (lenS t11) fun t12 =>
 letO (binF Tryz.prog .sub 3 t12 (.int .i64 1)) fun t13 =>
 letO (some (t5 : AV)) fun t14 =>
 letO (binF Tryz.prog .sub 3 t13 t14) fun t15 =>
 letO (indexF Tryz.prog 9 t10 t15) fun t16 =>
 letO (binF Tryz.prog .eql 5 t16 (.int .u8 111)) fun t17 =>
 letO (some (x1 : AV)) fun t18 =>
 letO (binF Tryz.prog .add 3 t18 (.int .i64 1)) fun t19 =>
 letO (some (t5 : AV)) fun t20 =>
 letO (binF Tryz.prog .shr 3 t19 t20) fun t21 =>
 letO (binF Tryz.prog .rem 3 t21 (.int .i64 4)) fun t22 =>
 letO (binF Tryz.prog .eql 3 t22 (.int .i64 1)) fun t23 =>
 letO (binF Tryz.prog .eql 4 t17 t23) fun t24 =>
 condA t24 true (
 letO (some ((.int .u8 118) : AV)) fun t4 =>
endK t4 H1 K) (
 letO (some ((.int .u8 104) : AV)) fun t4 =>
endK t4 H1 K)

theorem W71_ok {x0 x1 : AV} {H : Heap} {K : AV → Heap → Prop} (h : W71 x0 x1 H K) : ACalls Tryz.prog 71 [x0, x1] H K :=
  acallsB (fn := Tryz.f71) (cfg := cfgOf [] [] [(2, [0, 0, 2, 6, 0, 30, 63, 127, 0, 256, 0, 1792, 3840, 7936, 16383])] [] [] []) (hh := (.dir .nil (.dir .nil (.dir (.dir .nil (.dir .nil .nil)) .nil)))) follows Tryz.func71 (by kernel_rfl) (Nat.le_of_ble_eq_true (by kernel_rfl)) (by kernel_rfl) h

/-- strings.Trim -/
def W82 (x0 x1 : AV) (H : Heap) (K : AV → Heap → Prop) : Prop :=
 letO (some ((.str (ByteArray.mk #[])) : AV)) fun t4 =>
 letO (some (x0 : AV)) fun t7 =>
 letO (binF Tryz.prog .eql 9 t7 (.str (ByteArray.mk #[]))) fun t8 =>
 letO (some (t8 : AV)) fun t9 =>
 letO (gval t9 false (some (x1 : AV))) fun t10 =>
 letO (gval t9 false (binF Tryz.prog .eql 9 t10 (.str (ByteArray.mk #[])))) fun t11 =>
 letO (pickF t9 (.bool true) t11) fun t12 =>
 condA t12 true (
 letO (some (x0 : AV)) fun t13 =>
 letO (some (t13 : AV)) fun t4 =>
endK t4 H K) (
 letO (some (x1 : AV)) fun t14 =>
 letO (lenS t14) fun t15 =>
 letO (binF Tryz.prog .eql 3 t15 (.int .i64 1)) fun t16 =>
 letO (some (t16 : AV)) fun t17 =>
 letO (gval t17 true (some (x1 : AV))) fun t18 =>
 letO (gval t17 true (indexF Tryz.prog 9 t18 (.int .i64 0))) fun t19 =>
 letO (gval t17 true (binF Tryz.prog .lss 5 t19 (.int .u8 128))) fun t20 =>
 letO (pickF t17 t20 (.bool false)) fun t21 =>
 condA t21 true (
 true = true ∧
 letO (some (x0 : AV)) fun t22 =>
 letO (some (x1 : AV)) fun t23 =>
 letO (indexF Tryz.prog 9 t23 (.int .i64 0)) fun t24 =>
 ∃ t25, (ACalls Tryz.prog 86 [t22, t24] H fun r h => r = t25 ∧ h = H) ∧
 letO (some (x1 : AV)) fun t26 =>
 letO (indexF Tryz.prog 9 t26 (.int .i64 0)) fun t27 =>
 ACalls Tryz.prog 85 [t25, t27] H fun t28 H1 =>
 letO (some (t28 : AV)) fun t4 =>
endK t4 H1 K) (
 letO (some (x1 : AV)) fun t30 =>
 ACalls Tryz.prog 87 [t30] H fun t31 H2 =>
 letO (some (t31 : AV)) fun t29 =>
 letO (extrF t29 0) fun t32 =>
 letO (extrF t29 1) fun t33 =>
 allocA [(.bool false), (.bool false), (.bool false), (.bool false), (.bool false), (.bool false), (.bool false), (.bool false), (.bool false), (.bool false), (.bool false), (.bool false), (.bool false), (.bool false), (.bool false), (.bool false), (.bool false), (.bool false), (.bool false), (.bool false), (.bool false), (.bool false), (.bool false), (.bool false), (.bool false), (.bool false), (.bool false), (.bool false), (.bool false), (.bool false), (.bool false), (.bool false), (.bool false), (.bool false), (.bool false), (.bool false), (.bool false), (.bool false), (.bool false), (.bool false), (.bool false), (.bool false), (.bool false), (.bool false), (.bool false), (.bool false), (.bool false), (.bool false), (.bool false), (.bool false), (.bool false), (.bool false), (.bool false), (.bool false), (.bool false), (.bool false), (.bool false), (.bool false), (.bool false), (.bool false), (.bool false), (.bool false), (.bool false), (.bool false), (.bool false), (.bool false), (.bool false), (.bool false), (.bool false), (.bool false), (.bool false), (.bool false), (.bool false), (.bool false), (.bool false), (.bool false), (.bool false), (.bool false), (.bool false), (.bool false), (.bool false), (.bool false), (.bool false), (.bool false), (.bool false), (.bool false), (.bool false), (.bool false), (.bool false), (.bool false), (.bool false), (.bool false), (.bool false), (.bool false), (.bool false), (.bool false), (.bool false), (.bool false), (.bool false), (.bool false), (.bool false), (.bool false), (.bool false), (.bool false), (.bool false), (.bool false), (.bool false), (.bool false), (.bool false), (.bool false), (.bool false), (.bool false), (.bool false), (.bool false), (.bool false), (.bool false), (.bool false), (.bool false), (.bool false), (.bool false), (.bool false), (.bool false), (.bool false), (.bool false), (.bool false), (.bool false), (.bool false), (.bool false), (.bool false), (.bool false), (.bool false), (.bool false), (.bool false), (.bool false), (.bool false), (.bool false), (.bool false), (.bool false), (.bool false), (.bool false), (.bool false), (.bool false), (.bool false), (.bool false), (.bool false), (.bool false), (.bool false), (.bool false), (.bool false), (.bool false), (.bool false), (.bool false), (.bool false), (.bool false), (.bool false), (.bool false), (.bool false), (.bool false), (.bool false), (.bool false), (.bool false), (.bool false), (.bool false), (.bool false), (.bool false), (.bool false), (.bool false), (.bool false), (.bool false), (.bool false), (.bool false), (.bool false), (.bool false), (.bool false), (.bool false), (.bool false), (.bool false), (.bool false), (.bool false), (.bool false), (.bool false), (.bool false), (.bool false), (.bool false), (.bool false), (.bool false), (.bool false), (.bool false), (.bool false), (.bool false), (.bool false), (.bool false), (.bool false), (.bool false), (.bool false), (.bool false), (.bool false), (.bool false), (.bool false), (.bool false), (.bool false), (.bool false), (.bool false), (.bool false), (.bool false), (.bool false), (.bool false), (.bool false), (.bool false), (.bool false), (.bool false), (.bool false), (.bool false), (.bool false), (.bool false), (.bool false), (.bool false), (.bool false), (.bool false), (.bool false), (.bool false), (.bool false), (.bool false), (.bool false), (.bool false), (.bool false), (.bool false), (.bool false), (.bool false), (.bool false), (.bool false), (.bool false), (.bool false), (.bool false), (.bool false), (.bool false), (.bool false), (.bool false), (.bool false), (.bool false), (.bool false), (.bool false), (.bool false), (.bool false), (.bool false), (.bool false), (.bool false), (.bool false), (.bool false), (.bool false), (.bool false), (.bool false), (.bool false), (.bool false), (.bool false), (.bool false)] (fun t5 H3 =>
 storeA 256 t5 t32 (fun H4 =>
 letO (some (t33 : AV)) fun t6 =>
 letO (some (t6 : AV)) fun t34 =>
 condA t34 true (
 letO (some (x0 : AV)) fun t35 =>
 ACalls Tryz.prog 89 [t35, t5] H4 fun t36 H5 =>
 ACalls Tryz.prog 88 [t36, t5] H5 fun t37 H6 =>
 letO (some (t37 : AV)) fun t4 =>
endK t4 H6 K) (
 letO (some (x0 : AV)) fun t38 =>
 letO (some (x1 : AV)) fun t39 =>
 ACalls Tryz.prog 91 [t38, t39] H4 fun t40 H7 =>
 letO (some (x1 : AV)) fun t41 =>
 ACalls Tryz.prog 90 [t40, t41] H7 fun t42 H8 =>
 letO (some (t42 : AV)) fun t4 =>
endK t4 H8 K)) H3) H2))

theorem W82_ok {x0 x1 : AV} {H : Heap} {K : AV → Heap → Prop} (h : W82 x0 x1 H K) : ACalls Tryz.prog 82 [x0, x1] H K :=
  acallsB (fn := Tryz.f82) (cfg := cfgOf [] [] [(4, [0, 0, 2, 7, 0, 16, 63, 127])] [] [] []) (hh := (.dir .nil (.dir (.dir .nil (.dir .nil .nil)) (.dir (.dir .nil (.dir .nil .nil)) (.dir (.dir .nil (.dir .nil (.dir .nil .nil))) .nil))))) follows Tryz.func82 (by kernel_rfl) (Nat.le_of_ble_eq_true (by kernel_rfl)) (by kernel_rfl) h

/-- strings.makeASCIISet -/
def W87 (x0 : AV) (H : Heap) (K : AV → Heap → Prop) : Prop :=
 allocA [(.bool false), (.bool false), (.bool false), (.bool false), (.bool false), (.bool false), (.bool false), (.bool false), (.bool false), (.bool false), (.bool false), (.bool false), (.bool false), (.bool false), (.bool false), (.bool false), (.bool false), (.bool false), (.bool false), (.bool false), (.bool false), (.bool false), (.bool false), (.bool false), (.bool false), (.bool false), (.bool false), (.bool false), (.bool false), (.bool false), (.bool false), (.bool false), (.bool false), (.bool false), (.bool false), (.bool false), (.bool false), (.bool false), (.bool false), (.bool false), (.bool false), (.bool false), (.bool false), (.bool false), (.bool false), (.bool false), (.bool false), (.bool false), (.bool false), (.bool false), (.bool false), (.bool false), (.bool false), (.bool false), (.bool false), (.bool false), (.bool false), (.bool false), (.bool false), (.bool false), (.bool false), (.bool false), (.bool false), (.bool false), (.bool false), (.bool false), (.bool false), (.bool false), (.bool false), (.bool false), (.bool false), (.bool false), (.bool false), (.bool false), (.bool false), (.bool false), (.bool false), (.bool false), (.bool false), (.bool false), (.bool false), (.bool false), (.bool false), (.bool false), (.bool false), (.bool false), (.bool false), (.bool false), (.bool false), (.bool false), (.bool false), (.bool false), (.bool false), (.bool false), (.bool false), (.bool false), (.bool false), (.bool false), (.bool false), (.bool false), (.bool false), (.bool false), (.bool false), (.bool false), (.bool false), (.bool false), (.bool false), (.bool false), (.bool false), (.bool false), (.bool false), (.bool false), (.bool false), (.bool false), (.bool false), (.bool false), (.bool false), (.bool false), (.bool false), (.bool false), (.bool false), (.bool false), (.bool false), (.bool false), (.bool false), (.bool false), (.bool false), (.bool false), (.bool false), (.bool false), (.bool false), (.bool false), (.bool false), (.bool false), (.bool false), (.bool false), (.bool false), (.bool false), (.bool false), (.bool false), (.bool false), (.bool false), (.bool false), (.bool false), (.bool false), (.bool false), (.bool false), (.bool false), (.bool false), (.bool false), (.bool false), (.bool false), (.bool false), (.bool false), (.bool false), (.bool false), (.bool false), (.bool false), (.bool false), (.bool false), (.bool false), (.bool false), (.bool false), (.bool false), (.bool false), (.bool false), (.bool false), (.bool false), (.bool false), (.bool false), (.bool false), (.bool false), (.bool false), (.bool false), (.bool false), (.bool false), (.bool false), (.bool false), (.bool false), (.bool false), (.bool false), (.bool false), (.bool false), (.bool false), (.bool false), (.bool false), (.bool false), (.bool false), (.bool false), (.bool false), (.bool false), (.bool false), (.bool false), (.bool false), (.bool false), (.bool false), (.bool false), (.bool false), (.bool false), (.bool false), (.bool false), (.bool false), (.bool false), (.bool false), (.bool false), (.bool false), (.bool false), (.bool false), (.bool false), (.bool false), (.bool false), (.bool false), (.bool false), (.bool false), (.bool false), (.bool false), (.bool false), (.bool false), (.bool false), (.bool false), (.bool false), (.bool false), (.bool false), (.bool false), (.bool false), (.bool false), (.bool false), (.bool false), (.bool false), (.bool false), (.bool false), (.bool false), (.bool false), (.bool false), (.bool false), (.bool false), (.bool false), (.bool false), (.bool false), (.bool false), (.bool false), (.bool false), (.bool false), (.bool false), (.bool false), (.bool false), (.bool false), (.bool false), (.bool false), (.bool false), (.bool false), (.bool false), (.bool false), (.bool false), (.bool false), (.bool false)] (fun t2 H1 =>
 letO (some ((.bool false) : AV)) fun t3 =>
 letO (some ((.int .i64 0) : AV)) fun t4 =>
 true = true ∧ ∃ (I2 : List AV → Heap → Prop) (μ3 : List AV → Heap → Nat), I2 [t4] H1 ∧ ∀ L4 H5, I2 L4 H5 → -- [t4]
 letO (some ((L4.getD 0 .any) : AV)) fun t6 =>
 letO (some (x0 : AV)) fun t7 =>
 letO (lenS t7) fun t8 =>
 letO (binF Tryz.prog .lss 3 t6 t8) fun t9 =>
 condA t9 true (
 letO (some (x0 : AV)) fun t12 =>
 letO (some ((L4.getD 0 .any) : AV)) fun t13 =>
 letO (indexF Tryz.prog 9 t12 t13) fun t14 =>
 letO (some (t14 : AV)) fun t5 =>
 letO (some (t5 : AV)) fun t15 =>
 letO (binF Tryz.prog .geq 5 t15 (.int .u8 128)) fun t16 =>
 condA t16 true (
 letO (loadN 256 t2 H5) fun t17 =>
 storeA 256 t2 t17 (fun H6 =>
 letO (some ((.bool false) : AV)) fun t3 =>
 letO (loadN 256 t2 H6) fun r7 => endK (.tup [r7, t3]) H6 K) H5) (
 letO (some (t5 : AV)) fun t18 =>
 letO (idxArr 256 1 t2 t18) fun t19 =>
 storeA 1 t19 (.bool true) (fun H8 =>
 letO (some ((L4.getD 0 .any) : AV)) fun t10 =>
 letO (binF Tryz.prog .add 3 t10 (.int .i64 1)) fun t11 =>
 letO (some (t11 : AV)) fun t4 =>
 I2 [t4] H8 ∧ μ3 [t4] H8 < μ3 L4 H5) H5)) (
 letO (loadN 256 t2 H5) fun t20 =>
 storeA 256 t2 t20 (fun H9 =>
 letO (some ((.bool true) : AV)) fun t3 =>
 letO (loadN 256 t2 H9) fun r10 => endK (.tup [r10, t3]) H9 K) H5)) H

theorem W87_ok {x0 : AV} {H : Heap} {K : AV → Heap → Prop} (h : W87 x0 H K) : ACalls Tryz.prog 87 [x0] H K :=
  acallsB (fn := Tryz.f87) (cfg := cfgOf [] [] [] [] [] []) (hh := (.dir .nil (.dir (.dir .nil (.blk (.loop [4] [6, 7, 8, 9, 12, 13, 14, 5, 15, 16, 17, 3, 18, 19, 10, 11, 4] (.dir (.dir .nil .nil) (.dir (.blk (.dir .nil (.dir (.dir .nil (.dir .nil .nil)) .nil))) .nil))))) .nil))) follows Tryz.func87 (by kernel_rfl) (Nat.le_of_ble_eq_true (by kernel_rfl)) (by kernel_rfl) h

/-- strings.trimLeftASCII -/
def W88 (x0 x1 : AV) (H : Heap) (K : AV → Heap → Prop) : Prop :=
 letO (some ((.str (ByteArray.mk #[])) : AV)) fun t4 =>
 true = true ∧ ∃ J1 : List AV → Heap → Prop, (
 true = true ∧ ∃ (I2 : List AV → Heap → Prop) (μ3 : List AV → Heap → Nat), I2 [x0] H ∧ ∀ L4 H5, I2 L4 H5 → -- [t0]
 letO (some ((L4.getD 0 .any) : AV)) fun t5 =>
 letO (lenS t5) fun t6 =>
 letO (binF Tryz.prog .gtr 3 t6 (.int .i64 0)) fun t7 =>
 condA t7 true (
 letO (some (x1 : AV)) fun t8 =>
 letO (some ((L4.getD 0 .any) : AV)) fun t9 =>
 letO (indexF Tryz.prog 9 t9 (.int .i64 0)) fun t10 =>
 ACalls Tryz.prog 92 [t8, t10] H5 fun t11 H6 =>
 letO (unF .not t11) fun t12 =>
 condA t12 true (
 J1 [(L4.getD 0 .any)] H6) (
 letO (some ((L4.getD 0 .any) : AV)) fun t13 =>
 letO (slcS t13 (some (.int .i64 1)) none none) fun t14 =>
 letO (some (t14 : AV)) fun t0 =>
 I2 [t0] H6 ∧ μ3 [t0] H6 < μ3 L4 H5)) (
 J1 [(L4.getD 0 .any)] H5)) ∧ ∀ L7 H8, J1 L7 H8 → -- [t0]
 letO (some ((L7.getD 0 .any) : AV)) fun t15 =>
 letO (some (t15 : AV)) fun t4 =>
endK t4 H8 K

theorem W88_ok {x0 x1 : AV} {H : Heap} {K : AV → Heap → Prop} (h : W88 x0 x1 H K) : ACalls Tryz.prog 88 [x0, x1] H K :=
  acallsB (fn := Tryz.f88) (cfg := cfgOf [] [] [] [] [] []) (hh := (.dir .nil (.cut [0] [5, 6, 7, 8, 9, 10, 11, 12, 13, 14, 0] (.blk (.loop [0] [5, 6, 7, 8, 9, 10, 11, 12, 13, 14, 0] (.dir (.dir .nil .nil) (.blk (.dir (.dir .nil .nil) .nil))))) .nil))) follows Tryz.func88 (by kernel_rfl) (Nat.le_of_ble_eq_true (by kernel_rfl)) (by kernel_rfl) h

/-- strings.trimRightASCII -/
def W89 (x0 x1 : AV) (H : Heap) (K : AV → Heap → Prop) : Prop :=
 letO (some ((.str (ByteArray.mk #[])) : AV)) fun t4 =>
 true = true ∧ ∃ J1 : List AV → Heap → Prop, (
 true = true ∧ ∃ (I2 : List AV → Heap → Prop) (μ3 : List AV → Heap → Nat), I2 [x0] H ∧ ∀ L4 H5, I2 L4 H5 → -- [t0]
 letO (some ((L4.getD 0 .any) : AV)) fun t5 =>
 letO (lenS t5) fun t6 =>
 letO (binF Tryz.prog .gtr 3 t6 (.int .i64 0)) fun t7 =>
 condA t7 true (
 letO (some (x1 : AV)) fun t8 =>
 letO (some ((L4.getD 0 .any) : AV)) fun t9 =>
 letO (some ((L4.getD 0 .any) : AV)) fun t10 =>
 letO (lenS t10) fun t11 =>
 letO (binF Tryz.prog .sub 3 t11 (.int .i64 1)) fun t12 =>
 letO (indexF Tryz.prog 9 t9 t12) fun t13 =>
 ACalls Tryz.prog 92 [t8, t13] H5 fun t14 H6 =>
 letO (unF .not t14) fun t15 =>
 condA t15 true (
 J1 [(L4.getD 0 .any)] H6) (
 letO (some ((L4.getD 0 .any) : AV)) fun t16 =>
 letO (some ((L4.getD 0 .any) : AV)) fun t17 =>
 letO (lenS t17) fun t18 =>
 letO (binF Tryz.prog .sub 3 t18 (.int .i64 1)) fun t19 =>
 letO (slcS t16 none (some t19) none) fun t20 =>
 letO (some (t20 : AV)) fun t0 =>
 I2 [t0] H6 ∧ μ3 [t0] H6 < μ3 L4 H5)) (
 J1 [(L4.getD 0 .any)] H5)) ∧ ∀ L7 H8, J1 L7 H8 → -- [t0]
 letO (some ((L7.getD 0 .any) : AV)) fun t21 =>
 letO (some (t21 : AV)) fun t4 =>
endK t4 H8 K

theorem W89_ok {x0 x1 : AV} {H : Heap} {K : AV → Heap → Prop} (h : W89 x0 x1 H K) : ACalls Tryz.prog 89 [x0, x1] H K :=
  acallsB (fn := Tryz.f89) (cfg := cfgOf [] [] [] [] [] []) (hh := (.dir .nil (.cut [0] [5, 6, 7, 8, 9, 10, 11, 12, 13, 14, 15, 16, 17, 18, 19, 20, 0] (.blk (.loop [0] [5, 6, 7, 8, 9, 10, 11, 12, 13, 14, 15, 16, 17, 18, 19, 20, 0] (.dir (.dir .nil .nil) (.blk (.dir (.dir .nil .nil) .nil))))) .nil))) follows Tryz.func89 (by kernel_rfl) (Nat.le_of_ble_eq_true (by kernel_rfl)) (by kernel_rfl) h

/-- (*strings.asciiSet).contains -/
def W92 (x0 x1 : AV) (H : Heap) (K : AV → Heap → Prop) : Prop :=
 letO (some ((.bool false) : AV)) fun t4 =>
 letO (some (x0 : AV)) fun t5 =>
 letO (some (x1 : AV)) fun t6 =>
 letO (nilF t5) fun t7 =>
 letO (idxArr 256 1 t7 t6) fun t8 =>
 letO (load1 t8 H) fun t9 =>
 letO (some (t9 : AV)) fun t4 =>
endK t4 H K

theorem W92_ok {x0 x1 : AV} {H : Heap} {K : AV → Heap → Prop} (h : W92 x0 x1 H K) : ACalls Tryz.prog 92 [x0, x1] H K :=
  acallsB (fn := Tryz.f92) (cfg := cfgOf [] [] [] [] [] []) (hh := (.dir .nil .nil)) follows Tryz.func92 (by kernel_rfl) (Nat.le_of_ble_eq_true (by kernel_rfl)) (by kernel_rfl) h


end Go.Proofs.YtmmfelpgcdlgfaaGreatDoor
