import Derived.Test.YtbofkeoebnjjkaaDoorConB
/- The functions of the statement TableAdded that the common text does not hold, each in the words of its walk; made by program. -/
set_option linter.unusedVariables false
set_option maxRecDepth 100000
namespace Go.Proofs.YtbofkeoebnjjkaaDoor
open Go.Av
/-- headword.headwordlaw11.TableAdded -/
def W10 (x0 x1 x2 : AV) (H : Heap) (K : AV → Heap → Prop) : Prop :=
 letO (cellsOf? x0) fun c1 =>
 letO (cellsOf? x1) fun c2 =>
 letO (some ((.bool false) : AV)) fun t6 =>
 letO (loadN 27 (.iptr c1) H) fun t24 =>
 ACalls Tryd.prog 58 [t24] H fun t25 H3 =>
 letO (some (t25 : AV)) fun t7 =>
 letO (some (t7 : AV)) fun t26 =>
 ACalls Tryd.prog 45 [t26] H3 fun t27 H4 =>
 letO (some (t27 : AV)) fun t8 =>
 letO (some (t7 : AV)) fun t28 =>
 ACalls Tryd.prog 49 [t28] H4 fun t29 H5 =>
 letO (some (t29 : AV)) fun t9 =>
 letO (some (.nils : AV)) fun t10 =>
 letO (some ((.int .i64 0) : AV)) fun t11 =>
 letO (some ((.int .i64 0) : AV)) fun t12 =>
 letO (faddr 19 (.iptr c1)) fun t30 =>
 letO (faddr 1 (.iptr c1)) fun t31 =>
 letO (load1 t31 H5) fun t32 =>
 letO (convF Tryd.prog 5 3 t32) fun t33 =>
 letO (binF Tryd.prog .rem 3 t33 (.int .i64 9)) fun t34 =>
 letO (slcArr 8 1 t30 none (some t34) none) fun t35 =>
 letO (lenA t35) fun t36 =>
 letO (some ((.int .i64 0) : AV)) fun t37 =>
 true = true ∧ ∃ (I6 : List AV → Heap → Prop) (μ7 : List AV → Heap → Nat), I6 [t10, t11, t12, t37] H5 ∧ ∀ L8 H9, I6 L8 H9 → -- [t10, t11, t12, t37]
 letO (binF Tryd.prog .lss 3 (L8.getD 3 .any) t36) fun t38 =>
 condA t38 true (
 letO (some ((L8.getD 3 .any) : AV)) fun t39 =>
 letO (idx 1 t35 (L8.getD 3 .any)) fun t40 =>
 letO (load1 t40 H9) fun t41 =>
 letO (some (t39 : AV)) fun t13 =>
 letO (some (t41 : AV)) fun t14 =>
 true = true ∧
 letO (some (t8 : AV)) fun t42 =>
 letO (some (t14 : AV)) fun t43 =>
 letO (convF Tryd.prog 5 3 t43) fun t44 =>
 letO (some (t8 : AV)) fun t45 =>
 letO (lenA t45) fun t46 =>
 letO (binF Tryd.prog .rem 3 t44 t46) fun t47 =>
 letO (idx 1 t42 t47) fun t48 =>
 letO (load1 t48 H9) fun t49 =>
 letO (some (t13 : AV)) fun t51 =>
 letO (idxArr 8 1 (.iptr c2) t51) fun t52 =>
 letO (load1 t52 Heap.none) fun t53 =>
 letO (convF Tryd.prog 5 3 t53) fun t54 =>
 letO (binF Tryd.prog .rem 3 t54 (.int .i64 4)) fun t55 =>
 letO (binF Tryd.prog .add 3 (.int .i64 1) t55) fun t56 =>
 true = true ∧ ACalls Tryd.prog 59 [t49] H9 fun t50 H10 =>
 H9.le H10 ∧
 letO (buildF Tryd.prog 49 [(0, t50), (1, t56)]) fun t57 =>
 true = true ∧ allocA [.nils, (.int .i64 0)] (fun t15 H11 =>
 H9.le H11 ∧
 true = true ∧ storeA 2 t15 t57 (fun H12 =>
 H9.le H12 ∧
 letO (some ((L8.getD 0 .any) : AV)) fun t58 =>
 letO (loadN 2 t15 H12) fun t59 =>
 letO (literalF Tryd.prog 42 1 [(0, t59)]) fun c13 =>
 appendA 2 32 t58 (.imm 1 true c13) (fun t61 H14 =>
 letO (some (t61 : AV)) fun t10 =>
 letO (some ((L8.getD 1 .any) : AV)) fun t62 =>
 letO (faddr 1 t15) fun t63 =>
 letO (load1 t63 H14) fun t64 =>
 letO (binF Tryd.prog .add 3 t62 t64) fun t65 =>
 letO (some (t65 : AV)) fun t11 =>
 letO (faddr 0 t15) fun t66 =>
 letO (load1 t66 H14) fun t67 =>
 letO (lenA t67) fun t68 =>
 letO (some ((.int .i64 0) : AV)) fun t69 =>
 true = true ∧ ∃ (I15 : List AV → Heap → Prop) (μ16 : List AV → Heap → Nat), I15 [(L8.getD 2 .any), t69] H14 ∧ ∀ L17 H18, I15 L17 H18 → -- [t12, t69]
 letO (binF Tryd.prog .lss 3 (L17.getD 1 .any) t68) fun t70 =>
 condA t70 true (
 letO (some ((L17.getD 1 .any) : AV)) fun t71 =>
 letO (idx 1 t67 (L17.getD 1 .any)) fun t72 =>
 letO (load1 t72 H18) fun t73 =>
 letO (some (t71 : AV)) fun t16 =>
 letO (some (t73 : AV)) fun t17 =>
 true = true ∧
 letO (some (t9 : AV)) fun t74 =>
 letO (some (t16 : AV)) fun t75 =>
 letO (idx 1 t74 t75) fun t76 =>
 letO (load1 t76 H18) fun t77 =>
 letO (some (t17 : AV)) fun t78 =>
 letO (idx 1 t77 t78) fun t79 =>
 letO (load1 t79 H18) fun t80 =>
 letO (faddr 1 t15) fun t81 =>
 letO (load1 t81 H18) fun t82 =>
 letO (binF Tryd.prog .add 3 t80 t82) fun t83 =>
 letO (idx 1 t77 t78) fun t84 =>
 storeA 1 t84 t83 (fun H19 =>
 letO (some ((L17.getD 0 .any) : AV)) fun t85 =>
 letO (some (t9 : AV)) fun t86 =>
 letO (some (t16 : AV)) fun t87 =>
 letO (idx 1 t86 t87) fun t88 =>
 letO (load1 t88 H19) fun t89 =>
 letO (some (t17 : AV)) fun t90 =>
 letO (idx 1 t89 t90) fun t91 =>
 letO (load1 t91 H19) fun t92 =>
 letO (max2F t85 t92) fun t93 =>
 letO (some (t93 : AV)) fun t12 =>
 letO (binF Tryd.prog .add 3 (L17.getD 1 .any) (.int .i64 1)) fun t94 =>
 letO (some (t94 : AV)) fun t69 =>
 I15 [t12, t69] H19 ∧ μ16 [t12, t69] H19 < μ16 L17 H18) H18) (
 letO (binF Tryd.prog .add 3 (L8.getD 3 .any) (.int .i64 1)) fun t95 =>
 letO (some (t95 : AV)) fun t37 =>
 I6 [t10, t11, (L17.getD 0 .any), t37] H18 ∧ μ7 [t10, t11, (L17.getD 0 .any), t37] H18 < μ7 L8 H9)) H12) H11) H10) (
 letO (some (t7 : AV)) fun t97 =>
 letO (some ((L8.getD 0 .any) : AV)) fun t98 =>
 ACalls Tryd.prog 42 [t97, t98] H9 fun t99 H20 =>
 letO (some (t99 : AV)) fun t96 =>
 letO (extrF t96 0) fun t100 =>
 letO (extrF t96 1) fun t101 =>
 letO (some (t100 : AV)) fun t18 =>
 letO (some (t101 : AV)) fun t19 =>
 letO (some ((L8.getD 2 .any) : AV)) fun t102 =>
 letO (binF Tryd.prog .gtr 3 t102 (.int .i64 9)) fun t103 =>
 condA t103 true (
 letO (some (t19 : AV)) fun t104 =>
 letO (binF Tryd.prog .eql 26 t104 (.int .i64 15)) fun t105 =>
 letO (some (t105 : AV)) fun t106 =>
 letO (gval t106 true (some (t18 : AV))) fun t107 =>
 letO (gval t106 true (lenA t107)) fun t108 =>
 letO (gval t106 true (binF Tryd.prog .eql 3 t108 (.int .i64 0))) fun t109 =>
 letO (pickF t106 t109 (.bool false)) fun t110 =>
 letO (some (t110 : AV)) fun t111 =>
 ∃ J21 : AV → Heap → Prop, condG t111 true (ACalls Tryd.prog 17 [] H20 fun t112 H22 =>
 J21 t112 H22) (J21 (.tup []) H20) ∧ ∀ t112 H23, J21 t112 H23 →
 letO (pickF t111 t112 (.bool false)) fun t113 =>
 letO (some (t113 : AV)) fun t6 =>
endK t6 H23 K) (
 letO (some (t19 : AV)) fun t114 =>
 letO (binF Tryd.prog .neq 26 t114 (.int .i64 0)) fun t115 =>
 letO (some (t115 : AV)) fun t116 =>
 letO (gval t116 false (some (t18 : AV))) fun t117 =>
 letO (gval t116 false (some (t9 : AV))) fun t118 =>
 ∃ J24 : AV → Heap → Prop, condG t116 false (ACalls Tryd.prog 29 [t117, t118] H20 fun t119 H25 =>
 J24 t119 H25) (J24 (.tup []) H20) ∧ ∀ t119 H26, J24 t119 H26 →
 letO (gval t116 false (unF .not t119)) fun t120 =>
 letO (pickF t116 (.bool true) t120) fun t121 =>
 condA t121 true (
 letO (some ((.bool false) : AV)) fun t6 =>
endK t6 H26 K) (
 letO (some (t18 : AV)) fun t123 =>
 ACalls Tryd.prog 18 [t123] H26 fun t124 H27 =>
 letO (some (t124 : AV)) fun t122 =>
 letO (extrF t122 0) fun t125 =>
 letO (extrF t122 1) fun t126 =>
 letO (some (t125 : AV)) fun t20 =>
 letO (some (t126 : AV)) fun t19 =>
 letO (some (t19 : AV)) fun t127 =>
 letO (binF Tryd.prog .neq 26 t127 (.int .i64 0)) fun t128 =>
 letO (some (t128 : AV)) fun t129 =>
 letO (gval t129 false (some (t20 : AV))) fun t130 =>
 letO (gval t129 false (some ((L8.getD 1 .any) : AV))) fun t131 =>
 letO (gval t129 false (binF Tryd.prog .neq 3 t130 t131)) fun t132 =>
 letO (pickF t129 (.bool true) t132) fun t133 =>
 condA t133 true (
 letO (some ((.bool false) : AV)) fun t6 =>
endK t6 H27 K) (
 letO (some ((L8.getD 0 .any) : AV)) fun t134 =>
 letO (lenA t134) fun t135 =>
 letO (binF Tryd.prog .eql 3 t135 (.int .i64 0)) fun t136 =>
 condA t136 true (
 ACalls Tryd.prog 17 [] H27 fun t137 H28 =>
 letO (some (t137 : AV)) fun t6 =>
endK t6 H28 K) (
 letO (some (x2 : AV)) fun t138 =>
 letO (convF Tryd.prog 5 3 t138) fun t139 =>
 letO (some ((L8.getD 0 .any) : AV)) fun t140 =>
 letO (lenA t140) fun t141 =>
 letO (binF Tryd.prog .rem 3 t139 t141) fun t142 =>
 letO (some (t142 : AV)) fun t21 =>
 letO (some ((L8.getD 0 .any) : AV)) fun t143 =>
 ACalls Tryd.prog 60 [t143] H27 fun t144 H29 =>
 letO (some (t144 : AV)) fun t22 =>
 letO (some ((.int .i64 1) : AV)) fun t23 =>
 true = true ∧ ∃ J30 : List AV → Heap → Prop, (
 letO (some (x2 : AV)) fun t145 =>
 letO (binF Tryd.prog .quo 5 t145 (.int .u8 8)) fun t146 =>
 letO (binF Tryd.prog .rem 5 t146 (.int .u8 4)) fun t147 =>
 letO (binF Tryd.prog .eql 5 t147 (.int .u8 0)) fun t149 =>
 letO (some (t149 : AV)) fun t148 =>
 condA t148 true (
 letO (some (t22 : AV)) fun t150 =>
 letO (some (t21 : AV)) fun t151 =>
 letO (idx 2 t150 t151) fun t152 =>
 letO (faddr 1 t152) fun t153 =>
 storeA 1 t153 (.int .i64 0) (fun H31 =>
 J30 [t23] H31) H29) (
 letO (binF Tryd.prog .eql 5 t147 (.int .u8 1)) fun t155 =>
 letO (some (t155 : AV)) fun t154 =>
 condA t154 true (
 letO (some (t22 : AV)) fun t156 =>
 letO (some (t21 : AV)) fun t157 =>
 letO (idx 2 t156 t157) fun t158 =>
 letO (faddr 1 t158) fun t159 =>
 storeA 1 t159 (.int .i64 37) (fun H32 =>
 J30 [t23] H32) H29) (
 letO (binF Tryd.prog .eql 5 t147 (.int .u8 2)) fun t161 =>
 letO (some (t161 : AV)) fun t160 =>
 condA t160 true (
 letO (some (t22 : AV)) fun t162 =>
 letO (some (t21 : AV)) fun t163 =>
 letO (some (t22 : AV)) fun t164 =>
 letO (some (t21 : AV)) fun t165 =>
 letO (idx 2 t164 t165) fun t166 =>
 letO (faddr 0 t166) fun t167 =>
 letO (load1 t167 H29) fun t168 =>
 ACalls Tryd.prog 59 [t168] H29 fun t169 H33 =>
 letO (literalF Tryd.prog 23 1 [(0, (.int .i64 0))]) fun c34 =>
 appendA 1 8 t169 (.imm 1 true c34) (fun t171 H35 =>
 letO (idx 2 t162 t163) fun t172 =>
 letO (faddr 0 t172) fun t173 =>
 storeA 1 t173 t171 (fun H36 =>
 letO (some ((.int .i64 5) : AV)) fun t23 =>
 J30 [t23] H36) H35) H33) (
 letO (binF Tryd.prog .eql 5 t147 (.int .u8 3)) fun t175 =>
 letO (some (t175 : AV)) fun t174 =>
 condA t174 true (
 letO (some (t22 : AV)) fun t176 =>
 letO (some (t21 : AV)) fun t177 =>
 letO (some (t22 : AV)) fun t178 =>
 letO (some (t21 : AV)) fun t179 =>
 letO (idx 2 t178 t179) fun t180 =>
 letO (faddr 0 t180) fun t181 =>
 letO (load1 t181 H29) fun t182 =>
 ACalls Tryd.prog 59 [t182] H29 fun t183 H37 =>
 letO (idx 2 t176 t177) fun t184 =>
 letO (faddr 0 t184) fun t185 =>
 storeA 1 t185 t183 (fun H38 =>
 letO (some (t22 : AV)) fun t186 =>
 letO (some (t21 : AV)) fun t187 =>
 letO (idx 2 t186 t187) fun t188 =>
 letO (faddr 0 t188) fun t189 =>
 letO (load1 t189 H38) fun t190 =>
 letO (some (t7 : AV)) fun t191 =>
 letO (idx 1 t190 (.int .i64 0)) fun t192 =>
 storeA 1 t192 t191 (fun H39 =>
 letO (some ((.int .i64 2) : AV)) fun t23 =>
 J30 [t23] H39) H38) H37) (
 J30 [t23] H29))))) ∧ ∀ L40 H41, J30 L40 H41 → -- [t23]
 letO (some (t7 : AV)) fun t194 =>
 letO (some (t22 : AV)) fun t195 =>
 ACalls Tryd.prog 42 [t194, t195] H41 fun t196 H42 =>
 letO (some (t196 : AV)) fun t193 =>
 letO (extrF t193 0) fun t197 =>
 letO (extrF t193 1) fun t198 =>
 letO (some (t198 : AV)) fun t19 =>
 letO (some (t19 : AV)) fun t199 =>
 letO (some ((L40.getD 0 .any) : AV)) fun t200 =>
 letO (binF Tryd.prog .eql 26 t199 t200) fun t201 =>
 letO (some (t201 : AV)) fun t202 =>
 ∃ J43 : AV → Heap → Prop, condG t202 true (ACalls Tryd.prog 17 [] H42 fun t203 H44 =>
 J43 t203 H44) (J43 (.tup []) H42) ∧ ∀ t203 H45, J43 t203 H45 →
 letO (pickF t202 t203 (.bool false)) fun t204 =>
 letO (some (t204 : AV)) fun t6 =>
endK t6 H45 K)))))

theorem W10_ok {x0 x1 x2 : AV} {H : Heap} {K : AV → Heap → Prop} (h : W10 x0 x1 x2 H K) : ACalls Tryd.prog 10 [x0, x1, x2] H K :=
  acallsB (fn := Tryd.f10) (cfg := cfgOf [] [53] [(9, [0, 0, 2, 0, 8, 30, 63, 127, 255, 0, 512, 1536, 3584, 7680, 15872, 32767, 0, 131071]), (15, [0, 0, 3, 7, 0, 31, 63, 0, 128, 511, 1023, 2047])] [50] []) (hh := (.dir .nil (.dir .nil (.dir .nil (.dir .nil (.dir .nil (.dir .nil (.dir (.dir .nil (.blk (.loop [10, 11, 12, 37] [38, 39, 40, 41, 13, 14, 42, 43, 44, 45, 46, 47, 48, 49, 50, 51, 52, 53, 54, 55, 56, 57, 15, 58, 59, 60, 61, 10, 62, 63, 64, 65, 11, 66, 67, 68, 69, 70, 71, 72, 73, 16, 17, 74, 75, 76, 77, 78, 79, 80, 81, 82, 83, 84, 85, 86, 87, 88, 89, 90, 91, 92, 93, 12, 94, 95, 37] (.dir .nil (.dir .nil (.dir (.blk (.dir .nil (.dir .nil (.dir .nil (.dir .nil (.dir .nil (.blk (.loop [12, 69] [70, 71, 72, 73, 16, 17, 74, 75, 76, 77, 78, 79, 80, 81, 82, 83, 84, 85, 86, 87, 88, 89, 90, 91, 92, 93, 12, 94, 69] (.dir .nil (.dir .nil (.dir (.blk (.dir .nil .nil)) .nil))))))))))) .nil)))))) (.dir .nil (.dir (.dir .nil (.dir .nil .nil)) (.dir (.dir .nil (.dir .nil .nil)) (.dir .nil (.dir (.dir .nil (.dir .nil .nil)) (.dir (.dir .nil (.dir .nil .nil)) (.dir .nil (.dir .nil (.dir .nil (.cut [23] [145, 146, 147, 149, 148, 150, 151, 152, 153, 155, 154, 156, 157, 158, 159, 161, 160, 162, 163, 164, 165, 166, 167, 168, 169, 170, 171, 172, 173, 23, 175, 174, 176, 177, 178, 179, 180, 181, 182, 183, 184, 185, 186, 187, 188, 189, 190, 191, 192] (.dir .nil (.blk (.dir .nil (.dir .nil (.dir .nil (.dir .nil (.dir .nil (.dir .nil (.dir .nil (.dir (.dir .nil .nil) .nil)))))))))) (.dir .nil .nil))))))))))))))))))) follows Tryd.func10 (by kernel_rfl) (Nat.le_of_ble_eq_true (by kernel_rfl)) (by kernel_rfl) h

/-- headword.headwordlaw11.large -/
def W16 (x0 : AV) (H : Heap) (K : AV → Heap → Prop) : Prop :=
 letO (some ((.bool false) : AV)) fun t2 =>
 letO (some (x0 : AV)) fun t4 =>
 letO (lenA t4) fun t5 =>
 letO (binF Tryd.prog .gtr 3 t5 (.int .i64 20)) fun t6 =>
 condA t6 true (
 letO (some ((.bool true) : AV)) fun t2 =>
endK t2 H K) (
 letO (some ((.int .i64 0) : AV)) fun t3 =>
 true = true ∧ ∃ (I1 : List AV → Heap → Prop) (μ2 : List AV → Heap → Nat), I1 [t3] H ∧ ∀ L3 H4, I1 L3 H4 → -- [t3]
 letO (some ((L3.getD 0 .any) : AV)) fun t7 =>
 letO (some (x0 : AV)) fun t8 =>
 letO (lenA t8) fun t9 =>
 letO (binF Tryd.prog .lss 3 t7 t9) fun t10 =>
 condA t10 true (
 letO (some (x0 : AV)) fun t13 =>
 letO (some ((L3.getD 0 .any) : AV)) fun t14 =>
 letO (idx 1 t13 t14) fun t15 =>
 letO (load1 t15 H4) fun t16 =>
 letO (lenA t16) fun t17 =>
 letO (binF Tryd.prog .gtr 3 t17 (.int .i64 20)) fun t18 =>
 condA t18 true (
 letO (some ((.bool true) : AV)) fun t2 =>
endK t2 H4 K) (
 letO (some ((L3.getD 0 .any) : AV)) fun t11 =>
 letO (binF Tryd.prog .add 3 t11 (.int .i64 1)) fun t12 =>
 letO (some (t12 : AV)) fun t3 =>
 I1 [t3] H4 ∧ μ2 [t3] H4 < μ2 L3 H4)) (
 letO (some ((.bool false) : AV)) fun t2 =>
endK t2 H4 K))

theorem W16_ok {x0 : AV} {H : Heap} {K : AV → Heap → Prop} (h : W16 x0 H K) : ACalls Tryd.prog 16 [x0] H K :=
  acallsB (fn := Tryd.f16) (cfg := cfgOf [] [] [] [] []) (hh := (.dir .nil (.dir (.dir .nil (.dir .nil .nil)) (.dir (.dir .nil (.blk (.loop [3] [7, 8, 9, 10, 13, 14, 15, 16, 17, 18, 2, 11, 12, 3] (.dir (.dir .nil .nil) (.dir (.blk (.dir .nil (.dir .nil .nil))) .nil))))) .nil)))) follows Tryd.func16 (by kernel_rfl) (Nat.le_of_ble_eq_true (by kernel_rfl)) (by kernel_rfl) h

/-- headword.headwordref11.Even -/
def W19 (x0 : AV) (H : Heap) (K : AV → Heap → Prop) : Prop :=
 letO (some ((.int .i64 0) : AV)) fun t2 =>
 letO (some ((.int .i64 0) : AV)) fun t3 =>
 letO (some (x0 : AV)) fun t10 =>
 ACalls Tryd.prog 31 [t10] H fun t11 H1 =>
 letO (some (t11 : AV)) fun t4 =>
 letO (some (t4 : AV)) fun t12 =>
 letO (binF Tryd.prog .neq 26 t12 (.int .i64 0)) fun t13 =>
 condA t13 true (
 letO (some (t4 : AV)) fun t14 =>
 letO (some ((.int .i64 0) : AV)) fun t2 =>
 letO (some (t14 : AV)) fun t3 =>
endK (.tup [t2, t3]) H1 K) (
 letO (some (x0 : AV)) fun t16 =>
 ACalls Tryd.prog 72 [t16, (.int .i64 0)] H1 fun t17 H2 =>
 letO (some (t17 : AV)) fun t15 =>
 letO (extrF t15 0) fun t18 =>
 letO (extrF t15 1) fun t19 =>
 letO (some (t18 : AV)) fun t5 =>
 letO (some (t19 : AV)) fun t6 =>
 letO (some ((.int .i64 0) : AV)) fun t7 =>
 true = true ∧ ∃ (I3 : List AV → Heap → Prop) (μ4 : List AV → Heap → Nat), I3 [t7] H2 ∧ ∀ L5 H6, I3 L5 H6 → -- [t7]
 letO (some ((L5.getD 0 .any) : AV)) fun t20 =>
 letO (some (x0 : AV)) fun t21 =>
 letO (lenA t21) fun t22 =>
 letO (binF Tryd.prog .lss 3 t20 t22) fun t23 =>
 condA t23 true (
 letO (some (x0 : AV)) fun t27 =>
 letO (some ((L5.getD 0 .any) : AV)) fun t28 =>
 ACalls Tryd.prog 72 [t27, t28] H6 fun t29 H7 =>
 letO (some (t29 : AV)) fun t26 =>
 letO (extrF t26 0) fun t30 =>
 letO (extrF t26 1) fun t31 =>
 letO (some (t30 : AV)) fun t8 =>
 letO (some (t31 : AV)) fun t9 =>
 letO (some (t8 : AV)) fun t32 =>
 letO (some (t5 : AV)) fun t33 =>
 letO (binF Tryd.prog .neq 3 t32 t33) fun t34 =>
 letO (some (t34 : AV)) fun t35 =>
 letO (gval t35 false (some (t9 : AV))) fun t36 =>
 letO (gval t35 false (some (t5 : AV))) fun t37 =>
 letO (gval t35 false (binF Tryd.prog .neq 3 t36 t37)) fun t38 =>
 letO (pickF t35 (.bool true) t38) fun t39 =>
 condA t39 true (
 letO (some ((.int .i64 0) : AV)) fun t2 =>
 letO (some ((.int .i64 17) : AV)) fun t3 =>
endK (.tup [t2, t3]) H7 K) (
 letO (some ((L5.getD 0 .any) : AV)) fun t24 =>
 letO (binF Tryd.prog .add 3 t24 (.int .i64 1)) fun t25 =>
 letO (some (t25 : AV)) fun t7 =>
 I3 [t7] H7 ∧ μ4 [t7] H7 < μ4 L5 H6)) (
 letO (some (t5 : AV)) fun t40 =>
 letO (some (t40 : AV)) fun t2 =>
 letO (some ((.int .i64 0) : AV)) fun t3 =>
endK (.tup [t2, t3]) H6 K))

theorem W19_ok {x0 : AV} {H : Heap} {K : AV → Heap → Prop} (h : W19 x0 H K) : ACalls Tryd.prog 19 [x0] H K :=
  acallsB (fn := Tryd.f19) (cfg := cfgOf [] [] [] [] []) (hh := (.dir .nil (.dir .nil (.dir (.dir .nil (.dir .nil .nil)) (.dir .nil (.dir (.dir .nil (.blk (.loop [7] [20, 21, 22, 23, 27, 28, 29, 26, 30, 31, 8, 9, 32, 33, 34, 35, 36, 37, 38, 39, 2, 3, 24, 25, 7] (.dir (.dir .nil .nil) (.dir (.blk (.dir .nil (.dir .nil (.dir .nil .nil)))) .nil))))) .nil)))))) follows Tryd.func19 (by kernel_rfl) (Nat.le_of_ble_eq_true (by kernel_rfl)) (by kernel_rfl) h

/-- headword.headwordref11.First -/
def W21 (x0 : AV) (H : Heap) (K : AV → Heap → Prop) : Prop :=
 letO (some (.nils : AV)) fun t2 =>
 letO (some ((.int .i64 0) : AV)) fun t3 =>
 letO (some (x0 : AV)) fun t6 =>
 ACalls Tryd.prog 31 [t6] H fun t7 H1 =>
 letO (some (t7 : AV)) fun t4 =>
 letO (some (t4 : AV)) fun t8 =>
 letO (binF Tryd.prog .neq 26 t8 (.int .i64 0)) fun t9 =>
 condA t9 true (
 letO (some (t4 : AV)) fun t10 =>
 letO (some (.nils : AV)) fun t2 =>
 letO (some (t10 : AV)) fun t3 =>
endK (.tup [t2, t3]) H1 K) (
 letO (some (x0 : AV)) fun t11 =>
 ACalls Tryd.prog 74 [t11] H1 fun t12 H2 =>
 letO (some (t12 : AV)) fun t5 =>
 letO (some (t5 : AV)) fun t13 =>
 letO (lenA t13) fun t14 =>
 letO (binF Tryd.prog .eql 3 t14 (.int .i64 0)) fun t15 =>
 condA t15 true (
 letO (some (.nils : AV)) fun t2 =>
 letO (some ((.int .i64 12) : AV)) fun t3 =>
endK (.tup [t2, t3]) H2 K) (
 letO (some (t5 : AV)) fun t16 =>
 letO (idx 1 t16 (.int .i64 0)) fun t17 =>
 letO (load1 t17 H2) fun t18 =>
 letO (some (t18 : AV)) fun t2 =>
 letO (some ((.int .i64 0) : AV)) fun t3 =>
endK (.tup [t2, t3]) H2 K))

theorem W21_ok {x0 : AV} {H : Heap} {K : AV → Heap → Prop} (h : W21 x0 H K) : ACalls Tryd.prog 21 [x0] H K :=
  acallsB (fn := Tryd.f21) (cfg := cfgOf [] [] [] [] []) (hh := (.dir .nil (.dir .nil (.dir (.dir .nil (.dir .nil .nil)) (.dir .nil (.dir (.dir .nil (.dir .nil .nil)) .nil)))))) follows Tryd.func21 (by kernel_rfl) (Nat.le_of_ble_eq_true (by kernel_rfl)) (by kernel_rfl) h

/-- headword.headwordref11.Count -/
def W23 (x0 : AV) (H : Heap) (K : AV → Heap → Prop) : Prop :=
 letO (some ((.int .i64 0) : AV)) fun t2 =>
 letO (some ((.int .i64 0) : AV)) fun t3 =>
 letO (some (x0 : AV)) fun t5 =>
 ACalls Tryd.prog 31 [t5] H fun t6 H1 =>
 letO (some (t6 : AV)) fun t4 =>
 letO (some (t4 : AV)) fun t7 =>
 letO (binF Tryd.prog .neq 26 t7 (.int .i64 0)) fun t8 =>
 condA t8 true (
 letO (some (t4 : AV)) fun t9 =>
 letO (some ((.int .i64 0) : AV)) fun t2 =>
 letO (some (t9 : AV)) fun t3 =>
endK (.tup [t2, t3]) H1 K) (
 letO (some (x0 : AV)) fun t10 =>
 ACalls Tryd.prog 74 [t10] H1 fun t11 H2 =>
 letO (lenA t11) fun t12 =>
 letO (some (t12 : AV)) fun t2 =>
 letO (some ((.int .i64 0) : AV)) fun t3 =>
endK (.tup [t2, t3]) H2 K)

theorem W23_ok {x0 : AV} {H : Heap} {K : AV → Heap → Prop} (h : W23 x0 H K) : ACalls Tryd.prog 23 [x0] H K :=
  acallsB (fn := Tryd.f23) (cfg := cfgOf [] [] [] [] []) (hh := (.dir .nil (.dir .nil (.dir (.dir .nil (.dir .nil .nil)) .nil)))) follows Tryd.func23 (by kernel_rfl) (Nat.le_of_ble_eq_true (by kernel_rfl)) (by kernel_rfl) h

/-- headword.headwordref11.Weight -/
def W26 (x0 : AV) (H : Heap) (K : AV → Heap → Prop) : Prop :=
 letO (some ((.int .i64 0) : AV)) fun t2 =>
 letO (some ((.int .i64 0) : AV)) fun t3 =>
 letO (some (x0 : AV)) fun t10 =>
 ACalls Tryd.prog 31 [t10] H fun t11 H1 =>
 letO (some (t11 : AV)) fun t4 =>
 letO (some (t4 : AV)) fun t12 =>
 letO (binF Tryd.prog .neq 26 t12 (.int .i64 0)) fun t13 =>
 condA t13 true (
 letO (some (t4 : AV)) fun t14 =>
 letO (some ((.int .i64 0) : AV)) fun t2 =>
 letO (some (t14 : AV)) fun t3 =>
endK (.tup [t2, t3]) H1 K) (
 letO (some ((.int .i64 0) : AV)) fun t5 =>
 letO (some (x0 : AV)) fun t15 =>
 letO (lenA t15) fun t16 =>
 ACalls Tryd.prog 76 [t16, .nils] H1 fun t17 H2 =>
 letO (some (t17 : AV)) fun t6 =>
 letO (some ((.int .i64 0) : AV)) fun t7 =>
 true = true ∧ ∃ (I3 : List AV → Heap → Prop) (μ4 : List AV → Heap → Nat), I3 [t5, t7] H2 ∧ ∀ L5 H6, I3 L5 H6 → -- [t5, t7]
 letO (some ((L5.getD 1 .any) : AV)) fun t18 =>
 letO (some (t6 : AV)) fun t19 =>
 letO (lenA t19) fun t20 =>
 letO (binF Tryd.prog .lss 3 t18 t20) fun t21 =>
 condA t21 true (
 letO (some ((.int .i64 1) : AV)) fun t8 =>
 letO (some ((.int .i64 0) : AV)) fun t9 =>
 true = true ∧ ∃ (I7 : List AV → Heap → Prop) (μ8 : List AV → Heap → Nat), I7 [t8, t9] H6 ∧ ∀ L9 H10, I7 L9 H10 → -- [t8, t9]
 letO (some ((L9.getD 1 .any) : AV)) fun t24 =>
 letO (some (x0 : AV)) fun t25 =>
 letO (lenA t25) fun t26 =>
 letO (binF Tryd.prog .lss 3 t24 t26) fun t27 =>
 condA t27 true (
 true = true ∧
 letO (some ((L9.getD 0 .any) : AV)) fun t30 =>
 letO (some (x0 : AV)) fun t31 =>
 letO (some ((L9.getD 1 .any) : AV)) fun t32 =>
 letO (idx 1 t31 t32) fun t33 =>
 letO (load1 t33 H10) fun t34 =>
 letO (some (t6 : AV)) fun t35 =>
 letO (some ((L5.getD 1 .any) : AV)) fun t36 =>
 letO (idx 1 t35 t36) fun t37 =>
 letO (load1 t37 H10) fun t38 =>
 letO (some ((L9.getD 1 .any) : AV)) fun t39 =>
 letO (idx 1 t38 t39) fun t40 =>
 letO (load1 t40 H10) fun t41 =>
 letO (idx 1 t34 t41) fun t42 =>
 letO (load1 t42 H10) fun t43 =>
 letO (binF Tryd.prog .mul 3 t30 t43) fun t44 =>
 letO (some (t44 : AV)) fun t8 =>
 letO (some ((L9.getD 1 .any) : AV)) fun t28 =>
 letO (binF Tryd.prog .add 3 t28 (.int .i64 1)) fun t29 =>
 letO (some (t29 : AV)) fun t9 =>
 I7 [t8, t9] H10 ∧ μ8 [t8, t9] H10 < μ8 L9 H10) (
 letO (some ((L5.getD 0 .any) : AV)) fun t45 =>
 letO (some ((L9.getD 0 .any) : AV)) fun t46 =>
 letO (binF Tryd.prog .add 3 t45 t46) fun t47 =>
 letO (some (t47 : AV)) fun t5 =>
 letO (some ((L5.getD 1 .any) : AV)) fun t22 =>
 letO (binF Tryd.prog .add 3 t22 (.int .i64 1)) fun t23 =>
 letO (some (t23 : AV)) fun t7 =>
 I3 [t5, t7] H10 ∧ μ4 [t5, t7] H10 < μ4 L5 H6)) (
 letO (some ((L5.getD 0 .any) : AV)) fun t48 =>
 letO (some (t48 : AV)) fun t2 =>
 letO (some ((.int .i64 0) : AV)) fun t3 =>
endK (.tup [t2, t3]) H6 K))

theorem W26_ok {x0 : AV} {H : Heap} {K : AV → Heap → Prop} (h : W26 x0 H K) : ACalls Tryd.prog 26 [x0] H K :=
  acallsB (fn := Tryd.f26) (cfg := cfgOf [] [] [(13, [0, 0, 0, 6, 14, 0, 0, 96, 224, 0, 992, 2016, 4094, 8190, 16383, 32767])] [] []) (hh := (.dir .nil (.dir .nil (.dir (.dir .nil (.dir .nil .nil)) (.dir .nil (.dir .nil (.dir (.dir .nil (.blk (.loop [5, 7] [18, 19, 20, 21, 8, 9, 24, 25, 26, 27, 30, 31, 32, 33, 34, 35, 36, 37, 38, 39, 40, 41, 42, 43, 44, 28, 29, 45, 46, 47, 5, 22, 23, 7] (.dir (.dir .nil .nil) (.dir (.blk (.dir .nil (.dir (.dir .nil (.blk (.loop [8, 9] [24, 25, 26, 27, 30, 31, 32, 33, 34, 35, 36, 37, 38, 39, 40, 41, 42, 43, 44, 8, 28, 29, 9] (.dir (.dir .nil .nil) (.dir .nil .nil))))) .nil))) .nil))))) .nil))))))) follows Tryd.func26 (by kernel_rfl) (Nat.le_of_ble_eq_true (by kernel_rfl)) (by kernel_rfl) h

/-- headword.headwordref11.Turn -/
def W28 (x0 : AV) (H : Heap) (K : AV → Heap → Prop) : Prop :=
 letO (some (.nils : AV)) fun t2 =>
 letO (some ((.int .i64 0) : AV)) fun t3 =>
 letO (some (x0 : AV)) fun t9 =>
 ACalls Tryd.prog 31 [t9] H fun t10 H1 =>
 letO (some (t10 : AV)) fun t4 =>
 letO (some (t4 : AV)) fun t11 =>
 letO (binF Tryd.prog .neq 26 t11 (.int .i64 0)) fun t12 =>
 condA t12 true (
 letO (some (t4 : AV)) fun t13 =>
 letO (some (.nils : AV)) fun t2 =>
 letO (some (t13 : AV)) fun t3 =>
endK (.tup [t2, t3]) H1 K) (
 letO (some (.nils : AV)) fun t5 =>
 letO (some ((.int .i64 0) : AV)) fun t6 =>
 true = true ∧ ∃ (I2 : List AV → Heap → Prop) (μ3 : List AV → Heap → Nat), I2 [t5, t6] H1 ∧ ∀ L4 H5, I2 L4 H5 → -- [t5, t6]
 letO (some ((L4.getD 1 .any) : AV)) fun t14 =>
 letO (some (x0 : AV)) fun t15 =>
 letO (lenA t15) fun t16 =>
 letO (binF Tryd.prog .lss 3 t14 t16) fun t17 =>
 condA t17 true (
 letO (some (.nils : AV)) fun t7 =>
 letO (some ((.int .i64 0) : AV)) fun t8 =>
 true = true ∧ ∃ (I6 : List AV → Heap → Prop) (μ7 : List AV → Heap → Nat), I6 [t7, t8] H5 ∧ ∀ L8 H9, I6 L8 H9 → -- [t7, t8]
 letO (some ((L8.getD 1 .any) : AV)) fun t20 =>
 letO (some (x0 : AV)) fun t21 =>
 letO (lenA t21) fun t22 =>
 letO (binF Tryd.prog .lss 3 t20 t22) fun t23 =>
 condA t23 true (
 letO (some ((L8.getD 0 .any) : AV)) fun t26 =>
 letO (some (x0 : AV)) fun t27 =>
 letO (some ((L8.getD 1 .any) : AV)) fun t28 =>
 letO (idx 1 t27 t28) fun t29 =>
 letO (load1 t29 H9) fun t30 =>
 letO (some ((L4.getD 1 .any) : AV)) fun t31 =>
 letO (idx 1 t30 t31) fun t32 =>
 letO (load1 t32 H9) fun t33 =>
 letO (literalF Tryd.prog 23 1 [(0, t33)]) fun c10 =>
 appendA 1 8 t26 (.imm 1 true c10) (fun t35 H11 =>
 letO (some (t35 : AV)) fun t7 =>
 letO (some ((L8.getD 1 .any) : AV)) fun t24 =>
 letO (binF Tryd.prog .add 3 t24 (.int .i64 1)) fun t25 =>
 letO (some (t25 : AV)) fun t8 =>
 I6 [t7, t8] H11 ∧ μ7 [t7, t8] H11 < μ7 L8 H9) H9) (
 letO (some ((L4.getD 0 .any) : AV)) fun t36 =>
 letO (some ((L8.getD 0 .any) : AV)) fun t37 =>
 letO (literalF Tryd.prog 22 1 [(0, t37)]) fun c12 =>
 appendA 1 24 t36 (.imm 1 true c12) (fun t39 H13 =>
 letO (some (t39 : AV)) fun t5 =>
 letO (some ((L4.getD 1 .any) : AV)) fun t18 =>
 letO (binF Tryd.prog .add 3 t18 (.int .i64 1)) fun t19 =>
 letO (some (t19 : AV)) fun t6 =>
 I2 [t5, t6] H13 ∧ μ3 [t5, t6] H13 < μ3 L4 H5) H9)) (
 letO (some ((L4.getD 0 .any) : AV)) fun t40 =>
 letO (some (t40 : AV)) fun t2 =>
 letO (some ((.int .i64 0) : AV)) fun t3 =>
endK (.tup [t2, t3]) H5 K))

theorem W28_ok {x0 : AV} {H : Heap} {K : AV → Heap → Prop} (h : W28 x0 H K) : ACalls Tryd.prog 28 [x0] H K :=
  acallsB (fn := Tryd.f28) (cfg := cfgOf [] [] [] [] []) (hh := (.dir .nil (.dir .nil (.dir (.dir .nil (.dir .nil .nil)) (.dir .nil (.dir (.dir .nil (.blk (.loop [5, 6] [14, 15, 16, 17, 7, 8, 20, 21, 22, 23, 26, 27, 28, 29, 30, 31, 32, 33, 34, 35, 24, 25, 36, 37, 38, 39, 5, 18, 19, 6] (.dir (.dir .nil .nil) (.dir (.blk (.dir .nil (.dir (.dir .nil (.blk (.loop [7, 8] [20, 21, 22, 23, 26, 27, 28, 29, 30, 31, 32, 33, 34, 35, 7, 24, 25, 8] (.dir (.dir .nil .nil) (.dir .nil .nil))))) .nil))) .nil))))) .nil)))))) follows Tryd.func28 (by kernel_rfl) (Nat.le_of_ble_eq_true (by kernel_rfl)) (by kernel_rfl) h

/-- headword.headwordref11.Check -/
def W31 (x0 : AV) (H : Heap) (K : AV → Heap → Prop) : Prop :=
 letO (some ((.int .i64 0) : AV)) fun t2 =>
 letO (some (x0 : AV)) fun t5 =>
 letO (lenA t5) fun t6 =>
 letO (binF Tryd.prog .eql 3 t6 (.int .i64 0)) fun t7 =>
 condA t7 true (
 letO (some ((.int .i64 4) : AV)) fun t2 =>
endK t2 H K) (
 letO (some (x0 : AV)) fun t8 =>
 letO (lenA t8) fun t9 =>
 letO (binF Tryd.prog .gtr 3 t9 (.int .i64 4)) fun t10 =>
 condA t10 true (
 letO (some ((.int .i64 3) : AV)) fun t2 =>
endK t2 H K) (
 letO (some ((.int .i64 0) : AV)) fun t3 =>
 true = true ∧ ∃ (I1 : List AV → Heap → Prop) (μ2 : List AV → Heap → Nat), I1 [t3] H ∧ ∀ L3 H4, I1 L3 H4 → -- [t3]
 letO (some ((L3.getD 0 .any) : AV)) fun t11 =>
 letO (some (x0 : AV)) fun t12 =>
 letO (lenA t12) fun t13 =>
 letO (binF Tryd.prog .lss 3 t11 t13) fun t14 =>
 condA t14 true (
 letO (some (x0 : AV)) fun t17 =>
 letO (some ((L3.getD 0 .any) : AV)) fun t18 =>
 letO (idx 1 t17 t18) fun t19 =>
 letO (load1 t19 H4) fun t20 =>
 letO (lenA t20) fun t21 =>
 letO (some (x0 : AV)) fun t22 =>
 letO (lenA t22) fun t23 =>
 letO (binF Tryd.prog .neq 3 t21 t23) fun t24 =>
 condA t24 true (
 letO (some ((.int .i64 5) : AV)) fun t2 =>
endK t2 H4 K) (
 letO (some ((.int .i64 0) : AV)) fun t4 =>
 true = true ∧ ∃ (I5 : List AV → Heap → Prop) (μ6 : List AV → Heap → Nat), I5 [t4] H4 ∧ ∀ L7 H8, I5 L7 H8 → -- [t4]
 letO (some ((L7.getD 0 .any) : AV)) fun t25 =>
 letO (some (x0 : AV)) fun t26 =>
 letO (some ((L3.getD 0 .any) : AV)) fun t27 =>
 letO (idx 1 t26 t27) fun t28 =>
 letO (load1 t28 H8) fun t29 =>
 letO (lenA t29) fun t30 =>
 letO (binF Tryd.prog .lss 3 t25 t30) fun t31 =>
 condA t31 true (
 letO (some (x0 : AV)) fun t34 =>
 letO (some ((L3.getD 0 .any) : AV)) fun t35 =>
 letO (idx 1 t34 t35) fun t36 =>
 letO (load1 t36 H8) fun t37 =>
 letO (some ((L7.getD 0 .any) : AV)) fun t38 =>
 letO (idx 1 t37 t38) fun t39 =>
 letO (load1 t39 H8) fun t40 =>
 ACalls Tryd.prog 78 [t40, (.int .i64 0), (.int .i64 9)] H8 fun t41 H9 =>
 letO (unF .not t41) fun t42 =>
 condA t42 true (
 letO (some ((.int .i64 1) : AV)) fun t2 =>
endK t2 H9 K) (
 letO (some ((L7.getD 0 .any) : AV)) fun t32 =>
 letO (binF Tryd.prog .add 3 t32 (.int .i64 1)) fun t33 =>
 letO (some (t33 : AV)) fun t4 =>
 I5 [t4] H9 ∧ μ6 [t4] H9 < μ6 L7 H8)) (
 letO (some ((L3.getD 0 .any) : AV)) fun t15 =>
 letO (binF Tryd.prog .add 3 t15 (.int .i64 1)) fun t16 =>
 letO (some (t16 : AV)) fun t3 =>
 I1 [t3] H8 ∧ μ2 [t3] H8 < μ2 L3 H4))) (
 letO (some ((.int .i64 0) : AV)) fun t2 =>
endK t2 H4 K)))

theorem W31_ok {x0 : AV} {H : Heap} {K : AV → Heap → Prop} (h : W31 x0 H K) : ACalls Tryd.prog 31 [x0] H K :=
  acallsB (fn := Tryd.f31) (cfg := cfgOf [] [] [] [] []) (hh := (.dir .nil (.dir (.dir .nil (.dir .nil .nil)) (.dir (.dir .nil (.dir .nil .nil)) (.dir (.dir .nil (.blk (.loop [3] [11, 12, 13, 14, 17, 18, 19, 20, 21, 22, 23, 24, 2, 4, 25, 26, 27, 28, 29, 30, 31, 34, 35, 36, 37, 38, 39, 40, 41, 42, 32, 33, 15, 16, 3] (.dir (.dir .nil .nil) (.dir (.blk (.dir (.dir .nil (.dir .nil .nil)) (.dir .nil (.blk (.loop [4] [25, 26, 27, 28, 29, 30, 31, 34, 35, 36, 37, 38, 39, 40, 41, 42, 2, 32, 33, 4] (.dir (.dir .nil .nil) (.dir (.blk (.dir .nil (.dir .nil .nil))) .nil))))))) .nil))))) .nil))))) follows Tryd.func31 (by kernel_rfl) (Nat.le_of_ble_eq_true (by kernel_rfl)) (by kernel_rfl) h

/-- headword.headwordref11.Within -/
def W33 (x0 x1 : AV) (H : Heap) (K : AV → Heap → Prop) : Prop :=
 letO (some ((.int .i64 0) : AV)) fun t4 =>
 letO (some (x0 : AV)) fun t6 =>
 ACalls Tryd.prog 31 [t6] H fun t7 H1 =>
 letO (some (t7 : AV)) fun t5 =>
 true = true ∧ ∃ J2 : List AV → Heap → Prop, (
 letO (some (t5 : AV)) fun t8 =>
 letO (binF Tryd.prog .eql 26 t8 (.int .i64 0)) fun t9 =>
 condA t9 true (
 letO (some (x0 : AV)) fun t10 =>
 letO (lenA t10) fun t11 =>
 letO (some (x1 : AV)) fun t12 =>
 ACalls Tryd.prog 80 [t11, t12] H1 fun t13 H3 =>
 letO (some (t13 : AV)) fun t5 =>
 J2 [t5] H3) (
 J2 [t5] H1)) ∧ ∀ L4 H5, J2 L4 H5 → -- [t5]
 true = true ∧ ∃ J6 : List AV → Heap → Prop, (
 letO (some ((L4.getD 0 .any) : AV)) fun t14 =>
 letO (binF Tryd.prog .eql 26 t14 (.int .i64 0)) fun t15 =>
 letO (some (t15 : AV)) fun t16 =>
 letO (gval t16 true (some (x0 : AV))) fun t17 =>
 letO (gval t16 true (some (x1 : AV))) fun t18 =>
 ∃ J7 : AV → Heap → Prop, condG t16 true (ACalls Tryd.prog 81 [t17, t18] H5 fun t19 H8 =>
 J7 t19 H8) (J7 (.tup []) H5) ∧ ∀ t19 H9, J7 t19 H9 →
 letO (gval t16 true (binF Tryd.prog .eql 3 t19 (.int .i64 0))) fun t20 =>
 letO (pickF t16 t20 (.bool false)) fun t21 =>
 condA t21 true (
 letO (some ((.int .i64 12) : AV)) fun t5 =>
 J6 [t5] H9) (
 J6 [(L4.getD 0 .any)] H9)) ∧ ∀ L10 H11, J6 L10 H11 → -- [t5]
 letO (some ((L10.getD 0 .any) : AV)) fun t22 =>
 letO (some (t22 : AV)) fun t4 =>
endK t4 H11 K

theorem W33_ok {x0 x1 : AV} {H : Heap} {K : AV → Heap → Prop} (h : W33 x0 x1 H K) : ACalls Tryd.prog 33 [x0, x1] H K :=
  acallsB (fn := Tryd.f33) (cfg := cfgOf [] [] [] [] []) (hh := (.dir .nil (.dir .nil (.cut [5] [8, 9, 10, 11, 12, 13, 5] (.dir .nil .nil) (.cut [5] [14, 15, 16, 17, 18, 19, 20, 21, 5] (.dir .nil .nil) .nil))))) follows Tryd.func33 (by kernel_rfl) (Nat.le_of_ble_eq_true (by kernel_rfl)) (by kernel_rfl) h

/-- headword.headwordref11.Bar -/
def W35 (x0 : AV) (H : Heap) (K : AV → Heap → Prop) : Prop :=
 letO (some (.nils : AV)) fun t2 =>
 letO (some (.nils : AV)) fun t3 =>
 letO (some ((.int .i64 0) : AV)) fun t4 =>
 letO (some (x0 : AV)) fun t10 =>
 ACalls Tryd.prog 31 [t10] H fun t11 H1 =>
 letO (some (t11 : AV)) fun t5 =>
 letO (some (t5 : AV)) fun t12 =>
 letO (binF Tryd.prog .neq 26 t12 (.int .i64 0)) fun t13 =>
 condA t13 true (
 letO (some (t5 : AV)) fun t14 =>
 letO (some (.nils : AV)) fun t2 =>
 letO (some (.nils : AV)) fun t3 =>
 letO (some (t14 : AV)) fun t4 =>
endK (.tup [t2, t3, t4]) H1 K) (
 letO (some ((.int .i64 1) : AV)) fun t6 =>
 true = true ∧ ∃ (I2 : List AV → Heap → Prop) (μ3 : List AV → Heap → Nat), I2 [t6] H1 ∧ ∀ L4 H5, I2 L4 H5 → -- [t6]
 letO (some ((L4.getD 0 .any) : AV)) fun t15 =>
 letO (some (x0 : AV)) fun t16 =>
 letO (lenA t16) fun t17 =>
 letO (binF Tryd.prog .leq 3 t15 t17) fun t18 =>
 condA t18 true (
 letO (some (x0 : AV)) fun t21 =>
 letO (lenA t21) fun t22 =>
 letO (some ((L4.getD 0 .any) : AV)) fun t23 =>
 ACalls Tryd.prog 85 [t22, t23, .nils] H5 fun t24 H6 =>
 letO (some (t24 : AV)) fun t7 =>
 letO (some ((.int .i64 0) : AV)) fun t8 =>
 true = true ∧ ∃ (I7 : List AV → Heap → Prop) (μ8 : List AV → Heap → Nat), I7 [t8] H6 ∧ ∀ L9 H10, I7 L9 H10 → -- [t8]
 letO (some ((L9.getD 0 .any) : AV)) fun t25 =>
 letO (some (t7 : AV)) fun t26 =>
 letO (lenA t26) fun t27 =>
 letO (binF Tryd.prog .lss 3 t25 t27) fun t28 =>
 condA t28 true (
 letO (some (x0 : AV)) fun t31 =>
 letO (some (t7 : AV)) fun t32 =>
 letO (some ((L9.getD 0 .any) : AV)) fun t33 =>
 letO (idx 1 t32 t33) fun t34 =>
 letO (load1 t34 H10) fun t35 =>
 ACalls Tryd.prog 86 [t31, t35] H10 fun t36 H11 =>
 letO (some (t36 : AV)) fun t9 =>
 letO (some (t9 : AV)) fun t37 =>
 letO (lenA t37) fun t38 =>
 letO (some ((L4.getD 0 .any) : AV)) fun t39 =>
 letO (binF Tryd.prog .add 3 t38 t39) fun t40 =>
 letO (some (x0 : AV)) fun t41 =>
 letO (lenA t41) fun t42 =>
 letO (binF Tryd.prog .gtr 3 t40 t42) fun t43 =>
 condA t43 true (
 letO (some (t7 : AV)) fun t44 =>
 letO (some ((L9.getD 0 .any) : AV)) fun t45 =>
 letO (idx 1 t44 t45) fun t46 =>
 letO (load1 t46 H11) fun t47 =>
 letO (some (t9 : AV)) fun t48 =>
 letO (some (t47 : AV)) fun t2 =>
 letO (some (t48 : AV)) fun t3 =>
 letO (some ((.int .i64 0) : AV)) fun t4 =>
endK (.tup [t2, t3, t4]) H11 K) (
 letO (some ((L9.getD 0 .any) : AV)) fun t29 =>
 letO (binF Tryd.prog .add 3 t29 (.int .i64 1)) fun t30 =>
 letO (some (t30 : AV)) fun t8 =>
 I7 [t8] H11 ∧ μ8 [t8] H11 < μ8 L9 H10)) (
 letO (some ((L4.getD 0 .any) : AV)) fun t19 =>
 letO (binF Tryd.prog .add 3 t19 (.int .i64 1)) fun t20 =>
 letO (some (t20 : AV)) fun t6 =>
 I2 [t6] H10 ∧ μ3 [t6] H10 < μ3 L4 H5)) (
 letO (some (.nils : AV)) fun t2 =>
 letO (some (.nils : AV)) fun t3 =>
 letO (some ((.int .i64 13) : AV)) fun t4 =>
endK (.tup [t2, t3, t4]) H5 K))

theorem W35_ok {x0 : AV} {H : Heap} {K : AV → Heap → Prop} (h : W35 x0 H K) : ACalls Tryd.prog 35 [x0] H K :=
  acallsB (fn := Tryd.f35) (cfg := cfgOf [] [] [] [] []) (hh := (.dir .nil (.dir .nil (.dir (.dir .nil (.dir .nil .nil)) (.dir (.dir .nil (.blk (.loop [6] [15, 16, 17, 18, 21, 22, 23, 24, 7, 8, 25, 26, 27, 28, 31, 32, 33, 34, 35, 36, 9, 37, 38, 39, 40, 41, 42, 43, 44, 45, 46, 47, 48, 2, 3, 4, 29, 30, 19, 20, 6] (.dir (.dir .nil .nil) (.dir (.blk (.dir .nil (.dir .nil (.blk (.loop [8] [25, 26, 27, 28, 31, 32, 33, 34, 35, 36, 9, 37, 38, 39, 40, 41, 42, 43, 44, 45, 46, 47, 48, 2, 3, 4, 29, 30, 8] (.dir (.dir .nil .nil) (.dir (.blk (.dir .nil (.dir .nil (.dir .nil .nil)))) .nil))))))) .nil))))) .nil))))) follows Tryd.func35 (by kernel_rfl) (Nat.le_of_ble_eq_true (by kernel_rfl)) (by kernel_rfl) h

/-- headword.headwordref11.Proves -/
def W37 (x0 x1 x2 : AV) (H : Heap) (K : AV → Heap → Prop) : Prop :=
 letO (some ((.int .i64 0) : AV)) fun t6 =>
 letO (some (x0 : AV)) fun t10 =>
 ACalls Tryd.prog 31 [t10] H fun t11 H1 =>
 letO (some (t11 : AV)) fun t7 =>
 true = true ∧ ∃ J2 : List AV → Heap → Prop, (
 letO (some (t7 : AV)) fun t12 =>
 letO (binF Tryd.prog .eql 26 t12 (.int .i64 0)) fun t13 =>
 condA t13 true (
 letO (some (x0 : AV)) fun t14 =>
 letO (lenA t14) fun t15 =>
 letO (some (x1 : AV)) fun t16 =>
 ACalls Tryd.prog 88 [t15, t16] H1 fun t17 H3 =>
 letO (some (t17 : AV)) fun t7 =>
 J2 [t7] H3) (
 J2 [t7] H1)) ∧ ∀ L4 H5, J2 L4 H5 → -- [t7]
 true = true ∧ ∃ J6 : List AV → Heap → Prop, (
 letO (some ((L4.getD 0 .any) : AV)) fun t18 =>
 letO (binF Tryd.prog .eql 26 t18 (.int .i64 0)) fun t19 =>
 condA t19 true (
 letO (some (x0 : AV)) fun t20 =>
 letO (lenA t20) fun t21 =>
 letO (some (x2 : AV)) fun t22 =>
 ACalls Tryd.prog 88 [t21, t22] H5 fun t23 H7 =>
 letO (some (t23 : AV)) fun t7 =>
 J6 [t7] H7) (
 J6 [(L4.getD 0 .any)] H5)) ∧ ∀ L8 H9, J6 L8 H9 → -- [t7]
 letO (some ((L8.getD 0 .any) : AV)) fun t24 =>
 letO (binF Tryd.prog .neq 26 t24 (.int .i64 0)) fun t25 =>
 condA t25 true (
 letO (some ((L8.getD 0 .any) : AV)) fun t26 =>
 letO (some (t26 : AV)) fun t6 =>
endK t6 H9 K) (
 letO (some (x0 : AV)) fun t27 =>
 letO (some (x1 : AV)) fun t28 =>
 ACalls Tryd.prog 86 [t27, t28] H9 fun t29 H10 =>
 letO (some (t29 : AV)) fun t8 =>
 letO (some ((.int .i64 0) : AV)) fun t9 =>
 true = true ∧ ∃ (I11 : List AV → Heap → Prop) (μ12 : List AV → Heap → Nat), I11 [t9] H10 ∧ ∀ L13 H14, I11 L13 H14 → -- [t9]
 letO (some ((L13.getD 0 .any) : AV)) fun t30 =>
 letO (some (x2 : AV)) fun t31 =>
 letO (lenA t31) fun t32 =>
 letO (binF Tryd.prog .lss 3 t30 t32) fun t33 =>
 condA t33 true (
 letO (some (t8 : AV)) fun t36 =>
 letO (some (x2 : AV)) fun t37 =>
 letO (some ((L13.getD 0 .any) : AV)) fun t38 =>
 letO (idx 1 t37 t38) fun t39 =>
 letO (load1 t39 H14) fun t40 =>
 ACalls Tryd.prog 89 [t36, t40] H14 fun t41 H15 =>
 letO (unF .not t41) fun t42 =>
 condA t42 true (
 letO (some ((.int .i64 14) : AV)) fun t6 =>
endK t6 H15 K) (
 letO (some ((L13.getD 0 .any) : AV)) fun t34 =>
 letO (binF Tryd.prog .add 3 t34 (.int .i64 1)) fun t35 =>
 letO (some (t35 : AV)) fun t9 =>
 I11 [t9] H15 ∧ μ12 [t9] H15 < μ12 L13 H14)) (
 letO (some (x1 : AV)) fun t43 =>
 letO (lenA t43) fun t44 =>
 letO (some (x2 : AV)) fun t45 =>
 letO (lenA t45) fun t46 =>
 letO (binF Tryd.prog .add 3 t44 t46) fun t47 =>
 letO (some (x0 : AV)) fun t48 =>
 letO (lenA t48) fun t49 =>
 letO (binF Tryd.prog .leq 3 t47 t49) fun t50 =>
 condA t50 true (
 letO (some ((.int .i64 14) : AV)) fun t6 =>
endK t6 H14 K) (
 letO (some ((.int .i64 0) : AV)) fun t6 =>
endK t6 H14 K)))

theorem W37_ok {x0 x1 x2 : AV} {H : Heap} {K : AV → Heap → Prop} (h : W37 x0 x1 x2 H K) : ACalls Tryd.prog 37 [x0, x1, x2] H K :=
  acallsB (fn := Tryd.f37) (cfg := cfgOf [] [] [] [] []) (hh := (.dir .nil (.dir .nil (.cut [7] [12, 13, 14, 15, 16, 17, 7] (.dir .nil .nil) (.cut [7] [18, 19, 20, 21, 22, 23, 7] (.dir .nil .nil) (.dir (.dir .nil (.dir .nil .nil)) (.dir .nil (.dir (.dir .nil (.blk (.loop [9] [30, 31, 32, 33, 36, 37, 38, 39, 40, 41, 42, 6, 34, 35, 9] (.dir (.dir .nil .nil) (.dir (.blk (.dir .nil (.dir .nil .nil))) .nil))))) (.dir (.dir .nil (.dir .nil .nil)) .nil))))))))) follows Tryd.func37 (by kernel_rfl) (Nat.le_of_ble_eq_true (by kernel_rfl)) (by kernel_rfl) h

/-- headword.headwordref11.Split -/
def W39 (x0 : AV) (H : Heap) (K : AV → Heap → Prop) : Prop :=
 letO (some (.nils : AV)) fun t2 =>
 letO (some ((.int .i64 0) : AV)) fun t3 =>
 letO (some (x0 : AV)) fun t10 =>
 ACalls Tryd.prog 19 [t10] H fun t11 H1 =>
 letO (some (t11 : AV)) fun t9 =>
 letO (extrF t9 0) fun t12 =>
 letO (extrF t9 1) fun t13 =>
 letO (some (t12 : AV)) fun t4 =>
 letO (some (t13 : AV)) fun t5 =>
 letO (some (t5 : AV)) fun t14 =>
 letO (binF Tryd.prog .neq 26 t14 (.int .i64 0)) fun t15 =>
 condA t15 true (
 letO (some (t5 : AV)) fun t16 =>
 letO (some (.nils : AV)) fun t2 =>
 letO (some (t16 : AV)) fun t3 =>
endK (.tup [t2, t3]) H1 K) (
 letO (some (.nils : AV)) fun t6 =>
 true = true ∧ ∃ (I2 : List AV → Heap → Prop) (μ3 : List AV → Heap → Nat), I2 [t6, x0] H1 ∧ ∀ L4 H5, I2 L4 H5 → -- [t6, t0]
 letO (some ((L4.getD 1 .any) : AV)) fun t17 =>
 ACalls Tryd.prog 74 [t17] H5 fun t18 H6 =>
 letO (some (t18 : AV)) fun t7 =>
 letO (some (t7 : AV)) fun t19 =>
 letO (lenA t19) fun t20 =>
 letO (binF Tryd.prog .eql 3 t20 (.int .i64 0)) fun t21 =>
 condA t21 true (
 letO (some ((L4.getD 0 .any) : AV)) fun t22 =>
 letO (some (t22 : AV)) fun t2 =>
 letO (some ((.int .i64 0) : AV)) fun t3 =>
endK (.tup [t2, t3]) H6 K) (
 letO (some ((L4.getD 1 .any) : AV)) fun t23 =>
 letO (some (t7 : AV)) fun t24 =>
 letO (idx 1 t24 (.int .i64 0)) fun t25 =>
 letO (load1 t25 H6) fun t26 =>
 ACalls Tryd.prog 81 [t23, t26] H6 fun t27 H7 =>
 letO (some (t27 : AV)) fun t8 =>
 letO (some ((L4.getD 0 .any) : AV)) fun t28 =>
 letO (some (t7 : AV)) fun t29 =>
 letO (idx 1 t29 (.int .i64 0)) fun t30 =>
 letO (load1 t30 H7) fun t31 =>
 letO (some (t8 : AV)) fun t32 =>
 letO (buildF Tryd.prog 50 [(0, t31), (1, t32)]) fun t33 =>
 letO (literalF Tryd.prog 45 1 [(0, t33)]) fun c8 =>
 appendA 2 32 t28 (.imm 1 true c8) (fun t35 H9 =>
 letO (some (t35 : AV)) fun t6 =>
 letO (some ((L4.getD 1 .any) : AV)) fun t36 =>
 letO (some (t7 : AV)) fun t37 =>
 letO (idx 1 t37 (.int .i64 0)) fun t38 =>
 letO (load1 t38 H9) fun t39 =>
 letO (some (t8 : AV)) fun t40 =>
 ACalls Tryd.prog 92 [t36, t39, t40] H9 fun t41 H10 =>
 letO (some (t41 : AV)) fun t0 =>
 I2 [t6, t0] H10 ∧ μ3 [t6, t0] H10 < μ3 L4 H5) H7))

theorem W39_ok {x0 : AV} {H : Heap} {K : AV → Heap → Prop} (h : W39 x0 H K) : ACalls Tryd.prog 39 [x0] H K :=
  acallsB (fn := Tryd.f39) (cfg := cfgOf [] [] [] [] []) (hh := (.dir .nil (.dir .nil (.dir (.dir .nil (.dir .nil .nil)) (.dir .nil (.blk (.loop [6, 0] [17, 18, 7, 19, 20, 21, 22, 2, 3, 23, 24, 25, 26, 27, 8, 28, 29, 30, 31, 32, 33, 34, 35, 6, 36, 37, 38, 39, 40, 41, 0] (.blk (.dir .nil (.dir (.dir .nil (.dir .nil .nil)) (.dir .nil .nil))))))))))) follows Tryd.func39 (by kernel_rfl) (Nat.le_of_ble_eq_true (by kernel_rfl)) (by kernel_rfl) h

/-- headword.headwordref11.Splits -/
def W41 (x0 : AV) (H : Heap) (K : AV → Heap → Prop) : Prop :=
 letO (some ((.int .i64 0) : AV)) fun t2 =>
 letO (some ((.int .i64 0) : AV)) fun t3 =>
 letO (some (x0 : AV)) fun t7 =>
 ACalls Tryd.prog 19 [t7] H fun t8 H1 =>
 letO (some (t8 : AV)) fun t6 =>
 letO (extrF t6 0) fun t9 =>
 letO (extrF t6 1) fun t10 =>
 letO (some (t9 : AV)) fun t4 =>
 letO (some (t10 : AV)) fun t5 =>
 true = true ∧ ∃ J2 : List AV → Heap → Prop, (
 letO (some (t5 : AV)) fun t11 =>
 letO (binF Tryd.prog .eql 26 t11 (.int .i64 0)) fun t12 =>
 letO (some (t12 : AV)) fun t13 =>
 letO (gval t13 true (some (t4 : AV))) fun t14 =>
 letO (gval t13 true (binF Tryd.prog .gtr 3 t14 (.int .i64 6))) fun t15 =>
 letO (pickF t13 t15 (.bool false)) fun t16 =>
 condA t16 true (
 letO (some ((.int .i64 15) : AV)) fun t5 =>
 J2 [t5] H1) (
 J2 [t5] H1)) ∧ ∀ L3 H4, J2 L3 H4 → -- [t5]
 letO (some ((L3.getD 0 .any) : AV)) fun t17 =>
 letO (binF Tryd.prog .neq 26 t17 (.int .i64 0)) fun t18 =>
 condA t18 true (
 letO (some ((L3.getD 0 .any) : AV)) fun t19 =>
 letO (some ((.int .i64 0) : AV)) fun t2 =>
 letO (some (t19 : AV)) fun t3 =>
endK (.tup [t2, t3]) H4 K) (
 letO (some (x0 : AV)) fun t20 =>
 letO (some (x0 : AV)) fun t21 =>
 letO (lenA t21) fun t22 =>
 ACalls Tryd.prog 76 [t22, .nils] H4 fun t23 H5 =>
 letO (some (t4 : AV)) fun t24 =>
 ACalls Tryd.prog 96 [t20, t23, t24] H5 fun t25 H6 =>
 letO (some (t25 : AV)) fun t2 =>
 letO (some ((.int .i64 0) : AV)) fun t3 =>
endK (.tup [t2, t3]) H6 K)

theorem W41_ok {x0 : AV} {H : Heap} {K : AV → Heap → Prop} (h : W41 x0 H K) : ACalls Tryd.prog 41 [x0] H K :=
  acallsB (fn := Tryd.f41) (cfg := cfgOf [] [] [] [] []) (hh := (.dir .nil (.dir .nil (.cut [5] [11, 12, 13, 14, 15, 16, 5] (.dir .nil .nil) (.dir (.dir .nil (.dir .nil .nil)) .nil))))) follows Tryd.func41 (by kernel_rfl) (Nat.le_of_ble_eq_true (by kernel_rfl)) (by kernel_rfl) h

/-- headword.headwordref11.Sum -/
def W43 (x0 x1 : AV) (H : Heap) (K : AV → Heap → Prop) : Prop :=
 letO (some (.nils : AV)) fun t4 =>
 letO (some ((.int .i64 0) : AV)) fun t5 =>
 letO (some (x0 : AV)) fun t12 =>
 ACalls Tryd.prog 78 [t12, (.int .i64 1), (.int .i64 4)] H fun t13 H1 =>
 letO (unF .not t13) fun t14 =>
 condA t14 true (
 letO (some (.nils : AV)) fun t4 =>
 letO (some ((.int .i64 1) : AV)) fun t5 =>
endK (.tup [t4, t5]) H1 K) (
 letO (some (x1 : AV)) fun t15 =>
 letO (lenA t15) fun t16 =>
 letO (binF Tryd.prog .gtr 3 t16 (.int .i64 10)) fun t17 =>
 condA t17 true (
 letO (some (.nils : AV)) fun t4 =>
 letO (some ((.int .i64 3) : AV)) fun t5 =>
endK (.tup [t4, t5]) H1 K) (
 letO (some ((.int .i64 0) : AV)) fun t6 =>
 true = true ∧ ∃ (I2 : List AV → Heap → Prop) (μ3 : List AV → Heap → Nat), I2 [t6] H1 ∧ ∀ L4 H5, I2 L4 H5 → -- [t6]
 letO (some ((L4.getD 0 .any) : AV)) fun t18 =>
 letO (some (x1 : AV)) fun t19 =>
 letO (lenA t19) fun t20 =>
 letO (binF Tryd.prog .lss 3 t18 t20) fun t21 =>
 condA t21 true (
 letO (some (x0 : AV)) fun t24 =>
 letO (some (x1 : AV)) fun t25 =>
 letO (some ((L4.getD 0 .any) : AV)) fun t26 =>
 letO (idx 2 t25 t26) fun t27 =>
 letO (faddr 0 t27) fun t28 =>
 letO (load1 t28 H5) fun t29 =>
 ACalls Tryd.prog 80 [t24, t29] H5 fun t30 H6 =>
 letO (some (t30 : AV)) fun t7 =>
 true = true ∧ ∃ J7 : List AV → Heap → Prop, (
 letO (some (t7 : AV)) fun t31 =>
 letO (binF Tryd.prog .eql 26 t31 (.int .i64 0)) fun t32 =>
 letO (some (t32 : AV)) fun t33 =>
 letO (gval t33 true (some (x1 : AV))) fun t34 =>
 letO (gval t33 true (some ((L4.getD 0 .any) : AV))) fun t35 =>
 letO (gval t33 true (idx 2 t34 t35)) fun t36 =>
 letO (gval t33 true (faddr 1 t36)) fun t37 =>
 letO (gval t33 true (load1 t37 H6)) fun t38 =>
 ∃ J8 : AV → Heap → Prop, condG t33 true (ACalls Tryd.prog 78 [t38, (.int .i64 1), (.int .i64 36)] H6 fun t39 H9 =>
 J8 t39 H9) (J8 (.tup []) H6) ∧ ∀ t39 H10, J8 t39 H10 →
 letO (gval t33 true (unF .not t39)) fun t40 =>
 letO (pickF t33 t40 (.bool false)) fun t41 =>
 condA t41 true (
 letO (some ((.int .i64 1) : AV)) fun t7 =>
 J7 [t7] H10) (
 J7 [t7] H10)) ∧ ∀ L11 H12, J7 L11 H12 → -- [t7]
 letO (some ((L11.getD 0 .any) : AV)) fun t42 =>
 letO (binF Tryd.prog .neq 26 t42 (.int .i64 0)) fun t43 =>
 condA t43 true (
 letO (some ((L11.getD 0 .any) : AV)) fun t44 =>
 letO (some (.nils : AV)) fun t4 =>
 letO (some (t44 : AV)) fun t5 =>
endK (.tup [t4, t5]) H12 K) (
 letO (some ((L4.getD 0 .any) : AV)) fun t22 =>
 letO (binF Tryd.prog .add 3 t22 (.int .i64 1)) fun t23 =>
 letO (some (t23 : AV)) fun t6 =>
 I2 [t6] H12 ∧ μ3 [t6] H12 < μ3 L4 H5)) (
 letO (some (.nils : AV)) fun t8 =>
 letO (some ((.int .i64 0) : AV)) fun t9 =>
 true = true ∧ ∃ (I13 : List AV → Heap → Prop) (μ14 : List AV → Heap → Nat), I13 [t8, t9] H5 ∧ ∀ L15 H16, I13 L15 H16 → -- [t8, t9]
 letO (some ((L15.getD 1 .any) : AV)) fun t45 =>
 letO (some (x0 : AV)) fun t46 =>
 letO (binF Tryd.prog .lss 3 t45 t46) fun t47 =>
 condA t47 true (
 letO (some ((L15.getD 0 .any) : AV)) fun t50 =>
 letO (some (x0 : AV)) fun t51 =>
 makeA [(.int .i64 0)] 1 8 t51 t51 (fun t52 H17 =>
 letO (literalF Tryd.prog 22 1 [(0, t52)]) fun c18 =>
 appendA 1 24 t50 (.imm 1 true c18) (fun t54 H19 =>
 letO (some (t54 : AV)) fun t8 =>
 letO (some ((L15.getD 1 .any) : AV)) fun t48 =>
 letO (binF Tryd.prog .add 3 t48 (.int .i64 1)) fun t49 =>
 letO (some (t49 : AV)) fun t9 =>
 I13 [t8, t9] H19 ∧ μ14 [t8, t9] H19 < μ14 L15 H16) H17) H16) (
 letO (some ((.int .i64 0) : AV)) fun t10 =>
 true = true ∧ ∃ (I20 : List AV → Heap → Prop) (μ21 : List AV → Heap → Nat), I20 [(L15.getD 0 .any), t10] H16 ∧ ∀ L22 H23, I20 L22 H23 → -- [t8, t10]
 letO (some ((L22.getD 1 .any) : AV)) fun t55 =>
 letO (some (x1 : AV)) fun t56 =>
 letO (lenA t56) fun t57 =>
 letO (binF Tryd.prog .lss 3 t55 t57) fun t58 =>
 condA t58 true (
 true = true ∧
 letO (some ((L22.getD 0 .any) : AV)) fun t61 =>
 letO (some (x1 : AV)) fun t62 =>
 letO (some ((L22.getD 1 .any) : AV)) fun t63 =>
 letO (idx 2 t62 t63) fun t64 =>
 letO (faddr 0 t64) fun t65 =>
 letO (load1 t65 H23) fun t66 =>
 letO (some (x1 : AV)) fun t67 =>
 letO (some ((L22.getD 1 .any) : AV)) fun t68 =>
 letO (idx 2 t67 t68) fun t69 =>
 letO (faddr 1 t69) fun t70 =>
 letO (load1 t70 H23) fun t71 =>
 letO (unF .neg t71) fun t72 =>
 ACalls Tryd.prog 92 [t61, t66, t72] H23 fun t73 H24 =>
 letO (some (t73 : AV)) fun t8 =>
 letO (some ((L22.getD 1 .any) : AV)) fun t59 =>
 letO (binF Tryd.prog .add 3 t59 (.int .i64 1)) fun t60 =>
 letO (some (t60 : AV)) fun t10 =>
 I20 [t8, t10] H24 ∧ μ21 [t8, t10] H24 < μ21 L22 H23) (
 letO (some ((L22.getD 0 .any) : AV)) fun t74 =>
 ACalls Tryd.prog 31 [t74] H23 fun t75 H25 =>
 letO (some (t75 : AV)) fun t11 =>
 letO (some (t11 : AV)) fun t76 =>
 letO (binF Tryd.prog .neq 26 t76 (.int .i64 0)) fun t77 =>
 condA t77 true (
 letO (some (.nils : AV)) fun t4 =>
 letO (some ((.int .i64 15) : AV)) fun t5 =>
endK (.tup [t4, t5]) H25 K) (
 letO (some ((L22.getD 0 .any) : AV)) fun t78 =>
 letO (some (t78 : AV)) fun t4 =>
 letO (some ((.int .i64 0) : AV)) fun t5 =>
endK (.tup [t4, t5]) H25 K))))))

theorem W43_ok {x0 x1 : AV} {H : Heap} {K : AV → Heap → Prop} (h : W43 x0 x1 H K) : ACalls Tryd.prog 43 [x0, x1] H K :=
  acallsB (fn := Tryd.f43) (cfg := cfgOf [] [] [(21, [0, 0, 0, 6, 14, 30, 0, 0, 192, 448, 960, 1984, 4095, 8191])] [] []) (hh := (.dir .nil (.dir (.dir .nil (.dir .nil .nil)) (.dir (.dir .nil (.dir .nil .nil)) (.dir (.dir .nil (.blk (.loop [6] [18, 19, 20, 21, 24, 25, 26, 27, 28, 29, 30, 7, 31, 32, 33, 34, 35, 36, 37, 38, 39, 40, 41, 42, 43, 44, 4, 5, 22, 23, 6] (.dir (.dir .nil .nil) (.dir (.blk (.dir .nil (.cut [7] [31, 32, 33, 34, 35, 36, 37, 38, 39, 40, 41, 7] (.dir .nil .nil) (.dir .nil (.dir .nil .nil))))) .nil))))) (.dir .nil (.dir (.dir .nil (.blk (.loop [8, 9] [45, 46, 47, 50, 51, 52, 53, 54, 8, 48, 49, 9] (.dir (.dir .nil .nil) (.dir .nil .nil))))) (.dir (.dir .nil (.blk (.loop [8, 10] [55, 56, 57, 58, 61, 62, 63, 64, 65, 66, 67, 68, 69, 70, 71, 72, 73, 8, 59, 60, 10] (.dir (.dir .nil .nil) (.dir .nil .nil))))) (.dir .nil (.dir (.dir .nil (.dir .nil .nil)) .nil)))))))))) follows Tryd.func43 (by kernel_rfl) (Nat.le_of_ble_eq_true (by kernel_rfl)) (by kernel_rfl) h

/-- (headword.headwordlaw11.Ledger).even -/
def W44 (x0 x1 : AV) (H : Heap) (K : AV → Heap → Prop) : Prop :=
 letO (cellsOf? x0) fun c1 =>
 letO (some (.nils : AV)) fun t4 =>
 letO (some ((.int .i64 0) : AV)) fun t5 =>
 letO (loadN 27 (.iptr c1) H) fun t14 =>
 ACalls Tryd.prog 58 [t14] H fun t15 H2 =>
 letO (some (t15 : AV)) fun t6 =>
 letO (some (t6 : AV)) fun t16 =>
 ACalls Tryd.prog 45 [t16] H2 fun t17 H3 =>
 letO (some (t17 : AV)) fun t7 =>
 letO (some (t6 : AV)) fun t18 =>
 ACalls Tryd.prog 49 [t18] H3 fun t19 H4 =>
 letO (some (t19 : AV)) fun t8 =>
 letO (faddr 1 (.iptr c1)) fun t20 =>
 letO (load1 t20 H4) fun t21 =>
 letO (convF Tryd.prog 5 3 t21) fun t22 =>
 letO (some (x1 : AV)) fun t23 =>
 letO (binF Tryd.prog .add 3 t23 (.int .i64 1)) fun t24 =>
 letO (binF Tryd.prog .rem 3 t22 t24) fun t25 =>
 letO (some (t25 : AV)) fun t9 =>
 letO (faddr 19 (.iptr c1)) fun t26 =>
 letO (some (t9 : AV)) fun t27 =>
 letO (slcArr 8 1 t26 none (some t27) none) fun t28 =>
 letO (lenA t28) fun t29 =>
 letO (some ((.int .i64 0) : AV)) fun t30 =>
 true = true ∧ ∃ (I5 : List AV → Heap → Prop) (μ6 : List AV → Heap → Nat), I5 [t30] H4 ∧ ∀ L7 H8, I5 L7 H8 → -- [t30]
 letO (binF Tryd.prog .lss 3 (L7.getD 0 .any) t29) fun t31 =>
 condA t31 true (
 letO (idx 1 t28 (L7.getD 0 .any)) fun t32 =>
 letO (load1 t32 H8) fun t33 =>
 letO (some (t33 : AV)) fun t11 =>
 letO (some (t7 : AV)) fun t34 =>
 letO (some (t11 : AV)) fun t35 =>
 letO (convF Tryd.prog 5 3 t35) fun t36 =>
 letO (some (t7 : AV)) fun t37 =>
 letO (lenA t37) fun t38 =>
 letO (binF Tryd.prog .rem 3 t36 t38) fun t39 =>
 letO (idx 1 t34 t39) fun t40 =>
 letO (load1 t40 H8) fun t41 =>
 letO (lenA t41) fun t42 =>
 letO (some ((.int .i64 0) : AV)) fun t43 =>
 true = true ∧ ∃ (I9 : List AV → Heap → Prop) (μ10 : List AV → Heap → Nat), I9 [t43] H8 ∧ ∀ L11 H12, I9 L11 H12 → -- [t43]
 letO (binF Tryd.prog .lss 3 (L11.getD 0 .any) t42) fun t44 =>
 condA t44 true (
 letO (some ((L11.getD 0 .any) : AV)) fun t45 =>
 letO (idx 1 t41 (L11.getD 0 .any)) fun t46 =>
 letO (load1 t46 H12) fun t47 =>
 letO (some (t45 : AV)) fun t12 =>
 letO (some (t47 : AV)) fun t13 =>
 letO (some (t8 : AV)) fun t48 =>
 letO (some (t12 : AV)) fun t49 =>
 letO (idx 1 t48 t49) fun t50 =>
 letO (load1 t50 H12) fun t51 =>
 letO (some (t13 : AV)) fun t52 =>
 letO (idx 1 t51 t52) fun t53 =>
 letO (load1 t53 H12) fun t54 =>
 letO (binF Tryd.prog .add 3 t54 (.int .i64 1)) fun t55 =>
 letO (idx 1 t51 t52) fun t56 =>
 storeA 1 t56 t55 (fun H13 =>
 letO (binF Tryd.prog .add 3 (L11.getD 0 .any) (.int .i64 1)) fun t57 =>
 letO (some (t57 : AV)) fun t43 =>
 I9 [t43] H13 ∧ μ10 [t43] H13 < μ10 L11 H12) H12) (
 letO (binF Tryd.prog .add 3 (L7.getD 0 .any) (.int .i64 1)) fun t58 =>
 letO (some (t58 : AV)) fun t30 =>
 I5 [t30] H12 ∧ μ6 [t30] H12 < μ6 L7 H8)) (
 letO (some (t8 : AV)) fun t59 =>
 letO (some (t9 : AV)) fun t60 =>
 letO (some (t59 : AV)) fun t4 =>
 letO (some (t60 : AV)) fun t5 =>
endK (.tup [t4, t5]) H8 K)

theorem W44_ok {x0 x1 : AV} {H : Heap} {K : AV → Heap → Prop} (h : W44 x0 x1 H K) : ACalls Tryd.prog 44 [x0, x1] H K :=
  acallsB (fn := Tryd.f44) (cfg := cfgOf [] [] [] [] []) (hh := (.dir .nil (.dir .nil (.dir .nil (.dir .nil (.dir .nil (.dir (.dir .nil (.blk (.loop [30] [31, 32, 33, 11, 34, 35, 36, 37, 38, 39, 40, 41, 42, 43, 44, 45, 46, 47, 12, 13, 48, 49, 50, 51, 52, 53, 54, 55, 56, 57, 58, 30] (.dir .nil (.dir .nil (.dir (.blk (.dir .nil (.dir .nil (.blk (.loop [43] [44, 45, 46, 47, 12, 13, 48, 49, 50, 51, 52, 53, 54, 55, 56, 57, 43] (.dir .nil (.dir .nil (.dir .nil .nil)))))))) .nil)))))) .nil))))))) follows Tryd.func44 (by kernel_rfl) (Nat.le_of_ble_eq_true (by kernel_rfl)) (by kernel_rfl) h

/-- headword.headwordlaw11.plans -/
def W45 (x0 : AV) (H : Heap) (K : AV → Heap → Prop) : Prop :=
 letO (some (.nils : AV)) fun t2 =>
 letO (literalF Tryd.prog 22 1 [(0, .nils)]) fun c1 =>
 letO (some ((.imm 1 true c1) : AV)) fun t3 =>
 letO (some (x0 : AV)) fun t9 =>
 letO (some ((.int .i64 0) : AV)) fun t10 =>
 true = true ∧ ∃ (I2 : List AV → Heap → Prop) (μ3 : List AV → Heap → Nat), I2 [t3, t10] H ∧ ∀ L4 H5, I2 L4 H5 → -- [t3, t10]
 letO (binF Tryd.prog .lss 3 (L4.getD 1 .any) t9) fun t11 =>
 condA t11 true (
 letO (some (.nils : AV)) fun t4 =>
 letO (some ((L4.getD 0 .any) : AV)) fun t12 =>
 letO (lenA t12) fun t13 =>
 letO (some ((.int .i64 0) : AV)) fun t14 =>
 true = true ∧ ∃ (I6 : List AV → Heap → Prop) (μ7 : List AV → Heap → Nat), I6 [t4, t14] H5 ∧ ∀ L8 H9, I6 L8 H9 → -- [t4, t14]
 letO (binF Tryd.prog .lss 3 (L8.getD 1 .any) t13) fun t15 =>
 condA t15 true (
 letO (idx 1 t12 (L8.getD 1 .any)) fun t16 =>
 letO (load1 t16 H9) fun t17 =>
 letO (some (t17 : AV)) fun t6 =>
 letO (some (x0 : AV)) fun t18 =>
 letO (some ((.int .i64 0) : AV)) fun t19 =>
 true = true ∧ ∃ (I10 : List AV → Heap → Prop) (μ11 : List AV → Heap → Nat), I10 [(L8.getD 0 .any), t19] H9 ∧ ∀ L12 H13, I10 L12 H13 → -- [t4, t19]
 letO (binF Tryd.prog .lss 3 (L12.getD 1 .any) t18) fun t20 =>
 condA t20 true (
 true = true ∧ ∃ J14 : List AV → Heap → Prop, (
 letO (some ((L12.getD 1 .any) : AV)) fun t21 =>
 letO (some (t21 : AV)) fun t7 =>
 letO (some (t6 : AV)) fun t22 =>
 letO (some (t7 : AV)) fun t23 =>
 ACalls Tryd.prog 62 [t22, t23] H13 fun t24 H15 =>
 letO (unF .not t24) fun t25 =>
 condA t25 true (
 letO (some ((L12.getD 0 .any) : AV)) fun t26 =>
 letO (some (t6 : AV)) fun t27 =>
 letO (some (t6 : AV)) fun t28 =>
 letO (lenA t28) fun t29 =>
 letO (some (t6 : AV)) fun t30 =>
 letO (lenA t30) fun t31 =>
 letO (slc 1 t27 none (some t29) (some t31)) fun t32 =>
 letO (some (t7 : AV)) fun t33 =>
 letO (literalF Tryd.prog 23 1 [(0, t33)]) fun c16 =>
 appendA 1 8 t32 (.imm 1 true c16) (fun t35 H17 =>
 letO (literalF Tryd.prog 22 1 [(0, t35)]) fun c18 =>
 appendA 1 24 t26 (.imm 1 true c18) (fun t37 H19 =>
 letO (some (t37 : AV)) fun t4 =>
 J14 [t4] H19) H17) H15) (
 J14 [(L12.getD 0 .any)] H15)) ∧ ∀ L20 H21, J14 L20 H21 → -- [t4]
 letO (binF Tryd.prog .add 3 (L12.getD 1 .any) (.int .i64 1)) fun t38 =>
 letO (some (t38 : AV)) fun t19 =>
 I10 [(L20.getD 0 .any), t19] H21 ∧ μ11 [(L20.getD 0 .any), t19] H21 < μ11 L12 H13) (
 letO (binF Tryd.prog .add 3 (L8.getD 1 .any) (.int .i64 1)) fun t39 =>
 letO (some (t39 : AV)) fun t14 =>
 I6 [(L12.getD 0 .any), t14] H13 ∧ μ7 [(L12.getD 0 .any), t14] H13 < μ7 L8 H9)) (
 letO (some ((L8.getD 0 .any) : AV)) fun t40 =>
 letO (some (t40 : AV)) fun t3 =>
 letO (binF Tryd.prog .add 3 (L4.getD 1 .any) (.int .i64 1)) fun t41 =>
 letO (some (t41 : AV)) fun t10 =>
 I2 [t3, t10] H9 ∧ μ3 [t3, t10] H9 < μ3 L4 H5)) (
 letO (some ((L4.getD 0 .any) : AV)) fun t42 =>
 letO (some (t42 : AV)) fun t2 =>
endK t2 H5 K)

theorem W45_ok {x0 : AV} {H : Heap} {K : AV → Heap → Prop} (h : W45 x0 H K) : ACalls Tryd.prog 45 [x0] H K :=
  acallsB (fn := Tryd.f45) (cfg := cfgOf [] [] [] [] []) (hh := (.dir .nil (.dir .nil (.dir (.dir .nil (.blk (.loop [3, 10] [11, 4, 12, 13, 14, 15, 16, 17, 6, 18, 19, 20, 21, 7, 22, 23, 24, 25, 26, 27, 28, 29, 30, 31, 32, 33, 34, 35, 36, 37, 38, 39, 40, 3, 41, 10] (.dir .nil (.dir .nil (.dir (.blk (.dir .nil (.dir (.dir .nil (.blk (.loop [4, 14] [15, 16, 17, 6, 18, 19, 20, 21, 7, 22, 23, 24, 25, 26, 27, 28, 29, 30, 31, 32, 33, 34, 35, 36, 37, 4, 38, 39, 14] (.dir .nil (.dir .nil (.dir (.blk (.dir .nil (.dir .nil (.blk (.loop [4, 19] [20, 21, 7, 22, 23, 24, 25, 26, 27, 28, 29, 30, 31, 32, 33, 34, 35, 36, 37, 4, 38, 19] (.dir .nil (.dir .nil (.cut [4] [21, 7, 22, 23, 24, 25, 26, 27, 28, 29, 30, 31, 32, 33, 34, 35, 36, 37, 4] (.blk (.dir .nil (.dir .nil .nil))) .nil)))))))) .nil)))))) .nil))) .nil)))))) .nil)))) follows Tryd.func45 (by kernel_rfl) (Nat.le_of_ble_eq_true (by kernel_rfl)) (by kernel_rfl) h

/-- headword.headwordlaw11.weight -/
def W48 (x0 x1 : AV) (H : Heap) (K : AV → Heap → Prop) : Prop :=
 letO (some ((.int .i64 0) : AV)) fun t4 =>
 letO (some ((.int .i64 1) : AV)) fun t5 =>
 letO (some (x1 : AV)) fun t8 =>
 letO (lenA t8) fun t9 =>
 letO (some ((.int .i64 0) : AV)) fun t10 =>
 true = true ∧ ∃ (I1 : List AV → Heap → Prop) (μ2 : List AV → Heap → Nat), I1 [t5, t10] H ∧ ∀ L3 H4, I1 L3 H4 → -- [t5, t10]
 letO (binF Tryd.prog .lss 3 (L3.getD 1 .any) t9) fun t11 =>
 condA t11 true (
 letO (some ((L3.getD 1 .any) : AV)) fun t12 =>
 letO (idx 1 t8 (L3.getD 1 .any)) fun t13 =>
 letO (load1 t13 H4) fun t14 =>
 letO (some (t12 : AV)) fun t6 =>
 letO (some (t14 : AV)) fun t7 =>
 letO (some ((L3.getD 0 .any) : AV)) fun t15 =>
 letO (some (x0 : AV)) fun t16 =>
 letO (some (t6 : AV)) fun t17 =>
 letO (idx 1 t16 t17) fun t18 =>
 letO (load1 t18 H4) fun t19 =>
 letO (some (t7 : AV)) fun t20 =>
 letO (idx 1 t19 t20) fun t21 =>
 letO (load1 t21 H4) fun t22 =>
 letO (binF Tryd.prog .mul 3 t15 t22) fun t23 =>
 letO (some (t23 : AV)) fun t5 =>
 letO (binF Tryd.prog .add 3 (L3.getD 1 .any) (.int .i64 1)) fun t24 =>
 letO (some (t24 : AV)) fun t10 =>
 I1 [t5, t10] H4 ∧ μ2 [t5, t10] H4 < μ2 L3 H4) (
 letO (some ((L3.getD 0 .any) : AV)) fun t25 =>
 letO (some (t25 : AV)) fun t4 =>
endK t4 H4 K)

theorem W48_ok {x0 x1 : AV} {H : Heap} {K : AV → Heap → Prop} (h : W48 x0 x1 H K) : ACalls Tryd.prog 48 [x0, x1] H K :=
  acallsB (fn := Tryd.f48) (cfg := cfgOf [] [] [] [] []) (hh := (.dir .nil (.dir .nil (.dir (.dir .nil (.blk (.loop [5, 10] [11, 12, 13, 14, 6, 7, 15, 16, 17, 18, 19, 20, 21, 22, 23, 5, 24, 10] (.dir .nil (.dir .nil (.dir .nil .nil)))))) .nil)))) follows Tryd.func48 (by kernel_rfl) (Nat.le_of_ble_eq_true (by kernel_rfl)) (by kernel_rfl) h

/-- (headword.headwordlaw11.Ledger).free -/
def W54 (x0 : AV) (H : Heap) (K : AV → Heap → Prop) : Prop :=
 letO (cellsOf? x0) fun c1 =>
 letO (some (.nils : AV)) fun t2 =>
 letO (loadN 27 (.iptr c1) H) fun t9 =>
 ACalls Tryd.prog 58 [t9] H fun t10 H2 =>
 letO (some (t10 : AV)) fun t3 =>
 letO (some (.nils : AV)) fun t4 =>
 letO (some (t3 : AV)) fun t11 =>
 letO (some ((.int .i64 0) : AV)) fun t12 =>
 true = true ∧ ∃ (I3 : List AV → Heap → Prop) (μ4 : List AV → Heap → Nat), I3 [t4, t12] H2 ∧ ∀ L5 H6, I3 L5 H6 → -- [t4, t12]
 letO (binF Tryd.prog .lss 3 (L5.getD 1 .any) t11) fun t13 =>
 condA t13 true (
 letO (some ((L5.getD 1 .any) : AV)) fun t14 =>
 letO (some (t14 : AV)) fun t5 =>
 letO (some (.nils : AV)) fun t6 =>
 letO (some (t3 : AV)) fun t15 =>
 letO (some ((.int .i64 0) : AV)) fun t16 =>
 true = true ∧ ∃ (I7 : List AV → Heap → Prop) (μ8 : List AV → Heap → Nat), I7 [t6, t16] H6 ∧ ∀ L9 H10, I7 L9 H10 → -- [t6, t16]
 letO (binF Tryd.prog .lss 3 (L9.getD 1 .any) t15) fun t17 =>
 condA t17 true (
 letO (some ((L9.getD 1 .any) : AV)) fun t18 =>
 letO (some (t18 : AV)) fun t7 =>
 letO (some (t5 : AV)) fun t19 =>
 letO (binF Tryd.prog .mul 3 (.int .i64 4) t19) fun t20 =>
 letO (some (t7 : AV)) fun t21 =>
 letO (binF Tryd.prog .add 3 t20 t21) fun t22 =>
 letO (faddr 3 (.iptr c1)) fun t23 =>
 letO (idxArr 16 1 t23 t22) fun t24 =>
 letO (load1 t24 H10) fun t25 =>
 letO (convF Tryd.prog 5 3 t25) fun t26 =>
 letO (some (t26 : AV)) fun t8 =>
 true = true ∧ ∃ J11 : List AV → Heap → Prop, (
 letO (faddr 2 (.iptr c1)) fun t27 =>
 letO (load1 t27 H10) fun t28 =>
 letO (binF Tryd.prog .rem 5 t28 (.int .u8 2)) fun t29 =>
 letO (binF Tryd.prog .eql 5 t29 (.int .u8 1)) fun t30 =>
 letO (some (t30 : AV)) fun t31 =>
 letO (gval t31 true (some (t8 : AV))) fun t32 =>
 letO (gval t31 true (binF Tryd.prog .rem 3 t32 (.int .i64 3))) fun t33 =>
 letO (gval t31 true (binF Tryd.prog .gtr 3 t33 (.int .i64 0))) fun t34 =>
 letO (pickF t31 t34 (.bool false)) fun t35 =>
 condA t35 true (
 letO (some ((.int .i64 0) : AV)) fun t8 =>
 J11 [t8] H10) (
 J11 [t8] H10)) ∧ ∀ L12 H13, J11 L12 H13 → -- [t8]
 letO (some ((L9.getD 0 .any) : AV)) fun t36 =>
 letO (some ((L12.getD 0 .any) : AV)) fun t37 =>
 letO (binF Tryd.prog .quo 3 t37 (.int .i64 3)) fun t38 =>
 letO (binF Tryd.prog .rem 3 t38 (.int .i64 10)) fun t39 =>
 letO (literalF Tryd.prog 23 1 [(0, t39)]) fun c14 =>
 appendA 1 8 t36 (.imm 1 true c14) (fun t41 H15 =>
 letO (some (t41 : AV)) fun t6 =>
 letO (binF Tryd.prog .add 3 (L9.getD 1 .any) (.int .i64 1)) fun t42 =>
 letO (some (t42 : AV)) fun t16 =>
 I7 [t6, t16] H15 ∧ μ8 [t6, t16] H15 < μ8 L9 H10) H13) (
 letO (some ((L5.getD 0 .any) : AV)) fun t43 =>
 letO (some ((L9.getD 0 .any) : AV)) fun t44 =>
 letO (literalF Tryd.prog 22 1 [(0, t44)]) fun c16 =>
 appendA 1 24 t43 (.imm 1 true c16) (fun t46 H17 =>
 letO (some (t46 : AV)) fun t4 =>
 letO (binF Tryd.prog .add 3 (L5.getD 1 .any) (.int .i64 1)) fun t47 =>
 letO (some (t47 : AV)) fun t12 =>
 I3 [t4, t12] H17 ∧ μ4 [t4, t12] H17 < μ4 L5 H6) H10)) (
 letO (some ((L5.getD 0 .any) : AV)) fun t48 =>
 letO (some (t48 : AV)) fun t2 =>
endK t2 H6 K)

theorem W54_ok {x0 : AV} {H : Heap} {K : AV → Heap → Prop} (h : W54 x0 H K) : ACalls Tryd.prog 54 [x0] H K :=
  acallsB (fn := Tryd.f54) (cfg := cfgOf [] [] [] [] []) (hh := (.dir .nil (.dir .nil (.dir .nil (.dir (.dir .nil (.blk (.loop [4, 12] [13, 14, 5, 6, 15, 16, 17, 18, 7, 19, 20, 21, 22, 23, 24, 25, 26, 8, 27, 28, 29, 30, 31, 32, 33, 34, 35, 36, 37, 38, 39, 40, 41, 42, 43, 44, 45, 46, 4, 47, 12] (.dir .nil (.dir .nil (.dir (.blk (.dir .nil (.dir .nil (.dir (.dir .nil (.blk (.loop [6, 16] [17, 18, 7, 19, 20, 21, 22, 23, 24, 25, 26, 8, 27, 28, 29, 30, 31, 32, 33, 34, 35, 36, 37, 38, 39, 40, 41, 6, 42, 16] (.dir .nil (.dir .nil (.dir (.blk (.dir .nil (.dir .nil (.cut [8] [27, 28, 29, 30, 31, 32, 33, 34, 35, 8] (.dir .nil .nil) .nil)))) .nil)))))) .nil)))) .nil)))))) .nil))))) follows Tryd.func54 (by kernel_rfl) (Nat.le_of_ble_eq_true (by kernel_rfl)) (by kernel_rfl) h

/-- (headword.headwordlaw11.Ledger).size -/
def W58 (x0 : AV) (H : Heap) (K : AV → Heap → Prop) : Prop :=
 letO (cellsOf? x0) fun c1 =>
 letO (some ((.int .i64 0) : AV)) fun t2 =>
 letO (faddr 0 (.iptr c1)) fun t3 =>
 letO (load1 t3 H) fun t4 =>
 letO (convF Tryd.prog 5 3 t4) fun t5 =>
 letO (binF Tryd.prog .rem 3 t5 (.int .i64 4)) fun t6 =>
 letO (binF Tryd.prog .add 3 (.int .i64 1) t6) fun t7 =>
 letO (some (t7 : AV)) fun t2 =>
endK t2 H K

theorem W58_ok {x0 : AV} {H : Heap} {K : AV → Heap → Prop} (h : W58 x0 H K) : ACalls Tryd.prog 58 [x0] H K :=
  acallsB (fn := Tryd.f58) (cfg := cfgOf [] [] [] [] []) (hh := (.dir .nil .nil)) follows Tryd.func58 (by kernel_rfl) (Nat.le_of_ble_eq_true (by kernel_rfl)) (by kernel_rfl) h

/-- slices.Clone[[]headword.table.Share,headword.table.Share] -/
def W60 (x0 : AV) (H : Heap) (K : AV → Heap → Prop) : Prop :=
 letO (some (.nils : AV)) fun t2 =>
 letO (some (x0 : AV)) fun t3 =>
 letO (binF Tryd.prog .eql 42 t3 .nils) fun t4 =>
 condA t4 true (
 letO (some (.nils : AV)) fun t2 =>
endK t2 H K) (
 letO (literalF Tryd.prog 42 0 []) fun c1 =>
 letO (some (x0 : AV)) fun t6 =>
 appendA 2 32 (.imm 0 true c1) t6 (fun t7 H2 =>
 letO (some (t7 : AV)) fun t2 =>
endK t2 H2 K) H)

theorem W60_ok {x0 : AV} {H : Heap} {K : AV → Heap → Prop} (h : W60 x0 H K) : ACalls Tryd.prog 60 [x0] H K :=
  acallsB (fn := Tryd.f60) (cfg := cfgOf [] [] [] [] []) (hh := (.dir .nil (.dir (.dir .nil (.dir .nil .nil)) .nil))) follows Tryd.func60 (by kernel_rfl) (Nat.le_of_ble_eq_true (by kernel_rfl)) (by kernel_rfl) h

/-- headword.headwordref11.sums -/
def W72 (x0 x1 : AV) (H : Heap) (K : AV → Heap → Prop) : Prop :=
 letO (some ((.int .i64 0) : AV)) fun t4 =>
 letO (some ((.int .i64 0) : AV)) fun t5 =>
 letO (some ((.int .i64 0) : AV)) fun t6 =>
 letO (some ((.int .i64 0) : AV)) fun t7 =>
 letO (some ((.int .i64 0) : AV)) fun t8 =>
 true = true ∧ ∃ (I1 : List AV → Heap → Prop) (μ2 : List AV → Heap → Nat), I1 [t6, t7, t8] H ∧ ∀ L3 H4, I1 L3 H4 → -- [t6, t7, t8]
 letO (some ((L3.getD 2 .any) : AV)) fun t9 =>
 letO (some (x0 : AV)) fun t10 =>
 letO (lenA t10) fun t11 =>
 letO (binF Tryd.prog .lss 3 t9 t11) fun t12 =>
 condA t12 true (
 letO (some ((L3.getD 0 .any) : AV)) fun t15 =>
 letO (some (x0 : AV)) fun t16 =>
 letO (some (x1 : AV)) fun t17 =>
 letO (idx 1 t16 t17) fun t18 =>
 letO (load1 t18 H4) fun t19 =>
 letO (some ((L3.getD 2 .any) : AV)) fun t20 =>
 letO (idx 1 t19 t20) fun t21 =>
 letO (load1 t21 H4) fun t22 =>
 letO (binF Tryd.prog .add 3 t15 t22) fun t23 =>
 letO (some (t23 : AV)) fun t6 =>
 letO (some ((L3.getD 1 .any) : AV)) fun t24 =>
 letO (some (x0 : AV)) fun t25 =>
 letO (some ((L3.getD 2 .any) : AV)) fun t26 =>
 letO (idx 1 t25 t26) fun t27 =>
 letO (load1 t27 H4) fun t28 =>
 letO (some (x1 : AV)) fun t29 =>
 letO (idx 1 t28 t29) fun t30 =>
 letO (load1 t30 H4) fun t31 =>
 letO (binF Tryd.prog .add 3 t24 t31) fun t32 =>
 letO (some (t32 : AV)) fun t7 =>
 letO (some ((L3.getD 2 .any) : AV)) fun t13 =>
 letO (binF Tryd.prog .add 3 t13 (.int .i64 1)) fun t14 =>
 letO (some (t14 : AV)) fun t8 =>
 I1 [t6, t7, t8] H4 ∧ μ2 [t6, t7, t8] H4 < μ2 L3 H4) (
 letO (some ((L3.getD 0 .any) : AV)) fun t33 =>
 letO (some ((L3.getD 1 .any) : AV)) fun t34 =>
 letO (some (t33 : AV)) fun t4 =>
 letO (some (t34 : AV)) fun t5 =>
endK (.tup [t4, t5]) H4 K)

theorem W72_ok {x0 x1 : AV} {H : Heap} {K : AV → Heap → Prop} (h : W72 x0 x1 H K) : ACalls Tryd.prog 72 [x0, x1] H K :=
  acallsB (fn := Tryd.f72) (cfg := cfgOf [] [] [] [] []) (hh := (.dir .nil (.dir .nil (.dir (.dir .nil (.blk (.loop [6, 7, 8] [9, 10, 11, 12, 15, 16, 17, 18, 19, 20, 21, 22, 23, 6, 24, 25, 26, 27, 28, 29, 30, 31, 32, 7, 13, 14, 8] (.dir (.dir .nil .nil) (.dir .nil .nil))))) .nil)))) follows Tryd.func72 (by kernel_rfl) (Nat.le_of_ble_eq_true (by kernel_rfl)) (by kernel_rfl) h

/-- headword.headwordref11.within -/
def W74 (x0 : AV) (H : Heap) (K : AV → Heap → Prop) : Prop :=
 letO (some (.nils : AV)) fun t2 =>
 letO (some (.nils : AV)) fun t3 =>
 letO (some (x0 : AV)) fun t6 =>
 letO (lenA t6) fun t7 =>
 ACalls Tryd.prog 76 [t7, .nils] H fun t8 H1 =>
 letO (some (t8 : AV)) fun t4 =>
 letO (some ((.int .i64 0) : AV)) fun t5 =>
 true = true ∧ ∃ (I2 : List AV → Heap → Prop) (μ3 : List AV → Heap → Nat), I2 [t3, t5] H1 ∧ ∀ L4 H5, I2 L4 H5 → -- [t3, t5]
 letO (some ((L4.getD 1 .any) : AV)) fun t9 =>
 letO (some (t4 : AV)) fun t10 =>
 letO (lenA t10) fun t11 =>
 letO (binF Tryd.prog .lss 3 t9 t11) fun t12 =>
 condA t12 true (
 true = true ∧ ∃ J6 : List AV → Heap → Prop, (
 letO (some (x0 : AV)) fun t15 =>
 letO (some (t4 : AV)) fun t16 =>
 letO (some ((L4.getD 1 .any) : AV)) fun t17 =>
 letO (idx 1 t16 t17) fun t18 =>
 letO (load1 t18 H5) fun t19 =>
 ACalls Tryd.prog 81 [t15, t19] H5 fun t20 H7 =>
 letO (binF Tryd.prog .gtr 3 t20 (.int .i64 0)) fun t21 =>
 condA t21 true (
 letO (some ((L4.getD 0 .any) : AV)) fun t22 =>
 letO (some (t4 : AV)) fun t23 =>
 letO (some ((L4.getD 1 .any) : AV)) fun t24 =>
 letO (idx 1 t23 t24) fun t25 =>
 letO (load1 t25 H7) fun t26 =>
 letO (literalF Tryd.prog 22 1 [(0, t26)]) fun c8 =>
 appendA 1 24 t22 (.imm 1 true c8) (fun t28 H9 =>
 letO (some (t28 : AV)) fun t3 =>
 J6 [t3] H9) H7) (
 J6 [(L4.getD 0 .any)] H7)) ∧ ∀ L10 H11, J6 L10 H11 → -- [t3]
 letO (some ((L4.getD 1 .any) : AV)) fun t13 =>
 letO (binF Tryd.prog .add 3 t13 (.int .i64 1)) fun t14 =>
 letO (some (t14 : AV)) fun t5 =>
 I2 [(L10.getD 0 .any), t5] H11 ∧ μ3 [(L10.getD 0 .any), t5] H11 < μ3 L4 H5) (
 letO (some ((L4.getD 0 .any) : AV)) fun t29 =>
 letO (some (t29 : AV)) fun t2 =>
endK t2 H5 K)

theorem W74_ok {x0 : AV} {H : Heap} {K : AV → Heap → Prop} (h : W74 x0 H K) : ACalls Tryd.prog 74 [x0] H K :=
  acallsB (fn := Tryd.f74) (cfg := cfgOf [] [] [] [] []) (hh := (.dir .nil (.dir .nil (.dir .nil (.dir (.dir .nil (.blk (.loop [3, 5] [9, 10, 11, 12, 15, 16, 17, 18, 19, 20, 21, 22, 23, 24, 25, 26, 27, 28, 3, 13, 14, 5] (.dir (.dir .nil .nil) (.cut [3] [15, 16, 17, 18, 19, 20, 21, 22, 23, 24, 25, 26, 27, 28, 3] (.blk (.dir .nil .nil)) .nil))))) .nil))))) follows Tryd.func74 (by kernel_rfl) (Nat.le_of_ble_eq_true (by kernel_rfl)) (by kernel_rfl) h

/-- headword.headwordref11.plans -/
def W76 (x0 x1 : AV) (H : Heap) (K : AV → Heap → Prop) : Prop :=
 letO (some (.nils : AV)) fun t4 =>
 letO (some (x1 : AV)) fun t7 =>
 letO (lenA t7) fun t8 =>
 letO (some (x0 : AV)) fun t9 =>
 letO (binF Tryd.prog .eql 3 t8 t9) fun t10 =>
 condA t10 true (
 letO (some (x1 : AV)) fun t11 =>
 letO (literalF Tryd.prog 22 1 [(0, t11)]) fun c1 =>
 letO (some ((.imm 1 true c1) : AV)) fun t4 =>
endK t4 H K) (
 letO (some (.nils : AV)) fun t5 =>
 letO (some ((.int .i64 0) : AV)) fun t6 =>
 true = true ∧ ∃ (I2 : List AV → Heap → Prop) (μ3 : List AV → Heap → Nat), I2 [t5, t6] H ∧ ∀ L4 H5, I2 L4 H5 → -- [t5, t6]
 letO (some ((L4.getD 1 .any) : AV)) fun t13 =>
 letO (some (x0 : AV)) fun t14 =>
 letO (binF Tryd.prog .lss 3 t13 t14) fun t15 =>
 condA t15 true (
 true = true ∧ ∃ J6 : List AV → Heap → Prop, (
 letO (some (x1 : AV)) fun t18 =>
 letO (some ((L4.getD 1 .any) : AV)) fun t19 =>
 ACalls Tryd.prog 89 [t18, t19] H5 fun t20 H7 =>
 letO (unF .not t20) fun t21 =>
 condA t21 true (
 letO (some ((L4.getD 0 .any) : AV)) fun t22 =>
 letO (some (x0 : AV)) fun t23 =>
 letO (literalF Tryd.prog 23 0 []) fun c8 =>
 letO (some (x1 : AV)) fun t25 =>
 appendA 1 8 (.imm 0 true c8) t25 (fun t26 H9 =>
 letO (some ((L4.getD 1 .any) : AV)) fun t27 =>
 letO (literalF Tryd.prog 23 1 [(0, t27)]) fun c10 =>
 appendA 1 8 t26 (.imm 1 true c10) (fun t29 H11 =>
 ACalls Tryd.prog 76 [t23, t29] H11 fun t30 H12 =>
 appendA 1 24 t22 t30 (fun t31 H13 =>
 letO (some (t31 : AV)) fun t5 =>
 J6 [t5] H13) H12) H9) H7) (
 J6 [(L4.getD 0 .any)] H7)) ∧ ∀ L14 H15, J6 L14 H15 → -- [t5]
 letO (some ((L4.getD 1 .any) : AV)) fun t16 =>
 letO (binF Tryd.prog .add 3 t16 (.int .i64 1)) fun t17 =>
 letO (some (t17 : AV)) fun t6 =>
 I2 [(L14.getD 0 .any), t6] H15 ∧ μ3 [(L14.getD 0 .any), t6] H15 < μ3 L4 H5) (
 letO (some ((L4.getD 0 .any) : AV)) fun t32 =>
 letO (some (t32 : AV)) fun t4 =>
endK t4 H5 K))

theorem W76_ok {x0 x1 : AV} {H : Heap} {K : AV → Heap → Prop} (h : W76 x0 x1 H K) : ACalls Tryd.prog 76 [x0, x1] H K :=
  acallsB (fn := Tryd.f76) (cfg := cfgOf [] [] [] [] []) (hh := (.dir .nil (.dir (.dir .nil (.dir .nil .nil)) (.dir .nil (.dir (.dir .nil (.blk (.loop [5, 6] [13, 14, 15, 18, 19, 20, 21, 22, 23, 24, 25, 26, 27, 28, 29, 30, 31, 5, 16, 17, 6] (.dir (.dir .nil .nil) (.cut [5] [18, 19, 20, 21, 22, 23, 24, 25, 26, 27, 28, 29, 30, 31, 5] (.blk (.dir .nil .nil)) .nil))))) .nil))))) follows Tryd.func76 (by kernel_rfl) (Nat.le_of_ble_eq_true (by kernel_rfl)) (by kernel_rfl) h

/-- headword.headwordref11.in -/
def W78 (x0 x1 x2 : AV) (H : Heap) (K : AV → Heap → Prop) : Prop :=
 letO (some ((.bool false) : AV)) fun t6 =>
 letO (some (x0 : AV)) fun t7 =>
 letO (some (x1 : AV)) fun t8 =>
 letO (binF Tryd.prog .geq 3 t7 t8) fun t9 =>
 letO (some (t9 : AV)) fun t10 =>
 letO (gval t10 true (some (x0 : AV))) fun t11 =>
 letO (gval t10 true (some (x2 : AV))) fun t12 =>
 letO (gval t10 true (binF Tryd.prog .leq 3 t11 t12)) fun t13 =>
 letO (pickF t10 t13 (.bool false)) fun t14 =>
 letO (some (t14 : AV)) fun t6 =>
endK t6 H K

theorem W78_ok {x0 x1 x2 : AV} {H : Heap} {K : AV → Heap → Prop} (h : W78 x0 x1 x2 H K) : ACalls Tryd.prog 78 [x0, x1, x2] H K :=
  acallsB (fn := Tryd.f78) (cfg := cfgOf [] [] [] [] []) (hh := (.dir .nil .nil)) follows Tryd.func78 (by kernel_rfl) (Nat.le_of_ble_eq_true (by kernel_rfl)) (by kernel_rfl) h

/-- headword.headwordref11.planned -/
def W80 (x0 x1 : AV) (H : Heap) (K : AV → Heap → Prop) : Prop :=
 letO (some ((.int .i64 0) : AV)) fun t4 =>
 letO (some (x1 : AV)) fun t6 =>
 letO (lenA t6) fun t7 =>
 letO (some (x0 : AV)) fun t8 =>
 letO (binF Tryd.prog .neq 3 t7 t8) fun t9 =>
 condA t9 true (
 letO (some ((.int .i64 5) : AV)) fun t4 =>
endK t4 H K) (
 letO (some ((.int .i64 0) : AV)) fun t5 =>
 true = true ∧ ∃ (I1 : List AV → Heap → Prop) (μ2 : List AV → Heap → Nat), I1 [t5] H ∧ ∀ L3 H4, I1 L3 H4 → -- [t5]
 letO (some ((L3.getD 0 .any) : AV)) fun t10 =>
 letO (some (x1 : AV)) fun t11 =>
 letO (lenA t11) fun t12 =>
 letO (binF Tryd.prog .lss 3 t10 t12) fun t13 =>
 condA t13 true (
 letO (some (x1 : AV)) fun t16 =>
 letO (some ((L3.getD 0 .any) : AV)) fun t17 =>
 letO (idx 1 t16 t17) fun t18 =>
 letO (load1 t18 H4) fun t19 =>
 letO (some (x0 : AV)) fun t20 =>
 letO (binF Tryd.prog .sub 3 t20 (.int .i64 1)) fun t21 =>
 ACalls Tryd.prog 78 [t19, (.int .i64 0), t21] H4 fun t22 H5 =>
 letO (unF .not t22) fun t23 =>
 condA t23 true (
 letO (some ((.int .i64 2) : AV)) fun t4 =>
endK t4 H5 K) (
 true = true ∧
 letO (some (x1 : AV)) fun t24 =>
 letO (some ((L3.getD 0 .any) : AV)) fun t25 =>
 letO (slc 1 t24 none (some t25) none) fun t26 =>
 letO (some (x1 : AV)) fun t27 =>
 letO (some ((L3.getD 0 .any) : AV)) fun t28 =>
 letO (idx 1 t27 t28) fun t29 =>
 letO (load1 t29 H5) fun t30 =>
 ACalls Tryd.prog 89 [t26, t30] H5 fun t31 H6 =>
 condA t31 true (
 letO (some ((.int .i64 6) : AV)) fun t4 =>
endK t4 H6 K) (
 letO (some ((L3.getD 0 .any) : AV)) fun t14 =>
 letO (binF Tryd.prog .add 3 t14 (.int .i64 1)) fun t15 =>
 letO (some (t15 : AV)) fun t5 =>
 I1 [t5] H6 ∧ μ2 [t5] H6 < μ2 L3 H4))) (
 letO (some ((.int .i64 0) : AV)) fun t4 =>
endK t4 H4 K))

theorem W80_ok {x0 x1 : AV} {H : Heap} {K : AV → Heap → Prop} (h : W80 x0 x1 H K) : ACalls Tryd.prog 80 [x0, x1] H K :=
  acallsB (fn := Tryd.f80) (cfg := cfgOf [] [] [(8, [0, 0, 3, 0, 0, 24, 56, 127])] [] []) (hh := (.dir .nil (.dir (.dir .nil (.dir .nil .nil)) (.dir (.dir .nil (.blk (.loop [5] [10, 11, 12, 13, 16, 17, 18, 19, 20, 21, 22, 23, 4, 24, 25, 26, 27, 28, 29, 30, 31, 14, 15, 5] (.dir (.dir .nil .nil) (.dir (.blk (.dir (.dir .nil (.dir .nil .nil)) (.dir .nil (.dir .nil .nil)))) .nil))))) .nil)))) follows Tryd.func80 (by kernel_rfl) (Nat.le_of_ble_eq_true (by kernel_rfl)) (by kernel_rfl) h

/-- headword.headwordref11.least -/
def W81 (x0 x1 : AV) (H : Heap) (K : AV → Heap → Prop) : Prop :=
 letO (some ((.int .i64 0) : AV)) fun t4 =>
 true = true ∧
 letO (some (x0 : AV)) fun t7 =>
 letO (idx 1 t7 (.int .i64 0)) fun t8 =>
 letO (load1 t8 H) fun t9 =>
 letO (some (x1 : AV)) fun t10 =>
 letO (idx 1 t10 (.int .i64 0)) fun t11 =>
 letO (load1 t11 H) fun t12 =>
 letO (idx 1 t9 t12) fun t13 =>
 letO (load1 t13 H) fun t14 =>
 letO (some (t14 : AV)) fun t5 =>
 letO (some ((.int .i64 1) : AV)) fun t6 =>
 true = true ∧ ∃ (I1 : List AV → Heap → Prop) (μ2 : List AV → Heap → Nat), I1 [t5, t6] H ∧ ∀ L3 H4, I1 L3 H4 → -- [t5, t6]
 letO (some ((L3.getD 1 .any) : AV)) fun t15 =>
 letO (some (x1 : AV)) fun t16 =>
 letO (lenA t16) fun t17 =>
 letO (binF Tryd.prog .lss 3 t15 t17) fun t18 =>
 condA t18 true (
 true = true ∧
 letO (some ((L3.getD 0 .any) : AV)) fun t21 =>
 letO (some (x0 : AV)) fun t22 =>
 letO (some ((L3.getD 1 .any) : AV)) fun t23 =>
 letO (idx 1 t22 t23) fun t24 =>
 letO (load1 t24 H4) fun t25 =>
 letO (some (x1 : AV)) fun t26 =>
 letO (some ((L3.getD 1 .any) : AV)) fun t27 =>
 letO (idx 1 t26 t27) fun t28 =>
 letO (load1 t28 H4) fun t29 =>
 letO (idx 1 t25 t29) fun t30 =>
 letO (load1 t30 H4) fun t31 =>
 letO (min2F t21 t31) fun t32 =>
 letO (some (t32 : AV)) fun t5 =>
 letO (some ((L3.getD 1 .any) : AV)) fun t19 =>
 letO (binF Tryd.prog .add 3 t19 (.int .i64 1)) fun t20 =>
 letO (some (t20 : AV)) fun t6 =>
 I1 [t5, t6] H4 ∧ μ2 [t5, t6] H4 < μ2 L3 H4) (
 letO (some ((L3.getD 0 .any) : AV)) fun t33 =>
 letO (some (t33 : AV)) fun t4 =>
endK t4 H4 K)

theorem W81_ok {x0 x1 : AV} {H : Heap} {K : AV → Heap → Prop} (h : W81 x0 x1 H K) : ACalls Tryd.prog 81 [x0, x1] H K :=
  acallsB (fn := Tryd.f81) (cfg := cfgOf [] [] [(1, [0, 1, 3, 0, 8, 24, 63, 127, 255]), (5, [0, 0, 0, 6, 14, 0, 0, 96, 224, 510, 1022, 2047, 4095])] [] []) (hh := (.dir .nil (.dir .nil (.dir (.dir .nil (.blk (.loop [5, 6] [15, 16, 17, 18, 21, 22, 23, 24, 25, 26, 27, 28, 29, 30, 31, 32, 5, 19, 20, 6] (.dir (.dir .nil .nil) (.dir .nil .nil))))) .nil)))) follows Tryd.func81 (by kernel_rfl) (Nat.le_of_ble_eq_true (by kernel_rfl)) (by kernel_rfl) h

/-- headword.headwordref11.lists -/
def W85 (x0 x1 x2 : AV) (H : Heap) (K : AV → Heap → Prop) : Prop :=
 letO (some (.nils : AV)) fun t6 =>
 letO (some (x2 : AV)) fun t10 =>
 letO (lenA t10) fun t11 =>
 letO (some (x1 : AV)) fun t12 =>
 letO (binF Tryd.prog .eql 3 t11 t12) fun t13 =>
 condA t13 true (
 letO (some (x2 : AV)) fun t14 =>
 letO (literalF Tryd.prog 22 1 [(0, t14)]) fun c1 =>
 letO (some ((.imm 1 true c1) : AV)) fun t6 =>
endK t6 H K) (
 letO (some ((.int .i64 0) : AV)) fun t7 =>
 true = true ∧ ∃ J2 : List AV → Heap → Prop, (
 letO (some (x2 : AV)) fun t16 =>
 letO (lenA t16) fun t17 =>
 letO (binF Tryd.prog .gtr 3 t17 (.int .i64 0)) fun t18 =>
 condA t18 true (
 letO (some (x2 : AV)) fun t19 =>
 letO (some (x2 : AV)) fun t20 =>
 letO (lenA t20) fun t21 =>
 letO (binF Tryd.prog .sub 3 t21 (.int .i64 1)) fun t22 =>
 letO (idx 1 t19 t22) fun t23 =>
 letO (load1 t23 H) fun t24 =>
 letO (binF Tryd.prog .add 3 t24 (.int .i64 1)) fun t25 =>
 letO (some (t25 : AV)) fun t7 =>
 J2 [t7] H) (
 J2 [t7] H)) ∧ ∀ L3 H4, J2 L3 H4 → -- [t7]
 letO (some (.nils : AV)) fun t8 =>
 letO (some ((L3.getD 0 .any) : AV)) fun t26 =>
 letO (some (t26 : AV)) fun t9 =>
 true = true ∧ ∃ (I5 : List AV → Heap → Prop) (μ6 : List AV → Heap → Nat), I5 [t8, t9] H4 ∧ ∀ L7 H8, I5 L7 H8 → -- [t8, t9]
 letO (some ((L7.getD 1 .any) : AV)) fun t27 =>
 letO (some (x0 : AV)) fun t28 =>
 letO (binF Tryd.prog .lss 3 t27 t28) fun t29 =>
 condA t29 true (
 letO (some ((L7.getD 0 .any) : AV)) fun t32 =>
 letO (some (x0 : AV)) fun t33 =>
 letO (some (x1 : AV)) fun t34 =>
 letO (literalF Tryd.prog 23 0 []) fun c9 =>
 letO (some (x2 : AV)) fun t36 =>
 appendA 1 8 (.imm 0 true c9) t36 (fun t37 H10 =>
 letO (some ((L7.getD 1 .any) : AV)) fun t38 =>
 letO (literalF Tryd.prog 23 1 [(0, t38)]) fun c11 =>
 appendA 1 8 t37 (.imm 1 true c11) (fun t40 H12 =>
 ACalls Tryd.prog 85 [t33, t34, t40] H12 fun t41 H13 =>
 appendA 1 24 t32 t41 (fun t42 H14 =>
 letO (some (t42 : AV)) fun t8 =>
 letO (some ((L7.getD 1 .any) : AV)) fun t30 =>
 letO (binF Tryd.prog .add 3 t30 (.int .i64 1)) fun t31 =>
 letO (some (t31 : AV)) fun t9 =>
 I5 [t8, t9] H14 ∧ μ6 [t8, t9] H14 < μ6 L7 H8) H13) H10) H8) (
 letO (some ((L7.getD 0 .any) : AV)) fun t43 =>
 letO (some (t43 : AV)) fun t6 =>
endK t6 H8 K))

theorem W85_ok {x0 x1 x2 : AV} {H : Heap} {K : AV → Heap → Prop} (h : W85 x0 x1 x2 H K) : ACalls Tryd.prog 85 [x0, x1, x2] H K :=
  acallsB (fn := Tryd.f85) (cfg := cfgOf [] [] [] [] []) (hh := (.dir .nil (.dir (.dir .nil (.dir .nil .nil)) (.dir .nil (.cut [7] [16, 17, 18, 19, 20, 21, 22, 23, 24, 25, 7] (.dir .nil .nil) (.dir .nil (.dir (.dir .nil (.blk (.loop [8, 9] [27, 28, 29, 32, 33, 34, 35, 36, 37, 38, 39, 40, 41, 42, 8, 30, 31, 9] (.dir (.dir .nil .nil) (.dir .nil .nil))))) .nil))))))) follows Tryd.func85 (by kernel_rfl) (Nat.le_of_ble_eq_true (by kernel_rfl)) (by kernel_rfl) h

/-- headword.headwordref11.zeros -/
def W86 (x0 x1 : AV) (H : Heap) (K : AV → Heap → Prop) : Prop :=
 letO (some (.nils : AV)) fun t4 =>
 letO (some (.nils : AV)) fun t5 =>
 letO (some ((.int .i64 0) : AV)) fun t6 =>
 true = true ∧ ∃ (I1 : List AV → Heap → Prop) (μ2 : List AV → Heap → Nat), I1 [t5, t6] H ∧ ∀ L3 H4, I1 L3 H4 → -- [t5, t6]
 letO (some ((L3.getD 1 .any) : AV)) fun t9 =>
 letO (some (x0 : AV)) fun t10 =>
 letO (lenA t10) fun t11 =>
 letO (binF Tryd.prog .lss 3 t9 t11) fun t12 =>
 condA t12 true (
 true = true ∧ ∃ J5 : List AV → Heap → Prop, (
 letO (some ((.bool true) : AV)) fun t7 =>
 letO (some ((.int .i64 0) : AV)) fun t8 =>
 true = true ∧ ∃ (I6 : List AV → Heap → Prop) (μ7 : List AV → Heap → Nat), I6 [t7, t8] H4 ∧ ∀ L8 H9, I6 L8 H9 → -- [t7, t8]
 letO (some ((L8.getD 1 .any) : AV)) fun t15 =>
 letO (some (x1 : AV)) fun t16 =>
 letO (lenA t16) fun t17 =>
 letO (binF Tryd.prog .lss 3 t15 t17) fun t18 =>
 condA t18 true (
 letO (some ((L8.getD 0 .any) : AV)) fun t21 =>
 letO (some (t21 : AV)) fun t22 =>
 letO (gval t22 true (some (x0 : AV))) fun t23 =>
 letO (gval t22 true (some (x1 : AV))) fun t24 =>
 letO (gval t22 true (some ((L8.getD 1 .any) : AV))) fun t25 =>
 letO (gval t22 true (idx 1 t24 t25)) fun t26 =>
 letO (gval t22 true (load1 t26 H9)) fun t27 =>
 letO (gval t22 true (idx 1 t23 t27)) fun t28 =>
 letO (gval t22 true (load1 t28 H9)) fun t29 =>
 letO (gval t22 true (some ((L3.getD 1 .any) : AV))) fun t30 =>
 letO (gval t22 true (idx 1 t29 t30)) fun t31 =>
 letO (gval t22 true (load1 t31 H9)) fun t32 =>
 letO (gval t22 true (binF Tryd.prog .eql 3 t32 (.int .i64 0))) fun t33 =>
 letO (pickF t22 t33 (.bool false)) fun t34 =>
 letO (some (t34 : AV)) fun t7 =>
 letO (some ((L8.getD 1 .any) : AV)) fun t19 =>
 letO (binF Tryd.prog .add 3 t19 (.int .i64 1)) fun t20 =>
 letO (some (t20 : AV)) fun t8 =>
 I6 [t7, t8] H9 ∧ μ7 [t7, t8] H9 < μ7 L8 H9) (
 letO (some ((L8.getD 0 .any) : AV)) fun t35 =>
 condA t35 true (
 letO (some ((L3.getD 0 .any) : AV)) fun t36 =>
 letO (some ((L3.getD 1 .any) : AV)) fun t37 =>
 letO (literalF Tryd.prog 23 1 [(0, t37)]) fun c10 =>
 appendA 1 8 t36 (.imm 1 true c10) (fun t39 H11 =>
 letO (some (t39 : AV)) fun t5 =>
 J5 [t5] H11) H9) (
 J5 [(L3.getD 0 .any)] H9))) ∧ ∀ L12 H13, J5 L12 H13 → -- [t5]
 letO (some ((L3.getD 1 .any) : AV)) fun t13 =>
 letO (binF Tryd.prog .add 3 t13 (.int .i64 1)) fun t14 =>
 letO (some (t14 : AV)) fun t6 =>
 I1 [(L12.getD 0 .any), t6] H13 ∧ μ2 [(L12.getD 0 .any), t6] H13 < μ2 L3 H4) (
 letO (some ((L3.getD 0 .any) : AV)) fun t40 =>
 letO (some (t40 : AV)) fun t4 =>
endK t4 H4 K)

theorem W86_ok {x0 x1 : AV} {H : Heap} {K : AV → Heap → Prop} (h : W86 x0 x1 H K) : ACalls Tryd.prog 86 [x0, x1] H K :=
  acallsB (fn := Tryd.f86) (cfg := cfgOf [] [] [] [] []) (hh := (.dir .nil (.dir .nil (.dir (.dir .nil (.blk (.loop [5, 6] [9, 10, 11, 12, 7, 8, 15, 16, 17, 18, 21, 22, 23, 24, 25, 26, 27, 28, 29, 30, 31, 32, 33, 34, 19, 20, 35, 36, 37, 38, 39, 5, 13, 14, 6] (.dir (.dir .nil .nil) (.cut [5] [7, 8, 15, 16, 17, 18, 21, 22, 23, 24, 25, 26, 27, 28, 29, 30, 31, 32, 33, 34, 19, 20, 35, 36, 37, 38, 39, 5] (.blk (.dir .nil (.dir (.dir .nil (.blk (.loop [7, 8] [15, 16, 17, 18, 21, 22, 23, 24, 25, 26, 27, 28, 29, 30, 31, 32, 33, 34, 7, 19, 20, 8] (.dir (.dir .nil .nil) (.dir .nil .nil))))) (.dir .nil .nil)))) .nil))))) .nil)))) follows Tryd.func86 (by kernel_rfl) (Nat.le_of_ble_eq_true (by kernel_rfl)) (by kernel_rfl) h

/-- headword.headwordref11.listed -/
def W88 (x0 x1 : AV) (H : Heap) (K : AV → Heap → Prop) : Prop :=
 letO (some ((.int .i64 0) : AV)) fun t4 =>
 letO (some ((.int .i64 0) : AV)) fun t5 =>
 true = true ∧ ∃ (I1 : List AV → Heap → Prop) (μ2 : List AV → Heap → Nat), I1 [t5] H ∧ ∀ L3 H4, I1 L3 H4 → -- [t5]
 letO (some ((L3.getD 0 .any) : AV)) fun t6 =>
 letO (some (x1 : AV)) fun t7 =>
 letO (lenA t7) fun t8 =>
 letO (binF Tryd.prog .lss 3 t6 t8) fun t9 =>
 condA t9 true (
 letO (some (x1 : AV)) fun t12 =>
 letO (some ((L3.getD 0 .any) : AV)) fun t13 =>
 letO (idx 1 t12 t13) fun t14 =>
 letO (load1 t14 H4) fun t15 =>
 letO (some (x0 : AV)) fun t16 =>
 letO (binF Tryd.prog .sub 3 t16 (.int .i64 1)) fun t17 =>
 ACalls Tryd.prog 78 [t15, (.int .i64 0), t17] H4 fun t18 H5 =>
 letO (unF .not t18) fun t19 =>
 condA t19 true (
 letO (some ((.int .i64 2) : AV)) fun t4 =>
endK t4 H5 K) (
 true = true ∧
 letO (some ((L3.getD 0 .any) : AV)) fun t20 =>
 letO (binF Tryd.prog .gtr 3 t20 (.int .i64 0)) fun t21 =>
 letO (some (t21 : AV)) fun t22 =>
 letO (gval t22 true (some (x1 : AV))) fun t23 =>
 letO (gval t22 true (some ((L3.getD 0 .any) : AV))) fun t24 =>
 letO (gval t22 true (idx 1 t23 t24)) fun t25 =>
 letO (gval t22 true (load1 t25 H5)) fun t26 =>
 letO (gval t22 true (some (x1 : AV))) fun t27 =>
 letO (gval t22 true (some ((L3.getD 0 .any) : AV))) fun t28 =>
 letO (gval t22 true (binF Tryd.prog .sub 3 t28 (.int .i64 1))) fun t29 =>
 letO (gval t22 true (idx 1 t27 t29)) fun t30 =>
 letO (gval t22 true (load1 t30 H5)) fun t31 =>
 letO (gval t22 true (binF Tryd.prog .leq 3 t26 t31)) fun t32 =>
 letO (pickF t22 t32 (.bool false)) fun t33 =>
 condA t33 true (
 letO (some ((.int .i64 7) : AV)) fun t4 =>
endK t4 H5 K) (
 letO (some ((L3.getD 0 .any) : AV)) fun t10 =>
 letO (binF Tryd.prog .add 3 t10 (.int .i64 1)) fun t11 =>
 letO (some (t11 : AV)) fun t5 =>
 I1 [t5] H5 ∧ μ2 [t5] H5 < μ2 L3 H4))) (
 letO (some ((.int .i64 0) : AV)) fun t4 =>
endK t4 H4 K)

theorem W88_ok {x0 x1 : AV} {H : Heap} {K : AV → Heap → Prop} (h : W88 x0 x1 H K) : ACalls Tryd.prog 88 [x0, x1] H K :=
  acallsB (fn := Tryd.f88) (cfg := cfgOf [] [] [(6, [0, 1, 3, 7, 7, 31, 63, 7, 7, 263, 903, 1927, 4095, 8191])] [] []) (hh := (.dir .nil (.dir (.dir .nil (.blk (.loop [5] [6, 7, 8, 9, 12, 13, 14, 15, 16, 17, 18, 19, 4, 20, 21, 22, 23, 24, 25, 26, 27, 28, 29, 30, 31, 32, 33, 10, 11, 5] (.dir (.dir .nil .nil) (.dir (.blk (.dir (.dir .nil (.dir .nil .nil)) (.dir .nil (.dir .nil .nil)))) .nil))))) .nil))) follows Tryd.func88 (by kernel_rfl) (Nat.le_of_ble_eq_true (by kernel_rfl)) (by kernel_rfl) h

/-- headword.headwordref11.has -/
def W89 (x0 x1 : AV) (H : Heap) (K : AV → Heap → Prop) : Prop :=
 letO (some ((.bool false) : AV)) fun t4 =>
 letO (some ((.int .i64 0) : AV)) fun t5 =>
 true = true ∧ ∃ (I1 : List AV → Heap → Prop) (μ2 : List AV → Heap → Nat), I1 [t5] H ∧ ∀ L3 H4, I1 L3 H4 → -- [t5]
 letO (some ((L3.getD 0 .any) : AV)) fun t6 =>
 letO (some (x0 : AV)) fun t7 =>
 letO (lenA t7) fun t8 =>
 letO (binF Tryd.prog .lss 3 t6 t8) fun t9 =>
 condA t9 true (
 letO (some (x0 : AV)) fun t12 =>
 letO (some ((L3.getD 0 .any) : AV)) fun t13 =>
 letO (idx 1 t12 t13) fun t14 =>
 letO (load1 t14 H4) fun t15 =>
 letO (some (x1 : AV)) fun t16 =>
 letO (binF Tryd.prog .eql 3 t15 t16) fun t17 =>
 condA t17 true (
 letO (some ((.bool true) : AV)) fun t4 =>
endK t4 H4 K) (
 letO (some ((L3.getD 0 .any) : AV)) fun t10 =>
 letO (binF Tryd.prog .add 3 t10 (.int .i64 1)) fun t11 =>
 letO (some (t11 : AV)) fun t5 =>
 I1 [t5] H4 ∧ μ2 [t5] H4 < μ2 L3 H4)) (
 letO (some ((.bool false) : AV)) fun t4 =>
endK t4 H4 K)

theorem W89_ok {x0 x1 : AV} {H : Heap} {K : AV → Heap → Prop} (h : W89 x0 x1 H K) : ACalls Tryd.prog 89 [x0, x1] H K :=
  acallsB (fn := Tryd.f89) (cfg := cfgOf [] [] [] [] []) (hh := (.dir .nil (.dir (.dir .nil (.blk (.loop [5] [6, 7, 8, 9, 12, 13, 14, 15, 16, 17, 4, 10, 11, 5] (.dir (.dir .nil .nil) (.dir (.blk (.dir .nil (.dir .nil .nil))) .nil))))) .nil))) follows Tryd.func89 (by kernel_rfl) (Nat.le_of_ble_eq_true (by kernel_rfl)) (by kernel_rfl) h

/-- headword.headwordref11.taken -/
def W92 (x0 x1 x2 : AV) (H : Heap) (K : AV → Heap → Prop) : Prop :=
 letO (some (.nils : AV)) fun t6 =>
 letO (some (.nils : AV)) fun t7 =>
 letO (some ((.int .i64 0) : AV)) fun t8 =>
 true = true ∧ ∃ (I1 : List AV → Heap → Prop) (μ2 : List AV → Heap → Nat), I1 [t7, t8] H ∧ ∀ L3 H4, I1 L3 H4 → -- [t7, t8]
 letO (some ((L3.getD 1 .any) : AV)) fun t10 =>
 letO (some (x0 : AV)) fun t11 =>
 letO (lenA t11) fun t12 =>
 letO (binF Tryd.prog .lss 3 t10 t12) fun t13 =>
 condA t13 true (
 letO (literalF Tryd.prog 23 0 []) fun c5 =>
 letO (some (x0 : AV)) fun t17 =>
 letO (some ((L3.getD 1 .any) : AV)) fun t18 =>
 letO (idx 1 t17 t18) fun t19 =>
 letO (load1 t19 H4) fun t20 =>
 appendA 1 8 (.imm 0 true c5) t20 (fun t21 H6 =>
 letO (some (t21 : AV)) fun t9 =>
 letO (some (t9 : AV)) fun t22 =>
 letO (some (x1 : AV)) fun t23 =>
 letO (some ((L3.getD 1 .any) : AV)) fun t24 =>
 letO (idx 1 t23 t24) fun t25 =>
 letO (load1 t25 H6) fun t26 =>
 letO (idx 1 t22 t26) fun t27 =>
 letO (load1 t27 H6) fun t28 =>
 letO (some (x2 : AV)) fun t29 =>
 letO (binF Tryd.prog .sub 3 t28 t29) fun t30 =>
 letO (idx 1 t22 t26) fun t31 =>
 storeA 1 t31 t30 (fun H7 =>
 letO (some ((L3.getD 0 .any) : AV)) fun t32 =>
 letO (some (t9 : AV)) fun t33 =>
 letO (literalF Tryd.prog 22 1 [(0, t33)]) fun c8 =>
 appendA 1 24 t32 (.imm 1 true c8) (fun t35 H9 =>
 letO (some (t35 : AV)) fun t7 =>
 letO (some ((L3.getD 1 .any) : AV)) fun t14 =>
 letO (binF Tryd.prog .add 3 t14 (.int .i64 1)) fun t15 =>
 letO (some (t15 : AV)) fun t8 =>
 I1 [t7, t8] H9 ∧ μ2 [t7, t8] H9 < μ2 L3 H4) H7) H6) H4) (
 letO (some ((L3.getD 0 .any) : AV)) fun t36 =>
 letO (some (t36 : AV)) fun t6 =>
endK t6 H4 K)

theorem W92_ok {x0 x1 x2 : AV} {H : Heap} {K : AV → Heap → Prop} (h : W92 x0 x1 x2 H K) : ACalls Tryd.prog 92 [x0, x1, x2] H K :=
  acallsB (fn := Tryd.f92) (cfg := cfgOf [] [] [] [] []) (hh := (.dir .nil (.dir .nil (.dir (.dir .nil (.blk (.loop [7, 8] [10, 11, 12, 13, 16, 17, 18, 19, 20, 21, 9, 22, 23, 24, 25, 26, 27, 28, 29, 30, 31, 32, 33, 34, 35, 7, 14, 15, 8] (.dir (.dir .nil .nil) (.dir (.blk (.dir .nil .nil)) .nil))))) .nil)))) follows Tryd.func92 (by kernel_rfl) (Nat.le_of_ble_eq_true (by kernel_rfl)) (by kernel_rfl) h

/-- headword.headwordref11.splits -/
def W96 (x0 x1 x2 : AV) (H : Heap) (K : AV → Heap → Prop) : Prop :=
 letO (some ((.int .i64 0) : AV)) fun t6 =>
 letO (some (x2 : AV)) fun t9 =>
 letO (binF Tryd.prog .eql 3 t9 (.int .i64 0)) fun t10 =>
 condA t10 true (
 letO (some ((.int .i64 1) : AV)) fun t6 =>
endK t6 H K) (
 letO (some ((.int .i64 0) : AV)) fun t7 =>
 letO (some ((.int .i64 0) : AV)) fun t8 =>
 true = true ∧ ∃ (I1 : List AV → Heap → Prop) (μ2 : List AV → Heap → Nat), I1 [t7, t8] H ∧ ∀ L3 H4, I1 L3 H4 → -- [t7, t8]
 letO (some ((L3.getD 1 .any) : AV)) fun t11 =>
 letO (some (x1 : AV)) fun t12 =>
 letO (lenA t12) fun t13 =>
 letO (binF Tryd.prog .lss 3 t11 t13) fun t14 =>
 condA t14 true (
 true = true ∧ ∃ J5 : List AV → Heap → Prop, (
 letO (some (x0 : AV)) fun t17 =>
 letO (some (x1 : AV)) fun t18 =>
 letO (some ((L3.getD 1 .any) : AV)) fun t19 =>
 letO (idx 1 t18 t19) fun t20 =>
 letO (load1 t20 H4) fun t21 =>
 ACalls Tryd.prog 81 [t17, t21] H4 fun t22 H6 =>
 letO (binF Tryd.prog .gtr 3 t22 (.int .i64 0)) fun t23 =>
 condA t23 true (
 true = true ∧
 letO (some ((L3.getD 0 .any) : AV)) fun t24 =>
 letO (some (x0 : AV)) fun t25 =>
 letO (some (x1 : AV)) fun t26 =>
 letO (some ((L3.getD 1 .any) : AV)) fun t27 =>
 letO (idx 1 t26 t27) fun t28 =>
 letO (load1 t28 H6) fun t29 =>
 ∃ t30, (ACalls Tryd.prog 92 [t25, t29, (.int .i64 1)] H6 fun r h => r = t30 ∧ h = H6) ∧
 letO (some (x1 : AV)) fun t31 =>
 letO (some ((L3.getD 1 .any) : AV)) fun t32 =>
 letO (slc 1 t31 (some t32) none none) fun t33 =>
 letO (some (x2 : AV)) fun t34 =>
 letO (binF Tryd.prog .sub 3 t34 (.int .i64 1)) fun t35 =>
 ∃ t36, (ACalls Tryd.prog 96 [t30, t33, t35] H6 fun r h => r = t36 ∧ h = H6) ∧
 letO (binF Tryd.prog .add 3 t24 t36) fun t37 =>
 letO (some (t37 : AV)) fun t7 =>
 J5 [t7] H6) (
 J5 [(L3.getD 0 .any)] H6)) ∧ ∀ L7 H8, J5 L7 H8 → -- [t7]
 letO (some ((L3.getD 1 .any) : AV)) fun t15 =>
 letO (binF Tryd.prog .add 3 t15 (.int .i64 1)) fun t16 =>
 letO (some (t16 : AV)) fun t8 =>
 I1 [(L7.getD 0 .any), t8] H8 ∧ μ2 [(L7.getD 0 .any), t8] H8 < μ2 L3 H4) (
 letO (some ((L3.getD 0 .any) : AV)) fun t38 =>
 letO (some (t38 : AV)) fun t6 =>
endK t6 H4 K))

theorem W96_ok {x0 x1 x2 : AV} {H : Heap} {K : AV → Heap → Prop} (h : W96 x0 x1 x2 H K) : ACalls Tryd.prog 96 [x0, x1, x2] H K :=
  acallsB (fn := Tryd.f96) (cfg := cfgOf [] [] [(8, [0, 0, 0, 0, 12, 28, 62, 0, 0, 384, 0, 1024, 4094, 8191, 16383])] [] []) (hh := (.dir .nil (.dir (.dir .nil (.dir .nil .nil)) (.dir .nil (.dir (.dir .nil (.blk (.loop [7, 8] [11, 12, 13, 14, 17, 18, 19, 20, 21, 22, 23, 24, 25, 26, 27, 28, 29, 30, 31, 32, 33, 34, 35, 36, 37, 7, 15, 16, 8] (.dir (.dir .nil .nil) (.cut [7] [17, 18, 19, 20, 21, 22, 23, 24, 25, 26, 27, 28, 29, 30, 31, 32, 33, 34, 35, 36, 37, 7] (.blk (.dir .nil .nil)) .nil))))) .nil))))) follows Tryd.func96 (by kernel_rfl) (Nat.le_of_ble_eq_true (by kernel_rfl)) (by kernel_rfl) h


end Go.Proofs.YtbofkeoebnjjkaaDoor
