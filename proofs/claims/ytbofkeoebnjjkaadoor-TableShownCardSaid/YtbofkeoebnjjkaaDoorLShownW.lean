import Derived.Test.YtbofkeoebnjjkaaDoorConB
/- The functions of the statement TableShown that the common text does not hold, each in the words of its walk; made by program. -/
set_option linter.unusedVariables false
set_option maxRecDepth 100000
namespace Go.Proofs.YtbofkeoebnjjkaaDoor
open Go.Av
/-- headword.headwordlaw11.TableShown -/
def W14 (x0 x1 x2 x3 : AV) (H : Heap) (K : AV → Heap → Prop) : Prop :=
 letO (cellsOf? x0) fun c1 =>
 letO (cellsOf? x1) fun c2 =>
 letO (some ((.bool false) : AV)) fun t8 =>
 letO (loadN 27 (.iptr c1) H) fun t25 =>
 ACalls Tryd.prog 54 [t25] H fun t26 H3 =>
 letO (some (t26 : AV)) fun t9 =>
 letO (some (t9 : AV)) fun t27 =>
 letO (lenA t27) fun t28 =>
 letO (some (t28 : AV)) fun t10 =>
 letO (some (.nils : AV)) fun t11 =>
 letO (some (t10 : AV)) fun t29 =>
 letO (some (x2 : AV)) fun t30 =>
 letO (binF Tryd.prog .quo 5 t30 (.int .u8 64)) fun t31 =>
 letO (convF Tryd.prog 5 3 t31) fun t32 =>
 letO (binF Tryd.prog .quo 3 t32 (.int .i64 3)) fun t33 =>
 letO (binF Tryd.prog .add 3 t29 t33) fun t34 =>
 letO (min2F (.int .i64 5) t34) fun t35 =>
 letO (slcArr 5 1 (.iptr c2) none (some t35) none) fun t36 =>
 letO (lenA t36) fun t37 =>
 letO (some ((.int .i64 0) : AV)) fun t38 =>
 true = true ∧ ∃ (I4 : List AV → Heap → Prop) (μ5 : List AV → Heap → Nat), I4 [t11, t38] H3 ∧ ∀ L6 H7, I4 L6 H7 → -- [t11, t38]
 letO (binF Tryd.prog .lss 3 (L6.getD 1 .any) t37) fun t39 =>
 condA t39 true (
 letO (idx 1 t36 (L6.getD 1 .any)) fun t40 =>
 letO (load1 t40 H7) fun t41 =>
 letO (some (t41 : AV)) fun t13 =>
 letO (some ((L6.getD 0 .any) : AV)) fun t42 =>
 letO (some (t13 : AV)) fun t43 =>
 letO (convF Tryd.prog 81 3 t43) fun t44 =>
 letO (binF Tryd.prog .rem 3 t44 (.int .i64 5)) fun t45 =>
 letO (literalF Tryd.prog 23 1 [(0, t45)]) fun c8 =>
 appendA 1 8 t42 (.imm 1 true c8) (fun t47 H9 =>
 letO (some (t47 : AV)) fun t11 =>
 letO (binF Tryd.prog .add 3 (L6.getD 1 .any) (.int .i64 1)) fun t48 =>
 letO (some (t48 : AV)) fun t38 =>
 I4 [t11, t38] H9 ∧ μ5 [t11, t38] H9 < μ5 L6 H7) H7) (
 letO (some ((.int .i64 0) : AV)) fun t14 =>
 true = true ∧ ∃ J10 : List AV → Heap → Prop, (
 letO (some ((L6.getD 0 .any) : AV)) fun t49 =>
 letO (lenA t49) fun t50 =>
 letO (some (t10 : AV)) fun t51 =>
 letO (binF Tryd.prog .neq 3 t50 t51) fun t52 =>
 condA t52 true (
 letO (some ((.int .i64 5) : AV)) fun t14 =>
 J10 [t14] H7) (
 J10 [t14] H7)) ∧ ∀ L11 H12, J10 L11 H12 → -- [t14]
 letO (some ((L6.getD 0 .any) : AV)) fun t53 =>
 letO (lenA t53) fun t54 =>
 letO (some ((.int .i64 0) : AV)) fun t55 =>
 true = true ∧ ∃ (I13 : List AV → Heap → Prop) (μ14 : List AV → Heap → Nat), I13 [(L11.getD 0 .any), t55] H12 ∧ ∀ L15 H16, I13 L15 H16 → -- [t14, t55]
 letO (binF Tryd.prog .lss 3 (L15.getD 1 .any) t54) fun t56 =>
 condA t56 true (
 true = true ∧ ∃ J17 : List AV → Heap → Prop, (
 letO (some ((L15.getD 1 .any) : AV)) fun t57 =>
 letO (idx 1 t53 (L15.getD 1 .any)) fun t58 =>
 letO (load1 t58 H16) fun t59 =>
 letO (some (t57 : AV)) fun t15 =>
 letO (some (t59 : AV)) fun t16 =>
 true = true ∧ ∃ J18 : List AV → Heap → Prop, (
 letO (some ((L15.getD 0 .any) : AV)) fun t60 =>
 letO (binF Tryd.prog .eql 26 t60 (.int .i64 0)) fun t61 =>
 letO (some (t61 : AV)) fun t62 =>
 letO (gval t62 true (some (t16 : AV))) fun t63 =>
 letO (gval t62 true (binF Tryd.prog .lss 3 t63 (.int .i64 0))) fun t64 =>
 letO (gval t62 true (some (t64 : AV))) fun t65 =>
 letO (gval t65 false (some (t16 : AV))) fun t66 =>
 letO (gval t65 false (some (t10 : AV))) fun t67 =>
 letO (gval t65 false (binF Tryd.prog .geq 3 t66 t67)) fun t68 =>
 letO (gval t62 true (pickF t65 (.bool true) t68)) fun t69 =>
 letO (pickF t62 t69 (.bool false)) fun t70 =>
 condA t70 true (
 letO (some ((.int .i64 2) : AV)) fun t14 =>
 J18 [t14] H16) (
 J18 [(L15.getD 0 .any)] H16)) ∧ ∀ L19 H20, J18 L19 H20 → -- [t14]
 letO (some ((L19.getD 0 .any) : AV)) fun t71 =>
 letO (binF Tryd.prog .eql 26 t71 (.int .i64 0)) fun t72 =>
 letO (some (t72 : AV)) fun t73 =>
 letO (gval t73 true (some ((L6.getD 0 .any) : AV))) fun t74 =>
 letO (gval t73 true (some (t15 : AV))) fun t75 =>
 letO (gval t73 true (slc 1 t74 none (some t75) none)) fun t76 =>
 letO (gval t73 true (some (t16 : AV))) fun t77 =>
 ∃ J21 : AV → Heap → Prop, condG t73 true (ACalls Tryd.prog 62 [t76, t77] H20 fun t78 H22 =>
 J21 t78 H22) (J21 (.tup []) H20) ∧ ∀ t78 H23, J21 t78 H23 →
 letO (pickF t73 t78 (.bool false)) fun t79 =>
 condA t79 true (
 letO (some ((.int .i64 6) : AV)) fun t14 =>
 J17 [t14] H23) (
 J17 [(L19.getD 0 .any)] H23)) ∧ ∀ L24 H25, J17 L24 H25 → -- [t14]
 letO (binF Tryd.prog .add 3 (L15.getD 1 .any) (.int .i64 1)) fun t80 =>
 letO (some (t80 : AV)) fun t55 =>
 I13 [(L24.getD 0 .any), t55] H25 ∧ μ14 [(L24.getD 0 .any), t55] H25 < μ14 L15 H16) (
 true = true ∧ ∃ J26 : List AV → Heap → Prop, (
 letO (some ((L15.getD 0 .any) : AV)) fun t81 =>
 letO (binF Tryd.prog .eql 26 t81 (.int .i64 0)) fun t82 =>
 letO (some (t82 : AV)) fun t83 =>
 letO (gval t83 true (some (t9 : AV))) fun t84 =>
 letO (gval t83 true (some ((L6.getD 0 .any) : AV))) fun t85 =>
 ∃ J27 : AV → Heap → Prop, condG t83 true (ACalls Tryd.prog 48 [t84, t85] H16 fun t86 H28 =>
 J27 t86 H28) (J27 (.tup []) H16) ∧ ∀ t86 H29, J27 t86 H29 →
 letO (gval t83 true (binF Tryd.prog .eql 3 t86 (.int .i64 0))) fun t87 =>
 letO (pickF t83 t87 (.bool false)) fun t88 =>
 condA t88 true (
 letO (some ((.int .i64 12) : AV)) fun t14 =>
 J26 [t14] H29) (
 J26 [(L15.getD 0 .any)] H29)) ∧ ∀ L30 H31, J26 L30 H31 → -- [t14]
 letO (some (t9 : AV)) fun t89 =>
 letO (some ((L6.getD 0 .any) : AV)) fun t90 =>
 ACalls Tryd.prog 32 [t89, t90] H31 fun t91 H32 =>
 letO (some ((L30.getD 0 .any) : AV)) fun t92 =>
 letO (binF Tryd.prog .neq 26 t91 t92) fun t93 =>
 condA t93 true (
 letO (some ((.bool false) : AV)) fun t8 =>
endK t8 H32 K) (
 letO (some (.nils : AV)) fun t17 =>
 letO (some (.nils : AV)) fun t18 =>
 letO (some (t10 : AV)) fun t94 =>
 letO (some ((.int .i64 0) : AV)) fun t95 =>
 true = true ∧ ∃ (I33 : List AV → Heap → Prop) (μ34 : List AV → Heap → Nat), I33 [t17, t18, t95] H32 ∧ ∀ L35 H36, I33 L35 H36 → -- [t17, t18, t95]
 letO (binF Tryd.prog .lss 3 (L35.getD 2 .any) t94) fun t96 =>
 condA t96 true (
 true = true ∧ ∃ J37 : List AV → Heap → Prop, (
 letO (some ((L35.getD 2 .any) : AV)) fun t97 =>
 letO (some (t97 : AV)) fun t19 =>
 true = true ∧ ∃ J38 : List AV → Heap → Prop, (
 letO (some (x2 : AV)) fun t98 =>
 letO (some (t19 : AV)) fun t99 =>
 letO (binF Tryd.prog .shr 5 t98 t99) fun t100 =>
 letO (binF Tryd.prog .and 5 t100 (.int .u8 1)) fun t101 =>
 letO (binF Tryd.prog .eql 5 t101 (.int .u8 1)) fun t102 =>
 condA t102 true (
 letO (some ((L35.getD 0 .any) : AV)) fun t103 =>
 letO (some (t19 : AV)) fun t104 =>
 letO (literalF Tryd.prog 23 1 [(0, t104)]) fun c39 =>
 appendA 1 8 t103 (.imm 1 true c39) (fun t106 H40 =>
 letO (some (t106 : AV)) fun t17 =>
 J38 [t17] H40) H36) (
 J38 [(L35.getD 0 .any)] H36)) ∧ ∀ L41 H42, J38 L41 H42 → -- [t17]
 letO (some (x3 : AV)) fun t107 =>
 letO (some (t19 : AV)) fun t108 =>
 letO (binF Tryd.prog .shr 5 t107 t108) fun t109 =>
 letO (binF Tryd.prog .and 5 t109 (.int .u8 1)) fun t110 =>
 letO (binF Tryd.prog .eql 5 t110 (.int .u8 1)) fun t111 =>
 condA t111 true (
 letO (some ((L35.getD 1 .any) : AV)) fun t112 =>
 letO (some (t19 : AV)) fun t113 =>
 letO (literalF Tryd.prog 23 1 [(0, t113)]) fun c43 =>
 appendA 1 8 t112 (.imm 1 true c43) (fun t115 H44 =>
 letO (some (t115 : AV)) fun t18 =>
 J37 [(L41.getD 0 .any), t18] H44) H42) (
 J37 [(L41.getD 0 .any), (L35.getD 1 .any)] H42)) ∧ ∀ L45 H46, J37 L45 H46 → -- [t17, t18]
 letO (binF Tryd.prog .add 3 (L35.getD 2 .any) (.int .i64 1)) fun t116 =>
 letO (some (t116 : AV)) fun t95 =>
 I33 [(L45.getD 0 .any), (L45.getD 1 .any), t95] H46 ∧ μ34 [(L45.getD 0 .any), (L45.getD 1 .any), t95] H46 < μ34 L35 H36) (
 letO (some ((.int .i64 0) : AV)) fun t20 =>
 true = true ∧ ∃ J47 : List AV → Heap → Prop, (
 letO (some ((L35.getD 0 .any) : AV)) fun t117 =>
 letO (lenA t117) fun t118 =>
 letO (some ((L35.getD 1 .any) : AV)) fun t119 =>
 letO (lenA t119) fun t120 =>
 letO (binF Tryd.prog .add 3 t118 t120) fun t121 =>
 letO (some (t10 : AV)) fun t122 =>
 letO (binF Tryd.prog .leq 3 t121 t122) fun t123 =>
 condA t123 true (
 letO (some ((.int .i64 14) : AV)) fun t20 =>
 J47 [t20] H36) (
 J47 [t20] H36)) ∧ ∀ L48 H49, J47 L48 H49 → -- [t20]
 letO (some ((L35.getD 0 .any) : AV)) fun t124 =>
 letO (lenA t124) fun t125 =>
 letO (some ((.int .i64 0) : AV)) fun t126 =>
 true = true ∧ ∃ (I50 : List AV → Heap → Prop) (μ51 : List AV → Heap → Nat), I50 [(L48.getD 0 .any), t126] H49 ∧ ∀ L52 H53, I50 L52 H53 → -- [t20, t126]
 letO (binF Tryd.prog .lss 3 (L52.getD 1 .any) t125) fun t127 =>
 condA t127 true (
 letO (idx 1 t124 (L52.getD 1 .any)) fun t128 =>
 letO (load1 t128 H53) fun t129 =>
 letO (some (t129 : AV)) fun t22 =>
 letO (some ((L35.getD 1 .any) : AV)) fun t130 =>
 letO (lenA t130) fun t131 =>
 letO (some ((.int .i64 0) : AV)) fun t132 =>
 true = true ∧ ∃ (I54 : List AV → Heap → Prop) (μ55 : List AV → Heap → Nat), I54 [(L52.getD 0 .any), t132] H53 ∧ ∀ L56 H57, I54 L56 H57 → -- [t20, t132]
 letO (binF Tryd.prog .lss 3 (L56.getD 1 .any) t131) fun t133 =>
 condA t133 true (
 true = true ∧ ∃ J58 : List AV → Heap → Prop, (
 letO (idx 1 t130 (L56.getD 1 .any)) fun t134 =>
 letO (load1 t134 H57) fun t135 =>
 letO (some (t135 : AV)) fun t24 =>
 letO (some (t9 : AV)) fun t136 =>
 letO (some (t22 : AV)) fun t137 =>
 letO (idx 1 t136 t137) fun t138 =>
 letO (load1 t138 H57) fun t139 =>
 letO (some (t24 : AV)) fun t140 =>
 letO (idx 1 t139 t140) fun t141 =>
 letO (load1 t141 H57) fun t142 =>
 letO (binF Tryd.prog .gtr 3 t142 (.int .i64 0)) fun t143 =>
 condA t143 true (
 letO (some ((.int .i64 14) : AV)) fun t20 =>
 J58 [t20] H57) (
 J58 [(L56.getD 0 .any)] H57)) ∧ ∀ L59 H60, J58 L59 H60 → -- [t20]
 letO (binF Tryd.prog .add 3 (L56.getD 1 .any) (.int .i64 1)) fun t144 =>
 letO (some (t144 : AV)) fun t132 =>
 I54 [(L59.getD 0 .any), t132] H60 ∧ μ55 [(L59.getD 0 .any), t132] H60 < μ55 L56 H57) (
 letO (binF Tryd.prog .add 3 (L52.getD 1 .any) (.int .i64 1)) fun t145 =>
 letO (some (t145 : AV)) fun t126 =>
 I50 [(L56.getD 0 .any), t126] H57 ∧ μ51 [(L56.getD 0 .any), t126] H57 < μ51 L52 H53)) (
 letO (some (t9 : AV)) fun t146 =>
 letO (some ((L35.getD 0 .any) : AV)) fun t147 =>
 letO (some ((L35.getD 1 .any) : AV)) fun t148 =>
 ACalls Tryd.prog 36 [t146, t147, t148] H53 fun t149 H61 =>
 letO (some ((L52.getD 0 .any) : AV)) fun t150 =>
 letO (binF Tryd.prog .eql 26 t149 t150) fun t151 =>
 letO (some (t151 : AV)) fun t152 =>
 letO (gval t152 true (some (t9 : AV))) fun t153 =>
 letO (gval t152 true (some ((L35.getD 0 .any) : AV))) fun t154 =>
 ∃ J62 : AV → Heap → Prop, condG t152 true (ACalls Tryd.prog 59 [t154] H61 fun t155 H63 =>
 J62 t155 H63) (J62 (.tup []) H61) ∧ ∀ t155 H64, J62 t155 H64 →
 letO (gval t152 true (some (t10 : AV))) fun t156 =>
 letO (gval t152 true ((literalF Tryd.prog 23 1 [(0, t156)]).map (.imm 1 true))) fun t157 =>
 ∃ J65 : AV → Heap → Prop, condG t152 true (appendA 1 8 t155 t157 (fun t158 H66 =>
 J65 t158 H66) H64) (J65 (.tup []) H64) ∧ ∀ t158 H67, J65 t158 H67 →
 letO (gval t152 true (some ((L35.getD 1 .any) : AV))) fun t159 =>
 ∃ J68 : AV → Heap → Prop, condG t152 true (ACalls Tryd.prog 36 [t153, t158, t159] H67 fun t160 H69 =>
 J68 t160 H69) (J68 (.tup []) H67) ∧ ∀ t160 H70, J68 t160 H70 →
 letO (gval t152 true (binF Tryd.prog .eql 26 t160 (.int .i64 2))) fun t161 =>
 letO (pickF t152 t161 (.bool false)) fun t162 =>
 letO (some (t162 : AV)) fun t163 =>
 letO (gval t163 true (some (t9 : AV))) fun t164 =>
 letO (gval t163 true (some ((L35.getD 0 .any) : AV))) fun t165 =>
 letO (gval t163 true (some ((L35.getD 1 .any) : AV))) fun t166 =>
 ∃ J71 : AV → Heap → Prop, condG t163 true (ACalls Tryd.prog 59 [t166] H70 fun t167 H72 =>
 J71 t167 H72) (J71 (.tup []) H70) ∧ ∀ t167 H73, J71 t167 H73 →
 letO (gval t163 true ((literalF Tryd.prog 23 1 [(0, (.int .i64 (-1)))]).map (.imm 1 true))) fun t168 =>
 ∃ J74 : AV → Heap → Prop, condG t163 true (appendA 1 8 t167 t168 (fun t169 H75 =>
 J74 t169 H75) H73) (J74 (.tup []) H73) ∧ ∀ t169 H76, J74 t169 H76 →
 ∃ J77 : AV → Heap → Prop, condG t163 true (ACalls Tryd.prog 36 [t164, t165, t169] H76 fun t170 H78 =>
 J77 t170 H78) (J77 (.tup []) H76) ∧ ∀ t170 H79, J77 t170 H79 →
 letO (gval t163 true (binF Tryd.prog .eql 26 t170 (.int .i64 2))) fun t171 =>
 letO (pickF t163 t171 (.bool false)) fun t172 =>
 letO (some (t172 : AV)) fun t173 =>
 ∃ J80 : AV → Heap → Prop, condG t173 true (ACalls Tryd.prog 17 [] H79 fun t174 H81 =>
 J80 t174 H81) (J80 (.tup []) H79) ∧ ∀ t174 H82, J80 t174 H82 →
 letO (pickF t173 t174 (.bool false)) fun t175 =>
 letO (some (t175 : AV)) fun t8 =>
endK t8 H82 K)))))

theorem W14_ok {x0 x1 x2 x3 : AV} {H : Heap} {K : AV → Heap → Prop} (h : W14 x0 x1 x2 x3 H K) : ACalls Tryd.prog 14 [x0, x1, x2, x3] H K :=
  acallsB (fn := Tryd.f14) (cfg := cfgOf [] [] [] [] []) (hh := (.dir .nil (.dir .nil (.dir .nil (.dir .nil (.dir (.dir .nil (.blk (.loop [11, 38] [39, 40, 41, 13, 42, 43, 44, 45, 46, 47, 11, 48, 38] (.dir .nil (.dir .nil (.dir .nil .nil)))))) (.dir .nil (.cut [14] [49, 50, 51, 52, 14] (.dir .nil .nil) (.dir (.dir .nil (.blk (.loop [14, 55] [56, 57, 58, 59, 15, 16, 60, 61, 62, 63, 64, 65, 66, 67, 68, 69, 70, 14, 71, 72, 73, 74, 75, 76, 77, 78, 79, 80, 55] (.dir .nil (.dir .nil (.cut [14] [57, 58, 59, 15, 16, 60, 61, 62, 63, 64, 65, 66, 67, 68, 69, 70, 14, 71, 72, 73, 74, 75, 76, 77, 78, 79] (.blk (.dir .nil (.cut [14] [60, 61, 62, 63, 64, 65, 66, 67, 68, 69, 70, 14] (.dir .nil .nil) (.dir .nil .nil)))) .nil)))))) (.cut [14] [81, 82, 83, 84, 85, 86, 87, 88, 14] (.dir .nil .nil) (.dir (.dir .nil (.dir .nil .nil)) (.dir .nil (.dir (.dir .nil (.blk (.loop [17, 18, 95] [96, 97, 19, 98, 99, 100, 101, 102, 103, 104, 105, 106, 17, 107, 108, 109, 110, 111, 112, 113, 114, 115, 18, 116, 95] (.dir .nil (.dir .nil (.cut [17, 18] [97, 19, 98, 99, 100, 101, 102, 103, 104, 105, 106, 17, 107, 108, 109, 110, 111, 112, 113, 114, 115, 18] (.blk (.dir .nil (.cut [17] [98, 99, 100, 101, 102, 103, 104, 105, 106, 17] (.dir .nil .nil) (.dir .nil .nil)))) .nil)))))) (.dir .nil (.cut [20] [117, 118, 119, 120, 121, 122, 123, 20] (.dir .nil .nil) (.dir (.dir .nil (.blk (.loop [20, 126] [127, 128, 129, 22, 130, 131, 132, 133, 134, 135, 24, 136, 137, 138, 139, 140, 141, 142, 143, 20, 144, 145, 126] (.dir .nil (.dir .nil (.dir (.blk (.dir .nil (.dir .nil (.blk (.loop [20, 132] [133, 134, 135, 24, 136, 137, 138, 139, 140, 141, 142, 143, 20, 144, 132] (.dir .nil (.dir .nil (.cut [20] [134, 135, 24, 136, 137, 138, 139, 140, 141, 142, 143, 20] (.blk (.dir .nil (.dir .nil .nil))) .nil)))))))) .nil)))))) .nil)))))))))))))))) follows Tryd.func14 (by kernel_rfl) (Nat.le_of_ble_eq_true (by kernel_rfl)) (by kernel_rfl) h

/-- headword.headwordlaw11.large -/
def W16 (x0 : AV) (H : Heap) (K : AV → Heap → Prop) : Prop :=
 letO (some ((.bool false) : AV)) fun t2 =>
 letO (some (x0 : AV)) fun t4 =>
 letO (lenA t4) fun t5 =>
 letO (binF Tryd.prog .gtr 3 t5 (.int .i64 20)) fun t6 =>
 condA t6 true (
 letO (some ((.bool true) : AV)) fun t2 =>
endK t2 H K) (
 letO (some ((.int .i64 0) : AV)) fun t3 =>
 true = true ∧ ∃ (I1 : List AV → Heap → Prop) (μ2 : List AV → Heap → Nat), I1 [t3] H ∧ ∀ L3 H4, I1 L3 H4 → -- [t3]
 letO (some ((L3.getD 0 .any) : AV)) fun t7 =>
 letO (some (x0 : AV)) fun t8 =>
 letO (lenA t8) fun t9 =>
 letO (binF Tryd.prog .lss 3 t7 t9) fun t10 =>
 condA t10 true (
 letO (some (x0 : AV)) fun t13 =>
 letO (some ((L3.getD 0 .any) : AV)) fun t14 =>
 letO (idx 1 t13 t14) fun t15 =>
 letO (load1 t15 H4) fun t16 =>
 letO (lenA t16) fun t17 =>
 letO (binF Tryd.prog .gtr 3 t17 (.int .i64 20)) fun t18 =>
 condA t18 true (
 letO (some ((.bool true) : AV)) fun t2 =>
endK t2 H4 K) (
 letO (some ((L3.getD 0 .any) : AV)) fun t11 =>
 letO (binF Tryd.prog .add 3 t11 (.int .i64 1)) fun t12 =>
 letO (some (t12 : AV)) fun t3 =>
 I1 [t3] H4 ∧ μ2 [t3] H4 < μ2 L3 H4)) (
 letO (some ((.bool false) : AV)) fun t2 =>
endK t2 H4 K))

theorem W16_ok {x0 : AV} {H : Heap} {K : AV → Heap → Prop} (h : W16 x0 H K) : ACalls Tryd.prog 16 [x0] H K :=
  acallsB (fn := Tryd.f16) (cfg := cfgOf [] [] [] [] []) (hh := (.dir .nil (.dir (.dir .nil (.dir .nil .nil)) (.dir (.dir .nil (.blk (.loop [3] [7, 8, 9, 10, 13, 14, 15, 16, 17, 18, 2, 11, 12, 3] (.dir (.dir .nil .nil) (.dir (.blk (.dir .nil (.dir .nil .nil))) .nil))))) .nil)))) follows Tryd.func16 (by kernel_rfl) (Nat.le_of_ble_eq_true (by kernel_rfl)) (by kernel_rfl) h

/-- headword.headwordref11.Even -/
def W19 (x0 : AV) (H : Heap) (K : AV → Heap → Prop) : Prop :=
 letO (some ((.int .i64 0) : AV)) fun t2 =>
 letO (some ((.int .i64 0) : AV)) fun t3 =>
 letO (some (x0 : AV)) fun t10 =>
 ACalls Tryd.prog 31 [t10] H fun t11 H1 =>
 letO (some (t11 : AV)) fun t4 =>
 letO (some (t4 : AV)) fun t12 =>
 letO (binF Tryd.prog .neq 26 t12 (.int .i64 0)) fun t13 =>
 condA t13 true (
 letO (some (t4 : AV)) fun t14 =>
 letO (some ((.int .i64 0) : AV)) fun t2 =>
 letO (some (t14 : AV)) fun t3 =>
endK (.tup [t2, t3]) H1 K) (
 letO (some (x0 : AV)) fun t16 =>
 ACalls Tryd.prog 72 [t16, (.int .i64 0)] H1 fun t17 H2 =>
 letO (some (t17 : AV)) fun t15 =>
 letO (extrF t15 0) fun t18 =>
 letO (extrF t15 1) fun t19 =>
 letO (some (t18 : AV)) fun t5 =>
 letO (some (t19 : AV)) fun t6 =>
 letO (some ((.int .i64 0) : AV)) fun t7 =>
 true = true ∧ ∃ (I3 : List AV → Heap → Prop) (μ4 : List AV → Heap → Nat), I3 [t7] H2 ∧ ∀ L5 H6, I3 L5 H6 → -- [t7]
 letO (some ((L5.getD 0 .any) : AV)) fun t20 =>
 letO (some (x0 : AV)) fun t21 =>
 letO (lenA t21) fun t22 =>
 letO (binF Tryd.prog .lss 3 t20 t22) fun t23 =>
 condA t23 true (
 letO (some (x0 : AV)) fun t27 =>
 letO (some ((L5.getD 0 .any) : AV)) fun t28 =>
 ACalls Tryd.prog 72 [t27, t28] H6 fun t29 H7 =>
 letO (some (t29 : AV)) fun t26 =>
 letO (extrF t26 0) fun t30 =>
 letO (extrF t26 1) fun t31 =>
 letO (some (t30 : AV)) fun t8 =>
 letO (some (t31 : AV)) fun t9 =>
 letO (some (t8 : AV)) fun t32 =>
 letO (some (t5 : AV)) fun t33 =>
 letO (binF Tryd.prog .neq 3 t32 t33) fun t34 =>
 letO (some (t34 : AV)) fun t35 =>
 letO (gval t35 false (some (t9 : AV))) fun t36 =>
 letO (gval t35 false (some (t5 : AV))) fun t37 =>
 letO (gval t35 false (binF Tryd.prog .neq 3 t36 t37)) fun t38 =>
 letO (pickF t35 (.bool true) t38) fun t39 =>
 condA t39 true (
 letO (some ((.int .i64 0) : AV)) fun t2 =>
 letO (some ((.int .i64 17) : AV)) fun t3 =>
endK (.tup [t2, t3]) H7 K) (
 letO (some ((L5.getD 0 .any) : AV)) fun t24 =>
 letO (binF Tryd.prog .add 3 t24 (.int .i64 1)) fun t25 =>
 letO (some (t25 : AV)) fun t7 =>
 I3 [t7] H7 ∧ μ4 [t7] H7 < μ4 L5 H6)) (
 letO (some (t5 : AV)) fun t40 =>
 letO (some (t40 : AV)) fun t2 =>
 letO (some ((.int .i64 0) : AV)) fun t3 =>
endK (.tup [t2, t3]) H6 K))

theorem W19_ok {x0 : AV} {H : Heap} {K : AV → Heap → Prop} (h : W19 x0 H K) : ACalls Tryd.prog 19 [x0] H K :=
  acallsB (fn := Tryd.f19) (cfg := cfgOf [] [] [] [] []) (hh := (.dir .nil (.dir .nil (.dir (.dir .nil (.dir .nil .nil)) (.dir .nil (.dir (.dir .nil (.blk (.loop [7] [20, 21, 22, 23, 27, 28, 29, 26, 30, 31, 8, 9, 32, 33, 34, 35, 36, 37, 38, 39, 2, 3, 24, 25, 7] (.dir (.dir .nil .nil) (.dir (.blk (.dir .nil (.dir .nil (.dir .nil .nil)))) .nil))))) .nil)))))) follows Tryd.func19 (by kernel_rfl) (Nat.le_of_ble_eq_true (by kernel_rfl)) (by kernel_rfl) h

/-- headword.headwordref11.First -/
def W21 (x0 : AV) (H : Heap) (K : AV → Heap → Prop) : Prop :=
 letO (some (.nils : AV)) fun t2 =>
 letO (some ((.int .i64 0) : AV)) fun t3 =>
 letO (some (x0 : AV)) fun t6 =>
 ACalls Tryd.prog 31 [t6] H fun t7 H1 =>
 letO (some (t7 : AV)) fun t4 =>
 letO (some (t4 : AV)) fun t8 =>
 letO (binF Tryd.prog .neq 26 t8 (.int .i64 0)) fun t9 =>
 condA t9 true (
 letO (some (t4 : AV)) fun t10 =>
 letO (some (.nils : AV)) fun t2 =>
 letO (some (t10 : AV)) fun t3 =>
endK (.tup [t2, t3]) H1 K) (
 letO (some (x0 : AV)) fun t11 =>
 ACalls Tryd.prog 74 [t11] H1 fun t12 H2 =>
 letO (some (t12 : AV)) fun t5 =>
 letO (some (t5 : AV)) fun t13 =>
 letO (lenA t13) fun t14 =>
 letO (binF Tryd.prog .eql 3 t14 (.int .i64 0)) fun t15 =>
 condA t15 true (
 letO (some (.nils : AV)) fun t2 =>
 letO (some ((.int .i64 12) : AV)) fun t3 =>
endK (.tup [t2, t3]) H2 K) (
 letO (some (t5 : AV)) fun t16 =>
 letO (idx 1 t16 (.int .i64 0)) fun t17 =>
 letO (load1 t17 H2) fun t18 =>
 letO (some (t18 : AV)) fun t2 =>
 letO (some ((.int .i64 0) : AV)) fun t3 =>
endK (.tup [t2, t3]) H2 K))

theorem W21_ok {x0 : AV} {H : Heap} {K : AV → Heap → Prop} (h : W21 x0 H K) : ACalls Tryd.prog 21 [x0] H K :=
  acallsB (fn := Tryd.f21) (cfg := cfgOf [] [] [] [] []) (hh := (.dir .nil (.dir .nil (.dir (.dir .nil (.dir .nil .nil)) (.dir .nil (.dir (.dir .nil (.dir .nil .nil)) .nil)))))) follows Tryd.func21 (by kernel_rfl) (Nat.le_of_ble_eq_true (by kernel_rfl)) (by kernel_rfl) h

/-- headword.headwordref11.Count -/
def W23 (x0 : AV) (H : Heap) (K : AV → Heap → Prop) : Prop :=
 letO (some ((.int .i64 0) : AV)) fun t2 =>
 letO (some ((.int .i64 0) : AV)) fun t3 =>
 letO (some (x0 : AV)) fun t5 =>
 ACalls Tryd.prog 31 [t5] H fun t6 H1 =>
 letO (some (t6 : AV)) fun t4 =>
 letO (some (t4 : AV)) fun t7 =>
 letO (binF Tryd.prog .neq 26 t7 (.int .i64 0)) fun t8 =>
 condA t8 true (
 letO (some (t4 : AV)) fun t9 =>
 letO (some ((.int .i64 0) : AV)) fun t2 =>
 letO (some (t9 : AV)) fun t3 =>
endK (.tup [t2, t3]) H1 K) (
 letO (some (x0 : AV)) fun t10 =>
 ACalls Tryd.prog 74 [t10] H1 fun t11 H2 =>
 letO (lenA t11) fun t12 =>
 letO (some (t12 : AV)) fun t2 =>
 letO (some ((.int .i64 0) : AV)) fun t3 =>
endK (.tup [t2, t3]) H2 K)

theorem W23_ok {x0 : AV} {H : Heap} {K : AV → Heap → Prop} (h : W23 x0 H K) : ACalls Tryd.prog 23 [x0] H K :=
  acallsB (fn := Tryd.f23) (cfg := cfgOf [] [] [] [] []) (hh := (.dir .nil (.dir .nil (.dir (.dir .nil (.dir .nil .nil)) .nil)))) follows Tryd.func23 (by kernel_rfl) (Nat.le_of_ble_eq_true (by kernel_rfl)) (by kernel_rfl) h

/-- headword.headwordref11.Weight -/
def W26 (x0 : AV) (H : Heap) (K : AV → Heap → Prop) : Prop :=
 letO (some ((.int .i64 0) : AV)) fun t2 =>
 letO (some ((.int .i64 0) : AV)) fun t3 =>
 letO (some (x0 : AV)) fun t10 =>
 ACalls Tryd.prog 31 [t10] H fun t11 H1 =>
 letO (some (t11 : AV)) fun t4 =>
 letO (some (t4 : AV)) fun t12 =>
 letO (binF Tryd.prog .neq 26 t12 (.int .i64 0)) fun t13 =>
 condA t13 true (
 letO (some (t4 : AV)) fun t14 =>
 letO (some ((.int .i64 0) : AV)) fun t2 =>
 letO (some (t14 : AV)) fun t3 =>
endK (.tup [t2, t3]) H1 K) (
 letO (some ((.int .i64 0) : AV)) fun t5 =>
 letO (some (x0 : AV)) fun t15 =>
 letO (lenA t15) fun t16 =>
 ACalls Tryd.prog 76 [t16, .nils] H1 fun t17 H2 =>
 letO (some (t17 : AV)) fun t6 =>
 letO (some ((.int .i64 0) : AV)) fun t7 =>
 true = true ∧ ∃ (I3 : List AV → Heap → Prop) (μ4 : List AV → Heap → Nat), I3 [t5, t7] H2 ∧ ∀ L5 H6, I3 L5 H6 → -- [t5, t7]
 letO (some ((L5.getD 1 .any) : AV)) fun t18 =>
 letO (some (t6 : AV)) fun t19 =>
 letO (lenA t19) fun t20 =>
 letO (binF Tryd.prog .lss 3 t18 t20) fun t21 =>
 condA t21 true (
 letO (some ((.int .i64 1) : AV)) fun t8 =>
 letO (some ((.int .i64 0) : AV)) fun t9 =>
 true = true ∧ ∃ (I7 : List AV → Heap → Prop) (μ8 : List AV → Heap → Nat), I7 [t8, t9] H6 ∧ ∀ L9 H10, I7 L9 H10 → -- [t8, t9]
 letO (some ((L9.getD 1 .any) : AV)) fun t24 =>
 letO (some (x0 : AV)) fun t25 =>
 letO (lenA t25) fun t26 =>
 letO (binF Tryd.prog .lss 3 t24 t26) fun t27 =>
 condA t27 true (
 true = true ∧
 letO (some ((L9.getD 0 .any) : AV)) fun t30 =>
 letO (some (x0 : AV)) fun t31 =>
 letO (some ((L9.getD 1 .any) : AV)) fun t32 =>
 letO (idx 1 t31 t32) fun t33 =>
 letO (load1 t33 H10) fun t34 =>
 letO (some (t6 : AV)) fun t35 =>
 letO (some ((L5.getD 1 .any) : AV)) fun t36 =>
 letO (idx 1 t35 t36) fun t37 =>
 letO (load1 t37 H10) fun t38 =>
 letO (some ((L9.getD 1 .any) : AV)) fun t39 =>
 letO (idx 1 t38 t39) fun t40 =>
 letO (load1 t40 H10) fun t41 =>
 letO (idx 1 t34 t41) fun t42 =>
 letO (load1 t42 H10) fun t43 =>
 letO (binF Tryd.prog .mul 3 t30 t43) fun t44 =>
 letO (some (t44 : AV)) fun t8 =>
 letO (some ((L9.getD 1 .any) : AV)) fun t28 =>
 letO (binF Tryd.prog .add 3 t28 (.int .i64 1)) fun t29 =>
 letO (some (t29 : AV)) fun t9 =>
 I7 [t8, t9] H10 ∧ μ8 [t8, t9] H10 < μ8 L9 H10) (
 letO (some ((L5.getD 0 .any) : AV)) fun t45 =>
 letO (some ((L9.getD 0 .any) : AV)) fun t46 =>
 letO (binF Tryd.prog .add 3 t45 t46) fun t47 =>
 letO (some (t47 : AV)) fun t5 =>
 letO (some ((L5.getD 1 .any) : AV)) fun t22 =>
 letO (binF Tryd.prog .add 3 t22 (.int .i64 1)) fun t23 =>
 letO (some (t23 : AV)) fun t7 =>
 I3 [t5, t7] H10 ∧ μ4 [t5, t7] H10 < μ4 L5 H6)) (
 letO (some ((L5.getD 0 .any) : AV)) fun t48 =>
 letO (some (t48 : AV)) fun t2 =>
 letO (some ((.int .i64 0) : AV)) fun t3 =>
endK (.tup [t2, t3]) H6 K))

theorem W26_ok {x0 : AV} {H : Heap} {K : AV → Heap → Prop} (h : W26 x0 H K) : ACalls Tryd.prog 26 [x0] H K :=
  acallsB (fn := Tryd.f26) (cfg := cfgOf [] [] [(13, [0, 0, 0, 6, 14, 0, 0, 96, 224, 0, 992, 2016, 4094, 8190, 16383, 32767])] [] []) (hh := (.dir .nil (.dir .nil (.dir (.dir .nil (.dir .nil .nil)) (.dir .nil (.dir .nil (.dir (.dir .nil (.blk (.loop [5, 7] [18, 19, 20, 21, 8, 9, 24, 25, 26, 27, 30, 31, 32, 33, 34, 35, 36, 37, 38, 39, 40, 41, 42, 43, 44, 28, 29, 45, 46, 47, 5, 22, 23, 7] (.dir (.dir .nil .nil) (.dir (.blk (.dir .nil (.dir (.dir .nil (.blk (.loop [8, 9] [24, 25, 26, 27, 30, 31, 32, 33, 34, 35, 36, 37, 38, 39, 40, 41, 42, 43, 44, 8, 28, 29, 9] (.dir (.dir .nil .nil) (.dir .nil .nil))))) .nil))) .nil))))) .nil))))))) follows Tryd.func26 (by kernel_rfl) (Nat.le_of_ble_eq_true (by kernel_rfl)) (by kernel_rfl) h

/-- headword.headwordref11.Turn -/
def W28 (x0 : AV) (H : Heap) (K : AV → Heap → Prop) : Prop :=
 letO (some (.nils : AV)) fun t2 =>
 letO (some ((.int .i64 0) : AV)) fun t3 =>
 letO (some (x0 : AV)) fun t9 =>
 ACalls Tryd.prog 31 [t9] H fun t10 H1 =>
 letO (some (t10 : AV)) fun t4 =>
 letO (some (t4 : AV)) fun t11 =>
 letO (binF Tryd.prog .neq 26 t11 (.int .i64 0)) fun t12 =>
 condA t12 true (
 letO (some (t4 : AV)) fun t13 =>
 letO (some (.nils : AV)) fun t2 =>
 letO (some (t13 : AV)) fun t3 =>
endK (.tup [t2, t3]) H1 K) (
 letO (some (.nils : AV)) fun t5 =>
 letO (some ((.int .i64 0) : AV)) fun t6 =>
 true = true ∧ ∃ (I2 : List AV → Heap → Prop) (μ3 : List AV → Heap → Nat), I2 [t5, t6] H1 ∧ ∀ L4 H5, I2 L4 H5 → -- [t5, t6]
 letO (some ((L4.getD 1 .any) : AV)) fun t14 =>
 letO (some (x0 : AV)) fun t15 =>
 letO (lenA t15) fun t16 =>
 letO (binF Tryd.prog .lss 3 t14 t16) fun t17 =>
 condA t17 true (
 letO (some (.nils : AV)) fun t7 =>
 letO (some ((.int .i64 0) : AV)) fun t8 =>
 true = true ∧ ∃ (I6 : List AV → Heap → Prop) (μ7 : List AV → Heap → Nat), I6 [t7, t8] H5 ∧ ∀ L8 H9, I6 L8 H9 → -- [t7, t8]
 letO (some ((L8.getD 1 .any) : AV)) fun t20 =>
 letO (some (x0 : AV)) fun t21 =>
 letO (lenA t21) fun t22 =>
 letO (binF Tryd.prog .lss 3 t20 t22) fun t23 =>
 condA t23 true (
 letO (some ((L8.getD 0 .any) : AV)) fun t26 =>
 letO (some (x0 : AV)) fun t27 =>
 letO (some ((L8.getD 1 .any) : AV)) fun t28 =>
 letO (idx 1 t27 t28) fun t29 =>
 letO (load1 t29 H9) fun t30 =>
 letO (some ((L4.getD 1 .any) : AV)) fun t31 =>
 letO (idx 1 t30 t31) fun t32 =>
 letO (load1 t32 H9) fun t33 =>
 letO (literalF Tryd.prog 23 1 [(0, t33)]) fun c10 =>
 appendA 1 8 t26 (.imm 1 true c10) (fun t35 H11 =>
 letO (some (t35 : AV)) fun t7 =>
 letO (some ((L8.getD 1 .any) : AV)) fun t24 =>
 letO (binF Tryd.prog .add 3 t24 (.int .i64 1)) fun t25 =>
 letO (some (t25 : AV)) fun t8 =>
 I6 [t7, t8] H11 ∧ μ7 [t7, t8] H11 < μ7 L8 H9) H9) (
 letO (some ((L4.getD 0 .any) : AV)) fun t36 =>
 letO (some ((L8.getD 0 .any) : AV)) fun t37 =>
 letO (literalF Tryd.prog 22 1 [(0, t37)]) fun c12 =>
 appendA 1 24 t36 (.imm 1 true c12) (fun t39 H13 =>
 letO (some (t39 : AV)) fun t5 =>
 letO (some ((L4.getD 1 .any) : AV)) fun t18 =>
 letO (binF Tryd.prog .add 3 t18 (.int .i64 1)) fun t19 =>
 letO (some (t19 : AV)) fun t6 =>
 I2 [t5, t6] H13 ∧ μ3 [t5, t6] H13 < μ3 L4 H5) H9)) (
 letO (some ((L4.getD 0 .any) : AV)) fun t40 =>
 letO (some (t40 : AV)) fun t2 =>
 letO (some ((.int .i64 0) : AV)) fun t3 =>
endK (.tup [t2, t3]) H5 K))

theorem W28_ok {x0 : AV} {H : Heap} {K : AV → Heap → Prop} (h : W28 x0 H K) : ACalls Tryd.prog 28 [x0] H K :=
  acallsB (fn := Tryd.f28) (cfg := cfgOf [] [] [] [] []) (hh := (.dir .nil (.dir .nil (.dir (.dir .nil (.dir .nil .nil)) (.dir .nil (.dir (.dir .nil (.blk (.loop [5, 6] [14, 15, 16, 17, 7, 8, 20, 21, 22, 23, 26, 27, 28, 29, 30, 31, 32, 33, 34, 35, 24, 25, 36, 37, 38, 39, 5, 18, 19, 6] (.dir (.dir .nil .nil) (.dir (.blk (.dir .nil (.dir (.dir .nil (.blk (.loop [7, 8] [20, 21, 22, 23, 26, 27, 28, 29, 30, 31, 32, 33, 34, 35, 7, 24, 25, 8] (.dir (.dir .nil .nil) (.dir .nil .nil))))) .nil))) .nil))))) .nil)))))) follows Tryd.func28 (by kernel_rfl) (Nat.le_of_ble_eq_true (by kernel_rfl)) (by kernel_rfl) h

/-- headword.headwordref11.Check -/
def W31 (x0 : AV) (H : Heap) (K : AV → Heap → Prop) : Prop :=
 letO (some ((.int .i64 0) : AV)) fun t2 =>
 letO (some (x0 : AV)) fun t5 =>
 letO (lenA t5) fun t6 =>
 letO (binF Tryd.prog .eql 3 t6 (.int .i64 0)) fun t7 =>
 condA t7 true (
 letO (some ((.int .i64 4) : AV)) fun t2 =>
endK t2 H K) (
 letO (some (x0 : AV)) fun t8 =>
 letO (lenA t8) fun t9 =>
 letO (binF Tryd.prog .gtr 3 t9 (.int .i64 4)) fun t10 =>
 condA t10 true (
 letO (some ((.int .i64 3) : AV)) fun t2 =>
endK t2 H K) (
 letO (some ((.int .i64 0) : AV)) fun t3 =>
 true = true ∧ ∃ (I1 : List AV → Heap → Prop) (μ2 : List AV → Heap → Nat), I1 [t3] H ∧ ∀ L3 H4, I1 L3 H4 → -- [t3]
 letO (some ((L3.getD 0 .any) : AV)) fun t11 =>
 letO (some (x0 : AV)) fun t12 =>
 letO (lenA t12) fun t13 =>
 letO (binF Tryd.prog .lss 3 t11 t13) fun t14 =>
 condA t14 true (
 letO (some (x0 : AV)) fun t17 =>
 letO (some ((L3.getD 0 .any) : AV)) fun t18 =>
 letO (idx 1 t17 t18) fun t19 =>
 letO (load1 t19 H4) fun t20 =>
 letO (lenA t20) fun t21 =>
 letO (some (x0 : AV)) fun t22 =>
 letO (lenA t22) fun t23 =>
 letO (binF Tryd.prog .neq 3 t21 t23) fun t24 =>
 condA t24 true (
 letO (some ((.int .i64 5) : AV)) fun t2 =>
endK t2 H4 K) (
 letO (some ((.int .i64 0) : AV)) fun t4 =>
 true = true ∧ ∃ (I5 : List AV → Heap → Prop) (μ6 : List AV → Heap → Nat), I5 [t4] H4 ∧ ∀ L7 H8, I5 L7 H8 → -- [t4]
 letO (some ((L7.getD 0 .any) : AV)) fun t25 =>
 letO (some (x0 : AV)) fun t26 =>
 letO (some ((L3.getD 0 .any) : AV)) fun t27 =>
 letO (idx 1 t26 t27) fun t28 =>
 letO (load1 t28 H8) fun t29 =>
 letO (lenA t29) fun t30 =>
 letO (binF Tryd.prog .lss 3 t25 t30) fun t31 =>
 condA t31 true (
 letO (some (x0 : AV)) fun t34 =>
 letO (some ((L3.getD 0 .any) : AV)) fun t35 =>
 letO (idx 1 t34 t35) fun t36 =>
 letO (load1 t36 H8) fun t37 =>
 letO (some ((L7.getD 0 .any) : AV)) fun t38 =>
 letO (idx 1 t37 t38) fun t39 =>
 letO (load1 t39 H8) fun t40 =>
 ACalls Tryd.prog 78 [t40, (.int .i64 0), (.int .i64 9)] H8 fun t41 H9 =>
 letO (unF .not t41) fun t42 =>
 condA t42 true (
 letO (some ((.int .i64 1) : AV)) fun t2 =>
endK t2 H9 K) (
 letO (some ((L7.getD 0 .any) : AV)) fun t32 =>
 letO (binF Tryd.prog .add 3 t32 (.int .i64 1)) fun t33 =>
 letO (some (t33 : AV)) fun t4 =>
 I5 [t4] H9 ∧ μ6 [t4] H9 < μ6 L7 H8)) (
 letO (some ((L3.getD 0 .any) : AV)) fun t15 =>
 letO (binF Tryd.prog .add 3 t15 (.int .i64 1)) fun t16 =>
 letO (some (t16 : AV)) fun t3 =>
 I1 [t3] H8 ∧ μ2 [t3] H8 < μ2 L3 H4))) (
 letO (some ((.int .i64 0) : AV)) fun t2 =>
endK t2 H4 K)))

theorem W31_ok {x0 : AV} {H : Heap} {K : AV → Heap → Prop} (h : W31 x0 H K) : ACalls Tryd.prog 31 [x0] H K :=
  acallsB (fn := Tryd.f31) (cfg := cfgOf [] [] [] [] []) (hh := (.dir .nil (.dir (.dir .nil (.dir .nil .nil)) (.dir (.dir .nil (.dir .nil .nil)) (.dir (.dir .nil (.blk (.loop [3] [11, 12, 13, 14, 17, 18, 19, 20, 21, 22, 23, 24, 2, 4, 25, 26, 27, 28, 29, 30, 31, 34, 35, 36, 37, 38, 39, 40, 41, 42, 32, 33, 15, 16, 3] (.dir (.dir .nil .nil) (.dir (.blk (.dir (.dir .nil (.dir .nil .nil)) (.dir .nil (.blk (.loop [4] [25, 26, 27, 28, 29, 30, 31, 34, 35, 36, 37, 38, 39, 40, 41, 42, 2, 32, 33, 4] (.dir (.dir .nil .nil) (.dir (.blk (.dir .nil (.dir .nil .nil))) .nil))))))) .nil))))) .nil))))) follows Tryd.func31 (by kernel_rfl) (Nat.le_of_ble_eq_true (by kernel_rfl)) (by kernel_rfl) h

/-- headword.headwordref11.Within -/
def W33 (x0 x1 : AV) (H : Heap) (K : AV → Heap → Prop) : Prop :=
 letO (some ((.int .i64 0) : AV)) fun t4 =>
 letO (some (x0 : AV)) fun t6 =>
 ACalls Tryd.prog 31 [t6] H fun t7 H1 =>
 letO (some (t7 : AV)) fun t5 =>
 true = true ∧ ∃ J2 : List AV → Heap → Prop, (
 letO (some (t5 : AV)) fun t8 =>
 letO (binF Tryd.prog .eql 26 t8 (.int .i64 0)) fun t9 =>
 condA t9 true (
 letO (some (x0 : AV)) fun t10 =>
 letO (lenA t10) fun t11 =>
 letO (some (x1 : AV)) fun t12 =>
 ACalls Tryd.prog 80 [t11, t12] H1 fun t13 H3 =>
 letO (some (t13 : AV)) fun t5 =>
 J2 [t5] H3) (
 J2 [t5] H1)) ∧ ∀ L4 H5, J2 L4 H5 → -- [t5]
 true = true ∧ ∃ J6 : List AV → Heap → Prop, (
 letO (some ((L4.getD 0 .any) : AV)) fun t14 =>
 letO (binF Tryd.prog .eql 26 t14 (.int .i64 0)) fun t15 =>
 letO (some (t15 : AV)) fun t16 =>
 letO (gval t16 true (some (x0 : AV))) fun t17 =>
 letO (gval t16 true (some (x1 : AV))) fun t18 =>
 ∃ J7 : AV → Heap → Prop, condG t16 true (ACalls Tryd.prog 81 [t17, t18] H5 fun t19 H8 =>
 J7 t19 H8) (J7 (.tup []) H5) ∧ ∀ t19 H9, J7 t19 H9 →
 letO (gval t16 true (binF Tryd.prog .eql 3 t19 (.int .i64 0))) fun t20 =>
 letO (pickF t16 t20 (.bool false)) fun t21 =>
 condA t21 true (
 letO (some ((.int .i64 12) : AV)) fun t5 =>
 J6 [t5] H9) (
 J6 [(L4.getD 0 .any)] H9)) ∧ ∀ L10 H11, J6 L10 H11 → -- [t5]
 letO (some ((L10.getD 0 .any) : AV)) fun t22 =>
 letO (some (t22 : AV)) fun t4 =>
endK t4 H11 K

theorem W33_ok {x0 x1 : AV} {H : Heap} {K : AV → Heap → Prop} (h : W33 x0 x1 H K) : ACalls Tryd.prog 33 [x0, x1] H K :=
  acallsB (fn := Tryd.f33) (cfg := cfgOf [] [] [] [] []) (hh := (.dir .nil (.dir .nil (.cut [5] [8, 9, 10, 11, 12, 13, 5] (.dir .nil .nil) (.cut [5] [14, 15, 16, 17, 18, 19, 20, 21, 5] (.dir .nil .nil) .nil))))) follows Tryd.func33 (by kernel_rfl) (Nat.le_of_ble_eq_true (by kernel_rfl)) (by kernel_rfl) h

/-- headword.headwordlaw11.weight -/
def W48 (x0 x1 : AV) (H : Heap) (K : AV → Heap → Prop) : Prop :=
 letO (some ((.int .i64 0) : AV)) fun t4 =>
 letO (some ((.int .i64 1) : AV)) fun t5 =>
 letO (some (x1 : AV)) fun t8 =>
 letO (lenA t8) fun t9 =>
 letO (some ((.int .i64 0) : AV)) fun t10 =>
 true = true ∧ ∃ (I1 : List AV → Heap → Prop) (μ2 : List AV → Heap → Nat), I1 [t5, t10] H ∧ ∀ L3 H4, I1 L3 H4 → -- [t5, t10]
 letO (binF Tryd.prog .lss 3 (L3.getD 1 .any) t9) fun t11 =>
 condA t11 true (
 letO (some ((L3.getD 1 .any) : AV)) fun t12 =>
 letO (idx 1 t8 (L3.getD 1 .any)) fun t13 =>
 letO (load1 t13 H4) fun t14 =>
 letO (some (t12 : AV)) fun t6 =>
 letO (some (t14 : AV)) fun t7 =>
 letO (some ((L3.getD 0 .any) : AV)) fun t15 =>
 letO (some (x0 : AV)) fun t16 =>
 letO (some (t6 : AV)) fun t17 =>
 letO (idx 1 t16 t17) fun t18 =>
 letO (load1 t18 H4) fun t19 =>
 letO (some (t7 : AV)) fun t20 =>
 letO (idx 1 t19 t20) fun t21 =>
 letO (load1 t21 H4) fun t22 =>
 letO (binF Tryd.prog .mul 3 t15 t22) fun t23 =>
 letO (some (t23 : AV)) fun t5 =>
 letO (binF Tryd.prog .add 3 (L3.getD 1 .any) (.int .i64 1)) fun t24 =>
 letO (some (t24 : AV)) fun t10 =>
 I1 [t5, t10] H4 ∧ μ2 [t5, t10] H4 < μ2 L3 H4) (
 letO (some ((L3.getD 0 .any) : AV)) fun t25 =>
 letO (some (t25 : AV)) fun t4 =>
endK t4 H4 K)

theorem W48_ok {x0 x1 : AV} {H : Heap} {K : AV → Heap → Prop} (h : W48 x0 x1 H K) : ACalls Tryd.prog 48 [x0, x1] H K :=
  acallsB (fn := Tryd.f48) (cfg := cfgOf [] [] [] [] []) (hh := (.dir .nil (.dir .nil (.dir (.dir .nil (.blk (.loop [5, 10] [11, 12, 13, 14, 6, 7, 15, 16, 17, 18, 19, 20, 21, 22, 23, 5, 24, 10] (.dir .nil (.dir .nil (.dir .nil .nil)))))) .nil)))) follows Tryd.func48 (by kernel_rfl) (Nat.le_of_ble_eq_true (by kernel_rfl)) (by kernel_rfl) h

/-- (headword.headwordlaw11.Ledger).free -/
def W54 (x0 : AV) (H : Heap) (K : AV → Heap → Prop) : Prop :=
 letO (cellsOf? x0) fun c1 =>
 letO (some (.nils : AV)) fun t2 =>
 letO (loadN 27 (.iptr c1) H) fun t9 =>
 ACalls Tryd.prog 58 [t9] H fun t10 H2 =>
 letO (some (t10 : AV)) fun t3 =>
 letO (some (.nils : AV)) fun t4 =>
 letO (some (t3 : AV)) fun t11 =>
 letO (some ((.int .i64 0) : AV)) fun t12 =>
 true = true ∧ ∃ (I3 : List AV → Heap → Prop) (μ4 : List AV → Heap → Nat), I3 [t4, t12] H2 ∧ ∀ L5 H6, I3 L5 H6 → -- [t4, t12]
 letO (binF Tryd.prog .lss 3 (L5.getD 1 .any) t11) fun t13 =>
 condA t13 true (
 letO (some ((L5.getD 1 .any) : AV)) fun t14 =>
 letO (some (t14 : AV)) fun t5 =>
 letO (some (.nils : AV)) fun t6 =>
 letO (some (t3 : AV)) fun t15 =>
 letO (some ((.int .i64 0) : AV)) fun t16 =>
 true = true ∧ ∃ (I7 : List AV → Heap → Prop) (μ8 : List AV → Heap → Nat), I7 [t6, t16] H6 ∧ ∀ L9 H10, I7 L9 H10 → -- [t6, t16]
 letO (binF Tryd.prog .lss 3 (L9.getD 1 .any) t15) fun t17 =>
 condA t17 true (
 letO (some ((L9.getD 1 .any) : AV)) fun t18 =>
 letO (some (t18 : AV)) fun t7 =>
 letO (some (t5 : AV)) fun t19 =>
 letO (binF Tryd.prog .mul 3 (.int .i64 4) t19) fun t20 =>
 letO (some (t7 : AV)) fun t21 =>
 letO (binF Tryd.prog .add 3 t20 t21) fun t22 =>
 letO (faddr 3 (.iptr c1)) fun t23 =>
 letO (idxArr 16 1 t23 t22) fun t24 =>
 letO (load1 t24 H10) fun t25 =>
 letO (convF Tryd.prog 5 3 t25) fun t26 =>
 letO (some (t26 : AV)) fun t8 =>
 true = true ∧ ∃ J11 : List AV → Heap → Prop, (
 letO (faddr 2 (.iptr c1)) fun t27 =>
 letO (load1 t27 H10) fun t28 =>
 letO (binF Tryd.prog .rem 5 t28 (.int .u8 2)) fun t29 =>
 letO (binF Tryd.prog .eql 5 t29 (.int .u8 1)) fun t30 =>
 letO (some (t30 : AV)) fun t31 =>
 letO (gval t31 true (some (t8 : AV))) fun t32 =>
 letO (gval t31 true (binF Tryd.prog .rem 3 t32 (.int .i64 3))) fun t33 =>
 letO (gval t31 true (binF Tryd.prog .gtr 3 t33 (.int .i64 0))) fun t34 =>
 letO (pickF t31 t34 (.bool false)) fun t35 =>
 condA t35 true (
 letO (some ((.int .i64 0) : AV)) fun t8 =>
 J11 [t8] H10) (
 J11 [t8] H10)) ∧ ∀ L12 H13, J11 L12 H13 → -- [t8]
 letO (some ((L9.getD 0 .any) : AV)) fun t36 =>
 letO (some ((L12.getD 0 .any) : AV)) fun t37 =>
 letO (binF Tryd.prog .quo 3 t37 (.int .i64 3)) fun t38 =>
 letO (binF Tryd.prog .rem 3 t38 (.int .i64 10)) fun t39 =>
 letO (literalF Tryd.prog 23 1 [(0, t39)]) fun c14 =>
 appendA 1 8 t36 (.imm 1 true c14) (fun t41 H15 =>
 letO (some (t41 : AV)) fun t6 =>
 letO (binF Tryd.prog .add 3 (L9.getD 1 .any) (.int .i64 1)) fun t42 =>
 letO (some (t42 : AV)) fun t16 =>
 I7 [t6, t16] H15 ∧ μ8 [t6, t16] H15 < μ8 L9 H10) H13) (
 letO (some ((L5.getD 0 .any) : AV)) fun t43 =>
 letO (some ((L9.getD 0 .any) : AV)) fun t44 =>
 letO (literalF Tryd.prog 22 1 [(0, t44)]) fun c16 =>
 appendA 1 24 t43 (.imm 1 true c16) (fun t46 H17 =>
 letO (some (t46 : AV)) fun t4 =>
 letO (binF Tryd.prog .add 3 (L5.getD 1 .any) (.int .i64 1)) fun t47 =>
 letO (some (t47 : AV)) fun t12 =>
 I3 [t4, t12] H17 ∧ μ4 [t4, t12] H17 < μ4 L5 H6) H10)) (
 letO (some ((L5.getD 0 .any) : AV)) fun t48 =>
 letO (some (t48 : AV)) fun t2 =>
endK t2 H6 K)

theorem W54_ok {x0 : AV} {H : Heap} {K : AV → Heap → Prop} (h : W54 x0 H K) : ACalls Tryd.prog 54 [x0] H K :=
  acallsB (fn := Tryd.f54) (cfg := cfgOf [] [] [] [] []) (hh := (.dir .nil (.dir .nil (.dir .nil (.dir (.dir .nil (.blk (.loop [4, 12] [13, 14, 5, 6, 15, 16, 17, 18, 7, 19, 20, 21, 22, 23, 24, 25, 26, 8, 27, 28, 29, 30, 31, 32, 33, 34, 35, 36, 37, 38, 39, 40, 41, 42, 43, 44, 45, 46, 4, 47, 12] (.dir .nil (.dir .nil (.dir (.blk (.dir .nil (.dir .nil (.dir (.dir .nil (.blk (.loop [6, 16] [17, 18, 7, 19, 20, 21, 22, 23, 24, 25, 26, 8, 27, 28, 29, 30, 31, 32, 33, 34, 35, 36, 37, 38, 39, 40, 41, 6, 42, 16] (.dir .nil (.dir .nil (.dir (.blk (.dir .nil (.dir .nil (.cut [8] [27, 28, 29, 30, 31, 32, 33, 34, 35, 8] (.dir .nil .nil) .nil)))) .nil)))))) .nil)))) .nil)))))) .nil))))) follows Tryd.func54 (by kernel_rfl) (Nat.le_of_ble_eq_true (by kernel_rfl)) (by kernel_rfl) h

/-- (headword.headwordlaw11.Ledger).size -/
def W58 (x0 : AV) (H : Heap) (K : AV → Heap → Prop) : Prop :=
 letO (cellsOf? x0) fun c1 =>
 letO (some ((.int .i64 0) : AV)) fun t2 =>
 letO (faddr 0 (.iptr c1)) fun t3 =>
 letO (load1 t3 H) fun t4 =>
 letO (convF Tryd.prog 5 3 t4) fun t5 =>
 letO (binF Tryd.prog .rem 3 t5 (.int .i64 4)) fun t6 =>
 letO (binF Tryd.prog .add 3 (.int .i64 1) t6) fun t7 =>
 letO (some (t7 : AV)) fun t2 =>
endK t2 H K

theorem W58_ok {x0 : AV} {H : Heap} {K : AV → Heap → Prop} (h : W58 x0 H K) : ACalls Tryd.prog 58 [x0] H K :=
  acallsB (fn := Tryd.f58) (cfg := cfgOf [] [] [] [] []) (hh := (.dir .nil .nil)) follows Tryd.func58 (by kernel_rfl) (Nat.le_of_ble_eq_true (by kernel_rfl)) (by kernel_rfl) h

/-- headword.headwordref11.sums -/
def W72 (x0 x1 : AV) (H : Heap) (K : AV → Heap → Prop) : Prop :=
 letO (some ((.int .i64 0) : AV)) fun t4 =>
 letO (some ((.int .i64 0) : AV)) fun t5 =>
 letO (some ((.int .i64 0) : AV)) fun t6 =>
 letO (some ((.int .i64 0) : AV)) fun t7 =>
 letO (some ((.int .i64 0) : AV)) fun t8 =>
 true = true ∧ ∃ (I1 : List AV → Heap → Prop) (μ2 : List AV → Heap → Nat), I1 [t6, t7, t8] H ∧ ∀ L3 H4, I1 L3 H4 → -- [t6, t7, t8]
 letO (some ((L3.getD 2 .any) : AV)) fun t9 =>
 letO (some (x0 : AV)) fun t10 =>
 letO (lenA t10) fun t11 =>
 letO (binF Tryd.prog .lss 3 t9 t11) fun t12 =>
 condA t12 true (
 letO (some ((L3.getD 0 .any) : AV)) fun t15 =>
 letO (some (x0 : AV)) fun t16 =>
 letO (some (x1 : AV)) fun t17 =>
 letO (idx 1 t16 t17) fun t18 =>
 letO (load1 t18 H4) fun t19 =>
 letO (some ((L3.getD 2 .any) : AV)) fun t20 =>
 letO (idx 1 t19 t20) fun t21 =>
 letO (load1 t21 H4) fun t22 =>
 letO (binF Tryd.prog .add 3 t15 t22) fun t23 =>
 letO (some (t23 : AV)) fun t6 =>
 letO (some ((L3.getD 1 .any) : AV)) fun t24 =>
 letO (some (x0 : AV)) fun t25 =>
 letO (some ((L3.getD 2 .any) : AV)) fun t26 =>
 letO (idx 1 t25 t26) fun t27 =>
 letO (load1 t27 H4) fun t28 =>
 letO (some (x1 : AV)) fun t29 =>
 letO (idx 1 t28 t29) fun t30 =>
 letO (load1 t30 H4) fun t31 =>
 letO (binF Tryd.prog .add 3 t24 t31) fun t32 =>
 letO (some (t32 : AV)) fun t7 =>
 letO (some ((L3.getD 2 .any) : AV)) fun t13 =>
 letO (binF Tryd.prog .add 3 t13 (.int .i64 1)) fun t14 =>
 letO (some (t14 : AV)) fun t8 =>
 I1 [t6, t7, t8] H4 ∧ μ2 [t6, t7, t8] H4 < μ2 L3 H4) (
 letO (some ((L3.getD 0 .any) : AV)) fun t33 =>
 letO (some ((L3.getD 1 .any) : AV)) fun t34 =>
 letO (some (t33 : AV)) fun t4 =>
 letO (some (t34 : AV)) fun t5 =>
endK (.tup [t4, t5]) H4 K)

theorem W72_ok {x0 x1 : AV} {H : Heap} {K : AV → Heap → Prop} (h : W72 x0 x1 H K) : ACalls Tryd.prog 72 [x0, x1] H K :=
  acallsB (fn := Tryd.f72) (cfg := cfgOf [] [] [] [] []) (hh := (.dir .nil (.dir .nil (.dir (.dir .nil (.blk (.loop [6, 7, 8] [9, 10, 11, 12, 15, 16, 17, 18, 19, 20, 21, 22, 23, 6, 24, 25, 26, 27, 28, 29, 30, 31, 32, 7, 13, 14, 8] (.dir (.dir .nil .nil) (.dir .nil .nil))))) .nil)))) follows Tryd.func72 (by kernel_rfl) (Nat.le_of_ble_eq_true (by kernel_rfl)) (by kernel_rfl) h

/-- headword.headwordref11.within -/
def W74 (x0 : AV) (H : Heap) (K : AV → Heap → Prop) : Prop :=
 letO (some (.nils : AV)) fun t2 =>
 letO (some (.nils : AV)) fun t3 =>
 letO (some (x0 : AV)) fun t6 =>
 letO (lenA t6) fun t7 =>
 ACalls Tryd.prog 76 [t7, .nils] H fun t8 H1 =>
 letO (some (t8 : AV)) fun t4 =>
 letO (some ((.int .i64 0) : AV)) fun t5 =>
 true = true ∧ ∃ (I2 : List AV → Heap → Prop) (μ3 : List AV → Heap → Nat), I2 [t3, t5] H1 ∧ ∀ L4 H5, I2 L4 H5 → -- [t3, t5]
 letO (some ((L4.getD 1 .any) : AV)) fun t9 =>
 letO (some (t4 : AV)) fun t10 =>
 letO (lenA t10) fun t11 =>
 letO (binF Tryd.prog .lss 3 t9 t11) fun t12 =>
 condA t12 true (
 true = true ∧ ∃ J6 : List AV → Heap → Prop, (
 letO (some (x0 : AV)) fun t15 =>
 letO (some (t4 : AV)) fun t16 =>
 letO (some ((L4.getD 1 .any) : AV)) fun t17 =>
 letO (idx 1 t16 t17) fun t18 =>
 letO (load1 t18 H5) fun t19 =>
 ACalls Tryd.prog 81 [t15, t19] H5 fun t20 H7 =>
 letO (binF Tryd.prog .gtr 3 t20 (.int .i64 0)) fun t21 =>
 condA t21 true (
 letO (some ((L4.getD 0 .any) : AV)) fun t22 =>
 letO (some (t4 : AV)) fun t23 =>
 letO (some ((L4.getD 1 .any) : AV)) fun t24 =>
 letO (idx 1 t23 t24) fun t25 =>
 letO (load1 t25 H7) fun t26 =>
 letO (literalF Tryd.prog 22 1 [(0, t26)]) fun c8 =>
 appendA 1 24 t22 (.imm 1 true c8) (fun t28 H9 =>
 letO (some (t28 : AV)) fun t3 =>
 J6 [t3] H9) H7) (
 J6 [(L4.getD 0 .any)] H7)) ∧ ∀ L10 H11, J6 L10 H11 → -- [t3]
 letO (some ((L4.getD 1 .any) : AV)) fun t13 =>
 letO (binF Tryd.prog .add 3 t13 (.int .i64 1)) fun t14 =>
 letO (some (t14 : AV)) fun t5 =>
 I2 [(L10.getD 0 .any), t5] H11 ∧ μ3 [(L10.getD 0 .any), t5] H11 < μ3 L4 H5) (
 letO (some ((L4.getD 0 .any) : AV)) fun t29 =>
 letO (some (t29 : AV)) fun t2 =>
endK t2 H5 K)

theorem W74_ok {x0 : AV} {H : Heap} {K : AV → Heap → Prop} (h : W74 x0 H K) : ACalls Tryd.prog 74 [x0] H K :=
  acallsB (fn := Tryd.f74) (cfg := cfgOf [] [] [] [] []) (hh := (.dir .nil (.dir .nil (.dir .nil (.dir (.dir .nil (.blk (.loop [3, 5] [9, 10, 11, 12, 15, 16, 17, 18, 19, 20, 21, 22, 23, 24, 25, 26, 27, 28, 3, 13, 14, 5] (.dir (.dir .nil .nil) (.cut [3] [15, 16, 17, 18, 19, 20, 21, 22, 23, 24, 25, 26, 27, 28, 3] (.blk (.dir .nil .nil)) .nil))))) .nil))))) follows Tryd.func74 (by kernel_rfl) (Nat.le_of_ble_eq_true (by kernel_rfl)) (by kernel_rfl) h

/-- headword.headwordref11.plans -/
def W76 (x0 x1 : AV) (H : Heap) (K : AV → Heap → Prop) : Prop :=
 letO (some (.nils : AV)) fun t4 =>
 letO (some (x1 : AV)) fun t7 =>
 letO (lenA t7) fun t8 =>
 letO (some (x0 : AV)) fun t9 =>
 letO (binF Tryd.prog .eql 3 t8 t9) fun t10 =>
 condA t10 true (
 letO (some (x1 : AV)) fun t11 =>
 letO (literalF Tryd.prog 22 1 [(0, t11)]) fun c1 =>
 letO (some ((.imm 1 true c1) : AV)) fun t4 =>
endK t4 H K) (
 letO (some (.nils : AV)) fun t5 =>
 letO (some ((.int .i64 0) : AV)) fun t6 =>
 true = true ∧ ∃ (I2 : List AV → Heap → Prop) (μ3 : List AV → Heap → Nat), I2 [t5, t6] H ∧ ∀ L4 H5, I2 L4 H5 → -- [t5, t6]
 letO (some ((L4.getD 1 .any) : AV)) fun t13 =>
 letO (some (x0 : AV)) fun t14 =>
 letO (binF Tryd.prog .lss 3 t13 t14) fun t15 =>
 condA t15 true (
 true = true ∧ ∃ J6 : List AV → Heap → Prop, (
 letO (some (x1 : AV)) fun t18 =>
 letO (some ((L4.getD 1 .any) : AV)) fun t19 =>
 ACalls Tryd.prog 89 [t18, t19] H5 fun t20 H7 =>
 letO (unF .not t20) fun t21 =>
 condA t21 true (
 letO (some ((L4.getD 0 .any) : AV)) fun t22 =>
 letO (some (x0 : AV)) fun t23 =>
 letO (literalF Tryd.prog 23 0 []) fun c8 =>
 letO (some (x1 : AV)) fun t25 =>
 appendA 1 8 (.imm 0 true c8) t25 (fun t26 H9 =>
 letO (some ((L4.getD 1 .any) : AV)) fun t27 =>
 letO (literalF Tryd.prog 23 1 [(0, t27)]) fun c10 =>
 appendA 1 8 t26 (.imm 1 true c10) (fun t29 H11 =>
 ACalls Tryd.prog 76 [t23, t29] H11 fun t30 H12 =>
 appendA 1 24 t22 t30 (fun t31 H13 =>
 letO (some (t31 : AV)) fun t5 =>
 J6 [t5] H13) H12) H9) H7) (
 J6 [(L4.getD 0 .any)] H7)) ∧ ∀ L14 H15, J6 L14 H15 → -- [t5]
 letO (some ((L4.getD 1 .any) : AV)) fun t16 =>
 letO (binF Tryd.prog .add 3 t16 (.int .i64 1)) fun t17 =>
 letO (some (t17 : AV)) fun t6 =>
 I2 [(L14.getD 0 .any), t6] H15 ∧ μ3 [(L14.getD 0 .any), t6] H15 < μ3 L4 H5) (
 letO (some ((L4.getD 0 .any) : AV)) fun t32 =>
 letO (some (t32 : AV)) fun t4 =>
endK t4 H5 K))

theorem W76_ok {x0 x1 : AV} {H : Heap} {K : AV → Heap → Prop} (h : W76 x0 x1 H K) : ACalls Tryd.prog 76 [x0, x1] H K :=
  acallsB (fn := Tryd.f76) (cfg := cfgOf [] [] [] [] []) (hh := (.dir .nil (.dir (.dir .nil (.dir .nil .nil)) (.dir .nil (.dir (.dir .nil (.blk (.loop [5, 6] [13, 14, 15, 18, 19, 20, 21, 22, 23, 24, 25, 26, 27, 28, 29, 30, 31, 5, 16, 17, 6] (.dir (.dir .nil .nil) (.cut [5] [18, 19, 20, 21, 22, 23, 24, 25, 26, 27, 28, 29, 30, 31, 5] (.blk (.dir .nil .nil)) .nil))))) .nil))))) follows Tryd.func76 (by kernel_rfl) (Nat.le_of_ble_eq_true (by kernel_rfl)) (by kernel_rfl) h

/-- headword.headwordref11.in -/
def W78 (x0 x1 x2 : AV) (H : Heap) (K : AV → Heap → Prop) : Prop :=
 letO (some ((.bool false) : AV)) fun t6 =>
 letO (some (x0 : AV)) fun t7 =>
 letO (some (x1 : AV)) fun t8 =>
 letO (binF Tryd.prog .geq 3 t7 t8) fun t9 =>
 letO (some (t9 : AV)) fun t10 =>
 letO (gval t10 true (some (x0 : AV))) fun t11 =>
 letO (gval t10 true (some (x2 : AV))) fun t12 =>
 letO (gval t10 true (binF Tryd.prog .leq 3 t11 t12)) fun t13 =>
 letO (pickF t10 t13 (.bool false)) fun t14 =>
 letO (some (t14 : AV)) fun t6 =>
endK t6 H K

theorem W78_ok {x0 x1 x2 : AV} {H : Heap} {K : AV → Heap → Prop} (h : W78 x0 x1 x2 H K) : ACalls Tryd.prog 78 [x0, x1, x2] H K :=
  acallsB (fn := Tryd.f78) (cfg := cfgOf [] [] [] [] []) (hh := (.dir .nil .nil)) follows Tryd.func78 (by kernel_rfl) (Nat.le_of_ble_eq_true (by kernel_rfl)) (by kernel_rfl) h

/-- headword.headwordref11.planned -/
def W80 (x0 x1 : AV) (H : Heap) (K : AV → Heap → Prop) : Prop :=
 letO (some ((.int .i64 0) : AV)) fun t4 =>
 letO (some (x1 : AV)) fun t6 =>
 letO (lenA t6) fun t7 =>
 letO (some (x0 : AV)) fun t8 =>
 letO (binF Tryd.prog .neq 3 t7 t8) fun t9 =>
 condA t9 true (
 letO (some ((.int .i64 5) : AV)) fun t4 =>
endK t4 H K) (
 letO (some ((.int .i64 0) : AV)) fun t5 =>
 true = true ∧ ∃ (I1 : List AV → Heap → Prop) (μ2 : List AV → Heap → Nat), I1 [t5] H ∧ ∀ L3 H4, I1 L3 H4 → -- [t5]
 letO (some ((L3.getD 0 .any) : AV)) fun t10 =>
 letO (some (x1 : AV)) fun t11 =>
 letO (lenA t11) fun t12 =>
 letO (binF Tryd.prog .lss 3 t10 t12) fun t13 =>
 condA t13 true (
 letO (some (x1 : AV)) fun t16 =>
 letO (some ((L3.getD 0 .any) : AV)) fun t17 =>
 letO (idx 1 t16 t17) fun t18 =>
 letO (load1 t18 H4) fun t19 =>
 letO (some (x0 : AV)) fun t20 =>
 letO (binF Tryd.prog .sub 3 t20 (.int .i64 1)) fun t21 =>
 ACalls Tryd.prog 78 [t19, (.int .i64 0), t21] H4 fun t22 H5 =>
 letO (unF .not t22) fun t23 =>
 condA t23 true (
 letO (some ((.int .i64 2) : AV)) fun t4 =>
endK t4 H5 K) (
 true = true ∧
 letO (some (x1 : AV)) fun t24 =>
 letO (some ((L3.getD 0 .any) : AV)) fun t25 =>
 letO (slc 1 t24 none (some t25) none) fun t26 =>
 letO (some (x1 : AV)) fun t27 =>
 letO (some ((L3.getD 0 .any) : AV)) fun t28 =>
 letO (idx 1 t27 t28) fun t29 =>
 letO (load1 t29 H5) fun t30 =>
 ACalls Tryd.prog 89 [t26, t30] H5 fun t31 H6 =>
 condA t31 true (
 letO (some ((.int .i64 6) : AV)) fun t4 =>
endK t4 H6 K) (
 letO (some ((L3.getD 0 .any) : AV)) fun t14 =>
 letO (binF Tryd.prog .add 3 t14 (.int .i64 1)) fun t15 =>
 letO (some (t15 : AV)) fun t5 =>
 I1 [t5] H6 ∧ μ2 [t5] H6 < μ2 L3 H4))) (
 letO (some ((.int .i64 0) : AV)) fun t4 =>
endK t4 H4 K))

theorem W80_ok {x0 x1 : AV} {H : Heap} {K : AV → Heap → Prop} (h : W80 x0 x1 H K) : ACalls Tryd.prog 80 [x0, x1] H K :=
  acallsB (fn := Tryd.f80) (cfg := cfgOf [] [] [(8, [0, 0, 3, 0, 0, 24, 56, 127])] [] []) (hh := (.dir .nil (.dir (.dir .nil (.dir .nil .nil)) (.dir (.dir .nil (.blk (.loop [5] [10, 11, 12, 13, 16, 17, 18, 19, 20, 21, 22, 23, 4, 24, 25, 26, 27, 28, 29, 30, 31, 14, 15, 5] (.dir (.dir .nil .nil) (.dir (.blk (.dir (.dir .nil (.dir .nil .nil)) (.dir .nil (.dir .nil .nil)))) .nil))))) .nil)))) follows Tryd.func80 (by kernel_rfl) (Nat.le_of_ble_eq_true (by kernel_rfl)) (by kernel_rfl) h

/-- headword.headwordref11.least -/
def W81 (x0 x1 : AV) (H : Heap) (K : AV → Heap → Prop) : Prop :=
 letO (some ((.int .i64 0) : AV)) fun t4 =>
 true = true ∧
 letO (some (x0 : AV)) fun t7 =>
 letO (idx 1 t7 (.int .i64 0)) fun t8 =>
 letO (load1 t8 H) fun t9 =>
 letO (some (x1 : AV)) fun t10 =>
 letO (idx 1 t10 (.int .i64 0)) fun t11 =>
 letO (load1 t11 H) fun t12 =>
 letO (idx 1 t9 t12) fun t13 =>
 letO (load1 t13 H) fun t14 =>
 letO (some (t14 : AV)) fun t5 =>
 letO (some ((.int .i64 1) : AV)) fun t6 =>
 true = true ∧ ∃ (I1 : List AV → Heap → Prop) (μ2 : List AV → Heap → Nat), I1 [t5, t6] H ∧ ∀ L3 H4, I1 L3 H4 → -- [t5, t6]
 letO (some ((L3.getD 1 .any) : AV)) fun t15 =>
 letO (some (x1 : AV)) fun t16 =>
 letO (lenA t16) fun t17 =>
 letO (binF Tryd.prog .lss 3 t15 t17) fun t18 =>
 condA t18 true (
 true = true ∧
 letO (some ((L3.getD 0 .any) : AV)) fun t21 =>
 letO (some (x0 : AV)) fun t22 =>
 letO (some ((L3.getD 1 .any) : AV)) fun t23 =>
 letO (idx 1 t22 t23) fun t24 =>
 letO (load1 t24 H4) fun t25 =>
 letO (some (x1 : AV)) fun t26 =>
 letO (some ((L3.getD 1 .any) : AV)) fun t27 =>
 letO (idx 1 t26 t27) fun t28 =>
 letO (load1 t28 H4) fun t29 =>
 letO (idx 1 t25 t29) fun t30 =>
 letO (load1 t30 H4) fun t31 =>
 letO (min2F t21 t31) fun t32 =>
 letO (some (t32 : AV)) fun t5 =>
 letO (some ((L3.getD 1 .any) : AV)) fun t19 =>
 letO (binF Tryd.prog .add 3 t19 (.int .i64 1)) fun t20 =>
 letO (some (t20 : AV)) fun t6 =>
 I1 [t5, t6] H4 ∧ μ2 [t5, t6] H4 < μ2 L3 H4) (
 letO (some ((L3.getD 0 .any) : AV)) fun t33 =>
 letO (some (t33 : AV)) fun t4 =>
endK t4 H4 K)

theorem W81_ok {x0 x1 : AV} {H : Heap} {K : AV → Heap → Prop} (h : W81 x0 x1 H K) : ACalls Tryd.prog 81 [x0, x1] H K :=
  acallsB (fn := Tryd.f81) (cfg := cfgOf [] [] [(1, [0, 1, 3, 0, 8, 24, 63, 127, 255]), (5, [0, 0, 0, 6, 14, 0, 0, 96, 224, 510, 1022, 2047, 4095])] [] []) (hh := (.dir .nil (.dir .nil (.dir (.dir .nil (.blk (.loop [5, 6] [15, 16, 17, 18, 21, 22, 23, 24, 25, 26, 27, 28, 29, 30, 31, 32, 5, 19, 20, 6] (.dir (.dir .nil .nil) (.dir .nil .nil))))) .nil)))) follows Tryd.func81 (by kernel_rfl) (Nat.le_of_ble_eq_true (by kernel_rfl)) (by kernel_rfl) h

/-- headword.headwordref11.has -/
def W89 (x0 x1 : AV) (H : Heap) (K : AV → Heap → Prop) : Prop :=
 letO (some ((.bool false) : AV)) fun t4 =>
 letO (some ((.int .i64 0) : AV)) fun t5 =>
 true = true ∧ ∃ (I1 : List AV → Heap → Prop) (μ2 : List AV → Heap → Nat), I1 [t5] H ∧ ∀ L3 H4, I1 L3 H4 → -- [t5]
 letO (some ((L3.getD 0 .any) : AV)) fun t6 =>
 letO (some (x0 : AV)) fun t7 =>
 letO (lenA t7) fun t8 =>
 letO (binF Tryd.prog .lss 3 t6 t8) fun t9 =>
 condA t9 true (
 letO (some (x0 : AV)) fun t12 =>
 letO (some ((L3.getD 0 .any) : AV)) fun t13 =>
 letO (idx 1 t12 t13) fun t14 =>
 letO (load1 t14 H4) fun t15 =>
 letO (some (x1 : AV)) fun t16 =>
 letO (binF Tryd.prog .eql 3 t15 t16) fun t17 =>
 condA t17 true (
 letO (some ((.bool true) : AV)) fun t4 =>
endK t4 H4 K) (
 letO (some ((L3.getD 0 .any) : AV)) fun t10 =>
 letO (binF Tryd.prog .add 3 t10 (.int .i64 1)) fun t11 =>
 letO (some (t11 : AV)) fun t5 =>
 I1 [t5] H4 ∧ μ2 [t5] H4 < μ2 L3 H4)) (
 letO (some ((.bool false) : AV)) fun t4 =>
endK t4 H4 K)

theorem W89_ok {x0 x1 : AV} {H : Heap} {K : AV → Heap → Prop} (h : W89 x0 x1 H K) : ACalls Tryd.prog 89 [x0, x1] H K :=
  acallsB (fn := Tryd.f89) (cfg := cfgOf [] [] [] [] []) (hh := (.dir .nil (.dir (.dir .nil (.blk (.loop [5] [6, 7, 8, 9, 12, 13, 14, 15, 16, 17, 4, 10, 11, 5] (.dir (.dir .nil .nil) (.dir (.blk (.dir .nil (.dir .nil .nil))) .nil))))) .nil))) follows Tryd.func89 (by kernel_rfl) (Nat.le_of_ble_eq_true (by kernel_rfl)) (by kernel_rfl) h


end Go.Proofs.YtbofkeoebnjjkaaDoor
