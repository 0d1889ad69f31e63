import Derived.Test.YtmmfelpgcdlgfaaDoorConB
/- The functions of the statement TopFalling that the common text does not hold, each in the words of its walk; made by program. -/
set_option linter.unusedVariables false
set_option maxRecDepth 100000
namespace Go.Proofs.YtmmfelpgcdlgfaaDoor
open Go.Av
/-- headword.headwordtop.TopArches -/
def W4 (x0 x1 x2 : AV) (H : Heap) (K : AV → Heap → Prop) : Prop :=
 letO (cellsOf? x2) fun c1 =>
 letO (some ((.bool false) : AV)) fun t6 =>
 letO (some (x0 : AV)) fun t21 =>
 letO (convF Tryd.prog 5 3 t21) fun t22 =>
 letO (binF Tryd.prog .rem 3 t22 (.int .i64 4)) fun t23 =>
 letO (binF Tryd.prog .add 3 (.int .i64 2) t23) fun t24 =>
 letO (some (t24 : AV)) fun t7 =>
 letO (some ((.str (ByteArray.mk #[])) : AV)) fun t8 =>
 letO (some (t7 : AV)) fun t25 =>
 letO (binF Tryd.prog .sub 3 t25 (.int .i64 1)) fun t26 =>
 letO (buildF Tryd.prog 47 [(0, t26)]) fun t27 =>
 allocA [(.int .i64 0), .nils] (fun t9 H2 =>
 storeA 2 t9 t27 (fun H3 =>
 allocA [(.bool false), (.bool false), (.bool false), (.bool false), (.bool false)] (fun t10 H4 =>
 letO (some ((.int .i64 0) : AV)) fun t11 =>
 letO (some (x1 : AV)) fun t28 =>
 letO (convF Tryd.prog 5 3 t28) fun t29 =>
 letO (binF Tryd.prog .rem 3 t29 (.int .i64 11)) fun t30 =>
 letO (slcArr 10 1 (.iptr c1) none (some t30) none) fun t31 =>
 letO (lenA t31) fun t32 =>
 letO (some ((.int .i64 0) : AV)) fun t33 =>
 true = true ∧ ∃ (I5 : List AV → Heap → Prop) (μ6 : List AV → Heap → Nat), I5 [t8, t11, t33] H4 ∧ ∀ L7 H8, I5 L7 H8 → -- [t8, t11, t33]
 letO (binF Tryd.prog .lss 3 (L7.getD 2 .any) t32) fun t34 =>
 condA t34 true (
 true = true ∧ ∃ J9 : List AV → Heap → Prop, (
 letO (idx 1 t31 (L7.getD 2 .any)) fun t35 =>
 letO (load1 t35 H8) fun t36 =>
 letO (some (t36 : AV)) fun t13 =>
 letO (some (t13 : AV)) fun t37 =>
 letO (convF Tryd.prog 5 3 t37) fun t38 =>
 letO (some (t7 : AV)) fun t39 =>
 letO (binF Tryd.prog .rem 3 t38 t39) fun t40 =>
 letO (some (t40 : AV)) fun t14 =>
 letO (some ((L7.getD 0 .any) : AV)) fun t41 =>
 letO (some (t14 : AV)) fun t42 =>
 letO (some (t14 : AV)) fun t43 =>
 letO (binF Tryd.prog .add 3 t43 (.int .i64 1)) fun t44 =>
 letO (slcS (.str (ByteArray.mk #[97, 98, 99, 100, 101])) (some t42) (some t44) none) fun t45 =>
 letO (binF Tryd.prog .add 9 t41 t45) fun t46 =>
 letO (some (t46 : AV)) fun t8 =>
 letO (faddr 1 t9) fun t47 =>
 letO (load1 t47 H8) fun t48 =>
 letO (some (t14 : AV)) fun t49 =>
 letO (literalF Tryd.prog 35 1 [(0, t49)]) fun c10 =>
 appendA 1 8 t48 (.imm 1 true c10) (fun t51 H11 =>
 letO (faddr 1 t9) fun t52 =>
 storeA 1 t52 t51 (fun H12 =>
 letO (some (t14 : AV)) fun t53 =>
 letO (idxArr 5 1 t10 t53) fun t54 =>
 letO (load1 t54 H12) fun t55 =>
 letO (unF .not t55) fun t56 =>
 condA t56 true (
 letO (some (t14 : AV)) fun t57 =>
 letO (idxArr 5 1 t10 t57) fun t58 =>
 storeA 1 t58 (.bool true) (fun H13 =>
 letO (some ((L7.getD 1 .any) : AV)) fun t59 =>
 letO (binF Tryd.prog .add 3 t59 (.int .i64 1)) fun t60 =>
 letO (some (t60 : AV)) fun t11 =>
 J9 [t8, t11] H13) H12) (
 J9 [t8, (L7.getD 1 .any)] H12)) H11) H8) ∧ ∀ L14 H15, J9 L14 H15 → -- [t8, t11]
 letO (binF Tryd.prog .add 3 (L7.getD 2 .any) (.int .i64 1)) fun t61 =>
 letO (some (t61 : AV)) fun t33 =>
 I5 [(L14.getD 0 .any), (L14.getD 1 .any), t33] H15 ∧ μ6 [(L14.getD 0 .any), (L14.getD 1 .any), t33] H15 < μ6 L7 H8) (
 letO (some ((L7.getD 0 .any) : AV)) fun t63 =>
 letO (some (t7 : AV)) fun t64 =>
 ACalls Tryd.prog 16 [t63, t64] H8 fun t65 H16 =>
 letO (some (t65 : AV)) fun t62 =>
 letO (extrF t62 0) fun t66 =>
 letO (extrF t62 1) fun t67 =>
 letO (some (t66 : AV)) fun t15 =>
 letO (some (t67 : AV)) fun t16 =>
 letO (loadN 2 t9 H16) fun t69 =>
 ACalls Tryd.prog 17 [t69] H16 fun t70 H17 =>
 letO (some (t70 : AV)) fun t68 =>
 letO (extrF t68 0) fun t71 =>
 letO (extrF t68 1) fun t72 =>
 letO (some (t71 : AV)) fun t17 =>
 letO (some (t72 : AV)) fun t18 =>
 letO (some (t7 : AV)) fun t73 =>
 letO (faddr 0 t9) fun t74 =>
 storeA 1 t74 t73 (fun H18 =>
 letO (loadN 2 t9 H18) fun t76 =>
 ACalls Tryd.prog 17 [t76] H18 fun t77 H19 =>
 letO (some (t77 : AV)) fun t75 =>
 letO (extrF t75 0) fun t78 =>
 letO (extrF t75 1) fun t79 =>
 letO (some (t78 : AV)) fun t19 =>
 letO (some (t79 : AV)) fun t20 =>
 letO (some (t16 : AV)) fun t80 =>
 letO (binF Tryd.prog .neq 32 t80 (.int .i64 0)) fun t81 =>
 letO (some (t81 : AV)) fun t82 =>
 letO (gval t82 false (some (t18 : AV))) fun t83 =>
 letO (gval t82 false (binF Tryd.prog .neq 32 t83 (.int .i64 0))) fun t84 =>
 letO (pickF t82 (.bool true) t84) fun t85 =>
 letO (some (t85 : AV)) fun t86 =>
 letO (gval t86 false (some (t20 : AV))) fun t87 =>
 letO (gval t86 false (binF Tryd.prog .neq 32 t87 (.int .i64 0))) fun t88 =>
 letO (pickF t86 (.bool true) t88) fun t89 =>
 letO (some (t89 : AV)) fun t90 =>
 letO (gval t90 false (some (t19 : AV))) fun t91 =>
 letO (gval t90 false (some ((L7.getD 1 .any) : AV))) fun t92 =>
 letO (gval t90 false (binF Tryd.prog .neq 3 t91 t92)) fun t93 =>
 letO (pickF t90 (.bool true) t93) fun t94 =>
 letO (some (t94 : AV)) fun t95 =>
 letO (gval t95 false (some (t15 : AV))) fun t96 =>
 letO (gval t95 false (lenA t96)) fun t97 =>
 letO (gval t95 false (some ((L7.getD 0 .any) : AV))) fun t98 =>
 letO (gval t95 false (lenS t98)) fun t99 =>
 letO (gval t95 false (binF Tryd.prog .gtr 3 t97 t99)) fun t100 =>
 letO (pickF t95 (.bool true) t100) fun t101 =>
 condA t101 true (
 letO (some ((.bool false) : AV)) fun t6 =>
endK t6 H19 K) (
 letO (some (t15 : AV)) fun t102 =>
 letO (lenA t102) fun t103 =>
 letO (binF Tryd.prog .eql 3 t103 (.int .i64 0)) fun t104 =>
 letO (some (t104 : AV)) fun t105 =>
 letO (gval t105 false (some (t17 : AV))) fun t106 =>
 letO (gval t105 false (some (t7 : AV))) fun t107 =>
 letO (gval t105 false (binF Tryd.prog .sub 3 t107 (.int .i64 1))) fun t108 =>
 letO (gval t105 false (some (t15 : AV))) fun t109 =>
 letO (gval t105 false (lenA t109)) fun t110 =>
 letO (gval t105 false (binF Tryd.prog .add 3 t108 t110)) fun t111 =>
 letO (gval t105 false (binF Tryd.prog .geq 3 t106 t111)) fun t112 =>
 letO (pickF t105 (.bool true) t112) fun t113 =>
 letO (some (t113 : AV)) fun t114 =>
 letO (gval t114 true (some (t17 : AV))) fun t115 =>
 letO (gval t114 true (some ((L7.getD 1 .any) : AV))) fun t116 =>
 letO (gval t114 true (binF Tryd.prog .geq 3 t115 t116)) fun t117 =>
 letO (pickF t114 t117 (.bool false)) fun t118 =>
 letO (some (t118 : AV)) fun t119 =>
 ∃ J20 : AV → Heap → Prop, condG t119 true (ACalls Tryd.prog 18 [] H19 fun t120 H21 =>
 J20 t120 H21) (J20 (.tup []) H19) ∧ ∀ t120 H22, J20 t120 H22 →
 letO (pickF t119 t120 (.bool false)) fun t121 =>
 letO (some (t121 : AV)) fun t6 =>
endK t6 H22 K)) H17)) H3) H2) H

theorem W4_ok {x0 x1 x2 : AV} {H : Heap} {K : AV → Heap → Prop} (h : W4 x0 x1 x2 H K) : ACalls Tryd.prog 4 [x0, x1, x2] H K :=
  acallsB (fn := Tryd.f4) (cfg := cfgOf [] [] [] [] [] []) (hh := (.dir .nil (.dir .nil (.dir .nil (.dir .nil (.dir .nil (.dir .nil (.dir (.dir .nil (.blk (.loop [8, 11, 33] [34, 35, 36, 13, 37, 38, 39, 40, 14, 41, 42, 43, 44, 45, 46, 8, 47, 48, 49, 50, 51, 52, 53, 54, 55, 56, 57, 58, 59, 60, 11, 61, 33] (.dir .nil (.dir .nil (.cut [8, 11] [35, 36, 13, 37, 38, 39, 40, 14, 41, 42, 43, 44, 45, 46, 8, 47, 48, 49, 50, 51, 52, 53, 54, 55, 56, 57, 58, 59, 60, 11] (.blk (.dir .nil (.dir .nil (.dir .nil (.dir .nil (.dir .nil (.dir .nil .nil))))))) .nil)))))) (.dir .nil (.dir .nil (.dir .nil (.dir .nil (.dir (.dir .nil (.dir .nil .nil)) .nil))))))))))))) follows Tryd.func4 (by kernel_rfl) (Nat.le_of_ble_eq_true (by kernel_rfl)) (by kernel_rfl) h

/-- headword.headwordtop.TopSpans -/
def W5 (x0 x1 : AV) (H : Heap) (K : AV → Heap → Prop) : Prop :=
 letO (cellsOf? x1) fun c1 =>
 letO (some ((.bool false) : AV)) fun t4 =>
 letO (buildF Tryd.prog 47 [(0, (.int .i64 2))]) fun t23 =>
 allocA [(.int .i64 0), .nils] (fun t5 H2 =>
 storeA 2 t5 t23 (fun H3 =>
 letO (some (x0 : AV)) fun t24 =>
 letO (convF Tryd.prog 5 3 t24) fun t25 =>
 letO (binF Tryd.prog .rem 3 t25 (.int .i64 7)) fun t26 =>
 letO (slcArr 8 1 (.iptr c1) none (some t26) none) fun t27 =>
 letO (lenA t27) fun t28 =>
 letO (some ((.int .i64 0) : AV)) fun t29 =>
 true = true ∧ ∃ (I4 : List AV → Heap → Prop) (μ5 : List AV → Heap → Nat), I4 [t29] H3 ∧ ∀ L6 H7, I4 L6 H7 → -- [t29]
 letO (binF Tryd.prog .lss 3 (L6.getD 0 .any) t28) fun t30 =>
 condA t30 true (
 letO (idx 1 t27 (L6.getD 0 .any)) fun t31 =>
 letO (load1 t31 H7) fun t32 =>
 letO (some (t32 : AV)) fun t7 =>
 letO (faddr 1 t5) fun t33 =>
 letO (load1 t33 H7) fun t34 =>
 letO (some (t7 : AV)) fun t35 =>
 letO (convF Tryd.prog 5 3 t35) fun t36 =>
 letO (binF Tryd.prog .rem 3 t36 (.int .i64 4)) fun t37 =>
 letO (literalF Tryd.prog 35 1 [(0, t37)]) fun c8 =>
 appendA 1 8 t34 (.imm 1 true c8) (fun t39 H9 =>
 letO (faddr 1 t5) fun t40 =>
 storeA 1 t40 t39 (fun H10 =>
 letO (binF Tryd.prog .add 3 (L6.getD 0 .any) (.int .i64 1)) fun t41 =>
 letO (some (t41 : AV)) fun t29 =>
 I4 [t29] H10 ∧ μ5 [t29] H10 < μ5 L6 H7) H9) H7) (
 letO (some (.nils : AV)) fun t8 =>
 letO (faddr 1 t5) fun t42 =>
 letO (load1 t42 H7) fun t43 =>
 letO (lenA t43) fun t44 =>
 letO (some ((.int .i64 0) : AV)) fun t45 =>
 true = true ∧ ∃ (I11 : List AV → Heap → Prop) (μ12 : List AV → Heap → Nat), I11 [t8, t45] H7 ∧ ∀ L13 H14, I11 L13 H14 → -- [t8, t45]
 letO (binF Tryd.prog .lss 3 (L13.getD 1 .any) t44) fun t46 =>
 condA t46 true (
 true = true ∧ ∃ J15 : List AV → Heap → Prop, (
 letO (some ((L13.getD 1 .any) : AV)) fun t47 =>
 letO (idx 1 t43 (L13.getD 1 .any)) fun t48 =>
 letO (load1 t48 H14) fun t49 =>
 letO (some (t47 : AV)) fun t9 =>
 letO (some (t49 : AV)) fun t10 =>
 letO (some (t9 : AV)) fun t50 =>
 letO (binF Tryd.prog .add 3 t50 (.int .i64 1)) fun t51 =>
 letO (some (t51 : AV)) fun t11 =>
 true = true ∧ ∃ (I16 : List AV → Heap → Prop) (μ17 : List AV → Heap → Nat), I16 [(L13.getD 0 .any), t11] H14 ∧ ∀ L18 H19, I16 L18 H19 → -- [t8, t11]
 letO (some ((L18.getD 1 .any) : AV)) fun t52 =>
 letO (faddr 1 t5) fun t53 =>
 letO (load1 t53 H19) fun t54 =>
 letO (lenA t54) fun t55 =>
 letO (binF Tryd.prog .lss 3 t52 t55) fun t56 =>
 condA t56 true (
 letO (faddr 1 t5) fun t59 =>
 letO (load1 t59 H19) fun t60 =>
 letO (some ((L18.getD 1 .any) : AV)) fun t61 =>
 letO (idx 1 t60 t61) fun t62 =>
 letO (load1 t62 H19) fun t63 =>
 letO (some (t10 : AV)) fun t64 =>
 letO (binF Tryd.prog .eql 3 t63 t64) fun t65 =>
 condA t65 true (
 letO (some ((L18.getD 0 .any) : AV)) fun t66 =>
 letO (some (t9 : AV)) fun t67 =>
 letO (some ((L18.getD 1 .any) : AV)) fun t68 =>
 letO (buildF Tryd.prog 30 [(0, t67), (1, t68)]) fun t69 =>
 letO (literalF Tryd.prog 24 1 [(0, t69)]) fun c20 =>
 appendA 2 16 t66 (.imm 1 true c20) (fun t71 H21 =>
 letO (some (t71 : AV)) fun t8 =>
 J15 [t8] H21) H19) (
 letO (some ((L18.getD 1 .any) : AV)) fun t57 =>
 letO (binF Tryd.prog .add 3 t57 (.int .i64 1)) fun t58 =>
 letO (some (t58 : AV)) fun t11 =>
 I16 [(L18.getD 0 .any), t11] H19 ∧ μ17 [(L18.getD 0 .any), t11] H19 < μ17 L18 H19)) (
 J15 [(L18.getD 0 .any)] H19)) ∧ ∀ L22 H23, J15 L22 H23 → -- [t8]
 letO (binF Tryd.prog .add 3 (L13.getD 1 .any) (.int .i64 1)) fun t72 =>
 letO (some (t72 : AV)) fun t45 =>
 I11 [(L22.getD 0 .any), t45] H23 ∧ μ12 [(L22.getD 0 .any), t45] H23 < μ12 L13 H14) (
 letO (loadN 2 t5 H14) fun t74 =>
 ACalls Tryd.prog 19 [t74] H14 fun t75 H24 =>
 letO (some (t75 : AV)) fun t73 =>
 letO (extrF t73 0) fun t76 =>
 letO (extrF t73 1) fun t77 =>
 letO (some (t76 : AV)) fun t12 =>
 letO (some (t77 : AV)) fun t13 =>
 letO (loadN 2 t5 H24) fun t79 =>
 ACalls Tryd.prog 17 [t79] H24 fun t80 H25 =>
 letO (some (t80 : AV)) fun t78 =>
 letO (extrF t78 0) fun t81 =>
 letO (extrF t78 1) fun t82 =>
 letO (some (t81 : AV)) fun t14 =>
 letO (some (t82 : AV)) fun t15 =>
 letO (some (t13 : AV)) fun t83 =>
 letO (binF Tryd.prog .neq 32 t83 (.int .i64 0)) fun t84 =>
 letO (some (t84 : AV)) fun t85 =>
 letO (gval t85 false (some (t15 : AV))) fun t86 =>
 letO (gval t85 false (binF Tryd.prog .neq 32 t86 (.int .i64 0))) fun t87 =>
 letO (pickF t85 (.bool true) t87) fun t88 =>
 letO (some (t88 : AV)) fun t89 =>
 letO (gval t89 false (some (t12 : AV))) fun t90 =>
 letO (gval t89 false (lenA t90)) fun t91 =>
 letO (gval t89 false (some ((L13.getD 0 .any) : AV))) fun t92 =>
 letO (gval t89 false (lenA t92)) fun t93 =>
 letO (gval t89 false (binF Tryd.prog .neq 3 t91 t93)) fun t94 =>
 letO (pickF t89 (.bool true) t94) fun t95 =>
 condA t95 true (
 letO (some ((.bool false) : AV)) fun t4 =>
endK t4 H25 K) (
 letO (some (t12 : AV)) fun t96 =>
 letO (lenA t96) fun t97 =>
 letO (some ((.int .i64 0) : AV)) fun t98 =>
 true = true ∧ ∃ (I26 : List AV → Heap → Prop) (μ27 : List AV → Heap → Nat), I26 [t98] H25 ∧ ∀ L28 H29, I26 L28 H29 → -- [t98]
 letO (binF Tryd.prog .lss 3 (L28.getD 0 .any) t97) fun t99 =>
 condA t99 true (
 letO (some ((L28.getD 0 .any) : AV)) fun t100 =>
 letO (some (t100 : AV)) fun t16 =>
 true = true ∧
 letO (some (t12 : AV)) fun t101 =>
 letO (some (t16 : AV)) fun t102 =>
 letO (idx 2 t101 t102) fun t103 =>
 letO (loadN 2 t103 H29) fun t104 =>
 letO (some ((L13.getD 0 .any) : AV)) fun t105 =>
 letO (some (t16 : AV)) fun t106 =>
 letO (idx 2 t105 t106) fun t107 =>
 letO (loadN 2 t107 H29) fun t108 =>
 letO (binF Tryd.prog .neq 30 t104 t108) fun t109 =>
 condA t109 true (
 letO (some ((.bool false) : AV)) fun t4 =>
endK t4 H29 K) (
 letO (binF Tryd.prog .add 3 (L28.getD 0 .any) (.int .i64 1)) fun t110 =>
 letO (some (t110 : AV)) fun t98 =>
 I26 [t98] H29 ∧ μ27 [t98] H29 < μ27 L28 H29)) (
 letO (some (t12 : AV)) fun t111 =>
 letO (lenA t111) fun t112 =>
 letO (binF Tryd.prog .eql 3 t112 (.int .i64 0)) fun t113 =>
 condA t113 true (
 letO (some (t14 : AV)) fun t114 =>
 letO (faddr 1 t5) fun t115 =>
 letO (load1 t115 H29) fun t116 =>
 letO (lenA t116) fun t117 =>
 letO (binF Tryd.prog .eql 3 t114 t117) fun t118 =>
 letO (some (t118 : AV)) fun t119 =>
 ∃ J30 : AV → Heap → Prop, condG t119 true (ACalls Tryd.prog 18 [] H29 fun t120 H31 =>
 J30 t120 H31) (J30 (.tup []) H29) ∧ ∀ t120 H32, J30 t120 H32 →
 letO (pickF t119 t120 (.bool false)) fun t121 =>
 letO (some (t121 : AV)) fun t4 =>
endK t4 H32 K) (
 letO (some (t12 : AV)) fun t122 =>
 letO (lenA t122) fun t123 =>
 letO (buildF Tryd.prog 27 [(0, t123)]) fun t124 =>
 allocA [(.int .i64 0), .nils] (fun t17 H33 =>
 storeA 2 t17 t124 (fun H34 =>
 letO (some (t12 : AV)) fun t125 =>
 letO (lenA t125) fun t126 =>
 letO (some ((.int .i64 0) : AV)) fun t127 =>
 true = true ∧ ∃ (I35 : List AV → Heap → Prop) (μ36 : List AV → Heap → Nat), I35 [t127] H34 ∧ ∀ L37 H38, I35 L37 H38 → -- [t127]
 letO (binF Tryd.prog .lss 3 (L37.getD 0 .any) t126) fun t128 =>
 condA t128 true (
 letO (some ((L37.getD 0 .any) : AV)) fun t129 =>
 letO (idx 2 t125 (L37.getD 0 .any)) fun t130 =>
 letO (loadN 2 t130 H38) fun t131 =>
 allocA [(.int .i64 0), (.int .i64 0)] (fun t19 H39 =>
 letO (some (t129 : AV)) fun t18 =>
 storeA 2 t19 t131 (fun H40 =>
 letO (some (t12 : AV)) fun t132 =>
 letO (some (t18 : AV)) fun t133 =>
 letO (slc 2 t132 none (some t133) none) fun t134 =>
 letO (lenA t134) fun t135 =>
 letO (some ((.int .i64 0) : AV)) fun t136 =>
 true = true ∧ ∃ (I41 : List AV → Heap → Prop) (μ42 : List AV → Heap → Nat), I41 [t136] H40 ∧ ∀ L43 H44, I41 L43 H44 → -- [t136]
 letO (binF Tryd.prog .lss 3 (L43.getD 0 .any) t135) fun t137 =>
 condA t137 true (
 true = true ∧ ∃ J45 : List AV → Heap → Prop, (
 letO (some ((L43.getD 0 .any) : AV)) fun t138 =>
 letO (idx 2 t134 (L43.getD 0 .any)) fun t139 =>
 letO (loadN 2 t139 H44) fun t140 =>
 allocA [(.int .i64 0), (.int .i64 0)] (fun t21 H46 =>
 letO (some (t138 : AV)) fun t20 =>
 storeA 2 t21 t140 (fun H47 =>
 letO (idxArr 2 1 t19 (.int .i64 0)) fun t141 =>
 letO (load1 t141 H47) fun t142 =>
 letO (idxArr 2 1 t21 (.int .i64 0)) fun t143 =>
 letO (load1 t143 H47) fun t144 =>
 letO (max2F t142 t144) fun t145 =>
 letO (binF Tryd.prog .add 3 t145 (.int .i64 1)) fun t146 =>
 letO (idxArr 2 1 t19 (.int .i64 1)) fun t147 =>
 letO (load1 t147 H47) fun t148 =>
 letO (idxArr 2 1 t21 (.int .i64 1)) fun t149 =>
 letO (load1 t149 H47) fun t150 =>
 letO (min2F t148 t150) fun t151 =>
 letO (binF Tryd.prog .lss 3 t146 t151) fun t152 =>
 condA t152 true (
 letO (faddr 1 t17) fun t153 =>
 letO (load1 t153 H47) fun t154 =>
 letO (some (t20 : AV)) fun t155 =>
 letO (some (t18 : AV)) fun t156 =>
 letO (buildF Tryd.prog 30 [(0, t155), (1, t156)]) fun t157 =>
 letO (literalF Tryd.prog 24 1 [(0, t157)]) fun c48 =>
 appendA 2 16 t154 (.imm 1 true c48) (fun t159 H49 =>
 letO (faddr 1 t17) fun t160 =>
 storeA 1 t160 t159 (fun H50 =>
 J45 [] H50) H49) H47) (
 J45 [] H47)) H46) H44) ∧ ∀ L51 H52, J45 L51 H52 → -- []
 letO (binF Tryd.prog .add 3 (L43.getD 0 .any) (.int .i64 1)) fun t161 =>
 letO (some (t161 : AV)) fun t136 =>
 I41 [t136] H52 ∧ μ42 [t136] H52 < μ42 L43 H44) (
 letO (binF Tryd.prog .add 3 (L37.getD 0 .any) (.int .i64 1)) fun t162 =>
 letO (some (t162 : AV)) fun t127 =>
 I35 [t127] H44 ∧ μ36 [t127] H44 < μ36 L37 H38)) H39) H38) (
 letO (loadN 2 t17 H38) fun t164 =>
 ACalls Tryd.prog 10 [t164] H38 fun t165 H53 =>
 letO (some (t165 : AV)) fun t163 =>
 letO (extrF t163 0) fun t166 =>
 letO (extrF t163 1) fun t167 =>
 letO (some (t166 : AV)) fun t22 =>
 letO (some (t167 : AV)) fun t13 =>
 letO (some (t13 : AV)) fun t168 =>
 letO (binF Tryd.prog .eql 32 t168 (.int .i64 0)) fun t169 =>
 letO (some (t169 : AV)) fun t170 =>
 letO (gval t170 true (some (t14 : AV))) fun t171 =>
 letO (gval t170 true (faddr 1 t5)) fun t172 =>
 letO (gval t170 true (load1 t172 H53)) fun t173 =>
 letO (gval t170 true (lenA t173)) fun t174 =>
 letO (gval t170 true (some (t12 : AV))) fun t175 =>
 letO (gval t170 true (lenA t175)) fun t176 =>
 letO (gval t170 true (binF Tryd.prog .sub 3 t174 t176)) fun t177 =>
 letO (gval t170 true (some (t22 : AV))) fun t178 =>
 letO (gval t170 true (lenA t178)) fun t179 =>
 letO (gval t170 true (binF Tryd.prog .add 3 t177 t179)) fun t180 =>
 letO (gval t170 true (binF Tryd.prog .eql 3 t171 t180)) fun t181 =>
 letO (pickF t170 t181 (.bool false)) fun t182 =>
 letO (some (t182 : AV)) fun t183 =>
 ∃ J54 : AV → Heap → Prop, condG t183 true (ACalls Tryd.prog 18 [] H53 fun t184 H55 =>
 J54 t184 H55) (J54 (.tup []) H53) ∧ ∀ t184 H56, J54 t184 H56 →
 letO (pickF t183 t184 (.bool false)) fun t185 =>
 letO (some (t185 : AV)) fun t4 =>
endK t4 H56 K)) H33) H29)))))) H2) H

theorem W5_ok {x0 x1 : AV} {H : Heap} {K : AV → Heap → Prop} (h : W5 x0 x1 H K) : ACalls Tryd.prog 5 [x0, x1] H K :=
  acallsB (fn := Tryd.f5) (cfg := cfgOf [] [] [(24, [0, 0, 3, 7, 0, 0, 48, 112, 255])] [] [] []) (hh := (.dir .nil (.dir .nil (.dir (.dir .nil (.blk (.loop [29] [30, 31, 32, 7, 33, 34, 35, 36, 37, 38, 39, 40, 41, 29] (.dir .nil (.dir .nil (.dir .nil .nil)))))) (.dir .nil (.dir (.dir .nil (.blk (.loop [8, 45] [46, 47, 48, 49, 9, 10, 50, 51, 11, 52, 53, 54, 55, 56, 59, 60, 61, 62, 63, 64, 65, 66, 67, 68, 69, 70, 71, 8, 57, 58, 72, 45] (.dir .nil (.dir .nil (.cut [8] [47, 48, 49, 9, 10, 50, 51, 11, 52, 53, 54, 55, 56, 59, 60, 61, 62, 63, 64, 65, 66, 67, 68, 69, 70, 71, 8, 57, 58] (.blk (.dir .nil (.dir .nil (.blk (.loop [8, 11] [52, 53, 54, 55, 56, 59, 60, 61, 62, 63, 64, 65, 66, 67, 68, 69, 70, 71, 8, 57, 58, 11] (.dir (.dir .nil .nil) (.dir (.blk (.dir .nil (.dir .nil .nil))) .nil))))))) .nil)))))) (.dir .nil (.dir .nil (.dir (.dir .nil (.dir .nil .nil)) (.dir (.dir .nil (.blk (.loop [98] [99, 100, 16, 101, 102, 103, 104, 105, 106, 107, 108, 109, 4, 110, 98] (.dir .nil (.dir .nil (.dir (.blk (.dir .nil (.dir .nil (.dir .nil .nil)))) .nil)))))) (.dir (.dir .nil (.dir .nil .nil)) (.dir .nil (.dir (.dir .nil (.blk (.loop [127] [128, 129, 130, 131, 19, 18, 132, 133, 134, 135, 136, 137, 138, 139, 140, 21, 20, 141, 142, 143, 144, 145, 146, 147, 148, 149, 150, 151, 152, 153, 154, 155, 156, 157, 158, 159, 160, 161, 162, 127] (.dir .nil (.dir .nil (.dir (.blk (.dir .nil (.dir .nil (.blk (.loop [136] [137, 138, 139, 140, 21, 20, 141, 142, 143, 144, 145, 146, 147, 148, 149, 150, 151, 152, 153, 154, 155, 156, 157, 158, 159, 160, 161, 136] (.dir .nil (.dir .nil (.cut [] [138, 139, 140, 21, 20, 141, 142, 143, 144, 145, 146, 147, 148, 149, 150, 151, 152, 153, 154, 155, 156, 157, 158, 159, 160] (.blk (.dir .nil (.dir .nil .nil))) .nil)))))))) .nil)))))) (.dir .nil .nil)))))))))))))) follows Tryd.func5 (by kernel_rfl) (Nat.le_of_ble_eq_true (by kernel_rfl)) (by kernel_rfl) h

/-- headword.headwordtop.TopFalling -/
def W6 (x0 x1 : AV) (H : Heap) (K : AV → Heap → Prop) : Prop :=
 letO (cellsOf? x1) fun c1 =>
 letO (some ((.bool false) : AV)) fun t4 =>
 letO (some (.nils : AV)) fun t5 =>
 letO (some (x0 : AV)) fun t19 =>
 letO (convF Tryd.prog 5 3 t19) fun t20 =>
 letO (binF Tryd.prog .rem 3 t20 (.int .i64 5)) fun t21 =>
 letO (binF Tryd.prog .add 3 (.int .i64 1) t21) fun t22 =>
 letO (slcArr 8 1 (.iptr c1) none (some t22) none) fun t23 =>
 letO (lenA t23) fun t24 =>
 letO (some ((.int .i64 0) : AV)) fun t25 =>
 true = true ∧ ∃ (I2 : List AV → Heap → Prop) (μ3 : List AV → Heap → Nat), I2 [t5, t25] H ∧ ∀ L4 H5, I2 L4 H5 → -- [t5, t25]
 letO (binF Tryd.prog .lss 3 (L4.getD 1 .any) t24) fun t26 =>
 condA t26 true (
 letO (idx 1 t23 (L4.getD 1 .any)) fun t27 =>
 letO (load1 t27 H5) fun t28 =>
 letO (some (t28 : AV)) fun t7 =>
 letO (some ((L4.getD 0 .any) : AV)) fun t29 =>
 letO (some (t7 : AV)) fun t30 =>
 letO (convF Tryd.prog 5 3 t30) fun t31 =>
 letO (binF Tryd.prog .rem 3 t31 (.int .i64 101)) fun t32 =>
 letO (buildF Tryd.prog 59 [(0, t32), (1, (.int .i64 1))]) fun t33 =>
 letO (literalF Tryd.prog 57 1 [(0, t33)]) fun c6 =>
 appendA 2 16 t29 (.imm 1 true c6) (fun t35 H7 =>
 letO (some (t35 : AV)) fun t5 =>
 letO (binF Tryd.prog .add 3 (L4.getD 1 .any) (.int .i64 1)) fun t36 =>
 letO (some (t36 : AV)) fun t25 =>
 I2 [t5, t25] H7 ∧ μ3 [t5, t25] H7 < μ3 L4 H5) H5) (
 letO (some ((L4.getD 0 .any) : AV)) fun t37 =>
 letO (lenA t37) fun t38 =>
 letO (buildF Tryd.prog 27 [(0, t38)]) fun t39 =>
 allocA [(.int .i64 0), .nils] (fun t8 H8 =>
 storeA 2 t8 t39 (fun H9 =>
 letO (some ((L4.getD 0 .any) : AV)) fun t40 =>
 letO (lenA t40) fun t41 =>
 letO (some ((.int .i64 0) : AV)) fun t42 =>
 true = true ∧ ∃ (I10 : List AV → Heap → Prop) (μ11 : List AV → Heap → Nat), I10 [t42] H9 ∧ ∀ L12 H13, I10 L12 H13 → -- [t42]
 letO (binF Tryd.prog .lss 3 (L12.getD 0 .any) t41) fun t43 =>
 condA t43 true (
 letO (some ((L12.getD 0 .any) : AV)) fun t44 =>
 letO (idx 2 t40 (L12.getD 0 .any)) fun t45 =>
 letO (loadN 2 t45 H13) fun t46 =>
 allocA [(.int .i64 0), (.int .i64 0)] (fun t10 H14 =>
 letO (some (t44 : AV)) fun t9 =>
 storeA 2 t10 t46 (fun H15 =>
 letO (some ((L4.getD 0 .any) : AV)) fun t47 =>
 letO (some (t9 : AV)) fun t48 =>
 letO (binF Tryd.prog .add 3 t48 (.int .i64 1)) fun t49 =>
 letO (slc 2 t47 (some t49) none none) fun t50 =>
 letO (lenA t50) fun t51 =>
 letO (some ((.int .i64 0) : AV)) fun t52 =>
 true = true ∧ ∃ (I16 : List AV → Heap → Prop) (μ17 : List AV → Heap → Nat), I16 [t52] H15 ∧ ∀ L18 H19, I16 L18 H19 → -- [t52]
 letO (binF Tryd.prog .lss 3 (L18.getD 0 .any) t51) fun t53 =>
 condA t53 true (
 true = true ∧ ∃ J20 : List AV → Heap → Prop, (
 letO (some ((L18.getD 0 .any) : AV)) fun t54 =>
 letO (idx 2 t50 (L18.getD 0 .any)) fun t55 =>
 letO (loadN 2 t55 H19) fun t56 =>
 allocA [(.int .i64 0), (.int .i64 0)] (fun t12 H21 =>
 letO (some (t54 : AV)) fun t11 =>
 storeA 2 t12 t56 (fun H22 =>
 letO (faddr 0 t10) fun t57 =>
 letO (load1 t57 H22) fun t58 =>
 letO (faddr 0 t12) fun t59 =>
 letO (load1 t59 H22) fun t60 =>
 letO (binF Tryd.prog .gtr 3 t58 t60) fun t61 =>
 condA t61 true (
 letO (faddr 1 t8) fun t62 =>
 letO (load1 t62 H22) fun t63 =>
 letO (some (t9 : AV)) fun t64 =>
 letO (some (t9 : AV)) fun t65 =>
 letO (binF Tryd.prog .add 3 t65 (.int .i64 1)) fun t66 =>
 letO (some (t11 : AV)) fun t67 =>
 letO (binF Tryd.prog .add 3 t66 t67) fun t68 =>
 letO (buildF Tryd.prog 30 [(0, t64), (1, t68)]) fun t69 =>
 letO (literalF Tryd.prog 24 1 [(0, t69)]) fun c23 =>
 appendA 2 16 t63 (.imm 1 true c23) (fun t71 H24 =>
 letO (faddr 1 t8) fun t72 =>
 storeA 1 t72 t71 (fun H25 =>
 J20 [] H25) H24) H22) (
 J20 [] H22)) H21) H19) ∧ ∀ L26 H27, J20 L26 H27 → -- []
 letO (binF Tryd.prog .add 3 (L18.getD 0 .any) (.int .i64 1)) fun t73 =>
 letO (some (t73 : AV)) fun t52 =>
 I16 [t52] H27 ∧ μ17 [t52] H27 < μ17 L18 H19) (
 letO (binF Tryd.prog .add 3 (L12.getD 0 .any) (.int .i64 1)) fun t74 =>
 letO (some (t74 : AV)) fun t42 =>
 I10 [t42] H19 ∧ μ11 [t42] H19 < μ11 L12 H13)) H14) H13) (
 letO (some ((L4.getD 0 .any) : AV)) fun t76 =>
 ACalls Tryd.prog 20 [t76] H13 fun t77 H28 =>
 letO (some (t77 : AV)) fun t75 =>
 letO (extrF t75 0) fun t78 =>
 letO (extrF t75 1) fun t79 =>
 letO (some (t78 : AV)) fun t13 =>
 letO (some (t79 : AV)) fun t14 =>
 letO (loadN 2 t8 H28) fun t81 =>
 ACalls Tryd.prog 10 [t81] H28 fun t82 H29 =>
 letO (some (t82 : AV)) fun t80 =>
 letO (extrF t80 0) fun t83 =>
 letO (extrF t80 1) fun t84 =>
 letO (some (t83 : AV)) fun t15 =>
 letO (some (t84 : AV)) fun t16 =>
 letO (some ((L4.getD 0 .any) : AV)) fun t86 =>
 ACalls Tryd.prog 21 [t86] H29 fun t87 H30 =>
 letO (some (t87 : AV)) fun t85 =>
 letO (extrF t85 0) fun t88 =>
 letO (extrF t85 1) fun t89 =>
 letO (some (t88 : AV)) fun t17 =>
 letO (some (t89 : AV)) fun t18 =>
 letO (some (t14 : AV)) fun t90 =>
 letO (binF Tryd.prog .eql 32 t90 (.int .i64 0)) fun t91 =>
 letO (some (t91 : AV)) fun t92 =>
 letO (gval t92 true (some (t16 : AV))) fun t93 =>
 letO (gval t92 true (binF Tryd.prog .eql 32 t93 (.int .i64 0))) fun t94 =>
 letO (pickF t92 t94 (.bool false)) fun t95 =>
 letO (some (t95 : AV)) fun t96 =>
 letO (gval t96 true (some (t13 : AV))) fun t97 =>
 letO (gval t96 true (some (t15 : AV))) fun t98 =>
 ∃ J31 : AV → Heap → Prop, condG t96 true (ACalls Tryd.prog 14 [t97, t98] H30 fun t99 H32 =>
 J31 t99 H32) (J31 (.tup []) H30) ∧ ∀ t99 H33, J31 t99 H33 →
 letO (pickF t96 t99 (.bool false)) fun t100 =>
 letO (some (t100 : AV)) fun t101 =>
 letO (gval t101 true (some (t18 : AV))) fun t102 =>
 letO (gval t101 true (binF Tryd.prog .eql 32 t102 (.int .i64 13))) fun t103 =>
 letO (gval t101 true (faddr 1 t8)) fun t104 =>
 letO (gval t101 true (load1 t104 H33)) fun t105 =>
 letO (gval t101 true (lenA t105)) fun t106 =>
 letO (gval t101 true (binF Tryd.prog .eql 3 t106 (.int .i64 0))) fun t107 =>
 letO (gval t101 true (binF Tryd.prog .eql 4 t103 t107)) fun t108 =>
 letO (pickF t101 t108 (.bool false)) fun t109 =>
 letO (some (t109 : AV)) fun t110 =>
 ∃ J34 : AV → Heap → Prop, condG t110 true (ACalls Tryd.prog 22 [] H33 fun t111 H35 =>
 J34 t111 H35) (J34 (.tup []) H33) ∧ ∀ t111 H36, J34 t111 H36 →
 letO (pickF t110 t111 (.bool false)) fun t112 =>
 letO (some (t112 : AV)) fun t4 =>
endK t4 H36 K)) H8) H5)

theorem W6_ok {x0 x1 : AV} {H : Heap} {K : AV → Heap → Prop} (h : W6 x0 x1 H K) : ACalls Tryd.prog 6 [x0, x1] H K :=
  acallsB (fn := Tryd.f6) (cfg := cfgOf [] [] [] [] [] []) (hh := (.dir .nil (.dir .nil (.dir (.dir .nil (.blk (.loop [5, 25] [26, 27, 28, 7, 29, 30, 31, 32, 33, 34, 35, 5, 36, 25] (.dir .nil (.dir .nil (.dir .nil .nil)))))) (.dir .nil (.dir (.dir .nil (.blk (.loop [42] [43, 44, 45, 46, 10, 9, 47, 48, 49, 50, 51, 52, 53, 54, 55, 56, 12, 11, 57, 58, 59, 60, 61, 62, 63, 64, 65, 66, 67, 68, 69, 70, 71, 72, 73, 74, 42] (.dir .nil (.dir .nil (.dir (.blk (.dir .nil (.dir .nil (.blk (.loop [52] [53, 54, 55, 56, 12, 11, 57, 58, 59, 60, 61, 62, 63, 64, 65, 66, 67, 68, 69, 70, 71, 72, 73, 52] (.dir .nil (.dir .nil (.cut [] [54, 55, 56, 12, 11, 57, 58, 59, 60, 61, 62, 63, 64, 65, 66, 67, 68, 69, 70, 71, 72] (.blk (.dir .nil (.dir .nil .nil))) .nil)))))))) .nil)))))) (.dir .nil (.dir .nil (.dir .nil .nil))))))))) follows Tryd.func6 (by kernel_rfl) (Nat.le_of_ble_eq_true (by kernel_rfl)) (by kernel_rfl) h

/-- headword.short.Arches -/
def W16 (x0 x1 : AV) (H : Heap) (K : AV → Heap → Prop) : Prop :=
 letO (some (.nils : AV)) fun t4 =>
 letO (some ((.int .i64 0) : AV)) fun t5 =>
 letO (some (x0 : AV)) fun t7 =>
 letO (some (x1 : AV)) fun t8 =>
 ACalls Tryd.prog 41 [t7, t8] H fun t9 H1 =>
 letO (some (t9 : AV)) fun t6 =>
 letO (some (t6 : AV)) fun t10 =>
 letO (binF Tryd.prog .neq 32 t10 (.int .i64 0)) fun t11 =>
 condA t11 true (
 letO (some (t6 : AV)) fun t12 =>
 letO (some (.nils : AV)) fun t4 =>
 letO (some (t12 : AV)) fun t5 =>
endK (.tup [t4, t5]) H1 K) (
 letO (some (x0 : AV)) fun t13 =>
 letO (some (x1 : AV)) fun t14 =>
 ACalls Tryd.prog 42 [t13, t14] H1 fun t15 H2 =>
 letO (some (t15 : AV)) fun t4 =>
 letO (some ((.int .i64 0) : AV)) fun t5 =>
endK (.tup [t4, t5]) H2 K)

theorem W16_ok {x0 x1 : AV} {H : Heap} {K : AV → Heap → Prop} (h : W16 x0 x1 H K) : ACalls Tryd.prog 16 [x0, x1] H K :=
  acallsB (fn := Tryd.f16) (cfg := cfgOf [] [] [] [] [] []) (hh := (.dir .nil (.dir (.dir .nil (.dir .nil (.dir .nil .nil))) .nil))) follows Tryd.func16 (by kernel_rfl) (Nat.le_of_ble_eq_true (by kernel_rfl)) (by kernel_rfl) h

/-- headword.stand.Fewest -/
def W17 (x0 : AV) (H : Heap) (K : AV → Heap → Prop) : Prop :=
 letO (cellsOf? x0) fun c1 =>
 letO (some ((.int .i64 0) : AV)) fun t2 =>
 letO (some ((.int .i64 0) : AV)) fun t3 =>
 letO (loadN 2 (.iptr c1) H) fun t6 =>
 ACalls Tryd.prog 43 [t6] H fun t7 H2 =>
 letO (some (t7 : AV)) fun t4 =>
 letO (some (t4 : AV)) fun t8 =>
 letO (binF Tryd.prog .neq 32 t8 (.int .i64 0)) fun t9 =>
 condA t9 true (
 letO (some (t4 : AV)) fun t10 =>
 letO (some ((.int .i64 0) : AV)) fun t2 =>
 letO (some (t10 : AV)) fun t3 =>
endK (.tup [t2, t3]) H2 K) (
 letO (loadN 2 (.iptr c1) H2) fun t11 =>
 letO (buildF Tryd.prog 100 [(0, t11)]) fun t12 =>
 letO (cellsOf? t12) fun c3 => allocA c3 (fun t13 H4 =>
 letO (some (t13 : AV)) fun t5 =>
 letO (some (t5 : AV)) fun t14 =>
 letO (buildF Tryd.prog 103 []) fun t15 =>
 ACalls Tryd.prog 44 [t14, (.int .i64 0), t15] H4 fun t16 H5 =>
 letO (fieldF Tryd.prog 96 t16 0) fun t17 =>
 letO (some (t17 : AV)) fun t2 =>
 letO (some ((.int .i64 0) : AV)) fun t3 =>
endK (.tup [t2, t3]) H5 K) H2)

theorem W17_ok {x0 : AV} {H : Heap} {K : AV → Heap → Prop} (h : W17 x0 H K) : ACalls Tryd.prog 17 [x0] H K :=
  acallsB (fn := Tryd.f17) (cfg := cfgOf [13] [] [] [] [] []) (hh := (.dir .nil (.dir (.dir .nil (.dir .nil (.dir .nil .nil))) (.dir .nil .nil)))) follows Tryd.func17 (by kernel_rfl) (Nat.le_of_ble_eq_true (by kernel_rfl)) (by kernel_rfl) h

/-- headword.headwordtop.standsWork -/
def W18 (H : Heap) (K : AV → Heap → Prop) : Prop :=
 letO (some ((.bool false) : AV)) fun t0 =>
 letO (literalF Tryd.prog 35 5 [(0, (.int .i64 0)), (1, (.int .i64 1)), (2, (.int .i64 2)), (3, (.int .i64 0)), (4, (.int .i64 1))]) fun c1 =>
 ACalls Tryd.prog 24 [(.imm 5 true c1)] H fun t5 H2 =>
 letO (buildF Tryd.prog 47 [(0, (.int .i64 2)), (1, t5)]) fun t6 =>
 ACalls Tryd.prog 17 [t6] H2 fun t7 H3 =>
 letO (some (t7 : AV)) fun t3 =>
 letO (extrF t3 0) fun t8 =>
 letO (extrF t3 1) fun t9 =>
 letO (some (t8 : AV)) fun t1 =>
 letO (some (t9 : AV)) fun t2 =>
 letO (some (t2 : AV)) fun t10 =>
 letO (binF Tryd.prog .eql 32 t10 (.int .i64 0)) fun t11 =>
 letO (some (t11 : AV)) fun t12 =>
 letO (gval t12 true (some (t1 : AV))) fun t13 =>
 letO (gval t12 true (binF Tryd.prog .eql 3 t13 (.int .i64 4))) fun t14 =>
 letO (pickF t12 t14 (.bool false)) fun t15 =>
 letO (some (t15 : AV)) fun t16 =>
 ∃ J4 : AV → Heap → Prop, condG t16 true (ACalls Tryd.prog 15 [] H3 fun t17 H5 =>
 J4 t17 H5) (J4 (.tup []) H3) ∧ ∀ t17 H6, J4 t17 H6 →
 letO (pickF t16 t17 (.bool false)) fun t18 =>
 letO (some (t18 : AV)) fun t0 =>
endK t0 H6 K

theorem W18_ok {H : Heap} {K : AV → Heap → Prop} (h : W18 H K) : ACalls Tryd.prog 18 [] H K :=
  acallsB (fn := Tryd.f18) (cfg := cfgOf [] [] [] [] [] []) (hh := (.dir .nil (.dir .nil .nil))) follows Tryd.func18 (by kernel_rfl) (Nat.le_of_ble_eq_true (by kernel_rfl)) (by kernel_rfl) h

/-- headword.stand.Spans -/
def W19 (x0 : AV) (H : Heap) (K : AV → Heap → Prop) : Prop :=
 letO (cellsOf? x0) fun c1 =>
 letO (some (.nils : AV)) fun t2 =>
 letO (some ((.int .i64 0) : AV)) fun t3 =>
 letO (loadN 2 (.iptr c1) H) fun t5 =>
 ACalls Tryd.prog 43 [t5] H fun t6 H2 =>
 letO (some (t6 : AV)) fun t4 =>
 letO (some (t4 : AV)) fun t7 =>
 letO (binF Tryd.prog .neq 32 t7 (.int .i64 0)) fun t8 =>
 condA t8 true (
 letO (some (t4 : AV)) fun t9 =>
 letO (some (.nils : AV)) fun t2 =>
 letO (some (t9 : AV)) fun t3 =>
endK (.tup [t2, t3]) H2 K) (
 letO (loadN 2 (.iptr c1) H2) fun t10 =>
 ACalls Tryd.prog 45 [t10] H2 fun t11 H3 =>
 letO (some (t11 : AV)) fun t2 =>
 letO (some ((.int .i64 0) : AV)) fun t3 =>
endK (.tup [t2, t3]) H3 K)

theorem W19_ok {x0 : AV} {H : Heap} {K : AV → Heap → Prop} (h : W19 x0 H K) : ACalls Tryd.prog 19 [x0] H K :=
  acallsB (fn := Tryd.f19) (cfg := cfgOf [] [] [] [] [] []) (hh := (.dir .nil (.dir (.dir .nil (.dir .nil (.dir .nil .nil))) .nil))) follows Tryd.func19 (by kernel_rfl) (Nat.le_of_ble_eq_true (by kernel_rfl)) (by kernel_rfl) h

/-- headword.reign.Wrong -/
def W20 (x0 : AV) (H : Heap) (K : AV → Heap → Prop) : Prop :=
 letO (some (.nils : AV)) fun t2 =>
 letO (some ((.int .i64 0) : AV)) fun t3 =>
 letO (some (x0 : AV)) fun t12 =>
 ACalls Tryd.prog 46 [t12] H fun t13 H1 =>
 letO (some (t13 : AV)) fun t4 =>
 letO (some (t4 : AV)) fun t14 =>
 letO (binF Tryd.prog .neq 32 t14 (.int .i64 0)) fun t15 =>
 condA t15 true (
 letO (some (t4 : AV)) fun t16 =>
 letO (some (.nils : AV)) fun t2 =>
 letO (some (t16 : AV)) fun t3 =>
endK (.tup [t2, t3]) H1 K) (
 letO (some (.nils : AV)) fun t5 =>
 letO (some (x0 : AV)) fun t17 =>
 letO (lenA t17) fun t18 =>
 letO (binF Tryd.prog .shl 3 (.int .i64 1) t18) fun t19 =>
 letO (some ((.int .i64 0) : AV)) fun t20 =>
 true = true ∧ ∃ (I2 : List AV → Heap → Prop) (μ3 : List AV → Heap → Nat), I2 [t5, t20] H1 ∧ ∀ L4 H5, I2 L4 H5 → -- [t5, t20]
 letO (binF Tryd.prog .lss 3 (L4.getD 1 .any) t19) fun t21 =>
 condA t21 true (
 true = true ∧ ∃ J6 : List AV → Heap → Prop, (
 letO (some ((L4.getD 1 .any) : AV)) fun t22 =>
 letO (some (t22 : AV)) fun t6 =>
 letO (some (.nils : AV)) fun t7 =>
 letO (some ((.int .i64 (-1)) : AV)) fun t8 =>
 letO (some ((.bool true) : AV)) fun t9 =>
 letO (some (x0 : AV)) fun t23 =>
 letO (lenA t23) fun t24 =>
 letO (some ((.int .i64 0) : AV)) fun t25 =>
 true = true ∧ ∃ (I7 : List AV → Heap → Prop) (μ8 : List AV → Heap → Nat), I7 [t7, t9, t8, t25] H5 ∧ ∀ L9 H10, I7 L9 H10 → -- [t7, t9, t8, t25]
 letO (binF Tryd.prog .lss 3 (L9.getD 3 .any) t24) fun t26 =>
 condA t26 true (
 true = true ∧ ∃ J11 : List AV → Heap → Prop, (
 letO (some ((L9.getD 3 .any) : AV)) fun t27 =>
 letO (idx 2 t23 (L9.getD 3 .any)) fun t28 =>
 letO (loadN 2 t28 H10) fun t29 =>
 allocA [(.int .i64 0), (.int .i64 0)] (fun t11 H12 =>
 letO (some (t27 : AV)) fun t10 =>
 storeA 2 t11 t29 (fun H13 =>
 letO (some (t6 : AV)) fun t30 =>
 letO (some (t10 : AV)) fun t31 =>
 letO (binF Tryd.prog .shr 3 t30 t31) fun t32 =>
 letO (binF Tryd.prog .and 3 t32 (.int .i64 1)) fun t33 =>
 letO (binF Tryd.prog .eql 3 t33 (.int .i64 1)) fun t34 =>
 condA t34 true (
 letO (some ((L9.getD 0 .any) : AV)) fun t35 =>
 letO (some (t10 : AV)) fun t36 =>
 letO (literalF Tryd.prog 35 1 [(0, t36)]) fun c14 =>
 appendA 1 8 t35 (.imm 1 true c14) (fun t38 H15 =>
 letO (some (t38 : AV)) fun t7 =>
 J11 [t7, (L9.getD 1 .any), (L9.getD 2 .any)] H15) H13) (
 letO (some ((L9.getD 1 .any) : AV)) fun t39 =>
 letO (some (t39 : AV)) fun t40 =>
 letO (gval t40 true (faddr 0 t11)) fun t41 =>
 letO (gval t40 true (load1 t41 H13)) fun t42 =>
 letO (gval t40 true (some ((L9.getD 2 .any) : AV))) fun t43 =>
 letO (gval t40 true (binF Tryd.prog .geq 3 t42 t43)) fun t44 =>
 letO (pickF t40 t44 (.bool false)) fun t45 =>
 letO (some (t45 : AV)) fun t9 =>
 letO (faddr 0 t11) fun t46 =>
 letO (load1 t46 H13) fun t47 =>
 letO (some (t47 : AV)) fun t8 =>
 J11 [(L9.getD 0 .any), t9, t8] H13)) H12) H10) ∧ ∀ L16 H17, J11 L16 H17 → -- [t7, t9, t8]
 letO (binF Tryd.prog .add 3 (L9.getD 3 .any) (.int .i64 1)) fun t48 =>
 letO (some (t48 : AV)) fun t25 =>
 I7 [(L16.getD 0 .any), (L16.getD 1 .any), (L16.getD 2 .any), t25] H17 ∧ μ8 [(L16.getD 0 .any), (L16.getD 1 .any), (L16.getD 2 .any), t25] H17 < μ8 L9 H10) (
 letO (some ((L9.getD 1 .any) : AV)) fun t49 =>
 letO (some (t49 : AV)) fun t50 =>
 letO (gval t50 true (some ((L4.getD 0 .any) : AV))) fun t51 =>
 letO (gval t50 true (binF Tryd.prog .eql 35 t51 .nils)) fun t52 =>
 letO (gval t50 true (some (t52 : AV))) fun t53 =>
 letO (gval t53 false (some ((L9.getD 0 .any) : AV))) fun t54 =>
 letO (gval t53 false (lenA t54)) fun t55 =>
 letO (gval t53 false (some ((L4.getD 0 .any) : AV))) fun t56 =>
 letO (gval t53 false (lenA t56)) fun t57 =>
 letO (gval t53 false (binF Tryd.prog .lss 3 t55 t57)) fun t58 =>
 letO (gval t50 true (pickF t53 (.bool true) t58)) fun t59 =>
 letO (gval t50 true (some (t59 : AV))) fun t60 =>
 letO (gval t60 false (some ((L9.getD 0 .any) : AV))) fun t61 =>
 letO (gval t60 false (lenA t61)) fun t62 =>
 letO (gval t60 false (some ((L4.getD 0 .any) : AV))) fun t63 =>
 letO (gval t60 false (lenA t63)) fun t64 =>
 letO (gval t60 false (binF Tryd.prog .eql 3 t62 t64)) fun t65 =>
 letO (gval t60 false (some (t65 : AV))) fun t66 =>
 letO (gval t66 true (some ((L9.getD 0 .any) : AV))) fun t67 =>
 letO (gval t66 true (some ((L4.getD 0 .any) : AV))) fun t68 =>
 ∃ J18 : AV → Heap → Prop, condG t66 true (ACalls Tryd.prog 35 [t67, t68] H10 fun t69 H19 =>
 J18 t69 H19) (J18 (.tup []) H10) ∧ ∀ t69 H20, J18 t69 H20 →
 letO (gval t66 true (binF Tryd.prog .lss 3 t69 (.int .i64 0))) fun t70 =>
 letO (gval t60 false (pickF t66 t70 (.bool false))) fun t71 =>
 letO (gval t50 true (pickF t60 (.bool true) t71)) fun t72 =>
 letO (pickF t50 t72 (.bool false)) fun t73 =>
 condA t73 true (
 letO (some ((L9.getD 0 .any) : AV)) fun t74 =>
 letO (some (t74 : AV)) fun t5 =>
 letO (some ((L9.getD 0 .any) : AV)) fun t75 =>
 letO (binF Tryd.prog .eql 35 t75 .nils) fun t76 =>
 condA t76 true (
 letO (some (.nils : AV)) fun t2 =>
 letO (some ((.int .i64 0) : AV)) fun t3 =>
endK (.tup [t2, t3]) H20 K) (
 J6 [t5] H20)) (
 J6 [(L4.getD 0 .any)] H20))) ∧ ∀ L21 H22, J6 L21 H22 → -- [t5]
 letO (binF Tryd.prog .add 3 (L4.getD 1 .any) (.int .i64 1)) fun t77 =>
 letO (some (t77 : AV)) fun t20 =>
 I2 [(L21.getD 0 .any), t20] H22 ∧ μ3 [(L21.getD 0 .any), t20] H22 < μ3 L4 H5) (
 letO (some ((L4.getD 0 .any) : AV)) fun t78 =>
 letO (some (t78 : AV)) fun t2 =>
 letO (some ((.int .i64 0) : AV)) fun t3 =>
endK (.tup [t2, t3]) H5 K))

theorem W20_ok {x0 : AV} {H : Heap} {K : AV → Heap → Prop} (h : W20 x0 H K) : ACalls Tryd.prog 20 [x0] H K :=
  acallsB (fn := Tryd.f20) (cfg := cfgOf [] [] [] [] [] []) (hh := (.dir .nil (.dir (.dir .nil (.dir .nil (.dir .nil .nil))) (.dir .nil (.dir (.dir .nil (.blk (.loop [5, 20] [21, 22, 6, 7, 8, 9, 23, 24, 25, 26, 27, 28, 29, 11, 10, 30, 31, 32, 33, 34, 35, 36, 37, 38, 39, 40, 41, 42, 43, 44, 45, 46, 47, 48, 49, 50, 51, 52, 53, 54, 55, 56, 57, 58, 59, 60, 61, 62, 63, 64, 65, 66, 67, 68, 69, 70, 71, 72, 73, 74, 5, 75, 76, 2, 3, 77, 20] (.dir .nil (.dir .nil (.cut [5] [22, 6, 7, 8, 9, 23, 24, 25, 26, 27, 28, 29, 11, 10, 30, 31, 32, 33, 34, 35, 36, 37, 38, 39, 40, 41, 42, 43, 44, 45, 46, 47, 48, 49, 50, 51, 52, 53, 54, 55, 56, 57, 58, 59, 60, 61, 62, 63, 64, 65, 66, 67, 68, 69, 70, 71, 72, 73, 74, 5, 75, 76, 2, 3] (.blk (.dir .nil (.dir .nil (.dir .nil (.dir .nil (.dir (.dir .nil (.blk (.loop [7, 9, 8, 25] [26, 27, 28, 29, 11, 10, 30, 31, 32, 33, 34, 35, 36, 37, 38, 7, 39, 40, 41, 42, 43, 44, 45, 9, 46, 47, 8, 48, 25] (.dir .nil (.dir .nil (.cut [7, 9, 8] [27, 28, 29, 11, 10, 30, 31, 32, 33, 34, 35, 36, 37, 38, 7, 39, 40, 41, 42, 43, 44, 45, 9, 46, 47, 8] (.blk (.dir .nil (.dir (.dir .nil (.dir .nil .nil)) .nil))) .nil)))))) (.dir .nil (.dir (.dir .nil (.dir .nil (.dir .nil .nil))) .nil)))))))) .nil)))))) .nil))))) follows Tryd.func20 (by kernel_rfl) (Nat.le_of_ble_eq_true (by kernel_rfl)) (by kernel_rfl) h

/-- headword.reign.Falls -/
def W21 (x0 : AV) (H : Heap) (K : AV → Heap → Prop) : Prop :=
 letO (some ((.int .i64 0) : AV)) fun t2 =>
 letO (some ((.int .i64 0) : AV)) fun t3 =>
 letO (some (x0 : AV)) fun t6 =>
 ACalls Tryd.prog 46 [t6] H fun t7 H1 =>
 letO (some (t7 : AV)) fun t4 =>
 letO (some (t4 : AV)) fun t8 =>
 letO (binF Tryd.prog .neq 32 t8 (.int .i64 0)) fun t9 =>
 condA t9 true (
 letO (some (t4 : AV)) fun t10 =>
 letO (some ((.int .i64 0) : AV)) fun t2 =>
 letO (some (t10 : AV)) fun t3 =>
endK (.tup [t2, t3]) H1 K) (
 letO (some (x0 : AV)) fun t11 =>
 letO (lenA t11) fun t12 =>
 letO (binF Tryd.prog .sub 3 t12 (.int .i64 1)) fun t13 =>
 letO (some ((.int .i64 0) : AV)) fun t14 =>
 true = true ∧ ∃ (I2 : List AV → Heap → Prop) (μ3 : List AV → Heap → Nat), I2 [t14] H1 ∧ ∀ L4 H5, I2 L4 H5 → -- [t14]
 letO (binF Tryd.prog .lss 3 (L4.getD 0 .any) t13) fun t15 =>
 condA t15 true (
 letO (some ((L4.getD 0 .any) : AV)) fun t16 =>
 letO (some (t16 : AV)) fun t5 =>
 true = true ∧
 letO (some (x0 : AV)) fun t17 =>
 letO (some (t5 : AV)) fun t18 =>
 letO (idx 2 t17 t18) fun t19 =>
 letO (faddr 0 t19) fun t20 =>
 letO (load1 t20 H5) fun t21 =>
 letO (some (x0 : AV)) fun t22 =>
 letO (some (t5 : AV)) fun t23 =>
 letO (binF Tryd.prog .add 3 t23 (.int .i64 1)) fun t24 =>
 letO (idx 2 t22 t24) fun t25 =>
 letO (faddr 0 t25) fun t26 =>
 letO (load1 t26 H5) fun t27 =>
 letO (binF Tryd.prog .gtr 3 t21 t27) fun t28 =>
 condA t28 true (
 letO (some (t5 : AV)) fun t29 =>
 letO (some (t29 : AV)) fun t2 =>
 letO (some ((.int .i64 0) : AV)) fun t3 =>
endK (.tup [t2, t3]) H5 K) (
 letO (binF Tryd.prog .add 3 (L4.getD 0 .any) (.int .i64 1)) fun t30 =>
 letO (some (t30 : AV)) fun t14 =>
 I2 [t14] H5 ∧ μ3 [t14] H5 < μ3 L4 H5)) (
 letO (some ((.int .i64 0) : AV)) fun t2 =>
 letO (some ((.int .i64 13) : AV)) fun t3 =>
endK (.tup [t2, t3]) H5 K))

theorem W21_ok {x0 : AV} {H : Heap} {K : AV → Heap → Prop} (h : W21 x0 H K) : ACalls Tryd.prog 21 [x0] H K :=
  acallsB (fn := Tryd.f21) (cfg := cfgOf [] [] [(7, [0, 0, 3, 7, 15, 0, 0, 64, 224, 480, 992, 2047])] [] [] []) (hh := (.dir .nil (.dir (.dir .nil (.dir .nil (.dir .nil .nil))) (.dir (.dir .nil (.blk (.loop [14] [15, 16, 5, 17, 18, 19, 20, 21, 22, 23, 24, 25, 26, 27, 28, 29, 2, 3, 30, 14] (.dir .nil (.dir .nil (.dir (.blk (.dir .nil (.dir .nil (.dir .nil .nil)))) .nil)))))) .nil)))) follows Tryd.func21 (by kernel_rfl) (Nat.le_of_ble_eq_true (by kernel_rfl)) (by kernel_rfl) h

/-- headword.headwordtop.reignsWork -/
def W22 (H : Heap) (K : AV → Heap → Prop) : Prop :=
 letO (some ((.bool false) : AV)) fun t0 =>
 letO (buildF Tryd.prog 59 [(0, (.int .i64 3)), (1, (.int .i64 1))]) fun t4 =>
 letO (buildF Tryd.prog 59 [(0, (.int .i64 1)), (1, (.int .i64 1))]) fun t5 =>
 letO (buildF Tryd.prog 59 [(0, (.int .i64 2)), (1, (.int .i64 1))]) fun t6 =>
 letO (literalF Tryd.prog 57 3 [(0, t4), (1, t5), (2, t6)]) fun c1 =>
 ACalls Tryd.prog 20 [(.imm 3 true c1)] H fun t8 H2 =>
 letO (some (t8 : AV)) fun t3 =>
 letO (extrF t3 0) fun t9 =>
 letO (extrF t3 1) fun t10 =>
 letO (some (t9 : AV)) fun t1 =>
 letO (some (t10 : AV)) fun t2 =>
 letO (some (t2 : AV)) fun t11 =>
 letO (binF Tryd.prog .eql 32 t11 (.int .i64 0)) fun t12 =>
 letO (some (t12 : AV)) fun t13 =>
 letO (gval t13 true (some (t1 : AV))) fun t14 =>
 letO (gval t13 true ((literalF Tryd.prog 35 1 [(0, (.int .i64 0))]).map (.imm 1 true))) fun t15 =>
 ∃ J3 : AV → Heap → Prop, condG t13 true (ACalls Tryd.prog 24 [t15] H2 fun t16 H4 =>
 J3 t16 H4) (J3 (.tup []) H2) ∧ ∀ t16 H5, J3 t16 H5 →
 ∃ J6 : AV → Heap → Prop, condG t13 true (ACalls Tryd.prog 14 [t14, t16] H5 fun t17 H7 =>
 J6 t17 H7) (J6 (.tup []) H5) ∧ ∀ t17 H8, J6 t17 H8 →
 letO (pickF t13 t17 (.bool false)) fun t18 =>
 letO (some (t18 : AV)) fun t19 =>
 ∃ J9 : AV → Heap → Prop, condG t19 true (ACalls Tryd.prog 18 [] H8 fun t20 H10 =>
 J9 t20 H10) (J9 (.tup []) H8) ∧ ∀ t20 H11, J9 t20 H11 →
 letO (pickF t19 t20 (.bool false)) fun t21 =>
 letO (some (t21 : AV)) fun t0 =>
endK t0 H11 K

theorem W22_ok {H : Heap} {K : AV → Heap → Prop} (h : W22 H K) : ACalls Tryd.prog 22 [] H K :=
  acallsB (fn := Tryd.f22) (cfg := cfgOf [] [] [] [] [] []) (hh := (.dir .nil (.dir .nil .nil))) follows Tryd.func22 (by kernel_rfl) (Nat.le_of_ble_eq_true (by kernel_rfl)) (by kernel_rfl) h

/-- headword.stand.Check -/
def W43 (x0 : AV) (H : Heap) (K : AV → Heap → Prop) : Prop :=
 letO (cellsOf? x0) fun c1 =>
 letO (some ((.int .i64 0) : AV)) fun t2 =>
 letO (faddr 0 (.iptr c1)) fun t4 =>
 letO (load1 t4 H) fun t5 =>
 letO (binF Tryd.prog .lss 3 t5 (.int .i64 1)) fun t6 =>
 letO (some (t6 : AV)) fun t7 =>
 letO (gval t7 false (faddr 0 (.iptr c1))) fun t8 =>
 letO (gval t7 false (load1 t8 H)) fun t9 =>
 letO (gval t7 false (binF Tryd.prog .gtr 3 t9 (.int .i64 5))) fun t10 =>
 letO (pickF t7 (.bool true) t10) fun t11 =>
 letO (some (t11 : AV)) fun t3 =>
 condA t3 true (
 letO (some ((.int .i64 1) : AV)) fun t2 =>
endK t2 H K) (
 letO (faddr 1 (.iptr c1)) fun t13 =>
 letO (load1 t13 H) fun t14 =>
 letO (lenA t14) fun t15 =>
 letO (binF Tryd.prog .gtr 3 t15 (.int .i64 12)) fun t16 =>
 letO (some (t16 : AV)) fun t12 =>
 condA t12 true (
 letO (some ((.int .i64 3) : AV)) fun t2 =>
endK t2 H K) (
 letO (faddr 1 (.iptr c1)) fun t18 =>
 letO (load1 t18 H) fun t19 =>
 ACalls Tryd.prog 69 [t19, (.fn 70 [])] H fun t20 H2 =>
 letO (some (t20 : AV)) fun t17 =>
 condA t17 true (
 letO (some ((.int .i64 2) : AV)) fun t2 =>
endK t2 H2 K) (
 letO (some ((.int .i64 0) : AV)) fun t2 =>
endK t2 H2 K)))

theorem W43_ok {x0 : AV} {H : Heap} {K : AV → Heap → Prop} (h : W43 x0 H K) : ACalls Tryd.prog 43 [x0] H K :=
  acallsB (fn := Tryd.f43) (cfg := cfgOf [] [] [] [] [] []) (hh := (.dir .nil (.dir (.blk (.dir .nil (.dir .nil (.dir .nil (.dir .nil (.dir .nil (.dir .nil .nil))))))) .nil))) follows Tryd.func43 (by kernel_rfl) (Nat.le_of_ble_eq_true (by kernel_rfl)) (by kernel_rfl) h

/-- (*headword.stand.table).least -/
def W44 (x0 x1 x2 : AV) (H : Heap) (K : AV → Heap → Prop) : Prop :=
 letO (cellsOf? x2) fun c1 =>
 allocA [(.int .i64 0), (.int .i64 0)] (fun t6 H2 =>
 letO (some (x1 : AV)) fun t13 =>
 letO (some (x0 : AV)) fun t14 =>
 letO (nilF t14) fun t15 =>
 letO (faddr 0 t15) fun t16 =>
 letO (faddr 1 t16) fun t17 =>
 letO (load1 t17 H2) fun t18 =>
 letO (lenA t18) fun t19 =>
 letO (binF Tryd.prog .eql 3 t13 t19) fun t20 =>
 condA t20 true (
 letO (buildF Tryd.prog 96 [(1, (.int .i64 1))]) fun t21 =>
 storeA 2 t6 t21 (fun H3 =>
 letO (loadN 2 t6 H3) fun r4 => endK r4 H3 K) H2) (
 true = true ∧
 letO (some (x0 : AV)) fun t22 =>
 letO (some (x1 : AV)) fun t23 =>
 letO (faddr 0 (.iptr c1)) fun t24 =>
 letO (load1 t24 Heap.none) fun t25 =>
 letO (nilF t22) fun t26 =>
 letO (faddr 2 t26) fun t27 =>
 letO (idxArr 12 128 t27 t23) fun t28 =>
 letO (idxArr 64 2 t28 t25) fun t29 =>
 letO (loadN 2 t29 H2) fun t30 =>
 allocA [(.int .i64 0), (.int .i64 0)] (fun t7 H5 =>
 storeA 2 t7 t30 (fun H6 =>
 letO (loadN 2 t7 H6) fun t31 =>
 letO (buildF Tryd.prog 96 []) fun t32 =>
 letO (binF Tryd.prog .neq 96 t31 t32) fun t33 =>
 condA t33 true (
 letO (loadN 2 t7 H6) fun t34 =>
 storeA 2 t6 t34 (fun H7 =>
 letO (loadN 2 t6 H7) fun r8 => endK r8 H7 K) H6) (
 letO (some (x0 : AV)) fun t35 =>
 letO (nilF t35) fun t36 =>
 letO (faddr 0 t36) fun t37 =>
 letO (faddr 1 t37) fun t38 =>
 letO (load1 t38 H6) fun t39 =>
 letO (some (x1 : AV)) fun t40 =>
 letO (idx 1 t39 t40) fun t41 =>
 letO (load1 t41 H6) fun t42 =>
 letO (some (t42 : AV)) fun t8 =>
 allocA [(.int .i64 0), (.int .i64 0)] (fun t9 H9 =>
 true = true ∧ ∃ J10 : List AV → Heap → Prop, (
 letO (faddr 0 (.iptr c1)) fun t89 =>
 letO (load1 t89 H9) fun t90 =>
 letO (some (t8 : AV)) fun t91 =>
 letO (binF Tryd.prog .shr 76 t90 t91) fun t92 =>
 letO (binF Tryd.prog .and 76 t92 (.int .u64 1)) fun t93 =>
 letO (binF Tryd.prog .eql 76 t93 (.int .u64 1)) fun t94 =>
 letO (some (t94 : AV)) fun t88 =>
 condA t88 true (
 letO (some (x0 : AV)) fun t95 =>
 letO (some (x1 : AV)) fun t96 =>
 letO (binF Tryd.prog .add 3 t96 (.int .i64 1)) fun t97 =>
 letO (loadN 1 (.iptr c1) H9) fun t98 =>
 ACalls Tryd.prog 44 [t95, t97, t98] H9 fun t99 H11 =>
 storeA 2 t9 t99 (fun H12 =>
 J10 [] H12) H11) (
 true = true ∧
 letO (loadN 1 (.iptr c1) Heap.none) fun t101 =>
 letO (some (t8 : AV)) fun t102 =>
 letO (some (x0 : AV)) fun t103 =>
 letO (nilF t103) fun t104 =>
 letO (faddr 0 t104) fun t105 =>
 letO (faddr 0 t105) fun t106 =>
 letO (load1 t106 H9) fun t107 =>
 ACalls Tryd.prog 71 [t101, t102, t107] H9 fun t108 H13 =>
 letO (unF .not t108) fun t109 =>
 letO (some (t109 : AV)) fun t100 =>
 condA t100 true (
 letO (some (x0 : AV)) fun t110 =>
 letO (some (x1 : AV)) fun t111 =>
 letO (binF Tryd.prog .add 3 t111 (.int .i64 1)) fun t112 =>
 letO (loadN 1 (.iptr c1) H13) fun t113 =>
 letO (some (t8 : AV)) fun t114 =>
 ACalls Tryd.prog 72 [t113, t114, (.int .i64 (-1))] H13 fun t115 H14 =>
 ACalls Tryd.prog 44 [t110, t112, t115] H14 fun t116 H15 =>
 storeA 2 t9 t116 (fun H16 =>
 letO (faddr 0 t9) fun t117 =>
 letO (load1 t117 H16) fun t118 =>
 letO (binF Tryd.prog .add 3 t118 (.int .i64 1)) fun t119 =>
 letO (faddr 0 t9) fun t120 =>
 storeA 1 t120 t119 (fun H17 =>
 J10 [] H17) H16) H15) (
 letO (faddr 0 (.iptr c1)) fun t43 =>
 letO (load1 t43 H13) fun t44 =>
 ACalls Tryd.prog 73 [t44] H13 fun t45 H18 =>
 letO (lenA t45) fun t46 =>
 letO (some ((.int .i64 0) : AV)) fun t47 =>
 true = true ∧ ∃ (I19 : List AV → Heap → Prop) (μ20 : List AV → Heap → Nat), I19 [t47] H18 ∧ ∀ L21 H22, I19 L21 H22 → -- [t47]
 letO (binF Tryd.prog .lss 3 (L21.getD 0 .any) t46) fun t48 =>
 condA t48 true (
 true = true ∧ ∃ J23 : List AV → Heap → Prop, (
 letO (idx 1 t45 (L21.getD 0 .any)) fun t49 =>
 letO (load1 t49 H22) fun t50 =>
 letO (some (t50 : AV)) fun t11 =>
 letO (some (x0 : AV)) fun t51 =>
 letO (some (x1 : AV)) fun t52 =>
 letO (binF Tryd.prog .add 3 t52 (.int .i64 1)) fun t53 =>
 letO (loadN 1 (.iptr c1) H22) fun t54 =>
 letO (some (t8 : AV)) fun t55 =>
 letO (some (t11 : AV)) fun t56 =>
 ACalls Tryd.prog 72 [t54, t55, t56] H22 fun t57 H24 =>
 ACalls Tryd.prog 44 [t51, t53, t57] H24 fun t58 H25 =>
 allocA [(.int .i64 0), (.int .i64 0)] (fun t12 H26 =>
 storeA 2 t12 t58 (fun H27 =>
 letO (faddr 0 t12) fun t59 =>
 letO (load1 t59 H27) fun t60 =>
 letO (binF Tryd.prog .add 3 t60 (.int .i64 1)) fun t61 =>
 letO (faddr 0 t12) fun t62 =>
 storeA 1 t62 t61 (fun H28 =>
 letO (loadN 2 t9 H28) fun t64 =>
 letO (buildF Tryd.prog 96 []) fun t65 =>
 letO (binF Tryd.prog .eql 96 t64 t65) fun t66 =>
 letO (some (t66 : AV)) fun t67 =>
 letO (gval t67 false (faddr 0 t12)) fun t68 =>
 letO (gval t67 false (load1 t68 H28)) fun t69 =>
 letO (gval t67 false (faddr 0 t9)) fun t70 =>
 letO (gval t67 false (load1 t70 H28)) fun t71 =>
 letO (gval t67 false (binF Tryd.prog .lss 3 t69 t71)) fun t72 =>
 letO (pickF t67 (.bool true) t72) fun t73 =>
 letO (some (t73 : AV)) fun t63 =>
 condA t63 true (
 letO (loadN 2 t12 H28) fun t74 =>
 storeA 2 t9 t74 (fun H29 =>
 J23 [] H29) H28) (
 letO (faddr 0 t12) fun t76 =>
 letO (load1 t76 H28) fun t77 =>
 letO (faddr 0 t9) fun t78 =>
 letO (load1 t78 H28) fun t79 =>
 letO (binF Tryd.prog .eql 3 t77 t79) fun t80 =>
 letO (some (t80 : AV)) fun t75 =>
 condA t75 true (
 letO (faddr 1 t9) fun t81 =>
 letO (load1 t81 H28) fun t82 =>
 letO (faddr 1 t12) fun t83 =>
 letO (load1 t83 H28) fun t84 =>
 letO (binF Tryd.prog .add 3 t82 t84) fun t85 =>
 letO (faddr 1 t9) fun t86 =>
 storeA 1 t86 t85 (fun H30 =>
 J23 [] H30) H28) (
 J23 [] H28))) H27) H26) H25) ∧ ∀ L31 H32, J23 L31 H32 → -- []
 letO (binF Tryd.prog .add 3 (L21.getD 0 .any) (.int .i64 1)) fun t87 =>
 letO (some (t87 : AV)) fun t47 =>
 I19 [t47] H32 ∧ μ20 [t47] H32 < μ20 L21 H22) (
 J10 [] H22)))) ∧ ∀ L33 H34, J10 L33 H34 → -- []
 true = true ∧
 letO (some (x0 : AV)) fun t121 =>
 letO (some (x1 : AV)) fun t122 =>
 letO (faddr 0 (.iptr c1)) fun t123 =>
 letO (load1 t123 Heap.none) fun t124 =>
 letO (loadN 2 t9 H34) fun t125 =>
 letO (nilF t121) fun t126 =>
 letO (faddr 2 t126) fun t127 =>
 letO (idxArr 12 128 t127 t122) fun t128 =>
 letO (idxArr 64 2 t128 t124) fun t129 =>
 storeA 2 t129 t125 (fun H35 =>
 letO (loadN 2 t9 H35) fun t130 =>
 storeA 2 t6 t130 (fun H36 =>
 letO (loadN 2 t6 H36) fun r37 => endK r37 H36 K) H35) H34) H6)) H5) H2)) H

theorem W44_ok {x0 x1 x2 : AV} {H : Heap} {K : AV → Heap → Prop} (h : W44 x0 x1 x2 H K) : ACalls Tryd.prog 44 [x0, x1, x2] H K :=
  acallsB (fn := Tryd.f44) (cfg := cfgOf [] [25, 101, 124] [(3, [0, 0, 0, 4, 1, 17, 51, 127, 255, 0, 1023]), (20, [0, 0, 0, 4, 12, 28, 60, 127, 255, 511]), (23, [0, 0, 0, 4, 0, 1, 33, 99, 255, 511])] [] [] []) (hh := (.dir .nil (.dir (.dir .nil (.dir .nil .nil)) (.dir (.dir .nil (.dir .nil (.dir .nil .nil))) (.dir .nil (.dir .nil (.cut [] [89, 90, 91, 92, 93, 94, 88, 95, 96, 97, 98, 99, 101, 102, 103, 104, 105, 106, 107, 108, 109, 100, 110, 111, 112, 113, 114, 115, 116, 117, 118, 119, 120, 43, 44, 45, 46, 47, 48, 49, 50, 11, 51, 52, 53, 54, 55, 56, 57, 58, 12, 59, 60, 61, 62, 64, 65, 66, 67, 68, 69, 70, 71, 72, 73, 63, 74, 76, 77, 78, 79, 80, 75, 81, 82, 83, 84, 85, 86, 87] (.blk (.dir .nil (.dir .nil (.dir .nil (.dir .nil (.dir .nil (.blk (.loop [47] [48, 49, 50, 11, 51, 52, 53, 54, 55, 56, 57, 58, 12, 59, 60, 61, 62, 64, 65, 66, 67, 68, 69, 70, 71, 72, 73, 63, 74, 76, 77, 78, 79, 80, 75, 81, 82, 83, 84, 85, 86, 87, 47] (.dir .nil (.dir .nil (.cut [] [49, 50, 11, 51, 52, 53, 54, 55, 56, 57, 58, 12, 59, 60, 61, 62, 64, 65, 66, 67, 68, 69, 70, 71, 72, 73, 63, 74, 76, 77, 78, 79, 80, 75, 81, 82, 83, 84, 85, 86] (.blk (.dir .nil (.dir .nil (.dir .nil (.blk (.dir .nil (.dir .nil (.dir .nil .nil)))))))) .nil))))))))))) (.dir .nil .nil)))))))) follows Tryd.func44 (by kernel_rfl) (Nat.le_of_ble_eq_true (by kernel_rfl)) (by kernel_rfl) h

/-- (headword.stand.Job).spans -/
def W45 (x0 : AV) (H : Heap) (K : AV → Heap → Prop) : Prop :=
 letO (cellsOf? x0) fun c1 =>
 letO (some (.nils : AV)) fun t2 =>
 letO (some (.nils : AV)) fun t3 =>
 letO (faddr 1 (.iptr c1)) fun t7 =>
 letO (load1 t7 H) fun t8 =>
 letO (lenA t8) fun t9 =>
 letO (some ((.int .i64 0) : AV)) fun t10 =>
 true = true ∧ ∃ (I2 : List AV → Heap → Prop) (μ3 : List AV → Heap → Nat), I2 [t3, t10] H ∧ ∀ L4 H5, I2 L4 H5 → -- [t3, t10]
 letO (binF Tryd.prog .lss 3 (L4.getD 1 .any) t9) fun t11 =>
 condA t11 true (
 true = true ∧ ∃ J6 : List AV → Heap → Prop, (
 letO (some ((L4.getD 1 .any) : AV)) fun t12 =>
 letO (idx 1 t8 (L4.getD 1 .any)) fun t13 =>
 letO (load1 t13 H5) fun t14 =>
 letO (some (t12 : AV)) fun t4 =>
 letO (some (t14 : AV)) fun t5 =>
 letO (loadN 2 (.iptr c1) H5) fun t15 =>
 letO (some (t5 : AV)) fun t16 =>
 letO (some (t4 : AV)) fun t17 =>
 letO (binF Tryd.prog .add 3 t17 (.int .i64 1)) fun t18 =>
 ACalls Tryd.prog 74 [t15, t16, t18] H5 fun t19 H7 =>
 letO (some (t19 : AV)) fun t6 =>
 letO (some (t6 : AV)) fun t20 =>
 letO (binF Tryd.prog .lss 3 t20 (.int .i64 12)) fun t21 =>
 condA t21 true (
 letO (some ((L4.getD 0 .any) : AV)) fun t22 =>
 letO (some (t4 : AV)) fun t23 =>
 letO (some (t6 : AV)) fun t24 =>
 letO (buildF Tryd.prog 30 [(0, t23), (1, t24)]) fun t25 =>
 letO (literalF Tryd.prog 24 1 [(0, t25)]) fun c8 =>
 appendA 2 16 t22 (.imm 1 true c8) (fun t27 H9 =>
 letO (some (t27 : AV)) fun t3 =>
 J6 [t3] H9) H7) (
 J6 [(L4.getD 0 .any)] H7)) ∧ ∀ L10 H11, J6 L10 H11 → -- [t3]
 letO (binF Tryd.prog .add 3 (L4.getD 1 .any) (.int .i64 1)) fun t28 =>
 letO (some (t28 : AV)) fun t10 =>
 I2 [(L10.getD 0 .any), t10] H11 ∧ μ3 [(L10.getD 0 .any), t10] H11 < μ3 L4 H5) (
 letO (some ((L4.getD 0 .any) : AV)) fun t29 =>
 letO (some (t29 : AV)) fun t2 =>
endK t2 H5 K)

theorem W45_ok {x0 : AV} {H : Heap} {K : AV → Heap → Prop} (h : W45 x0 H K) : ACalls Tryd.prog 45 [x0] H K :=
  acallsB (fn := Tryd.f45) (cfg := cfgOf [] [] [] [] [] []) (hh := (.dir .nil (.dir .nil (.dir (.dir .nil (.blk (.loop [3, 10] [11, 12, 13, 14, 4, 5, 15, 16, 17, 18, 19, 6, 20, 21, 22, 23, 24, 25, 26, 27, 3, 28, 10] (.dir .nil (.dir .nil (.cut [3] [12, 13, 14, 4, 5, 15, 16, 17, 18, 19, 6, 20, 21, 22, 23, 24, 25, 26, 27, 3] (.blk (.dir .nil (.dir .nil (.dir .nil .nil)))) .nil)))))) .nil)))) follows Tryd.func45 (by kernel_rfl) (Nat.le_of_ble_eq_true (by kernel_rfl)) (by kernel_rfl) h

/-- headword.reign.Check -/
def W46 (x0 : AV) (H : Heap) (K : AV → Heap → Prop) : Prop :=
 letO (some ((.int .i64 0) : AV)) fun t2 =>
 letO (some (x0 : AV)) fun t6 =>
 letO (lenA t6) fun t7 =>
 letO (binF Tryd.prog .eql 3 t7 (.int .i64 0)) fun t8 =>
 letO (some (t8 : AV)) fun t5 =>
 condA t5 true (
 letO (some ((.int .i64 4) : AV)) fun t2 =>
endK t2 H K) (
 letO (some (x0 : AV)) fun t10 =>
 letO (lenA t10) fun t11 =>
 letO (binF Tryd.prog .gtr 3 t11 (.int .i64 8)) fun t12 =>
 letO (some (t12 : AV)) fun t9 =>
 condA t9 true (
 letO (some ((.int .i64 3) : AV)) fun t2 =>
endK t2 H K) (
 letO (some (x0 : AV)) fun t13 =>
 letO (lenA t13) fun t14 =>
 letO (some ((.int .i64 0) : AV)) fun t15 =>
 true = true ∧ ∃ (I1 : List AV → Heap → Prop) (μ2 : List AV → Heap → Nat), I1 [t15] H ∧ ∀ L3 H4, I1 L3 H4 → -- [t15]
 letO (binF Tryd.prog .lss 3 (L3.getD 0 .any) t14) fun t16 =>
 condA t16 true (
 letO (idx 2 t13 (L3.getD 0 .any)) fun t17 =>
 letO (loadN 2 t17 H4) fun t18 =>
 allocA [(.int .i64 0), (.int .i64 0)] (fun t4 H5 =>
 storeA 2 t4 t18 (fun H6 =>
 letO (faddr 0 t4) fun t19 =>
 letO (load1 t19 H6) fun t20 =>
 letO (binF Tryd.prog .lss 3 t20 (.int .i64 0)) fun t21 =>
 letO (some (t21 : AV)) fun t22 =>
 letO (gval t22 false (faddr 0 t4)) fun t23 =>
 letO (gval t22 false (load1 t23 H6)) fun t24 =>
 letO (gval t22 false (binF Tryd.prog .gtr 3 t24 (.int .i64 100))) fun t25 =>
 letO (pickF t22 (.bool true) t25) fun t26 =>
 letO (some (t26 : AV)) fun t27 =>
 letO (gval t27 false (faddr 1 t4)) fun t28 =>
 letO (gval t27 false (load1 t28 H6)) fun t29 =>
 letO (gval t27 false (binF Tryd.prog .lss 3 t29 (.int .i64 1))) fun t30 =>
 letO (pickF t27 (.bool true) t30) fun t31 =>
 letO (some (t31 : AV)) fun t32 =>
 letO (gval t32 false (faddr 1 t4)) fun t33 =>
 letO (gval t32 false (load1 t33 H6)) fun t34 =>
 letO (gval t32 false (binF Tryd.prog .gtr 3 t34 (.int .i64 9))) fun t35 =>
 letO (pickF t32 (.bool true) t35) fun t36 =>
 condA t36 true (
 letO (some ((.int .i64 1) : AV)) fun t2 =>
endK t2 H6 K) (
 letO (binF Tryd.prog .add 3 (L3.getD 0 .any) (.int .i64 1)) fun t37 =>
 letO (some (t37 : AV)) fun t15 =>
 I1 [t15] H6 ∧ μ2 [t15] H6 < μ2 L3 H4)) H5) H4) (
 letO (some ((.int .i64 0) : AV)) fun t2 =>
endK t2 H4 K)))

theorem W46_ok {x0 : AV} {H : Heap} {K : AV → Heap → Prop} (h : W46 x0 H K) : ACalls Tryd.prog 46 [x0] H K :=
  acallsB (fn := Tryd.f46) (cfg := cfgOf [] [] [] [] [] []) (hh := (.dir .nil (.dir (.blk (.dir .nil (.dir .nil (.dir .nil (.dir .nil .nil))))) (.dir (.dir .nil (.blk (.loop [15] [16, 17, 18, 4, 19, 20, 21, 22, 23, 24, 25, 26, 27, 28, 29, 30, 31, 32, 33, 34, 35, 36, 2, 37, 15] (.dir .nil (.dir .nil (.dir (.blk (.dir .nil (.dir .nil (.dir .nil .nil)))) .nil)))))) .nil)))) follows Tryd.func46 (by kernel_rfl) (Nat.le_of_ble_eq_true (by kernel_rfl)) (by kernel_rfl) h

/-- slices.ContainsFunc[[]int,int] -/
def W69 (x0 x1 : AV) (H : Heap) (K : AV → Heap → Prop) : Prop :=
 letO (some ((.bool false) : AV)) fun t4 =>
 letO (some (x0 : AV)) fun t5 =>
 letO (some (x1 : AV)) fun t6 =>
 ACalls Tryd.prog 98 [t5, t6] H fun t7 H1 =>
 letO (binF Tryd.prog .geq 3 t7 (.int .i64 0)) fun t8 =>
 letO (some (t8 : AV)) fun t4 =>
endK t4 H1 K

theorem W69_ok {x0 x1 : AV} {H : Heap} {K : AV → Heap → Prop} (h : W69 x0 x1 H K) : ACalls Tryd.prog 69 [x0, x1] H K :=
  acallsB (fn := Tryd.f69) (cfg := cfgOf [] [] [] [] [] []) (hh := (.dir .nil .nil)) follows Tryd.func69 (by kernel_rfl) (Nat.le_of_ble_eq_true (by kernel_rfl)) (by kernel_rfl) h

/-- headword.stand.Check$1 -/
def W70 (x0 : AV) (H : Heap) (K : AV → Heap → Prop) : Prop :=
 letO (some ((.bool false) : AV)) fun t2 =>
 letO (some (x0 : AV)) fun t3 =>
 letO (binF Tryd.prog .lss 3 t3 (.int .i64 0)) fun t4 =>
 letO (some (t4 : AV)) fun t5 =>
 letO (gval t5 false (some (x0 : AV))) fun t6 =>
 letO (gval t5 false (binF Tryd.prog .geq 3 t6 (.int .i64 6))) fun t7 =>
 letO (pickF t5 (.bool true) t7) fun t8 =>
 letO (some (t8 : AV)) fun t2 =>
endK t2 H K

theorem W70_ok {x0 : AV} {H : Heap} {K : AV → Heap → Prop} (h : W70 x0 H K) : ACalls Tryd.prog 70 [x0] H K :=
  acallsB (fn := Tryd.f70) (cfg := cfgOf [] [] [] [] [] []) (hh := (.dir .nil .nil)) follows Tryd.func70 (by kernel_rfl) (Nat.le_of_ble_eq_true (by kernel_rfl)) (by kernel_rfl) h

/-- (headword.stand.floor).full -/
def W71 (x0 x1 x2 : AV) (H : Heap) (K : AV → Heap → Prop) : Prop :=
 letO (cellsOf? x0) fun c1 =>
 letO (some ((.bool false) : AV)) fun t6 =>
 letO (faddr 0 (.iptr c1)) fun t7 =>
 letO (load1 t7 H) fun t8 =>
 letO (some (x1 : AV)) fun t9 =>
 letO (binF Tryd.prog .shr 76 t8 t9) fun t10 =>
 letO (binF Tryd.prog .and 76 t10 (.int .u64 1)) fun t11 =>
 letO (binF Tryd.prog .eql 76 t11 (.int .u64 0)) fun t12 =>
 letO (some (t12 : AV)) fun t13 =>
 letO (gval t13 true (faddr 0 (.iptr c1))) fun t14 =>
 letO (gval t13 true (load1 t14 H)) fun t15 =>
 ∃ J2 : AV → Heap → Prop, condG t13 true (ACalls Tryd.prog 99 [t15] H fun t16 H3 =>
 J2 t16 H3) (J2 (.tup []) H) ∧ ∀ t16 H4, J2 t16 H4 →
 letO (gval t13 true (some (x2 : AV))) fun t17 =>
 letO (gval t13 true (binF Tryd.prog .geq 3 t16 t17)) fun t18 =>
 letO (pickF t13 t18 (.bool false)) fun t19 =>
 letO (some (t19 : AV)) fun t6 =>
endK t6 H4 K

theorem W71_ok {x0 x1 x2 : AV} {H : Heap} {K : AV → Heap → Prop} (h : W71 x0 x1 x2 H K) : ACalls Tryd.prog 71 [x0, x1, x2] H K :=
  acallsB (fn := Tryd.f71) (cfg := cfgOf [] [] [] [] [] []) (hh := (.dir .nil .nil)) follows Tryd.func71 (by kernel_rfl) (Nat.le_of_ble_eq_true (by kernel_rfl)) (by kernel_rfl) h

/-- (headword.stand.floor).with -/
def W72 (x0 x1 x2 : AV) (H : Heap) (K : AV → Heap → Prop) : Prop :=
 letO (cellsOf? x0) fun c1 => allocA c1 (fun t3 H2 =>
 allocA [(.int .u64 0)] (fun t6 H3 =>
 true = true ∧ ∃ J4 : List AV → Heap → Prop, (
 letO (some (x2 : AV)) fun t7 =>
 letO (binF Tryd.prog .geq 3 t7 (.int .i64 0)) fun t8 =>
 condA t8 true (
 true = true ∧
 letO (faddr 0 t3) fun t9 =>
 letO (load1 t9 H3) fun t10 =>
 letO (some (x2 : AV)) fun t11 =>
 letO (binF Tryd.prog .shl 76 (.int .u64 1) t11) fun t12 =>
 letO (binF Tryd.prog .andNot 76 t10 t12) fun t13 =>
 letO (faddr 0 t3) fun t14 =>
 storeA 1 t14 t13 (fun H5 =>
 J4 [] H5) H3) (
 J4 [] H3)) ∧ ∀ L6 H7, J4 L6 H7 → -- []
 true = true ∧
 letO (faddr 0 t3) fun t15 =>
 letO (load1 t15 H7) fun t16 =>
 letO (some (x1 : AV)) fun t17 =>
 letO (binF Tryd.prog .shl 76 (.int .u64 1) t17) fun t18 =>
 letO (binF Tryd.prog .or 76 t16 t18) fun t19 =>
 letO (faddr 0 t3) fun t20 =>
 storeA 1 t20 t19 (fun H8 =>
 letO (loadN 1 t3 H8) fun t21 =>
 storeA 1 t6 t21 (fun H9 =>
 letO (loadN 1 t6 H9) fun r10 => endK r10 H9 K) H8) H7) H2) H

theorem W72_ok {x0 x1 x2 : AV} {H : Heap} {K : AV → Heap → Prop} (h : W72 x0 x1 x2 H K) : ACalls Tryd.prog 72 [x0, x1, x2] H K :=
  acallsB (fn := Tryd.f72) (cfg := cfgOf [3] [] [(2, [0, 1, 0, 4, 15, 31, 63]), (3, [0, 1, 0, 4, 15, 31, 63])] [] [] []) (hh := (.dir .nil (.cut [] [7, 8, 9, 10, 11, 12, 13, 14] (.dir .nil .nil) (.dir .nil .nil)))) follows Tryd.func72 (by kernel_rfl) (Nat.le_of_ble_eq_true (by kernel_rfl)) (by kernel_rfl) h

/-- headword.stand.list -/
def W73 (x0 : AV) (H : Heap) (K : AV → Heap → Prop) : Prop :=
 letO (some (.nils : AV)) fun t2 =>
 letO (some (.nils : AV)) fun t3 =>
 true = true ∧ ∃ (I1 : List AV → Heap → Prop) (μ2 : List AV → Heap → Nat), I1 [t3, x0] H ∧ ∀ L3 H4, I1 L3 H4 → -- [t3, t0]
 letO (some ((L3.getD 1 .any) : AV)) fun t4 =>
 letO (binF Tryd.prog .neq 76 t4 (.int .u64 0)) fun t5 =>
 condA t5 true (
 letO (some ((L3.getD 0 .any) : AV)) fun t10 =>
 letO (some ((L3.getD 1 .any) : AV)) fun t11 =>
 ACalls Tryd.prog 48 [t11] H4 fun t12 H5 =>
 letO (literalF Tryd.prog 35 1 [(0, t12)]) fun c6 =>
 appendA 1 8 t10 (.imm 1 true c6) (fun t14 H7 =>
 letO (some (t14 : AV)) fun t3 =>
 letO (some ((L3.getD 1 .any) : AV)) fun t6 =>
 letO (some ((L3.getD 1 .any) : AV)) fun t7 =>
 letO (binF Tryd.prog .sub 76 t7 (.int .u64 1)) fun t8 =>
 letO (binF Tryd.prog .and 76 t6 t8) fun t9 =>
 letO (some (t9 : AV)) fun t0 =>
 I1 [t3, t0] H7 ∧ μ2 [t3, t0] H7 < μ2 L3 H4) H5) (
 letO (some ((L3.getD 0 .any) : AV)) fun t15 =>
 letO (some (t15 : AV)) fun t2 =>
endK t2 H4 K)

theorem W73_ok {x0 : AV} {H : Heap} {K : AV → Heap → Prop} (h : W73 x0 H K) : ACalls Tryd.prog 73 [x0] H K :=
  acallsB (fn := Tryd.f73) (cfg := cfgOf [] [] [] [] [] []) (hh := (.dir .nil (.dir .nil (.dir (.blk (.loop [3, 0] [4, 5, 10, 11, 12, 13, 14, 3, 6, 7, 8, 9, 0] (.dir (.dir .nil .nil) (.dir .nil .nil)))) .nil)))) follows Tryd.func73 (by kernel_rfl) (Nat.le_of_ble_eq_true (by kernel_rfl)) (by kernel_rfl) h

/-- (headword.stand.Job).after -/
def W74 (x0 x1 x2 : AV) (H : Heap) (K : AV → Heap → Prop) : Prop :=
 letO (cellsOf? x0) fun c1 =>
 letO (some ((.int .i64 0) : AV)) fun t6 =>
 letO (faddr 1 (.iptr c1)) fun t8 =>
 letO (load1 t8 H) fun t9 =>
 letO (some (x2 : AV)) fun t10 =>
 letO (slc 1 t9 (some t10) none none) fun t11 =>
 letO (some (x1 : AV)) fun t12 =>
 ACalls Tryd.prog 38 [t11, t12] H fun t13 H2 =>
 letO (some (t13 : AV)) fun t7 =>
 letO (some (t7 : AV)) fun t14 =>
 letO (binF Tryd.prog .geq 3 t14 (.int .i64 0)) fun t15 =>
 condA t15 true (
 letO (some (x2 : AV)) fun t16 =>
 letO (some (t7 : AV)) fun t17 =>
 letO (binF Tryd.prog .add 3 t16 t17) fun t18 =>
 letO (some (t18 : AV)) fun t6 =>
endK t6 H2 K) (
 letO (some ((.int .i64 12) : AV)) fun t6 =>
endK t6 H2 K)

theorem W74_ok {x0 x1 x2 : AV} {H : Heap} {K : AV → Heap → Prop} (h : W74 x0 x1 x2 H K) : ACalls Tryd.prog 74 [x0, x1, x2] H K :=
  acallsB (fn := Tryd.f74) (cfg := cfgOf [] [] [] [] [] []) (hh := (.dir .nil (.dir (.dir .nil (.dir .nil (.dir .nil .nil))) .nil))) follows Tryd.func74 (by kernel_rfl) (Nat.le_of_ble_eq_true (by kernel_rfl)) (by kernel_rfl) h

/-- slices.IndexFunc[[]int,int] -/
def W98 (x0 x1 : AV) (H : Heap) (K : AV → Heap → Prop) : Prop :=
 letO (some ((.int .i64 0) : AV)) fun t4 =>
 letO (some (x0 : AV)) fun t6 =>
 letO (lenA t6) fun t7 =>
 letO (some ((.int .i64 0) : AV)) fun t8 =>
 true = true ∧ ∃ (I1 : List AV → Heap → Prop) (μ2 : List AV → Heap → Nat), I1 [t8] H ∧ ∀ L3 H4, I1 L3 H4 → -- [t8]
 letO (binF Tryd.prog .lss 3 (L3.getD 0 .any) t7) fun t9 =>
 condA t9 true (
 letO (some ((L3.getD 0 .any) : AV)) fun t10 =>
 letO (some (t10 : AV)) fun t5 =>
 letO (some (x1 : AV)) fun t11 =>
 letO (some (x0 : AV)) fun t12 =>
 letO (some (t5 : AV)) fun t13 =>
 letO (idx 1 t12 t13) fun t14 =>
 letO (load1 t14 H4) fun t15 =>
 callA Tryd.prog t11 [t15] (fun t16 H5 =>
 condA t16 true (
 letO (some (t5 : AV)) fun t17 =>
 letO (some (t17 : AV)) fun t4 =>
endK t4 H5 K) (
 letO (binF Tryd.prog .add 3 (L3.getD 0 .any) (.int .i64 1)) fun t18 =>
 letO (some (t18 : AV)) fun t8 =>
 I1 [t8] H5 ∧ μ2 [t8] H5 < μ2 L3 H4)) H4) (
 letO (some ((.int .i64 (-1)) : AV)) fun t4 =>
endK t4 H4 K)

theorem W98_ok {x0 x1 : AV} {H : Heap} {K : AV → Heap → Prop} (h : W98 x0 x1 H K) : ACalls Tryd.prog 98 [x0, x1] H K :=
  acallsB (fn := Tryd.f98) (cfg := cfgOf [] [] [] [] [] []) (hh := (.dir .nil (.dir (.dir .nil (.blk (.loop [8] [9, 10, 5, 11, 12, 13, 14, 15, 16, 17, 4, 18, 8] (.dir .nil (.dir .nil (.dir (.blk (.dir .nil (.dir .nil (.dir .nil .nil)))) .nil)))))) .nil))) follows Tryd.func98 (by kernel_rfl) (Nat.le_of_ble_eq_true (by kernel_rfl)) (by kernel_rfl) h

/-- math.bits.OnesCount -/
def W99 (x0 : AV) (H : Heap) (K : AV → Heap → Prop) : Prop :=
 letO (some ((.int .i64 0) : AV)) fun t2 =>
 condA (.bool false) true (
 letO (some (x0 : AV)) fun t3 =>
 letO (convF Tryd.prog 76 139 t3) fun t4 =>
 ACalls Tryd.prog 109 [t4] H fun t5 H1 =>
 letO (some (t5 : AV)) fun t2 =>
endK t2 H1 K) (
 letO (some (x0 : AV)) fun t6 =>
 ACalls Tryd.prog 110 [t6] H fun t7 H2 =>
 letO (some (t7 : AV)) fun t2 =>
endK t2 H2 K)

theorem W99_ok {x0 : AV} {H : Heap} {K : AV → Heap → Prop} (h : W99 x0 H K) : ACalls Tryd.prog 99 [x0] H K :=
  acallsB (fn := Tryd.f99) (cfg := cfgOf [] [] [] [] [] []) (hh := (.dir .nil (.dir (.dir .nil .nil) .nil))) follows Tryd.func99 (by kernel_rfl) (Nat.le_of_ble_eq_true (by kernel_rfl)) (by kernel_rfl) h

/-- math.bits.OnesCount64 -/
def W110 (x0 : AV) (H : Heap) (K : AV → Heap → Prop) : Prop :=
 letO (some ((.int .i64 0) : AV)) fun t2 =>
 letO (some (x0 : AV)) fun t3 =>
 letO (binF Tryd.prog .shr 141 t3 (.int .u64 1)) fun t4 =>
 letO (binF Tryd.prog .and 141 t4 (.int .u64 6148914691236517205)) fun t5 =>
 letO (some (x0 : AV)) fun t6 =>
 letO (binF Tryd.prog .and 141 t6 (.int .u64 6148914691236517205)) fun t7 =>
 letO (binF Tryd.prog .add 141 t5 t7) fun t8 =>
 letO (some (t8 : AV)) fun t0 =>
 letO (some (t0 : AV)) fun t9 =>
 letO (binF Tryd.prog .shr 141 t9 (.int .u64 2)) fun t10 =>
 letO (binF Tryd.prog .and 141 t10 (.int .u64 3689348814741910323)) fun t11 =>
 letO (some (t0 : AV)) fun t12 =>
 letO (binF Tryd.prog .and 141 t12 (.int .u64 3689348814741910323)) fun t13 =>
 letO (binF Tryd.prog .add 141 t11 t13) fun t14 =>
 letO (some (t14 : AV)) fun t0 =>
 letO (some (t0 : AV)) fun t15 =>
 letO (binF Tryd.prog .shr 141 t15 (.int .u64 4)) fun t16 =>
 letO (some (t0 : AV)) fun t17 =>
 letO (binF Tryd.prog .add 141 t16 t17) fun t18 =>
 letO (binF Tryd.prog .and 141 t18 (.int .u64 1085102592571150095)) fun t19 =>
 letO (some (t19 : AV)) fun t0 =>
 letO (some (t0 : AV)) fun t20 =>
 letO (some (t0 : AV)) fun t21 =>
 letO (binF Tryd.prog .shr 141 t21 (.int .u64 8)) fun t22 =>
 letO (binF Tryd.prog .add 141 t20 t22) fun t23 =>
 letO (some (t23 : AV)) fun t0 =>
 letO (some (t0 : AV)) fun t24 =>
 letO (some (t0 : AV)) fun t25 =>
 letO (binF Tryd.prog .shr 141 t25 (.int .u64 16)) fun t26 =>
 letO (binF Tryd.prog .add 141 t24 t26) fun t27 =>
 letO (some (t27 : AV)) fun t0 =>
 letO (some (t0 : AV)) fun t28 =>
 letO (some (t0 : AV)) fun t29 =>
 letO (binF Tryd.prog .shr 141 t29 (.int .u64 32)) fun t30 =>
 letO (binF Tryd.prog .add 141 t28 t30) fun t31 =>
 letO (some (t31 : AV)) fun t0 =>
 letO (some (t0 : AV)) fun t32 =>
 letO (convF Tryd.prog 141 3 t32) fun t33 =>
 letO (binF Tryd.prog .and 3 t33 (.int .i64 127)) fun t34 =>
 letO (some (t34 : AV)) fun t2 =>
endK t2 H K

theorem W110_ok {x0 : AV} {H : Heap} {K : AV → Heap → Prop} (h : W110 x0 H K) : ACalls Tryd.prog 110 [x0] H K :=
  acallsB (fn := Tryd.f110) (cfg := cfgOf [] [] [] [] [] []) (hh := (.dir .nil (.dir .nil (.dir .nil (.dir .nil (.dir .nil (.dir .nil (.dir .nil .nil)))))))) follows Tryd.func110 (by kernel_rfl) (Nat.le_of_ble_eq_true (by kernel_rfl)) (by kernel_rfl) h


end Go.Proofs.YtmmfelpgcdlgfaaDoor
