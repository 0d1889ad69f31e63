import Derived.Test.YtmmfelpgcdlgfaaDoorConB
/- The functions of the statement TopRoad that the common text does not hold, each in the words of its walk; made by program. -/
set_option linter.unusedVariables false
set_option maxRecDepth 100000
namespace Go.Proofs.YtmmfelpgcdlgfaaDoor
open Go.Av
/-- headword.headwordtop.TopMutual -/
def W3 (x0 x1 : AV) (H : Heap) (K : AV → Heap → Prop) : Prop :=
 letO (cellsOf? x1) fun c1 =>
 letO (some ((.bool false) : AV)) fun t4 =>
 letO (some (x0 : AV)) fun t23 =>
 letO (convF Tryd.prog 5 3 t23) fun t24 =>
 letO (binF Tryd.prog .rem 3 t24 (.int .i64 7)) fun t25 =>
 letO (binF Tryd.prog .add 3 (.int .i64 1) t25) fun t26 =>
 letO (some (t26 : AV)) fun t5 =>
 letO (some (t5 : AV)) fun t27 =>
 letO (some (t5 : AV)) fun t28 =>
 letO (loadN 16 (.iptr c1) H) fun t29 =>
 ACalls Tryd.prog 8 [t28, (.int .i64 8), t29] H fun t30 H2 =>
 letO (buildF Tryd.prog 27 [(0, t27), (1, t30)]) fun t31 =>
 allocA [(.int .i64 0), .nils] (fun t6 H3 =>
 storeA 2 t6 t31 (fun H4 =>
 letO (some (t5 : AV)) fun t32 =>
 letO (buildF Tryd.prog 29 [(0, t32)]) fun t33 =>
 allocA [(.int .i64 0), .nils] (fun t7 H5 =>
 storeA 2 t7 t33 (fun H6 =>
 letO (faddr 1 t6) fun t34 =>
 letO (load1 t34 H6) fun t35 =>
 letO (lenA t35) fun t36 =>
 letO (some ((.int .i64 0) : AV)) fun t37 =>
 true = true ∧ ∃ (I7 : List AV → Heap → Prop) (μ8 : List AV → Heap → Nat), I7 [t37] H6 ∧ ∀ L9 H10, I7 L9 H10 → -- [t37]
 letO (binF Tryd.prog .lss 3 (L9.getD 0 .any) t36) fun t38 =>
 condA t38 true (
 letO (idx 2 t35 (L9.getD 0 .any)) fun t39 =>
 letO (loadN 2 t39 H10) fun t40 =>
 allocA [(.int .i64 0), (.int .i64 0)] (fun t9 H11 =>
 storeA 2 t9 t40 (fun H12 =>
 letO (faddr 1 t7) fun t41 =>
 letO (load1 t41 H12) fun t42 =>
 letO (loadN 2 t9 H12) fun t43 =>
 letO (idxArr 2 1 t9 (.int .i64 1)) fun t44 =>
 letO (load1 t44 H12) fun t45 =>
 letO (idxArr 2 1 t9 (.int .i64 0)) fun t46 =>
 letO (load1 t46 H12) fun t47 =>
 letO (buildF Tryd.prog 30 [(0, t45), (1, t47)]) fun t48 =>
 letO (literalF Tryd.prog 24 2 [(0, t43), (1, t48)]) fun c13 =>
 appendA 2 16 t42 (.imm 2 true c13) (fun t50 H14 =>
 letO (faddr 1 t7) fun t51 =>
 storeA 1 t51 t50 (fun H15 =>
 letO (binF Tryd.prog .add 3 (L9.getD 0 .any) (.int .i64 1)) fun t52 =>
 letO (some (t52 : AV)) fun t37 =>
 I7 [t37] H15 ∧ μ8 [t37] H15 < μ8 L9 H10) H14) H12) H11) H10) (
 letO (loadN 2 t7 H10) fun t54 =>
 ACalls Tryd.prog 9 [t54] H10 fun t55 H16 =>
 letO (some (t55 : AV)) fun t53 =>
 letO (extrF t53 0) fun t56 =>
 letO (extrF t53 1) fun t57 =>
 letO (some (t56 : AV)) fun t10 =>
 letO (some (t57 : AV)) fun t11 =>
 letO (loadN 2 t6 H16) fun t59 =>
 ACalls Tryd.prog 10 [t59] H16 fun t60 H17 =>
 letO (some (t60 : AV)) fun t58 =>
 letO (extrF t58 0) fun t61 =>
 letO (extrF t58 1) fun t62 =>
 letO (some (t61 : AV)) fun t12 =>
 letO (some (t62 : AV)) fun t13 =>
 letO (loadN 2 t6 H17) fun t64 =>
 ACalls Tryd.prog 11 [t64] H17 fun t65 H18 =>
 letO (some (t65 : AV)) fun t63 =>
 letO (extrF t63 0) fun t66 =>
 letO (extrF t63 1) fun t67 =>
 letO (some (t66 : AV)) fun t14 =>
 letO (some (t67 : AV)) fun t15 =>
 letO (some (t11 : AV)) fun t68 =>
 letO (binF Tryd.prog .neq 32 t68 (.int .i64 0)) fun t69 =>
 letO (some (t69 : AV)) fun t70 =>
 letO (gval t70 false (some (t13 : AV))) fun t71 =>
 letO (gval t70 false (binF Tryd.prog .neq 32 t71 (.int .i64 0))) fun t72 =>
 letO (pickF t70 (.bool true) t72) fun t73 =>
 letO (some (t73 : AV)) fun t74 =>
 letO (gval t74 false (some (t15 : AV))) fun t75 =>
 letO (gval t74 false (binF Tryd.prog .neq 32 t75 (.int .i64 0))) fun t76 =>
 letO (pickF t74 (.bool true) t76) fun t77 =>
 condA t77 true (
 letO (some ((.bool false) : AV)) fun t4 =>
endK t4 H18 K) (
 letO (some ((.int .i64 0) : AV)) fun t16 =>
 letO (some ((.int .i64 0) : AV)) fun t17 =>
 letO (some ((.bool false) : AV)) fun t18 =>
 letO (some (t10 : AV)) fun t78 =>
 letO (lenA t78) fun t79 =>
 letO (some ((.int .i64 0) : AV)) fun t80 =>
 true = true ∧ ∃ (I19 : List AV → Heap → Prop) (μ20 : List AV → Heap → Nat), I19 [t16, t17, t18, t80] H18 ∧ ∀ L21 H22, I19 L21 H22 → -- [t16, t17, t18, t80]
 letO (binF Tryd.prog .lss 3 (L21.getD 3 .any) t79) fun t81 =>
 condA t81 true (
 true = true ∧ ∃ J23 : List AV → Heap → Prop, (
 letO (idx 1 t78 (L21.getD 3 .any)) fun t82 =>
 letO (load1 t82 H22) fun t83 =>
 letO (some (t83 : AV)) fun t20 =>
 true = true ∧ ∃ J24 : List AV → Heap → Prop, (
 letO (some (t20 : AV)) fun t84 =>
 letO (lenA t84) fun t85 =>
 letO (some ((L21.getD 0 .any) : AV)) fun t86 =>
 letO (binF Tryd.prog .gtr 3 t85 t86) fun t87 =>
 condA t87 true (
 letO (some (t20 : AV)) fun t88 =>
 letO (lenA t88) fun t89 =>
 letO (some (t89 : AV)) fun t16 =>
 letO (some ((.int .i64 0) : AV)) fun t17 =>
 letO (some ((.bool false) : AV)) fun t18 =>
 J24 [t16, t17, t18] H22) (
 J24 [(L21.getD 0 .any), (L21.getD 1 .any), (L21.getD 2 .any)] H22)) ∧ ∀ L25 H26, J24 L25 H26 → -- [t16, t17, t18]
 letO (some (t20 : AV)) fun t90 =>
 letO (lenA t90) fun t91 =>
 letO (some ((L25.getD 0 .any) : AV)) fun t92 =>
 letO (binF Tryd.prog .lss 3 t91 t92) fun t93 =>
 condA t93 true (
 J23 [(L25.getD 0 .any), (L25.getD 1 .any), (L25.getD 2 .any)] H26) (
 letO (some ((L25.getD 1 .any) : AV)) fun t94 =>
 letO (binF Tryd.prog .add 3 t94 (.int .i64 1)) fun t95 =>
 letO (some (t95 : AV)) fun t17 =>
 letO (some (.nils : AV)) fun t21 =>
 letO (some (t5 : AV)) fun t96 =>
 letO (some ((.int .i64 0) : AV)) fun t97 =>
 true = true ∧ ∃ (I27 : List AV → Heap → Prop) (μ28 : List AV → Heap → Nat), I27 [t21, t97] H26 ∧ ∀ L29 H30, I27 L29 H30 → -- [t21, t97]
 letO (binF Tryd.prog .lss 3 (L29.getD 1 .any) t96) fun t98 =>
 condA t98 true (
 true = true ∧ ∃ J31 : List AV → Heap → Prop, (
 letO (some ((L29.getD 1 .any) : AV)) fun t99 =>
 letO (some (t99 : AV)) fun t22 =>
 letO (some (t20 : AV)) fun t100 =>
 letO (some (t22 : AV)) fun t101 =>
 ACalls Tryd.prog 12 [t100, t101] H30 fun t102 H32 =>
 letO (unF .not t102) fun t103 =>
 condA t103 true (
 letO (some ((L29.getD 0 .any) : AV)) fun t104 =>
 letO (some (t22 : AV)) fun t105 =>
 letO (literalF Tryd.prog 35 1 [(0, t105)]) fun c33 =>
 appendA 1 8 t104 (.imm 1 true c33) (fun t107 H34 =>
 letO (some (t107 : AV)) fun t21 =>
 J31 [t21] H34) H32) (
 J31 [(L29.getD 0 .any)] H32)) ∧ ∀ L35 H36, J31 L35 H36 → -- [t21]
 letO (binF Tryd.prog .add 3 (L29.getD 1 .any) (.int .i64 1)) fun t108 =>
 letO (some (t108 : AV)) fun t97 =>
 I27 [(L35.getD 0 .any), t97] H36 ∧ μ28 [(L35.getD 0 .any), t97] H36 < μ28 L29 H30) (
 letO (loadN 2 t6 H30) fun t109 =>
 letO (some ((L29.getD 0 .any) : AV)) fun t110 =>
 ACalls Tryd.prog 13 [t109, t110] H30 fun t111 H37 =>
 letO (binF Tryd.prog .neq 32 t111 (.int .i64 0)) fun t112 =>
 condA t112 true (
 letO (some ((.bool false) : AV)) fun t4 =>
endK t4 H37 K) (
 letO (some ((L25.getD 2 .any) : AV)) fun t113 =>
 letO (some (t113 : AV)) fun t114 =>
 letO (gval t114 false (some ((L29.getD 0 .any) : AV))) fun t115 =>
 letO (gval t114 false (some (t12 : AV))) fun t116 =>
 ∃ J38 : AV → Heap → Prop, condG t114 false (ACalls Tryd.prog 14 [t115, t116] H37 fun t117 H39 =>
 J38 t117 H39) (J38 (.tup []) H37) ∧ ∀ t117 H40, J38 t117 H40 →
 letO (pickF t114 (.bool true) t117) fun t118 =>
 letO (some (t118 : AV)) fun t18 =>
 J23 [(L25.getD 0 .any), t17, t18] H40)))) ∧ ∀ L41 H42, J23 L41 H42 → -- [t16, t17, t18]
 letO (binF Tryd.prog .add 3 (L21.getD 3 .any) (.int .i64 1)) fun t119 =>
 letO (some (t119 : AV)) fun t80 =>
 I19 [(L41.getD 0 .any), (L41.getD 1 .any), (L41.getD 2 .any), t80] H42 ∧ μ20 [(L41.getD 0 .any), (L41.getD 1 .any), (L41.getD 2 .any), t80] H42 < μ20 L21 H22) (
 letO (some ((L21.getD 2 .any) : AV)) fun t120 =>
 letO (some (t120 : AV)) fun t121 =>
 letO (gval t121 true (some (t14 : AV))) fun t122 =>
 letO (gval t121 true (some ((L21.getD 1 .any) : AV))) fun t123 =>
 letO (gval t121 true (binF Tryd.prog .eql 3 t122 t123)) fun t124 =>
 letO (pickF t121 t124 (.bool false)) fun t125 =>
 letO (some (t125 : AV)) fun t126 =>
 letO (gval t126 true (some (t12 : AV))) fun t127 =>
 letO (gval t126 true (lenA t127)) fun t128 =>
 letO (gval t126 true (some (t5 : AV))) fun t129 =>
 letO (gval t126 true (some ((L21.getD 0 .any) : AV))) fun t130 =>
 letO (gval t126 true (binF Tryd.prog .sub 3 t129 t130)) fun t131 =>
 letO (gval t126 true (binF Tryd.prog .eql 3 t128 t131)) fun t132 =>
 letO (pickF t126 t132 (.bool false)) fun t133 =>
 letO (some (t133 : AV)) fun t134 =>
 ∃ J43 : AV → Heap → Prop, condG t134 true (ACalls Tryd.prog 15 [] H22 fun t135 H44 =>
 J43 t135 H44) (J43 (.tup []) H22) ∧ ∀ t135 H45, J43 t135 H45 →
 letO (pickF t134 t135 (.bool false)) fun t136 =>
 letO (some (t136 : AV)) fun t4 =>
endK t4 H45 K)))) H5) H4) H3) H2

theorem W3_ok {x0 x1 : AV} {H : Heap} {K : AV → Heap → Prop} (h : W3 x0 x1 H K) : ACalls Tryd.prog 3 [x0, x1] H K :=
  acallsB (fn := Tryd.f3) (cfg := cfgOf [] [] [] [] [] []) (hh := (.dir .nil (.dir .nil (.dir .nil (.dir .nil (.dir (.dir .nil (.blk (.loop [37] [38, 39, 40, 9, 41, 42, 43, 44, 45, 46, 47, 48, 49, 50, 51, 52, 37] (.dir .nil (.dir .nil (.dir .nil .nil)))))) (.dir .nil (.dir .nil (.dir .nil (.dir (.dir .nil (.dir .nil .nil)) (.dir .nil (.dir (.dir .nil (.blk (.loop [16, 17, 18, 80] [81, 82, 83, 20, 84, 85, 86, 87, 88, 89, 16, 17, 18, 90, 91, 92, 93, 94, 95, 21, 96, 97, 98, 99, 22, 100, 101, 102, 103, 104, 105, 106, 107, 108, 109, 110, 111, 112, 4, 113, 114, 115, 116, 117, 118, 119, 80] (.dir .nil (.dir .nil (.cut [16, 17, 18] [82, 83, 20, 84, 85, 86, 87, 88, 89, 16, 17, 18, 90, 91, 92, 93, 94, 95, 21, 96, 97, 98, 99, 22, 100, 101, 102, 103, 104, 105, 106, 107, 108, 109, 110, 111, 112, 4, 113, 114, 115, 116, 117, 118] (.blk (.dir .nil (.cut [16, 17, 18] [84, 85, 86, 87, 88, 89, 16, 17, 18] (.dir .nil .nil) (.dir (.dir .nil .nil) (.dir .nil (.dir .nil (.dir (.dir .nil (.blk (.loop [21, 97] [98, 99, 22, 100, 101, 102, 103, 104, 105, 106, 107, 21, 108, 97] (.dir .nil (.dir .nil (.cut [21] [99, 22, 100, 101, 102, 103, 104, 105, 106, 107, 21] (.blk (.dir .nil (.dir .nil .nil))) .nil)))))) (.dir (.dir .nil (.dir .nil .nil)) .nil)))))))) .nil)))))) .nil)))))))))))) follows Tryd.func3 (by kernel_rfl) (Nat.le_of_ble_eq_true (by kernel_rfl)) (by kernel_rfl) h

/-- headword.headwordtop.TopArches -/
def W4 (x0 x1 x2 : AV) (H : Heap) (K : AV → Heap → Prop) : Prop :=
 letO (cellsOf? x2) fun c1 =>
 letO (some ((.bool false) : AV)) fun t6 =>
 letO (some (x0 : AV)) fun t21 =>
 letO (convF Tryd.prog 5 3 t21) fun t22 =>
 letO (binF Tryd.prog .rem 3 t22 (.int .i64 4)) fun t23 =>
 letO (binF Tryd.prog .add 3 (.int .i64 2) t23) fun t24 =>
 letO (some (t24 : AV)) fun t7 =>
 letO (some ((.str (ByteArray.mk #[])) : AV)) fun t8 =>
 letO (some (t7 : AV)) fun t25 =>
 letO (binF Tryd.prog .sub 3 t25 (.int .i64 1)) fun t26 =>
 letO (buildF Tryd.prog 47 [(0, t26)]) fun t27 =>
 allocA [(.int .i64 0), .nils] (fun t9 H2 =>
 storeA 2 t9 t27 (fun H3 =>
 allocA [(.bool false), (.bool false), (.bool false), (.bool false), (.bool false)] (fun t10 H4 =>
 letO (some ((.int .i64 0) : AV)) fun t11 =>
 letO (some (x1 : AV)) fun t28 =>
 letO (convF Tryd.prog 5 3 t28) fun t29 =>
 letO (binF Tryd.prog .rem 3 t29 (.int .i64 11)) fun t30 =>
 letO (slcArr 10 1 (.iptr c1) none (some t30) none) fun t31 =>
 letO (lenA t31) fun t32 =>
 letO (some ((.int .i64 0) : AV)) fun t33 =>
 true = true ∧ ∃ (I5 : List AV → Heap → Prop) (μ6 : List AV → Heap → Nat), I5 [t8, t11, t33] H4 ∧ ∀ L7 H8, I5 L7 H8 → -- [t8, t11, t33]
 letO (binF Tryd.prog .lss 3 (L7.getD 2 .any) t32) fun t34 =>
 condA t34 true (
 true = true ∧ ∃ J9 : List AV → Heap → Prop, (
 letO (idx 1 t31 (L7.getD 2 .any)) fun t35 =>
 letO (load1 t35 H8) fun t36 =>
 letO (some (t36 : AV)) fun t13 =>
 letO (some (t13 : AV)) fun t37 =>
 letO (convF Tryd.prog 5 3 t37) fun t38 =>
 letO (some (t7 : AV)) fun t39 =>
 letO (binF Tryd.prog .rem 3 t38 t39) fun t40 =>
 letO (some (t40 : AV)) fun t14 =>
 letO (some ((L7.getD 0 .any) : AV)) fun t41 =>
 letO (some (t14 : AV)) fun t42 =>
 letO (some (t14 : AV)) fun t43 =>
 letO (binF Tryd.prog .add 3 t43 (.int .i64 1)) fun t44 =>
 letO (slcS (.str (ByteArray.mk #[97, 98, 99, 100, 101])) (some t42) (some t44) none) fun t45 =>
 letO (binF Tryd.prog .add 9 t41 t45) fun t46 =>
 letO (some (t46 : AV)) fun t8 =>
 letO (faddr 1 t9) fun t47 =>
 letO (load1 t47 H8) fun t48 =>
 letO (some (t14 : AV)) fun t49 =>
 letO (literalF Tryd.prog 35 1 [(0, t49)]) fun c10 =>
 appendA 1 8 t48 (.imm 1 true c10) (fun t51 H11 =>
 letO (faddr 1 t9) fun t52 =>
 storeA 1 t52 t51 (fun H12 =>
 letO (some (t14 : AV)) fun t53 =>
 letO (idxArr 5 1 t10 t53) fun t54 =>
 letO (load1 t54 H12) fun t55 =>
 letO (unF .not t55) fun t56 =>
 condA t56 true (
 letO (some (t14 : AV)) fun t57 =>
 letO (idxArr 5 1 t10 t57) fun t58 =>
 storeA 1 t58 (.bool true) (fun H13 =>
 letO (some ((L7.getD 1 .any) : AV)) fun t59 =>
 letO (binF Tryd.prog .add 3 t59 (.int .i64 1)) fun t60 =>
 letO (some (t60 : AV)) fun t11 =>
 J9 [t8, t11] H13) H12) (
 J9 [t8, (L7.getD 1 .any)] H12)) H11) H8) ∧ ∀ L14 H15, J9 L14 H15 → -- [t8, t11]
 letO (binF Tryd.prog .add 3 (L7.getD 2 .any) (.int .i64 1)) fun t61 =>
 letO (some (t61 : AV)) fun t33 =>
 I5 [(L14.getD 0 .any), (L14.getD 1 .any), t33] H15 ∧ μ6 [(L14.getD 0 .any), (L14.getD 1 .any), t33] H15 < μ6 L7 H8) (
 letO (some ((L7.getD 0 .any) : AV)) fun t63 =>
 letO (some (t7 : AV)) fun t64 =>
 ACalls Tryd.prog 16 [t63, t64] H8 fun t65 H16 =>
 letO (some (t65 : AV)) fun t62 =>
 letO (extrF t62 0) fun t66 =>
 letO (extrF t62 1) fun t67 =>
 letO (some (t66 : AV)) fun t15 =>
 letO (some (t67 : AV)) fun t16 =>
 letO (loadN 2 t9 H16) fun t69 =>
 ACalls Tryd.prog 17 [t69] H16 fun t70 H17 =>
 letO (some (t70 : AV)) fun t68 =>
 letO (extrF t68 0) fun t71 =>
 letO (extrF t68 1) fun t72 =>
 letO (some (t71 : AV)) fun t17 =>
 letO (some (t72 : AV)) fun t18 =>
 letO (some (t7 : AV)) fun t73 =>
 letO (faddr 0 t9) fun t74 =>
 storeA 1 t74 t73 (fun H18 =>
 letO (loadN 2 t9 H18) fun t76 =>
 ACalls Tryd.prog 17 [t76] H18 fun t77 H19 =>
 letO (some (t77 : AV)) fun t75 =>
 letO (extrF t75 0) fun t78 =>
 letO (extrF t75 1) fun t79 =>
 letO (some (t78 : AV)) fun t19 =>
 letO (some (t79 : AV)) fun t20 =>
 letO (some (t16 : AV)) fun t80 =>
 letO (binF Tryd.prog .neq 32 t80 (.int .i64 0)) fun t81 =>
 letO (some (t81 : AV)) fun t82 =>
 letO (gval t82 false (some (t18 : AV))) fun t83 =>
 letO (gval t82 false (binF Tryd.prog .neq 32 t83 (.int .i64 0))) fun t84 =>
 letO (pickF t82 (.bool true) t84) fun t85 =>
 letO (some (t85 : AV)) fun t86 =>
 letO (gval t86 false (some (t20 : AV))) fun t87 =>
 letO (gval t86 false (binF Tryd.prog .neq 32 t87 (.int .i64 0))) fun t88 =>
 letO (pickF t86 (.bool true) t88) fun t89 =>
 letO (some (t89 : AV)) fun t90 =>
 letO (gval t90 false (some (t19 : AV))) fun t91 =>
 letO (gval t90 false (some ((L7.getD 1 .any) : AV))) fun t92 =>
 letO (gval t90 false (binF Tryd.prog .neq 3 t91 t92)) fun t93 =>
 letO (pickF t90 (.bool true) t93) fun t94 =>
 letO (some (t94 : AV)) fun t95 =>
 letO (gval t95 false (some (t15 : AV))) fun t96 =>
 letO (gval t95 false (lenA t96)) fun t97 =>
 letO (gval t95 false (some ((L7.getD 0 .any) : AV))) fun t98 =>
 letO (gval t95 false (lenS t98)) fun t99 =>
 letO (gval t95 false (binF Tryd.prog .gtr 3 t97 t99)) fun t100 =>
 letO (pickF t95 (.bool true) t100) fun t101 =>
 condA t101 true (
 letO (some ((.bool false) : AV)) fun t6 =>
endK t6 H19 K) (
 letO (some (t15 : AV)) fun t102 =>
 letO (lenA t102) fun t103 =>
 letO (binF Tryd.prog .eql 3 t103 (.int .i64 0)) fun t104 =>
 letO (some (t104 : AV)) fun t105 =>
 letO (gval t105 false (some (t17 : AV))) fun t106 =>
 letO (gval t105 false (some (t7 : AV))) fun t107 =>
 letO (gval t105 false (binF Tryd.prog .sub 3 t107 (.int .i64 1))) fun t108 =>
 letO (gval t105 false (some (t15 : AV))) fun t109 =>
 letO (gval t105 false (lenA t109)) fun t110 =>
 letO (gval t105 false (binF Tryd.prog .add 3 t108 t110)) fun t111 =>
 letO (gval t105 false (binF Tryd.prog .geq 3 t106 t111)) fun t112 =>
 letO (pickF t105 (.bool true) t112) fun t113 =>
 letO (some (t113 : AV)) fun t114 =>
 letO (gval t114 true (some (t17 : AV))) fun t115 =>
 letO (gval t114 true (some ((L7.getD 1 .any) : AV))) fun t116 =>
 letO (gval t114 true (binF Tryd.prog .geq 3 t115 t116)) fun t117 =>
 letO (pickF t114 t117 (.bool false)) fun t118 =>
 letO (some (t118 : AV)) fun t119 =>
 ∃ J20 : AV → Heap → Prop, condG t119 true (ACalls Tryd.prog 18 [] H19 fun t120 H21 =>
 J20 t120 H21) (J20 (.tup []) H19) ∧ ∀ t120 H22, J20 t120 H22 →
 letO (pickF t119 t120 (.bool false)) fun t121 =>
 letO (some (t121 : AV)) fun t6 =>
endK t6 H22 K)) H17)) H3) H2) H

theorem W4_ok {x0 x1 x2 : AV} {H : Heap} {K : AV → Heap → Prop} (h : W4 x0 x1 x2 H K) : ACalls Tryd.prog 4 [x0, x1, x2] H K :=
  acallsB (fn := Tryd.f4) (cfg := cfgOf [] [] [] [] [] []) (hh := (.dir .nil (.dir .nil (.dir .nil (.dir .nil (.dir .nil (.dir .nil (.dir (.dir .nil (.blk (.loop [8, 11, 33] [34, 35, 36, 13, 37, 38, 39, 40, 14, 41, 42, 43, 44, 45, 46, 8, 47, 48, 49, 50, 51, 52, 53, 54, 55, 56, 57, 58, 59, 60, 11, 61, 33] (.dir .nil (.dir .nil (.cut [8, 11] [35, 36, 13, 37, 38, 39, 40, 14, 41, 42, 43, 44, 45, 46, 8, 47, 48, 49, 50, 51, 52, 53, 54, 55, 56, 57, 58, 59, 60, 11] (.blk (.dir .nil (.dir .nil (.dir .nil (.dir .nil (.dir .nil (.dir .nil .nil))))))) .nil)))))) (.dir .nil (.dir .nil (.dir .nil (.dir .nil (.dir (.dir .nil (.dir .nil .nil)) .nil))))))))))))) follows Tryd.func4 (by kernel_rfl) (Nat.le_of_ble_eq_true (by kernel_rfl)) (by kernel_rfl) h

/-- headword.headwordtop.TopSpans -/
def W5 (x0 x1 : AV) (H : Heap) (K : AV → Heap → Prop) : Prop :=
 letO (cellsOf? x1) fun c1 =>
 letO (some ((.bool false) : AV)) fun t4 =>
 letO (buildF Tryd.prog 47 [(0, (.int .i64 2))]) fun t23 =>
 allocA [(.int .i64 0), .nils] (fun t5 H2 =>
 storeA 2 t5 t23 (fun H3 =>
 letO (some (x0 : AV)) fun t24 =>
 letO (convF Tryd.prog 5 3 t24) fun t25 =>
 letO (binF Tryd.prog .rem 3 t25 (.int .i64 7)) fun t26 =>
 letO (slcArr 8 1 (.iptr c1) none (some t26) none) fun t27 =>
 letO (lenA t27) fun t28 =>
 letO (some ((.int .i64 0) : AV)) fun t29 =>
 true = true ∧ ∃ (I4 : List AV → Heap → Prop) (μ5 : List AV → Heap → Nat), I4 [t29] H3 ∧ ∀ L6 H7, I4 L6 H7 → -- [t29]
 letO (binF Tryd.prog .lss 3 (L6.getD 0 .any) t28) fun t30 =>
 condA t30 true (
 letO (idx 1 t27 (L6.getD 0 .any)) fun t31 =>
 letO (load1 t31 H7) fun t32 =>
 letO (some (t32 : AV)) fun t7 =>
 letO (faddr 1 t5) fun t33 =>
 letO (load1 t33 H7) fun t34 =>
 letO (some (t7 : AV)) fun t35 =>
 letO (convF Tryd.prog 5 3 t35) fun t36 =>
 letO (binF Tryd.prog .rem 3 t36 (.int .i64 4)) fun t37 =>
 letO (literalF Tryd.prog 35 1 [(0, t37)]) fun c8 =>
 appendA 1 8 t34 (.imm 1 true c8) (fun t39 H9 =>
 letO (faddr 1 t5) fun t40 =>
 storeA 1 t40 t39 (fun H10 =>
 letO (binF Tryd.prog .add 3 (L6.getD 0 .any) (.int .i64 1)) fun t41 =>
 letO (some (t41 : AV)) fun t29 =>
 I4 [t29] H10 ∧ μ5 [t29] H10 < μ5 L6 H7) H9) H7) (
 letO (some (.nils : AV)) fun t8 =>
 letO (faddr 1 t5) fun t42 =>
 letO (load1 t42 H7) fun t43 =>
 letO (lenA t43) fun t44 =>
 letO (some ((.int .i64 0) : AV)) fun t45 =>
 true = true ∧ ∃ (I11 : List AV → Heap → Prop) (μ12 : List AV → Heap → Nat), I11 [t8, t45] H7 ∧ ∀ L13 H14, I11 L13 H14 → -- [t8, t45]
 letO (binF Tryd.prog .lss 3 (L13.getD 1 .any) t44) fun t46 =>
 condA t46 true (
 true = true ∧ ∃ J15 : List AV → Heap → Prop, (
 letO (some ((L13.getD 1 .any) : AV)) fun t47 =>
 letO (idx 1 t43 (L13.getD 1 .any)) fun t48 =>
 letO (load1 t48 H14) fun t49 =>
 letO (some (t47 : AV)) fun t9 =>
 letO (some (t49 : AV)) fun t10 =>
 letO (some (t9 : AV)) fun t50 =>
 letO (binF Tryd.prog .add 3 t50 (.int .i64 1)) fun t51 =>
 letO (some (t51 : AV)) fun t11 =>
 true = true ∧ ∃ (I16 : List AV → Heap → Prop) (μ17 : List AV → Heap → Nat), I16 [(L13.getD 0 .any), t11] H14 ∧ ∀ L18 H19, I16 L18 H19 → -- [t8, t11]
 letO (some ((L18.getD 1 .any) : AV)) fun t52 =>
 letO (faddr 1 t5) fun t53 =>
 letO (load1 t53 H19) fun t54 =>
 letO (lenA t54) fun t55 =>
 letO (binF Tryd.prog .lss 3 t52 t55) fun t56 =>
 condA t56 true (
 letO (faddr 1 t5) fun t59 =>
 letO (load1 t59 H19) fun t60 =>
 letO (some ((L18.getD 1 .any) : AV)) fun t61 =>
 letO (idx 1 t60 t61) fun t62 =>
 letO (load1 t62 H19) fun t63 =>
 letO (some (t10 : AV)) fun t64 =>
 letO (binF Tryd.prog .eql 3 t63 t64) fun t65 =>
 condA t65 true (
 letO (some ((L18.getD 0 .any) : AV)) fun t66 =>
 letO (some (t9 : AV)) fun t67 =>
 letO (some ((L18.getD 1 .any) : AV)) fun t68 =>
 letO (buildF Tryd.prog 30 [(0, t67), (1, t68)]) fun t69 =>
 letO (literalF Tryd.prog 24 1 [(0, t69)]) fun c20 =>
 appendA 2 16 t66 (.imm 1 true c20) (fun t71 H21 =>
 letO (some (t71 : AV)) fun t8 =>
 J15 [t8] H21) H19) (
 letO (some ((L18.getD 1 .any) : AV)) fun t57 =>
 letO (binF Tryd.prog .add 3 t57 (.int .i64 1)) fun t58 =>
 letO (some (t58 : AV)) fun t11 =>
 I16 [(L18.getD 0 .any), t11] H19 ∧ μ17 [(L18.getD 0 .any), t11] H19 < μ17 L18 H19)) (
 J15 [(L18.getD 0 .any)] H19)) ∧ ∀ L22 H23, J15 L22 H23 → -- [t8]
 letO (binF Tryd.prog .add 3 (L13.getD 1 .any) (.int .i64 1)) fun t72 =>
 letO (some (t72 : AV)) fun t45 =>
 I11 [(L22.getD 0 .any), t45] H23 ∧ μ12 [(L22.getD 0 .any), t45] H23 < μ12 L13 H14) (
 letO (loadN 2 t5 H14) fun t74 =>
 ACalls Tryd.prog 19 [t74] H14 fun t75 H24 =>
 letO (some (t75 : AV)) fun t73 =>
 letO (extrF t73 0) fun t76 =>
 letO (extrF t73 1) fun t77 =>
 letO (some (t76 : AV)) fun t12 =>
 letO (some (t77 : AV)) fun t13 =>
 letO (loadN 2 t5 H24) fun t79 =>
 ACalls Tryd.prog 17 [t79] H24 fun t80 H25 =>
 letO (some (t80 : AV)) fun t78 =>
 letO (extrF t78 0) fun t81 =>
 letO (extrF t78 1) fun t82 =>
 letO (some (t81 : AV)) fun t14 =>
 letO (some (t82 : AV)) fun t15 =>
 letO (some (t13 : AV)) fun t83 =>
 letO (binF Tryd.prog .neq 32 t83 (.int .i64 0)) fun t84 =>
 letO (some (t84 : AV)) fun t85 =>
 letO (gval t85 false (some (t15 : AV))) fun t86 =>
 letO (gval t85 false (binF Tryd.prog .neq 32 t86 (.int .i64 0))) fun t87 =>
 letO (pickF t85 (.bool true) t87) fun t88 =>
 letO (some (t88 : AV)) fun t89 =>
 letO (gval t89 false (some (t12 : AV))) fun t90 =>
 letO (gval t89 false (lenA t90)) fun t91 =>
 letO (gval t89 false (some ((L13.getD 0 .any) : AV))) fun t92 =>
 letO (gval t89 false (lenA t92)) fun t93 =>
 letO (gval t89 false (binF Tryd.prog .neq 3 t91 t93)) fun t94 =>
 letO (pickF t89 (.bool true) t94) fun t95 =>
 condA t95 true (
 letO (some ((.bool false) : AV)) fun t4 =>
endK t4 H25 K) (
 letO (some (t12 : AV)) fun t96 =>
 letO (lenA t96) fun t97 =>
 letO (some ((.int .i64 0) : AV)) fun t98 =>
 true = true ∧ ∃ (I26 : List AV → Heap → Prop) (μ27 : List AV → Heap → Nat), I26 [t98] H25 ∧ ∀ L28 H29, I26 L28 H29 → -- [t98]
 letO (binF Tryd.prog .lss 3 (L28.getD 0 .any) t97) fun t99 =>
 condA t99 true (
 letO (some ((L28.getD 0 .any) : AV)) fun t100 =>
 letO (some (t100 : AV)) fun t16 =>
 true = true ∧
 letO (some (t12 : AV)) fun t101 =>
 letO (some (t16 : AV)) fun t102 =>
 letO (idx 2 t101 t102) fun t103 =>
 letO (loadN 2 t103 H29) fun t104 =>
 letO (some ((L13.getD 0 .any) : AV)) fun t105 =>
 letO (some (t16 : AV)) fun t106 =>
 letO (idx 2 t105 t106) fun t107 =>
 letO (loadN 2 t107 H29) fun t108 =>
 letO (binF Tryd.prog .neq 30 t104 t108) fun t109 =>
 condA t109 true (
 letO (some ((.bool false) : AV)) fun t4 =>
endK t4 H29 K) (
 letO (binF Tryd.prog .add 3 (L28.getD 0 .any) (.int .i64 1)) fun t110 =>
 letO (some (t110 : AV)) fun t98 =>
 I26 [t98] H29 ∧ μ27 [t98] H29 < μ27 L28 H29)) (
 letO (some (t12 : AV)) fun t111 =>
 letO (lenA t111) fun t112 =>
 letO (binF Tryd.prog .eql 3 t112 (.int .i64 0)) fun t113 =>
 condA t113 true (
 letO (some (t14 : AV)) fun t114 =>
 letO (faddr 1 t5) fun t115 =>
 letO (load1 t115 H29) fun t116 =>
 letO (lenA t116) fun t117 =>
 letO (binF Tryd.prog .eql 3 t114 t117) fun t118 =>
 letO (some (t118 : AV)) fun t119 =>
 ∃ J30 : AV → Heap → Prop, condG t119 true (ACalls Tryd.prog 18 [] H29 fun t120 H31 =>
 J30 t120 H31) (J30 (.tup []) H29) ∧ ∀ t120 H32, J30 t120 H32 →
 letO (pickF t119 t120 (.bool false)) fun t121 =>
 letO (some (t121 : AV)) fun t4 =>
endK t4 H32 K) (
 letO (some (t12 : AV)) fun t122 =>
 letO (lenA t122) fun t123 =>
 letO (buildF Tryd.prog 27 [(0, t123)]) fun t124 =>
 allocA [(.int .i64 0), .nils] (fun t17 H33 =>
 storeA 2 t17 t124 (fun H34 =>
 letO (some (t12 : AV)) fun t125 =>
 letO (lenA t125) fun t126 =>
 letO (some ((.int .i64 0) : AV)) fun t127 =>
 true = true ∧ ∃ (I35 : List AV → Heap → Prop) (μ36 : List AV → Heap → Nat), I35 [t127] H34 ∧ ∀ L37 H38, I35 L37 H38 → -- [t127]
 letO (binF Tryd.prog .lss 3 (L37.getD 0 .any) t126) fun t128 =>
 condA t128 true (
 letO (some ((L37.getD 0 .any) : AV)) fun t129 =>
 letO (idx 2 t125 (L37.getD 0 .any)) fun t130 =>
 letO (loadN 2 t130 H38) fun t131 =>
 allocA [(.int .i64 0), (.int .i64 0)] (fun t19 H39 =>
 letO (some (t129 : AV)) fun t18 =>
 storeA 2 t19 t131 (fun H40 =>
 letO (some (t12 : AV)) fun t132 =>
 letO (some (t18 : AV)) fun t133 =>
 letO (slc 2 t132 none (some t133) none) fun t134 =>
 letO (lenA t134) fun t135 =>
 letO (some ((.int .i64 0) : AV)) fun t136 =>
 true = true ∧ ∃ (I41 : List AV → Heap → Prop) (μ42 : List AV → Heap → Nat), I41 [t136] H40 ∧ ∀ L43 H44, I41 L43 H44 → -- [t136]
 letO (binF Tryd.prog .lss 3 (L43.getD 0 .any) t135) fun t137 =>
 condA t137 true (
 true = true ∧ ∃ J45 : List AV → Heap → Prop, (
 letO (some ((L43.getD 0 .any) : AV)) fun t138 =>
 letO (idx 2 t134 (L43.getD 0 .any)) fun t139 =>
 letO (loadN 2 t139 H44) fun t140 =>
 allocA [(.int .i64 0), (.int .i64 0)] (fun t21 H46 =>
 letO (some (t138 : AV)) fun t20 =>
 storeA 2 t21 t140 (fun H47 =>
 letO (idxArr 2 1 t19 (.int .i64 0)) fun t141 =>
 letO (load1 t141 H47) fun t142 =>
 letO (idxArr 2 1 t21 (.int .i64 0)) fun t143 =>
 letO (load1 t143 H47) fun t144 =>
 letO (max2F t142 t144) fun t145 =>
 letO (binF Tryd.prog .add 3 t145 (.int .i64 1)) fun t146 =>
 letO (idxArr 2 1 t19 (.int .i64 1)) fun t147 =>
 letO (load1 t147 H47) fun t148 =>
 letO (idxArr 2 1 t21 (.int .i64 1)) fun t149 =>
 letO (load1 t149 H47) fun t150 =>
 letO (min2F t148 t150) fun t151 =>
 letO (binF Tryd.prog .lss 3 t146 t151) fun t152 =>
 condA t152 true (
 letO (faddr 1 t17) fun t153 =>
 letO (load1 t153 H47) fun t154 =>
 letO (some (t20 : AV)) fun t155 =>
 letO (some (t18 : AV)) fun t156 =>
 letO (buildF Tryd.prog 30 [(0, t155), (1, t156)]) fun t157 =>
 letO (literalF Tryd.prog 24 1 [(0, t157)]) fun c48 =>
 appendA 2 16 t154 (.imm 1 true c48) (fun t159 H49 =>
 letO (faddr 1 t17) fun t160 =>
 storeA 1 t160 t159 (fun H50 =>
 J45 [] H50) H49) H47) (
 J45 [] H47)) H46) H44) ∧ ∀ L51 H52, J45 L51 H52 → -- []
 letO (binF Tryd.prog .add 3 (L43.getD 0 .any) (.int .i64 1)) fun t161 =>
 letO (some (t161 : AV)) fun t136 =>
 I41 [t136] H52 ∧ μ42 [t136] H52 < μ42 L43 H44) (
 letO (binF Tryd.prog .add 3 (L37.getD 0 .any) (.int .i64 1)) fun t162 =>
 letO (some (t162 : AV)) fun t127 =>
 I35 [t127] H44 ∧ μ36 [t127] H44 < μ36 L37 H38)) H39) H38) (
 letO (loadN 2 t17 H38) fun t164 =>
 ACalls Tryd.prog 10 [t164] H38 fun t165 H53 =>
 letO (some (t165 : AV)) fun t163 =>
 letO (extrF t163 0) fun t166 =>
 letO (extrF t163 1) fun t167 =>
 letO (some (t166 : AV)) fun t22 =>
 letO (some (t167 : AV)) fun t13 =>
 letO (some (t13 : AV)) fun t168 =>
 letO (binF Tryd.prog .eql 32 t168 (.int .i64 0)) fun t169 =>
 letO (some (t169 : AV)) fun t170 =>
 letO (gval t170 true (some (t14 : AV))) fun t171 =>
 letO (gval t170 true (faddr 1 t5)) fun t172 =>
 letO (gval t170 true (load1 t172 H53)) fun t173 =>
 letO (gval t170 true (lenA t173)) fun t174 =>
 letO (gval t170 true (some (t12 : AV))) fun t175 =>
 letO (gval t170 true (lenA t175)) fun t176 =>
 letO (gval t170 true (binF Tryd.prog .sub 3 t174 t176)) fun t177 =>
 letO (gval t170 true (some (t22 : AV))) fun t178 =>
 letO (gval t170 true (lenA t178)) fun t179 =>
 letO (gval t170 true (binF Tryd.prog .add 3 t177 t179)) fun t180 =>
 letO (gval t170 true (binF Tryd.prog .eql 3 t171 t180)) fun t181 =>
 letO (pickF t170 t181 (.bool false)) fun t182 =>
 letO (some (t182 : AV)) fun t183 =>
 ∃ J54 : AV → Heap → Prop, condG t183 true (ACalls Tryd.prog 18 [] H53 fun t184 H55 =>
 J54 t184 H55) (J54 (.tup []) H53) ∧ ∀ t184 H56, J54 t184 H56 →
 letO (pickF t183 t184 (.bool false)) fun t185 =>
 letO (some (t185 : AV)) fun t4 =>
endK t4 H56 K)) H33) H29)))))) H2) H

theorem W5_ok {x0 x1 : AV} {H : Heap} {K : AV → Heap → Prop} (h : W5 x0 x1 H K) : ACalls Tryd.prog 5 [x0, x1] H K :=
  acallsB (fn := Tryd.f5) (cfg := cfgOf [] [] [(24, [0, 0, 3, 7, 0, 0, 48, 112, 255])] [] [] []) (hh := (.dir .nil (.dir .nil (.dir (.dir .nil (.blk (.loop [29] [30, 31, 32, 7, 33, 34, 35, 36, 37, 38, 39, 40, 41, 29] (.dir .nil (.dir .nil (.dir .nil .nil)))))) (.dir .nil (.dir (.dir .nil (.blk (.loop [8, 45] [46, 47, 48, 49, 9, 10, 50, 51, 11, 52, 53, 54, 55, 56, 59, 60, 61, 62, 63, 64, 65, 66, 67, 68, 69, 70, 71, 8, 57, 58, 72, 45] (.dir .nil (.dir .nil (.cut [8] [47, 48, 49, 9, 10, 50, 51, 11, 52, 53, 54, 55, 56, 59, 60, 61, 62, 63, 64, 65, 66, 67, 68, 69, 70, 71, 8, 57, 58] (.blk (.dir .nil (.dir .nil (.blk (.loop [8, 11] [52, 53, 54, 55, 56, 59, 60, 61, 62, 63, 64, 65, 66, 67, 68, 69, 70, 71, 8, 57, 58, 11] (.dir (.dir .nil .nil) (.dir (.blk (.dir .nil (.dir .nil .nil))) .nil))))))) .nil)))))) (.dir .nil (.dir .nil (.dir (.dir .nil (.dir .nil .nil)) (.dir (.dir .nil (.blk (.loop [98] [99, 100, 16, 101, 102, 103, 104, 105, 106, 107, 108, 109, 4, 110, 98] (.dir .nil (.dir .nil (.dir (.blk (.dir .nil (.dir .nil (.dir .nil .nil)))) .nil)))))) (.dir (.dir .nil (.dir .nil .nil)) (.dir .nil (.dir (.dir .nil (.blk (.loop [127] [128, 129, 130, 131, 19, 18, 132, 133, 134, 135, 136, 137, 138, 139, 140, 21, 20, 141, 142, 143, 144, 145, 146, 147, 148, 149, 150, 151, 152, 153, 154, 155, 156, 157, 158, 159, 160, 161, 162, 127] (.dir .nil (.dir .nil (.dir (.blk (.dir .nil (.dir .nil (.blk (.loop [136] [137, 138, 139, 140, 21, 20, 141, 142, 143, 144, 145, 146, 147, 148, 149, 150, 151, 152, 153, 154, 155, 156, 157, 158, 159, 160, 161, 136] (.dir .nil (.dir .nil (.cut [] [138, 139, 140, 21, 20, 141, 142, 143, 144, 145, 146, 147, 148, 149, 150, 151, 152, 153, 154, 155, 156, 157, 158, 159, 160] (.blk (.dir .nil (.dir .nil .nil))) .nil)))))))) .nil)))))) (.dir .nil .nil)))))))))))))) follows Tryd.func5 (by kernel_rfl) (Nat.le_of_ble_eq_true (by kernel_rfl)) (by kernel_rfl) h

/-- headword.headwordtop.TopFalling -/
def W6 (x0 x1 : AV) (H : Heap) (K : AV → Heap → Prop) : Prop :=
 letO (cellsOf? x1) fun c1 =>
 letO (some ((.bool false) : AV)) fun t4 =>
 letO (some (.nils : AV)) fun t5 =>
 letO (some (x0 : AV)) fun t19 =>
 letO (convF Tryd.prog 5 3 t19) fun t20 =>
 letO (binF Tryd.prog .rem 3 t20 (.int .i64 5)) fun t21 =>
 letO (binF Tryd.prog .add 3 (.int .i64 1) t21) fun t22 =>
 letO (slcArr 8 1 (.iptr c1) none (some t22) none) fun t23 =>
 letO (lenA t23) fun t24 =>
 letO (some ((.int .i64 0) : AV)) fun t25 =>
 true = true ∧ ∃ (I2 : List AV → Heap → Prop) (μ3 : List AV → Heap → Nat), I2 [t5, t25] H ∧ ∀ L4 H5, I2 L4 H5 → -- [t5, t25]
 letO (binF Tryd.prog .lss 3 (L4.getD 1 .any) t24) fun t26 =>
 condA t26 true (
 letO (idx 1 t23 (L4.getD 1 .any)) fun t27 =>
 letO (load1 t27 H5) fun t28 =>
 letO (some (t28 : AV)) fun t7 =>
 letO (some ((L4.getD 0 .any) : AV)) fun t29 =>
 letO (some (t7 : AV)) fun t30 =>
 letO (convF Tryd.prog 5 3 t30) fun t31 =>
 letO (binF Tryd.prog .rem 3 t31 (.int .i64 101)) fun t32 =>
 letO (buildF Tryd.prog 59 [(0, t32), (1, (.int .i64 1))]) fun t33 =>
 letO (literalF Tryd.prog 57 1 [(0, t33)]) fun c6 =>
 appendA 2 16 t29 (.imm 1 true c6) (fun t35 H7 =>
 letO (some (t35 : AV)) fun t5 =>
 letO (binF Tryd.prog .add 3 (L4.getD 1 .any) (.int .i64 1)) fun t36 =>
 letO (some (t36 : AV)) fun t25 =>
 I2 [t5, t25] H7 ∧ μ3 [t5, t25] H7 < μ3 L4 H5) H5) (
 letO (some ((L4.getD 0 .any) : AV)) fun t37 =>
 letO (lenA t37) fun t38 =>
 letO (buildF Tryd.prog 27 [(0, t38)]) fun t39 =>
 allocA [(.int .i64 0), .nils] (fun t8 H8 =>
 storeA 2 t8 t39 (fun H9 =>
 letO (some ((L4.getD 0 .any) : AV)) fun t40 =>
 letO (lenA t40) fun t41 =>
 letO (some ((.int .i64 0) : AV)) fun t42 =>
 true = true ∧ ∃ (I10 : List AV → Heap → Prop) (μ11 : List AV → Heap → Nat), I10 [t42] H9 ∧ ∀ L12 H13, I10 L12 H13 → -- [t42]
 letO (binF Tryd.prog .lss 3 (L12.getD 0 .any) t41) fun t43 =>
 condA t43 true (
 letO (some ((L12.getD 0 .any) : AV)) fun t44 =>
 letO (idx 2 t40 (L12.getD 0 .any)) fun t45 =>
 letO (loadN 2 t45 H13) fun t46 =>
 allocA [(.int .i64 0), (.int .i64 0)] (fun t10 H14 =>
 letO (some (t44 : AV)) fun t9 =>
 storeA 2 t10 t46 (fun H15 =>
 letO (some ((L4.getD 0 .any) : AV)) fun t47 =>
 letO (some (t9 : AV)) fun t48 =>
 letO (binF Tryd.prog .add 3 t48 (.int .i64 1)) fun t49 =>
 letO (slc 2 t47 (some t49) none none) fun t50 =>
 letO (lenA t50) fun t51 =>
 letO (some ((.int .i64 0) : AV)) fun t52 =>
 true = true ∧ ∃ (I16 : List AV → Heap → Prop) (μ17 : List AV → Heap → Nat), I16 [t52] H15 ∧ ∀ L18 H19, I16 L18 H19 → -- [t52]
 letO (binF Tryd.prog .lss 3 (L18.getD 0 .any) t51) fun t53 =>
 condA t53 true (
 true = true ∧ ∃ J20 : List AV → Heap → Prop, (
 letO (some ((L18.getD 0 .any) : AV)) fun t54 =>
 letO (idx 2 t50 (L18.getD 0 .any)) fun t55 =>
 letO (loadN 2 t55 H19) fun t56 =>
 allocA [(.int .i64 0), (.int .i64 0)] (fun t12 H21 =>
 letO (some (t54 : AV)) fun t11 =>
 storeA 2 t12 t56 (fun H22 =>
 letO (faddr 0 t10) fun t57 =>
 letO (load1 t57 H22) fun t58 =>
 letO (faddr 0 t12) fun t59 =>
 letO (load1 t59 H22) fun t60 =>
 letO (binF Tryd.prog .gtr 3 t58 t60) fun t61 =>
 condA t61 true (
 letO (faddr 1 t8) fun t62 =>
 letO (load1 t62 H22) fun t63 =>
 letO (some (t9 : AV)) fun t64 =>
 letO (some (t9 : AV)) fun t65 =>
 letO (binF Tryd.prog .add 3 t65 (.int .i64 1)) fun t66 =>
 letO (some (t11 : AV)) fun t67 =>
 letO (binF Tryd.prog .add 3 t66 t67) fun t68 =>
 letO (buildF Tryd.prog 30 [(0, t64), (1, t68)]) fun t69 =>
 letO (literalF Tryd.prog 24 1 [(0, t69)]) fun c23 =>
 appendA 2 16 t63 (.imm 1 true c23) (fun t71 H24 =>
 letO (faddr 1 t8) fun t72 =>
 storeA 1 t72 t71 (fun H25 =>
 J20 [] H25) H24) H22) (
 J20 [] H22)) H21) H19) ∧ ∀ L26 H27, J20 L26 H27 → -- []
 letO (binF Tryd.prog .add 3 (L18.getD 0 .any) (.int .i64 1)) fun t73 =>
 letO (some (t73 : AV)) fun t52 =>
 I16 [t52] H27 ∧ μ17 [t52] H27 < μ17 L18 H19) (
 letO (binF Tryd.prog .add 3 (L12.getD 0 .any) (.int .i64 1)) fun t74 =>
 letO (some (t74 : AV)) fun t42 =>
 I10 [t42] H19 ∧ μ11 [t42] H19 < μ11 L12 H13)) H14) H13) (
 letO (some ((L4.getD 0 .any) : AV)) fun t76 =>
 ACalls Tryd.prog 20 [t76] H13 fun t77 H28 =>
 letO (some (t77 : AV)) fun t75 =>
 letO (extrF t75 0) fun t78 =>
 letO (extrF t75 1) fun t79 =>
 letO (some (t78 : AV)) fun t13 =>
 letO (some (t79 : AV)) fun t14 =>
 letO (loadN 2 t8 H28) fun t81 =>
 ACalls Tryd.prog 10 [t81] H28 fun t82 H29 =>
 letO (some (t82 : AV)) fun t80 =>
 letO (extrF t80 0) fun t83 =>
 letO (extrF t80 1) fun t84 =>
 letO (some (t83 : AV)) fun t15 =>
 letO (some (t84 : AV)) fun t16 =>
 letO (some ((L4.getD 0 .any) : AV)) fun t86 =>
 ACalls Tryd.prog 21 [t86] H29 fun t87 H30 =>
 letO (some (t87 : AV)) fun t85 =>
 letO (extrF t85 0) fun t88 =>
 letO (extrF t85 1) fun t89 =>
 letO (some (t88 : AV)) fun t17 =>
 letO (some (t89 : AV)) fun t18 =>
 letO (some (t14 : AV)) fun t90 =>
 letO (binF Tryd.prog .eql 32 t90 (.int .i64 0)) fun t91 =>
 letO (some (t91 : AV)) fun t92 =>
 letO (gval t92 true (some (t16 : AV))) fun t93 =>
 letO (gval t92 true (binF Tryd.prog .eql 32 t93 (.int .i64 0))) fun t94 =>
 letO (pickF t92 t94 (.bool false)) fun t95 =>
 letO (some (t95 : AV)) fun t96 =>
 letO (gval t96 true (some (t13 : AV))) fun t97 =>
 letO (gval t96 true (some (t15 : AV))) fun t98 =>
 ∃ J31 : AV → Heap → Prop, condG t96 true (ACalls Tryd.prog 14 [t97, t98] H30 fun t99 H32 =>
 J31 t99 H32) (J31 (.tup []) H30) ∧ ∀ t99 H33, J31 t99 H33 →
 letO (pickF t96 t99 (.bool false)) fun t100 =>
 letO (some (t100 : AV)) fun t101 =>
 letO (gval t101 true (some (t18 : AV))) fun t102 =>
 letO (gval t101 true (binF Tryd.prog .eql 32 t102 (.int .i64 13))) fun t103 =>
 letO (gval t101 true (faddr 1 t8)) fun t104 =>
 letO (gval t101 true (load1 t104 H33)) fun t105 =>
 letO (gval t101 true (lenA t105)) fun t106 =>
 letO (gval t101 true (binF Tryd.prog .eql 3 t106 (.int .i64 0))) fun t107 =>
 letO (gval t101 true (binF Tryd.prog .eql 4 t103 t107)) fun t108 =>
 letO (pickF t101 t108 (.bool false)) fun t109 =>
 letO (some (t109 : AV)) fun t110 =>
 ∃ J34 : AV → Heap → Prop, condG t110 true (ACalls Tryd.prog 22 [] H33 fun t111 H35 =>
 J34 t111 H35) (J34 (.tup []) H33) ∧ ∀ t111 H36, J34 t111 H36 →
 letO (pickF t110 t111 (.bool false)) fun t112 =>
 letO (some (t112 : AV)) fun t4 =>
endK t4 H36 K)) H8) H5)

theorem W6_ok {x0 x1 : AV} {H : Heap} {K : AV → Heap → Prop} (h : W6 x0 x1 H K) : ACalls Tryd.prog 6 [x0, x1] H K :=
  acallsB (fn := Tryd.f6) (cfg := cfgOf [] [] [] [] [] []) (hh := (.dir .nil (.dir .nil (.dir (.dir .nil (.blk (.loop [5, 25] [26, 27, 28, 7, 29, 30, 31, 32, 33, 34, 35, 5, 36, 25] (.dir .nil (.dir .nil (.dir .nil .nil)))))) (.dir .nil (.dir (.dir .nil (.blk (.loop [42] [43, 44, 45, 46, 10, 9, 47, 48, 49, 50, 51, 52, 53, 54, 55, 56, 12, 11, 57, 58, 59, 60, 61, 62, 63, 64, 65, 66, 67, 68, 69, 70, 71, 72, 73, 74, 42] (.dir .nil (.dir .nil (.dir (.blk (.dir .nil (.dir .nil (.blk (.loop [52] [53, 54, 55, 56, 12, 11, 57, 58, 59, 60, 61, 62, 63, 64, 65, 66, 67, 68, 69, 70, 71, 72, 73, 52] (.dir .nil (.dir .nil (.cut [] [54, 55, 56, 12, 11, 57, 58, 59, 60, 61, 62, 63, 64, 65, 66, 67, 68, 69, 70, 71, 72] (.blk (.dir .nil (.dir .nil .nil))) .nil)))))))) .nil)))))) (.dir .nil (.dir .nil (.dir .nil .nil))))))))) follows Tryd.func6 (by kernel_rfl) (Nat.le_of_ble_eq_true (by kernel_rfl)) (by kernel_rfl) h

/-- headword.headwordtop.TopRoad -/
def W7 (x0 x1 x2 x3 : AV) (H : Heap) (K : AV → Heap → Prop) : Prop :=
 letO (cellsOf? x3) fun c1 =>
 letO (some ((.bool false) : AV)) fun t8 =>
 letO (some (x0 : AV)) fun t25 =>
 letO (convF Tryd.prog 5 3 t25) fun t26 =>
 letO (binF Tryd.prog .rem 3 t26 (.int .i64 5)) fun t27 =>
 letO (binF Tryd.prog .add 3 (.int .i64 1) t27) fun t28 =>
 letO (some (t28 : AV)) fun t9 =>
 letO (some (x1 : AV)) fun t29 =>
 letO (convF Tryd.prog 5 3 t29) fun t30 =>
 letO (binF Tryd.prog .rem 3 t30 (.int .i64 40)) fun t31 =>
 letO (binF Tryd.prog .add 3 (.int .i64 1) t31) fun t32 =>
 letO (buildF Tryd.prog 64 [(1, t32)]) fun t33 =>
 allocA [.nils, (.int .i64 0), (.int .i64 0)] (fun t10 H2 =>
 storeA 3 t10 t33 (fun H3 =>
 letO (some (x2 : AV)) fun t34 =>
 letO (convF Tryd.prog 5 3 t34) fun t35 =>
 letO (faddr 1 t10) fun t36 =>
 letO (load1 t36 H3) fun t37 =>
 letO (binF Tryd.prog .add 3 t37 (.int .i64 1)) fun t38 =>
 letO (binF Tryd.prog .rem 3 t35 t38) fun t39 =>
 letO (faddr 2 t10) fun t40 =>
 storeA 1 t40 t39 (fun H4 =>
 true = true ∧ ∃ J5 : List AV → Heap → Prop, (
 letO (some (x2 : AV)) fun t41 =>
 letO (binF Tryd.prog .rem 5 t41 (.int .u8 3)) fun t42 =>
 letO (binF Tryd.prog .gtr 5 t42 (.int .u8 0)) fun t43 =>
 condA t43 true (
 letO (faddr 1 t10) fun t44 =>
 letO (load1 t44 H4) fun t45 =>
 letO (some (x2 : AV)) fun t46 =>
 letO (convF Tryd.prog 5 3 t46) fun t47 =>
 letO (binF Tryd.prog .rem 3 t47 (.int .i64 4)) fun t48 =>
 letO (min2F t45 t48) fun t49 =>
 letO (faddr 2 t10) fun t50 =>
 storeA 1 t50 t49 (fun H6 =>
 J5 [] H6) H4) (
 J5 [] H4)) ∧ ∀ L7 H8, J5 L7 H8 → -- []
 letO (some (t9 : AV)) fun t51 =>
 letO (slcArr 8 2 (.iptr c1) none (some t51) none) fun t52 =>
 letO (lenA t52) fun t53 =>
 letO (some ((.int .i64 0) : AV)) fun t54 =>
 true = true ∧ ∃ (I9 : List AV → Heap → Prop) (μ10 : List AV → Heap → Nat), I9 [t54] H8 ∧ ∀ L11 H12, I9 L11 H12 → -- [t54]
 letO (binF Tryd.prog .lss 3 (L11.getD 0 .any) t53) fun t55 =>
 condA t55 true (
 letO (idx 2 t52 (L11.getD 0 .any)) fun t56 =>
 letO (loadN 2 t56 H12) fun t57 =>
 allocA [(.int .u8 0), (.int .u8 0)] (fun t12 H13 =>
 storeA 2 t12 t57 (fun H14 =>
 letO (idxArr 2 1 t12 (.int .i64 0)) fun t58 =>
 letO (load1 t58 H14) fun t59 =>
 letO (convF Tryd.prog 5 3 t59) fun t60 =>
 letO (binF Tryd.prog .rem 3 t60 (.int .i64 15)) fun t61 =>
 letO (binF Tryd.prog .add 3 (.int .i64 1) t61) fun t62 =>
 letO (some (t62 : AV)) fun t13 =>
 letO (faddr 0 t10) fun t63 =>
 letO (load1 t63 H14) fun t64 =>
 letO (some (t13 : AV)) fun t65 =>
 letO (some (t13 : AV)) fun t66 =>
 letO (idxArr 2 1 t12 (.int .i64 1)) fun t67 =>
 letO (load1 t67 H14) fun t68 =>
 letO (convF Tryd.prog 5 3 t68) fun t69 =>
 letO (binF Tryd.prog .rem 3 t69 (.int .i64 8)) fun t70 =>
 letO (binF Tryd.prog .add 3 t66 t70) fun t71 =>
 letO (buildF Tryd.prog 67 [(0, t65), (1, t71)]) fun t72 =>
 letO (literalF Tryd.prog 62 1 [(0, t72)]) fun c15 =>
 appendA 2 16 t64 (.imm 1 true c15) (fun t74 H16 =>
 letO (faddr 0 t10) fun t75 =>
 storeA 1 t75 t74 (fun H17 =>
 letO (binF Tryd.prog .add 3 (L11.getD 0 .any) (.int .i64 1)) fun t76 =>
 letO (some (t76 : AV)) fun t54 =>
 I9 [t54] H17 ∧ μ10 [t54] H17 < μ10 L11 H12) H16) H14) H13) H12) (
 letO (some (t9 : AV)) fun t77 =>
 letO (binF Tryd.prog .add 3 t77 (.int .i64 1)) fun t78 =>
 letO (buildF Tryd.prog 29 [(0, t78)]) fun t79 =>
 allocA [(.int .i64 0), .nils] (fun t14 H18 =>
 storeA 2 t14 t79 (fun H19 =>
 letO (some (t9 : AV)) fun t80 =>
 letO (some ((.int .i64 0) : AV)) fun t81 =>
 true = true ∧ ∃ (I20 : List AV → Heap → Prop) (μ21 : List AV → Heap → Nat), I20 [t81] H19 ∧ ∀ L22 H23, I20 L22 H23 → -- [t81]
 letO (binF Tryd.prog .lss 3 (L22.getD 0 .any) t80) fun t82 =>
 condA t82 true (
 letO (some ((L22.getD 0 .any) : AV)) fun t83 =>
 letO (some (t83 : AV)) fun t15 =>
 letO (some ((.int .i64 0) : AV)) fun t16 =>
 letO (some ((.int .i64 0) : AV)) fun t17 =>
 letO (some (t15 : AV)) fun t84 =>
 letO (some (t84 : AV)) fun t18 =>
 true = true ∧ ∃ (I24 : List AV → Heap → Prop) (μ25 : List AV → Heap → Nat), I24 [t16, t17, t18] H23 ∧ ∀ L26 H27, I24 L26 H27 → -- [t16, t17, t18]
 letO (some ((L26.getD 2 .any) : AV)) fun t85 =>
 letO (some (t9 : AV)) fun t86 =>
 letO (binF Tryd.prog .lss 3 t85 t86) fun t87 =>
 condA t87 true (
 true = true ∧ ∃ J28 : List AV → Heap → Prop, (
 letO (some ((L26.getD 0 .any) : AV)) fun t90 =>
 letO (faddr 0 t10) fun t91 =>
 letO (load1 t91 H27) fun t92 =>
 letO (some ((L26.getD 2 .any) : AV)) fun t93 =>
 letO (idx 2 t92 t93) fun t94 =>
 letO (faddr 0 t94) fun t95 =>
 letO (load1 t95 H27) fun t96 =>
 letO (binF Tryd.prog .add 3 t90 t96) fun t97 =>
 letO (some (t97 : AV)) fun t16 =>
 letO (some ((L26.getD 1 .any) : AV)) fun t98 =>
 letO (faddr 0 t10) fun t99 =>
 letO (load1 t99 H27) fun t100 =>
 letO (some ((L26.getD 2 .any) : AV)) fun t101 =>
 letO (idx 2 t100 t101) fun t102 =>
 letO (faddr 1 t102) fun t103 =>
 letO (load1 t103 H27) fun t104 =>
 letO (binF Tryd.prog .add 3 t98 t104) fun t105 =>
 letO (some (t105 : AV)) fun t17 =>
 letO (some (t17 : AV)) fun t106 =>
 letO (faddr 1 t10) fun t107 =>
 letO (load1 t107 H27) fun t108 =>
 letO (binF Tryd.prog .leq 3 t106 t108) fun t109 =>
 letO (some (t109 : AV)) fun t110 =>
 letO (gval t110 true (some (t16 : AV))) fun t111 =>
 letO (gval t110 true (faddr 2 t10)) fun t112 =>
 letO (gval t110 true (load1 t112 H27)) fun t113 =>
 letO (gval t110 true (binF Tryd.prog .geq 3 t111 t113)) fun t114 =>
 letO (pickF t110 t114 (.bool false)) fun t115 =>
 condA t115 true (
 letO (faddr 1 t14) fun t116 =>
 letO (load1 t116 H27) fun t117 =>
 letO (some (t15 : AV)) fun t118 =>
 letO (some ((L26.getD 2 .any) : AV)) fun t119 =>
 letO (binF Tryd.prog .add 3 t119 (.int .i64 1)) fun t120 =>
 letO (buildF Tryd.prog 30 [(0, t118), (1, t120)]) fun t121 =>
 letO (literalF Tryd.prog 24 1 [(0, t121)]) fun c29 =>
 appendA 2 16 t117 (.imm 1 true c29) (fun t123 H30 =>
 letO (faddr 1 t14) fun t124 =>
 storeA 1 t124 t123 (fun H31 =>
 J28 [t16, t17] H31) H30) H27) (
 J28 [t16, t17] H27)) ∧ ∀ L32 H33, J28 L32 H33 → -- [t16, t17]
 letO (some ((L26.getD 2 .any) : AV)) fun t88 =>
 letO (binF Tryd.prog .add 3 t88 (.int .i64 1)) fun t89 =>
 letO (some (t89 : AV)) fun t18 =>
 I24 [(L32.getD 0 .any), (L32.getD 1 .any), t18] H33 ∧ μ25 [(L32.getD 0 .any), (L32.getD 1 .any), t18] H33 < μ25 L26 H27) (
 letO (binF Tryd.prog .add 3 (L22.getD 0 .any) (.int .i64 1)) fun t125 =>
 letO (some (t125 : AV)) fun t81 =>
 I20 [t81] H27 ∧ μ21 [t81] H27 < μ21 L22 H23)) (
 true = true ∧
 letO (loadN 2 t14 H23) fun t127 =>
 letO (some (t9 : AV)) fun t128 =>
 letO (literalF Tryd.prog 35 1 [(0, t128)]) fun c34 =>
 ∃ t130, (ACalls Tryd.prog 24 [(.imm 1 true c34)] H23 fun r h => r = t130 ∧ h = H23) ∧
 ACalls Tryd.prog 23 [t127, t130, (.int .i64 0)] H23 fun t131 H35 =>
 letO (some (t131 : AV)) fun t126 =>
 letO (extrF t126 0) fun t132 =>
 letO (extrF t126 1) fun t133 =>
 letO (some (t132 : AV)) fun t19 =>
 letO (some (t133 : AV)) fun t20 =>
 letO (loadN 2 t14 H35) fun t135 =>
 ACalls Tryd.prog 25 [t135] H35 fun t136 H36 =>
 letO (some (t136 : AV)) fun t134 =>
 letO (extrF t134 0) fun t137 =>
 letO (extrF t134 1) fun t138 =>
 letO (some (t137 : AV)) fun t21 =>
 letO (some (t138 : AV)) fun t22 =>
 letO (loadN 3 t10 H36) fun t140 =>
 ACalls Tryd.prog 26 [t140] H36 fun t141 H37 =>
 letO (some (t141 : AV)) fun t139 =>
 letO (extrF t139 0) fun t142 =>
 letO (extrF t139 1) fun t143 =>
 letO (some (t142 : AV)) fun t23 =>
 letO (some (t143 : AV)) fun t24 =>
 letO (some (t22 : AV)) fun t144 =>
 letO (binF Tryd.prog .neq 32 t144 (.int .i64 0)) fun t145 =>
 letO (some (t145 : AV)) fun t146 =>
 letO (gval t146 false (some (t21 : AV))) fun t147 =>
 letO (gval t146 false (binF Tryd.prog .neq 3 t147 (.int .i64 0))) fun t148 =>
 letO (pickF t146 (.bool true) t148) fun t149 =>
 letO (some (t149 : AV)) fun t150 =>
 letO (gval t150 false (some (t20 : AV))) fun t151 =>
 letO (gval t150 false (some (t24 : AV))) fun t152 =>
 letO (gval t150 false (binF Tryd.prog .neq 32 t151 t152)) fun t153 =>
 letO (pickF t150 (.bool true) t153) fun t154 =>
 letO (some (t154 : AV)) fun t155 =>
 letO (gval t155 false (loadN 3 t10 H37)) fun t156 =>
 ∃ J38 : AV → Heap → Prop, condG t155 false (ACalls Tryd.prog 27 [t156] H37 fun t157 H39 =>
 J38 t157 H39) (J38 (.tup []) H37) ∧ ∀ t157 H40, J38 t157 H40 →
 letO (gval t155 false (binF Tryd.prog .neq 32 t157 (.int .i64 0))) fun t158 =>
 letO (pickF t155 (.bool true) t158) fun t159 =>
 condA t159 true (
 letO (some ((.bool false) : AV)) fun t8 =>
endK t8 H40 K) (
 letO (some (t20 : AV)) fun t160 =>
 letO (binF Tryd.prog .neq 32 t160 (.int .i64 0)) fun t161 =>
 condA t161 true (
 letO (some (t20 : AV)) fun t162 =>
 letO (binF Tryd.prog .eql 32 t162 (.int .i64 12)) fun t163 =>
 letO (some (t163 : AV)) fun t164 =>
 letO (gval t164 true (some (t19 : AV))) fun t165 =>
 letO (gval t164 true (lenA t165)) fun t166 =>
 letO (gval t164 true (some (t23 : AV))) fun t167 =>
 letO (gval t164 true (lenA t167)) fun t168 =>
 letO (gval t164 true (binF Tryd.prog .add 3 t166 t168)) fun t169 =>
 letO (gval t164 true (binF Tryd.prog .eql 3 t169 (.int .i64 0))) fun t170 =>
 letO (pickF t164 t170 (.bool false)) fun t171 =>
 letO (some (t171 : AV)) fun t172 =>
 ∃ J41 : AV → Heap → Prop, condG t172 true (ACalls Tryd.prog 28 [] H40 fun t173 H42 =>
 J41 t173 H42) (J41 (.tup []) H40) ∧ ∀ t173 H43, J41 t173 H43 →
 letO (pickF t172 t173 (.bool false)) fun t174 =>
 letO (some (t174 : AV)) fun t8 =>
endK t8 H43 K) (
 letO (some (t19 : AV)) fun t175 =>
 letO (lenA t175) fun t176 =>
 letO (binF Tryd.prog .gtr 3 t176 (.int .i64 1)) fun t177 =>
 letO (some (t177 : AV)) fun t178 =>
 letO (gval t178 true (some (t19 : AV))) fun t179 =>
 letO (gval t178 true (slc 1 t179 (some (.int .i64 1)) none none)) fun t180 =>
 letO (gval t178 true (some (t23 : AV))) fun t181 =>
 ∃ J44 : AV → Heap → Prop, condG t178 true (ACalls Tryd.prog 14 [t180, t181] H40 fun t182 H45 =>
 J44 t182 H45) (J44 (.tup []) H40) ∧ ∀ t182 H46, J44 t182 H46 →
 letO (pickF t178 t182 (.bool false)) fun t183 =>
 letO (some (t183 : AV)) fun t184 =>
 letO (gval t184 true (loadN 3 t10 H46)) fun t185 =>
 letO (gval t184 true (some (t23 : AV))) fun t186 =>
 ∃ J47 : AV → Heap → Prop, condG t184 true (ACalls Tryd.prog 29 [t185, t186] H46 fun t187 H48 =>
 J47 t187 H48) (J47 (.tup []) H46) ∧ ∀ t187 H49, J47 t187 H49 →
 letO (gval t184 true (binF Tryd.prog .eql 32 t187 (.int .i64 0))) fun t188 =>
 letO (pickF t184 t188 (.bool false)) fun t189 =>
 letO (some (t189 : AV)) fun t190 =>
 ∃ J50 : AV → Heap → Prop, condG t190 true (ACalls Tryd.prog 28 [] H49 fun t191 H51 =>
 J50 t191 H51) (J50 (.tup []) H49) ∧ ∀ t191 H52, J50 t191 H52 →
 letO (pickF t190 t191 (.bool false)) fun t192 =>
 letO (some (t192 : AV)) fun t8 =>
endK t8 H52 K)))) H18) H12)) H3) H2) H

theorem W7_ok {x0 x1 x2 x3 : AV} {H : Heap} {K : AV → Heap → Prop} (h : W7 x0 x1 x2 x3 H K) : ACalls Tryd.prog 7 [x0, x1, x2, x3] H K :=
  acallsB (fn := Tryd.f7) (cfg := cfgOf [] [] [(25, [0, 0, 2, 6, 15, 31, 63, 63, 127, 511])] [] [] []) (hh := (.dir .nil (.dir .nil (.dir .nil (.dir .nil (.cut [] [41, 42, 43, 44, 45, 46, 47, 48, 49, 50] (.dir .nil .nil) (.dir (.dir .nil (.blk (.loop [54] [55, 56, 57, 12, 58, 59, 60, 61, 62, 13, 63, 64, 65, 66, 67, 68, 69, 70, 71, 72, 73, 74, 75, 76, 54] (.dir .nil (.dir .nil (.dir (.blk (.dir .nil .nil)) .nil)))))) (.dir .nil (.dir (.dir .nil (.blk (.loop [81] [82, 83, 15, 16, 17, 84, 18, 85, 86, 87, 90, 91, 92, 93, 94, 95, 96, 97, 98, 99, 100, 101, 102, 103, 104, 105, 106, 107, 108, 109, 110, 111, 112, 113, 114, 115, 116, 117, 118, 119, 120, 121, 122, 123, 124, 88, 89, 125, 81] (.dir .nil (.dir .nil (.dir (.blk (.dir .nil (.dir .nil (.dir .nil (.blk (.loop [16, 17, 18] [85, 86, 87, 90, 91, 92, 93, 94, 95, 96, 97, 16, 98, 99, 100, 101, 102, 103, 104, 105, 17, 106, 107, 108, 109, 110, 111, 112, 113, 114, 115, 116, 117, 118, 119, 120, 121, 122, 123, 124, 88, 89, 18] (.dir (.dir .nil .nil) (.cut [16, 17] [90, 91, 92, 93, 94, 95, 96, 97, 16, 98, 99, 100, 101, 102, 103, 104, 105, 17, 106, 107, 108, 109, 110, 111, 112, 113, 114, 115, 116, 117, 118, 119, 120, 121, 122, 123, 124] (.blk (.dir .nil (.dir .nil (.dir .nil .nil)))) .nil)))))))) .nil)))))) (.dir .nil (.dir .nil (.dir .nil (.dir (.dir .nil (.dir .nil .nil)) (.dir (.dir .nil (.dir .nil .nil)) .nil)))))))))))))) follows Tryd.func7 (by kernel_rfl) (Nat.le_of_ble_eq_true (by kernel_rfl)) (by kernel_rfl) h

/-- headword.headwordtop.quarrel -/
def W8 (x0 x1 x2 : AV) (H : Heap) (K : AV → Heap → Prop) : Prop :=
 letO (cellsOf? x2) fun c1 =>
 letO (some (.nils : AV)) fun t6 =>
 letO (some (.nils : AV)) fun t7 =>
 letO (some (x1 : AV)) fun t13 =>
 letO (slcArr 8 2 (.iptr c1) none (some t13) none) fun t14 =>
 letO (lenA t14) fun t15 =>
 letO (some ((.int .i64 0) : AV)) fun t16 =>
 true = true ∧ ∃ (I2 : List AV → Heap → Prop) (μ3 : List AV → Heap → Nat), I2 [t7, t16] H ∧ ∀ L4 H5, I2 L4 H5 → -- [t7, t16]
 letO (binF Tryd.prog .lss 3 (L4.getD 1 .any) t15) fun t17 =>
 condA t17 true (
 true = true ∧ ∃ J6 : List AV → Heap → Prop, (
 letO (idx 2 t14 (L4.getD 1 .any)) fun t18 =>
 letO (loadN 2 t18 H5) fun t19 =>
 allocA [(.int .u8 0), (.int .u8 0)] (fun t9 H7 =>
 storeA 2 t9 t19 (fun H8 =>
 true = true ∧
 letO (idxArr 2 1 t9 (.int .i64 0)) fun t20 =>
 letO (load1 t20 H8) fun t21 =>
 letO (convF Tryd.prog 5 3 t21) fun t22 =>
 letO (some (x0 : AV)) fun t23 =>
 letO (binF Tryd.prog .rem 3 t22 t23) fun t24 =>
 letO (idxArr 2 1 t9 (.int .i64 1)) fun t25 =>
 letO (load1 t25 H8) fun t26 =>
 letO (convF Tryd.prog 5 3 t26) fun t27 =>
 letO (some (x0 : AV)) fun t28 =>
 letO (binF Tryd.prog .rem 3 t27 t28) fun t29 =>
 letO (some (t24 : AV)) fun t10 =>
 letO (some (t29 : AV)) fun t11 =>
 letO (some (t10 : AV)) fun t30 =>
 letO (some (t11 : AV)) fun t31 =>
 letO (min2F t30 t31) fun t32 =>
 letO (some (t10 : AV)) fun t33 =>
 letO (some (t11 : AV)) fun t34 =>
 letO (max2F t33 t34) fun t35 =>
 letO (buildF Tryd.prog 30 [(0, t32), (1, t35)]) fun t36 =>
 allocA [(.int .i64 0), (.int .i64 0)] (fun t12 H9 =>
 storeA 2 t12 t36 (fun H10 =>
 letO (some (t10 : AV)) fun t37 =>
 letO (some (t11 : AV)) fun t38 =>
 letO (binF Tryd.prog .neq 3 t37 t38) fun t39 =>
 letO (some (t39 : AV)) fun t40 =>
 letO (gval t40 true (some ((L4.getD 0 .any) : AV))) fun t41 =>
 letO (gval t40 true (loadN 2 t12 H10)) fun t42 =>
 ∃ J11 : AV → Heap → Prop, condG t40 true (ACalls Tryd.prog 30 [t41, t42] H10 fun t43 H12 =>
 J11 t43 H12) (J11 (.tup []) H10) ∧ ∀ t43 H13, J11 t43 H13 →
 letO (gval t40 true (unF .not t43)) fun t44 =>
 letO (pickF t40 t44 (.bool false)) fun t45 =>
 condA t45 true (
 letO (some ((L4.getD 0 .any) : AV)) fun t46 =>
 letO (loadN 2 t12 H13) fun t47 =>
 letO (literalF Tryd.prog 24 1 [(0, t47)]) fun c14 =>
 appendA 2 16 t46 (.imm 1 true c14) (fun t49 H15 =>
 letO (some (t49 : AV)) fun t7 =>
 J6 [t7] H15) H13) (
 J6 [(L4.getD 0 .any)] H13)) H9) H8) H7) H5) ∧ ∀ L16 H17, J6 L16 H17 → -- [t7]
 letO (binF Tryd.prog .add 3 (L4.getD 1 .any) (.int .i64 1)) fun t50 =>
 letO (some (t50 : AV)) fun t16 =>
 I2 [(L16.getD 0 .any), t16] H17 ∧ μ3 [(L16.getD 0 .any), t16] H17 < μ3 L4 H5) (
 letO (some ((L4.getD 0 .any) : AV)) fun t51 =>
 letO (some (t51 : AV)) fun t6 =>
endK t6 H5 K)

theorem W8_ok {x0 x1 x2 : AV} {H : Heap} {K : AV → Heap → Prop} (h : W8 x0 x1 x2 H K) : ACalls Tryd.prog 8 [x0, x1, x2] H K :=
  acallsB (fn := Tryd.f8) (cfg := cfgOf [] [] [(5, [0, 1, 3, 0, 15, 0, 32, 96, 0, 480, 31, 2047])] [] [] []) (hh := (.dir .nil (.dir .nil (.dir (.dir .nil (.blk (.loop [7, 16] [17, 18, 19, 9, 20, 21, 22, 23, 24, 25, 26, 27, 28, 29, 10, 11, 30, 31, 32, 33, 34, 35, 36, 12, 37, 38, 39, 40, 41, 42, 43, 44, 45, 46, 47, 48, 49, 7, 50, 16] (.dir .nil (.dir .nil (.cut [7] [18, 19, 9, 20, 21, 22, 23, 24, 25, 26, 27, 28, 29, 10, 11, 30, 31, 32, 33, 34, 35, 36, 12, 37, 38, 39, 40, 41, 42, 43, 44, 45, 46, 47, 48, 49, 7] (.blk (.dir .nil (.dir .nil (.dir .nil (.dir .nil .nil))))) .nil)))))) .nil)))) follows Tryd.func8 (by kernel_rfl) (Nat.le_of_ble_eq_true (by kernel_rfl)) (by kernel_rfl) h

/-- headword.fact.Valid -/
def W13 (x0 x1 : AV) (H : Heap) (K : AV → Heap → Prop) : Prop :=
 letO (cellsOf? x0) fun c1 =>
 letO (some ((.int .i64 0) : AV)) fun t4 =>
 letO (loadN 2 (.iptr c1) H) fun t10 =>
 ACalls Tryd.prog 36 [t10] H fun t11 H2 =>
 letO (some (t11 : AV)) fun t5 =>
 letO (some (t5 : AV)) fun t12 =>
 letO (binF Tryd.prog .neq 32 t12 (.int .i64 0)) fun t13 =>
 condA t13 true (
 letO (some (t5 : AV)) fun t14 =>
 letO (some (t14 : AV)) fun t4 =>
endK t4 H2 K) (
 letO (some ((.int .u64 0) : AV)) fun t6 =>
 letO (some ((.int .i64 (-1)) : AV)) fun t7 =>
 letO (some (x1 : AV)) fun t15 =>
 letO (lenA t15) fun t16 =>
 letO (some ((.int .i64 0) : AV)) fun t17 =>
 true = true ∧ ∃ (I3 : List AV → Heap → Prop) (μ4 : List AV → Heap → Nat), I3 [t6, t7, t17] H2 ∧ ∀ L5 H6, I3 L5 H6 → -- [t6, t7, t17]
 letO (binF Tryd.prog .lss 3 (L5.getD 2 .any) t16) fun t18 =>
 condA t18 true (
 letO (idx 1 t15 (L5.getD 2 .any)) fun t19 =>
 letO (load1 t19 H6) fun t20 =>
 letO (some (t20 : AV)) fun t9 =>
 letO (some (t9 : AV)) fun t22 =>
 letO (binF Tryd.prog .lss 3 t22 (.int .i64 0)) fun t23 =>
 letO (some (t23 : AV)) fun t24 =>
 letO (gval t24 false (some (t9 : AV))) fun t25 =>
 letO (gval t24 false (faddr 0 (.iptr c1))) fun t26 =>
 letO (gval t24 false (load1 t26 H6)) fun t27 =>
 letO (gval t24 false (binF Tryd.prog .geq 3 t25 t27)) fun t28 =>
 letO (pickF t24 (.bool true) t28) fun t29 =>
 letO (some (t29 : AV)) fun t21 =>
 condA t21 true (
 letO (some ((.int .i64 2) : AV)) fun t4 =>
endK t4 H6 K) (
 letO (some (t9 : AV)) fun t31 =>
 letO (some ((L5.getD 1 .any) : AV)) fun t32 =>
 letO (binF Tryd.prog .leq 3 t31 t32) fun t33 =>
 letO (some (t33 : AV)) fun t30 =>
 condA t30 true (
 letO (some ((.int .i64 7) : AV)) fun t4 =>
endK t4 H6 K) (
 letO (some ((L5.getD 0 .any) : AV)) fun t34 =>
 letO (some (t9 : AV)) fun t35 =>
 letO (binF Tryd.prog .shl 76 (.int .u64 1) t35) fun t36 =>
 letO (binF Tryd.prog .or 76 t34 t36) fun t37 =>
 letO (some (t9 : AV)) fun t38 =>
 letO (some (t37 : AV)) fun t6 =>
 letO (some (t38 : AV)) fun t7 =>
 letO (binF Tryd.prog .add 3 (L5.getD 2 .any) (.int .i64 1)) fun t39 =>
 letO (some (t39 : AV)) fun t17 =>
 I3 [t6, t7, t17] H6 ∧ μ4 [t6, t7, t17] H6 < μ4 L5 H6))) (
 letO (loadN 2 (.iptr c1) H6) fun t40 =>
 letO (some ((L5.getD 0 .any) : AV)) fun t41 =>
 ACalls Tryd.prog 39 [t40, t41] H6 fun t42 H7 =>
 letO (unF .not t42) fun t43 =>
 condA t43 true (
 letO (some ((.int .i64 21) : AV)) fun t4 =>
endK t4 H7 K) (
 letO (some ((.int .i64 0) : AV)) fun t4 =>
endK t4 H7 K)))

theorem W13_ok {x0 x1 : AV} {H : Heap} {K : AV → Heap → Prop} (h : W13 x0 x1 H K) : ACalls Tryd.prog 13 [x0, x1] H K :=
  acallsB (fn := Tryd.f13) (cfg := cfgOf [] [] [] [] [] []) (hh := (.dir .nil (.dir (.dir .nil (.dir .nil (.dir .nil .nil))) (.dir .nil (.dir (.dir .nil (.blk (.loop [6, 7, 17] [18, 19, 20, 9, 22, 23, 24, 25, 26, 27, 28, 29, 21, 4, 31, 32, 33, 30, 34, 35, 36, 37, 38, 6, 7, 39, 17] (.dir .nil (.dir .nil (.dir (.blk (.dir .nil (.dir (.blk (.dir .nil (.dir .nil (.dir .nil (.dir .nil .nil))))) .nil))) .nil)))))) (.dir (.dir .nil (.dir .nil .nil)) .nil)))))) follows Tryd.func13 (by kernel_rfl) (Nat.le_of_ble_eq_true (by kernel_rfl)) (by kernel_rfl) h

/-- headword.short.Arches -/
def W16 (x0 x1 : AV) (H : Heap) (K : AV → Heap → Prop) : Prop :=
 letO (some (.nils : AV)) fun t4 =>
 letO (some ((.int .i64 0) : AV)) fun t5 =>
 letO (some (x0 : AV)) fun t7 =>
 letO (some (x1 : AV)) fun t8 =>
 ACalls Tryd.prog 41 [t7, t8] H fun t9 H1 =>
 letO (some (t9 : AV)) fun t6 =>
 letO (some (t6 : AV)) fun t10 =>
 letO (binF Tryd.prog .neq 32 t10 (.int .i64 0)) fun t11 =>
 condA t11 true (
 letO (some (t6 : AV)) fun t12 =>
 letO (some (.nils : AV)) fun t4 =>
 letO (some (t12 : AV)) fun t5 =>
endK (.tup [t4, t5]) H1 K) (
 letO (some (x0 : AV)) fun t13 =>
 letO (some (x1 : AV)) fun t14 =>
 ACalls Tryd.prog 42 [t13, t14] H1 fun t15 H2 =>
 letO (some (t15 : AV)) fun t4 =>
 letO (some ((.int .i64 0) : AV)) fun t5 =>
endK (.tup [t4, t5]) H2 K)

theorem W16_ok {x0 x1 : AV} {H : Heap} {K : AV → Heap → Prop} (h : W16 x0 x1 H K) : ACalls Tryd.prog 16 [x0, x1] H K :=
  acallsB (fn := Tryd.f16) (cfg := cfgOf [] [] [] [] [] []) (hh := (.dir .nil (.dir (.dir .nil (.dir .nil (.dir .nil .nil))) .nil))) follows Tryd.func16 (by kernel_rfl) (Nat.le_of_ble_eq_true (by kernel_rfl)) (by kernel_rfl) h

/-- headword.stand.Fewest -/
def W17 (x0 : AV) (H : Heap) (K : AV → Heap → Prop) : Prop :=
 letO (cellsOf? x0) fun c1 =>
 letO (some ((.int .i64 0) : AV)) fun t2 =>
 letO (some ((.int .i64 0) : AV)) fun t3 =>
 letO (loadN 2 (.iptr c1) H) fun t6 =>
 ACalls Tryd.prog 43 [t6] H fun t7 H2 =>
 letO (some (t7 : AV)) fun t4 =>
 letO (some (t4 : AV)) fun t8 =>
 letO (binF Tryd.prog .neq 32 t8 (.int .i64 0)) fun t9 =>
 condA t9 true (
 letO (some (t4 : AV)) fun t10 =>
 letO (some ((.int .i64 0) : AV)) fun t2 =>
 letO (some (t10 : AV)) fun t3 =>
endK (.tup [t2, t3]) H2 K) (
 letO (loadN 2 (.iptr c1) H2) fun t11 =>
 letO (buildF Tryd.prog 100 [(0, t11)]) fun t12 =>
 letO (cellsOf? t12) fun c3 => allocA c3 (fun t13 H4 =>
 letO (some (t13 : AV)) fun t5 =>
 letO (some (t5 : AV)) fun t14 =>
 letO (buildF Tryd.prog 103 []) fun t15 =>
 ACalls Tryd.prog 44 [t14, (.int .i64 0), t15] H4 fun t16 H5 =>
 letO (fieldF Tryd.prog 96 t16 0) fun t17 =>
 letO (some (t17 : AV)) fun t2 =>
 letO (some ((.int .i64 0) : AV)) fun t3 =>
endK (.tup [t2, t3]) H5 K) H2)

theorem W17_ok {x0 : AV} {H : Heap} {K : AV → Heap → Prop} (h : W17 x0 H K) : ACalls Tryd.prog 17 [x0] H K :=
  acallsB (fn := Tryd.f17) (cfg := cfgOf [13] [] [] [] [] []) (hh := (.dir .nil (.dir (.dir .nil (.dir .nil (.dir .nil .nil))) (.dir .nil .nil)))) follows Tryd.func17 (by kernel_rfl) (Nat.le_of_ble_eq_true (by kernel_rfl)) (by kernel_rfl) h

/-- headword.headwordtop.standsWork -/
def W18 (H : Heap) (K : AV → Heap → Prop) : Prop :=
 letO (some ((.bool false) : AV)) fun t0 =>
 letO (literalF Tryd.prog 35 5 [(0, (.int .i64 0)), (1, (.int .i64 1)), (2, (.int .i64 2)), (3, (.int .i64 0)), (4, (.int .i64 1))]) fun c1 =>
 ACalls Tryd.prog 24 [(.imm 5 true c1)] H fun t5 H2 =>
 letO (buildF Tryd.prog 47 [(0, (.int .i64 2)), (1, t5)]) fun t6 =>
 ACalls Tryd.prog 17 [t6] H2 fun t7 H3 =>
 letO (some (t7 : AV)) fun t3 =>
 letO (extrF t3 0) fun t8 =>
 letO (extrF t3 1) fun t9 =>
 letO (some (t8 : AV)) fun t1 =>
 letO (some (t9 : AV)) fun t2 =>
 letO (some (t2 : AV)) fun t10 =>
 letO (binF Tryd.prog .eql 32 t10 (.int .i64 0)) fun t11 =>
 letO (some (t11 : AV)) fun t12 =>
 letO (gval t12 true (some (t1 : AV))) fun t13 =>
 letO (gval t12 true (binF Tryd.prog .eql 3 t13 (.int .i64 4))) fun t14 =>
 letO (pickF t12 t14 (.bool false)) fun t15 =>
 letO (some (t15 : AV)) fun t16 =>
 ∃ J4 : AV → Heap → Prop, condG t16 true (ACalls Tryd.prog 15 [] H3 fun t17 H5 =>
 J4 t17 H5) (J4 (.tup []) H3) ∧ ∀ t17 H6, J4 t17 H6 →
 letO (pickF t16 t17 (.bool false)) fun t18 =>
 letO (some (t18 : AV)) fun t0 =>
endK t0 H6 K

theorem W18_ok {H : Heap} {K : AV → Heap → Prop} (h : W18 H K) : ACalls Tryd.prog 18 [] H K :=
  acallsB (fn := Tryd.f18) (cfg := cfgOf [] [] [] [] [] []) (hh := (.dir .nil (.dir .nil .nil))) follows Tryd.func18 (by kernel_rfl) (Nat.le_of_ble_eq_true (by kernel_rfl)) (by kernel_rfl) h

/-- headword.stand.Spans -/
def W19 (x0 : AV) (H : Heap) (K : AV → Heap → Prop) : Prop :=
 letO (cellsOf? x0) fun c1 =>
 letO (some (.nils : AV)) fun t2 =>
 letO (some ((.int .i64 0) : AV)) fun t3 =>
 letO (loadN 2 (.iptr c1) H) fun t5 =>
 ACalls Tryd.prog 43 [t5] H fun t6 H2 =>
 letO (some (t6 : AV)) fun t4 =>
 letO (some (t4 : AV)) fun t7 =>
 letO (binF Tryd.prog .neq 32 t7 (.int .i64 0)) fun t8 =>
 condA t8 true (
 letO (some (t4 : AV)) fun t9 =>
 letO (some (.nils : AV)) fun t2 =>
 letO (some (t9 : AV)) fun t3 =>
endK (.tup [t2, t3]) H2 K) (
 letO (loadN 2 (.iptr c1) H2) fun t10 =>
 ACalls Tryd.prog 45 [t10] H2 fun t11 H3 =>
 letO (some (t11 : AV)) fun t2 =>
 letO (some ((.int .i64 0) : AV)) fun t3 =>
endK (.tup [t2, t3]) H3 K)

theorem W19_ok {x0 : AV} {H : Heap} {K : AV → Heap → Prop} (h : W19 x0 H K) : ACalls Tryd.prog 19 [x0] H K :=
  acallsB (fn := Tryd.f19) (cfg := cfgOf [] [] [] [] [] []) (hh := (.dir .nil (.dir (.dir .nil (.dir .nil (.dir .nil .nil))) .nil))) follows Tryd.func19 (by kernel_rfl) (Nat.le_of_ble_eq_true (by kernel_rfl)) (by kernel_rfl) h

/-- headword.reign.Wrong -/
def W20 (x0 : AV) (H : Heap) (K : AV → Heap → Prop) : Prop :=
 letO (some (.nils : AV)) fun t2 =>
 letO (some ((.int .i64 0) : AV)) fun t3 =>
 letO (some (x0 : AV)) fun t12 =>
 ACalls Tryd.prog 46 [t12] H fun t13 H1 =>
 letO (some (t13 : AV)) fun t4 =>
 letO (some (t4 : AV)) fun t14 =>
 letO (binF Tryd.prog .neq 32 t14 (.int .i64 0)) fun t15 =>
 condA t15 true (
 letO (some (t4 : AV)) fun t16 =>
 letO (some (.nils : AV)) fun t2 =>
 letO (some (t16 : AV)) fun t3 =>
endK (.tup [t2, t3]) H1 K) (
 letO (some (.nils : AV)) fun t5 =>
 letO (some (x0 : AV)) fun t17 =>
 letO (lenA t17) fun t18 =>
 letO (binF Tryd.prog .shl 3 (.int .i64 1) t18) fun t19 =>
 letO (some ((.int .i64 0) : AV)) fun t20 =>
 true = true ∧ ∃ (I2 : List AV → Heap → Prop) (μ3 : List AV → Heap → Nat), I2 [t5, t20] H1 ∧ ∀ L4 H5, I2 L4 H5 → -- [t5, t20]
 letO (binF Tryd.prog .lss 3 (L4.getD 1 .any) t19) fun t21 =>
 condA t21 true (
 true = true ∧ ∃ J6 : List AV → Heap → Prop, (
 letO (some ((L4.getD 1 .any) : AV)) fun t22 =>
 letO (some (t22 : AV)) fun t6 =>
 letO (some (.nils : AV)) fun t7 =>
 letO (some ((.int .i64 (-1)) : AV)) fun t8 =>
 letO (some ((.bool true) : AV)) fun t9 =>
 letO (some (x0 : AV)) fun t23 =>
 letO (lenA t23) fun t24 =>
 letO (some ((.int .i64 0) : AV)) fun t25 =>
 true = true ∧ ∃ (I7 : List AV → Heap → Prop) (μ8 : List AV → Heap → Nat), I7 [t7, t9, t8, t25] H5 ∧ ∀ L9 H10, I7 L9 H10 → -- [t7, t9, t8, t25]
 letO (binF Tryd.prog .lss 3 (L9.getD 3 .any) t24) fun t26 =>
 condA t26 true (
 true = true ∧ ∃ J11 : List AV → Heap → Prop, (
 letO (some ((L9.getD 3 .any) : AV)) fun t27 =>
 letO (idx 2 t23 (L9.getD 3 .any)) fun t28 =>
 letO (loadN 2 t28 H10) fun t29 =>
 allocA [(.int .i64 0), (.int .i64 0)] (fun t11 H12 =>
 letO (some (t27 : AV)) fun t10 =>
 storeA 2 t11 t29 (fun H13 =>
 letO (some (t6 : AV)) fun t30 =>
 letO (some (t10 : AV)) fun t31 =>
 letO (binF Tryd.prog .shr 3 t30 t31) fun t32 =>
 letO (binF Tryd.prog .and 3 t32 (.int .i64 1)) fun t33 =>
 letO (binF Tryd.prog .eql 3 t33 (.int .i64 1)) fun t34 =>
 condA t34 true (
 letO (some ((L9.getD 0 .any) : AV)) fun t35 =>
 letO (some (t10 : AV)) fun t36 =>
 letO (literalF Tryd.prog 35 1 [(0, t36)]) fun c14 =>
 appendA 1 8 t35 (.imm 1 true c14) (fun t38 H15 =>
 letO (some (t38 : AV)) fun t7 =>
 J11 [t7, (L9.getD 1 .any), (L9.getD 2 .any)] H15) H13) (
 letO (some ((L9.getD 1 .any) : AV)) fun t39 =>
 letO (some (t39 : AV)) fun t40 =>
 letO (gval t40 true (faddr 0 t11)) fun t41 =>
 letO (gval t40 true (load1 t41 H13)) fun t42 =>
 letO (gval t40 true (some ((L9.getD 2 .any) : AV))) fun t43 =>
 letO (gval t40 true (binF Tryd.prog .geq 3 t42 t43)) fun t44 =>
 letO (pickF t40 t44 (.bool false)) fun t45 =>
 letO (some (t45 : AV)) fun t9 =>
 letO (faddr 0 t11) fun t46 =>
 letO (load1 t46 H13) fun t47 =>
 letO (some (t47 : AV)) fun t8 =>
 J11 [(L9.getD 0 .any), t9, t8] H13)) H12) H10) ∧ ∀ L16 H17, J11 L16 H17 → -- [t7, t9, t8]
 letO (binF Tryd.prog .add 3 (L9.getD 3 .any) (.int .i64 1)) fun t48 =>
 letO (some (t48 : AV)) fun t25 =>
 I7 [(L16.getD 0 .any), (L16.getD 1 .any), (L16.getD 2 .any), t25] H17 ∧ μ8 [(L16.getD 0 .any), (L16.getD 1 .any), (L16.getD 2 .any), t25] H17 < μ8 L9 H10) (
 letO (some ((L9.getD 1 .any) : AV)) fun t49 =>
 letO (some (t49 : AV)) fun t50 =>
 letO (gval t50 true (some ((L4.getD 0 .any) : AV))) fun t51 =>
 letO (gval t50 true (binF Tryd.prog .eql 35 t51 .nils)) fun t52 =>
 letO (gval t50 true (some (t52 : AV))) fun t53 =>
 letO (gval t53 false (some ((L9.getD 0 .any) : AV))) fun t54 =>
 letO (gval t53 false (lenA t54)) fun t55 =>
 letO (gval t53 false (some ((L4.getD 0 .any) : AV))) fun t56 =>
 letO (gval t53 false (lenA t56)) fun t57 =>
 letO (gval t53 false (binF Tryd.prog .lss 3 t55 t57)) fun t58 =>
 letO (gval t50 true (pickF t53 (.bool true) t58)) fun t59 =>
 letO (gval t50 true (some (t59 : AV))) fun t60 =>
 letO (gval t60 false (some ((L9.getD 0 .any) : AV))) fun t61 =>
 letO (gval t60 false (lenA t61)) fun t62 =>
 letO (gval t60 false (some ((L4.getD 0 .any) : AV))) fun t63 =>
 letO (gval t60 false (lenA t63)) fun t64 =>
 letO (gval t60 false (binF Tryd.prog .eql 3 t62 t64)) fun t65 =>
 letO (gval t60 false (some (t65 : AV))) fun t66 =>
 letO (gval t66 true (some ((L9.getD 0 .any) : AV))) fun t67 =>
 letO (gval t66 true (some ((L4.getD 0 .any) : AV))) fun t68 =>
 ∃ J18 : AV → Heap → Prop, condG t66 true (ACalls Tryd.prog 35 [t67, t68] H10 fun t69 H19 =>
 J18 t69 H19) (J18 (.tup []) H10) ∧ ∀ t69 H20, J18 t69 H20 →
 letO (gval t66 true (binF Tryd.prog .lss 3 t69 (.int .i64 0))) fun t70 =>
 letO (gval t60 false (pickF t66 t70 (.bool false))) fun t71 =>
 letO (gval t50 true (pickF t60 (.bool true) t71)) fun t72 =>
 letO (pickF t50 t72 (.bool false)) fun t73 =>
 condA t73 true (
 letO (some ((L9.getD 0 .any) : AV)) fun t74 =>
 letO (some (t74 : AV)) fun t5 =>
 letO (some ((L9.getD 0 .any) : AV)) fun t75 =>
 letO (binF Tryd.prog .eql 35 t75 .nils) fun t76 =>
 condA t76 true (
 letO (some (.nils : AV)) fun t2 =>
 letO (some ((.int .i64 0) : AV)) fun t3 =>
endK (.tup [t2, t3]) H20 K) (
 J6 [t5] H20)) (
 J6 [(L4.getD 0 .any)] H20))) ∧ ∀ L21 H22, J6 L21 H22 → -- [t5]
 letO (binF Tryd.prog .add 3 (L4.getD 1 .any) (.int .i64 1)) fun t77 =>
 letO (some (t77 : AV)) fun t20 =>
 I2 [(L21.getD 0 .any), t20] H22 ∧ μ3 [(L21.getD 0 .any), t20] H22 < μ3 L4 H5) (
 letO (some ((L4.getD 0 .any) : AV)) fun t78 =>
 letO (some (t78 : AV)) fun t2 =>
 letO (some ((.int .i64 0) : AV)) fun t3 =>
endK (.tup [t2, t3]) H5 K))

theorem W20_ok {x0 : AV} {H : Heap} {K : AV → Heap → Prop} (h : W20 x0 H K) : ACalls Tryd.prog 20 [x0] H K :=
  acallsB (fn := Tryd.f20) (cfg := cfgOf [] [] [] [] [] []) (hh := (.dir .nil (.dir (.dir .nil (.dir .nil (.dir .nil .nil))) (.dir .nil (.dir (.dir .nil (.blk (.loop [5, 20] [21, 22, 6, 7, 8, 9, 23, 24, 25, 26, 27, 28, 29, 11, 10, 30, 31, 32, 33, 34, 35, 36, 37, 38, 39, 40, 41, 42, 43, 44, 45, 46, 47, 48, 49, 50, 51, 52, 53, 54, 55, 56, 57, 58, 59, 60, 61, 62, 63, 64, 65, 66, 67, 68, 69, 70, 71, 72, 73, 74, 5, 75, 76, 2, 3, 77, 20] (.dir .nil (.dir .nil (.cut [5] [22, 6, 7, 8, 9, 23, 24, 25, 26, 27, 28, 29, 11, 10, 30, 31, 32, 33, 34, 35, 36, 37, 38, 39, 40, 41, 42, 43, 44, 45, 46, 47, 48, 49, 50, 51, 52, 53, 54, 55, 56, 57, 58, 59, 60, 61, 62, 63, 64, 65, 66, 67, 68, 69, 70, 71, 72, 73, 74, 5, 75, 76, 2, 3] (.blk (.dir .nil (.dir .nil (.dir .nil (.dir .nil (.dir (.dir .nil (.blk (.loop [7, 9, 8, 25] [26, 27, 28, 29, 11, 10, 30, 31, 32, 33, 34, 35, 36, 37, 38, 7, 39, 40, 41, 42, 43, 44, 45, 9, 46, 47, 8, 48, 25] (.dir .nil (.dir .nil (.cut [7, 9, 8] [27, 28, 29, 11, 10, 30, 31, 32, 33, 34, 35, 36, 37, 38, 7, 39, 40, 41, 42, 43, 44, 45, 9, 46, 47, 8] (.blk (.dir .nil (.dir (.dir .nil (.dir .nil .nil)) .nil))) .nil)))))) (.dir .nil (.dir (.dir .nil (.dir .nil (.dir .nil .nil))) .nil)))))))) .nil)))))) .nil))))) follows Tryd.func20 (by kernel_rfl) (Nat.le_of_ble_eq_true (by kernel_rfl)) (by kernel_rfl) h

/-- headword.reign.Falls -/
def W21 (x0 : AV) (H : Heap) (K : AV → Heap → Prop) : Prop :=
 letO (some ((.int .i64 0) : AV)) fun t2 =>
 letO (some ((.int .i64 0) : AV)) fun t3 =>
 letO (some (x0 : AV)) fun t6 =>
 ACalls Tryd.prog 46 [t6] H fun t7 H1 =>
 letO (some (t7 : AV)) fun t4 =>
 letO (some (t4 : AV)) fun t8 =>
 letO (binF Tryd.prog .neq 32 t8 (.int .i64 0)) fun t9 =>
 condA t9 true (
 letO (some (t4 : AV)) fun t10 =>
 letO (some ((.int .i64 0) : AV)) fun t2 =>
 letO (some (t10 : AV)) fun t3 =>
endK (.tup [t2, t3]) H1 K) (
 letO (some (x0 : AV)) fun t11 =>
 letO (lenA t11) fun t12 =>
 letO (binF Tryd.prog .sub 3 t12 (.int .i64 1)) fun t13 =>
 letO (some ((.int .i64 0) : AV)) fun t14 =>
 true = true ∧ ∃ (I2 : List AV → Heap → Prop) (μ3 : List AV → Heap → Nat), I2 [t14] H1 ∧ ∀ L4 H5, I2 L4 H5 → -- [t14]
 letO (binF Tryd.prog .lss 3 (L4.getD 0 .any) t13) fun t15 =>
 condA t15 true (
 letO (some ((L4.getD 0 .any) : AV)) fun t16 =>
 letO (some (t16 : AV)) fun t5 =>
 true = true ∧
 letO (some (x0 : AV)) fun t17 =>
 letO (some (t5 : AV)) fun t18 =>
 letO (idx 2 t17 t18) fun t19 =>
 letO (faddr 0 t19) fun t20 =>
 letO (load1 t20 H5) fun t21 =>
 letO (some (x0 : AV)) fun t22 =>
 letO (some (t5 : AV)) fun t23 =>
 letO (binF Tryd.prog .add 3 t23 (.int .i64 1)) fun t24 =>
 letO (idx 2 t22 t24) fun t25 =>
 letO (faddr 0 t25) fun t26 =>
 letO (load1 t26 H5) fun t27 =>
 letO (binF Tryd.prog .gtr 3 t21 t27) fun t28 =>
 condA t28 true (
 letO (some (t5 : AV)) fun t29 =>
 letO (some (t29 : AV)) fun t2 =>
 letO (some ((.int .i64 0) : AV)) fun t3 =>
endK (.tup [t2, t3]) H5 K) (
 letO (binF Tryd.prog .add 3 (L4.getD 0 .any) (.int .i64 1)) fun t30 =>
 letO (some (t30 : AV)) fun t14 =>
 I2 [t14] H5 ∧ μ3 [t14] H5 < μ3 L4 H5)) (
 letO (some ((.int .i64 0) : AV)) fun t2 =>
 letO (some ((.int .i64 13) : AV)) fun t3 =>
endK (.tup [t2, t3]) H5 K))

theorem W21_ok {x0 : AV} {H : Heap} {K : AV → Heap → Prop} (h : W21 x0 H K) : ACalls Tryd.prog 21 [x0] H K :=
  acallsB (fn := Tryd.f21) (cfg := cfgOf [] [] [(7, [0, 0, 3, 7, 15, 0, 0, 64, 224, 480, 992, 2047])] [] [] []) (hh := (.dir .nil (.dir (.dir .nil (.dir .nil (.dir .nil .nil))) (.dir (.dir .nil (.blk (.loop [14] [15, 16, 5, 17, 18, 19, 20, 21, 22, 23, 24, 25, 26, 27, 28, 29, 2, 3, 30, 14] (.dir .nil (.dir .nil (.dir (.blk (.dir .nil (.dir .nil (.dir .nil .nil)))) .nil)))))) .nil)))) follows Tryd.func21 (by kernel_rfl) (Nat.le_of_ble_eq_true (by kernel_rfl)) (by kernel_rfl) h

/-- headword.headwordtop.reignsWork -/
def W22 (H : Heap) (K : AV → Heap → Prop) : Prop :=
 letO (some ((.bool false) : AV)) fun t0 =>
 letO (buildF Tryd.prog 59 [(0, (.int .i64 3)), (1, (.int .i64 1))]) fun t4 =>
 letO (buildF Tryd.prog 59 [(0, (.int .i64 1)), (1, (.int .i64 1))]) fun t5 =>
 letO (buildF Tryd.prog 59 [(0, (.int .i64 2)), (1, (.int .i64 1))]) fun t6 =>
 letO (literalF Tryd.prog 57 3 [(0, t4), (1, t5), (2, t6)]) fun c1 =>
 ACalls Tryd.prog 20 [(.imm 3 true c1)] H fun t8 H2 =>
 letO (some (t8 : AV)) fun t3 =>
 letO (extrF t3 0) fun t9 =>
 letO (extrF t3 1) fun t10 =>
 letO (some (t9 : AV)) fun t1 =>
 letO (some (t10 : AV)) fun t2 =>
 letO (some (t2 : AV)) fun t11 =>
 letO (binF Tryd.prog .eql 32 t11 (.int .i64 0)) fun t12 =>
 letO (some (t12 : AV)) fun t13 =>
 letO (gval t13 true (some (t1 : AV))) fun t14 =>
 letO (gval t13 true ((literalF Tryd.prog 35 1 [(0, (.int .i64 0))]).map (.imm 1 true))) fun t15 =>
 ∃ J3 : AV → Heap → Prop, condG t13 true (ACalls Tryd.prog 24 [t15] H2 fun t16 H4 =>
 J3 t16 H4) (J3 (.tup []) H2) ∧ ∀ t16 H5, J3 t16 H5 →
 ∃ J6 : AV → Heap → Prop, condG t13 true (ACalls Tryd.prog 14 [t14, t16] H5 fun t17 H7 =>
 J6 t17 H7) (J6 (.tup []) H5) ∧ ∀ t17 H8, J6 t17 H8 →
 letO (pickF t13 t17 (.bool false)) fun t18 =>
 letO (some (t18 : AV)) fun t19 =>
 ∃ J9 : AV → Heap → Prop, condG t19 true (ACalls Tryd.prog 18 [] H8 fun t20 H10 =>
 J9 t20 H10) (J9 (.tup []) H8) ∧ ∀ t20 H11, J9 t20 H11 →
 letO (pickF t19 t20 (.bool false)) fun t21 =>
 letO (some (t21 : AV)) fun t0 =>
endK t0 H11 K

theorem W22_ok {H : Heap} {K : AV → Heap → Prop} (h : W22 H K) : ACalls Tryd.prog 22 [] H K :=
  acallsB (fn := Tryd.f22) (cfg := cfgOf [] [] [] [] [] []) (hh := (.dir .nil (.dir .nil .nil))) follows Tryd.func22 (by kernel_rfl) (Nat.le_of_ble_eq_true (by kernel_rfl)) (by kernel_rfl) h

/-- headword.see.Way -/
def W23 (x0 x1 x2 : AV) (H : Heap) (K : AV → Heap → Prop) : Prop :=
 letO (cellsOf? x0) fun c1 =>
 letO (some (.nils : AV)) fun t6 =>
 letO (some ((.int .i64 0) : AV)) fun t7 =>
 letO (loadN 2 (.iptr c1) H) fun t19 =>
 ACalls Tryd.prog 31 [t19] H fun t20 H2 =>
 letO (some (t20 : AV)) fun t18 =>
 letO (extrF t18 0) fun t21 =>
 letO (extrF t18 1) fun t22 =>
 allocA [(.int .i64 0), (.int .u64 0), (.int .u64 0), (.int .u64 0), (.int .u64 0), (.int .u64 0), (.int .u64 0), (.int .u64 0)] (fun t8 H3 =>
 storeA 8 t8 t21 (fun H4 =>
 letO (some (t22 : AV)) fun t9 =>
 letO (some (t9 : AV)) fun t24 =>
 letO (binF Tryd.prog .neq 32 t24 (.int .i64 0)) fun t25 =>
 letO (some (t25 : AV)) fun t23 =>
 condA t23 true (
 letO (some (t9 : AV)) fun t26 =>
 letO (some (.nils : AV)) fun t6 =>
 letO (some (t26 : AV)) fun t7 =>
endK (.tup [t6, t7]) H4 K) (
 letO (some (x1 : AV)) fun t28 =>
 letO (lenA t28) fun t29 =>
 letO (binF Tryd.prog .eql 3 t29 (.int .i64 0)) fun t30 =>
 letO (some (t30 : AV)) fun t27 =>
 condA t27 true (
 letO (some (.nils : AV)) fun t6 =>
 letO (some ((.int .i64 4) : AV)) fun t7 =>
endK (.tup [t6, t7]) H4 K) (
 letO (loadN 8 t8 H4) fun t32 =>
 letO (some (x1 : AV)) fun t33 =>
 ACalls Tryd.prog 47 [t32, t33] H4 fun t34 H5 =>
 letO (some (t34 : AV)) fun t31 =>
 letO (extrF t31 0) fun t35 =>
 letO (extrF t31 1) fun t36 =>
 letO (some (t35 : AV)) fun t10 =>
 letO (some (t36 : AV)) fun t9 =>
 letO (some (t9 : AV)) fun t38 =>
 letO (binF Tryd.prog .neq 32 t38 (.int .i64 0)) fun t39 =>
 letO (some (t39 : AV)) fun t37 =>
 condA t37 true (
 letO (some (t9 : AV)) fun t40 =>
 letO (some (.nils : AV)) fun t6 =>
 letO (some (t40 : AV)) fun t7 =>
endK (.tup [t6, t7]) H5 K) (
 letO (some (x2 : AV)) fun t42 =>
 letO (binF Tryd.prog .lss 3 t42 (.int .i64 0)) fun t43 =>
 letO (some (t43 : AV)) fun t44 =>
 letO (gval t44 false (some (x2 : AV))) fun t45 =>
 letO (gval t44 false (faddr 0 t8)) fun t46 =>
 letO (gval t44 false (load1 t46 H5)) fun t47 =>
 letO (gval t44 false (binF Tryd.prog .geq 3 t45 t47)) fun t48 =>
 letO (pickF t44 (.bool true) t48) fun t49 =>
 letO (some (t49 : AV)) fun t41 =>
 condA t41 true (
 letO (some (.nils : AV)) fun t6 =>
 letO (some ((.int .i64 2) : AV)) fun t7 =>
endK (.tup [t6, t7]) H5 K) (
 letO (some (t10 : AV)) fun t50 =>
 letO (literalF Tryd.prog 108 1 [(0, t50)]) fun c6 =>
 letO (some ((.imm 1 true c6) : AV)) fun t11 =>
 true = true ∧ ∃ (I7 : List AV → Heap → Prop) (μ8 : List AV → Heap → Nat), I7 [t11] H5 ∧ ∀ L9 H10, I7 L9 H10 → -- [t11]
 letO (some ((L9.getD 0 .any) : AV)) fun t52 =>
 letO (some ((L9.getD 0 .any) : AV)) fun t53 =>
 letO (lenA t53) fun t54 =>
 letO (binF Tryd.prog .sub 3 t54 (.int .i64 1)) fun t55 =>
 letO (idx 1 t52 t55) fun t56 =>
 letO (load1 t56 H10) fun t57 =>
 letO (some (x2 : AV)) fun t58 =>
 letO (binF Tryd.prog .shr 76 t57 t58) fun t59 =>
 letO (binF Tryd.prog .and 76 t59 (.int .u64 1)) fun t60 =>
 letO (binF Tryd.prog .eql 76 t60 (.int .u64 0)) fun t61 =>
 condA t61 true (
 letO (some ((L9.getD 0 .any) : AV)) fun t62 =>
 letO (some ((L9.getD 0 .any) : AV)) fun t63 =>
 letO (lenA t63) fun t64 =>
 letO (binF Tryd.prog .sub 3 t64 (.int .i64 1)) fun t65 =>
 letO (idx 1 t62 t65) fun t66 =>
 letO (load1 t66 H10) fun t67 =>
 letO (some (t67 : AV)) fun t12 =>
 letO (some (t12 : AV)) fun t68 =>
 letO (some (t68 : AV)) fun t13 =>
 letO (faddr 1 t8) fun t69 =>
 letO (faddr 0 t8) fun t70 =>
 letO (load1 t70 H10) fun t71 =>
 letO (slcArr 7 1 t69 none (some t71) none) fun t72 =>
 letO (lenA t72) fun t73 =>
 letO (some ((.int .i64 0) : AV)) fun t74 =>
 true = true ∧ ∃ (I11 : List AV → Heap → Prop) (μ12 : List AV → Heap → Nat), I11 [t13, t74] H10 ∧ ∀ L13 H14, I11 L13 H14 → -- [t13, t74]
 letO (binF Tryd.prog .lss 3 (L13.getD 1 .any) t73) fun t75 =>
 condA t75 true (
 true = true ∧ ∃ J15 : List AV → Heap → Prop, (
 letO (some ((L13.getD 1 .any) : AV)) fun t76 =>
 letO (idx 1 t72 (L13.getD 1 .any)) fun t77 =>
 letO (load1 t77 H14) fun t78 =>
 letO (some (t76 : AV)) fun t14 =>
 letO (some (t78 : AV)) fun t15 =>
 letO (some (t15 : AV)) fun t79 =>
 letO (some (t12 : AV)) fun t80 =>
 letO (binF Tryd.prog .and 76 t79 t80) fun t81 =>
 letO (binF Tryd.prog .neq 76 t81 (.int .u64 0)) fun t82 =>
 condA t82 true (
 letO (some ((L13.getD 0 .any) : AV)) fun t83 =>
 letO (some (t14 : AV)) fun t84 =>
 letO (binF Tryd.prog .shl 76 (.int .u64 1) t84) fun t85 =>
 letO (binF Tryd.prog .or 76 t83 t85) fun t86 =>
 letO (some (t86 : AV)) fun t13 =>
 J15 [t13] H14) (
 J15 [(L13.getD 0 .any)] H14)) ∧ ∀ L16 H17, J15 L16 H17 → -- [t13]
 letO (binF Tryd.prog .add 3 (L13.getD 1 .any) (.int .i64 1)) fun t87 =>
 letO (some (t87 : AV)) fun t74 =>
 I11 [(L16.getD 0 .any), t74] H17 ∧ μ12 [(L16.getD 0 .any), t74] H17 < μ12 L13 H14) (
 letO (some ((L13.getD 0 .any) : AV)) fun t88 =>
 letO (some (t12 : AV)) fun t89 =>
 letO (binF Tryd.prog .eql 76 t88 t89) fun t90 =>
 condA t90 true (
 letO (some (.nils : AV)) fun t6 =>
 letO (some ((.int .i64 12) : AV)) fun t7 =>
endK (.tup [t6, t7]) H14 K) (
 letO (some ((L9.getD 0 .any) : AV)) fun t91 =>
 letO (some ((L13.getD 0 .any) : AV)) fun t92 =>
 letO (literalF Tryd.prog 108 1 [(0, t92)]) fun c18 =>
 appendA 1 8 t91 (.imm 1 true c18) (fun t94 H19 =>
 letO (some (t94 : AV)) fun t11 =>
 I7 [t11] H19 ∧ μ8 [t11] H19 < μ8 L9 H10) H14))) (
 letO (some (x2 : AV)) fun t95 =>
 letO (literalF Tryd.prog 35 1 [(0, t95)]) fun c20 =>
 letO (some ((.imm 1 true c20) : AV)) fun t16 =>
 letO (some ((L9.getD 0 .any) : AV)) fun t97 =>
 letO (lenA t97) fun t98 =>
 letO (binF Tryd.prog .sub 3 t98 (.int .i64 2)) fun t99 =>
 letO (some (t99 : AV)) fun t17 =>
 true = true ∧ ∃ (I21 : List AV → Heap → Prop) (μ22 : List AV → Heap → Nat), I21 [x2, t16, t17] H10 ∧ ∀ L23 H24, I21 L23 H24 → -- [t2, t16, t17]
 letO (some ((L23.getD 2 .any) : AV)) fun t100 =>
 letO (binF Tryd.prog .geq 3 t100 (.int .i64 0)) fun t101 =>
 condA t101 true (
 true = true ∧
 letO (some ((L23.getD 0 .any) : AV)) fun t104 =>
 letO (faddr 1 t8) fun t105 =>
 letO (idxArr 7 1 t105 t104) fun t106 =>
 letO (load1 t106 H24) fun t107 =>
 letO (some ((L9.getD 0 .any) : AV)) fun t108 =>
 letO (some ((L23.getD 2 .any) : AV)) fun t109 =>
 letO (idx 1 t108 t109) fun t110 =>
 letO (load1 t110 H24) fun t111 =>
 letO (binF Tryd.prog .and 76 t107 t111) fun t112 =>
 ACalls Tryd.prog 48 [t112] H24 fun t113 H25 =>
 letO (some (t113 : AV)) fun t2 =>
 letO (some ((L23.getD 1 .any) : AV)) fun t114 =>
 letO (some (t2 : AV)) fun t115 =>
 letO (literalF Tryd.prog 35 1 [(0, t115)]) fun c26 =>
 appendA 1 8 t114 (.imm 1 true c26) (fun t117 H27 =>
 letO (some (t117 : AV)) fun t16 =>
 letO (some ((L23.getD 2 .any) : AV)) fun t102 =>
 letO (binF Tryd.prog .sub 3 t102 (.int .i64 1)) fun t103 =>
 letO (some (t103 : AV)) fun t17 =>
 I21 [t2, t16, t17] H27 ∧ μ22 [t2, t16, t17] H27 < μ22 L23 H24) H25) (
 letO (some ((L23.getD 1 .any) : AV)) fun t118 =>
 letO (some (t118 : AV)) fun t6 =>
 letO (some ((.int .i64 0) : AV)) fun t7 =>
endK (.tup [t6, t7]) H24 K))))))) H3) H2

theorem W23_ok {x0 x1 x2 : AV} {H : Heap} {K : AV → Heap → Prop} (h : W23 x0 x1 x2 H K) : ACalls Tryd.prog 23 [x0, x1, x2] H K :=
  acallsB (fn := Tryd.f23) (cfg := cfgOf [] [] [(28, [0, 0, 3, 7, 0, 0, 48, 112, 255, 511, 1023])] [] [] []) (hh := (.dir .nil (.dir .nil (.dir (.blk (.dir .nil (.dir .nil (.dir .nil (.dir .nil .nil))))) (.dir .nil (.dir (.blk (.dir .nil (.dir .nil (.dir .nil (.dir .nil .nil))))) (.dir .nil (.dir (.blk (.loop [11] [52, 53, 54, 55, 56, 57, 58, 59, 60, 61, 62, 63, 64, 65, 66, 67, 12, 68, 13, 69, 70, 71, 72, 73, 74, 75, 76, 77, 78, 14, 15, 79, 80, 81, 82, 83, 84, 85, 86, 87, 88, 89, 90, 6, 7, 91, 92, 93, 94, 11] (.dir (.dir .nil .nil) (.blk (.dir .nil (.dir .nil (.dir (.dir .nil (.blk (.loop [13, 74] [75, 76, 77, 78, 14, 15, 79, 80, 81, 82, 83, 84, 85, 86, 13, 87, 74] (.dir .nil (.dir .nil (.cut [13] [76, 77, 78, 14, 15, 79, 80, 81, 82, 83, 84, 85, 86, 13] (.blk (.dir .nil (.dir .nil .nil))) .nil)))))) (.dir (.dir .nil (.dir .nil .nil)) .nil)))))))) (.dir .nil (.dir (.dir .nil (.blk (.loop [2, 16, 17] [100, 101, 104, 105, 106, 107, 108, 109, 110, 111, 112, 113, 2, 114, 115, 116, 117, 16, 102, 103, 17] (.dir (.dir .nil .nil) (.dir .nil .nil))))) .nil)))))))))) follows Tryd.func23 (by kernel_rfl) (Nat.le_of_ble_eq_true (by kernel_rfl)) (by kernel_rfl) h

/-- headword.see.Circles -/
def W25 (x0 : AV) (H : Heap) (K : AV → Heap → Prop) : Prop :=
 letO (cellsOf? x0) fun c1 =>
 letO (some ((.int .i64 0) : AV)) fun t2 =>
 letO (some ((.int .i64 0) : AV)) fun t3 =>
 letO (loadN 2 (.iptr c1) H) fun t7 =>
 ACalls Tryd.prog 49 [t7] H fun t8 H2 =>
 letO (some (t8 : AV)) fun t6 =>
 letO (extrF t6 0) fun t9 =>
 letO (extrF t6 1) fun t10 =>
 letO (some (t9 : AV)) fun t4 =>
 letO (some (t10 : AV)) fun t5 =>
 letO (some (t5 : AV)) fun t11 =>
 letO (binF Tryd.prog .neq 32 t11 (.int .i64 0)) fun t12 =>
 condA t12 true (
 letO (some (t5 : AV)) fun t13 =>
 letO (some ((.int .i64 0) : AV)) fun t2 =>
 letO (some (t13 : AV)) fun t3 =>
endK (.tup [t2, t3]) H2 K) (
 letO (some (t4 : AV)) fun t14 =>
 letO (makeIfc Tryd.prog 110 t14) fun t15 =>
 ACalls Tryd.prog 50 [t15] H2 fun t16 H3 =>
 letO (some (t16 : AV)) fun t2 =>
 letO (some ((.int .i64 0) : AV)) fun t3 =>
endK (.tup [t2, t3]) H3 K)

theorem W25_ok {x0 : AV} {H : Heap} {K : AV → Heap → Prop} (h : W25 x0 H K) : ACalls Tryd.prog 25 [x0] H K :=
  acallsB (fn := Tryd.f25) (cfg := cfgOf [] [] [] [] [] []) (hh := (.dir .nil (.dir .nil (.dir (.dir .nil (.dir .nil .nil)) .nil)))) follows Tryd.func25 (by kernel_rfl) (Nat.le_of_ble_eq_true (by kernel_rfl)) (by kernel_rfl) h

/-- headword.volume.Cut -/
def W26 (x0 : AV) (H : Heap) (K : AV → Heap → Prop) : Prop :=
 letO (cellsOf? x0) fun c1 =>
 letO (some (.nils : AV)) fun t2 =>
 letO (some ((.int .i64 0) : AV)) fun t3 =>
 letO (loadN 3 (.iptr c1) H) fun t10 =>
 ACalls Tryd.prog 27 [t10] H fun t11 H2 =>
 letO (some (t11 : AV)) fun t4 =>
 letO (some (t4 : AV)) fun t12 =>
 letO (binF Tryd.prog .neq 32 t12 (.int .i64 0)) fun t13 =>
 condA t13 true (
 letO (some (t4 : AV)) fun t14 =>
 letO (some (.nils : AV)) fun t2 =>
 letO (some (t14 : AV)) fun t3 =>
endK (.tup [t2, t3]) H2 K) (
 letO (loadN 3 (.iptr c1) H2) fun t15 =>
 ACalls Tryd.prog 51 [t15] H2 fun t16 H3 =>
 letO (some (t16 : AV)) fun t5 =>
 letO (some (.nils : AV)) fun t6 =>
 letO (some ((.int .i64 0) : AV)) fun t7 =>
 true = true ∧ ∃ (I4 : List AV → Heap → Prop) (μ5 : List AV → Heap → Nat), I4 [t7, t6] H3 ∧ ∀ L6 H7, I4 L6 H7 → -- [t7, t6]
 letO (some ((L6.getD 0 .any) : AV)) fun t17 =>
 letO (faddr 0 (.iptr c1)) fun t18 =>
 letO (load1 t18 H7) fun t19 =>
 letO (lenA t19) fun t20 =>
 letO (binF Tryd.prog .lss 3 t17 t20) fun t21 =>
 condA t21 true (
 letO (some (t5 : AV)) fun t23 =>
 letO (some ((L6.getD 0 .any) : AV)) fun t24 =>
 letO (idx 1 t23 t24) fun t25 =>
 letO (load1 t25 H7) fun t26 =>
 letO (assertF Tryd.prog t26 117 true) fun t27 =>
 letO (some (t27 : AV)) fun t22 =>
 letO (extrF t22 0) fun t28 =>
 letO (extrF t22 1) fun t29 =>
 allocA [(.int .i64 0), (.int .i64 0), (.int .i64 0)] (fun t8 H8 =>
 storeA 3 t8 t28 (fun H9 =>
 letO (some (t29 : AV)) fun t9 =>
 letO (some (t9 : AV)) fun t30 =>
 letO (unF .not t30) fun t31 =>
 condA t31 true (
 letO (some (.nils : AV)) fun t2 =>
 letO (some ((.int .i64 12) : AV)) fun t3 =>
endK (.tup [t2, t3]) H9 K) (
 letO (faddr 1 t8) fun t32 =>
 letO (load1 t32 H9) fun t33 =>
 letO (some (t33 : AV)) fun t7 =>
 letO (some ((L6.getD 1 .any) : AV)) fun t34 =>
 letO (some (t7 : AV)) fun t35 =>
 letO (literalF Tryd.prog 35 1 [(0, t35)]) fun c10 =>
 appendA 1 8 t34 (.imm 1 true c10) (fun t37 H11 =>
 letO (some (t37 : AV)) fun t6 =>
 I4 [t7, t6] H11 ∧ μ5 [t7, t6] H11 < μ5 L6 H7) H9)) H8) H7) (
 letO (some ((L6.getD 1 .any) : AV)) fun t38 =>
 letO (some (t38 : AV)) fun t2 =>
 letO (some ((.int .i64 0) : AV)) fun t3 =>
endK (.tup [t2, t3]) H7 K))

theorem W26_ok {x0 : AV} {H : Heap} {K : AV → Heap → Prop} (h : W26 x0 H K) : ACalls Tryd.prog 26 [x0] H K :=
  acallsB (fn := Tryd.f26) (cfg := cfgOf [] [] [] [] [] []) (hh := (.dir .nil (.dir (.dir .nil (.dir .nil (.dir .nil .nil))) (.dir .nil (.dir .nil (.dir (.dir .nil (.blk (.loop [7, 6] [17, 18, 19, 20, 21, 23, 24, 25, 26, 27, 22, 28, 29, 8, 9, 30, 31, 2, 3, 32, 33, 7, 34, 35, 36, 37, 6] (.dir (.dir .nil .nil) (.blk (.dir .nil (.dir (.dir .nil (.dir .nil .nil)) .nil))))))) .nil)))))) follows Tryd.func26 (by kernel_rfl) (Nat.le_of_ble_eq_true (by kernel_rfl)) (by kernel_rfl) h

/-- headword.volume.Check -/
def W27 (x0 : AV) (H : Heap) (K : AV → Heap → Prop) : Prop :=
 letO (cellsOf? x0) fun c1 =>
 letO (some ((.int .i64 0) : AV)) fun t2 =>
 letO (faddr 0 (.iptr c1)) fun t6 =>
 letO (load1 t6 H) fun t7 =>
 letO (lenA t7) fun t8 =>
 letO (binF Tryd.prog .eql 3 t8 (.int .i64 0)) fun t9 =>
 letO (some (t9 : AV)) fun t5 =>
 condA t5 true (
 letO (some ((.int .i64 4) : AV)) fun t2 =>
endK t2 H K) (
 letO (faddr 0 (.iptr c1)) fun t11 =>
 letO (load1 t11 H) fun t12 =>
 letO (lenA t12) fun t13 =>
 letO (binF Tryd.prog .gtr 3 t13 (.int .i64 12)) fun t14 =>
 letO (some (t14 : AV)) fun t10 =>
 condA t10 true (
 letO (some ((.int .i64 3) : AV)) fun t2 =>
endK t2 H K) (
 letO (faddr 0 (.iptr c1)) fun t15 =>
 letO (load1 t15 H) fun t16 =>
 letO (lenA t16) fun t17 =>
 letO (some ((.int .i64 0) : AV)) fun t18 =>
 true = true ∧ ∃ (I2 : List AV → Heap → Prop) (μ3 : List AV → Heap → Nat), I2 [t18] H ∧ ∀ L4 H5, I2 L4 H5 → -- [t18]
 letO (binF Tryd.prog .lss 3 (L4.getD 0 .any) t17) fun t19 =>
 condA t19 true (
 letO (idx 2 t16 (L4.getD 0 .any)) fun t20 =>
 letO (loadN 2 t20 H5) fun t21 =>
 allocA [(.int .i64 0), (.int .i64 0)] (fun t4 H6 =>
 storeA 2 t4 t21 (fun H7 =>
 letO (faddr 0 t4) fun t23 =>
 letO (load1 t23 H7) fun t24 =>
 letO (faddr 1 t4) fun t25 =>
 letO (load1 t25 H7) fun t26 =>
 letO (min2F t24 t26) fun t27 =>
 letO (binF Tryd.prog .lss 3 t27 (.int .i64 1)) fun t28 =>
 letO (some (t28 : AV)) fun t29 =>
 letO (gval t29 false (faddr 0 t4)) fun t30 =>
 letO (gval t29 false (load1 t30 H7)) fun t31 =>
 letO (gval t29 false (faddr 1 t4)) fun t32 =>
 letO (gval t29 false (load1 t32 H7)) fun t33 =>
 letO (gval t29 false (max2F t31 t33)) fun t34 =>
 letO (gval t29 false (binF Tryd.prog .gtr 3 t34 (.int .i64 30))) fun t35 =>
 letO (pickF t29 (.bool true) t35) fun t36 =>
 letO (some (t36 : AV)) fun t22 =>
 condA t22 true (
 letO (some ((.int .i64 1) : AV)) fun t2 =>
endK t2 H7 K) (
 letO (faddr 0 t4) fun t38 =>
 letO (load1 t38 H7) fun t39 =>
 letO (faddr 1 t4) fun t40 =>
 letO (load1 t40 H7) fun t41 =>
 letO (binF Tryd.prog .gtr 3 t39 t41) fun t42 =>
 letO (some (t42 : AV)) fun t37 =>
 condA t37 true (
 letO (some ((.int .i64 7) : AV)) fun t2 =>
endK t2 H7 K) (
 letO (binF Tryd.prog .add 3 (L4.getD 0 .any) (.int .i64 1)) fun t43 =>
 letO (some (t43 : AV)) fun t18 =>
 I2 [t18] H7 ∧ μ3 [t18] H7 < μ3 L4 H5))) H6) H5) (
 letO (faddr 1 (.iptr c1)) fun t44 =>
 letO (load1 t44 H5) fun t45 =>
 letO (binF Tryd.prog .lss 3 t45 (.int .i64 1)) fun t46 =>
 letO (some (t46 : AV)) fun t47 =>
 letO (gval t47 false (faddr 1 (.iptr c1))) fun t48 =>
 letO (gval t47 false (load1 t48 H5)) fun t49 =>
 letO (gval t47 false (binF Tryd.prog .gtr 3 t49 (.int .i64 100))) fun t50 =>
 letO (pickF t47 (.bool true) t50) fun t51 =>
 letO (some (t51 : AV)) fun t52 =>
 letO (gval t52 false (faddr 2 (.iptr c1))) fun t53 =>
 letO (gval t52 false (load1 t53 H5)) fun t54 =>
 letO (gval t52 false (binF Tryd.prog .lss 3 t54 (.int .i64 0))) fun t55 =>
 letO (pickF t52 (.bool true) t55) fun t56 =>
 letO (some (t56 : AV)) fun t57 =>
 letO (gval t57 false (faddr 2 (.iptr c1))) fun t58 =>
 letO (gval t57 false (load1 t58 H5)) fun t59 =>
 letO (gval t57 false (faddr 1 (.iptr c1))) fun t60 =>
 letO (gval t57 false (load1 t60 H5)) fun t61 =>
 letO (gval t57 false (binF Tryd.prog .gtr 3 t59 t61)) fun t62 =>
 letO (pickF t57 (.bool true) t62) fun t63 =>
 condA t63 true (
 letO (some ((.int .i64 1) : AV)) fun t2 =>
endK t2 H5 K) (
 letO (some ((.int .i64 0) : AV)) fun t2 =>
endK t2 H5 K))))

theorem W27_ok {x0 : AV} {H : Heap} {K : AV → Heap → Prop} (h : W27 x0 H K) : ACalls Tryd.prog 27 [x0] H K :=
  acallsB (fn := Tryd.f27) (cfg := cfgOf [] [] [] [] [] []) (hh := (.dir .nil (.dir (.blk (.dir .nil (.dir .nil (.dir .nil (.dir .nil .nil))))) (.dir (.dir .nil (.blk (.loop [18] [19, 20, 21, 4, 23, 24, 25, 26, 27, 28, 29, 30, 31, 32, 33, 34, 35, 36, 22, 2, 38, 39, 40, 41, 42, 37, 43, 18] (.dir .nil (.dir .nil (.dir (.blk (.dir .nil (.blk (.dir .nil (.dir .nil (.dir .nil (.dir .nil .nil))))))) .nil)))))) (.dir (.dir .nil (.dir .nil .nil)) .nil))))) follows Tryd.func27 (by kernel_rfl) (Nat.le_of_ble_eq_true (by kernel_rfl)) (by kernel_rfl) h

/-- headword.headwordtop.volumesWork -/
def W28 (H : Heap) (K : AV → Heap → Prop) : Prop :=
 letO (some ((.bool false) : AV)) fun t0 =>
 letO (buildF Tryd.prog 67 [(0, (.int .i64 1)), (1, (.int .i64 3))]) fun t4 =>
 letO (buildF Tryd.prog 67 [(0, (.int .i64 1)), (1, (.int .i64 4))]) fun t5 =>
 letO (buildF Tryd.prog 67 [(0, (.int .i64 1)), (1, (.int .i64 2))]) fun t6 =>
 letO (literalF Tryd.prog 62 3 [(0, t4), (1, t5), (2, t6)]) fun c1 =>
 letO (buildF Tryd.prog 64 [(0, (.imm 3 true c1)), (1, (.int .i64 7))]) fun t8 =>
 ACalls Tryd.prog 52 [t8, (.int .i64 2)] H fun t9 H2 =>
 letO (some (t9 : AV)) fun t3 =>
 letO (extrF t3 0) fun t10 =>
 letO (extrF t3 1) fun t11 =>
 letO (some (t10 : AV)) fun t1 =>
 letO (some (t11 : AV)) fun t2 =>
 letO (some (t2 : AV)) fun t12 =>
 letO (binF Tryd.prog .eql 32 t12 (.int .i64 0)) fun t13 =>
 letO (some (t13 : AV)) fun t14 =>
 letO (gval t14 true (some (t1 : AV))) fun t15 =>
 letO (gval t14 true (binF Tryd.prog .eql 3 t15 (.int .i64 6))) fun t16 =>
 letO (pickF t14 t16 (.bool false)) fun t17 =>
 letO (some (t17 : AV)) fun t18 =>
 ∃ J3 : AV → Heap → Prop, condG t18 true (ACalls Tryd.prog 22 [] H2 fun t19 H4 =>
 J3 t19 H4) (J3 (.tup []) H2) ∧ ∀ t19 H5, J3 t19 H5 →
 letO (pickF t18 t19 (.bool false)) fun t20 =>
 letO (some (t20 : AV)) fun t0 =>
endK t0 H5 K

theorem W28_ok {H : Heap} {K : AV → Heap → Prop} (h : W28 H K) : ACalls Tryd.prog 28 [] H K :=
  acallsB (fn := Tryd.f28) (cfg := cfgOf [] [] [] [] [] []) (hh := (.dir .nil (.dir .nil .nil))) follows Tryd.func28 (by kernel_rfl) (Nat.le_of_ble_eq_true (by kernel_rfl)) (by kernel_rfl) h

/-- headword.volume.Safe -/
def W29 (x0 x1 : AV) (H : Heap) (K : AV → Heap → Prop) : Prop :=
 letO (cellsOf? x0) fun c1 =>
 letO (some ((.int .i64 0) : AV)) fun t4 =>
 letO (loadN 3 (.iptr c1) H) fun t6 =>
 letO (some (x1 : AV)) fun t7 =>
 ACalls Tryd.prog 53 [t6, t7] H fun t8 H2 =>
 letO (some (t8 : AV)) fun t5 =>
 true = true ∧ ∃ J3 : List AV → Heap → Prop, (
 letO (some (t5 : AV)) fun t9 =>
 letO (binF Tryd.prog .eql 32 t9 (.int .i64 0)) fun t10 =>
 letO (some (t10 : AV)) fun t11 =>
 letO (gval t11 true (loadN 3 (.iptr c1) H2)) fun t12 =>
 ∃ J4 : AV → Heap → Prop, condG t11 true (ACalls Tryd.prog 54 [t12, (.fn 55 [])] H2 fun t13 H5 =>
 J4 t13 H5) (J4 (.tup []) H2) ∧ ∀ t13 H6, J4 t13 H6 →
 letO (gval t11 true (some (x1 : AV))) fun t14 =>
 letO (gval t11 true (some (AV.fn 57 [(.iptr c1)]))) fun t15 =>
 ∃ J7 : AV → Heap → Prop, condG t11 true (ACalls Tryd.prog 56 [t13, t14, t15] H6 fun t16 H8 =>
 J7 t16 H8) (J7 (.tup []) H6) ∧ ∀ t16 H9, J7 t16 H9 →
 letO (gval t11 true (binF Tryd.prog .geq 3 t16 (.int .i64 0))) fun t17 =>
 letO (pickF t11 t17 (.bool false)) fun t18 =>
 condA t18 true (
 letO (some ((.int .i64 21) : AV)) fun t5 =>
 J3 [t5] H9) (
 J3 [t5] H9)) ∧ ∀ L10 H11, J3 L10 H11 → -- [t5]
 letO (some ((L10.getD 0 .any) : AV)) fun t19 =>
 letO (some (t19 : AV)) fun t4 =>
endK t4 H11 K

theorem W29_ok {x0 x1 : AV} {H : Heap} {K : AV → Heap → Prop} (h : W29 x0 x1 H K) : ACalls Tryd.prog 29 [x0, x1] H K :=
  acallsB (fn := Tryd.f29) (cfg := cfgOf [] [] [] [] [] []) (hh := (.dir .nil (.dir .nil (.cut [5] [9, 10, 11, 12, 13, 14, 15, 16, 17, 18, 5] (.dir .nil .nil) .nil)))) follows Tryd.func29 (by kernel_rfl) (Nat.le_of_ble_eq_true (by kernel_rfl)) (by kernel_rfl) h

/-- headword.stand.Check -/
def W43 (x0 : AV) (H : Heap) (K : AV → Heap → Prop) : Prop :=
 letO (cellsOf? x0) fun c1 =>
 letO (some ((.int .i64 0) : AV)) fun t2 =>
 letO (faddr 0 (.iptr c1)) fun t4 =>
 letO (load1 t4 H) fun t5 =>
 letO (binF Tryd.prog .lss 3 t5 (.int .i64 1)) fun t6 =>
 letO (some (t6 : AV)) fun t7 =>
 letO (gval t7 false (faddr 0 (.iptr c1))) fun t8 =>
 letO (gval t7 false (load1 t8 H)) fun t9 =>
 letO (gval t7 false (binF Tryd.prog .gtr 3 t9 (.int .i64 5))) fun t10 =>
 letO (pickF t7 (.bool true) t10) fun t11 =>
 letO (some (t11 : AV)) fun t3 =>
 condA t3 true (
 letO (some ((.int .i64 1) : AV)) fun t2 =>
endK t2 H K) (
 letO (faddr 1 (.iptr c1)) fun t13 =>
 letO (load1 t13 H) fun t14 =>
 letO (lenA t14) fun t15 =>
 letO (binF Tryd.prog .gtr 3 t15 (.int .i64 12)) fun t16 =>
 letO (some (t16 : AV)) fun t12 =>
 condA t12 true (
 letO (some ((.int .i64 3) : AV)) fun t2 =>
endK t2 H K) (
 letO (faddr 1 (.iptr c1)) fun t18 =>
 letO (load1 t18 H) fun t19 =>
 ACalls Tryd.prog 69 [t19, (.fn 70 [])] H fun t20 H2 =>
 letO (some (t20 : AV)) fun t17 =>
 condA t17 true (
 letO (some ((.int .i64 2) : AV)) fun t2 =>
endK t2 H2 K) (
 letO (some ((.int .i64 0) : AV)) fun t2 =>
endK t2 H2 K)))

theorem W43_ok {x0 : AV} {H : Heap} {K : AV → Heap → Prop} (h : W43 x0 H K) : ACalls Tryd.prog 43 [x0] H K :=
  acallsB (fn := Tryd.f43) (cfg := cfgOf [] [] [] [] [] []) (hh := (.dir .nil (.dir (.blk (.dir .nil (.dir .nil (.dir .nil (.dir .nil (.dir .nil (.dir .nil .nil))))))) .nil))) follows Tryd.func43 (by kernel_rfl) (Nat.le_of_ble_eq_true (by kernel_rfl)) (by kernel_rfl) h

/-- (*headword.stand.table).least -/
def W44 (x0 x1 x2 : AV) (H : Heap) (K : AV → Heap → Prop) : Prop :=
 letO (cellsOf? x2) fun c1 =>
 allocA [(.int .i64 0), (.int .i64 0)] (fun t6 H2 =>
 letO (some (x1 : AV)) fun t13 =>
 letO (some (x0 : AV)) fun t14 =>
 letO (nilF t14) fun t15 =>
 letO (faddr 0 t15) fun t16 =>
 letO (faddr 1 t16) fun t17 =>
 letO (load1 t17 H2) fun t18 =>
 letO (lenA t18) fun t19 =>
 letO (binF Tryd.prog .eql 3 t13 t19) fun t20 =>
 condA t20 true (
 letO (buildF Tryd.prog 96 [(1, (.int .i64 1))]) fun t21 =>
 storeA 2 t6 t21 (fun H3 =>
 letO (loadN 2 t6 H3) fun r4 => endK r4 H3 K) H2) (
 true = true ∧
 letO (some (x0 : AV)) fun t22 =>
 letO (some (x1 : AV)) fun t23 =>
 letO (faddr 0 (.iptr c1)) fun t24 =>
 letO (load1 t24 Heap.none) fun t25 =>
 letO (nilF t22) fun t26 =>
 letO (faddr 2 t26) fun t27 =>
 letO (idxArr 12 128 t27 t23) fun t28 =>
 letO (idxArr 64 2 t28 t25) fun t29 =>
 letO (loadN 2 t29 H2) fun t30 =>
 allocA [(.int .i64 0), (.int .i64 0)] (fun t7 H5 =>
 storeA 2 t7 t30 (fun H6 =>
 letO (loadN 2 t7 H6) fun t31 =>
 letO (buildF Tryd.prog 96 []) fun t32 =>
 letO (binF Tryd.prog .neq 96 t31 t32) fun t33 =>
 condA t33 true (
 letO (loadN 2 t7 H6) fun t34 =>
 storeA 2 t6 t34 (fun H7 =>
 letO (loadN 2 t6 H7) fun r8 => endK r8 H7 K) H6) (
 letO (some (x0 : AV)) fun t35 =>
 letO (nilF t35) fun t36 =>
 letO (faddr 0 t36) fun t37 =>
 letO (faddr 1 t37) fun t38 =>
 letO (load1 t38 H6) fun t39 =>
 letO (some (x1 : AV)) fun t40 =>
 letO (idx 1 t39 t40) fun t41 =>
 letO (load1 t41 H6) fun t42 =>
 letO (some (t42 : AV)) fun t8 =>
 allocA [(.int .i64 0), (.int .i64 0)] (fun t9 H9 =>
 true = true ∧ ∃ J10 : List AV → Heap → Prop, (
 letO (faddr 0 (.iptr c1)) fun t89 =>
 letO (load1 t89 H9) fun t90 =>
 letO (some (t8 : AV)) fun t91 =>
 letO (binF Tryd.prog .shr 76 t90 t91) fun t92 =>
 letO (binF Tryd.prog .and 76 t92 (.int .u64 1)) fun t93 =>
 letO (binF Tryd.prog .eql 76 t93 (.int .u64 1)) fun t94 =>
 letO (some (t94 : AV)) fun t88 =>
 condA t88 true (
 letO (some (x0 : AV)) fun t95 =>
 letO (some (x1 : AV)) fun t96 =>
 letO (binF Tryd.prog .add 3 t96 (.int .i64 1)) fun t97 =>
 letO (loadN 1 (.iptr c1) H9) fun t98 =>
 ACalls Tryd.prog 44 [t95, t97, t98] H9 fun t99 H11 =>
 storeA 2 t9 t99 (fun H12 =>
 J10 [] H12) H11) (
 true = true ∧
 letO (loadN 1 (.iptr c1) Heap.none) fun t101 =>
 letO (some (t8 : AV)) fun t102 =>
 letO (some (x0 : AV)) fun t103 =>
 letO (nilF t103) fun t104 =>
 letO (faddr 0 t104) fun t105 =>
 letO (faddr 0 t105) fun t106 =>
 letO (load1 t106 H9) fun t107 =>
 ACalls Tryd.prog 71 [t101, t102, t107] H9 fun t108 H13 =>
 letO (unF .not t108) fun t109 =>
 letO (some (t109 : AV)) fun t100 =>
 condA t100 true (
 letO (some (x0 : AV)) fun t110 =>
 letO (some (x1 : AV)) fun t111 =>
 letO (binF Tryd.prog .add 3 t111 (.int .i64 1)) fun t112 =>
 letO (loadN 1 (.iptr c1) H13) fun t113 =>
 letO (some (t8 : AV)) fun t114 =>
 ACalls Tryd.prog 72 [t113, t114, (.int .i64 (-1))] H13 fun t115 H14 =>
 ACalls Tryd.prog 44 [t110, t112, t115] H14 fun t116 H15 =>
 storeA 2 t9 t116 (fun H16 =>
 letO (faddr 0 t9) fun t117 =>
 letO (load1 t117 H16) fun t118 =>
 letO (binF Tryd.prog .add 3 t118 (.int .i64 1)) fun t119 =>
 letO (faddr 0 t9) fun t120 =>
 storeA 1 t120 t119 (fun H17 =>
 J10 [] H17) H16) H15) (
 letO (faddr 0 (.iptr c1)) fun t43 =>
 letO (load1 t43 H13) fun t44 =>
 ACalls Tryd.prog 73 [t44] H13 fun t45 H18 =>
 letO (lenA t45) fun t46 =>
 letO (some ((.int .i64 0) : AV)) fun t47 =>
 true = true ∧ ∃ (I19 : List AV → Heap → Prop) (μ20 : List AV → Heap → Nat), I19 [t47] H18 ∧ ∀ L21 H22, I19 L21 H22 → -- [t47]
 letO (binF Tryd.prog .lss 3 (L21.getD 0 .any) t46) fun t48 =>
 condA t48 true (
 true = true ∧ ∃ J23 : List AV → Heap → Prop, (
 letO (idx 1 t45 (L21.getD 0 .any)) fun t49 =>
 letO (load1 t49 H22) fun t50 =>
 letO (some (t50 : AV)) fun t11 =>
 letO (some (x0 : AV)) fun t51 =>
 letO (some (x1 : AV)) fun t52 =>
 letO (binF Tryd.prog .add 3 t52 (.int .i64 1)) fun t53 =>
 letO (loadN 1 (.iptr c1) H22) fun t54 =>
 letO (some (t8 : AV)) fun t55 =>
 letO (some (t11 : AV)) fun t56 =>
 ACalls Tryd.prog 72 [t54, t55, t56] H22 fun t57 H24 =>
 ACalls Tryd.prog 44 [t51, t53, t57] H24 fun t58 H25 =>
 allocA [(.int .i64 0), (.int .i64 0)] (fun t12 H26 =>
 storeA 2 t12 t58 (fun H27 =>
 letO (faddr 0 t12) fun t59 =>
 letO (load1 t59 H27) fun t60 =>
 letO (binF Tryd.prog .add 3 t60 (.int .i64 1)) fun t61 =>
 letO (faddr 0 t12) fun t62 =>
 storeA 1 t62 t61 (fun H28 =>
 letO (loadN 2 t9 H28) fun t64 =>
 letO (buildF Tryd.prog 96 []) fun t65 =>
 letO (binF Tryd.prog .eql 96 t64 t65) fun t66 =>
 letO (some (t66 : AV)) fun t67 =>
 letO (gval t67 false (faddr 0 t12)) fun t68 =>
 letO (gval t67 false (load1 t68 H28)) fun t69 =>
 letO (gval t67 false (faddr 0 t9)) fun t70 =>
 letO (gval t67 false (load1 t70 H28)) fun t71 =>
 letO (gval t67 false (binF Tryd.prog .lss 3 t69 t71)) fun t72 =>
 letO (pickF t67 (.bool true) t72) fun t73 =>
 letO (some (t73 : AV)) fun t63 =>
 condA t63 true (
 letO (loadN 2 t12 H28) fun t74 =>
 storeA 2 t9 t74 (fun H29 =>
 J23 [] H29) H28) (
 letO (faddr 0 t12) fun t76 =>
 letO (load1 t76 H28) fun t77 =>
 letO (faddr 0 t9) fun t78 =>
 letO (load1 t78 H28) fun t79 =>
 letO (binF Tryd.prog .eql 3 t77 t79) fun t80 =>
 letO (some (t80 : AV)) fun t75 =>
 condA t75 true (
 letO (faddr 1 t9) fun t81 =>
 letO (load1 t81 H28) fun t82 =>
 letO (faddr 1 t12) fun t83 =>
 letO (load1 t83 H28) fun t84 =>
 letO (binF Tryd.prog .add 3 t82 t84) fun t85 =>
 letO (faddr 1 t9) fun t86 =>
 storeA 1 t86 t85 (fun H30 =>
 J23 [] H30) H28) (
 J23 [] H28))) H27) H26) H25) ∧ ∀ L31 H32, J23 L31 H32 → -- []
 letO (binF Tryd.prog .add 3 (L21.getD 0 .any) (.int .i64 1)) fun t87 =>
 letO (some (t87 : AV)) fun t47 =>
 I19 [t47] H32 ∧ μ20 [t47] H32 < μ20 L21 H22) (
 J10 [] H22)))) ∧ ∀ L33 H34, J10 L33 H34 → -- []
 true = true ∧
 letO (some (x0 : AV)) fun t121 =>
 letO (some (x1 : AV)) fun t122 =>
 letO (faddr 0 (.iptr c1)) fun t123 =>
 letO (load1 t123 Heap.none) fun t124 =>
 letO (loadN 2 t9 H34) fun t125 =>
 letO (nilF t121) fun t126 =>
 letO (faddr 2 t126) fun t127 =>
 letO (idxArr 12 128 t127 t122) fun t128 =>
 letO (idxArr 64 2 t128 t124) fun t129 =>
 storeA 2 t129 t125 (fun H35 =>
 letO (loadN 2 t9 H35) fun t130 =>
 storeA 2 t6 t130 (fun H36 =>
 letO (loadN 2 t6 H36) fun r37 => endK r37 H36 K) H35) H34) H6)) H5) H2)) H

theorem W44_ok {x0 x1 x2 : AV} {H : Heap} {K : AV → Heap → Prop} (h : W44 x0 x1 x2 H K) : ACalls Tryd.prog 44 [x0, x1, x2] H K :=
  acallsB (fn := Tryd.f44) (cfg := cfgOf [] [25, 101, 124] [(3, [0, 0, 0, 4, 1, 17, 51, 127, 255, 0, 1023]), (20, [0, 0, 0, 4, 12, 28, 60, 127, 255, 511]), (23, [0, 0, 0, 4, 0, 1, 33, 99, 255, 511])] [] [] []) (hh := (.dir .nil (.dir (.dir .nil (.dir .nil .nil)) (.dir (.dir .nil (.dir .nil (.dir .nil .nil))) (.dir .nil (.dir .nil (.cut [] [89, 90, 91, 92, 93, 94, 88, 95, 96, 97, 98, 99, 101, 102, 103, 104, 105, 106, 107, 108, 109, 100, 110, 111, 112, 113, 114, 115, 116, 117, 118, 119, 120, 43, 44, 45, 46, 47, 48, 49, 50, 11, 51, 52, 53, 54, 55, 56, 57, 58, 12, 59, 60, 61, 62, 64, 65, 66, 67, 68, 69, 70, 71, 72, 73, 63, 74, 76, 77, 78, 79, 80, 75, 81, 82, 83, 84, 85, 86, 87] (.blk (.dir .nil (.dir .nil (.dir .nil (.dir .nil (.dir .nil (.blk (.loop [47] [48, 49, 50, 11, 51, 52, 53, 54, 55, 56, 57, 58, 12, 59, 60, 61, 62, 64, 65, 66, 67, 68, 69, 70, 71, 72, 73, 63, 74, 76, 77, 78, 79, 80, 75, 81, 82, 83, 84, 85, 86, 87, 47] (.dir .nil (.dir .nil (.cut [] [49, 50, 11, 51, 52, 53, 54, 55, 56, 57, 58, 12, 59, 60, 61, 62, 64, 65, 66, 67, 68, 69, 70, 71, 72, 73, 63, 74, 76, 77, 78, 79, 80, 75, 81, 82, 83, 84, 85, 86] (.blk (.dir .nil (.dir .nil (.dir .nil (.blk (.dir .nil (.dir .nil (.dir .nil .nil)))))))) .nil))))))))))) (.dir .nil .nil)))))))) follows Tryd.func44 (by kernel_rfl) (Nat.le_of_ble_eq_true (by kernel_rfl)) (by kernel_rfl) h

/-- (headword.stand.Job).spans -/
def W45 (x0 : AV) (H : Heap) (K : AV → Heap → Prop) : Prop :=
 letO (cellsOf? x0) fun c1 =>
 letO (some (.nils : AV)) fun t2 =>
 letO (some (.nils : AV)) fun t3 =>
 letO (faddr 1 (.iptr c1)) fun t7 =>
 letO (load1 t7 H) fun t8 =>
 letO (lenA t8) fun t9 =>
 letO (some ((.int .i64 0) : AV)) fun t10 =>
 true = true ∧ ∃ (I2 : List AV → Heap → Prop) (μ3 : List AV → Heap → Nat), I2 [t3, t10] H ∧ ∀ L4 H5, I2 L4 H5 → -- [t3, t10]
 letO (binF Tryd.prog .lss 3 (L4.getD 1 .any) t9) fun t11 =>
 condA t11 true (
 true = true ∧ ∃ J6 : List AV → Heap → Prop, (
 letO (some ((L4.getD 1 .any) : AV)) fun t12 =>
 letO (idx 1 t8 (L4.getD 1 .any)) fun t13 =>
 letO (load1 t13 H5) fun t14 =>
 letO (some (t12 : AV)) fun t4 =>
 letO (some (t14 : AV)) fun t5 =>
 letO (loadN 2 (.iptr c1) H5) fun t15 =>
 letO (some (t5 : AV)) fun t16 =>
 letO (some (t4 : AV)) fun t17 =>
 letO (binF Tryd.prog .add 3 t17 (.int .i64 1)) fun t18 =>
 ACalls Tryd.prog 74 [t15, t16, t18] H5 fun t19 H7 =>
 letO (some (t19 : AV)) fun t6 =>
 letO (some (t6 : AV)) fun t20 =>
 letO (binF Tryd.prog .lss 3 t20 (.int .i64 12)) fun t21 =>
 condA t21 true (
 letO (some ((L4.getD 0 .any) : AV)) fun t22 =>
 letO (some (t4 : AV)) fun t23 =>
 letO (some (t6 : AV)) fun t24 =>
 letO (buildF Tryd.prog 30 [(0, t23), (1, t24)]) fun t25 =>
 letO (literalF Tryd.prog 24 1 [(0, t25)]) fun c8 =>
 appendA 2 16 t22 (.imm 1 true c8) (fun t27 H9 =>
 letO (some (t27 : AV)) fun t3 =>
 J6 [t3] H9) H7) (
 J6 [(L4.getD 0 .any)] H7)) ∧ ∀ L10 H11, J6 L10 H11 → -- [t3]
 letO (binF Tryd.prog .add 3 (L4.getD 1 .any) (.int .i64 1)) fun t28 =>
 letO (some (t28 : AV)) fun t10 =>
 I2 [(L10.getD 0 .any), t10] H11 ∧ μ3 [(L10.getD 0 .any), t10] H11 < μ3 L4 H5) (
 letO (some ((L4.getD 0 .any) : AV)) fun t29 =>
 letO (some (t29 : AV)) fun t2 =>
endK t2 H5 K)

theorem W45_ok {x0 : AV} {H : Heap} {K : AV → Heap → Prop} (h : W45 x0 H K) : ACalls Tryd.prog 45 [x0] H K :=
  acallsB (fn := Tryd.f45) (cfg := cfgOf [] [] [] [] [] []) (hh := (.dir .nil (.dir .nil (.dir (.dir .nil (.blk (.loop [3, 10] [11, 12, 13, 14, 4, 5, 15, 16, 17, 18, 19, 6, 20, 21, 22, 23, 24, 25, 26, 27, 3, 28, 10] (.dir .nil (.dir .nil (.cut [3] [12, 13, 14, 4, 5, 15, 16, 17, 18, 19, 6, 20, 21, 22, 23, 24, 25, 26, 27, 3] (.blk (.dir .nil (.dir .nil (.dir .nil .nil)))) .nil)))))) .nil)))) follows Tryd.func45 (by kernel_rfl) (Nat.le_of_ble_eq_true (by kernel_rfl)) (by kernel_rfl) h

/-- headword.reign.Check -/
def W46 (x0 : AV) (H : Heap) (K : AV → Heap → Prop) : Prop :=
 letO (some ((.int .i64 0) : AV)) fun t2 =>
 letO (some (x0 : AV)) fun t6 =>
 letO (lenA t6) fun t7 =>
 letO (binF Tryd.prog .eql 3 t7 (.int .i64 0)) fun t8 =>
 letO (some (t8 : AV)) fun t5 =>
 condA t5 true (
 letO (some ((.int .i64 4) : AV)) fun t2 =>
endK t2 H K) (
 letO (some (x0 : AV)) fun t10 =>
 letO (lenA t10) fun t11 =>
 letO (binF Tryd.prog .gtr 3 t11 (.int .i64 8)) fun t12 =>
 letO (some (t12 : AV)) fun t9 =>
 condA t9 true (
 letO (some ((.int .i64 3) : AV)) fun t2 =>
endK t2 H K) (
 letO (some (x0 : AV)) fun t13 =>
 letO (lenA t13) fun t14 =>
 letO (some ((.int .i64 0) : AV)) fun t15 =>
 true = true ∧ ∃ (I1 : List AV → Heap → Prop) (μ2 : List AV → Heap → Nat), I1 [t15] H ∧ ∀ L3 H4, I1 L3 H4 → -- [t15]
 letO (binF Tryd.prog .lss 3 (L3.getD 0 .any) t14) fun t16 =>
 condA t16 true (
 letO (idx 2 t13 (L3.getD 0 .any)) fun t17 =>
 letO (loadN 2 t17 H4) fun t18 =>
 allocA [(.int .i64 0), (.int .i64 0)] (fun t4 H5 =>
 storeA 2 t4 t18 (fun H6 =>
 letO (faddr 0 t4) fun t19 =>
 letO (load1 t19 H6) fun t20 =>
 letO (binF Tryd.prog .lss 3 t20 (.int .i64 0)) fun t21 =>
 letO (some (t21 : AV)) fun t22 =>
 letO (gval t22 false (faddr 0 t4)) fun t23 =>
 letO (gval t22 false (load1 t23 H6)) fun t24 =>
 letO (gval t22 false (binF Tryd.prog .gtr 3 t24 (.int .i64 100))) fun t25 =>
 letO (pickF t22 (.bool true) t25) fun t26 =>
 letO (some (t26 : AV)) fun t27 =>
 letO (gval t27 false (faddr 1 t4)) fun t28 =>
 letO (gval t27 false (load1 t28 H6)) fun t29 =>
 letO (gval t27 false (binF Tryd.prog .lss 3 t29 (.int .i64 1))) fun t30 =>
 letO (pickF t27 (.bool true) t30) fun t31 =>
 letO (some (t31 : AV)) fun t32 =>
 letO (gval t32 false (faddr 1 t4)) fun t33 =>
 letO (gval t32 false (load1 t33 H6)) fun t34 =>
 letO (gval t32 false (binF Tryd.prog .gtr 3 t34 (.int .i64 9))) fun t35 =>
 letO (pickF t32 (.bool true) t35) fun t36 =>
 condA t36 true (
 letO (some ((.int .i64 1) : AV)) fun t2 =>
endK t2 H6 K) (
 letO (binF Tryd.prog .add 3 (L3.getD 0 .any) (.int .i64 1)) fun t37 =>
 letO (some (t37 : AV)) fun t15 =>
 I1 [t15] H6 ∧ μ2 [t15] H6 < μ2 L3 H4)) H5) H4) (
 letO (some ((.int .i64 0) : AV)) fun t2 =>
endK t2 H4 K)))

theorem W46_ok {x0 : AV} {H : Heap} {K : AV → Heap → Prop} (h : W46 x0 H K) : ACalls Tryd.prog 46 [x0] H K :=
  acallsB (fn := Tryd.f46) (cfg := cfgOf [] [] [] [] [] []) (hh := (.dir .nil (.dir (.blk (.dir .nil (.dir .nil (.dir .nil (.dir .nil .nil))))) (.dir (.dir .nil (.blk (.loop [15] [16, 17, 18, 4, 19, 20, 21, 22, 23, 24, 25, 26, 27, 28, 29, 30, 31, 32, 33, 34, 35, 36, 2, 37, 15] (.dir .nil (.dir .nil (.dir (.blk (.dir .nil (.dir .nil (.dir .nil .nil)))) .nil)))))) .nil)))) follows Tryd.func46 (by kernel_rfl) (Nat.le_of_ble_eq_true (by kernel_rfl)) (by kernel_rfl) h

/-- (headword.see.web).set -/
def W47 (x0 x1 : AV) (H : Heap) (K : AV → Heap → Prop) : Prop :=
 letO (cellsOf? x0) fun c1 =>
 letO (some ((.int .u64 0) : AV)) fun t4 =>
 letO (some ((.int .i64 0) : AV)) fun t5 =>
 letO (some ((.int .u64 0) : AV)) fun t6 =>
 letO (some ((.int .i64 (-1)) : AV)) fun t7 =>
 letO (some (x1 : AV)) fun t10 =>
 letO (lenA t10) fun t11 =>
 letO (some ((.int .i64 0) : AV)) fun t12 =>
 true = true ∧ ∃ (I2 : List AV → Heap → Prop) (μ3 : List AV → Heap → Nat), I2 [t7, t6, t12] H ∧ ∀ L4 H5, I2 L4 H5 → -- [t7, t6, t12]
 letO (binF Tryd.prog .lss 3 (L4.getD 2 .any) t11) fun t13 =>
 condA t13 true (
 letO (idx 1 t10 (L4.getD 2 .any)) fun t14 =>
 letO (load1 t14 H5) fun t15 =>
 letO (some (t15 : AV)) fun t9 =>
 letO (some (t9 : AV)) fun t17 =>
 letO (binF Tryd.prog .lss 3 t17 (.int .i64 0)) fun t18 =>
 letO (some (t18 : AV)) fun t19 =>
 letO (gval t19 false (some (t9 : AV))) fun t20 =>
 letO (gval t19 false (faddr 0 (.iptr c1))) fun t21 =>
 letO (gval t19 false (load1 t21 H5)) fun t22 =>
 letO (gval t19 false (binF Tryd.prog .geq 3 t20 t22)) fun t23 =>
 letO (pickF t19 (.bool true) t23) fun t24 =>
 letO (some (t24 : AV)) fun t16 =>
 condA t16 true (
 letO (some ((.int .u64 0) : AV)) fun t4 =>
 letO (some ((.int .i64 2) : AV)) fun t5 =>
endK (.tup [t4, t5]) H5 K) (
 letO (some (t9 : AV)) fun t26 =>
 letO (some ((L4.getD 0 .any) : AV)) fun t27 =>
 letO (binF Tryd.prog .leq 3 t26 t27) fun t28 =>
 letO (some (t28 : AV)) fun t25 =>
 condA t25 true (
 letO (some ((.int .u64 0) : AV)) fun t4 =>
 letO (some ((.int .i64 7) : AV)) fun t5 =>
endK (.tup [t4, t5]) H5 K) (
 letO (some (t9 : AV)) fun t29 =>
 letO (some (t29 : AV)) fun t7 =>
 letO (some ((L4.getD 1 .any) : AV)) fun t30 =>
 letO (some (t9 : AV)) fun t31 =>
 letO (binF Tryd.prog .shl 76 (.int .u64 1) t31) fun t32 =>
 letO (binF Tryd.prog .or 76 t30 t32) fun t33 =>
 letO (some (t33 : AV)) fun t6 =>
 letO (binF Tryd.prog .add 3 (L4.getD 2 .any) (.int .i64 1)) fun t34 =>
 letO (some (t34 : AV)) fun t12 =>
 I2 [t7, t6, t12] H5 ∧ μ3 [t7, t6, t12] H5 < μ3 L4 H5))) (
 letO (some ((L4.getD 1 .any) : AV)) fun t35 =>
 letO (some (t35 : AV)) fun t4 =>
 letO (some ((.int .i64 0) : AV)) fun t5 =>
endK (.tup [t4, t5]) H5 K)

theorem W47_ok {x0 x1 : AV} {H : Heap} {K : AV → Heap → Prop} (h : W47 x0 x1 H K) : ACalls Tryd.prog 47 [x0, x1] H K :=
  acallsB (fn := Tryd.f47) (cfg := cfgOf [] [] [] [] [] []) (hh := (.dir .nil (.dir .nil (.dir (.dir .nil (.blk (.loop [7, 6, 12] [13, 14, 15, 9, 17, 18, 19, 20, 21, 22, 23, 24, 16, 4, 5, 26, 27, 28, 25, 29, 7, 30, 31, 32, 33, 6, 34, 12] (.dir .nil (.dir .nil (.dir (.blk (.dir .nil (.dir (.blk (.dir .nil (.dir .nil (.dir .nil (.dir .nil .nil))))) .nil))) .nil)))))) .nil)))) follows Tryd.func47 (by kernel_rfl) (Nat.le_of_ble_eq_true (by kernel_rfl)) (by kernel_rfl) h

/-- headword.see.counted -/
def W49 (x0 : AV) (H : Heap) (K : AV → Heap → Prop) : Prop :=
 letO (cellsOf? x0) fun c1 =>
 letO (some (.any : AV)) fun t2 =>
 letO (some ((.int .i64 0) : AV)) fun t3 =>
 letO (loadN 2 (.iptr c1) H) fun t8 =>
 ACalls Tryd.prog 31 [t8] H fun t9 H2 =>
 letO (some (t9 : AV)) fun t7 =>
 letO (extrF t7 0) fun t10 =>
 letO (extrF t7 1) fun t11 =>
 allocA [(.int .i64 0), (.int .u64 0), (.int .u64 0), (.int .u64 0), (.int .u64 0), (.int .u64 0), (.int .u64 0), (.int .u64 0)] (fun t4 H3 =>
 storeA 8 t4 t10 (fun H4 =>
 letO (some (t11 : AV)) fun t5 =>
 letO (some (t5 : AV)) fun t12 =>
 letO (binF Tryd.prog .neq 32 t12 (.int .i64 0)) fun t13 =>
 condA t13 true (
 letO (some (t5 : AV)) fun t14 =>
 letO (some (.any : AV)) fun t2 =>
 letO (some (t14 : AV)) fun t3 =>
endK (.tup [t2, t3]) H4 K) (
 letO (buildF Tryd.prog 145 []) fun t15 =>
 letO (cellsOf? t15) fun c5 =>
 letO (some ((.iptr c5) : AV)) fun t6 =>
 letO (loadN 8 t4 H4) fun t17 =>
 letO (some (t6 : AV)) fun t18 =>
 letO (makeIfc Tryd.prog 110 t18) fun t19 =>
 ACalls Tryd.prog 77 [t17, t19] H4 fun t20 H6 =>
 letO (some (t6 : AV)) fun t21 =>
 letO (some (t21 : AV)) fun t2 =>
 letO (some ((.int .i64 0) : AV)) fun t3 =>
endK (.tup [t2, t3]) H6 K)) H3) H2

theorem W49_ok {x0 : AV} {H : Heap} {K : AV → Heap → Prop} (h : W49 x0 H K) : ACalls Tryd.prog 49 [x0] H K :=
  acallsB (fn := Tryd.f49) (cfg := cfgOf [] [] [] [] [] []) (hh := (.dir .nil (.dir .nil (.dir (.dir .nil (.dir .nil .nil)) (.dir .nil (.dir .nil .nil)))))) follows Tryd.func49 (by kernel_rfl) (Nat.le_of_ble_eq_true (by kernel_rfl)) (by kernel_rfl) h

/-- headword.see.many -/
def W50 (x0 : AV) (H : Heap) (K : AV → Heap → Prop) : Prop :=
 letO (some ((.int .i64 0) : AV)) fun t2 =>
 true = true ∧ ∃ J1 : List AV → Heap → Prop, (
 letO (some (x0 : AV)) fun t5 =>
 letO (assertF Tryd.prog t5 110 true) fun t6 =>
 letO (extrF t6 1) fun t7 =>
 letO (extrF t6 0) fun t8 =>
 condA t7 true (
 letO (some (t8 : AV)) fun t3 =>
 letO (some (t3 : AV)) fun t9 =>
 letO (nilF t9) fun t10 =>
 letO (faddr 0 t10) fun t11 =>
 letO (load1 t11 H) fun t12 =>
 letO (some (t12 : AV)) fun t2 =>
endK t2 H K) (
 letO (assertF Tryd.prog t5 149 true) fun t13 =>
 letO (extrF t13 1) fun t14 =>
 letO (extrF t13 0) fun t15 =>
 condA t14 true (
 letO (some (t15 : AV)) fun t4 =>
 letO (some (t4 : AV)) fun t16 =>
 letO (nilF t16) fun t17 =>
 letO (faddr 0 t17) fun t18 =>
 letO (load1 t18 H) fun t19 =>
 letO (binF Tryd.prog .neq 35 t19 .nils) fun t20 =>
 condA t20 true (
 letO (some ((.int .i64 1) : AV)) fun t2 =>
endK t2 H K) (
 J1 [] H)) (
 J1 [] H))) ∧ ∀ L2 H3, J1 L2 H3 → -- []
 letO (some ((.int .i64 0) : AV)) fun t2 =>
endK t2 H3 K

theorem W50_ok {x0 : AV} {H : Heap} {K : AV → Heap → Prop} (h : W50 x0 H K) : ACalls Tryd.prog 50 [x0] H K :=
  acallsB (fn := Tryd.f50) (cfg := cfgOf [] [] [] [] [] []) (hh := (.dir .nil (.cut [] [5, 6, 7, 8, 3, 9, 10, 11, 12, 2, 13, 14, 15, 4, 16, 17, 18, 19, 20] (.dir .nil (.blk (.dir .nil (.dir (.dir .nil .nil) (.dir .nil (.dir (.dir .nil (.dir .nil (.dir .nil .nil))) .nil)))))) .nil))) follows Tryd.func50 (by kernel_rfl) (Nat.le_of_ble_eq_true (by kernel_rfl)) (by kernel_rfl) h

/-- (headword.volume.Book).plans -/
def W51 (x0 : AV) (H : Heap) (K : AV → Heap → Prop) : Prop :=
 letO (cellsOf? x0) fun c1 =>
 letO (some (.nils : AV)) fun t2 =>
 true = true ∧
 letO (loadN 3 (.iptr c1) Heap.none) fun t13 =>
 ∃ t14, (ACalls Tryd.prog 54 [t13, (.fn 78 [])] H fun r h => r = t14 ∧ h = H) ∧
 letO (loadN 3 (.iptr c1) Heap.none) fun t15 =>
 ACalls Tryd.prog 54 [t15, (.fn 55 [])] H fun t16 H2 =>
 letO (some (t14 : AV)) fun t3 =>
 letO (some (t16 : AV)) fun t4 =>
 letO (faddr 0 (.iptr c1)) fun t17 =>
 letO (load1 t17 H2) fun t18 =>
 letO (lenA t18) fun t19 =>
 letO (some (t19 : AV)) fun t5 =>
 letO (some (t5 : AV)) fun t20 =>
 letO (binF Tryd.prog .add 3 t20 (.int .i64 1)) fun t21 =>
 makeA [.nili] 1 16 t21 t21 (fun t22 H3 =>
 letO (some (t22 : AV)) fun t6 =>
 letO (some (t6 : AV)) fun t23 =>
 letO (some (t5 : AV)) fun t24 =>
 letO (buildF Tryd.prog 117 [(2, (.int .i64 1))]) fun t25 =>
 letO (makeIfc Tryd.prog 117 t25) fun t26 =>
 letO (idx 1 t23 t24) fun t27 =>
 storeA 1 t27 t26 (fun H4 =>
 letO (some (t5 : AV)) fun t28 =>
 letO (binF Tryd.prog .sub 3 t28 (.int .i64 1)) fun t29 =>
 letO (some (t29 : AV)) fun t7 =>
 true = true ∧ ∃ (I5 : List AV → Heap → Prop) (μ6 : List AV → Heap → Nat), I5 [t7] H4 ∧ ∀ L7 H8, I5 L7 H8 → -- [t7]
 letO (some ((L7.getD 0 .any) : AV)) fun t30 =>
 letO (binF Tryd.prog .geq 3 t30 (.int .i64 0)) fun t31 =>
 condA t31 true (
 letO (some (t5 : AV)) fun t34 =>
 letO (some (t34 : AV)) fun t8 =>
 true = true ∧ ∃ (I9 : List AV → Heap → Prop) (μ10 : List AV → Heap → Nat), I9 [t8] H8 ∧ ∀ L11 H12, I9 L11 H12 → -- [t8]
 letO (some ((L11.getD 0 .any) : AV)) fun t35 =>
 letO (some ((L7.getD 0 .any) : AV)) fun t36 =>
 letO (binF Tryd.prog .gtr 3 t35 t36) fun t37 =>
 condA t37 true (
 true = true ∧ ∃ J13 : List AV → Heap → Prop, (
 true = true ∧
 letO (some (t3 : AV)) fun t40 =>
 letO (some ((L7.getD 0 .any) : AV)) fun t41 =>
 letO (some ((L11.getD 0 .any) : AV)) fun t42 =>
 ∃ t43, (ACalls Tryd.prog 79 [t40, t41, t42] H12 fun r h => r = t43 ∧ h = H12) ∧
 letO (faddr 1 (.iptr c1)) fun t44 =>
 letO (load1 t44 Heap.none) fun t45 =>
 letO (binF Tryd.prog .gtr 3 t43 t45) fun t46 =>
 letO (some (t46 : AV)) fun t47 =>
 letO (gval t47 false (some (t4 : AV))) fun t48 =>
 letO (gval t47 false (some ((L7.getD 0 .any) : AV))) fun t49 =>
 letO (gval t47 false (some ((L11.getD 0 .any) : AV))) fun t50 =>
 ∃ t51, condG t47 false (ACalls Tryd.prog 79 [t48, t49, t50] H12 fun r h => r = t51 ∧ h = H12) (t51 = .tup []) ∧
 letO (gval t47 false (faddr 2 (.iptr c1))) fun t52 =>
 letO (gval t47 false (load1 t52 Heap.none)) fun t53 =>
 letO (gval t47 false (binF Tryd.prog .lss 3 t51 t53)) fun t54 =>
 letO (pickF t47 (.bool true) t54) fun t55 =>
 condA t55 true (
 J13 [] H12) (
 letO (some (t6 : AV)) fun t57 =>
 letO (some ((L11.getD 0 .any) : AV)) fun t58 =>
 letO (idx 1 t57 t58) fun t59 =>
 letO (load1 t59 H12) fun t60 =>
 letO (assertF Tryd.prog t60 117 true) fun t61 =>
 letO (some (t61 : AV)) fun t56 =>
 letO (extrF t56 0) fun t62 =>
 letO (extrF t56 1) fun t63 =>
 allocA [(.int .i64 0), (.int .i64 0), (.int .i64 0)] (fun t9 H14 =>
 storeA 3 t9 t62 (fun H15 =>
 letO (some (t63 : AV)) fun t10 =>
 letO (some (t10 : AV)) fun t64 =>
 letO (unF .not t64) fun t65 =>
 condA t65 true (
 J13 [] H15) (
 letO (some (t6 : AV)) fun t67 =>
 letO (some ((L7.getD 0 .any) : AV)) fun t68 =>
 letO (idx 1 t67 t68) fun t69 =>
 letO (load1 t69 H15) fun t70 =>
 letO (assertF Tryd.prog t70 117 true) fun t71 =>
 letO (some (t71 : AV)) fun t66 =>
 letO (extrF t66 0) fun t72 =>
 letO (extrF t66 1) fun t73 =>
 allocA [(.int .i64 0), (.int .i64 0), (.int .i64 0)] (fun t11 H16 =>
 storeA 3 t11 t72 (fun H17 =>
 letO (some (t73 : AV)) fun t12 =>
 letO (faddr 2 t11) fun t74 =>
 letO (load1 t74 H17) fun t75 =>
 letO (faddr 2 t9) fun t76 =>
 letO (load1 t76 H17) fun t77 =>
 letO (binF Tryd.prog .add 3 t75 t77) fun t78 =>
 letO (faddr 2 t11) fun t79 =>
 storeA 1 t79 t78 (fun H18 =>
 true = true ∧ ∃ J19 : List AV → Heap → Prop, (
 letO (some (t12 : AV)) fun t80 =>
 letO (unF .not t80) fun t81 =>
 letO (some (t81 : AV)) fun t82 =>
 letO (gval t82 false (faddr 0 t9)) fun t83 =>
 letO (gval t82 false (load1 t83 H18)) fun t84 =>
 letO (gval t82 false (binF Tryd.prog .add 3 t84 (.int .i64 1))) fun t85 =>
 letO (gval t82 false (faddr 0 t11)) fun t86 =>
 letO (gval t82 false (load1 t86 H18)) fun t87 =>
 letO (gval t82 false (binF Tryd.prog .leq 3 t85 t87)) fun t88 =>
 letO (pickF t82 (.bool true) t88) fun t89 =>
 condA t89 true (
 letO (faddr 0 t9) fun t90 =>
 letO (load1 t90 H18) fun t91 =>
 letO (binF Tryd.prog .add 3 t91 (.int .i64 1)) fun t92 =>
 letO (some ((L11.getD 0 .any) : AV)) fun t93 =>
 letO (faddr 0 t11) fun t94 =>
 storeA 1 t94 t92 (fun H20 =>
 letO (faddr 1 t11) fun t95 =>
 storeA 1 t95 t93 (fun H21 =>
 J19 [] H21) H20) H18) (
 J19 [] H18)) ∧ ∀ L22 H23, J19 L22 H23 → -- []
 letO (some (t6 : AV)) fun t96 =>
 letO (some ((L7.getD 0 .any) : AV)) fun t97 =>
 letO (loadN 3 t11 H23) fun t98 =>
 letO (makeIfc Tryd.prog 117 t98) fun t99 =>
 letO (idx 1 t96 t97) fun t100 =>
 storeA 1 t100 t99 (fun H24 =>
 J13 [] H24) H23) H17) H16) H15)) H14) H12)) ∧ ∀ L25 H26, J13 L25 H26 → -- []
 letO (some ((L11.getD 0 .any) : AV)) fun t38 =>
 letO (binF Tryd.prog .sub 3 t38 (.int .i64 1)) fun t39 =>
 letO (some (t39 : AV)) fun t8 =>
 I9 [t8] H26 ∧ μ10 [t8] H26 < μ10 L11 H12) (
 letO (some ((L7.getD 0 .any) : AV)) fun t32 =>
 letO (binF Tryd.prog .sub 3 t32 (.int .i64 1)) fun t33 =>
 letO (some (t33 : AV)) fun t7 =>
 I5 [t7] H12 ∧ μ6 [t7] H12 < μ6 L7 H8)) (
 letO (some (t6 : AV)) fun t101 =>
 letO (some (t101 : AV)) fun t2 =>
endK t2 H8 K)) H3) H2

theorem W51_ok {x0 : AV} {H : Heap} {K : AV → Heap → Prop} (h : W51 x0 H K) : ACalls Tryd.prog 51 [x0] H K :=
  acallsB (fn := Tryd.f51) (cfg := cfgOf [] [13, 15, 45, 53] [(1, [0, 1, 0, 7, 15, 31]), (11, [0, 0, 0, 7, 0, 16, 63, 127, 255, 255, 255, 2047, 255, 4351, 16383, 32767])] [] [] []) (hh := (.dir .nil (.dir .nil (.dir .nil (.dir .nil (.dir .nil (.dir (.dir .nil (.blk (.loop [7] [30, 31, 34, 8, 35, 36, 37, 40, 41, 42, 43, 44, 45, 46, 47, 48, 49, 50, 51, 52, 53, 54, 55, 57, 58, 59, 60, 61, 56, 62, 63, 9, 10, 64, 65, 67, 68, 69, 70, 71, 66, 72, 73, 11, 12, 74, 75, 76, 77, 78, 79, 80, 81, 82, 83, 84, 85, 86, 87, 88, 89, 90, 91, 92, 93, 94, 95, 96, 97, 98, 99, 100, 38, 39, 32, 33, 7] (.dir (.dir .nil .nil) (.dir (.blk (.dir .nil (.blk (.loop [8] [35, 36, 37, 40, 41, 42, 43, 44, 45, 46, 47, 48, 49, 50, 51, 52, 53, 54, 55, 57, 58, 59, 60, 61, 56, 62, 63, 9, 10, 64, 65, 67, 68, 69, 70, 71, 66, 72, 73, 11, 12, 74, 75, 76, 77, 78, 79, 80, 81, 82, 83, 84, 85, 86, 87, 88, 89, 90, 91, 92, 93, 94, 95, 96, 97, 98, 99, 100, 38, 39, 8] (.dir (.dir .nil .nil) (.cut [] [40, 41, 42, 43, 44, 45, 46, 47, 48, 49, 50, 51, 52, 53, 54, 55, 57, 58, 59, 60, 61, 56, 62, 63, 9, 10, 64, 65, 67, 68, 69, 70, 71, 66, 72, 73, 11, 12, 74, 75, 76, 77, 78, 79, 80, 81, 82, 83, 84, 85, 86, 87, 88, 89, 90, 91, 92, 93, 94, 95, 96, 97, 98, 99, 100] (.blk (.dir (.dir .nil .nil) (.dir .nil (.dir (.dir .nil .nil) (.dir .nil (.dir .nil (.cut [] [80, 81, 82, 83, 84, 85, 86, 87, 88, 89, 90, 91, 92, 93, 94, 95] (.dir .nil .nil) .nil))))))) .nil)))))) .nil))))) .nil))))))) follows Tryd.func51 (by kernel_rfl) (Nat.le_of_ble_eq_true (by kernel_rfl)) (by kernel_rfl) h

/-- headword.volume.Level -/
def W52 (x0 x1 : AV) (H : Heap) (K : AV → Heap → Prop) : Prop :=
 letO (cellsOf? x0) fun c1 =>
 letO (some ((.int .i64 0) : AV)) fun t4 =>
 letO (some ((.int .i64 0) : AV)) fun t5 =>
 letO (loadN 3 (.iptr c1) H) fun t12 =>
 ACalls Tryd.prog 27 [t12] H fun t13 H2 =>
 letO (some (t13 : AV)) fun t6 =>
 letO (some (t6 : AV)) fun t15 =>
 letO (binF Tryd.prog .neq 32 t15 (.int .i64 0)) fun t16 =>
 letO (some (t16 : AV)) fun t14 =>
 condA t14 true (
 letO (some (t6 : AV)) fun t17 =>
 letO (some ((.int .i64 0) : AV)) fun t4 =>
 letO (some (t17 : AV)) fun t5 =>
endK (.tup [t4, t5]) H2 K) (
 letO (some (x1 : AV)) fun t19 =>
 letO (binF Tryd.prog .lss 3 t19 (.int .i64 1)) fun t20 =>
 letO (some (t20 : AV)) fun t21 =>
 letO (gval t21 false (some (x1 : AV))) fun t22 =>
 letO (gval t21 false (faddr 0 (.iptr c1))) fun t23 =>
 letO (gval t21 false (load1 t23 H2)) fun t24 =>
 letO (gval t21 false (lenA t24)) fun t25 =>
 letO (gval t21 false (binF Tryd.prog .gtr 3 t22 t25)) fun t26 =>
 letO (pickF t21 (.bool true) t26) fun t27 =>
 letO (some (t27 : AV)) fun t18 =>
 condA t18 true (
 letO (some ((.int .i64 0) : AV)) fun t4 =>
 letO (some ((.int .i64 1) : AV)) fun t5 =>
endK (.tup [t4, t5]) H2 K) (
 letO (loadN 3 (.iptr c1) H2) fun t28 =>
 ACalls Tryd.prog 54 [t28, (.fn 78 [])] H2 fun t29 H3 =>
 letO (some (t29 : AV)) fun t7 =>
 true = true ∧
 letO (some (t7 : AV)) fun t30 =>
 letO (some (t7 : AV)) fun t31 =>
 letO (lenA t31) fun t32 =>
 letO (binF Tryd.prog .sub 3 t32 (.int .i64 1)) fun t33 =>
 letO (idx 1 t30 t33) fun t34 =>
 letO (load1 t34 H3) fun t35 =>
 letO (some ((.int .i64 1) : AV)) fun t8 =>
 letO (some (t35 : AV)) fun t9 =>
 true = true ∧ ∃ (I4 : List AV → Heap → Prop) (μ5 : List AV → Heap → Nat), I4 [t9, t8] H3 ∧ ∀ L6 H7, I4 L6 H7 → -- [t9, t8]
 letO (some ((L6.getD 1 .any) : AV)) fun t36 =>
 letO (some ((L6.getD 0 .any) : AV)) fun t37 =>
 letO (binF Tryd.prog .lss 3 t36 t37) fun t38 =>
 condA t38 true (
 letO (some ((L6.getD 1 .any) : AV)) fun t39 =>
 letO (some ((L6.getD 0 .any) : AV)) fun t40 =>
 letO (binF Tryd.prog .add 3 t39 t40) fun t41 =>
 letO (binF Tryd.prog .quo 3 t41 (.int .i64 2)) fun t42 =>
 letO (some (t42 : AV)) fun t10 =>
 letO (some (t7 : AV)) fun t43 =>
 letO (some (t10 : AV)) fun t44 =>
 ACalls Tryd.prog 80 [t43, t44] H7 fun t45 H8 =>
 letO (some (t45 : AV)) fun t11 =>
 letO (some (t11 : AV)) fun t46 =>
 letO (binF Tryd.prog .neq 35 t46 .nils) fun t47 =>
 letO (some (t47 : AV)) fun t48 =>
 letO (gval t48 true (some (t11 : AV))) fun t49 =>
 letO (gval t48 true (lenA t49)) fun t50 =>
 letO (gval t48 true (some (x1 : AV))) fun t51 =>
 letO (gval t48 true (binF Tryd.prog .leq 3 t50 t51)) fun t52 =>
 letO (pickF t48 t52 (.bool false)) fun t53 =>
 condA t53 true (
 letO (some (t10 : AV)) fun t54 =>
 letO (some (t54 : AV)) fun t9 =>
 I4 [t9, (L6.getD 1 .any)] H8 ∧ μ5 [t9, (L6.getD 1 .any)] H8 < μ5 L6 H7) (
 letO (some (t10 : AV)) fun t55 =>
 letO (binF Tryd.prog .add 3 t55 (.int .i64 1)) fun t56 =>
 letO (some (t56 : AV)) fun t8 =>
 I4 [(L6.getD 0 .any), t8] H8 ∧ μ5 [(L6.getD 0 .any), t8] H8 < μ5 L6 H7)) (
 letO (some ((L6.getD 1 .any) : AV)) fun t57 =>
 letO (some (t57 : AV)) fun t4 =>
 letO (some ((.int .i64 0) : AV)) fun t5 =>
endK (.tup [t4, t5]) H7 K)))

theorem W52_ok {x0 x1 : AV} {H : Heap} {K : AV → Heap → Prop} (h : W52 x0 x1 H K) : ACalls Tryd.prog 52 [x0, x1] H K :=
  acallsB (fn := Tryd.f52) (cfg := cfgOf [] [] [(7, [0, 0, 2, 6, 15, 31, 0, 127])] [] [] []) (hh := (.dir .nil (.dir .nil (.dir (.blk (.dir .nil (.dir .nil (.dir .nil (.dir .nil .nil))))) (.dir .nil (.dir .nil (.dir (.blk (.loop [9, 8] [36, 37, 38, 39, 40, 41, 42, 10, 43, 44, 45, 11, 46, 47, 48, 49, 50, 51, 52, 53, 54, 9, 55, 56, 8] (.dir (.dir .nil .nil) (.blk (.dir .nil (.dir .nil (.dir .nil .nil))))))) .nil))))))) follows Tryd.func52 (by kernel_rfl) (Nat.le_of_ble_eq_true (by kernel_rfl)) (by kernel_rfl) h

/-- headword.volume.Holds -/
def W53 (x0 x1 : AV) (H : Heap) (K : AV → Heap → Prop) : Prop :=
 letO (cellsOf? x0) fun c1 =>
 letO (some ((.int .i64 0) : AV)) fun t4 =>
 letO (loadN 3 (.iptr c1) H) fun t6 =>
 letO (some (x1 : AV)) fun t7 =>
 ACalls Tryd.prog 81 [t6, t7] H fun t8 H2 =>
 letO (some (t8 : AV)) fun t5 =>
 true = true ∧ ∃ J3 : List AV → Heap → Prop, (
 letO (some (t5 : AV)) fun t9 =>
 letO (binF Tryd.prog .eql 32 t9 (.int .i64 0)) fun t10 =>
 letO (some (t10 : AV)) fun t11 =>
 letO (gval t11 true (loadN 3 (.iptr c1) H2)) fun t12 =>
 letO (gval t11 true (some (x1 : AV))) fun t13 =>
 ∃ J4 : AV → Heap → Prop, condG t11 true (ACalls Tryd.prog 82 [t12, t13, (.fn 78 [])] H2 fun t14 H5 =>
 J4 t14 H5) (J4 (.tup []) H2) ∧ ∀ t14 H6, J4 t14 H6 →
 letO (gval t11 true (binF Tryd.prog .geq 3 t14 (.int .i64 0))) fun t15 =>
 letO (pickF t11 t15 (.bool false)) fun t16 =>
 condA t16 true (
 letO (some ((.int .i64 15) : AV)) fun t5 =>
 J3 [t5] H6) (
 J3 [t5] H6)) ∧ ∀ L7 H8, J3 L7 H8 → -- [t5]
 letO (some ((L7.getD 0 .any) : AV)) fun t17 =>
 letO (some (t17 : AV)) fun t4 =>
endK t4 H8 K

theorem W53_ok {x0 x1 : AV} {H : Heap} {K : AV → Heap → Prop} (h : W53 x0 x1 H K) : ACalls Tryd.prog 53 [x0, x1] H K :=
  acallsB (fn := Tryd.f53) (cfg := cfgOf [] [] [] [] [] []) (hh := (.dir .nil (.dir .nil (.cut [5] [9, 10, 11, 12, 13, 14, 15, 16, 5] (.dir .nil .nil) .nil)))) follows Tryd.func53 (by kernel_rfl) (Nat.le_of_ble_eq_true (by kernel_rfl)) (by kernel_rfl) h

/-- (headword.volume.Book).counted -/
def W54 (x0 x1 : AV) (H : Heap) (K : AV → Heap → Prop) : Prop :=
 letO (cellsOf? x0) fun c1 =>
 letO (some (.nils : AV)) fun t4 =>
 letO (literalF Tryd.prog 120 1 [(0, (.int .i64 0))]) fun c2 =>
 letO (some ((.imm 1 true c2) : AV)) fun t5 =>
 letO (faddr 0 (.iptr c1)) fun t9 =>
 letO (load1 t9 H) fun t10 =>
 letO (lenA t10) fun t11 =>
 letO (some ((.int .i64 0) : AV)) fun t12 =>
 true = true ∧ ∃ (I3 : List AV → Heap → Prop) (μ4 : List AV → Heap → Nat), I3 [t5, t12] H ∧ ∀ L5 H6, I3 L5 H6 → -- [t5, t12]
 letO (binF Tryd.prog .lss 3 (L5.getD 1 .any) t11) fun t13 =>
 condA t13 true (
 letO (idx 2 t10 (L5.getD 1 .any)) fun t14 =>
 letO (loadN 2 t14 H6) fun t15 =>
 allocA [(.int .i64 0), (.int .i64 0)] (fun t7 H7 =>
 storeA 2 t7 t15 (fun H8 =>
 true = true ∧
 letO (some ((L5.getD 0 .any) : AV)) fun t16 =>
 letO (some ((L5.getD 0 .any) : AV)) fun t17 =>
 letO (some ((L5.getD 0 .any) : AV)) fun t18 =>
 letO (lenA t18) fun t19 =>
 letO (binF Tryd.prog .sub 3 t19 (.int .i64 1)) fun t20 =>
 letO (idx 1 t17 t20) fun t21 =>
 letO (load1 t21 H8) fun t22 =>
 letO (some (x1 : AV)) fun t23 =>
 letO (loadN 2 t7 H8) fun t24 =>
 ∃ t25, (callA Tryd.prog t23 [t24] (fun r h => r = t25 ∧ h = H8) H8) ∧
 letO (binF Tryd.prog .add 3 t22 t25) fun t26 =>
 letO (literalF Tryd.prog 120 1 [(0, t26)]) fun c9 =>
 appendA 1 8 t16 (.imm 1 true c9) (fun t28 H10 =>
 letO (some (t28 : AV)) fun t5 =>
 letO (binF Tryd.prog .add 3 (L5.getD 1 .any) (.int .i64 1)) fun t29 =>
 letO (some (t29 : AV)) fun t12 =>
 I3 [t5, t12] H10 ∧ μ4 [t5, t12] H10 < μ4 L5 H6) H8) H7) H6) (
 letO (some ((L5.getD 0 .any) : AV)) fun t30 =>
 letO (some (t30 : AV)) fun t4 =>
endK t4 H6 K)

theorem W54_ok {x0 x1 : AV} {H : Heap} {K : AV → Heap → Prop} (h : W54 x0 x1 H K) : ACalls Tryd.prog 54 [x0, x1] H K :=
  acallsB (fn := Tryd.f54) (cfg := cfgOf [] [] [(5, [0, 0, 0, 4, 12, 30, 62, 0, 0, 384, 1022, 2046, 4095, 8191])] [] [] []) (hh := (.dir .nil (.dir .nil (.dir (.dir .nil (.blk (.loop [5, 12] [13, 14, 15, 7, 16, 17, 18, 19, 20, 21, 22, 23, 24, 25, 26, 27, 28, 5, 29, 12] (.dir .nil (.dir .nil (.dir .nil .nil)))))) .nil)))) follows Tryd.func54 (by kernel_rfl) (Nat.le_of_ble_eq_true (by kernel_rfl)) (by kernel_rfl) h

/-- (headword.volume.Article).least -/
def W55 (x0 : AV) (H : Heap) (K : AV → Heap → Prop) : Prop :=
 letO (cellsOf? x0) fun c1 =>
 letO (some ((.int .i64 0) : AV)) fun t2 =>
 letO (faddr 0 (.iptr c1)) fun t3 =>
 letO (load1 t3 H) fun t4 =>
 letO (some (t4 : AV)) fun t2 =>
endK t2 H K

theorem W55_ok {x0 : AV} {H : Heap} {K : AV → Heap → Prop} (h : W55 x0 H K) : ACalls Tryd.prog 55 [x0] H K :=
  acallsB (fn := Tryd.f55) (cfg := cfgOf [] [] [] [] [] []) (hh := (.dir .nil .nil)) follows Tryd.func55 (by kernel_rfl) (Nat.le_of_ble_eq_true (by kernel_rfl)) (by kernel_rfl) h

/-- (headword.volume.lines).first -/
def W56 (x0 x1 x2 : AV) (H : Heap) (K : AV → Heap → Prop) : Prop :=
 letO (some ((.int .i64 0) : AV)) fun t6 =>
 letO (some ((.int .i64 0) : AV)) fun t7 =>
 letO (some (x1 : AV)) fun t10 =>
 letO (lenA t10) fun t11 =>
 letO (some ((.int .i64 0) : AV)) fun t12 =>
 true = true ∧ ∃ (I1 : List AV → Heap → Prop) (μ2 : List AV → Heap → Nat), I1 [t7, t12] H ∧ ∀ L3 H4, I1 L3 H4 → -- [t7, t12]
 letO (binF Tryd.prog .lss 3 (L3.getD 1 .any) t11) fun t13 =>
 condA t13 true (
 letO (some ((L3.getD 1 .any) : AV)) fun t14 =>
 letO (idx 1 t10 (L3.getD 1 .any)) fun t15 =>
 letO (load1 t15 H4) fun t16 =>
 letO (some (t14 : AV)) fun t8 =>
 letO (some (t16 : AV)) fun t9 =>
 letO (some (x2 : AV)) fun t17 =>
 letO (some (x0 : AV)) fun t18 =>
 letO (some ((L3.getD 0 .any) : AV)) fun t19 =>
 letO (some (t9 : AV)) fun t20 =>
 ACalls Tryd.prog 79 [t18, t19, t20] H4 fun t21 H5 =>
 callA Tryd.prog t17 [t21] (fun t22 H6 =>
 condA t22 true (
 letO (some (t8 : AV)) fun t23 =>
 letO (some (t23 : AV)) fun t6 =>
endK t6 H6 K) (
 letO (some (t9 : AV)) fun t24 =>
 letO (some (t24 : AV)) fun t7 =>
 letO (binF Tryd.prog .add 3 (L3.getD 1 .any) (.int .i64 1)) fun t25 =>
 letO (some (t25 : AV)) fun t12 =>
 I1 [t7, t12] H6 ∧ μ2 [t7, t12] H6 < μ2 L3 H4)) H5) (
 letO (some ((.int .i64 (-1)) : AV)) fun t6 =>
endK t6 H4 K)

theorem W56_ok {x0 x1 x2 : AV} {H : Heap} {K : AV → Heap → Prop} (h : W56 x0 x1 x2 H K) : ACalls Tryd.prog 56 [x0, x1, x2] H K :=
  acallsB (fn := Tryd.f56) (cfg := cfgOf [] [] [] [] [] []) (hh := (.dir .nil (.dir .nil (.dir (.dir .nil (.blk (.loop [7, 12] [13, 14, 15, 16, 8, 9, 17, 18, 19, 20, 21, 22, 23, 6, 24, 7, 25, 12] (.dir .nil (.dir .nil (.dir (.blk (.dir .nil (.dir (.dir .nil (.dir .nil .nil)) .nil))) .nil)))))) .nil)))) follows Tryd.func56 (by kernel_rfl) (Nat.le_of_ble_eq_true (by kernel_rfl)) (by kernel_rfl) h

/-- headword.volume.Safe$1 -/
def W57 (x0 x1 : AV) (H : Heap) (K : AV → Heap → Prop) : Prop :=
 letO (some ((.bool false) : AV)) fun t3 =>
 letO (some (x0 : AV)) fun t4 =>
 letO (faddr 2 x1) fun t5 =>
 letO (load1 t5 H) fun t6 =>
 letO (binF Tryd.prog .lss 3 t4 t6) fun t7 =>
 letO (some (t7 : AV)) fun t3 =>
endK t3 H K

theorem W57_ok {x0 x1 : AV} {H : Heap} {K : AV → Heap → Prop} (h : W57 x0 x1 H K) : ACalls Tryd.prog 57 [x0, x1] H K :=
  acallsB (fn := Tryd.f57) (cfg := cfgOf [] [] [] [] [] []) (hh := (.dir .nil .nil)) follows Tryd.func57 (by kernel_rfl) (Nat.le_of_ble_eq_true (by kernel_rfl)) (by kernel_rfl) h

/-- slices.ContainsFunc[[]int,int] -/
def W69 (x0 x1 : AV) (H : Heap) (K : AV → Heap → Prop) : Prop :=
 letO (some ((.bool false) : AV)) fun t4 =>
 letO (some (x0 : AV)) fun t5 =>
 letO (some (x1 : AV)) fun t6 =>
 ACalls Tryd.prog 98 [t5, t6] H fun t7 H1 =>
 letO (binF Tryd.prog .geq 3 t7 (.int .i64 0)) fun t8 =>
 letO (some (t8 : AV)) fun t4 =>
endK t4 H1 K

theorem W69_ok {x0 x1 : AV} {H : Heap} {K : AV → Heap → Prop} (h : W69 x0 x1 H K) : ACalls Tryd.prog 69 [x0, x1] H K :=
  acallsB (fn := Tryd.f69) (cfg := cfgOf [] [] [] [] [] []) (hh := (.dir .nil .nil)) follows Tryd.func69 (by kernel_rfl) (Nat.le_of_ble_eq_true (by kernel_rfl)) (by kernel_rfl) h

/-- headword.stand.Check$1 -/
def W70 (x0 : AV) (H : Heap) (K : AV → Heap → Prop) : Prop :=
 letO (some ((.bool false) : AV)) fun t2 =>
 letO (some (x0 : AV)) fun t3 =>
 letO (binF Tryd.prog .lss 3 t3 (.int .i64 0)) fun t4 =>
 letO (some (t4 : AV)) fun t5 =>
 letO (gval t5 false (some (x0 : AV))) fun t6 =>
 letO (gval t5 false (binF Tryd.prog .geq 3 t6 (.int .i64 6))) fun t7 =>
 letO (pickF t5 (.bool true) t7) fun t8 =>
 letO (some (t8 : AV)) fun t2 =>
endK t2 H K

theorem W70_ok {x0 : AV} {H : Heap} {K : AV → Heap → Prop} (h : W70 x0 H K) : ACalls Tryd.prog 70 [x0] H K :=
  acallsB (fn := Tryd.f70) (cfg := cfgOf [] [] [] [] [] []) (hh := (.dir .nil .nil)) follows Tryd.func70 (by kernel_rfl) (Nat.le_of_ble_eq_true (by kernel_rfl)) (by kernel_rfl) h

/-- (headword.stand.floor).full -/
def W71 (x0 x1 x2 : AV) (H : Heap) (K : AV → Heap → Prop) : Prop :=
 letO (cellsOf? x0) fun c1 =>
 letO (some ((.bool false) : AV)) fun t6 =>
 letO (faddr 0 (.iptr c1)) fun t7 =>
 letO (load1 t7 H) fun t8 =>
 letO (some (x1 : AV)) fun t9 =>
 letO (binF Tryd.prog .shr 76 t8 t9) fun t10 =>
 letO (binF Tryd.prog .and 76 t10 (.int .u64 1)) fun t11 =>
 letO (binF Tryd.prog .eql 76 t11 (.int .u64 0)) fun t12 =>
 letO (some (t12 : AV)) fun t13 =>
 letO (gval t13 true (faddr 0 (.iptr c1))) fun t14 =>
 letO (gval t13 true (load1 t14 H)) fun t15 =>
 ∃ J2 : AV → Heap → Prop, condG t13 true (ACalls Tryd.prog 99 [t15] H fun t16 H3 =>
 J2 t16 H3) (J2 (.tup []) H) ∧ ∀ t16 H4, J2 t16 H4 →
 letO (gval t13 true (some (x2 : AV))) fun t17 =>
 letO (gval t13 true (binF Tryd.prog .geq 3 t16 t17)) fun t18 =>
 letO (pickF t13 t18 (.bool false)) fun t19 =>
 letO (some (t19 : AV)) fun t6 =>
endK t6 H4 K

theorem W71_ok {x0 x1 x2 : AV} {H : Heap} {K : AV → Heap → Prop} (h : W71 x0 x1 x2 H K) : ACalls Tryd.prog 71 [x0, x1, x2] H K :=
  acallsB (fn := Tryd.f71) (cfg := cfgOf [] [] [] [] [] []) (hh := (.dir .nil .nil)) follows Tryd.func71 (by kernel_rfl) (Nat.le_of_ble_eq_true (by kernel_rfl)) (by kernel_rfl) h

/-- (headword.stand.floor).with -/
def W72 (x0 x1 x2 : AV) (H : Heap) (K : AV → Heap → Prop) : Prop :=
 letO (cellsOf? x0) fun c1 => allocA c1 (fun t3 H2 =>
 allocA [(.int .u64 0)] (fun t6 H3 =>
 true = true ∧ ∃ J4 : List AV → Heap → Prop, (
 letO (some (x2 : AV)) fun t7 =>
 letO (binF Tryd.prog .geq 3 t7 (.int .i64 0)) fun t8 =>
 condA t8 true (
 true = true ∧
 letO (faddr 0 t3) fun t9 =>
 letO (load1 t9 H3) fun t10 =>
 letO (some (x2 : AV)) fun t11 =>
 letO (binF Tryd.prog .shl 76 (.int .u64 1) t11) fun t12 =>
 letO (binF Tryd.prog .andNot 76 t10 t12) fun t13 =>
 letO (faddr 0 t3) fun t14 =>
 storeA 1 t14 t13 (fun H5 =>
 J4 [] H5) H3) (
 J4 [] H3)) ∧ ∀ L6 H7, J4 L6 H7 → -- []
 true = true ∧
 letO (faddr 0 t3) fun t15 =>
 letO (load1 t15 H7) fun t16 =>
 letO (some (x1 : AV)) fun t17 =>
 letO (binF Tryd.prog .shl 76 (.int .u64 1) t17) fun t18 =>
 letO (binF Tryd.prog .or 76 t16 t18) fun t19 =>
 letO (faddr 0 t3) fun t20 =>
 storeA 1 t20 t19 (fun H8 =>
 letO (loadN 1 t3 H8) fun t21 =>
 storeA 1 t6 t21 (fun H9 =>
 letO (loadN 1 t6 H9) fun r10 => endK r10 H9 K) H8) H7) H2) H

theorem W72_ok {x0 x1 x2 : AV} {H : Heap} {K : AV → Heap → Prop} (h : W72 x0 x1 x2 H K) : ACalls Tryd.prog 72 [x0, x1, x2] H K :=
  acallsB (fn := Tryd.f72) (cfg := cfgOf [3] [] [(2, [0, 1, 0, 4, 15, 31, 63]), (3, [0, 1, 0, 4, 15, 31, 63])] [] [] []) (hh := (.dir .nil (.cut [] [7, 8, 9, 10, 11, 12, 13, 14] (.dir .nil .nil) (.dir .nil .nil)))) follows Tryd.func72 (by kernel_rfl) (Nat.le_of_ble_eq_true (by kernel_rfl)) (by kernel_rfl) h

/-- headword.stand.list -/
def W73 (x0 : AV) (H : Heap) (K : AV → Heap → Prop) : Prop :=
 letO (some (.nils : AV)) fun t2 =>
 letO (some (.nils : AV)) fun t3 =>
 true = true ∧ ∃ (I1 : List AV → Heap → Prop) (μ2 : List AV → Heap → Nat), I1 [t3, x0] H ∧ ∀ L3 H4, I1 L3 H4 → -- [t3, t0]
 letO (some ((L3.getD 1 .any) : AV)) fun t4 =>
 letO (binF Tryd.prog .neq 76 t4 (.int .u64 0)) fun t5 =>
 condA t5 true (
 letO (some ((L3.getD 0 .any) : AV)) fun t10 =>
 letO (some ((L3.getD 1 .any) : AV)) fun t11 =>
 ACalls Tryd.prog 48 [t11] H4 fun t12 H5 =>
 letO (literalF Tryd.prog 35 1 [(0, t12)]) fun c6 =>
 appendA 1 8 t10 (.imm 1 true c6) (fun t14 H7 =>
 letO (some (t14 : AV)) fun t3 =>
 letO (some ((L3.getD 1 .any) : AV)) fun t6 =>
 letO (some ((L3.getD 1 .any) : AV)) fun t7 =>
 letO (binF Tryd.prog .sub 76 t7 (.int .u64 1)) fun t8 =>
 letO (binF Tryd.prog .and 76 t6 t8) fun t9 =>
 letO (some (t9 : AV)) fun t0 =>
 I1 [t3, t0] H7 ∧ μ2 [t3, t0] H7 < μ2 L3 H4) H5) (
 letO (some ((L3.getD 0 .any) : AV)) fun t15 =>
 letO (some (t15 : AV)) fun t2 =>
endK t2 H4 K)

theorem W73_ok {x0 : AV} {H : Heap} {K : AV → Heap → Prop} (h : W73 x0 H K) : ACalls Tryd.prog 73 [x0] H K :=
  acallsB (fn := Tryd.f73) (cfg := cfgOf [] [] [] [] [] []) (hh := (.dir .nil (.dir .nil (.dir (.blk (.loop [3, 0] [4, 5, 10, 11, 12, 13, 14, 3, 6, 7, 8, 9, 0] (.dir (.dir .nil .nil) (.dir .nil .nil)))) .nil)))) follows Tryd.func73 (by kernel_rfl) (Nat.le_of_ble_eq_true (by kernel_rfl)) (by kernel_rfl) h

/-- (headword.stand.Job).after -/
def W74 (x0 x1 x2 : AV) (H : Heap) (K : AV → Heap → Prop) : Prop :=
 letO (cellsOf? x0) fun c1 =>
 letO (some ((.int .i64 0) : AV)) fun t6 =>
 letO (faddr 1 (.iptr c1)) fun t8 =>
 letO (load1 t8 H) fun t9 =>
 letO (some (x2 : AV)) fun t10 =>
 letO (slc 1 t9 (some t10) none none) fun t11 =>
 letO (some (x1 : AV)) fun t12 =>
 ACalls Tryd.prog 38 [t11, t12] H fun t13 H2 =>
 letO (some (t13 : AV)) fun t7 =>
 letO (some (t7 : AV)) fun t14 =>
 letO (binF Tryd.prog .geq 3 t14 (.int .i64 0)) fun t15 =>
 condA t15 true (
 letO (some (x2 : AV)) fun t16 =>
 letO (some (t7 : AV)) fun t17 =>
 letO (binF Tryd.prog .add 3 t16 t17) fun t18 =>
 letO (some (t18 : AV)) fun t6 =>
endK t6 H2 K) (
 letO (some ((.int .i64 12) : AV)) fun t6 =>
endK t6 H2 K)

theorem W74_ok {x0 x1 x2 : AV} {H : Heap} {K : AV → Heap → Prop} (h : W74 x0 x1 x2 H K) : ACalls Tryd.prog 74 [x0, x1, x2] H K :=
  acallsB (fn := Tryd.f74) (cfg := cfgOf [] [] [] [] [] []) (hh := (.dir .nil (.dir (.dir .nil (.dir .nil (.dir .nil .nil))) .nil))) follows Tryd.func74 (by kernel_rfl) (Nat.le_of_ble_eq_true (by kernel_rfl)) (by kernel_rfl) h

/-- (headword.see.web).circles -/
def W77 (x0 x1 : AV) (H : Heap) (K : AV → Heap → Prop) : Prop :=
 letO (cellsOf? x0) fun c1 =>
 letO (cellsOf? x1) fun c2 =>
 allocA [.nilf] (fun t4 H3 =>
 letO (some (AV.fn 100 [(.iptr c1), (.iptr c2), t4])) fun t6 =>
 storeA 1 t4 t6 (fun H4 =>
 letO (faddr 0 (.iptr c1)) fun t7 =>
 letO (load1 t7 H4) fun t8 =>
 letO (some ((.int .i64 0) : AV)) fun t9 =>
 true = true ∧ ∃ (I5 : List AV → Heap → Prop) (μ6 : List AV → Heap → Nat), I5 [t9] H4 ∧ ∀ L7 H8, I5 L7 H8 → -- [t9]
 letO (binF Tryd.prog .lss 3 (L7.getD 0 .any) t8) fun t10 =>
 condA t10 true (
 letO (some ((L7.getD 0 .any) : AV)) fun t11 =>
 letO (some (t11 : AV)) fun t5 =>
 true = true ∧
 letO (load1 t4 H8) fun t12 =>
 letO (some (t5 : AV)) fun t13 =>
 letO (literalF Tryd.prog 35 1 [(0, t13)]) fun c9 =>
 letO (faddr 0 (.iptr c1)) fun t15 =>
 letO (load1 t15 Heap.none) fun t16 =>
 letO (binF Tryd.prog .shl 76 (.int .u64 1) t16) fun t17 =>
 letO (binF Tryd.prog .sub 76 t17 (.int .u64 1)) fun t18 =>
 letO (some (t5 : AV)) fun t19 =>
 letO (binF Tryd.prog .add 3 t19 (.int .i64 1)) fun t20 =>
 letO (binF Tryd.prog .shl 76 (.int .u64 1) t20) fun t21 =>
 letO (binF Tryd.prog .sub 76 t21 (.int .u64 1)) fun t22 =>
 letO (binF Tryd.prog .andNot 76 t18 t22) fun t23 =>
 callA Tryd.prog t12 [(.imm 1 true c9), t23] (fun t24 H10 =>
 letO (binF Tryd.prog .add 3 (L7.getD 0 .any) (.int .i64 1)) fun t25 =>
 letO (some (t25 : AV)) fun t9 =>
 I5 [t9] H10 ∧ μ6 [t9] H10 < μ6 L7 H8) H8) (
endK (.tup []) H8 K)) H3) H

theorem W77_ok {x0 x1 : AV} {H : Heap} {K : AV → Heap → Prop} (h : W77 x0 x1 H K) : ACalls Tryd.prog 77 [x0, x1] H K :=
  acallsB (fn := Tryd.f77) (cfg := cfgOf [] [16] [(6, [0, 0, 2, 0, 8, 24, 56, 0, 128, 384, 896, 2040, 4095])] [] [] []) (hh := (.dir .nil (.dir .nil (.dir .nil (.dir .nil (.blk (.loop [9] [10, 11, 5, 12, 13, 14, 15, 16, 17, 18, 19, 20, 21, 22, 23, 24, 25, 9] (.dir .nil (.dir .nil (.dir .nil .nil)))))))))) follows Tryd.func77 (by kernel_rfl) (Nat.le_of_ble_eq_true (by kernel_rfl)) (by kernel_rfl) h

/-- (headword.volume.Article).most -/
def W78 (x0 : AV) (H : Heap) (K : AV → Heap → Prop) : Prop :=
 letO (cellsOf? x0) fun c1 =>
 letO (some ((.int .i64 0) : AV)) fun t2 =>
 letO (faddr 1 (.iptr c1)) fun t3 =>
 letO (load1 t3 H) fun t4 =>
 letO (some (t4 : AV)) fun t2 =>
endK t2 H K

theorem W78_ok {x0 : AV} {H : Heap} {K : AV → Heap → Prop} (h : W78 x0 H K) : ACalls Tryd.prog 78 [x0] H K :=
  acallsB (fn := Tryd.f78) (cfg := cfgOf [] [] [] [] [] []) (hh := (.dir .nil .nil)) follows Tryd.func78 (by kernel_rfl) (Nat.le_of_ble_eq_true (by kernel_rfl)) (by kernel_rfl) h

/-- (headword.volume.lines).between -/
def W79 (x0 x1 x2 : AV) (H : Heap) (K : AV → Heap → Prop) : Prop :=
 letO (some ((.int .i64 0) : AV)) fun t6 =>
 true = true ∧
 letO (some (x0 : AV)) fun t7 =>
 letO (some (x2 : AV)) fun t8 =>
 letO (idx 1 t7 t8) fun t9 =>
 letO (load1 t9 H) fun t10 =>
 letO (some (x0 : AV)) fun t11 =>
 letO (some (x1 : AV)) fun t12 =>
 letO (idx 1 t11 t12) fun t13 =>
 letO (load1 t13 H) fun t14 =>
 letO (binF Tryd.prog .sub 3 t10 t14) fun t15 =>
 letO (some (t15 : AV)) fun t6 =>
endK t6 H K

theorem W79_ok {x0 x1 x2 : AV} {H : Heap} {K : AV → Heap → Prop} (h : W79 x0 x1 x2 H K) : ACalls Tryd.prog 79 [x0, x1, x2] H K :=
  acallsB (fn := Tryd.f79) (cfg := cfgOf [] [] [(1, [0, 0, 3, 7, 0, 0, 48, 112, 255, 511])] [] [] []) (hh := (.dir .nil .nil)) follows Tryd.func79 (by kernel_rfl) (Nat.le_of_ble_eq_true (by kernel_rfl)) (by kernel_rfl) h

/-- (headword.volume.lines).filled -/
def W80 (x0 x1 : AV) (H : Heap) (K : AV → Heap → Prop) : Prop :=
 letO (some (.nils : AV)) fun t4 =>
 letO (some (.nils : AV)) fun t5 =>
 letO (some ((.int .i64 0) : AV)) fun t6 =>
 letO (some ((.int .i64 1) : AV)) fun t7 =>
 true = true ∧ ∃ (I1 : List AV → Heap → Prop) (μ2 : List AV → Heap → Nat), I1 [t6, t5, t7] H ∧ ∀ L3 H4, I1 L3 H4 → -- [t6, t5, t7]
 letO (some ((L3.getD 2 .any) : AV)) fun t8 =>
 letO (some (x0 : AV)) fun t9 =>
 letO (lenA t9) fun t10 =>
 letO (binF Tryd.prog .lss 3 t8 t10) fun t11 =>
 condA t11 true (
 true = true ∧ ∃ J5 : List AV → Heap → Prop, (
 letO (some (x0 : AV)) fun t14 =>
 letO (some ((L3.getD 2 .any) : AV)) fun t15 =>
 letO (binF Tryd.prog .sub 3 t15 (.int .i64 1)) fun t16 =>
 letO (some ((L3.getD 2 .any) : AV)) fun t17 =>
 ACalls Tryd.prog 79 [t14, t16, t17] H4 fun t18 H6 =>
 letO (some (x1 : AV)) fun t19 =>
 letO (binF Tryd.prog .gtr 3 t18 t19) fun t20 =>
 condA t20 true (
 letO (some (.nils : AV)) fun t4 =>
endK t4 H6 K) (
 letO (some (x0 : AV)) fun t21 =>
 letO (some ((L3.getD 0 .any) : AV)) fun t22 =>
 letO (some ((L3.getD 2 .any) : AV)) fun t23 =>
 ACalls Tryd.prog 79 [t21, t22, t23] H6 fun t24 H7 =>
 letO (some (x1 : AV)) fun t25 =>
 letO (binF Tryd.prog .gtr 3 t24 t25) fun t26 =>
 condA t26 true (
 letO (some ((L3.getD 2 .any) : AV)) fun t27 =>
 letO (binF Tryd.prog .sub 3 t27 (.int .i64 1)) fun t28 =>
 letO (some (t28 : AV)) fun t6 =>
 letO (some ((L3.getD 1 .any) : AV)) fun t29 =>
 letO (some (t6 : AV)) fun t30 =>
 letO (literalF Tryd.prog 35 1 [(0, t30)]) fun c8 =>
 appendA 1 8 t29 (.imm 1 true c8) (fun t32 H9 =>
 letO (some (t32 : AV)) fun t5 =>
 J5 [t6, t5] H9) H7) (
 J5 [(L3.getD 0 .any), (L3.getD 1 .any)] H7))) ∧ ∀ L10 H11, J5 L10 H11 → -- [t6, t5]
 letO (some ((L3.getD 2 .any) : AV)) fun t12 =>
 letO (binF Tryd.prog .add 3 t12 (.int .i64 1)) fun t13 =>
 letO (some (t13 : AV)) fun t7 =>
 I1 [(L10.getD 0 .any), (L10.getD 1 .any), t7] H11 ∧ μ2 [(L10.getD 0 .any), (L10.getD 1 .any), t7] H11 < μ2 L3 H4) (
 letO (some ((L3.getD 1 .any) : AV)) fun t33 =>
 letO (some (x0 : AV)) fun t34 =>
 letO (lenA t34) fun t35 =>
 letO (binF Tryd.prog .sub 3 t35 (.int .i64 1)) fun t36 =>
 letO (literalF Tryd.prog 35 1 [(0, t36)]) fun c12 =>
 appendA 1 8 t33 (.imm 1 true c12) (fun t38 H13 =>
 letO (some (t38 : AV)) fun t4 =>
endK t4 H13 K) H4)

theorem W80_ok {x0 x1 : AV} {H : Heap} {K : AV → Heap → Prop} (h : W80 x0 x1 H K) : ACalls Tryd.prog 80 [x0, x1] H K :=
  acallsB (fn := Tryd.f80) (cfg := cfgOf [] [] [] [] [] []) (hh := (.dir .nil (.dir .nil (.dir .nil (.dir (.dir .nil (.blk (.loop [6, 5, 7] [8, 9, 10, 11, 14, 15, 16, 17, 18, 19, 20, 4, 21, 22, 23, 24, 25, 26, 27, 28, 6, 29, 30, 31, 32, 5, 12, 13, 7] (.dir (.dir .nil .nil) (.cut [6, 5] [14, 15, 16, 17, 18, 19, 20, 4, 21, 22, 23, 24, 25, 26, 27, 28, 6, 29, 30, 31, 32, 5] (.blk (.dir (.dir .nil (.dir .nil .nil)) (.dir .nil (.dir .nil .nil)))) .nil))))) .nil))))) follows Tryd.func80 (by kernel_rfl) (Nat.le_of_ble_eq_true (by kernel_rfl)) (by kernel_rfl) h

/-- headword.volume.opened -/
def W81 (x0 x1 : AV) (H : Heap) (K : AV → Heap → Prop) : Prop :=
 letO (cellsOf? x0) fun c1 =>
 letO (some ((.int .i64 0) : AV)) fun t4 =>
 letO (loadN 3 (.iptr c1) H) fun t9 =>
 ACalls Tryd.prog 27 [t9] H fun t10 H2 =>
 letO (some (t10 : AV)) fun t5 =>
 letO (some (t5 : AV)) fun t11 =>
 letO (binF Tryd.prog .neq 32 t11 (.int .i64 0)) fun t12 =>
 condA t12 true (
 letO (some (t5 : AV)) fun t13 =>
 letO (some (t13 : AV)) fun t4 =>
endK t4 H2 K) (
 letO (some ((.int .i64 0) : AV)) fun t6 =>
 letO (some (x1 : AV)) fun t14 =>
 letO (lenA t14) fun t15 =>
 letO (some ((.int .i64 0) : AV)) fun t16 =>
 true = true ∧ ∃ (I3 : List AV → Heap → Prop) (μ4 : List AV → Heap → Nat), I3 [t6, t16] H2 ∧ ∀ L5 H6, I3 L5 H6 → -- [t6, t16]
 letO (binF Tryd.prog .lss 3 (L5.getD 1 .any) t15) fun t17 =>
 condA t17 true (
 letO (some ((L5.getD 1 .any) : AV)) fun t18 =>
 letO (idx 1 t14 (L5.getD 1 .any)) fun t19 =>
 letO (load1 t19 H6) fun t20 =>
 letO (some (t18 : AV)) fun t7 =>
 letO (some (t20 : AV)) fun t8 =>
 letO (some (t8 : AV)) fun t22 =>
 letO (binF Tryd.prog .lss 3 t22 (.int .i64 1)) fun t23 =>
 letO (some (t23 : AV)) fun t24 =>
 letO (gval t24 false (some (t8 : AV))) fun t25 =>
 letO (gval t24 false (faddr 0 (.iptr c1))) fun t26 =>
 letO (gval t24 false (load1 t26 H6)) fun t27 =>
 letO (gval t24 false (lenA t27)) fun t28 =>
 letO (gval t24 false (binF Tryd.prog .gtr 3 t25 t28)) fun t29 =>
 letO (pickF t24 (.bool true) t29) fun t30 =>
 letO (some (t30 : AV)) fun t21 =>
 condA t21 true (
 letO (some ((.int .i64 2) : AV)) fun t4 =>
endK t4 H6 K) (
 letO (some (t7 : AV)) fun t32 =>
 letO (binF Tryd.prog .gtr 3 t32 (.int .i64 0)) fun t33 =>
 letO (some (t33 : AV)) fun t34 =>
 letO (gval t34 true (some (t8 : AV))) fun t35 =>
 letO (gval t34 true (some ((L5.getD 0 .any) : AV))) fun t36 =>
 letO (gval t34 true (binF Tryd.prog .leq 3 t35 t36)) fun t37 =>
 letO (pickF t34 t37 (.bool false)) fun t38 =>
 letO (some (t38 : AV)) fun t31 =>
 condA t31 true (
 letO (some ((.int .i64 7) : AV)) fun t4 =>
endK t4 H6 K) (
 letO (some (t8 : AV)) fun t39 =>
 letO (some (t39 : AV)) fun t6 =>
 letO (binF Tryd.prog .add 3 (L5.getD 1 .any) (.int .i64 1)) fun t40 =>
 letO (some (t40 : AV)) fun t16 =>
 I3 [t6, t16] H6 ∧ μ4 [t6, t16] H6 < μ4 L5 H6))) (
 letO (some ((L5.getD 0 .any) : AV)) fun t41 =>
 letO (faddr 0 (.iptr c1)) fun t42 =>
 letO (load1 t42 H6) fun t43 =>
 letO (lenA t43) fun t44 =>
 letO (binF Tryd.prog .neq 3 t41 t44) fun t45 =>
 condA t45 true (
 letO (some ((.int .i64 5) : AV)) fun t4 =>
endK t4 H6 K) (
 letO (some ((.int .i64 0) : AV)) fun t4 =>
endK t4 H6 K)))

theorem W81_ok {x0 x1 : AV} {H : Heap} {K : AV → Heap → Prop} (h : W81 x0 x1 H K) : ACalls Tryd.prog 81 [x0, x1] H K :=
  acallsB (fn := Tryd.f81) (cfg := cfgOf [] [] [] [] [] []) (hh := (.dir .nil (.dir (.dir .nil (.dir .nil (.dir .nil .nil))) (.dir .nil (.dir (.dir .nil (.blk (.loop [6, 16] [17, 18, 19, 20, 7, 8, 22, 23, 24, 25, 26, 27, 28, 29, 30, 21, 4, 32, 33, 34, 35, 36, 37, 38, 31, 39, 6, 40, 16] (.dir .nil (.dir .nil (.dir (.blk (.dir .nil (.dir (.blk (.dir .nil (.dir .nil (.dir .nil (.dir .nil .nil))))) .nil))) .nil)))))) (.dir (.dir .nil (.dir .nil .nil)) .nil)))))) follows Tryd.func81 (by kernel_rfl) (Nat.le_of_ble_eq_true (by kernel_rfl)) (by kernel_rfl) h

/-- (headword.volume.Book).over -/
def W82 (x0 x1 x2 : AV) (H : Heap) (K : AV → Heap → Prop) : Prop :=
 letO (cellsOf? x0) fun c1 =>
 letO (some ((.int .i64 0) : AV)) fun t6 =>
 letO (loadN 3 (.iptr c1) H) fun t7 =>
 letO (some (x2 : AV)) fun t8 =>
 ACalls Tryd.prog 54 [t7, t8] H fun t9 H2 =>
 letO (some (x1 : AV)) fun t10 =>
 letO (some (AV.fn 101 [(.iptr c1)])) fun t11 =>
 ACalls Tryd.prog 56 [t9, t10, t11] H2 fun t12 H3 =>
 letO (some (t12 : AV)) fun t6 =>
endK t6 H3 K

theorem W82_ok {x0 x1 x2 : AV} {H : Heap} {K : AV → Heap → Prop} (h : W82 x0 x1 x2 H K) : ACalls Tryd.prog 82 [x0, x1, x2] H K :=
  acallsB (fn := Tryd.f82) (cfg := cfgOf [] [] [] [] [] []) (hh := (.dir .nil .nil)) follows Tryd.func82 (by kernel_rfl) (Nat.le_of_ble_eq_true (by kernel_rfl)) (by kernel_rfl) h

/-- slices.IndexFunc[[]int,int] -/
def W98 (x0 x1 : AV) (H : Heap) (K : AV → Heap → Prop) : Prop :=
 letO (some ((.int .i64 0) : AV)) fun t4 =>
 letO (some (x0 : AV)) fun t6 =>
 letO (lenA t6) fun t7 =>
 letO (some ((.int .i64 0) : AV)) fun t8 =>
 true = true ∧ ∃ (I1 : List AV → Heap → Prop) (μ2 : List AV → Heap → Nat), I1 [t8] H ∧ ∀ L3 H4, I1 L3 H4 → -- [t8]
 letO (binF Tryd.prog .lss 3 (L3.getD 0 .any) t7) fun t9 =>
 condA t9 true (
 letO (some ((L3.getD 0 .any) : AV)) fun t10 =>
 letO (some (t10 : AV)) fun t5 =>
 letO (some (x1 : AV)) fun t11 =>
 letO (some (x0 : AV)) fun t12 =>
 letO (some (t5 : AV)) fun t13 =>
 letO (idx 1 t12 t13) fun t14 =>
 letO (load1 t14 H4) fun t15 =>
 callA Tryd.prog t11 [t15] (fun t16 H5 =>
 condA t16 true (
 letO (some (t5 : AV)) fun t17 =>
 letO (some (t17 : AV)) fun t4 =>
endK t4 H5 K) (
 letO (binF Tryd.prog .add 3 (L3.getD 0 .any) (.int .i64 1)) fun t18 =>
 letO (some (t18 : AV)) fun t8 =>
 I1 [t8] H5 ∧ μ2 [t8] H5 < μ2 L3 H4)) H4) (
 letO (some ((.int .i64 (-1)) : AV)) fun t4 =>
endK t4 H4 K)

theorem W98_ok {x0 x1 : AV} {H : Heap} {K : AV → Heap → Prop} (h : W98 x0 x1 H K) : ACalls Tryd.prog 98 [x0, x1] H K :=
  acallsB (fn := Tryd.f98) (cfg := cfgOf [] [] [] [] [] []) (hh := (.dir .nil (.dir (.dir .nil (.blk (.loop [8] [9, 10, 5, 11, 12, 13, 14, 15, 16, 17, 4, 18, 8] (.dir .nil (.dir .nil (.dir (.blk (.dir .nil (.dir .nil (.dir .nil .nil)))) .nil)))))) .nil))) follows Tryd.func98 (by kernel_rfl) (Nat.le_of_ble_eq_true (by kernel_rfl)) (by kernel_rfl) h

/-- math.bits.OnesCount -/
def W99 (x0 : AV) (H : Heap) (K : AV → Heap → Prop) : Prop :=
 letO (some ((.int .i64 0) : AV)) fun t2 =>
 condA (.bool false) true (
 letO (some (x0 : AV)) fun t3 =>
 letO (convF Tryd.prog 76 139 t3) fun t4 =>
 ACalls Tryd.prog 109 [t4] H fun t5 H1 =>
 letO (some (t5 : AV)) fun t2 =>
endK t2 H1 K) (
 letO (some (x0 : AV)) fun t6 =>
 ACalls Tryd.prog 110 [t6] H fun t7 H2 =>
 letO (some (t7 : AV)) fun t2 =>
endK t2 H2 K)

theorem W99_ok {x0 : AV} {H : Heap} {K : AV → Heap → Prop} (h : W99 x0 H K) : ACalls Tryd.prog 99 [x0] H K :=
  acallsB (fn := Tryd.f99) (cfg := cfgOf [] [] [] [] [] []) (hh := (.dir .nil (.dir (.dir .nil .nil) .nil))) follows Tryd.func99 (by kernel_rfl) (Nat.le_of_ble_eq_true (by kernel_rfl)) (by kernel_rfl) h

/-- (headword.see.web).circles$1 -/
def W100 (x0 x1 x2 x3 x4 : AV) (H : Heap) (K : AV → Heap → Prop) : Prop :=
 letO (some (x0 : AV)) fun t10 =>
 letO (some (x0 : AV)) fun t11 =>
 letO (lenA t11) fun t12 =>
 letO (binF Tryd.prog .sub 3 t12 (.int .i64 1)) fun t13 =>
 letO (idx 1 t10 t13) fun t14 =>
 letO (load1 t14 H) fun t15 =>
 letO (faddr 1 x2) fun t16 =>
 letO (idxArr 7 1 t16 t15) fun t17 =>
 letO (load1 t17 H) fun t18 =>
 letO (some (t18 : AV)) fun t7 =>
 true = true ∧ ∃ J1 : List AV → Heap → Prop, (
 letO (some (x0 : AV)) fun t19 =>
 letO (lenA t19) fun t20 =>
 letO (binF Tryd.prog .gtr 3 t20 (.int .i64 1)) fun t21 =>
 letO (some (t21 : AV)) fun t22 =>
 letO (gval t22 true (some (t7 : AV))) fun t23 =>
 letO (gval t22 true (some (x0 : AV))) fun t24 =>
 letO (gval t22 true (idx 1 t24 (.int .i64 0))) fun t25 =>
 letO (gval t22 true (load1 t25 H)) fun t26 =>
 letO (gval t22 true (binF Tryd.prog .shr 76 t23 t26)) fun t27 =>
 letO (gval t22 true (binF Tryd.prog .and 76 t27 (.int .u64 1))) fun t28 =>
 letO (gval t22 true (binF Tryd.prog .eql 76 t28 (.int .u64 1))) fun t29 =>
 letO (pickF t22 t29 (.bool false)) fun t30 =>
 condA t30 true (
 letO (load1 x3 H) fun t31 =>
 letO (some (x0 : AV)) fun t32 =>
 False) (
 J1 [] H)) ∧ ∀ L2 H3, J1 L2 H3 → -- []
 letO (some (t7 : AV)) fun t34 =>
 letO (some (x1 : AV)) fun t35 =>
 letO (binF Tryd.prog .and 76 t34 t35) fun t36 =>
 letO (some (t36 : AV)) fun t8 =>
 true = true ∧ ∃ (I4 : List AV → Heap → Prop) (μ5 : List AV → Heap → Nat), I4 [t8] H3 ∧ ∀ L6 H7, I4 L6 H7 → -- [t8]
 letO (some ((L6.getD 0 .any) : AV)) fun t37 =>
 letO (binF Tryd.prog .neq 76 t37 (.int .u64 0)) fun t38 =>
 condA t38 true (
 letO (some ((L6.getD 0 .any) : AV)) fun t43 =>
 ACalls Tryd.prog 48 [t43] H7 fun t44 H8 =>
 letO (some (t44 : AV)) fun t9 =>
 true = true ∧ ∃ HQ9 : Heap, HQ9.le H8 ∧
 letO (load1 x4 HQ9) fun t45 =>
 letO (some (x0 : AV)) fun t46 =>
 letO (some (t9 : AV)) fun t47 =>
 letO ((literalF Tryd.prog 35 1 [(0, t47)]).map (.imm 1 true)) fun t48 =>
 letO (some (x1 : AV)) fun t50 =>
 letO (some (t9 : AV)) fun t51 =>
 letO (binF Tryd.prog .shl 76 (.int .u64 1) t51) fun t52 =>
 letO (binF Tryd.prog .andNot 76 t50 t52) fun t53 =>
 true = true ∧ appendA 1 8 t46 t48 (fun t49 H10 =>
 HQ9.le H10 ∧
 true = true ∧ callA Tryd.prog t45 [t49, t53] (fun t54 H11 =>
 HQ9.le H11 ∧
 letO (some ((L6.getD 0 .any) : AV)) fun t39 =>
 letO (some ((L6.getD 0 .any) : AV)) fun t40 =>
 letO (binF Tryd.prog .sub 76 t40 (.int .u64 1)) fun t41 =>
 letO (binF Tryd.prog .and 76 t39 t41) fun t42 =>
 letO (some (t42 : AV)) fun t8 =>
 I4 [t8] H11 ∧ μ5 [t8] H11 < μ5 L6 H7) H10) H8) (
endK (.tup []) H7 K)

theorem W100_ok {x0 x1 x2 x3 x4 : AV} {H : Heap} {K : AV → Heap → Prop} (h : W100 x0 x1 x2 x3 x4 H K) : ACalls Tryd.prog 100 [x0, x1, x2, x3, x4] H K :=
  acallsB (fn := Tryd.f100) (cfg := cfgOf [] [] [(7, [0, 0, 0, 4, 14, 0, 0, 64, 224, 511])] [54] [] []) (hh := (.dir .nil (.cut [] [19, 20, 21, 22, 23, 24, 25, 26, 27, 28, 29, 30, 31, 32, 33] (.dir .nil .nil) (.dir .nil (.blk (.loop [8] [37, 38, 43, 44, 9, 45, 46, 47, 48, 49, 50, 51, 52, 53, 54, 39, 40, 41, 42, 8] (.dir (.dir .nil .nil) (.dir .nil .nil)))))))) follows Tryd.func100 (by kernel_rfl) (Nat.le_of_ble_eq_true (by kernel_rfl)) (by kernel_rfl) h

/-- (headword.volume.Book).over$1 -/
def W101 (x0 x1 : AV) (H : Heap) (K : AV → Heap → Prop) : Prop :=
 letO (some ((.bool false) : AV)) fun t3 =>
 letO (some (x0 : AV)) fun t4 =>
 letO (faddr 1 x1) fun t5 =>
 letO (load1 t5 H) fun t6 =>
 letO (binF Tryd.prog .gtr 3 t4 t6) fun t7 =>
 letO (some (t7 : AV)) fun t3 =>
endK t3 H K

theorem W101_ok {x0 x1 : AV} {H : Heap} {K : AV → Heap → Prop} (h : W101 x0 x1 H K) : ACalls Tryd.prog 101 [x0, x1] H K :=
  acallsB (fn := Tryd.f101) (cfg := cfgOf [] [] [] [] [] []) (hh := (.dir .nil .nil)) follows Tryd.func101 (by kernel_rfl) (Nat.le_of_ble_eq_true (by kernel_rfl)) (by kernel_rfl) h

/-- math.bits.OnesCount64 -/
def W110 (x0 : AV) (H : Heap) (K : AV → Heap → Prop) : Prop :=
 letO (some ((.int .i64 0) : AV)) fun t2 =>
 letO (some (x0 : AV)) fun t3 =>
 letO (binF Tryd.prog .shr 141 t3 (.int .u64 1)) fun t4 =>
 letO (binF Tryd.prog .and 141 t4 (.int .u64 6148914691236517205)) fun t5 =>
 letO (some (x0 : AV)) fun t6 =>
 letO (binF Tryd.prog .and 141 t6 (.int .u64 6148914691236517205)) fun t7 =>
 letO (binF Tryd.prog .add 141 t5 t7) fun t8 =>
 letO (some (t8 : AV)) fun t0 =>
 letO (some (t0 : AV)) fun t9 =>
 letO (binF Tryd.prog .shr 141 t9 (.int .u64 2)) fun t10 =>
 letO (binF Tryd.prog .and 141 t10 (.int .u64 3689348814741910323)) fun t11 =>
 letO (some (t0 : AV)) fun t12 =>
 letO (binF Tryd.prog .and 141 t12 (.int .u64 3689348814741910323)) fun t13 =>
 letO (binF Tryd.prog .add 141 t11 t13) fun t14 =>
 letO (some (t14 : AV)) fun t0 =>
 letO (some (t0 : AV)) fun t15 =>
 letO (binF Tryd.prog .shr 141 t15 (.int .u64 4)) fun t16 =>
 letO (some (t0 : AV)) fun t17 =>
 letO (binF Tryd.prog .add 141 t16 t17) fun t18 =>
 letO (binF Tryd.prog .and 141 t18 (.int .u64 1085102592571150095)) fun t19 =>
 letO (some (t19 : AV)) fun t0 =>
 letO (some (t0 : AV)) fun t20 =>
 letO (some (t0 : AV)) fun t21 =>
 letO (binF Tryd.prog .shr 141 t21 (.int .u64 8)) fun t22 =>
 letO (binF Tryd.prog .add 141 t20 t22) fun t23 =>
 letO (some (t23 : AV)) fun t0 =>
 letO (some (t0 : AV)) fun t24 =>
 letO (some (t0 : AV)) fun t25 =>
 letO (binF Tryd.prog .shr 141 t25 (.int .u64 16)) fun t26 =>
 letO (binF Tryd.prog .add 141 t24 t26) fun t27 =>
 letO (some (t27 : AV)) fun t0 =>
 letO (some (t0 : AV)) fun t28 =>
 letO (some (t0 : AV)) fun t29 =>
 letO (binF Tryd.prog .shr 141 t29 (.int .u64 32)) fun t30 =>
 letO (binF Tryd.prog .add 141 t28 t30) fun t31 =>
 letO (some (t31 : AV)) fun t0 =>
 letO (some (t0 : AV)) fun t32 =>
 letO (convF Tryd.prog 141 3 t32) fun t33 =>
 letO (binF Tryd.prog .and 3 t33 (.int .i64 127)) fun t34 =>
 letO (some (t34 : AV)) fun t2 =>
endK t2 H K

theorem W110_ok {x0 : AV} {H : Heap} {K : AV → Heap → Prop} (h : W110 x0 H K) : ACalls Tryd.prog 110 [x0] H K :=
  acallsB (fn := Tryd.f110) (cfg := cfgOf [] [] [] [] [] []) (hh := (.dir .nil (.dir .nil (.dir .nil (.dir .nil (.dir .nil (.dir .nil (.dir .nil .nil)))))))) follows Tryd.func110 (by kernel_rfl) (Nat.le_of_ble_eq_true (by kernel_rfl)) (by kernel_rfl) h


end Go.Proofs.YtmmfelpgcdlgfaaDoor
