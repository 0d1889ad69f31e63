import Derived.Test.YtmmfelpgcdlgfaaDoorConB
/- The functions of the statement TopMutual that the common text does not hold, each in the words of its walk; made by program. -/
set_option linter.unusedVariables false
set_option maxRecDepth 100000
namespace Go.Proofs.YtmmfelpgcdlgfaaDoor
open Go.Av
/-- headword.headwordtop.TopMutual -/
def W3 (x0 x1 : AV) (H : Heap) (K : AV → Heap → Prop) : Prop :=
 letO (cellsOf? x1) fun c1 =>
 letO (some ((.bool false) : AV)) fun t4 =>
 letO (some (x0 : AV)) fun t23 =>
 letO (convF Tryd.prog 5 3 t23) fun t24 =>
 letO (binF Tryd.prog .rem 3 t24 (.int .i64 7)) fun t25 =>
 letO (binF Tryd.prog .add 3 (.int .i64 1) t25) fun t26 =>
 letO (some (t26 : AV)) fun t5 =>
 letO (some (t5 : AV)) fun t27 =>
 letO (some (t5 : AV)) fun t28 =>
 letO (loadN 16 (.iptr c1) H) fun t29 =>
 ACalls Tryd.prog 8 [t28, (.int .i64 8), t29] H fun t30 H2 =>
 letO (buildF Tryd.prog 27 [(0, t27), (1, t30)]) fun t31 =>
 allocA [(.int .i64 0), .nils] (fun t6 H3 =>
 storeA 2 t6 t31 (fun H4 =>
 letO (some (t5 : AV)) fun t32 =>
 letO (buildF Tryd.prog 29 [(0, t32)]) fun t33 =>
 allocA [(.int .i64 0), .nils] (fun t7 H5 =>
 storeA 2 t7 t33 (fun H6 =>
 letO (faddr 1 t6) fun t34 =>
 letO (load1 t34 H6) fun t35 =>
 letO (lenA t35) fun t36 =>
 letO (some ((.int .i64 0) : AV)) fun t37 =>
 true = true ∧ ∃ (I7 : List AV → Heap → Prop) (μ8 : List AV → Heap → Nat), I7 [t37] H6 ∧ ∀ L9 H10, I7 L9 H10 → -- [t37]
 letO (binF Tryd.prog .lss 3 (L9.getD 0 .any) t36) fun t38 =>
 condA t38 true (
 letO (idx 2 t35 (L9.getD 0 .any)) fun t39 =>
 letO (loadN 2 t39 H10) fun t40 =>
 allocA [(.int .i64 0), (.int .i64 0)] (fun t9 H11 =>
 storeA 2 t9 t40 (fun H12 =>
 letO (faddr 1 t7) fun t41 =>
 letO (load1 t41 H12) fun t42 =>
 letO (loadN 2 t9 H12) fun t43 =>
 letO (idxArr 2 1 t9 (.int .i64 1)) fun t44 =>
 letO (load1 t44 H12) fun t45 =>
 letO (idxArr 2 1 t9 (.int .i64 0)) fun t46 =>
 letO (load1 t46 H12) fun t47 =>
 letO (buildF Tryd.prog 30 [(0, t45), (1, t47)]) fun t48 =>
 letO (literalF Tryd.prog 24 2 [(0, t43), (1, t48)]) fun c13 =>
 appendA 2 16 t42 (.imm 2 true c13) (fun t50 H14 =>
 letO (faddr 1 t7) fun t51 =>
 storeA 1 t51 t50 (fun H15 =>
 letO (binF Tryd.prog .add 3 (L9.getD 0 .any) (.int .i64 1)) fun t52 =>
 letO (some (t52 : AV)) fun t37 =>
 I7 [t37] H15 ∧ μ8 [t37] H15 < μ8 L9 H10) H14) H12) H11) H10) (
 letO (loadN 2 t7 H10) fun t54 =>
 ACalls Tryd.prog 9 [t54] H10 fun t55 H16 =>
 letO (some (t55 : AV)) fun t53 =>
 letO (extrF t53 0) fun t56 =>
 letO (extrF t53 1) fun t57 =>
 letO (some (t56 : AV)) fun t10 =>
 letO (some (t57 : AV)) fun t11 =>
 letO (loadN 2 t6 H16) fun t59 =>
 ACalls Tryd.prog 10 [t59] H16 fun t60 H17 =>
 letO (some (t60 : AV)) fun t58 =>
 letO (extrF t58 0) fun t61 =>
 letO (extrF t58 1) fun t62 =>
 letO (some (t61 : AV)) fun t12 =>
 letO (some (t62 : AV)) fun t13 =>
 letO (loadN 2 t6 H17) fun t64 =>
 ACalls Tryd.prog 11 [t64] H17 fun t65 H18 =>
 letO (some (t65 : AV)) fun t63 =>
 letO (extrF t63 0) fun t66 =>
 letO (extrF t63 1) fun t67 =>
 letO (some (t66 : AV)) fun t14 =>
 letO (some (t67 : AV)) fun t15 =>
 letO (some (t11 : AV)) fun t68 =>
 letO (binF Tryd.prog .neq 32 t68 (.int .i64 0)) fun t69 =>
 letO (some (t69 : AV)) fun t70 =>
 letO (gval t70 false (some (t13 : AV))) fun t71 =>
 letO (gval t70 false (binF Tryd.prog .neq 32 t71 (.int .i64 0))) fun t72 =>
 letO (pickF t70 (.bool true) t72) fun t73 =>
 letO (some (t73 : AV)) fun t74 =>
 letO (gval t74 false (some (t15 : AV))) fun t75 =>
 letO (gval t74 false (binF Tryd.prog .neq 32 t75 (.int .i64 0))) fun t76 =>
 letO (pickF t74 (.bool true) t76) fun t77 =>
 condA t77 true (
 letO (some ((.bool false) : AV)) fun t4 =>
endK t4 H18 K) (
 letO (some ((.int .i64 0) : AV)) fun t16 =>
 letO (some ((.int .i64 0) : AV)) fun t17 =>
 letO (some ((.bool false) : AV)) fun t18 =>
 letO (some (t10 : AV)) fun t78 =>
 letO (lenA t78) fun t79 =>
 letO (some ((.int .i64 0) : AV)) fun t80 =>
 true = true ∧ ∃ (I19 : List AV → Heap → Prop) (μ20 : List AV → Heap → Nat), I19 [t16, t17, t18, t80] H18 ∧ ∀ L21 H22, I19 L21 H22 → -- [t16, t17, t18, t80]
 letO (binF Tryd.prog .lss 3 (L21.getD 3 .any) t79) fun t81 =>
 condA t81 true (
 true = true ∧ ∃ J23 : List AV → Heap → Prop, (
 letO (idx 1 t78 (L21.getD 3 .any)) fun t82 =>
 letO (load1 t82 H22) fun t83 =>
 letO (some (t83 : AV)) fun t20 =>
 true = true ∧ ∃ J24 : List AV → Heap → Prop, (
 letO (some (t20 : AV)) fun t84 =>
 letO (lenA t84) fun t85 =>
 letO (some ((L21.getD 0 .any) : AV)) fun t86 =>
 letO (binF Tryd.prog .gtr 3 t85 t86) fun t87 =>
 condA t87 true (
 letO (some (t20 : AV)) fun t88 =>
 letO (lenA t88) fun t89 =>
 letO (some (t89 : AV)) fun t16 =>
 letO (some ((.int .i64 0) : AV)) fun t17 =>
 letO (some ((.bool false) : AV)) fun t18 =>
 J24 [t16, t17, t18] H22) (
 J24 [(L21.getD 0 .any), (L21.getD 1 .any), (L21.getD 2 .any)] H22)) ∧ ∀ L25 H26, J24 L25 H26 → -- [t16, t17, t18]
 letO (some (t20 : AV)) fun t90 =>
 letO (lenA t90) fun t91 =>
 letO (some ((L25.getD 0 .any) : AV)) fun t92 =>
 letO (binF Tryd.prog .lss 3 t91 t92) fun t93 =>
 condA t93 true (
 J23 [(L25.getD 0 .any), (L25.getD 1 .any), (L25.getD 2 .any)] H26) (
 letO (some ((L25.getD 1 .any) : AV)) fun t94 =>
 letO (binF Tryd.prog .add 3 t94 (.int .i64 1)) fun t95 =>
 letO (some (t95 : AV)) fun t17 =>
 letO (some (.nils : AV)) fun t21 =>
 letO (some (t5 : AV)) fun t96 =>
 letO (some ((.int .i64 0) : AV)) fun t97 =>
 true = true ∧ ∃ (I27 : List AV → Heap → Prop) (μ28 : List AV → Heap → Nat), I27 [t21, t97] H26 ∧ ∀ L29 H30, I27 L29 H30 → -- [t21, t97]
 letO (binF Tryd.prog .lss 3 (L29.getD 1 .any) t96) fun t98 =>
 condA t98 true (
 true = true ∧ ∃ J31 : List AV → Heap → Prop, (
 letO (some ((L29.getD 1 .any) : AV)) fun t99 =>
 letO (some (t99 : AV)) fun t22 =>
 letO (some (t20 : AV)) fun t100 =>
 letO (some (t22 : AV)) fun t101 =>
 ACalls Tryd.prog 12 [t100, t101] H30 fun t102 H32 =>
 letO (unF .not t102) fun t103 =>
 condA t103 true (
 letO (some ((L29.getD 0 .any) : AV)) fun t104 =>
 letO (some (t22 : AV)) fun t105 =>
 letO (literalF Tryd.prog 35 1 [(0, t105)]) fun c33 =>
 appendA 1 8 t104 (.imm 1 true c33) (fun t107 H34 =>
 letO (some (t107 : AV)) fun t21 =>
 J31 [t21] H34) H32) (
 J31 [(L29.getD 0 .any)] H32)) ∧ ∀ L35 H36, J31 L35 H36 → -- [t21]
 letO (binF Tryd.prog .add 3 (L29.getD 1 .any) (.int .i64 1)) fun t108 =>
 letO (some (t108 : AV)) fun t97 =>
 I27 [(L35.getD 0 .any), t97] H36 ∧ μ28 [(L35.getD 0 .any), t97] H36 < μ28 L29 H30) (
 letO (loadN 2 t6 H30) fun t109 =>
 letO (some ((L29.getD 0 .any) : AV)) fun t110 =>
 ACalls Tryd.prog 13 [t109, t110] H30 fun t111 H37 =>
 letO (binF Tryd.prog .neq 32 t111 (.int .i64 0)) fun t112 =>
 condA t112 true (
 letO (some ((.bool false) : AV)) fun t4 =>
endK t4 H37 K) (
 letO (some ((L25.getD 2 .any) : AV)) fun t113 =>
 letO (some (t113 : AV)) fun t114 =>
 letO (gval t114 false (some ((L29.getD 0 .any) : AV))) fun t115 =>
 letO (gval t114 false (some (t12 : AV))) fun t116 =>
 ∃ J38 : AV → Heap → Prop, condG t114 false (ACalls Tryd.prog 14 [t115, t116] H37 fun t117 H39 =>
 J38 t117 H39) (J38 (.tup []) H37) ∧ ∀ t117 H40, J38 t117 H40 →
 letO (pickF t114 (.bool true) t117) fun t118 =>
 letO (some (t118 : AV)) fun t18 =>
 J23 [(L25.getD 0 .any), t17, t18] H40)))) ∧ ∀ L41 H42, J23 L41 H42 → -- [t16, t17, t18]
 letO (binF Tryd.prog .add 3 (L21.getD 3 .any) (.int .i64 1)) fun t119 =>
 letO (some (t119 : AV)) fun t80 =>
 I19 [(L41.getD 0 .any), (L41.getD 1 .any), (L41.getD 2 .any), t80] H42 ∧ μ20 [(L41.getD 0 .any), (L41.getD 1 .any), (L41.getD 2 .any), t80] H42 < μ20 L21 H22) (
 letO (some ((L21.getD 2 .any) : AV)) fun t120 =>
 letO (some (t120 : AV)) fun t121 =>
 letO (gval t121 true (some (t14 : AV))) fun t122 =>
 letO (gval t121 true (some ((L21.getD 1 .any) : AV))) fun t123 =>
 letO (gval t121 true (binF Tryd.prog .eql 3 t122 t123)) fun t124 =>
 letO (pickF t121 t124 (.bool false)) fun t125 =>
 letO (some (t125 : AV)) fun t126 =>
 letO (gval t126 true (some (t12 : AV))) fun t127 =>
 letO (gval t126 true (lenA t127)) fun t128 =>
 letO (gval t126 true (some (t5 : AV))) fun t129 =>
 letO (gval t126 true (some ((L21.getD 0 .any) : AV))) fun t130 =>
 letO (gval t126 true (binF Tryd.prog .sub 3 t129 t130)) fun t131 =>
 letO (gval t126 true (binF Tryd.prog .eql 3 t128 t131)) fun t132 =>
 letO (pickF t126 t132 (.bool false)) fun t133 =>
 letO (some (t133 : AV)) fun t134 =>
 ∃ J43 : AV → Heap → Prop, condG t134 true (ACalls Tryd.prog 15 [] H22 fun t135 H44 =>
 J43 t135 H44) (J43 (.tup []) H22) ∧ ∀ t135 H45, J43 t135 H45 →
 letO (pickF t134 t135 (.bool false)) fun t136 =>
 letO (some (t136 : AV)) fun t4 =>
endK t4 H45 K)))) H5) H4) H3) H2

theorem W3_ok {x0 x1 : AV} {H : Heap} {K : AV → Heap → Prop} (h : W3 x0 x1 H K) : ACalls Tryd.prog 3 [x0, x1] H K :=
  acallsB (fn := Tryd.f3) (cfg := cfgOf [] [] [] [] [] []) (hh := (.dir .nil (.dir .nil (.dir .nil (.dir .nil (.dir (.dir .nil (.blk (.loop [37] [38, 39, 40, 9, 41, 42, 43, 44, 45, 46, 47, 48, 49, 50, 51, 52, 37] (.dir .nil (.dir .nil (.dir .nil .nil)))))) (.dir .nil (.dir .nil (.dir .nil (.dir (.dir .nil (.dir .nil .nil)) (.dir .nil (.dir (.dir .nil (.blk (.loop [16, 17, 18, 80] [81, 82, 83, 20, 84, 85, 86, 87, 88, 89, 16, 17, 18, 90, 91, 92, 93, 94, 95, 21, 96, 97, 98, 99, 22, 100, 101, 102, 103, 104, 105, 106, 107, 108, 109, 110, 111, 112, 4, 113, 114, 115, 116, 117, 118, 119, 80] (.dir .nil (.dir .nil (.cut [16, 17, 18] [82, 83, 20, 84, 85, 86, 87, 88, 89, 16, 17, 18, 90, 91, 92, 93, 94, 95, 21, 96, 97, 98, 99, 22, 100, 101, 102, 103, 104, 105, 106, 107, 108, 109, 110, 111, 112, 4, 113, 114, 115, 116, 117, 118] (.blk (.dir .nil (.cut [16, 17, 18] [84, 85, 86, 87, 88, 89, 16, 17, 18] (.dir .nil .nil) (.dir (.dir .nil .nil) (.dir .nil (.dir .nil (.dir (.dir .nil (.blk (.loop [21, 97] [98, 99, 22, 100, 101, 102, 103, 104, 105, 106, 107, 21, 108, 97] (.dir .nil (.dir .nil (.cut [21] [99, 22, 100, 101, 102, 103, 104, 105, 106, 107, 21] (.blk (.dir .nil (.dir .nil .nil))) .nil)))))) (.dir (.dir .nil (.dir .nil .nil)) .nil)))))))) .nil)))))) .nil)))))))))))) follows Tryd.func3 (by kernel_rfl) (Nat.le_of_ble_eq_true (by kernel_rfl)) (by kernel_rfl) h

/-- headword.headwordtop.quarrel -/
def W8 (x0 x1 x2 : AV) (H : Heap) (K : AV → Heap → Prop) : Prop :=
 letO (cellsOf? x2) fun c1 =>
 letO (some (.nils : AV)) fun t6 =>
 letO (some (.nils : AV)) fun t7 =>
 letO (some (x1 : AV)) fun t13 =>
 letO (slcArr 8 2 (.iptr c1) none (some t13) none) fun t14 =>
 letO (lenA t14) fun t15 =>
 letO (some ((.int .i64 0) : AV)) fun t16 =>
 true = true ∧ ∃ (I2 : List AV → Heap → Prop) (μ3 : List AV → Heap → Nat), I2 [t7, t16] H ∧ ∀ L4 H5, I2 L4 H5 → -- [t7, t16]
 letO (binF Tryd.prog .lss 3 (L4.getD 1 .any) t15) fun t17 =>
 condA t17 true (
 true = true ∧ ∃ J6 : List AV → Heap → Prop, (
 letO (idx 2 t14 (L4.getD 1 .any)) fun t18 =>
 letO (loadN 2 t18 H5) fun t19 =>
 allocA [(.int .u8 0), (.int .u8 0)] (fun t9 H7 =>
 storeA 2 t9 t19 (fun H8 =>
 true = true ∧
 letO (idxArr 2 1 t9 (.int .i64 0)) fun t20 =>
 letO (load1 t20 H8) fun t21 =>
 letO (convF Tryd.prog 5 3 t21) fun t22 =>
 letO (some (x0 : AV)) fun t23 =>
 letO (binF Tryd.prog .rem 3 t22 t23) fun t24 =>
 letO (idxArr 2 1 t9 (.int .i64 1)) fun t25 =>
 letO (load1 t25 H8) fun t26 =>
 letO (convF Tryd.prog 5 3 t26) fun t27 =>
 letO (some (x0 : AV)) fun t28 =>
 letO (binF Tryd.prog .rem 3 t27 t28) fun t29 =>
 letO (some (t24 : AV)) fun t10 =>
 letO (some (t29 : AV)) fun t11 =>
 letO (some (t10 : AV)) fun t30 =>
 letO (some (t11 : AV)) fun t31 =>
 letO (min2F t30 t31) fun t32 =>
 letO (some (t10 : AV)) fun t33 =>
 letO (some (t11 : AV)) fun t34 =>
 letO (max2F t33 t34) fun t35 =>
 letO (buildF Tryd.prog 30 [(0, t32), (1, t35)]) fun t36 =>
 allocA [(.int .i64 0), (.int .i64 0)] (fun t12 H9 =>
 storeA 2 t12 t36 (fun H10 =>
 letO (some (t10 : AV)) fun t37 =>
 letO (some (t11 : AV)) fun t38 =>
 letO (binF Tryd.prog .neq 3 t37 t38) fun t39 =>
 letO (some (t39 : AV)) fun t40 =>
 letO (gval t40 true (some ((L4.getD 0 .any) : AV))) fun t41 =>
 letO (gval t40 true (loadN 2 t12 H10)) fun t42 =>
 ∃ J11 : AV → Heap → Prop, condG t40 true (ACalls Tryd.prog 30 [t41, t42] H10 fun t43 H12 =>
 J11 t43 H12) (J11 (.tup []) H10) ∧ ∀ t43 H13, J11 t43 H13 →
 letO (gval t40 true (unF .not t43)) fun t44 =>
 letO (pickF t40 t44 (.bool false)) fun t45 =>
 condA t45 true (
 letO (some ((L4.getD 0 .any) : AV)) fun t46 =>
 letO (loadN 2 t12 H13) fun t47 =>
 letO (literalF Tryd.prog 24 1 [(0, t47)]) fun c14 =>
 appendA 2 16 t46 (.imm 1 true c14) (fun t49 H15 =>
 letO (some (t49 : AV)) fun t7 =>
 J6 [t7] H15) H13) (
 J6 [(L4.getD 0 .any)] H13)) H9) H8) H7) H5) ∧ ∀ L16 H17, J6 L16 H17 → -- [t7]
 letO (binF Tryd.prog .add 3 (L4.getD 1 .any) (.int .i64 1)) fun t50 =>
 letO (some (t50 : AV)) fun t16 =>
 I2 [(L16.getD 0 .any), t16] H17 ∧ μ3 [(L16.getD 0 .any), t16] H17 < μ3 L4 H5) (
 letO (some ((L4.getD 0 .any) : AV)) fun t51 =>
 letO (some (t51 : AV)) fun t6 =>
endK t6 H5 K)

theorem W8_ok {x0 x1 x2 : AV} {H : Heap} {K : AV → Heap → Prop} (h : W8 x0 x1 x2 H K) : ACalls Tryd.prog 8 [x0, x1, x2] H K :=
  acallsB (fn := Tryd.f8) (cfg := cfgOf [] [] [(5, [0, 1, 3, 0, 15, 0, 32, 96, 0, 480, 31, 2047])] [] [] []) (hh := (.dir .nil (.dir .nil (.dir (.dir .nil (.blk (.loop [7, 16] [17, 18, 19, 9, 20, 21, 22, 23, 24, 25, 26, 27, 28, 29, 10, 11, 30, 31, 32, 33, 34, 35, 36, 12, 37, 38, 39, 40, 41, 42, 43, 44, 45, 46, 47, 48, 49, 7, 50, 16] (.dir .nil (.dir .nil (.cut [7] [18, 19, 9, 20, 21, 22, 23, 24, 25, 26, 27, 28, 29, 10, 11, 30, 31, 32, 33, 34, 35, 36, 12, 37, 38, 39, 40, 41, 42, 43, 44, 45, 46, 47, 48, 49, 7] (.blk (.dir .nil (.dir .nil (.dir .nil (.dir .nil .nil))))) .nil)))))) .nil)))) follows Tryd.func8 (by kernel_rfl) (Nat.le_of_ble_eq_true (by kernel_rfl)) (by kernel_rfl) h

/-- headword.fact.Valid -/
def W13 (x0 x1 : AV) (H : Heap) (K : AV → Heap → Prop) : Prop :=
 letO (cellsOf? x0) fun c1 =>
 letO (some ((.int .i64 0) : AV)) fun t4 =>
 letO (loadN 2 (.iptr c1) H) fun t10 =>
 ACalls Tryd.prog 36 [t10] H fun t11 H2 =>
 letO (some (t11 : AV)) fun t5 =>
 letO (some (t5 : AV)) fun t12 =>
 letO (binF Tryd.prog .neq 32 t12 (.int .i64 0)) fun t13 =>
 condA t13 true (
 letO (some (t5 : AV)) fun t14 =>
 letO (some (t14 : AV)) fun t4 =>
endK t4 H2 K) (
 letO (some ((.int .u64 0) : AV)) fun t6 =>
 letO (some ((.int .i64 (-1)) : AV)) fun t7 =>
 letO (some (x1 : AV)) fun t15 =>
 letO (lenA t15) fun t16 =>
 letO (some ((.int .i64 0) : AV)) fun t17 =>
 true = true ∧ ∃ (I3 : List AV → Heap → Prop) (μ4 : List AV → Heap → Nat), I3 [t6, t7, t17] H2 ∧ ∀ L5 H6, I3 L5 H6 → -- [t6, t7, t17]
 letO (binF Tryd.prog .lss 3 (L5.getD 2 .any) t16) fun t18 =>
 condA t18 true (
 letO (idx 1 t15 (L5.getD 2 .any)) fun t19 =>
 letO (load1 t19 H6) fun t20 =>
 letO (some (t20 : AV)) fun t9 =>
 letO (some (t9 : AV)) fun t22 =>
 letO (binF Tryd.prog .lss 3 t22 (.int .i64 0)) fun t23 =>
 letO (some (t23 : AV)) fun t24 =>
 letO (gval t24 false (some (t9 : AV))) fun t25 =>
 letO (gval t24 false (faddr 0 (.iptr c1))) fun t26 =>
 letO (gval t24 false (load1 t26 H6)) fun t27 =>
 letO (gval t24 false (binF Tryd.prog .geq 3 t25 t27)) fun t28 =>
 letO (pickF t24 (.bool true) t28) fun t29 =>
 letO (some (t29 : AV)) fun t21 =>
 condA t21 true (
 letO (some ((.int .i64 2) : AV)) fun t4 =>
endK t4 H6 K) (
 letO (some (t9 : AV)) fun t31 =>
 letO (some ((L5.getD 1 .any) : AV)) fun t32 =>
 letO (binF Tryd.prog .leq 3 t31 t32) fun t33 =>
 letO (some (t33 : AV)) fun t30 =>
 condA t30 true (
 letO (some ((.int .i64 7) : AV)) fun t4 =>
endK t4 H6 K) (
 letO (some ((L5.getD 0 .any) : AV)) fun t34 =>
 letO (some (t9 : AV)) fun t35 =>
 letO (binF Tryd.prog .shl 76 (.int .u64 1) t35) fun t36 =>
 letO (binF Tryd.prog .or 76 t34 t36) fun t37 =>
 letO (some (t9 : AV)) fun t38 =>
 letO (some (t37 : AV)) fun t6 =>
 letO (some (t38 : AV)) fun t7 =>
 letO (binF Tryd.prog .add 3 (L5.getD 2 .any) (.int .i64 1)) fun t39 =>
 letO (some (t39 : AV)) fun t17 =>
 I3 [t6, t7, t17] H6 ∧ μ4 [t6, t7, t17] H6 < μ4 L5 H6))) (
 letO (loadN 2 (.iptr c1) H6) fun t40 =>
 letO (some ((L5.getD 0 .any) : AV)) fun t41 =>
 ACalls Tryd.prog 39 [t40, t41] H6 fun t42 H7 =>
 letO (unF .not t42) fun t43 =>
 condA t43 true (
 letO (some ((.int .i64 21) : AV)) fun t4 =>
endK t4 H7 K) (
 letO (some ((.int .i64 0) : AV)) fun t4 =>
endK t4 H7 K)))

theorem W13_ok {x0 x1 : AV} {H : Heap} {K : AV → Heap → Prop} (h : W13 x0 x1 H K) : ACalls Tryd.prog 13 [x0, x1] H K :=
  acallsB (fn := Tryd.f13) (cfg := cfgOf [] [] [] [] [] []) (hh := (.dir .nil (.dir (.dir .nil (.dir .nil (.dir .nil .nil))) (.dir .nil (.dir (.dir .nil (.blk (.loop [6, 7, 17] [18, 19, 20, 9, 22, 23, 24, 25, 26, 27, 28, 29, 21, 4, 31, 32, 33, 30, 34, 35, 36, 37, 38, 6, 7, 39, 17] (.dir .nil (.dir .nil (.dir (.blk (.dir .nil (.dir (.blk (.dir .nil (.dir .nil (.dir .nil (.dir .nil .nil))))) .nil))) .nil)))))) (.dir (.dir .nil (.dir .nil .nil)) .nil)))))) follows Tryd.func13 (by kernel_rfl) (Nat.le_of_ble_eq_true (by kernel_rfl)) (by kernel_rfl) h


end Go.Proofs.YtmmfelpgcdlgfaaDoor
