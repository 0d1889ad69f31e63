import Derived.Test.YtlajhbpkogekfaaCon
/- The functions of the statement LineEnds that the line package does not hold, each in the words of its walk; made by program. -/
set_option linter.unusedVariables false
set_option maxRecDepth 100000
namespace Go.Proofs.Ytlajhbpkogekfaa
open Go.Av
/-- headword.headwordlaw13.LineEnds -/
def W11 (x0 x1 : AV) (H : Heap) (K : AV → Heap → Prop) : Prop :=
 letO (cellsOf? x0) fun c1 =>
 letO (some ((.bool false) : AV)) fun t4 =>
 letO (faddr 1 (.iptr c1)) fun t18 =>
 letO (load1 t18 H) fun t19 =>
 letO (lenA t19) fun t20 =>
 letO (binF Try.prog .gtr 3 t20 (.int .i64 40)) fun t21 =>
 letO (some (t21 : AV)) fun t22 =>
 letO (gval t22 false (some (x1 : AV))) fun t23 =>
 letO (gval t22 false (lenA t23)) fun t24 =>
 letO (gval t22 false (binF Try.prog .gtr 3 t24 (.int .i64 40))) fun t25 =>
 letO (pickF t22 (.bool true) t25) fun t26 =>
 condA t26 true (
 ACalls Try.prog 16 [] H fun t27 H2 =>
 letO (some (t27 : AV)) fun t4 =>
endK t4 H2 K) (
 letO (loadN 2 (.iptr c1) H) fun t28 =>
 allocA [(.int .i64 0), .nils] (fun t5 H3 =>
 storeA 2 t5 t28 (fun H4 =>
 letO (loadN 2 (.iptr c1) H4) fun t30 =>
 letO (some (x1 : AV)) fun t31 =>
 ACalls Try.prog 44 [t30, t31] H4 fun t32 H5 =>
 letO (some (t32 : AV)) fun t29 =>
 letO (extrF t29 0) fun t33 =>
 letO (extrF t29 1) fun t34 =>
 letO (some (t33 : AV)) fun t6 =>
 letO (some (t34 : AV)) fun t7 =>
 letO (loadN 2 t5 H5) fun t36 =>
 letO (some (x1 : AV)) fun t37 =>
 ACalls Try.prog 47 [t36, t37] H5 fun t38 H6 =>
 letO (some (t38 : AV)) fun t35 =>
 letO (extrF t35 0) fun t39 =>
 letO (extrF t35 1) fun t40 =>
 letO (some (t39 : AV)) fun t8 =>
 letO (some (t40 : AV)) fun t9 =>
 letO (loadN 2 (.iptr c1) H6) fun t42 =>
 letO (some (x1 : AV)) fun t43 =>
 ACalls Try.prog 45 [t42, t43] H6 fun t44 H7 =>
 letO (some (t44 : AV)) fun t41 =>
 letO (extrF t41 0) fun t45 =>
 letO (extrF t41 1) fun t46 =>
 letO (some (t45 : AV)) fun t10 =>
 letO (some (t46 : AV)) fun t11 =>
 letO (loadN 2 t5 H7) fun t48 =>
 letO (some (x1 : AV)) fun t49 =>
 ACalls Try.prog 48 [t48, t49] H7 fun t50 H8 =>
 letO (some (t50 : AV)) fun t47 =>
 letO (extrF t47 0) fun t51 =>
 letO (extrF t47 1) fun t52 =>
 letO (some (t51 : AV)) fun t12 =>
 letO (some (t52 : AV)) fun t13 =>
 letO (loadN 2 (.iptr c1) H8) fun t54 =>
 ACalls Try.prog 36 [t54] H8 fun t55 H9 =>
 letO (some (t55 : AV)) fun t53 =>
 letO (extrF t53 0) fun t56 =>
 letO (extrF t53 1) fun t57 =>
 letO (some (t56 : AV)) fun t14 =>
 letO (some (t57 : AV)) fun t15 =>
 letO (loadN 2 t5 H9) fun t59 =>
 ACalls Try.prog 49 [t59] H9 fun t60 H10 =>
 letO (some (t60 : AV)) fun t58 =>
 letO (extrF t58 0) fun t61 =>
 letO (extrF t58 1) fun t62 =>
 letO (some (t61 : AV)) fun t16 =>
 letO (some (t62 : AV)) fun t17 =>
 true = true ∧
 letO (some (t6 : AV)) fun t63 =>
 letO (some (t8 : AV)) fun t64 =>
 ACalls Try.prog 25 [t63, t64] H10 fun t65 H11 =>
 letO (some (t65 : AV)) fun t66 =>
 letO (gval t66 true (some (t7 : AV))) fun t67 =>
 letO (gval t66 true (some (t9 : AV))) fun t68 =>
 letO (gval t66 true (binF Try.prog .eql 27 t67 t68)) fun t69 =>
 letO (pickF t66 t69 (.bool false)) fun t70 =>
 letO (some (t70 : AV)) fun t71 =>
 letO (gval t71 true (some (t10 : AV))) fun t72 =>
 letO (gval t71 true (some (t12 : AV))) fun t73 =>
 letO (gval t71 true (binF Try.prog .eql 3 t72 t73)) fun t74 =>
 letO (pickF t71 t74 (.bool false)) fun t75 =>
 letO (some (t75 : AV)) fun t76 =>
 letO (gval t76 true (some (t11 : AV))) fun t77 =>
 letO (gval t76 true (some (t13 : AV))) fun t78 =>
 letO (gval t76 true (binF Try.prog .eql 27 t77 t78)) fun t79 =>
 letO (pickF t76 t79 (.bool false)) fun t80 =>
 letO (some (t80 : AV)) fun t81 =>
 letO (gval t81 true (some (t14 : AV))) fun t82 =>
 letO (gval t81 true (some (t16 : AV))) fun t83 =>
 ∃ J12 : AV → Heap → Prop, condG t81 true (ACalls Try.prog 25 [t82, t83] H11 fun t84 H13 =>
 J12 t84 H13) (J12 (.tup []) H11) ∧ ∀ t84 H14, J12 t84 H14 →
 letO (pickF t81 t84 (.bool false)) fun t85 =>
 letO (some (t85 : AV)) fun t86 =>
 letO (gval t86 true (some (t15 : AV))) fun t87 =>
 letO (gval t86 true (some (t17 : AV))) fun t88 =>
 letO (gval t86 true (binF Try.prog .eql 27 t87 t88)) fun t89 =>
 letO (pickF t86 t89 (.bool false)) fun t90 =>
 letO (some (t90 : AV)) fun t91 =>
 letO (gval t91 true (loadN 2 (.iptr c1) Heap.none)) fun t92 =>
 ∃ t93, condG t91 true (ACalls Try.prog 50 [t92] H14 fun r h => r = t93 ∧ h = H14) (t93 = .tup []) ∧
 letO (gval t91 true (loadN 2 t5 H14)) fun t94 =>
 ∃ J15 : AV → Heap → Prop, condG t91 true (ACalls Try.prog 51 [t94] H14 fun t95 H16 =>
 J15 t95 H16) (J15 (.tup []) H14) ∧ ∀ t95 H17, J15 t95 H17 →
 letO (gval t91 true (binF Try.prog .eql 27 t93 t95)) fun t96 =>
 letO (pickF t91 t96 (.bool false)) fun t97 =>
 letO (some (t97 : AV)) fun t98 =>
 letO (gval t98 true (loadN 2 (.iptr c1) Heap.none)) fun t99 =>
 letO (gval t98 true (some (x1 : AV))) fun t100 =>
 ∃ t101, condG t98 true (ACalls Try.prog 42 [t99, t100] H17 fun r h => r = t101 ∧ h = H17) (t101 = .tup []) ∧
 letO (gval t98 true (loadN 2 t5 H17)) fun t102 =>
 letO (gval t98 true (some (x1 : AV))) fun t103 =>
 ∃ J18 : AV → Heap → Prop, condG t98 true (ACalls Try.prog 52 [t102, t103] H17 fun t104 H19 =>
 J18 t104 H19) (J18 (.tup []) H17) ∧ ∀ t104 H20, J18 t104 H20 →
 letO (gval t98 true (binF Try.prog .eql 27 t101 t104)) fun t105 =>
 letO (pickF t98 t105 (.bool false)) fun t106 =>
 letO (some (t106 : AV)) fun t107 =>
 ∃ J21 : AV → Heap → Prop, condG t107 true (ACalls Try.prog 16 [] H20 fun t108 H22 =>
 J21 t108 H22) (J21 (.tup []) H20) ∧ ∀ t108 H23, J21 t108 H23 →
 letO (pickF t107 t108 (.bool false)) fun t109 =>
 letO (some (t109 : AV)) fun t4 =>
endK t4 H23 K) H3) H)

theorem W11_ok {x0 x1 : AV} {H : Heap} {K : AV → Heap → Prop} (h : W11 x0 x1 H K) : ACalls Try.prog 11 [x0, x1] H K :=
  acallsB (fn := Try.f11) (cfg := cfgOf [] [92, 99] [(10, [0, 0, 3, 7, 15, 15, 63, 127, 255, 511, 511, 2047, 4095, 8191, 16383, 16383, 65535, 131071, 262143, 524287, 524287, 2097151, 4194303, 8388607, 16777215, 16777215, 67108863, 134217727, 268435455, 536870911, 1073741823, 536870911, 4294967295, 8589934591, 17179869183, 34359738367, 68719476735, 68719476735, 274877906943, 68719476735, 68719476735, 2199023255551, 4398046511103, 8796093022207, 17592186044415, 35184372088831, 70368744177663, 140737488355327])] [] []) (hh := (.dir .nil (.dir (.dir .nil (.dir .nil .nil)) (.dir .nil (.dir .nil (.dir .nil (.dir .nil (.dir .nil (.dir .nil (.dir .nil .nil)))))))))) follows Try.func11 (by kernel_rfl) (Nat.le_of_ble_eq_true (by kernel_rfl)) (by kernel_rfl) h

/-- (headword.headwordlaw13.Galley).made -/
def W34 (x0 x1 : AV) (H : Heap) (K : AV → Heap → Prop) : Prop :=
 letO (cellsOf? x0) fun c1 =>
 allocA [(.int .i64 0), .nils] (fun t4 H2 =>
 letO (faddr 0 (.iptr c1)) fun t9 =>
 letO (load1 t9 H2) fun t10 =>
 letO (convF Try.prog 5 3 t10) fun t11 =>
 letO (binF Try.prog .rem 3 t11 (.int .i64 40)) fun t12 =>
 letO (binF Try.prog .add 3 (.int .i64 1) t12) fun t13 =>
 letO (buildF Try.prog 24 [(0, t13)]) fun t14 =>
 allocA [(.int .i64 0), .nils] (fun t5 H3 =>
 storeA 2 t5 t14 (fun H4 =>
 letO (faddr 0 t5) fun t15 =>
 letO (load1 t15 H4) fun t16 =>
 letO (some (t16 : AV)) fun t6 =>
 true = true ∧ ∃ J5 : List AV → Heap → Prop, (
 letO (faddr 2 (.iptr c1)) fun t17 =>
 letO (load1 t17 H4) fun t18 =>
 letO (binF Try.prog .rem 5 t18 (.int .u8 3)) fun t19 =>
 letO (binF Try.prog .gtr 5 t19 (.int .u8 0)) fun t20 =>
 condA t20 true (
 letO (faddr 0 t5) fun t21 =>
 letO (load1 t21 H4) fun t22 =>
 letO (binF Try.prog .quo 3 t22 (.int .i64 2)) fun t23 =>
 letO (binF Try.prog .add 3 (.int .i64 1) t23) fun t24 =>
 letO (some (t24 : AV)) fun t6 =>
 J5 [t6] H4) (
 J5 [t6] H4)) ∧ ∀ L6 H7, J5 L6 H7 → -- [t6]
 letO (faddr 3 (.iptr c1)) fun t25 =>
 letO (faddr 1 (.iptr c1)) fun t26 =>
 letO (load1 t26 H7) fun t27 =>
 letO (convF Try.prog 5 3 t27) fun t28 =>
 letO (some (x1 : AV)) fun t29 =>
 letO (binF Try.prog .rem 3 t28 t29) fun t30 =>
 letO (binF Try.prog .add 3 (.int .i64 1) t30) fun t31 =>
 letO (slcArr 10 1 t25 none (some t31) none) fun t32 =>
 letO (lenA t32) fun t33 =>
 letO (some ((.int .i64 0) : AV)) fun t34 =>
 true = true ∧ ∃ (I8 : List AV → Heap → Prop) (μ9 : List AV → Heap → Nat), I8 [t34] H7 ∧ ∀ L10 H11, I8 L10 H11 → -- [t34]
 letO (binF Try.prog .lss 3 (L10.getD 0 .any) t33) fun t35 =>
 condA t35 true (
 letO (idx 1 t32 (L10.getD 0 .any)) fun t36 =>
 letO (load1 t36 H11) fun t37 =>
 letO (some (t37 : AV)) fun t8 =>
 true = true ∧
 letO (faddr 1 t5) fun t38 =>
 letO (load1 t38 H11) fun t39 =>
 letO (some (t8 : AV)) fun t40 =>
 letO (convF Try.prog 5 3 t40) fun t41 =>
 letO (some ((L6.getD 0 .any) : AV)) fun t42 =>
 letO (faddr 0 t5) fun t43 =>
 letO (load1 t43 H11) fun t44 =>
 letO (min2F t42 t44) fun t45 =>
 letO (binF Try.prog .rem 3 t41 t45) fun t46 =>
 letO (binF Try.prog .add 3 (.int .i64 1) t46) fun t47 =>
 letO (literalF Try.prog 22 1 [(0, t47)]) fun c12 =>
 appendA 1 8 t39 (.imm 1 true c12) (fun t49 H13 =>
 letO (faddr 1 t5) fun t50 =>
 storeA 1 t50 t49 (fun H14 =>
 letO (binF Try.prog .add 3 (L10.getD 0 .any) (.int .i64 1)) fun t51 =>
 letO (some (t51 : AV)) fun t34 =>
 I8 [t34] H14 ∧ μ9 [t34] H14 < μ9 L10 H11) H13) H11) (
 letO (loadN 2 t5 H11) fun t52 =>
 storeA 2 t4 t52 (fun H15 =>
 letO (loadN 2 t4 H15) fun r16 => endK r16 H15 K) H11)) H3) H2) H

theorem W34_ok {x0 x1 : AV} {H : Heap} {K : AV → Heap → Prop} (h : W34 x0 x1 H K) : ACalls Try.prog 34 [x0, x1] H K :=
  acallsB (fn := Try.f34) (cfg := cfgOf [] [] [(8, [0, 1, 0, 4, 0, 0, 32, 112, 252, 508, 1020, 2047, 4095, 8191])] [] []) (hh := (.dir .nil (.dir .nil (.dir .nil (.cut [6] [17, 18, 19, 20, 21, 22, 23, 24, 6] (.dir .nil .nil) (.dir (.dir .nil (.blk (.loop [34] [35, 36, 37, 8, 38, 39, 40, 41, 42, 43, 44, 45, 46, 47, 48, 49, 50, 51, 34] (.dir .nil (.dir .nil (.dir .nil .nil)))))) .nil)))))) follows Try.func34 (by kernel_rfl) (Nat.le_of_ble_eq_true (by kernel_rfl)) (by kernel_rfl) h

/-- headword.headwordlaw13.left -/
def W43 (x0 x1 x2 : AV) (H : Heap) (K : AV → Heap → Prop) : Prop :=
 letO (cellsOf? x0) fun c1 =>
 letO (some ((.int .i64 0) : AV)) fun t6 =>
 letO (some ((.int .i64 (-1)) : AV)) fun t7 =>
 letO (faddr 1 (.iptr c1)) fun t10 =>
 letO (load1 t10 H) fun t11 =>
 letO (some (x1 : AV)) fun t12 =>
 letO (some (x2 : AV)) fun t13 =>
 letO (slc 1 t11 (some t12) (some t13) none) fun t14 =>
 letO (lenA t14) fun t15 =>
 letO (some ((.int .i64 0) : AV)) fun t16 =>
 true = true ∧ ∃ (I2 : List AV → Heap → Prop) (μ3 : List AV → Heap → Nat), I2 [t7, t16] H ∧ ∀ L4 H5, I2 L4 H5 → -- [t7, t16]
 letO (binF Try.prog .lss 3 (L4.getD 1 .any) t15) fun t17 =>
 condA t17 true (
 letO (idx 1 t14 (L4.getD 1 .any)) fun t18 =>
 letO (load1 t18 H5) fun t19 =>
 letO (some (t19 : AV)) fun t9 =>
 letO (some ((L4.getD 0 .any) : AV)) fun t20 =>
 letO (some (t9 : AV)) fun t21 =>
 letO (binF Try.prog .add 3 t21 (.int .i64 1)) fun t22 =>
 letO (binF Try.prog .add 3 t20 t22) fun t23 =>
 letO (some (t23 : AV)) fun t7 =>
 letO (binF Try.prog .add 3 (L4.getD 1 .any) (.int .i64 1)) fun t24 =>
 letO (some (t24 : AV)) fun t16 =>
 I2 [t7, t16] H5 ∧ μ3 [t7, t16] H5 < μ3 L4 H5) (
 letO (faddr 0 (.iptr c1)) fun t25 =>
 letO (load1 t25 H5) fun t26 =>
 letO (some ((L4.getD 0 .any) : AV)) fun t27 =>
 letO (binF Try.prog .sub 3 t26 t27) fun t28 =>
 letO (some (t28 : AV)) fun t6 =>
endK t6 H5 K)

theorem W43_ok {x0 x1 x2 : AV} {H : Heap} {K : AV → Heap → Prop} (h : W43 x0 x1 x2 H K) : ACalls Try.prog 43 [x0, x1, x2] H K :=
  acallsB (fn := Try.f43) (cfg := cfgOf [] [] [] [] []) (hh := (.dir .nil (.dir .nil (.dir (.dir .nil (.blk (.loop [7, 16] [17, 18, 19, 9, 20, 21, 22, 23, 7, 24, 16] (.dir .nil (.dir .nil (.dir .nil .nil)))))) .nil)))) follows Try.func43 (by kernel_rfl) (Nat.le_of_ble_eq_true (by kernel_rfl)) (by kernel_rfl) h

/-- headword.headwordref13.Left -/
def W47 (x0 x1 : AV) (H : Heap) (K : AV → Heap → Prop) : Prop :=
 letO (cellsOf? x0) fun c1 =>
 letO (some (.nils : AV)) fun t4 =>
 letO (some ((.int .i64 0) : AV)) fun t5 =>
 letO (loadN 2 (.iptr c1) H) fun t9 =>
 letO (some (x1 : AV)) fun t10 =>
 ACalls Try.prog 52 [t9, t10] H fun t11 H2 =>
 letO (some (t11 : AV)) fun t6 =>
 letO (some (t6 : AV)) fun t12 =>
 letO (binF Try.prog .neq 27 t12 (.int .i64 0)) fun t13 =>
 condA t13 true (
 letO (some (t6 : AV)) fun t14 =>
 letO (some (.nils : AV)) fun t4 =>
 letO (some (t14 : AV)) fun t5 =>
endK (.tup [t4, t5]) H2 K) (
 letO (some (.nils : AV)) fun t7 =>
 letO (some ((.int .i64 0) : AV)) fun t8 =>
 true = true ∧ ∃ (I3 : List AV → Heap → Prop) (μ4 : List AV → Heap → Nat), I3 [t7, t8] H2 ∧ ∀ L5 H6, I3 L5 H6 → -- [t7, t8]
 letO (some ((L5.getD 1 .any) : AV)) fun t15 =>
 letO (some (x1 : AV)) fun t16 =>
 letO (lenA t16) fun t17 =>
 letO (binF Try.prog .lss 3 t15 t17) fun t18 =>
 condA t18 true (
 true = true ∧
 letO (some ((L5.getD 0 .any) : AV)) fun t21 =>
 letO (loadN 2 (.iptr c1) Heap.none) fun t22 =>
 letO (some (x1 : AV)) fun t23 =>
 letO (some ((L5.getD 1 .any) : AV)) fun t24 =>
 ∃ t25, (ACalls Try.prog 78 [t23, t24] H6 fun r h => r = t25 ∧ h = H6) ∧
 letO (some (x1 : AV)) fun t26 =>
 letO (some ((L5.getD 1 .any) : AV)) fun t27 =>
 letO (idx 1 t26 t27) fun t28 =>
 letO (load1 t28 H6) fun t29 =>
 ∃ t30, (ACalls Try.prog 79 [t22, t25, t29] H6 fun r h => r = t30 ∧ h = H6) ∧
 letO (literalF Try.prog 22 1 [(0, t30)]) fun c7 =>
 appendA 1 8 t21 (.imm 1 true c7) (fun t32 H8 =>
 letO (some (t32 : AV)) fun t7 =>
 letO (some ((L5.getD 1 .any) : AV)) fun t19 =>
 letO (binF Try.prog .add 3 t19 (.int .i64 1)) fun t20 =>
 letO (some (t20 : AV)) fun t8 =>
 I3 [t7, t8] H8 ∧ μ4 [t7, t8] H8 < μ4 L5 H6) H6) (
 letO (some ((L5.getD 0 .any) : AV)) fun t33 =>
 letO (some (t33 : AV)) fun t4 =>
 letO (some ((.int .i64 0) : AV)) fun t5 =>
endK (.tup [t4, t5]) H6 K))

theorem W47_ok {x0 x1 : AV} {H : Heap} {K : AV → Heap → Prop} (h : W47 x0 x1 H K) : ACalls Try.prog 47 [x0, x1] H K :=
  acallsB (fn := Try.f47) (cfg := cfgOf [] [22] [(8, [0, 0, 0, 0, 12, 0, 0, 96, 224, 510, 1022, 2047, 4095])] [] []) (hh := (.dir .nil (.dir .nil (.dir (.dir .nil (.dir .nil .nil)) (.dir .nil (.dir (.dir .nil (.blk (.loop [7, 8] [15, 16, 17, 18, 21, 22, 23, 24, 25, 26, 27, 28, 29, 30, 31, 32, 7, 19, 20, 8] (.dir (.dir .nil .nil) (.dir .nil .nil))))) .nil)))))) follows Try.func47 (by kernel_rfl) (Nat.le_of_ble_eq_true (by kernel_rfl)) (by kernel_rfl) h

/-- headword.headwordref13.Cost -/
def W48 (x0 x1 : AV) (H : Heap) (K : AV → Heap → Prop) : Prop :=
 letO (cellsOf? x0) fun c1 =>
 letO (some ((.int .i64 0) : AV)) fun t4 =>
 letO (some ((.int .i64 0) : AV)) fun t5 =>
 letO (loadN 2 (.iptr c1) H) fun t7 =>
 letO (some (x1 : AV)) fun t8 =>
 ACalls Try.prog 52 [t7, t8] H fun t9 H2 =>
 letO (some (t9 : AV)) fun t6 =>
 letO (some (t6 : AV)) fun t10 =>
 letO (binF Try.prog .neq 27 t10 (.int .i64 0)) fun t11 =>
 condA t11 true (
 letO (some (t6 : AV)) fun t12 =>
 letO (some ((.int .i64 0) : AV)) fun t4 =>
 letO (some (t12 : AV)) fun t5 =>
endK (.tup [t4, t5]) H2 K) (
 letO (loadN 2 (.iptr c1) H2) fun t13 =>
 letO (some (x1 : AV)) fun t14 =>
 letO (some (x1 : AV)) fun t15 =>
 letO (lenA t15) fun t16 =>
 letO (binF Try.prog .sub 3 t16 (.int .i64 1)) fun t17 =>
 ACalls Try.prog 66 [t13, t14, t17] H2 fun t18 H3 =>
 letO (some (t18 : AV)) fun t4 =>
 letO (some ((.int .i64 0) : AV)) fun t5 =>
endK (.tup [t4, t5]) H3 K)

theorem W48_ok {x0 x1 : AV} {H : Heap} {K : AV → Heap → Prop} (h : W48 x0 x1 H K) : ACalls Try.prog 48 [x0, x1] H K :=
  acallsB (fn := Try.f48) (cfg := cfgOf [] [] [] [] []) (hh := (.dir .nil (.dir .nil (.dir (.dir .nil (.dir .nil .nil)) .nil)))) follows Try.func48 (by kernel_rfl) (Nat.le_of_ble_eq_true (by kernel_rfl)) (by kernel_rfl) h

/-- headword.headwordref13.Full -/
def W49 (x0 : AV) (H : Heap) (K : AV → Heap → Prop) : Prop :=
 letO (cellsOf? x0) fun c1 =>
 letO (some (.nils : AV)) fun t2 =>
 letO (some ((.int .i64 0) : AV)) fun t3 =>
 letO (loadN 2 (.iptr c1) H) fun t8 =>
 ACalls Try.prog 51 [t8] H fun t9 H2 =>
 letO (some (t9 : AV)) fun t4 =>
 letO (some (t4 : AV)) fun t10 =>
 letO (binF Try.prog .neq 27 t10 (.int .i64 0)) fun t11 =>
 condA t11 true (
 letO (some (t4 : AV)) fun t12 =>
 letO (some (.nils : AV)) fun t2 =>
 letO (some (t12 : AV)) fun t3 =>
endK (.tup [t2, t3]) H2 K) (
 letO (some (.nils : AV)) fun t5 =>
 letO (some ((.int .i64 0) : AV)) fun t6 =>
 letO (some ((.int .i64 1) : AV)) fun t7 =>
 true = true ∧ ∃ (I3 : List AV → Heap → Prop) (μ4 : List AV → Heap → Nat), I3 [t5, t6, t7] H2 ∧ ∀ L5 H6, I3 L5 H6 → -- [t5, t6, t7]
 letO (some ((L5.getD 2 .any) : AV)) fun t13 =>
 letO (faddr 1 (.iptr c1)) fun t14 =>
 letO (load1 t14 H6) fun t15 =>
 letO (lenA t15) fun t16 =>
 letO (binF Try.prog .leq 3 t13 t16) fun t17 =>
 condA t17 true (
 true = true ∧ ∃ J7 : List AV → Heap → Prop, (
 letO (some ((L5.getD 2 .any) : AV)) fun t20 =>
 letO (faddr 1 (.iptr c1)) fun t21 =>
 letO (load1 t21 H6) fun t22 =>
 letO (lenA t22) fun t23 =>
 letO (binF Try.prog .eql 3 t20 t23) fun t24 =>
 letO (some (t24 : AV)) fun t25 =>
 letO (gval t25 false (loadN 2 (.iptr c1) H6)) fun t26 =>
 letO (gval t25 false (some ((L5.getD 1 .any) : AV))) fun t27 =>
 letO (gval t25 false (some ((L5.getD 2 .any) : AV))) fun t28 =>
 letO (gval t25 false (binF Try.prog .add 3 t28 (.int .i64 1))) fun t29 =>
 ∃ J8 : AV → Heap → Prop, condG t25 false (ACalls Try.prog 79 [t26, t27, t29] H6 fun t30 H9 =>
 J8 t30 H9) (J8 (.tup []) H6) ∧ ∀ t30 H10, J8 t30 H10 →
 letO (gval t25 false (binF Try.prog .lss 3 t30 (.int .i64 0))) fun t31 =>
 letO (pickF t25 (.bool true) t31) fun t32 =>
 condA t32 true (
 letO (some ((L5.getD 0 .any) : AV)) fun t33 =>
 letO (some ((L5.getD 2 .any) : AV)) fun t34 =>
 letO (literalF Try.prog 22 1 [(0, t34)]) fun c11 =>
 appendA 1 8 t33 (.imm 1 true c11) (fun t36 H12 =>
 letO (some (t36 : AV)) fun t5 =>
 letO (some ((L5.getD 2 .any) : AV)) fun t37 =>
 letO (some (t37 : AV)) fun t6 =>
 J7 [t5, t6] H12) H10) (
 J7 [(L5.getD 0 .any), (L5.getD 1 .any)] H10)) ∧ ∀ L13 H14, J7 L13 H14 → -- [t5, t6]
 letO (some ((L5.getD 2 .any) : AV)) fun t18 =>
 letO (binF Try.prog .add 3 t18 (.int .i64 1)) fun t19 =>
 letO (some (t19 : AV)) fun t7 =>
 I3 [(L13.getD 0 .any), (L13.getD 1 .any), t7] H14 ∧ μ4 [(L13.getD 0 .any), (L13.getD 1 .any), t7] H14 < μ4 L5 H6) (
 letO (some ((L5.getD 0 .any) : AV)) fun t38 =>
 letO (some (t38 : AV)) fun t2 =>
 letO (some ((.int .i64 0) : AV)) fun t3 =>
endK (.tup [t2, t3]) H6 K))

theorem W49_ok {x0 : AV} {H : Heap} {K : AV → Heap → Prop} (h : W49 x0 H K) : ACalls Try.prog 49 [x0] H K :=
  acallsB (fn := Try.f49) (cfg := cfgOf [] [] [] [] []) (hh := (.dir .nil (.dir .nil (.dir (.dir .nil (.dir .nil .nil)) (.dir .nil (.dir .nil (.dir (.dir .nil (.blk (.loop [5, 6, 7] [13, 14, 15, 16, 17, 20, 21, 22, 23, 24, 25, 26, 27, 28, 29, 30, 31, 32, 33, 34, 35, 36, 5, 37, 6, 18, 19, 7] (.dir (.dir .nil .nil) (.cut [5, 6] [20, 21, 22, 23, 24, 25, 26, 27, 28, 29, 30, 31, 32, 33, 34, 35, 36, 5, 37, 6] (.blk (.dir .nil (.dir .nil .nil))) .nil))))) .nil))))))) follows Try.func49 (by kernel_rfl) (Nat.le_of_ble_eq_true (by kernel_rfl)) (by kernel_rfl) h

/-- headword.headwordref13.Check -/
def W51 (x0 : AV) (H : Heap) (K : AV → Heap → Prop) : Prop :=
 letO (cellsOf? x0) fun c1 =>
 letO (some ((.int .i64 0) : AV)) fun t2 =>
 letO (faddr 0 (.iptr c1)) fun t4 =>
 letO (load1 t4 H) fun t5 =>
 ACalls Try.prog 77 [t5, (.int .i64 1), (.int .i64 40)] H fun t6 H2 =>
 letO (unF .not t6) fun t7 =>
 condA t7 true (
 letO (some ((.int .i64 1) : AV)) fun t2 =>
endK t2 H2 K) (
 letO (faddr 1 (.iptr c1)) fun t8 =>
 letO (load1 t8 H2) fun t9 =>
 letO (lenA t9) fun t10 =>
 letO (binF Try.prog .eql 3 t10 (.int .i64 0)) fun t11 =>
 condA t11 true (
 letO (some ((.int .i64 4) : AV)) fun t2 =>
endK t2 H2 K) (
 letO (faddr 1 (.iptr c1)) fun t12 =>
 letO (load1 t12 H2) fun t13 =>
 letO (lenA t13) fun t14 =>
 letO (binF Try.prog .gtr 3 t14 (.int .i64 10)) fun t15 =>
 condA t15 true (
 letO (some ((.int .i64 3) : AV)) fun t2 =>
endK t2 H2 K) (
 letO (some ((.int .i64 0) : AV)) fun t3 =>
 true = true ∧ ∃ (I3 : List AV → Heap → Prop) (μ4 : List AV → Heap → Nat), I3 [t3] H2 ∧ ∀ L5 H6, I3 L5 H6 → -- [t3]
 letO (some ((L5.getD 0 .any) : AV)) fun t16 =>
 letO (faddr 1 (.iptr c1)) fun t17 =>
 letO (load1 t17 H6) fun t18 =>
 letO (lenA t18) fun t19 =>
 letO (binF Try.prog .lss 3 t16 t19) fun t20 =>
 condA t20 true (
 true = true ∧
 letO (faddr 1 (.iptr c1)) fun t23 =>
 letO (load1 t23 Heap.none) fun t24 =>
 letO (some ((L5.getD 0 .any) : AV)) fun t25 =>
 letO (idx 1 t24 t25) fun t26 =>
 letO (load1 t26 H6) fun t27 =>
 letO (faddr 0 (.iptr c1)) fun t28 =>
 letO (load1 t28 Heap.none) fun t29 =>
 ACalls Try.prog 77 [t27, (.int .i64 1), t29] H6 fun t30 H7 =>
 letO (unF .not t30) fun t31 =>
 condA t31 true (
 letO (some ((.int .i64 1) : AV)) fun t2 =>
endK t2 H7 K) (
 letO (some ((L5.getD 0 .any) : AV)) fun t21 =>
 letO (binF Try.prog .add 3 t21 (.int .i64 1)) fun t22 =>
 letO (some (t22 : AV)) fun t3 =>
 I3 [t3] H7 ∧ μ4 [t3] H7 < μ4 L5 H6)) (
 letO (some ((.int .i64 0) : AV)) fun t2 =>
endK t2 H6 K))))

theorem W51_ok {x0 : AV} {H : Heap} {K : AV → Heap → Prop} (h : W51 x0 H K) : ACalls Try.prog 51 [x0] H K :=
  acallsB (fn := Try.f51) (cfg := cfgOf [] [24, 29] [(10, [0, 1, 0, 7, 15, 0, 32, 127, 255])] [] []) (hh := (.dir .nil (.dir (.dir .nil (.dir .nil .nil)) (.dir (.dir .nil (.dir .nil .nil)) (.dir (.dir .nil (.dir .nil .nil)) (.dir (.dir .nil (.blk (.loop [3] [16, 17, 18, 19, 20, 23, 24, 25, 26, 27, 28, 29, 30, 31, 2, 21, 22, 3] (.dir (.dir .nil .nil) (.dir (.blk (.dir .nil (.dir .nil .nil))) .nil))))) .nil)))))) follows Try.func51 (by kernel_rfl) (Nat.le_of_ble_eq_true (by kernel_rfl)) (by kernel_rfl) h

/-- headword.headwordref13.Fits -/
def W52 (x0 x1 : AV) (H : Heap) (K : AV → Heap → Prop) : Prop :=
 letO (cellsOf? x0) fun c1 =>
 letO (some ((.int .i64 0) : AV)) fun t4 =>
 letO (loadN 2 (.iptr c1) H) fun t6 =>
 letO (some (x1 : AV)) fun t7 =>
 ACalls Try.prog 82 [t6, t7] H fun t8 H2 =>
 letO (some (t8 : AV)) fun t5 =>
 true = true ∧ ∃ J3 : List AV → Heap → Prop, (
 letO (some (t5 : AV)) fun t9 =>
 letO (binF Try.prog .eql 27 t9 (.int .i64 0)) fun t10 =>
 letO (some (t10 : AV)) fun t11 =>
 letO (gval t11 true (loadN 2 (.iptr c1) H2)) fun t12 =>
 letO (gval t11 true (some (x1 : AV))) fun t13 =>
 ∃ J4 : AV → Heap → Prop, condG t11 true (ACalls Try.prog 83 [t12, t13] H2 fun t14 H5 =>
 J4 t14 H5) (J4 (.tup []) H2) ∧ ∀ t14 H6, J4 t14 H6 →
 letO (gval t11 true (unF .not t14)) fun t15 =>
 letO (pickF t11 t15 (.bool false)) fun t16 =>
 condA t16 true (
 letO (some ((.int .i64 15) : AV)) fun t5 =>
 J3 [t5] H6) (
 J3 [t5] H6)) ∧ ∀ L7 H8, J3 L7 H8 → -- [t5]
 letO (some ((L7.getD 0 .any) : AV)) fun t17 =>
 letO (some (t17 : AV)) fun t4 =>
endK t4 H8 K

theorem W52_ok {x0 x1 : AV} {H : Heap} {K : AV → Heap → Prop} (h : W52 x0 x1 H K) : ACalls Try.prog 52 [x0, x1] H K :=
  acallsB (fn := Try.f52) (cfg := cfgOf [] [] [] [] []) (hh := (.dir .nil (.dir .nil (.cut [5] [9, 10, 11, 12, 13, 14, 15, 16, 5] (.dir .nil .nil) .nil)))) follows Try.func52 (by kernel_rfl) (Nat.le_of_ble_eq_true (by kernel_rfl)) (by kernel_rfl) h

/-- headword.headwordref13.squares -/
def W66 (x0 x1 x2 : AV) (H : Heap) (K : AV → Heap → Prop) : Prop :=
 letO (cellsOf? x0) fun c1 =>
 letO (some ((.int .i64 0) : AV)) fun t6 =>
 letO (some ((.int .i64 0) : AV)) fun t7 =>
 letO (some ((.int .i64 0) : AV)) fun t8 =>
 true = true ∧ ∃ (I2 : List AV → Heap → Prop) (μ3 : List AV → Heap → Nat), I2 [t7, t8] H ∧ ∀ L4 H5, I2 L4 H5 → -- [t7, t8]
 letO (some ((L4.getD 1 .any) : AV)) fun t10 =>
 letO (some (x2 : AV)) fun t11 =>
 letO (binF Try.prog .lss 3 t10 t11) fun t12 =>
 condA t12 true (
 true = true ∧
 letO (loadN 2 (.iptr c1) Heap.none) fun t15 =>
 letO (some (x1 : AV)) fun t16 =>
 letO (some ((L4.getD 1 .any) : AV)) fun t17 =>
 ∃ t18, (ACalls Try.prog 78 [t16, t17] H5 fun r h => r = t18 ∧ h = H5) ∧
 letO (some (x1 : AV)) fun t19 =>
 letO (some ((L4.getD 1 .any) : AV)) fun t20 =>
 letO (idx 1 t19 t20) fun t21 =>
 letO (load1 t21 H5) fun t22 =>
 ACalls Try.prog 79 [t15, t18, t22] H5 fun t23 H6 =>
 letO (some (t23 : AV)) fun t9 =>
 letO (some ((L4.getD 0 .any) : AV)) fun t24 =>
 letO (some (t9 : AV)) fun t25 =>
 letO (some (t9 : AV)) fun t26 =>
 letO (binF Try.prog .mul 3 t25 t26) fun t27 =>
 letO (binF Try.prog .add 3 t24 t27) fun t28 =>
 letO (some (t28 : AV)) fun t7 =>
 letO (some ((L4.getD 1 .any) : AV)) fun t13 =>
 letO (binF Try.prog .add 3 t13 (.int .i64 1)) fun t14 =>
 letO (some (t14 : AV)) fun t8 =>
 I2 [t7, t8] H6 ∧ μ3 [t7, t8] H6 < μ3 L4 H5) (
 letO (some ((L4.getD 0 .any) : AV)) fun t29 =>
 letO (some (t29 : AV)) fun t6 =>
endK t6 H5 K)

theorem W66_ok {x0 x1 x2 : AV} {H : Heap} {K : AV → Heap → Prop} (h : W66 x0 x1 x2 H K) : ACalls Try.prog 66 [x0, x1, x2] H K :=
  acallsB (fn := Try.f66) (cfg := cfgOf [] [15] [(5, [0, 0, 0, 6, 0, 0, 48, 112, 255, 511])] [] []) (hh := (.dir .nil (.dir .nil (.dir (.dir .nil (.blk (.loop [7, 8] [10, 11, 12, 15, 16, 17, 18, 19, 20, 21, 22, 23, 9, 24, 25, 26, 27, 28, 7, 13, 14, 8] (.dir (.dir .nil .nil) (.dir .nil .nil))))) .nil)))) follows Try.func66 (by kernel_rfl) (Nat.le_of_ble_eq_true (by kernel_rfl)) (by kernel_rfl) h

/-- headword.headwordref13.in -/
def W77 (x0 x1 x2 : AV) (H : Heap) (K : AV → Heap → Prop) : Prop :=
 letO (some ((.bool false) : AV)) fun t6 =>
 letO (some (x0 : AV)) fun t7 =>
 letO (some (x1 : AV)) fun t8 =>
 letO (binF Try.prog .geq 3 t7 t8) fun t9 =>
 letO (some (t9 : AV)) fun t10 =>
 letO (gval t10 true (some (x0 : AV))) fun t11 =>
 letO (gval t10 true (some (x2 : AV))) fun t12 =>
 letO (gval t10 true (binF Try.prog .leq 3 t11 t12)) fun t13 =>
 letO (pickF t10 t13 (.bool false)) fun t14 =>
 letO (some (t14 : AV)) fun t6 =>
endK t6 H K

theorem W77_ok {x0 x1 x2 : AV} {H : Heap} {K : AV → Heap → Prop} (h : W77 x0 x1 x2 H K) : ACalls Try.prog 77 [x0, x1, x2] H K :=
  acallsB (fn := Try.f77) (cfg := cfgOf [] [] [] [] []) (hh := (.dir .nil .nil)) follows Try.func77 (by kernel_rfl) (Nat.le_of_ble_eq_true (by kernel_rfl)) (by kernel_rfl) h

/-- headword.headwordref13.begin -/
def W78 (x0 x1 : AV) (H : Heap) (K : AV → Heap → Prop) : Prop :=
 letO (some ((.int .i64 0) : AV)) fun t4 =>
 letO (some (x1 : AV)) fun t5 =>
 letO (binF Try.prog .eql 3 t5 (.int .i64 0)) fun t6 =>
 condA t6 true (
 letO (some ((.int .i64 0) : AV)) fun t4 =>
endK t4 H K) (
 letO (some (x0 : AV)) fun t7 =>
 letO (some (x1 : AV)) fun t8 =>
 letO (binF Try.prog .sub 3 t8 (.int .i64 1)) fun t9 =>
 letO (idx 1 t7 t9) fun t10 =>
 letO (load1 t10 H) fun t11 =>
 letO (some (t11 : AV)) fun t4 =>
endK t4 H K)

theorem W78_ok {x0 x1 : AV} {H : Heap} {K : AV → Heap → Prop} (h : W78 x0 x1 H K) : ACalls Try.prog 78 [x0, x1] H K :=
  acallsB (fn := Try.f78) (cfg := cfgOf [] [] [] [] []) (hh := (.dir .nil (.dir (.dir .nil (.dir .nil .nil)) .nil))) follows Try.func78 (by kernel_rfl) (Nat.le_of_ble_eq_true (by kernel_rfl)) (by kernel_rfl) h

/-- headword.headwordref13.left -/
def W79 (x0 x1 x2 : AV) (H : Heap) (K : AV → Heap → Prop) : Prop :=
 letO (cellsOf? x0) fun c1 =>
 letO (some ((.int .i64 0) : AV)) fun t6 =>
 letO (faddr 0 (.iptr c1)) fun t9 =>
 letO (load1 t9 H) fun t10 =>
 letO (some (x2 : AV)) fun t11 =>
 letO (some (x1 : AV)) fun t12 =>
 letO (binF Try.prog .sub 3 t11 t12) fun t13 =>
 letO (binF Try.prog .sub 3 t13 (.int .i64 1)) fun t14 =>
 letO (binF Try.prog .sub 3 t10 t14) fun t15 =>
 letO (some (t15 : AV)) fun t7 =>
 letO (some (x1 : AV)) fun t16 =>
 letO (some (t16 : AV)) fun t8 =>
 true = true ∧ ∃ (I2 : List AV → Heap → Prop) (μ3 : List AV → Heap → Nat), I2 [t7, t8] H ∧ ∀ L4 H5, I2 L4 H5 → -- [t7, t8]
 letO (some ((L4.getD 1 .any) : AV)) fun t17 =>
 letO (some (x2 : AV)) fun t18 =>
 letO (binF Try.prog .lss 3 t17 t18) fun t19 =>
 condA t19 true (
 letO (some ((L4.getD 0 .any) : AV)) fun t22 =>
 letO (faddr 1 (.iptr c1)) fun t23 =>
 letO (load1 t23 H5) fun t24 =>
 letO (some ((L4.getD 1 .any) : AV)) fun t25 =>
 letO (idx 1 t24 t25) fun t26 =>
 letO (load1 t26 H5) fun t27 =>
 letO (binF Try.prog .sub 3 t22 t27) fun t28 =>
 letO (some (t28 : AV)) fun t7 =>
 letO (some ((L4.getD 1 .any) : AV)) fun t20 =>
 letO (binF Try.prog .add 3 t20 (.int .i64 1)) fun t21 =>
 letO (some (t21 : AV)) fun t8 =>
 I2 [t7, t8] H5 ∧ μ3 [t7, t8] H5 < μ3 L4 H5) (
 letO (some ((L4.getD 0 .any) : AV)) fun t29 =>
 letO (some (t29 : AV)) fun t6 =>
endK t6 H5 K)

theorem W79_ok {x0 x1 x2 : AV} {H : Heap} {K : AV → Heap → Prop} (h : W79 x0 x1 x2 H K) : ACalls Try.prog 79 [x0, x1, x2] H K :=
  acallsB (fn := Try.f79) (cfg := cfgOf [] [] [] [] []) (hh := (.dir .nil (.dir .nil (.dir (.dir .nil (.blk (.loop [7, 8] [17, 18, 19, 22, 23, 24, 25, 26, 27, 28, 7, 20, 21, 8] (.dir (.dir .nil .nil) (.dir .nil .nil))))) .nil)))) follows Try.func79 (by kernel_rfl) (Nat.le_of_ble_eq_true (by kernel_rfl)) (by kernel_rfl) h

/-- headword.headwordref13.ended -/
def W82 (x0 x1 : AV) (H : Heap) (K : AV → Heap → Prop) : Prop :=
 letO (cellsOf? x0) fun c1 =>
 letO (some ((.int .i64 0) : AV)) fun t4 =>
 letO (loadN 2 (.iptr c1) H) fun t7 =>
 ACalls Try.prog 51 [t7] H fun t8 H2 =>
 letO (some (t8 : AV)) fun t5 =>
 letO (some ((.int .i64 0) : AV)) fun t6 =>
 true = true ∧ ∃ (I3 : List AV → Heap → Prop) (μ4 : List AV → Heap → Nat), I3 [t5, t6] H2 ∧ ∀ L5 H6, I3 L5 H6 → -- [t5, t6]
 letO (some ((L5.getD 1 .any) : AV)) fun t9 =>
 letO (some (x1 : AV)) fun t10 =>
 letO (lenA t10) fun t11 =>
 letO (binF Try.prog .lss 3 t9 t11) fun t12 =>
 letO (some (t12 : AV)) fun t13 =>
 letO (gval t13 true (some ((L5.getD 0 .any) : AV))) fun t14 =>
 letO (gval t13 true (binF Try.prog .eql 27 t14 (.int .i64 0))) fun t15 =>
 letO (pickF t13 t15 (.bool false)) fun t16 =>
 condA t16 true (
 true = true ∧ ∃ J7 : List AV → Heap → Prop, (
 true = true ∧
 letO (some (x1 : AV)) fun t19 =>
 letO (some ((L5.getD 1 .any) : AV)) fun t20 =>
 letO (idx 1 t19 t20) fun t21 =>
 letO (load1 t21 H6) fun t22 =>
 letO (faddr 1 (.iptr c1)) fun t23 =>
 letO (load1 t23 Heap.none) fun t24 =>
 letO (lenA t24) fun t25 =>
 ACalls Try.prog 77 [t22, (.int .i64 1), t25] H6 fun t26 H8 =>
 letO (unF .not t26) fun t27 =>
 condA t27 true (
 letO (some ((.int .i64 2) : AV)) fun t5 =>
 J7 [t5] H8) (
 true = true ∧
 letO (some ((L5.getD 1 .any) : AV)) fun t28 =>
 letO (binF Try.prog .gtr 3 t28 (.int .i64 0)) fun t29 =>
 letO (some (t29 : AV)) fun t30 =>
 letO (gval t30 true (some (x1 : AV))) fun t31 =>
 letO (gval t30 true (some ((L5.getD 1 .any) : AV))) fun t32 =>
 letO (gval t30 true (idx 1 t31 t32)) fun t33 =>
 letO (gval t30 true (load1 t33 H8)) fun t34 =>
 letO (gval t30 true (some (x1 : AV))) fun t35 =>
 letO (gval t30 true (some ((L5.getD 1 .any) : AV))) fun t36 =>
 letO (gval t30 true (binF Try.prog .sub 3 t36 (.int .i64 1))) fun t37 =>
 letO (gval t30 true (idx 1 t35 t37)) fun t38 =>
 letO (gval t30 true (load1 t38 H8)) fun t39 =>
 letO (gval t30 true (binF Try.prog .leq 3 t34 t39)) fun t40 =>
 letO (pickF t30 t40 (.bool false)) fun t41 =>
 condA t41 true (
 letO (some ((.int .i64 7) : AV)) fun t5 =>
 J7 [t5] H8) (
 J7 [(L5.getD 0 .any)] H8))) ∧ ∀ L9 H10, J7 L9 H10 → -- [t5]
 letO (some ((L5.getD 1 .any) : AV)) fun t17 =>
 letO (binF Try.prog .add 3 t17 (.int .i64 1)) fun t18 =>
 letO (some (t18 : AV)) fun t6 =>
 I3 [(L9.getD 0 .any), t6] H10 ∧ μ4 [(L9.getD 0 .any), t6] H10 < μ4 L5 H6) (
 true = true ∧ ∃ J11 : List AV → Heap → Prop, (
 true = true ∧
 letO (some ((L5.getD 0 .any) : AV)) fun t42 =>
 letO (binF Try.prog .eql 27 t42 (.int .i64 0)) fun t43 =>
 letO (some (t43 : AV)) fun t44 =>
 letO (gval t44 true (some (x1 : AV))) fun t45 =>
 letO (gval t44 true (lenA t45)) fun t46 =>
 letO (gval t44 true (binF Try.prog .eql 3 t46 (.int .i64 0))) fun t47 =>
 letO (gval t44 true (some (t47 : AV))) fun t48 =>
 letO (gval t48 false (some (x1 : AV))) fun t49 =>
 letO (gval t48 false (some (x1 : AV))) fun t50 =>
 letO (gval t48 false (lenA t50)) fun t51 =>
 letO (gval t48 false (binF Try.prog .sub 3 t51 (.int .i64 1))) fun t52 =>
 letO (gval t48 false (idx 1 t49 t52)) fun t53 =>
 letO (gval t48 false (load1 t53 H6)) fun t54 =>
 letO (gval t48 false (faddr 1 (.iptr c1))) fun t55 =>
 letO (gval t48 false (load1 t55 Heap.none)) fun t56 =>
 letO (gval t48 false (lenA t56)) fun t57 =>
 letO (gval t48 false (binF Try.prog .neq 3 t54 t57)) fun t58 =>
 letO (gval t44 true (pickF t48 (.bool true) t58)) fun t59 =>
 letO (pickF t44 t59 (.bool false)) fun t60 =>
 condA t60 true (
 letO (some ((.int .i64 5) : AV)) fun t5 =>
 J11 [t5] H6) (
 J11 [(L5.getD 0 .any)] H6)) ∧ ∀ L12 H13, J11 L12 H13 → -- [t5]
 letO (some ((L12.getD 0 .any) : AV)) fun t61 =>
 letO (some (t61 : AV)) fun t4 =>
endK t4 H13 K)

theorem W82_ok {x0 x1 : AV} {H : Heap} {K : AV → Heap → Prop} (h : W82 x0 x1 H K) : ACalls Try.prog 82 [x0, x1] H K :=
  acallsB (fn := Try.f82) (cfg := cfgOf [] [24, 56] [(5, [0, 0, 3, 7, 0, 16, 48, 127, 255]), (7, [0, 1, 3, 7, 7, 31, 63, 7, 7, 263, 903, 1927, 4095, 8191]), (9, [0, 1, 3, 7, 15, 31, 63, 127, 127, 383, 895, 2047, 4095, 127, 8319, 24703, 65535, 131071, 262143])] [] []) (hh := (.dir .nil (.dir .nil (.dir (.dir .nil (.blk (.loop [5, 6] [9, 10, 11, 12, 13, 14, 15, 16, 19, 20, 21, 22, 23, 24, 25, 26, 27, 5, 28, 29, 30, 31, 32, 33, 34, 35, 36, 37, 38, 39, 40, 41, 17, 18, 6] (.dir (.dir .nil .nil) (.cut [5] [19, 20, 21, 22, 23, 24, 25, 26, 27, 5, 28, 29, 30, 31, 32, 33, 34, 35, 36, 37, 38, 39, 40, 41] (.blk (.dir .nil (.dir .nil (.dir .nil .nil)))) .nil))))) (.cut [5] [42, 43, 44, 45, 46, 47, 48, 49, 50, 51, 52, 53, 54, 55, 56, 57, 58, 59, 60, 5] (.dir .nil .nil) .nil))))) follows Try.func82 (by kernel_rfl) (Nat.le_of_ble_eq_true (by kernel_rfl)) (by kernel_rfl) h

/-- headword.headwordref13.fits -/
def W83 (x0 x1 : AV) (H : Heap) (K : AV → Heap → Prop) : Prop :=
 letO (cellsOf? x0) fun c1 =>
 letO (some ((.bool false) : AV)) fun t4 =>
 letO (some ((.int .i64 0) : AV)) fun t5 =>
 true = true ∧ ∃ (I2 : List AV → Heap → Prop) (μ3 : List AV → Heap → Nat), I2 [t5] H ∧ ∀ L4 H5, I2 L4 H5 → -- [t5]
 letO (some ((L4.getD 0 .any) : AV)) fun t6 =>
 letO (some (x1 : AV)) fun t7 =>
 letO (lenA t7) fun t8 =>
 letO (binF Try.prog .lss 3 t6 t8) fun t9 =>
 condA t9 true (
 true = true ∧
 letO (loadN 2 (.iptr c1) Heap.none) fun t12 =>
 letO (some (x1 : AV)) fun t13 =>
 letO (some ((L4.getD 0 .any) : AV)) fun t14 =>
 ∃ t15, (ACalls Try.prog 78 [t13, t14] H5 fun r h => r = t15 ∧ h = H5) ∧
 letO (some (x1 : AV)) fun t16 =>
 letO (some ((L4.getD 0 .any) : AV)) fun t17 =>
 letO (idx 1 t16 t17) fun t18 =>
 letO (load1 t18 H5) fun t19 =>
 ACalls Try.prog 79 [t12, t15, t19] H5 fun t20 H6 =>
 letO (binF Try.prog .lss 3 t20 (.int .i64 0)) fun t21 =>
 condA t21 true (
 letO (some ((.bool false) : AV)) fun t4 =>
endK t4 H6 K) (
 letO (some ((L4.getD 0 .any) : AV)) fun t10 =>
 letO (binF Try.prog .add 3 t10 (.int .i64 1)) fun t11 =>
 letO (some (t11 : AV)) fun t5 =>
 I2 [t5] H6 ∧ μ3 [t5] H6 < μ3 L4 H5)) (
 letO (some ((.bool true) : AV)) fun t4 =>
endK t4 H5 K)

theorem W83_ok {x0 x1 : AV} {H : Heap} {K : AV → Heap → Prop} (h : W83 x0 x1 H K) : ACalls Try.prog 83 [x0, x1] H K :=
  acallsB (fn := Try.f83) (cfg := cfgOf [] [12] [(4, [0, 0, 0, 6, 0, 0, 48, 112, 255, 511])] [] []) (hh := (.dir .nil (.dir (.dir .nil (.blk (.loop [5] [6, 7, 8, 9, 12, 13, 14, 15, 16, 17, 18, 19, 20, 21, 4, 10, 11, 5] (.dir (.dir .nil .nil) (.dir (.blk (.dir .nil (.dir .nil .nil))) .nil))))) .nil))) follows Try.func83 (by kernel_rfl) (Nat.le_of_ble_eq_true (by kernel_rfl)) (by kernel_rfl) h


end Go.Proofs.Ytlajhbpkogekfaa
