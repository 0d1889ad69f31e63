import Derived.Test.YtbofkeoebnjjkaaDoorConB
/- The functions of the statement TableMore that the common text does not hold, each in the words of its walk; made by program. -/
set_option linter.unusedVariables false
set_option maxRecDepth 100000
namespace Go.Proofs.YtbofkeoebnjjkaaDoor
open Go.Av
/-- headword.headwordlaw11.TableMore -/
def W13 (x0 x1 x2 x3 : AV) (H : Heap) (K : AV → Heap → Prop) : Prop :=
 letO (cellsOf? x0) fun c1 =>
 letO (some ((.bool false) : AV)) fun t8 =>
 letO (loadN 27 (.iptr c1) H) fun t23 =>
 ACalls Tryd.prog 54 [t23] H fun t24 H2 =>
 letO (some (t24 : AV)) fun t9 =>
 letO (some (t9 : AV)) fun t25 =>
 letO (lenA t25) fun t26 =>
 letO (some (t26 : AV)) fun t10 =>
 letO (some (t10 : AV)) fun t27 =>
 ACalls Tryd.prog 49 [t27] H2 fun t28 H3 =>
 letO (some (t28 : AV)) fun t11 =>
 letO (some (t10 : AV)) fun t29 =>
 letO (some ((.int .i64 0) : AV)) fun t30 =>
 true = true ∧ ∃ (I4 : List AV → Heap → Prop) (μ5 : List AV → Heap → Nat), I4 [t30] H3 ∧ ∀ L6 H7, I4 L6 H7 → -- [t30]
 letO (binF Tryd.prog .lss 3 (L6.getD 0 .any) t29) fun t31 =>
 condA t31 true (
 letO (some ((L6.getD 0 .any) : AV)) fun t32 =>
 letO (some (t32 : AV)) fun t12 =>
 true = true ∧
 letO (some (t11 : AV)) fun t33 =>
 letO (some (t12 : AV)) fun t34 =>
 letO (idx 1 t33 t34) fun t35 =>
 letO (load1 t35 H7) fun t36 =>
 letO (some (t9 : AV)) fun t37 =>
 letO (some (t12 : AV)) fun t38 =>
 letO (idx 1 t37 t38) fun t39 =>
 letO (load1 t39 H7) fun t40 =>
 copyA 1 t36 t40 (fun t41 H8 =>
 letO (binF Tryd.prog .add 3 (L6.getD 0 .any) (.int .i64 1)) fun t42 =>
 letO (some (t42 : AV)) fun t30 =>
 I4 [t30] H8 ∧ μ5 [t30] H8 < μ5 L6 H7) H7) (
 true = true ∧
 letO (some (x1 : AV)) fun t43 =>
 letO (convF Tryd.prog 5 3 t43) fun t44 =>
 letO (some (t10 : AV)) fun t45 =>
 letO (binF Tryd.prog .rem 3 t44 t45) fun t46 =>
 letO (some (x2 : AV)) fun t47 =>
 letO (convF Tryd.prog 5 3 t47) fun t48 =>
 letO (some (t10 : AV)) fun t49 =>
 letO (binF Tryd.prog .rem 3 t48 t49) fun t50 =>
 letO (some (t46 : AV)) fun t13 =>
 letO (some (t50 : AV)) fun t14 =>
 true = true ∧
 letO (some (t11 : AV)) fun t51 =>
 letO (some (t13 : AV)) fun t52 =>
 letO (idx 1 t51 t52) fun t53 =>
 letO (load1 t53 H7) fun t54 =>
 letO (some (t14 : AV)) fun t55 =>
 letO (idx 1 t54 t55) fun t56 =>
 letO (load1 t56 H7) fun t57 =>
 letO (some (x3 : AV)) fun t58 =>
 letO (convF Tryd.prog 5 3 t58) fun t59 =>
 letO (some (t11 : AV)) fun t60 =>
 letO (some (t13 : AV)) fun t61 =>
 letO (idx 1 t60 t61) fun t62 =>
 letO (load1 t62 H7) fun t63 =>
 letO (some (t14 : AV)) fun t64 =>
 letO (idx 1 t63 t64) fun t65 =>
 letO (load1 t65 H7) fun t66 =>
 letO (binF Tryd.prog .sub 3 (.int .i64 10) t66) fun t67 =>
 letO (binF Tryd.prog .rem 3 t59 t67) fun t68 =>
 letO (binF Tryd.prog .add 3 t57 t68) fun t69 =>
 letO (idx 1 t54 t55) fun t70 =>
 storeA 1 t70 t69 (fun H9 =>
 letO (some (t9 : AV)) fun t72 =>
 ACalls Tryd.prog 22 [t72] H9 fun t73 H10 =>
 letO (some (t73 : AV)) fun t71 =>
 letO (extrF t71 0) fun t74 =>
 letO (extrF t71 1) fun t75 =>
 letO (some (t74 : AV)) fun t15 =>
 letO (some (t75 : AV)) fun t16 =>
 letO (some (t11 : AV)) fun t77 =>
 ACalls Tryd.prog 22 [t77] H10 fun t78 H11 =>
 letO (some (t78 : AV)) fun t76 =>
 letO (extrF t76 0) fun t79 =>
 letO (extrF t76 1) fun t80 =>
 letO (some (t79 : AV)) fun t17 =>
 letO (some (t80 : AV)) fun t18 =>
 letO (some (t9 : AV)) fun t82 =>
 ACalls Tryd.prog 25 [t82] H11 fun t83 H12 =>
 letO (some (t83 : AV)) fun t81 =>
 letO (extrF t81 0) fun t84 =>
 letO (extrF t81 1) fun t85 =>
 letO (some (t84 : AV)) fun t19 =>
 letO (some (t85 : AV)) fun t20 =>
 letO (some (t11 : AV)) fun t87 =>
 ACalls Tryd.prog 25 [t87] H12 fun t88 H13 =>
 letO (some (t88 : AV)) fun t86 =>
 letO (extrF t86 0) fun t89 =>
 letO (extrF t86 1) fun t90 =>
 letO (some (t89 : AV)) fun t21 =>
 letO (some (t90 : AV)) fun t22 =>
 letO (some (t16 : AV)) fun t91 =>
 letO (binF Tryd.prog .eql 26 t91 (.int .i64 0)) fun t92 =>
 letO (some (t92 : AV)) fun t93 =>
 letO (gval t93 true (some (t18 : AV))) fun t94 =>
 letO (gval t93 true (binF Tryd.prog .eql 26 t94 (.int .i64 0))) fun t95 =>
 letO (pickF t93 t95 (.bool false)) fun t96 =>
 letO (some (t96 : AV)) fun t97 =>
 letO (gval t97 true (some (t20 : AV))) fun t98 =>
 letO (gval t97 true (binF Tryd.prog .eql 26 t98 (.int .i64 0))) fun t99 =>
 letO (pickF t97 t99 (.bool false)) fun t100 =>
 letO (some (t100 : AV)) fun t101 =>
 letO (gval t101 true (some (t22 : AV))) fun t102 =>
 letO (gval t101 true (binF Tryd.prog .eql 26 t102 (.int .i64 0))) fun t103 =>
 letO (pickF t101 t103 (.bool false)) fun t104 =>
 letO (some (t104 : AV)) fun t105 =>
 letO (gval t105 true (some (t15 : AV))) fun t106 =>
 letO (gval t105 true (some (t17 : AV))) fun t107 =>
 letO (gval t105 true (binF Tryd.prog .leq 3 t106 t107)) fun t108 =>
 letO (pickF t105 t108 (.bool false)) fun t109 =>
 letO (some (t109 : AV)) fun t110 =>
 letO (gval t110 true (some (t19 : AV))) fun t111 =>
 letO (gval t110 true (some (t21 : AV))) fun t112 =>
 letO (gval t110 true (binF Tryd.prog .leq 3 t111 t112)) fun t113 =>
 letO (pickF t110 t113 (.bool false)) fun t114 =>
 letO (some (t114 : AV)) fun t115 =>
 ∃ J14 : AV → Heap → Prop, condG t115 true (ACalls Tryd.prog 17 [] H13 fun t116 H15 =>
 J14 t116 H15) (J14 (.tup []) H13) ∧ ∀ t116 H16, J14 t116 H16 →
 letO (pickF t115 t116 (.bool false)) fun t117 =>
 letO (some (t117 : AV)) fun t8 =>
endK t8 H16 K) H7)

theorem W13_ok {x0 x1 x2 x3 : AV} {H : Heap} {K : AV → Heap → Prop} (h : W13 x0 x1 x2 x3 H K) : ACalls Tryd.prog 13 [x0, x1, x2, x3] H K :=
  acallsB (fn := Tryd.f13) (cfg := cfgOf [] [] [(7, [0, 0, 3, 7, 0, 0, 48, 112, 255]), (9, [0, 1, 0, 7, 0, 16, 0, 112, 15, 511]), (10, [0, 0, 3, 7, 0, 31, 63, 0, 128, 0, 0, 1536, 3584, 0, 15872, 32256, 65024, 130944, 262143, 524287, 1048575])] [] []) (hh := (.dir .nil (.dir .nil (.dir .nil (.dir .nil (.dir (.dir .nil (.blk (.loop [30] [31, 32, 12, 33, 34, 35, 36, 37, 38, 39, 40, 41, 42, 30] (.dir .nil (.dir .nil (.dir .nil .nil)))))) (.dir .nil (.dir .nil (.dir .nil (.dir .nil (.dir .nil (.dir .nil .nil)))))))))))) follows Tryd.func13 (by kernel_rfl) (Nat.le_of_ble_eq_true (by kernel_rfl)) (by kernel_rfl) h

/-- headword.headwordlaw11.large -/
def W16 (x0 : AV) (H : Heap) (K : AV → Heap → Prop) : Prop :=
 letO (some ((.bool false) : AV)) fun t2 =>
 letO (some (x0 : AV)) fun t4 =>
 letO (lenA t4) fun t5 =>
 letO (binF Tryd.prog .gtr 3 t5 (.int .i64 20)) fun t6 =>
 condA t6 true (
 letO (some ((.bool true) : AV)) fun t2 =>
endK t2 H K) (
 letO (some ((.int .i64 0) : AV)) fun t3 =>
 true = true ∧ ∃ (I1 : List AV → Heap → Prop) (μ2 : List AV → Heap → Nat), I1 [t3] H ∧ ∀ L3 H4, I1 L3 H4 → -- [t3]
 letO (some ((L3.getD 0 .any) : AV)) fun t7 =>
 letO (some (x0 : AV)) fun t8 =>
 letO (lenA t8) fun t9 =>
 letO (binF Tryd.prog .lss 3 t7 t9) fun t10 =>
 condA t10 true (
 letO (some (x0 : AV)) fun t13 =>
 letO (some ((L3.getD 0 .any) : AV)) fun t14 =>
 letO (idx 1 t13 t14) fun t15 =>
 letO (load1 t15 H4) fun t16 =>
 letO (lenA t16) fun t17 =>
 letO (binF Tryd.prog .gtr 3 t17 (.int .i64 20)) fun t18 =>
 condA t18 true (
 letO (some ((.bool true) : AV)) fun t2 =>
endK t2 H4 K) (
 letO (some ((L3.getD 0 .any) : AV)) fun t11 =>
 letO (binF Tryd.prog .add 3 t11 (.int .i64 1)) fun t12 =>
 letO (some (t12 : AV)) fun t3 =>
 I1 [t3] H4 ∧ μ2 [t3] H4 < μ2 L3 H4)) (
 letO (some ((.bool false) : AV)) fun t2 =>
endK t2 H4 K))

theorem W16_ok {x0 : AV} {H : Heap} {K : AV → Heap → Prop} (h : W16 x0 H K) : ACalls Tryd.prog 16 [x0] H K :=
  acallsB (fn := Tryd.f16) (cfg := cfgOf [] [] [] [] []) (hh := (.dir .nil (.dir (.dir .nil (.dir .nil .nil)) (.dir (.dir .nil (.blk (.loop [3] [7, 8, 9, 10, 13, 14, 15, 16, 17, 18, 2, 11, 12, 3] (.dir (.dir .nil .nil) (.dir (.blk (.dir .nil (.dir .nil .nil))) .nil))))) .nil)))) follows Tryd.func16 (by kernel_rfl) (Nat.le_of_ble_eq_true (by kernel_rfl)) (by kernel_rfl) h

/-- headword.headwordref11.Even -/
def W19 (x0 : AV) (H : Heap) (K : AV → Heap → Prop) : Prop :=
 letO (some ((.int .i64 0) : AV)) fun t2 =>
 letO (some ((.int .i64 0) : AV)) fun t3 =>
 letO (some (x0 : AV)) fun t10 =>
 ACalls Tryd.prog 31 [t10] H fun t11 H1 =>
 letO (some (t11 : AV)) fun t4 =>
 letO (some (t4 : AV)) fun t12 =>
 letO (binF Tryd.prog .neq 26 t12 (.int .i64 0)) fun t13 =>
 condA t13 true (
 letO (some (t4 : AV)) fun t14 =>
 letO (some ((.int .i64 0) : AV)) fun t2 =>
 letO (some (t14 : AV)) fun t3 =>
endK (.tup [t2, t3]) H1 K) (
 letO (some (x0 : AV)) fun t16 =>
 ACalls Tryd.prog 72 [t16, (.int .i64 0)] H1 fun t17 H2 =>
 letO (some (t17 : AV)) fun t15 =>
 letO (extrF t15 0) fun t18 =>
 letO (extrF t15 1) fun t19 =>
 letO (some (t18 : AV)) fun t5 =>
 letO (some (t19 : AV)) fun t6 =>
 letO (some ((.int .i64 0) : AV)) fun t7 =>
 true = true ∧ ∃ (I3 : List AV → Heap → Prop) (μ4 : List AV → Heap → Nat), I3 [t7] H2 ∧ ∀ L5 H6, I3 L5 H6 → -- [t7]
 letO (some ((L5.getD 0 .any) : AV)) fun t20 =>
 letO (some (x0 : AV)) fun t21 =>
 letO (lenA t21) fun t22 =>
 letO (binF Tryd.prog .lss 3 t20 t22) fun t23 =>
 condA t23 true (
 letO (some (x0 : AV)) fun t27 =>
 letO (some ((L5.getD 0 .any) : AV)) fun t28 =>
 ACalls Tryd.prog 72 [t27, t28] H6 fun t29 H7 =>
 letO (some (t29 : AV)) fun t26 =>
 letO (extrF t26 0) fun t30 =>
 letO (extrF t26 1) fun t31 =>
 letO (some (t30 : AV)) fun t8 =>
 letO (some (t31 : AV)) fun t9 =>
 letO (some (t8 : AV)) fun t32 =>
 letO (some (t5 : AV)) fun t33 =>
 letO (binF Tryd.prog .neq 3 t32 t33) fun t34 =>
 letO (some (t34 : AV)) fun t35 =>
 letO (gval t35 false (some (t9 : AV))) fun t36 =>
 letO (gval t35 false (some (t5 : AV))) fun t37 =>
 letO (gval t35 false (binF Tryd.prog .neq 3 t36 t37)) fun t38 =>
 letO (pickF t35 (.bool true) t38) fun t39 =>
 condA t39 true (
 letO (some ((.int .i64 0) : AV)) fun t2 =>
 letO (some ((.int .i64 17) : AV)) fun t3 =>
endK (.tup [t2, t3]) H7 K) (
 letO (some ((L5.getD 0 .any) : AV)) fun t24 =>
 letO (binF Tryd.prog .add 3 t24 (.int .i64 1)) fun t25 =>
 letO (some (t25 : AV)) fun t7 =>
 I3 [t7] H7 ∧ μ4 [t7] H7 < μ4 L5 H6)) (
 letO (some (t5 : AV)) fun t40 =>
 letO (some (t40 : AV)) fun t2 =>
 letO (some ((.int .i64 0) : AV)) fun t3 =>
endK (.tup [t2, t3]) H6 K))

theorem W19_ok {x0 : AV} {H : Heap} {K : AV → Heap → Prop} (h : W19 x0 H K) : ACalls Tryd.prog 19 [x0] H K :=
  acallsB (fn := Tryd.f19) (cfg := cfgOf [] [] [] [] []) (hh := (.dir .nil (.dir .nil (.dir (.dir .nil (.dir .nil .nil)) (.dir .nil (.dir (.dir .nil (.blk (.loop [7] [20, 21, 22, 23, 27, 28, 29, 26, 30, 31, 8, 9, 32, 33, 34, 35, 36, 37, 38, 39, 2, 3, 24, 25, 7] (.dir (.dir .nil .nil) (.dir (.blk (.dir .nil (.dir .nil (.dir .nil .nil)))) .nil))))) .nil)))))) follows Tryd.func19 (by kernel_rfl) (Nat.le_of_ble_eq_true (by kernel_rfl)) (by kernel_rfl) h

/-- headword.headwordref11.First -/
def W21 (x0 : AV) (H : Heap) (K : AV → Heap → Prop) : Prop :=
 letO (some (.nils : AV)) fun t2 =>
 letO (some ((.int .i64 0) : AV)) fun t3 =>
 letO (some (x0 : AV)) fun t6 =>
 ACalls Tryd.prog 31 [t6] H fun t7 H1 =>
 letO (some (t7 : AV)) fun t4 =>
 letO (some (t4 : AV)) fun t8 =>
 letO (binF Tryd.prog .neq 26 t8 (.int .i64 0)) fun t9 =>
 condA t9 true (
 letO (some (t4 : AV)) fun t10 =>
 letO (some (.nils : AV)) fun t2 =>
 letO (some (t10 : AV)) fun t3 =>
endK (.tup [t2, t3]) H1 K) (
 letO (some (x0 : AV)) fun t11 =>
 ACalls Tryd.prog 74 [t11] H1 fun t12 H2 =>
 letO (some (t12 : AV)) fun t5 =>
 letO (some (t5 : AV)) fun t13 =>
 letO (lenA t13) fun t14 =>
 letO (binF Tryd.prog .eql 3 t14 (.int .i64 0)) fun t15 =>
 condA t15 true (
 letO (some (.nils : AV)) fun t2 =>
 letO (some ((.int .i64 12) : AV)) fun t3 =>
endK (.tup [t2, t3]) H2 K) (
 letO (some (t5 : AV)) fun t16 =>
 letO (idx 1 t16 (.int .i64 0)) fun t17 =>
 letO (load1 t17 H2) fun t18 =>
 letO (some (t18 : AV)) fun t2 =>
 letO (some ((.int .i64 0) : AV)) fun t3 =>
endK (.tup [t2, t3]) H2 K))

theorem W21_ok {x0 : AV} {H : Heap} {K : AV → Heap → Prop} (h : W21 x0 H K) : ACalls Tryd.prog 21 [x0] H K :=
  acallsB (fn := Tryd.f21) (cfg := cfgOf [] [] [] [] []) (hh := (.dir .nil (.dir .nil (.dir (.dir .nil (.dir .nil .nil)) (.dir .nil (.dir (.dir .nil (.dir .nil .nil)) .nil)))))) follows Tryd.func21 (by kernel_rfl) (Nat.le_of_ble_eq_true (by kernel_rfl)) (by kernel_rfl) h

/-- headword.headwordref11.Count -/
def W23 (x0 : AV) (H : Heap) (K : AV → Heap → Prop) : Prop :=
 letO (some ((.int .i64 0) : AV)) fun t2 =>
 letO (some ((.int .i64 0) : AV)) fun t3 =>
 letO (some (x0 : AV)) fun t5 =>
 ACalls Tryd.prog 31 [t5] H fun t6 H1 =>
 letO (some (t6 : AV)) fun t4 =>
 letO (some (t4 : AV)) fun t7 =>
 letO (binF Tryd.prog .neq 26 t7 (.int .i64 0)) fun t8 =>
 condA t8 true (
 letO (some (t4 : AV)) fun t9 =>
 letO (some ((.int .i64 0) : AV)) fun t2 =>
 letO (some (t9 : AV)) fun t3 =>
endK (.tup [t2, t3]) H1 K) (
 letO (some (x0 : AV)) fun t10 =>
 ACalls Tryd.prog 74 [t10] H1 fun t11 H2 =>
 letO (lenA t11) fun t12 =>
 letO (some (t12 : AV)) fun t2 =>
 letO (some ((.int .i64 0) : AV)) fun t3 =>
endK (.tup [t2, t3]) H2 K)

theorem W23_ok {x0 : AV} {H : Heap} {K : AV → Heap → Prop} (h : W23 x0 H K) : ACalls Tryd.prog 23 [x0] H K :=
  acallsB (fn := Tryd.f23) (cfg := cfgOf [] [] [] [] []) (hh := (.dir .nil (.dir .nil (.dir (.dir .nil (.dir .nil .nil)) .nil)))) follows Tryd.func23 (by kernel_rfl) (Nat.le_of_ble_eq_true (by kernel_rfl)) (by kernel_rfl) h

/-- headword.headwordref11.Weight -/
def W26 (x0 : AV) (H : Heap) (K : AV → Heap → Prop) : Prop :=
 letO (some ((.int .i64 0) : AV)) fun t2 =>
 letO (some ((.int .i64 0) : AV)) fun t3 =>
 letO (some (x0 : AV)) fun t10 =>
 ACalls Tryd.prog 31 [t10] H fun t11 H1 =>
 letO (some (t11 : AV)) fun t4 =>
 letO (some (t4 : AV)) fun t12 =>
 letO (binF Tryd.prog .neq 26 t12 (.int .i64 0)) fun t13 =>
 condA t13 true (
 letO (some (t4 : AV)) fun t14 =>
 letO (some ((.int .i64 0) : AV)) fun t2 =>
 letO (some (t14 : AV)) fun t3 =>
endK (.tup [t2, t3]) H1 K) (
 letO (some ((.int .i64 0) : AV)) fun t5 =>
 letO (some (x0 : AV)) fun t15 =>
 letO (lenA t15) fun t16 =>
 ACalls Tryd.prog 76 [t16, .nils] H1 fun t17 H2 =>
 letO (some (t17 : AV)) fun t6 =>
 letO (some ((.int .i64 0) : AV)) fun t7 =>
 true = true ∧ ∃ (I3 : List AV → Heap → Prop) (μ4 : List AV → Heap → Nat), I3 [t5, t7] H2 ∧ ∀ L5 H6, I3 L5 H6 → -- [t5, t7]
 letO (some ((L5.getD 1 .any) : AV)) fun t18 =>
 letO (some (t6 : AV)) fun t19 =>
 letO (lenA t19) fun t20 =>
 letO (binF Tryd.prog .lss 3 t18 t20) fun t21 =>
 condA t21 true (
 letO (some ((.int .i64 1) : AV)) fun t8 =>
 letO (some ((.int .i64 0) : AV)) fun t9 =>
 true = true ∧ ∃ (I7 : List AV → Heap → Prop) (μ8 : List AV → Heap → Nat), I7 [t8, t9] H6 ∧ ∀ L9 H10, I7 L9 H10 → -- [t8, t9]
 letO (some ((L9.getD 1 .any) : AV)) fun t24 =>
 letO (some (x0 : AV)) fun t25 =>
 letO (lenA t25) fun t26 =>
 letO (binF Tryd.prog .lss 3 t24 t26) fun t27 =>
 condA t27 true (
 true = true ∧
 letO (some ((L9.getD 0 .any) : AV)) fun t30 =>
 letO (some (x0 : AV)) fun t31 =>
 letO (some ((L9.getD 1 .any) : AV)) fun t32 =>
 letO (idx 1 t31 t32) fun t33 =>
 letO (load1 t33 H10) fun t34 =>
 letO (some (t6 : AV)) fun t35 =>
 letO (some ((L5.getD 1 .any) : AV)) fun t36 =>
 letO (idx 1 t35 t36) fun t37 =>
 letO (load1 t37 H10) fun t38 =>
 letO (some ((L9.getD 1 .any) : AV)) fun t39 =>
 letO (idx 1 t38 t39) fun t40 =>
 letO (load1 t40 H10) fun t41 =>
 letO (idx 1 t34 t41) fun t42 =>
 letO (load1 t42 H10) fun t43 =>
 letO (binF Tryd.prog .mul 3 t30 t43) fun t44 =>
 letO (some (t44 : AV)) fun t8 =>
 letO (some ((L9.getD 1 .any) : AV)) fun t28 =>
 letO (binF Tryd.prog .add 3 t28 (.int .i64 1)) fun t29 =>
 letO (some (t29 : AV)) fun t9 =>
 I7 [t8, t9] H10 ∧ μ8 [t8, t9] H10 < μ8 L9 H10) (
 letO (some ((L5.getD 0 .any) : AV)) fun t45 =>
 letO (some ((L9.getD 0 .any) : AV)) fun t46 =>
 letO (binF Tryd.prog .add 3 t45 t46) fun t47 =>
 letO (some (t47 : AV)) fun t5 =>
 letO (some ((L5.getD 1 .any) : AV)) fun t22 =>
 letO (binF Tryd.prog .add 3 t22 (.int .i64 1)) fun t23 =>
 letO (some (t23 : AV)) fun t7 =>
 I3 [t5, t7] H10 ∧ μ4 [t5, t7] H10 < μ4 L5 H6)) (
 letO (some ((L5.getD 0 .any) : AV)) fun t48 =>
 letO (some (t48 : AV)) fun t2 =>
 letO (some ((.int .i64 0) : AV)) fun t3 =>
endK (.tup [t2, t3]) H6 K))

theorem W26_ok {x0 : AV} {H : Heap} {K : AV → Heap → Prop} (h : W26 x0 H K) : ACalls Tryd.prog 26 [x0] H K :=
  acallsB (fn := Tryd.f26) (cfg := cfgOf [] [] [(13, [0, 0, 0, 6, 14, 0, 0, 96, 224, 0, 992, 2016, 4094, 8190, 16383, 32767])] [] []) (hh := (.dir .nil (.dir .nil (.dir (.dir .nil (.dir .nil .nil)) (.dir .nil (.dir .nil (.dir (.dir .nil (.blk (.loop [5, 7] [18, 19, 20, 21, 8, 9, 24, 25, 26, 27, 30, 31, 32, 33, 34, 35, 36, 37, 38, 39, 40, 41, 42, 43, 44, 28, 29, 45, 46, 47, 5, 22, 23, 7] (.dir (.dir .nil .nil) (.dir (.blk (.dir .nil (.dir (.dir .nil (.blk (.loop [8, 9] [24, 25, 26, 27, 30, 31, 32, 33, 34, 35, 36, 37, 38, 39, 40, 41, 42, 43, 44, 8, 28, 29, 9] (.dir (.dir .nil .nil) (.dir .nil .nil))))) .nil))) .nil))))) .nil))))))) follows Tryd.func26 (by kernel_rfl) (Nat.le_of_ble_eq_true (by kernel_rfl)) (by kernel_rfl) h

/-- headword.headwordref11.Turn -/
def W28 (x0 : AV) (H : Heap) (K : AV → Heap → Prop) : Prop :=
 letO (some (.nils : AV)) fun t2 =>
 letO (some ((.int .i64 0) : AV)) fun t3 =>
 letO (some (x0 : AV)) fun t9 =>
 ACalls Tryd.prog 31 [t9] H fun t10 H1 =>
 letO (some (t10 : AV)) fun t4 =>
 letO (some (t4 : AV)) fun t11 =>
 letO (binF Tryd.prog .neq 26 t11 (.int .i64 0)) fun t12 =>
 condA t12 true (
 letO (some (t4 : AV)) fun t13 =>
 letO (some (.nils : AV)) fun t2 =>
 letO (some (t13 : AV)) fun t3 =>
endK (.tup [t2, t3]) H1 K) (
 letO (some (.nils : AV)) fun t5 =>
 letO (some ((.int .i64 0) : AV)) fun t6 =>
 true = true ∧ ∃ (I2 : List AV → Heap → Prop) (μ3 : List AV → Heap → Nat), I2 [t5, t6] H1 ∧ ∀ L4 H5, I2 L4 H5 → -- [t5, t6]
 letO (some ((L4.getD 1 .any) : AV)) fun t14 =>
 letO (some (x0 : AV)) fun t15 =>
 letO (lenA t15) fun t16 =>
 letO (binF Tryd.prog .lss 3 t14 t16) fun t17 =>
 condA t17 true (
 letO (some (.nils : AV)) fun t7 =>
 letO (some ((.int .i64 0) : AV)) fun t8 =>
 true = true ∧ ∃ (I6 : List AV → Heap → Prop) (μ7 : List AV → Heap → Nat), I6 [t7, t8] H5 ∧ ∀ L8 H9, I6 L8 H9 → -- [t7, t8]
 letO (some ((L8.getD 1 .any) : AV)) fun t20 =>
 letO (some (x0 : AV)) fun t21 =>
 letO (lenA t21) fun t22 =>
 letO (binF Tryd.prog .lss 3 t20 t22) fun t23 =>
 condA t23 true (
 letO (some ((L8.getD 0 .any) : AV)) fun t26 =>
 letO (some (x0 : AV)) fun t27 =>
 letO (some ((L8.getD 1 .any) : AV)) fun t28 =>
 letO (idx 1 t27 t28) fun t29 =>
 letO (load1 t29 H9) fun t30 =>
 letO (some ((L4.getD 1 .any) : AV)) fun t31 =>
 letO (idx 1 t30 t31) fun t32 =>
 letO (load1 t32 H9) fun t33 =>
 letO (literalF Tryd.prog 23 1 [(0, t33)]) fun c10 =>
 appendA 1 8 t26 (.imm 1 true c10) (fun t35 H11 =>
 letO (some (t35 : AV)) fun t7 =>
 letO (some ((L8.getD 1 .any) : AV)) fun t24 =>
 letO (binF Tryd.prog .add 3 t24 (.int .i64 1)) fun t25 =>
 letO (some (t25 : AV)) fun t8 =>
 I6 [t7, t8] H11 ∧ μ7 [t7, t8] H11 < μ7 L8 H9) H9) (
 letO (some ((L4.getD 0 .any) : AV)) fun t36 =>
 letO (some ((L8.getD 0 .any) : AV)) fun t37 =>
 letO (literalF Tryd.prog 22 1 [(0, t37)]) fun c12 =>
 appendA 1 24 t36 (.imm 1 true c12) (fun t39 H13 =>
 letO (some (t39 : AV)) fun t5 =>
 letO (some ((L4.getD 1 .any) : AV)) fun t18 =>
 letO (binF Tryd.prog .add 3 t18 (.int .i64 1)) fun t19 =>
 letO (some (t19 : AV)) fun t6 =>
 I2 [t5, t6] H13 ∧ μ3 [t5, t6] H13 < μ3 L4 H5) H9)) (
 letO (some ((L4.getD 0 .any) : AV)) fun t40 =>
 letO (some (t40 : AV)) fun t2 =>
 letO (some ((.int .i64 0) : AV)) fun t3 =>
endK (.tup [t2, t3]) H5 K))

theorem W28_ok {x0 : AV} {H : Heap} {K : AV → Heap → Prop} (h : W28 x0 H K) : ACalls Tryd.prog 28 [x0] H K :=
  acallsB (fn := Tryd.f28) (cfg := cfgOf [] [] [] [] []) (hh := (.dir .nil (.dir .nil (.dir (.dir .nil (.dir .nil .nil)) (.dir .nil (.dir (.dir .nil (.blk (.loop [5, 6] [14, 15, 16, 17, 7, 8, 20, 21, 22, 23, 26, 27, 28, 29, 30, 31, 32, 33, 34, 35, 24, 25, 36, 37, 38, 39, 5, 18, 19, 6] (.dir (.dir .nil .nil) (.dir (.blk (.dir .nil (.dir (.dir .nil (.blk (.loop [7, 8] [20, 21, 22, 23, 26, 27, 28, 29, 30, 31, 32, 33, 34, 35, 7, 24, 25, 8] (.dir (.dir .nil .nil) (.dir .nil .nil))))) .nil))) .nil))))) .nil)))))) follows Tryd.func28 (by kernel_rfl) (Nat.le_of_ble_eq_true (by kernel_rfl)) (by kernel_rfl) h

/-- headword.headwordref11.Check -/
def W31 (x0 : AV) (H : Heap) (K : AV → Heap → Prop) : Prop :=
 letO (some ((.int .i64 0) : AV)) fun t2 =>
 letO (some (x0 : AV)) fun t5 =>
 letO (lenA t5) fun t6 =>
 letO (binF Tryd.prog .eql 3 t6 (.int .i64 0)) fun t7 =>
 condA t7 true (
 letO (some ((.int .i64 4) : AV)) fun t2 =>
endK t2 H K) (
 letO (some (x0 : AV)) fun t8 =>
 letO (lenA t8) fun t9 =>
 letO (binF Tryd.prog .gtr 3 t9 (.int .i64 4)) fun t10 =>
 condA t10 true (
 letO (some ((.int .i64 3) : AV)) fun t2 =>
endK t2 H K) (
 letO (some ((.int .i64 0) : AV)) fun t3 =>
 true = true ∧ ∃ (I1 : List AV → Heap → Prop) (μ2 : List AV → Heap → Nat), I1 [t3] H ∧ ∀ L3 H4, I1 L3 H4 → -- [t3]
 letO (some ((L3.getD 0 .any) : AV)) fun t11 =>
 letO (some (x0 : AV)) fun t12 =>
 letO (lenA t12) fun t13 =>
 letO (binF Tryd.prog .lss 3 t11 t13) fun t14 =>
 condA t14 true (
 letO (some (x0 : AV)) fun t17 =>
 letO (some ((L3.getD 0 .any) : AV)) fun t18 =>
 letO (idx 1 t17 t18) fun t19 =>
 letO (load1 t19 H4) fun t20 =>
 letO (lenA t20) fun t21 =>
 letO (some (x0 : AV)) fun t22 =>
 letO (lenA t22) fun t23 =>
 letO (binF Tryd.prog .neq 3 t21 t23) fun t24 =>
 condA t24 true (
 letO (some ((.int .i64 5) : AV)) fun t2 =>
endK t2 H4 K) (
 letO (some ((.int .i64 0) : AV)) fun t4 =>
 true = true ∧ ∃ (I5 : List AV → Heap → Prop) (μ6 : List AV → Heap → Nat), I5 [t4] H4 ∧ ∀ L7 H8, I5 L7 H8 → -- [t4]
 letO (some ((L7.getD 0 .any) : AV)) fun t25 =>
 letO (some (x0 : AV)) fun t26 =>
 letO (some ((L3.getD 0 .any) : AV)) fun t27 =>
 letO (idx 1 t26 t27) fun t28 =>
 letO (load1 t28 H8) fun t29 =>
 letO (lenA t29) fun t30 =>
 letO (binF Tryd.prog .lss 3 t25 t30) fun t31 =>
 condA t31 true (
 letO (some (x0 : AV)) fun t34 =>
 letO (some ((L3.getD 0 .any) : AV)) fun t35 =>
 letO (idx 1 t34 t35) fun t36 =>
 letO (load1 t36 H8) fun t37 =>
 letO (some ((L7.getD 0 .any) : AV)) fun t38 =>
 letO (idx 1 t37 t38) fun t39 =>
 letO (load1 t39 H8) fun t40 =>
 ACalls Tryd.prog 78 [t40, (.int .i64 0), (.int .i64 9)] H8 fun t41 H9 =>
 letO (unF .not t41) fun t42 =>
 condA t42 true (
 letO (some ((.int .i64 1) : AV)) fun t2 =>
endK t2 H9 K) (
 letO (some ((L7.getD 0 .any) : AV)) fun t32 =>
 letO (binF Tryd.prog .add 3 t32 (.int .i64 1)) fun t33 =>
 letO (some (t33 : AV)) fun t4 =>
 I5 [t4] H9 ∧ μ6 [t4] H9 < μ6 L7 H8)) (
 letO (some ((L3.getD 0 .any) : AV)) fun t15 =>
 letO (binF Tryd.prog .add 3 t15 (.int .i64 1)) fun t16 =>
 letO (some (t16 : AV)) fun t3 =>
 I1 [t3] H8 ∧ μ2 [t3] H8 < μ2 L3 H4))) (
 letO (some ((.int .i64 0) : AV)) fun t2 =>
endK t2 H4 K)))

theorem W31_ok {x0 : AV} {H : Heap} {K : AV → Heap → Prop} (h : W31 x0 H K) : ACalls Tryd.prog 31 [x0] H K :=
  acallsB (fn := Tryd.f31) (cfg := cfgOf [] [] [] [] []) (hh := (.dir .nil (.dir (.dir .nil (.dir .nil .nil)) (.dir (.dir .nil (.dir .nil .nil)) (.dir (.dir .nil (.blk (.loop [3] [11, 12, 13, 14, 17, 18, 19, 20, 21, 22, 23, 24, 2, 4, 25, 26, 27, 28, 29, 30, 31, 34, 35, 36, 37, 38, 39, 40, 41, 42, 32, 33, 15, 16, 3] (.dir (.dir .nil .nil) (.dir (.blk (.dir (.dir .nil (.dir .nil .nil)) (.dir .nil (.blk (.loop [4] [25, 26, 27, 28, 29, 30, 31, 34, 35, 36, 37, 38, 39, 40, 41, 42, 2, 32, 33, 4] (.dir (.dir .nil .nil) (.dir (.blk (.dir .nil (.dir .nil .nil))) .nil))))))) .nil))))) .nil))))) follows Tryd.func31 (by kernel_rfl) (Nat.le_of_ble_eq_true (by kernel_rfl)) (by kernel_rfl) h

/-- headword.headwordref11.Within -/
def W33 (x0 x1 : AV) (H : Heap) (K : AV → Heap → Prop) : Prop :=
 letO (some ((.int .i64 0) : AV)) fun t4 =>
 letO (some (x0 : AV)) fun t6 =>
 ACalls Tryd.prog 31 [t6] H fun t7 H1 =>
 letO (some (t7 : AV)) fun t5 =>
 true = true ∧ ∃ J2 : List AV → Heap → Prop, (
 letO (some (t5 : AV)) fun t8 =>
 letO (binF Tryd.prog .eql 26 t8 (.int .i64 0)) fun t9 =>
 condA t9 true (
 letO (some (x0 : AV)) fun t10 =>
 letO (lenA t10) fun t11 =>
 letO (some (x1 : AV)) fun t12 =>
 ACalls Tryd.prog 80 [t11, t12] H1 fun t13 H3 =>
 letO (some (t13 : AV)) fun t5 =>
 J2 [t5] H3) (
 J2 [t5] H1)) ∧ ∀ L4 H5, J2 L4 H5 → -- [t5]
 true = true ∧ ∃ J6 : List AV → Heap → Prop, (
 letO (some ((L4.getD 0 .any) : AV)) fun t14 =>
 letO (binF Tryd.prog .eql 26 t14 (.int .i64 0)) fun t15 =>
 letO (some (t15 : AV)) fun t16 =>
 letO (gval t16 true (some (x0 : AV))) fun t17 =>
 letO (gval t16 true (some (x1 : AV))) fun t18 =>
 ∃ J7 : AV → Heap → Prop, condG t16 true (ACalls Tryd.prog 81 [t17, t18] H5 fun t19 H8 =>
 J7 t19 H8) (J7 (.tup []) H5) ∧ ∀ t19 H9, J7 t19 H9 →
 letO (gval t16 true (binF Tryd.prog .eql 3 t19 (.int .i64 0))) fun t20 =>
 letO (pickF t16 t20 (.bool false)) fun t21 =>
 condA t21 true (
 letO (some ((.int .i64 12) : AV)) fun t5 =>
 J6 [t5] H9) (
 J6 [(L4.getD 0 .any)] H9)) ∧ ∀ L10 H11, J6 L10 H11 → -- [t5]
 letO (some ((L10.getD 0 .any) : AV)) fun t22 =>
 letO (some (t22 : AV)) fun t4 =>
endK t4 H11 K

theorem W33_ok {x0 x1 : AV} {H : Heap} {K : AV → Heap → Prop} (h : W33 x0 x1 H K) : ACalls Tryd.prog 33 [x0, x1] H K :=
  acallsB (fn := Tryd.f33) (cfg := cfgOf [] [] [] [] []) (hh := (.dir .nil (.dir .nil (.cut [5] [8, 9, 10, 11, 12, 13, 5] (.dir .nil .nil) (.cut [5] [14, 15, 16, 17, 18, 19, 20, 21, 5] (.dir .nil .nil) .nil))))) follows Tryd.func33 (by kernel_rfl) (Nat.le_of_ble_eq_true (by kernel_rfl)) (by kernel_rfl) h

/-- (headword.headwordlaw11.Ledger).free -/
def W54 (x0 : AV) (H : Heap) (K : AV → Heap → Prop) : Prop :=
 letO (cellsOf? x0) fun c1 =>
 letO (some (.nils : AV)) fun t2 =>
 letO (loadN 27 (.iptr c1) H) fun t9 =>
 ACalls Tryd.prog 58 [t9] H fun t10 H2 =>
 letO (some (t10 : AV)) fun t3 =>
 letO (some (.nils : AV)) fun t4 =>
 letO (some (t3 : AV)) fun t11 =>
 letO (some ((.int .i64 0) : AV)) fun t12 =>
 true = true ∧ ∃ (I3 : List AV → Heap → Prop) (μ4 : List AV → Heap → Nat), I3 [t4, t12] H2 ∧ ∀ L5 H6, I3 L5 H6 → -- [t4, t12]
 letO (binF Tryd.prog .lss 3 (L5.getD 1 .any) t11) fun t13 =>
 condA t13 true (
 letO (some ((L5.getD 1 .any) : AV)) fun t14 =>
 letO (some (t14 : AV)) fun t5 =>
 letO (some (.nils : AV)) fun t6 =>
 letO (some (t3 : AV)) fun t15 =>
 letO (some ((.int .i64 0) : AV)) fun t16 =>
 true = true ∧ ∃ (I7 : List AV → Heap → Prop) (μ8 : List AV → Heap → Nat), I7 [t6, t16] H6 ∧ ∀ L9 H10, I7 L9 H10 → -- [t6, t16]
 letO (binF Tryd.prog .lss 3 (L9.getD 1 .any) t15) fun t17 =>
 condA t17 true (
 letO (some ((L9.getD 1 .any) : AV)) fun t18 =>
 letO (some (t18 : AV)) fun t7 =>
 letO (some (t5 : AV)) fun t19 =>
 letO (binF Tryd.prog .mul 3 (.int .i64 4) t19) fun t20 =>
 letO (some (t7 : AV)) fun t21 =>
 letO (binF Tryd.prog .add 3 t20 t21) fun t22 =>
 letO (faddr 3 (.iptr c1)) fun t23 =>
 letO (idxArr 16 1 t23 t22) fun t24 =>
 letO (load1 t24 H10) fun t25 =>
 letO (convF Tryd.prog 5 3 t25) fun t26 =>
 letO (some (t26 : AV)) fun t8 =>
 true = true ∧ ∃ J11 : List AV → Heap → Prop, (
 letO (faddr 2 (.iptr c1)) fun t27 =>
 letO (load1 t27 H10) fun t28 =>
 letO (binF Tryd.prog .rem 5 t28 (.int .u8 2)) fun t29 =>
 letO (binF Tryd.prog .eql 5 t29 (.int .u8 1)) fun t30 =>
 letO (some (t30 : AV)) fun t31 =>
 letO (gval t31 true (some (t8 : AV))) fun t32 =>
 letO (gval t31 true (binF Tryd.prog .rem 3 t32 (.int .i64 3))) fun t33 =>
 letO (gval t31 true (binF Tryd.prog .gtr 3 t33 (.int .i64 0))) fun t34 =>
 letO (pickF t31 t34 (.bool false)) fun t35 =>
 condA t35 true (
 letO (some ((.int .i64 0) : AV)) fun t8 =>
 J11 [t8] H10) (
 J11 [t8] H10)) ∧ ∀ L12 H13, J11 L12 H13 → -- [t8]
 letO (some ((L9.getD 0 .any) : AV)) fun t36 =>
 letO (some ((L12.getD 0 .any) : AV)) fun t37 =>
 letO (binF Tryd.prog .quo 3 t37 (.int .i64 3)) fun t38 =>
 letO (binF Tryd.prog .rem 3 t38 (.int .i64 10)) fun t39 =>
 letO (literalF Tryd.prog 23 1 [(0, t39)]) fun c14 =>
 appendA 1 8 t36 (.imm 1 true c14) (fun t41 H15 =>
 letO (some (t41 : AV)) fun t6 =>
 letO (binF Tryd.prog .add 3 (L9.getD 1 .any) (.int .i64 1)) fun t42 =>
 letO (some (t42 : AV)) fun t16 =>
 I7 [t6, t16] H15 ∧ μ8 [t6, t16] H15 < μ8 L9 H10) H13) (
 letO (some ((L5.getD 0 .any) : AV)) fun t43 =>
 letO (some ((L9.getD 0 .any) : AV)) fun t44 =>
 letO (literalF Tryd.prog 22 1 [(0, t44)]) fun c16 =>
 appendA 1 24 t43 (.imm 1 true c16) (fun t46 H17 =>
 letO (some (t46 : AV)) fun t4 =>
 letO (binF Tryd.prog .add 3 (L5.getD 1 .any) (.int .i64 1)) fun t47 =>
 letO (some (t47 : AV)) fun t12 =>
 I3 [t4, t12] H17 ∧ μ4 [t4, t12] H17 < μ4 L5 H6) H10)) (
 letO (some ((L5.getD 0 .any) : AV)) fun t48 =>
 letO (some (t48 : AV)) fun t2 =>
endK t2 H6 K)

theorem W54_ok {x0 : AV} {H : Heap} {K : AV → Heap → Prop} (h : W54 x0 H K) : ACalls Tryd.prog 54 [x0] H K :=
  acallsB (fn := Tryd.f54) (cfg := cfgOf [] [] [] [] []) (hh := (.dir .nil (.dir .nil (.dir .nil (.dir (.dir .nil (.blk (.loop [4, 12] [13, 14, 5, 6, 15, 16, 17, 18, 7, 19, 20, 21, 22, 23, 24, 25, 26, 8, 27, 28, 29, 30, 31, 32, 33, 34, 35, 36, 37, 38, 39, 40, 41, 42, 43, 44, 45, 46, 4, 47, 12] (.dir .nil (.dir .nil (.dir (.blk (.dir .nil (.dir .nil (.dir (.dir .nil (.blk (.loop [6, 16] [17, 18, 7, 19, 20, 21, 22, 23, 24, 25, 26, 8, 27, 28, 29, 30, 31, 32, 33, 34, 35, 36, 37, 38, 39, 40, 41, 6, 42, 16] (.dir .nil (.dir .nil (.dir (.blk (.dir .nil (.dir .nil (.cut [8] [27, 28, 29, 30, 31, 32, 33, 34, 35, 8] (.dir .nil .nil) .nil)))) .nil)))))) .nil)))) .nil)))))) .nil))))) follows Tryd.func54 (by kernel_rfl) (Nat.le_of_ble_eq_true (by kernel_rfl)) (by kernel_rfl) h

/-- (headword.headwordlaw11.Ledger).size -/
def W58 (x0 : AV) (H : Heap) (K : AV → Heap → Prop) : Prop :=
 letO (cellsOf? x0) fun c1 =>
 letO (some ((.int .i64 0) : AV)) fun t2 =>
 letO (faddr 0 (.iptr c1)) fun t3 =>
 letO (load1 t3 H) fun t4 =>
 letO (convF Tryd.prog 5 3 t4) fun t5 =>
 letO (binF Tryd.prog .rem 3 t5 (.int .i64 4)) fun t6 =>
 letO (binF Tryd.prog .add 3 (.int .i64 1) t6) fun t7 =>
 letO (some (t7 : AV)) fun t2 =>
endK t2 H K

theorem W58_ok {x0 : AV} {H : Heap} {K : AV → Heap → Prop} (h : W58 x0 H K) : ACalls Tryd.prog 58 [x0] H K :=
  acallsB (fn := Tryd.f58) (cfg := cfgOf [] [] [] [] []) (hh := (.dir .nil .nil)) follows Tryd.func58 (by kernel_rfl) (Nat.le_of_ble_eq_true (by kernel_rfl)) (by kernel_rfl) h

/-- headword.headwordref11.sums -/
def W72 (x0 x1 : AV) (H : Heap) (K : AV → Heap → Prop) : Prop :=
 letO (some ((.int .i64 0) : AV)) fun t4 =>
 letO (some ((.int .i64 0) : AV)) fun t5 =>
 letO (some ((.int .i64 0) : AV)) fun t6 =>
 letO (some ((.int .i64 0) : AV)) fun t7 =>
 letO (some ((.int .i64 0) : AV)) fun t8 =>
 true = true ∧ ∃ (I1 : List AV → Heap → Prop) (μ2 : List AV → Heap → Nat), I1 [t6, t7, t8] H ∧ ∀ L3 H4, I1 L3 H4 → -- [t6, t7, t8]
 letO (some ((L3.getD 2 .any) : AV)) fun t9 =>
 letO (some (x0 : AV)) fun t10 =>
 letO (lenA t10) fun t11 =>
 letO (binF Tryd.prog .lss 3 t9 t11) fun t12 =>
 condA t12 true (
 letO (some ((L3.getD 0 .any) : AV)) fun t15 =>
 letO (some (x0 : AV)) fun t16 =>
 letO (some (x1 : AV)) fun t17 =>
 letO (idx 1 t16 t17) fun t18 =>
 letO (load1 t18 H4) fun t19 =>
 letO (some ((L3.getD 2 .any) : AV)) fun t20 =>
 letO (idx 1 t19 t20) fun t21 =>
 letO (load1 t21 H4) fun t22 =>
 letO (binF Tryd.prog .add 3 t15 t22) fun t23 =>
 letO (some (t23 : AV)) fun t6 =>
 letO (some ((L3.getD 1 .any) : AV)) fun t24 =>
 letO (some (x0 : AV)) fun t25 =>
 letO (some ((L3.getD 2 .any) : AV)) fun t26 =>
 letO (idx 1 t25 t26) fun t27 =>
 letO (load1 t27 H4) fun t28 =>
 letO (some (x1 : AV)) fun t29 =>
 letO (idx 1 t28 t29) fun t30 =>
 letO (load1 t30 H4) fun t31 =>
 letO (binF Tryd.prog .add 3 t24 t31) fun t32 =>
 letO (some (t32 : AV)) fun t7 =>
 letO (some ((L3.getD 2 .any) : AV)) fun t13 =>
 letO (binF Tryd.prog .add 3 t13 (.int .i64 1)) fun t14 =>
 letO (some (t14 : AV)) fun t8 =>
 I1 [t6, t7, t8] H4 ∧ μ2 [t6, t7, t8] H4 < μ2 L3 H4) (
 letO (some ((L3.getD 0 .any) : AV)) fun t33 =>
 letO (some ((L3.getD 1 .any) : AV)) fun t34 =>
 letO (some (t33 : AV)) fun t4 =>
 letO (some (t34 : AV)) fun t5 =>
endK (.tup [t4, t5]) H4 K)

theorem W72_ok {x0 x1 : AV} {H : Heap} {K : AV → Heap → Prop} (h : W72 x0 x1 H K) : ACalls Tryd.prog 72 [x0, x1] H K :=
  acallsB (fn := Tryd.f72) (cfg := cfgOf [] [] [] [] []) (hh := (.dir .nil (.dir .nil (.dir (.dir .nil (.blk (.loop [6, 7, 8] [9, 10, 11, 12, 15, 16, 17, 18, 19, 20, 21, 22, 23, 6, 24, 25, 26, 27, 28, 29, 30, 31, 32, 7, 13, 14, 8] (.dir (.dir .nil .nil) (.dir .nil .nil))))) .nil)))) follows Tryd.func72 (by kernel_rfl) (Nat.le_of_ble_eq_true (by kernel_rfl)) (by kernel_rfl) h

/-- headword.headwordref11.within -/
def W74 (x0 : AV) (H : Heap) (K : AV → Heap → Prop) : Prop :=
 letO (some (.nils : AV)) fun t2 =>
 letO (some (.nils : AV)) fun t3 =>
 letO (some (x0 : AV)) fun t6 =>
 letO (lenA t6) fun t7 =>
 ACalls Tryd.prog 76 [t7, .nils] H fun t8 H1 =>
 letO (some (t8 : AV)) fun t4 =>
 letO (some ((.int .i64 0) : AV)) fun t5 =>
 true = true ∧ ∃ (I2 : List AV → Heap → Prop) (μ3 : List AV → Heap → Nat), I2 [t3, t5] H1 ∧ ∀ L4 H5, I2 L4 H5 → -- [t3, t5]
 letO (some ((L4.getD 1 .any) : AV)) fun t9 =>
 letO (some (t4 : AV)) fun t10 =>
 letO (lenA t10) fun t11 =>
 letO (binF Tryd.prog .lss 3 t9 t11) fun t12 =>
 condA t12 true (
 true = true ∧ ∃ J6 : List AV → Heap → Prop, (
 letO (some (x0 : AV)) fun t15 =>
 letO (some (t4 : AV)) fun t16 =>
 letO (some ((L4.getD 1 .any) : AV)) fun t17 =>
 letO (idx 1 t16 t17) fun t18 =>
 letO (load1 t18 H5) fun t19 =>
 ACalls Tryd.prog 81 [t15, t19] H5 fun t20 H7 =>
 letO (binF Tryd.prog .gtr 3 t20 (.int .i64 0)) fun t21 =>
 condA t21 true (
 letO (some ((L4.getD 0 .any) : AV)) fun t22 =>
 letO (some (t4 : AV)) fun t23 =>
 letO (some ((L4.getD 1 .any) : AV)) fun t24 =>
 letO (idx 1 t23 t24) fun t25 =>
 letO (load1 t25 H7) fun t26 =>
 letO (literalF Tryd.prog 22 1 [(0, t26)]) fun c8 =>
 appendA 1 24 t22 (.imm 1 true c8) (fun t28 H9 =>
 letO (some (t28 : AV)) fun t3 =>
 J6 [t3] H9) H7) (
 J6 [(L4.getD 0 .any)] H7)) ∧ ∀ L10 H11, J6 L10 H11 → -- [t3]
 letO (some ((L4.getD 1 .any) : AV)) fun t13 =>
 letO (binF Tryd.prog .add 3 t13 (.int .i64 1)) fun t14 =>
 letO (some (t14 : AV)) fun t5 =>
 I2 [(L10.getD 0 .any), t5] H11 ∧ μ3 [(L10.getD 0 .any), t5] H11 < μ3 L4 H5) (
 letO (some ((L4.getD 0 .any) : AV)) fun t29 =>
 letO (some (t29 : AV)) fun t2 =>
endK t2 H5 K)

theorem W74_ok {x0 : AV} {H : Heap} {K : AV → Heap → Prop} (h : W74 x0 H K) : ACalls Tryd.prog 74 [x0] H K :=
  acallsB (fn := Tryd.f74) (cfg := cfgOf [] [] [] [] []) (hh := (.dir .nil (.dir .nil (.dir .nil (.dir (.dir .nil (.blk (.loop [3, 5] [9, 10, 11, 12, 15, 16, 17, 18, 19, 20, 21, 22, 23, 24, 25, 26, 27, 28, 3, 13, 14, 5] (.dir (.dir .nil .nil) (.cut [3] [15, 16, 17, 18, 19, 20, 21, 22, 23, 24, 25, 26, 27, 28, 3] (.blk (.dir .nil .nil)) .nil))))) .nil))))) follows Tryd.func74 (by kernel_rfl) (Nat.le_of_ble_eq_true (by kernel_rfl)) (by kernel_rfl) h

/-- headword.headwordref11.plans -/
def W76 (x0 x1 : AV) (H : Heap) (K : AV → Heap → Prop) : Prop :=
 letO (some (.nils : AV)) fun t4 =>
 letO (some (x1 : AV)) fun t7 =>
 letO (lenA t7) fun t8 =>
 letO (some (x0 : AV)) fun t9 =>
 letO (binF Tryd.prog .eql 3 t8 t9) fun t10 =>
 condA t10 true (
 letO (some (x1 : AV)) fun t11 =>
 letO (literalF Tryd.prog 22 1 [(0, t11)]) fun c1 =>
 letO (some ((.imm 1 true c1) : AV)) fun t4 =>
endK t4 H K) (
 letO (some (.nils : AV)) fun t5 =>
 letO (some ((.int .i64 0) : AV)) fun t6 =>
 true = true ∧ ∃ (I2 : List AV → Heap → Prop) (μ3 : List AV → Heap → Nat), I2 [t5, t6] H ∧ ∀ L4 H5, I2 L4 H5 → -- [t5, t6]
 letO (some ((L4.getD 1 .any) : AV)) fun t13 =>
 letO (some (x0 : AV)) fun t14 =>
 letO (binF Tryd.prog .lss 3 t13 t14) fun t15 =>
 condA t15 true (
 true = true ∧ ∃ J6 : List AV → Heap → Prop, (
 letO (some (x1 : AV)) fun t18 =>
 letO (some ((L4.getD 1 .any) : AV)) fun t19 =>
 ACalls Tryd.prog 89 [t18, t19] H5 fun t20 H7 =>
 letO (unF .not t20) fun t21 =>
 condA t21 true (
 letO (some ((L4.getD 0 .any) : AV)) fun t22 =>
 letO (some (x0 : AV)) fun t23 =>
 letO (literalF Tryd.prog 23 0 []) fun c8 =>
 letO (some (x1 : AV)) fun t25 =>
 appendA 1 8 (.imm 0 true c8) t25 (fun t26 H9 =>
 letO (some ((L4.getD 1 .any) : AV)) fun t27 =>
 letO (literalF Tryd.prog 23 1 [(0, t27)]) fun c10 =>
 appendA 1 8 t26 (.imm 1 true c10) (fun t29 H11 =>
 ACalls Tryd.prog 76 [t23, t29] H11 fun t30 H12 =>
 appendA 1 24 t22 t30 (fun t31 H13 =>
 letO (some (t31 : AV)) fun t5 =>
 J6 [t5] H13) H12) H9) H7) (
 J6 [(L4.getD 0 .any)] H7)) ∧ ∀ L14 H15, J6 L14 H15 → -- [t5]
 letO (some ((L4.getD 1 .any) : AV)) fun t16 =>
 letO (binF Tryd.prog .add 3 t16 (.int .i64 1)) fun t17 =>
 letO (some (t17 : AV)) fun t6 =>
 I2 [(L14.getD 0 .any), t6] H15 ∧ μ3 [(L14.getD 0 .any), t6] H15 < μ3 L4 H5) (
 letO (some ((L4.getD 0 .any) : AV)) fun t32 =>
 letO (some (t32 : AV)) fun t4 =>
endK t4 H5 K))

theorem W76_ok {x0 x1 : AV} {H : Heap} {K : AV → Heap → Prop} (h : W76 x0 x1 H K) : ACalls Tryd.prog 76 [x0, x1] H K :=
  acallsB (fn := Tryd.f76) (cfg := cfgOf [] [] [] [] []) (hh := (.dir .nil (.dir (.dir .nil (.dir .nil .nil)) (.dir .nil (.dir (.dir .nil (.blk (.loop [5, 6] [13, 14, 15, 18, 19, 20, 21, 22, 23, 24, 25, 26, 27, 28, 29, 30, 31, 5, 16, 17, 6] (.dir (.dir .nil .nil) (.cut [5] [18, 19, 20, 21, 22, 23, 24, 25, 26, 27, 28, 29, 30, 31, 5] (.blk (.dir .nil .nil)) .nil))))) .nil))))) follows Tryd.func76 (by kernel_rfl) (Nat.le_of_ble_eq_true (by kernel_rfl)) (by kernel_rfl) h

/-- headword.headwordref11.in -/
def W78 (x0 x1 x2 : AV) (H : Heap) (K : AV → Heap → Prop) : Prop :=
 letO (some ((.bool false) : AV)) fun t6 =>
 letO (some (x0 : AV)) fun t7 =>
 letO (some (x1 : AV)) fun t8 =>
 letO (binF Tryd.prog .geq 3 t7 t8) fun t9 =>
 letO (some (t9 : AV)) fun t10 =>
 letO (gval t10 true (some (x0 : AV))) fun t11 =>
 letO (gval t10 true (some (x2 : AV))) fun t12 =>
 letO (gval t10 true (binF Tryd.prog .leq 3 t11 t12)) fun t13 =>
 letO (pickF t10 t13 (.bool false)) fun t14 =>
 letO (some (t14 : AV)) fun t6 =>
endK t6 H K

theorem W78_ok {x0 x1 x2 : AV} {H : Heap} {K : AV → Heap → Prop} (h : W78 x0 x1 x2 H K) : ACalls Tryd.prog 78 [x0, x1, x2] H K :=
  acallsB (fn := Tryd.f78) (cfg := cfgOf [] [] [] [] []) (hh := (.dir .nil .nil)) follows Tryd.func78 (by kernel_rfl) (Nat.le_of_ble_eq_true (by kernel_rfl)) (by kernel_rfl) h

/-- headword.headwordref11.planned -/
def W80 (x0 x1 : AV) (H : Heap) (K : AV → Heap → Prop) : Prop :=
 letO (some ((.int .i64 0) : AV)) fun t4 =>
 letO (some (x1 : AV)) fun t6 =>
 letO (lenA t6) fun t7 =>
 letO (some (x0 : AV)) fun t8 =>
 letO (binF Tryd.prog .neq 3 t7 t8) fun t9 =>
 condA t9 true (
 letO (some ((.int .i64 5) : AV)) fun t4 =>
endK t4 H K) (
 letO (some ((.int .i64 0) : AV)) fun t5 =>
 true = true ∧ ∃ (I1 : List AV → Heap → Prop) (μ2 : List AV → Heap → Nat), I1 [t5] H ∧ ∀ L3 H4, I1 L3 H4 → -- [t5]
 letO (some ((L3.getD 0 .any) : AV)) fun t10 =>
 letO (some (x1 : AV)) fun t11 =>
 letO (lenA t11) fun t12 =>
 letO (binF Tryd.prog .lss 3 t10 t12) fun t13 =>
 condA t13 true (
 letO (some (x1 : AV)) fun t16 =>
 letO (some ((L3.getD 0 .any) : AV)) fun t17 =>
 letO (idx 1 t16 t17) fun t18 =>
 letO (load1 t18 H4) fun t19 =>
 letO (some (x0 : AV)) fun t20 =>
 letO (binF Tryd.prog .sub 3 t20 (.int .i64 1)) fun t21 =>
 ACalls Tryd.prog 78 [t19, (.int .i64 0), t21] H4 fun t22 H5 =>
 letO (unF .not t22) fun t23 =>
 condA t23 true (
 letO (some ((.int .i64 2) : AV)) fun t4 =>
endK t4 H5 K) (
 true = true ∧
 letO (some (x1 : AV)) fun t24 =>
 letO (some ((L3.getD 0 .any) : AV)) fun t25 =>
 letO (slc 1 t24 none (some t25) none) fun t26 =>
 letO (some (x1 : AV)) fun t27 =>
 letO (some ((L3.getD 0 .any) : AV)) fun t28 =>
 letO (idx 1 t27 t28) fun t29 =>
 letO (load1 t29 H5) fun t30 =>
 ACalls Tryd.prog 89 [t26, t30] H5 fun t31 H6 =>
 condA t31 true (
 letO (some ((.int .i64 6) : AV)) fun t4 =>
endK t4 H6 K) (
 letO (some ((L3.getD 0 .any) : AV)) fun t14 =>
 letO (binF Tryd.prog .add 3 t14 (.int .i64 1)) fun t15 =>
 letO (some (t15 : AV)) fun t5 =>
 I1 [t5] H6 ∧ μ2 [t5] H6 < μ2 L3 H4))) (
 letO (some ((.int .i64 0) : AV)) fun t4 =>
endK t4 H4 K))

theorem W80_ok {x0 x1 : AV} {H : Heap} {K : AV → Heap → Prop} (h : W80 x0 x1 H K) : ACalls Tryd.prog 80 [x0, x1] H K :=
  acallsB (fn := Tryd.f80) (cfg := cfgOf [] [] [(8, [0, 0, 3, 0, 0, 24, 56, 127])] [] []) (hh := (.dir .nil (.dir (.dir .nil (.dir .nil .nil)) (.dir (.dir .nil (.blk (.loop [5] [10, 11, 12, 13, 16, 17, 18, 19, 20, 21, 22, 23, 4, 24, 25, 26, 27, 28, 29, 30, 31, 14, 15, 5] (.dir (.dir .nil .nil) (.dir (.blk (.dir (.dir .nil (.dir .nil .nil)) (.dir .nil (.dir .nil .nil)))) .nil))))) .nil)))) follows Tryd.func80 (by kernel_rfl) (Nat.le_of_ble_eq_true (by kernel_rfl)) (by kernel_rfl) h

/-- headword.headwordref11.least -/
def W81 (x0 x1 : AV) (H : Heap) (K : AV → Heap → Prop) : Prop :=
 letO (some ((.int .i64 0) : AV)) fun t4 =>
 true = true ∧
 letO (some (x0 : AV)) fun t7 =>
 letO (idx 1 t7 (.int .i64 0)) fun t8 =>
 letO (load1 t8 H) fun t9 =>
 letO (some (x1 : AV)) fun t10 =>
 letO (idx 1 t10 (.int .i64 0)) fun t11 =>
 letO (load1 t11 H) fun t12 =>
 letO (idx 1 t9 t12) fun t13 =>
 letO (load1 t13 H) fun t14 =>
 letO (some (t14 : AV)) fun t5 =>
 letO (some ((.int .i64 1) : AV)) fun t6 =>
 true = true ∧ ∃ (I1 : List AV → Heap → Prop) (μ2 : List AV → Heap → Nat), I1 [t5, t6] H ∧ ∀ L3 H4, I1 L3 H4 → -- [t5, t6]
 letO (some ((L3.getD 1 .any) : AV)) fun t15 =>
 letO (some (x1 : AV)) fun t16 =>
 letO (lenA t16) fun t17 =>
 letO (binF Tryd.prog .lss 3 t15 t17) fun t18 =>
 condA t18 true (
 true = true ∧
 letO (some ((L3.getD 0 .any) : AV)) fun t21 =>
 letO (some (x0 : AV)) fun t22 =>
 letO (some ((L3.getD 1 .any) : AV)) fun t23 =>
 letO (idx 1 t22 t23) fun t24 =>
 letO (load1 t24 H4) fun t25 =>
 letO (some (x1 : AV)) fun t26 =>
 letO (some ((L3.getD 1 .any) : AV)) fun t27 =>
 letO (idx 1 t26 t27) fun t28 =>
 letO (load1 t28 H4) fun t29 =>
 letO (idx 1 t25 t29) fun t30 =>
 letO (load1 t30 H4) fun t31 =>
 letO (min2F t21 t31) fun t32 =>
 letO (some (t32 : AV)) fun t5 =>
 letO (some ((L3.getD 1 .any) : AV)) fun t19 =>
 letO (binF Tryd.prog .add 3 t19 (.int .i64 1)) fun t20 =>
 letO (some (t20 : AV)) fun t6 =>
 I1 [t5, t6] H4 ∧ μ2 [t5, t6] H4 < μ2 L3 H4) (
 letO (some ((L3.getD 0 .any) : AV)) fun t33 =>
 letO (some (t33 : AV)) fun t4 =>
endK t4 H4 K)

theorem W81_ok {x0 x1 : AV} {H : Heap} {K : AV → Heap → Prop} (h : W81 x0 x1 H K) : ACalls Tryd.prog 81 [x0, x1] H K :=
  acallsB (fn := Tryd.f81) (cfg := cfgOf [] [] [(1, [0, 1, 3, 0, 8, 24, 63, 127, 255]), (5, [0, 0, 0, 6, 14, 0, 0, 96, 224, 510, 1022, 2047, 4095])] [] []) (hh := (.dir .nil (.dir .nil (.dir (.dir .nil (.blk (.loop [5, 6] [15, 16, 17, 18, 21, 22, 23, 24, 25, 26, 27, 28, 29, 30, 31, 32, 5, 19, 20, 6] (.dir (.dir .nil .nil) (.dir .nil .nil))))) .nil)))) follows Tryd.func81 (by kernel_rfl) (Nat.le_of_ble_eq_true (by kernel_rfl)) (by kernel_rfl) h

/-- headword.headwordref11.has -/
def W89 (x0 x1 : AV) (H : Heap) (K : AV → Heap → Prop) : Prop :=
 letO (some ((.bool false) : AV)) fun t4 =>
 letO (some ((.int .i64 0) : AV)) fun t5 =>
 true = true ∧ ∃ (I1 : List AV → Heap → Prop) (μ2 : List AV → Heap → Nat), I1 [t5] H ∧ ∀ L3 H4, I1 L3 H4 → -- [t5]
 letO (some ((L3.getD 0 .any) : AV)) fun t6 =>
 letO (some (x0 : AV)) fun t7 =>
 letO (lenA t7) fun t8 =>
 letO (binF Tryd.prog .lss 3 t6 t8) fun t9 =>
 condA t9 true (
 letO (some (x0 : AV)) fun t12 =>
 letO (some ((L3.getD 0 .any) : AV)) fun t13 =>
 letO (idx 1 t12 t13) fun t14 =>
 letO (load1 t14 H4) fun t15 =>
 letO (some (x1 : AV)) fun t16 =>
 letO (binF Tryd.prog .eql 3 t15 t16) fun t17 =>
 condA t17 true (
 letO (some ((.bool true) : AV)) fun t4 =>
endK t4 H4 K) (
 letO (some ((L3.getD 0 .any) : AV)) fun t10 =>
 letO (binF Tryd.prog .add 3 t10 (.int .i64 1)) fun t11 =>
 letO (some (t11 : AV)) fun t5 =>
 I1 [t5] H4 ∧ μ2 [t5] H4 < μ2 L3 H4)) (
 letO (some ((.bool false) : AV)) fun t4 =>
endK t4 H4 K)

theorem W89_ok {x0 x1 : AV} {H : Heap} {K : AV → Heap → Prop} (h : W89 x0 x1 H K) : ACalls Tryd.prog 89 [x0, x1] H K :=
  acallsB (fn := Tryd.f89) (cfg := cfgOf [] [] [] [] []) (hh := (.dir .nil (.dir (.dir .nil (.blk (.loop [5] [6, 7, 8, 9, 12, 13, 14, 15, 16, 17, 4, 10, 11, 5] (.dir (.dir .nil .nil) (.dir (.blk (.dir .nil (.dir .nil .nil))) .nil))))) .nil))) follows Tryd.func89 (by kernel_rfl) (Nat.le_of_ble_eq_true (by kernel_rfl)) (by kernel_rfl) h


end Go.Proofs.YtbofkeoebnjjkaaDoor
