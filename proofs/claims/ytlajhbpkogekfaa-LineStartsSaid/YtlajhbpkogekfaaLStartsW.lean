import Derived.Test.YtlajhbpkogekfaaCon
/- The functions of the statement LineStarts that the line package does not hold, each in the words of its walk; made by program. -/
set_option linter.unusedVariables false
set_option maxRecDepth 100000
namespace Go.Proofs.Ytlajhbpkogekfaa
open Go.Av
/-- headword.headwordlaw13.LineStarts -/
def W15 (x0 : AV) (H : Heap) (K : AV → Heap → Prop) : Prop :=
 letO (cellsOf? x0) fun c1 =>
 letO (some ((.bool false) : AV)) fun t2 =>
 letO (loadN 13 (.iptr c1) H) fun t8 =>
 ACalls Try.prog 34 [t8, (.int .i64 10)] H fun t9 H2 =>
 allocA [(.int .i64 0), .nils] (fun t3 H3 =>
 storeA 2 t3 t9 (fun H4 =>
 letO (loadN 2 t3 H4) fun t11 =>
 ACalls Try.prog 54 [t11] H4 fun t12 H5 =>
 letO (some (t12 : AV)) fun t10 =>
 letO (extrF t10 0) fun t13 =>
 letO (extrF t10 1) fun t14 =>
 letO (some (t13 : AV)) fun t4 =>
 letO (some (t14 : AV)) fun t5 =>
 letO (loadN 2 t3 H5) fun t16 =>
 ACalls Try.prog 23 [t16] H5 fun t17 H6 =>
 letO (some (t17 : AV)) fun t15 =>
 letO (extrF t15 0) fun t18 =>
 letO (extrF t15 1) fun t19 =>
 letO (some (t18 : AV)) fun t6 =>
 letO (some (t19 : AV)) fun t7 =>
 letO (some (t7 : AV)) fun t20 =>
 letO (binF Try.prog .eql 27 t20 (.int .i64 0)) fun t21 =>
 letO (some (t21 : AV)) fun t22 =>
 letO (gval t22 true (some (t6 : AV))) fun t23 =>
 letO (gval t22 true (some (t5 : AV))) fun t24 =>
 ∃ J7 : AV → Heap → Prop, condG t22 true (ACalls Try.prog 25 [t23, t24] H6 fun t25 H8 =>
 J7 t25 H8) (J7 (.tup []) H6) ∧ ∀ t25 H9, J7 t25 H9 →
 letO (pickF t22 t25 (.bool false)) fun t26 =>
 letO (some (t26 : AV)) fun t27 =>
 letO (gval t27 true (some (t5 : AV))) fun t28 =>
 ∃ J10 : AV → Heap → Prop, condG t27 true (ACalls Try.prog 61 [t28] H9 fun t29 H11 =>
 J10 t29 H11) (J10 (.tup []) H9) ∧ ∀ t29 H12, J10 t29 H12 →
 letO (pickF t27 t29 (.bool false)) fun t30 =>
 letO (some (t30 : AV)) fun t31 =>
 ∃ J13 : AV → Heap → Prop, condG t31 true (ACalls Try.prog 16 [] H12 fun t32 H14 =>
 J13 t32 H14) (J13 (.tup []) H12) ∧ ∀ t32 H15, J13 t32 H15 →
 letO (pickF t31 t32 (.bool false)) fun t33 =>
 letO (some (t33 : AV)) fun t2 =>
endK t2 H15 K) H3) H2

theorem W15_ok {x0 : AV} {H : Heap} {K : AV → Heap → Prop} (h : W15 x0 H K) : ACalls Try.prog 15 [x0] H K :=
  acallsB (fn := Try.f15) (cfg := cfgOf [] [] [] [] []) (hh := (.dir .nil (.dir .nil (.dir .nil (.dir .nil .nil))))) follows Try.func15 (by kernel_rfl) (Nat.le_of_ble_eq_true (by kernel_rfl)) (by kernel_rfl) h

/-- (headword.headwordlaw13.Galley).made -/
def W34 (x0 x1 : AV) (H : Heap) (K : AV → Heap → Prop) : Prop :=
 letO (cellsOf? x0) fun c1 =>
 allocA [(.int .i64 0), .nils] (fun t4 H2 =>
 letO (faddr 0 (.iptr c1)) fun t9 =>
 letO (load1 t9 H2) fun t10 =>
 letO (convF Try.prog 5 3 t10) fun t11 =>
 letO (binF Try.prog .rem 3 t11 (.int .i64 40)) fun t12 =>
 letO (binF Try.prog .add 3 (.int .i64 1) t12) fun t13 =>
 letO (buildF Try.prog 24 [(0, t13)]) fun t14 =>
 allocA [(.int .i64 0), .nils] (fun t5 H3 =>
 storeA 2 t5 t14 (fun H4 =>
 letO (faddr 0 t5) fun t15 =>
 letO (load1 t15 H4) fun t16 =>
 letO (some (t16 : AV)) fun t6 =>
 true = true ∧ ∃ J5 : List AV → Heap → Prop, (
 letO (faddr 2 (.iptr c1)) fun t17 =>
 letO (load1 t17 H4) fun t18 =>
 letO (binF Try.prog .rem 5 t18 (.int .u8 3)) fun t19 =>
 letO (binF Try.prog .gtr 5 t19 (.int .u8 0)) fun t20 =>
 condA t20 true (
 letO (faddr 0 t5) fun t21 =>
 letO (load1 t21 H4) fun t22 =>
 letO (binF Try.prog .quo 3 t22 (.int .i64 2)) fun t23 =>
 letO (binF Try.prog .add 3 (.int .i64 1) t23) fun t24 =>
 letO (some (t24 : AV)) fun t6 =>
 J5 [t6] H4) (
 J5 [t6] H4)) ∧ ∀ L6 H7, J5 L6 H7 → -- [t6]
 letO (faddr 3 (.iptr c1)) fun t25 =>
 letO (faddr 1 (.iptr c1)) fun t26 =>
 letO (load1 t26 H7) fun t27 =>
 letO (convF Try.prog 5 3 t27) fun t28 =>
 letO (some (x1 : AV)) fun t29 =>
 letO (binF Try.prog .rem 3 t28 t29) fun t30 =>
 letO (binF Try.prog .add 3 (.int .i64 1) t30) fun t31 =>
 letO (slcArr 10 1 t25 none (some t31) none) fun t32 =>
 letO (lenA t32) fun t33 =>
 letO (some ((.int .i64 0) : AV)) fun t34 =>
 true = true ∧ ∃ (I8 : List AV → Heap → Prop) (μ9 : List AV → Heap → Nat), I8 [t34] H7 ∧ ∀ L10 H11, I8 L10 H11 → -- [t34]
 letO (binF Try.prog .lss 3 (L10.getD 0 .any) t33) fun t35 =>
 condA t35 true (
 letO (idx 1 t32 (L10.getD 0 .any)) fun t36 =>
 letO (load1 t36 H11) fun t37 =>
 letO (some (t37 : AV)) fun t8 =>
 true = true ∧
 letO (faddr 1 t5) fun t38 =>
 letO (load1 t38 H11) fun t39 =>
 letO (some (t8 : AV)) fun t40 =>
 letO (convF Try.prog 5 3 t40) fun t41 =>
 letO (some ((L6.getD 0 .any) : AV)) fun t42 =>
 letO (faddr 0 t5) fun t43 =>
 letO (load1 t43 H11) fun t44 =>
 letO (min2F t42 t44) fun t45 =>
 letO (binF Try.prog .rem 3 t41 t45) fun t46 =>
 letO (binF Try.prog .add 3 (.int .i64 1) t46) fun t47 =>
 letO (literalF Try.prog 22 1 [(0, t47)]) fun c12 =>
 appendA 1 8 t39 (.imm 1 true c12) (fun t49 H13 =>
 letO (faddr 1 t5) fun t50 =>
 storeA 1 t50 t49 (fun H14 =>
 letO (binF Try.prog .add 3 (L10.getD 0 .any) (.int .i64 1)) fun t51 =>
 letO (some (t51 : AV)) fun t34 =>
 I8 [t34] H14 ∧ μ9 [t34] H14 < μ9 L10 H11) H13) H11) (
 letO (loadN 2 t5 H11) fun t52 =>
 storeA 2 t4 t52 (fun H15 =>
 letO (loadN 2 t4 H15) fun r16 => endK r16 H15 K) H11)) H3) H2) H

theorem W34_ok {x0 x1 : AV} {H : Heap} {K : AV → Heap → Prop} (h : W34 x0 x1 H K) : ACalls Try.prog 34 [x0, x1] H K :=
  acallsB (fn := Try.f34) (cfg := cfgOf [] [] [(8, [0, 1, 0, 4, 0, 0, 32, 112, 252, 508, 1020, 2047, 4095, 8191])] [] []) (hh := (.dir .nil (.dir .nil (.dir .nil (.cut [6] [17, 18, 19, 20, 21, 22, 23, 24, 6] (.dir .nil .nil) (.dir (.dir .nil (.blk (.loop [34] [35, 36, 37, 8, 38, 39, 40, 41, 42, 43, 44, 45, 46, 47, 48, 49, 50, 51, 34] (.dir .nil (.dir .nil (.dir .nil .nil)))))) .nil)))))) follows Try.func34 (by kernel_rfl) (Nat.le_of_ble_eq_true (by kernel_rfl)) (by kernel_rfl) h

/-- headword.headwordlaw13.left -/
def W43 (x0 x1 x2 : AV) (H : Heap) (K : AV → Heap → Prop) : Prop :=
 letO (cellsOf? x0) fun c1 =>
 letO (some ((.int .i64 0) : AV)) fun t6 =>
 letO (some ((.int .i64 (-1)) : AV)) fun t7 =>
 letO (faddr 1 (.iptr c1)) fun t10 =>
 letO (load1 t10 H) fun t11 =>
 letO (some (x1 : AV)) fun t12 =>
 letO (some (x2 : AV)) fun t13 =>
 letO (slc 1 t11 (some t12) (some t13) none) fun t14 =>
 letO (lenA t14) fun t15 =>
 letO (some ((.int .i64 0) : AV)) fun t16 =>
 true = true ∧ ∃ (I2 : List AV → Heap → Prop) (μ3 : List AV → Heap → Nat), I2 [t7, t16] H ∧ ∀ L4 H5, I2 L4 H5 → -- [t7, t16]
 letO (binF Try.prog .lss 3 (L4.getD 1 .any) t15) fun t17 =>
 condA t17 true (
 letO (idx 1 t14 (L4.getD 1 .any)) fun t18 =>
 letO (load1 t18 H5) fun t19 =>
 letO (some (t19 : AV)) fun t9 =>
 letO (some ((L4.getD 0 .any) : AV)) fun t20 =>
 letO (some (t9 : AV)) fun t21 =>
 letO (binF Try.prog .add 3 t21 (.int .i64 1)) fun t22 =>
 letO (binF Try.prog .add 3 t20 t22) fun t23 =>
 letO (some (t23 : AV)) fun t7 =>
 letO (binF Try.prog .add 3 (L4.getD 1 .any) (.int .i64 1)) fun t24 =>
 letO (some (t24 : AV)) fun t16 =>
 I2 [t7, t16] H5 ∧ μ3 [t7, t16] H5 < μ3 L4 H5) (
 letO (faddr 0 (.iptr c1)) fun t25 =>
 letO (load1 t25 H5) fun t26 =>
 letO (some ((L4.getD 0 .any) : AV)) fun t27 =>
 letO (binF Try.prog .sub 3 t26 t27) fun t28 =>
 letO (some (t28 : AV)) fun t6 =>
endK t6 H5 K)

theorem W43_ok {x0 x1 x2 : AV} {H : Heap} {K : AV → Heap → Prop} (h : W43 x0 x1 x2 H K) : ACalls Try.prog 43 [x0, x1, x2] H K :=
  acallsB (fn := Try.f43) (cfg := cfgOf [] [] [] [] []) (hh := (.dir .nil (.dir .nil (.dir (.dir .nil (.blk (.loop [7, 16] [17, 18, 19, 9, 20, 21, 22, 23, 7, 24, 16] (.dir .nil (.dir .nil (.dir .nil .nil)))))) .nil)))) follows Try.func43 (by kernel_rfl) (Nat.le_of_ble_eq_true (by kernel_rfl)) (by kernel_rfl) h

/-- headword.headwordlaw13.prices -/
def W54 (x0 : AV) (H : Heap) (K : AV → Heap → Prop) : Prop :=
 letO (cellsOf? x0) fun c1 =>
 letO (some (.nils : AV)) fun t2 =>
 letO (some (.nils : AV)) fun t3 =>
 letO (literalF Try.prog 22 1 [(0, (.int .i64 0))]) fun c2 =>
 ACalls Try.prog 46 [(.imm 1 true c2)] H fun t11 H3 =>
 letO (some (t11 : AV)) fun t2 =>
 letO (some ((.int .i64 1) : AV)) fun t4 =>
 true = true ∧ ∃ (I4 : List AV → Heap → Prop) (μ5 : List AV → Heap → Nat), I4 [t2, t3, t4] H3 ∧ ∀ L6 H7, I4 L6 H7 → -- [t2, t3, t4]
 letO (some ((L6.getD 2 .any) : AV)) fun t12 =>
 letO (faddr 1 (.iptr c1)) fun t13 =>
 letO (load1 t13 H7) fun t14 =>
 letO (lenA t14) fun t15 =>
 letO (binF Try.prog .leq 3 t12 t15) fun t16 =>
 condA t16 true (
 letO (some ((.int .i64 (-1)) : AV)) fun t5 =>
 letO (some ((.int .i64 0) : AV)) fun t6 =>
 letO (some ((L6.getD 2 .any) : AV)) fun t19 =>
 letO (some ((.int .i64 0) : AV)) fun t20 =>
 true = true ∧ ∃ (I8 : List AV → Heap → Prop) (μ9 : List AV → Heap → Nat), I8 [t5, t6, t20] H7 ∧ ∀ L10 H11, I8 L10 H11 → -- [t5, t6, t20]
 letO (binF Try.prog .lss 3 (L10.getD 2 .any) t19) fun t21 =>
 condA t21 true (
 true = true ∧ ∃ J12 : List AV → Heap → Prop, (
 letO (some ((L10.getD 2 .any) : AV)) fun t22 =>
 letO (some (t22 : AV)) fun t7 =>
 letO (loadN 2 (.iptr c1) H11) fun t23 =>
 letO (some (t7 : AV)) fun t24 =>
 letO (some ((L6.getD 2 .any) : AV)) fun t25 =>
 ACalls Try.prog 43 [t23, t24, t25] H11 fun t26 H13 =>
 letO (some (t26 : AV)) fun t8 =>
 letO (some (t8 : AV)) fun t27 =>
 letO (binF Try.prog .lss 3 t27 (.int .i64 0)) fun t28 =>
 condA t28 true (
 J12 [(L10.getD 0 .any), (L10.getD 1 .any)] H13) (
 letO (some ((L6.getD 0 .any) : AV)) fun t29 =>
 letO (some (t7 : AV)) fun t30 =>
 letO (idx 1 t29 t30) fun t31 =>
 letO (load1 t31 H13) fun t32 =>
 letO (some (t8 : AV)) fun t33 =>
 letO (some (t8 : AV)) fun t34 =>
 letO (binF Try.prog .mul 3 t33 t34) fun t35 =>
 letO (binF Try.prog .add 3 t32 t35) fun t36 =>
 letO (some (t36 : AV)) fun t9 =>
 letO (some ((L10.getD 0 .any) : AV)) fun t37 =>
 letO (binF Try.prog .lss 3 t37 (.int .i64 0)) fun t38 =>
 letO (some (t38 : AV)) fun t39 =>
 letO (gval t39 false (some (t9 : AV))) fun t40 =>
 letO (gval t39 false (some ((L10.getD 0 .any) : AV))) fun t41 =>
 letO (gval t39 false (binF Try.prog .lss 3 t40 t41)) fun t42 =>
 letO (pickF t39 (.bool true) t42) fun t43 =>
 condA t43 true (
 letO (some (t9 : AV)) fun t44 =>
 letO (some (t7 : AV)) fun t45 =>
 letO (some (t44 : AV)) fun t5 =>
 letO (some (t45 : AV)) fun t6 =>
 J12 [t5, t6] H13) (
 J12 [(L10.getD 0 .any), (L10.getD 1 .any)] H13))) ∧ ∀ L14 H15, J12 L14 H15 → -- [t5, t6]
 letO (binF Try.prog .add 3 (L10.getD 2 .any) (.int .i64 1)) fun t46 =>
 letO (some (t46 : AV)) fun t20 =>
 I8 [(L14.getD 0 .any), (L14.getD 1 .any), t20] H15 ∧ μ9 [(L14.getD 0 .any), (L14.getD 1 .any), t20] H15 < μ9 L10 H11) (
 letO (some ((L6.getD 0 .any) : AV)) fun t47 =>
 letO (some ((L10.getD 0 .any) : AV)) fun t48 =>
 letO (literalF Try.prog 22 1 [(0, t48)]) fun c16 =>
 appendA 1 8 t47 (.imm 1 true c16) (fun t50 H17 =>
 letO (some ((L6.getD 1 .any) : AV)) fun t51 =>
 letO (some ((L10.getD 1 .any) : AV)) fun t52 =>
 letO (literalF Try.prog 22 1 [(0, t52)]) fun c18 =>
 appendA 1 8 t51 (.imm 1 true c18) (fun t54 H19 =>
 letO (some (t50 : AV)) fun t2 =>
 letO (some (t54 : AV)) fun t3 =>
 letO (some ((L6.getD 2 .any) : AV)) fun t17 =>
 letO (binF Try.prog .add 3 t17 (.int .i64 1)) fun t18 =>
 letO (some (t18 : AV)) fun t4 =>
 I4 [t2, t3, t4] H19 ∧ μ5 [t2, t3, t4] H19 < μ5 L6 H7) H17) H11)) (
 letO (some ((L6.getD 0 .any) : AV)) fun t55 =>
 letO (faddr 1 (.iptr c1)) fun t56 =>
 letO (load1 t56 H7) fun t57 =>
 letO (lenA t57) fun t58 =>
 letO (slc 1 t55 none (some t58) none) fun t59 =>
 letO (some ((L6.getD 1 .any) : AV)) fun t60 =>
 letO (some (t59 : AV)) fun t2 =>
 letO (some (t60 : AV)) fun t3 =>
endK (.tup [t2, t3]) H7 K)

theorem W54_ok {x0 : AV} {H : Heap} {K : AV → Heap → Prop} (h : W54 x0 H K) : ACalls Try.prog 54 [x0] H K :=
  acallsB (fn := Try.f54) (cfg := cfgOf [] [] [] [] []) (hh := (.dir .nil (.dir .nil (.dir (.dir .nil (.blk (.loop [2, 3, 4] [12, 13, 14, 15, 16, 5, 6, 19, 20, 21, 22, 7, 23, 24, 25, 26, 8, 27, 28, 29, 30, 31, 32, 33, 34, 35, 36, 9, 37, 38, 39, 40, 41, 42, 43, 44, 45, 46, 47, 48, 49, 50, 51, 52, 53, 54, 2, 3, 17, 18, 4] (.dir (.dir .nil .nil) (.dir (.blk (.dir .nil (.dir (.dir .nil (.blk (.loop [5, 6, 20] [21, 22, 7, 23, 24, 25, 26, 8, 27, 28, 29, 30, 31, 32, 33, 34, 35, 36, 9, 37, 38, 39, 40, 41, 42, 43, 44, 45, 5, 6, 46, 20] (.dir .nil (.dir .nil (.cut [5, 6] [22, 7, 23, 24, 25, 26, 8, 27, 28, 29, 30, 31, 32, 33, 34, 35, 36, 9, 37, 38, 39, 40, 41, 42, 43, 44, 45, 5, 6] (.blk (.dir .nil (.dir .nil (.dir (.dir .nil .nil) (.dir .nil (.dir .nil .nil)))))) .nil)))))) .nil))) .nil))))) .nil)))) follows Try.func54 (by kernel_rfl) (Nat.le_of_ble_eq_true (by kernel_rfl)) (by kernel_rfl) h

/-- slices.IsSorted[[]int,int] -/
def W61 (x0 : AV) (H : Heap) (K : AV → Heap → Prop) : Prop :=
 letO (some ((.bool false) : AV)) fun t2 =>
 letO (some (x0 : AV)) fun t4 =>
 letO (lenA t4) fun t5 =>
 letO (binF Try.prog .sub 3 t5 (.int .i64 1)) fun t6 =>
 letO (some (t6 : AV)) fun t3 =>
 true = true ∧ ∃ (I1 : List AV → Heap → Prop) (μ2 : List AV → Heap → Nat), I1 [t3] H ∧ ∀ L3 H4, I1 L3 H4 → -- [t3]
 letO (some ((L3.getD 0 .any) : AV)) fun t7 =>
 letO (binF Try.prog .gtr 3 t7 (.int .i64 0)) fun t8 =>
 condA t8 true (
 true = true ∧
 letO (some (x0 : AV)) fun t11 =>
 letO (some ((L3.getD 0 .any) : AV)) fun t12 =>
 letO (idx 1 t11 t12) fun t13 =>
 letO (load1 t13 H4) fun t14 =>
 letO (some (x0 : AV)) fun t15 =>
 letO (some ((L3.getD 0 .any) : AV)) fun t16 =>
 letO (binF Try.prog .sub 3 t16 (.int .i64 1)) fun t17 =>
 letO (idx 1 t15 t17) fun t18 =>
 letO (load1 t18 H4) fun t19 =>
 ACalls Try.prog 86 [t14, t19] H4 fun t20 H5 =>
 condA t20 true (
 letO (some ((.bool false) : AV)) fun t2 =>
endK t2 H5 K) (
 letO (some ((L3.getD 0 .any) : AV)) fun t9 =>
 letO (binF Try.prog .sub 3 t9 (.int .i64 1)) fun t10 =>
 letO (some (t10 : AV)) fun t3 =>
 I1 [t3] H5 ∧ μ2 [t3] H5 < μ2 L3 H4)) (
 letO (some ((.bool true) : AV)) fun t2 =>
endK t2 H4 K)

theorem W61_ok {x0 : AV} {H : Heap} {K : AV → Heap → Prop} (h : W61 x0 H K) : ACalls Try.prog 61 [x0] H K :=
  acallsB (fn := Try.f61) (cfg := cfgOf [] [] [(4, [0, 0, 3, 7, 0, 0, 32, 112, 240, 511])] [] []) (hh := (.dir .nil (.dir (.dir .nil (.blk (.loop [3] [7, 8, 11, 12, 13, 14, 15, 16, 17, 18, 19, 20, 2, 9, 10, 3] (.dir (.dir .nil .nil) (.dir (.blk (.dir .nil (.dir .nil .nil))) .nil))))) .nil))) follows Try.func61 (by kernel_rfl) (Nat.le_of_ble_eq_true (by kernel_rfl)) (by kernel_rfl) h

/-- cmp.Less[int] -/
def W86 (x0 x1 : AV) (H : Heap) (K : AV → Heap → Prop) : Prop :=
 letO (some ((.bool false) : AV)) fun t4 =>
 letO (some (x0 : AV)) fun t5 =>
 ACalls Try.prog 94 [t5] H fun t6 H1 =>
 letO (some (t6 : AV)) fun t7 =>
 letO (gval t7 true (some (x1 : AV))) fun t8 =>
 ∃ J2 : AV → Heap → Prop, condG t7 true (ACalls Try.prog 94 [t8] H1 fun t9 H3 =>
 J2 t9 H3) (J2 (.tup []) H1) ∧ ∀ t9 H4, J2 t9 H4 →
 letO (gval t7 true (unF .not t9)) fun t10 =>
 letO (pickF t7 t10 (.bool false)) fun t11 =>
 letO (some (t11 : AV)) fun t12 =>
 letO (gval t12 false (some (x0 : AV))) fun t13 =>
 letO (gval t12 false (some (x1 : AV))) fun t14 =>
 letO (gval t12 false (binF Try.prog .lss 3 t13 t14)) fun t15 =>
 letO (pickF t12 (.bool true) t15) fun t16 =>
 letO (some (t16 : AV)) fun t4 =>
endK t4 H4 K

theorem W86_ok {x0 x1 : AV} {H : Heap} {K : AV → Heap → Prop} (h : W86 x0 x1 H K) : ACalls Try.prog 86 [x0, x1] H K :=
  acallsB (fn := Try.f86) (cfg := cfgOf [] [] [] [] []) (hh := (.dir .nil .nil)) follows Try.func86 (by kernel_rfl) (Nat.le_of_ble_eq_true (by kernel_rfl)) (by kernel_rfl) h

/-- cmp.isNaN[int] -/
def W94 (x0 : AV) (H : Heap) (K : AV → Heap → Prop) : Prop :=
 letO (some ((.bool false) : AV)) fun t2 =>
 letO (some (x0 : AV)) fun t3 =>
 letO (some (x0 : AV)) fun t4 =>
 letO (binF Try.prog .neq 3 t3 t4) fun t5 =>
 letO (some (t5 : AV)) fun t2 =>
endK t2 H K

theorem W94_ok {x0 : AV} {H : Heap} {K : AV → Heap → Prop} (h : W94 x0 H K) : ACalls Try.prog 94 [x0] H K :=
  acallsB (fn := Try.f94) (cfg := cfgOf [] [] [] [] []) (hh := (.dir .nil .nil)) follows Try.func94 (by kernel_rfl) (Nat.le_of_ble_eq_true (by kernel_rfl)) (by kernel_rfl) h


end Go.Proofs.Ytlajhbpkogekfaa
