import Derived.Test.YtlajhbpkogekfaaCon
/- The functions of the statement LineFull that the line package does not hold, each in the words of its walk; made by program. -/
set_option linter.unusedVariables false
set_option maxRecDepth 100000
namespace Go.Proofs.Ytlajhbpkogekfaa
open Go.Av
/-- headword.headwordlaw13.LineFull -/
def W6 (x0 : AV) (H : Heap) (K : AV → Heap → Prop) : Prop :=
 letO (cellsOf? x0) fun c1 =>
 letO (some ((.bool false) : AV)) fun t2 =>
 letO (loadN 13 (.iptr c1) H) fun t9 =>
 ACalls Try.prog 34 [t9, (.int .i64 9)] H fun t10 H2 =>
 allocA [(.int .i64 0), .nils] (fun t3 H3 =>
 storeA 2 t3 t10 (fun H4 =>
 letO (loadN 2 t3 H4) fun t11 =>
 ACalls Try.prog 35 [t11] H4 fun t12 H5 =>
 allocA [.nils] (fun t4 H6 =>
 storeA 1 t4 t12 (fun H7 =>
 letO (loadN 2 t3 H7) fun t14 =>
 ACalls Try.prog 36 [t14] H7 fun t15 H8 =>
 letO (some (t15 : AV)) fun t13 =>
 letO (extrF t13 0) fun t16 =>
 letO (extrF t13 1) fun t17 =>
 letO (some (t16 : AV)) fun t5 =>
 letO (some (t17 : AV)) fun t6 =>
 letO (some (t6 : AV)) fun t18 =>
 letO (binF Try.prog .neq 27 t18 (.int .i64 0)) fun t19 =>
 letO (some (t19 : AV)) fun t20 =>
 letO (gval t20 false (some (t5 : AV))) fun t21 =>
 letO (gval t20 false (load1 t4 H8)) fun t22 =>
 ∃ J9 : AV → Heap → Prop, condG t20 false (ACalls Try.prog 25 [t21, t22] H8 fun t23 H10 =>
 J9 t23 H10) (J9 (.tup []) H8) ∧ ∀ t23 H11, J9 t23 H11 →
 letO (gval t20 false (unF .not t23)) fun t24 =>
 letO (pickF t20 (.bool true) t24) fun t25 =>
 condA t25 true (
 letO (some ((.bool false) : AV)) fun t2 =>
endK t2 H11 K) (
 allocA [(.bool false)] (fun t7 H12 =>
 storeA 1 t7 (.bool true) (fun H13 =>
 letO (loadN 2 t3 H13) fun t26 =>
 letO (some (AV.fn 38 [t7, t4])) fun t27 =>
 ACalls Try.prog 37 [t26, t27] H13 fun t28 H14 =>
 letO (loadN 2 t3 H14) fun t30 =>
 ACalls Try.prog 17 [t30] H14 fun t31 H15 =>
 letO (some (t31 : AV)) fun t29 =>
 letO (extrF t29 0) fun t32 =>
 letO (extrF t29 1) fun t33 =>
 letO (some (t32 : AV)) fun t8 =>
 letO (some (t33 : AV)) fun t6 =>
 letO (load1 t7 H15) fun t34 =>
 letO (some (t34 : AV)) fun t35 =>
 letO (gval t35 true (some (t6 : AV))) fun t36 =>
 letO (gval t35 true (binF Try.prog .eql 27 t36 (.int .i64 0))) fun t37 =>
 letO (pickF t35 t37 (.bool false)) fun t38 =>
 letO (some (t38 : AV)) fun t39 =>
 letO (gval t39 true (some (t8 : AV))) fun t40 =>
 letO (gval t39 true (lenA t40)) fun t41 =>
 letO (gval t39 true (some (t5 : AV))) fun t42 =>
 letO (gval t39 true (lenA t42)) fun t43 =>
 letO (gval t39 true (binF Try.prog .geq 3 t41 t43)) fun t44 =>
 letO (pickF t39 t44 (.bool false)) fun t45 =>
 letO (some (t45 : AV)) fun t46 =>
 ∃ J16 : AV → Heap → Prop, condG t46 true (ACalls Try.prog 16 [] H15 fun t47 H17 =>
 J16 t47 H17) (J16 (.tup []) H15) ∧ ∀ t47 H18, J16 t47 H18 →
 letO (pickF t46 t47 (.bool false)) fun t48 =>
 letO (some (t48 : AV)) fun t2 =>
endK t2 H18 K) H12) H11)) H6) H5) H3) H2

theorem W6_ok {x0 : AV} {H : Heap} {K : AV → Heap → Prop} (h : W6 x0 H K) : ACalls Try.prog 6 [x0] H K :=
  acallsB (fn := Try.f6) (cfg := cfgOf [] [] [] [] []) (hh := (.dir .nil (.dir .nil (.dir .nil (.dir .nil (.dir (.dir .nil (.dir .nil .nil)) (.dir .nil (.dir .nil (.dir .nil .nil))))))))) follows Try.func6 (by kernel_rfl) (Nat.le_of_ble_eq_true (by kernel_rfl)) (by kernel_rfl) h

/-- (headword.headwordlaw13.Galley).made -/
def W34 (x0 x1 : AV) (H : Heap) (K : AV → Heap → Prop) : Prop :=
 letO (cellsOf? x0) fun c1 =>
 allocA [(.int .i64 0), .nils] (fun t4 H2 =>
 letO (faddr 0 (.iptr c1)) fun t9 =>
 letO (load1 t9 H2) fun t10 =>
 letO (convF Try.prog 5 3 t10) fun t11 =>
 letO (binF Try.prog .rem 3 t11 (.int .i64 40)) fun t12 =>
 letO (binF Try.prog .add 3 (.int .i64 1) t12) fun t13 =>
 letO (buildF Try.prog 24 [(0, t13)]) fun t14 =>
 allocA [(.int .i64 0), .nils] (fun t5 H3 =>
 storeA 2 t5 t14 (fun H4 =>
 letO (faddr 0 t5) fun t15 =>
 letO (load1 t15 H4) fun t16 =>
 letO (some (t16 : AV)) fun t6 =>
 true = true ∧ ∃ J5 : List AV → Heap → Prop, (
 letO (faddr 2 (.iptr c1)) fun t17 =>
 letO (load1 t17 H4) fun t18 =>
 letO (binF Try.prog .rem 5 t18 (.int .u8 3)) fun t19 =>
 letO (binF Try.prog .gtr 5 t19 (.int .u8 0)) fun t20 =>
 condA t20 true (
 letO (faddr 0 t5) fun t21 =>
 letO (load1 t21 H4) fun t22 =>
 letO (binF Try.prog .quo 3 t22 (.int .i64 2)) fun t23 =>
 letO (binF Try.prog .add 3 (.int .i64 1) t23) fun t24 =>
 letO (some (t24 : AV)) fun t6 =>
 J5 [t6] H4) (
 J5 [t6] H4)) ∧ ∀ L6 H7, J5 L6 H7 → -- [t6]
 letO (faddr 3 (.iptr c1)) fun t25 =>
 letO (faddr 1 (.iptr c1)) fun t26 =>
 letO (load1 t26 H7) fun t27 =>
 letO (convF Try.prog 5 3 t27) fun t28 =>
 letO (some (x1 : AV)) fun t29 =>
 letO (binF Try.prog .rem 3 t28 t29) fun t30 =>
 letO (binF Try.prog .add 3 (.int .i64 1) t30) fun t31 =>
 letO (slcArr 10 1 t25 none (some t31) none) fun t32 =>
 letO (lenA t32) fun t33 =>
 letO (some ((.int .i64 0) : AV)) fun t34 =>
 true = true ∧ ∃ (I8 : List AV → Heap → Prop) (μ9 : List AV → Heap → Nat), I8 [t34] H7 ∧ ∀ L10 H11, I8 L10 H11 → -- [t34]
 letO (binF Try.prog .lss 3 (L10.getD 0 .any) t33) fun t35 =>
 condA t35 true (
 letO (idx 1 t32 (L10.getD 0 .any)) fun t36 =>
 letO (load1 t36 H11) fun t37 =>
 letO (some (t37 : AV)) fun t8 =>
 true = true ∧
 letO (faddr 1 t5) fun t38 =>
 letO (load1 t38 H11) fun t39 =>
 letO (some (t8 : AV)) fun t40 =>
 letO (convF Try.prog 5 3 t40) fun t41 =>
 letO (some ((L6.getD 0 .any) : AV)) fun t42 =>
 letO (faddr 0 t5) fun t43 =>
 letO (load1 t43 H11) fun t44 =>
 letO (min2F t42 t44) fun t45 =>
 letO (binF Try.prog .rem 3 t41 t45) fun t46 =>
 letO (binF Try.prog .add 3 (.int .i64 1) t46) fun t47 =>
 letO (literalF Try.prog 22 1 [(0, t47)]) fun c12 =>
 appendA 1 8 t39 (.imm 1 true c12) (fun t49 H13 =>
 letO (faddr 1 t5) fun t50 =>
 storeA 1 t50 t49 (fun H14 =>
 letO (binF Try.prog .add 3 (L10.getD 0 .any) (.int .i64 1)) fun t51 =>
 letO (some (t51 : AV)) fun t34 =>
 I8 [t34] H14 ∧ μ9 [t34] H14 < μ9 L10 H11) H13) H11) (
 letO (loadN 2 t5 H11) fun t52 =>
 storeA 2 t4 t52 (fun H15 =>
 letO (loadN 2 t4 H15) fun r16 => endK r16 H15 K) H11)) H3) H2) H

theorem W34_ok {x0 x1 : AV} {H : Heap} {K : AV → Heap → Prop} (h : W34 x0 x1 H K) : ACalls Try.prog 34 [x0, x1] H K :=
  acallsB (fn := Try.f34) (cfg := cfgOf [] [] [(8, [0, 1, 0, 4, 0, 0, 32, 112, 252, 508, 1020, 2047, 4095, 8191])] [] []) (hh := (.dir .nil (.dir .nil (.dir .nil (.cut [6] [17, 18, 19, 20, 21, 22, 23, 24, 6] (.dir .nil .nil) (.dir (.dir .nil (.blk (.loop [34] [35, 36, 37, 8, 38, 39, 40, 41, 42, 43, 44, 45, 46, 47, 48, 49, 50, 51, 34] (.dir .nil (.dir .nil (.dir .nil .nil)))))) .nil)))))) follows Try.func34 (by kernel_rfl) (Nat.le_of_ble_eq_true (by kernel_rfl)) (by kernel_rfl) h

/-- headword.headwordlaw13.filled -/
def W35 (x0 : AV) (H : Heap) (K : AV → Heap → Prop) : Prop :=
 letO (cellsOf? x0) fun c1 =>
 letO (some (.nils : AV)) fun t2 =>
 letO (some (.nils : AV)) fun t3 =>
 letO (some ((.int .i64 0) : AV)) fun t4 =>
 true = true ∧ ∃ (I2 : List AV → Heap → Prop) (μ3 : List AV → Heap → Nat), I2 [t3, t4] H ∧ ∀ L4 H5, I2 L4 H5 → -- [t3, t4]
 letO (some ((L4.getD 1 .any) : AV)) fun t6 =>
 letO (faddr 1 (.iptr c1)) fun t7 =>
 letO (load1 t7 H5) fun t8 =>
 letO (lenA t8) fun t9 =>
 letO (binF Try.prog .lss 3 t6 t9) fun t10 =>
 condA t10 true (
 letO (some ((L4.getD 1 .any) : AV)) fun t11 =>
 letO (binF Try.prog .add 3 t11 (.int .i64 1)) fun t12 =>
 letO (some (t12 : AV)) fun t5 =>
 true = true ∧ ∃ (I6 : List AV → Heap → Prop) (μ7 : List AV → Heap → Nat), I6 [t5] H5 ∧ ∀ L8 H9, I6 L8 H9 → -- [t5]
 letO (some ((L8.getD 0 .any) : AV)) fun t13 =>
 letO (faddr 1 (.iptr c1)) fun t14 =>
 letO (load1 t14 H9) fun t15 =>
 letO (lenA t15) fun t16 =>
 letO (binF Try.prog .lss 3 t13 t16) fun t17 =>
 letO (some (t17 : AV)) fun t18 =>
 letO (gval t18 true (loadN 2 (.iptr c1) H9)) fun t19 =>
 letO (gval t18 true (some ((L4.getD 1 .any) : AV))) fun t20 =>
 letO (gval t18 true (some ((L8.getD 0 .any) : AV))) fun t21 =>
 letO (gval t18 true (binF Try.prog .add 3 t21 (.int .i64 1))) fun t22 =>
 ∃ J10 : AV → Heap → Prop, condG t18 true (ACalls Try.prog 43 [t19, t20, t22] H9 fun t23 H11 =>
 J10 t23 H11) (J10 (.tup []) H9) ∧ ∀ t23 H12, J10 t23 H12 →
 letO (gval t18 true (binF Try.prog .geq 3 t23 (.int .i64 0))) fun t24 =>
 letO (pickF t18 t24 (.bool false)) fun t25 =>
 condA t25 true (
 letO (some ((L8.getD 0 .any) : AV)) fun t26 =>
 letO (binF Try.prog .add 3 t26 (.int .i64 1)) fun t27 =>
 letO (some (t27 : AV)) fun t5 =>
 I6 [t5] H12 ∧ μ7 [t5] H12 < μ7 L8 H9) (
 letO (some ((L4.getD 0 .any) : AV)) fun t28 =>
 letO (some ((L8.getD 0 .any) : AV)) fun t29 =>
 letO (literalF Try.prog 22 1 [(0, t29)]) fun c13 =>
 appendA 1 8 t28 (.imm 1 true c13) (fun t31 H14 =>
 letO (some (t31 : AV)) fun t3 =>
 letO (some ((L8.getD 0 .any) : AV)) fun t32 =>
 letO (some (t32 : AV)) fun t4 =>
 I2 [t3, t4] H14 ∧ μ3 [t3, t4] H14 < μ3 L4 H5) H12)) (
 letO (some ((L4.getD 0 .any) : AV)) fun t33 =>
 letO (some (t33 : AV)) fun t2 =>
endK t2 H5 K)

theorem W35_ok {x0 : AV} {H : Heap} {K : AV → Heap → Prop} (h : W35 x0 H K) : ACalls Try.prog 35 [x0] H K :=
  acallsB (fn := Try.f35) (cfg := cfgOf [] [] [] [] []) (hh := (.dir .nil (.dir .nil (.dir (.dir .nil (.blk (.loop [3, 4] [6, 7, 8, 9, 10, 11, 12, 5, 13, 14, 15, 16, 17, 18, 19, 20, 21, 22, 23, 24, 25, 26, 27, 28, 29, 30, 31, 3, 32, 4] (.dir (.dir .nil .nil) (.blk (.dir .nil (.dir (.blk (.loop [5] [13, 14, 15, 16, 17, 18, 19, 20, 21, 22, 23, 24, 25, 26, 27, 5] (.dir (.dir .nil .nil) .nil))) .nil))))))) .nil)))) follows Try.func35 (by kernel_rfl) (Nat.le_of_ble_eq_true (by kernel_rfl)) (by kernel_rfl) h

/-- headword.headwordlaw13.each -/
def W37 (x0 x1 : AV) (H : Heap) (K : AV → Heap → Prop) : Prop :=
 letO (cellsOf? x0) fun c1 =>
 letO (cellsOf? x1) fun c2 =>
 allocA [.nilf] (fun t4 H3 =>
 letO (some (AV.fn 80 [(.iptr c1), (.iptr c2), t4])) fun t5 =>
 storeA 1 t4 t5 (fun H4 =>
 letO (load1 t4 H4) fun t6 =>
 callA Try.prog t6 [.nils, .nils, (.int .i64 0)] (fun t7 H5 =>
endK (.tup []) H5 K) H4) H3) H

theorem W37_ok {x0 x1 : AV} {H : Heap} {K : AV → Heap → Prop} (h : W37 x0 x1 H K) : ACalls Try.prog 37 [x0, x1] H K :=
  acallsB (fn := Try.f37) (cfg := cfgOf [] [] [] [] []) (hh := (.dir .nil (.dir .nil .nil))) follows Try.func37 (by kernel_rfl) (Nat.le_of_ble_eq_true (by kernel_rfl)) (by kernel_rfl) h

/-- headword.headwordlaw13.LineFull$1 -/
def W38 (x0 x1 x2 x3 : AV) (H : Heap) (K : AV → Heap → Prop) : Prop :=
 letO (load1 x2 H) fun t8 =>
 letO (some (t8 : AV)) fun t9 =>
 letO (gval t9 true (some (x0 : AV))) fun t10 =>
 letO (gval t9 true (lenA t10)) fun t11 =>
 letO (gval t9 true (load1 x3 H)) fun t12 =>
 letO (gval t9 true (lenA t12)) fun t13 =>
 letO (gval t9 true (binF Try.prog .geq 3 t11 t13)) fun t14 =>
 letO (pickF t9 t14 (.bool false)) fun t15 =>
 storeA 1 x2 t15 (fun H1 =>
 letO (some (x0 : AV)) fun t16 =>
 letO (lenA t16) fun t17 =>
 letO (some ((.int .i64 0) : AV)) fun t18 =>
 true = true ∧ ∃ (I2 : List AV → Heap → Prop) (μ3 : List AV → Heap → Nat), I2 [t18] H1 ∧ ∀ L4 H5, I2 L4 H5 → -- [t18]
 letO (binF Try.prog .lss 3 (L4.getD 0 .any) t17) fun t19 =>
 condA t19 true (
 letO (some ((L4.getD 0 .any) : AV)) fun t20 =>
 letO (idx 1 t16 (L4.getD 0 .any)) fun t21 =>
 letO (load1 t21 H5) fun t22 =>
 letO (some (t20 : AV)) fun t6 =>
 letO (some (t22 : AV)) fun t7 =>
 letO (load1 x2 H5) fun t23 =>
 letO (some (t23 : AV)) fun t24 =>
 letO (gval t24 true (some (t6 : AV))) fun t25 =>
 letO (gval t24 true (load1 x3 H5)) fun t26 =>
 letO (gval t24 true (lenA t26)) fun t27 =>
 letO (gval t24 true (binF Try.prog .geq 3 t25 t27)) fun t28 =>
 letO (gval t24 true (some (t28 : AV))) fun t29 =>
 letO (gval t29 false (some (t7 : AV))) fun t30 =>
 letO (gval t29 false (load1 x3 H5)) fun t31 =>
 letO (gval t29 false (some (t6 : AV))) fun t32 =>
 letO (gval t29 false (idx 1 t31 t32)) fun t33 =>
 letO (gval t29 false (load1 t33 H5)) fun t34 =>
 letO (gval t29 false (binF Try.prog .leq 3 t30 t34)) fun t35 =>
 letO (gval t24 true (pickF t29 (.bool true) t35)) fun t36 =>
 letO (pickF t24 t36 (.bool false)) fun t37 =>
 storeA 1 x2 t37 (fun H6 =>
 letO (binF Try.prog .add 3 (L4.getD 0 .any) (.int .i64 1)) fun t38 =>
 letO (some (t38 : AV)) fun t18 =>
 I2 [t18] H6 ∧ μ3 [t18] H6 < μ3 L4 H5) H5) (
endK (.tup []) H5 K)) H

theorem W38_ok {x0 x1 x2 x3 : AV} {H : Heap} {K : AV → Heap → Prop} (h : W38 x0 x1 x2 x3 H K) : ACalls Try.prog 38 [x0, x1, x2, x3] H K :=
  acallsB (fn := Try.f38) (cfg := cfgOf [] [] [] [] []) (hh := (.dir .nil (.dir .nil (.blk (.loop [18] [19, 20, 21, 22, 6, 7, 23, 24, 25, 26, 27, 28, 29, 30, 31, 32, 33, 34, 35, 36, 37, 38, 18] (.dir .nil (.dir .nil (.dir .nil .nil)))))))) follows Try.func38 (by kernel_rfl) (Nat.le_of_ble_eq_true (by kernel_rfl)) (by kernel_rfl) h

/-- headword.headwordlaw13.left -/
def W43 (x0 x1 x2 : AV) (H : Heap) (K : AV → Heap → Prop) : Prop :=
 letO (cellsOf? x0) fun c1 =>
 letO (some ((.int .i64 0) : AV)) fun t6 =>
 letO (some ((.int .i64 (-1)) : AV)) fun t7 =>
 letO (faddr 1 (.iptr c1)) fun t10 =>
 letO (load1 t10 H) fun t11 =>
 letO (some (x1 : AV)) fun t12 =>
 letO (some (x2 : AV)) fun t13 =>
 letO (slc 1 t11 (some t12) (some t13) none) fun t14 =>
 letO (lenA t14) fun t15 =>
 letO (some ((.int .i64 0) : AV)) fun t16 =>
 true = true ∧ ∃ (I2 : List AV → Heap → Prop) (μ3 : List AV → Heap → Nat), I2 [t7, t16] H ∧ ∀ L4 H5, I2 L4 H5 → -- [t7, t16]
 letO (binF Try.prog .lss 3 (L4.getD 1 .any) t15) fun t17 =>
 condA t17 true (
 letO (idx 1 t14 (L4.getD 1 .any)) fun t18 =>
 letO (load1 t18 H5) fun t19 =>
 letO (some (t19 : AV)) fun t9 =>
 letO (some ((L4.getD 0 .any) : AV)) fun t20 =>
 letO (some (t9 : AV)) fun t21 =>
 letO (binF Try.prog .add 3 t21 (.int .i64 1)) fun t22 =>
 letO (binF Try.prog .add 3 t20 t22) fun t23 =>
 letO (some (t23 : AV)) fun t7 =>
 letO (binF Try.prog .add 3 (L4.getD 1 .any) (.int .i64 1)) fun t24 =>
 letO (some (t24 : AV)) fun t16 =>
 I2 [t7, t16] H5 ∧ μ3 [t7, t16] H5 < μ3 L4 H5) (
 letO (faddr 0 (.iptr c1)) fun t25 =>
 letO (load1 t25 H5) fun t26 =>
 letO (some ((L4.getD 0 .any) : AV)) fun t27 =>
 letO (binF Try.prog .sub 3 t26 t27) fun t28 =>
 letO (some (t28 : AV)) fun t6 =>
endK t6 H5 K)

theorem W43_ok {x0 x1 x2 : AV} {H : Heap} {K : AV → Heap → Prop} (h : W43 x0 x1 x2 H K) : ACalls Try.prog 43 [x0, x1, x2] H K :=
  acallsB (fn := Try.f43) (cfg := cfgOf [] [] [] [] []) (hh := (.dir .nil (.dir .nil (.dir (.dir .nil (.blk (.loop [7, 16] [17, 18, 19, 9, 20, 21, 22, 23, 7, 24, 16] (.dir .nil (.dir .nil (.dir .nil .nil)))))) .nil)))) follows Try.func43 (by kernel_rfl) (Nat.le_of_ble_eq_true (by kernel_rfl)) (by kernel_rfl) h

/-- headword.headwordlaw13.each$1 -/
def W80 (x0 x1 x2 x3 x4 x5 : AV) (H : Heap) (K : AV → Heap → Prop) : Prop :=
 letO (some (x2 : AV)) fun t12 =>
 letO (faddr 1 x3) fun t13 =>
 letO (load1 t13 H) fun t14 =>
 letO (lenA t14) fun t15 =>
 letO (binF Try.prog .eql 3 t12 t15) fun t16 =>
 condA t16 true (
 letO (load1 x4 H) fun t17 =>
 letO (some (x0 : AV)) fun t18 =>
 letO (some (x1 : AV)) fun t19 =>
 callA Try.prog t17 [t18, t19] (fun t20 H1 =>
endK (.tup []) H1 K) H) (
 letO (some (x0 : AV)) fun t21 =>
 letO (lenA t21) fun t22 =>
 letO (some (t22 : AV)) fun t9 =>
 letO (some (x2 : AV)) fun t23 =>
 letO (binF Try.prog .add 3 t23 (.int .i64 1)) fun t24 =>
 letO (some (t24 : AV)) fun t10 =>
 true = true ∧ ∃ (I2 : List AV → Heap → Prop) (μ3 : List AV → Heap → Nat), I2 [t10] H ∧ ∀ L4 H5, I2 L4 H5 → -- [t10]
 letO (some ((L4.getD 0 .any) : AV)) fun t25 =>
 letO (faddr 1 x3) fun t26 =>
 letO (load1 t26 H5) fun t27 =>
 letO (lenA t27) fun t28 =>
 letO (binF Try.prog .leq 3 t25 t28) fun t29 =>
 condA t29 true (
 true = true ∧ ∃ J6 : List AV → Heap → Prop, (
 letO (loadN 2 x3 H5) fun t32 =>
 letO (some (x2 : AV)) fun t33 =>
 letO (some ((L4.getD 0 .any) : AV)) fun t34 =>
 ACalls Try.prog 43 [t32, t33, t34] H5 fun t35 H7 =>
 letO (some (t35 : AV)) fun t11 =>
 letO (some (t11 : AV)) fun t36 =>
 letO (binF Try.prog .geq 3 t36 (.int .i64 0)) fun t37 =>
 condA t37 true (
 true = true ∧
 letO (load1 x5 H7) fun t38 =>
 letO (some (x0 : AV)) fun t39 =>
 letO (some (t9 : AV)) fun t40 =>
 letO (some (t9 : AV)) fun t41 =>
 letO (slc 1 t39 none (some t40) (some t41)) fun t42 =>
 letO (some ((L4.getD 0 .any) : AV)) fun t43 =>
 letO (literalF Try.prog 22 1 [(0, t43)]) fun c8 =>
 letO (some (x1 : AV)) fun t46 =>
 letO (some (t9 : AV)) fun t47 =>
 letO (some (t9 : AV)) fun t48 =>
 letO (slc 1 t46 none (some t47) (some t48)) fun t49 =>
 letO (some (t11 : AV)) fun t50 =>
 letO (literalF Try.prog 22 1 [(0, t50)]) fun c9 =>
 letO (some ((L4.getD 0 .any) : AV)) fun t53 =>
 isRef t42 = false ∧ appendA 1 8 t42 (.imm 1 true c8) (fun t45 H10 =>
 isRef t49 = false ∧ appendA 1 8 t49 (.imm 1 true c9) (fun t52 H11 =>
 callA Try.prog t38 [t45, t52, t53] (fun t54 H12 =>
 J6 [] H12) H11) H10) H7) (
 J6 [] H7)) ∧ ∀ L13 H14, J6 L13 H14 → -- []
 letO (some ((L4.getD 0 .any) : AV)) fun t30 =>
 letO (binF Try.prog .add 3 t30 (.int .i64 1)) fun t31 =>
 letO (some (t31 : AV)) fun t10 =>
 I2 [t10] H14 ∧ μ3 [t10] H14 < μ3 L4 H5) (
endK (.tup []) H5 K))

theorem W80_ok {x0 x1 x2 x3 x4 x5 : AV} {H : Heap} {K : AV → Heap → Prop} (h : W80 x0 x1 x2 x3 x4 x5 H K) : ACalls Try.prog 80 [x0, x1, x2, x3, x4, x5] H K :=
  acallsB (fn := Try.f80) (cfg := cfgOf [] [] [(8, [0, 0, 0, 0, 14, 0, 32, 126, 0, 0, 0, 1792, 0, 4096, 16382, 0, 65535])] [45, 52] []) (hh := (.dir (.dir .nil (.dir .nil .nil)) (.dir .nil (.dir .nil (.blk (.loop [10] [25, 26, 27, 28, 29, 32, 33, 34, 35, 11, 36, 37, 38, 39, 40, 41, 42, 43, 44, 45, 46, 47, 48, 49, 50, 51, 52, 53, 54, 30, 31, 10] (.dir (.dir .nil .nil) (.cut [] [32, 33, 34, 35, 11, 36, 37, 38, 39, 40, 41, 42, 43, 44, 45, 46, 47, 48, 49, 50, 51, 52, 53, 54] (.blk (.dir .nil (.dir .nil .nil))) .nil)))))))) follows Try.func80 (by kernel_rfl) (Nat.le_of_ble_eq_true (by kernel_rfl)) (by kernel_rfl) h


end Go.Proofs.Ytlajhbpkogekfaa
