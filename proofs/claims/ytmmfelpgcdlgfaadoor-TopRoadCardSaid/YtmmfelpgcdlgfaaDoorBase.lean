import Derived.Test.YtmmfelpgcdlgfaaDoorAvB
import Derived.KernelRfl
import Derived.Test.YtmmfelpgcdlgfaaDoorChecked
/- The functions that the statements across layers reach, each in the words of its walk; made by program. No conditions. -/
set_option linter.unusedVariables false
set_option maxRecDepth 100000
namespace Go.Proofs.YtmmfelpgcdlgfaaDoor
open Go.Av
theorem follows : Tryd.prog.follows .mixedOrders = true := by kernel_rfl
/-- headword.see.All -/
def W9 (x0 : AV) (H : Heap) (K : AV → Heap → Prop) : Prop :=
 letO (cellsOf? x0) fun c1 =>
 letO (some (.nils : AV)) fun t2 =>
 letO (some ((.int .i64 0) : AV)) fun t3 =>
 letO (loadN 2 (.iptr c1) H) fun t9 =>
 ACalls Tryd.prog 31 [t9] H fun t10 H2 =>
 letO (some (t10 : AV)) fun t8 =>
 letO (extrF t8 0) fun t11 =>
 letO (extrF t8 1) fun t12 =>
 allocA [(.int .i64 0), (.int .u64 0), (.int .u64 0), (.int .u64 0), (.int .u64 0), (.int .u64 0), (.int .u64 0), (.int .u64 0)] (fun t4 H3 =>
 storeA 8 t4 t11 (fun H4 =>
 letO (some (t12 : AV)) fun t5 =>
 letO (some (t5 : AV)) fun t13 =>
 letO (binF Tryd.prog .neq 32 t13 (.int .i64 0)) fun t14 =>
 condA t14 true (
 letO (some (t5 : AV)) fun t15 =>
 letO (some (.nils : AV)) fun t2 =>
 letO (some (t15 : AV)) fun t3 =>
endK (.tup [t2, t3]) H4 K) (
 letO (some (.nils : AV)) fun t6 =>
 letO (faddr 0 t4) fun t16 =>
 letO (load1 t16 H4) fun t17 =>
 letO (binF Tryd.prog .shl 76 (.int .u64 1) t17) fun t18 =>
 letO (some ((.int .u64 0) : AV)) fun t19 =>
 true = true ∧ ∃ (I5 : List AV → Heap → Prop) (μ6 : List AV → Heap → Nat), I5 [t6, t19] H4 ∧ ∀ L7 H8, I5 L7 H8 → -- [t6, t19]
 letO (binF Tryd.prog .lss 76 (L7.getD 1 .any) t18) fun t20 =>
 condA t20 true (
 true = true ∧ ∃ J9 : List AV → Heap → Prop, (
 letO (some ((L7.getD 1 .any) : AV)) fun t21 =>
 letO (some (t21 : AV)) fun t7 =>
 letO (loadN 8 t4 H8) fun t22 =>
 letO (some (t7 : AV)) fun t23 =>
 ACalls Tryd.prog 32 [t22, t23] H8 fun t24 H10 =>
 letO (binF Tryd.prog .eql 32 t24 (.int .i64 0)) fun t25 =>
 condA t25 true (
 letO (some ((L7.getD 0 .any) : AV)) fun t26 =>
 letO (some (t7 : AV)) fun t27 =>
 ACalls Tryd.prog 33 [t27] H10 fun t28 H11 =>
 letO (literalF Tryd.prog 31 1 [(0, t28)]) fun c12 =>
 appendA 1 24 t26 (.imm 1 true c12) (fun t30 H13 =>
 letO (some (t30 : AV)) fun t6 =>
 J9 [t6] H13) H11) (
 J9 [(L7.getD 0 .any)] H10)) ∧ ∀ L14 H15, J9 L14 H15 → -- [t6]
 letO (binF Tryd.prog .add 76 (L7.getD 1 .any) (.int .u64 1)) fun t31 =>
 letO (some (t31 : AV)) fun t19 =>
 I5 [(L14.getD 0 .any), t19] H15 ∧ μ6 [(L14.getD 0 .any), t19] H15 < μ6 L7 H8) (
 letO (some ((L7.getD 0 .any) : AV)) fun t32 =>
 ACalls Tryd.prog 34 [t32, (.fn 35 [])] H8 fun t33 H16 =>
 letO (some ((L7.getD 0 .any) : AV)) fun t34 =>
 letO (some (t34 : AV)) fun t2 =>
 letO (some ((.int .i64 0) : AV)) fun t3 =>
endK (.tup [t2, t3]) H16 K))) H3) H2

theorem W9_ok {x0 : AV} {H : Heap} {K : AV → Heap → Prop} (h : W9 x0 H K) : ACalls Tryd.prog 9 [x0] H K :=
  acallsB (fn := Tryd.f9) (cfg := cfgOf [] [] [] [] [] []) (hh := (.dir .nil (.dir .nil (.dir (.dir .nil (.dir .nil .nil)) (.dir .nil (.dir (.dir .nil (.blk (.loop [6, 19] [20, 21, 7, 22, 23, 24, 25, 26, 27, 28, 29, 30, 6, 31, 19] (.dir .nil (.dir .nil (.cut [6] [21, 7, 22, 23, 24, 25, 26, 27, 28, 29, 30, 6] (.blk (.dir .nil (.dir .nil .nil))) .nil)))))) (.dir .nil .nil))))))) follows Tryd.func9 (by kernel_rfl) (Nat.le_of_ble_eq_true (by kernel_rfl)) (by kernel_rfl) h

/-- headword.fact.First -/
def W10 (x0 : AV) (H : Heap) (K : AV → Heap → Prop) : Prop :=
 letO (cellsOf? x0) fun c1 =>
 letO (some (.nils : AV)) fun t2 =>
 letO (some ((.int .i64 0) : AV)) fun t3 =>
 letO (loadN 2 (.iptr c1) H) fun t7 =>
 ACalls Tryd.prog 36 [t7] H fun t8 H2 =>
 letO (some (t8 : AV)) fun t4 =>
 letO (some (t4 : AV)) fun t9 =>
 letO (binF Tryd.prog .neq 32 t9 (.int .i64 0)) fun t10 =>
 condA t10 true (
 letO (some (t4 : AV)) fun t11 =>
 letO (some (.nils : AV)) fun t2 =>
 letO (some (t11 : AV)) fun t3 =>
endK (.tup [t2, t3]) H2 K) (
 letO (loadN 2 (.iptr c1) H2) fun t13 =>
 ACalls Tryd.prog 37 [t13] H2 fun t14 H3 =>
 letO (some (t14 : AV)) fun t12 =>
 letO (extrF t12 0) fun t15 =>
 letO (extrF t12 1) fun t16 =>
 letO (some (t15 : AV)) fun t5 =>
 letO (some (t16 : AV)) fun t6 =>
 letO (some (t5 : AV)) fun t17 =>
 letO (some (t17 : AV)) fun t2 =>
 letO (some ((.int .i64 0) : AV)) fun t3 =>
endK (.tup [t2, t3]) H3 K)

theorem W10_ok {x0 : AV} {H : Heap} {K : AV → Heap → Prop} (h : W10 x0 H K) : ACalls Tryd.prog 10 [x0] H K :=
  acallsB (fn := Tryd.f10) (cfg := cfgOf [] [] [] [] [] []) (hh := (.dir .nil (.dir (.dir .nil (.dir .nil (.dir .nil .nil))) (.dir .nil .nil)))) follows Tryd.func10 (by kernel_rfl) (Nat.le_of_ble_eq_true (by kernel_rfl)) (by kernel_rfl) h

/-- headword.fact.Count -/
def W11 (x0 : AV) (H : Heap) (K : AV → Heap → Prop) : Prop :=
 letO (cellsOf? x0) fun c1 =>
 letO (some ((.int .i64 0) : AV)) fun t2 =>
 letO (some ((.int .i64 0) : AV)) fun t3 =>
 letO (loadN 2 (.iptr c1) H) fun t7 =>
 ACalls Tryd.prog 36 [t7] H fun t8 H2 =>
 letO (some (t8 : AV)) fun t4 =>
 letO (some (t4 : AV)) fun t9 =>
 letO (binF Tryd.prog .neq 32 t9 (.int .i64 0)) fun t10 =>
 condA t10 true (
 letO (some (t4 : AV)) fun t11 =>
 letO (some ((.int .i64 0) : AV)) fun t2 =>
 letO (some (t11 : AV)) fun t3 =>
endK (.tup [t2, t3]) H2 K) (
 letO (loadN 2 (.iptr c1) H2) fun t13 =>
 ACalls Tryd.prog 37 [t13] H2 fun t14 H3 =>
 letO (some (t14 : AV)) fun t12 =>
 letO (extrF t12 0) fun t15 =>
 letO (extrF t12 1) fun t16 =>
 letO (some (t15 : AV)) fun t5 =>
 letO (some (t16 : AV)) fun t6 =>
 letO (some (t6 : AV)) fun t17 =>
 letO (some (t17 : AV)) fun t2 =>
 letO (some ((.int .i64 0) : AV)) fun t3 =>
endK (.tup [t2, t3]) H3 K)

theorem W11_ok {x0 : AV} {H : Heap} {K : AV → Heap → Prop} (h : W11 x0 H K) : ACalls Tryd.prog 11 [x0] H K :=
  acallsB (fn := Tryd.f11) (cfg := cfgOf [] [] [] [] [] []) (hh := (.dir .nil (.dir (.dir .nil (.dir .nil (.dir .nil .nil))) (.dir .nil .nil)))) follows Tryd.func11 (by kernel_rfl) (Nat.le_of_ble_eq_true (by kernel_rfl)) (by kernel_rfl) h

/-- slices.Contains[[]int,int] -/
def W12 (x0 x1 : AV) (H : Heap) (K : AV → Heap → Prop) : Prop :=
 letO (some ((.bool false) : AV)) fun t4 =>
 letO (some (x0 : AV)) fun t5 =>
 letO (some (x1 : AV)) fun t6 =>
 ACalls Tryd.prog 38 [t5, t6] H fun t7 H1 =>
 letO (binF Tryd.prog .geq 3 t7 (.int .i64 0)) fun t8 =>
 letO (some (t8 : AV)) fun t4 =>
endK t4 H1 K

theorem W12_ok {x0 x1 : AV} {H : Heap} {K : AV → Heap → Prop} (h : W12 x0 x1 H K) : ACalls Tryd.prog 12 [x0, x1] H K :=
  acallsB (fn := Tryd.f12) (cfg := cfgOf [] [] [] [] [] []) (hh := (.dir .nil .nil)) follows Tryd.func12 (by kernel_rfl) (Nat.le_of_ble_eq_true (by kernel_rfl)) (by kernel_rfl) h

/-- headword.headwordtop.same -/
def W14 (x0 x1 : AV) (H : Heap) (K : AV → Heap → Prop) : Prop :=
 letO (some ((.bool false) : AV)) fun t4 =>
 letO (some (x0 : AV)) fun t6 =>
 letO (lenA t6) fun t7 =>
 letO (some (x1 : AV)) fun t8 =>
 letO (lenA t8) fun t9 =>
 letO (binF Tryd.prog .neq 3 t7 t9) fun t10 =>
 condA t10 true (
 letO (some ((.bool false) : AV)) fun t4 =>
endK t4 H K) (
 letO (some (x0 : AV)) fun t11 =>
 letO (lenA t11) fun t12 =>
 letO (some ((.int .i64 0) : AV)) fun t13 =>
 true = true ∧ ∃ (I1 : List AV → Heap → Prop) (μ2 : List AV → Heap → Nat), I1 [t13] H ∧ ∀ L3 H4, I1 L3 H4 → -- [t13]
 letO (binF Tryd.prog .lss 3 (L3.getD 0 .any) t12) fun t14 =>
 condA t14 true (
 letO (some ((L3.getD 0 .any) : AV)) fun t15 =>
 letO (some (t15 : AV)) fun t5 =>
 true = true ∧
 letO (some (x0 : AV)) fun t16 =>
 letO (some (t5 : AV)) fun t17 =>
 letO (idx 1 t16 t17) fun t18 =>
 letO (load1 t18 H4) fun t19 =>
 letO (some (x1 : AV)) fun t20 =>
 letO (some (t5 : AV)) fun t21 =>
 letO (idx 1 t20 t21) fun t22 =>
 letO (load1 t22 H4) fun t23 =>
 letO (binF Tryd.prog .neq 3 t19 t23) fun t24 =>
 condA t24 true (
 letO (some ((.bool false) : AV)) fun t4 =>
endK t4 H4 K) (
 letO (binF Tryd.prog .add 3 (L3.getD 0 .any) (.int .i64 1)) fun t25 =>
 letO (some (t25 : AV)) fun t13 =>
 I1 [t13] H4 ∧ μ2 [t13] H4 < μ2 L3 H4)) (
 letO (some ((.bool true) : AV)) fun t4 =>
endK t4 H4 K))

theorem W14_ok {x0 x1 : AV} {H : Heap} {K : AV → Heap → Prop} (h : W14 x0 x1 H K) : ACalls Tryd.prog 14 [x0, x1] H K :=
  acallsB (fn := Tryd.f14) (cfg := cfgOf [] [] [(6, [0, 0, 3, 7, 0, 0, 48, 112, 255])] [] [] []) (hh := (.dir .nil (.dir (.dir .nil (.dir .nil .nil)) (.dir (.dir .nil (.blk (.loop [13] [14, 15, 5, 16, 17, 18, 19, 20, 21, 22, 23, 24, 4, 25, 13] (.dir .nil (.dir .nil (.dir (.blk (.dir .nil (.dir .nil (.dir .nil .nil)))) .nil)))))) .nil)))) follows Tryd.func14 (by kernel_rfl) (Nat.le_of_ble_eq_true (by kernel_rfl)) (by kernel_rfl) h

/-- headword.headwordtop.factsWork -/
def W15 (H : Heap) (K : AV → Heap → Prop) : Prop :=
 letO (some ((.bool false) : AV)) fun t0 =>
 letO (buildF Tryd.prog 30 [(0, (.int .i64 0)), (1, (.int .i64 1))]) fun t4 =>
 letO (buildF Tryd.prog 30 [(0, (.int .i64 0)), (1, (.int .i64 2))]) fun t5 =>
 letO (buildF Tryd.prog 30 [(0, (.int .i64 1)), (1, (.int .i64 2))]) fun t6 =>
 letO (literalF Tryd.prog 24 3 [(0, t4), (1, t5), (2, t6)]) fun c1 =>
 letO (buildF Tryd.prog 27 [(0, (.int .i64 3)), (1, (.imm 3 true c1))]) fun t8 =>
 ACalls Tryd.prog 10 [t8] H fun t9 H2 =>
 letO (some (t9 : AV)) fun t3 =>
 letO (extrF t3 0) fun t10 =>
 letO (extrF t3 1) fun t11 =>
 letO (some (t10 : AV)) fun t1 =>
 letO (some (t11 : AV)) fun t2 =>
 letO (some (t2 : AV)) fun t12 =>
 letO (binF Tryd.prog .eql 32 t12 (.int .i64 0)) fun t13 =>
 letO (some (t13 : AV)) fun t14 =>
 letO (gval t14 true (some (t1 : AV))) fun t15 =>
 letO (gval t14 true ((literalF Tryd.prog 35 2 [(0, (.int .i64 0)), (1, (.int .i64 1))]).map (.imm 2 true))) fun t16 =>
 ∃ J3 : AV → Heap → Prop, condG t14 true (ACalls Tryd.prog 24 [t16] H2 fun t17 H4 =>
 J3 t17 H4) (J3 (.tup []) H2) ∧ ∀ t17 H5, J3 t17 H5 →
 ∃ J6 : AV → Heap → Prop, condG t14 true (ACalls Tryd.prog 14 [t15, t17] H5 fun t18 H7 =>
 J6 t18 H7) (J6 (.tup []) H5) ∧ ∀ t18 H8, J6 t18 H8 →
 letO (pickF t14 t18 (.bool false)) fun t19 =>
 letO (some (t19 : AV)) fun t20 =>
 ∃ J9 : AV → Heap → Prop, condG t20 true (ACalls Tryd.prog 40 [] H8 fun t21 H10 =>
 J9 t21 H10) (J9 (.tup []) H8) ∧ ∀ t21 H11, J9 t21 H11 →
 letO (pickF t20 t21 (.bool false)) fun t22 =>
 letO (some (t22 : AV)) fun t0 =>
endK t0 H11 K

theorem W15_ok {H : Heap} {K : AV → Heap → Prop} (h : W15 H K) : ACalls Tryd.prog 15 [] H K :=
  acallsB (fn := Tryd.f15) (cfg := cfgOf [] [] [] [] [] []) (hh := (.dir .nil (.dir .nil .nil))) follows Tryd.func15 (by kernel_rfl) (Nat.le_of_ble_eq_true (by kernel_rfl)) (by kernel_rfl) h

/-- headword.headwordtop.list -/
def W24 (x0 : AV) (H : Heap) (K : AV → Heap → Prop) : Prop :=
 letO (some (.nils : AV)) fun t2 =>
 letO (some (x0 : AV)) fun t3 =>
 letO (some (t3 : AV)) fun t2 =>
endK t2 H K

theorem W24_ok {x0 : AV} {H : Heap} {K : AV → Heap → Prop} (h : W24 x0 H K) : ACalls Tryd.prog 24 [x0] H K :=
  acallsB (fn := Tryd.f24) (cfg := cfgOf [] [] [] [] [] []) (hh := (.dir .nil .nil)) follows Tryd.func24 (by kernel_rfl) (Nat.le_of_ble_eq_true (by kernel_rfl)) (by kernel_rfl) h

/-- slices.Contains[[][2]int,[2]int] -/
def W30 (x0 x1 : AV) (H : Heap) (K : AV → Heap → Prop) : Prop :=
 letO (cellsOf? x1) fun c1 =>
 letO (some ((.bool false) : AV)) fun t4 =>
 letO (some (x0 : AV)) fun t5 =>
 letO (loadN 2 (.iptr c1) H) fun t6 =>
 ACalls Tryd.prog 58 [t5, t6] H fun t7 H2 =>
 letO (binF Tryd.prog .geq 3 t7 (.int .i64 0)) fun t8 =>
 letO (some (t8 : AV)) fun t4 =>
endK t4 H2 K

theorem W30_ok {x0 x1 : AV} {H : Heap} {K : AV → Heap → Prop} (h : W30 x0 x1 H K) : ACalls Tryd.prog 30 [x0, x1] H K :=
  acallsB (fn := Tryd.f30) (cfg := cfgOf [] [] [] [] [] []) (hh := (.dir .nil .nil)) follows Tryd.func30 (by kernel_rfl) (Nat.le_of_ble_eq_true (by kernel_rfl)) (by kernel_rfl) h

/-- headword.see.woven -/
def W31 (x0 : AV) (H : Heap) (K : AV → Heap → Prop) : Prop :=
 letO (cellsOf? x0) fun c1 =>
 allocA [(.int .i64 0), (.int .u64 0), (.int .u64 0), (.int .u64 0), (.int .u64 0), (.int .u64 0), (.int .u64 0), (.int .u64 0)] (fun t2 H2 =>
 letO (some ((.int .i64 0) : AV)) fun t3 =>
 letO (faddr 0 (.iptr c1)) fun t8 =>
 letO (load1 t8 H2) fun t9 =>
 letO (buildF Tryd.prog 79 [(0, t9)]) fun t10 =>
 allocA [(.int .i64 0), (.int .u64 0), (.int .u64 0), (.int .u64 0), (.int .u64 0), (.int .u64 0), (.int .u64 0), (.int .u64 0)] (fun t4 H3 =>
 storeA 8 t4 t10 (fun H4 =>
 letO (loadN 2 (.iptr c1) H4) fun t11 =>
 ACalls Tryd.prog 59 [t11] H4 fun t12 H5 =>
 letO (some (t12 : AV)) fun t5 =>
 letO (some (t5 : AV)) fun t13 =>
 letO (binF Tryd.prog .neq 32 t13 (.int .i64 0)) fun t14 =>
 condA t14 true (
 letO (loadN 8 t4 H5) fun t15 =>
 letO (some (t5 : AV)) fun t16 =>
 storeA 8 t2 t15 (fun H6 =>
 letO (some (t16 : AV)) fun t3 =>
 letO (loadN 8 t2 H6) fun r7 => endK (.tup [r7, t3]) H6 K) H5) (
 letO (faddr 1 (.iptr c1)) fun t17 =>
 letO (load1 t17 H5) fun t18 =>
 letO (lenA t18) fun t19 =>
 letO (some ((.int .i64 0) : AV)) fun t20 =>
 true = true ∧ ∃ (I8 : List AV → Heap → Prop) (μ9 : List AV → Heap → Nat), I8 [t20] H5 ∧ ∀ L10 H11, I8 L10 H11 → -- [t20]
 letO (binF Tryd.prog .lss 3 (L10.getD 0 .any) t19) fun t21 =>
 condA t21 true (
 letO (idx 2 t18 (L10.getD 0 .any)) fun t22 =>
 letO (loadN 2 t22 H11) fun t23 =>
 allocA [(.int .i64 0), (.int .i64 0)] (fun t7 H12 =>
 storeA 2 t7 t23 (fun H13 =>
 true = true ∧
 letO (idxArr 2 1 t7 (.int .i64 0)) fun t24 =>
 letO (load1 t24 H13) fun t25 =>
 letO (faddr 1 t4) fun t26 =>
 letO (idxArr 7 1 t26 t25) fun t27 =>
 letO (load1 t27 H13) fun t28 =>
 letO (idxArr 2 1 t7 (.int .i64 1)) fun t29 =>
 letO (load1 t29 H13) fun t30 =>
 letO (binF Tryd.prog .shl 76 (.int .u64 1) t30) fun t31 =>
 letO (binF Tryd.prog .or 76 t28 t31) fun t32 =>
 letO (faddr 1 t4) fun t33 =>
 letO (idxArr 7 1 t33 t25) fun t34 =>
 storeA 1 t34 t32 (fun H14 =>
 letO (binF Tryd.prog .add 3 (L10.getD 0 .any) (.int .i64 1)) fun t35 =>
 letO (some (t35 : AV)) fun t20 =>
 I8 [t20] H14 ∧ μ9 [t20] H14 < μ9 L10 H11) H13) H12) H11) (
 letO (loadN 8 t4 H11) fun t36 =>
 storeA 8 t2 t36 (fun H15 =>
 letO (some ((.int .i64 0) : AV)) fun t3 =>
 letO (loadN 8 t2 H15) fun r16 => endK (.tup [r16, t3]) H15 K) H11))) H3) H2) H

theorem W31_ok {x0 : AV} {H : Heap} {K : AV → Heap → Prop} (h : W31 x0 H K) : ACalls Tryd.prog 31 [x0] H K :=
  acallsB (fn := Tryd.f31) (cfg := cfgOf [] [] [(8, [0, 1, 0, 7, 15, 0, 32, 96, 255, 0, 1023, 2047])] [] [] []) (hh := (.dir .nil (.dir .nil (.dir (.dir .nil (.dir .nil (.dir .nil .nil))) (.dir (.dir .nil (.blk (.loop [20] [21, 22, 23, 7, 24, 25, 26, 27, 28, 29, 30, 31, 32, 33, 34, 35, 20] (.dir .nil (.dir .nil (.dir .nil .nil)))))) .nil))))) follows Tryd.func31 (by kernel_rfl) (Nat.le_of_ble_eq_true (by kernel_rfl)) (by kernel_rfl) h

/-- (headword.see.web).judged -/
def W32 (x0 x1 : AV) (H : Heap) (K : AV → Heap → Prop) : Prop :=
 letO (cellsOf? x0) fun c1 =>
 letO (some ((.int .i64 0) : AV)) fun t4 =>
 letO (some ((.bool false) : AV)) fun t5 =>
 letO (faddr 1 (.iptr c1)) fun t9 =>
 letO (faddr 0 (.iptr c1)) fun t10 =>
 letO (load1 t10 H) fun t11 =>
 letO (slcArr 7 1 t9 none (some t11) none) fun t12 =>
 letO (lenA t12) fun t13 =>
 letO (some ((.int .i64 0) : AV)) fun t14 =>
 true = true ∧ ∃ (I2 : List AV → Heap → Prop) (μ3 : List AV → Heap → Nat), I2 [t5, t14] H ∧ ∀ L4 H5, I2 L4 H5 → -- [t5, t14]
 letO (binF Tryd.prog .lss 3 (L4.getD 1 .any) t13) fun t15 =>
 condA t15 true (
 true = true ∧ ∃ J6 : List AV → Heap → Prop, (
 letO (some ((L4.getD 1 .any) : AV)) fun t16 =>
 letO (idx 1 t12 (L4.getD 1 .any)) fun t17 =>
 letO (load1 t17 H5) fun t18 =>
 letO (some (t16 : AV)) fun t6 =>
 letO (some (t18 : AV)) fun t7 =>
 letO (some (x1 : AV)) fun t19 =>
 letO (some (t6 : AV)) fun t20 =>
 letO (binF Tryd.prog .shr 76 t19 t20) fun t21 =>
 letO (binF Tryd.prog .and 76 t21 (.int .u64 1)) fun t22 =>
 letO (binF Tryd.prog .eql 76 t22 (.int .u64 1)) fun t23 =>
 letO (some (t23 : AV)) fun t8 =>
 letO (some (t8 : AV)) fun t25 =>
 letO (some (t25 : AV)) fun t26 =>
 letO (gval t26 true (some (t7 : AV))) fun t27 =>
 letO (gval t26 true (some (x1 : AV))) fun t28 =>
 letO (gval t26 true (binF Tryd.prog .and 76 t27 t28)) fun t29 =>
 letO (gval t26 true (binF Tryd.prog .neq 76 t29 (.int .u64 0))) fun t30 =>
 letO (pickF t26 t30 (.bool false)) fun t31 =>
 letO (some (t31 : AV)) fun t24 =>
 condA t24 true (
 letO (some ((.int .i64 13) : AV)) fun t4 =>
endK t4 H5 K) (
 letO (some (t8 : AV)) fun t33 =>
 letO (unF .not t33) fun t34 =>
 letO (some (t34 : AV)) fun t35 =>
 letO (gval t35 true (some (t7 : AV))) fun t36 =>
 letO (gval t35 true (some (x1 : AV))) fun t37 =>
 letO (gval t35 true (binF Tryd.prog .and 76 t36 t37)) fun t38 =>
 letO (gval t35 true (binF Tryd.prog .eql 76 t38 (.int .u64 0))) fun t39 =>
 letO (pickF t35 t39 (.bool false)) fun t40 =>
 letO (some (t40 : AV)) fun t32 =>
 condA t32 true (
 letO (some ((.bool true) : AV)) fun t5 =>
 J6 [t5] H5) (
 J6 [(L4.getD 0 .any)] H5))) ∧ ∀ L7 H8, J6 L7 H8 → -- [t5]
 letO (binF Tryd.prog .add 3 (L4.getD 1 .any) (.int .i64 1)) fun t41 =>
 letO (some (t41 : AV)) fun t14 =>
 I2 [(L7.getD 0 .any), t14] H8 ∧ μ3 [(L7.getD 0 .any), t14] H8 < μ3 L4 H5) (
 letO (some ((L4.getD 0 .any) : AV)) fun t42 =>
 condA t42 true (
 letO (some ((.int .i64 21) : AV)) fun t4 =>
endK t4 H5 K) (
 letO (some ((.int .i64 0) : AV)) fun t4 =>
endK t4 H5 K))

theorem W32_ok {x0 x1 : AV} {H : Heap} {K : AV → Heap → Prop} (h : W32 x0 x1 H K) : ACalls Tryd.prog 32 [x0, x1] H K :=
  acallsB (fn := Tryd.f32) (cfg := cfgOf [] [] [] [] [] []) (hh := (.dir .nil (.dir .nil (.dir (.dir .nil (.blk (.loop [5, 14] [15, 16, 17, 18, 6, 7, 19, 20, 21, 22, 23, 8, 25, 26, 27, 28, 29, 30, 31, 24, 4, 33, 34, 35, 36, 37, 38, 39, 40, 32, 5, 41, 14] (.dir .nil (.dir .nil (.cut [5] [16, 17, 18, 6, 7, 19, 20, 21, 22, 23, 8, 25, 26, 27, 28, 29, 30, 31, 24, 4, 33, 34, 35, 36, 37, 38, 39, 40, 32, 5] (.blk (.dir .nil (.dir .nil (.blk (.dir .nil (.dir .nil (.dir .nil .nil))))))) .nil)))))) (.dir (.dir .nil (.dir .nil .nil)) .nil))))) follows Tryd.func32 (by kernel_rfl) (Nat.le_of_ble_eq_true (by kernel_rfl)) (by kernel_rfl) h

/-- headword.see.list -/
def W33 (x0 : AV) (H : Heap) (K : AV → Heap → Prop) : Prop :=
 letO (some (.nils : AV)) fun t2 =>
 letO (some (.nils : AV)) fun t3 =>
 true = true ∧ ∃ (I1 : List AV → Heap → Prop) (μ2 : List AV → Heap → Nat), I1 [t3, x0] H ∧ ∀ L3 H4, I1 L3 H4 → -- [t3, t0]
 letO (some ((L3.getD 1 .any) : AV)) fun t4 =>
 letO (binF Tryd.prog .neq 76 t4 (.int .u64 0)) fun t5 =>
 condA t5 true (
 letO (some ((L3.getD 0 .any) : AV)) fun t10 =>
 letO (some ((L3.getD 1 .any) : AV)) fun t11 =>
 ACalls Tryd.prog 48 [t11] H4 fun t12 H5 =>
 letO (literalF Tryd.prog 35 1 [(0, t12)]) fun c6 =>
 appendA 1 8 t10 (.imm 1 true c6) (fun t14 H7 =>
 letO (some (t14 : AV)) fun t3 =>
 letO (some ((L3.getD 1 .any) : AV)) fun t6 =>
 letO (some ((L3.getD 1 .any) : AV)) fun t7 =>
 letO (binF Tryd.prog .sub 76 t7 (.int .u64 1)) fun t8 =>
 letO (binF Tryd.prog .and 76 t6 t8) fun t9 =>
 letO (some (t9 : AV)) fun t0 =>
 I1 [t3, t0] H7 ∧ μ2 [t3, t0] H7 < μ2 L3 H4) H5) (
 letO (some ((L3.getD 0 .any) : AV)) fun t15 =>
 letO (some (t15 : AV)) fun t2 =>
endK t2 H4 K)

theorem W33_ok {x0 : AV} {H : Heap} {K : AV → Heap → Prop} (h : W33 x0 H K) : ACalls Tryd.prog 33 [x0] H K :=
  acallsB (fn := Tryd.f33) (cfg := cfgOf [] [] [] [] [] []) (hh := (.dir .nil (.dir .nil (.dir (.blk (.loop [3, 0] [4, 5, 10, 11, 12, 13, 14, 3, 6, 7, 8, 9, 0] (.dir (.dir .nil .nil) (.dir .nil .nil)))) .nil)))) follows Tryd.func33 (by kernel_rfl) (Nat.le_of_ble_eq_true (by kernel_rfl)) (by kernel_rfl) h

/-- slices.SortFunc[[][]int,[]int] -/
def W34 (x0 x1 : AV) (H : Heap) (K : AV → Heap → Prop) : Prop :=
 letO (some (x0 : AV)) fun t5 =>
 letO (lenA t5) fun t6 =>
 letO (some (t6 : AV)) fun t4 =>
 letO (some (x0 : AV)) fun t7 =>
 letO (some (t4 : AV)) fun t8 =>
 letO (some (t4 : AV)) fun t9 =>
 letO (convF Tryd.prog 3 76 t9) fun t10 =>
 ACalls Tryd.prog 61 [t10] H fun t11 H1 =>
 letO (some (x1 : AV)) fun t12 =>
 ACalls Tryd.prog 60 [t7, (.int .i64 0), t8, t11, t12] H1 fun t13 H2 =>
endK (.tup []) H2 K

theorem W34_ok {x0 x1 : AV} {H : Heap} {K : AV → Heap → Prop} (h : W34 x0 x1 H K) : ACalls Tryd.prog 34 [x0, x1] H K :=
  acallsB (fn := Tryd.f34) (cfg := cfgOf [] [] [] [] [] []) (hh := .nil) follows Tryd.func34 (by kernel_rfl) (Nat.le_of_ble_eq_true (by kernel_rfl)) (by kernel_rfl) h

/-- slices.Compare[[]int,int] -/
def W35 (x0 x1 : AV) (H : Heap) (K : AV → Heap → Prop) : Prop :=
 letO (some ((.int .i64 0) : AV)) fun t4 =>
 letO (some (x0 : AV)) fun t9 =>
 letO (lenA t9) fun t10 =>
 letO (some ((.int .i64 0) : AV)) fun t11 =>
 true = true ∧ ∃ (I1 : List AV → Heap → Prop) (μ2 : List AV → Heap → Nat), I1 [t11] H ∧ ∀ L3 H4, I1 L3 H4 → -- [t11]
 letO (binF Tryd.prog .lss 3 (L3.getD 0 .any) t10) fun t12 =>
 condA t12 true (
 letO (some ((L3.getD 0 .any) : AV)) fun t13 =>
 letO (idx 1 t9 (L3.getD 0 .any)) fun t14 =>
 letO (load1 t14 H4) fun t15 =>
 letO (some (t13 : AV)) fun t5 =>
 letO (some (t15 : AV)) fun t6 =>
 letO (some (t5 : AV)) fun t16 =>
 letO (some (x1 : AV)) fun t17 =>
 letO (lenA t17) fun t18 =>
 letO (binF Tryd.prog .geq 3 t16 t18) fun t19 =>
 condA t19 true (
 letO (some ((.int .i64 1) : AV)) fun t4 =>
endK t4 H4 K) (
 letO (some (x1 : AV)) fun t20 =>
 letO (some (t5 : AV)) fun t21 =>
 letO (idx 1 t20 t21) fun t22 =>
 letO (load1 t22 H4) fun t23 =>
 letO (some (t23 : AV)) fun t7 =>
 letO (some (t6 : AV)) fun t24 =>
 letO (some (t7 : AV)) fun t25 =>
 ACalls Tryd.prog 62 [t24, t25] H4 fun t26 H5 =>
 letO (some (t26 : AV)) fun t8 =>
 letO (some (t8 : AV)) fun t27 =>
 letO (binF Tryd.prog .neq 3 t27 (.int .i64 0)) fun t28 =>
 condA t28 true (
 letO (some (t8 : AV)) fun t29 =>
 letO (some (t29 : AV)) fun t4 =>
endK t4 H5 K) (
 letO (binF Tryd.prog .add 3 (L3.getD 0 .any) (.int .i64 1)) fun t30 =>
 letO (some (t30 : AV)) fun t11 =>
 I1 [t11] H5 ∧ μ2 [t11] H5 < μ2 L3 H4))) (
 letO (some (x0 : AV)) fun t31 =>
 letO (lenA t31) fun t32 =>
 letO (some (x1 : AV)) fun t33 =>
 letO (lenA t33) fun t34 =>
 letO (binF Tryd.prog .lss 3 t32 t34) fun t35 =>
 condA t35 true (
 letO (some ((.int .i64 (-1)) : AV)) fun t4 =>
endK t4 H4 K) (
 letO (some ((.int .i64 0) : AV)) fun t4 =>
endK t4 H4 K))

theorem W35_ok {x0 x1 : AV} {H : Heap} {K : AV → Heap → Prop} (h : W35 x0 x1 H K) : ACalls Tryd.prog 35 [x0, x1] H K :=
  acallsB (fn := Tryd.f35) (cfg := cfgOf [] [] [] [] [] []) (hh := (.dir .nil (.dir (.dir .nil (.blk (.loop [11] [12, 13, 14, 15, 5, 6, 16, 17, 18, 19, 4, 20, 21, 22, 23, 7, 24, 25, 26, 8, 27, 28, 29, 30, 11] (.dir .nil (.dir .nil (.dir (.blk (.dir .nil (.dir (.dir .nil (.dir .nil .nil)) (.dir .nil (.dir .nil (.dir .nil (.dir .nil .nil))))))) .nil)))))) (.dir (.dir .nil (.dir .nil .nil)) .nil)))) follows Tryd.func35 (by kernel_rfl) (Nat.le_of_ble_eq_true (by kernel_rfl)) (by kernel_rfl) h

/-- headword.fact.Check -/
def W36 (x0 : AV) (H : Heap) (K : AV → Heap → Prop) : Prop :=
 letO (cellsOf? x0) fun c1 =>
 letO (some ((.int .i64 0) : AV)) fun t2 =>
 letO (faddr 0 (.iptr c1)) fun t6 =>
 letO (load1 t6 H) fun t7 =>
 letO (binF Tryd.prog .lss 3 t7 (.int .i64 1)) fun t8 =>
 letO (some (t8 : AV)) fun t9 =>
 letO (gval t9 false (faddr 0 (.iptr c1))) fun t10 =>
 letO (gval t9 false (load1 t10 H)) fun t11 =>
 letO (gval t9 false (binF Tryd.prog .gtr 3 t11 (.int .i64 7))) fun t12 =>
 letO (pickF t9 (.bool true) t12) fun t13 =>
 letO (some (t13 : AV)) fun t5 =>
 condA t5 true (
 letO (some ((.int .i64 1) : AV)) fun t2 =>
endK t2 H K) (
 letO (faddr 1 (.iptr c1)) fun t15 =>
 letO (load1 t15 H) fun t16 =>
 letO (lenA t16) fun t17 =>
 letO (binF Tryd.prog .gtr 3 t17 (.int .i64 10)) fun t18 =>
 letO (some (t18 : AV)) fun t14 =>
 condA t14 true (
 letO (some ((.int .i64 3) : AV)) fun t2 =>
endK t2 H K) (
 letO (faddr 1 (.iptr c1)) fun t19 =>
 letO (load1 t19 H) fun t20 =>
 letO (lenA t20) fun t21 =>
 letO (some ((.int .i64 0) : AV)) fun t22 =>
 true = true ∧ ∃ (I2 : List AV → Heap → Prop) (μ3 : List AV → Heap → Nat), I2 [t22] H ∧ ∀ L4 H5, I2 L4 H5 → -- [t22]
 letO (binF Tryd.prog .lss 3 (L4.getD 0 .any) t21) fun t23 =>
 condA t23 true (
 letO (some ((L4.getD 0 .any) : AV)) fun t24 =>
 letO (idx 2 t20 (L4.getD 0 .any)) fun t25 =>
 letO (loadN 2 t25 H5) fun t26 =>
 allocA [(.int .i64 0), (.int .i64 0)] (fun t4 H6 =>
 letO (some (t24 : AV)) fun t3 =>
 storeA 2 t4 t26 (fun H7 =>
 letO (idxArr 2 1 t4 (.int .i64 0)) fun t28 =>
 letO (load1 t28 H7) fun t29 =>
 letO (idxArr 2 1 t4 (.int .i64 1)) fun t30 =>
 letO (load1 t30 H7) fun t31 =>
 letO (min2F t29 t31) fun t32 =>
 letO (binF Tryd.prog .lss 3 t32 (.int .i64 0)) fun t33 =>
 letO (some (t33 : AV)) fun t34 =>
 letO (gval t34 false (idxArr 2 1 t4 (.int .i64 0))) fun t35 =>
 letO (gval t34 false (load1 t35 H7)) fun t36 =>
 letO (gval t34 false (idxArr 2 1 t4 (.int .i64 1))) fun t37 =>
 letO (gval t34 false (load1 t37 H7)) fun t38 =>
 letO (gval t34 false (max2F t36 t38)) fun t39 =>
 letO (gval t34 false (faddr 0 (.iptr c1))) fun t40 =>
 letO (gval t34 false (load1 t40 H7)) fun t41 =>
 letO (gval t34 false (binF Tryd.prog .geq 3 t39 t41)) fun t42 =>
 letO (pickF t34 (.bool true) t42) fun t43 =>
 letO (some (t43 : AV)) fun t27 =>
 condA t27 true (
 letO (some ((.int .i64 2) : AV)) fun t2 =>
endK t2 H7 K) (
 letO (idxArr 2 1 t4 (.int .i64 0)) fun t45 =>
 letO (load1 t45 H7) fun t46 =>
 letO (idxArr 2 1 t4 (.int .i64 1)) fun t47 =>
 letO (load1 t47 H7) fun t48 =>
 letO (binF Tryd.prog .geq 3 t46 t48) fun t49 =>
 letO (some (t49 : AV)) fun t44 =>
 condA t44 true (
 letO (some ((.int .i64 7) : AV)) fun t2 =>
endK t2 H7 K) (
 true = true ∧
 letO (faddr 1 (.iptr c1)) fun t51 =>
 letO (load1 t51 Heap.none) fun t52 =>
 letO (some (t3 : AV)) fun t53 =>
 letO (slc 2 t52 none (some t53) none) fun t54 =>
 letO (loadN 2 t4 H7) fun t55 =>
 ACalls Tryd.prog 30 [t54, t55] H7 fun t56 H8 =>
 letO (some (t56 : AV)) fun t50 =>
 condA t50 true (
 letO (some ((.int .i64 6) : AV)) fun t2 =>
endK t2 H8 K) (
 letO (binF Tryd.prog .add 3 (L4.getD 0 .any) (.int .i64 1)) fun t57 =>
 letO (some (t57 : AV)) fun t22 =>
 I2 [t22] H8 ∧ μ3 [t22] H8 < μ3 L4 H5)))) H6) H5) (
 letO (some ((.int .i64 0) : AV)) fun t2 =>
endK t2 H5 K)))

theorem W36_ok {x0 : AV} {H : Heap} {K : AV → Heap → Prop} (h : W36 x0 H K) : ACalls Tryd.prog 36 [x0] H K :=
  acallsB (fn := Tryd.f36) (cfg := cfgOf [] [52] [(12, [0, 1, 0, 7, 0, 31, 63])] [] [] []) (hh := (.dir .nil (.dir (.blk (.dir .nil (.dir .nil (.dir .nil (.dir .nil .nil))))) (.dir (.dir .nil (.blk (.loop [22] [23, 24, 25, 26, 4, 3, 28, 29, 30, 31, 32, 33, 34, 35, 36, 37, 38, 39, 40, 41, 42, 43, 27, 2, 45, 46, 47, 48, 49, 44, 51, 52, 53, 54, 55, 56, 50, 57, 22] (.dir .nil (.dir .nil (.dir (.blk (.dir .nil (.blk (.dir .nil (.dir .nil (.dir .nil (.dir .nil (.dir .nil (.dir .nil .nil))))))))) .nil)))))) .nil)))) follows Tryd.func36 (by kernel_rfl) (Nat.le_of_ble_eq_true (by kernel_rfl)) (by kernel_rfl) h

/-- (headword.fact.Book).shortest -/
def W37 (x0 : AV) (H : Heap) (K : AV → Heap → Prop) : Prop :=
 letO (cellsOf? x0) fun c1 =>
 letO (some (.nils : AV)) fun t2 =>
 letO (some ((.int .i64 0) : AV)) fun t3 =>
 letO (some (.nils : AV)) fun t4 =>
 letO (some ((.int .i64 0) : AV)) fun t5 =>
 letO (faddr 0 (.iptr c1)) fun t8 =>
 letO (load1 t8 H) fun t9 =>
 letO (binF Tryd.prog .shl 76 (.int .u64 1) t9) fun t10 =>
 letO (some ((.int .u64 0) : AV)) fun t11 =>
 true = true ∧ ∃ (I2 : List AV → Heap → Prop) (μ3 : List AV → Heap → Nat), I2 [t4, t5, t11] H ∧ ∀ L4 H5, I2 L4 H5 → -- [t4, t5, t11]
 letO (binF Tryd.prog .lss 76 (L4.getD 2 .any) t10) fun t12 =>
 condA t12 true (
 true = true ∧ ∃ J6 : List AV → Heap → Prop, (
 letO (some ((L4.getD 2 .any) : AV)) fun t13 =>
 letO (some (t13 : AV)) fun t6 =>
 letO (some (t6 : AV)) fun t14 =>
 ACalls Tryd.prog 63 [t14] H5 fun t15 H7 =>
 letO (some (t15 : AV)) fun t7 =>
 letO (loadN 2 (.iptr c1) H7) fun t16 =>
 letO (some (t6 : AV)) fun t17 =>
 ACalls Tryd.prog 39 [t16, t17] H7 fun t18 H8 =>
 letO (unF .not t18) fun t19 =>
 letO (some (t19 : AV)) fun t20 =>
 letO (gval t20 false (some ((L4.getD 1 .any) : AV))) fun t21 =>
 letO (gval t20 false (binF Tryd.prog .gtr 3 t21 (.int .i64 0))) fun t22 =>
 letO (gval t20 false (some (t22 : AV))) fun t23 =>
 letO (gval t23 true (some (t7 : AV))) fun t24 =>
 letO (gval t23 true (lenA t24)) fun t25 =>
 letO (gval t23 true (some ((L4.getD 0 .any) : AV))) fun t26 =>
 letO (gval t23 true (lenA t26)) fun t27 =>
 letO (gval t23 true (binF Tryd.prog .gtr 3 t25 t27)) fun t28 =>
 letO (gval t20 false (pickF t23 t28 (.bool false))) fun t29 =>
 letO (pickF t20 (.bool true) t29) fun t30 =>
 condA t30 true (
 J6 [(L4.getD 0 .any), (L4.getD 1 .any)] H8) (
 letO (some ((L4.getD 1 .any) : AV)) fun t31 =>
 letO (binF Tryd.prog .eql 3 t31 (.int .i64 0)) fun t32 =>
 letO (some (t32 : AV)) fun t33 =>
 letO (gval t33 false (some (t7 : AV))) fun t34 =>
 letO (gval t33 false (lenA t34)) fun t35 =>
 letO (gval t33 false (some ((L4.getD 0 .any) : AV))) fun t36 =>
 letO (gval t33 false (lenA t36)) fun t37 =>
 letO (gval t33 false (binF Tryd.prog .lss 3 t35 t37)) fun t38 =>
 letO (pickF t33 (.bool true) t38) fun t39 =>
 condA t39 true (
 letO (some (t7 : AV)) fun t40 =>
 letO (some (t40 : AV)) fun t4 =>
 letO (some ((.int .i64 1) : AV)) fun t5 =>
 J6 [t4, t5] H8) (
 letO (some ((L4.getD 1 .any) : AV)) fun t41 =>
 letO (binF Tryd.prog .add 3 t41 (.int .i64 1)) fun t42 =>
 letO (some (t42 : AV)) fun t5 =>
 letO (some (t7 : AV)) fun t43 =>
 letO (some ((L4.getD 0 .any) : AV)) fun t44 =>
 ACalls Tryd.prog 35 [t43, t44] H8 fun t45 H9 =>
 letO (binF Tryd.prog .lss 3 t45 (.int .i64 0)) fun t46 =>
 condA t46 true (
 letO (some (t7 : AV)) fun t47 =>
 letO (some (t47 : AV)) fun t4 =>
 J6 [t4, t5] H9) (
 J6 [(L4.getD 0 .any), t5] H9)))) ∧ ∀ L10 H11, J6 L10 H11 → -- [t4, t5]
 letO (binF Tryd.prog .add 76 (L4.getD 2 .any) (.int .u64 1)) fun t48 =>
 letO (some (t48 : AV)) fun t11 =>
 I2 [(L10.getD 0 .any), (L10.getD 1 .any), t11] H11 ∧ μ3 [(L10.getD 0 .any), (L10.getD 1 .any), t11] H11 < μ3 L4 H5) (
 letO (some ((L4.getD 0 .any) : AV)) fun t49 =>
 letO (some ((L4.getD 1 .any) : AV)) fun t50 =>
 letO (some (t49 : AV)) fun t2 =>
 letO (some (t50 : AV)) fun t3 =>
endK (.tup [t2, t3]) H5 K)

theorem W37_ok {x0 : AV} {H : Heap} {K : AV → Heap → Prop} (h : W37 x0 H K) : ACalls Tryd.prog 37 [x0] H K :=
  acallsB (fn := Tryd.f37) (cfg := cfgOf [] [] [] [] [] []) (hh := (.dir .nil (.dir .nil (.dir .nil (.dir (.dir .nil (.blk (.loop [4, 5, 11] [12, 13, 6, 14, 15, 7, 16, 17, 18, 19, 20, 21, 22, 23, 24, 25, 26, 27, 28, 29, 30, 31, 32, 33, 34, 35, 36, 37, 38, 39, 40, 4, 5, 41, 42, 43, 44, 45, 46, 47, 48, 11] (.dir .nil (.dir .nil (.cut [4, 5] [13, 6, 14, 15, 7, 16, 17, 18, 19, 20, 21, 22, 23, 24, 25, 26, 27, 28, 29, 30, 31, 32, 33, 34, 35, 36, 37, 38, 39, 40, 4, 5, 41, 42, 43, 44, 45, 46, 47] (.blk (.dir .nil (.dir .nil (.dir (.dir .nil .nil) (.dir (.dir .nil (.dir .nil .nil)) (.dir .nil (.dir .nil .nil))))))) .nil)))))) .nil))))) follows Tryd.func37 (by kernel_rfl) (Nat.le_of_ble_eq_true (by kernel_rfl)) (by kernel_rfl) h

/-- slices.Index[[]int,int] -/
def W38 (x0 x1 : AV) (H : Heap) (K : AV → Heap → Prop) : Prop :=
 letO (some ((.int .i64 0) : AV)) fun t4 =>
 letO (some (x0 : AV)) fun t6 =>
 letO (lenA t6) fun t7 =>
 letO (some ((.int .i64 0) : AV)) fun t8 =>
 true = true ∧ ∃ (I1 : List AV → Heap → Prop) (μ2 : List AV → Heap → Nat), I1 [t8] H ∧ ∀ L3 H4, I1 L3 H4 → -- [t8]
 letO (binF Tryd.prog .lss 3 (L3.getD 0 .any) t7) fun t9 =>
 condA t9 true (
 letO (some ((L3.getD 0 .any) : AV)) fun t10 =>
 letO (some (t10 : AV)) fun t5 =>
 letO (some (x1 : AV)) fun t11 =>
 letO (some (x0 : AV)) fun t12 =>
 letO (some (t5 : AV)) fun t13 =>
 letO (idx 1 t12 t13) fun t14 =>
 letO (load1 t14 H4) fun t15 =>
 letO (binF Tryd.prog .eql 3 t11 t15) fun t16 =>
 condA t16 true (
 letO (some (t5 : AV)) fun t17 =>
 letO (some (t17 : AV)) fun t4 =>
endK t4 H4 K) (
 letO (binF Tryd.prog .add 3 (L3.getD 0 .any) (.int .i64 1)) fun t18 =>
 letO (some (t18 : AV)) fun t8 =>
 I1 [t8] H4 ∧ μ2 [t8] H4 < μ2 L3 H4)) (
 letO (some ((.int .i64 (-1)) : AV)) fun t4 =>
endK t4 H4 K)

theorem W38_ok {x0 x1 : AV} {H : Heap} {K : AV → Heap → Prop} (h : W38 x0 x1 H K) : ACalls Tryd.prog 38 [x0, x1] H K :=
  acallsB (fn := Tryd.f38) (cfg := cfgOf [] [] [] [] [] []) (hh := (.dir .nil (.dir (.dir .nil (.blk (.loop [8] [9, 10, 5, 11, 12, 13, 14, 15, 16, 17, 4, 18, 8] (.dir .nil (.dir .nil (.dir (.blk (.dir .nil (.dir .nil (.dir .nil .nil)))) .nil)))))) .nil))) follows Tryd.func38 (by kernel_rfl) (Nat.le_of_ble_eq_true (by kernel_rfl)) (by kernel_rfl) h

/-- (headword.fact.Book).explained -/
def W39 (x0 x1 : AV) (H : Heap) (K : AV → Heap → Prop) : Prop :=
 letO (cellsOf? x0) fun c1 =>
 letO (cellsOf? x1) fun c2 =>
 letO (some ((.bool false) : AV)) fun t4 =>
 letO (faddr 1 (.iptr c1)) fun t5 =>
 letO (load1 t5 H) fun t6 =>
 letO (some (AV.fn 65 [(.iptr c2)])) fun t7 =>
 ACalls Tryd.prog 64 [t6, t7] H fun t8 H3 =>
 letO (unF .not t8) fun t9 =>
 letO (some (t9 : AV)) fun t4 =>
endK t4 H3 K

theorem W39_ok {x0 x1 : AV} {H : Heap} {K : AV → Heap → Prop} (h : W39 x0 x1 H K) : ACalls Tryd.prog 39 [x0, x1] H K :=
  acallsB (fn := Tryd.f39) (cfg := cfgOf [] [] [] [] [] []) (hh := (.dir .nil .nil)) follows Tryd.func39 (by kernel_rfl) (Nat.le_of_ble_eq_true (by kernel_rfl)) (by kernel_rfl) h

/-- headword.headwordtop.seesWork -/
def W40 (H : Heap) (K : AV → Heap → Prop) : Prop :=
 letO (some ((.bool false) : AV)) fun t0 =>
 letO (buildF Tryd.prog 30 [(0, (.int .i64 0)), (1, (.int .i64 1))]) fun t4 =>
 letO (buildF Tryd.prog 30 [(0, (.int .i64 1)), (1, (.int .i64 2))]) fun t5 =>
 letO (literalF Tryd.prog 24 2 [(0, t4), (1, t5)]) fun c1 =>
 letO (buildF Tryd.prog 29 [(0, (.int .i64 3)), (1, (.imm 2 true c1))]) fun t7 =>
 ACalls Tryd.prog 66 [t7] H fun t8 H2 =>
 letO (some (t8 : AV)) fun t3 =>
 letO (extrF t3 0) fun t9 =>
 letO (extrF t3 1) fun t10 =>
 letO (some (t9 : AV)) fun t1 =>
 letO (some (t10 : AV)) fun t2 =>
 letO (some (t2 : AV)) fun t11 =>
 letO (binF Tryd.prog .eql 32 t11 (.int .i64 0)) fun t12 =>
 letO (some (t12 : AV)) fun t13 =>
 letO (gval t13 true (some (t1 : AV))) fun t14 =>
 letO (gval t13 true ((literalF Tryd.prog 35 2 [(0, (.int .i64 0)), (1, (.int .i64 2))]).map (.imm 2 true))) fun t15 =>
 ∃ J3 : AV → Heap → Prop, condG t13 true (ACalls Tryd.prog 24 [t15] H2 fun t16 H4 =>
 J3 t16 H4) (J3 (.tup []) H2) ∧ ∀ t16 H5, J3 t16 H5 →
 ∃ J6 : AV → Heap → Prop, condG t13 true (ACalls Tryd.prog 14 [t14, t16] H5 fun t17 H7 =>
 J6 t17 H7) (J6 (.tup []) H5) ∧ ∀ t17 H8, J6 t17 H8 →
 letO (pickF t13 t17 (.bool false)) fun t18 =>
 letO (some (t18 : AV)) fun t19 =>
 ∃ J9 : AV → Heap → Prop, condG t19 true (ACalls Tryd.prog 67 [] H8 fun t20 H10 =>
 J9 t20 H10) (J9 (.tup []) H8) ∧ ∀ t20 H11, J9 t20 H11 →
 letO (pickF t19 t20 (.bool false)) fun t21 =>
 letO (some (t21 : AV)) fun t0 =>
endK t0 H11 K

theorem W40_ok {H : Heap} {K : AV → Heap → Prop} (h : W40 H K) : ACalls Tryd.prog 40 [] H K :=
  acallsB (fn := Tryd.f40) (cfg := cfgOf [] [] [] [] [] []) (hh := (.dir .nil (.dir .nil .nil))) follows Tryd.func40 (by kernel_rfl) (Nat.le_of_ble_eq_true (by kernel_rfl)) (by kernel_rfl) h

/-- headword.short.lettered -/
def W41 (x0 x1 : AV) (H : Heap) (K : AV → Heap → Prop) : Prop :=
 letO (some ((.int .i64 0) : AV)) fun t4 =>
 letO (some (x0 : AV)) fun t8 =>
 ACalls Tryd.prog 68 [t8] H fun t9 H1 =>
 letO (some (t9 : AV)) fun t5 =>
 letO (some (t5 : AV)) fun t11 =>
 letO (binF Tryd.prog .neq 32 t11 (.int .i64 0)) fun t12 =>
 letO (some (t12 : AV)) fun t10 =>
 condA t10 true (
 letO (some (t5 : AV)) fun t13 =>
 letO (some (t13 : AV)) fun t4 =>
endK t4 H1 K) (
 letO (some (x1 : AV)) fun t15 =>
 letO (binF Tryd.prog .lss 3 t15 (.int .i64 1)) fun t16 =>
 letO (some (t16 : AV)) fun t17 =>
 letO (gval t17 false (some (x1 : AV))) fun t18 =>
 letO (gval t17 false (binF Tryd.prog .gtr 3 t18 (.int .i64 6))) fun t19 =>
 letO (pickF t17 (.bool true) t19) fun t20 =>
 letO (some (t20 : AV)) fun t14 =>
 condA t14 true (
 letO (some ((.int .i64 1) : AV)) fun t4 =>
endK t4 H1 K) (
 letO (some (x0 : AV)) fun t21 =>
 rangeA t21 (fun t22 H2 =>
 true = true ∧ ∃ (I3 : List AV → Heap → Prop) (μ4 : List AV → Heap → Nat), I3 [] H2 ∧ ∀ L5 H6, I3 L5 H6 → -- []
 nextA t22 (fun t23 H7 =>
 letO (extrF t23 0) fun t24 =>
 condA t24 true (
 letO (extrF t23 2) fun t25 =>
 letO (some (t25 : AV)) fun t7 =>
 letO (some (t7 : AV)) fun t26 =>
 letO (some (x1 : AV)) fun t27 =>
 letO (convF Tryd.prog 3 21 t27) fun t28 =>
 letO (binF Tryd.prog .add 21 (.int .i32 97) t28) fun t29 =>
 letO (binF Tryd.prog .geq 21 t26 t29) fun t30 =>
 condA t30 true (
 letO (some ((.int .i64 2) : AV)) fun t4 =>
endK t4 H7 K) (
 I3 [] H7 ∧ μ4 [] H7 < μ4 L5 H6)) (
 letO (some ((.int .i64 0) : AV)) fun t4 =>
endK t4 H7 K)) H6) H1))

theorem W41_ok {x0 x1 : AV} {H : Heap} {K : AV → Heap → Prop} (h : W41 x0 x1 H K) : ACalls Tryd.prog 41 [x0, x1] H K :=
  acallsB (fn := Tryd.f41) (cfg := cfgOf [] [] [] [] [] []) (hh := (.dir .nil (.dir (.dir .nil (.blk (.dir .nil (.dir .nil (.dir .nil (.dir .nil .nil)))))) (.dir (.dir .nil (.blk (.loop [] [23, 24, 25, 7, 26, 27, 28, 29, 30, 4] (.dir .nil (.dir .nil (.blk (.dir .nil (.dir .nil (.dir .nil .nil))))))))) .nil)))) follows Tryd.func41 (by kernel_rfl) (Nat.le_of_ble_eq_true (by kernel_rfl)) (by kernel_rfl) h

/-- headword.short.arches -/
def W42 (x0 x1 : AV) (H : Heap) (K : AV → Heap → Prop) : Prop :=
 letO (some (.nils : AV)) fun t4 =>
 letO (some (.nils : AV)) fun t5 =>
 newMapA (fun t9 H1 =>
 letO (some (t9 : AV)) fun t6 =>
 letO (some (x0 : AV)) fun t10 =>
 rangeA t10 (fun t11 H2 =>
 true = true ∧ ∃ (I3 : List AV → Heap → Prop) (μ4 : List AV → Heap → Nat), I3 [t5] H2 ∧ ∀ L5 H6, I3 L5 H6 → -- [t5]
 nextA t11 (fun t12 H7 =>
 letO (extrF t12 0) fun t13 =>
 condA t13 true (
 letO (extrF t12 1) fun t14 =>
 letO (extrF t12 2) fun t15 =>
 letO (some (t14 : AV)) fun t7 =>
 letO (some (t15 : AV)) fun t8 =>
 letO (some (t6 : AV)) fun t16 =>
 letO (some (t8 : AV)) fun t17 =>
 setMapA .i32 t16 t17 (.bool true) (fun _ H8 =>
 letO (some (t6 : AV)) fun t18 =>
 lenMapA t18 (fun t19 H9 =>
 letO (some (x1 : AV)) fun t20 =>
 letO (binF Tryd.prog .eql 3 t19 t20) fun t21 =>
 condA t21 true (
 letO (some ((L5.getD 0 .any) : AV)) fun t22 =>
 letO (some (t7 : AV)) fun t23 =>
 letO (binF Tryd.prog .add 3 t23 (.int .i64 1)) fun t24 =>
 letO (literalF Tryd.prog 35 1 [(0, t24)]) fun c10 =>
 appendA 1 8 t22 (.imm 1 true c10) (fun t26 H11 =>
 letO (some (t26 : AV)) fun t5 =>
 letO (some (t6 : AV)) fun t27 =>
 clrMapA t27 (fun _ H12 =>
 I3 [t5] H12 ∧ μ4 [t5] H12 < μ4 L5 H6) H11) H9) (
 I3 [(L5.getD 0 .any)] H9 ∧ μ4 [(L5.getD 0 .any)] H9 < μ4 L5 H6)) H8) H7) (
 letO (some ((L5.getD 0 .any) : AV)) fun t28 =>
 letO (some (t28 : AV)) fun t4 =>
endK t4 H7 K)) H6) H1) H

theorem W42_ok {x0 x1 : AV} {H : Heap} {K : AV → Heap → Prop} (h : W42 x0 x1 H K) : ACalls Tryd.prog 42 [x0, x1] H K :=
  acallsB (fn := Tryd.f42) (cfg := cfgOf [] [] [] [] [] [19]) (hh := (.dir .nil (.dir .nil (.dir .nil (.dir (.dir .nil (.blk (.loop [5] [12, 13, 14, 15, 7, 8, 16, 17, 18, 19, 20, 21, 22, 23, 24, 25, 26, 5, 27] (.dir .nil (.dir .nil (.blk (.dir .nil (.dir .nil (.dir .nil (.dir .nil .nil)))))))))) .nil))))) follows Tryd.func42 (by kernel_rfl) (Nat.le_of_ble_eq_true (by kernel_rfl)) (by kernel_rfl) h

/-- math.bits.TrailingZeros -/
def W48 (x0 : AV) (H : Heap) (K : AV → Heap → Prop) : Prop :=
 letO (some ((.int .i64 0) : AV)) fun t2 =>
 condA (.bool false) true (
 letO (some (x0 : AV)) fun t3 =>
 letO (convF Tryd.prog 76 139 t3) fun t4 =>
 ACalls Tryd.prog 75 [t4] H fun t5 H1 =>
 letO (some (t5 : AV)) fun t2 =>
endK t2 H1 K) (
 letO (some (x0 : AV)) fun t6 =>
 ACalls Tryd.prog 76 [t6] H fun t7 H2 =>
 letO (some (t7 : AV)) fun t2 =>
endK t2 H2 K)

theorem W48_ok {x0 : AV} {H : Heap} {K : AV → Heap → Prop} (h : W48 x0 H K) : ACalls Tryd.prog 48 [x0] H K :=
  acallsB (fn := Tryd.f48) (cfg := cfgOf [] [] [] [] [] []) (hh := (.dir .nil (.dir (.dir .nil .nil) .nil))) follows Tryd.func48 (by kernel_rfl) (Nat.le_of_ble_eq_true (by kernel_rfl)) (by kernel_rfl) h

/-- slices.Index[[][2]int,[2]int] -/
def W58 (x0 x1 : AV) (H : Heap) (K : AV → Heap → Prop) : Prop :=
 letO (cellsOf? x1) fun c1 =>
 letO (some ((.int .i64 0) : AV)) fun t4 =>
 letO (some (x0 : AV)) fun t6 =>
 letO (lenA t6) fun t7 =>
 letO (some ((.int .i64 0) : AV)) fun t8 =>
 true = true ∧ ∃ (I2 : List AV → Heap → Prop) (μ3 : List AV → Heap → Nat), I2 [t8] H ∧ ∀ L4 H5, I2 L4 H5 → -- [t8]
 letO (binF Tryd.prog .lss 3 (L4.getD 0 .any) t7) fun t9 =>
 condA t9 true (
 letO (some ((L4.getD 0 .any) : AV)) fun t10 =>
 letO (some (t10 : AV)) fun t5 =>
 true = true ∧
 letO (loadN 2 (.iptr c1) Heap.none) fun t11 =>
 letO (some (x0 : AV)) fun t12 =>
 letO (some (t5 : AV)) fun t13 =>
 letO (idx 2 t12 t13) fun t14 =>
 letO (loadN 2 t14 H5) fun t15 =>
 letO (binF Tryd.prog .eql 30 t11 t15) fun t16 =>
 condA t16 true (
 letO (some (t5 : AV)) fun t17 =>
 letO (some (t17 : AV)) fun t4 =>
endK t4 H5 K) (
 letO (binF Tryd.prog .add 3 (L4.getD 0 .any) (.int .i64 1)) fun t18 =>
 letO (some (t18 : AV)) fun t8 =>
 I2 [t8] H5 ∧ μ3 [t8] H5 < μ3 L4 H5)) (
 letO (some ((.int .i64 (-1)) : AV)) fun t4 =>
endK t4 H5 K)

theorem W58_ok {x0 x1 : AV} {H : Heap} {K : AV → Heap → Prop} (h : W58 x0 x1 H K) : ACalls Tryd.prog 58 [x0, x1] H K :=
  acallsB (fn := Tryd.f58) (cfg := cfgOf [] [11] [(4, [0, 0, 0, 6, 14, 31])] [] [] []) (hh := (.dir .nil (.dir (.dir .nil (.blk (.loop [8] [9, 10, 5, 11, 12, 13, 14, 15, 16, 17, 4, 18, 8] (.dir .nil (.dir .nil (.dir (.blk (.dir .nil (.dir .nil (.dir .nil .nil)))) .nil)))))) .nil))) follows Tryd.func58 (by kernel_rfl) (Nat.le_of_ble_eq_true (by kernel_rfl)) (by kernel_rfl) h

/-- headword.see.Check -/
def W59 (x0 : AV) (H : Heap) (K : AV → Heap → Prop) : Prop :=
 letO (cellsOf? x0) fun c1 =>
 letO (some ((.int .i64 0) : AV)) fun t2 =>
 letO (faddr 0 (.iptr c1)) fun t6 =>
 letO (load1 t6 H) fun t7 =>
 letO (binF Tryd.prog .lss 3 t7 (.int .i64 1)) fun t8 =>
 letO (some (t8 : AV)) fun t9 =>
 letO (gval t9 false (faddr 0 (.iptr c1))) fun t10 =>
 letO (gval t9 false (load1 t10 H)) fun t11 =>
 letO (gval t9 false (binF Tryd.prog .gtr 3 t11 (.int .i64 7))) fun t12 =>
 letO (pickF t9 (.bool true) t12) fun t13 =>
 letO (some (t13 : AV)) fun t5 =>
 condA t5 true (
 letO (some ((.int .i64 1) : AV)) fun t2 =>
endK t2 H K) (
 letO (faddr 1 (.iptr c1)) fun t15 =>
 letO (load1 t15 H) fun t16 =>
 letO (lenA t16) fun t17 =>
 letO (binF Tryd.prog .gtr 3 t17 (.int .i64 16)) fun t18 =>
 letO (some (t18 : AV)) fun t14 =>
 condA t14 true (
 letO (some ((.int .i64 3) : AV)) fun t2 =>
endK t2 H K) (
 letO (faddr 1 (.iptr c1)) fun t19 =>
 letO (load1 t19 H) fun t20 =>
 letO (lenA t20) fun t21 =>
 letO (some ((.int .i64 0) : AV)) fun t22 =>
 true = true ∧ ∃ (I2 : List AV → Heap → Prop) (μ3 : List AV → Heap → Nat), I2 [t22] H ∧ ∀ L4 H5, I2 L4 H5 → -- [t22]
 letO (binF Tryd.prog .lss 3 (L4.getD 0 .any) t21) fun t23 =>
 condA t23 true (
 letO (some ((L4.getD 0 .any) : AV)) fun t24 =>
 letO (idx 2 t20 (L4.getD 0 .any)) fun t25 =>
 letO (loadN 2 t25 H5) fun t26 =>
 allocA [(.int .i64 0), (.int .i64 0)] (fun t4 H6 =>
 letO (some (t24 : AV)) fun t3 =>
 storeA 2 t4 t26 (fun H7 =>
 letO (idxArr 2 1 t4 (.int .i64 0)) fun t28 =>
 letO (load1 t28 H7) fun t29 =>
 letO (idxArr 2 1 t4 (.int .i64 1)) fun t30 =>
 letO (load1 t30 H7) fun t31 =>
 letO (min2F t29 t31) fun t32 =>
 letO (binF Tryd.prog .lss 3 t32 (.int .i64 0)) fun t33 =>
 letO (some (t33 : AV)) fun t34 =>
 letO (gval t34 false (idxArr 2 1 t4 (.int .i64 0))) fun t35 =>
 letO (gval t34 false (load1 t35 H7)) fun t36 =>
 letO (gval t34 false (idxArr 2 1 t4 (.int .i64 1))) fun t37 =>
 letO (gval t34 false (load1 t37 H7)) fun t38 =>
 letO (gval t34 false (max2F t36 t38)) fun t39 =>
 letO (gval t34 false (faddr 0 (.iptr c1))) fun t40 =>
 letO (gval t34 false (load1 t40 H7)) fun t41 =>
 letO (gval t34 false (binF Tryd.prog .geq 3 t39 t41)) fun t42 =>
 letO (pickF t34 (.bool true) t42) fun t43 =>
 letO (some (t43 : AV)) fun t27 =>
 condA t27 true (
 letO (some ((.int .i64 2) : AV)) fun t2 =>
endK t2 H7 K) (
 letO (idxArr 2 1 t4 (.int .i64 0)) fun t45 =>
 letO (load1 t45 H7) fun t46 =>
 letO (idxArr 2 1 t4 (.int .i64 1)) fun t47 =>
 letO (load1 t47 H7) fun t48 =>
 letO (binF Tryd.prog .eql 3 t46 t48) fun t49 =>
 letO (some (t49 : AV)) fun t44 =>
 condA t44 true (
 letO (some ((.int .i64 5) : AV)) fun t2 =>
endK t2 H7 K) (
 true = true ∧
 letO (faddr 1 (.iptr c1)) fun t51 =>
 letO (load1 t51 Heap.none) fun t52 =>
 letO (some (t3 : AV)) fun t53 =>
 letO (slc 2 t52 none (some t53) none) fun t54 =>
 letO (loadN 2 t4 H7) fun t55 =>
 ACalls Tryd.prog 30 [t54, t55] H7 fun t56 H8 =>
 letO (some (t56 : AV)) fun t50 =>
 condA t50 true (
 letO (some ((.int .i64 6) : AV)) fun t2 =>
endK t2 H8 K) (
 letO (binF Tryd.prog .add 3 (L4.getD 0 .any) (.int .i64 1)) fun t57 =>
 letO (some (t57 : AV)) fun t22 =>
 I2 [t22] H8 ∧ μ3 [t22] H8 < μ3 L4 H5)))) H6) H5) (
 letO (some ((.int .i64 0) : AV)) fun t2 =>
endK t2 H5 K)))

theorem W59_ok {x0 : AV} {H : Heap} {K : AV → Heap → Prop} (h : W59 x0 H K) : ACalls Tryd.prog 59 [x0] H K :=
  acallsB (fn := Tryd.f59) (cfg := cfgOf [] [52] [(12, [0, 1, 0, 7, 0, 31, 63])] [] [] []) (hh := (.dir .nil (.dir (.blk (.dir .nil (.dir .nil (.dir .nil (.dir .nil .nil))))) (.dir (.dir .nil (.blk (.loop [22] [23, 24, 25, 26, 4, 3, 28, 29, 30, 31, 32, 33, 34, 35, 36, 37, 38, 39, 40, 41, 42, 43, 27, 2, 45, 46, 47, 48, 49, 44, 51, 52, 53, 54, 55, 56, 50, 57, 22] (.dir .nil (.dir .nil (.dir (.blk (.dir .nil (.blk (.dir .nil (.dir .nil (.dir .nil (.dir .nil (.dir .nil (.dir .nil .nil))))))))) .nil)))))) .nil)))) follows Tryd.func59 (by kernel_rfl) (Nat.le_of_ble_eq_true (by kernel_rfl)) (by kernel_rfl) h

/-- slices.pdqsortCmpFunc[[]int] -/
def W60 (x0 x1 x2 x3 x4 : AV) (H : Heap) (K : AV → Heap → Prop) : Prop :=
 letO (some ((.bool true) : AV)) fun t10 =>
 letO (some ((.bool true) : AV)) fun t11 =>
 true = true ∧ ∃ (I1 : List AV → Heap → Prop) (μ2 : List AV → Heap → Nat), I1 [x3, x1, t11, t10, x2] H ∧ ∀ L3 H4, I1 L3 H4 → -- [t3, t1, t11, t10, t2]
 letO (some ((L3.getD 4 .any) : AV)) fun t21 =>
 letO (some ((L3.getD 1 .any) : AV)) fun t22 =>
 letO (binF Tryd.prog .sub 3 t21 t22) fun t23 =>
 letO (some (t23 : AV)) fun t12 =>
 letO (some (t12 : AV)) fun t24 =>
 letO (binF Tryd.prog .leq 3 t24 (.int .i64 12)) fun t25 =>
 condA t25 true (
 letO (some (x0 : AV)) fun t26 =>
 letO (some ((L3.getD 1 .any) : AV)) fun t27 =>
 letO (some ((L3.getD 4 .any) : AV)) fun t28 =>
 letO (some (x4 : AV)) fun t29 =>
 ACalls Tryd.prog 83 [t26, t27, t28, t29] H4 fun t30 H5 =>
endK (.tup []) H5 K) (
 letO (some ((L3.getD 0 .any) : AV)) fun t31 =>
 letO (binF Tryd.prog .eql 3 t31 (.int .i64 0)) fun t32 =>
 condA t32 true (
 letO (some (x0 : AV)) fun t33 =>
 letO (some ((L3.getD 1 .any) : AV)) fun t34 =>
 letO (some ((L3.getD 4 .any) : AV)) fun t35 =>
 letO (some (x4 : AV)) fun t36 =>
 ACalls Tryd.prog 84 [t33, t34, t35, t36] H4 fun t37 H6 =>
endK (.tup []) H6 K) (
 true = true ∧ ∃ J7 : List AV → Heap → Prop, (
 letO (some ((L3.getD 3 .any) : AV)) fun t38 =>
 letO (unF .not t38) fun t39 =>
 condA t39 true (
 letO (some (x0 : AV)) fun t40 =>
 letO (some ((L3.getD 1 .any) : AV)) fun t41 =>
 letO (some ((L3.getD 4 .any) : AV)) fun t42 =>
 letO (some (x4 : AV)) fun t43 =>
 ACalls Tryd.prog 85 [t40, t41, t42, t43] H4 fun t44 H8 =>
 letO (some ((L3.getD 0 .any) : AV)) fun t45 =>
 letO (binF Tryd.prog .sub 3 t45 (.int .i64 1)) fun t46 =>
 letO (some (t46 : AV)) fun t3 =>
 J7 [t3] H8) (
 J7 [(L3.getD 0 .any)] H4)) ∧ ∀ L9 H10, J7 L9 H10 → -- [t3]
 letO (some (x0 : AV)) fun t48 =>
 letO (some ((L3.getD 1 .any) : AV)) fun t49 =>
 letO (some ((L3.getD 4 .any) : AV)) fun t50 =>
 letO (some (x4 : AV)) fun t51 =>
 ACalls Tryd.prog 86 [t48, t49, t50, t51] H10 fun t52 H11 =>
 letO (some (t52 : AV)) fun t47 =>
 letO (extrF t47 0) fun t53 =>
 letO (extrF t47 1) fun t54 =>
 letO (some (t53 : AV)) fun t13 =>
 letO (some (t54 : AV)) fun t14 =>
 true = true ∧ ∃ J12 : List AV → Heap → Prop, (
 letO (some (t14 : AV)) fun t55 =>
 letO (binF Tryd.prog .eql 155 t55 (.int .i64 2)) fun t56 =>
 condA t56 true (
 letO (some (x0 : AV)) fun t57 =>
 letO (some ((L3.getD 1 .any) : AV)) fun t58 =>
 letO (some ((L3.getD 4 .any) : AV)) fun t59 =>
 letO (some (x4 : AV)) fun t60 =>
 ACalls Tryd.prog 87 [t57, t58, t59, t60] H11 fun t61 H13 =>
 letO (some ((L3.getD 4 .any) : AV)) fun t62 =>
 letO (binF Tryd.prog .sub 3 t62 (.int .i64 1)) fun t63 =>
 letO (some (t13 : AV)) fun t64 =>
 letO (some ((L3.getD 1 .any) : AV)) fun t65 =>
 letO (binF Tryd.prog .sub 3 t64 t65) fun t66 =>
 letO (binF Tryd.prog .sub 3 t63 t66) fun t67 =>
 letO (some (t67 : AV)) fun t13 =>
 letO (some ((.int .i64 1) : AV)) fun t14 =>
 J12 [t13, t14] H13) (
 J12 [t13, t14] H11)) ∧ ∀ L14 H15, J12 L14 H15 → -- [t13, t14]
 true = true ∧ ∃ J16 : List AV → Heap → Prop, (
 letO (some ((L3.getD 3 .any) : AV)) fun t68 =>
 letO (some (t68 : AV)) fun t69 =>
 letO (gval t69 true (some ((L3.getD 2 .any) : AV))) fun t70 =>
 letO (pickF t69 t70 (.bool false)) fun t71 =>
 letO (some (t71 : AV)) fun t72 =>
 letO (gval t72 true (some ((L14.getD 1 .any) : AV))) fun t73 =>
 letO (gval t72 true (binF Tryd.prog .eql 155 t73 (.int .i64 1))) fun t74 =>
 letO (pickF t72 t74 (.bool false)) fun t75 =>
 condA t75 true (
 letO (some (x0 : AV)) fun t76 =>
 letO (some ((L3.getD 1 .any) : AV)) fun t77 =>
 letO (some ((L3.getD 4 .any) : AV)) fun t78 =>
 letO (some (x4 : AV)) fun t79 =>
 ACalls Tryd.prog 88 [t76, t77, t78, t79] H15 fun t80 H17 =>
 condA t80 true (
endK (.tup []) H17 K) (
 J16 [] H17)) (
 J16 [] H15)) ∧ ∀ L18 H19, J16 L18 H19 → -- []
 true = true ∧
 letO (some ((L3.getD 1 .any) : AV)) fun t81 =>
 letO (binF Tryd.prog .gtr 3 t81 (.int .i64 0)) fun t82 =>
 letO (some (t82 : AV)) fun t83 =>
 letO (gval t83 true (some (x4 : AV))) fun t84 =>
 letO (gval t83 true (some (x0 : AV))) fun t85 =>
 letO (gval t83 true (some ((L3.getD 1 .any) : AV))) fun t86 =>
 letO (gval t83 true (binF Tryd.prog .sub 3 t86 (.int .i64 1))) fun t87 =>
 letO (gval t83 true (idx 1 t85 t87)) fun t88 =>
 letO (gval t83 true (load1 t88 H19)) fun t89 =>
 letO (gval t83 true (some (x0 : AV))) fun t90 =>
 letO (gval t83 true (some ((L14.getD 0 .any) : AV))) fun t91 =>
 letO (gval t83 true (idx 1 t90 t91)) fun t92 =>
 letO (gval t83 true (load1 t92 H19)) fun t93 =>
 ∃ J20 : AV → Heap → Prop, condG t83 true (callA Tryd.prog t84 [t89, t93] (fun t94 H21 =>
 J20 t94 H21) H19) (J20 (.tup []) H19) ∧ ∀ t94 H22, J20 t94 H22 →
 letO (gval t83 true (binF Tryd.prog .lss 3 t94 (.int .i64 0))) fun t95 =>
 letO (gval t83 true (unF .not t95)) fun t96 =>
 letO (pickF t83 t96 (.bool false)) fun t97 =>
 condA t97 true (
 letO (some (x0 : AV)) fun t98 =>
 letO (some ((L3.getD 1 .any) : AV)) fun t99 =>
 letO (some ((L3.getD 4 .any) : AV)) fun t100 =>
 letO (some ((L14.getD 0 .any) : AV)) fun t101 =>
 letO (some (x4 : AV)) fun t102 =>
 ACalls Tryd.prog 89 [t98, t99, t100, t101, t102] H22 fun t103 H23 =>
 letO (some (t103 : AV)) fun t15 =>
 letO (some (t15 : AV)) fun t104 =>
 letO (some (t104 : AV)) fun t1 =>
 I1 [(L9.getD 0 .any), t1, (L3.getD 2 .any), (L3.getD 3 .any), (L3.getD 4 .any)] H23 ∧ μ2 [(L9.getD 0 .any), t1, (L3.getD 2 .any), (L3.getD 3 .any), (L3.getD 4 .any)] H23 < μ2 L3 H4) (
 letO (some (x0 : AV)) fun t106 =>
 letO (some ((L3.getD 1 .any) : AV)) fun t107 =>
 letO (some ((L3.getD 4 .any) : AV)) fun t108 =>
 letO (some ((L14.getD 0 .any) : AV)) fun t109 =>
 letO (some (x4 : AV)) fun t110 =>
 ACalls Tryd.prog 90 [t106, t107, t108, t109, t110] H22 fun t111 H24 =>
 letO (some (t111 : AV)) fun t105 =>
 letO (extrF t105 0) fun t112 =>
 letO (extrF t105 1) fun t113 =>
 letO (some (t112 : AV)) fun t16 =>
 letO (some (t113 : AV)) fun t17 =>
 letO (some (t17 : AV)) fun t114 =>
 letO (some (t114 : AV)) fun t11 =>
 letO (some (t16 : AV)) fun t115 =>
 letO (some ((L3.getD 1 .any) : AV)) fun t116 =>
 letO (binF Tryd.prog .sub 3 t115 t116) fun t117 =>
 letO (some ((L3.getD 4 .any) : AV)) fun t118 =>
 letO (some (t16 : AV)) fun t119 =>
 letO (binF Tryd.prog .sub 3 t118 t119) fun t120 =>
 letO (some (t117 : AV)) fun t18 =>
 letO (some (t120 : AV)) fun t19 =>
 letO (some (t12 : AV)) fun t121 =>
 letO (binF Tryd.prog .quo 3 t121 (.int .i64 8)) fun t122 =>
 letO (some (t122 : AV)) fun t20 =>
 letO (some (t18 : AV)) fun t123 =>
 letO (some (t19 : AV)) fun t124 =>
 letO (binF Tryd.prog .lss 3 t123 t124) fun t125 =>
 condA t125 true (
 letO (some (t18 : AV)) fun t126 =>
 letO (some (t20 : AV)) fun t127 =>
 letO (binF Tryd.prog .geq 3 t126 t127) fun t128 =>
 letO (some (t128 : AV)) fun t10 =>
 letO (some (x0 : AV)) fun t129 =>
 letO (some ((L3.getD 1 .any) : AV)) fun t130 =>
 letO (some (t16 : AV)) fun t131 =>
 letO (some ((L9.getD 0 .any) : AV)) fun t132 =>
 letO (some (x4 : AV)) fun t133 =>
 ACalls Tryd.prog 60 [t129, t130, t131, t132, t133] H24 fun t134 H25 =>
 letO (some (t16 : AV)) fun t135 =>
 letO (binF Tryd.prog .add 3 t135 (.int .i64 1)) fun t136 =>
 letO (some (t136 : AV)) fun t1 =>
 I1 [(L9.getD 0 .any), t1, t11, t10, (L3.getD 4 .any)] H25 ∧ μ2 [(L9.getD 0 .any), t1, t11, t10, (L3.getD 4 .any)] H25 < μ2 L3 H4) (
 letO (some (t19 : AV)) fun t137 =>
 letO (some (t20 : AV)) fun t138 =>
 letO (binF Tryd.prog .geq 3 t137 t138) fun t139 =>
 letO (some (t139 : AV)) fun t10 =>
 letO (some (x0 : AV)) fun t140 =>
 letO (some (t16 : AV)) fun t141 =>
 letO (binF Tryd.prog .add 3 t141 (.int .i64 1)) fun t142 =>
 letO (some ((L3.getD 4 .any) : AV)) fun t143 =>
 letO (some ((L9.getD 0 .any) : AV)) fun t144 =>
 letO (some (x4 : AV)) fun t145 =>
 ACalls Tryd.prog 60 [t140, t142, t143, t144, t145] H24 fun t146 H26 =>
 letO (some (t16 : AV)) fun t147 =>
 letO (some (t147 : AV)) fun t2 =>
 I1 [(L9.getD 0 .any), (L3.getD 1 .any), t11, t10, t2] H26 ∧ μ2 [(L9.getD 0 .any), (L3.getD 1 .any), t11, t10, t2] H26 < μ2 L3 H4))))

theorem W60_ok {x0 x1 x2 x3 x4 : AV} {H : Heap} {K : AV → Heap → Prop} (h : W60 x0 x1 x2 x3 x4 H K) : ACalls Tryd.prog 60 [x0, x1, x2, x3, x4] H K :=
  acallsB (fn := Tryd.f60) (cfg := cfgOf [] [] [(17, [0, 1, 3, 7, 7, 7, 39, 119, 247, 7, 7, 1543, 3591, 8191, 16383, 32767, 65535])] [] [] []) (hh := (.dir .nil (.dir .nil (.blk (.loop [3, 1, 11, 10, 2] [21, 22, 23, 12, 24, 25, 26, 27, 28, 29, 30, 31, 32, 33, 34, 35, 36, 37, 38, 39, 40, 41, 42, 43, 44, 45, 46, 3, 48, 49, 50, 51, 52, 47, 53, 54, 13, 14, 55, 56, 57, 58, 59, 60, 61, 62, 63, 64, 65, 66, 67, 68, 69, 70, 71, 72, 73, 74, 75, 76, 77, 78, 79, 80, 81, 82, 83, 84, 85, 86, 87, 88, 89, 90, 91, 92, 93, 94, 95, 96, 97, 98, 99, 100, 101, 102, 103, 15, 104, 1, 106, 107, 108, 109, 110, 111, 105, 112, 113, 16, 17, 114, 11, 115, 116, 117, 118, 119, 120, 18, 19, 121, 122, 20, 123, 124, 125, 126, 127, 128, 10, 129, 130, 131, 132, 133, 134, 135, 136, 137, 138, 139, 140, 141, 142, 143, 144, 145, 146, 147, 2] (.blk (.dir .nil (.dir (.dir .nil (.dir .nil .nil)) (.dir (.dir .nil (.dir .nil .nil)) (.cut [3] [38, 39, 40, 41, 42, 43, 44, 45, 46, 3] (.dir .nil (.dir .nil .nil)) (.dir .nil (.cut [13, 14] [55, 56, 57, 58, 59, 60, 61, 62, 63, 64, 65, 66, 67, 13, 14] (.dir .nil (.dir (.dir .nil .nil) .nil)) (.cut [] [68, 69, 70, 71, 72, 73, 74, 75, 76, 77, 78, 79, 80] (.dir .nil (.dir (.dir .nil .nil) .nil)) (.dir (.dir .nil (.dir (.dir .nil .nil) .nil)) (.dir .nil (.dir .nil (.dir .nil (.dir .nil (.dir .nil (.dir (.dir .nil .nil) (.dir .nil .nil))))))))))))))))))))) follows Tryd.func60 (by kernel_rfl) (Nat.le_of_ble_eq_true (by kernel_rfl)) (by kernel_rfl) h

/-- math.bits.Len -/
def W61 (x0 : AV) (H : Heap) (K : AV → Heap → Prop) : Prop :=
 letO (some ((.int .i64 0) : AV)) fun t2 =>
 condA (.bool false) true (
 letO (some (x0 : AV)) fun t3 =>
 letO (convF Tryd.prog 76 139 t3) fun t4 =>
 ACalls Tryd.prog 91 [t4] H fun t5 H1 =>
 letO (some (t5 : AV)) fun t2 =>
endK t2 H1 K) (
 letO (some (x0 : AV)) fun t6 =>
 ACalls Tryd.prog 92 [t6] H fun t7 H2 =>
 letO (some (t7 : AV)) fun t2 =>
endK t2 H2 K)

theorem W61_ok {x0 : AV} {H : Heap} {K : AV → Heap → Prop} (h : W61 x0 H K) : ACalls Tryd.prog 61 [x0] H K :=
  acallsB (fn := Tryd.f61) (cfg := cfgOf [] [] [] [] [] []) (hh := (.dir .nil (.dir (.dir .nil .nil) .nil))) follows Tryd.func61 (by kernel_rfl) (Nat.le_of_ble_eq_true (by kernel_rfl)) (by kernel_rfl) h

/-- cmp.Compare[int] -/
def W62 (x0 x1 : AV) (H : Heap) (K : AV → Heap → Prop) : Prop :=
 letO (some ((.int .i64 0) : AV)) fun t4 =>
 letO (some (x0 : AV)) fun t7 =>
 ACalls Tryd.prog 93 [t7] H fun t8 H1 =>
 letO (some (t8 : AV)) fun t5 =>
 letO (some (x1 : AV)) fun t9 =>
 ACalls Tryd.prog 93 [t9] H1 fun t10 H2 =>
 letO (some (t10 : AV)) fun t6 =>
 letO (some (t5 : AV)) fun t11 =>
 condA t11 true (
 letO (some (t6 : AV)) fun t12 =>
 condA t12 true (
 letO (some ((.int .i64 0) : AV)) fun t4 =>
endK t4 H2 K) (
 letO (some ((.int .i64 (-1)) : AV)) fun t4 =>
endK t4 H2 K)) (
 letO (some (t6 : AV)) fun t13 =>
 condA t13 true (
 letO (some ((.int .i64 1) : AV)) fun t4 =>
endK t4 H2 K) (
 letO (some (x0 : AV)) fun t14 =>
 letO (some (x1 : AV)) fun t15 =>
 letO (binF Tryd.prog .lss 3 t14 t15) fun t16 =>
 condA t16 true (
 letO (some ((.int .i64 (-1)) : AV)) fun t4 =>
endK t4 H2 K) (
 letO (some (x0 : AV)) fun t17 =>
 letO (some (x1 : AV)) fun t18 =>
 letO (binF Tryd.prog .gtr 3 t17 t18) fun t19 =>
 condA t19 true (
 letO (some ((.int .i64 1) : AV)) fun t4 =>
endK t4 H2 K) (
 letO (some ((.int .i64 0) : AV)) fun t4 =>
endK t4 H2 K))))

theorem W62_ok {x0 x1 : AV} {H : Heap} {K : AV → Heap → Prop} (h : W62 x0 x1 H K) : ACalls Tryd.prog 62 [x0, x1] H K :=
  acallsB (fn := Tryd.f62) (cfg := cfgOf [] [] [] [] [] []) (hh := (.dir .nil (.dir .nil (.dir .nil (.dir (.dir .nil (.dir (.dir (.dir .nil (.dir .nil .nil)) .nil) .nil)) (.dir (.dir .nil (.dir .nil .nil)) (.dir (.dir .nil (.dir .nil .nil)) (.dir (.dir .nil (.dir .nil .nil)) .nil)))))))) follows Tryd.func62 (by kernel_rfl) (Nat.le_of_ble_eq_true (by kernel_rfl)) (by kernel_rfl) h

/-- headword.fact.list -/
def W63 (x0 : AV) (H : Heap) (K : AV → Heap → Prop) : Prop :=
 letO (some (.nils : AV)) fun t2 =>
 letO (some (.nils : AV)) fun t3 =>
 true = true ∧ ∃ (I1 : List AV → Heap → Prop) (μ2 : List AV → Heap → Nat), I1 [t3, x0] H ∧ ∀ L3 H4, I1 L3 H4 → -- [t3, t0]
 letO (some ((L3.getD 1 .any) : AV)) fun t4 =>
 letO (binF Tryd.prog .neq 76 t4 (.int .u64 0)) fun t5 =>
 condA t5 true (
 letO (some ((L3.getD 0 .any) : AV)) fun t10 =>
 letO (some ((L3.getD 1 .any) : AV)) fun t11 =>
 ACalls Tryd.prog 48 [t11] H4 fun t12 H5 =>
 letO (literalF Tryd.prog 35 1 [(0, t12)]) fun c6 =>
 appendA 1 8 t10 (.imm 1 true c6) (fun t14 H7 =>
 letO (some (t14 : AV)) fun t3 =>
 letO (some ((L3.getD 1 .any) : AV)) fun t6 =>
 letO (some ((L3.getD 1 .any) : AV)) fun t7 =>
 letO (binF Tryd.prog .sub 76 t7 (.int .u64 1)) fun t8 =>
 letO (binF Tryd.prog .and 76 t6 t8) fun t9 =>
 letO (some (t9 : AV)) fun t0 =>
 I1 [t3, t0] H7 ∧ μ2 [t3, t0] H7 < μ2 L3 H4) H5) (
 letO (some ((L3.getD 0 .any) : AV)) fun t15 =>
 letO (some (t15 : AV)) fun t2 =>
endK t2 H4 K)

theorem W63_ok {x0 : AV} {H : Heap} {K : AV → Heap → Prop} (h : W63 x0 H K) : ACalls Tryd.prog 63 [x0] H K :=
  acallsB (fn := Tryd.f63) (cfg := cfgOf [] [] [] [] [] []) (hh := (.dir .nil (.dir .nil (.dir (.blk (.loop [3, 0] [4, 5, 10, 11, 12, 13, 14, 3, 6, 7, 8, 9, 0] (.dir (.dir .nil .nil) (.dir .nil .nil)))) .nil)))) follows Tryd.func63 (by kernel_rfl) (Nat.le_of_ble_eq_true (by kernel_rfl)) (by kernel_rfl) h

/-- slices.ContainsFunc[[][2]int,[2]int] -/
def W64 (x0 x1 : AV) (H : Heap) (K : AV → Heap → Prop) : Prop :=
 letO (some ((.bool false) : AV)) fun t4 =>
 letO (some (x0 : AV)) fun t5 =>
 letO (some (x1 : AV)) fun t6 =>
 ACalls Tryd.prog 94 [t5, t6] H fun t7 H1 =>
 letO (binF Tryd.prog .geq 3 t7 (.int .i64 0)) fun t8 =>
 letO (some (t8 : AV)) fun t4 =>
endK t4 H1 K

theorem W64_ok {x0 x1 : AV} {H : Heap} {K : AV → Heap → Prop} (h : W64 x0 x1 H K) : ACalls Tryd.prog 64 [x0, x1] H K :=
  acallsB (fn := Tryd.f64) (cfg := cfgOf [] [] [] [] [] []) (hh := (.dir .nil .nil)) follows Tryd.func64 (by kernel_rfl) (Nat.le_of_ble_eq_true (by kernel_rfl)) (by kernel_rfl) h

/-- (headword.fact.Book).explained$1 -/
def W65 (x0 x1 : AV) (H : Heap) (K : AV → Heap → Prop) : Prop :=
 letO (cellsOf? x0) fun c1 =>
 letO (some ((.bool false) : AV)) fun t3 =>
 letO (load1 x1 H) fun t4 =>
 letO (idxArr 2 1 (.iptr c1) (.int .i64 0)) fun t5 =>
 letO (load1 t5 H) fun t6 =>
 letO (binF Tryd.prog .shr 76 t4 t6) fun t7 =>
 letO (binF Tryd.prog .and 76 t7 (.int .u64 1)) fun t8 =>
 letO (binF Tryd.prog .eql 76 t8 (.int .u64 0)) fun t9 =>
 letO (some (t9 : AV)) fun t10 =>
 letO (gval t10 true (load1 x1 H)) fun t11 =>
 letO (gval t10 true (idxArr 2 1 (.iptr c1) (.int .i64 1))) fun t12 =>
 letO (gval t10 true (load1 t12 H)) fun t13 =>
 letO (gval t10 true (binF Tryd.prog .shr 76 t11 t13)) fun t14 =>
 letO (gval t10 true (binF Tryd.prog .and 76 t14 (.int .u64 1))) fun t15 =>
 letO (gval t10 true (binF Tryd.prog .eql 76 t15 (.int .u64 0))) fun t16 =>
 letO (pickF t10 t16 (.bool false)) fun t17 =>
 letO (some (t17 : AV)) fun t3 =>
endK t3 H K

theorem W65_ok {x0 x1 : AV} {H : Heap} {K : AV → Heap → Prop} (h : W65 x0 x1 H K) : ACalls Tryd.prog 65 [x0, x1] H K :=
  acallsB (fn := Tryd.f65) (cfg := cfgOf [] [] [] [] [] []) (hh := (.dir .nil .nil)) follows Tryd.func65 (by kernel_rfl) (Nat.le_of_ble_eq_true (by kernel_rfl)) (by kernel_rfl) h

/-- headword.see.First -/
def W66 (x0 : AV) (H : Heap) (K : AV → Heap → Prop) : Prop :=
 letO (cellsOf? x0) fun c1 =>
 letO (some (.nils : AV)) fun t2 =>
 letO (some ((.int .i64 0) : AV)) fun t3 =>
 letO (loadN 2 (.iptr c1) H) fun t7 =>
 ACalls Tryd.prog 9 [t7] H fun t8 H2 =>
 letO (some (t8 : AV)) fun t6 =>
 letO (extrF t6 0) fun t9 =>
 letO (extrF t6 1) fun t10 =>
 letO (some (t9 : AV)) fun t4 =>
 letO (some (t10 : AV)) fun t5 =>
 letO (some (t5 : AV)) fun t12 =>
 letO (binF Tryd.prog .neq 32 t12 (.int .i64 0)) fun t13 =>
 letO (some (t13 : AV)) fun t11 =>
 condA t11 true (
 letO (some (t5 : AV)) fun t14 =>
 letO (some (.nils : AV)) fun t2 =>
 letO (some (t14 : AV)) fun t3 =>
endK (.tup [t2, t3]) H2 K) (
 letO (some (t4 : AV)) fun t16 =>
 letO (lenA t16) fun t17 =>
 letO (binF Tryd.prog .eql 3 t17 (.int .i64 0)) fun t18 =>
 letO (some (t18 : AV)) fun t15 =>
 condA t15 true (
 letO (some (.nils : AV)) fun t2 =>
 letO (some ((.int .i64 12) : AV)) fun t3 =>
endK (.tup [t2, t3]) H2 K) (
 letO (some (t4 : AV)) fun t19 =>
 letO (idx 1 t19 (.int .i64 0)) fun t20 =>
 letO (load1 t20 H2) fun t21 =>
 letO (some (t21 : AV)) fun t2 =>
 letO (some ((.int .i64 0) : AV)) fun t3 =>
endK (.tup [t2, t3]) H2 K))

theorem W66_ok {x0 : AV} {H : Heap} {K : AV → Heap → Prop} (h : W66 x0 H K) : ACalls Tryd.prog 66 [x0] H K :=
  acallsB (fn := Tryd.f66) (cfg := cfgOf [] [] [] [] [] []) (hh := (.dir .nil (.dir .nil (.dir (.blk (.dir .nil (.dir .nil (.dir .nil (.dir .nil .nil))))) .nil)))) follows Tryd.func66 (by kernel_rfl) (Nat.le_of_ble_eq_true (by kernel_rfl)) (by kernel_rfl) h

/-- headword.headwordtop.shortsWork -/
def W67 (H : Heap) (K : AV → Heap → Prop) : Prop :=
 letO (some ((.bool false) : AV)) fun t0 =>
 ACalls Tryd.prog 95 [(.str (ByteArray.mk #[97, 98, 99, 97])), (.str (ByteArray.mk #[97]))] H fun t6 H1 =>
 letO (some (t6 : AV)) fun t5 =>
 letO (extrF t5 0) fun t7 =>
 letO (extrF t5 1) fun t8 =>
 letO (some (t7 : AV)) fun t1 =>
 letO (some (t8 : AV)) fun t2 =>
 ACalls Tryd.prog 96 [(.str (ByteArray.mk #[97, 98, 98, 97])), (.int .i64 2)] H1 fun t10 H2 =>
 letO (some (t10 : AV)) fun t9 =>
 letO (extrF t9 0) fun t11 =>
 letO (extrF t9 1) fun t12 =>
 letO (some (t11 : AV)) fun t3 =>
 letO (some (t12 : AV)) fun t4 =>
 letO (some (t2 : AV)) fun t13 =>
 letO (binF Tryd.prog .eql 32 t13 (.int .i64 0)) fun t14 =>
 letO (some (t14 : AV)) fun t15 =>
 letO (gval t15 true (some (t4 : AV))) fun t16 =>
 letO (gval t15 true (binF Tryd.prog .eql 32 t16 (.int .i64 0))) fun t17 =>
 letO (pickF t15 t17 (.bool false)) fun t18 =>
 letO (some (t18 : AV)) fun t19 =>
 letO (gval t19 true (some (t1 : AV))) fun t20 =>
 letO (gval t19 true (binF Tryd.prog .eql 3 t20 (.int .i64 2))) fun t21 =>
 letO (pickF t19 t21 (.bool false)) fun t22 =>
 letO (some (t22 : AV)) fun t23 =>
 letO (gval t23 true (some (t3 : AV))) fun t24 =>
 letO (gval t23 true (binF Tryd.prog .eql 9 t24 (.str (ByteArray.mk #[97, 97, 97])))) fun t25 =>
 letO (pickF t23 t25 (.bool false)) fun t26 =>
 letO (some (t26 : AV)) fun t27 =>
 ∃ J3 : AV → Heap → Prop, condG t27 true (ACalls Tryd.prog 97 [(.str (ByteArray.mk #[100, 97, 121, 45, 98, 111, 111, 107])), (.str (ByteArray.mk #[121, 98, 107]))] H2 fun t28 H4 =>
 J3 t28 H4) (J3 (.tup []) H2) ∧ ∀ t28 H5, J3 t28 H5 →
 letO (pickF t27 t28 (.bool false)) fun t29 =>
 letO (some (t29 : AV)) fun t0 =>
endK t0 H5 K

theorem W67_ok {H : Heap} {K : AV → Heap → Prop} (h : W67 H K) : ACalls Tryd.prog 67 [] H K :=
  acallsB (fn := Tryd.f67) (cfg := cfgOf [] [] [] [] [] []) (hh := (.dir .nil (.dir .nil (.dir .nil .nil)))) follows Tryd.func67 (by kernel_rfl) (Nat.le_of_ble_eq_true (by kernel_rfl)) (by kernel_rfl) h

/-- headword.short.Check -/
def W68 (x0 : AV) (H : Heap) (K : AV → Heap → Prop) : Prop :=
 letO (some ((.int .i64 0) : AV)) fun t2 =>
 letO (some (x0 : AV)) fun t5 =>
 letO (lenS t5) fun t6 =>
 letO (binF Tryd.prog .gtr 3 t6 (.int .i64 10)) fun t7 =>
 condA t7 true (
 letO (some ((.int .i64 19) : AV)) fun t2 =>
endK t2 H K) (
 letO (some (x0 : AV)) fun t8 =>
 rangeA t8 (fun t9 H1 =>
 true = true ∧ ∃ (I2 : List AV → Heap → Prop) (μ3 : List AV → Heap → Nat), I2 [] H1 ∧ ∀ L4 H5, I2 L4 H5 → -- []
 nextA t9 (fun t10 H6 =>
 letO (extrF t10 0) fun t11 =>
 condA t11 true (
 letO (extrF t10 2) fun t12 =>
 letO (some (t12 : AV)) fun t4 =>
 letO (some (t4 : AV)) fun t13 =>
 letO (binF Tryd.prog .lss 21 t13 (.int .i32 97)) fun t14 =>
 letO (some (t14 : AV)) fun t15 =>
 letO (gval t15 false (some (t4 : AV))) fun t16 =>
 letO (gval t15 false (binF Tryd.prog .geq 21 t16 (.int .i32 103))) fun t17 =>
 letO (pickF t15 (.bool true) t17) fun t18 =>
 condA t18 true (
 letO (some ((.int .i64 10) : AV)) fun t2 =>
endK t2 H6 K) (
 I2 [] H6 ∧ μ3 [] H6 < μ3 L4 H5)) (
 letO (some ((.int .i64 0) : AV)) fun t2 =>
endK t2 H6 K)) H5) H)

theorem W68_ok {x0 : AV} {H : Heap} {K : AV → Heap → Prop} (h : W68 x0 H K) : ACalls Tryd.prog 68 [x0] H K :=
  acallsB (fn := Tryd.f68) (cfg := cfgOf [] [] [] [] [] []) (hh := (.dir .nil (.dir (.dir .nil (.dir .nil .nil)) (.dir (.dir .nil (.blk (.loop [] [10, 11, 12, 4, 13, 14, 15, 16, 17, 18, 2] (.dir .nil (.dir .nil (.blk (.dir .nil (.dir .nil (.dir .nil .nil))))))))) .nil)))) follows Tryd.func68 (by kernel_rfl) (Nat.le_of_ble_eq_true (by kernel_rfl)) (by kernel_rfl) h

/-- math.bits.TrailingZeros64 -/
def W76 (x0 : AV) (H : Heap) (K : AV → Heap → Prop) : Prop :=
 letO (some ((.int .i64 0) : AV)) fun t2 =>
 letO (some (x0 : AV)) fun t3 =>
 letO (binF Tryd.prog .eql 141 t3 (.int .u64 0)) fun t4 =>
 condA t4 true (
 letO (some ((.int .i64 64) : AV)) fun t2 =>
endK t2 H K) (
 letO (some (x0 : AV)) fun t5 =>
 letO (some (x0 : AV)) fun t6 =>
 letO (unF .neg t6) fun t7 =>
 letO (binF Tryd.prog .and 141 t5 t7) fun t8 =>
 letO (binF Tryd.prog .mul 141 t8 (.int .u64 285870213051353865)) fun t9 =>
 letO (binF Tryd.prog .shr 141 t9 (.int .u64 58)) fun t10 =>
 letO (idxArr 64 1 (.iptr tz64) t10) fun t11 =>
 letO (load1 t11 H) fun t12 =>
 letO (convF Tryd.prog 5 3 t12) fun t13 =>
 letO (some (t13 : AV)) fun t2 =>
endK t2 H K)

theorem W76_ok {x0 : AV} {H : Heap} {K : AV → Heap → Prop} (h : W76 x0 H K) : ACalls Tryd.prog 76 [x0] H K :=
  acallsB (fn := Tryd.f76) (cfg := cfgOf [] [] [] [] [] []) (hh := (.dir .nil (.dir (.dir .nil (.dir .nil .nil)) .nil))) follows Tryd.func76 (by kernel_rfl) (Nat.le_of_ble_eq_true (by kernel_rfl)) (by kernel_rfl) h

/-- slices.insertionSortCmpFunc[[]int] -/
def W83 (x0 x1 x2 x3 : AV) (H : Heap) (K : AV → Heap → Prop) : Prop :=
 letO (some (x1 : AV)) fun t10 =>
 letO (binF Tryd.prog .add 3 t10 (.int .i64 1)) fun t11 =>
 letO (some (t11 : AV)) fun t8 =>
 true = true ∧ ∃ (I1 : List AV → Heap → Prop) (μ2 : List AV → Heap → Nat), I1 [t8] H ∧ ∀ L3 H4, I1 L3 H4 → -- [t8]
 letO (some ((L3.getD 0 .any) : AV)) fun t12 =>
 letO (some (x2 : AV)) fun t13 =>
 letO (binF Tryd.prog .lss 3 t12 t13) fun t14 =>
 condA t14 true (
 letO (some ((L3.getD 0 .any) : AV)) fun t17 =>
 letO (some (t17 : AV)) fun t9 =>
 true = true ∧ ∃ (I5 : List AV → Heap → Prop) (μ6 : List AV → Heap → Nat), I5 [t9] H4 ∧ ∀ L7 H8, I5 L7 H8 → -- [t9]
 true = true ∧
 letO (some ((L7.getD 0 .any) : AV)) fun t18 =>
 letO (some (x1 : AV)) fun t19 =>
 letO (binF Tryd.prog .gtr 3 t18 t19) fun t20 =>
 letO (some (t20 : AV)) fun t21 =>
 letO (gval t21 true (some (x3 : AV))) fun t22 =>
 letO (gval t21 true (some (x0 : AV))) fun t23 =>
 letO (gval t21 true (some ((L7.getD 0 .any) : AV))) fun t24 =>
 letO (gval t21 true (idx 1 t23 t24)) fun t25 =>
 letO (gval t21 true (load1 t25 H8)) fun t26 =>
 letO (gval t21 true (some (x0 : AV))) fun t27 =>
 letO (gval t21 true (some ((L7.getD 0 .any) : AV))) fun t28 =>
 letO (gval t21 true (binF Tryd.prog .sub 3 t28 (.int .i64 1))) fun t29 =>
 letO (gval t21 true (idx 1 t27 t29)) fun t30 =>
 letO (gval t21 true (load1 t30 H8)) fun t31 =>
 ∃ J9 : AV → Heap → Prop, condG t21 true (callA Tryd.prog t22 [t26, t31] (fun t32 H10 =>
 J9 t32 H10) H8) (J9 (.tup []) H8) ∧ ∀ t32 H11, J9 t32 H11 →
 letO (gval t21 true (binF Tryd.prog .lss 3 t32 (.int .i64 0))) fun t33 =>
 letO (pickF t21 t33 (.bool false)) fun t34 =>
 condA t34 true (
 true = true ∧
 letO (some (x0 : AV)) fun t37 =>
 letO (some ((L7.getD 0 .any) : AV)) fun t38 =>
 letO (some (x0 : AV)) fun t39 =>
 letO (some ((L7.getD 0 .any) : AV)) fun t40 =>
 letO (binF Tryd.prog .sub 3 t40 (.int .i64 1)) fun t41 =>
 letO (some (x0 : AV)) fun t42 =>
 letO (some ((L7.getD 0 .any) : AV)) fun t43 =>
 letO (binF Tryd.prog .sub 3 t43 (.int .i64 1)) fun t44 =>
 letO (idx 1 t42 t44) fun t45 =>
 letO (load1 t45 H11) fun t46 =>
 letO (some (x0 : AV)) fun t47 =>
 letO (some ((L7.getD 0 .any) : AV)) fun t48 =>
 letO (idx 1 t47 t48) fun t49 =>
 letO (load1 t49 H11) fun t50 =>
 letO (idx 1 t37 t38) fun t51 =>
 storeA 1 t51 t46 (fun H12 =>
 letO (idx 1 t39 t41) fun t52 =>
 storeA 1 t52 t50 (fun H13 =>
 letO (some ((L7.getD 0 .any) : AV)) fun t35 =>
 letO (binF Tryd.prog .sub 3 t35 (.int .i64 1)) fun t36 =>
 letO (some (t36 : AV)) fun t9 =>
 I5 [t9] H13 ∧ μ6 [t9] H13 < μ6 L7 H8) H12) H11) (
 letO (some ((L3.getD 0 .any) : AV)) fun t15 =>
 letO (binF Tryd.prog .add 3 t15 (.int .i64 1)) fun t16 =>
 letO (some (t16 : AV)) fun t8 =>
 I1 [t8] H11 ∧ μ2 [t8] H11 < μ2 L3 H4)) (
endK (.tup []) H4 K)

theorem W83_ok {x0 x1 x2 x3 : AV} {H : Heap} {K : AV → Heap → Prop} (h : W83 x0 x1 x2 x3 H K) : ACalls Tryd.prog 83 [x0, x1, x2, x3] H K :=
  acallsB (fn := Tryd.f83) (cfg := cfgOf [] [] [(4, [0, 0, 3, 7, 15, 15, 15, 111, 239, 15, 15, 1039, 3599, 7695, 16383, 32767, 65535]), (6, [0, 0, 0, 0, 8, 0, 0, 64, 224, 480, 0, 0, 3072, 7168, 16355, 32739, 65535, 131071])] [] [] []) (hh := (.dir .nil (.blk (.loop [8] [12, 13, 14, 17, 9, 18, 19, 20, 21, 22, 23, 24, 25, 26, 27, 28, 29, 30, 31, 32, 33, 34, 37, 38, 39, 40, 41, 42, 43, 44, 45, 46, 47, 48, 49, 50, 51, 52, 35, 36, 15, 16, 8] (.dir (.dir .nil .nil) (.dir (.blk (.dir .nil (.blk (.loop [9] [18, 19, 20, 21, 22, 23, 24, 25, 26, 27, 28, 29, 30, 31, 32, 33, 34, 37, 38, 39, 40, 41, 42, 43, 44, 45, 46, 47, 48, 49, 50, 51, 52, 35, 36, 9] (.dir (.dir .nil .nil) (.dir .nil .nil)))))) .nil)))))) follows Tryd.func83 (by kernel_rfl) (Nat.le_of_ble_eq_true (by kernel_rfl)) (by kernel_rfl) h

/-- math.bits.Len64 -/
def W92 (x0 : AV) (H : Heap) (K : AV → Heap → Prop) : Prop :=
 letO (some ((.int .i64 0) : AV)) fun t2 =>
 true = true ∧ ∃ J1 : List AV → Heap → Prop, (
 letO (some (x0 : AV)) fun t3 =>
 letO (binF Tryd.prog .geq 141 t3 (.int .u64 4294967296)) fun t4 =>
 condA t4 true (
 letO (some (x0 : AV)) fun t5 =>
 letO (binF Tryd.prog .shr 141 t5 (.int .u64 32)) fun t6 =>
 letO (some (t6 : AV)) fun t0 =>
 letO (some ((.int .i64 32) : AV)) fun t2 =>
 J1 [t0, t2] H) (
 J1 [x0, t2] H)) ∧ ∀ L2 H3, J1 L2 H3 → -- [t0, t2]
 true = true ∧ ∃ J4 : List AV → Heap → Prop, (
 letO (some ((L2.getD 0 .any) : AV)) fun t7 =>
 letO (binF Tryd.prog .geq 141 t7 (.int .u64 65536)) fun t8 =>
 condA t8 true (
 letO (some ((L2.getD 0 .any) : AV)) fun t9 =>
 letO (binF Tryd.prog .shr 141 t9 (.int .u64 16)) fun t10 =>
 letO (some (t10 : AV)) fun t0 =>
 letO (some ((L2.getD 1 .any) : AV)) fun t11 =>
 letO (binF Tryd.prog .add 3 t11 (.int .i64 16)) fun t12 =>
 letO (some (t12 : AV)) fun t2 =>
 J4 [t0, t2] H3) (
 J4 [(L2.getD 0 .any), (L2.getD 1 .any)] H3)) ∧ ∀ L5 H6, J4 L5 H6 → -- [t0, t2]
 true = true ∧ ∃ J7 : List AV → Heap → Prop, (
 letO (some ((L5.getD 0 .any) : AV)) fun t13 =>
 letO (binF Tryd.prog .geq 141 t13 (.int .u64 256)) fun t14 =>
 condA t14 true (
 letO (some ((L5.getD 0 .any) : AV)) fun t15 =>
 letO (binF Tryd.prog .shr 141 t15 (.int .u64 8)) fun t16 =>
 letO (some (t16 : AV)) fun t0 =>
 letO (some ((L5.getD 1 .any) : AV)) fun t17 =>
 letO (binF Tryd.prog .add 3 t17 (.int .i64 8)) fun t18 =>
 letO (some (t18 : AV)) fun t2 =>
 J7 [t0, t2] H6) (
 J7 [(L5.getD 0 .any), (L5.getD 1 .any)] H6)) ∧ ∀ L8 H9, J7 L8 H9 → -- [t0, t2]
 letO (some ((L8.getD 1 .any) : AV)) fun t19 =>
 letO (some ((L8.getD 0 .any) : AV)) fun t20 =>
 letO (convF Tryd.prog 141 5 t20) fun t21 =>
 letO (indexF Tryd.prog 9 (.str (ByteArray.mk #[0, 1, 2, 2, 3, 3, 3, 3, 4, 4, 4, 4, 4, 4, 4, 4, 5, 5, 5, 5, 5, 5, 5, 5, 5, 5, 5, 5, 5, 5, 5, 5, 6, 6, 6, 6, 6, 6, 6, 6, 6, 6, 6, 6, 6, 6, 6, 6, 6, 6, 6, 6, 6, 6, 6, 6, 6, 6, 6, 6, 6, 6, 6, 6, 7, 7, 7, 7, 7, 7, 7, 7, 7, 7, 7, 7, 7, 7, 7, 7, 7, 7, 7, 7, 7, 7, 7, 7, 7, 7, 7, 7, 7, 7, 7, 7, 7, 7, 7, 7, 7, 7, 7, 7, 7, 7, 7, 7, 7, 7, 7, 7, 7, 7, 7, 7, 7, 7, 7, 7, 7, 7, 7, 7, 7, 7, 7, 7, 8, 8, 8, 8, 8, 8, 8, 8, 8, 8, 8, 8, 8, 8, 8, 8, 8, 8, 8, 8, 8, 8, 8, 8, 8, 8, 8, 8, 8, 8, 8, 8, 8, 8, 8, 8, 8, 8, 8, 8, 8, 8, 8, 8, 8, 8, 8, 8, 8, 8, 8, 8, 8, 8, 8, 8, 8, 8, 8, 8, 8, 8, 8, 8, 8, 8, 8, 8, 8, 8, 8, 8, 8, 8, 8, 8, 8, 8, 8, 8, 8, 8, 8, 8, 8, 8, 8, 8, 8, 8, 8, 8, 8, 8, 8, 8, 8, 8, 8, 8, 8, 8, 8, 8, 8, 8, 8, 8, 8, 8, 8, 8, 8, 8, 8, 8, 8, 8, 8, 8, 8, 8, 8, 8, 8, 8, 8, 8])) t21) fun t22 =>
 letO (convF Tryd.prog 5 3 t22) fun t23 =>
 letO (binF Tryd.prog .add 3 t19 t23) fun t24 =>
 letO (some (t24 : AV)) fun t2 =>
endK t2 H9 K

theorem W92_ok {x0 : AV} {H : Heap} {K : AV → Heap → Prop} (h : W92 x0 H K) : ACalls Tryd.prog 92 [x0] H K :=
  acallsB (fn := Tryd.f92) (cfg := cfgOf [] [] [] [] [] []) (hh := (.dir .nil (.cut [0, 2] [3, 4, 5, 6, 0, 2] (.dir .nil (.dir .nil .nil)) (.cut [0, 2] [7, 8, 9, 10, 0, 11, 12, 2] (.dir .nil (.dir .nil .nil)) (.cut [0, 2] [13, 14, 15, 16, 0, 17, 18, 2] (.dir .nil (.dir .nil .nil)) .nil))))) follows Tryd.func92 (by kernel_rfl) (Nat.le_of_ble_eq_true (by kernel_rfl)) (by kernel_rfl) h

/-- cmp.isNaN[int] -/
def W93 (x0 : AV) (H : Heap) (K : AV → Heap → Prop) : Prop :=
 letO (some ((.bool false) : AV)) fun t2 =>
 letO (some (x0 : AV)) fun t3 =>
 letO (some (x0 : AV)) fun t4 =>
 letO (binF Tryd.prog .neq 3 t3 t4) fun t5 =>
 letO (some (t5 : AV)) fun t2 =>
endK t2 H K

theorem W93_ok {x0 : AV} {H : Heap} {K : AV → Heap → Prop} (h : W93 x0 H K) : ACalls Tryd.prog 93 [x0] H K :=
  acallsB (fn := Tryd.f93) (cfg := cfgOf [] [] [] [] [] []) (hh := (.dir .nil .nil)) follows Tryd.func93 (by kernel_rfl) (Nat.le_of_ble_eq_true (by kernel_rfl)) (by kernel_rfl) h

/-- slices.IndexFunc[[][2]int,[2]int] -/
def W94 (x0 x1 : AV) (H : Heap) (K : AV → Heap → Prop) : Prop :=
 letO (some ((.int .i64 0) : AV)) fun t4 =>
 letO (some (x0 : AV)) fun t6 =>
 letO (lenA t6) fun t7 =>
 letO (some ((.int .i64 0) : AV)) fun t8 =>
 true = true ∧ ∃ (I1 : List AV → Heap → Prop) (μ2 : List AV → Heap → Nat), I1 [t8] H ∧ ∀ L3 H4, I1 L3 H4 → -- [t8]
 letO (binF Tryd.prog .lss 3 (L3.getD 0 .any) t7) fun t9 =>
 condA t9 true (
 letO (some ((L3.getD 0 .any) : AV)) fun t10 =>
 letO (some (t10 : AV)) fun t5 =>
 letO (some (x1 : AV)) fun t11 =>
 letO (some (x0 : AV)) fun t12 =>
 letO (some (t5 : AV)) fun t13 =>
 letO (idx 2 t12 t13) fun t14 =>
 letO (loadN 2 t14 H4) fun t15 =>
 callA Tryd.prog t11 [t15] (fun t16 H5 =>
 condA t16 true (
 letO (some (t5 : AV)) fun t17 =>
 letO (some (t17 : AV)) fun t4 =>
endK t4 H5 K) (
 letO (binF Tryd.prog .add 3 (L3.getD 0 .any) (.int .i64 1)) fun t18 =>
 letO (some (t18 : AV)) fun t8 =>
 I1 [t8] H5 ∧ μ2 [t8] H5 < μ2 L3 H4)) H4) (
 letO (some ((.int .i64 (-1)) : AV)) fun t4 =>
endK t4 H4 K)

theorem W94_ok {x0 x1 : AV} {H : Heap} {K : AV → Heap → Prop} (h : W94 x0 x1 H K) : ACalls Tryd.prog 94 [x0, x1] H K :=
  acallsB (fn := Tryd.f94) (cfg := cfgOf [] [] [] [] [] []) (hh := (.dir .nil (.dir (.dir .nil (.blk (.loop [8] [9, 10, 5, 11, 12, 13, 14, 15, 16, 17, 4, 18, 8] (.dir .nil (.dir .nil (.dir (.blk (.dir .nil (.dir .nil (.dir .nil .nil)))) .nil)))))) .nil))) follows Tryd.func94 (by kernel_rfl) (Nat.le_of_ble_eq_true (by kernel_rfl)) (by kernel_rfl) h

/-- headword.short.Ways -/
def W95 (x0 x1 : AV) (H : Heap) (K : AV → Heap → Prop) : Prop :=
 letO (some ((.int .i64 0) : AV)) fun t4 =>
 letO (some ((.int .i64 0) : AV)) fun t5 =>
 letO (some (x0 : AV)) fun t11 =>
 letO (some (x1 : AV)) fun t12 =>
 letO (literalF Tryd.prog 182 2 [(0, t11), (1, t12)]) fun c1 =>
 ACalls Tryd.prog 107 [(.imm 2 true c1)] H fun t14 H2 =>
 letO (some (t14 : AV)) fun t6 =>
 letO (some (t6 : AV)) fun t15 =>
 letO (binF Tryd.prog .neq 32 t15 (.int .i64 0)) fun t16 =>
 condA t16 true (
 letO (some (t6 : AV)) fun t17 =>
 letO (some ((.int .i64 0) : AV)) fun t4 =>
 letO (some (t17 : AV)) fun t5 =>
endK (.tup [t4, t5]) H2 K) (
 letO (some (x1 : AV)) fun t18 =>
 letO (lenS t18) fun t19 =>
 letO (binF Tryd.prog .add 3 t19 (.int .i64 1)) fun t20 =>
 makeA [(.int .i64 0)] 1 8 t20 t20 (fun t21 H3 =>
 letO (some (t21 : AV)) fun t7 =>
 letO (some (t7 : AV)) fun t22 =>
 letO (idx 1 t22 (.int .i64 0)) fun t23 =>
 storeA 1 t23 (.int .i64 1) (fun H4 =>
 letO (some (x0 : AV)) fun t24 =>
 toBytesA t24 (fun t25 H5 =>
 letO (lenA t25) fun t26 =>
 letO (some ((.int .i64 0) : AV)) fun t27 =>
 true = true ∧ ∃ (I6 : List AV → Heap → Prop) (μ7 : List AV → Heap → Nat), I6 [t27] H5 ∧ ∀ L8 H9, I6 L8 H9 → -- [t27]
 letO (binF Tryd.prog .lss 3 (L8.getD 0 .any) t26) fun t28 =>
 condA t28 true (
 letO (idx 1 t25 (L8.getD 0 .any)) fun t29 =>
 letO (load1 t29 H9) fun t30 =>
 letO (some (t30 : AV)) fun t9 =>
 letO (some (x1 : AV)) fun t31 =>
 letO (lenS t31) fun t32 =>
 letO (some (t32 : AV)) fun t10 =>
 true = true ∧ ∃ (I10 : List AV → Heap → Prop) (μ11 : List AV → Heap → Nat), I10 [t10] H9 ∧ ∀ L12 H13, I10 L12 H13 → -- [t10]
 letO (some ((L12.getD 0 .any) : AV)) fun t33 =>
 letO (binF Tryd.prog .gtr 3 t33 (.int .i64 0)) fun t34 =>
 condA t34 true (
 true = true ∧ ∃ J14 : List AV → Heap → Prop, (
 letO (some (x1 : AV)) fun t37 =>
 letO (some ((L12.getD 0 .any) : AV)) fun t38 =>
 letO (binF Tryd.prog .sub 3 t38 (.int .i64 1)) fun t39 =>
 letO (indexF Tryd.prog 9 t37 t39) fun t40 =>
 letO (some (t9 : AV)) fun t41 =>
 letO (binF Tryd.prog .eql 5 t40 t41) fun t42 =>
 condA t42 true (
 true = true ∧
 letO (some (t7 : AV)) fun t43 =>
 letO (some ((L12.getD 0 .any) : AV)) fun t44 =>
 letO (idx 1 t43 t44) fun t45 =>
 letO (load1 t45 H13) fun t46 =>
 letO (some (t7 : AV)) fun t47 =>
 letO (some ((L12.getD 0 .any) : AV)) fun t48 =>
 letO (binF Tryd.prog .sub 3 t48 (.int .i64 1)) fun t49 =>
 letO (idx 1 t47 t49) fun t50 =>
 letO (load1 t50 H13) fun t51 =>
 letO (binF Tryd.prog .add 3 t46 t51) fun t52 =>
 letO (idx 1 t43 t44) fun t53 =>
 storeA 1 t53 t52 (fun H15 =>
 J14 [] H15) H13) (
 J14 [] H13)) ∧ ∀ L16 H17, J14 L16 H17 → -- []
 letO (some ((L12.getD 0 .any) : AV)) fun t35 =>
 letO (binF Tryd.prog .sub 3 t35 (.int .i64 1)) fun t36 =>
 letO (some (t36 : AV)) fun t10 =>
 I10 [t10] H17 ∧ μ11 [t10] H17 < μ11 L12 H13) (
 letO (binF Tryd.prog .add 3 (L8.getD 0 .any) (.int .i64 1)) fun t54 =>
 letO (some (t54 : AV)) fun t27 =>
 I6 [t27] H13 ∧ μ7 [t27] H13 < μ7 L8 H9)) (
 letO (some (t7 : AV)) fun t55 =>
 letO (some (x1 : AV)) fun t56 =>
 letO (lenS t56) fun t57 =>
 letO (idx 1 t55 t57) fun t58 =>
 letO (load1 t58 H9) fun t59 =>
 letO (some (t59 : AV)) fun t4 =>
 letO (some ((.int .i64 0) : AV)) fun t5 =>
endK (.tup [t4, t5]) H9 K)) H4) H3) H2)

theorem W95_ok {x0 x1 : AV} {H : Heap} {K : AV → Heap → Prop} (h : W95 x0 x1 H K) : ACalls Tryd.prog 95 [x0, x1] H K :=
  acallsB (fn := Tryd.f95) (cfg := cfgOf [] [] [(13, [0, 0, 3, 7, 0, 0, 32, 112, 240, 511, 1023, 2047])] [] [] [25]) (hh := (.dir .nil (.dir (.dir .nil (.dir .nil (.dir .nil .nil))) (.dir .nil (.dir .nil (.dir (.dir .nil (.blk (.loop [27] [28, 29, 30, 9, 31, 32, 10, 33, 34, 37, 38, 39, 40, 41, 42, 43, 44, 45, 46, 47, 48, 49, 50, 51, 52, 53, 35, 36, 54, 27] (.dir .nil (.dir .nil (.dir (.blk (.dir .nil (.dir .nil (.blk (.loop [10] [33, 34, 37, 38, 39, 40, 41, 42, 43, 44, 45, 46, 47, 48, 49, 50, 51, 52, 53, 35, 36, 10] (.dir (.dir .nil .nil) (.cut [] [37, 38, 39, 40, 41, 42, 43, 44, 45, 46, 47, 48, 49, 50, 51, 52, 53] (.blk (.dir .nil .nil)) .nil))))))) .nil)))))) .nil)))))) follows Tryd.func95 (by kernel_rfl) (Nat.le_of_ble_eq_true (by kernel_rfl)) (by kernel_rfl) h

/-- headword.short.Missing -/
def W96 (x0 x1 : AV) (H : Heap) (K : AV → Heap → Prop) : Prop :=
 letO (some ((.str (ByteArray.mk #[])) : AV)) fun t4 =>
 letO (some ((.int .i64 0) : AV)) fun t5 =>
 letO (some (x0 : AV)) fun t12 =>
 letO (some (x1 : AV)) fun t13 =>
 ACalls Tryd.prog 41 [t12, t13] H fun t14 H1 =>
 letO (some (t14 : AV)) fun t6 =>
 letO (some (t6 : AV)) fun t15 =>
 letO (binF Tryd.prog .neq 32 t15 (.int .i64 0)) fun t16 =>
 condA t16 true (
 letO (some (t6 : AV)) fun t17 =>
 letO (some ((.str (ByteArray.mk #[])) : AV)) fun t4 =>
 letO (some (t17 : AV)) fun t5 =>
endK (.tup [t4, t5]) H1 K) (
 letO (some (.nils : AV)) fun t7 =>
 true = true ∧ ∃ (I2 : List AV → Heap → Prop) (μ3 : List AV → Heap → Nat), I2 [t7, x0] H1 ∧ ∀ L4 H5, I2 L4 H5 → -- [t7, t0]
 letO (some ((L4.getD 1 .any) : AV)) fun t18 =>
 letO (some (x1 : AV)) fun t19 =>
 ACalls Tryd.prog 42 [t18, t19] H5 fun t20 H6 =>
 letO (lenA t20) fun t21 =>
 letO (some (t21 : AV)) fun t8 =>
 letO (some ((.bool false) : AV)) fun t9 =>
 letO (some ((.int .u8 97) : AV)) fun t10 =>
 true = true ∧ ∃ (I7 : List AV → Heap → Prop) (μ8 : List AV → Heap → Nat), I7 [(L4.getD 0 .any), (L4.getD 1 .any), t9, t10] H6 ∧ ∀ L9 H10, I7 L9 H10 → -- [t7, t0, t9, t10]
 letO (some ((L9.getD 3 .any) : AV)) fun t22 =>
 letO (some (x1 : AV)) fun t23 =>
 letO (binF Tryd.prog .add 3 (.int .i64 97) t23) fun t24 =>
 letO (convF Tryd.prog 3 5 t24) fun t25 =>
 letO (binF Tryd.prog .lss 5 t22 t25) fun t26 =>
 letO (some (t26 : AV)) fun t27 =>
 letO (gval t27 true (some ((L9.getD 2 .any) : AV))) fun t28 =>
 letO (gval t27 true (unF .not t28)) fun t29 =>
 letO (pickF t27 t29 (.bool false)) fun t30 =>
 condA t30 true (
 true = true ∧ ∃ J11 : List AV → Heap → Prop, (
 letO (some ((L9.getD 1 .any) : AV)) fun t33 =>
 toBytesA t33 (fun t34 H12 =>
 letO (some ((L9.getD 3 .any) : AV)) fun t35 =>
 ACalls Tryd.prog 108 [t34, t35] H12 fun t36 H13 =>
 letO (some (t36 : AV)) fun t11 =>
 letO (some (t11 : AV)) fun t38 =>
 letO (binF Tryd.prog .lss 3 t38 (.int .i64 0)) fun t39 =>
 letO (some (t39 : AV)) fun t37 =>
 condA t37 true (
 letO (some ((L9.getD 0 .any) : AV)) fun t40 =>
 letO (some ((L9.getD 3 .any) : AV)) fun t41 =>
 letO (literalF Tryd.prog 49 1 [(0, t41)]) fun c14 =>
 appendA 1 1 t40 (.imm 1 true c14) (fun t43 H15 =>
 toStrA t43 (fun t44 H16 =>
 letO (some (t44 : AV)) fun t4 =>
 letO (some ((.int .i64 0) : AV)) fun t5 =>
endK (.tup [t4, t5]) H16 K) H15) H13) (
 letO (some (t8 : AV)) fun t46 =>
 letO (binF Tryd.prog .gtr 3 t46 (.int .i64 0)) fun t47 =>
 letO (some (t47 : AV)) fun t48 =>
 letO (gval t48 true (some ((L9.getD 1 .any) : AV))) fun t49 =>
 letO (gval t48 true (some (t11 : AV))) fun t50 =>
 letO (gval t48 true (binF Tryd.prog .add 3 t50 (.int .i64 1))) fun t51 =>
 letO (gval t48 true (slcS t49 (some t51) none none)) fun t52 =>
 letO (gval t48 true (some (x1 : AV))) fun t53 =>
 ∃ J17 : AV → Heap → Prop, condG t48 true (ACalls Tryd.prog 42 [t52, t53] H13 fun t54 H18 =>
 J17 t54 H18) (J17 (.tup []) H13) ∧ ∀ t54 H19, J17 t54 H19 →
 letO (gval t48 true (lenA t54)) fun t55 =>
 letO (gval t48 true (some (t8 : AV))) fun t56 =>
 letO (gval t48 true (binF Tryd.prog .sub 3 t56 (.int .i64 1))) fun t57 =>
 letO (gval t48 true (binF Tryd.prog .eql 3 t55 t57)) fun t58 =>
 letO (pickF t48 t58 (.bool false)) fun t59 =>
 letO (some (t59 : AV)) fun t45 =>
 condA t45 true (
 true = true ∧
 letO (some ((L9.getD 0 .any) : AV)) fun t60 =>
 letO (some ((L9.getD 3 .any) : AV)) fun t61 =>
 letO (literalF Tryd.prog 49 1 [(0, t61)]) fun c20 =>
 letO (some ((L9.getD 1 .any) : AV)) fun t64 =>
 letO (some (t11 : AV)) fun t65 =>
 letO (binF Tryd.prog .add 3 t65 (.int .i64 1)) fun t66 =>
 letO (slcS t64 (some t66) none none) fun t67 =>
 appendA 1 1 t60 (.imm 1 true c20) (fun t63 H21 =>
 letO (some (t63 : AV)) fun t7 =>
 letO (some (t67 : AV)) fun t0 =>
 letO (some ((.bool true) : AV)) fun t9 =>
 J11 [t7, t0, t9] H21) H19) (
 J11 [(L9.getD 0 .any), (L9.getD 1 .any), (L9.getD 2 .any)] H19))) H10) ∧ ∀ L22 H23, J11 L22 H23 → -- [t7, t0, t9]
 letO (some ((L9.getD 3 .any) : AV)) fun t31 =>
 letO (binF Tryd.prog .add 5 t31 (.int .u8 1)) fun t32 =>
 letO (some (t32 : AV)) fun t10 =>
 I7 [(L22.getD 0 .any), (L22.getD 1 .any), (L22.getD 2 .any), t10] H23 ∧ μ8 [(L22.getD 0 .any), (L22.getD 1 .any), (L22.getD 2 .any), t10] H23 < μ8 L9 H10) (
 I2 [(L9.getD 0 .any), (L9.getD 1 .any)] H10 ∧ μ3 [(L9.getD 0 .any), (L9.getD 1 .any)] H10 < μ3 L4 H5))

theorem W96_ok {x0 x1 : AV} {H : Heap} {K : AV → Heap → Prop} (h : W96 x0 x1 H K) : ACalls Tryd.prog 96 [x0, x1] H K :=
  acallsB (fn := Tryd.f96) (cfg := cfgOf [] [] [(14, [0, 0, 2, 7, 0, 0, 32, 112, 15, 511, 1023])] [] [] [34, 44]) (hh := (.dir .nil (.dir (.dir .nil (.dir .nil (.dir .nil .nil))) (.dir .nil (.blk (.loop [7, 0] [18, 19, 20, 21, 8, 9, 10, 22, 23, 24, 25, 26, 27, 28, 29, 30, 33, 34, 35, 36, 11, 38, 39, 37, 40, 41, 42, 43, 44, 4, 5, 46, 47, 48, 49, 50, 51, 52, 53, 54, 55, 56, 57, 58, 59, 45, 60, 61, 62, 63, 64, 65, 66, 67, 7, 0, 31, 32] (.blk (.dir .nil (.dir .nil (.dir .nil (.blk (.loop [7, 0, 9, 10] [22, 23, 24, 25, 26, 27, 28, 29, 30, 33, 34, 35, 36, 11, 38, 39, 37, 40, 41, 42, 43, 44, 4, 5, 46, 47, 48, 49, 50, 51, 52, 53, 54, 55, 56, 57, 58, 59, 45, 60, 61, 62, 63, 64, 65, 66, 67, 7, 0, 9, 31, 32, 10] (.dir (.dir .nil .nil) (.cut [7, 0, 9] [33, 34, 35, 36, 11, 38, 39, 37, 40, 41, 42, 43, 44, 4, 5, 46, 47, 48, 49, 50, 51, 52, 53, 54, 55, 56, 57, 58, 59, 45, 60, 61, 62, 63, 64, 65, 66, 67, 7, 0, 9] (.blk (.dir .nil (.blk (.dir .nil (.dir .nil (.dir .nil .nil)))))) .nil)))))))))))))) follows Tryd.func96 (by kernel_rfl) (Nat.le_of_ble_eq_true (by kernel_rfl)) (by kernel_rfl) h

/-- headword.short.Left -/
def W97 (x0 x1 : AV) (H : Heap) (K : AV → Heap → Prop) : Prop :=
 letO (some ((.bool false) : AV)) fun t4 =>
 letO (some ((.int .i64 0) : AV)) fun t5 =>
 true = true ∧ ∃ (I1 : List AV → Heap → Prop) (μ2 : List AV → Heap → Nat), I1 [x1, t5] H ∧ ∀ L3 H4, I1 L3 H4 → -- [t1, t5]
 letO (some ((L3.getD 1 .any) : AV)) fun t6 =>
 letO (some (x0 : AV)) fun t7 =>
 letO (lenS t7) fun t8 =>
 letO (binF Tryd.prog .lss 3 t6 t8) fun t9 =>
 letO (some (t9 : AV)) fun t10 =>
 letO (gval t10 true (some ((L3.getD 0 .any) : AV))) fun t11 =>
 letO (gval t10 true (binF Tryd.prog .neq 9 t11 (.str (ByteArray.mk #[])))) fun t12 =>
 letO (pickF t10 t12 (.bool false)) fun t13 =>
 condA t13 true (
 true = true ∧ ∃ J5 : List AV → Heap → Prop, (
 true = true ∧
 letO (some (x0 : AV)) fun t16 =>
 letO (some ((L3.getD 1 .any) : AV)) fun t17 =>
 letO (indexF Tryd.prog 9 t16 t17) fun t18 =>
 letO (some ((L3.getD 0 .any) : AV)) fun t19 =>
 letO (indexF Tryd.prog 9 t19 (.int .i64 0)) fun t20 =>
 letO (binF Tryd.prog .eql 5 t18 t20) fun t21 =>
 condA t21 true (
 letO (some ((L3.getD 0 .any) : AV)) fun t22 =>
 letO (slcS t22 (some (.int .i64 1)) none none) fun t23 =>
 letO (some (t23 : AV)) fun t1 =>
 J5 [t1] H4) (
 J5 [(L3.getD 0 .any)] H4)) ∧ ∀ L6 H7, J5 L6 H7 → -- [t1]
 letO (some ((L3.getD 1 .any) : AV)) fun t14 =>
 letO (binF Tryd.prog .add 3 t14 (.int .i64 1)) fun t15 =>
 letO (some (t15 : AV)) fun t5 =>
 I1 [(L6.getD 0 .any), t5] H7 ∧ μ2 [(L6.getD 0 .any), t5] H7 < μ2 L3 H4) (
 letO (some ((L3.getD 0 .any) : AV)) fun t24 =>
 letO (binF Tryd.prog .eql 9 t24 (.str (ByteArray.mk #[]))) fun t25 =>
 letO (some (t25 : AV)) fun t4 =>
endK t4 H4 K)

theorem W97_ok {x0 x1 : AV} {H : Heap} {K : AV → Heap → Prop} (h : W97 x0 x1 H K) : ACalls Tryd.prog 97 [x0, x1] H K :=
  acallsB (fn := Tryd.f97) (cfg := cfgOf [] [] [(4, [0, 0, 3, 0, 8, 31])] [] [] []) (hh := (.dir .nil (.dir (.dir .nil (.blk (.loop [1, 5] [6, 7, 8, 9, 10, 11, 12, 13, 16, 17, 18, 19, 20, 21, 22, 23, 1, 14, 15, 5] (.dir (.dir .nil .nil) (.cut [1] [16, 17, 18, 19, 20, 21, 22, 23, 1] (.blk (.dir .nil .nil)) .nil))))) .nil))) follows Tryd.func97 (by kernel_rfl) (Nat.le_of_ble_eq_true (by kernel_rfl)) (by kernel_rfl) h

/-- headword.short.checked -/
def W107 (x0 : AV) (H : Heap) (K : AV → Heap → Prop) : Prop :=
 letO (some ((.int .i64 0) : AV)) fun t2 =>
 letO (some (x0 : AV)) fun t6 =>
 letO (lenA t6) fun t7 =>
 letO (some ((.int .i64 0) : AV)) fun t8 =>
 true = true ∧ ∃ (I1 : List AV → Heap → Prop) (μ2 : List AV → Heap → Nat), I1 [t8] H ∧ ∀ L3 H4, I1 L3 H4 → -- [t8]
 letO (binF Tryd.prog .lss 3 (L3.getD 0 .any) t7) fun t9 =>
 condA t9 true (
 letO (idx 1 t6 (L3.getD 0 .any)) fun t10 =>
 letO (load1 t10 H4) fun t11 =>
 letO (some (t11 : AV)) fun t4 =>
 letO (some (t4 : AV)) fun t12 =>
 ACalls Tryd.prog 68 [t12] H4 fun t13 H5 =>
 letO (some (t13 : AV)) fun t5 =>
 letO (some (t5 : AV)) fun t14 =>
 letO (binF Tryd.prog .neq 32 t14 (.int .i64 0)) fun t15 =>
 condA t15 true (
 letO (some (t5 : AV)) fun t16 =>
 letO (some (t16 : AV)) fun t2 =>
endK t2 H5 K) (
 letO (binF Tryd.prog .add 3 (L3.getD 0 .any) (.int .i64 1)) fun t17 =>
 letO (some (t17 : AV)) fun t8 =>
 I1 [t8] H5 ∧ μ2 [t8] H5 < μ2 L3 H4)) (
 letO (some ((.int .i64 0) : AV)) fun t2 =>
endK t2 H4 K)

theorem W107_ok {x0 : AV} {H : Heap} {K : AV → Heap → Prop} (h : W107 x0 H K) : ACalls Tryd.prog 107 [x0] H K :=
  acallsB (fn := Tryd.f107) (cfg := cfgOf [] [] [] [] [] []) (hh := (.dir .nil (.dir (.dir .nil (.blk (.loop [8] [9, 10, 11, 4, 12, 13, 5, 14, 15, 16, 2, 17, 8] (.dir .nil (.dir .nil (.dir (.blk (.dir .nil (.dir .nil (.dir .nil (.dir .nil .nil))))) .nil)))))) .nil))) follows Tryd.func107 (by kernel_rfl) (Nat.le_of_ble_eq_true (by kernel_rfl)) (by kernel_rfl) h

/-- slices.Index[[]byte,byte] -/
def W108 (x0 x1 : AV) (H : Heap) (K : AV → Heap → Prop) : Prop :=
 letO (some ((.int .i64 0) : AV)) fun t4 =>
 letO (some (x0 : AV)) fun t6 =>
 letO (lenA t6) fun t7 =>
 letO (some ((.int .i64 0) : AV)) fun t8 =>
 true = true ∧ ∃ (I1 : List AV → Heap → Prop) (μ2 : List AV → Heap → Nat), I1 [t8] H ∧ ∀ L3 H4, I1 L3 H4 → -- [t8]
 letO (binF Tryd.prog .lss 3 (L3.getD 0 .any) t7) fun t9 =>
 condA t9 true (
 letO (some ((L3.getD 0 .any) : AV)) fun t10 =>
 letO (some (t10 : AV)) fun t5 =>
 letO (some (x1 : AV)) fun t11 =>
 letO (some (x0 : AV)) fun t12 =>
 letO (some (t5 : AV)) fun t13 =>
 letO (idx 1 t12 t13) fun t14 =>
 letO (load1 t14 H4) fun t15 =>
 letO (binF Tryd.prog .eql 5 t11 t15) fun t16 =>
 condA t16 true (
 letO (some (t5 : AV)) fun t17 =>
 letO (some (t17 : AV)) fun t4 =>
endK t4 H4 K) (
 letO (binF Tryd.prog .add 3 (L3.getD 0 .any) (.int .i64 1)) fun t18 =>
 letO (some (t18 : AV)) fun t8 =>
 I1 [t8] H4 ∧ μ2 [t8] H4 < μ2 L3 H4)) (
 letO (some ((.int .i64 (-1)) : AV)) fun t4 =>
endK t4 H4 K)

theorem W108_ok {x0 x1 : AV} {H : Heap} {K : AV → Heap → Prop} (h : W108 x0 x1 H K) : ACalls Tryd.prog 108 [x0, x1] H K :=
  acallsB (fn := Tryd.f108) (cfg := cfgOf [] [] [] [] [] []) (hh := (.dir .nil (.dir (.dir .nil (.blk (.loop [8] [9, 10, 5, 11, 12, 13, 14, 15, 16, 17, 4, 18, 8] (.dir .nil (.dir .nil (.dir (.blk (.dir .nil (.dir .nil (.dir .nil .nil)))) .nil)))))) .nil))) follows Tryd.func108 (by kernel_rfl) (Nat.le_of_ble_eq_true (by kernel_rfl)) (by kernel_rfl) h


end Go.Proofs.YtmmfelpgcdlgfaaDoor
