/- What this text proves: a part of the walk and of the plain laws of one card; no conditions. -/
import Derived.Test.YtemnjgkicndmjaaDoorWb4
import Derived.Test.YtemnjgkicndmjaaDoorCards
import Derived.Test.YtemnjgkicndmjaaDoorTie
import Derived.WalkKit
import Derived.ProofKit
import Derived.OpenShut
import Derived.ShutString
import Derived.ChangeOld
import Derived.Below
import Derived.Carry
import Derived.Deep.DeepHandedRow
import Derived.Lib.SmallJoins
import Derived.ChangeSlices
import Derived.LaidLaws
import Derived.ChangeSame
import Derived.Stop.Joined
import Derived.SevenTiedAt
namespace Go.Proofs.YtemnjgkicndmjaaDoor.Q
open Go.RowKit Go.Proofs.YtemnjgkicndmjaaDoor.E Go.Proofs.YtemnjgkicndmjaaDoorW.PrintWords Go.Proofs.YtemnjgkicndmjaaDoorW.PrintLast Go.Proofs.YtemnjgkicndmjaaDoorW.PrintMore
set_option linter.unusedVariables false
noncomputable def rf_IsInt.c (R : Type) (a : Nm) (K : (Bool) → Option R) : Option R :=
  (rf_CmpNat.c _ (a.2.2, ([(1 : Int)] : List Int)) fun t1 => K (t1 == (0 : Int)))
noncomputable def rf_IsInt.T (g46 : CF (List Int × List Int) (Int)) : List (Nat × Fun) := [(46, mk (more rI (one rI)) iI g46)]
theorem rf_IsInt.tok : TOk Tryd.prog (tb (rf_IsInt.T rf_CmpNat.c)) := (tb_cons rf_CmpNat.ok tb_nil)
set_option maxRecDepth 100000 in
theorem rf_IsInt.ex0 (g46 : CF (List Int × List Int) (Int)) (R : Type) (a : Nm) (K : (Bool) → Option R) : execFn' Tryd.prog (tb (rf_IsInt.T g46)) 60 Tryd.f66 R ((one kQ).enc a) (dk cb K) = (g46 _ (a.2.2, ([(1 : Int)] : List Int)) fun t1 => K (t1 == (0 : Int))) := by kernel_rfl
theorem rf_IsInt.sh : Shown Tryd.prog 66 (one kQ).enc cb rf_IsInt.c := exec_shown rf_IsInt.tok mixed Tryd.func66 (by kernel_rfl) (rf_IsInt.ex0 rf_CmpNat.c)
theorem rf_IsInt.ok : FunOk Tryd.prog 66 (mk (one kQ) cb rf_IsInt.c) := rf_IsInt.sh.ok (by kernel_rfl)
noncomputable def rf_Of.c (R : Type) (a : Nm) (K : (Nm) → Option R) : Option R :=
  (rf_natOf.c _ a.2.1 fun t1 => (rf_natOf.c _ a.2.2 fun t2 => K (a.1, t1, t2)))
noncomputable def rf_Of.T (g45 : CF (List Int) (List Int)) : List (Nat × Fun) := [(45, mk (one rU) rI g45)]
theorem rf_Of.tok : TOk Tryd.prog (tb (rf_Of.T rf_natOf.c)) := (tb_cons rf_natOf.ok tb_nil)
set_option maxRecDepth 100000 in
theorem rf_Of.ex0 (g45 : CF (List Int) (List Int)) (R : Type) (a : Nm) (K : (Nm) → Option R) : execFn' Tryd.prog (tb (rf_Of.T g45)) 60 Tryd.f24 R ((one kN).enc a) (dk kQ K) = (g45 _ a.2.1 fun t1 => (g45 _ a.2.2 fun t2 => K (a.1, t1, t2))) := by kernel_rfl
theorem rf_Of.sh : Shown Tryd.prog 24 (one kN).enc kQ rf_Of.c := exec_shown rf_Of.tok mixed Tryd.func24 (by kernel_rfl) (rf_Of.ex0 rf_natOf.c)
theorem rf_Of.ok : FunOk Tryd.prog 24 (mk (one kN) kQ rf_Of.c) := rf_Of.sh.ok (by kernel_rfl)
noncomputable def rf_reduce.c (R : Type) (a : Bool × List Int × List Int) (K : (Nm) → Option R) : Option R :=
  (rf_GcdNat.c _ (a.2.1, a.2.2) fun t1 => (rf_CmpNat.c _ (t1, ([(1 : Int)] : List Int)) fun t2 => (if (t2 != (0 : Int)) = true then (rf_DivNat.c _ (a.2.1, t1) fun t3 => (rf_DivNat.c _ (a.2.2, t1) fun t4 => (if a.1 = true then K ((decide ((t3.1.length : Int) > (0 : Int))), t3.1, t4.1) else K (false, t3.1, t4.1)))) else (if a.1 = true then K ((decide ((a.2.1.length : Int) > (0 : Int))), a.2.1, a.2.2) else K (false, a.2.1, a.2.2)))))
noncomputable def rf_reduce.T (g47 : CF (List Int × List Int) (List Int)) (g46 : CF (List Int × List Int) (Int)) (g76 : CF (List Int × List Int) ((List Int × List Int))) : List (Nat × Fun) := [(46, mk (more rI (one rI)) iI g46), (47, mk (more rI (one rI)) rI g47), (76, mk (more rI (one rI)) (tup (more rI (one rI))) g76)]
theorem rf_reduce.tok : TOk Tryd.prog (tb (rf_reduce.T rf_GcdNat.c rf_CmpNat.c rf_DivNat.c)) := (tb_cons rf_CmpNat.ok (tb_cons rf_GcdNat.ok (tb_cons rf_DivNat.ok tb_nil)))
set_option maxRecDepth 100000 in
theorem rf_reduce.ex0 (g47 : CF (List Int × List Int) (List Int)) (g46 : CF (List Int × List Int) (Int)) (g76 : CF (List Int × List Int) ((List Int × List Int))) (R : Type) (a : Bool × List Int × List Int) (K : (Nm) → Option R) : execFn' Tryd.prog (tb (rf_reduce.T g47 g46 g76)) 60 Tryd.f60 R ((more cb (more rI (one rI))).enc a) (dk kQ K) = (g47 _ (a.2.1, a.2.2) fun t1 => (g46 _ (t1, ([(1 : Int)] : List Int)) fun t2 => (if (t2 != (0 : Int)) = true then (g76 _ (a.2.1, t1) fun t3 => (g76 _ (a.2.2, t1) fun t4 => (if a.1 = true then K ((decide ((t3.1.length : Int) > (0 : Int))), t3.1, t4.1) else K (false, t3.1, t4.1)))) else (if a.1 = true then K ((decide ((a.2.1.length : Int) > (0 : Int))), a.2.1, a.2.2) else K (false, a.2.1, a.2.2))))) := by kernel_rfl
theorem rf_reduce.sh : Shown Tryd.prog 60 (more cb (more rI (one rI))).enc kQ rf_reduce.c := exec_shown rf_reduce.tok mixed Tryd.func60 (by kernel_rfl) (rf_reduce.ex0 rf_GcdNat.c rf_CmpNat.c rf_DivNat.c)
theorem rf_reduce.ok : FunOk Tryd.prog 60 (mk (more cb (more rI (one rI))) kQ rf_reduce.c) := rf_reduce.sh.ok (by kernel_rfl)
noncomputable def rf_Plus.c (R : Type) (a : Nm × Nm) (K : (Nm) → Option R) : Option R :=
  (rf_MulNat.c _ (a.1.2.1, a.2.2.2) fun t1 => (rf_MulNat.c _ (a.2.2.1, a.1.2.2) fun t2 => (rf_MulNat.c _ (a.1.2.2, a.2.2.2) fun t3 => (if (a.1.1 == a.2.1) = true then (rf_AddNat.c _ (t1, t2) fun t4 => (rf_reduce.c _ (a.1.1, t4, t3) fun t5 => K (t5.1, t5.2.1, t5.2.2))) else (rf_CmpNat.c _ (t1, t2) fun t6 => (if (decide (t6 ≥ (0 : Int))) = true then (rf_SubNat.c _ (t1, t2) fun t7 => (rf_reduce.c _ (a.1.1, t7, t3) fun t8 => K (t8.1, t8.2.1, t8.2.2))) else (rf_SubNat.c _ (t2, t1) fun t9 => (rf_reduce.c _ (a.2.1, t9, t3) fun t10 => K (t10.1, t10.2.1, t10.2.2)))))))))
noncomputable def rf_Plus.T (g63 : CF (List Int × List Int) (List Int)) (g90 : CF (List Int × List Int) (List Int)) (g60 : CF (Bool × List Int × List Int) (Nm)) (g46 : CF (List Int × List Int) (Int)) (g83 : CF (List Int × List Int) (List Int)) : List (Nat × Fun) := [(46, mk (more rI (one rI)) iI g46), (60, mk (more cb (more rI (one rI))) kQ g60), (63, mk (more rI (one rI)) rI g63), (83, mk (more rI (one rI)) rI g83), (90, mk (more rI (one rI)) rI g90)]
theorem rf_Plus.tok : TOk Tryd.prog (tb (rf_Plus.T rf_MulNat.c rf_AddNat.c rf_reduce.c rf_CmpNat.c rf_SubNat.c)) := (tb_cons rf_CmpNat.ok (tb_cons rf_reduce.ok (tb_cons rf_MulNat.ok (tb_cons rf_SubNat.ok (tb_cons rf_AddNat.ok tb_nil)))))
set_option maxRecDepth 100000 in
theorem rf_Plus.ex0 (g63 : CF (List Int × List Int) (List Int)) (g90 : CF (List Int × List Int) (List Int)) (g60 : CF (Bool × List Int × List Int) (Nm)) (g46 : CF (List Int × List Int) (Int)) (g83 : CF (List Int × List Int) (List Int)) (R : Type) (a : Nm × Nm) (K : (Nm) → Option R) : execFn' Tryd.prog (tb (rf_Plus.T g63 g90 g60 g46 g83)) 60 Tryd.f67 R ((more kQ (one kQ)).enc a) (dk kQ K) = (g63 _ (a.1.2.1, a.2.2.2) fun t1 => (g63 _ (a.2.2.1, a.1.2.2) fun t2 => (g63 _ (a.1.2.2, a.2.2.2) fun t3 => (if (a.1.1 == a.2.1) = true then (g90 _ (t1, t2) fun t4 => (g60 _ (a.1.1, t4, t3) fun t5 => K (t5.1, t5.2.1, t5.2.2))) else (g46 _ (t1, t2) fun t6 => (if (decide (t6 ≥ (0 : Int))) = true then (g83 _ (t1, t2) fun t7 => (g60 _ (a.1.1, t7, t3) fun t8 => K (t8.1, t8.2.1, t8.2.2))) else (g83 _ (t2, t1) fun t9 => (g60 _ (a.2.1, t9, t3) fun t10 => K (t10.1, t10.2.1, t10.2.2))))))))) := by kernel_rfl
theorem rf_Plus.sh : Shown Tryd.prog 67 (more kQ (one kQ)).enc kQ rf_Plus.c := exec_shown rf_Plus.tok mixed Tryd.func67 (by kernel_rfl) (rf_Plus.ex0 rf_MulNat.c rf_AddNat.c rf_reduce.c rf_CmpNat.c rf_SubNat.c)
theorem rf_Plus.ok : FunOk Tryd.prog 67 (mk (more kQ (one kQ)) kQ rf_Plus.c) := rf_Plus.sh.ok (by kernel_rfl)
noncomputable def rf_Minus.c (R : Type) (a : Nm) (K : (Nm) → Option R) : Option R :=
  (if (!a.1) = true then K ((decide ((a.2.1.length : Int) > (0 : Int))), a.2.1, a.2.2) else K (false, a.2.1, a.2.2))
noncomputable def rf_Minus.T : List (Nat × Fun) := []
theorem rf_Minus.tok : TOk Tryd.prog (tb (rf_Minus.T)) := tb_nil
set_option maxRecDepth 100000 in
theorem rf_Minus.ex0 (R : Type) (a : Nm) (K : (Nm) → Option R) : execFn' Tryd.prog (tb (rf_Minus.T)) 60 Tryd.f68 R ((one kQ).enc a) (dk kQ K) = (if (!a.1) = true then K ((decide ((a.2.1.length : Int) > (0 : Int))), a.2.1, a.2.2) else K (false, a.2.1, a.2.2)) := by kernel_rfl
theorem rf_Minus.sh : Shown Tryd.prog 68 (one kQ).enc kQ rf_Minus.c := exec_shown rf_Minus.tok mixed Tryd.func68 (by kernel_rfl) (rf_Minus.ex0)
theorem rf_Minus.ok : FunOk Tryd.prog 68 (mk (one kQ) kQ rf_Minus.c) := rf_Minus.sh.ok (by kernel_rfl)
noncomputable def rf_Product.c (R : Type) (a : Nm × Nm) (K : (Nm) → Option R) : Option R :=
  (rf_MulNat.c _ (a.1.2.1, a.2.2.1) fun t1 => (rf_MulNat.c _ (a.1.2.2, a.2.2.2) fun t2 => (rf_reduce.c _ ((!(a.1.1 == a.2.1)), t1, t2) fun t3 => K (t3.1, t3.2.1, t3.2.2))))
noncomputable def rf_Product.T (g63 : CF (List Int × List Int) (List Int)) (g60 : CF (Bool × List Int × List Int) (Nm)) : List (Nat × Fun) := [(60, mk (more cb (more rI (one rI))) kQ g60), (63, mk (more rI (one rI)) rI g63)]
theorem rf_Product.tok : TOk Tryd.prog (tb (rf_Product.T rf_MulNat.c rf_reduce.c)) := (tb_cons rf_reduce.ok (tb_cons rf_MulNat.ok tb_nil))
set_option maxRecDepth 100000 in
theorem rf_Product.ex0 (g63 : CF (List Int × List Int) (List Int)) (g60 : CF (Bool × List Int × List Int) (Nm)) (R : Type) (a : Nm × Nm) (K : (Nm) → Option R) : execFn' Tryd.prog (tb (rf_Product.T g63 g60)) 60 Tryd.f69 R ((more kQ (one kQ)).enc a) (dk kQ K) = (g63 _ (a.1.2.1, a.2.2.1) fun t1 => (g63 _ (a.1.2.2, a.2.2.2) fun t2 => (g60 _ ((!(a.1.1 == a.2.1)), t1, t2) fun t3 => K (t3.1, t3.2.1, t3.2.2)))) := by kernel_rfl
theorem rf_Product.sh : Shown Tryd.prog 69 (more kQ (one kQ)).enc kQ rf_Product.c := exec_shown rf_Product.tok mixed Tryd.func69 (by kernel_rfl) (rf_Product.ex0 rf_MulNat.c rf_reduce.c)
theorem rf_Product.ok : FunOk Tryd.prog 69 (mk (more kQ (one kQ)) kQ rf_Product.c) := rf_Product.sh.ok (by kernel_rfl)
noncomputable def rf_Inverse.c (R : Type) (a : Nm) (K : (Nm) → Option R) : Option R :=
  K (a.1, a.2.2, a.2.1)
noncomputable def rf_Inverse.T : List (Nat × Fun) := []
theorem rf_Inverse.tok : TOk Tryd.prog (tb (rf_Inverse.T)) := tb_nil
set_option maxRecDepth 100000 in
theorem rf_Inverse.ex0 (R : Type) (a : Nm) (K : (Nm) → Option R) : execFn' Tryd.prog (tb (rf_Inverse.T)) 60 Tryd.f70 R ((one kQ).enc a) (dk kQ K) = K (a.1, a.2.2, a.2.1) := by kernel_rfl
theorem rf_Inverse.sh : Shown Tryd.prog 70 (one kQ).enc kQ rf_Inverse.c := exec_shown rf_Inverse.tok mixed Tryd.func70 (by kernel_rfl) (rf_Inverse.ex0)
theorem rf_Inverse.ok : FunOk Tryd.prog 70 (mk (one kQ) kQ rf_Inverse.c) := rf_Inverse.sh.ok (by kernel_rfl)
noncomputable def rf_Made.c (R : Type) (a : Nm) (K : ((Nm × Int)) → Option R) : Option R :=
  (rf_limbs.c _ a.2.1 fun t1 => (rf_limbs.c _ a.2.2 fun t2 => (if (decide ((t1.length : Int) > (128 : Int))) = false then (if (decide ((t2.length : Int) > (128 : Int))) = true then K ((false, ([] : List Int), ([] : List Int)), (3 : Int)) else K ((a.1, t1, t2), (0 : Int))) else K ((false, ([] : List Int), ([] : List Int)), (3 : Int)))))
noncomputable def rf_Made.T (g108 : CF (List Int) (List Int)) : List (Nat × Fun) := [(108, mk (one rI) rU g108)]
theorem rf_Made.tok : TOk Tryd.prog (tb (rf_Made.T rf_limbs.c)) := (tb_cons rf_limbs.ok tb_nil)
set_option maxRecDepth 100000 in
theorem rf_Made.ex0 (g108 : CF (List Int) (List Int)) (R : Type) (a : Nm) (K : ((Nm × Int)) → Option R) : execFn' Tryd.prog (tb (rf_Made.T g108)) 60 Tryd.f59 R ((one kQ).enc a) (dk kE K) = (g108 _ a.2.1 fun t1 => (g108 _ a.2.2 fun t2 => (if (decide ((t1.length : Int) > (128 : Int))) = false then (if (decide ((t2.length : Int) > (128 : Int))) = true then K ((false, ([] : List Int), ([] : List Int)), (3 : Int)) else K ((a.1, t1, t2), (0 : Int))) else K ((false, ([] : List Int), ([] : List Int)), (3 : Int))))) := by kernel_rfl
theorem rf_Made.sh : Shown Tryd.prog 59 (one kQ).enc kE rf_Made.c := exec_shown rf_Made.tok mixed Tryd.func59 (by kernel_rfl) (rf_Made.ex0 rf_limbs.c)
theorem rf_Made.ok : FunOk Tryd.prog 59 (mk (one kQ) kE rf_Made.c) := rf_Made.sh.ok (by kernel_rfl)
noncomputable def rf_Two43.c (R : Type) (a : Nm × Nm) (K : ((Nm × Int)) → Option R) : Option R :=
  (rf_Fault.c _ (a.1.1, a.1.2.1, a.1.2.2) fun t1 => (if (t1 != (0 : Int)) = true then K ((false, ([] : List Int), ([] : List Int)), t1) else (rf_Fault.c _ (a.2.1, a.2.2.1, a.2.2.2) fun t2 => (if (t2 != (0 : Int)) = true then K ((false, ([] : List Int), ([] : List Int)), t2) else (rf_Of.c _ (a.1.1, a.1.2.1, a.1.2.2) fun t3 => (rf_Of.c _ (a.2.1, a.2.2.1, a.2.2.2) fun t4 => (rf_Plus.c _ ((t3.1, t3.2.1, t3.2.2), (t4.1, t4.2.1, t4.2.2)) fun t5 => (rf_Made.c _ (t5.1, t5.2.1, t5.2.2) fun t6 => K ((t6.1.1, t6.1.2.1, t6.1.2.2), t6.2)))))))))
noncomputable def rf_Two43.T (g15 : CF (Nm) (Int)) (g24 : CF (Nm) (Nm)) (g67 : CF (Nm × Nm) (Nm)) (g59 : CF (Nm) ((Nm × Int))) : List (Nat × Fun) := [(15, mk (one kN) iI g15), (24, mk (one kN) kQ g24), (59, mk (one kQ) kE g59), (65, mk (more cs (one (ci .u8))) iI strings_IndexByte.c), (67, mk (more kQ (one kQ)) kQ g67)]
theorem rf_Two43.tok : TOk Tryd.prog (tb (rf_Two43.T rf_Fault.c rf_Of.c rf_Plus.c rf_Made.c)) := (tb_cons rf_Fault.ok (tb_cons rf_Of.ok (tb_cons rf_Made.ok (tb_cons strings_IndexByte.ok (tb_cons rf_Plus.ok tb_nil)))))
set_option maxRecDepth 100000 in
theorem rf_Two43.ex0 (g15 : CF (Nm) (Int)) (g24 : CF (Nm) (Nm)) (g67 : CF (Nm × Nm) (Nm)) (g59 : CF (Nm) ((Nm × Int))) (R : Type) (a : Nm × Nm) (K : ((Nm × Int)) → Option R) : execFn' Tryd.prog (tb (rf_Two43.T g15 g24 g67 g59)) 60 Tryd.f26 R [.int .u8 (43 : Int), .agg [.bool a.1.1, .row .u32 a.1.2.1, .row .u32 a.1.2.2], .agg [.bool a.2.1, .row .u32 a.2.2.1, .row .u32 a.2.2.2]] (dk kE K) = (g15 _ (a.1.1, a.1.2.1, a.1.2.2) fun t1 => (if (t1 != (0 : Int)) = true then K ((false, ([] : List Int), ([] : List Int)), t1) else (g15 _ (a.2.1, a.2.2.1, a.2.2.2) fun t2 => (if (t2 != (0 : Int)) = true then K ((false, ([] : List Int), ([] : List Int)), t2) else (g24 _ (a.1.1, a.1.2.1, a.1.2.2) fun t3 => (g24 _ (a.2.1, a.2.2.1, a.2.2.2) fun t4 => (g67 _ ((t3.1, t3.2.1, t3.2.2), (t4.1, t4.2.1, t4.2.2)) fun t5 => (g59 _ (t5.1, t5.2.1, t5.2.2) fun t6 => K ((t6.1.1, t6.1.2.1, t6.1.2.2), t6.2))))))))) := by kernel_rfl
theorem rf_Two43.sh : Shown Tryd.prog 26 (fun (a : Nm × Nm) => [.int .u8 (43 : Int), .agg [.bool a.1.1, .row .u32 a.1.2.1, .row .u32 a.1.2.2], .agg [.bool a.2.1, .row .u32 a.2.2.1, .row .u32 a.2.2.2]]) kE rf_Two43.c := exec_shown rf_Two43.tok mixed Tryd.func26 (by kernel_rfl) (rf_Two43.ex0 rf_Fault.c rf_Of.c rf_Plus.c rf_Made.c)
noncomputable def rf_Two45.c (R : Type) (a : Nm × Nm) (K : ((Nm × Int)) → Option R) : Option R :=
  (rf_Fault.c _ (a.1.1, a.1.2.1, a.1.2.2) fun t1 => (if (t1 != (0 : Int)) = true then K ((false, ([] : List Int), ([] : List Int)), t1) else (rf_Fault.c _ (a.2.1, a.2.2.1, a.2.2.2) fun t2 => (if (t2 != (0 : Int)) = true then K ((false, ([] : List Int), ([] : List Int)), t2) else (rf_Of.c _ (a.1.1, a.1.2.1, a.1.2.2) fun t3 => (rf_Of.c _ (a.2.1, a.2.2.1, a.2.2.2) fun t4 => (rf_Minus.c _ (t4.1, t4.2.1, t4.2.2) fun t5 => (rf_Plus.c _ ((t3.1, t3.2.1, t3.2.2), (t5.1, t5.2.1, t5.2.2)) fun t6 => (rf_Made.c _ (t6.1, t6.2.1, t6.2.2) fun t7 => K ((t7.1.1, t7.1.2.1, t7.1.2.2), t7.2))))))))))
noncomputable def rf_Two45.T (g15 : CF (Nm) (Int)) (g24 : CF (Nm) (Nm)) (g68 : CF (Nm) (Nm)) (g67 : CF (Nm × Nm) (Nm)) (g59 : CF (Nm) ((Nm × Int))) : List (Nat × Fun) := [(15, mk (one kN) iI g15), (24, mk (one kN) kQ g24), (59, mk (one kQ) kE g59), (65, mk (more cs (one (ci .u8))) iI strings_IndexByte.c), (67, mk (more kQ (one kQ)) kQ g67), (68, mk (one kQ) kQ g68)]
theorem rf_Two45.tok : TOk Tryd.prog (tb (rf_Two45.T rf_Fault.c rf_Of.c rf_Minus.c rf_Plus.c rf_Made.c)) := (tb_cons rf_Fault.ok (tb_cons rf_Of.ok (tb_cons rf_Made.ok (tb_cons strings_IndexByte.ok (tb_cons rf_Plus.ok (tb_cons rf_Minus.ok tb_nil))))))
set_option maxRecDepth 100000 in
theorem rf_Two45.ex0 (g15 : CF (Nm) (Int)) (g24 : CF (Nm) (Nm)) (g68 : CF (Nm) (Nm)) (g67 : CF (Nm × Nm) (Nm)) (g59 : CF (Nm) ((Nm × Int))) (R : Type) (a : Nm × Nm) (K : ((Nm × Int)) → Option R) : execFn' Tryd.prog (tb (rf_Two45.T g15 g24 g68 g67 g59)) 60 Tryd.f26 R [.int .u8 (45 : Int), .agg [.bool a.1.1, .row .u32 a.1.2.1, .row .u32 a.1.2.2], .agg [.bool a.2.1, .row .u32 a.2.2.1, .row .u32 a.2.2.2]] (dk kE K) = (g15 _ (a.1.1, a.1.2.1, a.1.2.2) fun t1 => (if (t1 != (0 : Int)) = true then K ((false, ([] : List Int), ([] : List Int)), t1) else (g15 _ (a.2.1, a.2.2.1, a.2.2.2) fun t2 => (if (t2 != (0 : Int)) = true then K ((false, ([] : List Int), ([] : List Int)), t2) else (g24 _ (a.1.1, a.1.2.1, a.1.2.2) fun t3 => (g24 _ (a.2.1, a.2.2.1, a.2.2.2) fun t4 => (g68 _ (t4.1, t4.2.1, t4.2.2) fun t5 => (g67 _ ((t3.1, t3.2.1, t3.2.2), (t5.1, t5.2.1, t5.2.2)) fun t6 => (g59 _ (t6.1, t6.2.1, t6.2.2) fun t7 => K ((t7.1.1, t7.1.2.1, t7.1.2.2), t7.2)))))))))) := by kernel_rfl
theorem rf_Two45.sh : Shown Tryd.prog 26 (fun (a : Nm × Nm) => [.int .u8 (45 : Int), .agg [.bool a.1.1, .row .u32 a.1.2.1, .row .u32 a.1.2.2], .agg [.bool a.2.1, .row .u32 a.2.2.1, .row .u32 a.2.2.2]]) kE rf_Two45.c := exec_shown rf_Two45.tok mixed Tryd.func26 (by kernel_rfl) (rf_Two45.ex0 rf_Fault.c rf_Of.c rf_Minus.c rf_Plus.c rf_Made.c)
noncomputable def rf_Two42.c (R : Type) (a : Nm × Nm) (K : ((Nm × Int)) → Option R) : Option R :=
  (rf_Fault.c _ (a.1.1, a.1.2.1, a.1.2.2) fun t1 => (if (t1 != (0 : Int)) = true then K ((false, ([] : List Int), ([] : List Int)), t1) else (rf_Fault.c _ (a.2.1, a.2.2.1, a.2.2.2) fun t2 => (if (t2 != (0 : Int)) = true then K ((false, ([] : List Int), ([] : List Int)), t2) else (rf_Of.c _ (a.1.1, a.1.2.1, a.1.2.2) fun t3 => (rf_Of.c _ (a.2.1, a.2.2.1, a.2.2.2) fun t4 => (rf_Product.c _ ((t3.1, t3.2.1, t3.2.2), (t4.1, t4.2.1, t4.2.2)) fun t5 => (rf_Made.c _ (t5.1, t5.2.1, t5.2.2) fun t6 => K ((t6.1.1, t6.1.2.1, t6.1.2.2), t6.2)))))))))
noncomputable def rf_Two42.T (g15 : CF (Nm) (Int)) (g24 : CF (Nm) (Nm)) (g69 : CF (Nm × Nm) (Nm)) (g59 : CF (Nm) ((Nm × Int))) : List (Nat × Fun) := [(15, mk (one kN) iI g15), (24, mk (one kN) kQ g24), (59, mk (one kQ) kE g59), (65, mk (more cs (one (ci .u8))) iI strings_IndexByte.c), (69, mk (more kQ (one kQ)) kQ g69)]
theorem rf_Two42.tok : TOk Tryd.prog (tb (rf_Two42.T rf_Fault.c rf_Of.c rf_Product.c rf_Made.c)) := (tb_cons rf_Fault.ok (tb_cons rf_Of.ok (tb_cons rf_Made.ok (tb_cons strings_IndexByte.ok (tb_cons rf_Product.ok tb_nil)))))
set_option maxRecDepth 100000 in
theorem rf_Two42.ex0 (g15 : CF (Nm) (Int)) (g24 : CF (Nm) (Nm)) (g69 : CF (Nm × Nm) (Nm)) (g59 : CF (Nm) ((Nm × Int))) (R : Type) (a : Nm × Nm) (K : ((Nm × Int)) → Option R) : execFn' Tryd.prog (tb (rf_Two42.T g15 g24 g69 g59)) 60 Tryd.f26 R [.int .u8 (42 : Int), .agg [.bool a.1.1, .row .u32 a.1.2.1, .row .u32 a.1.2.2], .agg [.bool a.2.1, .row .u32 a.2.2.1, .row .u32 a.2.2.2]] (dk kE K) = (g15 _ (a.1.1, a.1.2.1, a.1.2.2) fun t1 => (if (t1 != (0 : Int)) = true then K ((false, ([] : List Int), ([] : List Int)), t1) else (g15 _ (a.2.1, a.2.2.1, a.2.2.2) fun t2 => (if (t2 != (0 : Int)) = true then K ((false, ([] : List Int), ([] : List Int)), t2) else (g24 _ (a.1.1, a.1.2.1, a.1.2.2) fun t3 => (g24 _ (a.2.1, a.2.2.1, a.2.2.2) fun t4 => (g69 _ ((t3.1, t3.2.1, t3.2.2), (t4.1, t4.2.1, t4.2.2)) fun t5 => (g59 _ (t5.1, t5.2.1, t5.2.2) fun t6 => K ((t6.1.1, t6.1.2.1, t6.1.2.2), t6.2))))))))) := by kernel_rfl
theorem rf_Two42.sh : Shown Tryd.prog 26 (fun (a : Nm × Nm) => [.int .u8 (42 : Int), .agg [.bool a.1.1, .row .u32 a.1.2.1, .row .u32 a.1.2.2], .agg [.bool a.2.1, .row .u32 a.2.2.1, .row .u32 a.2.2.2]]) kE rf_Two42.c := exec_shown rf_Two42.tok mixed Tryd.func26 (by kernel_rfl) (rf_Two42.ex0 rf_Fault.c rf_Of.c rf_Product.c rf_Made.c)
noncomputable def rf_Two47.c (R : Type) (a : Nm × Nm) (K : ((Nm × Int)) → Option R) : Option R :=
  (rf_Fault.c _ (a.1.1, a.1.2.1, a.1.2.2) fun t1 => (if (t1 != (0 : Int)) = true then K ((false, ([] : List Int), ([] : List Int)), t1) else (rf_Fault.c _ (a.2.1, a.2.2.1, a.2.2.2) fun t2 => (if (t2 != (0 : Int)) = true then K ((false, ([] : List Int), ([] : List Int)), t2) else (rf_Of.c _ (a.1.1, a.1.2.1, a.1.2.2) fun t3 => (rf_Of.c _ (a.2.1, a.2.2.1, a.2.2.2) fun t4 => (if ((t4.2.1.length : Int) == (0 : Int)) = false then (rf_Inverse.c _ (t4.1, t4.2.1, t4.2.2) fun t5 => (rf_Product.c _ ((t3.1, t3.2.1, t3.2.2), (t5.1, t5.2.1, t5.2.2)) fun t6 => (rf_Made.c _ (t6.1, t6.2.1, t6.2.2) fun t7 => K ((t7.1.1, t7.1.2.1, t7.1.2.2), t7.2)))) else K ((false, ([] : List Int), ([] : List Int)), (10 : Int)))))))))
noncomputable def rf_Two47.T (g15 : CF (Nm) (Int)) (g24 : CF (Nm) (Nm)) (g70 : CF (Nm) (Nm)) (g69 : CF (Nm × Nm) (Nm)) (g59 : CF (Nm) ((Nm × Int))) : List (Nat × Fun) := [(15, mk (one kN) iI g15), (24, mk (one kN) kQ g24), (59, mk (one kQ) kE g59), (65, mk (more cs (one (ci .u8))) iI strings_IndexByte.c), (69, mk (more kQ (one kQ)) kQ g69), (70, mk (one kQ) kQ g70)]
theorem rf_Two47.tok : TOk Tryd.prog (tb (rf_Two47.T rf_Fault.c rf_Of.c rf_Inverse.c rf_Product.c rf_Made.c)) := (tb_cons rf_Fault.ok (tb_cons rf_Of.ok (tb_cons rf_Made.ok (tb_cons strings_IndexByte.ok (tb_cons rf_Product.ok (tb_cons rf_Inverse.ok tb_nil))))))
set_option maxRecDepth 100000 in
theorem rf_Two47.ex0 (g15 : CF (Nm) (Int)) (g24 : CF (Nm) (Nm)) (g70 : CF (Nm) (Nm)) (g69 : CF (Nm × Nm) (Nm)) (g59 : CF (Nm) ((Nm × Int))) (R : Type) (a : Nm × Nm) (K : ((Nm × Int)) → Option R) : execFn' Tryd.prog (tb (rf_Two47.T g15 g24 g70 g69 g59)) 60 Tryd.f26 R [.int .u8 (47 : Int), .agg [.bool a.1.1, .row .u32 a.1.2.1, .row .u32 a.1.2.2], .agg [.bool a.2.1, .row .u32 a.2.2.1, .row .u32 a.2.2.2]] (dk kE K) = (g15 _ (a.1.1, a.1.2.1, a.1.2.2) fun t1 => (if (t1 != (0 : Int)) = true then K ((false, ([] : List Int), ([] : List Int)), t1) else (g15 _ (a.2.1, a.2.2.1, a.2.2.2) fun t2 => (if (t2 != (0 : Int)) = true then K ((false, ([] : List Int), ([] : List Int)), t2) else (g24 _ (a.1.1, a.1.2.1, a.1.2.2) fun t3 => (g24 _ (a.2.1, a.2.2.1, a.2.2.2) fun t4 => (if ((t4.2.1.length : Int) == (0 : Int)) = false then (g70 _ (t4.1, t4.2.1, t4.2.2) fun t5 => (g69 _ ((t3.1, t3.2.1, t3.2.2), (t5.1, t5.2.1, t5.2.2)) fun t6 => (g59 _ (t6.1, t6.2.1, t6.2.2) fun t7 => K ((t7.1.1, t7.1.2.1, t7.1.2.2), t7.2)))) else K ((false, ([] : List Int), ([] : List Int)), (10 : Int))))))))) := by kernel_rfl
theorem rf_Two47.sh : Shown Tryd.prog 26 (fun (a : Nm × Nm) => [.int .u8 (47 : Int), .agg [.bool a.1.1, .row .u32 a.1.2.1, .row .u32 a.1.2.2], .agg [.bool a.2.1, .row .u32 a.2.2.1, .row .u32 a.2.2.2]]) kE rf_Two47.c := exec_shown rf_Two47.tok mixed Tryd.func26 (by kernel_rfl) (rf_Two47.ex0 rf_Fault.c rf_Of.c rf_Inverse.c rf_Product.c rf_Made.c)
noncomputable def lw_same.c (R : Type) (a : Nm × Nm) (K : (Bool) → Option R) : Option R :=
  (if (a.1.1 == a.2.1) = true then (lw_sameLimbs.c _ (a.1.2.1, a.2.2.1) fun t1 => (if t1 = true then (lw_sameLimbs.c _ (a.1.2.2, a.2.2.2) fun t2 => K t2) else K false)) else K false)
noncomputable def lw_same.T (g55 : CF (List Int × List Int) (Bool)) : List (Nat × Fun) := [(55, mk (more rU (one rU)) cb g55)]
theorem lw_same.tok : TOk Tryd.prog (tb (lw_same.T lw_sameLimbs.c)) := (tb_cons lw_sameLimbs.ok tb_nil)
set_option maxRecDepth 100000 in
theorem lw_same.ex0 (g55 : CF (List Int × List Int) (Bool)) (R : Type) (a : Nm × Nm) (K : (Bool) → Option R) : execFn' Tryd.prog (tb (lw_same.T g55)) 60 Tryd.f20 R ((more kN (one kN)).enc a) (dk cb K) = (if (a.1.1 == a.2.1) = true then (g55 _ (a.1.2.1, a.2.2.1) fun t1 => (if t1 = true then (g55 _ (a.1.2.2, a.2.2.2) fun t2 => K t2) else K false)) else K false) := by kernel_rfl
theorem lw_same.sh : Shown Tryd.prog 20 (more kN (one kN)).enc cb lw_same.c := exec_shown lw_same.tok mixed Tryd.func20 (by kernel_rfl) (lw_same.ex0 lw_sameLimbs.c)
theorem lw_same.ok : FunOk Tryd.prog 20 (mk (more kN (one kN)) cb lw_same.c) := lw_same.sh.ok (by kernel_rfl)
noncomputable def rf_Two.c (R : Type) (a : Int × Nm × Nm) (K : ((Nm × Int)) → Option R) : Option R := if a.1 = 43 then rf_Two43.c R a.2 K else if a.1 = 45 then rf_Two45.c R a.2 K else if a.1 = 42 then rf_Two42.c R a.2 K else if a.1 = 47 then rf_Two47.c R a.2 K else none
theorem rf_Two.ok : FunOk Tryd.prog 26 (mk (more (ci .u8) (more kN (one kN))) kE rf_Two.c) := by
  refine mk_ok (by kernel_rfl) (fun R a K => ?_) (fun a b h => ?_)
  · unfold rf_Two.c
    by_cases h : a.1 = 43
    · rw [if_pos h, if_pos h]; exact rf_Two43.sh.1 R a.2 K
    rw [if_neg h, if_neg h]; clear h
    by_cases h : a.1 = 45
    · rw [if_pos h, if_pos h]; exact rf_Two45.sh.1 R a.2 K
    rw [if_neg h, if_neg h]; clear h
    by_cases h : a.1 = 42
    · rw [if_pos h, if_pos h]; exact rf_Two42.sh.1 R a.2 K
    rw [if_neg h, if_neg h]; clear h
    by_cases h : a.1 = 47
    · rw [if_pos h, if_pos h]; exact rf_Two47.sh.1 R a.2 K
    rw [if_neg h, if_neg h]; clear h
    rfl
  · obtain ⟨op, a⟩ := a
    unfold rf_Two.c at h
    by_cases c : op = 43
    · subst c; rw [if_pos rfl] at h; exact rf_Two43.sh.2 a b h
    rw [if_neg c] at h; clear c
    by_cases c : op = 45
    · subst c; rw [if_pos rfl] at h; exact rf_Two45.sh.2 a b h
    rw [if_neg c] at h; clear c
    by_cases c : op = 42
    · subst c; rw [if_pos rfl] at h; exact rf_Two42.sh.2 a b h
    rw [if_neg c] at h; clear c
    by_cases c : op = 47
    · subst c; rw [if_pos rfl] at h; exact rf_Two47.sh.2 a b h
    rw [if_neg c] at h; clear c
    cases h
noncomputable def lw_NumberPowersAdd.c (R : Type) (a : Nm × Int × Int) (K : (Bool) → Option R) : Option R :=
  (number_FromInt.c _ (a.2.1.tmod (40 : Int)) fun t1 => (number_Power.c _ ((a.1.1, a.1.2.1, a.1.2.2), (t1.1, t1.2.1, t1.2.2)) fun t2 => (number_FromInt.c _ (a.2.2.tmod (40 : Int)) fun t3 => (number_Power.c _ ((a.1.1, a.1.2.1, a.1.2.2), (t3.1, t3.2.1, t3.2.2)) fun t4 => (if (t2.2 != (0 : Int)) = false then (if (t4.2 != (0 : Int)) = true then (lw_counted.c _ () fun t5 => K t5) else (number_Mul.c _ ((t2.1.1, t2.1.2.1, t2.1.2.2), (t4.1.1, t4.1.2.1, t4.1.2.2)) fun t6 => (if (t6.2 != (0 : Int)) = true then (lw_counted.c _ () fun t7 => K t7) else (number_FromInt.c _ (IntKind.i64.wrap ((a.2.1.tmod (40 : Int)) + (a.2.2.tmod (40 : Int)))) fun t8 => (number_Power.c _ ((a.1.1, a.1.2.1, a.1.2.2), (t8.1, t8.2.1, t8.2.2)) fun t9 => (if (t9.2 == (0 : Int)) = true then (lw_same.c _ ((t6.1.1, t6.1.2.1, t6.1.2.2), (t9.1.1, t9.1.2.1, t9.1.2.2)) fun t10 => (if t10 = true then (lw_counted.c _ () fun t11 => K t11) else K false)) else K false)))))) else (lw_counted.c _ () fun t12 => K t12))))))
noncomputable def lw_NumberPowersAdd.T (g31 : CF (Int) (Nm)) (g36 : CF (Nm × Nm) ((Nm × Int))) (g16 : CF (Unit) (Bool)) (g28 : CF (Nm × Nm) ((Nm × Int))) (g20 : CF (Nm × Nm) (Bool)) : List (Nat × Fun) := [(16, mk none0 cb g16), (20, mk (more kN (one kN)) cb g20), (28, mk (more kN (one kN)) kE g28), (31, mk (one iI) kN g31), (36, mk (more kN (one kN)) kE g36)]
theorem lw_NumberPowersAdd.tok : TOk Tryd.prog (tb (lw_NumberPowersAdd.T number_FromInt.c number_Power.c lw_counted.c number_Mul.c lw_same.c)) := (tb_cons lw_counted.ok (tb_cons lw_same.ok (tb_cons number_Mul.ok (tb_cons number_FromInt.ok (tb_cons number_Power.ok tb_nil)))))
set_option maxRecDepth 100000 in
theorem lw_NumberPowersAdd.ex0 (g31 : CF (Int) (Nm)) (g36 : CF (Nm × Nm) ((Nm × Int))) (g16 : CF (Unit) (Bool)) (g28 : CF (Nm × Nm) ((Nm × Int))) (g20 : CF (Nm × Nm) (Bool)) (R : Type) (a : Nm × Int × Int) (K : (Bool) → Option R) : execFn' Tryd.prog (tb (lw_NumberPowersAdd.T g31 g36 g16 g28 g20)) 60 Tryd.f12 R ((more kN (more iI (one iI))).enc a) (dk cb K) = (g31 _ (a.2.1.tmod (40 : Int)) fun t1 => (g36 _ ((a.1.1, a.1.2.1, a.1.2.2), (t1.1, t1.2.1, t1.2.2)) fun t2 => (g31 _ (a.2.2.tmod (40 : Int)) fun t3 => (g36 _ ((a.1.1, a.1.2.1, a.1.2.2), (t3.1, t3.2.1, t3.2.2)) fun t4 => (if (t2.2 != (0 : Int)) = false then (if (t4.2 != (0 : Int)) = true then (g16 _ () fun t5 => K t5) else (g28 _ ((t2.1.1, t2.1.2.1, t2.1.2.2), (t4.1.1, t4.1.2.1, t4.1.2.2)) fun t6 => (if (t6.2 != (0 : Int)) = true then (g16 _ () fun t7 => K t7) else (g31 _ (IntKind.i64.wrap ((a.2.1.tmod (40 : Int)) + (a.2.2.tmod (40 : Int)))) fun t8 => (g36 _ ((a.1.1, a.1.2.1, a.1.2.2), (t8.1, t8.2.1, t8.2.2)) fun t9 => (if (t9.2 == (0 : Int)) = true then (g20 _ ((t6.1.1, t6.1.2.1, t6.1.2.2), (t9.1.1, t9.1.2.1, t9.1.2.2)) fun t10 => (if t10 = true then (g16 _ () fun t11 => K t11) else K false)) else K false)))))) else (g16 _ () fun t12 => K t12)))))) := by kernel_rfl
theorem lw_NumberPowersAdd.sh : Shown Tryd.prog 12 (more kN (more iI (one iI))).enc cb lw_NumberPowersAdd.c := exec_shown lw_NumberPowersAdd.tok mixed Tryd.func12 (by kernel_rfl) (lw_NumberPowersAdd.ex0 number_FromInt.c number_Power.c lw_counted.c number_Mul.c lw_same.c)
theorem lw_NumberPowersAdd.ok : FunOk Tryd.prog 12 (mk (more kN (more iI (one iI))) cb lw_NumberPowersAdd.c) := lw_NumberPowersAdd.sh.ok (by kernel_rfl)
end Go.Proofs.YtemnjgkicndmjaaDoor.Q

namespace Go.Proofs.YtemnjgkicndmjaaDoor.Q
open Go.RowKit Go.Proofs.YtemnjgkicndmjaaDoor.E Go.Proofs.YtemnjgkicndmjaaDoorW.PrintWords Go.Proofs.YtemnjgkicndmjaaDoorW.PrintLast Go.Proofs.YtemnjgkicndmjaaDoorW.PrintMore
set_option linter.unusedVariables false
theorem sameLimbs_loop (a b : List Int) (hl : a.length = b.length) (hL : a.length ≤ 1099511627776) : ∀ (d i : Nat), d + i = a.length → a.take i = b.take i → Ev (fun k => lw_sameLimbs.l0 k a b (i : Int)) (decide (a = b)) := by
  intro d
  induction d with
  | zero =>
    intro i hd h
    rw [List.take_of_length_le (by omega), List.take_of_length_le (by omega)] at h
    refine Ev.step (f := fun _ => some true) (fun k => ?_) (Ev.eq (Ev.now _) (by rw [decide_eq_true h]))
    simp only [lw_sameLimbs.l0]
    rw [if_neg (by omega)]
  | succ d ih =>
    intro i hd h
    have g1 : (i : Int) < (a.length : Int) := by omega
    have g2 : (0 : Int) ≤ (i : Int) := by omega
    have g3 : (i : Int) < (b.length : Int) := by omega
    have gw : ∀ _ : Unit, wrap64 ((i : Int) + 1) = ((i + 1 : Nat) : Int) := fun _ => by rw [w64 (by omega) (by omega)]; omega
    by_cases c : a.getD i 0 = b.getD i 0
    · refine Ev.step (f := fun k => lw_sameLimbs.l0 k a b ((i + 1 : Nat) : Int)) (fun k => ?_) (ih (i + 1) (by omega) (by rw [take_succ' _ _ (by omega), take_succ' _ _ (by omega), h, c]))
      simp only [lw_sameLimbs.l0]
      rw [if_pos g1, if_pos g2, if_pos g3, rd_getD, rd_getD, if_pos c, gw ()]
    · refine Ev.step (f := fun _ => some false) (fun k => ?_) (Ev.eq (Ev.now _) (by rw [decide_eq_false]; rintro rfl; exact c rfl))
      simp only [lw_sameLimbs.l0]
      rw [if_pos g1, if_pos g2, if_pos g3, rd_getD, rd_getD, if_neg c]
theorem sameLimbs_ev (a b : List Int) (hL : a.length ≤ 1099511627776) : Ev (fun k => lw_sameLimbs.f k a b) (decide (a = b)) := by
  by_cases hl : a.length = b.length
  · refine Ev.congr (fun k => ?_) (sameLimbs_loop a b hl hL a.length 0 (by omega) rfl)
    unfold lw_sameLimbs.f
    rw [if_pos (by omega)]; rfl
  · refine Ev.ret fun k => ?_
    unfold lw_sameLimbs.f
    rw [if_neg (by omega), decide_eq_false (fun h => hl (by rw [h]))]
theorem same_c (m : Bool) (a b : List Int) (n : Bool) (c d : List Int) (hL : a.length ≤ 1099511627776) (hM : b.length ≤ 1099511627776) {R : Type} (K : Bool → Option R) : lw_same.c R ((m, a, b), (n, c, d)) K = K (decide (m = n ∧ a = c ∧ b = d)) := by
  unfold lw_same.c
  by_cases h : m = n
  · refine (if_pos (by simpa using h)).trans ((lw_sameLimbs.eq (sameLimbs_ev a c hL) _).trans ?_)
    by_cases h2 : a = c
    · refine (if_pos (decide_eq_true h2)).trans ((lw_sameLimbs.eq (sameLimbs_ev b d hM) _).trans ?_)
      simp [h, h2]
    · refine (if_neg (by simp [h2])).trans ?_
      simp [h2]
  · refine (if_neg (by simpa using h)).trans ?_
    simp [h]
def Short (x : (Bool × List Int × List Int) × Int) : Prop := x.1.2.1.length ≤ 128 ∧ x.1.2.2.length ≤ 128
theorem same_self {x : (Bool × List Int × List Int) × Int} (h : Short x) {R : Type} (K : Bool → Option R) : lw_same.c R ((x.1.1, x.1.2.1, x.1.2.2), (x.1.1, x.1.2.1, x.1.2.2)) K = K true := by
  obtain ⟨h1, h2⟩ := h
  rw [same_c _ _ _ _ _ _ (by omega) (by omega)]
  simp
theorem pN_pos {A B : Int} (hA : 0 < A) (hB : 0 < B) (k : Int) : 0 < pN A B k := by unfold pN; split <;> exact Int.pow_pos (by assumption)
theorem pD_pos {A B : Int} (hA : 0 < A) (hB : 0 < B) (k : Int) : 0 < pD A B k := by unfold pD; split <;> exact Int.pow_pos (by assumption)
theorem pow_frac (A B m n : Int) : pN A B m * pN A B n * pD A B (m + n) = pN A B (m + n) * (pD A B m * pD A B n) := by
  unfold pN pD
  by_cases c1 : m < 0
  · rw [if_pos c1, if_pos c1]
    by_cases c2 : n < 0
    · rw [if_pos c2, if_pos c2, if_pos (by omega), if_pos (by omega)]
      have e : (m + n).natAbs = m.natAbs + n.natAbs := by omega
      rw [e, Int.pow_add, Int.pow_add]
    · rw [if_neg c2, if_neg c2]
      by_cases c3 : m + n < 0
      · rw [if_pos c3, if_pos c3]
        have e : m.natAbs = (m + n).natAbs + n.natAbs := by omega
        rw [e, Int.pow_add, Int.pow_add]
        generalize A ^ (m + n).natAbs = a1
        generalize B ^ (m + n).natAbs = b1
        generalize A ^ n.natAbs = a2
        generalize B ^ n.natAbs = b2
        grind
      · rw [if_neg c3, if_neg c3]
        have e : n.natAbs = (m + n).natAbs + m.natAbs := by omega
        rw [e, Int.pow_add, Int.pow_add]
        generalize A ^ (m + n).natAbs = a1
        generalize B ^ (m + n).natAbs = b1
        generalize A ^ m.natAbs = a2
        generalize B ^ m.natAbs = b2
        grind
  · rw [if_neg c1, if_neg c1]
    by_cases c2 : n < 0
    · rw [if_pos c2, if_pos c2]
      by_cases c3 : m + n < 0
      · rw [if_pos c3, if_pos c3]
        have e : n.natAbs = (m + n).natAbs + m.natAbs := by omega
        rw [e, Int.pow_add, Int.pow_add]
        generalize A ^ (m + n).natAbs = a1
        generalize B ^ (m + n).natAbs = b1
        generalize A ^ m.natAbs = a2
        generalize B ^ m.natAbs = b2
        grind
      · rw [if_neg c3, if_neg c3]
        have e : m.natAbs = (m + n).natAbs + n.natAbs := by omega
        rw [e, Int.pow_add, Int.pow_add]
        generalize A ^ (m + n).natAbs = a1
        generalize B ^ (m + n).natAbs = b1
        generalize A ^ n.natAbs = a2
        generalize B ^ n.natAbs = b2
        grind
    · rw [if_neg c2, if_neg c2, if_neg (by omega), if_neg (by omega)]
      have e : (m + n).natAbs = m.natAbs + n.natAbs := by omega
      rw [e, Int.pow_add, Int.pow_add]
theorem pS_add (na : Bool) (m n : Int) : (pS na m != pS na n) = pS na (m + n) := by
  unfold pS
  cases na with
  | false => rfl
  | true =>
    simp only [Bool.true_and]
    rcases Nat.mod_two_eq_zero_or_one m.natAbs with h1 | h1 <;> rcases Nat.mod_two_eq_zero_or_one n.natAbs with h2 | h2
    · have : (m + n).natAbs % 2 = 0 := by omega
      rw [h1, h2, this]; rfl
    · have : (m + n).natAbs % 2 = 1 := by omega
      rw [h1, h2, this]; rfl
    · have : (m + n).natAbs % 2 = 1 := by omega
      rw [h1, h2, this]; rfl
    · have : (m + n).natAbs % 2 = 0 := by omega
      rw [h1, h2, this]; rfl
theorem sgn_same {m n : Bool} {U V : Int} (hU : 0 ≤ U) (hV : 0 ≤ V) (h : sgn m U = sgn n V) : U = V := by
  unfold sgn at h
  cases m <;> cases n <;> simp at h <;> omega
theorem gcd_pND {A B : Int} (hA : 0 < A) (hB : 0 < B) (h : Nat.gcd A.toNat B.toNat = 1) (k : Int) : Nat.gcd (pN A B k).toNat (pD A B k).toNat = 1 := by
  have h1 := gcd_pow1 (Int.le_of_lt hA) (Int.le_of_lt hB) h k.natAbs
  unfold pN pD
  split
  · rw [Nat.gcd_comm]; exact h1
  · exact h1
theorem pow_lists {zn s : Bool} {p q : List Int} {N D : Int} (h : Rep zn p q (sgn s N) D) (hN : 0 < N) (hD : 0 < D) (g : Nat.gcd N.toNat D.toNat = 1) : val 4294967296 p = N ∧ val 4294967296 q = D := by
  have pq := h.pos (show (0 : Int) < 4294967296 by decide)
  have pp := val_nonneg (show (0 : Int) < 4294967296 by decide) h.lp
  have e := h.eq
  rw [← sgn_mul_r, ← sgn_mul_r] at e
  have e1 := sgn_same (Int.mul_nonneg pp (Int.le_of_lt hD)) (Int.mul_nonneg (Int.le_of_lt hN) (Int.le_of_lt pq)) e
  have e2 : (val 4294967296 p).toNat * D.toNat = N.toNat * (val 4294967296 q).toNat := by
    rw [← Int.toNat_mul pp (Int.le_of_lt hD), ← Int.toNat_mul (Int.le_of_lt hN) (Int.le_of_lt pq), e1]
  obtain ⟨e3, e4⟩ := nat_frac h.gc g (by omega) (by omega) e2
  omega
def Zp (k : Int) : Nm := if k = 0 then (false, [1], [1]) else (false, [], [1])
theorem Power_zero {na : Bool} {da : List Int} (hda : Lim 4294967296 da) (ca : Can na [] da) (k : Int) (h0 : -100 ≤ k) (h1 : k ≤ 100) (l : List Int) (hl : Lim 4294967296 l) (l2 : k = 0 → l = []) (l3 : k ≠ 0 → l = [(k.natAbs : Int)]) {R : Type} (K : (Nm × Int) → Option R) :
    number_Power.c R ((na, [], da), (decide (k < 0), l, [1])) K = K (if k < 0 then bad 10 else (Zp k, 0)) := by
  have cb := exp_can k h0 h1 l l2 l3
  have hna : na = false := ca.ng rfl
  have hd1 : da = [1] := by
    refine (eq_one (show (1 : Int) < 4294967296 by decide) hda ca.nd).1 ?_
    have h2 := ca.gc
    have h3 : (val 4294967296 ([] : List Int)).toNat = 0 := rfl
    rw [h3, Nat.gcd_zero_left] at h2
    have := ca.pos hda
    omega
  subst hna hd1
  unfold number_Power.c
  refine (check2_ok (lim_nil _) hda hl one_rep.1 ca cb _).trans ?_
  refine (if_neg (by decide)).trans ?_
  refine (isone_c [1] _).trans ?_
  refine (if_neg (by decide)).trans ?_
  by_cases hk : k = 0
  · subst hk
    rw [l2 rfl]
    refine (if_neg (by simp)).trans ?_
    refine (if_pos rfl).trans ?_
    refine (FromInt_one _).trans ?_
    rfl
  · rw [l3 hk]
    refine (if_pos (by simp)).trans ?_
    refine (if_pos (by simp)).trans ?_
    refine (if_neg (by simp)).trans ?_
    refine (if_pos rfl).trans ?_
    by_cases c : k < 0
    · rw [if_pos c]
      exact if_pos (by simpa using c)
    · rw [if_neg c]
      refine (if_neg (by simpa using c)).trans ?_
      refine (if_neg (by simp)).trans ?_
      refine (if_neg (by simp)).trans ?_
      obtain ⟨m, p, q, m1, m2⟩ := made_c false [] [1] (lim_nil _) nrm_nil one_rep.1 one_rep.2.1 (by decide) (by decide) (by decide)
      rw [one_rep.2.2] at m2
      have e := outM_int m2 (n := []) (neg := false) (lim_nil _) nrm_nil (fun _ => rfl) rfl (by decide)
      rw [e] at m1
      refine (m1 R _).trans ?_
      unfold Zp
      rw [if_neg hk]
theorem Zp_can (k : Int) : Lim 4294967296 (Zp k).2.1 ∧ (Zp k).1 = false ∧ (Zp k).2.2 = [1] ∧ Can false (Zp k).2.1 [1] ∧ val 4294967296 (Zp k).2.1 = if k = 0 then 1 else 0 := by
  unfold Zp
  split
  · exact ⟨one_rep.1, rfl, rfl, ⟨by decide, by decide, one_nrm, one_nrm, by decide, fun _ => rfl, by rw [one_rep.2.2]; rfl⟩, one_rep.2.2⟩
  · exact ⟨lim_nil _, rfl, rfl, ⟨by decide, by decide, nrm_nil, one_nrm, by decide, fun _ => rfl, by rw [one_rep.2.2]; exact Nat.gcd_one_right _⟩, rfl⟩
theorem Zp_mul (m n : Int) (hm : 0 ≤ m) (hn : 0 ≤ n) {R : Type} (K : (Nm × Int) → Option R) : number_Mul.c R (Zp m, Zp n) K = K (Zp (m + n), 0) := by
  obtain ⟨a1, a2, a3, a4, a5⟩ := Zp_can m
  obtain ⟨b1, b2, b3, b4, b5⟩ := Zp_can n
  obtain ⟨c1, c2, c3, c4, c5⟩ := Zp_can (m + n)
  obtain ⟨z, p, q, h1, h2⟩ := Mul_c false (Zp m).2.1 [1] false (Zp n).2.1 [1] a1 one_rep.1 b1 one_rep.1 a4 b4
  rw [one_rep.2.2, Int.mul_one] at h2
  have e := outM_int h2 c1 c4.nn (neg := false) (fun _ => rfl) (by
    rw [c5, a5, b5]
    have e0 : ∀ x : Int, sgn false x = x := fun _ => rfl
    rw [e0, e0, e0]
    by_cases c : m = 0
    · by_cases d : n = 0
      · rw [if_pos c, if_pos d, if_pos (by omega)]; rfl
      · rw [if_neg d, if_neg (by omega), Int.mul_zero]
    · rw [if_neg c, if_neg (by omega), Int.zero_mul]) c4.ln
  have em : Zp m = (false, (Zp m).2.1, [1]) := by rw [← a2, ← a3]
  have en : Zp n = (false, (Zp n).2.1, [1]) := by rw [← b2, ← b3]
  have es : Zp (m + n) = (false, (Zp (m + n)).2.1, [1]) := by rw [← c2, ← c3]
  rw [em, en, h1, e]
  rw [← es]
noncomputable def PowTail (R : Type) (x : Nm) (m n : Int) (t2 t4 : Nm × Int) (K : Bool → Option R) : Option R :=
  (if (t2.2 != (0 : Int)) = false then (if (t4.2 != (0 : Int)) = true then (lw_counted.c R () fun t5 => K t5) else (number_Mul.c R ((t2.1.1, t2.1.2.1, t2.1.2.2), (t4.1.1, t4.1.2.1, t4.1.2.2)) fun t6 => (if (t6.2 != (0 : Int)) = true then (lw_counted.c R () fun t7 => K t7) else (number_FromInt.c R (IntKind.i64.wrap (m + n)) fun t8 => (number_Power.c R ((x.1, x.2.1, x.2.2), (t8.1, t8.2.1, t8.2.2)) fun t9 => (if (t9.2 == (0 : Int)) = true then (lw_same.c R ((t6.1.1, t6.1.2.1, t6.1.2.2), (t9.1.1, t9.1.2.1, t9.1.2.2)) fun t10 => (if t10 = true then (lw_counted.c R () fun t11 => K t11) else K false)) else K false)))))) else (lw_counted.c R () fun t12 => K t12))
theorem Pow_eq (R : Type) (x : Nm) (m n : Int) (K : Bool → Option R) : lw_NumberPowersAdd.c R (x, m, n) K = number_FromInt.c R (m.tmod (40 : Int)) fun t1 => (number_Power.c R ((x.1, x.2.1, x.2.2), (t1.1, t1.2.1, t1.2.2)) fun t2 => (number_FromInt.c R (n.tmod (40 : Int)) fun t3 => (number_Power.c R ((x.1, x.2.1, x.2.2), (t3.1, t3.2.1, t3.2.2)) fun t4 => PowTail R x (m.tmod 40) (n.tmod 40) t2 t4 K))) := rfl
theorem tail_bad1 (x : Nm) (m n : Int) (e : Int) (he : e ≠ 0) (t4 : Nm × Int) {R : Type} (K : Bool → Option R) : PowTail R x m n (bad e) t4 K = K true := by
  unfold PowTail
  exact if_neg (by simpa [bad] using he)
theorem tail_bad2 (x : Nm) (m n : Int) (y : Nm) (e : Int) (he : e ≠ 0) {R : Type} (K : Bool → Option R) : PowTail R x m n (y, 0) (bad e) K = K true := by
  unfold PowTail
  refine (if_pos (by simp)).trans ?_
  exact if_pos (by simpa [bad] using he)
theorem tail_end {t : Nm × Int} (h : Short t) (h0 : t.2 = 0) {R : Type} (K : Bool → Option R) : (if (t.2 == (0 : Int)) = true then (lw_same.c R ((t.1.1, t.1.2.1, t.1.2.2), (t.1.1, t.1.2.1, t.1.2.2)) fun t10 => (if t10 = true then (lw_counted.c R () fun t11 => K t11) else K false)) else K false) = K true := by
  rw [if_pos (by simp [h0])]
  refine (same_self h _).trans ?_
  exact if_pos rfl
theorem tmod40 (m : Int) : -40 < m.tmod 40 ∧ m.tmod 40 < 40 := ⟨Int.lt_tmod_of_pos m (by decide), Int.tmod_lt_of_pos m (by decide)⟩
theorem powers_pure (na : Bool) (a da : List Int) (m n : Int) (ha : Lim 4294967296 a) (hda : Lim 4294967296 da) {R : Type} (K : Bool → Option R) : lw_NumberPowersAdd.c R ((na, a, da), m, n) K = K true := by
  have hm0 := tmod40 m
  have hn0 := tmod40 n
  rw [Pow_eq]
  generalize m.tmod 40 = m at hm0 ⊢
  generalize n.tmod 40 = n at hn0 ⊢
  have hw : IntKind.i64.wrap (m + n) = m + n := by rw [i64_w]; exact w64 (by omega) (by omega)
  obtain ⟨l1, f1, g1, i1, j1⟩ := FromInt_c m (by omega) (by omega)
  obtain ⟨l2, f2, g2, i2, j2⟩ := FromInt_c n (by omega) (by omega)
  obtain ⟨l3, f3, g3, i3, j3⟩ := FromInt_c (m + n) (by omega) (by omega)
  have c1 := exp_can m (by omega) (by omega) l1 i1 j1
  have c2 := exp_can n (by omega) (by omega) l2 i2 j2
  have c3 := exp_can (m + n) (by omega) (by omega) l3 i3 j3
  refine (f1 R _).trans ?_
  by_cases h : fault na a da = 0
  · have ca := can_of_fault' h
    by_cases a0 : a = []
    · subst a0
      refine (Power_zero hda ca m (by omega) (by omega) l1 g1 i1 j1 _).trans ?_
      refine (f2 R _).trans ?_
      refine (Power_zero hda ca n (by omega) (by omega) l2 g2 i2 j2 _).trans ?_
      by_cases d1 : m < 0
      · rw [if_pos d1]
        exact tail_bad1 _ _ _ 10 (by decide) _ K
      · rw [if_neg d1]
        by_cases d2 : n < 0
        · rw [if_pos d2]
          exact tail_bad2 _ _ _ _ 10 (by decide) K
        · rw [if_neg d2]
          unfold PowTail
          refine (if_pos (by simp)).trans ?_
          refine (if_neg (by simp)).trans ?_
          refine (Zp_mul m n (by omega) (by omega) _).trans ?_
          refine (if_neg (by simp)).trans ?_
          rw [hw]
          refine (f3 R _).trans ?_
          refine (Power_zero hda ca (m + n) (by omega) (by omega) l3 g3 i3 j3 _).trans ?_
          rw [if_neg (show ¬ (m + n < 0) by omega)]
          obtain ⟨z1, z2, z3, z4, z5⟩ := Zp_can (m + n)
          exact tail_end (t := (Zp (m + n), 0)) ⟨z4.ln, by dsimp only; rw [z3]; decide⟩ rfl K
    · have va := val_pos (show (0 : Int) < 4294967296 by decide) ha ca.nn a0
      have vd := ca.pos hda
      rcases Power_c ha hda ca a0 m (by omega) (by omega) l1 g1 i1 j1 with ⟨p1, q1, h1, r1, s1, t1⟩ | ⟨h1, _⟩
      · refine (h1 R _).trans ?_
        refine (f2 R _).trans ?_
        rcases Power_c ha hda ca a0 n (by omega) (by omega) l2 g2 i2 j2 with ⟨p2, q2, h2, r2, s2, t2⟩ | ⟨h2, _⟩
        · refine (h2 R _).trans ?_
          obtain ⟨zn, zp, zq, z1, z2⟩ := Mul_c (pS na m) p1 q1 (pS na n) p2 q2 r1.lp r1.lq r2.lp r2.lq (r1.can s1 t1) (r2.can s2 t2)
          unfold PowTail
          refine (if_pos (by simp)).trans ?_
          refine (if_neg (by simp)).trans ?_
          refine (z1 R _).trans ?_
          by_cases c : (outM zn zp zq).2 = 0
          · have hs : ¬ (zp.length > 128 ∨ zq.length > 128) := by
              intro hc
              unfold outM at c
              rw [if_pos hc] at c
              exact absurd c (by decide)
            have eo : outM zn zp zq = ((zn, zp, zq), 0) := by unfold outM; rw [if_neg hs]
            rw [eo]
            refine (if_neg (by simp)).trans ?_
            rw [hw]
            refine (f3 R _).trans ?_
            obtain ⟨v1, w1⟩ := pow_lists r1 (pN_pos va vd m) (pD_pos va vd m) (gcd_pND va vd ca.gc m)
            obtain ⟨v2, w2⟩ := pow_lists r2 (pN_pos va vd n) (pD_pos va vd n) (gcd_pND va vd ca.gc n)
            rw [v1, v2, w1, w2, ← sgn_mul, pS_add] at z2
            have z3 : Rep zn zp zq (sgn (pS na (m + n)) (pN (val 4294967296 a) (val 4294967296 da) (m + n))) (pD (val 4294967296 a) (val 4294967296 da) (m + n)) := by
              refine z2.turn (Int.ne_of_gt (Int.mul_pos (pD_pos va vd m) (pD_pos va vd n))) ?_
              rw [← sgn_mul_r, ← sgn_mul_r, pow_frac]
            rcases Power_c ha hda ca a0 (m + n) (by omega) (by omega) l3 g3 i3 j3 with ⟨p3, q3, h3, r3, s3, t3⟩ | ⟨h3, h4⟩
            · refine (h3 R _).trans ?_
              obtain ⟨e1, e2, e3⟩ := r3.unique (by decide) z3 (Int.ne_of_gt (pD_pos va vd (m + n)))
              rw [e1, e2, e3]
              exact tail_end (t := ((zn, zp, zq), 0)) ⟨by dsimp only; omega, by dsimp only; omega⟩ rfl K
            · exfalso
              obtain ⟨v3, w3⟩ := pow_lists z3 (pN_pos va vd (m + n)) (pD_pos va vd (m + n)) (gcd_pND va vd ca.gc (m + n))
              refine h4 ⟨?_, ?_⟩
              · rw [← v3]; exact (limit128 z3.lp z3.np).1 (by omega)
              · rw [← w3]; exact (limit128 z3.lq z3.nq).1 (by omega)
          · exact if_pos (by simpa using c)
        · refine (h2 R _).trans ?_
          exact tail_bad2 _ _ _ _ 3 (by decide) K
      · refine (h1 R _).trans ?_
        refine (f2 R _).trans ?_
        rcases Power_c ha hda ca a0 n (by omega) (by omega) l2 g2 i2 j2 with ⟨p2, q2, h2, _⟩ | ⟨h2, _⟩
        · exact (h2 R _).trans (tail_bad1 _ _ _ 3 (by decide) _ K)
        · exact (h2 R _).trans (tail_bad1 _ _ _ 3 (by decide) _ K)
  · refine (Power_bad na a da _ l1 ha hda g1 c1 h _).trans ?_
    refine (f2 R _).trans ?_
    refine (Power_bad na a da _ l2 ha hda g2 c2 h _).trans ?_
    exact tail_bad1 _ _ _ _ h _ K
end Go.Proofs.YtemnjgkicndmjaaDoor.Q
namespace Go.Proofs.YtemnjgkicndmjaaDoor.Q
open Go.ChangeShapes Go.WideShapes Go.ChangeAt Go.RowKit Go.Joins Go.Proofs.YtemnjgkicndmjaaDoorW.PrintWords Go.Proofs.YtemnjgkicndmjaaDoorW.PrintLast Go.Proofs.YtemnjgkicndmjaaDoorW.PrintMore
set_option linter.unusedVariables false
theorem laidOut : laidOutB Tryd.prog = true := by kernel_rfl
theorem own : ownKnob Tryd.prog.godebug = none := by kernel_rfl
theorem lim_of_wf {zs : List Int} (h : ∀ n ∈ zs, (Lit.int .u32 n).wf = true) : Lim 4294967296 zs := by
  intro x hx
  have h1 := h x hx
  simp only [Lit.wf, Bool.and_eq_true, decide_eq_true_eq] at h1
  have e1 : IntKind.u32.min = 0 := by decide
  have e2 : IntKind.u32.max = 4294967295 := by decide
  omega
theorem open_limbs {H : Type} {enc : TypeId × Value → H} {W : World} {n : Nat} {c : Value} {y : DataW H × List MemPlace} (h : DataW.trod enc Tryd.prog W 0 (fun _ => true) true n 22 [c] = some y) :
    ∃ (A : Option Addr) (cap : Nat) (l : List Int), c = .slice A l.length cap ∧ l.length ≤ cap ∧ Kd.C (Kd.int .u32) W A l.length l ∧ Lim 4294967296 l := by
  rcases open_ints Tryd.underlying22 Tryd.underlying55 (by kernel_rfl) h with ⟨hcs, _⟩ | ⟨x, l, cp, zs, hcs, _, hl, hm, hz, _, hcell, hwz⟩
  · simp at hcs
    exact ⟨none, 0, [], hcs, Nat.le_refl _, Kd.C_of_reads (enc := Value.int .u32) (d := (0 : Int)) ⟨rfl, by decide, fun h => absurd h (Nat.lt_irrefl _)⟩, lim_nil _⟩
  · simp at hcs
    have hz' : zs.length = cp := by simpa using hz
    have hlen : (zs.take l).length = l := by rw [List.length_take]; omega
    refine ⟨some x, cp, zs.take l, by rw [hlen]; exact hcs, by rw [hlen]; exact hl, Kd.C_of_reads (enc := Value.int .u32) (d := (0 : Int)) ⟨rfl, by rw [hlen]; unfold maxLen at hm; omega, fun _ => ⟨x, rfl, fun j hj => ?_⟩⟩, (lim_of_wf hwz).take _⟩
    rw [hlen] at hj
    rw [hcell j (by omega), List.getD_eq_getElem?_getD, List.getD_eq_getElem?_getD, List.getElem?_take, if_pos hj]
set_option maxRecDepth 100000 in
theorem open_number {H : Type} {enc : TypeId × Value → H} {W : World} {b0 : Nat} {r : Reach} {v : Value} {d : DataW H} {p : List MemPlace} (hv : Value.okWide Tryd.prog W r b0 24 v) (h : DataW.Trod enc Tryd.prog W 0 (fun _ => true) true 24 v d p) :
    ∃ (neg : Bool) (A1 : Option Addr) (c1 : Nat) (l1 : List Int) (A2 : Option Addr) (c2 : Nat) (l2 : List Int), v = .agg #[.bool neg, .slice A1 l1.length c1, .slice A2 l2.length c2] ∧
      l1.length ≤ c1 ∧ Kd.C (Kd.int .u32) W A1 l1.length l1 ∧ Lim 4294967296 l1 ∧ l2.length ≤ c2 ∧ Kd.C (Kd.int .u32) W A2 l2.length l2 ∧ Lim 4294967296 l2 := by
  obtain ⟨v0, v1, v2, y0, y1, y2, n, rfl, rfl, rfl, h0, h1, h2⟩ := open_agg3 Tryd.underlying24 (by kernel_rfl) (by kernel_rfl) hv h
  obtain ⟨b, e0, rfl⟩ := DataW.trod_bool Tryd.underlying4 h0
  obtain ⟨A1, c1, l1, rfl, i1, k1, m1⟩ := open_limbs h1
  obtain ⟨A2, c2, l2, rfl, i2, k2, m2⟩ := open_limbs h2
  simp at e0
  subst e0
  exact ⟨b, A1, c1, l1, A2, c2, l2, rfl, i1, k1, m1, i2, k2, m2⟩
def accepted : List (Nat × Nat) := [(128, 191), (160, 191), (128, 159), (144, 191), (128, 143), (0, 0), (0, 0), (0, 0), (0, 0), (0, 0), (0, 0), (0, 0), (0, 0), (0, 0), (0, 0), (0, 0)]
noncomputable def laidFirst : Array Value := (Go.Pinned.utf8FirstZ.map fun (z : Nat) => Value.int .u8 (Int.ofNat z)).toArray
noncomputable def laidRanges : Array Value := (accepted.flatMap fun (z : Nat × Nat) => [Value.int .u8 (Int.ofNat z.1), Value.int .u8 (Int.ofNat z.2)]).toArray
noncomputable def laidWorld (os : Os) : World :=
  let w0 := World.holding Tryd.prog os ⟨#[], #[], []⟩
  { w0 with heap := (w0.heap.modify 1 (fun o => match o with
      | .cells _ t frozen => .cells laidFirst t frozen
      | o => o)).modify 2 (fun o => match o with
      | .cells _ t frozen => .cells laidRanges t frozen
      | o => o) }
set_option maxRecDepth 100000 in
theorem laid_met (os : Os) (args : Array Value) : laidMet Tryd.prog [("unicode/utf8.acceptRanges", Rows.laid_unicode_utf8_acceptRanges), ("unicode/utf8.first", Rows.laid_unicode_utf8_first)] ((laidWorld os).forCall (fun _ _ => 0) ⟨#[], args, []⟩).memory :=
  laidMet_of_run' 8 (by kernel_rfl) (by kernel_rfl)
end Go.Proofs.YtemnjgkicndmjaaDoor.Q
namespace Go.Proofs.YtemnjgkicndmjaaDoor.Q
open Go.ChangeShapes Go.WideShapes Go.ChangeAt Go.RowKit Go.Joins Go.Proofs.YtemnjgkicndmjaaDoor.E Go.Proofs.YtemnjgkicndmjaaDoorW.PrintWords Go.Proofs.YtemnjgkicndmjaaDoorW.PrintLast Go.Proofs.YtemnjgkicndmjaaDoorW.PrintMore
set_option linter.unusedVariables false
namespace LPowLaw
set_option maxRecDepth 100000 in
theorem contract (H : Type) (enc : TypeId × Value → H) (W : World) (base : Nat) (args : Array Value) (ds gs : List (DataW H)) (before : List MemPlace)
    (hval : ∀ (j : Nat) t v, Tryd.f12.params[j]? = some t → args[j]? = some v → Value.okWide Tryd.prog W .any base t v)
    (hW : DataW.Whole enc Tryd.prog Tryd.f12.params.toList Rows.numberPowersAddSpec.vars false W args.toList ds gs before) :
    Calls Tryd.prog 12 args W fun e W' => ∃ v, e = .returned v ∧ Rows.numberPowersAddSpec.post enc Tryd.prog Tryd.f12 false true false false W args v W' := by
  have hW' := hW
  obtain ⟨p, q, hA0, hV, rfl, hfz, hnd⟩ := hW
  have hA : DataW.TrodAll enc Tryd.prog W 0 (fun _ => true) true Tryd.f12.params.toList args.toList ds p := hA0
  rw [Tryd.params12] at hA hval
  obtain ⟨v0, vs0, d0, ds0, p0, q0, hargs, rfl, rfl, h0, r0⟩ := trodAll_cons hA
  obtain ⟨v1, vs1, d1, ds1, p1, q1, rfl, rfl, rfl, h1, r1⟩ := trodAll_cons r0
  obtain ⟨v2, vs2, d2, ds2, p2, q2, rfl, rfl, rfl, h2, r2⟩ := trodAll_cons r1
  obtain ⟨rfl, rfl, rfl⟩ := trodAll_nil r2
  obtain rfl : args = #[v0, v1, v2] := by cases args; simp_all
  obtain ⟨rfl, rfl⟩ := trodVars_none hV
  have k0 := h0
  have lt0 : ∀ x ∈ p0, x.block < W.heap.size := by obtain ⟨m, hm⟩ := k0; exact DataW.trod_lt m _ _ _ hm
  obtain ⟨s0, A0, c0, a0, B0, e0, d0, rfl, i0, m0, n0, j0, l0, o0⟩ := open_number (hval 0 24 v0 rfl rfl) h0
  obtain ⟨b1, rfl, rfl, rfl, w1⟩ := open_int Tryd.underlying3 (hval 1 3 v1 rfl rfl) h1
  obtain ⟨b2, rfl, rfl, rfl, w2⟩ := open_int Tryd.underlying3 (hval 2 3 v2 rfl rfl) h2
  clear hA0
  simp only [List.append_nil] at hW'
  have hx := lw_NumberPowersAdd.sh.2 ((s0, a0, d0), b1, b2) true (powers_pure s0 a0 d0 b1 b2 n0 o0 some)
  refine (hx W (fun k => k < W.heap.size) _ (reps_cons (rep_num s0 i0 m0 j0 l0) (reps_cons (rep_int3 b1) (reps_cons (rep_int3 b2) reps_nil)))).mono fun e W' ⟨v, he, bel, hv⟩ => ?_
  subst he
  have hv' : v = .bool true := by simpa only [Go.Proofs.YtemnjgkicndmjaaDoor.E.cb, Go.Proofs.YtemnjgkicndmjaaDoor.E.Rep] using hv
  subst hv'
  exact ⟨_, rfl, _, _, _, [], _, [], hW', trodAll_mk1 (shut_bool Tryd.underlying4 _), (trodAll_cons_mk (Below.trod laidOut (by kernel_rfl) (of_decide_eq_true (by kernel_rfl)) k0 bel lt0) (trodAll_cons_mk (shut_int Tryd.underlying3 w1) (trodAll_cons_mk (shut_int Tryd.underlying3 w2) trodAll_mk0))), rfl, bel.frame _, fun h => by cases h⟩
theorem reads (os : Os) {H : Type} (enc : TypeId × Value → H) : ∃ places, DataW.whole enc Tryd.prog ((laidWorld os).forCall (fun _ _ => 0) ⟨#[], #[.agg #[.bool false, .slice none 0 0, .slice none 0 0], .int .i64 0, .int .i64 0], []⟩).memory Tryd.f12.params.toList Rows.numberPowersAddSpec.vars false #[Value.agg #[.bool false, .slice none 0 0, .slice none 0 0], .int .i64 0, .int .i64 0].toList 8 = some ([.agg [.lit (.bool false), .nil, .nil], .lit (.int .i64 0), .lit (.int .i64 0)], [], places) :=
  ⟨[], by kernel_rfl⟩
set_option maxRecDepth 100000 in
theorem lifted (os : Os) (started : os.Started) (H : Type) (enc : TypeId × Value → H) (F : Stop.Interp) :
    ReturnsInHanded {} Tryd.checked os 12 .any ((OpenSpec.ofChange Rows.numberPowersAddSpec).preRow enc Tryd.prog Tryd.f12 Rows.numberPowersAddRow.domain false Rows.numberPowersAddRow.laid) (((OpenSpec.ofChange Rows.numberPowersAddSpec).at F).post enc Tryd.prog Tryd.f12 false true false false) := by
  obtain ⟨places, hx⟩ := reads os enc
  refine returnsInHanded_of_row (C := Tryd.checked) (s := OpenSpec.ofChange Rows.numberPowersAddSpec) own started (by kernel_rfl) Tryd.func12
    (witness_row_at (enc := enc) (C := Tryd.checked) false (laidWorld os) #[.agg #[.bool false, .slice none 0 0, .slice none 0 0], .int .i64 0, .int .i64 0] rfl (by kernel_rfl) (by kernel_rfl) (by kernel_rfl)
      (OpenSpec.preRow_of_cond 8 hx (by kernel_rfl) (fun k hk => by cases hk) (by kernel_rfl) (laid_met os _))) ?_
  intro W base args ds gs before hval hW _ _ _ hL _ _
  exact contract H enc W base args ds gs before hval hW
theorem said : Rows.NumberPowersAddSaid :=
  OpenClaim.holds_of_cond 12 Tryd.f12 rfl rfl rfl rfl rfl rfl rfl ⟨rfl, rfl, rfl, rfl, rfl⟩ rfl rfl rfl rfl rfl (by kernel_rfl) Tryd.func12 (by kernel_rfl)
    (of_decide_eq_true (by kernel_rfl)) (by unfold Func.isWrapper; first | (rw [if_pos (by decide +kernel)]; kernel_rfl) | (rw [if_neg (by decide +kernel)]; exact ⟨rfl, rfl⟩))
    (fun os started H enc _ F => by rw [OpenClaim.pre_eq_preRow]; exact lifted os started H enc F)
theorem plain (f : FuncId) (fn : Func) (hf : Tryd.pinned.checked.prog.funcNamed "fetterlock/fetterlocklaw1.NumberPowersAdd" = some f) (hfn : Tryd.pinned.checked.prog.funcs[f]? = some fn) :
    false = Tryd.pinned.checked.prog.looks [] ∧ ∀ (j : Nat) t, fn.params[j]? = some t → Tryd.pinned.checked.prog.wantsStandIn t = false := by
  obtain rfl : f = 12 := Option.some.inj ((show Tryd.prog.funcNamed "fetterlock/fetterlocklaw1.NumberPowersAdd" = some 12 by kernel_rfl).symm.trans hf) |>.symm
  obtain rfl : fn = Tryd.f12 := (Option.some.inj (Tryd.func12.symm.trans hfn)).symm
  refine ⟨by kernel_rfl, fun j t ht => ?_⟩
  rw [Tryd.params12] at ht
  have hm := Array.mem_of_getElem? ht
  have ht2 : t = 24 ∨ t = 3 := by simpa using hm
  rcases ht2 with rfl | rfl
  · exact (show Tryd.prog.wantsStandIn 24 = false by kernel_rfl)
  · exact (show Tryd.prog.wantsStandIn 3 = false by kernel_rfl)
theorem card : Rows.NumberPowersAddCardSaid :=
  Claim7.holds_tied_plain_at .later [] _ _ _ _ said (fun _ h => by cases h) (by kernel_rfl) (fun _ h => by cases h) numberPowersAdd_row_tie rfl ⟨rfl, rfl⟩ (by kernel_rfl) rfl plain (by kernel_rfl)
end LPowLaw
end Go.Proofs.YtemnjgkicndmjaaDoor.Q
namespace Go.Proofs.YtemnjgkicndmjaaDoor
theorem numberPowersAdd_holds : Rows.NumberPowersAddCardSaid := Q.LPowLaw.card
end Go.Proofs.YtemnjgkicndmjaaDoor

