/- What this text proves: a part of the walk and of the plain laws of one card; no conditions. -/
import Derived.Test.YtemnjgkicndmjaaGreatDoorQb4
import Derived.Test.YtemnjgkicndmjaaGreatDoorCards
import Derived.Test.YtemnjgkicndmjaaGreatDoorTie
import Derived.WalkKit
import Derived.ProofKit
import Derived.OpenShut
import Derived.ShutString
import Derived.ChangeOld
import Derived.Below
import Derived.Carry
import Derived.Deep.DeepHandedRow
import Derived.Lib.SmallJoins
import Derived.ChangeSlices
import Derived.LaidLaws
import Derived.ChangeSame
import Derived.Stop.Joined
import Derived.SevenTiedAt
namespace Go.Proofs.YtemnjgkicndmjaaGreatDoor.Q
open Go.RowKit Go.Proofs.YtemnjgkicndmjaaGreatDoor.E Go.Proofs.YtemnjgkicndmjaaGreatDoorW.PrintWords Go.Proofs.YtemnjgkicndmjaaGreatDoorW.PrintLast Go.Proofs.YtemnjgkicndmjaaGreatDoorW.PrintMore
set_option linter.unusedVariables false
abbrev rf_power.Dl1 := (Int × Int × Int × (Bool × (List Int) × (List Int) × Unit) × (Bool × (List Int) × (List Int) × Unit) × (Bool × Unit) × (Bool × (List Int) × (List Int) × Unit) × (Bool × (List Int) × (List Int) × Unit) × Unit)
abbrev rf_power.Zl1 := ((Int × (Bool × (List Int) × (List Int) × Unit) × (Bool × (List Int) × (List Int) × Unit) × (Bool × Unit) × (Bool × (List Int) × (List Int) × Unit) × (Bool × (List Int) × (List Int) × Unit) × Unit) ⊕ (Int × (Bool × (List Int) × (List Int) × Unit) × (Bool × (List Int) × (List Int) × Unit) × (Bool × Unit) × (Bool × (List Int) × (List Int) × Unit) × (Bool × (List Int) × (List Int) × Unit) × Unit))
def rf_power.cDl1 : CdS rf_power.Dl1 := (stmpC 2 (cptr 0 0) (stmpC 4 (cptr 2 0) (stmp 5 (ci .i64) (stmpC 9 (cptr 4 0) (stmp 68 (ci .i64) (stmp 69 (ci .i64) (sbox 0 (cagg (lmore lb (lmore (crow .i64) (lmore (crow .i64) lnone)))) (sbox 1 (cagg (lmore lb (lmore (crow .i64) (lmore (crow .i64) lnone)))) (sbox 2 (cagg (lmore lb (lmoreC lnil (lmoreC lnil lnone)))) (sbox 3 (cagg (lmore lb (lmore (crow .i64) (lmore (crow .i64) lnone)))) (sbox 4 (cagg (lmore lb (lmore (crow .i64) (lmore (crow .i64) lnone)))) snil)))))))))))
def rf_power.cZl1 : CdZ rf_power.Zl1 := (zor (zone .ret (stmpC 4 (cptr 2 0) (stmp 5 (ci .i64) (sbox 0 (cagg (lmore lb (lmore (crow .i64) (lmore (crow .i64) lnone)))) (sbox 1 (cagg (lmore lb (lmore (crow .i64) (lmore (crow .i64) lnone)))) (sbox 2 (cagg (lmore lb (lmoreC lnil (lmoreC lnil lnone)))) (sbox 3 (cagg (lmore lb (lmore (crow .i64) (lmore (crow .i64) lnone)))) (sbox 4 (cagg (lmore lb (lmore (crow .i64) (lmore (crow .i64) lnone)))) snil)))))))) (zone (.exit 0) (stmpC 4 (cptr 2 0) (stmp 5 (ci .i64) (stmpC 9 (cptr 4 0) (sbox 0 (cagg (lmore lb (lmore (crow .i64) (lmore (crow .i64) lnone)))) (sbox 1 (cagg (lmore lb (lmore (crow .i64) (lmore (crow .i64) lnone)))) (sbox 2 (cagg (lmore lb (lmoreC lnil (lmoreC lnil lnone)))) (sbox 3 (cagg (lmore lb (lmore (crow .i64) (lmore (crow .i64) lnone)))) (sbox 4 (cagg (lmore lb (lmore (crow .i64) (lmore (crow .i64) lnone)))) snil))))))))))
noncomputable def rf_power.el1 (g33 : CF (Nm) ((Nm × Int))) (g60 : CF (List Int × List Int) (Int)) (g21 : CF (Nm) (Bool)) (g75 : CF (List Int × Int) (Int)) (g37 : CF (Nm) (Nm)) (g78 : CF (Nm) ((Int × Bool))) (g71 : CF (List Int × List Int) (List Int)) (g23 : CF (List Int) (Int)) : Rnd rf_power.Dl1 rf_power.Zl1 := fun R d Kn Kz =>
  (if (decide (d.2.2.1 < d.2.1)) = true then (g71 _ (d.2.2.2.2.2.2.2.1.2.1, d.2.2.2.1.2.1) fun t10 => (g71 _ (d.2.2.2.2.2.2.2.1.2.2.1, d.2.2.2.1.2.2.1) fun t11 => (g23 _ t10 fun t12 => (if (decide (t12 > (4096 : Int))) = false then (g23 _ t11 fun t13 => (if (decide (t13 > (4096 : Int))) = true then Kz (.inl ((3 : Int), (d.2.2.2.1.1, d.2.2.2.1.2.1, d.2.2.2.1.2.2.1, ()), (d.2.2.2.2.1.1, d.2.2.2.2.1.2.1, d.2.2.2.2.1.2.2.1, ()), (false, ()), (d.2.2.2.2.2.2.1.1, d.2.2.2.2.2.2.1.2.1, d.2.2.2.2.2.2.1.2.2.1, ()), ((!(d.2.2.2.1.1 == d.2.2.2.2.2.2.2.1.1)), t10, t11, ()), ())) else Kn (d.1, d.2.1, (IntKind.i64.wrap (d.2.2.1 + (1 : Int))), (d.2.2.2.1.1, d.2.2.2.1.2.1, d.2.2.2.1.2.2.1, ()), (d.2.2.2.2.1.1, d.2.2.2.2.1.2.1, d.2.2.2.2.1.2.2.1, ()), (d.2.2.2.2.2.1.1, ()), (d.2.2.2.2.2.2.1.1, d.2.2.2.2.2.2.1.2.1, d.2.2.2.2.2.2.1.2.2.1, ()), ((!(d.2.2.2.1.1 == d.2.2.2.2.2.2.2.1.1)), t10, t11, ()), ()))) else Kz (.inl ((3 : Int), (d.2.2.2.1.1, d.2.2.2.1.2.1, d.2.2.2.1.2.2.1, ()), (d.2.2.2.2.1.1, d.2.2.2.2.1.2.1, d.2.2.2.2.1.2.2.1, ()), (false, ()), (d.2.2.2.2.2.2.1.1, d.2.2.2.2.2.2.1.2.1, d.2.2.2.2.2.2.1.2.2.1, ()), ((!(d.2.2.2.1.1 == d.2.2.2.2.2.2.2.1.1)), t10, t11, ()), ())))))) else Kz (.inr (d.1, (d.2.2.2.1.1, d.2.2.2.1.2.1, d.2.2.2.1.2.2.1, ()), (d.2.2.2.2.1.1, d.2.2.2.2.1.2.1, d.2.2.2.2.1.2.2.1, ()), (d.2.2.2.2.2.1.1, ()), (d.2.2.2.2.2.2.1.1, d.2.2.2.2.2.2.1.2.1, d.2.2.2.2.2.2.1.2.2.1, ()), (d.2.2.2.2.2.2.2.1.1, d.2.2.2.2.2.2.2.1.2.1, d.2.2.2.2.2.2.2.1.2.2.1, ()), ())))
noncomputable def rf_power.bl1 : Rnd rf_power.Dl1 rf_power.Zl1 := rf_power.el1 rf_Made.c rf_CmpNat.c rf_IsInt.c rf_bit.c rf_Inverse.c rf_small.c rf_MulNat.c rf_LenNat.c
noncomputable def rf_power.l1 : LF rf_power.Dl1 rf_power.Zl1 := iter rf_power.bl1 4611686018427387904
noncomputable def rf_power.d (g33 : CF (Nm) ((Nm × Int))) (g60 : CF (List Int × List Int) (Int)) (g21 : CF (Nm) (Bool)) (g75 : CF (List Int × Int) (Int)) (g37 : CF (Nm) (Nm)) (g78 : CF (Nm) ((Int × Bool))) (g71 : CF (List Int × List Int) (List Int)) (g23 : CF (List Int) (Int)) (l1 : LF rf_power.Dl1 rf_power.Zl1) (R : Type) (a : Nm × Nm) (K : ((Nm × Int)) → Option R) : Option R :=
  (if ((a.2.2.1.length : Int) == (0 : Int)) = true then (g33 _ (false, ([(1 : Int)] : List Int), ([(1 : Int)] : List Int)) fun t1 => K ((t1.1.1, t1.1.2.1, t1.1.2.2), t1.2)) else (if ((a.1.2.1.length : Int) == (0 : Int)) = false then (g60 _ (a.1.2.1, ([(1 : Int)] : List Int)) fun t2 => (if (t2 == (0 : Int)) = true then (g21 _ (a.1.1, a.1.2.1, a.1.2.2) fun t3 => (if t3 = true then (if a.1.1 = true then (g75 _ (a.2.2.1, (0 : Int)) fun t4 => (if (t4 == (0 : Int)) = true then (g33 _ (false, ([(1 : Int)] : List Int), ([(1 : Int)] : List Int)) fun t5 => K ((t5.1.1, t5.1.2.1, t5.1.2.2), t5.2)) else (g33 _ (a.1.1, a.1.2.1, a.1.2.2) fun t6 => K ((t6.1.1, t6.1.2.1, t6.1.2.2), t6.2)))) else (g33 _ (a.1.1, a.1.2.1, a.1.2.2) fun t7 => K ((t7.1.1, t7.1.2.1, t7.1.2.2), t7.2))) else (if a.2.1 = true then (g37 _ (a.1.1, a.1.2.1, a.1.2.2) fun t8 => (g78 _ (a.2.1, a.2.2.1, a.2.2.2) fun t9 => (if (!t9.2) = false then (if (decide (t9.1 > (4096 : Int))) = true then K ((false, ([] : List Int), ([] : List Int)), (3 : Int)) else (l1 _ ((0 : Int), t9.1, (0 : Int), (t8.1, t8.2.1, t8.2.2, ()), (a.2.1, a.2.2.1, a.2.2.2, ()), (false, ()), (false, ([(1 : Int)] : List Int), ([(1 : Int)] : List Int), ()), (false, ([(1 : Int)] : List Int), ([(1 : Int)] : List Int), ()), ()) fun t10 => (oneOf (fun t11 => K ((t11.2.2.2.1.1, ([] : List Int), ([] : List Int)), t11.1)) (fun t12 => (g33 _ (t12.2.2.2.2.2.1.1, t12.2.2.2.2.2.1.2.1, t12.2.2.2.2.2.1.2.2.1) fun t13 => K ((t13.1.1, t13.1.2.1, t13.1.2.2), t13.2)))) t10)) else K ((false, ([] : List Int), ([] : List Int)), (3 : Int))))) else (g78 _ (a.2.1, a.2.2.1, a.2.2.2) fun t14 => (if (!t14.2) = false then (if (decide (t14.1 > (4096 : Int))) = true then K ((false, ([] : List Int), ([] : List Int)), (3 : Int)) else (l1 _ ((0 : Int), t14.1, (0 : Int), (a.1.1, a.1.2.1, a.1.2.2, ()), (a.2.1, a.2.2.1, a.2.2.2, ()), (false, ()), (false, ([(1 : Int)] : List Int), ([(1 : Int)] : List Int), ()), (false, ([(1 : Int)] : List Int), ([(1 : Int)] : List Int), ()), ()) fun t15 => (oneOf (fun t16 => K ((t16.2.2.2.1.1, ([] : List Int), ([] : List Int)), t16.1)) (fun t17 => (g33 _ (t17.2.2.2.2.2.1.1, t17.2.2.2.2.2.1.2.1, t17.2.2.2.2.2.1.2.2.1) fun t18 => K ((t18.1.1, t18.1.2.1, t18.1.2.2), t18.2)))) t15)) else K ((false, ([] : List Int), ([] : List Int)), (3 : Int))))))) else (if a.2.1 = true then (g37 _ (a.1.1, a.1.2.1, a.1.2.2) fun t19 => (g78 _ (a.2.1, a.2.2.1, a.2.2.2) fun t20 => (if (!t20.2) = false then (if (decide (t20.1 > (4096 : Int))) = true then K ((false, ([] : List Int), ([] : List Int)), (3 : Int)) else (l1 _ ((0 : Int), t20.1, (0 : Int), (t19.1, t19.2.1, t19.2.2, ()), (a.2.1, a.2.2.1, a.2.2.2, ()), (false, ()), (false, ([(1 : Int)] : List Int), ([(1 : Int)] : List Int), ()), (false, ([(1 : Int)] : List Int), ([(1 : Int)] : List Int), ()), ()) fun t21 => (oneOf (fun t22 => K ((t22.2.2.2.1.1, ([] : List Int), ([] : List Int)), t22.1)) (fun t23 => (g33 _ (t23.2.2.2.2.2.1.1, t23.2.2.2.2.2.1.2.1, t23.2.2.2.2.2.1.2.2.1) fun t24 => K ((t24.1.1, t24.1.2.1, t24.1.2.2), t24.2)))) t21)) else K ((false, ([] : List Int), ([] : List Int)), (3 : Int))))) else (g78 _ (a.2.1, a.2.2.1, a.2.2.2) fun t25 => (if (!t25.2) = false then (if (decide (t25.1 > (4096 : Int))) = true then K ((false, ([] : List Int), ([] : List Int)), (3 : Int)) else (l1 _ ((0 : Int), t25.1, (0 : Int), (a.1.1, a.1.2.1, a.1.2.2, ()), (a.2.1, a.2.2.1, a.2.2.2, ()), (false, ()), (false, ([(1 : Int)] : List Int), ([(1 : Int)] : List Int), ()), (false, ([(1 : Int)] : List Int), ([(1 : Int)] : List Int), ()), ()) fun t26 => (oneOf (fun t27 => K ((t27.2.2.2.1.1, ([] : List Int), ([] : List Int)), t27.1)) (fun t28 => (g33 _ (t28.2.2.2.2.2.1.1, t28.2.2.2.2.2.1.2.1, t28.2.2.2.2.2.1.2.2.1) fun t29 => K ((t29.1.1, t29.1.2.1, t29.1.2.2), t29.2)))) t26)) else K ((false, ([] : List Int), ([] : List Int)), (3 : Int))))))) else (if a.1.1 = true then (g75 _ (a.2.2.1, (0 : Int)) fun t30 => (if (t30 == (0 : Int)) = true then (g33 _ (false, ([(1 : Int)] : List Int), ([(1 : Int)] : List Int)) fun t31 => K ((t31.1.1, t31.1.2.1, t31.1.2.2), t31.2)) else (g33 _ (a.1.1, a.1.2.1, a.1.2.2) fun t32 => K ((t32.1.1, t32.1.2.1, t32.1.2.2), t32.2)))) else (g33 _ (a.1.1, a.1.2.1, a.1.2.2) fun t33 => K ((t33.1.1, t33.1.2.1, t33.1.2.2), t33.2)))))
noncomputable abbrev rf_power.c (R : Type) (a : Nm × Nm) (K : ((Nm × Int)) → Option R) : Option R := rf_power.d rf_Made.c rf_CmpNat.c rf_IsInt.c rf_bit.c rf_Inverse.c rf_small.c rf_MulNat.c rf_LenNat.c rf_power.l1 R a K
noncomputable def rf_power.T38 (g33 : CF (Nm) ((Nm × Int))) (g60 : CF (List Int × List Int) (Int)) (g21 : CF (Nm) (Bool)) (g75 : CF (List Int × Int) (Int)) (g37 : CF (Nm) (Nm)) (g78 : CF (Nm) ((Int × Bool))) (g71 : CF (List Int × List Int) (List Int)) (g23 : CF (List Int) (Int)) : List (Nat × Tf) := []
theorem rf_power.tok38 : TOk Tryz.prog (tt (rf_power.T38 rf_Made.c rf_CmpNat.c rf_IsInt.c rf_bit.c rf_Inverse.c rf_small.c rf_MulNat.c rf_LenNat.c)) := tt_nil
noncomputable def rf_power.T (g33 : CF (Nm) ((Nm × Int))) (g60 : CF (List Int × List Int) (Int)) (g21 : CF (Nm) (Bool)) (g75 : CF (List Int × Int) (Int)) (g37 : CF (Nm) (Nm)) (g78 : CF (Nm) ((Int × Bool))) (g71 : CF (List Int × List Int) (List Int)) (g23 : CF (List Int) (Int)) : List (Nat × Tf) := [(21, .pure (mk (one kQ) cb g21)), (23, .pure (mk (one rI) iI g23)), (33, .pure (mk (one kQ) kE g33)), (37, .pure (mk (one kQ) kQ g37)), (38, .pure (execFn' Tryz.prog (tt (rf_power.T38 g33 g60 g21 g75 g37 g78 g71 g23)) (lt []) 60 Tryz.f38)), (60, .pure (mk (more rI (one rI)) iI g60)), (71, .pure (mk (more rI (one rI)) rI g71)), (75, .pure (mk (more rI (one iI)) iI g75)), (78, .pure (mk (one kQ) (tup (more iI (one cb))) g78))]
theorem rf_power.tok : TOk Tryz.prog (tt (rf_power.T rf_Made.c rf_CmpNat.c rf_IsInt.c rf_bit.c rf_Inverse.c rf_small.c rf_MulNat.c rf_LenNat.c)) := (tt_cons rf_IsInt.ok (tt_cons rf_LenNat.ok (tt_cons rf_Made.ok (tt_cons rf_Inverse.ok (tt_cons (execN_ok rf_power.tok38 mixed Tryz.func38 (by kernel_rfl)) (tt_cons rf_CmpNat.ok (tt_cons rf_MulNat.ok (tt_cons rf_bit.ok (tt_cons rf_small.ok tt_nil)))))))))
noncomputable def rf_power.cl1 : Code := ((bodies [0, 1, 0, 1, 1, 1, 1, 1, 1, 1, 1] [] (Tryz.f40.body.getD .skip)).headD .skip)
set_option maxRecDepth 100000 in
theorem rf_power.xl1 (g33 : CF (Nm) ((Nm × Int))) (g60 : CF (List Int × List Int) (Int)) (g21 : CF (Nm) (Bool)) (g75 : CF (List Int × Int) (Int)) (g37 : CF (Nm) (Nm)) (g78 : CF (Nm) ((Int × Bool))) (g71 : CF (List Int × List Int) (List Int)) (g23 : CF (List Int) (Int)) (R : Type) (d : rf_power.Dl1) (Kn : rf_power.Dl1 → Option R) (Kz : rf_power.Zl1 → Option R) : run' Tryz.prog (tt (rf_power.T g33 g60 g21 g75 g37 g78 g71 g23)) (lt []) Tryz.f40.ntmps 60 [0, 0, 1, 0, 1, 1, 1, 1, 1, 1, 1, 1] rf_power.cl1 ⟨rf_power.cDl1.enc d, 5⟩ (dz 5 rf_power.cDl1 rf_power.cZl1 Kn Kz) = rf_power.el1 g33 g60 g21 g75 g37 g78 g71 g23 R d Kn Kz := by kernel_rfl
theorem rf_power.ol1 : LoopOk Tryz.prog Tryz.f40.ntmps rf_power.cl1 (loopG 5 rf_power.cDl1 rf_power.cZl1 rf_power.l1) := loop_told rf_power.tok mixed (rf_power.xl1 rf_Made.c rf_CmpNat.c rf_IsInt.c rf_bit.c rf_Inverse.c rf_small.c rf_MulNat.c rf_LenNat.c) 4611686018427387904
set_option maxRecDepth 100000 in
theorem rf_power.ex0 (g33 : CF (Nm) ((Nm × Int))) (g60 : CF (List Int × List Int) (Int)) (g21 : CF (Nm) (Bool)) (g75 : CF (List Int × Int) (Int)) (g37 : CF (Nm) (Nm)) (g78 : CF (Nm) ((Int × Bool))) (g71 : CF (List Int × List Int) (List Int)) (g23 : CF (List Int) (Int)) (l1 : LF rf_power.Dl1 rf_power.Zl1) (R : Type) (a : Nm × Nm) (K : ((Nm × Int)) → Option R) : execFn' Tryz.prog (tt (rf_power.T g33 g60 g21 g75 g37 g78 g71 g23)) (lt [([0, 1, 0, 1, 1, 1, 1, 1, 1, 1, 1], loopG 5 rf_power.cDl1 rf_power.cZl1 l1)]) 60 Tryz.f40 R ((more kQ (one kQ)).enc a) (dk kE K) = rf_power.d g33 g60 g21 g75 g37 g78 g71 g23 l1 R a K := by kernel_rfl
theorem rf_power.sh : Shown Tryz.prog 40 (more kQ (one kQ)).enc kE rf_power.c := exec_shownL rf_power.tok mixed Tryz.func40 (by kernel_rfl) (nats_cons rf_power.ol1.1 nats_nil) (loops_at rfl (loops_cons (by kernel_rfl) rf_power.ol1 loops_nil)) (rf_power.ex0 rf_Made.c rf_CmpNat.c rf_IsInt.c rf_bit.c rf_Inverse.c rf_small.c rf_MulNat.c rf_LenNat.c rf_power.l1)
theorem rf_power.ok : FunOk Tryz.prog 40 (mk (more kQ (one kQ)) kE rf_power.c) := rf_power.sh.ok (by kernel_rfl)
theorem long_c {x : List Int} (hx : Lim 65536 x) (nx : Nrm x) (lx : x.length ≤ 100000) : ∃ L : Int, (∀ (R : Type) (K : Int → Option R), rf_LenNat.c R x K = K L) ∧ (4096 < L ↔ 2 ^ 4096 ≤ val 65536 x) := by
  obtain ⟨L, l1, l2, l3, l4⟩ := LenNat_ev x hx nx (by omega)
  refine ⟨L, fun R K => rf_LenNat.eq l4 K, ?_⟩
  have v0 := val_nonneg (show (0 : Int) < 65536 by decide) hx
  constructor
  · intro h
    have hp : 0 < val 65536 x := by
      rcases Int.lt_or_le 0 (val 65536 x) with h1 | h1
      · exact h1
      · have e : val 65536 x = 0 := by omega
        have := (val_eq_zero (by decide) hx nx).1 e
        subst this
        simp at l1
        omega
    obtain ⟨a1, a2⟩ := l3 hp
    exact Int.le_trans (pow_mono' (by decide) (show 4096 ≤ L - 1 by omega)) a2
  · intro h
    rcases Nat.lt_or_ge 4096 L with h1 | h1
    · omega
    · have := pow_mono' (show (0 : Int) < 2 by decide) h1
      omega
theorem len256 {x : List Int} (hx : Lim 65536 x) (nx : Nrm x) (h : val 65536 x < 2 ^ 4096) : x.length ≤ 256 := by
  have e : (65536 : Int) ^ 256 = 2 ^ 4096 := by rw [show (65536 : Int) = 2 ^ 16 from rfl, ← Int.pow_mul]
  rw [← e] at h
  exact small_len (by decide) hx nx h
theorem pow_le_pow' {A : Int} (hA : 1 ≤ A) {i n : Nat} (h : i ≤ n) : A ^ i ≤ A ^ n := pow_mono' (by omega) h
def sgnAt (na : Bool) (i : Nat) : Bool := na && decide (i % 2 = 1)
theorem sgnAt_succ (na : Bool) (i : Nat) : (!(na == sgnAt na i)) = sgnAt na (i + 1) := by
  unfold sgnAt
  cases na with
  | false => rfl
  | true =>
    rcases Nat.mod_two_eq_zero_or_one i with h | h
    · have : (i + 1) % 2 = 1 := by omega
      simp [h, this]
    · have : (i + 1) % 2 = 0 := by omega
      simp [h, this]
theorem rpow_loop (na : Bool) (x u : List Int) (hx : Lim 65536 x) (hu : Lim 65536 u) (lx : x.length ≤ 256) (lu : u.length ≤ 256) (x1 : 1 ≤ val 65536 x) (u1 : 1 ≤ val 65536 u) (n : Nat) (hn : n ≤ 4096) (e0 : Int) (b1 : Bool × (List Int) × (List Int) × Unit) (b2 : Bool × Unit) (b3 : Bool × (List Int) × (List Int) × Unit) :
    ∀ (m i : Nat) (p q : List Int), m + i = n → Lim 65536 p → Nrm p → Lim 65536 q → Nrm q → val 65536 p = val 65536 x ^ i → val 65536 q = val 65536 u ^ i → val 65536 p < 2 ^ 4096 → val 65536 q < 2 ^ 4096 →
      (∃ p' q', Lim 65536 p' ∧ Nrm p' ∧ Lim 65536 q' ∧ Nrm q' ∧ val 65536 p' = val 65536 x ^ n ∧ val 65536 q' = val 65536 u ^ n ∧ val 65536 p' < 2 ^ 4096 ∧ val 65536 q' < 2 ^ 4096 ∧ ∀ (fuel : Nat), m < fuel → ∀ (R : Type) K, iter rf_power.bl1 fuel R (e0, (n : Int), (i : Int), (na, x, u, ()), b1, b2, b3, (sgnAt na i, p, q, ()), ()) K = K (.inr (e0, (na, x, u, ()), b1, b2, b3, (sgnAt na n, p', q', ()), ()))) ∨
      ((2 ^ 4096 ≤ val 65536 x ^ n ∨ 2 ^ 4096 ≤ val 65536 u ^ n) ∧ ∃ z, ∀ (fuel : Nat), m < fuel → ∀ (R : Type) K, iter rf_power.bl1 fuel R (e0, (n : Int), (i : Int), (na, x, u, ()), b1, b2, b3, (sgnAt na i, p, q, ()), ()) K = K (.inl (3, (na, x, u, ()), b1, (false, ()), b3, z, ()))) := by
  intro m
  induction m with
  | zero =>
    intro i p q hi hp np hq nq vp vq bp bq
    have hi' : i = n := by omega
    subst hi'
    refine .inl ⟨p, q, hp, np, hq, nq, vp, vq, bp, bq, fun fuel hf R K => ?_⟩
    obtain ⟨f, rfl⟩ : ∃ f, fuel = f + 1 := ⟨fuel - 1, by omega⟩
    obtain ⟨c1, c2, c3, c4⟩ := b1
    obtain ⟨d1, d2⟩ := b2
    obtain ⟨g1, g2, g3, g4⟩ := b3
    simp only [iter]
    unfold rf_power.bl1 rf_power.el1
    dsimp only
    rw [if_neg (by simp)]
  | succ m ih =>
    intro i p q hi hp np hq nq vp vq bp bq
    have lp := len256 hp np bp
    have lq := len256 hq nq bq
    obtain ⟨r, r1, r2, r3, r4, r5⟩ := MulNat_ev p x hp hx (by omega)
    obtain ⟨s, s1, s2, s3, s4, s5⟩ := MulNat_ev q u hq hu (by omega)
    rw [vp, ← Int.pow_succ] at r4
    rw [vq, ← Int.pow_succ] at s4
    obtain ⟨L, l1, l2⟩ := long_c r2 r3 (by omega)
    obtain ⟨M, m1, m2⟩ := long_c s2 s3 (by omega)
    have w3 : IntKind.i64.wrap ((i : Int) + 1) = ((i + 1 : Nat) : Int) := by rw [IntKind.wrap_i64]; omega
    have hbig : ∀ {A : Int}, 1 ≤ A → 2 ^ 4096 ≤ A ^ (i + 1) → 2 ^ 4096 ≤ A ^ n := fun h1 h2 => Int.le_trans h2 (pow_le_pow' h1 (by omega))
    have step : ∀ (f : Nat) (R : Type) (K : _ → Option R), iter rf_power.bl1 (f + 1) R (e0, (n : Int), (i : Int), (na, x, u, ()), b1, b2, b3, (sgnAt na i, p, q, ()), ()) K =
        if decide (L > 4096) = false then (if decide (M > 4096) = true then K (.inl (3, (na, x, u, ()), b1, (false, ()), b3, (sgnAt na (i + 1), r, s, ()), ())) else iter rf_power.bl1 f R (e0, (n : Int), ((i + 1 : Nat) : Int), (na, x, u, ()), b1, b2, b3, (sgnAt na (i + 1), r, s, ()), ()) K) else K (.inl (3, (na, x, u, ()), b1, (false, ()), b3, (sgnAt na (i + 1), r, s, ()), ())) := by
      intro f R K
      obtain ⟨c1, c2, c3, c4⟩ := b1
      obtain ⟨d1, d2⟩ := b2
      obtain ⟨g1, g2, g3, g4⟩ := b3
      simp only [iter]
      unfold rf_power.bl1 rf_power.el1
      dsimp only
      rw [if_pos (by simp; omega)]
      refine (rf_MulNat.eq r1 _).trans ?_
      refine (rf_MulNat.eq s1 _).trans ?_
      refine (l1 R _).trans ?_
      rw [sgnAt_succ, w3]
      by_cases hL : decide (L > 4096) = false
      · rw [if_pos hL, if_pos hL]
        exact m1 R _
      · rw [if_neg hL, if_neg hL]
    by_cases c1 : L > 4096
    · refine .inr ⟨.inl (hbig x1 (by rw [← r4]; exact l2.1 c1)), (sgnAt na (i + 1), r, s, ()), fun fuel hf R K => ?_⟩
      obtain ⟨f, rfl⟩ : ∃ f, fuel = f + 1 := ⟨fuel - 1, by omega⟩
      rw [step, if_neg (by simp [c1])]
    · by_cases c2 : M > 4096
      · refine .inr ⟨.inr (hbig u1 (by rw [← s4]; exact m2.1 c2)), (sgnAt na (i + 1), r, s, ()), fun fuel hf R K => ?_⟩
        obtain ⟨f, rfl⟩ : ∃ f, fuel = f + 1 := ⟨fuel - 1, by omega⟩
        rw [step, if_pos (by simp [c1]), if_pos (by simp [c2])]
      · have br : val 65536 r < 2 ^ 4096 := by
          rcases Int.lt_or_le (val 65536 r) (2 ^ 4096) with h | h
          · exact h
          · exact absurd (l2.2 h) c1
        have bs : val 65536 s < 2 ^ 4096 := by
          rcases Int.lt_or_le (val 65536 s) (2 ^ 4096) with h | h
          · exact h
          · exact absurd (m2.2 h) c2
        have hst : ∀ (f : Nat) (R : Type) (K : _ → Option R), iter rf_power.bl1 (f + 1) R (e0, (n : Int), (i : Int), (na, x, u, ()), b1, b2, b3, (sgnAt na i, p, q, ()), ()) K = iter rf_power.bl1 f R (e0, (n : Int), ((i + 1 : Nat) : Int), (na, x, u, ()), b1, b2, b3, (sgnAt na (i + 1), r, s, ()), ()) K := fun f R K => by
          rw [step, if_pos (by simp [c1]), if_neg (by simp [c2])]
        rcases ih (i + 1) r s (by omega) r2 r3 s2 s3 r4 s4 br bs with ⟨p', q', h1, h2, h3, h4, h5, h6, h7, h8, h9⟩ | ⟨h1, z, h2⟩
        · refine .inl ⟨p', q', h1, h2, h3, h4, h5, h6, h7, h8, fun fuel hf R K => ?_⟩
          obtain ⟨f, rfl⟩ : ∃ f, fuel = f + 1 := ⟨fuel - 1, by omega⟩
          rw [hst]
          exact h9 f (by omega) R K
        · refine .inr ⟨h1, z, fun fuel hf R K => ?_⟩
          obtain ⟨f, rfl⟩ : ∃ f, fuel = f + 1 := ⟨fuel - 1, by omega⟩
          rw [hst]
          exact h2 f (by omega) R K
noncomputable def rf_Two112.d (g20 : CF (Nm) (Int)) (g22 : CF (Nm) (Nm)) (g21 : CF (Nm) (Bool)) (g40 : CF (Nm × Nm) ((Nm × Int))) (R : Type) (a : Nm × Nm) (K : ((Nm × Int)) → Option R) : Option R :=
  (g20 _ (a.1.1, a.1.2.1, a.1.2.2) fun t1 => (if (t1 != (0 : Int)) = true then K ((false, ([] : List Int), ([] : List Int)), t1) else (g20 _ (a.2.1, a.2.2.1, a.2.2.2) fun t2 => (if (t2 != (0 : Int)) = true then K ((false, ([] : List Int), ([] : List Int)), t2) else (g22 _ (a.1.1, a.1.2.1, a.1.2.2) fun t3 => (g22 _ (a.2.1, a.2.2.1, a.2.2.2) fun t4 => (g21 _ (t4.1, t4.2.1, t4.2.2) fun t5 => (if (!t5) = true then K ((false, ([] : List Int), ([] : List Int)), (7 : Int)) else (if ((t3.2.1.length : Int) == (0 : Int)) = true then (if t4.1 = true then K ((false, ([] : List Int), ([] : List Int)), (10 : Int)) else (g40 _ ((t3.1, t3.2.1, t3.2.2), (t4.1, t4.2.1, t4.2.2)) fun t6 => K ((t6.1.1, t6.1.2.1, t6.1.2.2), t6.2))) else (g40 _ ((t3.1, t3.2.1, t3.2.2), (t4.1, t4.2.1, t4.2.2)) fun t7 => K ((t7.1.1, t7.1.2.1, t7.1.2.2), t7.2)))))))))))
noncomputable abbrev rf_Two112.c (R : Type) (a : Nm × Nm) (K : ((Nm × Int)) → Option R) : Option R := rf_Two112.d rf_Fault.c rf_Of.c rf_IsInt.c rf_power.c R a K
noncomputable def rf_Two112.T (g20 : CF (Nm) (Int)) (g22 : CF (Nm) (Nm)) (g21 : CF (Nm) (Bool)) (g40 : CF (Nm × Nm) ((Nm × Int))) : List (Nat × Tf) := [(20, .pure (mk (one kN) iI g20)), (21, .pure (mk (one kQ) cb g21)), (22, .pure (mk (one kN) kQ g22)), (32, .pure (mk (more cs (one (ci .u8))) iI strings_IndexByte.c)), (40, .pure (mk (more kQ (one kQ)) kE g40))]
theorem rf_Two112.tok : TOk Tryz.prog (tt (rf_Two112.T rf_Fault.c rf_Of.c rf_IsInt.c rf_power.c)) := (tt_cons rf_Fault.ok (tt_cons rf_IsInt.ok (tt_cons rf_Of.ok (tt_cons strings_IndexByte.ok (tt_cons rf_power.ok tt_nil)))))
set_option maxRecDepth 100000 in
theorem rf_Two112.ex0 (g20 : CF (Nm) (Int)) (g22 : CF (Nm) (Nm)) (g21 : CF (Nm) (Bool)) (g40 : CF (Nm × Nm) ((Nm × Int))) (R : Type) (a : Nm × Nm) (K : ((Nm × Int)) → Option R) : execFn' Tryz.prog (tt (rf_Two112.T g20 g22 g21 g40)) (lt []) 60 Tryz.f9 R [.int .u8 (112 : Int), .agg [.bool a.1.1, .row .u32 a.1.2.1, .row .u32 a.1.2.2], .agg [.bool a.2.1, .row .u32 a.2.2.1, .row .u32 a.2.2.2]] (dk kE K) = rf_Two112.d g20 g22 g21 g40 R a K := by kernel_rfl
theorem rf_Two112.sh : Shown Tryz.prog 9 (fun (a : Nm × Nm) => [.int .u8 (112 : Int), .agg [.bool a.1.1, .row .u32 a.1.2.1, .row .u32 a.1.2.2], .agg [.bool a.2.1, .row .u32 a.2.2.1, .row .u32 a.2.2.2]]) kE rf_Two112.c := exec_shown rf_Two112.tok mixed Tryz.func9 (by kernel_rfl) (rf_Two112.ex0 rf_Fault.c rf_Of.c rf_IsInt.c rf_power.c)
noncomputable def rf_TwoP.c (R : Type) (a : Int × Nm × Nm) (K : ((Nm × Int)) → Option R) : Option R := if a.1 = 112 then rf_Two112.c R a.2 K else none
theorem rf_TwoP.ok : FunOk Tryz.prog 9 (mk (more (ci .u8) (more kN (one kN))) kE rf_TwoP.c) := by
  refine mk_ok (by kernel_rfl) (fun R a K => ?_) (fun a b h => ?_)
  · unfold rf_TwoP.c
    by_cases h : a.1 = 112
    · rw [if_pos h, if_pos h]; exact rf_Two112.sh.1 R a.2 K
    rw [if_neg h, if_neg h]; clear h
    rfl
  · obtain ⟨op, a⟩ := a
    unfold rf_TwoP.c at h
    by_cases c : op = 112
    · subst c; rw [if_pos rfl] at h; exact rf_Two112.sh.2 a b h
    rw [if_neg c] at h; clear c
    cases h
end Go.Proofs.YtemnjgkicndmjaaGreatDoor.Q
namespace Go.Proofs.YtemnjgkicndmjaaGreatDoor.Q
open Go.RowKit Go.Proofs.YtemnjgkicndmjaaGreatDoorW.PrintWords Go.Proofs.YtemnjgkicndmjaaGreatDoorW.PrintLast Go.Proofs.YtemnjgkicndmjaaGreatDoorW.PrintMore
attribute [local go_sem] max2_int min2_int max_two min_two max_three min_three max_four min_four
set_option linter.unusedVariables false
set_option linter.unusedSimpArgs false
mutual
def nat_FromDecimal.l0 : Nat → ByteArray → List Int → Option (List Int)
 | 0, _, _ => none
 | k + 1, x0, x3 => if (x0.size : Int) > 0 then (nat_FromDecimal.l1 k x0 x3 (wrap64 ((Int.tmod (wrap64 ((x0.size : Int) - 1)) 9) + 1)) 0 1 (wrap64 ((Int.tmod (wrap64 ((x0.size : Int) - 1)) 9) + 1)) 0) else (some x3)
def nat_FromDecimal.l1 : Nat → ByteArray → List Int → Int → Int → Int → Int → Int → Option (List Int)
 | 0, _, _, _, _, _, _, _ => none
 | k + 1, x0, x3, x4, x5, x6, x16, x17 => if x17 < x16 then (if 0 ≤ x17 then (if x17 < (x0.size : Int) then (nat_FromDecimal.l1 k x0 x3 x4 (IntKind.u64.wrap ((IntKind.u64.wrap (x5 * 10)) + (((bt x0 x17) - 48) % 256))) (IntKind.u64.wrap (x6 * 10)) x16 (wrap64 (x17 + 1))) else (none)) else (none)) else ((nat_Of.f k x6).bind fun t1453 => ((nat_Mul.f k x3 t1453).bind fun t1456 => ((nat_Of.f k x5).bind fun t1459 => ((nat_plus.f k t1456 t1459).bind fun t1462 => (if 0 ≤ x4 then (if x4 ≤ (x0.size : Int) then (nat_FromDecimal.l0 k (x0.extract (x4 : Int).toNat x0.size) t1462) else (none)) else (none))))))
end
def nat_FromDecimal.f (k : Nat) (a0 : ByteArray) : Option (List Int) := nat_FromDecimal.l0 k a0 ([] : List Int)
set_option maxHeartbeats 8000000 in
set_option maxRecDepth 100000 in
theorem nat_FromDecimal.calls (k : Nat) (a0 : ByteArray) (r : List Int) (w : World) (h : nat_FromDecimal.f k a0 = some r) :
  Calls Tryz.prog 85 #[.string a0] w fun e w' => ∃ v0_ : Value, e = .returned (v0_) ∧ Kd.V (Kd.int .u32) 73 w' w.heap.size (fun k_ => (w.heap.size ≤ k_)) v0_ r ∧ Below w.heap.size w w' := by
 have HB := am (Below.refl w.heap.size w)
 have H := h
 unfold nat_FromDecimal.f at H
 clear h
 have H' := am H
 clear H
 go_enter Tryz.func85, Tryz.ntmps85
 go_wp2
 go_loopg [0, 3] k (fun kq v0 v3 w' => ∃ (x0_1 : ByteArray) (x3_1 : List Int), v0 = .string x0_1 ∧ Aside0 (nat_FromDecimal.l0 kq x0_1 x3_1 = some r) ∧ Aside0 (kq ≤ k) ∧ Aside0 (Kd.V (Kd.int .u32) 73 w' w.heap.size (fun k_ => (w.heap.size ≤ k_)) v3 x3_1) ∧ Aside0 (Below w.heap.size w w'))
 case atStart => exact ⟨(a0), (([] : List Int)), zq8, H', ⟨Nat.le_refl _⟩, ⟨Kd.V_nil _ _ _ _ _⟩, ⟨zq1⟩⟩
 case round =>
  clear H'
  obtain ⟨x0_1, x3_1, rfl, HA, HK1, HO_3, HB⟩ := hrel
  cases gk with
  | zero => exact absurd HA.out (by simp [nat_FromDecimal.l0])
  | succ k1 =>
   have H := HA.out
   clear HA
   simp only [nat_FromDecimal.l0] at H
   by_cases c2 : (x0_1.size : Int) > 0
   ·rw [if_pos c2] at H
    have c2b0 : decide (0 < (x0_1.size : Int)) = true := decide_eq_true c2
    have c2b1 : decide (0 < x0_1.size) = true := decide_eq_true (by omega)
    clear c2
    have H' := am H
    clear H
    go_wp2
    go_loopg [5, 6, 17] k1 (fun kq v5 v6 v17 w' => ∃ (x5_2 : Int) (x6_2 : Int) (x17_2 : Int), v5 = .int .u64 x5_2 ∧ v6 = .int .u64 x6_2 ∧ v17 = .int .i64 x17_2 ∧ Aside0 (nat_FromDecimal.l1 kq x0_1 x3_1 (wrap64 ((Int.tmod (wrap64 ((x0_1.size : Int) - 1)) 9) + 1)) x5_2 x6_2 (wrap64 ((Int.tmod (wrap64 ((x0_1.size : Int) - 1)) 9) + 1)) x17_2 = some r) ∧ Aside0 (kq ≤ k1) ∧ Aside0 (Kd.V (Kd.int .u32) 73 w' w.heap.size (fun k_ => (w.heap.size ≤ k_)) u3 x3_1) ∧ Aside0 (Below w.heap.size w w'))
    case atStart => exact ⟨(0), (1), (0), zq8, zq8, zq8, H', ⟨Nat.le_refl _⟩, ⟨zq3 HO_3.out⟩, ⟨zq1⟩⟩
    case round =>
     clear H'
     obtain ⟨x5_2, x6_2, x17_2, rfl, rfl, rfl, HA, HK2, HO_3, HB⟩ := hrel
     cases gk with
     | zero => exact absurd HA.out (by simp [nat_FromDecimal.l1])
     | succ k2 =>
      have H := HA.out
      clear HA
      simp only [nat_FromDecimal.l1] at H
      by_cases c3 : x17_2 < (wrap64 ((Int.tmod (wrap64 ((x0_1.size : Int) - 1)) 9) + 1))
      ·rw [if_pos c3] at H
       have c3b0 := decide_eq_true c3
       clear c3
       replace H := zn H
       obtain ⟨c4, H⟩ := H
       have c4b0 := decide_eq_true c4
       clear c4
       replace H := zn H
       obtain ⟨c5, H⟩ := H
       have c5b0 := decide_eq_true c5
       clear c5
       have H' := am H
       clear H
       have p6 : 0 ≤ (x17_2 : Int) := zq6
       have q6 : x17_2 < (x0_1.size : Int) := zq6
       have hx6 := bt_at x0_1 x17_2
       replace p6 := eq_true p6
       replace q6 := eq_true q6
       go_wp2
       go_roundg k2
       case measure => have := HK1.out; have := HK2.out; omega
       case rel => exact ⟨(IntKind.u64.wrap ((IntKind.u64.wrap (x5_2 * 10)) + (((bt x0_1 x17_2) - 48) % 256))), (IntKind.u64.wrap (x6_2 * 10)), (wrap64 (x17_2 + 1)), zq8, zq8, zq8, H', ⟨by have := HK1.out; have := HK2.out; omega⟩, ⟨zq3 HO_3.out⟩, ⟨zq1⟩⟩
      ·rw [if_neg c3] at H
       have c3b0 := decide_eq_false c3
       clear c3
       replace H := zj H
       obtain ⟨t1453, A7, H⟩ := H
       replace H := zj H
       obtain ⟨t1456, A8, H⟩ := H
       replace H := zj H
       obtain ⟨t1459, A9, H⟩ := H
       replace H := zj H
       obtain ⟨t1462, A10, H⟩ := H
       obtain ⟨ji11, hji11⟩ : ∃ j_ : Int, (wrap64 ((Int.tmod (wrap64 ((x0_1.size : Int) - 1)) 9) + 1)) = j_ := ⟨_, rfl⟩
       replace H : (if 0 ≤ (ji11) then (if (ji11) ≤ (x0_1.size : Int) then (nat_FromDecimal.l0 k2 (x0_1.extract ((ji11) : Int).toNat x0_1.size) t1462) else (none)) else (none)) = some r := by first | (rw [hji11] at H; exact H) | (simp only [hji11] at H ⊢; exact H)
       (try rw [hji11] at c3b0)
       (try rw [hji11] at A7)
       (try rw [hji11] at A8)
       (try rw [hji11] at A9)
       (try rw [hji11] at A10)
       have hji11w : (IntKind.i64.wrap ((Int.tmod (wrap64 ((x0_1.size : Int) - 1)) 9) + 1)) = ji11 := (i64_w _).trans hji11
       replace H := zn H
       obtain ⟨c12, H⟩ := H
       have c12b0 := eq_true c12
       have c12b1 := decide_eq_true c12
       clear c12
       replace H := zn H
       obtain ⟨c13, H⟩ := H
       have c13b0 := eq_true c13
       have c13b1 := decide_eq_true c13
       clear c13
       have H' := am H
       clear H
       go_wp2_with (first | ((with_reducible refine gate_callee (f := 54) rfl ?_); refine goesL_ (some 33) rfl rfl Tryz.func54 (by kernel_rfl) rfl #[.int .u64 x6_2] rfl zq5 ?_; (with_reducible refine (nat_Of.calls k2 x6_2 t1453 _ A7.out).mono ?_); rintro e w14 ⟨v1454, rfl, ho0, hb⟩; refine ⟨_, rfl, ?_⟩; refine zt3 (vb HO_3 hb) (Kd.V_lower (Kd.V_mono (ok' := fun k_ => (w.heap.size ≤ k_)) ho0 (fun k_ hk_ => (Nat.le_trans (below_size zq1) hk_))) (below_size zq1)) (below_step zq1 hb) ?_; clear HO_3 HB; intro HO_3 HO1455 HB; obtain ⟨Ao15, co15, eo15⟩ := Kd.V_slice HO_3.out; subst eo15; obtain ⟨Ao16, co16, eo16⟩ := Kd.V_slice HO1455.out; subst eo16) | ((with_reducible refine gate_callee (f := 30) rfl ?_); refine goesL_ (some 34) rfl rfl Tryz.func30 (by kernel_rfl) rfl #[.slice Ao15 x3_1.length co15, .slice Ao16 t1453.length co16] rfl zq5 ?_; (with_reducible refine (nat_Mul.calls k2 _ _ x3_1 _ _ t1453 t1456 _ ?side1 ?side2 ?side3 ?side4 A8.out).mono ?_); (case side1 => exact zc ((Kd.V_reads' HO_3.out).2.2)); (case side2 => exact (Kd.V_reads' HO_3.out).2.1); (case side3 => exact zc ((Kd.V_reads' HO1455.out).2.2)); (case side4 => exact (Kd.V_reads' HO1455.out).2.1); rintro e w17 ⟨v1457, rfl, ho0, hb⟩; refine ⟨_, rfl, ?_⟩; refine zt4 (vb HO_3 hb) (vb HO1455 hb) (Kd.V_lower (Kd.V_mono (ok' := fun k_ => (w.heap.size ≤ k_)) ho0 (fun k_ hk_ => (Nat.le_trans (below_size zq1) hk_))) (below_size zq1)) (below_step zq1 hb) ?_; clear HO_3 HO1455 HB; intro HO_3 HO1455 HO1458 HB) | ((with_reducible refine gate_callee (f := 54) rfl ?_); refine goesL_ (some 36) rfl rfl Tryz.func54 (by kernel_rfl) rfl #[.int .u64 x5_2] rfl zq5 ?_; (with_reducible refine (nat_Of.calls k2 x5_2 t1459 _ A9.out).mono ?_); rintro e w18 ⟨v1460, rfl, ho0, hb⟩; refine ⟨_, rfl, ?_⟩; refine zt5 (vb HO_3 hb) (vb HO1455 hb) (vb HO1458 hb) (Kd.V_lower (Kd.V_mono (ok' := fun k_ => (w.heap.size ≤ k_)) ho0 (fun k_ hk_ => (Nat.le_trans (below_size zq1) hk_))) (below_size zq1)) (below_step zq1 hb) ?_; clear HO_3 HO1455 HO1458 HB; intro HO_3 HO1455 HO1458 HO1461 HB; obtain ⟨Ao19, co19, eo19⟩ := Kd.V_slice HO1458.out; subst eo19; obtain ⟨Ao20, co20, eo20⟩ := Kd.V_slice HO1461.out; subst eo20) | ((with_reducible refine gate_callee (f := 90) rfl ?_); refine goesL_ (some 37) rfl rfl Tryz.func90 (by kernel_rfl) rfl #[.slice Ao19 t1456.length co19, .slice Ao20 t1459.length co20] rfl zq5 ?_; (with_reducible refine (nat_plus.calls k2 _ _ t1456 _ _ t1459 t1462 _ ?side1 ?side2 ?side3 ?side4 A10.out).mono ?_); (case side1 => exact zc ((Kd.V_reads' HO1458.out).2.2)); (case side2 => exact (Kd.V_reads' HO1458.out).2.1); (case side3 => exact zc ((Kd.V_reads' HO1461.out).2.2)); (case side4 => exact (Kd.V_reads' HO1461.out).2.1); rintro e w21 ⟨v1463, rfl, ho0, hb⟩; refine ⟨_, rfl, ?_⟩; refine zt6 (vb HO_3 hb) (vb HO1455 hb) (vb HO1458 hb) (vb HO1461 hb) (Kd.V_lower (Kd.V_mono (ok' := fun k_ => (w.heap.size ≤ k_)) ho0 (fun k_ hk_ => (Nat.le_trans (below_size zq1) hk_))) (below_size zq1)) (below_step zq1 hb) ?_; clear HO_3 HO1455 HO1458 HO1461 HB; intro HO_3 HO1455 HO1458 HO1461 HO1464 HB))
       go_roundg k2
       case measure => have := HK1.out; have := HK2.out; omega
       case rel => exact ⟨(x0_1.extract ((ji11) : Int).toNat x0_1.size), (t1462), (by first | rfl | (simp; done) | (simp only [← hji11] <;> (first | rfl | simp)) | (simp [*]; done)), (by first | exact H' | (rw [hji11]; exact H')), ⟨by have := HK1.out; have := HK2.out; omega⟩, ⟨zq3 HO1464.out⟩, ⟨zq1⟩⟩
   ·rw [if_neg c2] at H
    have c2b0 : decide (0 < (x0_1.size : Int)) = false := decide_eq_false c2
    have c2b1 : decide (0 < x0_1.size) = false := decide_eq_false (by omega)
    clear c2
    obtain rfl := Option.some.inj H
    go_wp2
    go_ret
    exact ⟨_, zq9, zq3 HO_3.out, zq1⟩
mutual
def nat_Decimal.l0 : Nat → List Int → List Int → Option (ByteArray)
 | 0, _, _ => none
 | k + 1, x0, x3 => if (x0.length : Int) > 0 then ((nat_DivSmall.f k x0 1000000000).bind fun bt1501 => (if x3.length < 35184372088832 then (nat_Decimal.l0 k bt1501.1 (x3 ++ [bt1501.2])) else (none))) else (nat_Decimal.l1 k x3 ([] : List Int) (wrap64 ((x3.length : Int) - 1)))
def nat_Decimal.l1 : Nat → List Int → List Int → Int → Option (ByteArray)
 | 0, _, _, _ => none
 | k + 1, x3, x6, x7 => if x7 ≥ 0 then (if 0 ≤ x7 then (if x7 < (x3.length : Int) then (if 9 ≤ 281474976710656 then (nat_Decimal.l2 k x3 x6 x7 (rd x3 x7) (List.replicate 9 0) 8) else (none)) else (none)) else (none)) else (nat_Decimal.l3 k x6 0)
def nat_Decimal.l2 : Nat → List Int → List Int → Int → Int → List Int → Int → Option (ByteArray)
 | 0, _, _, _, _, _, _ => none
 | k + 1, x3, x6, x7, x8, x9, x10 => if x10 ≥ 0 then (if 0 ≤ x10 then (if x10 < (x9.length : Int) then (nat_Decimal.l2 k x3 x6 x7 ((Int.tdiv x8 10) % 4294967296) (x9.set (x10 : Int).toNat (((48 + (Int.tmod x8 10)) % 4294967296) % 256)) (wrap64 (x10 - 1))) else (none)) else (none)) else (if x6.length + x9.length < 140737488355328 then (nat_Decimal.l1 k x3 (x6 ++ x9) (wrap64 (x7 - 1))) else (none))
def nat_Decimal.l3 : Nat → List Int → Int → Option (ByteArray)
 | 0, _, _ => none
 | k + 1, x6, x11 => if 0 ≤ x11 then (if x11 < (x6.length : Int) then (if (rd x6 x11) = 48 then (nat_Decimal.l3 k x6 (wrap64 (x11 + 1))) else (if x11 ≤ (x6.length : Int) then (some (strOfNums (x6.drop (x11 : Int).toNat))) else (none))) else (none)) else (none)
end
def nat_Decimal.f (k : Nat) (l0 : List Int) : Option (ByteArray) := if (l0.length : Int) = 0 then (some (⟨#[48]⟩ : ByteArray)) else (nat_Decimal.l0 k l0 ([] : List Int))
set_option maxHeartbeats 8000000 in
set_option maxRecDepth 100000 in
theorem nat_Decimal.calls (k : Nat) (P0_ : Nat → Prop) (A0 : Option Addr) (c0 : Nat) (l0 : List Int) (r : ByteArray) (w : World) (hs0 : Kd.V (Kd.int .u32) 73 w w.heap.size (fun k_ => P0_ k_) (.slice A0 l0.length c0) l0) (h : nat_Decimal.f k l0 = some r) :
  Calls Tryz.prog 86 #[.slice A0 l0.length c0] w fun e w' => e = .returned (.string r) ∧ Below w.heap.size w w' := by
 have HO0 := am (show Kd.V (Kd.int .u32) 73 w w.heap.size (fun k_ => (P0_ k_ ∨ w.heap.size ≤ k_)) (.slice A0 l0.length c0) l0 from Kd.V_mono hs0 (fun k_ hk => .inl hk))
 have HB := am (Below.refl w.heap.size w)
 have H := h
 unfold nat_Decimal.f at H
 clear h
 by_cases c2 : (l0.length : Int) = 0
 ·rw [if_pos c2] at H
  have c2b0 : ((l0.length : Int) == 0) = true := beq_iff_eq.mpr c2
  have c2b1 : ((l0.length : Int) != 0) = false := bne_eq_false_iff_eq.mpr c2
  clear c2
  obtain rfl := Option.some.inj H
  go_enter Tryz.func86, Tryz.ntmps86
  go_wp2
  go_ret
  exact ⟨zq9, zq1⟩
 ·rw [if_neg c2] at H
  have c2b0 : ((l0.length : Int) == 0) = false := beq_eq_false_iff_ne.mpr c2
  have c2b1 : ((l0.length : Int) != 0) = true := bne_iff_ne.mpr c2
  have c2b2 : ¬ (l0 = []) := fun h_ => c2 (by rw [h_]; rfl)
  have H' := am H
  clear H
  go_enter Tryz.func86, Tryz.ntmps86
  go_wp2
  go_loopg [0, 3] k (fun kq v0 v3 w' => ∃ (x0_1 : List Int) (x3_1 : List Int), Aside0 (nat_Decimal.l0 kq x0_1 x3_1 = some r) ∧ Aside0 (kq ≤ k) ∧ Aside0 (Kd.V (Kd.int .u32) 73 w' w.heap.size (fun k_ => (P0_ k_ ∨ w.heap.size ≤ k_) ∧ some k_ ≠ (v3 : Value).ownBlock) v0 x0_1) ∧ Aside0 (Kd.R (Kd.int .u32) 73 w' w.heap.size (fun k_ => (w.heap.size ≤ k_)) v3 x3_1) ∧ Aside0 (Below w.heap.size w w'))
  case atStart => exact ⟨(l0), (([] : List Int)), H', ⟨Nat.le_refl _⟩, ⟨zwV (h := by exact Kd.V_mono HO0.out (fun _ hk => ⟨hk, (by simp [Value.ownBlock])⟩))⟩, ⟨by first | exact Kd.R_nil _ _ _ _ _ | exact Kd.N_nil _ _ _ _ _ | exact Kd.V_nil _ _ _ _ _ | exact Kd.Q_nil _ _ _ _ _ | exact Kd.S_nil _ _ _ _ _⟩, ⟨zq1⟩⟩
  case round =>
   clear H'
   obtain ⟨x0_1, x3_1, HA, HK1, HO_0, HO_3, HB⟩ := hrel
   cases gk with
   | zero => exact absurd HA.out (by simp [nat_Decimal.l0])
   | succ k1 =>
    have H := HA.out
    clear HA
    simp only [nat_Decimal.l0] at H
    by_cases c3 : (x0_1.length : Int) > 0
    ·rw [if_pos c3] at H
     have c3b0 : decide (0 < (x0_1.length : Int)) = true := decide_eq_true c3
     have c3b1 : decide (0 < x0_1.length) = true := decide_eq_true (by omega)
     clear c3
     replace H := zj H
     obtain ⟨⟨t1501, t1504⟩, A4, H⟩ := H
     try dsimp only at H
     replace H := zn H
     obtain ⟨c5, H⟩ := H
     have LMc5 := am c5
     clear c5
     obtain ⟨y1505, hy1505⟩ : ∃ y_ : List Int, y_ = (x3_1 ++ [t1504]) := ⟨_, rfl⟩
     try rw [← hy1505] at H
     have Ny1505 := am hy1505
     clear hy1505
     have H' := am H
     clear H
     obtain ⟨Ao6, co6, eo6⟩ := Kd.V_slice HO_0.out
     subst eo6
     go_wp2_with (first | ((with_reducible refine gate_callee (f := 94) rfl ?_); refine goesL_ (some 20) rfl rfl Tryz.func94 (by kernel_rfl) rfl #[.slice Ao6 x0_1.length co6, .int .u32 1000000000] rfl zq5 ?_; (with_reducible refine (nat_DivSmall.calls k1 _ _ x0_1 1000000000 t1501 t1504 _ ?side1 ?side2 A4.out).mono ?_); (case side1 => exact zc ((Kd.V_reads' HO_0.out).2.2)); (case side2 => exact (Kd.V_reads' HO_0.out).2.1); rintro e w7 ⟨v1502, rfl, ho0, hb⟩; refine ⟨_, rfl, ?_⟩; refine zt4 (vb HO_0 hb) (rb HO_3 hb) (Kd.V_lower (Kd.V_mono (ok' := fun k_ => (P0_ k_ ∨ w.heap.size ≤ k_) ∧ some k_ ≠ (u3 : Value).ownBlock) ho0 (fun k_ hk_ => ⟨(.inr (Nat.le_trans (below_size zq1) hk_)), (Kd.fresh' (Kd.R_lt (zq4 HO_3.out)) k_ hk_)⟩)) (below_size zq1)) (below_step zq1 hb) ?_; clear HO_0 HO_3 HB; intro HO_0 HO_3 HO1503 HB) | ((with_reducible refine gate_builtin (b := .append) (xs := #[.tmp 23, .tmp 25]) rfl ?_); at_builtin; refine Kd.R_append (Kd.int .u32) (w0 := w) w.heap.size rfl (.tmp 23) (.tmp 25) 22 73 (.int .u32 0) 4 rfl Tryz.underlying22 info73 rfl (by decide) (by omega) u3 x3_1 t1504 [.int .u32 t1504] (fun k_ => (w.heap.size ≤ k_)) (fun _ => False) rfl rfl ?aP (fun _ hk => hk.elim) ?aF ?aO ?aB ?aS ?aL ?_; (case aP => exact rfl); (case aB => exact zq1); (case aF => exact (fun k_ hk => (Nat.le_trans (below_size zq1) hk))); (case aO => exact (zq4 HO_3.out)); (case aS => exact (below_size zq1)); (case aL => have := LMc5.out; omega); intro v1506 w8 ho hb hg hat; rw [← Ny1505.out] at ho; refine zt4 (Kd.V_afterv (ok := (fun k_ => (P0_ k_ ∨ w.heap.size ≤ k_))) (zq3 HO_0.out) hg hat) (Kd.V_afterv (ok := (fun k_ => (P0_ k_ ∨ w.heap.size ≤ k_))) (zq3 HO1503.out) hg hat) (hb) (ho) ?_; clear HO_0 HO1503 HB HO_3; intro HO_0 HO1503 HB HO1507; clear ho hb hg hat))
     go_roundg k1
     case measure => have := HK1.out; omega
     case rel => exact ⟨(t1501), (y1505), H', ⟨by have := HK1.out; omega⟩, ⟨zq3 HO1503.out⟩, ⟨zq4 HO1507.out⟩, ⟨zq1⟩⟩
    ·rw [if_neg c3] at H
     have c3b0 : decide (0 < (x0_1.length : Int)) = false := decide_eq_false c3
     have c3b1 : decide (0 < x0_1.length) = false := decide_eq_false (by omega)
     clear c3
     have H' := am H
     clear H
     obtain ⟨Ao9, co9, eo9⟩ := Kd.V_slice HO_0.out
     subst eo9
     obtain ⟨Ao10, co10, eo10⟩ := Kd.R_slice HO_3.out
     subst eo10
     go_wp2
     go_loopg [6, 7] k1 (fun kq v6 v7 w' => ∃ (x6_2 : List Int) (x7_2 : Int), v7 = .int .i64 x7_2 ∧ Aside0 (nat_Decimal.l1 kq x3_1 x6_2 x7_2 = some r) ∧ Aside0 (kq ≤ k1) ∧ Aside0 (Kd.R (Kd.int .u32) 73 w' w.heap.size (fun k_ => (w.heap.size ≤ k_)) (.slice Ao10 x3_1.length co10) x3_1) ∧ Aside0 (Kd.R (Kd.int .u8) 5 w' w.heap.size (fun k_ => (w.heap.size ≤ k_)) v6 x6_2) ∧ Aside0 (Below w.heap.size w w'))
     case atStart => exact ⟨(([] : List Int)), (wrap64 ((x3_1.length : Int) - 1)), zq8, H', ⟨Nat.le_refl _⟩, ⟨zq4 HO_3.out⟩, ⟨by first | exact Kd.R_nil _ _ _ _ _ | exact Kd.N_nil _ _ _ _ _ | exact Kd.V_nil _ _ _ _ _ | exact Kd.Q_nil _ _ _ _ _ | exact Kd.S_nil _ _ _ _ _⟩, ⟨zq1⟩⟩
     case round =>
      clear H'
      obtain ⟨x6_2, x7_2, rfl, HA, HK2, HO_3, HO_6, HB⟩ := hrel
      cases gk with
      | zero => exact absurd HA.out (by simp [nat_Decimal.l1])
      | succ k2 =>
       have H := HA.out
       clear HA
       simp only [nat_Decimal.l1] at H
       by_cases c11 : x7_2 ≥ 0
       ·rw [if_pos c11] at H
        have c11b0 : decide (0 ≤ x7_2) = true := decide_eq_true c11
        clear c11
        replace H := zn H
        obtain ⟨c12, H⟩ := H
        have c12b0 := decide_eq_true c12
        clear c12
        replace H := zn H
        obtain ⟨c13, H⟩ := H
        have c13b0 := decide_eq_true c13
        clear c13
        replace H := zn H
        obtain ⟨c14, H⟩ := H
        have c14b0 := eq_true c14
        have c14b1 := decide_eq_true c14
        clear c14
        obtain ⟨y1509, hy1509⟩ : ∃ y_ : List Int, y_ = (List.replicate 9 0) := ⟨_, rfl⟩
        try rw [← hy1509] at H
        have Ny1509 := am hy1509
        clear hy1509
        have H' := am H
        clear H
        have p1508 : 0 ≤ (x7_2 : Int) := zq6
        have q1508 : x7_2 < (x3_1.length : Int) := zq6
        obtain ⟨ad1508, e1508, hx1508_0⟩ := Kd.at_int (Kd.R_reads' HO_3.out).2.2 x7_2 p1508 q1508
        cases e1508
        replace p1508 := eq_true p1508
        replace q1508 := eq_true q1508
        go_wp2_with (first | ((with_reducible refine gate_dst (N := 39) rfl ?_); refine Kd.R_make (Kd.int .u8) _ 5 rfl (N := 39) rfl 116 _ _ rfl 9 rfl rfl Tryz.underlying116 (.int .u8 0) 1 info5 rfl (by decide) (by omega) 0 (ok := fun _ => True) (okp := fun _ => True) rfl (fun _ hk => hk) trivial (by omega) (by omega) (Below.refl _ _) (Nat.le_refl _) ?_; intro v1510 w15 ho16 hb hg_ hnew_; clear hg_ hnew_; (first | rw [← Ny1509.out] at ho16 | (simp only [Int.reduceToNat] at ho16; rw [← Ny1509.out] at ho16)); refine zt4 (rb HO_3 hb) (Kd.R_elder' (zq4 HO_6.out) (Kd.R_base ho16) hb) (Kd.R_lower (Kd.R_new' (Kd.R_newM (M := fun k_ => (w.heap.size ≤ k_)) ho16 (below_size zq1) (fun k_ h_ => h_)) (Kd.R_lt (zq4 HO_6.out))) (below_size zq1)) (below_step zq1 hb) ?_; clear HO_3 HO_6 HB; intro HO_3 HO_6 HO1511 HB; clear hb ho16))
        go_loopg [8, 10] k2 (fun kq v8 v10 w' => ∃ (x8_3 : Int) (x9_3 : List Int) (x10_3 : Int), v8 = .int .u32 x8_3 ∧ v10 = .int .i64 x10_3 ∧ Aside0 (nat_Decimal.l2 kq x3_1 x6_2 x7_2 x8_3 x9_3 x10_3 = some r) ∧ Aside0 (kq ≤ k2) ∧ Aside0 (Kd.R (Kd.int .u32) 73 w' w.heap.size (fun k_ => (w.heap.size ≤ k_)) (.slice (some ad1508) x3_1.length co10) x3_1) ∧ Aside0 (Kd.R (Kd.int .u8) 5 w' w.heap.size (fun k_ => (w.heap.size ≤ k_) ∧ some k_ ≠ (v1510 : Value).ownBlock) u6 x6_2) ∧ Aside0 (Kd.R (Kd.int .u8) 5 w' w.heap.size (fun k_ => (w.heap.size ≤ k_) ∧ some k_ ≠ (u6 : Value).ownBlock) v1510 x9_3) ∧ Aside0 (Below w.heap.size w w'))
        case atStart => exact ⟨(rd x3_1 x7_2), (y1509), (8), zq8, zq8, H', ⟨Nat.le_refl _⟩, ⟨zq4 HO_3.out⟩, ⟨zq4 HO_6.out⟩, ⟨zwR (h := by exact Kd.R_mono HO1511.out (fun _ hk => ⟨hk.1.1, hk.2⟩))⟩, ⟨zq1⟩⟩
        case round =>
         clear H'
         obtain ⟨x8_3, x9_3, x10_3, rfl, rfl, HA, HK3, HO_3, HO_6, HO_9, HB⟩ := hrel
         cases gk with
         | zero => exact absurd HA.out (by simp [nat_Decimal.l2])
         | succ k3 =>
          have H := HA.out
          clear HA
          simp only [nat_Decimal.l2] at H
          by_cases c17 : x10_3 ≥ 0
          ·rw [if_pos c17] at H
           have c17b0 : decide (0 ≤ x10_3) = true := decide_eq_true c17
           clear c17
           replace H := zn H
           obtain ⟨c18, H⟩ := H
           have c18b0 := decide_eq_true c18
           clear c18
           replace H := zn H
           obtain ⟨c19, H⟩ := H
           have c19b0 := decide_eq_true c19
           clear c19
           obtain ⟨y1512, hy1512⟩ : ∃ y_ : List Int, y_ = (x9_3.set (x10_3 : Int).toNat (((48 + (Int.tmod x8_3 10)) % 4294967296) % 256)) := ⟨_, rfl⟩
           try rw [← hy1512] at H
           have Ny1512 := am hy1512
           clear hy1512
           have H' := am H
           clear H
           have p20 : 0 ≤ (x10_3 : Int) := zq6
           have q20 : (x10_3 : Int) < ((x9_3.length : Int) : Int) := zq6
           obtain ⟨go20, co20, eo20, gb20, gl20, cl20, HG20⟩ := Kd.R_form HO_9.out (by omega)
           (first | cases eo20 | (injection eo20 with ea_ en_ ec_; (first | subst ea_ | (injection ea_ with ea_; subst ea_)); subst ec_; clear en_))
           have GB20 := am gb20
           have GG20 := am HG20
           clear gb20 gl20 HG20
           obtain ⟨hx20_0, hf20_0⟩ := Kd.R_celln 0 HO_9.out (x10_3 : Int) p20 q20
           replace p20 := eq_true p20
           replace q20 := eq_true q20
           have HP21 := Kd.R_putg HO_9.out (x10_3 : Int) (((48 + (Int.tmod x8_3 10)) % 4294967296) % 256)
           go_wp2_with (first | ((with_reducible refine gate_store (t := 5) (p := 50) rfl ?_); refine zstore (t := 5) (p := 50) (w1 := (wr.setCell ⟨go20, (x10_3 : Int).toNat, none⟩ (.int .u8 (((48 + (Int.tmod x8_3 10)) % 4294967296) % 256)))) ?_; intro w22 hw; have hg : wr.grownBy w22 (some go20) := (by rw [hw]; exact HP21.2); have hp_ : Kd.R (Kd.int .u8) 5 w22 w.heap.size (fun k_ => (w.heap.size ≤ k_) ∧ some k_ ≠ (u6 : Value).ownBlock) (.slice (some ⟨go20, 0, none⟩) x9_3.length co20) y1512 := (by rw [hw, Ny1512.out]; exact HP21.1); clear HP21; refine zt4 (Kd.R_over' (v := (.slice (some ⟨go20, 0, none⟩) x9_3.length co20)) (zq4 HO_3.out) (Kd.R_typed HO_9.out) (by decide) hg) (Kd.R_after (v := (.slice (some ⟨go20, 0, none⟩) x9_3.length co20)) (v1 := (.slice (some ⟨go20, 0, none⟩) x9_3.length co20)) (ok := (fun k_ => (w.heap.size ≤ k_))) (zq4 HO_6.out) hg (.inl rfl)) (hp_) ((by rw [hw]; exact below_set (HB.out) GB20.out : Below w.heap.size w w22)) ?_; clear HO_3 HO_6 HO_9 HB; intro HO_3 HO_6 HO_9 HB; clear hg hw hp_))
           go_roundg k3
           case measure => have := HK1.out; have := HK2.out; have := HK3.out; omega
           case rel => exact ⟨((Int.tdiv x8_3 10) % 4294967296), (y1512), (wrap64 (x10_3 - 1)), zq8, zq8, H', ⟨by have := HK1.out; have := HK2.out; have := HK3.out; omega⟩, ⟨zq4 HO_3.out⟩, ⟨zq4 HO_6.out⟩, ⟨zq4 HO_9.out⟩, ⟨zq1⟩⟩
          ·rw [if_neg c17] at H
           have c17b0 : decide (0 ≤ x10_3) = false := decide_eq_false c17
           clear c17
           replace H := zn H
           obtain ⟨c23, H⟩ := H
           have LMc23 := am c23
           clear c23
           obtain ⟨y1513, hy1513⟩ : ∃ y_ : List Int, y_ = (x6_2 ++ x9_3) := ⟨_, rfl⟩
           try rw [← hy1513] at H
           have Ny1513 := am hy1513
           clear hy1513
           have H' := am H
           clear H
           obtain ⟨Ao25, co25, eo25⟩ := Kd.R_slice HO_9.out
           subst eo25
           go_wp2_with (first | ((with_reducible refine gate_builtin (b := .append) (xs := #[.tmp 53, .tmp 54]) rfl ?_); at_builtin; refine Kd.R_append_rows (Kd.int .u8) (w0 := w) w.heap.size rfl (.tmp 53) (.tmp 54) 116 5 (.int .u8 0) 1 rfl Tryz.underlying116 info5 rfl (by decide) (by omega) u6 x6_2 x9_3 _ _ _ (fun k_ => (w.heap.size ≤ k_) ∧ some k_ ≠ (.slice Ao25 x9_3.length co25 : Value).ownBlock) (fun _ => False) rfl rfl ?aO ?aR (fun _ _ h => h) (fun _ h => h.elim) ?aF ?aB ?aS ?aL ?_; (case aR => repeat (first | exact (Kd.R_reads' HO_9.out).2.2 | (with_reducible refine Kd.C_alloc ?_ _) | (with_reducible refine Kd.C_drewN ?_ _) | (with_reducible refine Kd.C_drew ?_))); (case aB => exact zq1); (case aF => exact (fun k_ hk => ⟨(Nat.le_trans (below_size zq1) hk), Kd.fresh' (Kd.R_lt (zq4 HO_9.out)) k_ hk⟩)); (case aO => exact (zq4 HO_6.out)); (case aS => exact (below_size zq1)); (case aL => have := LMc23.out; omega); intro v1514 w24 ho hb hg hat; rw [← Ny1513.out] at ho; refine zt4 (Kd.R_over' (zq4 HO_3.out) (Kd.R_typed (zq4 HO_6.out)) (by decide) hg) (Kd.R_after (ok := (fun k_ => (w.heap.size ≤ k_))) (zq4 HO_9.out) hg hat) (hb) (ho) ?_; clear HO_3 HO_9 HB HO_6; intro HO_3 HO_9 HB HO1515; clear ho hb hg hat))
           go_roundg k3
           case measure => have := HK1.out; have := HK2.out; have := HK3.out; omega
           case rel => exact ⟨(y1513), (wrap64 (x7_2 - 1)), zq8, H', ⟨by have := HK1.out; have := HK2.out; have := HK3.out; omega⟩, ⟨zq4 HO_3.out⟩, ⟨zwR (h := by exact Kd.R_mono HO1515.out (fun _ hk => hk.1))⟩, ⟨zq1⟩⟩
       ·rw [if_neg c11] at H
        have c11b0 : decide (0 ≤ x7_2) = false := decide_eq_false c11
        clear c11
        have H' := am H
        clear H
        go_wp2
        go_loopg [11] k2 (fun kq v11 w' => ∃ (x11_3 : Int), v11 = .int .i64 x11_3 ∧ Aside0 (nat_Decimal.l3 kq x6_2 x11_3 = some r) ∧ Aside0 (kq ≤ k2) ∧ Aside0 (Kd.R (Kd.int .u8) 5 w' w.heap.size (fun k_ => (w.heap.size ≤ k_)) u6 x6_2) ∧ Aside0 (Below w.heap.size w w'))
        case atStart => exact ⟨(0), zq8, H', ⟨Nat.le_refl _⟩, ⟨zq4 HO_6.out⟩, ⟨zq1⟩⟩
        case round =>
         clear H'
         obtain ⟨x11_3, rfl, HA, HK3, HO_6, HB⟩ := hrel
         cases gk with
         | zero => exact absurd HA.out (by simp [nat_Decimal.l3])
         | succ k3 =>
          have H := HA.out
          clear HA
          simp only [nat_Decimal.l3] at H
          replace H := zn H
          obtain ⟨c26, H⟩ := H
          have c26b0 := decide_eq_true c26
          clear c26
          replace H := zn H
          obtain ⟨c27, H⟩ := H
          have c27b0 := decide_eq_true c27
          clear c27
          by_cases c28 : (rd x6_2 x11_3) = 48
          ·rw [if_pos c28] at H
           have c28b0 : ((rd x6_2 x11_3) == 48) = true := beq_iff_eq.mpr c28
           have c28b1 : ((rd x6_2 x11_3) != 48) = false := bne_eq_false_iff_eq.mpr c28
           clear c28
           have H' := am H
           clear H
           obtain ⟨Ao29, co29, eo29⟩ := Kd.R_slice HO_6.out
           subst eo29
           have p1516 : 0 ≤ (x11_3 : Int) := zq6
           have q1516 : x11_3 < (x6_2.length : Int) := zq6
           obtain ⟨ad1516, e1516, hx1516_0⟩ := Kd.at_int (Kd.R_reads' HO_6.out).2.2 x11_3 p1516 q1516
           cases e1516
           replace p1516 := eq_true p1516
           replace q1516 := eq_true q1516
           go_wp2
           go_roundg k3
           case measure => have := HK1.out; have := HK2.out; have := HK3.out; omega
           case rel => exact ⟨(wrap64 (x11_3 + 1)), zq8, H', ⟨by have := HK1.out; have := HK2.out; have := HK3.out; omega⟩, ⟨zq4 HO_6.out⟩, ⟨zq1⟩⟩
          ·rw [if_neg c28] at H
           have c28b0 : ((rd x6_2 x11_3) == 48) = false := beq_eq_false_iff_ne.mpr c28
           have c28b1 : ((rd x6_2 x11_3) != 48) = true := bne_iff_ne.mpr c28
           have c30b0 := eq_true (zq6 : 0 ≤ x11_3)
           replace H := zn H
           obtain ⟨c31, H⟩ := H
           have c31b0 := eq_true c31
           have c31b1 := decide_eq_true c31
           clear c31
           obtain ⟨y1517, hy1517⟩ : ∃ y_ : List Int, y_ = (x6_2.drop (x11_3 : Int).toNat) := ⟨_, rfl⟩
           try rw [← hy1517] at H
           have Ny1517 := am hy1517
           clear hy1517
           obtain rfl := Option.some.inj H
           obtain ⟨Ao32, co32, eo32⟩ := Kd.R_slice HO_6.out
           subst eo32
           have p1516 : 0 ≤ (x11_3 : Int) := zq6
           have q1516 : x11_3 < (x6_2.length : Int) := zq6
           obtain ⟨ad1516, e1516, hx1516_0⟩ := Kd.at_int (Kd.R_reads' HO_6.out).2.2 x11_3 p1516 q1516
           cases e1516
           replace p1516 := eq_true p1516
           replace q1516 := eq_true q1516
           have q33 : (x11_3 : Int) ≤ ((x6_2.length : Int) : Int) := zq6
           obtain ⟨i033, hi033, _, hsz33, _⟩ := info_parts info5
           have hroom33 : x6_2.length ≤ co32 := (Kd.R_reads' HO_6.out).2.1
           have hC33 : Kd.C (Kd.int .u8) _ (some ad1516) x6_2.length x6_2 := (Kd.R_reads' HO_6.out).2.2
           have q033 : (0 : Int) ≤ (x11_3 : Int) := zq6
           have hcut33 := cut_from (P := Tryz.prog) 116 5 .i64 Tryz.underlying116 hi033 1 hsz33 (some ad1516) x6_2.length co32 x11_3 q033 q33
           have hr33 := Kd.C_drop (m := (x11_3 : Int).toNat) (c := co32) hC33 (by omega) hroom33
           obtain ⟨A33, hA33⟩ : ∃ A1, A1 = (if co32 = (x11_3 : Int).toNat then (some ad1516) else ((some ad1516) : Option Addr).map (·.add ((x11_3 : Int).toNat * 1))) := ⟨_, rfl⟩
           obtain ⟨c33, hc33⟩ : ∃ c1, c1 = co32 - (x11_3 : Int).toNat := ⟨_, rfl⟩
           have hy33 : y1517.length = x6_2.length - (x11_3 : Int).toNat := (by rw [Ny1517.out, List.length_drop] <;> omega)
           rw [show (x6_2).drop (x11_3 : Int).toNat = y1517 from Ny1517.out.symm] at hr33
           replace hr33 : Kd.C (Kd.int .u8) _ A33 y1517.length y1517 := (by rw [hA33]; exact hr33)
           rw [← hy33, ← hA33, ← hc33] at hcut33
           have HR1520 := am hr33
           have HC1520 := am (show y1517.length ≤ c33 from by rw [hy33, hc33]; exact Nat.sub_le_sub_right hroom33 _)
           clear hr33 hC33 hroom33 hi033 hsz33 hc33
           have KY33 := am hy33
           have KA33 := am hA33
           clear hy33 hA33
           have KL33 := am (show (x11_3 : Int).toNat ≤ x6_2.length from by omega)
           replace q33 := eq_true q33
           have hcv34 := Kd.C_string (P := Tryz.prog) (A := A33) (c := c33) Tryz.underlying116 Tryz.underlying5 Tryz.underlying9 (by repeat (first | (with_reducible exact HR1520.out) | (with_reducible refine Kd.C_alloc ?_ _) | (with_reducible refine Kd.C_drewN ?_ _) | (with_reducible refine Kd.C_drew ?_) | exact HR1520.out))
           go_wp2
           go_ret
           exact ⟨zq9, zq1⟩
def stringslite_HasPrefix.f (a0 : ByteArray) (a1 : ByteArray) : Option (Bool) := if (a0.size : Int) ≥ (a1.size : Int) then (if 0 ≤ (a1.size : Int) then (if (a1.size : Int) ≤ (a0.size : Int) then (some ((a0.extract 0 ((a1.size : Int) : Int).toNat).toList == a1.toList)) else (none)) else (none)) else (some false)
set_option maxHeartbeats 8000000 in
set_option maxRecDepth 100000 in
theorem stringslite_HasPrefix.calls (a0 : ByteArray) (a1 : ByteArray) (r : Bool) (w : World) (h : stringslite_HasPrefix.f a0 a1 = some r) :
  Calls Tryz.prog 103 #[.string a0, .string a1] w fun e w' => e = .returned (.bool r) ∧ Drawn0 w w' := by
 have H := h
 unfold stringslite_HasPrefix.f at H
 clear h
 by_cases c3 : (a0.size : Int) ≥ (a1.size : Int)
 ·rw [if_pos c3] at H
  have c3b0 : decide ((a1.size : Int) ≤ (a0.size : Int)) = true := decide_eq_true c3
  have c3b1 : decide (a1.size ≤ a0.size) = true := decide_eq_true (Int.ofNat_le.mp c3)
  clear c3
  replace H := zn H
  obtain ⟨c4, H⟩ := H
  have c4b0 := eq_true c4
  have c4b1 := decide_eq_true c4
  clear c4
  replace H := zn H
  obtain ⟨c5, H⟩ := H
  have c5b0 := eq_true c5
  have c5b1 := decide_eq_true c5
  clear c5
  obtain rfl := Option.some.inj H
  go_enter Tryz.func103, Tryz.ntmps103
  go_wp2
  go_ret
  exact ⟨by first | rfl | (simp; done) | (simp [*]; done), by repeat (first | exact Drawn0.refl _ | apply Drawn0.step)⟩
 ·rw [if_neg c3] at H
  have c3b0 : decide ((a1.size : Int) ≤ (a0.size : Int)) = false := decide_eq_false c3
  have c3b1 : decide (a1.size ≤ a0.size) = false := decide_eq_false (fun h => c3 (Int.ofNat_le.mpr h))
  clear c3
  obtain rfl := Option.some.inj H
  go_enter Tryz.func103, Tryz.ntmps103
  go_wp2
  go_ret
  exact ⟨by first | rfl | (simp; done) | (simp [*]; done), by repeat (first | exact Drawn0.refl _ | apply Drawn0.step)⟩
end Go.Proofs.YtemnjgkicndmjaaGreatDoor.Q

namespace Go.Proofs.YtemnjgkicndmjaaGreatDoor.Q
open Go.RowKit Go.Proofs.YtemnjgkicndmjaaGreatDoorW.PrintWords Go.Proofs.YtemnjgkicndmjaaGreatDoorW.PrintLast Go.Proofs.YtemnjgkicndmjaaGreatDoorW.PrintMore
attribute [local go_sem] max2_int min2_int max_two min_two max_three min_three max_four min_four
set_option linter.unusedVariables false
set_option linter.unusedSimpArgs false
def stringslite_CutPrefix.f (a0 : ByteArray) (a1 : ByteArray) : Option (ByteArray × Bool) := (stringslite_HasPrefix.f a0 a1).bind fun t1441 => (if t1441 = true then (if 0 ≤ (a1.size : Int) then (if (a1.size : Int) ≤ (a0.size : Int) then (some (a0.extract ((a1.size : Int) : Int).toNat a0.size, true)) else (none)) else (none)) else (some (a0, false)))
set_option maxHeartbeats 8000000 in
set_option maxRecDepth 100000 in
theorem stringslite_CutPrefix.calls (a0 : ByteArray) (a1 : ByteArray) (r1 : ByteArray) (r2 : Bool) (w : World) (h : stringslite_CutPrefix.f a0 a1 = some (r1, r2)) :
  Calls Tryz.prog 99 #[.string a0, .string a1] w fun e w' => e = .returned (.tuple #[.string r1, .bool r2]) ∧ Drawn0 w w' := by
 have H := h
 unfold stringslite_CutPrefix.f at H
 clear h
 replace H := zj H
 obtain ⟨t1441, A3, H⟩ := H
 by_cases c4 : t1441 = true
 ·subst c4
  have H1 : (if 0 ≤ (a1.size : Int) then (if (a1.size : Int) ≤ (a0.size : Int) then (some (a0.extract ((a1.size : Int) : Int).toNat a0.size, true)) else (none)) else (none)) = some (r1, r2) := by rw [if_pos rfl] at H; exact H
  clear H
  have H := H1
  clear H1
  replace H := zn H
  obtain ⟨c5, H⟩ := H
  have c5b0 := eq_true c5
  have c5b1 := decide_eq_true c5
  clear c5
  replace H := zn H
  obtain ⟨c6, H⟩ := H
  have c6b0 := eq_true c6
  have c6b1 := decide_eq_true c6
  clear c6
  simp only [Option.some.injEq, Prod.mk.injEq] at H
  obtain ⟨rfl, rfl⟩ := H
  go_enter Tryz.func99, Tryz.ntmps99
  go_wp2_with (first | ((with_reducible refine gate_callee (f := 103) rfl ?_); refine goesL_ (some 8) rfl rfl Tryz.func103 (by kernel_rfl) rfl #[.string a0, .string a1] rfl zq5 ?_; (with_reducible refine (stringslite_HasPrefix.calls a0 a1 true _ A3.out).mono ?_); rintro e w' ⟨rfl, ⟨nd, rfl⟩⟩; refine ⟨_, rfl, ?_⟩))
  go_ret2
  exact ⟨by first | rfl | (simp; done) | (simp [*]; done), by repeat (first | exact Drawn0.refl _ | apply Drawn0.step)⟩
 ·replace c4 := Bool.eq_false_iff.mpr c4
  subst c4
  have H1 : (some (a0, false)) = some (r1, r2) := by rw [if_neg (show ¬ (false = true) by decide)] at H; exact H
  clear H
  have H := H1
  clear H1
  simp only [Option.some.injEq, Prod.mk.injEq] at H
  obtain ⟨rfl, rfl⟩ := H
  go_enter Tryz.func99, Tryz.ntmps99
  go_wp2_with (first | ((with_reducible refine gate_callee (f := 103) rfl ?_); refine goesL_ (some 8) rfl rfl Tryz.func103 (by kernel_rfl) rfl #[.string a0, .string a1] rfl zq5 ?_; (with_reducible refine (stringslite_HasPrefix.calls a0 a1 false _ A3.out).mono ?_); rintro e w' ⟨rfl, ⟨nd, rfl⟩⟩; refine ⟨_, rfl, ?_⟩))
  go_ret2
  exact ⟨by first | rfl | (simp; done) | (simp [*]; done), by repeat (first | exact Drawn0.refl _ | apply Drawn0.step)⟩
def strings_CutPrefix.f (a0 : ByteArray) (a1 : ByteArray) : Option (ByteArray × Bool) := (stringslite_CutPrefix.f a0 a1).bind fun bt1442 => (some (bt1442.1, bt1442.2))
set_option maxHeartbeats 8000000 in
set_option maxRecDepth 100000 in
theorem strings_CutPrefix.calls (a0 : ByteArray) (a1 : ByteArray) (r1 : ByteArray) (r2 : Bool) (w : World) (h : strings_CutPrefix.f a0 a1 = some (r1, r2)) :
  Calls Tryz.prog 82 #[.string a0, .string a1] w fun e w' => e = .returned (.tuple #[.string r1, .bool r2]) ∧ Drawn0 w w' := by
 have H := h
 unfold strings_CutPrefix.f at H
 clear h
 replace H := zj H
 obtain ⟨⟨t1442, t1443⟩, A3, H⟩ := H
 try dsimp only at H
 simp only [Option.some.injEq, Prod.mk.injEq] at H
 obtain ⟨rfl, rfl⟩ := H
 go_enter Tryz.func82, Tryz.ntmps82
 go_wp2_with (first | ((with_reducible refine gate_callee (f := 99) rfl ?_); refine goesL_ (some 8) rfl rfl Tryz.func99 (by kernel_rfl) rfl #[.string a0, .string a1] rfl zq5 ?_; (with_reducible refine (stringslite_CutPrefix.calls a0 a1 t1442 t1443 _ A3.out).mono ?_); rintro e w' ⟨rfl, ⟨nd, rfl⟩⟩; refine ⟨_, rfl, ?_⟩))
 go_ret2
 exact ⟨by first | rfl | (simp; done) | (simp [*]; done), by repeat (first | exact Drawn0.refl _ | apply Drawn0.step)⟩
def stringslite_Index.f (a0 : ByteArray) (a1 : ByteArray) : Option (Int) := if a1.size = 1 then some (Lib.indexByte a0.data.toList (bt a1 0).toNat.toUInt8) else none
theorem stringslite_Index.calls (a0 : ByteArray) (a1 : ByteArray) (r : Int) (w : World) (h : stringslite_Index.f a0 a1 = some r) :
  Calls Tryz.prog 104 #[.string a0, .string a1] w fun e w' => e = .returned (.int .i64 r) ∧ Drawn0 w w' := by
 unfold stringslite_Index.f at h
 split at h
 ·rename_i h1
  obtain rfl := Option.some.inj h
  obtain ⟨c, rfl⟩ : ∃ c, a1 = ⟨#[c]⟩ := by
   obtain ⟨⟨l⟩⟩ := a1
   match l, h1 with
   | [c], _ => exact ⟨c, rfl⟩
  have e : (bt ⟨#[c]⟩ 0).toNat.toUInt8 = c := by
   have : bt ⟨#[c]⟩ 0 = (c.toNat : Int) := rfl
   rw [this]; simp
  rw [e]
  exact (Any.stringslite_Index_one Tryz.lays219 a0 c w).mono fun e w' h => ⟨h.1, by rw [h.2]; exact Drawn0.refl w⟩
 ·cases h
def stringslite_Cut.f (a0 : ByteArray) (a1 : ByteArray) : Option (ByteArray × ByteArray × Bool) := (stringslite_Index.f a0 a1).bind fun t1446 => (if t1446 ≥ 0 then (if 0 ≤ t1446 then (if t1446 ≤ (a0.size : Int) then (if 0 ≤ (wrap64 (t1446 + (a1.size : Int))) then (if (wrap64 (t1446 + (a1.size : Int))) ≤ (a0.size : Int) then (some (a0.extract 0 (t1446 : Int).toNat, a0.extract ((wrap64 (t1446 + (a1.size : Int))) : Int).toNat a0.size, true)) else (none)) else (none)) else (none)) else (none)) else (some (a0, (⟨#[]⟩ : ByteArray), false)))
set_option maxHeartbeats 8000000 in
set_option maxRecDepth 100000 in
theorem stringslite_Cut.calls (a0 : ByteArray) (a1 : ByteArray) (r1 : ByteArray) (r2 : ByteArray) (r3 : Bool) (w : World) (h : stringslite_Cut.f a0 a1 = some (r1, r2, r3)) :
  Calls Tryz.prog 100 #[.string a0, .string a1] w fun e w' => e = .returned (.tuple #[.string r1, .string r2, .bool r3]) ∧ Drawn0 w w' := by
 have H := h
 unfold stringslite_Cut.f at H
 clear h
 replace H := zj H
 obtain ⟨t1446, A3, H⟩ := H
 by_cases c4 : t1446 ≥ 0
 ·rw [if_pos c4] at H
  have c4b0 : decide (0 ≤ t1446) = true := decide_eq_true c4
  clear c4
  replace H := zn H
  obtain ⟨c5, H⟩ := H
  have c5b0 := eq_true c5
  have c5b1 := decide_eq_true c5
  clear c5
  replace H := zn H
  obtain ⟨c6, H⟩ := H
  have c6b0 := eq_true c6
  have c6b1 := decide_eq_true c6
  clear c6
  obtain ⟨ji7, hji7⟩ : ∃ j_ : Int, (wrap64 (t1446 + (a1.size : Int))) = j_ := ⟨_, rfl⟩
  replace H : (if 0 ≤ (ji7) then (if (ji7) ≤ (a0.size : Int) then (some (a0.extract 0 (t1446 : Int).toNat, a0.extract ((ji7) : Int).toNat a0.size, true)) else (none)) else (none)) = some (r1, r2, r3) := by first | (rw [hji7] at H; exact H) | (simp only [hji7] at H ⊢; exact H)
  (try rw [hji7] at A3)
  have hji7w : (IntKind.i64.wrap (t1446 + (a1.size : Int))) = ji7 := (i64_w _).trans hji7
  replace H := zn H
  obtain ⟨c8, H⟩ := H
  have c8b0 := eq_true c8
  have c8b1 := decide_eq_true c8
  clear c8
  replace H := zn H
  obtain ⟨c9, H⟩ := H
  have c9b0 := eq_true c9
  have c9b1 := decide_eq_true c9
  clear c9
  simp only [Option.some.injEq, Prod.mk.injEq] at H
  obtain ⟨rfl, rfl, rfl⟩ := H
  go_enter Tryz.func100, Tryz.ntmps100
  go_wp2_with (first | (go_at_call 104; (with_reducible refine (stringslite_Index.calls a0 a1 t1446 _ A3.out).mono ?_); rintro e w' ⟨rfl, ⟨nd, rfl⟩⟩; (try first | exact ⟨rfl, _, World.drewN_drewN _ _ _⟩ | exact ⟨rfl, _, Eq.trans (World.drewN_drewN _ _ _) (congrArg (World.drewN _) (Nat.add_assoc _ _ _))⟩)))
  repeat (go_quiet (first | (go_at_call 104; (with_reducible refine (stringslite_Index.calls a0 a1 t1446 _ A3.out).mono ?_); rintro e w' ⟨rfl, ⟨nd, rfl⟩⟩; (try first | exact ⟨rfl, _, World.drewN_drewN _ _ _⟩ | exact ⟨rfl, _, Eq.trans (World.drewN_drewN _ _ _) (congrArg (World.drewN _) (Nat.add_assoc _ _ _))⟩))); try go_wp2_with (first | (go_at_call 104; (with_reducible refine (stringslite_Index.calls a0 a1 t1446 _ A3.out).mono ?_); rintro e w' ⟨rfl, ⟨nd, rfl⟩⟩; (try first | exact ⟨rfl, _, World.drewN_drewN _ _ _⟩ | exact ⟨rfl, _, Eq.trans (World.drewN_drewN _ _ _) (congrArg (World.drewN _) (Nat.add_assoc _ _ _))⟩))))
  go_ret3
  exact ⟨by first | rfl | (simp; done) | (simp only [← hji7] <;> (first | rfl | simp)) | (simp [*]; done), by repeat (first | exact Drawn0.refl _ | apply Drawn0.step)⟩
 ·rw [if_neg c4] at H
  have c4b0 : decide (0 ≤ t1446) = false := decide_eq_false c4
  clear c4
  simp only [Option.some.injEq, Prod.mk.injEq] at H
  obtain ⟨rfl, rfl, rfl⟩ := H
  go_enter Tryz.func100, Tryz.ntmps100
  go_wp2_with (first | (go_at_call 104; (with_reducible refine (stringslite_Index.calls a0 a1 t1446 _ A3.out).mono ?_); rintro e w' ⟨rfl, ⟨nd, rfl⟩⟩; (try first | exact ⟨rfl, _, World.drewN_drewN _ _ _⟩ | exact ⟨rfl, _, Eq.trans (World.drewN_drewN _ _ _) (congrArg (World.drewN _) (Nat.add_assoc _ _ _))⟩)))
  repeat (go_quiet (first | (go_at_call 104; (with_reducible refine (stringslite_Index.calls a0 a1 t1446 _ A3.out).mono ?_); rintro e w' ⟨rfl, ⟨nd, rfl⟩⟩; (try first | exact ⟨rfl, _, World.drewN_drewN _ _ _⟩ | exact ⟨rfl, _, Eq.trans (World.drewN_drewN _ _ _) (congrArg (World.drewN _) (Nat.add_assoc _ _ _))⟩))); try go_wp2_with (first | (go_at_call 104; (with_reducible refine (stringslite_Index.calls a0 a1 t1446 _ A3.out).mono ?_); rintro e w' ⟨rfl, ⟨nd, rfl⟩⟩; (try first | exact ⟨rfl, _, World.drewN_drewN _ _ _⟩ | exact ⟨rfl, _, Eq.trans (World.drewN_drewN _ _ _) (congrArg (World.drewN _) (Nat.add_assoc _ _ _))⟩))))
  go_ret3
  exact ⟨by first | rfl | (simp; done) | (simp [*]; done), by repeat (first | exact Drawn0.refl _ | apply Drawn0.step)⟩
def strings_Cut.f (a0 : ByteArray) (a1 : ByteArray) : Option (ByteArray × ByteArray × Bool) := (stringslite_Cut.f a0 a1).bind fun bt1447 => (some (bt1447.1, bt1447.2.1, bt1447.2.2))
set_option maxHeartbeats 8000000 in
set_option maxRecDepth 100000 in
theorem strings_Cut.calls (a0 : ByteArray) (a1 : ByteArray) (r1 : ByteArray) (r2 : ByteArray) (r3 : Bool) (w : World) (h : strings_Cut.f a0 a1 = some (r1, r2, r3)) :
  Calls Tryz.prog 83 #[.string a0, .string a1] w fun e w' => e = .returned (.tuple #[.string r1, .string r2, .bool r3]) ∧ Drawn0 w w' := by
 have H := h
 unfold strings_Cut.f at H
 clear h
 replace H := zj H
 obtain ⟨⟨t1447, t1448, t1449⟩, A3, H⟩ := H
 try dsimp only at H
 simp only [Option.some.injEq, Prod.mk.injEq] at H
 obtain ⟨rfl, rfl, rfl⟩ := H
 go_enter Tryz.func83, Tryz.ntmps83
 go_wp2_with (first | ((with_reducible refine gate_callee (f := 100) rfl ?_); refine goesL_ (some 9) rfl rfl Tryz.func100 (by kernel_rfl) rfl #[.string a0, .string a1] rfl zq5 ?_; (with_reducible refine (stringslite_Cut.calls a0 a1 t1447 t1448 t1449 _ A3.out).mono ?_); rintro e w' ⟨rfl, ⟨nd, rfl⟩⟩; refine ⟨_, rfl, ?_⟩))
 go_ret3
 exact ⟨by first | rfl | (simp; done) | (simp [*]; done), by repeat (first | exact Drawn0.refl _ | apply Drawn0.step)⟩
def strings_Trim.f (a0 : ByteArray) (a1 : ByteArray) : Option (ByteArray) := if a0.size ≤ 9223372036854775807 ∧ a1.size < 4294967281 ∧ a1.data.toList.all (fun b => decide (b.toNat < 128)) = true then some ⟨(Lib.trimS a0.data.toList a1.data.toList).toArray⟩ else none
theorem strings_Trim.calls (a0 : ByteArray) (a1 : ByteArray) (r : ByteArray) (w : World) (h : strings_Trim.f a0 a1 = some r) :
  Calls Tryz.prog 101 #[.string a0, .string a1] w fun e w' => e = .returned (.string r) ∧ Below w.heap.size w w' := by
 unfold strings_Trim.f at h
 split at h
 ·rename_i h1
  obtain rfl := Option.some.inj h
  exact Any.strings_Trim_laid Tryz.lays160 (by kernel_rfl) a0 a1 w h1.1 h1.2.1 (ascii_of_all h1.2.2)
 ·cases h
end Go.Proofs.YtemnjgkicndmjaaGreatDoor.Q
namespace Go.Proofs.YtemnjgkicndmjaaGreatDoor.Q
open Go.RowKit Go.Proofs.YtemnjgkicndmjaaGreatDoor.E Go.Proofs.YtemnjgkicndmjaaGreatDoorW.PrintWords Go.Proofs.YtemnjgkicndmjaaGreatDoorW.PrintLast Go.Proofs.YtemnjgkicndmjaaGreatDoorW.PrintMore
set_option linter.unusedVariables false
theorem nat_FromDecimal.pc (a : ByteArray) (b : List Int) (k : Nat) (h : nat_FromDecimal.f k a = some b) : PureC Tryz.prog 85 ((one cs).enc a) (rU.enc b) := by
  intro w P0 vs hr
  obtain ⟨u0, e0, hr⟩ := at_str hr
  have z := at_nil hr
  subst z
  have q1 := e0
  obtain rfl : vs = #[.string a] := Array.toList_inj.1 (by simpa using q1)
  refine Calls.mono (nat_FromDecimal.calls k a b w h) fun e w' he => ?_
  obtain ⟨v0_, rfl, hv0, hb⟩ := he
  exact ⟨_, rfl, hb, (V_row hv0 fun n hn => .inr hn)⟩
theorem nat_Decimal.pc (a : List Int) (b : ByteArray) (k : Nat) (h : nat_Decimal.f k a = some b) : PureC Tryz.prog 86 ((one rU).enc a) (cs.enc b) := by
  intro w P0 vs hr
  obtain ⟨A0, c0, u0, e0, hc0, hf0, hr⟩ := at_row hr
  have z := at_nil hr
  subst z
  have q1 := e0
  obtain rfl : vs = #[.slice A0 a.length c0] := Array.toList_inj.1 (by simpa using q1)
  refine Calls.mono (nat_Decimal.calls k P0 A0 c0 a b w (rowV hf0 hc0) h) fun e w' he => ?_
  obtain ⟨rfl, hb⟩ := he
  exact ⟨_, rfl, hb, (show E.Rep _ _ _ _ _ from by simp only [cs, E.Rep])⟩
theorem strings_CutPrefix.pc (a : ByteArray × ByteArray) (b : (ByteArray × Bool)) (h : strings_CutPrefix.f a.1 a.2 = some b) : PureC Tryz.prog 82 ((more cs (one cs)).enc a) ((tup (more cs (one cb))).enc b) := by
  intro w P0 vs hr
  obtain ⟨x0, x1⟩ := a
  obtain ⟨r0, r1⟩ := b
  obtain ⟨u0, e0, hr⟩ := at_str hr
  obtain ⟨u1, e1, hr⟩ := at_str hr
  have z := at_nil hr
  subst z
  subst e1
  have q2 := e0
  obtain rfl : vs = #[.string x0, .string x1] := Array.toList_inj.1 (by simpa using q2)
  refine Calls.mono (strings_CutPrefix.calls x0 x1 r0 r1 w h) fun e w' he => ?_
  obtain ⟨rfl, hb⟩ := he
  exact ⟨_, rfl, hb.below, (rep_tup2 (show E.Rep _ _ _ _ _ from by simp only [cs, E.Rep]) (show E.Rep _ _ _ _ _ from by simp only [cb, E.Rep]))⟩
theorem strings_Cut.pc (a : ByteArray × ByteArray) (b : (ByteArray × ByteArray × Bool)) (h : strings_Cut.f a.1 a.2 = some b) : PureC Tryz.prog 83 ((more cs (one cs)).enc a) ((tup (more cs (more cs (one cb)))).enc b) := by
  intro w P0 vs hr
  obtain ⟨x0, x1⟩ := a
  obtain ⟨r0, r1, r2⟩ := b
  obtain ⟨u0, e0, hr⟩ := at_str hr
  obtain ⟨u1, e1, hr⟩ := at_str hr
  have z := at_nil hr
  subst z
  subst e1
  have q2 := e0
  obtain rfl : vs = #[.string x0, .string x1] := Array.toList_inj.1 (by simpa using q2)
  refine Calls.mono (strings_Cut.calls x0 x1 r0 r1 r2 w h) fun e w' he => ?_
  obtain ⟨rfl, hb⟩ := he
  exact ⟨_, rfl, hb.below, (rep_tup3 (show E.Rep _ _ _ _ _ from by simp only [cs, E.Rep]) (show E.Rep _ _ _ _ _ from by simp only [cs, E.Rep]) (show E.Rep _ _ _ _ _ from by simp only [cb, E.Rep]))⟩
theorem strings_Trim.pc (a : ByteArray × ByteArray) (b : ByteArray) (h : strings_Trim.f a.1 a.2 = some b) : PureC Tryz.prog 101 ((more cs (one cs)).enc a) (cs.enc b) := by
  intro w P0 vs hr
  obtain ⟨x0, x1⟩ := a
  obtain ⟨u0, e0, hr⟩ := at_str hr
  obtain ⟨u1, e1, hr⟩ := at_str hr
  have z := at_nil hr
  subst z
  subst e1
  have q2 := e0
  obtain rfl : vs = #[.string x0, .string x1] := Array.toList_inj.1 (by simpa using q2)
  refine Calls.mono (strings_Trim.calls x0 x1 b w h) fun e w' he => ?_
  obtain ⟨rfl, hb⟩ := he
  exact ⟨_, rfl, hb, (show E.Rep _ _ _ _ _ from by simp only [cs, E.Rep])⟩
noncomputable def cT0 : List (Nat × Fun) := [(85, mk (one cs) rU (at' fun (a : ByteArray) => nat_FromDecimal.f 40 a)), (86, mk (one rU) cs (at' fun (a : List Int) => nat_Decimal.f 40 a)), (82, mk (more cs (one cs)) (tup (more cs (one cb))) (at' fun (a : ByteArray × ByteArray) => strings_CutPrefix.f a.1 a.2)), (83, mk (more cs (one cs)) (tup (more cs (more cs (one cb)))) (at' fun (a : ByteArray × ByteArray) => strings_Cut.f a.1 a.2)), (101, mk (more cs (one cs)) cs (at' fun (a : ByteArray × ByteArray) => strings_Trim.f a.1 a.2)), (30, mk (more rU (one rU)) rU (at' fun (a : List Int × List Int) => nat_Mul.f 40 a.1 a.2)), (90, mk (more rU (one rU)) rU (at' fun (a : List Int × List Int) => nat_plus.f 40 a.1 a.2)), (67, mk (more rU (one rU)) iI (at' fun (a : List Int × List Int) => nat_Compare.f 40 a.1 a.2)), (68, mk (more rU (one rU)) rU (at' fun (a : List Int × List Int) => nat_Sub.f 40 a.1 a.2)), (51, mk (more rU (one rU)) rU (at' fun (a : List Int × List Int) => nat_Gcd.f 40 a.1 a.2)), (66, mk (more rU (one rU)) (tup (more rU (one rU))) (at' fun (a : List Int × List Int) => nat_DivMod.f 40 a.1 a.2)), (64, mk (one rU) cb (at' fun (a : List Int) => nat_IsOne.f a)), (88, mk (one rU) rU (at' fun (a : List Int) => slices_Clone_uint32_uint32.f a))]
theorem cTok0 : TOk Tryz.prog (tb cT0) := (tb_cons (at_ok (by kernel_rfl) fun a b h => nat_FromDecimal.pc a b 40 h) (tb_cons (at_ok (by kernel_rfl) fun a b h => nat_Decimal.pc a b 40 h) (tb_cons (at_ok (by kernel_rfl) fun a b h => strings_CutPrefix.pc a b h) (tb_cons (at_ok (by kernel_rfl) fun a b h => strings_Cut.pc a b h) (tb_cons (at_ok (by kernel_rfl) fun a b h => strings_Trim.pc a b h) (tb_cons (at_ok (by kernel_rfl) fun a b h => nat_Mul.pc a b 40 h) (tb_cons (at_ok (by kernel_rfl) fun a b h => nat_plus.pc a b 40 h) (tb_cons (at_ok (by kernel_rfl) fun a b h => nat_Compare.pc a b 40 h) (tb_cons (at_ok (by kernel_rfl) fun a b h => nat_Sub.pc a b 40 h) (tb_cons (at_ok (by kernel_rfl) fun a b h => nat_Gcd.pc a b 40 h) (tb_cons (at_ok (by kernel_rfl) fun a b h => nat_DivMod.pc a b 40 h) (tb_cons (at_ok (by kernel_rfl) fun a b h => nat_IsOne.pc a b h) (tb_cons (at_ok (by kernel_rfl) fun a b h => slices_Clone_uint32_uint32.pc a b h) tb_nil)))))))))))))
noncomputable def cT1 : List (Nat × Fun) := [(89, execFn' Tryz.prog (tb cT0) (lt []) 40 Tryz.f89), (53, execFn' Tryz.prog (tb cT0) (lt []) 40 Tryz.f53), (87, execFn' Tryz.prog (tb cT0) (lt []) 40 Tryz.f87), (84, execFn' Tryz.prog (tb cT0) (lt []) 40 Tryz.f84), (57, execFn' Tryz.prog (tb cT0) (lt []) 40 Tryz.f57)] ++ cT0
theorem cTok1 : TOk Tryz.prog (tb cT1) := (tb_cons (execN_ok cTok0 mixed Tryz.func89 (by kernel_rfl)) (tb_cons (execN_ok cTok0 mixed Tryz.func53 (by kernel_rfl)) (tb_cons (execN_ok cTok0 mixed Tryz.func87 (by kernel_rfl)) (tb_cons (execN_ok cTok0 mixed Tryz.func84 (by kernel_rfl)) (tb_cons (execN_ok cTok0 mixed Tryz.func57 (by kernel_rfl)) cTok0)))))
noncomputable def cT2 : List (Nat × Fun) := [(52, execFn' Tryz.prog (tb cT1) (lt []) 40 Tryz.f52), (49, execFn' Tryz.prog (tb cT1) (lt []) 40 Tryz.f49), (29, execFn' Tryz.prog (tb cT1) (lt []) 40 Tryz.f29)] ++ cT1
theorem cTok2 : TOk Tryz.prog (tb cT2) := (tb_cons (execN_ok cTok1 mixed Tryz.func52 (by kernel_rfl)) (tb_cons (execN_ok cTok1 mixed Tryz.func49 (by kernel_rfl)) (tb_cons (execN_ok cTok1 mixed Tryz.func29 (by kernel_rfl)) cTok1)))
noncomputable def cT3 : List (Nat × Fun) := [(48, execFn' Tryz.prog (tb cT2) (lt []) 40 Tryz.f48), (50, execFn' Tryz.prog (tb cT2) (lt []) 40 Tryz.f50), (46, execFn' Tryz.prog (tb cT2) (lt []) 40 Tryz.f46), (47, execFn' Tryz.prog (tb cT2) (lt []) 40 Tryz.f47)] ++ cT2
theorem cTok3 : TOk Tryz.prog (tb cT3) := (tb_cons (execN_ok cTok2 mixed Tryz.func48 (by kernel_rfl)) (tb_cons (execN_ok cTok2 mixed Tryz.func50 (by kernel_rfl)) (tb_cons (execN_ok cTok2 mixed Tryz.func46 (by kernel_rfl)) (tb_cons (execN_ok cTok2 mixed Tryz.func47 (by kernel_rfl)) cTok2))))
noncomputable def cT4 : List (Nat × Fun) := [(13, execFn' Tryz.prog (tb cT3) (lt []) 40 Tryz.f13)] ++ cT3
theorem cTok4 : TOk Tryz.prog (tb cT4) := (tb_cons (execN_ok cTok3 mixed Tryz.func13 (by kernel_rfl)) cTok3)
def lw_counted.c (R : Type) (_ : Unit) (K : Bool → Option R) : Option R := K true
set_option maxRecDepth 100000 in
theorem lw_counted.run : execFn' Tryz.prog (tb cT4) (lt []) 40 Tryz.f11 AV [] some = some (.bool true) := by kernel_rfl
theorem lw_counted.ok : FunOk Tryz.prog 11 (mk none0 cb lw_counted.c) := by
  refine mk_ok (by kernel_rfl) (fun R a K => rfl) (fun a b h => ?_)
  injection h with h
  subst h
  exact (execN_ok cTok4 mixed Tryz.func11 (by kernel_rfl)).2.2 _ _ lw_counted.run
noncomputable def lw_NumberPowerMatchesSpec.d (g26 : CF (Nm × Nm) ((Nm × Int))) (g9 : CF (Int × Nm × Nm) ((Nm × Int))) (g10 : CF (Nm × Nm) (Bool)) (g11 : CF (Unit) (Bool)) (R : Type) (a : Nm × Nm) (K : (Bool) → Option R) : Option R :=
  (g26 _ ((a.1.1, a.1.2.1, a.1.2.2), (a.2.1, a.2.2.1, a.2.2.2)) fun t1 => (g9 _ ((112 : Int), (a.1.1, a.1.2.1, a.1.2.2), (a.2.1, a.2.2.1, a.2.2.2)) fun t2 => (if (t1.2 == t2.2) = true then (g10 _ ((t1.1.1, t1.1.2.1, t1.1.2.2), (t2.1.1, t2.1.2.1, t2.1.2.2)) fun t3 => (if t3 = true then (g11 _ () fun t4 => K t4) else K false)) else K false)))
noncomputable abbrev lw_NumberPowerMatchesSpec.c (R : Type) (a : Nm × Nm) (K : (Bool) → Option R) : Option R := lw_NumberPowerMatchesSpec.d number_Power.c rf_TwoP.c lw_same.c lw_counted.c R a K
noncomputable def lw_NumberPowerMatchesSpec.T (g26 : CF (Nm × Nm) ((Nm × Int))) (g9 : CF (Int × Nm × Nm) ((Nm × Int))) (g10 : CF (Nm × Nm) (Bool)) (g11 : CF (Unit) (Bool)) : List (Nat × Tf) := [(9, .pure (mk (more (ci .u8) (more kN (one kN))) kE g9)), (10, .pure (mk (more kN (one kN)) cb g10)), (11, .pure (mk none0 cb g11)), (26, .pure (mk (more kN (one kN)) kE g26))]
theorem lw_NumberPowerMatchesSpec.tok : TOk Tryz.prog (tt (lw_NumberPowerMatchesSpec.T number_Power.c rf_TwoP.c lw_same.c lw_counted.c)) := (tt_cons rf_TwoP.ok (tt_cons lw_same.ok (tt_cons lw_counted.ok (tt_cons number_Power.ok tt_nil))))
set_option maxRecDepth 100000 in
theorem lw_NumberPowerMatchesSpec.ex0 (g26 : CF (Nm × Nm) ((Nm × Int))) (g9 : CF (Int × Nm × Nm) ((Nm × Int))) (g10 : CF (Nm × Nm) (Bool)) (g11 : CF (Unit) (Bool)) (R : Type) (a : Nm × Nm) (K : (Bool) → Option R) : execFn' Tryz.prog (tt (lw_NumberPowerMatchesSpec.T g26 g9 g10 g11)) (lt []) 60 Tryz.f7 R ((more kN (one kN)).enc a) (dk cb K) = lw_NumberPowerMatchesSpec.d g26 g9 g10 g11 R a K := by kernel_rfl
theorem lw_NumberPowerMatchesSpec.sh : Shown Tryz.prog 7 (more kN (one kN)).enc cb lw_NumberPowerMatchesSpec.c := exec_shown lw_NumberPowerMatchesSpec.tok mixed Tryz.func7 (by kernel_rfl) (lw_NumberPowerMatchesSpec.ex0 number_Power.c rf_TwoP.c lw_same.c lw_counted.c)
theorem sameLimbs_loop (a b : List Int) (hl : a.length = b.length) (hL : a.length ≤ 1099511627776) : ∀ (d i : Nat), d + i = a.length → a.take i = b.take i → Ev (fun k => lw_sameLimbs.l0 k a b (i : Int)) (decide (a = b)) := by
  intro d
  induction d with
  | zero =>
    intro i hd h
    rw [List.take_of_length_le (by omega), List.take_of_length_le (by omega)] at h
    refine Ev.step (f := fun _ => some true) (fun k => ?_) (Ev.eq (Ev.now _) (by rw [decide_eq_true h]))
    simp only [lw_sameLimbs.l0]
    rw [if_neg (by omega)]
  | succ d ih =>
    intro i hd h
    have g1 : (i : Int) < (a.length : Int) := by omega
    have g2 : (0 : Int) ≤ (i : Int) := by omega
    have g3 : (i : Int) < (b.length : Int) := by omega
    have gw : ∀ _ : Unit, wrap64 ((i : Int) + 1) = ((i + 1 : Nat) : Int) := fun _ => by rw [w64 (by omega) (by omega)]; omega
    by_cases c : a.getD i 0 = b.getD i 0
    · refine Ev.step (f := fun k => lw_sameLimbs.l0 k a b ((i + 1 : Nat) : Int)) (fun k => ?_) (ih (i + 1) (by omega) (by rw [take_succ' _ _ (by omega), take_succ' _ _ (by omega), h, c]))
      simp only [lw_sameLimbs.l0]
      rw [if_pos g1, if_pos g2, if_pos g3, rd_getD, rd_getD, if_pos c, gw ()]
    · refine Ev.step (f := fun _ => some false) (fun k => ?_) (Ev.eq (Ev.now _) (by rw [decide_eq_false]; rintro rfl; exact c rfl))
      simp only [lw_sameLimbs.l0]
      rw [if_pos g1, if_pos g2, if_pos g3, rd_getD, rd_getD, if_neg c]
theorem sameLimbs_ev (a b : List Int) (hL : a.length ≤ 1099511627776) : Ev (fun k => lw_sameLimbs.f k a b) (decide (a = b)) := by
  by_cases hl : a.length = b.length
  · refine Ev.congr (fun k => ?_) (sameLimbs_loop a b hl hL a.length 0 (by omega) rfl)
    unfold lw_sameLimbs.f
    rw [if_pos (by omega)]; rfl
  · refine Ev.ret fun k => ?_
    unfold lw_sameLimbs.f
    rw [if_neg (by omega), decide_eq_false (fun h => hl (by rw [h]))]
theorem same_c (m : Bool) (a b : List Int) (n : Bool) (c d : List Int) (hL : a.length ≤ 1099511627776) (hM : b.length ≤ 1099511627776) {R : Type} (K : Bool → Option R) : lw_same.c R ((m, a, b), (n, c, d)) K = K (decide (m = n ∧ a = c ∧ b = d)) := by
  unfold lw_same.c lw_same.d
  by_cases h : m = n
  · refine (if_pos (by simpa using h)).trans ((lw_sameLimbs.eq (sameLimbs_ev a c hL) _).trans ?_)
    by_cases h2 : a = c
    · refine (if_pos (decide_eq_true h2)).trans ((lw_sameLimbs.eq (sameLimbs_ev b d hM) _).trans ?_)
      simp [h, h2]
    · refine (if_neg (by simp [h2])).trans ?_
      simp [h2]
  · refine (if_neg (by simpa using h)).trans ?_
    simp [h]
theorem outM_eq {neg neg' : Bool} {p q p' q' : List Int} {N D : Int} (h : Rep neg p q N D) (h' : Rep neg' p' q' N D) (hD : D ≠ 0) : outM neg p q = outM neg' p' q' := by
  obtain ⟨rfl, rfl, rfl⟩ := h.unique (by decide) h' hD
  rfl
def Short (x : (Bool × List Int × List Int) × Int) : Prop := x.1.2.1.length ≤ 128 ∧ x.1.2.2.length ≤ 128
theorem short_out (neg : Bool) (p q : List Int) : Short (outM neg p q) := by
  unfold outM Short
  split
  · exact ⟨by decide, by decide⟩
  · rename_i h
    refine ⟨?_, ?_⟩ <;> dsimp only <;> omega
theorem short_bad (e : Int) : Short (bad e) := ⟨Nat.zero_le _, Nat.zero_le _⟩
theorem same_self {x : (Bool × List Int × List Int) × Int} (h : Short x) {R : Type} (K : Bool → Option R) : lw_same.c R ((x.1.1, x.1.2.1, x.1.2.2), (x.1.1, x.1.2.1, x.1.2.2)) K = K true := by
  obtain ⟨h1, h2⟩ := h
  rw [same_c _ _ _ _ _ _ (by omega) (by omega)]
  simp
noncomputable def RPow (R : Type) (nb : Bool) (y : List Int) (c : Nm) (K : (Nm × Int) → Option R) : Option R :=
  rf_small.c R (nb, y, [1]) fun t9 => (if (!t9.2) = false then (if (decide (t9.1 > (4096 : Int))) = true then K ((false, ([] : List Int), ([] : List Int)), (3 : Int)) else (rf_power.l1 R ((0 : Int), t9.1, (0 : Int), (c.1, c.2.1, c.2.2, ()), (nb, y, [1], ()), (false, ()), (false, ([(1 : Int)] : List Int), ([(1 : Int)] : List Int), ()), (false, ([(1 : Int)] : List Int), ([(1 : Int)] : List Int), ()), ()) fun t10 => (oneOf (fun t11 => K ((t11.2.2.2.1.1, ([] : List Int), ([] : List Int)), t11.1)) (fun t12 => (rf_Made.c R (t12.2.2.2.2.2.1.1, t12.2.2.2.2.2.1.2.1, t12.2.2.2.2.2.1.2.2.1) fun t13 => K ((t13.1.1, t13.1.2.1, t13.1.2.2), t13.2)))) t10)) else K ((false, ([] : List Int), ([] : List Int)), (3 : Int)))
theorem RPow_big (nb : Bool) (y : List Int) (c : Nm) (hy : Lim 65536 y) (ny : Nrm y) (ly : y.length ≤ 256) (h : 4096 < val 65536 y) {R : Type} (K : (Nm × Int) → Option R) : RPow R nb y c K = K (bad 3) := by
  obtain ⟨s1, s2⟩ := small_c (neg := nb) (d := [1]) hy ny ly
  unfold RPow
  by_cases c1 : val 65536 y < 1048576
  · refine (s1 c1 R _).trans ?_
    refine (if_pos rfl).trans ?_
    exact if_pos (by simpa using h)
  · refine (s2 (by omega) R _).trans ?_
    exact if_neg (by simp)
theorem RPow_c (na nb : Bool) (y x u : List Int) (hy : Lim 65536 y) (ny : Nrm y) (ly : y.length ≤ 256) (n : Nat) (hn : val 65536 y = (n : Int)) (hn2 : n ≤ 4096) (hx : Lim 65536 x) (hu : Lim 65536 u) (lx : x.length ≤ 256) (lu : u.length ≤ 256) (x1 : 1 ≤ val 65536 x) (u1 : 1 ≤ val 65536 u) (g : Nat.gcd (val 65536 x).toNat (val 65536 u).toNat = 1) :
    (val 65536 x ^ n < 2 ^ 4096 ∧ val 65536 u ^ n < 2 ^ 4096 ∧ ∃ p q, (∀ (R : Type) (K : (Nm × Int) → Option R), RPow R nb y (na, x, u) K = K (outM (sgnAt na n) p q)) ∧ Rep (sgnAt na n) p q (sgn (sgnAt na n) (val 65536 x ^ n)) (val 65536 u ^ n)) ∨
    ((2 ^ 4096 ≤ val 65536 x ^ n ∨ 2 ^ 4096 ≤ val 65536 u ^ n) ∧ ∀ (R : Type) (K : (Nm × Int) → Option R), RPow R nb y (na, x, u) K = K (bad 3)) := by
  obtain ⟨s1, s2⟩ := small_c (neg := nb) (d := [1]) hy ny ly
  have begin_ : ∀ (R : Type) (K : (Nm × Int) → Option R), RPow R nb y (na, x, u) K = (iter rf_power.bl1 4611686018427387904 R ((0 : Int), (n : Int), ((0 : Nat) : Int), (na, x, u, ()), (nb, y, [1], ()), (false, ()), (false, ([(1 : Int)] : List Int), ([(1 : Int)] : List Int), ()), (sgnAt na 0, ([(1 : Int)] : List Int), ([(1 : Int)] : List Int), ()), ()) fun t10 => (oneOf (fun t11 => K ((t11.2.2.2.1.1, ([] : List Int), ([] : List Int)), t11.1)) (fun t12 => (rf_Made.c R (t12.2.2.2.2.2.1.1, t12.2.2.2.2.2.1.2.1, t12.2.2.2.2.2.1.2.2.1) fun t13 => K ((t13.1.1, t13.1.2.1, t13.1.2.2), t13.2)))) t10) := by
    intro R K
    have e0 : sgnAt na 0 = false := by unfold sgnAt; simp
    unfold RPow
    refine (s1 (by omega) R _).trans ?_
    refine (if_pos rfl).trans ?_
    rw [hn, e0]
    exact if_neg (by simp; omega)
  have one2 : (1 : Int) < 2 ^ 4096 := by
    have := pow_mono' (show (0 : Int) < 2 by decide) (show 1 ≤ 4096 by decide)
    omega
  rcases rpow_loop na x u hx hu lx lu x1 u1 n hn2 0 (nb, y, [1], ()) (false, ()) (false, [1], [1], ()) n 0 [1] [1] (by omega) ROne.1 ROne.2.1 ROne.1 ROne.2.1 (by rw [Int.pow_zero]; exact ROne.2.2) (by rw [Int.pow_zero]; exact ROne.2.2) (by rw [ROne.2.2]; exact one2) (by rw [ROne.2.2]; exact one2) with ⟨p', q', h1, h2, h3, h4, h5, h6, h7, h8, h9⟩ | ⟨h1, z, h2⟩
  · have hg := gcd_pow1 (by omega) (by omega) g n
    rw [← h5, ← h6] at hg
    have hq0 : q' ≠ [] := by
      rintro rfl
      have : (1 : Int) ≤ val 65536 u ^ n := by have := pow_le_pow' u1 (Nat.zero_le n); simpa using this
      rw [← h6] at this
      exact absurd this (by decide)
    have hp0 : p' ≠ [] := by
      rintro rfl
      have : (1 : Int) ≤ val 65536 x ^ n := by have := pow_le_pow' x1 (Nat.zero_le n); simpa using this
      rw [← h5] at this
      exact absurd this (by decide)
    have hr : RR (sgnAt na n) p' q' (sgn (sgnAt na n) (val 65536 p')) (val 65536 q') := ⟨h1, h2, h3, h4, hq0, hg, fun h => absurd h hp0, rfl⟩
    obtain ⟨p, q, m1, m2⟩ := Made_c hr (by have := len256 h1 h2 h7; omega) (by have := len256 h3 h4 h8; omega)
    rw [h5, h6] at m2
    refine .inl ⟨by rw [← h5]; exact h7, by rw [← h6]; exact h8, p, q, fun R K => ?_, m2⟩
    rw [begin_, h9 _ (by omega)]
    exact m1 R _
  · refine .inr ⟨h1, fun R K => ?_⟩
    rw [begin_, h2 _ (by omega)]
    rfl
theorem TwoP_eq {R : Type} (x y : Nm) (K : (Nm × Int) → Option R) : rf_TwoP.c R (112, x, y) K = rf_Two112.c R (x, y) K := rfl
noncomputable def wrongP (na : Bool) (a da : List Int) (nb : Bool) (b db : List Int) : Int := if fault na a da = 0 then (if fault nb b db = 0 then (if db = [1] then 0 else 7) else fault nb b db) else fault na a da
theorem sgn_same {m n : Bool} {U V : Int} (hU : 0 ≤ U) (hV : 0 ≤ V) (h : sgn m U = sgn n V) : U = V := by
  unfold sgn at h
  cases m <;> cases n <;> simp at h <;> omega
theorem pow_lists {zn s : Bool} {p q : List Int} {N D : Int} (h : Rep zn p q (sgn s N) D) (hN : 0 < N) (hD : 0 < D) (g : Nat.gcd N.toNat D.toNat = 1) : val 4294967296 p = N ∧ val 4294967296 q = D := by
  have pq := h.pos (show (0 : Int) < 4294967296 by decide)
  have pp := val_nonneg (show (0 : Int) < 4294967296 by decide) h.lp
  have e := h.eq
  rw [← sgn_mul_r, ← sgn_mul_r] at e
  have e1 := sgn_same (Int.mul_nonneg pp (Int.le_of_lt hD)) (Int.mul_nonneg (Int.le_of_lt hN) (Int.le_of_lt pq)) e
  have e2 : (val 4294967296 p).toNat * D.toNat = N.toNat * (val 4294967296 q).toNat := by
    rw [← Int.toNat_mul pp (Int.le_of_lt hD), ← Int.toNat_mul (Int.le_of_lt hN) (Int.le_of_lt pq), e1]
  obtain ⟨e3, e4⟩ := nat_frac h.gc g (by omega) (by omega) e2
  omega
theorem PTail0_big {na : Bool} {a da : List Int} {nb : Bool} {b : List Int} (hb : Lim 4294967296 b) (b0 : b ≠ []) (h : 4096 < val 4294967296 b) {R : Type} (K : (Nm × Int) → Option R) : PTail0 R na a da nb b K = K (bad 3) := by
  have lb0 : 0 < b.length := List.length_pos_iff.2 b0
  unfold PTail0
  by_cases c : b.length > 1
  · exact if_neg (by simp; omega)
  · refine (if_pos (by simp; omega)).trans ?_
    refine (if_pos (by omega)).trans ?_
    refine if_pos ?_
    obtain ⟨d, rfl⟩ := List.length_eq_one_iff.1 (show b.length = 1 by omega)
    simp only [val] at h
    have : ([d] : List Int).getD 0 0 = d := rfl
    rw [this]
    simp
    omega
theorem Power_go {na : Bool} {a da : List Int} {nb : Bool} {b : List Int} (ha : Lim 4294967296 a) (hda : Lim 4294967296 da) (hb : Lim 4294967296 b) (ca : Can na a da) (cb : Can nb b [1]) (a0 : a ≠ []) (b0 : b ≠ []) (hone : ¬ (a = [1] ∧ da = [1])) {R : Type} (K : (Nm × Int) → Option R) : number_Power.c R ((na, a, da), (nb, b, [1])) K = PTail0 R na a da nb b K := by
  have lb0 : 0 < b.length := List.length_pos_iff.2 b0
  unfold number_Power.c number_Power.d
  refine (check2_ok ha hda hb one_rep.1 ca cb _).trans ?_
  refine (if_neg (by decide)).trans ?_
  refine (isone_c [1] _).trans ?_
  refine (if_neg (by decide)).trans ?_
  refine (if_pos (by simpa using lb0)).trans ?_
  refine (if_pos (by simpa using lb0)).trans ?_
  refine (if_neg (by simpa using b0)).trans ?_
  refine (if_neg (by simpa using a0)).trans ?_
  refine (if_pos (by simpa using a0)).trans ?_
  refine (isone_c a _).trans ?_
  by_cases c1 : a = [1]
  · refine (if_pos (decide_eq_true c1)).trans ?_
    refine (isone_c da _).trans ?_
    refine (if_neg (by simpa using fun h => hone ⟨c1, h⟩)).trans ?_
    rfl
  · refine (if_neg (by simpa using c1)).trans ?_
    rfl
theorem Power_one {na : Bool} {nb : Bool} {b : List Int} (hb : Lim 4294967296 b) (ca : Can na [1] [1]) (cb : Can nb b [1]) (b0 : b ≠ []) {R : Type} (K : (Nm × Int) → Option R) : number_Power.c R ((na, [1], [1]), (nb, b, [1])) K = K ((na && decide (val 4294967296 b % 2 = 1), [1], [1]), 0) := by
  have lb0 : 0 < b.length := List.length_pos_iff.2 b0
  have made1 : ∀ (s : Bool), number_made.c R (s, [1], [1]) K = K ((s, [1], [1]), 0) := fun s => (made_exact (s := s) one_rep.1 one_rep.2.1 one_rep.1 one_rep.2.1 (by decide) (by decide) (by decide) (by decide) (by rw [one_rep.2.2]; rfl)).1 R K
  have hodd : (IntKind.u32.wrap (((BitVec.ofInt 32 (b.getD 0 0)) &&& (BitVec.ofInt 32 (1 : Int))).toNat : Int) == (1 : Int)) = decide (val 4294967296 b % 2 = 1) := by
    have hd := hb.getD (show (0 : Int) < 4294967296 by decide) 0
    obtain ⟨e, he⟩ := Int.eq_ofNat_of_zero_le hd.1
    have hv := val_drop' 4294967296 b 0
    rw [List.drop_zero] at hv
    rw [he, odd_bit e (by omega)]
    rw [he] at hv
    have : val 4294967296 b % 2 = ((e % 2 : Nat) : Int) := by omega
    rw [this]
    by_cases c : e % 2 = 1
    · simp [c]
    · have : e % 2 = 0 := by omega
      simp [this]
  unfold number_Power.c number_Power.d
  refine (check2_ok one_rep.1 one_rep.1 hb one_rep.1 ca cb _).trans ?_
  refine (if_neg (by decide)).trans ?_
  refine (isone_c [1] _).trans ?_
  refine (if_neg (by decide)).trans ?_
  refine (if_pos (by simpa using lb0)).trans ?_
  refine (if_pos (by simpa using lb0)).trans ?_
  refine (if_neg (by simpa using b0)).trans ?_
  refine (if_neg (by simp)).trans ?_
  refine (if_pos (by simp)).trans ?_
  refine (isone_c [1] _).trans ?_
  refine (if_pos (by simp)).trans ?_
  refine (isone_c [1] _).trans ?_
  refine (if_pos (by simp)).trans ?_
  cases na with
  | true =>
    refine (if_pos rfl).trans ?_
    rw [hodd]
    exact made1 _
  | false =>
    refine (if_neg (by simp)).trans ?_
    exact made1 _
theorem cmp_one {x : List Int} (hx : Lim 65536 x) (nx : Nrm x) (lx : x.length ≤ 256) : ∃ r : Int, (∀ (R : Type) (K : Int → Option R), rf_CmpNat.c R (x, [1]) K = K r) ∧ (r = 0 ↔ x = [1]) := by
  have hc := CmpNat_ev x [1] hx ROne.1 (by omega) (by decide)
  rw [ROne.2.2] at hc
  refine ⟨_, fun R K => rf_CmpNat.eq hc K, ?_⟩
  rw [← eq_one (show (1 : Int) < 65536 by decide) hx nx]
  unfold cmpI
  split
  · constructor <;> intro h <;> omega
  · split
    · constructor <;> intro h <;> omega
    · constructor <;> intro h <;> omega
theorem power_go {na : Bool} {x u : List Int} {nb : Bool} {y : List Int} {N D : Int} (hx : RR na x u N D) (lx : x.length ≤ 256) (lu : u.length ≤ 256) (x0 : x ≠ []) (y0 : y ≠ []) (hone : ¬ (x = [1] ∧ u = [1])) {R : Type} (K : (Nm × Int) → Option R) : rf_power.c R ((na, x, u), (nb, y, [1])) K = if nb = true then RPow R nb y (na, u, x) K else RPow R nb y (na, x, u) K := by
  obtain ⟨r, r1, r2⟩ := cmp_one hx.lp hx.np lx
  have tail : ∀ (A : Option R), A = (if nb = true then (rf_Inverse.c R (na, x, u) fun t8 => RPow R nb y (t8.1, t8.2.1, t8.2.2) K) else RPow R nb y (na, x, u) K) → A = if nb = true then RPow R nb y (na, u, x) K else RPow R nb y (na, x, u) K := fun A h => h
  unfold rf_power.c rf_power.d
  refine (if_neg (by simpa using y0)).trans ?_
  refine (if_pos (by simpa using x0)).trans ?_
  refine (r1 R _).trans ?_
  by_cases c1 : x = [1]
  · refine (if_pos (by simpa using r2.2 c1)).trans ?_
    refine (IsInt_c hx.lq hx.nq (by omega) _).trans ?_
    refine (if_neg (by simpa using fun h => hone ⟨c1, h⟩)).trans ?_
    exact tail _ rfl
  · refine (if_neg (by simpa using fun h => c1 (r2.1 h))).trans ?_
    exact tail _ rfl
theorem power_one {na : Bool} {nb : Bool} {y : List Int} (hy : Lim 65536 y) (y0 : y ≠ []) {R : Type} (K : (Nm × Int) → Option R) : rf_power.c R ((na, [1], [1]), (nb, y, [1])) K = K ((na && decide (val 65536 y % 2 = 1), [1], [1]), 0) := by
  obtain ⟨r, r1, r2⟩ := cmp_one ROne.1 ROne.2.1 (by decide)
  have made1 : ∀ s : Bool, rf_Made.c R (s, [1], [1]) K = K ((s, [1], [1]), 0) := fun s => by
    obtain ⟨p, q, m1, m2⟩ := Made_c (rr_int (neg := s) ROne.1 ROne.2.1 (fun h => by cases h)) (by decide) (by decide)
    rw [m1]
    rw [outM_int m2 one_rep.1 one_rep.2.1 (fun h => by cases h) (by rw [ROne.2.2, one_rep.2.2]) (by decide)]
  have hb := rbit_ev hy 0 (by decide)
  rw [Int.pow_zero, Int.ediv_one] at hb
  unfold rf_power.c rf_power.d
  refine (if_neg (by simpa using y0)).trans ?_
  refine (if_pos (by simp)).trans ?_
  refine (r1 R _).trans ?_
  refine (if_pos (by simpa using r2.2 rfl)).trans ?_
  refine (IsInt_c ROne.1 ROne.2.1 (by decide) _).trans ?_
  refine (if_pos (by simp)).trans ?_
  cases na with
  | false =>
    refine (if_neg (by simp)).trans ?_
    exact made1 false
  | true =>
    refine (if_pos rfl).trans ?_
    refine (rf_bit.eq hb _).trans ?_
    by_cases c : val 65536 y % 2 = 1
    · refine (if_neg (by simp [c])).trans ?_
      rw [show (true && decide (val 65536 y % 2 = 1)) = true by simp [c]]
      exact made1 true
    · have c0 : val 65536 y % 2 = 0 := by omega
      refine (if_pos (by simp [c0])).trans ?_
      rw [show (true && decide (val 65536 y % 2 = 1)) = false by simp [c0]]
      exact made1 false
theorem power_bad (na : Bool) (a da : List Int) (nb : Bool) (b db : List Int) (ha : Lim 4294967296 a) (hda : Lim 4294967296 da) (hb : Lim 4294967296 b) (hdb : Lim 4294967296 db) (h : wrongP na a da nb b db ≠ 0) : ∀ (R : Type) (K : (Nm × Int) → Option R), number_Power.c R ((na, a, da), (nb, b, db)) K = K (bad (wrongP na a da nb b db)) ∧ rf_Two112.c R ((na, a, da), (nb, b, db)) K = K (bad (wrongP na a da nb b db)) := by
  intro R K
  unfold wrongP at h ⊢
  unfold number_Power.c number_Power.d rf_Two112.c rf_Two112.d
  by_cases h1 : fault na a da = 0
  · rw [if_pos h1] at h ⊢
    by_cases h2 : fault nb b db = 0
    · rw [if_pos h2] at h ⊢
      have c : db ≠ [1] := fun e => by rw [if_pos e] at h; exact h rfl
      rw [if_neg c]
      have ca := can_of_fault' h1
      have cb := can_of_fault' h2
      obtain ⟨x, u, x1, x2, x3, x4, x5, x6, x7⟩ := Of_c ha hda ca
      obtain ⟨y, v, y1, y2, y3, y4, y5, y6, y7⟩ := Of_c hb hdb cb
      have hv : v = [1] ↔ db = [1] := by rw [← eq_one (show (1 : Int) < 65536 by decide) y2.lq y2.nq, ← eq_one (show (1 : Int) < 4294967296 by decide) hdb cb.nd, y4]
      refine ⟨?_, ?_⟩
      · refine (check2_c na a da nb b db ha hda hb hdb _).trans ?_
        rw [if_pos h1]
        refine (if_neg (by simp [h2])).trans ?_
        refine (isone_c db _).trans ?_
        exact if_pos (by simp [c])
      · refine (Fault_c na a da ha hda _).trans ?_
        refine (if_neg (by simp [h1])).trans ?_
        refine (Fault_c nb b db hb hdb _).trans ?_
        refine (if_neg (by simp [h2])).trans ?_
        refine (x1 R _).trans ?_
        refine (y1 R _).trans ?_
        refine (IsInt_c y2.lq y2.nq (by omega) _).trans ?_
        exact if_pos (by simp [hv, c])
    · rw [if_neg h2]
      refine ⟨?_, ?_⟩
      · refine (check2_c na a da nb b db ha hda hb hdb _).trans ?_
        rw [if_pos h1]
        exact if_pos (by simp [h2])
      · refine (Fault_c na a da ha hda _).trans ?_
        refine (if_neg (by simp [h1])).trans ?_
        refine (Fault_c nb b db hb hdb _).trans ?_
        exact if_pos (by simp [h2])
  · rw [if_neg h1]
    refine ⟨?_, ?_⟩
    · refine (check2_c na a da nb b db ha hda hb hdb _).trans ?_
      rw [if_neg h1]
      exact if_pos (by simp [h1])
    · refine (Fault_c na a da ha hda _).trans ?_
      exact if_pos (by simp [h1])
theorem P112_begin {na : Bool} {a da : List Int} {nb : Bool} {b : List Int} (ha : Lim 4294967296 a) (hda : Lim 4294967296 da) (hb : Lim 4294967296 b) (ca : Can na a da) (cb : Can nb b [1]) :
    ∃ x u y, RR na x u (sgn na (val 4294967296 a)) (val 4294967296 da) ∧ val 65536 x = val 4294967296 a ∧ val 65536 u = val 4294967296 da ∧ x.length ≤ 256 ∧ u.length ≤ 256 ∧ (x = [] ↔ a = []) ∧ Lim 65536 y ∧ Nrm y ∧ val 65536 y = val 4294967296 b ∧ y.length ≤ 256 ∧ (y = [] ↔ b = []) ∧
      ∀ (R : Type) (K : (Nm × Int) → Option R), rf_Two112.c R ((na, a, da), (nb, b, [1])) K = if x = [] ∧ nb = true then K (bad 10) else rf_power.c R ((na, x, u), (nb, y, [1])) K := by
  obtain ⟨x, u, x1, x2, x3, x4, x5, x6, x7⟩ := Of_c ha hda ca
  obtain ⟨y, v, y1, y2, y3, y4, y5, y6, y7⟩ := Of_c hb one_rep.1 cb
  rw [one_rep.2.2] at y4
  have hv : v = [1] := (eq_one (show (1 : Int) < 65536 by decide) y2.lq y2.nq).1 y4
  subst hv
  refine ⟨x, u, y, x2, x3, x4, x5, x6, x7, y2.lp, y2.np, y3, y5, y7, fun R K => ?_⟩
  unfold rf_Two112.c rf_Two112.d
  refine (Fault_c na a da ha hda _).trans ?_
  rw [fault_can ca]
  refine (if_neg (by decide)).trans ?_
  refine (Fault_c nb b [1] hb one_rep.1 _).trans ?_
  rw [fault_can cb]
  refine (if_neg (by decide)).trans ?_
  refine (x1 R _).trans ?_
  refine (y1 R _).trans ?_
  refine (IsInt_c y2.lq y2.nq (by omega) _).trans ?_
  refine (if_neg (by simp)).trans ?_
  dsimp only
  by_cases h0 : x = []
  · rw [if_pos (by simp [h0])]
    cases nb with
    | true => rw [if_pos rfl, if_pos ⟨h0, rfl⟩]; rfl
    | false => rw [if_neg (by decide), if_neg (by simp)]
  · rw [if_neg (by simp [h0]), if_neg (fun h => h0 h.1)]
theorem made_one : ∃ p q, (∀ (R : Type) (K : (Nm × Int) → Option R), rf_Made.c R (false, [1], [1]) K = K (outM false p q)) ∧ outM false p q = ((false, [1], [1]), 0) := by
  obtain ⟨p, q, m1, m2⟩ := Made_c (rr_int (neg := false) ROne.1 ROne.2.1 (fun _ => rfl)) (by decide) (by decide)
  refine ⟨p, q, m1, ?_⟩
  refine outM_int m2 one_rep.1 one_rep.2.1 (fun h => by cases h) ?_ (by decide)
  rw [ROne.2.2, one_rep.2.2]
theorem power_same {na : Bool} {a da : List Int} {nb : Bool} {b : List Int} (ha : Lim 4294967296 a) (hda : Lim 4294967296 da) (hb : Lim 4294967296 b) (ca : Can na a da) (cb : Can nb b [1]) :
    ∃ r, Short r ∧ (∀ (R : Type) (K : (Nm × Int) → Option R), number_Power.c R ((na, a, da), (nb, b, [1])) K = K r) ∧ (∀ (R : Type) (K : (Nm × Int) → Option R), rf_Two112.c R ((na, a, da), (nb, b, [1])) K = K r) := by
  obtain ⟨x, u, y, x2, x3, x4, x5, x6, x7, hy, ny, y3, y5, y7, run⟩ := P112_begin ha hda hb ca cb
  have hchk : ∀ {R : Type} (K : Int → Option R), number_check2.c R (na, a, da, nb, b, [1]) K = K 0 := fun K => check2_ok ha hda hb one_rep.1 ca cb K
  have vb := val_nonneg (show (0 : Int) < 4294967296 by decide) hb
  by_cases b0 : b = []
  ·
    subst b0
    have nb0 : nb = false := cb.ng rfl
    subst nb0
    have y0 : y = [] := y7.2 rfl
    obtain ⟨p, q, m1, m2⟩ := made_one
    rw [m2] at m1
    refine ⟨((false, [1], [1]), 0), ⟨by decide, by decide⟩, fun R K => ?_, fun R K => ?_⟩
    · unfold number_Power.c number_Power.d
      refine (hchk _).trans ?_
      refine (if_neg (by decide)).trans ?_
      refine (isone_c [1] _).trans ?_
      refine (if_neg (by decide)).trans ?_
      refine (if_neg (by simp)).trans ?_
      refine (if_pos rfl).trans ?_
      exact FromInt_one _
    · rw [run, if_neg (by simp)]
      unfold rf_power.c rf_power.d
      refine (if_pos (by simp [y0])).trans ?_
      exact m1 R _
  · have y0 : y ≠ [] := fun h => b0 (y7.1 h)
    have lb0 : 0 < b.length := List.length_pos_iff.2 b0
    have lb1 := cb.ln
    have prog : ∀ (R : Type) (K : (Nm × Int) → Option R) (L : Option R), (if ((a.length : Int) == (0 : Int)) = true then (if nb = true then K (bad 10) else number_made.c R (false, a, da) fun t => K ((t.1.1, t.1.2.1, t.1.2.2), t.2)) else L) = L ∨ a = [] := fun R K L => by
      by_cases h : a = []
      · exact .inr h
      · exact .inl (if_neg (by simp [h]))
    by_cases a0 : a = []
    · subst a0
      have na0 : na = false := ca.ng rfl
      subst na0
      have hd1 : da = [1] := by
        refine (eq_one (show (1 : Int) < 4294967296 by decide) hda ca.nd).1 ?_
        have h2 := ca.gc
        have h3 : (val 4294967296 ([] : List Int)).toNat = 0 := rfl
        rw [h3, Nat.gcd_zero_left] at h2
        have := ca.pos hda
        omega
      subst hd1
      have x0 : x = [] := x7.2 rfl
      cases nb with
      | true =>
        refine ⟨bad 10, short_bad _, fun R K => ?_, fun R K => ?_⟩
        · unfold number_Power.c number_Power.d
          refine (hchk _).trans ?_
          refine (if_neg (by decide)).trans ?_
          refine (isone_c [1] _).trans ?_
          refine (if_neg (by decide)).trans ?_
          refine (if_pos (by simpa using lb0)).trans ?_
          refine (if_pos (by simpa using lb0)).trans ?_
          refine (if_neg (by simp [b0])).trans ?_
          refine (if_pos rfl).trans ?_
          exact if_pos rfl
        · rw [run, if_pos ⟨x0, rfl⟩]
      | false =>
        obtain ⟨m, p, q, m1, m2⟩ := made_c false [] [1] (lim_nil _) nrm_nil one_rep.1 one_rep.2.1 (by decide) (by decide) (by decide)
        rw [one_rep.2.2] at m2
        have e := outM_int m2 (n := []) (neg := false) (lim_nil _) nrm_nil (fun _ => rfl) rfl (by decide)
        rw [e] at m1
        have u1 : u = [1] := (eq_one (show (1 : Int) < 65536 by decide) x2.lq x2.nq).1 (by rw [x4]; exact one_rep.2.2)
        subst x0 u1
        obtain ⟨p', q', w1, w2⟩ := Made_c (rr_int (neg := false) (lim_nil 65536) nrm_nil (fun _ => rfl)) (by decide) (by decide)
        have e' := outM_int w2 (n := []) (neg := false) (lim_nil _) nrm_nil (fun _ => rfl) rfl (by decide)
        rw [e'] at w1
        refine ⟨((false, [], [1]), 0), ⟨by decide, by decide⟩, fun R K => ?_, fun R K => ?_⟩
        · unfold number_Power.c number_Power.d
          refine (hchk _).trans ?_
          refine (if_neg (by simp)).trans ?_
          refine (isone_c [1] _).trans ?_
          refine (if_neg (by simp)).trans ?_
          refine (if_pos (by simpa using lb0)).trans ?_
          refine (if_pos (by simpa using lb0)).trans ?_
          refine (if_neg (by simp [b0])).trans ?_
          refine (if_pos rfl).trans ?_
          refine (if_neg (by simp)).trans ?_
          refine (if_neg (by simp)).trans ?_
          refine (if_neg (by simp)).trans ?_
          exact m1 R _
        · rw [run, if_neg (by simp)]
          unfold rf_power.c rf_power.d
          refine (if_neg (by simp [y0])).trans ?_
          refine (if_neg (by simp)).trans ?_
          refine (if_neg (by simp)).trans ?_
          exact w1 R _
    · have x0 : x ≠ [] := fun h => a0 (x7.1 h)
      have va := val_pos (show (0 : Int) < 4294967296 by decide) ha ca.nn a0
      have vd := ca.pos hda
      have ex : x = [1] ↔ a = [1] := by rw [← eq_one (show (1 : Int) < 65536 by decide) x2.lp x2.np, ← eq_one (show (1 : Int) < 4294967296 by decide) ha ca.nn, x3]
      have eu : u = [1] ↔ da = [1] := by rw [← eq_one (show (1 : Int) < 65536 by decide) x2.lq x2.nq, ← eq_one (show (1 : Int) < 4294967296 by decide) hda ca.nd, x4]
      have run2 : ∀ (R : Type) (K : (Nm × Int) → Option R), rf_Two112.c R ((na, a, da), (nb, b, [1])) K = rf_power.c R ((na, x, u), (nb, y, [1])) K := fun R K => by rw [run, if_neg (fun h => x0 h.1)]
      by_cases hone : a = [1] ∧ da = [1]
      · obtain ⟨rfl, rfl⟩ := hone
        have hx1 := ex.2 rfl
        have hu1 := eu.2 rfl
        subst hx1 hu1
        refine ⟨((na && decide (val 4294967296 b % 2 = 1), [1], [1]), 0), ⟨show ([1] : List Int).length ≤ 128 by decide, show ([1] : List Int).length ≤ 128 by decide⟩, fun R K => Power_one hb ca cb b0 K, fun R K => ?_⟩
        rw [run2, power_one hy y0, y3]
      · have hone' : ¬ (x = [1] ∧ u = [1]) := fun h => hone ⟨ex.1 h.1, eu.1 h.2⟩
        by_cases hbig : 4096 < val 4294967296 b
        · refine ⟨bad 3, short_bad 3, fun R K => ?_, fun R K => ?_⟩
          · rw [Power_go ha hda hb ca cb a0 b0 hone]
            exact PTail0_big hb b0 hbig K
          · rw [run2, power_go x2 x5 x6 x0 y0 hone']
            split
            · exact RPow_big _ _ _ hy ny y5 (by omega) K
            · exact RPow_big _ _ _ hy ny y5 (by omega) K
        · have vb1 := val_pos (show (0 : Int) < 4294967296 by decide) hb cb.nn b0
          obtain ⟨n, hn⟩ := Int.eq_ofNat_of_zero_le vb
          have hbl : b = [(n : Int)] := by
            have h1 : b.length ≤ 1 := small_len (by decide) hb cb.nn (by omega)
            match b, h1, b0, hn with
            | [d], _, _, hn => simp only [val] at hn; congr 1; omega
          have hA : (1 : Int) ≤ val 65536 x := by omega
          have hD : (1 : Int) ≤ val 65536 u := by omega
          have hgx : Nat.gcd (val 65536 x).toNat (val 65536 u).toNat = 1 := x2.gc
          have pN1 : ∀ {A B : Int} (k : Int), 1 ≤ A → 1 ≤ B → 0 < pN A B k ∧ 0 < pD A B k := fun k h1 h2 => by
            unfold pN pD
            split <;> exact ⟨Int.pow_pos (by omega), Int.pow_pos (by omega)⟩
          have gk : ∀ k : Int, Nat.gcd (pN (val 4294967296 a) (val 4294967296 da) k).toNat (pD (val 4294967296 a) (val 4294967296 da) k).toNat = 1 := fun k => by
            have h1 := gcd_pow1 (Int.le_of_lt va) (Int.le_of_lt vd) ca.gc k.natAbs
            unfold pN pD
            split
            · rw [Nat.gcd_comm]; exact h1
            · exact h1
          have join : ∀ (k : Int), k.natAbs = n → decide (k < 0) = nb → -4096 ≤ k → k ≤ 4096 →
              ((pN (val 4294967296 a) (val 4294967296 da) k < 2 ^ 4096 ∧ pD (val 4294967296 a) (val 4294967296 da) k < 2 ^ 4096 ∧ ∃ p q, (∀ (R : Type) (K : (Nm × Int) → Option R), rf_power.c R ((na, x, u), (nb, y, [1])) K = K (outM (pS na k) p q)) ∧ Rep (pS na k) p q (sgn (pS na k) (pN (val 4294967296 a) (val 4294967296 da) k)) (pD (val 4294967296 a) (val 4294967296 da) k)) ∨
              ((2 ^ 4096 ≤ pN (val 4294967296 a) (val 4294967296 da) k ∨ 2 ^ 4096 ≤ pD (val 4294967296 a) (val 4294967296 da) k) ∧ ∀ (R : Type) (K : (Nm × Int) → Option R), rf_power.c R ((na, x, u), (nb, y, [1])) K = K (bad 3))) →
              ∃ r, Short r ∧ (∀ (R : Type) (K : (Nm × Int) → Option R), number_Power.c R ((na, a, da), (nb, b, [1])) K = K r) ∧ (∀ (R : Type) (K : (Nm × Int) → Option R), rf_Two112.c R ((na, a, da), (nb, b, [1])) K = K r) := by
            intro k k1 k2 k3 k4 href
            have hP := Power_c ha hda ca a0 k k3 k4 b hb (fun h => by omega) (fun _ => by rw [hbl, k1])
            rw [k2] at hP
            obtain ⟨n1, n2⟩ := pN1 (A := val 4294967296 a) (B := val 4294967296 da) k (by omega) (by omega)
            rcases hP with ⟨p, q, f1, f2, f3, f4⟩ | ⟨f1, f2⟩
            · obtain ⟨e1, e2⟩ := pow_lists f2 n1 n2 (gk k)
              have b1 := (limit128 f2.lp f2.np).1 f3
              have b2 := (limit128 f2.lq f2.nq).1 f4
              have ho : outM (pS na k) p q = ((pS na k, p, q), 0) := by unfold outM; rw [if_neg (by omega)]
              rcases href with ⟨_, _, p', q', g1, g2⟩ | ⟨g1, _⟩
              · refine ⟨outM (pS na k) p q, short_out _ _ _, fun R K => by rw [f1, ho], fun R K => ?_⟩
                rw [run2, g1, outM_eq g2 f2 (by omega)]
              · rw [e1] at b1
                rw [e2] at b2
                omega
            · rcases href with ⟨g1, g2, _⟩ | ⟨_, g2⟩
              · exact absurd ⟨g1, g2⟩ f2
              · exact ⟨bad 3, short_bad 3, f1, fun R K => by rw [run2, g2]⟩
          cases nb with
          | false =>
            refine join (n : Int) (by omega) (by simp) (by omega) (by omega) ?_
            have e1 : pN (val 4294967296 a) (val 4294967296 da) (n : Int) = val 65536 x ^ n := by unfold pN; rw [if_neg (by omega), x3]; rfl
            have e2 : pD (val 4294967296 a) (val 4294967296 da) (n : Int) = val 65536 u ^ n := by unfold pD; rw [if_neg (by omega), x4]; rfl
            have e3 : pS na (n : Int) = sgnAt na n := rfl
            rw [e1, e2, e3]
            have hgo : ∀ (R : Type) (K : (Nm × Int) → Option R), rf_power.c R ((na, x, u), (false, y, [1])) K = RPow R false y (na, x, u) K := fun R K => by rw [power_go x2 x5 x6 x0 y0 hone', if_neg (by decide)]
            rcases RPow_c na false y x u hy ny y5 n (by rw [y3]; exact hn) (by omega) x2.lp x2.lq x5 x6 hA hD hgx with ⟨h1, h2, p, q, h3, h4⟩ | ⟨h1, h2⟩
            · exact .inl ⟨h1, h2, p, q, fun R K => by rw [hgo, h3], h4⟩
            · exact .inr ⟨h1, fun R K => by rw [hgo, h2]⟩
          | true =>
            refine join (-(n : Int)) (by omega) (by simp; omega) (by omega) (by omega) ?_
            have e0 : (-(n : Int)).natAbs = n := by omega
            have e1 : pN (val 4294967296 a) (val 4294967296 da) (-(n : Int)) = val 65536 u ^ n := by unfold pN; rw [if_pos (by omega), x4, e0]
            have e2 : pD (val 4294967296 a) (val 4294967296 da) (-(n : Int)) = val 65536 x ^ n := by unfold pD; rw [if_pos (by omega), x3, e0]
            have e3 : pS na (-(n : Int)) = sgnAt na n := by unfold pS sgnAt; rw [e0]
            rw [e1, e2, e3]
            have hgo : ∀ (R : Type) (K : (Nm × Int) → Option R), rf_power.c R ((na, x, u), (true, y, [1])) K = RPow R true y (na, u, x) K := fun R K => by rw [power_go x2 x5 x6 x0 y0 hone', if_pos rfl]
            rcases RPow_c na true y u x hy ny y5 n (by rw [y3]; exact hn) (by omega) x2.lq x2.lp x6 x5 hD hA (by rw [Nat.gcd_comm]; exact hgx) with ⟨h1, h2, p, q, h3, h4⟩ | ⟨h1, h2⟩
            · exact .inl ⟨h1, h2, p, q, fun R K => by rw [hgo, h3], h4⟩
            · exact .inr ⟨h1, fun R K => by rw [hgo, h2]⟩
theorem pow_step {x : Nm × Int} (h : Short x) {R : Type} (A L : Option R) : (if (x.2 == x.2) = true then (lw_same.c R ((x.1.1, x.1.2.1, x.1.2.2), (x.1.1, x.1.2.1, x.1.2.2)) fun t => (if t = true then L else A)) else A) = L := by
  rw [if_pos (by simp)]
  refine (same_self h _).trans ?_
  exact if_pos rfl
theorem power_pure (na : Bool) (a da : List Int) (nb : Bool) (b db : List Int) (ha : Lim 4294967296 a) (hda : Lim 4294967296 da) (hb : Lim 4294967296 b) (hdb : Lim 4294967296 db) {R : Type} (K : Bool → Option R) : lw_NumberPowerMatchesSpec.c R ((na, a, da), (nb, b, db)) K = K true := by
  have key : ∃ r, Short r ∧ (∀ (R : Type) (K : (Nm × Int) → Option R), number_Power.c R ((na, a, da), (nb, b, db)) K = K r) ∧ (∀ (R : Type) (K : (Nm × Int) → Option R), rf_Two112.c R ((na, a, da), (nb, b, db)) K = K r) := by
    by_cases h : wrongP na a da nb b db = 0
    · have h' := h
      unfold wrongP at h'
      by_cases h1 : fault na a da = 0
      · rw [if_pos h1] at h'
        by_cases h2 : fault nb b db = 0
        · rw [if_pos h2] at h'
          by_cases c : db = [1]
          · subst c
            exact power_same ha hda hb (can_of_fault' h1) (can_of_fault' h2)
          · rw [if_neg c] at h'; omega
        · rw [if_neg h2] at h'; exact absurd h' h2
      · rw [if_neg h1] at h'; exact absurd h' h1
    · exact ⟨_, short_bad _, fun R K => (power_bad na a da nb b db ha hda hb hdb h R K).1, fun R K => (power_bad na a da nb b db ha hda hb hdb h R K).2⟩
  obtain ⟨r, hs, h1, h2⟩ := key
  unfold lw_NumberPowerMatchesSpec.c lw_NumberPowerMatchesSpec.d
  refine (h1 R _).trans ?_
  refine (TwoP_eq _ _ _).trans ?_
  refine (h2 R _).trans ?_
  exact pow_step hs _ _
end Go.Proofs.YtemnjgkicndmjaaGreatDoor.Q
namespace Go.Proofs.YtemnjgkicndmjaaGreatDoor.Q
open Go.ChangeShapes Go.WideShapes Go.ChangeAt Go.RowKit Go.Joins Go.Proofs.YtemnjgkicndmjaaGreatDoorW.PrintWords Go.Proofs.YtemnjgkicndmjaaGreatDoorW.PrintLast Go.Proofs.YtemnjgkicndmjaaGreatDoorW.PrintMore
set_option linter.unusedVariables false
theorem laidOut : laidOutB Tryz.prog = true := by kernel_rfl
theorem own : ownKnob Tryz.prog.godebug = none := by kernel_rfl
theorem lim_of_wf {zs : List Int} (h : ∀ n ∈ zs, (Lit.int .u32 n).wf = true) : Lim 4294967296 zs := by
  intro x hx
  have h1 := h x hx
  simp only [Lit.wf, Bool.and_eq_true, decide_eq_true_eq] at h1
  have e1 : IntKind.u32.min = 0 := by decide
  have e2 : IntKind.u32.max = 4294967295 := by decide
  omega
theorem open_limbs {H : Type} {enc : TypeId × Value → H} {W : World} {n : Nat} {c : Value} {y : DataW H × List MemPlace} (h : DataW.trod enc Tryz.prog W 0 (fun _ => true) true n 22 [c] = some y) :
    ∃ (A : Option Addr) (cap : Nat) (l : List Int), c = .slice A l.length cap ∧ l.length ≤ cap ∧ Kd.C (Kd.int .u32) W A l.length l ∧ Lim 4294967296 l := by
  rcases open_ints Tryz.underlying22 Tryz.underlying73 (by kernel_rfl) h with ⟨hcs, _⟩ | ⟨x, l, cp, zs, hcs, _, hl, hm, hz, _, hcell, hwz⟩
  · simp at hcs
    exact ⟨none, 0, [], hcs, Nat.le_refl _, Kd.C_of_reads (enc := Value.int .u32) (d := (0 : Int)) ⟨rfl, by decide, fun h => absurd h (Nat.lt_irrefl _)⟩, lim_nil _⟩
  · simp at hcs
    have hz' : zs.length = cp := by simpa using hz
    have hlen : (zs.take l).length = l := by rw [List.length_take]; omega
    refine ⟨some x, cp, zs.take l, by rw [hlen]; exact hcs, by rw [hlen]; exact hl, Kd.C_of_reads (enc := Value.int .u32) (d := (0 : Int)) ⟨rfl, by rw [hlen]; unfold maxLen at hm; omega, fun _ => ⟨x, rfl, fun j hj => ?_⟩⟩, (lim_of_wf hwz).take _⟩
    rw [hlen] at hj
    rw [hcell j (by omega), List.getD_eq_getElem?_getD, List.getD_eq_getElem?_getD, List.getElem?_take, if_pos hj]
set_option maxRecDepth 100000 in
theorem open_number {H : Type} {enc : TypeId × Value → H} {W : World} {b0 : Nat} {r : Reach} {v : Value} {d : DataW H} {p : List MemPlace} (hv : Value.okWide Tryz.prog W r b0 24 v) (h : DataW.Trod enc Tryz.prog W 0 (fun _ => true) true 24 v d p) :
    ∃ (neg : Bool) (A1 : Option Addr) (c1 : Nat) (l1 : List Int) (A2 : Option Addr) (c2 : Nat) (l2 : List Int), v = .agg #[.bool neg, .slice A1 l1.length c1, .slice A2 l2.length c2] ∧
      l1.length ≤ c1 ∧ Kd.C (Kd.int .u32) W A1 l1.length l1 ∧ Lim 4294967296 l1 ∧ l2.length ≤ c2 ∧ Kd.C (Kd.int .u32) W A2 l2.length l2 ∧ Lim 4294967296 l2 := by
  obtain ⟨v0, v1, v2, y0, y1, y2, n, rfl, rfl, rfl, h0, h1, h2⟩ := open_agg3 Tryz.underlying24 (by kernel_rfl) (by kernel_rfl) hv h
  obtain ⟨b, e0, rfl⟩ := DataW.trod_bool Tryz.underlying4 h0
  obtain ⟨A1, c1, l1, rfl, i1, k1, m1⟩ := open_limbs h1
  obtain ⟨A2, c2, l2, rfl, i2, k2, m2⟩ := open_limbs h2
  simp at e0
  subst e0
  exact ⟨b, A1, c1, l1, A2, c2, l2, rfl, i1, k1, m1, i2, k2, m2⟩
def accepted : List (Nat × Nat) := [(128, 191), (160, 191), (128, 159), (144, 191), (128, 143), (0, 0), (0, 0), (0, 0), (0, 0), (0, 0), (0, 0), (0, 0), (0, 0), (0, 0), (0, 0), (0, 0)]
noncomputable def laidFirst : Array Value := (Go.Pinned.utf8FirstZ.map fun (z : Nat) => Value.int .u8 (Int.ofNat z)).toArray
noncomputable def laidRanges : Array Value := (accepted.flatMap fun (z : Nat × Nat) => [Value.int .u8 (Int.ofNat z.1), Value.int .u8 (Int.ofNat z.2)]).toArray
noncomputable def laidWorld (os : Os) : World :=
  let w0 := World.holding Tryz.prog os ⟨#[], #[], []⟩
  { w0 with heap := (w0.heap.modify 1 (fun o => match o with
      | .cells _ t frozen => .cells laidFirst t frozen
      | o => o)).modify 2 (fun o => match o with
      | .cells _ t frozen => .cells laidRanges t frozen
      | o => o) }
set_option maxRecDepth 100000 in
theorem laid_met (os : Os) (args : Array Value) : laidMet Tryz.prog [("unicode/utf8.acceptRanges", Rows.laid_unicode_utf8_acceptRanges), ("unicode/utf8.first", Rows.laid_unicode_utf8_first)] ((laidWorld os).forCall (fun _ _ => 0) ⟨#[], args, []⟩).memory :=
  laidMet_of_run' 8 (by kernel_rfl) (by kernel_rfl)
end Go.Proofs.YtemnjgkicndmjaaGreatDoor.Q
namespace Go.Proofs.YtemnjgkicndmjaaGreatDoor.Q
open Go.ChangeShapes Go.WideShapes Go.ChangeAt Go.RowKit Go.Joins Go.Proofs.YtemnjgkicndmjaaGreatDoor.E Go.Proofs.YtemnjgkicndmjaaGreatDoorW.PrintWords Go.Proofs.YtemnjgkicndmjaaGreatDoorW.PrintLast Go.Proofs.YtemnjgkicndmjaaGreatDoorW.PrintMore
set_option linter.unusedVariables false
namespace LPowerLaw
set_option maxRecDepth 100000 in
theorem contract (H : Type) (enc : TypeId × Value → H) (W : World) (base : Nat) (args : Array Value) (ds gs : List (DataW H)) (before : List MemPlace)
    (hval : ∀ (j : Nat) t v, Tryz.f7.params[j]? = some t → args[j]? = some v → Value.okWide Tryz.prog W .any base t v)
    (hW : DataW.Whole enc Tryz.prog Tryz.f7.params.toList Rows.numberPowerMatchesSpecSpec.vars false W args.toList ds gs before) :
    Calls Tryz.prog 7 args W fun e W' => ∃ v, e = .returned v ∧ Rows.numberPowerMatchesSpecSpec.post enc Tryz.prog Tryz.f7 false true false false W args v W' := by
  have hW' := hW
  obtain ⟨p, q, hA0, hV, rfl, hfz, hnd⟩ := hW
  have hA : DataW.TrodAll enc Tryz.prog W 0 (fun _ => true) true Tryz.f7.params.toList args.toList ds p := hA0
  rw [Tryz.params7] at hA hval
  obtain ⟨v0, vs0, d0, ds0, p0, q0, hargs, rfl, rfl, h0, r0⟩ := trodAll_cons hA
  obtain ⟨v1, vs1, d1, ds1, p1, q1, rfl, rfl, rfl, h1, r1⟩ := trodAll_cons r0
  obtain ⟨rfl, rfl, rfl⟩ := trodAll_nil r1
  obtain rfl : args = #[v0, v1] := by cases args; simp_all
  obtain ⟨rfl, rfl⟩ := trodVars_none hV
  have k0 := h0
  have lt0 : ∀ x ∈ p0, x.block < W.heap.size := by obtain ⟨m, hm⟩ := k0; exact DataW.trod_lt m _ _ _ hm
  obtain ⟨s0, A0, c0, a0, B0, e0, d0, rfl, i0, m0, n0, j0, l0, o0⟩ := open_number (hval 0 24 v0 rfl rfl) h0
  have k1 := h1
  have lt1 : ∀ x ∈ p1, x.block < W.heap.size := by obtain ⟨m, hm⟩ := k1; exact DataW.trod_lt m _ _ _ hm
  obtain ⟨s1, A1, c1, a1, B1, e1, d1, rfl, i1, m1, n1, j1, l1, o1⟩ := open_number (hval 1 24 v1 rfl rfl) h1
  clear hA0
  simp only [List.append_nil] at hW'
  have hx := lw_NumberPowerMatchesSpec.sh.2 ((s0, a0, d0), (s1, a1, d1)) true (power_pure s0 a0 d0 s1 a1 d1 n0 o0 n1 o1 some)
  refine (hx W (fun k => k < W.heap.size) _ (reps_cons (rep_num s0 i0 m0 j0 l0) (reps_cons (rep_num s1 i1 m1 j1 l1) reps_nil))).mono fun e W' ⟨v, he, bel, hv⟩ => ?_
  subst he
  have hv' : v = .bool true := by simpa only [Go.Proofs.YtemnjgkicndmjaaGreatDoor.E.cb, Go.Proofs.YtemnjgkicndmjaaGreatDoor.E.Rep] using hv
  subst hv'
  exact ⟨_, rfl, _, _, _, [], _, [], hW', trodAll_mk1 (shut_bool Tryz.underlying4 _), (trodAll_cons_mk (Below.trod laidOut (by kernel_rfl) (of_decide_eq_true (by kernel_rfl)) k0 bel lt0) (trodAll_cons_mk (Below.trod laidOut (by kernel_rfl) (of_decide_eq_true (by kernel_rfl)) k1 bel lt1) trodAll_mk0)), rfl, bel.frame _, fun h => by cases h⟩
theorem reads (os : Os) {H : Type} (enc : TypeId × Value → H) : ∃ places, DataW.whole enc Tryz.prog ((laidWorld os).forCall (fun _ _ => 0) ⟨#[], #[.agg #[.bool false, .slice none 0 0, .slice none 0 0], .agg #[.bool false, .slice none 0 0, .slice none 0 0]], []⟩).memory Tryz.f7.params.toList Rows.numberPowerMatchesSpecSpec.vars false #[Value.agg #[.bool false, .slice none 0 0, .slice none 0 0], .agg #[.bool false, .slice none 0 0, .slice none 0 0]].toList 8 = some ([.agg [.lit (.bool false), .nil, .nil], .agg [.lit (.bool false), .nil, .nil]], [], places) :=
  ⟨[], by kernel_rfl⟩
set_option maxRecDepth 100000 in
theorem lifted (os : Os) (started : os.Started) (H : Type) (enc : TypeId × Value → H) (F : Stop.Interp) :
    ReturnsInHanded {} Tryz.checked os 7 .any ((OpenSpec.ofChange Rows.numberPowerMatchesSpecSpec).preRow enc Tryz.prog Tryz.f7 Rows.numberPowerMatchesSpecRow.domain false Rows.numberPowerMatchesSpecRow.laid) (((OpenSpec.ofChange Rows.numberPowerMatchesSpecSpec).at F).post enc Tryz.prog Tryz.f7 false true false false) := by
  obtain ⟨places, hx⟩ := reads os enc
  refine returnsInHanded_of_row (C := Tryz.checked) (s := OpenSpec.ofChange Rows.numberPowerMatchesSpecSpec) own started (by kernel_rfl) Tryz.func7
    (witness_row_at (enc := enc) (C := Tryz.checked) false (laidWorld os) #[.agg #[.bool false, .slice none 0 0, .slice none 0 0], .agg #[.bool false, .slice none 0 0, .slice none 0 0]] rfl (by kernel_rfl) (by kernel_rfl) (by kernel_rfl)
      (OpenSpec.preRow_of_cond 8 hx (by kernel_rfl) (fun k hk => by cases hk) (by kernel_rfl) (laid_met os _))) ?_
  intro W base args ds gs before hval hW _ _ _ hL _ _
  exact contract H enc W base args ds gs before hval hW
theorem said : Rows.NumberPowerMatchesSpecSaid :=
  OpenClaim.holds_of_cond 7 Tryz.f7 rfl rfl rfl rfl rfl rfl rfl ⟨rfl, rfl, rfl, rfl, rfl⟩ rfl rfl rfl rfl rfl (by kernel_rfl) Tryz.func7 (by kernel_rfl)
    (of_decide_eq_true (by kernel_rfl)) (by unfold Func.isWrapper; first | (rw [if_pos (by decide +kernel)]; kernel_rfl) | (rw [if_neg (by decide +kernel)]; exact ⟨rfl, rfl⟩))
    (fun os started H enc _ F => by rw [OpenClaim.pre_eq_preRow]; exact lifted os started H enc F)
theorem plain (f : FuncId) (fn : Func) (hf : Tryz.pinned.checked.prog.funcNamed "fetterlock/fetterlocklaw1.NumberPowerMatchesSpec" = some f) (hfn : Tryz.pinned.checked.prog.funcs[f]? = some fn) :
    false = Tryz.pinned.checked.prog.looks [] ∧ ∀ (j : Nat) t, fn.params[j]? = some t → Tryz.pinned.checked.prog.wantsStandIn t = false := by
  obtain rfl : f = 7 := Option.some.inj ((show Tryz.prog.funcNamed "fetterlock/fetterlocklaw1.NumberPowerMatchesSpec" = some 7 by kernel_rfl).symm.trans hf) |>.symm
  obtain rfl : fn = Tryz.f7 := (Option.some.inj (Tryz.func7.symm.trans hfn)).symm
  refine ⟨by kernel_rfl, fun j t ht => ?_⟩
  rw [Tryz.params7] at ht
  have hm := Array.mem_of_getElem? ht
  obtain rfl : t = 24 := by simpa using hm
  exact (show Tryz.prog.wantsStandIn 24 = false by kernel_rfl)
theorem card : Rows.NumberPowerMatchesSpecCardSaid :=
  Claim7.holds_tied_plain_at .later [] _ _ _ _ said (fun _ h => by cases h) (by kernel_rfl) (fun _ h => by cases h) numberPowerMatchesSpec_row_tie rfl ⟨rfl, rfl⟩ (by kernel_rfl) rfl plain (by kernel_rfl)
end LPowerLaw
end Go.Proofs.YtemnjgkicndmjaaGreatDoor.Q
namespace Go.Proofs.YtemnjgkicndmjaaGreatDoor
theorem numberPowerMatchesSpec_holds : Rows.NumberPowerMatchesSpecCardSaid := Q.LPowerLaw.card
end Go.Proofs.YtemnjgkicndmjaaGreatDoor

