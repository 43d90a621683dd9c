/- What this text proves: a part of the walk and of the plain laws of one card; no conditions. -/
import Derived.Test.YtemnjgkicndmjaaGreatDoorQb3
namespace Go.Proofs.YtemnjgkicndmjaaGreatDoor.Q
open Go.RowKit Go.Proofs.YtemnjgkicndmjaaGreatDoor.E Go.Proofs.YtemnjgkicndmjaaGreatDoorW.PrintWords Go.Proofs.YtemnjgkicndmjaaGreatDoorW.PrintLast Go.Proofs.YtemnjgkicndmjaaGreatDoorW.PrintMore
set_option linter.unusedVariables false
theorem mixed : Tryz.prog.follows .mixedOrders = true := by kernel_rfl
noncomputable def number_Check.c : (R : Type) → (Nm) → ((Int) → Option R) → Option R := fun R a => lm (fun (a : Nm) k => number_Check.f k a.1 a.2.1 a.2.2) R a
theorem number_Check.pc (a : Nm) (b : Int) (k : Nat) (h : number_Check.f k a.1 a.2.1 a.2.2 = some b) : PureC Tryz.prog 52 ((one kN).enc a) (iI.enc b) := by
  intro w P0 vs hr
  obtain ⟨x0, x1, x2⟩ := a
  obtain ⟨d0, u0, e0, hg0, hr⟩ := at_agg hr
  obtain ⟨u1, e1, hg0⟩ := at_bool hg0
  obtain ⟨A2, c2, u2, e2, hc2, hf2, hg0⟩ := at_row hg0
  obtain ⟨A3, c3, u3, e3, hc3, hf3, hg0⟩ := at_row hg0
  have z := at_nil hg0
  subst z
  subst e3
  subst e2
  have q4 := e1
  obtain rfl : d0 = #[.bool x0, .slice A2 x1.length c2, .slice A3 x2.length c3] := Array.toList_inj.1 (by simpa using q4)
  have z := at_nil hr
  subst z
  have q5 := e0
  obtain rfl : vs = #[.agg #[.bool x0, .slice A2 x1.length c2, .slice A3 x2.length c3]] := Array.toList_inj.1 (by simpa using q5)
  refine Calls.mono (number_Check.calls k x0 A2 c2 x1 A3 c3 x2 b w (now hf2) hc2 (now hf3) hc3 h) fun e w' he => ?_
  obtain ⟨rfl, hb⟩ := he
  exact ⟨_, rfl, hb, (show E.Rep _ _ _ _ _ from by simp only [iI, ci, E.Rep])⟩
theorem number_Check.ok : FunOk Tryz.prog 52 (mk (one kN) iI number_Check.c) := lm_ok (by kernel_rfl) number_Check.pc
theorem number_Check.eq {x0 : Bool} {x1 : List Int} {x2 : List Int} {b : Int} (h : Ev (fun k => number_Check.f k x0 x1 x2) b) {R : Type} (K : (Int) → Option R) : number_Check.c R (x0, x1, x2) K = K b := lm_ev (g := fun (a : Nm) k => number_Check.f k a.1 a.2.1 a.2.2) (a := (x0, x1, x2)) h K
theorem nat_Mul.pc (a : List Int × List Int) (b : List Int) (k : Nat) (h : nat_Mul.f k a.1 a.2 = some b) : PureC Tryz.prog 30 ((more rU (one rU)).enc a) (rU.enc b) := by
  intro w P0 vs hr
  obtain ⟨x0, x1⟩ := a
  obtain ⟨A0, c0, u0, e0, hc0, hf0, hr⟩ := at_row hr
  obtain ⟨A1, c1, u1, e1, hc1, hf1, hr⟩ := at_row hr
  have z := at_nil hr
  subst z
  subst e1
  have q2 := e0
  obtain rfl : vs = #[.slice A0 x0.length c0, .slice A1 x1.length c1] := Array.toList_inj.1 (by simpa using q2)
  refine Calls.mono (nat_Mul.calls k A0 c0 x0 A1 c1 x1 b w (now hf0) hc0 (now hf1) hc1 h) fun e w' he => ?_
  obtain ⟨v0_, rfl, hv0, hb⟩ := he
  exact ⟨_, rfl, hb, (V_row hv0 fun n hn => .inr hn)⟩
theorem nat_plus.pc (a : List Int × List Int) (b : List Int) (k : Nat) (h : nat_plus.f k a.1 a.2 = some b) : PureC Tryz.prog 90 ((more rU (one rU)).enc a) (rU.enc b) := by
  intro w P0 vs hr
  obtain ⟨x0, x1⟩ := a
  obtain ⟨A0, c0, u0, e0, hc0, hf0, hr⟩ := at_row hr
  obtain ⟨A1, c1, u1, e1, hc1, hf1, hr⟩ := at_row hr
  have z := at_nil hr
  subst z
  subst e1
  have q2 := e0
  obtain rfl : vs = #[.slice A0 x0.length c0, .slice A1 x1.length c1] := Array.toList_inj.1 (by simpa using q2)
  refine Calls.mono (nat_plus.calls k A0 c0 x0 A1 c1 x1 b w (now hf0) hc0 (now hf1) hc1 h) fun e w' he => ?_
  obtain ⟨v0_, rfl, hv0, hb⟩ := he
  exact ⟨_, rfl, hb, (V_row hv0 fun n hn => .inr hn)⟩
theorem nat_Compare.pc (a : List Int × List Int) (b : Int) (k : Nat) (h : nat_Compare.f k a.1 a.2 = some b) : PureC Tryz.prog 67 ((more rU (one rU)).enc a) (iI.enc b) := by
  intro w P0 vs hr
  obtain ⟨x0, x1⟩ := a
  obtain ⟨A0, c0, u0, e0, hc0, hf0, hr⟩ := at_row hr
  obtain ⟨A1, c1, u1, e1, hc1, hf1, hr⟩ := at_row hr
  have z := at_nil hr
  subst z
  subst e1
  have q2 := e0
  obtain rfl : vs = #[.slice A0 x0.length c0, .slice A1 x1.length c1] := Array.toList_inj.1 (by simpa using q2)
  refine Calls.mono (nat_Compare.calls k A0 c0 x0 A1 c1 x1 b w (now hf0) hc0 (now hf1) hc1 h) fun e w' he => ?_
  obtain ⟨rfl, hb⟩ := he
  exact ⟨_, rfl, hb.below, (show E.Rep _ _ _ _ _ from by simp only [iI, ci, E.Rep])⟩
theorem nat_Sub.pc (a : List Int × List Int) (b : List Int) (k : Nat) (h : nat_Sub.f k a.1 a.2 = some b) : PureC Tryz.prog 68 ((more rU (one rU)).enc a) (rU.enc b) := by
  intro w P0 vs hr
  obtain ⟨x0, x1⟩ := a
  obtain ⟨A0, c0, u0, e0, hc0, hf0, hr⟩ := at_row hr
  obtain ⟨A1, c1, u1, e1, hc1, hf1, hr⟩ := at_row hr
  have z := at_nil hr
  subst z
  subst e1
  have q2 := e0
  obtain rfl : vs = #[.slice A0 x0.length c0, .slice A1 x1.length c1] := Array.toList_inj.1 (by simpa using q2)
  refine Calls.mono (nat_Sub.calls k A0 c0 x0 A1 c1 x1 b w (now hf0) hc0 (now hf1) hc1 h) fun e w' he => ?_
  obtain ⟨v0_, rfl, hv0, hb⟩ := he
  exact ⟨_, rfl, hb, (V_row hv0 fun n hn => .inr hn)⟩
noncomputable def nat_Gcd.c : (R : Type) → (List Int × List Int) → ((List Int) → Option R) → Option R := fun R a => lm (fun (a : List Int × List Int) k => nat_Gcd.f k a.1 a.2) R a
theorem nat_Gcd.pc (a : List Int × List Int) (b : List Int) (k : Nat) (h : nat_Gcd.f k a.1 a.2 = some b) : PureC Tryz.prog 51 ((more rU (one rU)).enc a) (rU.enc b) := by
  intro w P0 vs hr
  obtain ⟨x0, x1⟩ := a
  obtain ⟨A0, c0, u0, e0, hc0, hf0, hr⟩ := at_row hr
  obtain ⟨A1, c1, u1, e1, hc1, hf1, hr⟩ := at_row hr
  have z := at_nil hr
  subst z
  subst e1
  have q2 := e0
  obtain rfl : vs = #[.slice A0 x0.length c0, .slice A1 x1.length c1] := Array.toList_inj.1 (by simpa using q2)
  refine Calls.mono (nat_Gcd.calls k P0 A0 c0 x0 P0 A1 c1 x1 b w (rowV hf0 hc0) (rowV hf1 hc1) h) fun e w' he => ?_
  obtain ⟨v0_, rfl, hv0, hb⟩ := he
  exact ⟨_, rfl, hb, (R_new hv0 fun n hn => .inr hn)⟩
theorem nat_Gcd.ok : FunOk Tryz.prog 51 (mk (more rU (one rU)) rU nat_Gcd.c) := lm_ok (by kernel_rfl) nat_Gcd.pc
theorem nat_Gcd.eq {x0 : List Int} {x1 : List Int} {b : List Int} (h : Ev (fun k => nat_Gcd.f k x0 x1) b) {R : Type} (K : (List Int) → Option R) : nat_Gcd.c R (x0, x1) K = K b := lm_ev (g := fun (a : List Int × List Int) k => nat_Gcd.f k a.1 a.2) (a := (x0, x1)) h K
noncomputable def nat_DivMod.c : (R : Type) → (List Int × List Int) → (((List Int × List Int)) → Option R) → Option R := fun R a => lm (fun (a : List Int × List Int) k => nat_DivMod.f k a.1 a.2) R a
theorem nat_DivMod.pc (a : List Int × List Int) (b : (List Int × List Int)) (k : Nat) (h : nat_DivMod.f k a.1 a.2 = some b) : PureC Tryz.prog 66 ((more rU (one rU)).enc a) ((tup (more rU (one rU))).enc b) := by
  intro w P0 vs hr
  obtain ⟨x0, x1⟩ := a
  obtain ⟨r0, r1⟩ := b
  obtain ⟨A0, c0, u0, e0, hc0, hf0, hr⟩ := at_row hr
  obtain ⟨A1, c1, u1, e1, hc1, hf1, hr⟩ := at_row hr
  have z := at_nil hr
  subst z
  subst e1
  have q2 := e0
  obtain rfl : vs = #[.slice A0 x0.length c0, .slice A1 x1.length c1] := Array.toList_inj.1 (by simpa using q2)
  refine Calls.mono (nat_DivMod.calls k A0 c0 x0 A1 c1 x1 r0 r1 w (now hf0) hc0 (now hf1) hc1 h) fun e w' he => ?_
  obtain ⟨v0_, v1_, rfl, hv0, hv1, hb⟩ := he
  exact ⟨_, rfl, hb, (rep_tup2 (V_row hv0 fun n hn => .inr hn) (V_row hv1 fun n hn => .inr hn))⟩
theorem nat_DivMod.ok : FunOk Tryz.prog 66 (mk (more rU (one rU)) (tup (more rU (one rU))) nat_DivMod.c) := lm_ok (by kernel_rfl) nat_DivMod.pc
theorem nat_DivMod.eq {x0 : List Int} {x1 : List Int} {b : (List Int × List Int)} (h : Ev (fun k => nat_DivMod.f k x0 x1) b) {R : Type} (K : ((List Int × List Int)) → Option R) : nat_DivMod.c R (x0, x1) K = K b := lm_ev (g := fun (a : List Int × List Int) k => nat_DivMod.f k a.1 a.2) (a := (x0, x1)) h K
def nat_IsOne.c : (R : Type) → (List Int) → ((Bool) → Option R) → Option R := fun R a => at' (fun (a : List Int) => nat_IsOne.f a) R a
theorem nat_IsOne.pc (a : List Int) (b : Bool) (h : nat_IsOne.f a = some b) : PureC Tryz.prog 64 ((one rU).enc a) (cb.enc b) := by
  intro w P0 vs hr
  obtain ⟨A0, c0, u0, e0, hc0, hf0, hr⟩ := at_row hr
  have z := at_nil hr
  subst z
  have q1 := e0
  obtain rfl : vs = #[.slice A0 a.length c0] := Array.toList_inj.1 (by simpa using q1)
  refine Calls.mono (nat_IsOne.calls A0 c0 a b w (now hf0) hc0 h) fun e w' he => ?_
  obtain ⟨rfl, hb⟩ := he
  exact ⟨_, rfl, hb.below, (show E.Rep _ _ _ _ _ from by simp only [cb, E.Rep])⟩
theorem nat_IsOne.ok : FunOk Tryz.prog 64 (mk (one rU) cb nat_IsOne.c) := at_ok (by kernel_rfl) nat_IsOne.pc
theorem nat_IsOne.eq {x0 : List Int} {b : Bool} (h : nat_IsOne.f x0 = some b) {R : Type} (K : (Bool) → Option R) : nat_IsOne.c R x0 K = K b := at_eq (g := fun (a : List Int) => nat_IsOne.f a) (a := x0) h K
def slices_Clone_uint32_uint32.c : (R : Type) → (List Int) → ((List Int) → Option R) → Option R := fun R a => at' (fun (a : List Int) => slices_Clone_uint32_uint32.f a) R a
theorem slices_Clone_uint32_uint32.pc (a : List Int) (b : List Int) (h : slices_Clone_uint32_uint32.f a = some b) : PureC Tryz.prog 88 ((one rU).enc a) (rU.enc b) := by
  intro w P0 vs hr
  obtain ⟨A0, c0, u0, e0, hc0, hf0, hr⟩ := at_row hr
  have z := at_nil hr
  subst z
  have q1 := e0
  obtain rfl : vs = #[.slice A0 a.length c0] := Array.toList_inj.1 (by simpa using q1)
  refine Calls.mono (slices_Clone_uint32_uint32.calls A0 c0 a b w (now hf0) hc0 h) fun e w' he => ?_
  obtain ⟨v0_, rfl, hv0, hb⟩ := he
  exact ⟨_, rfl, hb, (R_new hv0 fun n hn => .inr hn)⟩
theorem slices_Clone_uint32_uint32.ok : FunOk Tryz.prog 88 (mk (one rU) rU slices_Clone_uint32_uint32.c) := at_ok (by kernel_rfl) slices_Clone_uint32_uint32.pc
theorem slices_Clone_uint32_uint32.eq {x0 : List Int} {b : List Int} (h : slices_Clone_uint32_uint32.f x0 = some b) {R : Type} (K : (List Int) → Option R) : slices_Clone_uint32_uint32.c R x0 K = K b := at_eq (g := fun (a : List Int) => slices_Clone_uint32_uint32.f a) (a := x0) h K
noncomputable def number_check2.d (g52 : CF (Nm) (Int)) (R : Type) (a : (Bool × List Int × List Int × Bool × List Int × List Int)) (K : (Int) → Option R) : Option R :=
  (g52 _ (a.1, a.2.1, a.2.2.1) fun t1 => (if (t1 != (0 : Int)) = true then K t1 else (g52 _ (a.2.2.2.1, a.2.2.2.2.1, a.2.2.2.2.2) fun t2 => (if (t2 != (0 : Int)) = true then K t2 else K (0 : Int)))))
noncomputable abbrev number_check2.c (R : Type) (a : (Bool × List Int × List Int × Bool × List Int × List Int)) (K : (Int) → Option R) : Option R := number_check2.d number_Check.c R a K
noncomputable def number_check2.T (g52 : CF (Nm) (Int)) : List (Nat × Tf) := [(52, .pure (mk (one kN) iI g52))]
theorem number_check2.tok : TOk Tryz.prog (tt (number_check2.T number_Check.c)) := (tt_cons number_Check.ok tt_nil)
set_option maxRecDepth 100000 in
theorem number_check2.ex0 (g52 : CF (Nm) (Int)) (R : Type) (a : (Bool × List Int × List Int × Bool × List Int × List Int)) (K : (Int) → Option R) : execFn' Tryz.prog (tt (number_check2.T g52)) (lt []) 60 Tryz.f48 R ((one (arr 3 (more cb (more rU (more rU (more cb (more rU (one rU)))))))).enc a) (dk iI K) = number_check2.d g52 R a K := by kernel_rfl
theorem number_check2.sh : Shown Tryz.prog 48 (one (arr 3 (more cb (more rU (more rU (more cb (more rU (one rU)))))))).enc iI number_check2.c := exec_shown number_check2.tok mixed Tryz.func48 (by kernel_rfl) (number_check2.ex0 number_Check.c)
theorem number_check2.ok : FunOk Tryz.prog 48 (mk (one (arr 3 (more cb (more rU (more rU (more cb (more rU (one rU)))))))) iI number_check2.c) := number_check2.sh.ok (by kernel_rfl)
noncomputable def number_fits.d (R : Type) (a : Nm) (K : ((Nm × Int)) → Option R) : Option R :=
  (if (decide ((a.2.1.length : Int) > (128 : Int))) = false then (if (decide ((a.2.2.length : Int) > (128 : Int))) = true then K ((false, ([] : List Int), ([] : List Int)), (3 : Int)) else K ((a.1, a.2.1, a.2.2), (0 : Int))) else K ((false, ([] : List Int), ([] : List Int)), (3 : Int)))
noncomputable abbrev number_fits.c (R : Type) (a : Nm) (K : ((Nm × Int)) → Option R) : Option R := number_fits.d R a K
noncomputable def number_fits.T : List (Nat × Tf) := []
theorem number_fits.tok : TOk Tryz.prog (tt (number_fits.T)) := tt_nil
set_option maxRecDepth 100000 in
theorem number_fits.ex0 (R : Type) (a : Nm) (K : ((Nm × Int)) → Option R) : execFn' Tryz.prog (tt (number_fits.T)) (lt []) 60 Tryz.f87 R ((one kN).enc a) (dk kE K) = number_fits.d R a K := by kernel_rfl
theorem number_fits.sh : Shown Tryz.prog 87 (one kN).enc kE number_fits.c := exec_shown number_fits.tok mixed Tryz.func87 (by kernel_rfl) (number_fits.ex0)
theorem number_fits.ok : FunOk Tryz.prog 87 (mk (one kN) kE number_fits.c) := number_fits.sh.ok (by kernel_rfl)
noncomputable def number_raw.d (g64 : CF (List Int) (Bool)) (g51 : CF (List Int × List Int) (List Int)) (g66 : CF (List Int × List Int) ((List Int × List Int))) (g88 : CF (List Int) (List Int)) (R : Type) (a : Bool × List Int × List Int) (K : (Nm) → Option R) : Option R :=
  (if ((a.2.1.length : Int) == (0 : Int)) = true then K (false, ([] : List Int), ([(1 : Int)] : List Int)) else (g64 _ a.2.2 fun t1 => (if (!t1) = true then (g51 _ (a.2.1, a.2.2) fun t2 => (g64 _ t2 fun t3 => (if (!t3) = true then (g66 _ (a.2.1, t2) fun t4 => (g66 _ (a.2.2, t2) fun t5 => (g88 _ t4.1 fun t6 => (g88 _ t5.1 fun t7 => K (a.1, t6, t7))))) else (g88 _ a.2.1 fun t8 => (g88 _ a.2.2 fun t9 => K (a.1, t8, t9)))))) else (g88 _ a.2.1 fun t10 => (g88 _ a.2.2 fun t11 => K (a.1, t10, t11))))))
noncomputable abbrev number_raw.c (R : Type) (a : Bool × List Int × List Int) (K : (Nm) → Option R) : Option R := number_raw.d nat_IsOne.c nat_Gcd.c nat_DivMod.c slices_Clone_uint32_uint32.c R a K
noncomputable def number_raw.T (g64 : CF (List Int) (Bool)) (g51 : CF (List Int × List Int) (List Int)) (g66 : CF (List Int × List Int) ((List Int × List Int))) (g88 : CF (List Int) (List Int)) : List (Nat × Tf) := [(51, .pure (mk (more rU (one rU)) rU g51)), (64, .pure (mk (one rU) cb g64)), (66, .pure (mk (more rU (one rU)) (tup (more rU (one rU))) g66)), (88, .pure (mk (one rU) rU g88))]
theorem number_raw.tok : TOk Tryz.prog (tt (number_raw.T nat_IsOne.c nat_Gcd.c nat_DivMod.c slices_Clone_uint32_uint32.c)) := (tt_cons nat_Gcd.ok (tt_cons nat_IsOne.ok (tt_cons nat_DivMod.ok (tt_cons slices_Clone_uint32_uint32.ok tt_nil))))
set_option maxRecDepth 100000 in
theorem number_raw.ex0 (g64 : CF (List Int) (Bool)) (g51 : CF (List Int × List Int) (List Int)) (g66 : CF (List Int × List Int) ((List Int × List Int))) (g88 : CF (List Int) (List Int)) (R : Type) (a : Bool × List Int × List Int) (K : (Nm) → Option R) : execFn' Tryz.prog (tt (number_raw.T g64 g51 g66 g88)) (lt []) 60 Tryz.f53 R ((more cb (more rU (one rU))).enc a) (dk kN K) = number_raw.d g64 g51 g66 g88 R a K := by kernel_rfl
theorem number_raw.sh : Shown Tryz.prog 53 (more cb (more rU (one rU))).enc kN number_raw.c := exec_shown number_raw.tok mixed Tryz.func53 (by kernel_rfl) (number_raw.ex0 nat_IsOne.c nat_Gcd.c nat_DivMod.c slices_Clone_uint32_uint32.c)
theorem number_raw.ok : FunOk Tryz.prog 53 (mk (more cb (more rU (one rU))) kN number_raw.c) := number_raw.sh.ok (by kernel_rfl)
noncomputable def number_made.d (g53 : CF (Bool × List Int × List Int) (Nm)) (g87 : CF (Nm) ((Nm × Int))) (R : Type) (a : Bool × List Int × List Int) (K : ((Nm × Int)) → Option R) : Option R :=
  (g53 _ (a.1, a.2.1, a.2.2) fun t1 => (g87 _ (t1.1, t1.2.1, t1.2.2) fun t2 => K ((t2.1.1, t2.1.2.1, t2.1.2.2), t2.2)))
noncomputable abbrev number_made.c (R : Type) (a : Bool × List Int × List Int) (K : ((Nm × Int)) → Option R) : Option R := number_made.d number_raw.c number_fits.c R a K
noncomputable def number_made.T (g53 : CF (Bool × List Int × List Int) (Nm)) (g87 : CF (Nm) ((Nm × Int))) : List (Nat × Tf) := [(53, .pure (mk (more cb (more rU (one rU))) kN g53)), (87, .pure (mk (one kN) kE g87))]
theorem number_made.tok : TOk Tryz.prog (tt (number_made.T number_raw.c number_fits.c)) := (tt_cons number_raw.ok (tt_cons number_fits.ok tt_nil))
set_option maxRecDepth 100000 in
theorem number_made.ex0 (g53 : CF (Bool × List Int × List Int) (Nm)) (g87 : CF (Nm) ((Nm × Int))) (R : Type) (a : Bool × List Int × List Int) (K : ((Nm × Int)) → Option R) : execFn' Tryz.prog (tt (number_made.T g53 g87)) (lt []) 60 Tryz.f49 R ((more cb (more rU (one rU))).enc a) (dk kE K) = number_made.d g53 g87 R a K := by kernel_rfl
theorem number_made.sh : Shown Tryz.prog 49 (more cb (more rU (one rU))).enc kE number_made.c := exec_shown number_made.tok mixed Tryz.func49 (by kernel_rfl) (number_made.ex0 number_raw.c number_fits.c)
theorem number_made.ok : FunOk Tryz.prog 49 (mk (more cb (more rU (one rU))) kE number_made.c) := number_made.sh.ok (by kernel_rfl)
end Go.Proofs.YtemnjgkicndmjaaGreatDoor.Q
namespace Go.Proofs.YtemnjgkicndmjaaGreatDoor.Q
open Go.RowKit Go.Proofs.YtemnjgkicndmjaaGreatDoorW.PrintWords Go.Proofs.YtemnjgkicndmjaaGreatDoorW.PrintLast Go.Proofs.YtemnjgkicndmjaaGreatDoorW.PrintMore
set_option linter.unusedVariables false
theorem can_of_fault' {neg : Bool} {num den : List Int} (h : fault neg num den = 0) : Can neg num den := by
  unfold fault at h
  by_cases c : num.length > 128 ∨ den.length > 128
  · rw [if_pos c] at h; omega
  · rw [if_neg c] at h
    by_cases d : Can neg num den
    · exact d
    · rw [if_neg d] at h; omega
theorem cmpI_eq {x y : Int} : cmpI x y = 0 ↔ x = y := by unfold cmpI; split <;> (try split) <;> omega
def sgn (n : Bool) (v : Int) : Int := if n = true then -v else v
theorem Can.pos {neg : Bool} {num den : List Int} (h : Can neg num den) (hd : Lim 4294967296 den) : 0 < val 4294967296 den := val_pos (by decide) hd h.nd h.d0
theorem nat_frac {p q r s : Nat} (h1 : Nat.gcd p q = 1) (h2 : Nat.gcd r s = 1) (hq : 0 < q) (hs : 0 < s) (h : p * s = r * q) : p = r ∧ q = s := by
  have d1 : q ∣ s := (Nat.Coprime.dvd_of_dvd_mul_left (show Nat.Coprime q p by rw [Nat.Coprime, Nat.gcd_comm]; exact h1) ⟨r, by rw [h, Nat.mul_comm]⟩)
  have d2 : s ∣ q := (Nat.Coprime.dvd_of_dvd_mul_left (show Nat.Coprime s r by rw [Nat.Coprime, Nat.gcd_comm]; exact h2) ⟨p, by rw [← h, Nat.mul_comm]⟩)
  have e : q = s := Nat.dvd_antisymm d1 d2
  subst e
  exact ⟨Nat.eq_of_mul_eq_mul_right hq h, rfl⟩
structure Rp (B : Int) (neg : Bool) (p q : List Int) (N D : Int) : Prop where
  lp : Lim B p
  np : Nrm p
  lq : Lim B q
  nq : Nrm q
  q0 : q ≠ []
  gc : Nat.gcd (val B p).toNat (val B q).toNat = 1
  ng : p = [] → neg = false
  eq : sgn neg (val B p) * D = N * val B q
theorem Rp.pos {B : Int} (hB : 0 < B) {neg : Bool} {p q : List Int} {N D : Int} (h : Rp B neg p q N D) : 0 < val B q := val_pos hB h.lq h.nq h.q0
theorem Rp.negpos {B : Int} (hB : 0 < B) {neg : Bool} {p q : List Int} {N D : Int} (h : Rp B neg p q N D) (e : neg = true) : 0 < val B p :=
  val_pos hB h.lp h.np (fun h0 => by rw [h.ng h0] at e; cases e)
theorem Rp.unique {B : Int} (hB : 0 < B) {neg neg' : Bool} {p q p' q' : List Int} {N D : Int} (h : Rp B neg p q N D) (h' : Rp B neg' p' q' N D) (hD : D ≠ 0) : neg = neg' ∧ p = p' ∧ q = q' := by
  have v0 := val_nonneg hB h.lp
  have v0' := val_nonneg hB h'.lp
  have w0 := (h.pos hB)
  have w0' := (h'.pos hB)
  have e : sgn neg (val B p) * val B q' = sgn neg' (val B p') * val B q := by
    have h1 := h.eq
    have h2 := h'.eq
    refine Int.eq_of_mul_eq_mul_right hD ?_
    generalize sgn neg (val B p) = s at *
    generalize sgn neg' (val B p') = s' at *
    generalize val B q = v at *
    generalize val B q' = v' at *
    have h3 : s * D * v' = N * v * v' := by rw [h1]
    have h4 : s' * D * v = N * v' * v := by rw [h2]
    grind
  have hn : neg = neg' := by
    cases hn : neg with
    | true =>
      cases hn' : neg' with
      | true => rfl
      | false =>
        have a1 := h.negpos hB hn
        rw [hn, hn'] at e
        unfold sgn at e
        rw [if_pos rfl, if_neg (by decide), Int.neg_mul] at e
        have a2 : 0 < val B p * val B q' := Int.mul_pos a1 w0'
        have a3 : 0 ≤ val B p' * val B q := Int.mul_nonneg v0' (by omega)
        omega
    | false =>
      cases hn' : neg' with
      | false => rfl
      | true =>
        have a1 := h'.negpos hB hn'
        rw [hn, hn'] at e
        unfold sgn at e
        rw [if_pos rfl, if_neg (by decide), Int.neg_mul] at e
        have a2 : 0 < val B p' * val B q := Int.mul_pos a1 w0
        have a3 : 0 ≤ val B p * val B q' := Int.mul_nonneg v0 (by omega)
        omega
  subst hn
  have e2 : val B p * val B q' = val B p' * val B q := by
    unfold sgn at e
    cases neg with
    | true => rw [if_pos rfl, if_pos rfl, Int.neg_mul, Int.neg_mul] at e; omega
    | false => rw [if_neg (by decide), if_neg (by decide)] at e; exact e
  have e3 : (val B p).toNat * (val B q').toNat = (val B p').toNat * (val B q).toNat := by
    rw [← Int.toNat_mul v0 (by omega), ← Int.toNat_mul v0' (by omega), e2]
  obtain ⟨e4, e5⟩ := nat_frac h.gc h'.gc (by omega) (by omega) e3
  exact ⟨rfl, val_inj hB h.lp h'.lp h.np h'.np (by omega), val_inj hB h.lq h'.lq h.nq h'.nq (by omega)⟩
theorem toNat_div {x : Int} (h : 0 ≤ x) (g : Nat) : (x / (g : Int)).toNat = x.toNat / g := by
  obtain ⟨A, rfl⟩ := Int.eq_ofNat_of_zero_le h
  rw [← Int.natCast_ediv, Int.toNat_natCast, Int.toNat_natCast]
theorem Rp.made {B : Int} (hB : 0 < B) {neg : Bool} {a b p q : List Int} {g : Nat} (ha : Lim B a) (hb : Lim B b) (nb : Nrm b) (b0 : b ≠ []) (p1 : Lim B p) (p2 : Nrm p) (q1 : Lim B q) (q2 : Nrm q)
    (hg : g = Nat.gcd (val B a).toNat (val B b).toNat) (p3 : val B p = val B a / (g : Int)) (q3 : val B q = val B b / (g : Int)) : Rp B (neg && decide (p ≠ [])) p q (sgn neg (val B a)) (val B b) := by
  have va := val_nonneg hB ha
  have vb := val_pos hB hb nb b0
  have g0 : 0 < g := by rw [hg]; exact Nat.gcd_pos_of_pos_right _ (by omega)
  have d1 : (g : Int) ∣ val B a := by
    have : g ∣ (val B a).toNat := by rw [hg]; exact Nat.gcd_dvd_left _ _
    have := Int.ofNat_dvd.2 this
    rwa [Int.toNat_of_nonneg va] at this
  have d2 : (g : Int) ∣ val B b := by
    have : g ∣ (val B b).toNat := by rw [hg]; exact Nat.gcd_dvd_right _ _
    have := Int.ofNat_dvd.2 this
    rwa [Int.toNat_of_nonneg (by omega)] at this
  have ea : val B p * g = val B a := by rw [p3]; exact Int.ediv_mul_cancel d1
  have eb : val B q * g = val B b := by rw [q3]; exact Int.ediv_mul_cancel d2
  have hq0 : q ≠ [] := by
    rintro rfl
    have : val B [] = 0 := rfl
    rw [this, Int.zero_mul] at eb
    omega
  refine ⟨p1, p2, q1, q2, hq0, ?_, fun h => by simp [h], ?_⟩
  · have hp : (val B p).toNat = (val B a).toNat / g := by rw [p3]; exact toNat_div va g
    have hq : (val B q).toNat = (val B b).toNat / g := by rw [q3]; exact toNat_div (by omega) g
    rw [hp, hq, hg]
    exact Nat.coprime_div_gcd_div_gcd (by rw [← hg]; exact g0)
  · have hs : sgn (neg && decide (p ≠ [])) (val B p) = sgn neg (val B p) := by
      by_cases c : p = []
      · subst c
        have : val B [] = 0 := rfl
        rw [this]
        unfold sgn
        cases neg <;> simp
      · simp [c]
    rw [hs, ← ea, ← eb]
    unfold sgn
    cases neg with
    | true => rw [if_pos rfl, if_pos rfl]; generalize val B p = x; generalize val B q = y; grind
    | false => rw [if_neg (by decide), if_neg (by decide)]; generalize val B p = x; generalize val B q = y; grind
theorem sgn_mul_r (m : Bool) (x y : Int) : sgn m (x * y) = sgn m x * y := by
  unfold sgn
  cases m <;> simp [Int.neg_mul]
def outM (neg : Bool) (p q : List Int) : (Bool × List Int × List Int) × Int := if p.length > 128 ∨ q.length > 128 then ((false, [], []), 3) else ((neg, p, q), 0)
abbrev Rep := Rp 4294967296
end Go.Proofs.YtemnjgkicndmjaaGreatDoor.Q
namespace Go.Proofs.YtemnjgkicndmjaaGreatDoor.Q
open Go.RowKit Go.Proofs.YtemnjgkicndmjaaGreatDoor.E Go.Proofs.YtemnjgkicndmjaaGreatDoorW.PrintWords Go.Proofs.YtemnjgkicndmjaaGreatDoorW.PrintLast Go.Proofs.YtemnjgkicndmjaaGreatDoorW.PrintMore
set_option linter.unusedVariables false
theorem clone_c (a : List Int) (h : a.length ≤ 1099511627776) {R : Type} (K : List Int → Option R) : slices_Clone_uint32_uint32.c R a K = K a :=
  slices_Clone_uint32_uint32.eq (by unfold slices_Clone_uint32_uint32.f; rw [if_pos (by omega)]) K
theorem isone_c (a : List Int) {R : Type} (K : Bool → Option R) : nat_IsOne.c R a K = K (decide (a = [1])) := nat_IsOne.eq (IsOne_eq a) K
theorem raw_c (neg : Bool) (a b : List Int) (ha : Lim 4294967296 a) (na : Nrm a) (hb : Lim 4294967296 b) (nb : Nrm b) (b0 : b ≠ []) (la : a.length ≤ 1048575) (lb : b.length ≤ 1048575) :
    ∃ p q, (∀ (R : Type) (K : (Bool × List Int × List Int) → Option R), number_raw.c R (neg, a, b) K = K (neg && decide (p ≠ []), p, q)) ∧ Lim 4294967296 p ∧ Nrm p ∧ Lim 4294967296 q ∧ Nrm q ∧
      val 4294967296 p = val 4294967296 a / (Nat.gcd (val 4294967296 a).toNat (val 4294967296 b).toNat : Nat) ∧ val 4294967296 q = val 4294967296 b / (Nat.gcd (val 4294967296 a).toNat (val 4294967296 b).toNat : Nat) := by
  have hB : (0 : Int) < 4294967296 := by decide
  have pb := val_pos hB hb nb b0
  have pa := val_nonneg hB ha
  by_cases h0 : a = []
  · subst h0
    refine ⟨[], [1], fun R K => ?_, lim_nil _, nrm_nil, one_lim (by decide), one_nrm, ?_, ?_⟩
    · unfold number_raw.c number_raw.d; simp
    · rw [show val 4294967296 [] = 0 from rfl, Int.zero_ediv]
    · have h2 : (val 4294967296 []).toNat = 0 := rfl
      rw [h2, Nat.gcd_zero_left, val_one, Int.toNat_of_nonneg (by omega), Int.ediv_self (by omega)]
  · have hl : ¬ ((a.length : Int) == 0) = true := by
      have : a.length ≠ 0 := fun h' => h0 (List.length_eq_zero_iff.1 h')
      simp; exact h0
    have hn : (neg && decide (a ≠ [])) = neg := by simp [h0]
    by_cases c : b = [1]
    · refine ⟨a, b, fun R K => ?_, ha, na, hb, nb, ?_, ?_⟩
      · rw [hn]
        unfold number_raw.c number_raw.d
        refine (if_neg hl).trans ((isone_c b _).trans ((if_neg (by simp [c])).trans ((clone_c a (by omega) _).trans (clone_c b (by omega) _))))
      · rw [c, val_one]
        have h2 : (1 : Int).toNat = 1 := rfl
        rw [h2, Nat.gcd_one_right]; simp
      · rw [c, val_one]
        have h2 : (1 : Int).toNat = 1 := rfl
        rw [h2, Nat.gcd_one_right]; simp
    · obtain ⟨g, g1, g2, g3, g4⟩ := Gcd_ev a b ha hb na nb (by omega) (by omega)
      by_cases c2 : g = [1]
      · subst c2
        rw [val_one] at g4
        refine ⟨a, b, fun R K => ?_, ha, na, hb, nb, by rw [← g4, Int.ediv_one], by rw [← g4, Int.ediv_one]⟩
        rw [hn]
        unfold number_raw.c number_raw.d
        refine (if_neg hl).trans ((isone_c b _).trans ((if_pos (by simp [c])).trans ((nat_Gcd.eq g1 _).trans ((isone_c _ _).trans ((if_neg (by simp)).trans ((clone_c a (by omega) _).trans (clone_c b (by omega) _)))))))
      · have hg0 : g ≠ [] := by
          rintro rfl
          have h2 : Nat.gcd (val 4294967296 a).toNat (val 4294967296 b).toNat ≠ 0 := by
            intro h3
            have := (Nat.gcd_eq_zero_iff.1 h3).2
            omega
          simp [val] at g4
          omega
        have hgl : g.length ≤ b.length := by
          rcases Nat.lt_or_ge b.length g.length with h | h
          · have h1 := len_lt_val hB hb g2 g3 h
            have h2 : Nat.gcd (val 4294967296 a).toNat (val 4294967296 b).toNat ≤ (val 4294967296 b).toNat := Nat.gcd_le_right _ (by omega)
            omega
          · exact h
        obtain ⟨p, r1, p1, p2, p3, p4, p5, p6, p7, p8⟩ := DivMod_ev a g ha g2 na g3 hg0 (by omega) (by omega)
        obtain ⟨q, r2, q1, q2, q3, q4, q5, q6, q7, q8⟩ := DivMod_ev b g hb g2 nb g3 hg0 (by omega) (by omega)
        have hp0 : p ≠ [] := by
          rintro rfl
          have h1 : 0 < val 4294967296 a := val_pos hB ha na h0
          have h2 : Nat.gcd (val 4294967296 a).toNat (val 4294967296 b).toNat ≤ (val 4294967296 a).toNat := Nat.gcd_le_left _ (by omega)
          have h3 : 0 < val 4294967296 g := val_pos hB g2 g3 hg0
          have h4 : val 4294967296 a / val 4294967296 g = 0 := by rw [← p6]; rfl
          have h5 : 1 ≤ val 4294967296 a / val 4294967296 g := Int.le_ediv_of_mul_le h3 (by rw [Int.one_mul]; omega)
          omega
        refine ⟨p, q, fun R K => ?_, p2, p3, q2, q3, by rw [p6, g4], by rw [q6, g4]⟩
        rw [show (neg && decide (p ≠ [])) = neg by simp [hp0]]
        unfold number_raw.c number_raw.d
        refine (if_neg hl).trans ((isone_c b _).trans ((if_pos (by simp [c])).trans ((nat_Gcd.eq g1 _).trans ((isone_c _ _).trans ((if_pos (by simp [c2])).trans ((nat_DivMod.eq p1 _).trans ((nat_DivMod.eq q1 _).trans ((clone_c p (by omega) _).trans (clone_c q (by omega) _)))))))))
theorem fits_c (neg : Bool) (p q : List Int) {R : Type} (K : ((Bool × List Int × List Int) × Int) → Option R) : number_fits.c R (neg, p, q) K = K (outM neg p q) := by
  unfold number_fits.c number_fits.d outM
  by_cases c1 : p.length > 128
  · rw [if_neg (by simp; omega), if_pos (Or.inl c1)]
  · by_cases c2 : q.length > 128
    · rw [if_pos (by simp; omega), if_pos (by simp; omega), if_pos (Or.inr c2)]
    · rw [if_pos (by simp; omega), if_neg (by simp; omega), if_neg (by omega)]
theorem made_c (neg : Bool) (a b : List Int) (ha : Lim 4294967296 a) (na : Nrm a) (hb : Lim 4294967296 b) (nb : Nrm b) (b0 : b ≠ []) (la : a.length ≤ 1048575) (lb : b.length ≤ 1048575) :
    ∃ neg' p q, (∀ (R : Type) (K : ((Bool × List Int × List Int) × Int) → Option R), number_made.c R (neg, a, b) K = K (outM neg' p q)) ∧ Rep neg' p q (sgn neg (val 4294967296 a)) (val 4294967296 b) := by
  obtain ⟨p, q, h1, p1, p2, q1, q2, p3, q3⟩ := raw_c neg a b ha na hb nb b0 la lb
  exact ⟨neg && decide (p ≠ []), p, q, fun R K => by
    unfold number_made.c number_made.d
    exact (h1 R _).trans (fits_c _ _ _ _), Rp.made (by decide) ha hb nb b0 p1 p2 q1 q2 rfl p3 q3⟩
theorem check_c (neg : Bool) (num den : List Int) (hn : Lim 4294967296 num) (hd : Lim 4294967296 den) {R : Type} (K : Int → Option R) : number_Check.c R (neg, num, den) K = K (fault neg num den) := number_Check.eq (Check_ev neg num den hn hd) K
theorem check2_c (na : Bool) (a da : List Int) (nb : Bool) (b db : List Int) (ha : Lim 4294967296 a) (hda : Lim 4294967296 da) (hb : Lim 4294967296 b) (hdb : Lim 4294967296 db) {R : Type} (K : Int → Option R) :
    number_check2.c R (na, a, da, nb, b, db) K = K (if fault na a da = 0 then fault nb b db else fault na a da) := by
  unfold number_check2.c number_check2.d
  refine (check_c na a da ha hda _).trans ?_
  by_cases h : fault na a da = 0
  · rw [if_pos h]
    refine (if_neg (by simp [h])).trans ((check_c nb b db hb hdb _).trans ?_)
    by_cases h2 : fault nb b db = 0
    · rw [h2]; rfl
    · exact if_pos (by simp [h2])
  · rw [if_neg h]
    exact if_pos (by simp [h])
def bad (e : Int) : (Bool × List Int × List Int) × Int := ((false, [], []), e)
theorem ok2 {na : Bool} {a da : List Int} {nb : Bool} {b db : List Int} (ca : Can na a da) (cb : Can nb b db) : (if fault na a da = 0 then fault nb b db else fault na a da) = 0 := by rw [fault_can ca, fault_can cb, if_pos rfl]
theorem check2_ok {na : Bool} {a da : List Int} {nb : Bool} {b db : List Int} (ha : Lim 4294967296 a) (hda : Lim 4294967296 da) (hb : Lim 4294967296 b) (hdb : Lim 4294967296 db) (ca : Can na a da) (cb : Can nb b db) {R : Type} (K : Int → Option R) : number_check2.c R (na, a, da, nb, b, db) K = K 0 := by
  rw [check2_c na a da nb b db ha hda hb hdb, ok2 ca cb]
noncomputable def nat_Of.c : (R : Type) → (Int) → ((List Int) → Option R) → Option R := fun R a => lm (fun (a : Int) k => nat_Of.f k a) R a
theorem nat_Of.pc (a : Int) (b : List Int) (k : Nat) (h : nat_Of.f k a = some b) : PureC Tryz.prog 54 ((one (ci .u64)).enc a) (rU.enc b) := by
  intro w P0 vs hr
  obtain ⟨u0, e0, hr⟩ := at_int hr
  have z := at_nil hr
  subst z
  have q1 := e0
  obtain rfl : vs = #[.int .u64 a] := Array.toList_inj.1 (by simpa using q1)
  refine Calls.mono (nat_Of.calls k a b w h) fun e w' he => ?_
  obtain ⟨v0_, rfl, hv0, hb⟩ := he
  exact ⟨_, rfl, hb, (V_row hv0 fun n hn => .inr hn)⟩
theorem nat_Of.ok : FunOk Tryz.prog 54 (mk (one (ci .u64)) rU nat_Of.c) := lm_ok (by kernel_rfl) nat_Of.pc
theorem nat_Of.eq {x0 : Int} {b : List Int} (h : Ev (fun k => nat_Of.f k x0) b) {R : Type} (K : (List Int) → Option R) : nat_Of.c R x0 K = K b := lm_ev (g := fun (a : Int) k => nat_Of.f k a) (a := x0) h K
end Go.Proofs.YtemnjgkicndmjaaGreatDoor.Q

namespace Go.Proofs.YtemnjgkicndmjaaGreatDoor.Q
open Go.RowKit Go.Proofs.YtemnjgkicndmjaaGreatDoor.E Go.Proofs.YtemnjgkicndmjaaGreatDoorW.PrintWords Go.Proofs.YtemnjgkicndmjaaGreatDoorW.PrintLast Go.Proofs.YtemnjgkicndmjaaGreatDoorW.PrintMore
set_option linter.unusedVariables false
noncomputable def number_FromInt.d (g54 : CF (Int) (List Int)) (g53 : CF (Bool × List Int × List Int) (Nm)) (R : Type) (a : Int) (K : (Nm) → Option R) : Option R :=
  (if (decide (a < (0 : Int))) = true then (g54 _ (IntKind.u64.wrap (0 - (IntKind.u64.wrap a))) fun t1 => (g53 _ ((decide (a < (0 : Int))), t1, ([(1 : Int)] : List Int)) fun t2 => K (t2.1, t2.2.1, t2.2.2))) else (g54 _ (IntKind.u64.wrap a) fun t3 => (g53 _ ((decide (a < (0 : Int))), t3, ([(1 : Int)] : List Int)) fun t4 => K (t4.1, t4.2.1, t4.2.2))))
noncomputable abbrev number_FromInt.c (R : Type) (a : Int) (K : (Nm) → Option R) : Option R := number_FromInt.d nat_Of.c number_raw.c R a K
noncomputable def number_FromInt.T (g54 : CF (Int) (List Int)) (g53 : CF (Bool × List Int × List Int) (Nm)) : List (Nat × Tf) := [(53, .pure (mk (more cb (more rU (one rU))) kN g53)), (54, .pure (mk (one (ci .u64)) rU g54))]
theorem number_FromInt.tok : TOk Tryz.prog (tt (number_FromInt.T nat_Of.c number_raw.c)) := (tt_cons number_raw.ok (tt_cons nat_Of.ok tt_nil))
set_option maxRecDepth 100000 in
theorem number_FromInt.ex0 (g54 : CF (Int) (List Int)) (g53 : CF (Bool × List Int × List Int) (Nm)) (R : Type) (a : Int) (K : (Nm) → Option R) : execFn' Tryz.prog (tt (number_FromInt.T g54 g53)) (lt []) 60 Tryz.f17 R ((one iI).enc a) (dk kN K) = number_FromInt.d g54 g53 R a K := by kernel_rfl
theorem number_FromInt.sh : Shown Tryz.prog 17 (one iI).enc kN number_FromInt.c := exec_shown number_FromInt.tok mixed Tryz.func17 (by kernel_rfl) (number_FromInt.ex0 nat_Of.c number_raw.c)
theorem number_FromInt.ok : FunOk Tryz.prog 17 (mk (one iI) kN number_FromInt.c) := number_FromInt.sh.ok (by kernel_rfl)
theorem one_rep : Lim 4294967296 [1] ∧ Nrm [1] ∧ val 4294967296 [1] = 1 := ⟨one_lim (by decide), one_nrm, val_one _⟩
theorem rep_int {neg : Bool} {n : List Int} (hn : Lim 4294967296 n) (nn : Nrm n) (h0 : n = [] → neg = false) : Rep neg n [1] (sgn neg (val 4294967296 n)) 1 :=
  ⟨hn, nn, one_rep.1, one_rep.2.1, by decide, by rw [one_rep.2.2]; exact Nat.gcd_one_right _, h0, by rw [one_rep.2.2]⟩
theorem outM_int {neg neg' : Bool} {n p q : List Int} {N : Int} (h : Rep neg' p q N 1) (hn : Lim 4294967296 n) (nn : Nrm n) (h0 : n = [] → neg = false) (hv : sgn neg (val 4294967296 n) = N) (l : n.length ≤ 128) : outM neg' p q = ((neg, n, [1]), 0) := by
  subst hv
  obtain ⟨rfl, rfl, rfl⟩ := h.unique (by decide) (rep_int hn nn h0) (by decide)
  unfold outM
  rw [if_neg]
  rintro (h | h)
  · omega
  · exact absurd h (by decide)
theorem FromInt_one {R : Type} (K : (Bool × List Int × List Int) → Option R) : number_FromInt.c R 1 K = K (false, [1], [1]) := by
  have hw : IntKind.u64.wrap 1 = 1 := by decide
  obtain ⟨r, r1, r2, r3, r4, r5⟩ := Of_ev 1 (by decide) (by decide)
  have hr : r = [1] := (eq_one (by decide) r2 r3).1 (by rw [r4])
  subst hr
  unfold number_FromInt.c number_FromInt.d
  rw [hw]
  refine (if_neg (by decide)).trans ?_
  refine (nat_Of.eq r1 _).trans ?_
  obtain ⟨p, q, h1, p1, p2, q1, q2, p3, q3⟩ := raw_c false [1] [1] one_rep.1 one_rep.2.1 one_rep.1 one_rep.2.1 (by decide) (by decide) (by decide)
  rw [one_rep.2.2] at p3 q3
  have ep : p = [1] := (eq_one (by decide) p1 p2).1 (by rw [p3]; rfl)
  have eq : q = [1] := (eq_one (by decide) q1 q2).1 (by rw [q3]; rfl)
  subst ep eq
  exact h1 R _
end Go.Proofs.YtemnjgkicndmjaaGreatDoor.Q
namespace Go.Proofs.YtemnjgkicndmjaaGreatDoor.Q
open Go.RowKit Go.Proofs.YtemnjgkicndmjaaGreatDoorW.PrintWords Go.Proofs.YtemnjgkicndmjaaGreatDoorW.PrintLast Go.Proofs.YtemnjgkicndmjaaGreatDoorW.PrintMore
set_option linter.unusedVariables false
theorem ofInt_64 (a : Nat) (ha : a < 18446744073709551616) : (BitVec.ofInt 64 (a : Int)).toNat = a := by
  rw [BitVec.ofInt_natCast, BitVec.toNat_ofNat]; exact Nat.mod_eq_of_lt (by omega)
theorem i64w (n : Int) (h0 : 0 ≤ n) (h1 : n < 9223372036854775808) : IntKind.i64.wrap n = n := by
  simp [IntKind.wrap, IntKind.bits, IntKind.signed]; omega
theorem i64_and (a b : Int) (h1 : 0 ≤ a) (h2 : a < 9223372036854775808) (h3 : 0 ≤ b) (h4 : b < 9223372036854775808) : Go.bits .and .i64 a b = ((a.toNat &&& b.toNat : Nat) : Int) := by
  obtain ⟨A, rfl⟩ := Int.eq_ofNat_of_zero_le h1
  obtain ⟨B, rfl⟩ := Int.eq_ofNat_of_zero_le h3
  have hx : A &&& B < 2 ^ 63 := Nat.and_lt_two_pow _ (by omega)
  show IntKind.i64.wrap ((BitVec.ofInt 64 (A : Int) &&& BitVec.ofInt 64 (B : Int)).toNat : Int) = _
  rw [BitVec.toNat_and, ofInt_64 A (by omega), ofInt_64 B (by omega), i64w _ (by omega) (by omega)]
  rfl
theorem i64_or (a b : Int) (h1 : 0 ≤ a) (h2 : a < 9223372036854775808) (h3 : 0 ≤ b) (h4 : b < 9223372036854775808) : Go.bits .or .i64 a b = ((a.toNat ||| b.toNat : Nat) : Int) := by
  obtain ⟨A, rfl⟩ := Int.eq_ofNat_of_zero_le h1
  obtain ⟨B, rfl⟩ := Int.eq_ofNat_of_zero_le h3
  have hx : A ||| B < 2 ^ 63 := Nat.or_lt_two_pow (by omega) (by omega)
  show IntKind.i64.wrap ((BitVec.ofInt 64 (A : Int) ||| BitVec.ofInt 64 (B : Int)).toNat : Int) = _
  rw [BitVec.toNat_or, ofInt_64 A (by omega), ofInt_64 B (by omega), i64w _ (by omega) (by omega)]
  rfl
theorem i64_and1 {x : Int} (h0 : 0 ≤ x) (h1 : x < 9223372036854775808) : Go.bits .and .i64 x 1 = x % 2 := by
  rw [i64_and _ _ h0 h1 (by omega) (by omega)]
  have : (1 : Int).toNat = 1 := rfl
  rw [this, Nat.and_one_is_mod]; omega
theorem rtrim_ev (xs : List Int) : xs.length ≤ 1099511627776 → Ev (fun k => rf_trim.f k xs) (trim xs) := by
  show xs.length ≤ 1099511627776 → Ev (fun k => rf_trim.l0 k xs) (trim xs)
  refine snoc_induction (P := fun xs => xs.length ≤ 1099511627776 → Ev (fun k => rf_trim.l0 k xs) (trim xs)) ?_ ?_ xs
  · intro _
    exact Ev.step (f := fun _ => some []) (fun k => by simp only [rf_trim.l0]; rfl) (Ev.now _)
  · intro xs x ih hl
    rw [List.length_append, List.length_singleton] at hl
    have h1 : ((xs ++ [x]).length : Int) > 0 := by rw [List.length_append, List.length_singleton]; omega
    have h2 : wrap64 (((xs ++ [x]).length : Int) - 1) = (xs.length : Int) := by rw [List.length_append, List.length_singleton, w64 (by omega) (by omega)]; omega
    have h3 : (xs.length : Int) < ((xs ++ [x]).length : Int) := by rw [List.length_append, List.length_singleton]; omega
    have h4 : rd (xs ++ [x]) (xs.length : Int) = x := by rw [rd_getD, List.getD_eq_getElem?_getD, List.getElem?_append_right (Nat.le_refl _)]; simp
    have h5 : (xs ++ [x]).take xs.length = xs := by rw [List.take_append_of_le_length (Nat.le_refl _), List.take_of_length_le (Nat.le_refl _)]
    have h0 : (0 : Int) ≤ (xs.length : Int) := by omega
    by_cases c : x = 0
    · subst c
      rw [trim_snoc_zero]
      refine Ev.step (f := fun k => rf_trim.l0 k xs) (fun k => ?_) (ih (by omega))
      simp only [rf_trim.l0]
      rw [if_pos h1, h2, if_pos h0, if_pos h3, h4, if_pos (by rfl), if_pos (Int.le_of_lt h3), Int.toNat_natCast, h5]
    · rw [trim_snoc _ c]
      refine Ev.step (f := fun _ => some (xs ++ [x])) (fun k => ?_) (Ev.now _)
      simp only [rf_trim.l0]
      rw [if_pos h1, h2, if_pos h0, if_pos h3, h4, if_neg c]
theorem rdigit (l : List Int) (i : Nat) : rf_digit.f l (i : Int) = some (l.getD i 0) := by
  unfold rf_digit.f
  by_cases h : i < l.length
  · rw [if_pos (by omega), if_pos (by omega), rd_getD]
  · rw [if_neg (by omega), List.getD_eq_getElem?_getD, List.getElem?_eq_none (by omega)]; rfl
theorem small_len {B : Int} (hB : 1 < B) {xs : List Int} (h : Lim B xs) (hn : Nrm xs) {n : Nat} (hv : val B xs < B ^ n) : xs.length ≤ n := by
  rcases Nat.lt_or_ge n xs.length with c | c
  · have h0 : xs ≠ [] := by rintro rfl; simp at c
    have h1 := val_ge (by omega) h hn h0
    have h2 := pow_mono' (show 0 < B by omega) (show n ≤ xs.length - 1 by omega)
    omega
  · exact c
end Go.Proofs.YtemnjgkicndmjaaGreatDoor.Q
namespace Go.Proofs.YtemnjgkicndmjaaGreatDoor.Q
open Go.RowKit Go.Proofs.YtemnjgkicndmjaaGreatDoor.E Go.Proofs.YtemnjgkicndmjaaGreatDoorW.PrintWords Go.Proofs.YtemnjgkicndmjaaGreatDoorW.PrintLast Go.Proofs.YtemnjgkicndmjaaGreatDoorW.PrintMore
set_option linter.unusedVariables false
noncomputable def nat_Power.c : (R : Type) → (List Int × Int × Int) → (((List Int × Bool)) → Option R) → Option R := fun R a => lm (fun (a : List Int × Int × Int) k => nat_Power.f k a.1 a.2.1 a.2.2) R a
theorem nat_Power.pc (a : List Int × Int × Int) (b : (List Int × Bool)) (k : Nat) (h : nat_Power.f k a.1 a.2.1 a.2.2 = some b) : PureC Tryz.prog 65 ((more rU (more iI (one iI))).enc a) ((tup (more rU (one cb))).enc b) := by
  intro w P0 vs hr
  obtain ⟨x0, x1, x2⟩ := a
  obtain ⟨r0, r1⟩ := b
  obtain ⟨A0, c0, u0, e0, hc0, hf0, hr⟩ := at_row hr
  obtain ⟨u1, e1, hr⟩ := at_int hr
  obtain ⟨u2, e2, hr⟩ := at_int hr
  have z := at_nil hr
  subst z
  subst e2
  subst e1
  have q3 := e0
  obtain rfl : vs = #[.slice A0 x0.length c0, .int .i64 x1, .int .i64 x2] := Array.toList_inj.1 (by simpa using q3)
  refine Calls.mono (nat_Power.calls k A0 c0 x0 x1 x2 r0 r1 w (now hf0) hc0 h) fun e w' he => ?_
  obtain ⟨v0_, rfl, hv0, hb⟩ := he
  exact ⟨_, rfl, hb, (rep_tup2 (V_row hv0 fun n hn => .inr hn) (show E.Rep _ _ _ _ _ from by simp only [cb, E.Rep]))⟩
theorem nat_Power.ok : FunOk Tryz.prog 65 (mk (more rU (more iI (one iI))) (tup (more rU (one cb))) nat_Power.c) := lm_ok (by kernel_rfl) nat_Power.pc
theorem nat_Power.eq {x0 : List Int} {x1 : Int} {x2 : Int} {b : (List Int × Bool)} (h : Ev (fun k => nat_Power.f k x0 x1 x2) b) {R : Type} (K : ((List Int × Bool)) → Option R) : nat_Power.c R (x0, x1, x2) K = K b := lm_ev (g := fun (a : List Int × Int × Int) k => nat_Power.f k a.1 a.2.1 a.2.2) (a := (x0, x1, x2)) h K
set_option maxRecDepth 100000 in
theorem Len64_small (a : Int) (h0 : 0 ≤ a) (h1 : a < 65536) : ∃ n : Nat, Ev (fun k => bits_Len.f k a) (n : Int) ∧ n ≤ 16 ∧ a < 2 ^ n := by
  have key : ∀ n : Nat, Ev (fun k => bits_Len64.j0 k a 0) (n : Int) → Ev (fun k => bits_Len.f k a) (n : Int) := fun n h =>
    Ev.bind (f := fun _ t => some t) (Ev.congr (f := fun k => bits_Len64.j0 k a 0) (fun k => if_neg (by omega)) h) (Ev.now _)
  by_cases c : a ≥ 256
  · obtain ⟨n, e, hn, hu, hl⟩ := len_part (a := a) (x := a / 256 % 256) (j := 8) (by omega) (by omega) (by omega) (by omega)
    refine ⟨n + 8, key _ (Ev.step (f := fun _ => some (((n + 8 : Nat) : Int))) (fun k => ?_) (Ev.now _)), by omega, hu⟩
    simp only [bits_Len64.j0]
    rw [if_neg (by omega), if_pos c, if_pos (by omega), if_pos (by omega)]
    refine (show _ = some (wrap64 ((wrap64 (0 + 8)) + (wrap64 (bt len8 (a / 256 % 256))))) from rfl).trans ?_
    rw [e, w64 (x := (n : Int)) (by omega) (by omega), w64 (x := 0 + 8) (by omega) (by omega), w64 (by omega) (by omega)]
    congr 1
    omega
  · obtain ⟨n, e, hn, hu, hl⟩ := len_part (a := a) (x := a % 256) (j := 0) (by omega) (by omega) (by omega) (by omega)
    refine ⟨n, key _ (Ev.step (f := fun _ => some ((n : Nat) : Int)) (fun k => ?_) (Ev.now _)), by omega, hu⟩
    simp only [bits_Len64.j0]
    rw [if_neg (by omega), if_neg c, if_pos (by omega), if_pos (by omega)]
    refine (show _ = some (wrap64 (0 + (wrap64 (bt len8 (a % 256))))) from rfl).trans ?_
    rw [e, w64 (x := (n : Int)) (by omega) (by omega), w64 (by omega) (by omega)]
    congr 1
    omega
theorem limit128 {x : List Int} (hx : Lim 4294967296 x) (nx : Nrm x) : x.length ≤ 128 ↔ val 4294967296 x < 2 ^ 4096 := by
  have e : (4294967296 : Int) ^ 128 = 2 ^ 4096 := by rw [show (4294967296 : Int) = 2 ^ 32 from rfl, ← Int.pow_mul]
  constructor
  · intro h
    rw [← e]
    exact Int.lt_of_lt_of_le (val_lt (by decide) hx) (pow_mono' (by decide) h)
  · intro h
    rw [← e] at h
    exact small_len (by decide) hx nx h
theorem npow_loop (a : List Int) (ha : Lim 4294967296 a) (na : Nrm a) (a0 : a ≠ []) (la : a.length ≤ 128) (n : Nat) (hn : n < 65536) : ∀ (j : Nat) (out : List Int), j ≤ 17 → Lim 4294967296 out → Nrm out → out.length ≤ 128 → val 4294967296 out = val 4294967296 a ^ (n / 2 ^ j) →
    (∃ r, Ev (fun k => nat_Power.l0 k a (n : Int) 128 out ((j : Int) - 1)) (r, true) ∧ Lim 4294967296 r ∧ Nrm r ∧ r.length ≤ 128 ∧ val 4294967296 r = val 4294967296 a ^ n) ∨ (Ev (fun k => nat_Power.l0 k a (n : Int) 128 out ((j : Int) - 1)) ([], false) ∧ 2 ^ 4096 ≤ val 4294967296 a ^ n) := by
  have hB : (0 : Int) < 4294967296 := by decide
  have va : 1 ≤ val 4294967296 a := val_pos hB ha na a0
  intro j
  induction j with
  | zero =>
    intro out _ ho no lo hv
    refine .inl ⟨out, Ev.step (f := fun _ => some (out, true)) (fun k => ?_) (Ev.now _), ho, no, lo, by simpa using hv⟩
    simp only [nat_Power.l0]
    rw [if_neg (by omega)]
  | succ j ih =>
    intro out hj ho no lo hv
    have e1 : ((j + 1 : Nat) : Int) - 1 = (j : Int) := by omega
    have ew : wrap64 ((j : Int) - 1) = (j : Int) - 1 := w64 (by omega) (by omega)
    obtain ⟨t, t1, t2, t3, t4, t5⟩ := Mul_ev out out ho ho (by omega)
    obtain ⟨s, s1, s2, s3, s4, s5⟩ := Mul_ev t a t2 ha (by omega)
    have hq : n / 2 ^ (j + 1) = n / 2 ^ j / 2 := by rw [Nat.pow_succ, Nat.div_div_eq_div_mul]
    have hp2 : (2 : Nat) ^ j ≠ 0 := Nat.pos_iff_ne_zero.1 (Nat.pow_pos (by decide))
    have hbit : Go.bits .and .i64 (shr .i64 (n : Int) (j : Int)) 1 = ((n / 2 ^ j % 2 : Nat) : Int) := by
      have h1 : shr .i64 (n : Int) (j : Int) = ((n / 2 ^ j : Nat) : Int) := by
        unfold shr
        rw [Int.toNat_natCast, Nat.min_eq_left (by simp [IntKind.bits]; omega)]
        norm_cast
      have h2 : n / 2 ^ j ≤ n := Nat.div_le_self _ _
      rw [h1]
      generalize n / 2 ^ j = w at h2 ⊢
      rw [i64_and1 (by omega) (by omega)]
      omega
    have digit : ∀ (y : List Int), Lim 4294967296 y → Nrm y → val 4294967296 y = val 4294967296 a ^ (n / 2 ^ j) →
        (∀ R : List Int × Bool, Ev (fun k => if (y.length : Int) > 128 then (some (([] : List Int), false)) else (nat_Power.l0 k a (n : Int) 128 y ((j : Int) - 1))) R → Ev (fun k => nat_Power.l0 k a (n : Int) 128 out (((j + 1 : Nat) : Int) - 1)) R) →
        (∃ r, Ev (fun k => nat_Power.l0 k a (n : Int) 128 out (((j + 1 : Nat) : Int) - 1)) (r, true) ∧ Lim 4294967296 r ∧ Nrm r ∧ r.length ≤ 128 ∧ val 4294967296 r = val 4294967296 a ^ n) ∨ (Ev (fun k => nat_Power.l0 k a (n : Int) 128 out (((j + 1 : Nat) : Int) - 1)) ([], false) ∧ 2 ^ 4096 ≤ val 4294967296 a ^ n) := by
      intro y y1 y2 y3 hstep
      by_cases c : y.length ≤ 128
      · rcases ih y (by omega) y1 y2 c y3 with ⟨r, r1, r2⟩ | ⟨r1, r2⟩
        · exact .inl ⟨r, hstep _ (Ev.congr (fun k => if_neg (by omega)) r1), r2⟩
        · exact .inr ⟨hstep _ (Ev.congr (fun k => if_neg (by omega)) r1), r2⟩
      · refine .inr ⟨hstep _ (Ev.ret fun k => if_pos (by omega)), ?_⟩
        have h1 : ¬ val 4294967296 y < 2 ^ 4096 := fun h => c ((limit128 y1 y2).2 h)
        rw [y3] at h1
        have h2 : val 4294967296 a ^ (n / 2 ^ j) ≤ val 4294967296 a ^ n := pow_mono' (by omega) (Nat.div_le_self _ _)
        exact Int.le_trans (Int.not_lt.1 h1) h2
    have hvt : val 4294967296 t = val 4294967296 a ^ (2 * (n / 2 ^ j / 2)) := by rw [t4, hv, hq, ← Int.pow_add]; congr 1; omega
    by_cases c : n / 2 ^ j % 2 = 1
    · refine digit s s2 s3 ?_ fun R hR => ?_
      · rw [s4, hvt, ← Int.pow_succ]
        congr 1
        omega
      · rw [e1]
        refine Ev.step (f := fun k => (nat_Mul.f k out out).bind fun t1951 => ((nat_Mul.f k t1951 a).bind fun t1954 => (if (t1954.length : Int) > 128 then (some (([] : List Int), false)) else (nat_Power.l0 k a (n : Int) 128 t1954 ((j : Int) - 1))))) (fun k => ?_) ?_
        · simp only [nat_Power.l0]
          rw [if_pos (by omega), ew, hbit, c]
          refine congrArg ((nat_Mul.f k out out).bind) (funext fun t1951 => ?_)
          rw [if_pos (by omega)]
          exact if_pos rfl
        · refine Ev.bind (f := fun k t1951 => ((nat_Mul.f k t1951 a).bind fun t1954 => (if (t1954.length : Int) > 128 then (some (([] : List Int), false)) else (nat_Power.l0 k a (n : Int) 128 t1954 ((j : Int) - 1))))) t1 ?_
          exact Ev.bind (f := fun k t1954 => (if (t1954.length : Int) > 128 then (some (([] : List Int), false)) else (nat_Power.l0 k a (n : Int) 128 t1954 ((j : Int) - 1)))) s1 hR
    · refine digit t t2 t3 ?_ fun R hR => ?_
      · rw [hvt]
        congr 1
        omega
      · rw [e1]
        refine Ev.step (f := fun k => (nat_Mul.f k out out).bind fun t1951 => (if (t1951.length : Int) > 128 then (some (([] : List Int), false)) else (nat_Power.l0 k a (n : Int) 128 t1951 ((j : Int) - 1)))) (fun k => ?_) ?_
        · simp only [nat_Power.l0]
          rw [if_pos (by omega), ew, hbit]
          refine congrArg ((nat_Mul.f k out out).bind) (funext fun t1951 => ?_)
          rw [if_pos (by omega)]
          exact if_neg (by omega)
        · exact Ev.bind (f := fun k t1951 => (if (t1951.length : Int) > 128 then (some (([] : List Int), false)) else (nat_Power.l0 k a (n : Int) 128 t1951 ((j : Int) - 1)))) t1 hR
theorem npow_c {a : List Int} (ha : Lim 4294967296 a) (na : Nrm a) (a0 : a ≠ []) (la : a.length ≤ 128) (n : Nat) (hn : n ≤ 4096) :
    (∃ r, (∀ (R : Type) (K : List Int × Bool → Option R), nat_Power.c R (a, (n : Int), 128) K = K (r, true)) ∧ Lim 4294967296 r ∧ Nrm r ∧ r.length ≤ 128 ∧ val 4294967296 r = val 4294967296 a ^ n) ∨ ((∀ (R : Type) (K : List Int × Bool → Option R), nat_Power.c R (a, (n : Int), 128) K = K ([], false)) ∧ 2 ^ 4096 ≤ val 4294967296 a ^ n) := by
  obtain ⟨L, l1, l2, l3⟩ := Len64_small (n : Int) (by omega) (by omega)
  have hw : IntKind.u64.wrap (n : Int) = (n : Int) := by rw [u64w]; omega
  have hL : n / 2 ^ L = 0 := by
    refine Nat.div_eq_of_lt ?_
    have : ((n : Nat) : Int) < ((2 ^ L : Nat) : Int) := by rw [Int.natCast_pow]; exact l3
    omega
  have ew : wrap64 ((L : Int) - 1) = (L : Int) - 1 := w64 (by omega) (by omega)
  have hf : ∀ res : List Int × Bool, Ev (fun k => nat_Power.l0 k a (n : Int) 128 [1] ((L : Int) - 1)) res → Ev (fun k => nat_Power.f k a (n : Int) 128) res := by
    intro res h
    refine Ev.congr (f := fun k => (bits_Len.f k (n : Int)).bind fun t1950 => (nat_Power.l0 k a (n : Int) 128 (([1] : List Int)) (wrap64 (t1950 - 1)))) (fun k => by unfold nat_Power.f; rw [hw]) ?_
    refine Ev.bind (f := fun k t1950 => (nat_Power.l0 k a (n : Int) 128 (([1] : List Int)) (wrap64 (t1950 - 1)))) l1 ?_
    rw [ew]
    exact h
  rcases npow_loop a ha na a0 la n (by omega) L [1] (by omega) one_rep.1 one_rep.2.1 (by decide) (by rw [hL, Int.pow_zero]; exact one_rep.2.2) with ⟨r, r1, r2⟩ | ⟨r1, r2⟩
  · exact .inl ⟨r, fun R K => nat_Power.eq (hf _ r1) K, r2⟩
  · exact .inr ⟨fun R K => nat_Power.eq (hf _ r1) K, r2⟩
noncomputable def number_Power.d (g48 : CF ((Bool × List Int × List Int × Bool × List Int × List Int)) (Int)) (g64 : CF (List Int) (Bool)) (g17 : CF (Int) (Nm)) (g49 : CF (Bool × List Int × List Int) ((Nm × Int))) (g65 : CF (List Int × Int × Int) ((List Int × Bool))) (R : Type) (a : Nm × Nm) (K : ((Nm × Int)) → Option R) : Option R :=
  (g48 _ (a.1.1, a.1.2.1, a.1.2.2, a.2.1, a.2.2.1, a.2.2.2) fun t1 => (if (t1 != (0 : Int)) = true then K ((false, ([] : List Int), ([] : List Int)), t1) else (g64 _ a.2.2.2 fun t2 => (if (!t2) = true then K ((false, ([] : List Int), ([] : List Int)), (7 : Int)) else (if (decide ((a.2.2.1.length : Int) > (0 : Int))) = true then (if 0 ≤ (0 : Int) ∧ (0 : Int) < (a.2.2.1.length : Int) then (if ((a.2.2.1.length : Int) == (0 : Int)) = true then (g17 _ (1 : Int) fun t3 => K ((t3.1, t3.2.1, t3.2.2), (0 : Int))) else (if ((a.1.2.1.length : Int) == (0 : Int)) = true then (if a.2.1 = true then K ((false, ([] : List Int), ([] : List Int)), (10 : Int)) else (if ((a.1.2.1.length : Int) == (0 : Int)) = false then (g64 _ a.1.2.1 fun t4 => (if t4 = true then (g64 _ a.1.2.2 fun t5 => (if t5 = true then (if a.1.1 = true then (g49 _ (((IntKind.u32.wrap (((BitVec.ofInt 32 (a.2.2.1.getD 0 0)) &&& (BitVec.ofInt 32 (1 : Int))).toNat : Int)) == (1 : Int)), a.1.2.1, a.1.2.2) fun t6 => K ((t6.1.1, t6.1.2.1, t6.1.2.2), t6.2)) else (g49 _ (false, a.1.2.1, a.1.2.2) fun t7 => K ((t7.1.1, t7.1.2.1, t7.1.2.2), t7.2))) else (if (decide ((a.2.2.1.length : Int) > (1 : Int))) = false then (if 0 ≤ (0 : Int) ∧ (0 : Int) < (a.2.2.1.length : Int) then (if (decide ((a.2.2.1.getD 0 0) > (4096 : Int))) = true then K ((false, ([] : List Int), ([] : List Int)), (3 : Int)) else (if 0 ≤ (0 : Int) ∧ (0 : Int) < (a.2.2.1.length : Int) then (g65 _ (a.1.2.1, (IntKind.i64.wrap (a.2.2.1.getD 0 0)), (128 : Int)) fun t8 => (if 0 ≤ (0 : Int) ∧ (0 : Int) < (a.2.2.1.length : Int) then (g65 _ (a.1.2.2, (IntKind.i64.wrap (a.2.2.1.getD 0 0)), (128 : Int)) fun t9 => (if (!t8.2) = false then (if (!t9.2) = true then K ((false, ([] : List Int), ([] : List Int)), (3 : Int)) else (if a.2.1 = true then (if a.1.1 = true then (g49 _ (((IntKind.u32.wrap (((BitVec.ofInt 32 (a.2.2.1.getD 0 0)) &&& (BitVec.ofInt 32 (1 : Int))).toNat : Int)) == (1 : Int)), t9.1, t8.1) fun t10 => K ((t10.1.1, t10.1.2.1, t10.1.2.2), t10.2)) else (g49 _ (false, t9.1, t8.1) fun t11 => K ((t11.1.1, t11.1.2.1, t11.1.2.2), t11.2))) else (if a.1.1 = true then (g49 _ (((IntKind.u32.wrap (((BitVec.ofInt 32 (a.2.2.1.getD 0 0)) &&& (BitVec.ofInt 32 (1 : Int))).toNat : Int)) == (1 : Int)), t8.1, t9.1) fun t12 => K ((t12.1.1, t12.1.2.1, t12.1.2.2), t12.2)) else (g49 _ (false, t8.1, t9.1) fun t13 => K ((t13.1.1, t13.1.2.1, t13.1.2.2), t13.2))))) else K ((false, ([] : List Int), ([] : List Int)), (3 : Int)))) else none)) else none)) else none) else K ((false, ([] : List Int), ([] : List Int)), (3 : Int))))) else (if (decide ((a.2.2.1.length : Int) > (1 : Int))) = false then (if 0 ≤ (0 : Int) ∧ (0 : Int) < (a.2.2.1.length : Int) then (if (decide ((a.2.2.1.getD 0 0) > (4096 : Int))) = true then K ((false, ([] : List Int), ([] : List Int)), (3 : Int)) else (if 0 ≤ (0 : Int) ∧ (0 : Int) < (a.2.2.1.length : Int) then (g65 _ (a.1.2.1, (IntKind.i64.wrap (a.2.2.1.getD 0 0)), (128 : Int)) fun t14 => (if 0 ≤ (0 : Int) ∧ (0 : Int) < (a.2.2.1.length : Int) then (g65 _ (a.1.2.2, (IntKind.i64.wrap (a.2.2.1.getD 0 0)), (128 : Int)) fun t15 => (if (!t14.2) = false then (if (!t15.2) = true then K ((false, ([] : List Int), ([] : List Int)), (3 : Int)) else (if a.2.1 = true then (if a.1.1 = true then (g49 _ (((IntKind.u32.wrap (((BitVec.ofInt 32 (a.2.2.1.getD 0 0)) &&& (BitVec.ofInt 32 (1 : Int))).toNat : Int)) == (1 : Int)), t15.1, t14.1) fun t16 => K ((t16.1.1, t16.1.2.1, t16.1.2.2), t16.2)) else (g49 _ (false, t15.1, t14.1) fun t17 => K ((t17.1.1, t17.1.2.1, t17.1.2.2), t17.2))) else (if a.1.1 = true then (g49 _ (((IntKind.u32.wrap (((BitVec.ofInt 32 (a.2.2.1.getD 0 0)) &&& (BitVec.ofInt 32 (1 : Int))).toNat : Int)) == (1 : Int)), t14.1, t15.1) fun t18 => K ((t18.1.1, t18.1.2.1, t18.1.2.2), t18.2)) else (g49 _ (false, t14.1, t15.1) fun t19 => K ((t19.1.1, t19.1.2.1, t19.1.2.2), t19.2))))) else K ((false, ([] : List Int), ([] : List Int)), (3 : Int)))) else none)) else none)) else none) else K ((false, ([] : List Int), ([] : List Int)), (3 : Int))))) else (if a.1.1 = true then (g49 _ (((IntKind.u32.wrap (((BitVec.ofInt 32 (a.2.2.1.getD 0 0)) &&& (BitVec.ofInt 32 (1 : Int))).toNat : Int)) == (1 : Int)), a.1.2.1, a.1.2.2) fun t20 => K ((t20.1.1, t20.1.2.1, t20.1.2.2), t20.2)) else (g49 _ (false, a.1.2.1, a.1.2.2) fun t21 => K ((t21.1.1, t21.1.2.1, t21.1.2.2), t21.2))))) else (if ((a.1.2.1.length : Int) == (0 : Int)) = false then (g64 _ a.1.2.1 fun t22 => (if t22 = true then (g64 _ a.1.2.2 fun t23 => (if t23 = true then (if a.1.1 = true then (g49 _ (((IntKind.u32.wrap (((BitVec.ofInt 32 (a.2.2.1.getD 0 0)) &&& (BitVec.ofInt 32 (1 : Int))).toNat : Int)) == (1 : Int)), a.1.2.1, a.1.2.2) fun t24 => K ((t24.1.1, t24.1.2.1, t24.1.2.2), t24.2)) else (g49 _ (false, a.1.2.1, a.1.2.2) fun t25 => K ((t25.1.1, t25.1.2.1, t25.1.2.2), t25.2))) else (if (decide ((a.2.2.1.length : Int) > (1 : Int))) = false then (if 0 ≤ (0 : Int) ∧ (0 : Int) < (a.2.2.1.length : Int) then (if (decide ((a.2.2.1.getD 0 0) > (4096 : Int))) = true then K ((false, ([] : List Int), ([] : List Int)), (3 : Int)) else (if 0 ≤ (0 : Int) ∧ (0 : Int) < (a.2.2.1.length : Int) then (g65 _ (a.1.2.1, (IntKind.i64.wrap (a.2.2.1.getD 0 0)), (128 : Int)) fun t26 => (if 0 ≤ (0 : Int) ∧ (0 : Int) < (a.2.2.1.length : Int) then (g65 _ (a.1.2.2, (IntKind.i64.wrap (a.2.2.1.getD 0 0)), (128 : Int)) fun t27 => (if (!t26.2) = false then (if (!t27.2) = true then K ((false, ([] : List Int), ([] : List Int)), (3 : Int)) else (if a.2.1 = true then (if a.1.1 = true then (g49 _ (((IntKind.u32.wrap (((BitVec.ofInt 32 (a.2.2.1.getD 0 0)) &&& (BitVec.ofInt 32 (1 : Int))).toNat : Int)) == (1 : Int)), t27.1, t26.1) fun t28 => K ((t28.1.1, t28.1.2.1, t28.1.2.2), t28.2)) else (g49 _ (false, t27.1, t26.1) fun t29 => K ((t29.1.1, t29.1.2.1, t29.1.2.2), t29.2))) else (if a.1.1 = true then (g49 _ (((IntKind.u32.wrap (((BitVec.ofInt 32 (a.2.2.1.getD 0 0)) &&& (BitVec.ofInt 32 (1 : Int))).toNat : Int)) == (1 : Int)), t26.1, t27.1) fun t30 => K ((t30.1.1, t30.1.2.1, t30.1.2.2), t30.2)) else (g49 _ (false, t26.1, t27.1) fun t31 => K ((t31.1.1, t31.1.2.1, t31.1.2.2), t31.2))))) else K ((false, ([] : List Int), ([] : List Int)), (3 : Int)))) else none)) else none)) else none) else K ((false, ([] : List Int), ([] : List Int)), (3 : Int))))) else (if (decide ((a.2.2.1.length : Int) > (1 : Int))) = false then (if 0 ≤ (0 : Int) ∧ (0 : Int) < (a.2.2.1.length : Int) then (if (decide ((a.2.2.1.getD 0 0) > (4096 : Int))) = true then K ((false, ([] : List Int), ([] : List Int)), (3 : Int)) else (if 0 ≤ (0 : Int) ∧ (0 : Int) < (a.2.2.1.length : Int) then (g65 _ (a.1.2.1, (IntKind.i64.wrap (a.2.2.1.getD 0 0)), (128 : Int)) fun t32 => (if 0 ≤ (0 : Int) ∧ (0 : Int) < (a.2.2.1.length : Int) then (g65 _ (a.1.2.2, (IntKind.i64.wrap (a.2.2.1.getD 0 0)), (128 : Int)) fun t33 => (if (!t32.2) = false then (if (!t33.2) = true then K ((false, ([] : List Int), ([] : List Int)), (3 : Int)) else (if a.2.1 = true then (if a.1.1 = true then (g49 _ (((IntKind.u32.wrap (((BitVec.ofInt 32 (a.2.2.1.getD 0 0)) &&& (BitVec.ofInt 32 (1 : Int))).toNat : Int)) == (1 : Int)), t33.1, t32.1) fun t34 => K ((t34.1.1, t34.1.2.1, t34.1.2.2), t34.2)) else (g49 _ (false, t33.1, t32.1) fun t35 => K ((t35.1.1, t35.1.2.1, t35.1.2.2), t35.2))) else (if a.1.1 = true then (g49 _ (((IntKind.u32.wrap (((BitVec.ofInt 32 (a.2.2.1.getD 0 0)) &&& (BitVec.ofInt 32 (1 : Int))).toNat : Int)) == (1 : Int)), t32.1, t33.1) fun t36 => K ((t36.1.1, t36.1.2.1, t36.1.2.2), t36.2)) else (g49 _ (false, t32.1, t33.1) fun t37 => K ((t37.1.1, t37.1.2.1, t37.1.2.2), t37.2))))) else K ((false, ([] : List Int), ([] : List Int)), (3 : Int)))) else none)) else none)) else none) else K ((false, ([] : List Int), ([] : List Int)), (3 : Int))))) else (if a.1.1 = true then (g49 _ (((IntKind.u32.wrap (((BitVec.ofInt 32 (a.2.2.1.getD 0 0)) &&& (BitVec.ofInt 32 (1 : Int))).toNat : Int)) == (1 : Int)), a.1.2.1, a.1.2.2) fun t38 => K ((t38.1.1, t38.1.2.1, t38.1.2.2), t38.2)) else (g49 _ (false, a.1.2.1, a.1.2.2) fun t39 => K ((t39.1.1, t39.1.2.1, t39.1.2.2), t39.2)))))) else none) else (if ((a.2.2.1.length : Int) == (0 : Int)) = true then (g17 _ (1 : Int) fun t40 => K ((t40.1, t40.2.1, t40.2.2), (0 : Int))) else (if ((a.1.2.1.length : Int) == (0 : Int)) = true then (if a.2.1 = true then K ((false, ([] : List Int), ([] : List Int)), (10 : Int)) else (if ((a.1.2.1.length : Int) == (0 : Int)) = false then (g64 _ a.1.2.1 fun t41 => (if t41 = true then (g64 _ a.1.2.2 fun t42 => (if t42 = true then (if a.1.1 = true then (g49 _ (false, a.1.2.1, a.1.2.2) fun t43 => K ((t43.1.1, t43.1.2.1, t43.1.2.2), t43.2)) else (g49 _ (false, a.1.2.1, a.1.2.2) fun t44 => K ((t44.1.1, t44.1.2.1, t44.1.2.2), t44.2))) else (if (decide ((a.2.2.1.length : Int) > (1 : Int))) = false then (if 0 ≤ (0 : Int) ∧ (0 : Int) < (a.2.2.1.length : Int) then (if (decide ((a.2.2.1.getD 0 0) > (4096 : Int))) = true then K ((false, ([] : List Int), ([] : List Int)), (3 : Int)) else (if 0 ≤ (0 : Int) ∧ (0 : Int) < (a.2.2.1.length : Int) then (g65 _ (a.1.2.1, (IntKind.i64.wrap (a.2.2.1.getD 0 0)), (128 : Int)) fun t45 => (if 0 ≤ (0 : Int) ∧ (0 : Int) < (a.2.2.1.length : Int) then (g65 _ (a.1.2.2, (IntKind.i64.wrap (a.2.2.1.getD 0 0)), (128 : Int)) fun t46 => (if (!t45.2) = false then (if (!t46.2) = true then K ((false, ([] : List Int), ([] : List Int)), (3 : Int)) else (if a.2.1 = true then (if a.1.1 = true then (g49 _ (false, t46.1, t45.1) fun t47 => K ((t47.1.1, t47.1.2.1, t47.1.2.2), t47.2)) else (g49 _ (false, t46.1, t45.1) fun t48 => K ((t48.1.1, t48.1.2.1, t48.1.2.2), t48.2))) else (if a.1.1 = true then (g49 _ (false, t45.1, t46.1) fun t49 => K ((t49.1.1, t49.1.2.1, t49.1.2.2), t49.2)) else (g49 _ (false, t45.1, t46.1) fun t50 => K ((t50.1.1, t50.1.2.1, t50.1.2.2), t50.2))))) else K ((false, ([] : List Int), ([] : List Int)), (3 : Int)))) else none)) else none)) else none) else K ((false, ([] : List Int), ([] : List Int)), (3 : Int))))) else (if (decide ((a.2.2.1.length : Int) > (1 : Int))) = false then (if 0 ≤ (0 : Int) ∧ (0 : Int) < (a.2.2.1.length : Int) then (if (decide ((a.2.2.1.getD 0 0) > (4096 : Int))) = true then K ((false, ([] : List Int), ([] : List Int)), (3 : Int)) else (if 0 ≤ (0 : Int) ∧ (0 : Int) < (a.2.2.1.length : Int) then (g65 _ (a.1.2.1, (IntKind.i64.wrap (a.2.2.1.getD 0 0)), (128 : Int)) fun t51 => (if 0 ≤ (0 : Int) ∧ (0 : Int) < (a.2.2.1.length : Int) then (g65 _ (a.1.2.2, (IntKind.i64.wrap (a.2.2.1.getD 0 0)), (128 : Int)) fun t52 => (if (!t51.2) = false then (if (!t52.2) = true then K ((false, ([] : List Int), ([] : List Int)), (3 : Int)) else (if a.2.1 = true then (if a.1.1 = true then (g49 _ (false, t52.1, t51.1) fun t53 => K ((t53.1.1, t53.1.2.1, t53.1.2.2), t53.2)) else (g49 _ (false, t52.1, t51.1) fun t54 => K ((t54.1.1, t54.1.2.1, t54.1.2.2), t54.2))) else (if a.1.1 = true then (g49 _ (false, t51.1, t52.1) fun t55 => K ((t55.1.1, t55.1.2.1, t55.1.2.2), t55.2)) else (g49 _ (false, t51.1, t52.1) fun t56 => K ((t56.1.1, t56.1.2.1, t56.1.2.2), t56.2))))) else K ((false, ([] : List Int), ([] : List Int)), (3 : Int)))) else none)) else none)) else none) else K ((false, ([] : List Int), ([] : List Int)), (3 : Int))))) else (if a.1.1 = true then (g49 _ (false, a.1.2.1, a.1.2.2) fun t57 => K ((t57.1.1, t57.1.2.1, t57.1.2.2), t57.2)) else (g49 _ (false, a.1.2.1, a.1.2.2) fun t58 => K ((t58.1.1, t58.1.2.1, t58.1.2.2), t58.2))))) else (if ((a.1.2.1.length : Int) == (0 : Int)) = false then (g64 _ a.1.2.1 fun t59 => (if t59 = true then (g64 _ a.1.2.2 fun t60 => (if t60 = true then (if a.1.1 = true then (g49 _ (false, a.1.2.1, a.1.2.2) fun t61 => K ((t61.1.1, t61.1.2.1, t61.1.2.2), t61.2)) else (g49 _ (false, a.1.2.1, a.1.2.2) fun t62 => K ((t62.1.1, t62.1.2.1, t62.1.2.2), t62.2))) else (if (decide ((a.2.2.1.length : Int) > (1 : Int))) = false then (if 0 ≤ (0 : Int) ∧ (0 : Int) < (a.2.2.1.length : Int) then (if (decide ((a.2.2.1.getD 0 0) > (4096 : Int))) = true then K ((false, ([] : List Int), ([] : List Int)), (3 : Int)) else (if 0 ≤ (0 : Int) ∧ (0 : Int) < (a.2.2.1.length : Int) then (g65 _ (a.1.2.1, (IntKind.i64.wrap (a.2.2.1.getD 0 0)), (128 : Int)) fun t63 => (if 0 ≤ (0 : Int) ∧ (0 : Int) < (a.2.2.1.length : Int) then (g65 _ (a.1.2.2, (IntKind.i64.wrap (a.2.2.1.getD 0 0)), (128 : Int)) fun t64 => (if (!t63.2) = false then (if (!t64.2) = true then K ((false, ([] : List Int), ([] : List Int)), (3 : Int)) else (if a.2.1 = true then (if a.1.1 = true then (g49 _ (false, t64.1, t63.1) fun t65 => K ((t65.1.1, t65.1.2.1, t65.1.2.2), t65.2)) else (g49 _ (false, t64.1, t63.1) fun t66 => K ((t66.1.1, t66.1.2.1, t66.1.2.2), t66.2))) else (if a.1.1 = true then (g49 _ (false, t63.1, t64.1) fun t67 => K ((t67.1.1, t67.1.2.1, t67.1.2.2), t67.2)) else (g49 _ (false, t63.1, t64.1) fun t68 => K ((t68.1.1, t68.1.2.1, t68.1.2.2), t68.2))))) else K ((false, ([] : List Int), ([] : List Int)), (3 : Int)))) else none)) else none)) else none) else K ((false, ([] : List Int), ([] : List Int)), (3 : Int))))) else (if (decide ((a.2.2.1.length : Int) > (1 : Int))) = false then (if 0 ≤ (0 : Int) ∧ (0 : Int) < (a.2.2.1.length : Int) then (if (decide ((a.2.2.1.getD 0 0) > (4096 : Int))) = true then K ((false, ([] : List Int), ([] : List Int)), (3 : Int)) else (if 0 ≤ (0 : Int) ∧ (0 : Int) < (a.2.2.1.length : Int) then (g65 _ (a.1.2.1, (IntKind.i64.wrap (a.2.2.1.getD 0 0)), (128 : Int)) fun t69 => (if 0 ≤ (0 : Int) ∧ (0 : Int) < (a.2.2.1.length : Int) then (g65 _ (a.1.2.2, (IntKind.i64.wrap (a.2.2.1.getD 0 0)), (128 : Int)) fun t70 => (if (!t69.2) = false then (if (!t70.2) = true then K ((false, ([] : List Int), ([] : List Int)), (3 : Int)) else (if a.2.1 = true then (if a.1.1 = true then (g49 _ (false, t70.1, t69.1) fun t71 => K ((t71.1.1, t71.1.2.1, t71.1.2.2), t71.2)) else (g49 _ (false, t70.1, t69.1) fun t72 => K ((t72.1.1, t72.1.2.1, t72.1.2.2), t72.2))) else (if a.1.1 = true then (g49 _ (false, t69.1, t70.1) fun t73 => K ((t73.1.1, t73.1.2.1, t73.1.2.2), t73.2)) else (g49 _ (false, t69.1, t70.1) fun t74 => K ((t74.1.1, t74.1.2.1, t74.1.2.2), t74.2))))) else K ((false, ([] : List Int), ([] : List Int)), (3 : Int)))) else none)) else none)) else none) else K ((false, ([] : List Int), ([] : List Int)), (3 : Int))))) else (if a.1.1 = true then (g49 _ (false, a.1.2.1, a.1.2.2) fun t75 => K ((t75.1.1, t75.1.2.1, t75.1.2.2), t75.2)) else (g49 _ (false, a.1.2.1, a.1.2.2) fun t76 => K ((t76.1.1, t76.1.2.1, t76.1.2.2), t76.2)))))))))))
noncomputable abbrev number_Power.c (R : Type) (a : Nm × Nm) (K : ((Nm × Int)) → Option R) : Option R := number_Power.d number_check2.c nat_IsOne.c number_FromInt.c number_made.c nat_Power.c R a K
noncomputable def number_Power.T (g48 : CF ((Bool × List Int × List Int × Bool × List Int × List Int)) (Int)) (g64 : CF (List Int) (Bool)) (g17 : CF (Int) (Nm)) (g49 : CF (Bool × List Int × List Int) ((Nm × Int))) (g65 : CF (List Int × Int × Int) ((List Int × Bool))) : List (Nat × Tf) := [(17, .pure (mk (one iI) kN g17)), (48, .pure (mk (one (arr 3 (more cb (more rU (more rU (more cb (more rU (one rU)))))))) iI g48)), (49, .pure (mk (more cb (more rU (one rU))) kE g49)), (64, .pure (mk (one rU) cb g64)), (65, .pure (mk (more rU (more iI (one iI))) (tup (more rU (one cb))) g65))]
theorem number_Power.tok : TOk Tryz.prog (tt (number_Power.T number_check2.c nat_IsOne.c number_FromInt.c number_made.c nat_Power.c)) := (tt_cons number_FromInt.ok (tt_cons number_check2.ok (tt_cons number_made.ok (tt_cons nat_IsOne.ok (tt_cons nat_Power.ok tt_nil)))))
set_option maxRecDepth 100000 in
theorem number_Power.ex0 (g48 : CF ((Bool × List Int × List Int × Bool × List Int × List Int)) (Int)) (g64 : CF (List Int) (Bool)) (g17 : CF (Int) (Nm)) (g49 : CF (Bool × List Int × List Int) ((Nm × Int))) (g65 : CF (List Int × Int × Int) ((List Int × Bool))) (R : Type) (a : Nm × Nm) (K : ((Nm × Int)) → Option R) : execFn' Tryz.prog (tt (number_Power.T g48 g64 g17 g49 g65)) (lt []) 60 Tryz.f26 R ((more kN (one kN)).enc a) (dk kE K) = number_Power.d g48 g64 g17 g49 g65 R a K := by kernel_rfl
theorem number_Power.sh : Shown Tryz.prog 26 (more kN (one kN)).enc kE number_Power.c := exec_shown number_Power.tok mixed Tryz.func26 (by kernel_rfl) (number_Power.ex0 number_check2.c nat_IsOne.c number_FromInt.c number_made.c nat_Power.c)
theorem number_Power.ok : FunOk Tryz.prog 26 (mk (more kN (one kN)) kE number_Power.c) := number_Power.sh.ok (by kernel_rfl)
def pN (A B : Int) (k : Int) : Int := if k < 0 then B ^ k.natAbs else A ^ k.natAbs
def pD (A B : Int) (k : Int) : Int := if k < 0 then A ^ k.natAbs else B ^ k.natAbs
def pS (na : Bool) (k : Int) : Bool := na && decide (k.natAbs % 2 = 1)
theorem u32w' (n : Int) : IntKind.u32.wrap n = n % 4294967296 := by simp [IntKind.wrap, IntKind.bits, IntKind.signed]
theorem odd_bit (e : Nat) (he : e < 4294967296) : (IntKind.u32.wrap (((BitVec.ofInt 32 (e : Int)) &&& (BitVec.ofInt 32 (1 : Int))).toNat : Int) == (1 : Int)) = decide (e % 2 = 1) := by
  have h1 : (BitVec.ofInt 32 (e : Int)).toNat = e := by
    rw [BitVec.toNat_ofInt]
    omega
  have h2 : ((BitVec.ofInt 32 (e : Int)) &&& (BitVec.ofInt 32 (1 : Int))).toNat = e % 2 := by
    rw [BitVec.toNat_and, h1]
    exact Nat.and_one_is_mod e
  rw [h2]
  have h3 : IntKind.u32.wrap ((e % 2 : Nat) : Int) = ((e % 2 : Nat) : Int) := by
    rw [u32w']
    omega
  rw [h3]
  rcases Nat.mod_two_eq_zero_or_one e with h | h <;> rw [h] <;> rfl
theorem gcd_pow1 {A B : Int} (hA : 0 ≤ A) (hB : 0 ≤ B) (h : Nat.gcd A.toNat B.toNat = 1) (e : Nat) : Nat.gcd (A ^ e).toNat (B ^ e).toNat = 1 := by
  obtain ⟨a, rfl⟩ := Int.eq_ofNat_of_zero_le hA
  obtain ⟨b, rfl⟩ := Int.eq_ofNat_of_zero_le hB
  rw [Int.toNat_natCast, Int.toNat_natCast] at h
  rw [← Int.natCast_pow, ← Int.natCast_pow, Int.toNat_natCast, Int.toNat_natCast]
  exact Nat.Coprime.pow e e h
theorem made_exact {s : Bool} {x y : List Int} (hx : Lim 4294967296 x) (nx : Nrm x) (hy : Lim 4294967296 y) (ny : Nrm y) (y0 : y ≠ []) (x0 : x ≠ []) (lx : x.length ≤ 128) (ly : y.length ≤ 128) (g : Nat.gcd (val 4294967296 x).toNat (val 4294967296 y).toNat = 1) :
    (∀ (R : Type) (K : (Nm × Int) → Option R), number_made.c R (s, x, y) K = K ((s, x, y), 0)) ∧ Rep s x y (sgn s (val 4294967296 x)) (val 4294967296 y) := by
  have hr : Rep s x y (sgn s (val 4294967296 x)) (val 4294967296 y) := ⟨hx, nx, hy, ny, y0, g, fun h => absurd h x0, rfl⟩
  obtain ⟨m, p, q, m1, m2⟩ := made_c s x y hx nx hy ny y0 (by omega) (by omega)
  obtain ⟨rfl, rfl, rfl⟩ := m2.unique (by decide) hr (by have := hr.pos (by decide); omega)
  refine ⟨fun R K => ?_, hr⟩
  rw [m1]
  unfold outM
  rw [if_neg (by omega)]
noncomputable def PTail0 (R : Type) (na : Bool) (a da : List Int) (nb : Bool) (b : List Int) (K : (Nm × Int) → Option R) : Option R :=
  (if (decide ((b.length : Int) > (1 : Int))) = false then (if 0 ≤ (0 : Int) ∧ (0 : Int) < (b.length : Int) then (if (decide ((b.getD 0 0) > (4096 : Int))) = true then K ((false, ([] : List Int), ([] : List Int)), (3 : Int)) else (if 0 ≤ (0 : Int) ∧ (0 : Int) < (b.length : Int) then (nat_Power.c R (a, (IntKind.i64.wrap (b.getD 0 0)), (128 : Int)) fun t32 => (if 0 ≤ (0 : Int) ∧ (0 : Int) < (b.length : Int) then (nat_Power.c R (da, (IntKind.i64.wrap (b.getD 0 0)), (128 : Int)) fun t33 => (if (!t32.2) = false then (if (!t33.2) = true then K ((false, ([] : List Int), ([] : List Int)), (3 : Int)) else (if nb = true then (if na = true then (number_made.c R (((IntKind.u32.wrap (((BitVec.ofInt 32 (b.getD 0 0)) &&& (BitVec.ofInt 32 (1 : Int))).toNat : Int)) == (1 : Int)), t33.1, t32.1) fun t34 => K ((t34.1.1, t34.1.2.1, t34.1.2.2), t34.2)) else (number_made.c R (false, t33.1, t32.1) fun t35 => K ((t35.1.1, t35.1.2.1, t35.1.2.2), t35.2))) else (if na = true then (number_made.c R (((IntKind.u32.wrap (((BitVec.ofInt 32 (b.getD 0 0)) &&& (BitVec.ofInt 32 (1 : Int))).toNat : Int)) == (1 : Int)), t32.1, t33.1) fun t36 => K ((t36.1.1, t36.1.2.1, t36.1.2.2), t36.2)) else (number_made.c R (false, t32.1, t33.1) fun t37 => K ((t37.1.1, t37.1.2.1, t37.1.2.2), t37.2))))) else K ((false, ([] : List Int), ([] : List Int)), (3 : Int)))) else none)) else none)) else none) else K ((false, ([] : List Int), ([] : List Int)), (3 : Int)))
theorem exp_can (k : Int) (h0 : -4096 ≤ k) (h1 : k ≤ 4096) (l : List Int) (l2 : k = 0 → l = []) (l3 : k ≠ 0 → l = [(k.natAbs : Int)]) : Can (decide (k < 0)) l [1] := by
  by_cases c : k = 0
  · rw [l2 c]
    exact ⟨by decide, by decide, nrm_nil, one_nrm, by decide, fun _ => by simp [c], by rw [one_rep.2.2]; exact Nat.gcd_one_right _⟩
  · rw [l3 c]
    have hn : Nrm [(k.natAbs : Int)] := by
      have : ([(k.natAbs : Int)] : List Int) = [] ++ [(k.natAbs : Int)] := rfl
      rw [this, nrm_snoc]
      omega
    exact ⟨by simp, by decide, hn, one_nrm, by decide, fun h => by simp at h, by rw [one_rep.2.2]; exact Nat.gcd_one_right _⟩
theorem Power_c {na : Bool} {a da : List Int} (ha : Lim 4294967296 a) (hda : Lim 4294967296 da) (ca : Can na a da) (a0 : a ≠ []) (k : Int) (h0 : -4096 ≤ k) (h1 : k ≤ 4096) (l : List Int) (hl : Lim 4294967296 l) (l2 : k = 0 → l = []) (l3 : k ≠ 0 → l = [(k.natAbs : Int)]) :
    (∃ p q, (∀ (R : Type) (K : (Nm × Int) → Option R), number_Power.c R ((na, a, da), (decide (k < 0), l, [1])) K = K ((pS na k, p, q), 0)) ∧ Rep (pS na k) p q (sgn (pS na k) (pN (val 4294967296 a) (val 4294967296 da) k)) (pD (val 4294967296 a) (val 4294967296 da) k) ∧ p.length ≤ 128 ∧ q.length ≤ 128) ∨
    ((∀ (R : Type) (K : (Nm × Int) → Option R), number_Power.c R ((na, a, da), (decide (k < 0), l, [1])) K = K (bad 3)) ∧ ¬ (pN (val 4294967296 a) (val 4294967296 da) k < 2 ^ 4096 ∧ pD (val 4294967296 a) (val 4294967296 da) k < 2 ^ 4096)) := by
  have hB : (0 : Int) < 4294967296 := by decide
  have la := ca.ln
  have lda := ca.ld
  have va := val_pos hB ha ca.nn a0
  have vd := ca.pos hda
  have cb := exp_can k h0 h1 l l2 l3
  have hchk : ∀ {R : Type} (K : Int → Option R), number_check2.c R (na, a, da, decide (k < 0), l, [1]) K = K 0 := fun K => check2_ok ha hda hl one_rep.1 ca cb K
  by_cases hk : k = 0
  · subst hk
    rw [l2 rfl] at *
    refine .inl ⟨[1], [1], fun R K => ?_, ?_, by decide, by decide⟩
    · unfold number_Power.c number_Power.d
      refine (hchk _).trans ?_
      refine (if_neg (by decide)).trans ?_
      refine (isone_c [1] _).trans ?_
      refine (if_neg (by decide)).trans ?_
      refine (if_neg (by simp)).trans ?_
      refine (if_pos rfl).trans ?_
      refine (FromInt_one _).trans ?_
      have : pS na 0 = false := by unfold pS; simp
      rw [this]
    · have e1 : pS na 0 = false := by unfold pS; simp
      have e2 : pN (val 4294967296 a) (val 4294967296 da) 0 = 1 := by unfold pN; simp
      have e3 : pD (val 4294967296 a) (val 4294967296 da) 0 = 1 := by unfold pD; simp
      rw [e1, e2, e3]
      have := rep_int (neg := false) one_rep.1 one_rep.2.1 (fun _ => rfl)
      rwa [one_rep.2.2] at this
  · rw [l3 hk] at *
    obtain ⟨e, he⟩ : ∃ e : Nat, e = k.natAbs := ⟨_, rfl⟩
    have hw : IntKind.i64.wrap (([(k.natAbs : Int)] : List Int).getD 0 0) = (e : Int) := by
      have : ([(k.natAbs : Int)] : List Int).getD 0 0 = (k.natAbs : Int) := rfl
      rw [this, i64_w, w64 (by omega) (by omega), he]
    have hodd : (IntKind.u32.wrap (((BitVec.ofInt 32 (([(k.natAbs : Int)] : List Int).getD 0 0)) &&& (BitVec.ofInt 32 (1 : Int))).toNat : Int) == (1 : Int)) = decide (e % 2 = 1) := by
      have : ([(k.natAbs : Int)] : List Int).getD 0 0 = ((k.natAbs : Nat) : Int) := rfl
      rw [this, odd_bit _ (by omega), he]
    have hS : pS na k = (na && decide (e % 2 = 1)) := by unfold pS; rw [he]
    have gA := gcd_pow1 (Int.le_of_lt va) (Int.le_of_lt vd) ca.gc e
    have hmade : ∀ (x y : List Int) {R : Type} (K : (Nm × Int) → Option R) (s : (Nm × Int)), (∀ b : Bool, b = pS na k → number_made.c R (b, x, y) K = K s) →
        (if na = true then (number_made.c R ((IntKind.u32.wrap (((BitVec.ofInt 32 (([(k.natAbs : Int)] : List Int).getD 0 0)) &&& (BitVec.ofInt 32 (1 : Int))).toNat : Int) == (1 : Int)), x, y) K) else (number_made.c R (false, x, y) K)) = K s := by
      intro x y R K s hm
      rw [hodd]
      cases na with
      | true => exact (if_pos rfl).trans (hm _ (by rw [hS]; rfl))
      | false => exact (if_neg (by decide)).trans (hm _ (by rw [hS]; rfl))
    have hgo : ∀ (s : Nm × Int), (∀ (R : Type) (K : (Nm × Int) → Option R), PTail0 R na a da (decide (k < 0)) [(k.natAbs : Int)] K = K s) → ¬ (a = [1] ∧ da = [1]) → ∀ (R : Type) (K : (Nm × Int) → Option R), number_Power.c R ((na, a, da), (decide (k < 0), [(k.natAbs : Int)], [1])) K = K s := by
      intro s ht hone R K
      unfold number_Power.c number_Power.d
      refine (hchk _).trans ?_
      refine (if_neg (by decide)).trans ?_
      refine (isone_c [1] _).trans ?_
      refine (if_neg (by decide)).trans ?_
      refine (if_pos (by simp)).trans ?_
      refine (if_pos (by simp)).trans ?_
      refine (if_neg (by simp)).trans ?_
      refine (if_neg (by simpa using a0)).trans ?_
      refine (if_pos (by simpa using a0)).trans ?_
      refine (isone_c a _).trans ?_
      by_cases c1 : a = [1]
      · refine (if_pos (decide_eq_true c1)).trans ?_
        refine (isone_c da _).trans ?_
        refine (if_neg (by simpa using fun h => hone ⟨c1, h⟩)).trans ?_
        exact ht R K
      · refine (if_neg (by simpa using c1)).trans ?_
        exact ht R K
    by_cases hone : a = [1] ∧ da = [1]
    · obtain ⟨rfl, rfl⟩ := hone
      have e2 : pN (val 4294967296 [1]) (val 4294967296 [1]) k = 1 := by unfold pN; rw [one_rep.2.2, Int.one_pow, ite_self]
      have e3 : pD (val 4294967296 [1]) (val 4294967296 [1]) k = 1 := by unfold pD; rw [one_rep.2.2, Int.one_pow, ite_self]
      obtain ⟨m1, m2⟩ := made_exact (s := pS na k) one_rep.1 one_rep.2.1 one_rep.1 one_rep.2.1 (by decide) (by decide) (by decide) (by decide) (by rw [one_rep.2.2]; rfl)
      refine .inl ⟨[1], [1], fun R K => ?_, ?_, by decide, by decide⟩
      · unfold number_Power.c number_Power.d
        refine (hchk _).trans ?_
        refine (if_neg (by decide)).trans ?_
        refine (isone_c [1] _).trans ?_
        refine (if_neg (by decide)).trans ?_
        refine (if_pos (by simp)).trans ?_
        refine (if_pos (by simp)).trans ?_
        refine (if_neg (by simp)).trans ?_
        refine (if_neg (by simp)).trans ?_
        refine (if_pos (by simp)).trans ?_
        refine (isone_c [1] _).trans ?_
        refine (if_pos (by decide)).trans ?_
        refine (isone_c [1] _).trans ?_
        refine (if_pos (by decide)).trans ?_
        exact hmade [1] [1] K _ (fun b hb => by rw [hb]; exact m1 R K)
      · rw [e2, e3]
        rwa [one_rep.2.2] at m2
    · rcases npow_c ha ca.nn a0 la e (by omega) with ⟨x, x1, x2, x3, x4, x5⟩ | ⟨x1, x2⟩
      · rcases npow_c hda ca.nd ca.d0 lda e (by omega) with ⟨y, y1, y2, y3, y4, y5⟩ | ⟨y1, y2⟩
        · have x0 : x ≠ [] := by rintro rfl; have : 0 < val 4294967296 a ^ e := Int.pow_pos va; rw [← x5] at this; exact absurd this (by decide)
          have y0 : y ≠ [] := by rintro rfl; have : 0 < val 4294967296 da ^ e := Int.pow_pos vd; rw [← y5] at this; exact absurd this (by decide)
          have g1 : Nat.gcd (val 4294967296 x).toNat (val 4294967296 y).toNat = 1 := by rw [x5, y5]; exact gA
          have g2 : Nat.gcd (val 4294967296 y).toNat (val 4294967296 x).toNat = 1 := by rw [Nat.gcd_comm]; exact g1
          by_cases c : k < 0
          · obtain ⟨m1, m2⟩ := made_exact (s := pS na k) y2 y3 x2 x3 x0 y0 y4 x4 g2
            refine .inl ⟨y, x, hgo _ (fun R K => ?_) hone, ?_, y4, x4⟩
            · unfold PTail0
              rw [hw]
              refine (if_pos (by simp)).trans ?_
              refine (if_pos (by simp)).trans ?_
              refine (if_neg (by simp; omega)).trans ?_
              refine (if_pos (by simp)).trans ?_
              refine (x1 R _).trans ?_
              refine (if_pos (by simp)).trans ?_
              refine (y1 R _).trans ?_
              refine (if_pos (by simp)).trans ?_
              refine (if_neg (by simp)).trans ?_
              refine (if_pos (by simpa using c)).trans ?_
              exact hmade y x K _ (fun b hb => by rw [hb]; exact m1 R K)
            · unfold pN pD
              rw [if_pos c, if_pos c, ← he, ← x5, ← y5]
              exact m2
          · obtain ⟨m1, m2⟩ := made_exact (s := pS na k) x2 x3 y2 y3 y0 x0 x4 y4 g1
            refine .inl ⟨x, y, hgo _ (fun R K => ?_) hone, ?_, x4, y4⟩
            · unfold PTail0
              rw [hw]
              refine (if_pos (by simp)).trans ?_
              refine (if_pos (by simp)).trans ?_
              refine (if_neg (by simp; omega)).trans ?_
              refine (if_pos (by simp)).trans ?_
              refine (x1 R _).trans ?_
              refine (if_pos (by simp)).trans ?_
              refine (y1 R _).trans ?_
              refine (if_pos (by simp)).trans ?_
              refine (if_neg (by simp)).trans ?_
              refine (if_neg (by simpa using c)).trans ?_
              exact hmade x y K _ (fun b hb => by rw [hb]; exact m1 R K)
            · unfold pN pD
              rw [if_neg c, if_neg c, ← he, ← x5, ← y5]
              exact m2
        · refine .inr ⟨hgo _ (fun R K => ?_) hone, ?_⟩
          · unfold PTail0
            rw [hw]
            refine (if_pos (by simp)).trans ?_
            refine (if_pos (by simp)).trans ?_
            refine (if_neg (by simp; omega)).trans ?_
            refine (if_pos (by simp)).trans ?_
            refine (x1 R _).trans ?_
            refine (if_pos (by simp)).trans ?_
            refine (y1 R _).trans ?_
            refine (if_pos (by simp)).trans ?_
            exact if_pos (by simp)
          · unfold pN pD
            rw [← he]
            rintro ⟨h1, h2⟩
            split at h1 <;> omega
      · have hy := npow_c hda ca.nd ca.d0 lda e (by omega)
        refine .inr ⟨hgo _ (fun R K => ?_) hone, ?_⟩
        · unfold PTail0
          rw [hw]
          refine (if_pos (by simp)).trans ?_
          refine (if_pos (by simp)).trans ?_
          refine (if_neg (by simp; omega)).trans ?_
          refine (if_pos (by simp)).trans ?_
          refine (x1 R _).trans ?_
          refine (if_pos (by simp)).trans ?_
          rcases hy with ⟨y, y1, _⟩ | ⟨y1, _⟩
          · refine (y1 R _).trans ?_
            exact if_neg (by simp)
          · refine (y1 R _).trans ?_
            exact if_neg (by simp)
        · unfold pN pD
          rw [← he]
          rintro ⟨h1, h2⟩
          split at h1 <;> omega
end Go.Proofs.YtemnjgkicndmjaaGreatDoor.Q
namespace Go.Proofs.YtemnjgkicndmjaaGreatDoor.Q
open Go.RowKit Go.Proofs.YtemnjgkicndmjaaGreatDoorW.PrintWords Go.Proofs.YtemnjgkicndmjaaGreatDoorW.PrintLast Go.Proofs.YtemnjgkicndmjaaGreatDoorW.PrintMore
attribute [local go_sem] max2_int min2_int max_two min_two max_three min_three max_four min_four
set_option linter.unusedVariables false
set_option linter.unusedSimpArgs false
def rf_SubNat.l0 : Nat → List Int → List Int → List Int → Int → Int → Int → Option (List Int)
 | 0, _, _, _, _, _, _ => none
 | k + 1, x0, x1, x5, x6, x10, x11 => if x11 < x10 then (if 0 ≤ x11 then (if x11 < (x0.length : Int) then ((rf_digit.f x1 x11).bind fun t436 => (if (wrap64 ((wrap64 ((rd x0 x11) - t436)) - x6)) < 0 then (if x5.length < 17592186044416 then (rf_SubNat.l0 k x0 x1 (x5 ++ [wrap64 ((wrap64 ((wrap64 ((rd x0 x11) - t436)) - x6)) + 65536)]) 1 x10 (wrap64 (x11 + 1))) else (none)) else (if x5.length < 17592186044416 then (rf_SubNat.l0 k x0 x1 (x5 ++ [wrap64 ((wrap64 ((rd x0 x11) - t436)) - x6)]) 0 x10 (wrap64 (x11 + 1))) else (none)))) else (none)) else (none)) else ((rf_trim.f k x5).bind fun t443 => (some t443))
def rf_SubNat.f (k : Nat) (l0 : List Int) (l1 : List Int) : Option (List Int) := rf_SubNat.l0 k l0 l1 ([] : List Int) 0 (l0.length : Int) 0
set_option maxHeartbeats 8000000 in
set_option maxRecDepth 100000 in
theorem rf_SubNat.calls (k : Nat) (A0 : Option Addr) (c0 : Nat) (l0 : List Int) (A1 : Option Addr) (c1 : Nat) (l1 : List Int) (r : List Int) (w : World) (hr0 : Kd.C (Kd.int .i64) w A0 l0.length l0) (hc0 : l0.length ≤ c0) (hr1 : Kd.C (Kd.int .i64) w A1 l1.length l1) (hc1 : l1.length ≤ c1) (h : rf_SubNat.f k l0 l1 = some r) :
  Calls Tryz.prog 74 #[.slice A0 l0.length c0, .slice A1 l1.length c1] w fun e w' => ∃ v0_ : Value, e = .returned (v0_) ∧ Kd.V (Kd.int .i64) 3 w' w.heap.size (fun k_ => (w.heap.size ≤ k_)) v0_ r ∧ Below w.heap.size w w' := by
 have HR0 := am hr0
 have HC0 := am hc0
 clear hr0 hc0
 have HR1 := am hr1
 have HC1 := am hc1
 clear hr1 hc1
 have HB := am (Below.refl w.heap.size w)
 have H := h
 unfold rf_SubNat.f at H
 clear h
 have H' := am H
 clear H
 go_enter Tryz.func74, Tryz.ntmps74
 go_wp2
 repeat (go_quiet (fail); try go_wp2)
 go_loopg [5, 6, 11] k (fun kq v5 v6 v11 w' => ∃ (x5_1 : List Int) (x6_1 : Int) (x11_1 : Int), v6 = .int .i64 x6_1 ∧ v11 = .int .i64 x11_1 ∧ Aside0 (rf_SubNat.l0 kq l0 l1 x5_1 x6_1 (l0.length : Int) x11_1 = some r) ∧ Aside0 (kq ≤ k) ∧ Aside0 (Kd.R (Kd.int .i64) 3 w' w.heap.size (fun k_ => (w.heap.size ≤ k_)) v5 x5_1) ∧ Aside0 (Below w.heap.size w w'))
 case atStart => exact ⟨(([] : List Int)), (0), (0), zq8, zq8, H', ⟨Nat.le_refl _⟩, ⟨by first | exact Kd.R_nil _ _ _ _ _ | exact Kd.N_nil _ _ _ _ _ | exact Kd.V_nil _ _ _ _ _ | exact Kd.Q_nil _ _ _ _ _ | exact Kd.S_nil _ _ _ _ _⟩, ⟨zq1⟩⟩
 case round =>
  clear H'
  obtain ⟨x5_1, x6_1, x11_1, rfl, rfl, HA, HK1, HO_5, HB⟩ := hrel
  cases gk with
  | zero => exact absurd HA.out (by simp [rf_SubNat.l0])
  | succ k1 =>
   have H := HA.out
   clear HA
   simp only [rf_SubNat.l0] at H
   by_cases c3 : x11_1 < (l0.length : Int)
   ·rw [if_pos c3] at H
    have c3b0 := decide_eq_true c3
    clear c3
    replace H := zn H
    obtain ⟨c4, H⟩ := H
    have c4b0 := decide_eq_true c4
    clear c4
    replace H := zn H
    obtain ⟨c5, H⟩ := H
    have c5b0 := decide_eq_true c5
    clear c5
    replace H := zj H
    obtain ⟨t436, A6, H⟩ := H
    by_cases c7 : (wrap64 ((wrap64 ((rd l0 x11_1) - t436)) - x6_1)) < 0
    ·rw [if_pos c7] at H
     have c7b0 := decide_eq_true c7
     clear c7
     replace H := zn H
     obtain ⟨c8, H⟩ := H
     have LMc8 := am c8
     clear c8
     obtain ⟨y437, hy437⟩ : ∃ y_ : List Int, y_ = (x5_1 ++ [wrap64 ((wrap64 ((wrap64 ((rd l0 x11_1) - t436)) - x6_1)) + 65536)]) := ⟨_, rfl⟩
     try rw [← hy437] at H
     have Ny437 := am hy437
     clear hy437
     have H' := am H
     clear H
     have p435 : 0 ≤ (x11_1 : Int) := zq6
     have q435 : x11_1 < (l0.length : Int) := zq6
     obtain ⟨ad435, e435, hx435_0⟩ := Kd.at_int HR0.out x11_1 p435 q435
     cases e435
     replace hx435_0 := (HB.out.cell (World.block_lt_of_cell? w _ hx435_0)).trans hx435_0
     replace p435 := eq_true p435
     replace q435 := eq_true q435
     go_wp2_with (first | (go_at_call 92; (with_reducible refine (rf_digit.calls _ _ l1 x11_1 t436 _ ?side1 ?side2 A6.out).mono ?_); (case side1 => exact zc (Kd.C_below HR1.out HB.out)); (case side2 => exact HC1.out); rintro e w' ⟨rfl, ⟨nd, rfl⟩⟩; (try first | exact ⟨rfl, _, World.drewN_drewN _ _ _⟩ | exact ⟨rfl, _, Eq.trans (World.drewN_drewN _ _ _) (congrArg (World.drewN _) (Nat.add_assoc _ _ _))⟩)) | ((with_reducible refine gate_builtin (b := .append) (xs := #[.tmp 28, .tmp 30]) rfl ?_); at_builtin; refine Kd.R_append (Kd.int .i64) (w0 := w) w.heap.size rfl (.tmp 28) (.tmp 30) 40 3 (.int .i64 0) 8 rfl Tryz.underlying40 info3 rfl (by decide) (by omega) u5 x5_1 (wrap64 ((wrap64 ((wrap64 ((rd l0 x11_1) - t436)) - x6_1)) + 65536)) [.int .i64 (wrap64 ((wrap64 ((wrap64 ((rd l0 x11_1) - t436)) - x6_1)) + 65536))] (fun k_ => (w.heap.size ≤ k_)) (fun _ => False) rfl rfl ?aP (fun _ hk => hk.elim) ?aF ?aO ?aB ?aS ?aL ?_; (case aP => exact rfl); (case aB => exact zq1); (case aF => exact (fun k_ hk => (Nat.le_trans (below_size zq1) hk))); (case aO => exact (zq4 HO_5.out)); (case aS => exact (below_size zq1)); (case aL => have := LMc8.out; omega); intro v438 w9 ho hb hg hat; rw [← Ny437.out] at ho; refine zt2 (hb) (ho) ?_; clear HB HO_5; intro HB HO439; clear ho hb hg hat))
     repeat (go_quiet (first | (go_at_call 92; (with_reducible refine (rf_digit.calls _ _ l1 x11_1 t436 _ ?side1 ?side2 A6.out).mono ?_); (case side1 => exact zc (Kd.C_below HR1.out HB.out)); (case side2 => exact HC1.out); rintro e w' ⟨rfl, ⟨nd, rfl⟩⟩; (try first | exact ⟨rfl, _, World.drewN_drewN _ _ _⟩ | exact ⟨rfl, _, Eq.trans (World.drewN_drewN _ _ _) (congrArg (World.drewN _) (Nat.add_assoc _ _ _))⟩)) | ((with_reducible refine gate_builtin (b := .append) (xs := #[.tmp 28, .tmp 30]) rfl ?_); at_builtin; refine Kd.R_append (Kd.int .i64) (w0 := w) w.heap.size rfl (.tmp 28) (.tmp 30) 40 3 (.int .i64 0) 8 rfl Tryz.underlying40 info3 rfl (by decide) (by omega) u5 x5_1 (wrap64 ((wrap64 ((wrap64 ((rd l0 x11_1) - t436)) - x6_1)) + 65536)) [.int .i64 (wrap64 ((wrap64 ((wrap64 ((rd l0 x11_1) - t436)) - x6_1)) + 65536))] (fun k_ => (w.heap.size ≤ k_)) (fun _ => False) rfl rfl ?aP (fun _ hk => hk.elim) ?aF ?aO ?aB ?aS ?aL ?_; (case aP => exact rfl); (case aB => exact zq1); (case aF => exact (fun k_ hk => (Nat.le_trans (below_size zq1) hk))); (case aO => exact (zq4 HO_5.out)); (case aS => exact (below_size zq1)); (case aL => have := LMc8.out; omega); intro v438 w9 ho hb hg hat; rw [← Ny437.out] at ho; refine zt2 (hb) (ho) ?_; clear HB HO_5; intro HB HO439; clear ho hb hg hat)); try go_wp2_with (first | (go_at_call 92; (with_reducible refine (rf_digit.calls _ _ l1 x11_1 t436 _ ?side1 ?side2 A6.out).mono ?_); (case side1 => exact zc (Kd.C_below HR1.out HB.out)); (case side2 => exact HC1.out); rintro e w' ⟨rfl, ⟨nd, rfl⟩⟩; (try first | exact ⟨rfl, _, World.drewN_drewN _ _ _⟩ | exact ⟨rfl, _, Eq.trans (World.drewN_drewN _ _ _) (congrArg (World.drewN _) (Nat.add_assoc _ _ _))⟩)) | ((with_reducible refine gate_builtin (b := .append) (xs := #[.tmp 28, .tmp 30]) rfl ?_); at_builtin; refine Kd.R_append (Kd.int .i64) (w0 := w) w.heap.size rfl (.tmp 28) (.tmp 30) 40 3 (.int .i64 0) 8 rfl Tryz.underlying40 info3 rfl (by decide) (by omega) u5 x5_1 (wrap64 ((wrap64 ((wrap64 ((rd l0 x11_1) - t436)) - x6_1)) + 65536)) [.int .i64 (wrap64 ((wrap64 ((wrap64 ((rd l0 x11_1) - t436)) - x6_1)) + 65536))] (fun k_ => (w.heap.size ≤ k_)) (fun _ => False) rfl rfl ?aP (fun _ hk => hk.elim) ?aF ?aO ?aB ?aS ?aL ?_; (case aP => exact rfl); (case aB => exact zq1); (case aF => exact (fun k_ hk => (Nat.le_trans (below_size zq1) hk))); (case aO => exact (zq4 HO_5.out)); (case aS => exact (below_size zq1)); (case aL => have := LMc8.out; omega); intro v438 w9 ho hb hg hat; rw [← Ny437.out] at ho; refine zt2 (hb) (ho) ?_; clear HB HO_5; intro HB HO439; clear ho hb hg hat)))
     go_roundg k1
     case measure => have := HK1.out; omega
     case rel => exact ⟨(y437), (1), (wrap64 (x11_1 + 1)), zq8, zq8, H', ⟨by have := HK1.out; omega⟩, ⟨zq4 HO439.out⟩, ⟨zq1⟩⟩
    ·rw [if_neg c7] at H
     have c7b0 := decide_eq_false c7
     clear c7
     replace H := zn H
     obtain ⟨c10, H⟩ := H
     have LMc10 := am c10
     clear c10
     obtain ⟨y440, hy440⟩ : ∃ y_ : List Int, y_ = (x5_1 ++ [wrap64 ((wrap64 ((rd l0 x11_1) - t436)) - x6_1)]) := ⟨_, rfl⟩
     try rw [← hy440] at H
     have Ny440 := am hy440
     clear hy440
     have H' := am H
     clear H
     have p435 : 0 ≤ (x11_1 : Int) := zq6
     have q435 : x11_1 < (l0.length : Int) := zq6
     obtain ⟨ad435, e435, hx435_0⟩ := Kd.at_int HR0.out x11_1 p435 q435
     cases e435
     replace hx435_0 := (HB.out.cell (World.block_lt_of_cell? w _ hx435_0)).trans hx435_0
     replace p435 := eq_true p435
     replace q435 := eq_true q435
     go_wp2_with (first | (go_at_call 92; (with_reducible refine (rf_digit.calls _ _ l1 x11_1 t436 _ ?side1 ?side2 A6.out).mono ?_); (case side1 => exact zc (Kd.C_below HR1.out HB.out)); (case side2 => exact HC1.out); rintro e w' ⟨rfl, ⟨nd, rfl⟩⟩; (try first | exact ⟨rfl, _, World.drewN_drewN _ _ _⟩ | exact ⟨rfl, _, Eq.trans (World.drewN_drewN _ _ _) (congrArg (World.drewN _) (Nat.add_assoc _ _ _))⟩)) | ((with_reducible refine gate_builtin (b := .append) (xs := #[.tmp 28, .tmp 30]) rfl ?_); at_builtin; refine Kd.R_append (Kd.int .i64) (w0 := w) w.heap.size rfl (.tmp 28) (.tmp 30) 40 3 (.int .i64 0) 8 rfl Tryz.underlying40 info3 rfl (by decide) (by omega) u5 x5_1 (wrap64 ((wrap64 ((rd l0 x11_1) - t436)) - x6_1)) [.int .i64 (wrap64 ((wrap64 ((rd l0 x11_1) - t436)) - x6_1))] (fun k_ => (w.heap.size ≤ k_)) (fun _ => False) rfl rfl ?aP (fun _ hk => hk.elim) ?aF ?aO ?aB ?aS ?aL ?_; (case aP => exact rfl); (case aB => exact zq1); (case aF => exact (fun k_ hk => (Nat.le_trans (below_size zq1) hk))); (case aO => exact (zq4 HO_5.out)); (case aS => exact (below_size zq1)); (case aL => have := LMc10.out; omega); intro v441 w11 ho hb hg hat; rw [← Ny440.out] at ho; refine zt2 (hb) (ho) ?_; clear HB HO_5; intro HB HO442; clear ho hb hg hat))
     repeat (go_quiet (first | (go_at_call 92; (with_reducible refine (rf_digit.calls _ _ l1 x11_1 t436 _ ?side1 ?side2 A6.out).mono ?_); (case side1 => exact zc (Kd.C_below HR1.out HB.out)); (case side2 => exact HC1.out); rintro e w' ⟨rfl, ⟨nd, rfl⟩⟩; (try first | exact ⟨rfl, _, World.drewN_drewN _ _ _⟩ | exact ⟨rfl, _, Eq.trans (World.drewN_drewN _ _ _) (congrArg (World.drewN _) (Nat.add_assoc _ _ _))⟩)) | ((with_reducible refine gate_builtin (b := .append) (xs := #[.tmp 28, .tmp 30]) rfl ?_); at_builtin; refine Kd.R_append (Kd.int .i64) (w0 := w) w.heap.size rfl (.tmp 28) (.tmp 30) 40 3 (.int .i64 0) 8 rfl Tryz.underlying40 info3 rfl (by decide) (by omega) u5 x5_1 (wrap64 ((wrap64 ((rd l0 x11_1) - t436)) - x6_1)) [.int .i64 (wrap64 ((wrap64 ((rd l0 x11_1) - t436)) - x6_1))] (fun k_ => (w.heap.size ≤ k_)) (fun _ => False) rfl rfl ?aP (fun _ hk => hk.elim) ?aF ?aO ?aB ?aS ?aL ?_; (case aP => exact rfl); (case aB => exact zq1); (case aF => exact (fun k_ hk => (Nat.le_trans (below_size zq1) hk))); (case aO => exact (zq4 HO_5.out)); (case aS => exact (below_size zq1)); (case aL => have := LMc10.out; omega); intro v441 w11 ho hb hg hat; rw [← Ny440.out] at ho; refine zt2 (hb) (ho) ?_; clear HB HO_5; intro HB HO442; clear ho hb hg hat)); try go_wp2_with (first | (go_at_call 92; (with_reducible refine (rf_digit.calls _ _ l1 x11_1 t436 _ ?side1 ?side2 A6.out).mono ?_); (case side1 => exact zc (Kd.C_below HR1.out HB.out)); (case side2 => exact HC1.out); rintro e w' ⟨rfl, ⟨nd, rfl⟩⟩; (try first | exact ⟨rfl, _, World.drewN_drewN _ _ _⟩ | exact ⟨rfl, _, Eq.trans (World.drewN_drewN _ _ _) (congrArg (World.drewN _) (Nat.add_assoc _ _ _))⟩)) | ((with_reducible refine gate_builtin (b := .append) (xs := #[.tmp 28, .tmp 30]) rfl ?_); at_builtin; refine Kd.R_append (Kd.int .i64) (w0 := w) w.heap.size rfl (.tmp 28) (.tmp 30) 40 3 (.int .i64 0) 8 rfl Tryz.underlying40 info3 rfl (by decide) (by omega) u5 x5_1 (wrap64 ((wrap64 ((rd l0 x11_1) - t436)) - x6_1)) [.int .i64 (wrap64 ((wrap64 ((rd l0 x11_1) - t436)) - x6_1))] (fun k_ => (w.heap.size ≤ k_)) (fun _ => False) rfl rfl ?aP (fun _ hk => hk.elim) ?aF ?aO ?aB ?aS ?aL ?_; (case aP => exact rfl); (case aB => exact zq1); (case aF => exact (fun k_ hk => (Nat.le_trans (below_size zq1) hk))); (case aO => exact (zq4 HO_5.out)); (case aS => exact (below_size zq1)); (case aL => have := LMc10.out; omega); intro v441 w11 ho hb hg hat; rw [← Ny440.out] at ho; refine zt2 (hb) (ho) ?_; clear HB HO_5; intro HB HO442; clear ho hb hg hat)))
     go_roundg k1
     case measure => have := HK1.out; omega
     case rel => exact ⟨(y440), (0), (wrap64 (x11_1 + 1)), zq8, zq8, H', ⟨by have := HK1.out; omega⟩, ⟨zq4 HO442.out⟩, ⟨zq1⟩⟩
   ·rw [if_neg c3] at H
    have c3b0 := decide_eq_false c3
    clear c3
    replace H := zj H
    obtain ⟨t443, A12, H⟩ := H
    obtain rfl := Option.some.inj H
    obtain ⟨Ao13, co13, eo13⟩ := Kd.R_slice HO_5.out
    subst eo13
    go_wp2_with (first | (go_at_call 81; (with_reducible refine (rf_trim.calls k1 (fun k_ => some k_ = (.slice Ao13 x5_1.length co13 : Value).ownBlock) _ _ x5_1 t443 _ ?side1 A12.out).mono ?_); (case side1 => exact Kd.R_V (Kd.R_tight rfl (HO_5.out))); rintro e w14 ⟨v444, rfl, ho0, hb⟩; refine zt3 (rb HO_5 hb) (Kd.V_lower (Kd.V_mono (ok' := fun k_ => (w.heap.size ≤ k_)) ho0 (fun k_ hk_ => Or.elim hk_ (fun hs_ => ((HO_5.out).1 k_ hs_.symm)) (fun hn_ => (Nat.le_trans (below_size zq1) hn_)))) (below_size zq1)) (below_step zq1 hb) ?_; clear HO_5 HB; intro HO_5 HO445 HB))
    repeat (go_quiet (first | (go_at_call 81; (with_reducible refine (rf_trim.calls k1 (fun k_ => some k_ = (.slice Ao13 x5_1.length co13 : Value).ownBlock) _ _ x5_1 t443 _ ?side1 A12.out).mono ?_); (case side1 => exact Kd.R_V (Kd.R_tight rfl (HO_5.out))); rintro e w14 ⟨v444, rfl, ho0, hb⟩; refine zt3 (rb HO_5 hb) (Kd.V_lower (Kd.V_mono (ok' := fun k_ => (w.heap.size ≤ k_)) ho0 (fun k_ hk_ => Or.elim hk_ (fun hs_ => ((HO_5.out).1 k_ hs_.symm)) (fun hn_ => (Nat.le_trans (below_size zq1) hn_)))) (below_size zq1)) (below_step zq1 hb) ?_; clear HO_5 HB; intro HO_5 HO445 HB)); try go_wp2_with (first | (go_at_call 81; (with_reducible refine (rf_trim.calls k1 (fun k_ => some k_ = (.slice Ao13 x5_1.length co13 : Value).ownBlock) _ _ x5_1 t443 _ ?side1 A12.out).mono ?_); (case side1 => exact Kd.R_V (Kd.R_tight rfl (HO_5.out))); rintro e w14 ⟨v444, rfl, ho0, hb⟩; refine zt3 (rb HO_5 hb) (Kd.V_lower (Kd.V_mono (ok' := fun k_ => (w.heap.size ≤ k_)) ho0 (fun k_ hk_ => Or.elim hk_ (fun hs_ => ((HO_5.out).1 k_ hs_.symm)) (fun hn_ => (Nat.le_trans (below_size zq1) hn_)))) (below_size zq1)) (below_step zq1 hb) ?_; clear HO_5 HB; intro HO_5 HO445 HB)))
    go_ret
    exact ⟨_, zq9, zq3 HO445.out, zq1⟩
def rf_half.l0 : Nat → List Int → List Int → Int → Int → Option (List Int)
 | 0, _, _, _, _ => none
 | k + 1, x0, x3, x9, x10 => if x10 < x9 then (if 0 ≤ x10 then (if x10 < (x0.length : Int) then ((rf_digit.f x0 (wrap64 (x10 + 1))).bind fun t451 => (if x10 < (x3.length : Int) then (rf_half.l0 k x0 (x3.set (x10 : Int).toNat (Go.bits .or .i64 ((rd x0 x10) / 2) (wrap64 ((Go.bits .and .i64 t451 1) * 32768)))) x9 (wrap64 (x10 + 1))) else (none))) else (none)) else (none)) else ((rf_trim.f k x3).bind fun t453 => (some t453))
def rf_half.f (k : Nat) (l0 : List Int) : Option (List Int) := if 0 ≤ (l0.length : Int) then (if ((l0.length : Int) : Int).toNat ≤ 35184372088832 then (rf_half.l0 k l0 (List.replicate ((l0.length : Int) : Int).toNat 0) (l0.length : Int) 0) else (none)) else (none)
def rf_half.T5 : Bool × List (List Nat × List Nat) := (true, [([], []), ([], []), ([], []), ([], []), ([2, 3], [2, 3]), ([4], [4]), ([5], [5]), ([], []), ([], []), ([8], [8]), ([7, 9], [7, 9]), ([10], [10]), ([11], [11]), ([6, 12], [6, 12]), ([0, 1, 0, 1, 2, 3, 4, 5, 6, 7, 8, 9, 10, 11, 12, 13], [0, 1]), ([14, 13, 10, 0, 1, 2, 3, 4, 5, 6, 7, 8, 9, 10, 11, 12, 13], [13, 14])])
def rf_half.B5 : List Nat := [0, 0, 0, 0, 12, 28, 60, 0, 0, 256, 896, 1920, 3968, 8188, 16383, 32767]
theorem rf_half.tab5 : rtab .any (opsOf Tryz.f76 5) = rf_half.T5 := by kernel_rfl
theorem rf_half.bits5 : waitsOk rf_half.T5.2 rf_half.B5 = true := by kernel_rfl
set_option maxHeartbeats 8000000 in
set_option maxRecDepth 100000 in
theorem rf_half.calls (k : Nat) (A0 : Option Addr) (c0 : Nat) (l0 : List Int) (r : List Int) (w : World) (hr0 : Kd.C (Kd.int .i64) w A0 l0.length l0) (hc0 : l0.length ≤ c0) (h : rf_half.f k l0 = some r) :
  Calls Tryz.prog 76 #[.slice A0 l0.length c0] w fun e w' => ∃ v0_ : Value, e = .returned (v0_) ∧ Kd.V (Kd.int .i64) 3 w' w.heap.size (fun k_ => (w.heap.size ≤ k_)) v0_ r ∧ Below w.heap.size w w' := by
 have HR0 := am hr0
 have HC0 := am hc0
 clear hr0 hc0
 have HB := am (Below.refl w.heap.size w)
 have H := h
 unfold rf_half.f at H
 clear h
 replace H := zn H
 obtain ⟨c2, H⟩ := H
 have c2b0 := eq_true c2
 have c2b1 := decide_eq_true c2
 clear c2
 replace H := zn H
 obtain ⟨c3, H⟩ := H
 have c3b0 := eq_true c3
 have c3b1 := decide_eq_true c3
 clear c3
 obtain ⟨y447, hy447⟩ : ∃ y_ : List Int, y_ = (List.replicate ((l0.length : Int) : Int).toNat 0) := ⟨_, rfl⟩
 try rw [← hy447] at H
 have Ny447 := am hy447
 clear hy447
 have H' := am H
 clear H
 go_enter Tryz.func76, Tryz.ntmps76
 go_wp2_with (first | ((with_reducible refine gate_dst (N := 7) rfl ?_); refine Kd.R_make (Kd.int .i64) _ 3 rfl (N := 7) rfl 40 _ _ rfl (l0.length : Int) rfl rfl Tryz.underlying40 (.int .i64 0) 8 info3 rfl (by decide) (by omega) 0 (ok := fun _ => True) (okp := fun _ => True) rfl (fun _ hk => hk) trivial zq6 (Nat.le_trans (Nat.mul_le_mul_right _ (zq6 : (l0.length : Int).toNat ≤ 35184372088832)) (by omega)) (Below.refl _ _) (Nat.le_refl _) ?_; intro v448 w4 ho5 hb hg_ hnew_; clear hg_ hnew_; (first | rw [← Ny447.out] at ho5 | (simp only [Int.reduceToNat] at ho5; rw [← Ny447.out] at ho5)); refine zt2 (Kd.R_lower (Kd.R_newM (M := fun k_ => (w.heap.size ≤ k_)) ho5 (below_size zq1) (fun k_ h_ => h_)) (below_size zq1)) (below_step zq1 hb) ?_; clear HB; intro HO449 HB; clear hb ho5))
 go_loopg [10] k (fun kq v10 w' => ∃ (x3_1 : List Int) (x10_1 : Int), v10 = .int .i64 x10_1 ∧ Aside0 (rf_half.l0 kq l0 x3_1 (l0.length : Int) x10_1 = some r) ∧ Aside0 (kq ≤ k) ∧ Aside0 (Kd.R (Kd.int .i64) 3 w' w.heap.size (fun k_ => (w.heap.size ≤ k_)) v448 x3_1) ∧ Aside0 (Below w.heap.size w w'))
 case atStart => exact ⟨(y447), (0), zq8, H', ⟨Nat.le_refl _⟩, ⟨zwR (h := by exact Kd.R_mono HO449.out (fun _ hk => hk.1))⟩, ⟨zq1⟩⟩
 case round =>
  clear H'
  obtain ⟨x3_1, x10_1, rfl, HA, HK1, HO_3, HB⟩ := hrel
  cases gk with
  | zero => exact absurd HA.out (by simp [rf_half.l0])
  | succ k1 =>
   have H := HA.out
   clear HA
   simp only [rf_half.l0] at H
   by_cases c6 : x10_1 < (l0.length : Int)
   ·rw [if_pos c6] at H
    have c6b0 := decide_eq_true c6
    clear c6
    replace H := zn H
    obtain ⟨c7, H⟩ := H
    have c7b0 := decide_eq_true c7
    clear c7
    replace H := zn H
    obtain ⟨c8, H⟩ := H
    have c8b0 := decide_eq_true c8
    clear c8
    replace H := zj H
    obtain ⟨t451, A9, H⟩ := H
    replace H := zn H
    obtain ⟨c10, H⟩ := H
    have c10b0 := decide_eq_true c10
    clear c10
    obtain ⟨y452, hy452⟩ : ∃ y_ : List Int, y_ = (x3_1.set (x10_1 : Int).toNat (Go.bits .or .i64 ((rd l0 x10_1) / 2) (wrap64 ((Go.bits .and .i64 t451 1) * 32768)))) := ⟨_, rfl⟩
    try rw [← hy452] at H
    have Ny452 := am hy452
    clear hy452
    have H' := am H
    clear H
    try go_wp2
    refine zt2 (Kd.R_drew HO_3.out) (below_drew1 HB.out) ?_
    clear HO_3 HB
    intro HO_3 HB
    have p450 : 0 ≤ (x10_1 : Int) := zq6
    have q450 : x10_1 < (l0.length : Int) := zq6
    obtain ⟨ad450, e450, hx450_0⟩ := Kd.at_int HR0.out x10_1 p450 q450
    have hw450_0 := hx450_0
    cases e450
    replace hx450_0 := (HB.out.cell (World.block_lt_of_cell? w _ hx450_0)).trans hx450_0
    replace p450 := eq_true p450
    replace q450 := eq_true q450
    refine start_ (n := 16) (S := fun w' => w'.cell? (ad450.add (x10_1).toNat) = some (.int .i64 (rd l0 x10_1))) (ds := [15]) #[false, false, false, false, false, false, false, false, false, false, false, false, false, false, false, false] (by kernel_rfl) rfl rfl (((HB.out.cell (World.block_lt_of_cell? w _ hw450_0)).trans hw450_0)) (fun hHeld => ?_); refine with_tabW rf_half.tab5 rf_half.bits5 (fun HT_ HW_ => ?_)
    generalize wr.drew = w12 at HO_3 HB hx450_0 hHeld ⊢
    refine pz_ (i := 0) (N := some 13) (zmt 16 [0]) ?_
    refine pz_ (i := 1) (N := some 14) (zmt 16 [0, 1]) ?_
    refine pz_ (i := 2) (N := some 15) (zmt 16 [0, 1, 2]) ?_
    refine pz_ (i := 3) (N := some 16) (zmt 16 [0, 1, 2, 3]) ?_
    refine pz_ (i := 4) (N := some 17) (zmt 16 [0, 1, 2, 3, 4]) ?_
    refine pz_ (i := 7) (N := some 20) (zmt 16 [0, 1, 2, 3, 4, 7]) ?_
    refine pz_ (i := 8) (N := some 21) (zmt 16 [0, 1, 2, 3, 4, 7, 8]) ?_
    refine pz_ (i := 9) (N := some 22) (zmt 16 [0, 1, 2, 3, 4, 7, 8, 9]) ?_
    refine tz1 (i := 5) (N := some 18) (zmf 16 [6, 10, 11, 12, 13, 14, 15]) ?_
    refine pz_ (i := 6) (N := some 19) (zmf 16 [10, 11, 12, 13, 14, 15]) ?_
    refine one_ (i := 10) (N := some 23) (zmf 16 [11, 12, 13, 14, 15]) rfl rfl (one_of HT_.out (by kernel_rfl)) (by decide) (fun K hK => ?_)
    refine goes_ Tryz.func92 (by kernel_rfl) rfl #[.slice (some ad450) l0.length c0, .int .i64 (wrap64 (x10_1 + 1))] (by rfl) rfl rfl zq5 ?_
    with_reducible refine (rf_digit.calls _ _ l0 (wrap64 (x10_1 + 1)) t451 _ ?side1 ?side2 A9.out).mono ?_
    (case side1 => exact zc (Kd.C_below HR0.out HB.out))
    (case side2 => exact HC0.out)
    rintro e w' ⟨rfl, ⟨nd, rfl⟩⟩
    refine ⟨_, rfl, ?_⟩
    have p11 : 0 ≤ (x10_1 : Int) := zq6
    have q11 : (x10_1 : Int) < ((x3_1.length : Int) : Int) := zq6
    obtain ⟨go11, co11, eo11, gb11, gl11, cl11, HG11⟩ := Kd.R_form HO_3.out (by omega)
    (first | cases eo11 | (injection eo11 with ea_ en_ ec_; (first | subst ea_ | (injection ea_ with ea_; subst ea_)); subst ec_; clear en_))
    have GB11 := am gb11
    have GG11 := am HG11
    clear gb11 gl11 HG11
    obtain ⟨hx11_0, hf11_0⟩ := Kd.R_celln 0 HO_3.out (x10_1 : Int) p11 q11
    replace p11 := eq_true p11
    replace q11 := eq_true q11
    have HP13 := Kd.R_putn HO_3.out (x10_1 : Int) (Go.bits .or .i64 ((rd l0 x10_1) / 2) (wrap64 ((Go.bits .and .i64 t451 1) * 32768)))
    rw [← Ny452.out] at HP13
    have HQ13 := am HP13
    clear HP13
    refine hK.out _ _ (((HB.out.cell (World.block_lt_of_cell? w _ hw450_0)).trans hw450_0)) (fun hHeld => ?_)
    clear hK K
    refine nz_ (N := (some 23)) ?_
    refine pz_ (i := 11) (N := some 24) (zmf 16 [12, 13, 14, 15]) ?_
    refine pz_ (i := 12) (N := some 25) (zmf 16 [13, 14, 15]) ?_
    refine pz_ (i := 13) (N := some 26) (zmf 16 [14, 15]) ?_
    refine pz_ (i := 14) (N := some 27) (zmf 16 [15]) ?_
    refine last_ (i := 15) (N := none) (zmf 16 []) rfl rfl (one_of HT_.out (by kernel_rfl)) (by decide) (fun K hK => ?_)
    refine skip_ (w1 := ?_) (by rfl) rfl ?_ ?_
    rotate_left
    ·go_simp
     rfl
    refine hK.out _ _ ?_
    clear hK K
    refine done_ (done_of HT_.out (by kernel_rfl)) ?_
    try go_wp2
    go_roundg k1
    case measure => have := HK1.out; omega
    case rel => exact ⟨(y452), (wrap64 (x10_1 + 1)), zq8, H', ⟨by have := HK1.out; omega⟩, ⟨zq4 HQ13.out⟩, ⟨zb1 GB11.out⟩⟩
   ·rw [if_neg c6] at H
    have c6b0 := decide_eq_false c6
    clear c6
    replace H := zj H
    obtain ⟨t453, A14, H⟩ := H
    obtain rfl := Option.some.inj H
    obtain ⟨Ao15, co15, eo15⟩ := Kd.R_slice HO_3.out
    subst eo15
    go_wp2_with (first | ((with_reducible refine gate_callee (f := 81) rfl ?_); refine goesL_ (some 30) rfl rfl Tryz.func81 (by kernel_rfl) rfl #[.slice Ao15 x3_1.length co15] rfl zq5 ?_; (with_reducible refine (rf_trim.calls k1 (fun k_ => some k_ = (.slice Ao15 x3_1.length co15 : Value).ownBlock) _ _ x3_1 t453 _ ?side1 A14.out).mono ?_); (case side1 => exact Kd.R_V (Kd.R_tight rfl (HO_3.out))); rintro e w16 ⟨v454, rfl, ho0, hb⟩; refine ⟨_, rfl, ?_⟩; refine zt3 (rb HO_3 hb) (Kd.V_lower (Kd.V_mono (ok' := fun k_ => (w.heap.size ≤ k_)) ho0 (fun k_ hk_ => Or.elim hk_ (fun hs_ => ((HO_3.out).1 k_ hs_.symm)) (fun hn_ => (Nat.le_trans (below_size zq1) hn_)))) (below_size zq1)) (below_step zq1 hb) ?_; clear HO_3 HB; intro HO_3 HO455 HB))
    go_ret
    exact ⟨_, zq9, zq3 HO455.out, zq1⟩
def rf_ShlNat.l0 : Nat → Int → List Int → Int → List Int → Int → Int → Option (List Int)
 | 0, _, _, _, _, _, _ => none
 | k + 1, x1, x5, x6, x16, x17, x18 => if x18 < x17 then (if 0 ≤ x18 then (if x18 < (x16.length : Int) then (if 0 ≤ (Int.tmod x1 16) then (if x5.length < 17592186044416 then (rf_ShlNat.l0 k x1 (x5 ++ [Int.tmod (Go.bits .or .i64 (shl .i64 (rd x16 x18) (Int.tmod x1 16)) x6) 65536]) (wrap64 (Int.tdiv (Go.bits .or .i64 (shl .i64 (rd x16 x18) (Int.tmod x1 16)) x6) 65536)) x16 x17 (wrap64 (x18 + 1))) else (none)) else (none)) else (none)) else (none)) else (if x5.length < 17592186044416 then ((rf_trim.f k (x5 ++ [x6])).bind fun t466 => (some t466)) else (none))
def rf_ShlNat.f (k : Nat) (l0 : List Int) (a1 : Int) : Option (List Int) := if (l0.length : Int) = 0 then (some ([] : List Int)) else (if 0 ≤ (wrap64 (Int.tdiv a1 16)) then (if (wrap64 (Int.tdiv a1 16) : Int).toNat ≤ 35184372088832 then (rf_ShlNat.l0 k a1 (List.replicate (wrap64 (Int.tdiv a1 16) : Int).toNat 0) 0 l0 (l0.length : Int) 0) else (none)) else (none))
set_option maxHeartbeats 8000000 in
set_option maxRecDepth 100000 in
theorem rf_ShlNat.calls (k : Nat) (A0 : Option Addr) (c0 : Nat) (l0 : List Int) (a1 : Int) (r : List Int) (w : World) (hr0 : Kd.C (Kd.int .i64) w A0 l0.length l0) (hc0 : l0.length ≤ c0) (h : rf_ShlNat.f k l0 a1 = some r) :
  Calls Tryz.prog 77 #[.slice A0 l0.length c0, .int .i64 a1] w fun e w' => ∃ v0_ : Value, e = .returned (v0_) ∧ Kd.V (Kd.int .i64) 3 w' w.heap.size (fun k_ => (w.heap.size ≤ k_)) v0_ r ∧ Below w.heap.size w w' := by
 have HR0 := am hr0
 have HC0 := am hc0
 clear hr0 hc0
 have HB := am (Below.refl w.heap.size w)
 have H := h
 unfold rf_ShlNat.f at H
 clear h
 by_cases c3 : (l0.length : Int) = 0
 ·rw [if_pos c3] at H
  have c3b0 : ((l0.length : Int) == 0) = true := beq_iff_eq.mpr c3
  have c3b1 : ((l0.length : Int) != 0) = false := bne_eq_false_iff_eq.mpr c3
  clear c3
  obtain rfl := Option.some.inj H
  go_enter Tryz.func77, Tryz.ntmps77
  go_wp2
  go_ret
  exact ⟨_, zq9, Kd.V_nil _ _ _ _ _, zq1⟩
 ·rw [if_neg c3] at H
  have c3b0 : ((l0.length : Int) == 0) = false := beq_eq_false_iff_ne.mpr c3
  have c3b1 : ((l0.length : Int) != 0) = true := bne_iff_ne.mpr c3
  have c3b2 : ¬ (l0 = []) := fun h_ => c3 (by rw [h_]; rfl)
  obtain ⟨ji4, hji4⟩ : ∃ j_ : Int, (wrap64 (Int.tdiv a1 16)) = j_ := ⟨_, rfl⟩
  replace H : (if 0 ≤ (ji4) then (if (ji4 : Int).toNat ≤ 35184372088832 then (rf_ShlNat.l0 k a1 (List.replicate (ji4 : Int).toNat 0) 0 l0 (l0.length : Int) 0) else (none)) else (none)) = some r := by first | (rw [hji4] at H; exact H) | (simp only [hji4] at H ⊢; exact H)
  have hji4w : (IntKind.i64.wrap (Int.tdiv a1 16)) = ji4 := (i64_w _).trans hji4
  replace H := zn H
  obtain ⟨c5, H⟩ := H
  have c5b0 := eq_true c5
  have c5b1 := decide_eq_true c5
  clear c5
  replace H := zn H
  obtain ⟨c6, H⟩ := H
  have c6b0 := eq_true c6
  have c6b1 := decide_eq_true c6
  clear c6
  obtain ⟨y456, hy456⟩ : ∃ y_ : List Int, y_ = (List.replicate (ji4 : Int).toNat 0) := ⟨_, rfl⟩
  try rw [← hy456] at H
  have Ny456 := am hy456
  clear hy456
  have H' := am H
  clear H
  go_enter Tryz.func77, Tryz.ntmps77
  go_wp2_with (first | ((with_reducible refine gate_dst (N := 15) rfl ?_); refine Kd.R_make (Kd.int .i64) _ 3 rfl (N := 15) rfl 40 _ _ rfl ji4 rfl rfl Tryz.underlying40 (.int .i64 0) 8 info3 rfl (by decide) (by omega) 0 (ok := fun _ => True) (okp := fun _ => True) rfl (fun _ hk => hk) trivial zq6 (Nat.le_trans (Nat.mul_le_mul_right _ (zq6 : ji4.toNat ≤ 35184372088832)) (by omega)) (Below.refl _ _) (Nat.le_refl _) ?_; intro v457 w7 ho8 hb hg_ hnew_; clear hg_ hnew_; (first | rw [← Ny456.out] at ho8 | (simp only [Int.reduceToNat] at ho8; rw [← Ny456.out] at ho8)); refine zt2 (Kd.R_lower (Kd.R_newM (M := fun k_ => (w.heap.size ≤ k_)) ho8 (below_size zq1) (fun k_ h_ => h_)) (below_size zq1)) (below_step zq1 hb) ?_; clear HB; intro HO458 HB; clear hb ho8))
  go_loopg [5, 6, 18] k (fun kq v5 v6 v18 w' => ∃ (x5_1 : List Int) (x6_1 : Int) (x18_1 : Int), v6 = .int .i64 x6_1 ∧ v18 = .int .i64 x18_1 ∧ Aside0 (rf_ShlNat.l0 kq a1 x5_1 x6_1 l0 (l0.length : Int) x18_1 = some r) ∧ Aside0 (kq ≤ k) ∧ Aside0 (Kd.R (Kd.int .i64) 3 w' w.heap.size (fun k_ => (w.heap.size ≤ k_)) v5 x5_1) ∧ Aside0 (Below w.heap.size w w'))
  case atStart => exact ⟨(y456), (0), (0), zq8, zq8, H', ⟨Nat.le_refl _⟩, ⟨zwR (h := by exact Kd.R_mono HO458.out (fun _ hk => hk.1))⟩, ⟨zq1⟩⟩
  case round =>
   clear H'
   obtain ⟨x5_1, x6_1, x18_1, rfl, rfl, HA, HK1, HO_5, HB⟩ := hrel
   cases gk with
   | zero => exact absurd HA.out (by simp [rf_ShlNat.l0])
   | succ k1 =>
    have H := HA.out
    clear HA
    simp only [rf_ShlNat.l0] at H
    by_cases c9 : x18_1 < (l0.length : Int)
    ·rw [if_pos c9] at H
     have c9b0 := decide_eq_true c9
     clear c9
     replace H := zn H
     obtain ⟨c10, H⟩ := H
     have c10b0 := decide_eq_true c10
     clear c10
     replace H := zn H
     obtain ⟨c11, H⟩ := H
     have c11b0 := decide_eq_true c11
     clear c11
     obtain ⟨ji12, hji12⟩ : ∃ j_ : Int, (Int.tmod a1 16) = j_ := ⟨_, rfl⟩
     replace H : (if 0 ≤ (ji12) then (if x5_1.length < 17592186044416 then (rf_ShlNat.l0 k1 a1 (x5_1 ++ [Int.tmod (Go.bits .or .i64 (shl .i64 (rd l0 x18_1) (ji12)) x6_1) 65536]) (wrap64 (Int.tdiv (Go.bits .or .i64 (shl .i64 (rd l0 x18_1) (ji12)) x6_1) 65536)) l0 (l0.length : Int) (wrap64 (x18_1 + 1))) else (none)) else (none)) = some r := by first | (rw [hji12] at H; exact H) | (simp only [hji12] at H ⊢; exact H)
     replace H := zn H
     obtain ⟨c13, H⟩ := H
     have c13b0 := eq_true c13
     have c13b1 := decide_eq_true c13
     clear c13
     obtain ⟨ji14, hji14⟩ : ∃ j_ : Int, (shl .i64 (rd l0 x18_1) (ji12)) = j_ := ⟨_, rfl⟩
     replace H : (if x5_1.length < 17592186044416 then (rf_ShlNat.l0 k1 a1 (x5_1 ++ [Int.tmod (Go.bits .or .i64 (ji14) x6_1) 65536]) (wrap64 (Int.tdiv (Go.bits .or .i64 (ji14) x6_1) 65536)) l0 (l0.length : Int) (wrap64 (x18_1 + 1))) else (none)) = some r := by first | (rw [hji14] at H; exact H) | (simp only [hji14] at H ⊢; exact H)
     have hji14_ : (IntKind.i64.wrap ((rd l0 x18_1) * 2 ^ min (ji12).toNat 64)) = ji14 := hji14
     have hji14z : (ji12) ≤ 64 → (IntKind.i64.wrap ((rd l0 x18_1) * 2 ^ (ji12).toNat)) = ji14 := shl_small hji14
     have hji14y : (wrap64 ((rd l0 x18_1) * 2 ^ min (ji12).toNat 64)) = ji14 := (i64_w _).symm.trans hji14_
     have hji14x : (ji12) ≤ 64 → (wrap64 ((rd l0 x18_1) * 2 ^ (ji12).toNat)) = ji14 := fun h_ => (i64_w _).symm.trans (hji14z h_)
     replace H := zn H
     obtain ⟨c15, H⟩ := H
     have LMc15 := am c15
     clear c15
     obtain ⟨y460, hy460⟩ : ∃ y_ : List Int, y_ = (x5_1 ++ [Int.tmod (Go.bits .or .i64 (ji14) x6_1) 65536]) := ⟨_, rfl⟩
     try rw [← hy460] at H
     have Ny460 := am hy460
     clear hy460
     have H' := am H
     clear H
     have p459 : 0 ≤ (x18_1 : Int) := zq6
     have q459 : x18_1 < (l0.length : Int) := zq6
     obtain ⟨ad459, e459, hx459_0⟩ := Kd.at_int HR0.out x18_1 p459 q459
     cases e459
     replace hx459_0 := (HB.out.cell (World.block_lt_of_cell? w _ hx459_0)).trans hx459_0
     replace p459 := eq_true p459
     replace q459 := eq_true q459
     go_wp2_with (first | ((with_reducible refine gate_builtin (b := .append) (xs := #[.tmp 28, .tmp 31]) rfl ?_); at_builtin; refine Kd.R_append (Kd.int .i64) (w0 := w) w.heap.size rfl (.tmp 28) (.tmp 31) 40 3 (.int .i64 0) 8 rfl Tryz.underlying40 info3 rfl (by decide) (by omega) u5 x5_1 (Int.tmod (Go.bits .or .i64 (ji14) x6_1) 65536) [.int .i64 (Int.tmod (Go.bits .or .i64 (ji14) x6_1) 65536)] (fun k_ => (w.heap.size ≤ k_)) (fun _ => False) rfl rfl ?aP (fun _ hk => hk.elim) ?aF ?aO ?aB ?aS ?aL ?_; (case aP => exact rfl); (case aB => exact zq1); (case aF => exact (fun k_ hk => (Nat.le_trans (below_size zq1) hk))); (case aO => exact (zq4 HO_5.out)); (case aS => exact (below_size zq1)); (case aL => have := LMc15.out; omega); intro v461 w16 ho hb hg hat; rw [← Ny460.out] at ho; refine zt2 (hb) (ho) ?_; clear HB HO_5; intro HB HO462; clear ho hb hg hat))
     go_roundg k1
     case measure => have := HK1.out; omega
     case rel => exact ⟨(y460), (wrap64 (Int.tdiv (Go.bits .or .i64 (ji14) x6_1) 65536)), (wrap64 (x18_1 + 1)), (by first | rfl | (simp; done) | (simp only [← hji14] <;> (first | rfl | simp)) | (simp [*]; done)), zq8, (by first | exact H' | (rw [hji4]; exact H') | (rw [hji12]; exact H') | (rw [hji14]; exact H')), ⟨by have := HK1.out; omega⟩, ⟨zq4 HO462.out⟩, ⟨zq1⟩⟩
    ·rw [if_neg c9] at H
     have c9b0 := decide_eq_false c9
     clear c9
     replace H := zn H
     obtain ⟨c17, H⟩ := H
     have LMc17 := am c17
     clear c17
     obtain ⟨y463, hy463⟩ : ∃ y_ : List Int, y_ = (x5_1 ++ [x6_1]) := ⟨_, rfl⟩
     try rw [← hy463] at H
     have Ny463 := am hy463
     clear hy463
     replace H := zj H
     obtain ⟨t466, A18, H⟩ := H
     obtain rfl := Option.some.inj H
     go_wp2_with (first | ((with_reducible refine gate_builtin (b := .append) (xs := #[.tmp 36, .tmp 38]) rfl ?_); at_builtin; refine Kd.R_append (Kd.int .i64) (w0 := w) w.heap.size rfl (.tmp 36) (.tmp 38) 40 3 (.int .i64 0) 8 rfl Tryz.underlying40 info3 rfl (by decide) (by omega) u5 x5_1 x6_1 [.int .i64 x6_1] (fun k_ => (w.heap.size ≤ k_)) (fun _ => False) rfl rfl ?aP (fun _ hk => hk.elim) ?aF ?aO ?aB ?aS ?aL ?_; (case aP => exact rfl); (case aB => exact zq1); (case aF => exact (fun k_ hk => (Nat.le_trans (below_size zq1) hk))); (case aO => exact (zq4 HO_5.out)); (case aS => exact (below_size zq1)); (case aL => have := LMc17.out; omega); intro v464 w19 ho hb hg hat; rw [← Ny463.out] at ho; refine zt2 (hb) (ho) ?_; clear HB HO_5; intro HB HO465; clear ho hb hg hat; obtain ⟨Ao20, co20, eo20⟩ := Kd.R_slice HO465.out; subst eo20) | ((with_reducible refine gate_callee (f := 81) rfl ?_); refine goesL_ (some 40) rfl rfl Tryz.func81 (by kernel_rfl) rfl #[.slice Ao20 y463.length co20] rfl zq5 ?_; (with_reducible refine (rf_trim.calls k1 (fun k_ => some k_ = (.slice Ao20 y463.length co20 : Value).ownBlock) _ _ y463 t466 _ ?side1 A18.out).mono ?_); (case side1 => exact Kd.R_V (Kd.R_tight rfl (HO465.out))); rintro e w21 ⟨v467, rfl, ho0, hb⟩; refine ⟨_, rfl, ?_⟩; refine zt3 (rb HO465 hb) (Kd.V_lower (Kd.V_mono (ok' := fun k_ => (w.heap.size ≤ k_)) ho0 (fun k_ hk_ => Or.elim hk_ (fun hs_ => ((HO465.out).1 k_ hs_.symm)) (fun hn_ => (Nat.le_trans (below_size zq1) hn_)))) (below_size zq1)) (below_step zq1 hb) ?_; clear HO465 HB; intro HO465 HO468 HB))
     go_ret
     exact ⟨_, by first | rfl | (simp [errW_none, errW_some] <;> rfl) | (simp only [← hji4]; first | rfl | (simp [errW_none, errW_some] <;> rfl)) | (simp [*, errW_none, errW_some] <;> rfl), zq3 HO468.out, zq1⟩
mutual
def rf_GcdNat.l0 : Nat → List Int → List Int → Int → Option (List Int)
 | 0, _, _, _ => none
 | k + 1, x0, x1, x5 => (rf_bit.f x0 0).bind fun t469 => (if t469 = 0 then ((rf_bit.f x1 0).bind fun t470 => (rf_GcdNat.j1 k x0 x1 x5 (t470 == 0))) else (rf_GcdNat.j1 k x0 x1 x5 false))
def rf_GcdNat.j1 : Nat → List Int → List Int → Int → Bool → Option (List Int)
 | 0, _, _, _, _ => none
 | k + 1, x0, x1, x5, x22 => if x22 = true then ((rf_half.f k x0).bind fun t471 => ((rf_half.f k x1).bind fun t474 => (rf_GcdNat.l0 k t471 t474 (wrap64 (x5 + 1))))) else (rf_GcdNat.l1 k x0 x1 x5)
def rf_GcdNat.l1 : Nat → List Int → List Int → Int → Option (List Int)
 | 0, _, _, _ => none
 | k + 1, x0, x1, x5 => if (x0.length : Int) > 0 then (rf_GcdNat.l2 k x0 x1 x5) else ((rf_ShlNat.f k x1 x5).bind fun t477 => (some t477))
def rf_GcdNat.l2 : Nat → List Int → List Int → Int → Option (List Int)
 | 0, _, _, _ => none
 | k + 1, x0, x1, x5 => (rf_bit.f x0 0).bind fun t480 => (if t480 = 0 then ((rf_half.f k x0).bind fun t481 => (rf_GcdNat.l2 k t481 x1 x5)) else (rf_GcdNat.l3 k x0 x1 x5))
def rf_GcdNat.l3 : Nat → List Int → List Int → Int → Option (List Int)
 | 0, _, _, _ => none
 | k + 1, x0, x1, x5 => (rf_bit.f x1 0).bind fun t484 => (if t484 = 0 then ((rf_half.f k x1).bind fun t485 => (rf_GcdNat.l3 k x0 t485 x5)) else ((rf_CmpNat.f k x0 x1).bind fun t488 => (if t488 < 0 then ((rf_SubNat.f k x1 x0).bind fun t489 => (rf_GcdNat.l1 k t489 x0 x5)) else ((rf_SubNat.f k x0 x1).bind fun t492 => (rf_GcdNat.l1 k t492 x1 x5)))))
end
def rf_GcdNat.f (k : Nat) (l0 : List Int) (l1 : List Int) : Option (List Int) := if (l0.length : Int) = 0 then (some l1) else (if (l1.length : Int) = 0 then (some l0) else (rf_GcdNat.l0 k l0 l1 0))
set_option maxHeartbeats 8000000 in
set_option maxRecDepth 100000 in
theorem rf_GcdNat.calls (k : Nat) (P0_ : Nat → Prop) (A0 : Option Addr) (c0 : Nat) (l0 : List Int) (P1_ : Nat → Prop) (A1 : Option Addr) (c1 : Nat) (l1 : List Int) (r : List Int) (w : World) (hs0 : Kd.V (Kd.int .i64) 3 w w.heap.size (fun k_ => P0_ k_) (.slice A0 l0.length c0) l0) (hs1 : Kd.V (Kd.int .i64) 3 w w.heap.size (fun k_ => P1_ k_) (.slice A1 l1.length c1) l1) (h : rf_GcdNat.f k l0 l1 = some r) :
  Calls Tryz.prog 39 #[.slice A0 l0.length c0, .slice A1 l1.length c1] w fun e w' => ∃ v0_ : Value, e = .returned (v0_) ∧ Kd.V (Kd.int .i64) 3 w' w.heap.size (fun k_ => ((P0_ k_ ∨ P1_ k_) ∨ w.heap.size ≤ k_)) v0_ r ∧ Below w.heap.size w w' := by
 have HO0 := am (show Kd.V (Kd.int .i64) 3 w w.heap.size (fun k_ => ((P0_ k_ ∨ P1_ k_) ∨ w.heap.size ≤ k_)) (.slice A0 l0.length c0) l0 from Kd.V_mono hs0 (fun k_ hk => .inl (.inl hk)))
 have HO1 := am (show Kd.V (Kd.int .i64) 3 w w.heap.size (fun k_ => ((P0_ k_ ∨ P1_ k_) ∨ w.heap.size ≤ k_)) (.slice A1 l1.length c1) l1 from Kd.V_mono hs1 (fun k_ hk => .inl (.inr hk)))
 have HB := am (Below.refl w.heap.size w)
 have H := h
 unfold rf_GcdNat.f at H
 clear h
 by_cases c3 : (l0.length : Int) = 0
 ·rw [if_pos c3] at H
  have c3b0 : ((l0.length : Int) == 0) = true := beq_iff_eq.mpr c3
  have c3b1 : ((l0.length : Int) != 0) = false := bne_eq_false_iff_eq.mpr c3
  clear c3
  obtain rfl := Option.some.inj H
  go_enter Tryz.func39, Tryz.ntmps39
  go_wp2
  go_ret
  exact ⟨_, zq9, zq3 HO1.out, zq1⟩
 ·rw [if_neg c3] at H
  have c3b0 : ((l0.length : Int) == 0) = false := beq_eq_false_iff_ne.mpr c3
  have c3b1 : ((l0.length : Int) != 0) = true := bne_iff_ne.mpr c3
  have c3b2 : ¬ (l0 = []) := fun h_ => c3 (by rw [h_]; rfl)
  by_cases c4 : (l1.length : Int) = 0
  ·rw [if_pos c4] at H
   have c4b0 : ((l1.length : Int) == 0) = true := beq_iff_eq.mpr c4
   have c4b1 : ((l1.length : Int) != 0) = false := bne_eq_false_iff_eq.mpr c4
   clear c4
   obtain rfl := Option.some.inj H
   go_enter Tryz.func39, Tryz.ntmps39
   go_wp2
   go_ret
   exact ⟨_, zq9, zq3 HO0.out, zq1⟩
  ·rw [if_neg c4] at H
   have c4b0 : ((l1.length : Int) == 0) = false := beq_eq_false_iff_ne.mpr c4
   have c4b1 : ((l1.length : Int) != 0) = true := bne_iff_ne.mpr c4
   have c4b2 : ¬ (l1 = []) := fun h_ => c4 (by rw [h_]; rfl)
   have H' := am H
   clear H
   go_enter Tryz.func39, Tryz.ntmps39
   go_wp2
   go_loopg [0, 1, 5] k (fun kq v0 v1 v5 w' => ∃ (x0_1 : List Int) (x1_1 : List Int) (x5_1 : Int), v5 = .int .i64 x5_1 ∧ Aside0 (rf_GcdNat.l0 kq x0_1 x1_1 x5_1 = some r) ∧ Aside0 (kq ≤ k) ∧ Aside0 (Kd.V (Kd.int .i64) 3 w' w.heap.size (fun k_ => ((P0_ k_ ∨ P1_ k_) ∨ w.heap.size ≤ k_)) v0 x0_1) ∧ Aside0 (Kd.V (Kd.int .i64) 3 w' w.heap.size (fun k_ => ((P0_ k_ ∨ P1_ k_) ∨ w.heap.size ≤ k_)) v1 x1_1) ∧ Aside0 (Below w.heap.size w w'))
   case atStart => exact ⟨(l0), (l1), (0), zq8, H', ⟨Nat.le_refl _⟩, ⟨zq3 HO0.out⟩, ⟨zq3 HO1.out⟩, ⟨zq1⟩⟩
   case round =>
    clear H'
    obtain ⟨x0_1, x1_1, x5_1, rfl, HA, HK1, HO_0, HO_1, HB⟩ := hrel
    cases gk with
    | zero => exact absurd HA.out (by simp [rf_GcdNat.l0])
    | succ k1 =>
     have H := HA.out
     clear HA
     simp only [rf_GcdNat.l0] at H
     have HC5 := am H
     clear H
     go_upto_region 6 with (fail)
     go_cut [22] (fun v22 wc => ∃ (kq : Nat) (x22_4 : Bool), v22 = .bool x22_4 ∧ Aside0 (rf_GcdNat.j1 kq x0_1 x1_1 x5_1 x22_4 = some r) ∧ Aside0 (kq ≤ k1) ∧ Aside0 (Kd.V (Kd.int .i64) 3 wc w.heap.size (fun k_ => ((P0_ k_ ∨ P1_ k_) ∨ w.heap.size ≤ k_)) u0 x0_1) ∧ Aside0 (Kd.V (Kd.int .i64) 3 wc w.heap.size (fun k_ => ((P0_ k_ ∨ P1_ k_) ∨ w.heap.size ≤ k_)) u1 x1_1) ∧ Aside0 (Below w.heap.size w wc))
     case first =>
      have H := HC5.out
      clear HC5
      replace H := zj H
      obtain ⟨t469, A6, H⟩ := H
      by_cases c7 : t469 = 0
      ·rw [if_pos c7] at H
       have c7b0 : (t469 == 0) = true := beq_iff_eq.mpr c7
       have c7b1 : (t469 != 0) = false := bne_eq_false_iff_eq.mpr c7
       clear c7
       (first | rw [c7b0] | (simp only [i64_w, i32_w]; rw [c7b0]) | skip)
       replace H := zj H
       obtain ⟨t470, A8, H⟩ := H
       have H' := am H
       clear H
       obtain ⟨Ao9, co9, eo9⟩ := Kd.V_slice HO_0.out
       subst eo9
       go_wp2_with (first | ((with_reducible refine gate_callee (f := 75) rfl ?_); refine goesL_ (some 16) rfl rfl Tryz.func75 (by kernel_rfl) rfl #[.slice Ao9 x0_1.length co9, .int .i64 0] rfl zq5 ?_; (with_reducible refine (rf_bit.calls _ _ x0_1 0 t469 _ ?side1 ?side2 A6.out).mono ?_); (case side1 => exact zc ((Kd.V_reads' HO_0.out).2.2)); (case side2 => exact (Kd.V_reads' HO_0.out).2.1); rintro e w' ⟨rfl, ⟨nd, rfl⟩⟩; refine ⟨_, rfl, ?_⟩; obtain ⟨Ao10, co10, eo10⟩ := Kd.V_slice HO_1.out; subst eo10) | (go_at_call 75; (with_reducible refine (rf_bit.calls _ _ x1_1 0 t470 _ ?side1 ?side2 A8.out).mono ?_); (case side1 => exact zc ((Kd.V_reads' HO_1.out).2.2)); (case side2 => exact (Kd.V_reads' HO_1.out).2.1); rintro e w' ⟨rfl, ⟨nd, rfl⟩⟩))
       go_meet
       case rel => exact ⟨_, ((t470 == 0)), zq8, H', ⟨by have := HK1.out; first | omega | exact Nat.le_refl _⟩, ⟨zq3 HO_0.out⟩, ⟨zq3 HO_1.out⟩, ⟨zq1⟩⟩
      ·rw [if_neg c7] at H
       have c7b0 : (t469 == 0) = false := beq_eq_false_iff_ne.mpr c7
       have c7b1 : (t469 != 0) = true := bne_iff_ne.mpr c7
       (first | rw [c7b0] | (simp only [i64_w, i32_w]; rw [c7b0]) | skip)
       have H' := am H
       clear H
       obtain ⟨Ao11, co11, eo11⟩ := Kd.V_slice HO_0.out
       subst eo11
       go_wp2_with (first | ((with_reducible refine gate_callee (f := 75) rfl ?_); refine goesL_ (some 16) rfl rfl Tryz.func75 (by kernel_rfl) rfl #[.slice Ao11 x0_1.length co11, .int .i64 0] rfl zq5 ?_; (with_reducible refine (rf_bit.calls _ _ x0_1 0 t469 _ ?side1 ?side2 A6.out).mono ?_); (case side1 => exact zc ((Kd.V_reads' HO_0.out).2.2)); (case side2 => exact (Kd.V_reads' HO_0.out).2.1); rintro e w' ⟨rfl, ⟨nd, rfl⟩⟩; refine ⟨_, rfl, ?_⟩))
       go_meet
       case rel => exact ⟨_, (false), zq8, H', ⟨by have := HK1.out; first | omega | exact Nat.le_refl _⟩, ⟨zq3 HO_0.out⟩, ⟨zq3 HO_1.out⟩, ⟨zq1⟩⟩
     case rest =>
      clear HC5
      obtain ⟨kq, x22_4, rfl, HA, HJ4, HO_0, HO_1, HB⟩ := hcut
      cases kq with
      | zero => exact absurd HA.out (by simp [rf_GcdNat.j1])
      | succ kj4 =>
       have H := HA.out
       clear HA
       simp only [rf_GcdNat.j1] at H
       by_cases c12 : x22_4 = true
       ·subst c12
        have H1 : ((rf_half.f kj4 x0_1).bind fun t471 => ((rf_half.f kj4 x1_1).bind fun t474 => (rf_GcdNat.l0 kj4 t471 t474 (wrap64 (x5_1 + 1))))) = some r := by rw [if_pos rfl] at H; exact H
        clear H
        have H := H1
        clear H1
        replace H := zj H
        obtain ⟨t471, A13, H⟩ := H
        replace H := zj H
        obtain ⟨t474, A14, H⟩ := H
        have H' := am H
        clear H
        obtain ⟨Ao15, co15, eo15⟩ := Kd.V_slice HO_0.out
        subst eo15
        go_wp2_with (first | ((with_reducible refine gate_callee (f := 76) rfl ?_); refine goesL_ (some 24) rfl rfl Tryz.func76 (by kernel_rfl) rfl #[.slice Ao15 x0_1.length co15] rfl zq5 ?_; (with_reducible refine (rf_half.calls kj4 _ _ x0_1 t471 _ ?side1 ?side2 A13.out).mono ?_); (case side1 => exact zc ((Kd.V_reads' HO_0.out).2.2)); (case side2 => exact (Kd.V_reads' HO_0.out).2.1); rintro e w16 ⟨v472, rfl, ho0, hb⟩; refine ⟨_, rfl, ?_⟩; refine zt4 (vb HO_0 hb) (vb HO_1 hb) (Kd.V_lower (Kd.V_mono (ok' := fun k_ => ((P0_ k_ ∨ P1_ k_) ∨ w.heap.size ≤ k_)) ho0 (fun k_ hk_ => (.inr (Nat.le_trans (below_size zq1) hk_)))) (below_size zq1)) (below_step zq1 hb) ?_; clear HO_0 HO_1 HB; intro HO_0 HO_1 HO473 HB; obtain ⟨Ao17, co17, eo17⟩ := Kd.V_slice HO_1.out; subst eo17) | ((with_reducible refine gate_callee (f := 76) rfl ?_); refine goesL_ (some 26) rfl rfl Tryz.func76 (by kernel_rfl) rfl #[.slice Ao17 x1_1.length co17] rfl zq5 ?_; (with_reducible refine (rf_half.calls kj4 _ _ x1_1 t474 _ ?side1 ?side2 A14.out).mono ?_); (case side1 => exact zc ((Kd.V_reads' HO_1.out).2.2)); (case side2 => exact (Kd.V_reads' HO_1.out).2.1); rintro e w18 ⟨v475, rfl, ho0, hb⟩; refine ⟨_, rfl, ?_⟩; refine zt5 (vb HO_0 hb) (vb HO_1 hb) (vb HO473 hb) (Kd.V_lower (Kd.V_mono (ok' := fun k_ => ((P0_ k_ ∨ P1_ k_) ∨ w.heap.size ≤ k_)) ho0 (fun k_ hk_ => (.inr (Nat.le_trans (below_size zq1) hk_)))) (below_size zq1)) (below_step zq1 hb) ?_; clear HO_0 HO_1 HO473 HB; intro HO_0 HO_1 HO473 HO476 HB))
        go_roundg kj4
        case measure => have := HK1.out; have := HJ4.out; omega
        case rel => exact ⟨(t471), (t474), (wrap64 (x5_1 + 1)), zq8, H', ⟨by have := HK1.out; have := HJ4.out; omega⟩, ⟨zq3 HO473.out⟩, ⟨zq3 HO476.out⟩, ⟨zq1⟩⟩
       ·replace c12 := Bool.eq_false_iff.mpr c12
        subst c12
        have H1 : (rf_GcdNat.l1 kj4 x0_1 x1_1 x5_1) = some r := by rw [if_neg (show ¬ (false = true) by decide)] at H; exact H
        clear H
        have H := H1
        clear H1
        have H' := am H
        clear H
        go_wp2
        go_loopg [0, 1] kj4 (fun kq v0 v1 w' => ∃ (x0_3 : List Int) (x1_3 : List Int), Aside0 (rf_GcdNat.l1 kq x0_3 x1_3 x5_1 = some r) ∧ Aside0 (kq ≤ kj4) ∧ Aside0 (Kd.V (Kd.int .i64) 3 w' w.heap.size (fun k_ => ((P0_ k_ ∨ P1_ k_) ∨ w.heap.size ≤ k_)) v0 x0_3) ∧ Aside0 (Kd.V (Kd.int .i64) 3 w' w.heap.size (fun k_ => ((P0_ k_ ∨ P1_ k_) ∨ w.heap.size ≤ k_)) v1 x1_3) ∧ Aside0 (Below w.heap.size w w'))
        case atStart => exact ⟨(x0_1), (x1_1), H', ⟨Nat.le_refl _⟩, ⟨zq3 HO_0.out⟩, ⟨zq3 HO_1.out⟩, ⟨zq1⟩⟩
        case round =>
         clear H'
         obtain ⟨x0_3, x1_3, HA, HK3, HO_0, HO_1, HB⟩ := hrel
         cases gk with
         | zero => exact absurd HA.out (by simp [rf_GcdNat.l1])
         | succ k3 =>
          have H := HA.out
          clear HA
          simp only [rf_GcdNat.l1] at H
          by_cases c19 : (x0_3.length : Int) > 0
          ·rw [if_pos c19] at H
           have c19b0 : decide (0 < (x0_3.length : Int)) = true := decide_eq_true c19
           have c19b1 : decide (0 < x0_3.length) = true := decide_eq_true (by omega)
           clear c19
           have H' := am H
           clear H
           obtain ⟨Ao20, co20, eo20⟩ := Kd.V_slice HO_0.out
           subst eo20
           go_wp2
           go_loopg [0] k3 (fun kq v0 w' => ∃ (x0_4 : List Int), Aside0 (rf_GcdNat.l2 kq x0_4 x1_3 x5_1 = some r) ∧ Aside0 (kq ≤ k3) ∧ Aside0 (Kd.V (Kd.int .i64) 3 w' w.heap.size (fun k_ => ((P0_ k_ ∨ P1_ k_) ∨ w.heap.size ≤ k_)) v0 x0_4) ∧ Aside0 (Kd.V (Kd.int .i64) 3 w' w.heap.size (fun k_ => ((P0_ k_ ∨ P1_ k_) ∨ w.heap.size ≤ k_)) u1 x1_3) ∧ Aside0 (Below w.heap.size w w'))
           case atStart => exact ⟨(x0_3), H', ⟨Nat.le_refl _⟩, ⟨zq3 HO_0.out⟩, ⟨zq3 HO_1.out⟩, ⟨zq1⟩⟩
           case round =>
            clear H'
            obtain ⟨x0_4, HA, HK4, HO_0, HO_1, HB⟩ := hrel
            cases gk with
            | zero => exact absurd HA.out (by simp [rf_GcdNat.l2])
            | succ k4 =>
             have H := HA.out
             clear HA
             simp only [rf_GcdNat.l2] at H
             replace H := zj H
             obtain ⟨t480, A21, H⟩ := H
             by_cases c22 : t480 = 0
             ·rw [if_pos c22] at H
              have c22b0 : (t480 == 0) = true := beq_iff_eq.mpr c22
              have c22b1 : (t480 != 0) = false := bne_eq_false_iff_eq.mpr c22
              clear c22
              replace H := zj H
              obtain ⟨t481, A23, H⟩ := H
              have H' := am H
              clear H
              obtain ⟨Ao24, co24, eo24⟩ := Kd.V_slice HO_0.out
              subst eo24
              go_wp2_with (first | ((with_reducible refine gate_callee (f := 75) rfl ?_); refine goesL_ (some 33) rfl rfl Tryz.func75 (by kernel_rfl) rfl #[.slice Ao24 x0_4.length co24, .int .i64 0] rfl zq5 ?_; (with_reducible refine (rf_bit.calls _ _ x0_4 0 t480 _ ?side1 ?side2 A21.out).mono ?_); (case side1 => exact zc ((Kd.V_reads' HO_0.out).2.2)); (case side2 => exact (Kd.V_reads' HO_0.out).2.1); rintro e w' ⟨rfl, ⟨nd, rfl⟩⟩; refine ⟨_, rfl, ?_⟩) | ((with_reducible refine gate_callee (f := 76) rfl ?_); refine goesL_ (some 36) rfl rfl Tryz.func76 (by kernel_rfl) rfl #[.slice Ao24 x0_4.length co24] rfl zq5 ?_; (with_reducible refine (rf_half.calls k4 _ _ x0_4 t481 _ ?side1 ?side2 A23.out).mono ?_); (case side1 => exact zc ((Kd.V_reads' HO_0.out).2.2)); (case side2 => exact (Kd.V_reads' HO_0.out).2.1); rintro e w25 ⟨v482, rfl, ho0, hb⟩; refine ⟨_, rfl, ?_⟩; refine zt4 (vb HO_0 hb) (vb HO_1 hb) (Kd.V_lower (Kd.V_mono (ok' := fun k_ => ((P0_ k_ ∨ P1_ k_) ∨ w.heap.size ≤ k_)) ho0 (fun k_ hk_ => (.inr (Nat.le_trans (below_size zq1) hk_)))) (below_size zq1)) (below_step zq1 hb) ?_; clear HO_0 HO_1 HB; intro HO_0 HO_1 HO483 HB))
              go_roundg k4
              case measure => have := HK1.out; have := HJ4.out; have := HK3.out; have := HK4.out; omega
              case rel => exact ⟨(t481), H', ⟨by have := HK1.out; have := HJ4.out; have := HK3.out; have := HK4.out; omega⟩, ⟨zq3 HO483.out⟩, ⟨zq3 HO_1.out⟩, ⟨zq1⟩⟩
             ·rw [if_neg c22] at H
              have c22b0 : (t480 == 0) = false := beq_eq_false_iff_ne.mpr c22
              have c22b1 : (t480 != 0) = true := bne_iff_ne.mpr c22
              have H' := am H
              clear H
              obtain ⟨Ao26, co26, eo26⟩ := Kd.V_slice HO_0.out
              subst eo26
              go_wp2_with (first | ((with_reducible refine gate_callee (f := 75) rfl ?_); refine goesL_ (some 33) rfl rfl Tryz.func75 (by kernel_rfl) rfl #[.slice Ao26 x0_4.length co26, .int .i64 0] rfl zq5 ?_; (with_reducible refine (rf_bit.calls _ _ x0_4 0 t480 _ ?side1 ?side2 A21.out).mono ?_); (case side1 => exact zc ((Kd.V_reads' HO_0.out).2.2)); (case side2 => exact (Kd.V_reads' HO_0.out).2.1); rintro e w' ⟨rfl, ⟨nd, rfl⟩⟩; refine ⟨_, rfl, ?_⟩))
              go_loopg [1] k4 (fun kq v1 w' => ∃ (x1_5 : List Int), Aside0 (rf_GcdNat.l3 kq x0_4 x1_5 x5_1 = some r) ∧ Aside0 (kq ≤ k4) ∧ Aside0 (Kd.V (Kd.int .i64) 3 w' w.heap.size (fun k_ => ((P0_ k_ ∨ P1_ k_) ∨ w.heap.size ≤ k_)) (.slice Ao26 x0_4.length co26) x0_4) ∧ Aside0 (Kd.V (Kd.int .i64) 3 w' w.heap.size (fun k_ => ((P0_ k_ ∨ P1_ k_) ∨ w.heap.size ≤ k_)) v1 x1_5) ∧ Aside0 (Below w.heap.size w w'))
              case atStart => exact ⟨(x1_3), H', ⟨Nat.le_refl _⟩, ⟨zq3 HO_0.out⟩, ⟨zq3 HO_1.out⟩, ⟨zq1⟩⟩
              case round =>
               clear H'
               obtain ⟨x1_5, HA, HK5, HO_0, HO_1, HB⟩ := hrel
               cases gk with
               | zero => exact absurd HA.out (by simp [rf_GcdNat.l3])
               | succ k5 =>
                have H := HA.out
                clear HA
                simp only [rf_GcdNat.l3] at H
                replace H := zj H
                obtain ⟨t484, A27, H⟩ := H
                by_cases c28 : t484 = 0
                ·rw [if_pos c28] at H
                 have c28b0 : (t484 == 0) = true := beq_iff_eq.mpr c28
                 have c28b1 : (t484 != 0) = false := bne_eq_false_iff_eq.mpr c28
                 clear c28
                 replace H := zj H
                 obtain ⟨t485, A29, H⟩ := H
                 have H' := am H
                 clear H
                 obtain ⟨Ao30, co30, eo30⟩ := Kd.V_slice HO_1.out
                 subst eo30
                 go_wp2_with (first | ((with_reducible refine gate_callee (f := 75) rfl ?_); refine goesL_ (some 38) rfl rfl Tryz.func75 (by kernel_rfl) rfl #[.slice Ao30 x1_5.length co30, .int .i64 0] rfl zq5 ?_; (with_reducible refine (rf_bit.calls _ _ x1_5 0 t484 _ ?side1 ?side2 A27.out).mono ?_); (case side1 => exact zc ((Kd.V_reads' HO_1.out).2.2)); (case side2 => exact (Kd.V_reads' HO_1.out).2.1); rintro e w' ⟨rfl, ⟨nd, rfl⟩⟩; refine ⟨_, rfl, ?_⟩) | ((with_reducible refine gate_callee (f := 76) rfl ?_); refine goesL_ (some 41) rfl rfl Tryz.func76 (by kernel_rfl) rfl #[.slice Ao30 x1_5.length co30] rfl zq5 ?_; (with_reducible refine (rf_half.calls k5 _ _ x1_5 t485 _ ?side1 ?side2 A29.out).mono ?_); (case side1 => exact zc ((Kd.V_reads' HO_1.out).2.2)); (case side2 => exact (Kd.V_reads' HO_1.out).2.1); rintro e w31 ⟨v486, rfl, ho0, hb⟩; refine ⟨_, rfl, ?_⟩; refine zt4 (vb HO_0 hb) (vb HO_1 hb) (Kd.V_lower (Kd.V_mono (ok' := fun k_ => ((P0_ k_ ∨ P1_ k_) ∨ w.heap.size ≤ k_)) ho0 (fun k_ hk_ => (.inr (Nat.le_trans (below_size zq1) hk_)))) (below_size zq1)) (below_step zq1 hb) ?_; clear HO_0 HO_1 HB; intro HO_0 HO_1 HO487 HB))
                 go_roundg k5
                 case measure => have := HK1.out; have := HJ4.out; have := HK3.out; have := HK4.out; have := HK5.out; omega
                 case rel => exact ⟨(t485), H', ⟨by have := HK1.out; have := HJ4.out; have := HK3.out; have := HK4.out; have := HK5.out; omega⟩, ⟨zq3 HO_0.out⟩, ⟨zq3 HO487.out⟩, ⟨zq1⟩⟩
                ·rw [if_neg c28] at H
                 have c28b0 : (t484 == 0) = false := beq_eq_false_iff_ne.mpr c28
                 have c28b1 : (t484 != 0) = true := bne_iff_ne.mpr c28
                 replace H := zj H
                 obtain ⟨t488, A32, H⟩ := H
                 by_cases c33 : t488 < 0
                 ·rw [if_pos c33] at H
                  have c33b0 := decide_eq_true c33
                  clear c33
                  replace H := zj H
                  obtain ⟨t489, A34, H⟩ := H
                  have H' := am H
                  clear H
                  obtain ⟨Ao35, co35, eo35⟩ := Kd.V_slice HO_1.out
                  subst eo35
                  go_wp2_with (first | ((with_reducible refine gate_callee (f := 75) rfl ?_); refine goesL_ (some 38) rfl rfl Tryz.func75 (by kernel_rfl) rfl #[.slice Ao35 x1_5.length co35, .int .i64 0] rfl zq5 ?_; (with_reducible refine (rf_bit.calls _ _ x1_5 0 t484 _ ?side1 ?side2 A27.out).mono ?_); (case side1 => exact zc ((Kd.V_reads' HO_1.out).2.2)); (case side2 => exact (Kd.V_reads' HO_1.out).2.1); rintro e w' ⟨rfl, ⟨nd, rfl⟩⟩; refine ⟨_, rfl, ?_⟩) | ((with_reducible refine gate_callee (f := 60) rfl ?_); refine goesL_ (some 44) rfl rfl Tryz.func60 (by kernel_rfl) rfl #[.slice Ao26 x0_4.length co26, .slice Ao35 x1_5.length co35] rfl zq5 ?_; (with_reducible refine (rf_CmpNat.calls k5 _ _ x0_4 _ _ x1_5 t488 _ ?side1 ?side2 ?side3 ?side4 A32.out).mono ?_); (case side1 => exact zc ((Kd.V_reads' HO_0.out).2.2)); (case side2 => exact (Kd.V_reads' HO_0.out).2.1); (case side3 => exact zc ((Kd.V_reads' HO_1.out).2.2)); (case side4 => exact (Kd.V_reads' HO_1.out).2.1); rintro e w36 ⟨rfl, hb⟩; refine ⟨_, rfl, ?_⟩; refine zt3 (vb HO_0 hb) (vb HO_1 hb) (below_step zq1 hb) ?_; clear HO_0 HO_1 HB; intro HO_0 HO_1 HB; (try clear hb); (try clear hb2); (try clear hk); (try clear hi)) | ((with_reducible refine gate_callee (f := 74) rfl ?_); refine goesL_ (some 51) rfl rfl Tryz.func74 (by kernel_rfl) rfl #[.slice Ao35 x1_5.length co35, .slice Ao26 x0_4.length co26] rfl zq5 ?_; (with_reducible refine (rf_SubNat.calls k5 _ _ x1_5 _ _ x0_4 t489 _ ?side1 ?side2 ?side3 ?side4 A34.out).mono ?_); (case side1 => exact zc ((Kd.V_reads' HO_1.out).2.2)); (case side2 => exact (Kd.V_reads' HO_1.out).2.1); (case side3 => exact zc ((Kd.V_reads' HO_0.out).2.2)); (case side4 => exact (Kd.V_reads' HO_0.out).2.1); rintro e w37 ⟨v490, rfl, ho0, hb⟩; refine ⟨_, rfl, ?_⟩; refine zt4 (vb HO_0 hb) (vb HO_1 hb) (Kd.V_lower (Kd.V_mono (ok' := fun k_ => ((P0_ k_ ∨ P1_ k_) ∨ w.heap.size ≤ k_)) ho0 (fun k_ hk_ => (.inr (Nat.le_trans (below_size zq1) hk_)))) (below_size zq1)) (below_step zq1 hb) ?_; clear HO_0 HO_1 HB; intro HO_0 HO_1 HO491 HB))
                  go_roundg k5
                  case measure => have := HK1.out; have := HJ4.out; have := HK3.out; have := HK4.out; have := HK5.out; omega
                  case rel => exact ⟨(t489), (x0_4), H', ⟨by have := HK1.out; have := HJ4.out; have := HK3.out; have := HK4.out; have := HK5.out; omega⟩, ⟨zq3 HO491.out⟩, ⟨zq3 HO_0.out⟩, ⟨zq1⟩⟩
                 ·rw [if_neg c33] at H
                  have c33b0 := decide_eq_false c33
                  clear c33
                  replace H := zj H
                  obtain ⟨t492, A38, H⟩ := H
                  have H' := am H
                  clear H
                  obtain ⟨Ao39, co39, eo39⟩ := Kd.V_slice HO_1.out
                  subst eo39
                  go_wp2_with (first | ((with_reducible refine gate_callee (f := 75) rfl ?_); refine goesL_ (some 38) rfl rfl Tryz.func75 (by kernel_rfl) rfl #[.slice Ao39 x1_5.length co39, .int .i64 0] rfl zq5 ?_; (with_reducible refine (rf_bit.calls _ _ x1_5 0 t484 _ ?side1 ?side2 A27.out).mono ?_); (case side1 => exact zc ((Kd.V_reads' HO_1.out).2.2)); (case side2 => exact (Kd.V_reads' HO_1.out).2.1); rintro e w' ⟨rfl, ⟨nd, rfl⟩⟩; refine ⟨_, rfl, ?_⟩) | ((with_reducible refine gate_callee (f := 60) rfl ?_); refine goesL_ (some 44) rfl rfl Tryz.func60 (by kernel_rfl) rfl #[.slice Ao26 x0_4.length co26, .slice Ao39 x1_5.length co39] rfl zq5 ?_; (with_reducible refine (rf_CmpNat.calls k5 _ _ x0_4 _ _ x1_5 t488 _ ?side1 ?side2 ?side3 ?side4 A32.out).mono ?_); (case side1 => exact zc ((Kd.V_reads' HO_0.out).2.2)); (case side2 => exact (Kd.V_reads' HO_0.out).2.1); (case side3 => exact zc ((Kd.V_reads' HO_1.out).2.2)); (case side4 => exact (Kd.V_reads' HO_1.out).2.1); rintro e w40 ⟨rfl, hb⟩; refine ⟨_, rfl, ?_⟩; refine zt3 (vb HO_0 hb) (vb HO_1 hb) (below_step zq1 hb) ?_; clear HO_0 HO_1 HB; intro HO_0 HO_1 HB; (try clear hb); (try clear hb2); (try clear hk); (try clear hi)) | ((with_reducible refine gate_callee (f := 74) rfl ?_); refine goesL_ (some 51) rfl rfl Tryz.func74 (by kernel_rfl) rfl #[.slice Ao26 x0_4.length co26, .slice Ao39 x1_5.length co39] rfl zq5 ?_; (with_reducible refine (rf_SubNat.calls k5 _ _ x0_4 _ _ x1_5 t492 _ ?side1 ?side2 ?side3 ?side4 A38.out).mono ?_); (case side1 => exact zc ((Kd.V_reads' HO_0.out).2.2)); (case side2 => exact (Kd.V_reads' HO_0.out).2.1); (case side3 => exact zc ((Kd.V_reads' HO_1.out).2.2)); (case side4 => exact (Kd.V_reads' HO_1.out).2.1); rintro e w41 ⟨v493, rfl, ho0, hb⟩; refine ⟨_, rfl, ?_⟩; refine zt4 (vb HO_0 hb) (vb HO_1 hb) (Kd.V_lower (Kd.V_mono (ok' := fun k_ => ((P0_ k_ ∨ P1_ k_) ∨ w.heap.size ≤ k_)) ho0 (fun k_ hk_ => (.inr (Nat.le_trans (below_size zq1) hk_)))) (below_size zq1)) (below_step zq1 hb) ?_; clear HO_0 HO_1 HB; intro HO_0 HO_1 HO494 HB))
                  go_roundg k5
                  case measure => have := HK1.out; have := HJ4.out; have := HK3.out; have := HK4.out; have := HK5.out; omega
                  case rel => exact ⟨(t492), (x1_5), H', ⟨by have := HK1.out; have := HJ4.out; have := HK3.out; have := HK4.out; have := HK5.out; omega⟩, ⟨zq3 HO494.out⟩, ⟨zq3 HO_1.out⟩, ⟨zq1⟩⟩
          ·rw [if_neg c19] at H
           have c19b0 : decide (0 < (x0_3.length : Int)) = false := decide_eq_false c19
           have c19b1 : decide (0 < x0_3.length) = false := decide_eq_false (by omega)
           clear c19
           replace H := zj H
           obtain ⟨t477, A42, H⟩ := H
           obtain rfl := Option.some.inj H
           obtain ⟨Ao43, co43, eo43⟩ := Kd.V_slice HO_0.out
           subst eo43
           obtain ⟨Ao44, co44, eo44⟩ := Kd.V_slice HO_1.out
           subst eo44
           go_wp2_with (first | ((with_reducible refine gate_callee (f := 77) rfl ?_); refine goesL_ (some 54) rfl rfl Tryz.func77 (by kernel_rfl) rfl #[.slice Ao44 x1_3.length co44, .int .i64 x5_1] rfl zq5 ?_; (with_reducible refine (rf_ShlNat.calls k3 _ _ x1_3 x5_1 t477 _ ?side1 ?side2 A42.out).mono ?_); (case side1 => exact zc ((Kd.V_reads' HO_1.out).2.2)); (case side2 => exact (Kd.V_reads' HO_1.out).2.1); rintro e w45 ⟨v478, rfl, ho0, hb⟩; refine ⟨_, rfl, ?_⟩; refine zt4 (vb HO_0 hb) (vb HO_1 hb) (Kd.V_lower (Kd.V_mono (ok' := fun k_ => ((P0_ k_ ∨ P1_ k_) ∨ w.heap.size ≤ k_)) ho0 (fun k_ hk_ => (.inr (Nat.le_trans (below_size zq1) hk_)))) (below_size zq1)) (below_step zq1 hb) ?_; clear HO_0 HO_1 HB; intro HO_0 HO_1 HO479 HB))
           go_ret
           exact ⟨_, zq9, zq3 HO479.out, zq1⟩
def rf_natOf.l0 : Nat → List Int → List Int → Int → Int → Option (List Int)
 | 0, _, _, _, _ => none
 | k + 1, x3, x6, x7, x8 => if x8 < x7 then (if 0 ≤ x8 then (if x8 < (x6.length : Int) then ((some (([wrap64 (Go.bits .and .u32 (rd x6 x8) 65535), wrap64 ((rd x6 x8) / 65536)] : List Int) : List Int)).bind fun y496 => (if x3.length + y496.length < 17592186044416 then (rf_natOf.l0 k (x3 ++ y496) x6 x7 (wrap64 (x8 + 1))) else (none))) else (none)) else (none)) else ((rf_trim.f k x3).bind fun t502 => (some t502))
def rf_natOf.f (k : Nat) (l0 : List Int) : Option (List Int) := rf_natOf.l0 k ([] : List Int) l0 (l0.length : Int) 0
set_option maxHeartbeats 8000000 in
set_option maxRecDepth 100000 in
theorem rf_natOf.calls (k : Nat) (A0 : Option Addr) (c0 : Nat) (l0 : List Int) (r : List Int) (w : World) (hr0 : Kd.C (Kd.int .u32) w A0 l0.length l0) (hc0 : l0.length ≤ c0) (h : rf_natOf.f k l0 = some r) :
  Calls Tryz.prog 59 #[.slice A0 l0.length c0] w fun e w' => ∃ v0_ : Value, e = .returned (v0_) ∧ Kd.V (Kd.int .i64) 3 w' w.heap.size (fun k_ => (w.heap.size ≤ k_)) v0_ r ∧ Below w.heap.size w w' := by
 have HR0 := am hr0
 have HC0 := am hc0
 clear hr0 hc0
 have HB := am (Below.refl w.heap.size w)
 have H := h
 unfold rf_natOf.f at H
 clear h
 have H' := am H
 clear H
 go_enter Tryz.func59, Tryz.ntmps59
 go_wp2
 go_loopg [3, 8] k (fun kq v3 v8 w' => ∃ (x3_1 : List Int) (x8_1 : Int), v8 = .int .i64 x8_1 ∧ Aside0 (rf_natOf.l0 kq x3_1 l0 (l0.length : Int) x8_1 = some r) ∧ Aside0 (kq ≤ k) ∧ Aside0 (Kd.R (Kd.int .i64) 3 w' w.heap.size (fun k_ => (w.heap.size ≤ k_)) v3 x3_1) ∧ Aside0 (Below w.heap.size w w'))
 case atStart => exact ⟨(([] : List Int)), (0), zq8, H', ⟨Nat.le_refl _⟩, ⟨by first | exact Kd.R_nil _ _ _ _ _ | exact Kd.N_nil _ _ _ _ _ | exact Kd.V_nil _ _ _ _ _ | exact Kd.Q_nil _ _ _ _ _ | exact Kd.S_nil _ _ _ _ _⟩, ⟨zq1⟩⟩
 case round =>
  clear H'
  obtain ⟨x3_1, x8_1, rfl, HA, HK1, HO_3, HB⟩ := hrel
  cases gk with
  | zero => exact absurd HA.out (by simp [rf_natOf.l0])
  | succ k1 =>
   have H := HA.out
   clear HA
   simp only [rf_natOf.l0] at H
   by_cases c2 : x8_1 < (l0.length : Int)
   ·rw [if_pos c2] at H
    have c2b0 := decide_eq_true c2
    clear c2
    replace H := zn H
    obtain ⟨c3, H⟩ := H
    have c3b0 := decide_eq_true c3
    clear c3
    replace H := zn H
    obtain ⟨c4, H⟩ := H
    have c4b0 := decide_eq_true c4
    clear c4
    obtain ⟨y496, hy496⟩ : ∃ y_ : List Int, y_ = (([wrap64 (Go.bits .and .u32 (rd l0 x8_1) 65535), wrap64 ((rd l0 x8_1) / 65536)] : List Int)) := ⟨_, rfl⟩
    try rw [← hy496] at H
    have Ny496 := am hy496
    clear hy496
    replace H := zn H
    obtain ⟨c5, H⟩ := H
    have LMc5 := am c5
    clear c5
    obtain ⟨y499, hy499⟩ : ∃ y_ : List Int, y_ = (x3_1 ++ y496) := ⟨_, rfl⟩
    try rw [← hy499] at H
    have Ny499 := am hy499
    clear hy499
    have H' := am H
    clear H
    have p495 : 0 ≤ (x8_1 : Int) := zq6
    have q495 : x8_1 < (l0.length : Int) := zq6
    obtain ⟨ad495, e495, hx495_0⟩ := Kd.at_int HR0.out x8_1 p495 q495
    cases e495
    replace hx495_0 := (HB.out.cell (World.block_lt_of_cell? w _ hx495_0)).trans hx495_0
    replace p495 := eq_true p495
    replace q495 := eq_true q495
    go_wp2_with (first | ((with_reducible refine gate_dst (N := 19) rfl ?_); refine Kd.R_lit (Kd.int .i64) _ 3 ?hg (N := 19) ?hd (xs := ([wrap64 (Go.bits .and .u32 (rd l0 x8_1) 65535), wrap64 ((rd l0 x8_1) / 65536)] : List Int)) (inner := [.int .i64 (wrap64 (Go.bits .and .u32 (rd l0 x8_1) 65535)), .int .i64 (wrap64 ((rd l0 x8_1) / 65536))]) (ok := fun _ => True) (okp := fun _ => True) ?hr ?hp (fun _ hk => hk) trivial (Below.refl _ _) (Nat.le_refl _) (by simp) ?_; (case hd => rfl); (case hg => rfl); (case hr => exact zr); (case hp => exact (Reps.one (show Kd.M (Kd.int .i64) _ _ _ (wrap64 (Go.bits .and .u32 (rd l0 x8_1) 65535)) [.int .i64 (wrap64 (Go.bits .and .u32 (rd l0 x8_1) 65535))] from rfl) (Reps.one (show Kd.M (Kd.int .i64) _ _ _ (wrap64 ((rd l0 x8_1) / 65536)) [.int .i64 (wrap64 ((rd l0 x8_1) / 65536))] from rfl) (Reps.none _ _)))); intro v497 w6 ho7 hb hg_ hnew_; clear hg_ hnew_; (first | rw [← Ny496.out] at ho7 | (simp only [Int.reduceToNat] at ho7; rw [← Ny496.out] at ho7)); refine zt3 (Kd.R_elder' (zq4 HO_3.out) (Kd.R_base ho7) hb) (Kd.R_lower (Kd.R_new' (Kd.R_newM (M := fun k_ => (w.heap.size ≤ k_)) ho7 (below_size zq1) (fun k_ h_ => h_)) (Kd.R_lt (zq4 HO_3.out))) (below_size zq1)) (below_step zq1 hb) ?_; clear HO_3 HB; intro HO_3 HO498 HB; clear hb ho7; obtain ⟨Ao9, co9, eo9⟩ := Kd.R_slice HO498.out; subst eo9) | ((with_reducible refine gate_builtin (b := .append) (xs := #[.tmp 12, .tmp 19]) rfl ?_); at_builtin; refine Kd.R_append_rows (Kd.int .i64) (w0 := w) w.heap.size rfl (.tmp 12) (.tmp 19) 40 3 (.int .i64 0) 8 rfl Tryz.underlying40 info3 rfl (by decide) (by omega) u3 x3_1 y496 _ _ _ (fun k_ => (w.heap.size ≤ k_) ∧ some k_ ≠ (.slice Ao9 y496.length co9 : Value).ownBlock) (fun _ => False) rfl rfl ?aO ?aR (fun _ _ h => h) (fun _ h => h.elim) ?aF ?aB ?aS ?aL ?_; (case aR => repeat (first | exact (Kd.R_reads' HO498.out).2.2 | (with_reducible refine Kd.C_alloc ?_ _) | (with_reducible refine Kd.C_drewN ?_ _) | (with_reducible refine Kd.C_drew ?_))); (case aB => exact zq1); (case aF => exact (fun k_ hk => ⟨(Nat.le_trans (below_size zq1) hk), Kd.fresh' (Kd.R_lt (zq4 HO498.out)) k_ hk⟩)); (case aO => exact (zq4 HO_3.out)); (case aS => exact (below_size zq1)); (case aL => have := LMc5.out; omega); intro v500 w8 ho hb hg hat; rw [← Ny499.out] at ho; refine zt3 (Kd.R_after (ok := (fun k_ => (w.heap.size ≤ k_))) (zwR (h := by exact Kd.R_mono HO498.out (fun _ hk => ⟨hk.1.1, hk.2⟩))) hg hat) (hb) (ho) ?_; clear HO498 HB HO_3; intro HO498 HB HO501; clear ho hb hg hat))
    go_roundg k1
    case measure => have := HK1.out; omega
    case rel => exact ⟨(y499), (wrap64 (x8_1 + 1)), zq8, H', ⟨by have := HK1.out; omega⟩, ⟨zwR (h := by exact Kd.R_mono HO501.out (fun _ hk => hk.1))⟩, ⟨zq1⟩⟩
   ·rw [if_neg c2] at H
    have c2b0 := decide_eq_false c2
    clear c2
    replace H := zj H
    obtain ⟨t502, A10, H⟩ := H
    obtain rfl := Option.some.inj H
    obtain ⟨Ao11, co11, eo11⟩ := Kd.R_slice HO_3.out
    subst eo11
    go_wp2_with (first | ((with_reducible refine gate_callee (f := 81) rfl ?_); refine goesL_ (some 23) rfl rfl Tryz.func81 (by kernel_rfl) rfl #[.slice Ao11 x3_1.length co11] rfl zq5 ?_; (with_reducible refine (rf_trim.calls k1 (fun k_ => some k_ = (.slice Ao11 x3_1.length co11 : Value).ownBlock) _ _ x3_1 t502 _ ?side1 A10.out).mono ?_); (case side1 => exact Kd.R_V (Kd.R_tight rfl (HO_3.out))); rintro e w12 ⟨v503, rfl, ho0, hb⟩; refine ⟨_, rfl, ?_⟩; refine zt3 (rb HO_3 hb) (Kd.V_lower (Kd.V_mono (ok' := fun k_ => (w.heap.size ≤ k_)) ho0 (fun k_ hk_ => Or.elim hk_ (fun hs_ => ((HO_3.out).1 k_ hs_.symm)) (fun hn_ => (Nat.le_trans (below_size zq1) hn_)))) (below_size zq1)) (below_step zq1 hb) ?_; clear HO_3 HB; intro HO_3 HO504 HB))
    go_ret
    exact ⟨_, zq9, zq3 HO504.out, zq1⟩
mutual
def rf_Fault.j0 : Nat → Bool → Bool → List Int → List Int → Option (Int)
 | 0, _, _, _, _ => none
 | k + 1, x14, x506000, x506001, x506002 => if x14 = true then (some 3) else (if (x506002.length : Int) = 0 then (rf_Fault.j1 k true x506000 x506001 x506002) else (if 0 ≤ (wrap64 ((x506002.length : Int) - 1)) then (if (wrap64 ((x506002.length : Int) - 1)) < (x506002.length : Int) then (if (rd x506002 (wrap64 ((x506002.length : Int) - 1))) = 0 then (rf_Fault.j1 k true x506000 x506001 x506002) else (if (x506001.length : Int) > 0 then (if 0 ≤ (wrap64 ((x506001.length : Int) - 1)) then (if (wrap64 ((x506001.length : Int) - 1)) < (x506001.length : Int) then (rf_Fault.j1 k ((rd x506001 (wrap64 ((x506001.length : Int) - 1))) == 0) x506000 x506001 x506002) else (none)) else (none)) else (rf_Fault.j1 k false x506000 x506001 x506002))) else (none)) else (none)))
def rf_Fault.j1 : Nat → Bool → Bool → List Int → List Int → Option (Int)
 | 0, _, _, _, _ => none
 | k + 1, x46, x506000, x506001, x506002 => if x46 = true then (some 2) else ((rf_natOf.f k x506001).bind fun t508 => ((rf_natOf.f k x506002).bind fun t511 => (if (t508.length : Int) = 0 then (if x506000 = true then (rf_Fault.j2 k t508 t511 true) else ((rf_CmpNat.f k t511 (([1] : List Int))).bind fun t517 => (rf_Fault.j2 k t508 t511 (t517 != 0)))) else (rf_Fault.j2 k t508 t511 false))))
def rf_Fault.j2 : Nat → List Int → List Int → Bool → Option (Int)
 | 0, _, _, _ => none
 | k + 1, x3, x4, x65 => if x65 = true then (some 2) else ((rf_GcdNat.f k x3 x4).bind fun t518 => ((rf_CmpNat.f k t518 (([1] : List Int))).bind fun t524 => (if t524 = 0 then (some 0) else (some 2))))
end
def rf_Fault.f (k : Nat) (a0_0 : Bool) (l0_1 : List Int) (l0_2 : List Int) : Option (Int) := if (l0_1.length : Int) > 128 then (rf_Fault.j0 k true a0_0 l0_1 l0_2) else (rf_Fault.j0 k (decide ((l0_2.length : Int) > 128)) a0_0 l0_1 l0_2)
def rf_Fault.T5 : Bool × List (List Nat × List Nat) := (true, [([], []), ([0], [0]), ([1], [1]), ([], []), ([3], [3]), ([4, 2], [4]), ([2, 5, 0, 1, 2], [2]), ([5, 6, 0, 1, 2, 3, 4, 5, 6], [5])])
def rf_Fault.B5 : List Nat := [0, 1, 3, 0, 8, 31, 63, 127]
theorem rf_Fault.tab5 : rtab .any (opsOf Tryz.f20 5) = rf_Fault.T5 := by kernel_rfl
theorem rf_Fault.bits5 : waitsOk rf_Fault.T5.2 rf_Fault.B5 = true := by kernel_rfl
set_option maxHeartbeats 8000000 in
set_option maxRecDepth 100000 in
theorem rf_Fault.calls (k : Nat) (a0_0 : Bool) (A0_1 : Option Addr) (c0_1 : Nat) (l0_1 : List Int) (A0_2 : Option Addr) (c0_2 : Nat) (l0_2 : List Int) (r : Int) (w : World) (hr0_1 : Kd.C (Kd.int .u32) w A0_1 l0_1.length l0_1) (hc0_1 : l0_1.length ≤ c0_1) (hr0_2 : Kd.C (Kd.int .u32) w A0_2 l0_2.length l0_2) (hc0_2 : l0_2.length ≤ c0_2) (h : rf_Fault.f k a0_0 l0_1 l0_2 = some r) :
  Calls Tryz.prog 20 #[.agg #[.bool a0_0, .slice A0_1 l0_1.length c0_1, .slice A0_2 l0_2.length c0_2]] w fun e w' => e = .returned (.int .i64 r) ∧ Below w.heap.size w w' := by
 have hu24 := Tryz.underlying24
 have HR0_1 := am hr0_1
 have HC0_1 := am hc0_1
 clear hr0_1 hc0_1
 have HR0_2 := am hr0_2
 have HC0_2 := am hc0_2
 clear hr0_2 hc0_2
 have HB := am (Below.refl w.heap.size w)
 have H := h
 unfold rf_Fault.f at H
 clear h
 have HC2 := am H
 clear H
 go_enter Tryz.func20, Tryz.ntmps20
 go_upto_region 1 with (first | ((with_reducible refine gate_dst (N := 1) rfl ?_); (try (refine gate_guard (by rfl) ?_; dsimp only)); refine zbox (N := 1) (cs := #[.bool a0_0, .slice A0_1 l0_1.length c0_1, .slice A0_2 l0_2.length c0_2]) (t := 24) ?_; intro gb505 hg w3 hbox hb; refine zt3 (below_step zq1 hb) (hbox) ((zs hg (below_size zq1) : w.heap.size ≤ gb505)) ?_; clear HB; intro HB BK505 GW505; have GE505 := GW505; clear hb hbox hg))
 (try simp only [Act.put, List.setIfInBounds_toArray, List.set_cons_zero, List.set_cons_succ])
 go_cut [14] (fun v14 wc => ∃ (kq : Nat) (x14_1 : Bool), v14 = .bool x14_1 ∧ Aside0 (rf_Fault.j0 kq x14_1 a0_0 l0_1 l0_2 = some r) ∧ Aside0 (kq ≤ k) ∧ Aside0 (wc.heap[gb505]? = some (.cells #[.bool a0_0, (.slice A0_1 l0_1.length c0_1), (.slice A0_2 l0_2.length c0_2)] 24 (0, 0))) ∧ Aside0 (Below w.heap.size w wc))
 case first =>
  have H := HC2.out
  clear HC2
  by_cases c4 : (l0_1.length : Int) > 128
  ·rw [if_pos c4] at H
   have c4b0 : decide (128 < (l0_1.length : Int)) = true := decide_eq_true c4
   have c4b1 : decide (128 < l0_1.length) = true := decide_eq_true (by omega)
   clear c4
   (first | rw [c4b0] | (simp only [i64_w, i32_w]; rw [c4b0]) | skip)
   have H' := am H
   clear H
   have hcz5_0 := bc BK505.out 0 (.bool a0_0)
   have hcz5_1 := bc BK505.out 1 (.slice A0_1 l0_1.length c0_1)
   have hcz5_2 := bc BK505.out 2 (.slice A0_2 l0_2.length c0_2)
   have hfz5_0 := blk_frozen BK505.out 0
   have hfz5_1 := blk_frozen BK505.out 1
   have hfz5_2 := blk_frozen BK505.out 2
   go_wp2
   go_meet
   case rel => exact ⟨_, (true), zq8, H', ⟨by first | omega | exact Nat.le_refl _⟩, ⟨zq2 BK505.out⟩, ⟨zb1 GE505.out⟩⟩
  ·rw [if_neg c4] at H
   have c4b0 : decide (128 < (l0_1.length : Int)) = false := decide_eq_false c4
   have c4b1 : decide (128 < l0_1.length) = false := decide_eq_false (by omega)
   clear c4
   (first | rw [c4b0] | (simp only [i64_w, i32_w]; rw [c4b0]) | skip)
   have H' := am H
   clear H
   have hcz6_0 := bc BK505.out 0 (.bool a0_0)
   have hcz6_1 := bc BK505.out 1 (.slice A0_1 l0_1.length c0_1)
   have hcz6_2 := bc BK505.out 2 (.slice A0_2 l0_2.length c0_2)
   have hfz6_0 := blk_frozen BK505.out 0
   have hfz6_1 := blk_frozen BK505.out 1
   have hfz6_2 := blk_frozen BK505.out 2
   go_wp2
   go_meet
   case rel => exact ⟨_, (decide ((l0_2.length : Int) > 128)), zq8, H', ⟨by first | omega | exact Nat.le_refl _⟩, ⟨zq2 BK505.out⟩, ⟨zb1 GE505.out⟩⟩
 case rest =>
  clear HC2
  obtain ⟨kq, x14_1, rfl, HA, HJ1, BK505, HB⟩ := hcut
  cases kq with
  | zero => exact absurd HA.out (by simp [rf_Fault.j0])
  | succ kj1 =>
   have H := HA.out
   clear HA
   simp only [rf_Fault.j0] at H
   by_cases c7 : x14_1 = true
   ·subst c7
    have H1 : (some 3) = some r := by rw [if_pos rfl] at H; exact H
    clear H
    have H := H1
    clear H1
    obtain rfl := Option.some.inj H
    go_wp2
    go_ret
    exact ⟨zq9, zb1 GE505.out⟩
   ·replace c7 := Bool.eq_false_iff.mpr c7
    subst c7
    have H1 : (if (l0_2.length : Int) = 0 then (rf_Fault.j1 kj1 true a0_0 l0_1 l0_2) else (if 0 ≤ (wrap64 ((l0_2.length : Int) - 1)) then (if (wrap64 ((l0_2.length : Int) - 1)) < (l0_2.length : Int) then (if (rd l0_2 (wrap64 ((l0_2.length : Int) - 1))) = 0 then (rf_Fault.j1 kj1 true a0_0 l0_1 l0_2) else (if (l0_1.length : Int) > 0 then (if 0 ≤ (wrap64 ((l0_1.length : Int) - 1)) then (if (wrap64 ((l0_1.length : Int) - 1)) < (l0_1.length : Int) then (rf_Fault.j1 kj1 ((rd l0_1 (wrap64 ((l0_1.length : Int) - 1))) == 0) a0_0 l0_1 l0_2) else (none)) else (none)) else (rf_Fault.j1 kj1 false a0_0 l0_1 l0_2))) else (none)) else (none))) = some r := by rw [if_neg (show ¬ (false = true) by decide)] at H; exact H
    clear H
    have H := H1
    clear H1
    have HC8 := am H
    clear H
    go_upto_region 3 with (fail)
    go_cut [46] (fun v46 wc => ∃ (kq : Nat) (x46_7 : Bool), v46 = .bool x46_7 ∧ Aside0 (rf_Fault.j1 kq x46_7 a0_0 l0_1 l0_2 = some r) ∧ Aside0 (kq ≤ kj1) ∧ Aside0 (wc.heap[gb505]? = some (.cells #[.bool a0_0, (.slice A0_1 l0_1.length c0_1), (.slice A0_2 l0_2.length c0_2)] 24 (0, 0))) ∧ Aside0 (Below w.heap.size w wc))
    case first =>
     have H := HC8.out
     clear HC8
     by_cases c9 : (l0_2.length : Int) = 0
     ·rw [if_pos c9] at H
      have c9b0 : ((l0_2.length : Int) == 0) = true := beq_iff_eq.mpr c9
      have c9b1 : ((l0_2.length : Int) != 0) = false := bne_eq_false_iff_eq.mpr c9
      clear c9
      (first | rw [c9b0] | (simp only [i64_w, i32_w]; rw [c9b0]) | skip)
      have H' := am H
      clear H
      have hcz10_0 := bc BK505.out 0 (.bool a0_0)
      have hcz10_1 := bc BK505.out 1 (.slice A0_1 l0_1.length c0_1)
      have hcz10_2 := bc BK505.out 2 (.slice A0_2 l0_2.length c0_2)
      have hfz10_0 := blk_frozen BK505.out 0
      have hfz10_1 := blk_frozen BK505.out 1
      have hfz10_2 := blk_frozen BK505.out 2
      go_wp2
      go_meet
      case rel => exact ⟨_, (true), zq8, H', ⟨by have := HJ1.out; first | omega | exact Nat.le_refl _⟩, ⟨zq2 BK505.out⟩, ⟨zb1 GE505.out⟩⟩
     ·rw [if_neg c9] at H
      have c9b0 : ((l0_2.length : Int) == 0) = false := beq_eq_false_iff_ne.mpr c9
      have c9b1 : ((l0_2.length : Int) != 0) = true := bne_iff_ne.mpr c9
      have c9b2 : ¬ (l0_2 = []) := fun h_ => c9 (by rw [h_]; rfl)
      (first | rw [c9b0] | (simp only [i64_w, i32_w]; rw [c9b0]) | skip)
      obtain ⟨ji11, hji11⟩ : ∃ j_ : Int, (wrap64 ((l0_2.length : Int) - 1)) = j_ := ⟨_, rfl⟩
      replace H : (if 0 ≤ (ji11) then (if (ji11) < (l0_2.length : Int) then (if (rd l0_2 (ji11)) = 0 then (rf_Fault.j1 kj1 true a0_0 l0_1 l0_2) else (if (l0_1.length : Int) > 0 then (if 0 ≤ (wrap64 ((l0_1.length : Int) - 1)) then (if (wrap64 ((l0_1.length : Int) - 1)) < (l0_1.length : Int) then (rf_Fault.j1 kj1 ((rd l0_1 (wrap64 ((l0_1.length : Int) - 1))) == 0) a0_0 l0_1 l0_2) else (none)) else (none)) else (rf_Fault.j1 kj1 false a0_0 l0_1 l0_2))) else (none)) else (none)) = some r := by first | (rw [hji11] at H; exact H) | (simp only [hji11] at H ⊢; exact H)
      have hji11w : (IntKind.i64.wrap ((l0_2.length : Int) - 1)) = ji11 := (i64_w _).trans hji11
      replace H := zn H
      obtain ⟨c12, H⟩ := H
      have c12b0 := decide_eq_true c12
      clear c12
      replace H := zn H
      obtain ⟨c13, H⟩ := H
      have c13b0 := decide_eq_true c13
      clear c13
      by_cases c14 : (rd l0_2 (ji11)) = 0
      ·rw [if_pos c14] at H
       have c14b0 : ((rd l0_2 (ji11)) == 0) = true := beq_iff_eq.mpr c14
       have c14b1 : ((rd l0_2 (ji11)) != 0) = false := bne_eq_false_iff_eq.mpr c14
       clear c14
       have H' := am H
       clear H
       have hcz15_0 := bc BK505.out 0 (.bool a0_0)
       have hcz15_1 := bc BK505.out 1 (.slice A0_1 l0_1.length c0_1)
       have hcz15_2 := bc BK505.out 2 (.slice A0_2 l0_2.length c0_2)
       have hfz15_0 := blk_frozen BK505.out 0
       have hfz15_1 := blk_frozen BK505.out 1
       have hfz15_2 := blk_frozen BK505.out 2
       have p506 : 0 ≤ ((ji11) : Int) := zq6
       have q506 : (ji11) < (l0_2.length : Int) := zq6
       obtain ⟨ad506, e506, hx506_0⟩ := Kd.at_int HR0_2.out (ji11) p506 q506
       cases e506
       replace hx506_0 := (HB.out.cell (World.block_lt_of_cell? w _ hx506_0)).trans hx506_0
       replace p506 := eq_true p506
       replace q506 := eq_true q506
       go_wp2
       go_meet
       case rel => exact ⟨_, (true), zq8, (by first | exact H' | (rw [hji11]; exact H')), ⟨by have := HJ1.out; first | omega | exact Nat.le_refl _⟩, ⟨zq2 BK505.out⟩, ⟨zb1 GE505.out⟩⟩
      ·rw [if_neg c14] at H
       have c14b0 : ((rd l0_2 (ji11)) == 0) = false := beq_eq_false_iff_ne.mpr c14
       have c14b1 : ((rd l0_2 (ji11)) != 0) = true := bne_iff_ne.mpr c14
       by_cases c16 : (l0_1.length : Int) > 0
       ·rw [if_pos c16] at H
        have c16b0 : decide (0 < (l0_1.length : Int)) = true := decide_eq_true c16
        have c16b1 : decide (0 < l0_1.length) = true := decide_eq_true (by omega)
        clear c16
        obtain ⟨ji17, hji17⟩ : ∃ j_ : Int, (wrap64 ((l0_1.length : Int) - 1)) = j_ := ⟨_, rfl⟩
        replace H : (if 0 ≤ (ji17) then (if (ji17) < (l0_1.length : Int) then (rf_Fault.j1 kj1 ((rd l0_1 (ji17)) == 0) a0_0 l0_1 l0_2) else (none)) else (none)) = some r := by first | (rw [hji17] at H; exact H) | (simp only [hji17] at H ⊢; exact H)
        have hji17w : (IntKind.i64.wrap ((l0_1.length : Int) - 1)) = ji17 := (i64_w _).trans hji17
        replace H := zn H
        obtain ⟨c18, H⟩ := H
        have c18b0 := decide_eq_true c18
        clear c18
        replace H := zn H
        obtain ⟨c19, H⟩ := H
        have c19b0 := decide_eq_true c19
        clear c19
        have H' := am H
        clear H
        have hcz20_0 := bc BK505.out 0 (.bool a0_0)
        have hcz20_1 := bc BK505.out 1 (.slice A0_1 l0_1.length c0_1)
        have hcz20_2 := bc BK505.out 2 (.slice A0_2 l0_2.length c0_2)
        have hfz20_0 := blk_frozen BK505.out 0
        have hfz20_1 := blk_frozen BK505.out 1
        have hfz20_2 := blk_frozen BK505.out 2
        have p506 : 0 ≤ ((ji11) : Int) := zq6
        have q506 : (ji11) < (l0_2.length : Int) := zq6
        obtain ⟨ad506, e506, hx506_0⟩ := Kd.at_int HR0_2.out (ji11) p506 q506
        cases e506
        replace hx506_0 := (HB.out.cell (World.block_lt_of_cell? w _ hx506_0)).trans hx506_0
        replace p506 := eq_true p506
        replace q506 := eq_true q506
        have p507 : 0 ≤ ((ji17) : Int) := zq6
        have q507 : (ji17) < (l0_1.length : Int) := zq6
        obtain ⟨ad507, e507, hx507_0⟩ := Kd.at_int HR0_1.out (ji17) p507 q507
        cases e507
        replace hx507_0 := (HB.out.cell (World.block_lt_of_cell? w _ hx507_0)).trans hx507_0
        replace p507 := eq_true p507
        replace q507 := eq_true q507
        go_wp2
        go_meet
        case rel => exact ⟨_, (((rd l0_1 (ji17)) == 0)), (by first | rfl | (simp; done) | (simp only [← hji17] <;> (first | rfl | simp)) | (simp [*]; done)), (by first | exact H' | (rw [hji11]; exact H') | (rw [hji17]; exact H')), ⟨by have := HJ1.out; first | omega | exact Nat.le_refl _⟩, ⟨zq2 BK505.out⟩, ⟨zb1 GE505.out⟩⟩
       ·rw [if_neg c16] at H
        have c16b0 : decide (0 < (l0_1.length : Int)) = false := decide_eq_false c16
        have c16b1 : decide (0 < l0_1.length) = false := decide_eq_false (by omega)
        clear c16
        have H' := am H
        clear H
        have hcz21_0 := bc BK505.out 0 (.bool a0_0)
        have hcz21_1 := bc BK505.out 1 (.slice A0_1 l0_1.length c0_1)
        have hcz21_2 := bc BK505.out 2 (.slice A0_2 l0_2.length c0_2)
        have hfz21_0 := blk_frozen BK505.out 0
        have hfz21_1 := blk_frozen BK505.out 1
        have hfz21_2 := blk_frozen BK505.out 2
        have p506 : 0 ≤ ((ji11) : Int) := zq6
        have q506 : (ji11) < (l0_2.length : Int) := zq6
        obtain ⟨ad506, e506, hx506_0⟩ := Kd.at_int HR0_2.out (ji11) p506 q506
        cases e506
        replace hx506_0 := (HB.out.cell (World.block_lt_of_cell? w _ hx506_0)).trans hx506_0
        replace p506 := eq_true p506
        replace q506 := eq_true q506
        go_wp2
        go_meet
        case rel => exact ⟨_, (false), zq8, (by first | exact H' | (rw [hji11]; exact H')), ⟨by have := HJ1.out; first | omega | exact Nat.le_refl _⟩, ⟨zq2 BK505.out⟩, ⟨zb1 GE505.out⟩⟩
    case rest =>
     clear HC8
     obtain ⟨kq, x46_7, rfl, HA, HJ7, BK505, HB⟩ := hcut
     cases kq with
     | zero => exact absurd HA.out (by simp [rf_Fault.j1])
     | succ kj7 =>
      have H := HA.out
      clear HA
      simp only [rf_Fault.j1] at H
      by_cases c22 : x46_7 = true
      ·subst c22
       have H1 : (some 2) = some r := by rw [if_pos rfl] at H; exact H
       clear H
       have H := H1
       clear H1
       obtain rfl := Option.some.inj H
       go_wp2
       go_ret
       exact ⟨zq9, zb1 GE505.out⟩
      ·replace c22 := Bool.eq_false_iff.mpr c22
       subst c22
       have H1 : ((rf_natOf.f kj7 l0_1).bind fun t508 => ((rf_natOf.f kj7 l0_2).bind fun t511 => (if (t508.length : Int) = 0 then (if a0_0 = true then (rf_Fault.j2 kj7 t508 t511 true) else ((rf_CmpNat.f kj7 t511 (([1] : List Int))).bind fun t517 => (rf_Fault.j2 kj7 t508 t511 (t517 != 0)))) else (rf_Fault.j2 kj7 t508 t511 false)))) = some r := by rw [if_neg (show ¬ (false = true) by decide)] at H; exact H
       clear H
       have H := H1
       clear H1
       replace H := zj H
       obtain ⟨t508, A23, H⟩ := H
       replace H := zj H
       obtain ⟨t511, A24, H⟩ := H
       have HC25 := am H
       clear H
       try go_wp2
       refine zt2 (blk_drew BK505.out) (below_drew1 HB.out) ?_
       clear BK505 HB
       intro BK505 HB
       refine start_ (n := 8) (S := fun w' => w'.cell? ⟨gb505, 0, none⟩ = some (.bool a0_0) ∧ w'.cell? ⟨gb505, 1, none⟩ = some (.slice A0_1 l0_1.length c0_1) ∧ w'.cell? ⟨gb505, 2, none⟩ = some (.slice A0_2 l0_2.length c0_2)) (ds := []) #[false, false, false, false, false, false, false, false] (by kernel_rfl) rfl rfl ⟨(blk_cell BK505.out 0).trans rfl, (blk_cell BK505.out 1).trans rfl, (blk_cell BK505.out 2).trans rfl⟩ (fun hHeld => ?_); refine with_tabW rf_Fault.tab5 rf_Fault.bits5 (fun HT_ HW_ => ?_)
       generalize wc.drew = w26 at BK505 HB hHeld ⊢
       refine pz_ (i := 0) (N := some 47) (zmt 8 [0]) ?_
       refine pz_ (i := 3) (N := some 50) (zmt 8 [0, 3]) ?_
       refine tz3 (i := 1) (N := some 48) (zmt 8 [0, 1, 3]) ?_
       refine tz3 (i := 4) (N := some 51) (zmt 8 [0, 1, 3, 4]) ?_
       refine one_ (i := 2) (N := some 49) (zmf 8 [5, 6, 7]) rfl rfl (one_of HT_.out (by kernel_rfl)) (by decide) (fun K hK => ?_)
       refine goes_ Tryz.func59 (by kernel_rfl) rfl #[.slice A0_1 l0_1.length c0_1] (by rfl) rfl rfl zq5 ?_
       with_reducible refine (rf_natOf.calls kj7 _ _ l0_1 t508 _ ?side1 ?side2 A23.out).mono ?_
       (case side1 => exact zc (Kd.C_below HR0_1.out HB.out))
       (case side2 => exact HC0_1.out)
       rintro e w27 ⟨v509, rfl, ho0, hb⟩
       refine ⟨_, rfl, ?_⟩
       refine zt3 (Kd.V_lower (Kd.V_mono (ok' := fun k_ => k_ ≠ gb505) ho0 (fun k_ hk_ => (Kd.freshB (g := gb505) (o := .cells #[.bool a0_0, .slice A0_1 l0_1.length c0_1, .slice A0_2 l0_2.length c0_2] 24 (0, 0)) (zq2 BK505.out) k_ hk_))) (below_size (zb1 GE505.out))) (bb BK505.out hb) (below_step (zb1 GE505.out) hb) ?_
       clear BK505 HB
       intro HO510 BK505 HB
       refine hK.out _ _ ⟨(blk_cell BK505.out 0).trans rfl, (blk_cell BK505.out 1).trans rfl, (blk_cell BK505.out 2).trans rfl⟩ (fun hHeld => ?_)
       clear hK K
       refine nz_ (N := (some 49)) ?_
       refine one_ (i := 5) (N := some 52) (zmf 8 [6, 7]) rfl rfl (one_of HT_.out (by kernel_rfl)) (by decide) (fun K hK => ?_)
       refine goes_ Tryz.func59 (by kernel_rfl) rfl #[.slice A0_2 l0_2.length c0_2] (by rfl) rfl rfl zq5 ?_
       with_reducible refine (rf_natOf.calls kj7 _ _ l0_2 t511 _ ?side1 ?side2 A24.out).mono ?_
       (case side1 => exact zc (Kd.C_below HR0_2.out HB.out))
       (case side2 => exact HC0_2.out)
       rintro e w28 ⟨v512, rfl, ho0, hb⟩
       refine ⟨_, rfl, ?_⟩
       refine zt4 (vb HO510 hb) (Kd.V_lower (Kd.V_mono (ok' := fun k_ => k_ ≠ gb505) ho0 (fun k_ hk_ => (Kd.freshB (g := gb505) (o := .cells #[.bool a0_0, .slice A0_1 l0_1.length c0_1, .slice A0_2 l0_2.length c0_2] 24 (0, 0)) (zq2 BK505.out) k_ hk_))) (below_size (zb1 GE505.out))) (bb BK505.out hb) (below_step (zb1 GE505.out) hb) ?_
       clear HO510 BK505 HB
       intro HO510 HO513 BK505 HB
       refine hK.out _ _ ⟨(blk_cell BK505.out 0).trans rfl, (blk_cell BK505.out 1).trans rfl, (blk_cell BK505.out 2).trans rfl⟩ (fun hHeld => ?_)
       clear hK K
       refine nz_ (N := (some 52)) ?_
       refine pz_ (i := 6) (N := some 3) (zmf 8 [7]) ?_
       refine pz_ (i := 7) (N := some 4) (zmf 8 []) ?_
       refine done_ (done_of HT_.out (by kernel_rfl)) ?_
       go_upto_region 6 with (fail)
       go_cut [65] (fun v65 wc => ∃ (kq : Nat) (x65_24 : Bool), v65 = .bool x65_24 ∧ Aside0 (rf_Fault.j2 kq t508 t511 x65_24 = some r) ∧ Aside0 (kq ≤ kj7) ∧ Aside0 (Kd.V (Kd.int .i64) 3 wc w.heap.size (fun k_ => k_ ≠ gb505) v509 t508) ∧ Aside0 (Kd.V (Kd.int .i64) 3 wc w.heap.size (fun k_ => k_ ≠ gb505) v512 t511) ∧ Aside0 (wc.heap[gb505]? = some (.cells #[.bool a0_0, (.slice A0_1 l0_1.length c0_1), (.slice A0_2 l0_2.length c0_2)] 24 (0, 0))) ∧ Aside0 (Below w.heap.size w wc))
       case first =>
        have H := HC25.out
        clear HC25
        by_cases c29 : (t508.length : Int) = 0
        ·rw [if_pos c29] at H
         have c29b0 : ((t508.length : Int) == 0) = true := beq_iff_eq.mpr c29
         have c29b1 : ((t508.length : Int) != 0) = false := bne_eq_false_iff_eq.mpr c29
         clear c29
         (first | rw [c29b0] | (simp only [i64_w, i32_w]; rw [c29b0]) | skip)
         by_cases c30 : a0_0 = true
         ·subst c30
          have H1 : (rf_Fault.j2 kj7 t508 t511 true) = some r := by rw [if_pos rfl] at H; exact H
          clear H
          have H := H1
          clear H1
          have H' := am H
          clear H
          obtain ⟨Ao31, co31, eo31⟩ := Kd.V_slice HO510.out
          subst eo31
          have hcz32_0 := bc BK505.out 0 (.bool true)
          have hcz32_1 := bc BK505.out 1 (.slice A0_1 l0_1.length c0_1)
          have hcz32_2 := bc BK505.out 2 (.slice A0_2 l0_2.length c0_2)
          have hfz32_0 := blk_frozen BK505.out 0
          have hfz32_1 := blk_frozen BK505.out 1
          have hfz32_2 := blk_frozen BK505.out 2
          go_wp2
          go_meet
          case rel => exact ⟨_, (true), zq8, H', ⟨by have := HJ1.out; have := HJ7.out; first | omega | exact Nat.le_refl _⟩, ⟨zq3 HO510.out⟩, ⟨zq3 HO513.out⟩, ⟨zq2 BK505.out⟩, ⟨zb1 GE505.out⟩⟩
         ·replace c30 := Bool.eq_false_iff.mpr c30
          subst c30
          have H1 : ((rf_CmpNat.f kj7 t511 (([1] : List Int))).bind fun t517 => (rf_Fault.j2 kj7 t508 t511 (t517 != 0))) = some r := by rw [if_neg (show ¬ (false = true) by decide)] at H; exact H
          clear H
          have H := H1
          clear H1
          obtain ⟨y514, hy514⟩ : ∃ y_ : List Int, y_ = (([1] : List Int)) := ⟨_, rfl⟩
          try rw [← hy514] at H
          have Ny514 := am hy514
          clear hy514
          replace H := zj H
          obtain ⟨t517, A33, H⟩ := H
          have H' := am H
          clear H
          obtain ⟨Ao34, co34, eo34⟩ := Kd.V_slice HO510.out
          subst eo34
          have hcz35_0 := bc BK505.out 0 (.bool false)
          have hcz35_1 := bc BK505.out 1 (.slice A0_1 l0_1.length c0_1)
          have hcz35_2 := bc BK505.out 2 (.slice A0_2 l0_2.length c0_2)
          have hfz35_0 := blk_frozen BK505.out 0
          have hfz35_1 := blk_frozen BK505.out 1
          have hfz35_2 := blk_frozen BK505.out 2
          go_wp2_with (first | ((with_reducible refine gate_dst (N := 61) rfl ?_); (try (refine gate_guard (by rfl) ?_; dsimp only)); refine Kd.R_lit (Kd.int .i64) _ 3 ?hg (N := 61) ?hd (xs := ([1] : List Int)) (inner := [.int .i64 1]) (ok := fun _ => True) (okp := fun _ => True) ?hr ?hp (fun _ hk => hk) trivial (Below.refl _ _) (Nat.le_refl _) (by simp) ?_; (case hd => rfl); (case hg => rfl); (case hr => exact zr); (case hp => exact (Reps.one (show Kd.M (Kd.int .i64) _ _ _ 1 [.int .i64 1] from rfl) (Reps.none _ _))); intro v515 w36 ho37 hb hg_ hnew_; clear hg_ hnew_; (first | rw [← Ny514.out] at ho37 | (simp only [Int.reduceToNat] at ho37; rw [← Ny514.out] at ho37)); refine zt5 (Kd.V_elder' (zq3 HO510.out) (Kd.R_base ho37) hb) (Kd.V_elder' (zq3 HO513.out) (Kd.R_base ho37) hb) (Kd.R_lower ho37 (below_size (zb1 GE505.out))) (bb BK505.out hb) (below_step (zb1 GE505.out) hb) ?_; clear HO510 HO513 BK505 HB; intro HO510 HO513 HO516 BK505 HB; clear hb ho37; obtain ⟨Ao38, co38, eo38⟩ := Kd.V_slice HO513.out; subst eo38; obtain ⟨Ao39, co39, eo39⟩ := Kd.R_slice HO516.out; subst eo39) | (go_at_call 60; (with_reducible refine (rf_CmpNat.calls kj7 _ _ t511 _ _ y514 t517 _ ?side1 ?side2 ?side3 ?side4 A33.out).mono ?_); (case side1 => exact zc ((Kd.V_reads' HO513.out).2.2)); (case side2 => exact (Kd.V_reads' HO513.out).2.1); (case side3 => exact zc ((Kd.R_reads' HO516.out).2.2)); (case side4 => exact (Kd.R_reads' HO516.out).2.1); rintro e w40 ⟨rfl, hb⟩; refine zt5 (vb HO510 hb) (vb HO513 hb) (rb HO516 hb) (bb BK505.out hb) (below_step (zb1 GE505.out) hb) ?_; clear HO510 HO513 HO516 BK505 HB; intro HO510 HO513 HO516 BK505 HB; (try clear hb); (try clear hb2); (try clear hk); (try clear hi)))
          go_meet
          case rel => exact ⟨_, ((t517 != 0)), zq8, H', ⟨by have := HJ1.out; have := HJ7.out; first | omega | exact Nat.le_refl _⟩, ⟨zwV (h := by exact Kd.V_mono HO510.out (fun _ hk => hk.1))⟩, ⟨zwV (h := by exact Kd.V_mono HO513.out (fun _ hk => hk.1))⟩, ⟨zq2 BK505.out⟩, ⟨zb1 GE505.out⟩⟩
        ·rw [if_neg c29] at H
         have c29b0 : ((t508.length : Int) == 0) = false := beq_eq_false_iff_ne.mpr c29
         have c29b1 : ((t508.length : Int) != 0) = true := bne_iff_ne.mpr c29
         have c29b2 : ¬ (t508 = []) := fun h_ => c29 (by rw [h_]; rfl)
         (first | rw [c29b0] | (simp only [i64_w, i32_w]; rw [c29b0]) | skip)
         have H' := am H
         clear H
         obtain ⟨Ao41, co41, eo41⟩ := Kd.V_slice HO510.out
         subst eo41
         go_wp2
         go_meet
         case rel => exact ⟨_, (false), zq8, H', ⟨by have := HJ1.out; have := HJ7.out; first | omega | exact Nat.le_refl _⟩, ⟨zq3 HO510.out⟩, ⟨zq3 HO513.out⟩, ⟨zq2 BK505.out⟩, ⟨zb1 GE505.out⟩⟩
       case rest =>
        clear HC25
        obtain ⟨kq, x65_24, rfl, HA, HJ24, HO_3, HO_4, BK505, HB⟩ := hcut
        cases kq with
        | zero => exact absurd HA.out (by simp [rf_Fault.j2])
        | succ kj24 =>
         have H := HA.out
         clear HA
         simp only [rf_Fault.j2] at H
         by_cases c42 : x65_24 = true
         ·subst c42
          have H1 : (some 2) = some r := by rw [if_pos rfl] at H; exact H
          clear H
          have H := H1
          clear H1
          obtain rfl := Option.some.inj H
          go_wp2
          go_ret
          exact ⟨zq9, zb1 GE505.out⟩
         ·replace c42 := Bool.eq_false_iff.mpr c42
          subst c42
          have H1 : ((rf_GcdNat.f kj24 t508 t511).bind fun t518 => ((rf_CmpNat.f kj24 t518 (([1] : List Int))).bind fun t524 => (if t524 = 0 then (some 0) else (some 2)))) = some r := by rw [if_neg (show ¬ (false = true) by decide)] at H; exact H
          clear H
          have H := H1
          clear H1
          replace H := zj H
          obtain ⟨t518, A43, H⟩ := H
          obtain ⟨y521, hy521⟩ : ∃ y_ : List Int, y_ = (([1] : List Int)) := ⟨_, rfl⟩
          try rw [← hy521] at H
          have Ny521 := am hy521
          clear hy521
          replace H := zj H
          obtain ⟨t524, A44, H⟩ := H
          by_cases c45 : t524 = 0
          ·rw [if_pos c45] at H
           have c45b0 : (t524 == 0) = true := beq_iff_eq.mpr c45
           have c45b1 : (t524 != 0) = false := bne_eq_false_iff_eq.mpr c45
           clear c45
           obtain rfl := Option.some.inj H
           obtain ⟨Ao46, co46, eo46⟩ := Kd.V_slice HO_3.out
           subst eo46
           obtain ⟨Ao47, co47, eo47⟩ := Kd.V_slice HO_4.out
           subst eo47
           go_wp2_with (first | ((with_reducible refine gate_callee (f := 39) rfl ?_); refine goesL_ (some 68) rfl rfl Tryz.func39 (by kernel_rfl) rfl #[.slice Ao46 t508.length co46, .slice Ao47 t511.length co47] rfl zq5 ?_; (with_reducible refine (rf_GcdNat.calls kj24 (fun k_ => k_ ≠ gb505) _ _ t508 (fun k_ => k_ ≠ gb505) _ _ t511 t518 _ ?side1 ?side2 A43.out).mono ?_); (case side1 => exact HO_3.out); (case side2 => exact HO_4.out); rintro e w48 ⟨v519, rfl, ho0, hb⟩; refine ⟨_, rfl, ?_⟩; refine zt5 (vb HO_3 hb) (vb HO_4 hb) (Kd.V_lower (Kd.V_mono (ok' := fun k_ => k_ ≠ gb505) ho0 (fun k_ hk_ => Or.elim hk_ (fun hs_ => Or.elim hs_ (fun hs_ => hs_) (fun hs_ => hs_)) (fun hn_ => (Kd.freshB (g := gb505) (o := .cells #[.bool a0_0, .slice A0_1 l0_1.length c0_1, .slice A0_2 l0_2.length c0_2] 24 (0, 0)) (zq2 BK505.out) k_ hn_)))) (below_size (zb1 GE505.out))) (bb BK505.out hb) (below_step (zb1 GE505.out) hb) ?_; clear HO_3 HO_4 BK505 HB; intro HO_3 HO_4 HO520 BK505 HB) | ((with_reducible refine gate_dst (N := 69) rfl ?_); (try (refine gate_guard (by rfl) ?_; dsimp only)); refine Kd.R_lit (Kd.int .i64) _ 3 ?hg (N := 69) ?hd (xs := ([1] : List Int)) (inner := [.int .i64 1]) (ok := fun _ => True) (okp := fun _ => True) ?hr ?hp (fun _ hk => hk) trivial (Below.refl _ _) (Nat.le_refl _) (by simp) ?_; (case hd => rfl); (case hg => rfl); (case hr => exact zr); (case hp => exact (Reps.one (show Kd.M (Kd.int .i64) _ _ _ 1 [.int .i64 1] from rfl) (Reps.none _ _))); intro v522 w49 ho50 hb hg_ hnew_; clear hg_ hnew_; (first | rw [← Ny521.out] at ho50 | (simp only [Int.reduceToNat] at ho50; rw [← Ny521.out] at ho50)); refine zt6 (Kd.V_elder' (zq3 HO_3.out) (Kd.R_base ho50) hb) (Kd.V_elder' (zq3 HO_4.out) (Kd.R_base ho50) hb) (Kd.V_elder' (zq3 HO520.out) (Kd.R_base ho50) hb) (Kd.R_lower ho50 (below_size (zb1 GE505.out))) (bb BK505.out hb) (below_step (zb1 GE505.out) hb) ?_; clear HO_3 HO_4 HO520 BK505 HB; intro HO_3 HO_4 HO520 HO523 BK505 HB; clear hb ho50; obtain ⟨Ao51, co51, eo51⟩ := Kd.V_slice HO520.out; subst eo51; obtain ⟨Ao52, co52, eo52⟩ := Kd.R_slice HO523.out; subst eo52) | ((with_reducible refine gate_callee (f := 60) rfl ?_); refine goesL_ (some 70) rfl rfl Tryz.func60 (by kernel_rfl) rfl #[.slice Ao51 t518.length co51, .slice Ao52 y521.length co52] rfl zq5 ?_; (with_reducible refine (rf_CmpNat.calls kj24 _ _ t518 _ _ y521 t524 _ ?side1 ?side2 ?side3 ?side4 A44.out).mono ?_); (case side1 => exact zc ((Kd.V_reads' HO520.out).2.2)); (case side2 => exact (Kd.V_reads' HO520.out).2.1); (case side3 => exact zc ((Kd.R_reads' HO523.out).2.2)); (case side4 => exact (Kd.R_reads' HO523.out).2.1); rintro e w53 ⟨rfl, hb⟩; refine ⟨_, rfl, ?_⟩; refine zt6 (vb HO_3 hb) (vb HO_4 hb) (vb HO520 hb) (rb HO523 hb) (bb BK505.out hb) (below_step (zb1 GE505.out) hb) ?_; clear HO_3 HO_4 HO520 HO523 BK505 HB; intro HO_3 HO_4 HO520 HO523 BK505 HB; (try clear hb); (try clear hb2); (try clear hk); (try clear hi)))
           go_ret
           exact ⟨zq9, zb1 GE505.out⟩
          ·rw [if_neg c45] at H
           have c45b0 : (t524 == 0) = false := beq_eq_false_iff_ne.mpr c45
           have c45b1 : (t524 != 0) = true := bne_iff_ne.mpr c45
           obtain rfl := Option.some.inj H
           obtain ⟨Ao54, co54, eo54⟩ := Kd.V_slice HO_3.out
           subst eo54
           obtain ⟨Ao55, co55, eo55⟩ := Kd.V_slice HO_4.out
           subst eo55
           go_wp2_with (first | ((with_reducible refine gate_callee (f := 39) rfl ?_); refine goesL_ (some 68) rfl rfl Tryz.func39 (by kernel_rfl) rfl #[.slice Ao54 t508.length co54, .slice Ao55 t511.length co55] rfl zq5 ?_; (with_reducible refine (rf_GcdNat.calls kj24 (fun k_ => k_ ≠ gb505) _ _ t508 (fun k_ => k_ ≠ gb505) _ _ t511 t518 _ ?side1 ?side2 A43.out).mono ?_); (case side1 => exact HO_3.out); (case side2 => exact HO_4.out); rintro e w56 ⟨v519, rfl, ho0, hb⟩; refine ⟨_, rfl, ?_⟩; refine zt5 (vb HO_3 hb) (vb HO_4 hb) (Kd.V_lower (Kd.V_mono (ok' := fun k_ => k_ ≠ gb505) ho0 (fun k_ hk_ => Or.elim hk_ (fun hs_ => Or.elim hs_ (fun hs_ => hs_) (fun hs_ => hs_)) (fun hn_ => (Kd.freshB (g := gb505) (o := .cells #[.bool a0_0, .slice A0_1 l0_1.length c0_1, .slice A0_2 l0_2.length c0_2] 24 (0, 0)) (zq2 BK505.out) k_ hn_)))) (below_size (zb1 GE505.out))) (bb BK505.out hb) (below_step (zb1 GE505.out) hb) ?_; clear HO_3 HO_4 BK505 HB; intro HO_3 HO_4 HO520 BK505 HB) | ((with_reducible refine gate_dst (N := 69) rfl ?_); (try (refine gate_guard (by rfl) ?_; dsimp only)); refine Kd.R_lit (Kd.int .i64) _ 3 ?hg (N := 69) ?hd (xs := ([1] : List Int)) (inner := [.int .i64 1]) (ok := fun _ => True) (okp := fun _ => True) ?hr ?hp (fun _ hk => hk) trivial (Below.refl _ _) (Nat.le_refl _) (by simp) ?_; (case hd => rfl); (case hg => rfl); (case hr => exact zr); (case hp => exact (Reps.one (show Kd.M (Kd.int .i64) _ _ _ 1 [.int .i64 1] from rfl) (Reps.none _ _))); intro v522 w57 ho58 hb hg_ hnew_; clear hg_ hnew_; (first | rw [← Ny521.out] at ho58 | (simp only [Int.reduceToNat] at ho58; rw [← Ny521.out] at ho58)); refine zt6 (Kd.V_elder' (zq3 HO_3.out) (Kd.R_base ho58) hb) (Kd.V_elder' (zq3 HO_4.out) (Kd.R_base ho58) hb) (Kd.V_elder' (zq3 HO520.out) (Kd.R_base ho58) hb) (Kd.R_lower ho58 (below_size (zb1 GE505.out))) (bb BK505.out hb) (below_step (zb1 GE505.out) hb) ?_; clear HO_3 HO_4 HO520 BK505 HB; intro HO_3 HO_4 HO520 HO523 BK505 HB; clear hb ho58; obtain ⟨Ao59, co59, eo59⟩ := Kd.V_slice HO520.out; subst eo59; obtain ⟨Ao60, co60, eo60⟩ := Kd.R_slice HO523.out; subst eo60) | ((with_reducible refine gate_callee (f := 60) rfl ?_); refine goesL_ (some 70) rfl rfl Tryz.func60 (by kernel_rfl) rfl #[.slice Ao59 t518.length co59, .slice Ao60 y521.length co60] rfl zq5 ?_; (with_reducible refine (rf_CmpNat.calls kj24 _ _ t518 _ _ y521 t524 _ ?side1 ?side2 ?side3 ?side4 A44.out).mono ?_); (case side1 => exact zc ((Kd.V_reads' HO520.out).2.2)); (case side2 => exact (Kd.V_reads' HO520.out).2.1); (case side3 => exact zc ((Kd.R_reads' HO523.out).2.2)); (case side4 => exact (Kd.R_reads' HO523.out).2.1); rintro e w61 ⟨rfl, hb⟩; refine ⟨_, rfl, ?_⟩; refine zt6 (vb HO_3 hb) (vb HO_4 hb) (vb HO520 hb) (rb HO523 hb) (bb BK505.out hb) (below_step (zb1 GE505.out) hb) ?_; clear HO_3 HO_4 HO520 HO523 BK505 HB; intro HO_3 HO_4 HO520 HO523 BK505 HB; (try clear hb); (try clear hb2); (try clear hk); (try clear hi)))
           go_ret
           exact ⟨zq9, zb1 GE505.out⟩
end Go.Proofs.YtemnjgkicndmjaaGreatDoor.Q

namespace Go.Proofs.YtemnjgkicndmjaaGreatDoor.Q
open Go.RowKit Go.Proofs.YtemnjgkicndmjaaGreatDoorW.PrintWords Go.Proofs.YtemnjgkicndmjaaGreatDoorW.PrintLast Go.Proofs.YtemnjgkicndmjaaGreatDoorW.PrintMore
attribute [local go_sem] max2_int min2_int max_two min_two max_three min_three max_four min_four
set_option linter.unusedVariables false
set_option linter.unusedSimpArgs false
def rf_limbs.l0 : Nat → List Int → List Int → Int → Option (List Int)
 | 0, _, _, _ => none
 | k + 1, x0, x3, x4 => if x4 < (x0.length : Int) then (if 0 ≤ x4 then ((rf_digit.f x0 (wrap64 (x4 + 1))).bind fun t539 => (if x3.length < 35184372088832 then (rf_limbs.l0 k x0 (x3 ++ [Go.bits .or .u32 ((rd x0 x4) % 4294967296) ((((t539) % 4294967296) * 65536) % 4294967296)]) (wrap64 (x4 + 2))) else (none))) else (none)) else (some x3)
def rf_limbs.f (k : Nat) (l0 : List Int) : Option (List Int) := rf_limbs.l0 k l0 ([] : List Int) 0
def rf_limbs.T5 : Bool × List (List Nat × List Nat) := (true, [([], []), ([], []), ([], []), ([1, 2], [1, 2]), ([3], [3]), ([4], [4]), ([], []), ([], []), ([7], [7]), ([6, 8], [6, 8]), ([9], [9]), ([10], [10]), ([5, 11], [5, 11]), ([12], [12]), ([0, 13, 9], [0, 13]), ([14, 14, 0, 1, 2, 3, 4, 5, 6, 7, 8, 9, 10, 11, 12, 13, 14], [0, 14])])
def rf_limbs.B5 : List Nat := [0, 0, 0, 6, 14, 30, 0, 0, 128, 448, 960, 1984, 4094, 8190, 16383, 32767]
theorem rf_limbs.tab5 : rtab .any (opsOf Tryz.f70 5) = rf_limbs.T5 := by kernel_rfl
theorem rf_limbs.bits5 : waitsOk rf_limbs.T5.2 rf_limbs.B5 = true := by kernel_rfl
set_option maxHeartbeats 8000000 in
set_option maxRecDepth 100000 in
theorem rf_limbs.calls (k : Nat) (A0 : Option Addr) (c0 : Nat) (l0 : List Int) (r : List Int) (w : World) (hr0 : Kd.C (Kd.int .i64) w A0 l0.length l0) (hc0 : l0.length ≤ c0) (h : rf_limbs.f k l0 = some r) :
  Calls Tryz.prog 70 #[.slice A0 l0.length c0] w fun e w' => ∃ v0_ : Value, e = .returned (v0_) ∧ Kd.R (Kd.int .u32) 73 w' w.heap.size (fun _ => True) v0_ r ∧ Below w.heap.size w w' := by
 have HR0 := am hr0
 have HC0 := am hc0
 clear hr0 hc0
 have HB := am (Below.refl w.heap.size w)
 have H := h
 unfold rf_limbs.f at H
 clear h
 have H' := am H
 clear H
 go_enter Tryz.func70, Tryz.ntmps70
 go_wp2
 go_loopg [3, 4] k (fun kq v3 v4 w' => ∃ (x3_1 : List Int) (x4_1 : Int), v4 = .int .i64 x4_1 ∧ Aside0 (rf_limbs.l0 kq l0 x3_1 x4_1 = some r) ∧ Aside0 (kq ≤ k) ∧ Aside0 (Kd.R (Kd.int .u32) 73 w' w.heap.size (fun _ => True) v3 x3_1) ∧ Aside0 (Below w.heap.size w w'))
 case atStart => exact ⟨(([] : List Int)), (0), zq8, H', ⟨Nat.le_refl _⟩, ⟨by first | exact Kd.R_nil _ _ _ _ _ | exact Kd.N_nil _ _ _ _ _ | exact Kd.V_nil _ _ _ _ _ | exact Kd.Q_nil _ _ _ _ _ | exact Kd.S_nil _ _ _ _ _⟩, ⟨zq1⟩⟩
 case round =>
  clear H'
  obtain ⟨x3_1, x4_1, rfl, HA, HK1, HO_3, HB⟩ := hrel
  cases gk with
  | zero => exact absurd HA.out (by simp [rf_limbs.l0])
  | succ k1 =>
   have H := HA.out
   clear HA
   simp only [rf_limbs.l0] at H
   by_cases c2 : x4_1 < (l0.length : Int)
   ·rw [if_pos c2] at H
    have c2b0 := decide_eq_true c2
    clear c2
    replace H := zn H
    obtain ⟨c3, H⟩ := H
    have c3b0 := decide_eq_true c3
    clear c3
    replace H := zj H
    obtain ⟨t539, A4, H⟩ := H
    replace H := zn H
    obtain ⟨c5, H⟩ := H
    have LMc5 := am c5
    clear c5
    obtain ⟨y540, hy540⟩ : ∃ y_ : List Int, y_ = (x3_1 ++ [Go.bits .or .u32 ((rd l0 x4_1) % 4294967296) ((((t539) % 4294967296) * 65536) % 4294967296)]) := ⟨_, rfl⟩
    try rw [← hy540] at H
    have Ny540 := am hy540
    clear hy540
    have H' := am H
    clear H
    try go_wp2
    refine zt2 (Kd.R_drew HO_3.out) (below_drew1 HB.out) ?_
    clear HO_3 HB
    intro HO_3 HB
    have p538 : 0 ≤ (x4_1 : Int) := zq6
    have q538 : x4_1 < (l0.length : Int) := zq6
    obtain ⟨ad538, e538, hx538_0⟩ := Kd.at_int HR0.out x4_1 p538 q538
    have hw538_0 := hx538_0
    cases e538
    replace hx538_0 := (HB.out.cell (World.block_lt_of_cell? w _ hx538_0)).trans hx538_0
    replace p538 := eq_true p538
    replace q538 := eq_true q538
    refine start_ (n := 16) (S := fun w' => w'.cell? (ad538.add (x4_1).toNat) = some (.int .i64 (rd l0 x4_1))) (ds := []) #[false, false, false, false, false, false, false, false, false, false, false, false, false, false, false, false] (by kernel_rfl) rfl rfl (((HB.out.cell (World.block_lt_of_cell? w _ hw538_0)).trans hw538_0)) (fun hHeld => ?_); refine with_tabW rf_limbs.tab5 rf_limbs.bits5 (fun HT_ HW_ => ?_)
    generalize wr.drew = w6 at HO_3 HB hx538_0 hHeld ⊢
    refine pz_ (i := 0) (N := some 11) (zmt 16 [0]) ?_
    refine pz_ (i := 1) (N := some 12) (zmt 16 [0, 1]) ?_
    refine pz_ (i := 2) (N := some 13) (zmt 16 [0, 1, 2]) ?_
    refine pz_ (i := 3) (N := some 14) (zmt 16 [0, 1, 2, 3]) ?_
    refine pz_ (i := 6) (N := some 17) (zmt 16 [0, 1, 2, 3, 6]) ?_
    refine pz_ (i := 7) (N := some 18) (zmt 16 [0, 1, 2, 3, 6, 7]) ?_
    refine pz_ (i := 8) (N := some 19) (zmt 16 [0, 1, 2, 3, 6, 7, 8]) ?_
    refine tz1 (i := 4) (N := some 15) (zmt 16 [0, 1, 2, 3, 4, 6, 7, 8]) ?_
    refine pz_ (i := 5) (N := some 16) (zmf 16 [9, 10, 11, 12, 13, 14, 15]) ?_
    refine one_ (i := 9) (N := some 20) (zmf 16 [10, 11, 12, 13, 14, 15]) rfl rfl (one_of HT_.out (by kernel_rfl)) (by decide) (fun K hK => ?_)
    refine goes_ Tryz.func92 (by kernel_rfl) rfl #[.slice (some ad538) l0.length c0, .int .i64 (wrap64 (x4_1 + 1))] (by rfl) rfl rfl zq5 ?_
    with_reducible refine (rf_digit.calls _ _ l0 (wrap64 (x4_1 + 1)) t539 _ ?side1 ?side2 A4.out).mono ?_
    (case side1 => exact zc (Kd.C_below HR0.out HB.out))
    (case side2 => exact HC0.out)
    rintro e w' ⟨rfl, ⟨nd, rfl⟩⟩
    refine ⟨_, rfl, ?_⟩
    refine hK.out _ _ (((HB.out.cell (World.block_lt_of_cell? w _ hw538_0)).trans hw538_0)) (fun hHeld => ?_)
    clear hK K
    refine nz_ (N := (some 20)) ?_
    refine pz_ (i := 10) (N := some 21) (zmf 16 [11, 12, 13, 14, 15]) ?_
    refine pz_ (i := 11) (N := some 22) (zmf 16 [12, 13, 14, 15]) ?_
    refine pz_ (i := 12) (N := some 23) (zmf 16 [13, 14, 15]) ?_
    refine one_ (i := 13) (N := some 24) (zmf 16 [14, 15]) rfl rfl (one_of HT_.out (by kernel_rfl)) (by decide) (fun K hK => ?_)
    refine value_ (w1 := ?_) (v := ?_) (by rfl) rfl ?_ ?_
    rotate_left 2
    ·go_simp
     constructor
     ·rfl
     ·rfl
    refine hK.out _ _ ((World.cell?_alloc_lt _ _ _ (World.block_lt_of_cell? _ _ (((HB.out.cell (World.block_lt_of_cell? w _ hw538_0)).trans hw538_0)))).trans (((HB.out.cell (World.block_lt_of_cell? w _ hw538_0)).trans hw538_0))) (fun hHeld => ?_)
    clear hK K
    refine nz_ (N := (some 24)) ?_
    refine one_ (i := 14) (N := some 25) (zmf 16 [15]) rfl rfl (one_of HT_.out (by kernel_rfl)) (by decide) (fun K hK => ?_)
    refine Kd.R_append_step (Kd.int .u32) (w0 := w) w.heap.size (by rfl) (.tmp 11) (.tmp 24) 22 73 (.int .u32 0) 4 rfl Tryz.underlying22 info73 rfl (by decide) (by omega) u3 x3_1 (Go.bits .or .u32 ((rd l0 x4_1) % 4294967296) ((((t539) % 4294967296) * 65536) % 4294967296)) [.int .u32 (Go.bits .or .u32 ((rd l0 x4_1) % 4294967296) ((((t539) % 4294967296) * 65536) % 4294967296))] (fun _ => True) (fun _ => False) rfl rfl ?aP (fun _ hk => hk.elim) ?aF ?aO ?aB ?aS ?aL ?_
    (case aP => exact rfl)
    (case aB => exact zq1)
    (case aF => exact (fun _ _ => trivial))
    (case aO => exact (zq4 HO_3.out))
    (case aS => exact (below_size zq1))
    (case aL => have := LMc5.out; omega)
    intro v541 w7 ho hb hg hat
    rw [← Ny540.out] at ho
    refine zt2 (hb) (ho) ?_
    clear HB HO_3
    intro HB HO542
    clear ho hb hg hat
    refine hK.out _ _ (((HB.out.cell (World.block_lt_of_cell? w _ hw538_0)).trans hw538_0)) (fun hHeld => ?_)
    clear hK K
    refine nz_ (N := (some 25)) ?_
    refine pz_ (i := 15) (N := some 3) (zmf 16 []) ?_
    refine done_ (done_of HT_.out (by kernel_rfl)) ?_
    try go_wp2
    go_roundg k1
    case measure => have := HK1.out; omega
    case rel => exact ⟨(y540), (wrap64 (x4_1 + 2)), zq8, H', ⟨by have := HK1.out; omega⟩, ⟨zq4 HO542.out⟩, ⟨zq1⟩⟩
   ·rw [if_neg c2] at H
    have c2b0 := decide_eq_false c2
    clear c2
    obtain rfl := Option.some.inj H
    go_wp2
    go_ret
    exact ⟨_, zq9, zq4 HO_3.out, zq1⟩
def lw_sameLimbs.l0 : Nat → List Int → List Int → Int → Option (Bool)
 | 0, _, _, _ => none
 | k + 1, x0, x1, x5 => if x5 < (x0.length : Int) then (if 0 ≤ x5 then (if x5 < (x1.length : Int) then (if (rd x0 x5) = (rd x1 x5) then (lw_sameLimbs.l0 k x0 x1 (wrap64 (x5 + 1))) else (some false)) else (none)) else (none)) else (some true)
def lw_sameLimbs.f (k : Nat) (l0 : List Int) (l1 : List Int) : Option (Bool) := if (l0.length : Int) = (l1.length : Int) then (lw_sameLimbs.l0 k l0 l1 0) else (some false)
set_option maxHeartbeats 8000000 in
set_option maxRecDepth 100000 in
theorem lw_sameLimbs.calls (k : Nat) (A0 : Option Addr) (c0 : Nat) (l0 : List Int) (A1 : Option Addr) (c1 : Nat) (l1 : List Int) (r : Bool) (w : World) (hr0 : Kd.C (Kd.int .u32) w A0 l0.length l0) (hc0 : l0.length ≤ c0) (hr1 : Kd.C (Kd.int .u32) w A1 l1.length l1) (hc1 : l1.length ≤ c1) (h : lw_sameLimbs.f k l0 l1 = some r) :
  Calls Tryz.prog 45 #[.slice A0 l0.length c0, .slice A1 l1.length c1] w fun e w' => e = .returned (.bool r) ∧ Drawn0 w w' := by
 have HR0 := am hr0
 have HC0 := am hc0
 clear hr0 hc0
 have HR1 := am hr1
 have HC1 := am hc1
 clear hr1 hc1
 have H := h
 unfold lw_sameLimbs.f at H
 clear h
 by_cases c3 : (l0.length : Int) = (l1.length : Int)
 ·rw [if_pos c3] at H
  have c3b0 : ((l0.length : Int) == (l1.length : Int)) = true := beq_iff_eq.mpr c3
  have c3b1 : ((l0.length : Int) != (l1.length : Int)) = false := bne_eq_false_iff_eq.mpr c3
  have c3b2 : (l0.length == l1.length) = true := by first | simpa using c3 | (simp at c3 ⊢; omega)
  clear c3
  have H' := am H
  clear H
  go_enter Tryz.func45, Tryz.ntmps45
  go_wp2
  repeat (go_quiet (fail); try go_wp2)
  go_loopg [5] k (fun kq v5 w' => ∃ (x5_1 : Int), v5 = .int .i64 x5_1 ∧ Aside0 (lw_sameLimbs.l0 kq l0 l1 x5_1 = some r) ∧ Aside0 (kq ≤ k) ∧ Drawn0 w w')
  case atStart => exact ⟨(0), zq8, H', ⟨Nat.le_refl _⟩, by repeat (first | exact Drawn0.refl _ | apply Drawn0.step)⟩
  case round =>
   clear H'
   obtain ⟨x5_1, rfl, HA, HK1, ⟨m1, rfl⟩⟩ := hrel
   cases gk with
   | zero => exact absurd HA.out (by simp [lw_sameLimbs.l0])
   | succ k1 =>
    have H := HA.out
    clear HA
    simp only [lw_sameLimbs.l0] at H
    by_cases c4 : x5_1 < (l0.length : Int)
    ·rw [if_pos c4] at H
     have c4b0 := decide_eq_true c4
     clear c4
     replace H := zn H
     obtain ⟨c5, H⟩ := H
     have c5b0 := decide_eq_true c5
     clear c5
     replace H := zn H
     obtain ⟨c6, H⟩ := H
     have c6b0 := decide_eq_true c6
     clear c6
     by_cases c7 : (rd l0 x5_1) = (rd l1 x5_1)
     ·rw [if_pos c7] at H
      have c7b0 : ((rd l0 x5_1) == (rd l1 x5_1)) = true := beq_iff_eq.mpr c7
      have c7b1 : ((rd l0 x5_1) != (rd l1 x5_1)) = false := bne_eq_false_iff_eq.mpr c7
      clear c7
      have H' := am H
      clear H
      have p1396 : 0 ≤ (x5_1 : Int) := zq6
      have q1396 : x5_1 < (l0.length : Int) := zq6
      obtain ⟨ad1396, e1396, hx1396_0⟩ := Kd.at_int HR0.out x5_1 p1396 q1396
      cases e1396
      replace p1396 := eq_true p1396
      replace q1396 := eq_true q1396
      have p1397 : 0 ≤ (x5_1 : Int) := zq6
      have q1397 : x5_1 < (l1.length : Int) := zq6
      obtain ⟨ad1397, e1397, hx1397_0⟩ := Kd.at_int HR1.out x5_1 p1397 q1397
      cases e1397
      replace p1397 := eq_true p1397
      replace q1397 := eq_true q1397
      go_wp2
      repeat (go_quiet (fail); try go_wp2)
      go_roundg k1
      case measure => have := HK1.out; omega
      case rel => exact ⟨(wrap64 (x5_1 + 1)), zq8, H', ⟨by have := HK1.out; omega⟩, by repeat (first | exact Drawn0.refl _ | apply Drawn0.step)⟩
     ·rw [if_neg c7] at H
      have c7b0 : ((rd l0 x5_1) == (rd l1 x5_1)) = false := beq_eq_false_iff_ne.mpr c7
      have c7b1 : ((rd l0 x5_1) != (rd l1 x5_1)) = true := bne_iff_ne.mpr c7
      obtain rfl := Option.some.inj H
      have p1396 : 0 ≤ (x5_1 : Int) := zq6
      have q1396 : x5_1 < (l0.length : Int) := zq6
      obtain ⟨ad1396, e1396, hx1396_0⟩ := Kd.at_int HR0.out x5_1 p1396 q1396
      cases e1396
      replace p1396 := eq_true p1396
      replace q1396 := eq_true q1396
      have p1397 : 0 ≤ (x5_1 : Int) := zq6
      have q1397 : x5_1 < (l1.length : Int) := zq6
      obtain ⟨ad1397, e1397, hx1397_0⟩ := Kd.at_int HR1.out x5_1 p1397 q1397
      cases e1397
      replace p1397 := eq_true p1397
      replace q1397 := eq_true q1397
      go_wp2
      repeat (go_quiet (fail); try go_wp2)
      go_ret
      exact ⟨by first | rfl | (simp; done) | (simp [*]; done), by repeat (first | exact Drawn0.refl _ | apply Drawn0.step)⟩
    ·rw [if_neg c4] at H
     have c4b0 := decide_eq_false c4
     clear c4
     obtain rfl := Option.some.inj H
     go_wp2
     repeat (go_quiet (fail); try go_wp2)
     go_ret
     exact ⟨by first | rfl | (simp; done) | (simp [*]; done), by repeat (first | exact Drawn0.refl _ | apply Drawn0.step)⟩
 ·rw [if_neg c3] at H
  have c3b0 : ((l0.length : Int) == (l1.length : Int)) = false := beq_eq_false_iff_ne.mpr c3
  have c3b1 : ((l0.length : Int) != (l1.length : Int)) = true := bne_iff_ne.mpr c3
  have c3b2 : (l0.length == l1.length) = false := by first | simpa using c3 | (simp at c3 ⊢; omega)
  obtain rfl := Option.some.inj H
  go_enter Tryz.func45, Tryz.ntmps45
  go_wp2
  repeat (go_quiet (fail); try go_wp2)
  go_ret
  exact ⟨by first | rfl | (simp; done) | (simp [*]; done), by repeat (first | exact Drawn0.refl _ | apply Drawn0.step)⟩
def strings_IndexByte.f (a0 : ByteArray) (a1 : Int) : Option (Int) := some (Lib.indexByte a0.data.toList a1.toNat.toUInt8)
theorem strings_IndexByte.calls (a0 : ByteArray) (a1 : Int) (r : Int) (w : World) (h : strings_IndexByte.f a0 a1 = some r) :
  Calls Tryz.prog 32 #[.string a0, .int .u8 a1] w fun e w' => e = .returned (.int .i64 r) ∧ Drawn0 w w' := by
 obtain rfl := Option.some.inj h
 exact (Any.strings_IndexByte Tryz.lays137 a0 a1 w).mono fun e w' h => ⟨h.1, by rw [h.2]; exact Drawn0.refl w⟩
end Go.Proofs.YtemnjgkicndmjaaGreatDoor.Q
namespace Go.Proofs.YtemnjgkicndmjaaGreatDoor.Q
open Go.RowKit Go.Proofs.YtemnjgkicndmjaaGreatDoor.E Go.Proofs.YtemnjgkicndmjaaGreatDoorW.PrintWords Go.Proofs.YtemnjgkicndmjaaGreatDoorW.PrintLast Go.Proofs.YtemnjgkicndmjaaGreatDoorW.PrintMore
set_option linter.unusedVariables false
noncomputable def rf_Fault.c : (R : Type) → (Nm) → ((Int) → Option R) → Option R := fun R a => lm (fun (a : Nm) k => rf_Fault.f k a.1 a.2.1 a.2.2) R a
theorem rf_Fault.pc (a : Nm) (b : Int) (k : Nat) (h : rf_Fault.f k a.1 a.2.1 a.2.2 = some b) : PureC Tryz.prog 20 ((one kN).enc a) (iI.enc b) := by
  intro w P0 vs hr
  obtain ⟨x0, x1, x2⟩ := a
  obtain ⟨d0, u0, e0, hg0, hr⟩ := at_agg hr
  obtain ⟨u1, e1, hg0⟩ := at_bool hg0
  obtain ⟨A2, c2, u2, e2, hc2, hf2, hg0⟩ := at_row hg0
  obtain ⟨A3, c3, u3, e3, hc3, hf3, hg0⟩ := at_row hg0
  have z := at_nil hg0
  subst z
  subst e3
  subst e2
  have q4 := e1
  obtain rfl : d0 = #[.bool x0, .slice A2 x1.length c2, .slice A3 x2.length c3] := Array.toList_inj.1 (by simpa using q4)
  have z := at_nil hr
  subst z
  have q5 := e0
  obtain rfl : vs = #[.agg #[.bool x0, .slice A2 x1.length c2, .slice A3 x2.length c3]] := Array.toList_inj.1 (by simpa using q5)
  refine Calls.mono (rf_Fault.calls k x0 A2 c2 x1 A3 c3 x2 b w (now hf2) hc2 (now hf3) hc3 h) fun e w' he => ?_
  obtain ⟨rfl, hb⟩ := he
  exact ⟨_, rfl, hb, (show E.Rep _ _ _ _ _ from by simp only [iI, ci, E.Rep])⟩
theorem rf_Fault.ok : FunOk Tryz.prog 20 (mk (one kN) iI rf_Fault.c) := lm_ok (by kernel_rfl) rf_Fault.pc
theorem rf_Fault.eq {x0 : Bool} {x1 : List Int} {x2 : List Int} {b : Int} (h : Ev (fun k => rf_Fault.f k x0 x1 x2) b) {R : Type} (K : (Int) → Option R) : rf_Fault.c R (x0, x1, x2) K = K b := lm_ev (g := fun (a : Nm) k => rf_Fault.f k a.1 a.2.1 a.2.2) (a := (x0, x1, x2)) h K
noncomputable def rf_natOf.c : (R : Type) → (List Int) → ((List Int) → Option R) → Option R := fun R a => lm (fun (a : List Int) k => rf_natOf.f k a) R a
theorem rf_natOf.pc (a : List Int) (b : List Int) (k : Nat) (h : rf_natOf.f k a = some b) : PureC Tryz.prog 59 ((one rU).enc a) (rI.enc b) := by
  intro w P0 vs hr
  obtain ⟨A0, c0, u0, e0, hc0, hf0, hr⟩ := at_row hr
  have z := at_nil hr
  subst z
  have q1 := e0
  obtain rfl : vs = #[.slice A0 a.length c0] := Array.toList_inj.1 (by simpa using q1)
  refine Calls.mono (rf_natOf.calls k A0 c0 a b w (now hf0) hc0 h) fun e w' he => ?_
  obtain ⟨v0_, rfl, hv0, hb⟩ := he
  exact ⟨_, rfl, hb, (V_row hv0 fun n hn => .inr hn)⟩
theorem rf_natOf.ok : FunOk Tryz.prog 59 (mk (one rU) rI rf_natOf.c) := lm_ok (by kernel_rfl) rf_natOf.pc
theorem rf_natOf.eq {x0 : List Int} {b : List Int} (h : Ev (fun k => rf_natOf.f k x0) b) {R : Type} (K : (List Int) → Option R) : rf_natOf.c R x0 K = K b := lm_ev (g := fun (a : List Int) k => rf_natOf.f k a) (a := x0) h K
noncomputable def rf_CmpNat.c : (R : Type) → (List Int × List Int) → ((Int) → Option R) → Option R := fun R a => lm (fun (a : List Int × List Int) k => rf_CmpNat.f k a.1 a.2) R a
theorem rf_CmpNat.pc (a : List Int × List Int) (b : Int) (k : Nat) (h : rf_CmpNat.f k a.1 a.2 = some b) : PureC Tryz.prog 60 ((more rI (one rI)).enc a) (iI.enc b) := by
  intro w P0 vs hr
  obtain ⟨x0, x1⟩ := a
  obtain ⟨A0, c0, u0, e0, hc0, hf0, hr⟩ := at_row hr
  obtain ⟨A1, c1, u1, e1, hc1, hf1, hr⟩ := at_row hr
  have z := at_nil hr
  subst z
  subst e1
  have q2 := e0
  obtain rfl : vs = #[.slice A0 x0.length c0, .slice A1 x1.length c1] := Array.toList_inj.1 (by simpa using q2)
  refine Calls.mono (rf_CmpNat.calls k A0 c0 x0 A1 c1 x1 b w (now hf0) hc0 (now hf1) hc1 h) fun e w' he => ?_
  obtain ⟨rfl, hb⟩ := he
  exact ⟨_, rfl, hb, (show E.Rep _ _ _ _ _ from by simp only [iI, ci, E.Rep])⟩
theorem rf_CmpNat.ok : FunOk Tryz.prog 60 (mk (more rI (one rI)) iI rf_CmpNat.c) := lm_ok (by kernel_rfl) rf_CmpNat.pc
theorem rf_CmpNat.eq {x0 : List Int} {x1 : List Int} {b : Int} (h : Ev (fun k => rf_CmpNat.f k x0 x1) b) {R : Type} (K : (Int) → Option R) : rf_CmpNat.c R (x0, x1) K = K b := lm_ev (g := fun (a : List Int × List Int) k => rf_CmpNat.f k a.1 a.2) (a := (x0, x1)) h K
noncomputable def rf_MulNat.c : (R : Type) → (List Int × List Int) → ((List Int) → Option R) → Option R := fun R a => lm (fun (a : List Int × List Int) k => rf_MulNat.f k a.1 a.2) R a
theorem rf_MulNat.pc (a : List Int × List Int) (b : List Int) (k : Nat) (h : rf_MulNat.f k a.1 a.2 = some b) : PureC Tryz.prog 71 ((more rI (one rI)).enc a) (rI.enc b) := by
  intro w P0 vs hr
  obtain ⟨x0, x1⟩ := a
  obtain ⟨A0, c0, u0, e0, hc0, hf0, hr⟩ := at_row hr
  obtain ⟨A1, c1, u1, e1, hc1, hf1, hr⟩ := at_row hr
  have z := at_nil hr
  subst z
  subst e1
  have q2 := e0
  obtain rfl : vs = #[.slice A0 x0.length c0, .slice A1 x1.length c1] := Array.toList_inj.1 (by simpa using q2)
  refine Calls.mono (rf_MulNat.calls k A0 c0 x0 A1 c1 x1 b w (now hf0) hc0 (now hf1) hc1 h) fun e w' he => ?_
  obtain ⟨v0_, rfl, hv0, hb⟩ := he
  exact ⟨_, rfl, hb, (V_row hv0 fun n hn => .inr hn)⟩
theorem rf_MulNat.ok : FunOk Tryz.prog 71 (mk (more rI (one rI)) rI rf_MulNat.c) := lm_ok (by kernel_rfl) rf_MulNat.pc
theorem rf_MulNat.eq {x0 : List Int} {x1 : List Int} {b : List Int} (h : Ev (fun k => rf_MulNat.f k x0 x1) b) {R : Type} (K : (List Int) → Option R) : rf_MulNat.c R (x0, x1) K = K b := lm_ev (g := fun (a : List Int × List Int) k => rf_MulNat.f k a.1 a.2) (a := (x0, x1)) h K
noncomputable def rf_limbs.c : (R : Type) → (List Int) → ((List Int) → Option R) → Option R := fun R a => lm (fun (a : List Int) k => rf_limbs.f k a) R a
theorem rf_limbs.pc (a : List Int) (b : List Int) (k : Nat) (h : rf_limbs.f k a = some b) : PureC Tryz.prog 70 ((one rI).enc a) (rU.enc b) := by
  intro w P0 vs hr
  obtain ⟨A0, c0, u0, e0, hc0, hf0, hr⟩ := at_row hr
  have z := at_nil hr
  subst z
  have q1 := e0
  obtain rfl : vs = #[.slice A0 a.length c0] := Array.toList_inj.1 (by simpa using q1)
  refine Calls.mono (rf_limbs.calls k A0 c0 a b w (now hf0) hc0 h) fun e w' he => ?_
  obtain ⟨v0_, rfl, hv0, hb⟩ := he
  exact ⟨_, rfl, hb, (R_new hv0 fun n hn => .inr hn)⟩
theorem rf_limbs.ok : FunOk Tryz.prog 70 (mk (one rI) rU rf_limbs.c) := lm_ok (by kernel_rfl) rf_limbs.pc
theorem rf_limbs.eq {x0 : List Int} {b : List Int} (h : Ev (fun k => rf_limbs.f k x0) b) {R : Type} (K : (List Int) → Option R) : rf_limbs.c R x0 K = K b := lm_ev (g := fun (a : List Int) k => rf_limbs.f k a) (a := x0) h K
noncomputable def lw_sameLimbs.c : (R : Type) → (List Int × List Int) → ((Bool) → Option R) → Option R := fun R a => lm (fun (a : List Int × List Int) k => lw_sameLimbs.f k a.1 a.2) R a
theorem lw_sameLimbs.pc (a : List Int × List Int) (b : Bool) (k : Nat) (h : lw_sameLimbs.f k a.1 a.2 = some b) : PureC Tryz.prog 45 ((more rU (one rU)).enc a) (cb.enc b) := by
  intro w P0 vs hr
  obtain ⟨x0, x1⟩ := a
  obtain ⟨A0, c0, u0, e0, hc0, hf0, hr⟩ := at_row hr
  obtain ⟨A1, c1, u1, e1, hc1, hf1, hr⟩ := at_row hr
  have z := at_nil hr
  subst z
  subst e1
  have q2 := e0
  obtain rfl : vs = #[.slice A0 x0.length c0, .slice A1 x1.length c1] := Array.toList_inj.1 (by simpa using q2)
  refine Calls.mono (lw_sameLimbs.calls k A0 c0 x0 A1 c1 x1 b w (now hf0) hc0 (now hf1) hc1 h) fun e w' he => ?_
  obtain ⟨rfl, hb⟩ := he
  exact ⟨_, rfl, hb.below, (show E.Rep _ _ _ _ _ from by simp only [cb, E.Rep])⟩
theorem lw_sameLimbs.ok : FunOk Tryz.prog 45 (mk (more rU (one rU)) cb lw_sameLimbs.c) := lm_ok (by kernel_rfl) lw_sameLimbs.pc
theorem lw_sameLimbs.eq {x0 : List Int} {x1 : List Int} {b : Bool} (h : Ev (fun k => lw_sameLimbs.f k x0 x1) b) {R : Type} (K : (Bool) → Option R) : lw_sameLimbs.c R (x0, x1) K = K b := lm_ev (g := fun (a : List Int × List Int) k => lw_sameLimbs.f k a.1 a.2) (a := (x0, x1)) h K
def strings_IndexByte.c : (R : Type) → (ByteArray × Int) → ((Int) → Option R) → Option R := fun R a => at' (fun (a : ByteArray × Int) => strings_IndexByte.f a.1 a.2) R a
theorem strings_IndexByte.pc (a : ByteArray × Int) (b : Int) (h : strings_IndexByte.f a.1 a.2 = some b) : PureC Tryz.prog 32 ((more cs (one (ci .u8))).enc a) (iI.enc b) := by
  intro w P0 vs hr
  obtain ⟨x0, x1⟩ := a
  obtain ⟨u0, e0, hr⟩ := at_str hr
  obtain ⟨u1, e1, hr⟩ := at_int hr
  have z := at_nil hr
  subst z
  subst e1
  have q2 := e0
  obtain rfl : vs = #[.string x0, .int .u8 x1] := Array.toList_inj.1 (by simpa using q2)
  refine Calls.mono (strings_IndexByte.calls x0 x1 b w h) fun e w' he => ?_
  obtain ⟨rfl, hb⟩ := he
  exact ⟨_, rfl, hb.below, (show E.Rep _ _ _ _ _ from by simp only [iI, ci, E.Rep])⟩
theorem strings_IndexByte.ok : FunOk Tryz.prog 32 (mk (more cs (one (ci .u8))) iI strings_IndexByte.c) := at_ok (by kernel_rfl) strings_IndexByte.pc
noncomputable def rf_IsInt.d (g60 : CF (List Int × List Int) (Int)) (R : Type) (a : Nm) (K : (Bool) → Option R) : Option R :=
  (g60 _ (a.2.2, ([(1 : Int)] : List Int)) fun t1 => K (t1 == (0 : Int)))
noncomputable abbrev rf_IsInt.c (R : Type) (a : Nm) (K : (Bool) → Option R) : Option R := rf_IsInt.d rf_CmpNat.c R a K
noncomputable def rf_IsInt.T (g60 : CF (List Int × List Int) (Int)) : List (Nat × Tf) := [(60, .pure (mk (more rI (one rI)) iI g60))]
theorem rf_IsInt.tok : TOk Tryz.prog (tt (rf_IsInt.T rf_CmpNat.c)) := (tt_cons rf_CmpNat.ok tt_nil)
set_option maxRecDepth 100000 in
theorem rf_IsInt.ex0 (g60 : CF (List Int × List Int) (Int)) (R : Type) (a : Nm) (K : (Bool) → Option R) : execFn' Tryz.prog (tt (rf_IsInt.T g60)) (lt []) 60 Tryz.f21 R ((one kQ).enc a) (dk cb K) = rf_IsInt.d g60 R a K := by kernel_rfl
theorem rf_IsInt.sh : Shown Tryz.prog 21 (one kQ).enc cb rf_IsInt.c := exec_shown rf_IsInt.tok mixed Tryz.func21 (by kernel_rfl) (rf_IsInt.ex0 rf_CmpNat.c)
theorem rf_IsInt.ok : FunOk Tryz.prog 21 (mk (one kQ) cb rf_IsInt.c) := rf_IsInt.sh.ok (by kernel_rfl)
noncomputable def rf_Of.d (g59 : CF (List Int) (List Int)) (R : Type) (a : Nm) (K : (Nm) → Option R) : Option R :=
  (g59 _ a.2.1 fun t1 => (g59 _ a.2.2 fun t2 => K (a.1, t1, t2)))
noncomputable abbrev rf_Of.c (R : Type) (a : Nm) (K : (Nm) → Option R) : Option R := rf_Of.d rf_natOf.c R a K
noncomputable def rf_Of.T (g59 : CF (List Int) (List Int)) : List (Nat × Tf) := [(59, .pure (mk (one rU) rI g59))]
theorem rf_Of.tok : TOk Tryz.prog (tt (rf_Of.T rf_natOf.c)) := (tt_cons rf_natOf.ok tt_nil)
set_option maxRecDepth 100000 in
theorem rf_Of.ex0 (g59 : CF (List Int) (List Int)) (R : Type) (a : Nm) (K : (Nm) → Option R) : execFn' Tryz.prog (tt (rf_Of.T g59)) (lt []) 60 Tryz.f22 R ((one kN).enc a) (dk kQ K) = rf_Of.d g59 R a K := by kernel_rfl
theorem rf_Of.sh : Shown Tryz.prog 22 (one kN).enc kQ rf_Of.c := exec_shown rf_Of.tok mixed Tryz.func22 (by kernel_rfl) (rf_Of.ex0 rf_natOf.c)
theorem rf_Of.ok : FunOk Tryz.prog 22 (mk (one kN) kQ rf_Of.c) := rf_Of.sh.ok (by kernel_rfl)
noncomputable def rf_Inverse.d (R : Type) (a : Nm) (K : (Nm) → Option R) : Option R :=
  K (a.1, a.2.2, a.2.1)
noncomputable abbrev rf_Inverse.c (R : Type) (a : Nm) (K : (Nm) → Option R) : Option R := rf_Inverse.d R a K
noncomputable def rf_Inverse.T : List (Nat × Tf) := []
theorem rf_Inverse.tok : TOk Tryz.prog (tt (rf_Inverse.T)) := tt_nil
set_option maxRecDepth 100000 in
theorem rf_Inverse.ex0 (R : Type) (a : Nm) (K : (Nm) → Option R) : execFn' Tryz.prog (tt (rf_Inverse.T)) (lt []) 60 Tryz.f37 R ((one kQ).enc a) (dk kQ K) = rf_Inverse.d R a K := by kernel_rfl
theorem rf_Inverse.sh : Shown Tryz.prog 37 (one kQ).enc kQ rf_Inverse.c := exec_shown rf_Inverse.tok mixed Tryz.func37 (by kernel_rfl) (rf_Inverse.ex0)
theorem rf_Inverse.ok : FunOk Tryz.prog 37 (mk (one kQ) kQ rf_Inverse.c) := rf_Inverse.sh.ok (by kernel_rfl)
noncomputable def rf_Made.d (g70 : CF (List Int) (List Int)) (R : Type) (a : Nm) (K : ((Nm × Int)) → Option R) : Option R :=
  (g70 _ a.2.1 fun t1 => (g70 _ a.2.2 fun t2 => (if (decide ((t1.length : Int) > (128 : Int))) = false then (if (decide ((t2.length : Int) > (128 : Int))) = true then K ((false, ([] : List Int), ([] : List Int)), (3 : Int)) else K ((a.1, t1, t2), (0 : Int))) else K ((false, ([] : List Int), ([] : List Int)), (3 : Int)))))
noncomputable abbrev rf_Made.c (R : Type) (a : Nm) (K : ((Nm × Int)) → Option R) : Option R := rf_Made.d rf_limbs.c R a K
noncomputable def rf_Made.T (g70 : CF (List Int) (List Int)) : List (Nat × Tf) := [(70, .pure (mk (one rI) rU g70))]
theorem rf_Made.tok : TOk Tryz.prog (tt (rf_Made.T rf_limbs.c)) := (tt_cons rf_limbs.ok tt_nil)
set_option maxRecDepth 100000 in
theorem rf_Made.ex0 (g70 : CF (List Int) (List Int)) (R : Type) (a : Nm) (K : ((Nm × Int)) → Option R) : execFn' Tryz.prog (tt (rf_Made.T g70)) (lt []) 60 Tryz.f33 R ((one kQ).enc a) (dk kE K) = rf_Made.d g70 R a K := by kernel_rfl
theorem rf_Made.sh : Shown Tryz.prog 33 (one kQ).enc kE rf_Made.c := exec_shown rf_Made.tok mixed Tryz.func33 (by kernel_rfl) (rf_Made.ex0 rf_limbs.c)
theorem rf_Made.ok : FunOk Tryz.prog 33 (mk (one kQ) kE rf_Made.c) := rf_Made.sh.ok (by kernel_rfl)
noncomputable def lw_same.d (g45 : CF (List Int × List Int) (Bool)) (R : Type) (a : Nm × Nm) (K : (Bool) → Option R) : Option R :=
  (if (a.1.1 == a.2.1) = true then (g45 _ (a.1.2.1, a.2.2.1) fun t1 => (if t1 = true then (g45 _ (a.1.2.2, a.2.2.2) fun t2 => K t2) else K false)) else K false)
noncomputable abbrev lw_same.c (R : Type) (a : Nm × Nm) (K : (Bool) → Option R) : Option R := lw_same.d lw_sameLimbs.c R a K
noncomputable def lw_same.T (g45 : CF (List Int × List Int) (Bool)) : List (Nat × Tf) := [(45, .pure (mk (more rU (one rU)) cb g45))]
theorem lw_same.tok : TOk Tryz.prog (tt (lw_same.T lw_sameLimbs.c)) := (tt_cons lw_sameLimbs.ok tt_nil)
set_option maxRecDepth 100000 in
theorem lw_same.ex0 (g45 : CF (List Int × List Int) (Bool)) (R : Type) (a : Nm × Nm) (K : (Bool) → Option R) : execFn' Tryz.prog (tt (lw_same.T g45)) (lt []) 60 Tryz.f10 R ((more kN (one kN)).enc a) (dk cb K) = lw_same.d g45 R a K := by kernel_rfl
theorem lw_same.sh : Shown Tryz.prog 10 (more kN (one kN)).enc cb lw_same.c := exec_shown lw_same.tok mixed Tryz.func10 (by kernel_rfl) (lw_same.ex0 lw_sameLimbs.c)
theorem lw_same.ok : FunOk Tryz.prog 10 (mk (more kN (one kN)) cb lw_same.c) := lw_same.sh.ok (by kernel_rfl)
end Go.Proofs.YtemnjgkicndmjaaGreatDoor.Q
namespace Go.Proofs.YtemnjgkicndmjaaGreatDoor.Q
open Go.RowKit Go.Proofs.YtemnjgkicndmjaaGreatDoorW.PrintWords Go.Proofs.YtemnjgkicndmjaaGreatDoorW.PrintLast Go.Proofs.YtemnjgkicndmjaaGreatDoorW.PrintMore
attribute [local go_sem] max2_int min2_int max_two min_two max_three min_three max_four min_four
set_option linter.unusedVariables false
set_option linter.unusedSimpArgs false
end Go.Proofs.YtemnjgkicndmjaaGreatDoor.Q
namespace Go.Proofs.YtemnjgkicndmjaaGreatDoor.Q
open Go.RowKit Go.Proofs.YtemnjgkicndmjaaGreatDoor.E Go.Proofs.YtemnjgkicndmjaaGreatDoorW.PrintWords Go.Proofs.YtemnjgkicndmjaaGreatDoorW.PrintLast Go.Proofs.YtemnjgkicndmjaaGreatDoorW.PrintMore
set_option linter.unusedVariables false
noncomputable def rf_LenNat.c : (R : Type) → (List Int) → ((Int) → Option R) → Option R := fun R a => lm (fun (a : List Int) k => rf_LenNat.f k a) R a
theorem rf_LenNat.pc (a : List Int) (b : Int) (k : Nat) (h : rf_LenNat.f k a = some b) : PureC Tryz.prog 23 ((one rI).enc a) (iI.enc b) := by
  intro w P0 vs hr
  obtain ⟨A0, c0, u0, e0, hc0, hf0, hr⟩ := at_row hr
  have z := at_nil hr
  subst z
  have q1 := e0
  obtain rfl : vs = #[.slice A0 a.length c0] := Array.toList_inj.1 (by simpa using q1)
  refine Calls.mono (rf_LenNat.calls k A0 c0 a b w (now hf0) hc0 h) fun e w' he => ?_
  obtain ⟨rfl, hb⟩ := he
  exact ⟨_, rfl, hb.below, (show E.Rep _ _ _ _ _ from by simp only [iI, ci, E.Rep])⟩
theorem rf_LenNat.ok : FunOk Tryz.prog 23 (mk (one rI) iI rf_LenNat.c) := lm_ok (by kernel_rfl) rf_LenNat.pc
theorem rf_LenNat.eq {x0 : List Int} {b : Int} (h : Ev (fun k => rf_LenNat.f k x0) b) {R : Type} (K : (Int) → Option R) : rf_LenNat.c R x0 K = K b := lm_ev (g := fun (a : List Int) k => rf_LenNat.f k a) (a := x0) h K
def rf_digit.c : (R : Type) → (List Int × Int) → ((Int) → Option R) → Option R := fun R a => at' (fun (a : List Int × Int) => rf_digit.f a.1 a.2) R a
theorem rf_digit.pc (a : List Int × Int) (b : Int) (h : rf_digit.f a.1 a.2 = some b) : PureC Tryz.prog 92 ((more rI (one iI)).enc a) (iI.enc b) := by
  intro w P0 vs hr
  obtain ⟨x0, x1⟩ := a
  obtain ⟨A0, c0, u0, e0, hc0, hf0, hr⟩ := at_row hr
  obtain ⟨u1, e1, hr⟩ := at_int hr
  have z := at_nil hr
  subst z
  subst e1
  have q2 := e0
  obtain rfl : vs = #[.slice A0 x0.length c0, .int .i64 x1] := Array.toList_inj.1 (by simpa using q2)
  refine Calls.mono (rf_digit.calls A0 c0 x0 x1 b w (now hf0) hc0 h) fun e w' he => ?_
  obtain ⟨rfl, hb⟩ := he
  exact ⟨_, rfl, hb.below, (show E.Rep _ _ _ _ _ from by simp only [iI, ci, E.Rep])⟩
theorem rf_digit.ok : FunOk Tryz.prog 92 (mk (more rI (one iI)) iI rf_digit.c) := at_ok (by kernel_rfl) rf_digit.pc
theorem rf_digit.eq {x0 : List Int} {x1 : Int} {b : Int} (h : rf_digit.f x0 x1 = some b) {R : Type} (K : (Int) → Option R) : rf_digit.c R (x0, x1) K = K b := at_eq (g := fun (a : List Int × Int) => rf_digit.f a.1 a.2) (a := (x0, x1)) h K
noncomputable def rf_small.d (g23 : CF (List Int) (Int)) (g92 : CF (List Int × Int) (Int)) (R : Type) (a : Nm) (K : ((Int × Bool)) → Option R) : Option R :=
  (g23 _ a.2.1 fun t1 => (if (decide (t1 > (20 : Int))) = true then K ((0 : Int), false) else (g92 _ (a.2.1, (0 : Int)) fun t2 => (g92 _ (a.2.1, (1 : Int)) fun t3 => K ((IntKind.i64.wrap (t2 + (IntKind.i64.wrap (t3 * (65536 : Int))))), true)))))
noncomputable abbrev rf_small.c (R : Type) (a : Nm) (K : ((Int × Bool)) → Option R) : Option R := rf_small.d rf_LenNat.c rf_digit.c R a K
noncomputable def rf_small.T (g23 : CF (List Int) (Int)) (g92 : CF (List Int × Int) (Int)) : List (Nat × Tf) := [(23, .pure (mk (one rI) iI g23)), (92, .pure (mk (more rI (one iI)) iI g92))]
theorem rf_small.tok : TOk Tryz.prog (tt (rf_small.T rf_LenNat.c rf_digit.c)) := (tt_cons rf_LenNat.ok (tt_cons rf_digit.ok tt_nil))
set_option maxRecDepth 100000 in
theorem rf_small.ex0 (g23 : CF (List Int) (Int)) (g92 : CF (List Int × Int) (Int)) (R : Type) (a : Nm) (K : ((Int × Bool)) → Option R) : execFn' Tryz.prog (tt (rf_small.T g23 g92)) (lt []) 60 Tryz.f78 R ((one kQ).enc a) (dk (tup (more iI (one cb))) K) = rf_small.d g23 g92 R a K := by kernel_rfl
theorem rf_small.sh : Shown Tryz.prog 78 (one kQ).enc (tup (more iI (one cb))) rf_small.c := exec_shown rf_small.tok mixed Tryz.func78 (by kernel_rfl) (rf_small.ex0 rf_LenNat.c rf_digit.c)
theorem rf_small.ok : FunOk Tryz.prog 78 (mk (one kQ) (tup (more iI (one cb))) rf_small.c) := rf_small.sh.ok (by kernel_rfl)
end Go.Proofs.YtemnjgkicndmjaaGreatDoor.Q
namespace Go.Proofs.YtemnjgkicndmjaaGreatDoor.Q
open Go.RowKit Go.Proofs.YtemnjgkicndmjaaGreatDoorW.PrintWords Go.Proofs.YtemnjgkicndmjaaGreatDoorW.PrintLast Go.Proofs.YtemnjgkicndmjaaGreatDoorW.PrintMore
attribute [local go_sem] max2_int min2_int max_two min_two max_three min_three max_four min_four
set_option linter.unusedVariables false
set_option linter.unusedSimpArgs false
end Go.Proofs.YtemnjgkicndmjaaGreatDoor.Q
namespace Go.Proofs.YtemnjgkicndmjaaGreatDoor.Q
open Go.RowKit Go.Proofs.YtemnjgkicndmjaaGreatDoorW.PrintWords Go.Proofs.YtemnjgkicndmjaaGreatDoorW.PrintLast Go.Proofs.YtemnjgkicndmjaaGreatDoorW.PrintMore
set_option linter.unusedVariables false
theorem u32_pair {a b : Int} (ha0 : 0 ≤ a) (ha : a < 65536) (hb0 : 0 ≤ b) (hb : b < 65536) : Go.bits .or .u32 (a % 4294967296) ((b % 4294967296 * 65536) % 4294967296) = a + 65536 * b := by
  have e1 : a % 4294967296 = a := by omega
  have e2 : (b % 4294967296 * 65536) % 4294967296 = b * 65536 := by omega
  rw [e1, e2, u32_or _ _ ha0 (by omega) (by omega) (by omega), Nat.or_comm, nat_join 16 _ _ (by omega) (by omega)]
  omega
theorem nrm_of_val {B : Int} (hB : 0 < B) {xs : List Int} (h : Lim B xs) (hv : xs ≠ [] → B ^ (xs.length - 1) ≤ val B xs) : Nrm xs := by
  by_cases e : xs = []
  · rw [e]; exact nrm_nil
  · have h1 := hv e
    rw [← List.dropLast_concat_getLast e] at h h1 ⊢
    rw [nrm_snoc]
    intro h2
    have h3 := val_lt hB (lim_append.1 h).1
    rw [val_snoc, h2, Int.mul_zero, Int.add_zero, List.length_append, List.length_singleton, Nat.add_sub_cancel] at h1
    omega
theorem limbs_loop (x : List Int) (hx : Lim 65536 x) (hL : x.length ≤ 137438953472) : ∀ (d i : Nat) (out : List Int), x.length ≤ 2 * i + 2 * d → (0 < d → 2 * i + 2 * d < x.length + 2) → out.length = i → Lim 4294967296 out → val 4294967296 out = val 65536 (x.take (2 * i)) →
    ∃ r, Ev (fun k => rf_limbs.l0 k x out ((2 * i : Nat) : Int)) r ∧ r.length = i + d ∧ Lim 4294967296 r ∧ val 4294967296 r = val 65536 x := by
  have hB : (0 : Int) < 65536 := by decide
  intro d
  induction d with
  | zero =>
    intro i out h1 h2 hl ho hv
    refine ⟨out, Ev.step (f := fun _ => some out) (fun k => ?_) (Ev.now _), by omega, ho, by rw [hv, List.take_of_length_le (by omega)]⟩
    simp only [rf_limbs.l0]
    rw [if_neg (by omega)]
  | succ d ih =>
    intro i out h1 h2 hl ho hv
    have h2' := h2 (by omega)
    have g1 : ((2 * i : Nat) : Int) < (x.length : Int) := by omega
    have g2 : (0 : Int) ≤ ((2 * i : Nat) : Int) := by omega
    have g3 : out.length < 35184372088832 := by omega
    have g4 : x.length ≤ 2 * (i + 1) + 2 * d := by omega
    have g5 : 0 < d → 2 * (i + 1) + 2 * d < x.length + 2 := by omega
    have e1 : ∀ _ : Unit, wrap64 (((2 * i : Nat) : Int) + 1) = ((2 * i + 1 : Nat) : Int) := fun _ => by rw [w64 (by omega) (by omega)]; omega
    have e2 : ∀ _ : Unit, wrap64 (((2 * i : Nat) : Int) + 2) = ((2 * (i + 1) : Nat) : Int) := fun _ => by rw [w64 (by omega) (by omega)]; omega
    have ha := hx.getD hB (2 * i)
    have hb := hx.getD hB (2 * i + 1)
    have hv2 : val 65536 (x.take (2 * (i + 1))) = val 65536 (x.take (2 * i)) + 65536 ^ (2 * i) * (x.getD (2 * i) 0 + 65536 * x.getD (2 * i + 1) 0) := by
      have : 2 * (i + 1) = 2 * i + 1 + 1 := by omega
      rw [this, val_take_succ', val_take_succ', Int.pow_succ]
      generalize (65536 : Int) ^ (2 * i) = p
      grind
    obtain ⟨r, hr, r1, r2, r3⟩ := ih (i + 1) (out ++ [x.getD (2 * i) 0 + 65536 * x.getD (2 * i + 1) 0]) g4 g5 (by rw [List.length_append, List.length_singleton, hl]) (lim_nrm_snoc ho ⟨by omega, by omega⟩) (by
      rw [val_snoc, hv, hv2, hl, Int.pow_mul, show (65536 : Int) ^ 2 = 4294967296 from rfl])
    refine ⟨r, Ev.step (f := fun k => rf_limbs.l0 k x (out ++ [x.getD (2 * i) 0 + 65536 * x.getD (2 * i + 1) 0]) ((2 * (i + 1) : Nat) : Int)) (fun k => ?_) hr, by omega, r2, r3⟩
    simp only [rf_limbs.l0]
    rw [if_pos g1, if_pos g2, e1 (), rdigit, Option.bind_some, if_pos g3, rd_getD, u32_pair ha.1 ha.2 hb.1 hb.2, e2 ()]
theorem limbs_ev (x : List Int) (hx : Lim 65536 x) (nx : Nrm x) (hL : x.length ≤ 137438953472) :
    ∃ r, Ev (fun k => rf_limbs.f k x) r ∧ Lim 4294967296 r ∧ Nrm r ∧ val 4294967296 r = val 65536 x ∧ r.length = (x.length + 1) / 2 := by
  obtain ⟨r, h1, h2, h3, h4⟩ := limbs_loop x hx hL ((x.length + 1) / 2) 0 [] (by omega) (by omega) rfl (lim_nil _) (by simp [val])
  refine ⟨r, h1, h3, nrm_of_val (by decide) h3 (fun hr => ?_), h4, by omega⟩
  have hx0 : x ≠ [] := by
    rintro rfl
    exact hr (List.length_eq_zero_iff.1 (by rw [h2]; rfl))
  have h5 := val_ge (by decide) hx nx hx0
  have hl : x.length ≠ 0 := fun h' => hx0 (List.length_eq_zero_iff.1 h')
  have h6 : (4294967296 : Int) ^ (r.length - 1) = 65536 ^ (2 * (r.length - 1)) := by rw [Int.pow_mul]; rfl
  have h7 := pow_mono' (B := 65536) (by decide) (show 2 * (r.length - 1) ≤ x.length - 1 by omega)
  rw [h4, h6]
  omega
end Go.Proofs.YtemnjgkicndmjaaGreatDoor.Q

namespace Go.Proofs.YtemnjgkicndmjaaGreatDoor.Q
open Go.RowKit Go.Proofs.YtemnjgkicndmjaaGreatDoorW.PrintWords Go.Proofs.YtemnjgkicndmjaaGreatDoorW.PrintLast Go.Proofs.YtemnjgkicndmjaaGreatDoorW.PrintMore
set_option linter.unusedVariables false
theorem rbit0 {l : List Int} (h : Lim 65536 l) : rf_bit.f l 0 = some (val 65536 l % 2) := by
  unfold rf_bit.f
  have e : wrap64 (Int.tdiv 0 16) = ((0 : Nat) : Int) := by decide +kernel
  have hx := h.getD (by decide) 0
  rw [e, rdigit, Option.bind_some, if_pos (by decide)]
  have e2 : shr .i64 (l.getD 0 0) (Int.tmod 0 16) = l.getD 0 0 := by
    unfold shr
    rw [show min (Int.tmod 0 16).toNat (IntKind.i64).bits = 0 by decide, Int.pow_zero, Int.ediv_one]
  rw [e2, i64_and1 hx.1 (by omega)]
  cases l with
  | nil => rfl
  | cons x xs => simp [val]; omega
theorem natOf_loop (xs : List Int) (hx : Lim 4294967296 xs) (hL : xs.length ≤ 137438953472) : ∀ (d i : Nat) (out : List Int), d + i = xs.length → out.length = 2 * i → Lim 65536 out → val 65536 out = val 4294967296 (xs.take i) →
    ∃ r, Ev (fun k => rf_natOf.l0 k out xs (xs.length : Int) (i : Int)) (trim r) ∧ r.length = 2 * xs.length ∧ Lim 65536 r ∧ val 65536 r = val 4294967296 xs := by
  have hB : (0 : Int) < 4294967296 := by decide
  intro d
  induction d with
  | zero =>
    intro i out hd hl ho hv
    refine ⟨out, Ev.step (f := fun k => (rf_trim.f k out).bind fun t => some t) (fun k => ?_) (Ev.bind (f := fun _ t => some t) (rtrim_ev out (by omega)) (Ev.now _)), by omega, ho, by rw [hv, List.take_of_length_le (by omega)]⟩
    simp only [rf_natOf.l0]
    rw [if_neg (by omega)]
  | succ d ih =>
    intro i out hd hl ho hv
    have g1 : (i : Int) < (xs.length : Int) := by omega
    have g2 : (0 : Int) ≤ (i : Int) := by omega
    have g3 : i < xs.length := by omega
    have g4 : ∀ z : List Int, z.length = 2 → out.length + z.length < 17592186044416 := fun z hz => by omega
    have g5 : d + (i + 1) = xs.length := by omega
    have g7 : ∀ _ : Unit, wrap64 ((i : Int) + 1) = ((i + 1 : Nat) : Int) := fun _ => by rw [w64 (by omega) (by omega)]; omega
    have hxi := hx.rd hB (i : Int)
    have hxg : rd xs (i : Int) = xs.getD i 0 := rd_getD xs i
    generalize rd xs (i : Int) = x at hxi hxg
    have e1 : wrap64 (Go.bits .and .u32 x 65535) = x % 65536 := by
      rw [u32_and _ _ hxi.1 hxi.2 (by omega) (by omega), show (65535 : Int).toNat = 2 ^ 16 - 1 from rfl, Nat.and_two_pow_sub_one_eq_mod, w64 (by omega) (by omega)]
      omega
    have e2 : wrap64 (x / 65536) = x / 65536 := w64 (by omega) (by omega)
    obtain ⟨r, hev, h⟩ := ih (i + 1) (out ++ [x % 65536, x / 65536]) g5 (by rw [List.length_append, hl]; simp; omega) (by
        have h1 := lim_nrm_snoc ho (x := x % 65536) ⟨by omega, by omega⟩
        have h2 := lim_nrm_snoc h1 (x := x / 65536) ⟨by omega, by omega⟩
        rw [List.append_assoc] at h2; exact h2) (by
        rw [val_append, hv, val_take_succ _ _ _ g3, ← hxg, hl, Int.pow_mul, show (65536 : Int) ^ 2 = 4294967296 from rfl]
        have h3 : val 65536 [x % 65536, x / 65536] = x := by simp [val]; omega
        rw [h3])
    refine ⟨r, Ev.step (f := fun k => rf_natOf.l0 k (out ++ [x % 65536, x / 65536]) xs (xs.length : Int) ((i + 1 : Nat) : Int)) (fun k => ?_) hev, h⟩
    simp only [rf_natOf.l0]
    rw [if_pos g1, if_pos g2, if_pos g1, rd_getD, ← hxg, e1, e2, Option.bind_some, if_pos (g4 _ rfl), g7 ()]
theorem natOf_ev (xs : List Int) (hx : Lim 4294967296 xs) (hL : xs.length ≤ 137438953472) :
    ∃ r, Ev (fun k => rf_natOf.f k xs) r ∧ Lim 65536 r ∧ Nrm r ∧ val 65536 r = val 4294967296 xs ∧ r.length ≤ 2 * xs.length := by
  obtain ⟨r, h1, h2, h3, h4⟩ := natOf_loop xs hx hL xs.length 0 [] (by omega) (by simp) (lim_nil _) (by simp [val])
  exact ⟨trim r, h1, lim_trim h3, nrm_trim _, by rw [val_trim, h4], by rw [← h2]; exact length_trim r⟩
theorem rcmp_loop (xs ys : List Int) (hx : Lim 65536 xs) (hy : Lim 65536 ys) (hLx : xs.length ≤ 1099511627776) (hLy : ys.length ≤ 1099511627776) : ∀ i : Nat, i ≤ 1099511627776 → val 65536 (xs.drop i) = val 65536 (ys.drop i) →
    Ev (fun k => rf_CmpNat.l0 k xs ys ((i : Int) - 1)) (cmpI (val 65536 xs) (val 65536 ys)) := by
  have hB : (0 : Int) < 65536 := by decide
  have hsp : ∀ (zs : List Int) (i : Nat), val 65536 zs = val 65536 (zs.take i) + 65536 ^ i * val 65536 (zs.drop i) := by
    intro zs i
    by_cases h : i ≤ zs.length
    · exact val_split _ zs i h
    · rw [List.take_of_length_le (by omega), List.drop_of_length_le (by omega)]; simp [val]
  have hdr : ∀ (zs : List Int) (i : Nat), val 65536 (zs.drop i) = zs.getD i 0 + 65536 * val 65536 (zs.drop (i + 1)) := by
    intro zs i
    by_cases h : i < zs.length
    · exact val_drop _ zs i h
    · rw [List.drop_of_length_le (by omega), List.drop_of_length_le (by omega), List.getD_eq_getElem?_getD, List.getElem?_eq_none (by omega)]; simp [val]
  have htk : ∀ (zs : List Int) (i : Nat), Lim 65536 zs → 0 ≤ val 65536 (zs.take i) ∧ val 65536 (zs.take i) < 65536 ^ i := by
    intro zs i hz
    refine ⟨val_nonneg hB (hz.take i), ?_⟩
    have h1 := val_lt hB (hz.take i)
    have h2 := pow_mono' hB (show (zs.take i).length ≤ i by rw [List.length_take]; omega)
    omega
  intro i
  induction i with
  | zero =>
    intro _ h
    rw [List.drop_zero, List.drop_zero] at h
    refine Ev.step (f := fun _ => some 0) (fun k => ?_) (Ev.eq (Ev.now _) ?_)
    · simp only [rf_CmpNat.l0]; rw [if_neg (by omega)]
    · rw [h]; unfold cmpI; rw [if_neg (by omega), if_neg (by omega)]
  | succ i ih =>
    intro hi h
    have e1 : (((i + 1 : Nat) : Int) - 1) = (i : Int) := by omega
    have e2 : ∀ _ : Unit, wrap64 ((i : Int) - 1) = (i : Int) - 1 := fun _ => w64 (by omega) (by omega)
    have g1 : (i : Int) ≥ 0 := by omega
    have hxi := hx.getD hB i
    have hyi := hy.getD hB i
    have dx := hdr xs i
    have dy := hdr ys i
    have sx := hsp xs i
    have sy := hsp ys i
    have tx := htk xs i hx
    have ty := htk ys i hy
    rw [h] at dx
    have hp : (0 : Int) < 65536 ^ i := Int.pow_pos (by decide)
    have key : ∀ a b : Int, a < b → ∀ s t : Int, 0 ≤ s → s < 65536 ^ i → 0 ≤ t → t < 65536 ^ i → s + 65536 ^ i * a < t + 65536 ^ i * b := by
      intro a b hab s t hs0 hs ht0 ht
      have : 65536 ^ i * (a + 1) ≤ 65536 ^ i * b := Int.mul_le_mul_of_nonneg_left (by omega) (by omega)
      rw [Int.mul_add, Int.mul_one] at this
      omega
    by_cases c1 : xs.getD i 0 < ys.getD i 0
    · refine Ev.step (f := fun _ => some (-1)) (fun k => ?_) (Ev.eq (Ev.now _) ?_)
      · simp only [rf_CmpNat.l0]
        rw [e1, if_pos g1, rdigit, rdigit, Option.bind_some, Option.bind_some, if_pos c1]
      · have := key (val 65536 (xs.drop i)) (val 65536 (ys.drop i)) (by omega) _ _ tx.1 tx.2 ty.1 ty.2
        unfold cmpI; rw [if_pos (by omega)]
    · by_cases c2 : xs.getD i 0 > ys.getD i 0
      · refine Ev.step (f := fun _ => some 1) (fun k => ?_) (Ev.eq (Ev.now _) ?_)
        · simp only [rf_CmpNat.l0]
          rw [e1, if_pos g1, rdigit, rdigit, Option.bind_some, Option.bind_some, if_neg c1, if_pos c2]
        · have := key (val 65536 (ys.drop i)) (val 65536 (xs.drop i)) (by omega) _ _ ty.1 ty.2 tx.1 tx.2
          unfold cmpI; rw [if_neg (by omega), if_pos (by omega)]
      · refine Ev.step (f := fun k => rf_CmpNat.l0 k xs ys ((i : Int) - 1)) (fun k => ?_) (ih (by omega) (by omega))
        simp only [rf_CmpNat.l0]
        rw [e1, if_pos g1, rdigit, rdigit, Option.bind_some, Option.bind_some, if_neg c1, if_neg c2, e2 ()]
theorem CmpNat_ev (xs ys : List Int) (hx : Lim 65536 xs) (hy : Lim 65536 ys) (hLx : xs.length ≤ 1099511627776) (hLy : ys.length ≤ 1099511627776) : Ev (fun k => rf_CmpNat.f k xs ys) (cmpI (val 65536 xs) (val 65536 ys)) := by
  have h := rcmp_loop xs ys hx hy hLx hLy (max xs.length ys.length) (by omega) (by rw [List.drop_of_length_le (by omega), List.drop_of_length_le (by omega)])
  refine Ev.congr (fun k => ?_) h
  unfold rf_CmpNat.f mx
  congr 1
  by_cases c : xs.length < ys.length
  · rw [if_pos (by omega), w64 (by omega) (by omega), Nat.max_eq_right (by omega)]
  · rw [if_neg (by omega), w64 (by omega) (by omega), Nat.max_eq_left (by omega)]
theorem rsub_loop (xs ys : List Int) (hx : Lim 65536 xs) (hy : Lim 65536 ys) (hge : val 65536 ys ≤ val 65536 xs) (hL : xs.length ≤ 1099511627776) : ∀ (d i : Nat) (out : List Int) (b : Int), d + i = xs.length → out.length = i → Lim 65536 out → 0 ≤ b → b ≤ 1 →
    val 65536 out - 65536 ^ i * b = val 65536 (xs.take i) - val 65536 (ys.take i) →
    ∃ r, Ev (fun k => rf_SubNat.l0 k xs ys out b (xs.length : Int) (i : Int)) (trim r) ∧ r.length = xs.length ∧ Lim 65536 r ∧ val 65536 r = val 65536 xs - val 65536 ys := by
  have hB : (0 : Int) < 65536 := by decide
  intro d
  induction d with
  | zero =>
    intro i out b hd hl ho hb0 hb hv
    refine ⟨out, Ev.step (f := fun k => (rf_trim.f k out).bind fun t => some t) (fun k => ?_) (Ev.bind (f := fun _ t => some t) (rtrim_ev out (by omega)) (Ev.now _)), by omega, ho, ?_⟩
    · simp only [rf_SubNat.l0]
      rw [if_neg (by omega)]
    · have h1 := val_lt hB hx
      have h2 := val_split' 65536 ys i
      have h3 := val_nonneg hB (hy.take i)
      have h4 := val_nonneg hB (hy.drop i)
      have h5 := val_lt hB ho
      have h6 := val_nonneg hB ho
      rw [List.take_of_length_le (by omega)] at hv
      rw [show xs.length = i by omega] at h1
      rw [hl] at h5
      have hp : (0 : Int) < 65536 ^ i := Int.pow_pos (by decide)
      generalize val 65536 (ys.drop i) = z at *
      have hz : z = 0 := by
        rcases Int.lt_or_le 0 z with h | h
        · have : 65536 ^ i * 1 ≤ 65536 ^ i * z := Int.mul_le_mul_of_nonneg_left (by omega) (by omega)
          omega
        · omega
      have hb1 : b = 0 := by
        rcases Int.lt_or_le 0 b with h | h
        · have e : b = 1 := by omega
          rw [e, Int.mul_one] at hv
          rw [hz, Int.mul_zero] at h2
          omega
        · omega
      rw [hb1, Int.mul_zero] at hv
      rw [hz, Int.mul_zero] at h2
      omega
  | succ d ih =>
    intro i out b hd hl ho hb0 hb hv
    have g1 : (i : Int) < (xs.length : Int) := by omega
    have g2 : (0 : Int) ≤ (i : Int) := by omega
    have g4 : out.length < 17592186044416 := by omega
    have g5 : d + (i + 1) = xs.length := by omega
    have g7 : ∀ _ : Unit, wrap64 ((i : Int) + 1) = ((i + 1 : Nat) : Int) := fun _ => by rw [w64 (by omega) (by omega)]; omega
    have hxi := hx.getD hB i
    have hyi := hy.getD hB i
    have tx := val_take_succ' 65536 xs i
    have ty := val_take_succ' 65536 ys i
    have hrd : rd xs (i : Int) = xs.getD i 0 := rd_getD xs i
    have hdg : rf_digit.f ys (i : Int) = some (ys.getD i 0) := rdigit ys i
    generalize xs.getD i 0 = x at *
    generalize ys.getD i 0 = y at *
    have e1 : ∀ _ : Unit, wrap64 (wrap64 (x - y) - b) = x - y - b := fun _ => by rw [w64 (x := x - y) (by omega) (by omega), w64 (by omega) (by omega)]
    have e2 : ∀ _ : Unit, wrap64 (x - y - b + 65536) = x - y - b + 65536 := fun _ => w64 (by omega) (by omega)
    by_cases c : x - y - b < 0
    · obtain ⟨r, hev, h⟩ := ih (i + 1) (out ++ [x - y - b + 65536]) 1 g5 (by rw [List.length_append, List.length_singleton, hl]) (lim_nrm_snoc ho ⟨by omega, by omega⟩) (by decide) (by decide) (by
        rw [val_snoc, hl, tx, ty, Int.pow_succ]
        grind)
      refine ⟨r, Ev.step (f := fun k => rf_SubNat.l0 k xs ys (out ++ [x - y - b + 65536]) 1 (xs.length : Int) ((i + 1 : Nat) : Int)) (fun k => ?_) hev, h⟩
      simp only [rf_SubNat.l0]
      rw [if_pos g1, if_pos g2, if_pos g1, hdg, Option.bind_some, hrd, e1 (), if_pos c, if_pos g4, e2 (), g7 ()]
    · obtain ⟨r, hev, h⟩ := ih (i + 1) (out ++ [x - y - b]) 0 g5 (by rw [List.length_append, List.length_singleton, hl]) (lim_nrm_snoc ho ⟨by omega, by omega⟩) (by decide) (by decide) (by
        rw [val_snoc, hl, tx, ty, Int.pow_succ]
        grind)
      refine ⟨r, Ev.step (f := fun k => rf_SubNat.l0 k xs ys (out ++ [x - y - b]) 0 (xs.length : Int) ((i + 1 : Nat) : Int)) (fun k => ?_) hev, h⟩
      simp only [rf_SubNat.l0]
      rw [if_pos g1, if_pos g2, if_pos g1, hdg, Option.bind_some, hrd, e1 (), if_neg c, if_pos g4, g7 ()]
theorem SubNat_ev (xs ys : List Int) (hx : Lim 65536 xs) (hy : Lim 65536 ys) (hge : val 65536 ys ≤ val 65536 xs) (hL : xs.length ≤ 1099511627776) :
    ∃ r, Ev (fun k => rf_SubNat.f k xs ys) r ∧ Lim 65536 r ∧ Nrm r ∧ val 65536 r = val 65536 xs - val 65536 ys ∧ r.length ≤ xs.length := by
  obtain ⟨r, h1, h2, h3, h4⟩ := rsub_loop xs ys hx hy hge hL xs.length 0 [] 0 (by omega) rfl (lim_nil _) (by decide) (by decide) (by simp [val])
  exact ⟨trim r, h1, lim_trim h3, nrm_trim _, by rw [val_trim, h4], by rw [← h2]; exact length_trim r⟩
theorem rhalf_loop (xs : List Int) (hx : Lim 65536 xs) (hL : xs.length ≤ 1099511627776) : ∀ (d i : Nat) (out : List Int), d + i = xs.length → out.length = xs.length → Lim 65536 out →
    val 65536 (out.take i) + 65536 ^ i * (val 65536 (xs.drop i) / 2) = val 65536 xs / 2 →
    ∃ r, Ev (fun k => rf_half.l0 k xs out (xs.length : Int) (i : Int)) (trim r) ∧ r.length = xs.length ∧ Lim 65536 r ∧ val 65536 r = val 65536 xs / 2 := by
  have hB : (0 : Int) < 65536 := by decide
  intro d
  induction d with
  | zero =>
    intro i out hd hl ho hv
    refine ⟨out, Ev.step (f := fun k => (rf_trim.f k out).bind fun t => some t) (fun k => ?_) (Ev.bind (f := fun _ t => some t) (rtrim_ev out (by omega)) (Ev.now _)), by omega, ho, ?_⟩
    · simp only [rf_half.l0]
      rw [if_neg (by omega)]
    · rw [List.take_of_length_le (by omega), List.drop_of_length_le (by omega)] at hv
      simp only [val, Int.zero_ediv, Int.mul_zero, Int.add_zero] at hv
      exact hv
  | succ d ih =>
    intro i out hd hl ho hv
    have g1 : (i : Int) < (xs.length : Int) := by omega
    have g2 : (0 : Int) ≤ (i : Int) := by omega
    have g3 : (i : Int) < (out.length : Int) := by omega
    have g4 : i < out.length := by omega
    have g5 : d + (i + 1) = xs.length := by omega
    have g7 : ∀ _ : Unit, wrap64 ((i : Int) + 1) = ((i + 1 : Nat) : Int) := fun _ => by rw [w64 (by omega) (by omega)]; omega
    have hxi := hx.getD hB i
    have hyi := hx.getD hB (i + 1)
    have d0 := val_drop' 65536 xs i
    have d1 := val_drop' 65536 xs (i + 1)
    have hrd : rd xs (i : Int) = xs.getD i 0 := rd_getD xs i
    have hsd := shr_digit (P := 2) (P' := 32768) (B := 65536) (D0 := xs.getD i 0) (D1 := xs.getD (i + 1) 0) (t := val 65536 (xs.drop (i + 1 + 1))) (by decide) (by decide) (by decide) hxi.1 hxi.2
    rw [← d1, ← d0] at hsd
    have hdg : xs.getD i 0 / 2 + xs.getD (i + 1) 0 % 2 * 32768 = ((xs.getD i 0 + 65536 * xs.getD (i + 1) 0) / 2) % 65536 := by
      generalize xs.getD i 0 = x at *
      generalize xs.getD (i + 1) 0 = y at *
      clear d0 d1 hsd hrd hv
      omega
    have hor : Go.bits .or .i64 (xs.getD i 0 / 2) (wrap64 (Go.bits .and .i64 (xs.getD (i + 1) 0) 1 * 32768)) = xs.getD i 0 / 2 + xs.getD (i + 1) 0 % 2 * 32768 := by
      generalize xs.getD i 0 = x at *
      generalize xs.getD (i + 1) 0 = y at *
      clear d0 d1 hsd hrd hv hdg
      rw [i64_and1 hyi.1 (by omega), w64 (by omega) (by omega), i64_or _ _ (by omega) (by omega) (by omega) (by omega), Nat.or_comm, nat_join 15]
      · omega
      · omega
      · omega
    have hlim : 0 ≤ xs.getD i 0 / 2 + xs.getD (i + 1) 0 % 2 * 32768 ∧ xs.getD i 0 / 2 + xs.getD (i + 1) 0 % 2 * 32768 < 65536 := by
      generalize xs.getD i 0 = x at *
      generalize xs.getD (i + 1) 0 = y at *
      clear d0 d1 hsd hrd hv hdg hor
      omega
    obtain ⟨r, hev, h⟩ := ih (i + 1) (out.set i (xs.getD i 0 / 2 + xs.getD (i + 1) 0 % 2 * 32768)) g5 (by rw [List.length_set, hl]) (ho.set _ hlim) (by
      rw [take_set_succ g4, val_snoc, List.length_take, Nat.min_eq_left (Nat.le_of_lt g4), hdg, ← hv, ← hsd, Int.pow_succ]
      grind)
    refine ⟨r, Ev.step (f := fun k => rf_half.l0 k xs (out.set i (xs.getD i 0 / 2 + xs.getD (i + 1) 0 % 2 * 32768)) (xs.length : Int) ((i + 1 : Nat) : Int)) (fun k => ?_) hev, h⟩
    simp only [rf_half.l0]
    rw [if_pos g1, if_pos g2, if_pos g1, g7 (), rdigit, Option.bind_some, if_pos g3, hrd, hor, Int.toNat_natCast]
theorem half_ev (xs : List Int) (hx : Lim 65536 xs) (hL : xs.length ≤ 1099511627776) :
    ∃ r, Ev (fun k => rf_half.f k xs) r ∧ Lim 65536 r ∧ Nrm r ∧ val 65536 r = val 65536 xs / 2 ∧ r.length ≤ xs.length := by
  obtain ⟨r, h1, h2, h3, h4⟩ := rhalf_loop xs hx hL xs.length 0 (List.replicate xs.length 0) (by omega) (by simp) (lim_replicate (by decide) _) (by simp [val])
  refine ⟨trim r, Ev.congr (fun k => ?_) h1, lim_trim h3, nrm_trim _, by rw [val_trim, h4], by rw [← h2]; exact length_trim r⟩
  unfold rf_half.f
  rw [if_pos (by omega), if_pos (by omega), Int.toNat_natCast]
  rfl
theorem rshl_loop (xs : List Int) (w b : Nat) (hx : Lim 65536 xs) (hb : b < 16) (hL : xs.length + w ≤ 549755813888) : ∀ (d i : Nat) (out : List Int) (c : Int), d + i = xs.length → out.length = w + i → Lim 65536 out → 0 ≤ c → c < 2 ^ b →
    val 65536 out + 65536 ^ (w + i) * c = 65536 ^ w * 2 ^ b * val 65536 (xs.take i) →
    ∃ r, Ev (fun k => rf_ShlNat.l0 k ((16 * w + b : Nat) : Int) out c xs (xs.length : Int) (i : Int)) (trim r) ∧ r.length = xs.length + w + 1 ∧ Lim 65536 r ∧ val 65536 r = 65536 ^ w * 2 ^ b * val 65536 xs := by
  have hB : (0 : Int) < 65536 := by decide
  have hp : (2 : Int) ^ b ≤ 32768 := by
    have := pow_mono' (B := 2) (by decide) (show b ≤ 15 by omega)
    exact this
  have hp0 : (0 : Int) < 2 ^ b := Int.pow_pos (by decide)
  have e1 : ∀ _ : Unit, Int.tmod ((16 * w + b : Nat) : Int) 16 = b := fun _ => by rw [Int.tmod_eq_emod_of_nonneg (by omega)]; omega
  intro d
  induction d with
  | zero =>
    intro i out c hd hl ho hc0 hc hv
    have hl2 : Lim 65536 (out ++ [c]) := lim_nrm_snoc ho ⟨hc0, by omega⟩
    refine ⟨out ++ [c], Ev.step (f := fun k => (rf_trim.f k (out ++ [c])).bind fun t => some t) (fun k => ?_) (Ev.bind (f := fun _ t => some t) (rtrim_ev (out ++ [c]) (by rw [List.length_append, List.length_singleton]; omega)) (Ev.now _)), by rw [List.length_append, List.length_singleton]; omega, hl2, ?_⟩
    · have g4 : out.length < 17592186044416 := by omega
      simp only [rf_ShlNat.l0]
      rw [if_neg (by omega), if_pos g4]
    · rw [val_snoc, hl, hv, List.take_of_length_le (by omega)]
  | succ d ih =>
    intro i out c hd hl ho hc0 hc hv
    have g1 : (i : Int) < (xs.length : Int) := by omega
    have g2 : (0 : Int) ≤ (i : Int) := by omega
    have g4 : out.length < 17592186044416 := by omega
    have g5 : d + (i + 1) = xs.length := by omega
    have g7 : ∀ _ : Unit, wrap64 ((i : Int) + 1) = ((i + 1 : Nat) : Int) := fun _ => by rw [w64 (by omega) (by omega)]; omega
    have g8 : (0 : Int) ≤ (b : Int) := by omega
    have hxi := hx.getD hB i
    have tx := val_take_succ' 65536 xs i
    have hrd : rd xs (i : Int) = xs.getD i 0 := rd_getD xs i
    generalize xs.getD i 0 = x at *
    have hx2 : 0 ≤ x * 2 ^ b := Int.mul_nonneg hxi.1 (by omega)
    have hx3 : x * 2 ^ b ≤ 65535 * 2 ^ b := Int.mul_le_mul_of_nonneg_right (by omega) (by omega)
    have hsh : shl .i64 x (b : Int) = x * 2 ^ b := by
      unfold shl
      rw [Int.toNat_natCast, Nat.min_eq_left (by simp [IntKind.bits]; omega), i64w _ hx2 (by omega)]
    have hor : Go.bits .or .i64 (x * 2 ^ b) c = x * 2 ^ b + c := by
      rw [i64_or _ _ hx2 (by omega) hc0 (by omega), nat_join b]
      · omega
      · have : (((x * 2 ^ b).toNat % 2 ^ b : Nat) : Int) = 0 := by
          rw [Int.natCast_emod, Int.toNat_of_nonneg hx2, Int.natCast_pow]
          exact Int.mul_emod_left _ _
        omega
      · have : ((c.toNat : Nat) : Int) < ((2 ^ b : Nat) : Int) := by
          rw [Int.toNat_of_nonneg hc0, Int.natCast_pow]; exact hc
        omega
    have hq : (x * 2 ^ b + c) / 65536 < 2 ^ b := Int.ediv_lt_of_lt_mul (by decide) (by omega)
    generalize hz : x * 2 ^ b + c = z at *
    have hz0 : 0 ≤ z := by omega
    have e3 : Int.tmod z 65536 = z % 65536 := Int.tmod_eq_emod_of_nonneg hz0
    have e4 : ∀ _ : Unit, wrap64 (Int.tdiv z 65536) = z / 65536 := fun _ => by rw [Int.tdiv_eq_ediv_of_nonneg hz0, w64 (by omega) (by omega)]
    have hz1 : 0 ≤ z / 65536 := by omega
    have hz2 : 0 ≤ z % 65536 ∧ z % 65536 < 65536 := by omega
    have hdm := Int.mul_ediv_add_emod z 65536
    generalize hzq : z / 65536 = q at *
    generalize hzr : z % 65536 = y at *
    obtain ⟨r, hev, h⟩ := ih (i + 1) (out ++ [y]) q g5 (by rw [List.length_append, List.length_singleton, hl, Nat.add_assoc]) (lim_nrm_snoc ho hz2) hz1 hq (by
      rw [val_snoc, hl, tx, ← Nat.add_assoc, Int.pow_succ]
      have e5 : (65536 : Int) ^ (w + i) = 65536 ^ w * 65536 ^ i := Int.pow_add _ _ _
      rw [e5] at hv ⊢
      clear hx3 hx2 hp hp0 hq hz0 hz1 hz2 hor hsh hrd
      grind)
    refine ⟨r, Ev.step (f := fun k => rf_ShlNat.l0 k ((16 * w + b : Nat) : Int) (out ++ [y]) q xs (xs.length : Int) ((i + 1 : Nat) : Int)) (fun k => ?_) hev, h⟩
    simp only [rf_ShlNat.l0]
    rw [if_pos g1, if_pos g2, if_pos g1, e1 (), if_pos g8, if_pos g4, hrd, hsh, hor, e3, e4 (), g7 ()]
theorem ShlNat_ev (xs : List Int) (n : Nat) (hx : Lim 65536 xs) (hL : xs.length + n / 16 ≤ 549755813888) :
    ∃ r, Ev (fun k => rf_ShlNat.f k xs (n : Int)) r ∧ Lim 65536 r ∧ Nrm r ∧ val 65536 r = val 65536 xs * 2 ^ n ∧ r.length ≤ xs.length + n / 16 + 1 := by
  have hB : (0 : Int) < 65536 := by decide
  by_cases hn : xs = []
  · subst hn
    exact ⟨[], Ev.const (by rfl), lim_nil _, nrm_nil, by simp [val], by simp⟩
  · obtain ⟨r, h1, h2, h3, h4⟩ := rshl_loop xs (n / 16) (n % 16) hx (by omega) hL xs.length 0 (List.replicate (n / 16) 0) 0 (by omega) (by simp) (lim_replicate hB _) (by decide) (Int.pow_pos (by decide))
      (by rw [val_replicate, List.take_zero]; simp [val])
    refine ⟨trim r, ?_, lim_trim h3, nrm_trim _, ?_, Nat.le_trans (length_trim _) (by omega)⟩
    · refine Ev.congr (fun k => ?_) h1
      unfold rf_ShlNat.f
      have hne : ¬ (xs.length : Int) = 0 := fun h => hn (List.length_eq_zero_iff.1 (by omega))
      have b1 : (0 : Int) ≤ ((n / 16 : Nat) : Int) := by omega
      have b2 : n / 16 ≤ 35184372088832 := by omega
      have en : 16 * (n / 16) + n % 16 = n := by omega
      have e : wrap64 (Int.tdiv (n : Int) 16) = ((n / 16 : Nat) : Int) := by
        rw [Int.tdiv_eq_ediv_of_nonneg (by omega), w64 (by omega) (by omega)]; omega
      rw [if_neg hne, e, if_pos b1, Int.toNat_natCast, if_pos b2, en]
      rfl
    · rw [val_trim, h4, show (65536 : Int) = 2 ^ 16 from rfl, ← Int.pow_mul, ← Int.pow_add, show 16 * (n / 16) + n % 16 = n by omega, Int.mul_comm]
theorem gcd_odd_half {a b : Nat} (h : Nat.gcd (2 * a) b % 2 = 1) : Nat.gcd (2 * a) b = Nat.gcd a b := by
  refine Nat.dvd_antisymm ?_ ?_
  · refine Nat.dvd_gcd ?_ (Nat.gcd_dvd_right _ _)
    have hc : Nat.Coprime (Nat.gcd (2 * a) b) 2 := by
      rw [Nat.coprime_comm]
      unfold Nat.Coprime
      rw [Nat.gcd_rec, h]
      decide
    exact hc.dvd_of_dvd_mul_left (Nat.gcd_dvd_left (2 * a) b)
  · exact Nat.dvd_gcd (Nat.dvd_trans (Nat.gcd_dvd_left a b) ⟨2, Nat.mul_comm 2 a⟩) (Nat.gcd_dvd_right a b)
structure GS (g N : Nat) (A B : List Int) (a b : Nat) : Prop where
  la : Lim 65536 A
  lb : Lim 65536 B
  na : Nrm A
  nb : Nrm B
  va : val 65536 A = a
  vb : val 65536 B = b
  sa : A.length ≤ N
  sb : B.length ≤ N
  gg : Nat.gcd a b = g
theorem gcdnat_loops (g N s : Nat) (hg : g % 2 = 1) (hN : N ≤ 4294967296) (hs : s ≤ 16 * N) : ∀ (m a b : Nat) (A B : List Int), a + b ≤ m → 0 < b → GS g N A B a b →
    (∃ r, Ev (fun k => rf_GcdNat.l1 k A B (s : Int)) r ∧ Lim 65536 r ∧ Nrm r ∧ val 65536 r = (g : Int) * 2 ^ s) ∧
    (0 < a → ∃ r, Ev (fun k => rf_GcdNat.l2 k A B (s : Int)) r ∧ Lim 65536 r ∧ Nrm r ∧ val 65536 r = (g : Int) * 2 ^ s) ∧
    (a % 2 = 1 → ∃ r, Ev (fun k => rf_GcdNat.l3 k A B (s : Int)) r ∧ Lim 65536 r ∧ Nrm r ∧ val 65536 r = (g : Int) * 2 ^ s) := by
  have hB : (0 : Int) < 65536 := by decide
  intro m
  induction m with
  | zero => intro a b A B hm hb0; omega
  | succ m ih =>
    intro a b A B hm hb0 H
    have h3 : a % 2 = 1 → ∃ r, Ev (fun k => rf_GcdNat.l3 k A B (s : Int)) r ∧ Lim 65536 r ∧ Nrm r ∧ val 65536 r = (g : Int) * 2 ^ s := by
      intro ha
      by_cases c : b % 2 = 0
      · obtain ⟨r, r1, r2, r3, r4, r5⟩ := half_ev B H.lb (by have := H.sb; omega)
        have hb2 : b = 2 * (b / 2) := by omega
        have hr4 : val 65536 r = ((b / 2 : Nat) : Int) := by rw [r4, H.vb]; omega
        have hgg : Nat.gcd a (b / 2) = g := by
          have h5 := H.gg
          rw [hb2, Nat.gcd_comm] at h5
          rw [Nat.gcd_comm, ← gcd_odd_half (by rw [h5]; exact hg), h5]
        obtain ⟨z, hz⟩ := (ih a (b / 2) A r (by omega) (by omega) ⟨H.la, r2, H.na, r3, H.va, hr4, H.sa, Nat.le_trans r5 H.sb, hgg⟩).2.2 ha
        refine ⟨z, Ev.step (f := fun k => (rf_half.f k B).bind fun t589 => rf_GcdNat.l3 k A t589 (s : Int)) (fun k => ?_) (Ev.bind (f := fun k t589 => rf_GcdNat.l3 k A t589 (s : Int)) r1 hz.1), hz.2⟩
        simp only [rf_GcdNat.l3]
        rw [rbit0 H.lb, Option.bind_some, H.vb, if_pos (by omega)]
      · have hbit : ∀ k, rf_GcdNat.l3 (k + 1) A B (s : Int) = ((rf_CmpNat.f k A B).bind fun t592 => (if t592 < 0 then ((rf_SubNat.f k B A).bind fun t593 => (rf_GcdNat.l1 k t593 A (s : Int))) else ((rf_SubNat.f k A B).bind fun t596 => (rf_GcdNat.l1 k t596 B (s : Int))))) := by
          intro k
          simp only [rf_GcdNat.l3]
          rw [rbit0 H.lb, Option.bind_some, H.vb, if_neg (by omega)]
        have hcmp := CmpNat_ev A B H.la H.lb (by have := H.sa; omega) (by have := H.sb; omega)
        rw [H.va, H.vb] at hcmp
        by_cases c2 : a < b
        · obtain ⟨r, r1, r2, r3, r4, r5⟩ := SubNat_ev B A H.lb H.la (by rw [H.va, H.vb]; omega) (by have := H.sb; omega)
          have hr4 : val 65536 r = ((b - a : Nat) : Int) := by rw [r4, H.va, H.vb]; omega
          have hgg : Nat.gcd (b - a) a = g := by
            rw [← H.gg, Nat.gcd_comm a b]
            exact Nat.gcd_sub_self_left (by omega)
          obtain ⟨z, hz⟩ := (ih (b - a) a r A (by omega) (by omega) ⟨r2, H.la, r3, H.na, hr4, H.va, Nat.le_trans r5 H.sb, H.sa, hgg⟩).1
          refine ⟨z, Ev.step hbit (Ev.bind (f := fun k t592 => (if t592 < 0 then ((rf_SubNat.f k B A).bind fun t593 => (rf_GcdNat.l1 k t593 A (s : Int))) else ((rf_SubNat.f k A B).bind fun t596 => (rf_GcdNat.l1 k t596 B (s : Int))))) hcmp ?_), hz.2⟩
          have e : cmpI (a : Int) (b : Int) = -1 := by unfold cmpI; rw [if_pos (by omega)]
          rw [e]
          exact Ev.congr (fun k => by rw [if_pos (by decide)]) (Ev.bind (f := fun k t593 => rf_GcdNat.l1 k t593 A (s : Int)) r1 hz.1)
        · obtain ⟨r, r1, r2, r3, r4, r5⟩ := SubNat_ev A B H.la H.lb (by rw [H.va, H.vb]; omega) (by have := H.sa; omega)
          have hr4 : val 65536 r = ((a - b : Nat) : Int) := by rw [r4, H.va, H.vb]; omega
          have hgg : Nat.gcd (a - b) b = g := by
            rw [← H.gg]
            exact Nat.gcd_sub_self_left (by omega)
          obtain ⟨z, hz⟩ := (ih (a - b) b r B (by omega) (by omega) ⟨r2, H.lb, r3, H.nb, hr4, H.vb, Nat.le_trans r5 H.sa, H.sb, hgg⟩).1
          refine ⟨z, Ev.step hbit (Ev.bind (f := fun k t592 => (if t592 < 0 then ((rf_SubNat.f k B A).bind fun t593 => (rf_GcdNat.l1 k t593 A (s : Int))) else ((rf_SubNat.f k A B).bind fun t596 => (rf_GcdNat.l1 k t596 B (s : Int))))) hcmp ?_), hz.2⟩
          have e : ¬ cmpI (a : Int) (b : Int) < 0 := by unfold cmpI; rw [if_neg (by omega)]; split <;> decide
          exact Ev.congr (fun k => by rw [if_neg e]) (Ev.bind (f := fun k t596 => rf_GcdNat.l1 k t596 B (s : Int)) r1 hz.1)
    have h2 : 0 < a → ∃ r, Ev (fun k => rf_GcdNat.l2 k A B (s : Int)) r ∧ Lim 65536 r ∧ Nrm r ∧ val 65536 r = (g : Int) * 2 ^ s := by
      intro ha0
      by_cases c : a % 2 = 0
      · obtain ⟨r, r1, r2, r3, r4, r5⟩ := half_ev A H.la (by have := H.sa; omega)
        have ha2 : a = 2 * (a / 2) := by omega
        have hr4 : val 65536 r = ((a / 2 : Nat) : Int) := by rw [r4, H.va]; omega
        have hgg : Nat.gcd (a / 2) b = g := by
          have h5 := H.gg
          rw [ha2] at h5
          rw [← gcd_odd_half (by rw [h5]; exact hg), h5]
        obtain ⟨z, hz⟩ := (ih (a / 2) b r B (by omega) hb0 ⟨r2, H.lb, r3, H.nb, hr4, H.vb, Nat.le_trans r5 H.sa, H.sb, hgg⟩).2.1 (by omega)
        refine ⟨z, Ev.step (f := fun k => (rf_half.f k A).bind fun t585 => rf_GcdNat.l2 k t585 B (s : Int)) (fun k => ?_) (Ev.bind (f := fun k t585 => rf_GcdNat.l2 k t585 B (s : Int)) r1 hz.1), hz.2⟩
        simp only [rf_GcdNat.l2]
        rw [rbit0 H.la, Option.bind_some, H.va, if_pos (by omega)]
      · obtain ⟨z, hz⟩ := h3 (by omega)
        refine ⟨z, Ev.step (f := fun k => rf_GcdNat.l3 k A B (s : Int)) (fun k => ?_) hz.1, hz.2⟩
        simp only [rf_GcdNat.l2]
        rw [rbit0 H.la, Option.bind_some, H.va, if_neg (by omega)]
    refine ⟨?_, h2, h3⟩
    by_cases c : a = 0
    · have hA : A = [] := (val_eq_zero hB H.la H.na).1 (by rw [H.va]; omega)
      have hbg : b = g := by
        have := H.gg
        rw [c, Nat.gcd_zero_left] at this
        exact this
      obtain ⟨r, r1, r2, r3, r4, r5⟩ := ShlNat_ev B s H.lb (by have := H.sb; omega)
      refine ⟨r, Ev.step (f := fun k => (rf_ShlNat.f k B (s : Int)).bind fun t => some t) (fun k => ?_) (Ev.bind (f := fun _ t => some t) r1 (Ev.now _)), r2, r3, by rw [r4, H.vb, hbg]⟩
      simp only [rf_GcdNat.l1]
      rw [hA, if_neg (by decide)]
    · obtain ⟨z, hz⟩ := h2 (by omega)
      have hA : A ≠ [] := by
        rintro rfl
        have h9 := H.va
        simp only [val] at h9
        clear ih h2 h3 hz
        exact c (by omega)
      have hAl : A.length ≠ 0 := fun h => hA (List.length_eq_zero_iff.1 h)
      refine ⟨z, Ev.step (f := fun k => rf_GcdNat.l2 k A B (s : Int)) (fun k => ?_) hz.1, hz.2⟩
      simp only [rf_GcdNat.l1]
      rw [if_pos (by omega)]
theorem gcdnat_l0 (N : Nat) (hN : N ≤ 4294967296) (G : Nat) : ∀ (m a b s : Nat) (A B : List Int), a + b ≤ m → 0 < a → 0 < b → GS (Nat.gcd a b) N A B a b → Nat.gcd a b * 2 ^ s = G → a * 2 ^ s < 2 ^ (16 * N) →
    ∃ r, Ev (fun k => rf_GcdNat.l0 k A B (s : Int)) r ∧ Lim 65536 r ∧ Nrm r ∧ val 65536 r = (G : Int) := by
  intro m
  induction m with
  | zero => intro a b s A B hm ha0; omega
  | succ m ih =>
    intro a b s A B hm ha0 hb0 H hG hs
    have hsN : s < 16 * N := by
      have h1 : 1 * 2 ^ s ≤ a * 2 ^ s := Nat.mul_le_mul_right _ (by omega)
      rw [Nat.one_mul] at h1
      exact (Nat.pow_lt_pow_iff_right (by omega : 1 < 2)).1 (Nat.lt_of_le_of_lt h1 hs)
    have hfin : Nat.gcd a b % 2 = 1 → ∃ r, Ev (fun k => rf_GcdNat.j1 k A B (s : Int) false) r ∧ Lim 65536 r ∧ Nrm r ∧ val 65536 r = (G : Int) := by
      intro hodd
      obtain ⟨r, r1, r2, r3, r4⟩ := (gcdnat_loops (Nat.gcd a b) N s hodd hN (by omega) (a + b) a b A B (Nat.le_refl _) hb0 H).1
      refine ⟨r, Ev.step (f := fun k => rf_GcdNat.l1 k A B (s : Int)) (fun k => ?_) r1, r2, r3, ?_⟩
      · simp only [rf_GcdNat.j1]
        rw [if_neg (by decide)]
      · rw [r4, ← hG, Int.natCast_mul, Int.natCast_pow]; rfl
    have hg2 : (a % 2 = 0 → b % 2 = 0 → False) → Nat.gcd a b % 2 = 1 := by
      intro h
      have h1 : ¬ 2 ∣ Nat.gcd a b := by
        intro hd
        exact h (Nat.mod_eq_zero_of_dvd (Nat.dvd_trans hd (Nat.gcd_dvd_left a b))) (Nat.mod_eq_zero_of_dvd (Nat.dvd_trans hd (Nat.gcd_dvd_right a b)))
      omega
    by_cases c : a % 2 = 0
    · by_cases c2 : b % 2 = 0
      · obtain ⟨r, r1, r2, r3, r4, r5⟩ := half_ev A H.la (by have := H.sa; omega)
        obtain ⟨t, t1, t2, t3, t4, t5⟩ := half_ev B H.lb (by have := H.sb; omega)
        have ha2 : a = 2 * (a / 2) := by omega
        have hb2 : b = 2 * (b / 2) := by omega
        have hr4 : val 65536 r = ((a / 2 : Nat) : Int) := by rw [r4, H.va]; omega
        have ht4 : val 65536 t = ((b / 2 : Nat) : Int) := by rw [t4, H.vb]; omega
        have hgg : Nat.gcd a b = 2 * Nat.gcd (a / 2) (b / 2) := by
          rw [← Nat.gcd_mul_left, ← ha2, ← hb2]
        obtain ⟨z, hz⟩ := ih (a / 2) (b / 2) (s + 1) r t (by omega) (by omega) (by omega) ⟨r2, t2, r3, t3, hr4, ht4, Nat.le_trans r5 H.sa, Nat.le_trans t5 H.sb, rfl⟩ (by
          rw [← hG, hgg, Nat.pow_succ]
          grind) (by
          rw [Nat.pow_succ]
          have : a / 2 * (2 ^ s * 2) = a * 2 ^ s := by
            conv => rhs; rw [ha2]
            grind
          omega)
        refine ⟨z, Ev.step (f := fun k => rf_GcdNat.j1 k A B (s : Int) true) (fun k => ?_) (Ev.step (f := fun k => (rf_half.f k A).bind fun t575 => (rf_half.f k B).bind fun t578 => rf_GcdNat.l0 k t575 t578 (((s + 1 : Nat)) : Int)) (fun k => ?_) (Ev.bind (f := fun k t575 => (rf_half.f k B).bind fun t578 => rf_GcdNat.l0 k t575 t578 (((s + 1 : Nat)) : Int)) r1 (Ev.bind (f := fun k t578 => rf_GcdNat.l0 k r t578 (((s + 1 : Nat)) : Int)) t1 hz.1))), hz.2⟩
        · simp only [rf_GcdNat.l0]
          rw [rbit0 H.la, Option.bind_some, H.va, if_pos (by omega), rbit0 H.lb, Option.bind_some, H.vb]
          have : ((b : Int) % 2 == 0) = true := by rw [beq_iff_eq]; omega
          rw [this]
        · have e : wrap64 ((s : Int) + 1) = ((s + 1 : Nat) : Int) := by rw [w64 (by omega) (by omega)]; omega
          simp only [rf_GcdNat.j1]
          rw [if_pos trivial, e]
      · obtain ⟨z, hz⟩ := hfin (hg2 (fun _ h => c2 h))
        refine ⟨z, Ev.step (f := fun k => rf_GcdNat.j1 k A B (s : Int) false) (fun k => ?_) hz.1, hz.2⟩
        simp only [rf_GcdNat.l0]
        rw [rbit0 H.la, Option.bind_some, H.va, if_pos (by omega), rbit0 H.lb, Option.bind_some, H.vb]
        have : ((b : Int) % 2 == 0) = false := by rw [beq_eq_false_iff_ne]; omega
        rw [this]
    · obtain ⟨z, hz⟩ := hfin (hg2 (fun h _ => c h))
      refine ⟨z, Ev.step (f := fun k => rf_GcdNat.j1 k A B (s : Int) false) (fun k => ?_) hz.1, hz.2⟩
      simp only [rf_GcdNat.l0]
      rw [rbit0 H.la, Option.bind_some, H.va, if_neg (by omega)]
theorem GcdNat_ev (A B : List Int) (hA : Lim 65536 A) (hB : Lim 65536 B) (nA : Nrm A) (nB : Nrm B) (sA : A.length ≤ 4294967296) (sB : B.length ≤ 4294967296) :
    ∃ r, Ev (fun k => rf_GcdNat.f k A B) r ∧ Lim 65536 r ∧ Nrm r ∧ val 65536 r = (Nat.gcd (val 65536 A).toNat (val 65536 B).toNat : Nat) := by
  have h0 : (0 : Int) < 65536 := by decide
  have a0 := val_nonneg h0 hA
  have b0 := val_nonneg h0 hB
  by_cases c : A = []
  · subst c
    refine ⟨B, Ev.congr (fun k => ?_) (Ev.now _), hB, nB, ?_⟩
    · unfold rf_GcdNat.f; rw [if_pos (by rfl)]
    · simp only [val, Int.toNat_zero, Nat.gcd_zero_left]; omega
  · by_cases c2 : B = []
    · subst c2
      refine ⟨A, Ev.congr (fun k => ?_) (Ev.now _), hA, nA, ?_⟩
      · have hl : A.length ≠ 0 := fun h => c (List.length_eq_zero_iff.1 h)
        unfold rf_GcdNat.f; rw [if_neg (by omega), if_pos (by rfl)]
      · simp only [val, Int.toNat_zero, Nat.gcd_zero_right]; omega
    · have a1 := val_pos h0 hA nA c
      have b1 := val_pos h0 hB nB c2
      have alt := val_lt h0 hA
      have hlA : A.length ≠ 0 := fun h => c (List.length_eq_zero_iff.1 h)
      have hlB : B.length ≠ 0 := fun h => c2 (List.length_eq_zero_iff.1 h)
      obtain ⟨r, r1, r2⟩ := gcdnat_l0 (max A.length B.length) (by omega) (Nat.gcd (val 65536 A).toNat (val 65536 B).toNat) ((val 65536 A).toNat + (val 65536 B).toNat) (val 65536 A).toNat (val 65536 B).toNat 0 A B (Nat.le_refl _) (by omega) (by omega)
        ⟨hA, hB, nA, nB, by omega, by omega, by omega, by omega, rfl⟩ (by rw [Nat.pow_zero, Nat.mul_one]) (by
          have h1 : (65536 : Int) ^ A.length ≤ 65536 ^ max A.length B.length := pow_mono' h0 (by omega)
          rw [Nat.pow_zero, Nat.mul_one, Nat.pow_mul]
          have h2 : (((2 ^ 16) ^ max A.length B.length : Nat) : Int) = (65536 : Int) ^ max A.length B.length := by rw [Int.natCast_pow]; rfl
          omega)
      refine ⟨r, Ev.congr (fun k => ?_) r1, r2⟩
      unfold rf_GcdNat.f
      rw [if_neg (by omega), if_neg (by omega)]
      rfl
theorem Fault_ev (neg : Bool) (num den : List Int) (hn : Lim 4294967296 num) (hd : Lim 4294967296 den) : Ev (fun k => rf_Fault.f k neg num den) (fault neg num den) := by
  have hB : (0 : Int) < 4294967296 := by decide
  by_cases s1 : num.length > 128
  · rw [fault_size (Or.inl s1)]
    refine Ev.congr (f := fun k => rf_Fault.j0 k true neg num den) (fun k => ?_) (Ev.step (f := fun _ => some 3) (fun k => ?_) (Ev.now _))
    · unfold rf_Fault.f; rw [if_pos (by omega)]
    · simp only [rf_Fault.j0]; rw [if_pos trivial]
  · by_cases s2 : den.length > 128
    · rw [fault_size (Or.inr s2)]
      refine Ev.congr (f := fun k => rf_Fault.j0 k true neg num den) (fun k => ?_) (Ev.step (f := fun _ => some 3) (fun k => ?_) (Ev.now _))
      · unfold rf_Fault.f; rw [if_neg (by omega), decide_eq_true (by omega)]
      · simp only [rf_Fault.j0]; rw [if_pos trivial]
    · have hj0 : ∀ r, Ev (fun k => rf_Fault.j0 k false neg num den) r → Ev (fun k => rf_Fault.f k neg num den) r := fun r h =>
        Ev.congr (fun k => by unfold rf_Fault.f; rw [if_neg (by omega), decide_eq_false (by omega)]) h
      have hbad : Ev (fun k => rf_Fault.j1 k true neg num den) 2 := Ev.step (f := fun _ => some 2) (fun k => by simp only [rf_Fault.j1]; rw [if_pos trivial]) (Ev.now _)
      by_cases c3 : den = []
      · rw [fault_bad (by omega) (by omega) (fun h => h.d0 c3)]
        refine hj0 _ (Ev.step (fun k => ?_) hbad)
        simp only [rf_Fault.j0]
        rw [if_neg (by decide), c3, if_pos (by rfl)]
      · have hdl : den.length ≠ 0 := fun h' => c3 (List.length_eq_zero_iff.1 h')
        by_cases c2 : Nrm den
        · have hs0 : ∀ k, rf_Fault.j0 (k + 1) false neg num den = (if (num.length : Int) > 0 then (if 0 ≤ (wrap64 ((num.length : Int) - 1)) then (if (wrap64 ((num.length : Int) - 1)) < (num.length : Int) then (rf_Fault.j1 k ((rd num (wrap64 ((num.length : Int) - 1))) == 0) neg num den) else (none)) else (none)) else (rf_Fault.j1 k false neg num den)) := by
            intro k
            simp only [rf_Fault.j0]
            rw [if_neg (by decide), if_neg (by omega), last_at c3 (by omega), if_pos (by omega), if_pos (by omega), rd_getD, if_neg ((nrm_last c3).1 c2)]
          by_cases c1 : Nrm num
          · have hs1 : ∀ k, rf_Fault.j0 (k + 1) false neg num den = rf_Fault.j1 k false neg num den := by
              intro k
              rw [hs0]
              by_cases c4 : num = []
              · rw [c4, if_neg (by decide)]
              · have hnl : num.length ≠ 0 := fun h' => c4 (List.length_eq_zero_iff.1 h')
                have hz : (num.getD (num.length - 1) 0 == 0) = false := by rw [beq_eq_false_iff_ne]; exact (nrm_last c4).1 c1
                rw [if_pos (by omega), last_at c4 (by omega), if_pos (by omega), if_pos (by omega), rd_getD, hz]
            refine hj0 _ (Ev.step hs1 ?_)
            obtain ⟨a, a1, a2, a3, a4, a5⟩ := natOf_ev num hn (by omega)
            obtain ⟨b, b1, b2, b3, b4, b5⟩ := natOf_ev den hd (by omega)
            have haz : a = [] ↔ num = [] := by rw [← val_eq_zero (by decide) a2 a3, a4, val_eq_zero hB hn c1]
            obtain ⟨g, g1, g2, g3, g4⟩ := GcdNat_ev a b a2 b2 a3 b3 (by omega) (by omega)
            rw [a4, b4] at g4
            have hdp := val_pos hB hd c2 c3
            have hgl : g.length ≤ b.length := by
              rcases Nat.lt_or_ge b.length g.length with h | h
              · have h5 := len_lt_val (B := 65536) (by decide) b2 g2 g3 h
                rw [g4, b4] at h5
                have h6 := Nat.gcd_le_right (val 4294967296 num).toNat (show 0 < (val 4294967296 den).toNat by omega)
                omega
              · exact h
            have hcg := CmpNat_ev g [1] g2 (one_lim (by decide)) (by omega) (by decide)
            rw [val_one, g4] at hcg
            have hcb := CmpNat_ev b [1] b2 (one_lim (by decide)) (by omega) (by decide)
            rw [val_one, b4] at hcb
            have hj2s : ∀ r : Int, (if cmpI ((Nat.gcd (val 4294967296 num).toNat (val 4294967296 den).toNat : Nat) : Int) 1 = 0 then (some 0 : Option Int) else some 2) = some r → Ev (fun k => rf_Fault.j2 k a b false) r := by
              intro r hr
              refine Ev.step (f := fun k => ((rf_GcdNat.f k a b).bind fun t612 => ((rf_CmpNat.f k t612 (([1] : List Int))).bind fun t618 => (if t618 = 0 then (some 0) else (some 2))))) (fun k => ?_) (Ev.bind (f := fun k t612 => ((rf_CmpNat.f k t612 (([1] : List Int))).bind fun t618 => (if t618 = 0 then (some 0) else (some 2)))) g1 (Ev.bind (f := fun _ t618 => (if t618 = 0 then (some 0) else (some 2))) hcg (Ev.const hr)))
              simp only [rf_Fault.j2]; rw [if_neg (by decide)]
            have hcz : cmpI ((Nat.gcd (val 4294967296 num).toNat (val 4294967296 den).toNat : Nat) : Int) 1 = 0 ↔ Nat.gcd (val 4294967296 num).toNat (val 4294967296 den).toNat = 1 := by
              unfold cmpI
              generalize Nat.gcd (val 4294967296 num).toNat (val 4294967296 den).toNat = z
              by_cases h2 : (z : Int) < 1
              · rw [if_pos h2]; omega
              · rw [if_neg h2]
                by_cases h3 : (z : Int) > 1
                · rw [if_pos h3]; omega
                · rw [if_neg h3]; omega
            have hj2a : Nat.gcd (val 4294967296 num).toNat (val 4294967296 den).toNat = 1 → Ev (fun k => rf_Fault.j2 k a b false) 0 := fun h => hj2s 0 (by rw [if_pos (hcz.2 h)])
            have hj2b : ¬ Nat.gcd (val 4294967296 num).toNat (val 4294967296 den).toNat = 1 → Ev (fun k => rf_Fault.j2 k a b false) 2 := fun h => hj2s 2 (by rw [if_neg (fun h' => h (hcz.1 h'))])
            have hj2t : Ev (fun k => rf_Fault.j2 k a b true) 2 := Ev.step (f := fun _ => some 2) (fun k => by simp only [rf_Fault.j2]; rw [if_pos trivial]) (Ev.now _)
            refine Ev.step (f := fun k => ((rf_natOf.f k num).bind fun t602 => ((rf_natOf.f k den).bind fun t605 => (if (t602.length : Int) = 0 then (if neg = true then (rf_Fault.j2 k t602 t605 true) else ((rf_CmpNat.f k t605 (([1] : List Int))).bind fun t611 => (rf_Fault.j2 k t602 t605 (t611 != 0)))) else (rf_Fault.j2 k t602 t605 false))))) (fun k => by simp only [rf_Fault.j1]; rw [if_neg (by decide)]) ?_
            refine Ev.bind (f := fun k t602 => ((rf_natOf.f k den).bind fun t605 => (if (List.length t602 : Int) = 0 then (if neg = true then (rf_Fault.j2 k t602 t605 true) else ((rf_CmpNat.f k t605 (([1] : List Int))).bind fun t611 => (rf_Fault.j2 k t602 t605 (t611 != 0)))) else (rf_Fault.j2 k t602 t605 false)))) a1 ?_
            refine Ev.bind (f := fun k t605 => (if (a.length : Int) = 0 then (if neg = true then (rf_Fault.j2 k a t605 true) else ((rf_CmpNat.f k t605 (([1] : List Int))).bind fun t611 => (rf_Fault.j2 k a t605 (t611 != 0)))) else (rf_Fault.j2 k a t605 false))) b1 ?_
            by_cases c4 : num = []
            · have ha0 : a = [] := haz.2 c4
              have hv0 : val 4294967296 num = 0 := by rw [c4]; rfl
              have hvd := val_nonneg hB hd
              have hl0 : (a.length : Int) = 0 := by rw [ha0]; rfl
              by_cases c5 : neg = true
              · rw [fault_bad (by omega) (by omega) (fun h => by have := h.ng c4; rw [c5] at this; cases this)]
                exact Ev.congr (fun k => by rw [if_pos hl0, if_pos c5]) hj2t
              · refine Ev.congr (fun k => by rw [if_pos hl0, if_neg c5]) (Ev.bind (f := fun k t611 => (rf_Fault.j2 k a b (t611 != 0))) hcb ?_)
                by_cases c6 : val 4294967296 den = 1
                · have hg1 : Nat.gcd (val 4294967296 num).toNat (val 4294967296 den).toNat = 1 := by rw [hv0, c6]; rfl
                  rw [fault_can ⟨by omega, by omega, c1, c2, c3, fun _ => by cases neg <;> simp_all, hg1⟩]
                  have e : (cmpI (val 4294967296 den) 1 != 0) = false := by rw [c6]; rfl
                  rw [e]
                  exact hj2a hg1
                · rw [fault_bad (by omega) (by omega) (fun h => c6 (by have := h.gc; rw [hv0, Int.toNat_zero, Nat.gcd_zero_left] at this; omega))]
                  have e : (cmpI (val 4294967296 den) 1 != 0) = true := by
                    unfold cmpI
                    by_cases h2 : val 4294967296 den < 1
                    · rw [if_pos h2]; rfl
                    · rw [if_neg h2, if_pos (by omega)]; rfl
                  rw [e]
                  exact hj2t
            · have ha0 : a ≠ [] := fun h => c4 (haz.1 h)
              have hl0 : ¬ (a.length : Int) = 0 := fun h => ha0 (List.length_eq_zero_iff.1 (by omega))
              refine Ev.congr (f := fun k => rf_Fault.j2 k a b false) (fun k => by rw [if_neg hl0]) ?_
              by_cases c6 : Nat.gcd (val 4294967296 num).toNat (val 4294967296 den).toNat = 1
              · rw [fault_can ⟨by omega, by omega, c1, c2, c3, fun h => absurd h c4, c6⟩]
                exact hj2a c6
              · rw [fault_bad (by omega) (by omega) (fun h => c6 h.gc)]
                exact hj2b c6
          · rw [fault_bad (by omega) (by omega) (fun h => c1 h.nn)]
            refine hj0 _ (Ev.step (fun k => ?_) hbad)
            rw [hs0]
            have c4 : num ≠ [] := fun h => c1 (by rw [h]; exact nrm_nil)
            have hnl : num.length ≠ 0 := fun h' => c4 (List.length_eq_zero_iff.1 h')
            have hz : (num.getD (num.length - 1) 0 == 0) = true := by
              rw [beq_iff_eq]; exact Decidable.not_not.1 (fun h => c1 ((nrm_last c4).2 h))
            rw [if_pos (by omega), last_at c4 (by omega), if_pos (by omega), if_pos (by omega), rd_getD, hz]
        · rw [fault_bad (by omega) (by omega) (fun h => c2 h.nd)]
          refine hj0 _ (Ev.step (fun k => ?_) hbad)
          simp only [rf_Fault.j0]
          rw [if_neg (by decide), if_neg (by omega), last_at c3 (by omega), if_pos (by omega), if_pos (by omega), rd_getD, if_pos (Decidable.not_not.1 (fun h => c2 ((nrm_last c3).2 h)))]
theorem rmul_step {o x y c : Int} (o0 : 0 ≤ o) (o1 : o < 65536) (x0 : 0 ≤ x) (x1 : x < 65536) (y0 : 0 ≤ y) (y1 : y < 65536) (c0 : 0 ≤ c) (c1 : c < 65536) :
    ∃ t q : Int, Int.tmod (wrap64 (wrap64 (o + wrap64 (x * y)) + c)) 65536 = t ∧ wrap64 (Int.tdiv (wrap64 (wrap64 (o + wrap64 (x * y)) + c)) 65536) = q ∧ 0 ≤ t ∧ t < 65536 ∧ 0 ≤ q ∧ q < 65536 ∧ t = o + x * y + c - 65536 * q := by
  have h1 : 0 ≤ x * y := Int.mul_nonneg x0 y0
  have h2 : x * y ≤ x * 65535 := Int.mul_le_mul_of_nonneg_left (by omega) x0
  generalize x * y = p at *
  have e1 : wrap64 p = p := w64 (by omega) (by omega)
  have e2 : wrap64 (o + p) = o + p := w64 (by omega) (by omega)
  have e3 : wrap64 (o + p + c) = o + p + c := w64 (by omega) (by omega)
  rw [e1, e2, e3, Int.tmod_eq_emod_of_nonneg (by omega), Int.tdiv_eq_ediv_of_nonneg (by omega), w64 (by omega) (by omega)]
  exact ⟨_, _, rfl, rfl, by omega, by omega, by omega, by omega, by omega⟩
theorem rmul_inner (a b : List Int) (ha : Lim 65536 a) (hb : Lim 65536 b) (L i : Nat) (hia : i < a.length) (hL : L ≤ 549755813888) (hi : i + b.length < L) :
    ∀ (d j : Nat) (out : List Int) (c : Int), d + j = b.length → out.length = L → Lim 65536 out → 0 ≤ c → c < 65536 → out.getD (i + b.length) 0 = 0 →
    ∃ r, r.length = L ∧ Lim 65536 r ∧ val 65536 r = val 65536 out + 65536 ^ (i + j) * (c + a.getD i 0 * val 65536 (b.drop j)) ∧ (∀ p, i + b.length < p → r.getD p 0 = out.getD p 0) ∧
      ∀ (R : List Int), Ev (fun k => rf_MulNat.l0 k a b r (a.length : Int) ((i + 1 : Nat) : Int)) R → Ev (fun k => rf_MulNat.l1 k a b out (i : Int) c (j : Int) (a.length : Int) (i : Int)) R := by
  have hB : (0 : Int) < 65536 := by decide
  have hai := ha.getD hB i
  have gi0 : (0 : Int) ≤ (i : Int) := by omega
  have gi1 : (i : Int) < (a.length : Int) := by omega
  have gi2 : ∀ _ : Unit, wrap64 ((i : Int) + 1) = ((i + 1 : Nat) : Int) := fun _ => by rw [w64 (by omega) (by omega)]; omega
  intro d
  induction d with
  | zero =>
    intro j out c hd hl ho hc0 hc hz
    have hj : j = b.length := by omega
    subst hj
    have gv : ∀ _ : Unit, wrap64 ((i : Int) + (b.length : Int)) = ((i + b.length : Nat) : Int) := fun _ => by rw [w64 (by omega) (by omega)]; omega
    have g3 : (0 : Int) ≤ ((i + b.length : Nat) : Int) := by omega
    have g4 : ((i + b.length : Nat) : Int) < (out.length : Int) := by omega
    have g5 : i + b.length < out.length := by omega
    by_cases cz : c = 0
    · subst cz
      refine ⟨out, hl, ho, by rw [List.drop_length]; simp [val], fun p hp => rfl, fun R hR => ?_⟩
      refine Ev.step (f := fun k => rf_MulNat.l0 k a b out (a.length : Int) ((i + 1 : Nat) : Int)) (fun k => ?_) hR
      simp only [rf_MulNat.l1]
      rw [if_neg (by omega), if_neg (by omega), gi2 ()]
    · have gb : b.getD b.length 0 = 0 := by rw [List.getD_eq_getElem?_getD, List.getElem?_eq_none (Nat.le_refl _)]; rfl
      obtain ⟨t, q, ht, hq, q1, q2, q3, q4, q5⟩ := rmul_step (o := 0) (x := a.getD i 0) (y := 0) (c := c) (by decide) (by decide) hai.1 hai.2 (by decide) (by decide) hc0 hc
      rw [Int.mul_zero] at q5
      have eq0 : q = 0 := by omega
      have et : t = c := by omega
      have gw : ∀ _ : Unit, wrap64 ((b.length : Int) + 1) = ((b.length + 1 : Nat) : Int) := fun _ => by rw [w64 (by omega) (by omega)]; omega
      refine ⟨out.set (i + b.length) c, by rw [List.length_set, hl], ho.set _ ⟨hc0, hc⟩, ?_, ?_, fun R hR => ?_⟩
      · rw [val_set _ _ _ _ g5, hz, List.drop_length]
        simp [val]
      · intro p hp
        rw [List.getD_eq_getElem?_getD, List.getD_eq_getElem?_getD, List.getElem?_set_ne (by omega)]
      · refine Ev.step (f := fun k => rf_MulNat.l1 k a b (out.set (i + b.length) c) (i : Int) 0 ((b.length + 1 : Nat) : Int) (a.length : Int) (i : Int)) (fun k => ?_) (Ev.step (f := fun k => rf_MulNat.l0 k a b (out.set (i + b.length) c) (a.length : Int) ((i + 1 : Nat) : Int)) (fun k => ?_) hR)
        · simp only [rf_MulNat.l1]
          rw [if_neg (by omega), if_pos (by omega), gv (), if_pos g3, if_pos g4, if_pos gi0, if_pos gi1, rdigit, Option.bind_some, gb, rd_getD out, hz, rd_getD a, ht, hq, gw (), et, eq0, Int.toNat_natCast]
        · simp only [rf_MulNat.l1]
          rw [if_neg (by omega), if_neg (by decide), gi2 ()]
  | succ d ih =>
    intro j out c hd hl ho hc0 hc hz
    have g0 : d + (j + 1) = b.length := by omega
    have g1 : (j : Int) < (b.length : Int) := by omega
    have gj : j < b.length := by omega
    have g3 : i + j < out.length := by omega
    have g4 : ((i + j : Nat) : Int) < (out.length : Int) := by omega
    have g5 : (0 : Int) ≤ ((i + j : Nat) : Int) := by omega
    have g6 : i + j ≠ i + b.length := by omega
    have gw : ∀ _ : Unit, wrap64 ((j : Int) + 1) = ((j + 1 : Nat) : Int) := fun _ => by rw [w64 (by omega) (by omega)]; omega
    have gv : ∀ _ : Unit, wrap64 ((i : Int) + (j : Int)) = ((i + j : Nat) : Int) := fun _ => by rw [w64 (by omega) (by omega)]; omega
    have hb1 := hb.getD hB j
    have ho1 := ho.getD hB (i + j)
    obtain ⟨t, q, ht, hq, q1, q2, q3, q4, q5⟩ := rmul_step ho1.1 ho1.2 hai.1 hai.2 hb1.1 hb1.2 hc0 hc
    obtain ⟨r, r1, r2, r3, r4, r5⟩ := ih (j + 1) (out.set (i + j) t) q g0 (by rw [List.length_set, hl]) (ho.set _ ⟨q1, q2⟩) q3 q4 (by
      rw [List.getD_eq_getElem?_getD, List.getElem?_set_ne g6, ← List.getD_eq_getElem?_getD, hz])
    refine ⟨r, r1, r2, ?_, ?_, fun R hR => ?_⟩
    · rw [r3, val_set _ _ _ _ g3, val_drop _ b j gj, q5, ← Nat.add_assoc, Int.pow_succ]
      generalize val 65536 (b.drop (j + 1)) = v
      generalize (65536 : Int) ^ (i + j) = p
      clear q5 ht hq r3 r5 r4
      grind
    · intro p hp
      rw [r4 p hp, List.getD_eq_getElem?_getD, List.getD_eq_getElem?_getD, List.getElem?_set_ne (by omega)]
    · refine Ev.step (f := fun k => rf_MulNat.l1 k a b (out.set (i + j) t) (i : Int) q ((j + 1 : Nat) : Int) (a.length : Int) (i : Int)) (fun k => ?_) (r5 R hR)
      simp only [rf_MulNat.l1]
      rw [if_pos g1, gv (), if_pos g5, if_pos g4, if_pos gi0, if_pos gi1, rdigit, Option.bind_some, rd_getD out, rd_getD a, ht, hq, gw (), Int.toNat_natCast]
theorem rmul_outer (a b : List Int) (ha : Lim 65536 a) (hb : Lim 65536 b) (hL : a.length + b.length + 1 ≤ 549755813888) :
    ∀ (d i : Nat) (out : List Int), d + i = a.length → out.length = a.length + b.length + 1 → Lim 65536 out → (∀ p, i + b.length ≤ p → out.getD p 0 = 0) →
    ∃ r, Ev (fun k => rf_MulNat.l0 k a b out (a.length : Int) (i : Int)) (trim r) ∧ r.length = a.length + b.length + 1 ∧ Lim 65536 r ∧ val 65536 r = val 65536 out + 65536 ^ i * (val 65536 (a.drop i) * val 65536 b) := by
  have hB : (0 : Int) < 65536 := by decide
  intro d
  induction d with
  | zero =>
    intro i out hd hl ho hz
    have hi : i = a.length := by omega
    subst hi
    refine ⟨out, Ev.step (f := fun k => (rf_trim.f k out).bind fun t => some t) (fun k => ?_) (Ev.bind (f := fun _ t => some t) (rtrim_ev out (by omega)) (Ev.now _)), hl, ho, ?_⟩
    · simp only [rf_MulNat.l0]; rw [if_neg (by omega)]
    · rw [List.drop_length]; simp [val]
  | succ d ih =>
    intro i out hd hl ho hz
    have g1 : (i : Int) < (a.length : Int) := by omega
    have gi : i < a.length := by omega
    obtain ⟨r, r1, r2, r3, r4, r5⟩ := rmul_inner a b ha hb (a.length + b.length + 1) i gi hL (by omega) b.length 0 out 0 (by omega) hl ho (by decide) (by decide) (hz _ (Nat.le_refl _))
    obtain ⟨s, s1, s2, s3, s4⟩ := ih (i + 1) r (by omega) r1 r2 (by
      intro p hp
      rw [r4 p (by omega)]
      exact hz p (by omega))
    refine ⟨s, Ev.step (f := fun k => rf_MulNat.l1 k a b out (i : Int) 0 0 (a.length : Int) (i : Int)) (fun k => ?_) (r5 _ s1), s2, s3, ?_⟩
    · simp only [rf_MulNat.l0]
      rw [if_pos g1]
    · rw [s4, r3, val_drop _ a i gi, List.drop_zero, Nat.add_zero, Int.pow_succ]
      generalize val 65536 (a.drop (i + 1)) = v
      generalize val 65536 b = u
      generalize (65536 : Int) ^ i = p
      clear s4 r3 r5 r4 s1
      grind
theorem MulNat_ev (a b : List Int) (ha : Lim 65536 a) (hb : Lim 65536 b) (hL : a.length + b.length + 1 ≤ 1099511627) :
    ∃ r, Ev (fun k => rf_MulNat.f k a b) r ∧ Lim 65536 r ∧ Nrm r ∧ val 65536 r = val 65536 a * val 65536 b ∧ r.length ≤ a.length + b.length + 1 := by
  have e1 : wrap64 ((a.length : Int) + (b.length : Int)) = ((a.length + b.length : Nat) : Int) := by rw [w64 (by omega) (by omega)]; omega
  have e2 : wrap64 (((a.length + b.length : Nat) : Int) + 1) = ((a.length + b.length + 1 : Nat) : Int) := by rw [w64 (by omega) (by omega)]; omega
  obtain ⟨r, h1, h2, h3, h4⟩ := rmul_outer a b ha hb (by omega) a.length 0 (List.replicate (a.length + b.length + 1) 0) (by omega) (by simp) (lim_replicate (by decide) _) (fun p _ => by
    rw [List.getD_eq_getElem?_getD]
    rcases Nat.lt_or_ge p (a.length + b.length + 1) with h | h
    · rw [List.getElem?_replicate_of_lt h]; rfl
    · rw [List.getElem?_eq_none (by simpa using h)]; rfl)
  refine ⟨trim r, Ev.congr (fun k => ?_) h1, lim_trim h3, nrm_trim _, by rw [val_trim, h4, val_replicate, List.drop_zero]; simp, by rw [← h2]; exact length_trim r⟩
  unfold rf_MulNat.f
  rw [e1, e2, if_pos (by omega), if_pos (by omega), Int.toNat_natCast]
  rfl
end Go.Proofs.YtemnjgkicndmjaaGreatDoor.Q
namespace Go.Proofs.YtemnjgkicndmjaaGreatDoor.Q
open Go.RowKit Go.Proofs.YtemnjgkicndmjaaGreatDoorW.PrintWords Go.Proofs.YtemnjgkicndmjaaGreatDoorW.PrintLast Go.Proofs.YtemnjgkicndmjaaGreatDoorW.PrintMore
attribute [local go_sem] max2_int min2_int max_two min_two max_three min_three max_four min_four
set_option linter.unusedVariables false
set_option linter.unusedSimpArgs false
end Go.Proofs.YtemnjgkicndmjaaGreatDoor.Q
namespace Go.Proofs.YtemnjgkicndmjaaGreatDoor.Q
open Go.RowKit Go.Proofs.YtemnjgkicndmjaaGreatDoorW.PrintWords Go.Proofs.YtemnjgkicndmjaaGreatDoorW.PrintLast Go.Proofs.YtemnjgkicndmjaaGreatDoorW.PrintMore
set_option linter.unusedVariables false
theorem rlen_loop : ∀ (d : Nat) (x : Int) (n : Nat), 0 ≤ x → x < 2 ^ d → n + d ≤ 1099511627776 → ∃ L, L ≤ d ∧ x < 2 ^ L ∧ (0 < x → 0 < L ∧ 2 ^ (L - 1) ≤ x) ∧ Ev (fun k => rf_LenNat.l0 k (n : Int) x) ((n + L : Nat) : Int) := by
  intro d
  induction d with
  | zero =>
    intro x n h0 h1 _
    have e : x = 0 := by simp at h1; omega
    subst e
    refine ⟨0, Nat.le_refl _, by decide, fun h => absurd h (by decide), Ev.step (f := fun _ => some (n : Int)) (fun k => ?_) (Ev.now _)⟩
    simp only [rf_LenNat.l0]
    rw [if_neg (by decide)]
  | succ d ih =>
    intro x n h0 h1 hL
    by_cases e : x = 0
    · subst e
      refine ⟨0, by omega, by decide, fun h => absurd h (by decide), Ev.step (f := fun _ => some (n : Int)) (fun k => ?_) (Ev.now _)⟩
      simp only [rf_LenNat.l0]
      rw [if_neg (by decide)]
    · rw [Int.pow_succ] at h1
      obtain ⟨L, l1, l2, l3, l4⟩ := ih (x / 2) (n + 1) (by omega) (by omega) (by omega)
      have e2 : wrap64 ((n : Int) + 1) = ((n + 1 : Nat) : Int) := by rw [w64 (by omega) (by omega)]; omega
      refine ⟨L + 1, by omega, by rw [Int.pow_succ]; omega, fun h => ⟨by omega, ?_⟩, Ev.step (f := fun k => rf_LenNat.l0 k ((n + 1 : Nat) : Int) (x / 2)) (fun k => ?_) (Ev.eq l4 (by congr 1; omega))⟩
      · rw [Nat.add_sub_cancel]
        by_cases h2 : 0 < x / 2
        · obtain ⟨p1, p2⟩ := l3 h2
          have e3 : L = (L - 1) + 1 := by omega
          rw [e3, Int.pow_succ]; omega
        · have : x / 2 = 0 := by omega
          have hz : L = 0 := by
            rcases Nat.eq_zero_or_pos L with h3 | h3
            · exact h3
            · have h4 : x = 1 := by omega
              subst h4
              have h5 := Ev.unique l4 (r' := ((n + 1 : Nat) : Int)) (Ev.step (f := fun _ => some ((n + 1 : Nat) : Int)) (fun k => by simp only [rf_LenNat.l0]; rw [if_neg (by decide)]) (Ev.now _))
              omega
          rw [hz]; simp; omega
      · simp only [rf_LenNat.l0]
        rw [if_pos (by omega), e2]
theorem LenNat_ev (a : List Int) (ha : Lim 65536 a) (na : Nrm a) (hL : a.length ≤ 1073741824) : ∃ L : Nat, L ≤ 16 * a.length ∧ val 65536 a < 2 ^ L ∧ (0 < val 65536 a → 0 < L ∧ 2 ^ (L - 1) ≤ val 65536 a) ∧ Ev (fun k => rf_LenNat.f k a) (L : Int) := by
  by_cases h : a = []
  · subst h
    exact ⟨0, by simp, by decide, fun h => absurd h (by decide), Ev.ret fun k => by unfold rf_LenNat.f; rfl⟩
  · have hl0 : a.length ≠ 0 := fun h' => h (List.length_eq_zero_iff.1 h')
    have hx := ha.getD (by decide) (a.length - 1)
    have h0 : a.getD (a.length - 1) 0 ≠ 0 := by
      intro e
      rw [← List.dropLast_concat_getLast h] at na
      have h1 := nrm_snoc.1 na
      refine h1 ?_
      rw [← e, List.getLast_eq_getElem, List.getD_eq_getElem?_getD, List.getElem?_eq_getElem (by omega)]; rfl
    obtain ⟨L, l1, l2, l3, l4⟩ := rlen_loop 16 (a.getD (a.length - 1) 0) (16 * (a.length - 1)) hx.1 (by simpa using hx.2) (by omega)
    obtain ⟨p1, p2⟩ := l3 (by omega)
    have hv : val 65536 a = val 65536 (a.take (a.length - 1)) + 65536 ^ (a.length - 1) * a.getD (a.length - 1) 0 := by
      have h1 := val_take_succ 65536 a (a.length - 1) (by omega)
      rw [Nat.sub_add_cancel (by omega), List.take_of_length_le (Nat.le_refl _)] at h1
      exact h1
    have t0 := val_nonneg (B := 65536) (by decide) (ha.take (a.length - 1))
    have t1 := val_lt (B := 65536) (by decide) (ha.take (a.length - 1))
    rw [List.length_take, Nat.min_eq_left (by omega)] at t1
    have hp : (65536 : Int) ^ (a.length - 1) = 2 ^ (16 * (a.length - 1)) := by rw [Int.pow_mul]; rfl
    have pp : (0 : Int) < 65536 ^ (a.length - 1) := Int.pow_pos (by decide)
    have hup : val 65536 a < 2 ^ (16 * (a.length - 1) + L) := by
      rw [Int.pow_add, ← hp, hv]
      have : (65536 : Int) ^ (a.length - 1) * (a.getD (a.length - 1) 0 + 1) ≤ 65536 ^ (a.length - 1) * 2 ^ L := Int.mul_le_mul_of_nonneg_left (by omega) (by omega)
      rw [Int.mul_add, Int.mul_one] at this
      omega
    have hlo : 2 ^ (16 * (a.length - 1) + L - 1) ≤ val 65536 a := by
      have e : 16 * (a.length - 1) + L - 1 = 16 * (a.length - 1) + (L - 1) := by omega
      rw [e, Int.pow_add, ← hp, hv]
      have : (65536 : Int) ^ (a.length - 1) * 2 ^ (L - 1) ≤ 65536 ^ (a.length - 1) * a.getD (a.length - 1) 0 := Int.mul_le_mul_of_nonneg_left p2 (by omega)
      omega
    refine ⟨16 * (a.length - 1) + L, by omega, hup, fun _ => ⟨by omega, hlo⟩, Ev.congr (fun k => ?_) l4⟩
    have e1 : wrap64 ((a.length : Int) - 1) = ((a.length - 1 : Nat) : Int) := by rw [w64 (by omega) (by omega)]; omega
    have e2 : wrap64 (16 * ((a.length - 1 : Nat) : Int)) = ((16 * (a.length - 1) : Nat) : Int) := by rw [w64 (by omega) (by omega)]; omega
    unfold rf_LenNat.f
    rw [if_pos (by omega), e1, if_pos (by omega), if_pos (by omega), e2, rd_getD]
theorem rbit_ev {a : List Int} (ha : Lim 65536 a) (i : Nat) (hi : i ≤ 1099511627776) : rf_bit.f a (i : Int) = some (val 65536 a / 2 ^ i % 2) := by
  obtain ⟨w, hw⟩ : ∃ w, w = i / 16 := ⟨_, rfl⟩
  obtain ⟨b, hb⟩ : ∃ b, b = i % 16 := ⟨_, rfl⟩
  have hib : i = 16 * w + b := by omega
  have hx := ha.getD (by decide) w
  have e1 : wrap64 (Int.tdiv (i : Int) 16) = (w : Int) := by rw [Int.tdiv_eq_ediv_of_nonneg (by omega), w64 (by omega) (by omega)]; omega
  have e2 : Int.tmod (i : Int) 16 = (b : Int) := by rw [Int.tmod_eq_emod_of_nonneg (by omega)]; omega
  have e3 : shr .i64 (a.getD w 0) (b : Int) = a.getD w 0 / 2 ^ b := by
    unfold shr
    rw [show min (b : Int).toNat (IntKind.i64).bits = b by simp [IntKind.bits]; omega]
  have hq0 : 0 ≤ a.getD w 0 / 2 ^ b := Int.ediv_nonneg hx.1 (Int.le_of_lt (Int.pow_pos (by decide)))
  have hq1 : a.getD w 0 / 2 ^ b ≤ a.getD w 0 := Int.ediv_le_self _ hx.1
  unfold rf_bit.f
  rw [e1, rdigit, Option.bind_some, e2, if_pos (by omega), e3, i64_and1 hq0 (by omega)]
  congr 1
  have hs := val_split' 65536 a w
  have hd := val_drop' 65536 a w
  have t0 := val_nonneg (B := 65536) (by decide) (ha.take w)
  have t1 : val 65536 (a.take w) < 65536 ^ w := by
    have h1 := val_lt (B := 65536) (by decide) (ha.take w)
    have h2 := pow_mono' (B := 65536) (by decide) (show (a.take w).length ≤ w by rw [List.length_take]; omega)
    omega
  have hp : (2 : Int) ^ (16 * w) = 65536 ^ w := by rw [Int.pow_mul]; rfl
  have pp : (0 : Int) < 65536 ^ w := Int.pow_pos (by decide)
  have h3 : val 65536 a / 2 ^ i = val 65536 (a.drop w) / 2 ^ b := by
    rw [hib, Int.pow_add, hp, ← Int.ediv_ediv_of_nonneg (Int.le_of_lt pp), hs, Int.add_mul_ediv_left _ _ (by omega), Int.ediv_eq_zero_of_lt t0 t1, Int.zero_add]
  rw [h3, hd]
  have h4 : (65536 : Int) = 2 ^ b * (2 * 2 ^ (15 - b)) := by
    have : (65536 : Int) = 2 ^ (b + (1 + (15 - b))) := by rw [show b + (1 + (15 - b)) = 16 by omega]; rfl
    rw [this, Int.pow_add, Int.pow_add]; rfl
  have pb : (0 : Int) < 2 ^ b := Int.pow_pos (by decide)
  have h5 : (a.getD w 0 + 65536 * val 65536 (a.drop (w + 1))) / 2 ^ b = a.getD w 0 / 2 ^ b + 2 * (2 ^ (15 - b) * val 65536 (a.drop (w + 1))) := by
    have : a.getD w 0 + 65536 * val 65536 (a.drop (w + 1)) = a.getD w 0 + 2 ^ b * (2 * (2 ^ (15 - b) * val 65536 (a.drop (w + 1)))) := by
      generalize val 65536 (a.drop (w + 1)) = u
      rw [h4]; grind
    rw [this, Int.add_mul_ediv_left _ _ (by omega)]
  rw [h5, Int.add_mul_emod_self_left]
end Go.Proofs.YtemnjgkicndmjaaGreatDoor.Q
namespace Go.Proofs.YtemnjgkicndmjaaGreatDoor.Q
open Go.RowKit Go.Proofs.YtemnjgkicndmjaaGreatDoor.E Go.Proofs.YtemnjgkicndmjaaGreatDoorW.PrintWords Go.Proofs.YtemnjgkicndmjaaGreatDoorW.PrintLast Go.Proofs.YtemnjgkicndmjaaGreatDoorW.PrintMore
set_option linter.unusedVariables false
abbrev RR := Rp 65536
theorem Made_c {neg : Bool} {p q : List Int} {N D : Int} (h : RR neg p q N D) (lp : p.length ≤ 137438953472) (lq : q.length ≤ 137438953472) :
    ∃ p' q', (∀ (R : Type) (K : ((Bool × List Int × List Int) × Int) → Option R), rf_Made.c R (neg, p, q) K = K (outM neg p' q')) ∧ Rep neg p' q' N D := by
  obtain ⟨x, x1, x2, x3, x4, x5⟩ := limbs_ev p h.lp h.np lp
  obtain ⟨y, y1, y2, y3, y4, y5⟩ := limbs_ev q h.lq h.nq lq
  refine ⟨x, y, fun R K => (rf_limbs.eq x1 _).trans ((rf_limbs.eq y1 _).trans ?_), x2, x3, y2, y3, ?_, by rw [x4, y4]; exact h.gc, ?_, by rw [x4, y4]; exact h.eq⟩
  · unfold outM
    by_cases c1 : x.length > 128
    · rw [if_neg (by simp; omega), if_pos (Or.inl c1)]
    · by_cases c2 : y.length > 128
      · rw [if_pos (by simp; omega), if_pos (by simp; omega), if_pos (Or.inr c2)]
      · rw [if_pos (by simp; omega), if_neg (by simp; omega), if_neg (by omega)]
  · rintro rfl
    have h1 := h.pos (by decide)
    rw [← y4] at h1
    exact absurd h1 (by decide)
  · rintro rfl
    refine h.ng ((val_eq_zero (by decide) h.lp h.np).1 ?_)
    rw [← x4]; rfl
theorem Fault_c (neg : Bool) (num den : List Int) (hn : Lim 4294967296 num) (hd : Lim 4294967296 den) {R : Type} (K : Int → Option R) : rf_Fault.c R (neg, num, den) K = K (fault neg num den) := rf_Fault.eq (Fault_ev neg num den hn hd) K
theorem Of_c {neg : Bool} {num den : List Int} (hn : Lim 4294967296 num) (hd : Lim 4294967296 den) (h : Can neg num den) :
    ∃ p q, (∀ (R : Type) (K : (Bool × List Int × List Int) → Option R), rf_Of.c R (neg, num, den) K = K (neg, p, q)) ∧ RR neg p q (sgn neg (val 4294967296 num)) (val 4294967296 den) ∧ val 65536 p = val 4294967296 num ∧ val 65536 q = val 4294967296 den ∧ p.length ≤ 256 ∧ q.length ≤ 256 ∧ (p = [] ↔ num = []) := by
  have l1 := h.ln
  have l2 := h.ld
  obtain ⟨p, p1, p2, p3, p4, p5⟩ := natOf_ev num hn (by omega)
  obtain ⟨q, q1, q2, q3, q4, q5⟩ := natOf_ev den hd (by omega)
  have hz : p = [] ↔ num = [] := by rw [← val_eq_zero (by decide) p2 p3, ← val_eq_zero (by decide) hn h.nn, p4]
  refine ⟨p, q, fun R K => (rf_natOf.eq p1 _).trans (rf_natOf.eq q1 _), ⟨p2, p3, q2, q3, ?_, by rw [p4, q4]; exact h.gc, fun h0 => h.ng (hz.1 h0), by rw [p4, q4]⟩, p4, q4, by omega, by omega, hz⟩
  rintro rfl
  have := h.pos hd
  rw [← q4] at this
  exact absurd this (by decide)
theorem ROne : Lim 65536 [1] ∧ Nrm [1] ∧ val 65536 [1] = 1 := ⟨one_lim (by decide), one_nrm, val_one _⟩
theorem IsInt_c {neg : Bool} {p q : List Int} (hq : Lim 65536 q) (nq : Nrm q) (lq : q.length ≤ 1000000) {R : Type} (K : Bool → Option R) : rf_IsInt.c R (neg, p, q) K = K (decide (q = [1])) := by
  have hc := CmpNat_ev q [1] hq ROne.1 (by omega) (by decide)
  rw [ROne.2.2] at hc
  refine (rf_CmpNat.eq hc _).trans ?_
  have e := eq_one (show (1 : Int) < 65536 by decide) hq nq
  have e2 : (cmpI (val 65536 q) 1 == 0) = decide (q = [1]) := by
    by_cases c : q = [1]
    · rw [e.2 c, decide_eq_true c]; rfl
    · have : val 65536 q ≠ 1 := fun h => c (e.1 h)
      rw [decide_eq_false c]
      have h2 : cmpI (val 65536 q) 1 ≠ 0 := fun h => this (cmpI_eq.1 h)
      simpa using h2
  rw [e2]
theorem rr_int {neg : Bool} {n : List Int} (hn : Lim 65536 n) (nn : Nrm n) (h0 : n = [] → neg = false) : RR neg n [1] (sgn neg (val 65536 n)) 1 :=
  ⟨hn, nn, ROne.1, ROne.2.1, by decide, by rw [ROne.2.2]; exact Nat.gcd_one_right _, h0, by rw [ROne.2.2]⟩
theorem rdigit_c (l : List Int) (i : Nat) {R : Type} (K : Int → Option R) : rf_digit.c R (l, (i : Int)) K = K (l.getD i 0) := rf_digit.eq (rdigit l i) K
theorem val_small {y : List Int} (hy : Lim 65536 y) (ny : Nrm y) (h : val 65536 y < 1048576) : val 65536 y = y.getD 0 0 + y.getD 1 0 * 65536 := by
  have hl : y.length ≤ 2 := small_len (by decide) hy ny (by omega)
  match y, hl with
  | [], _ => rfl
  | [a], _ => simp [val]
  | [a, b], _ => simp [val]; omega
theorem small_c {neg : Bool} {y d : List Int} (hy : Lim 65536 y) (ny : Nrm y) (ly : y.length ≤ 256) :
    (val 65536 y < 1048576 → ∀ (R : Type) (K : Int × Bool → Option R), rf_small.c R (neg, y, d) K = K (val 65536 y, true)) ∧ (1048576 ≤ val 65536 y → ∀ (R : Type) (K : Int × Bool → Option R), rf_small.c R (neg, y, d) K = K (0, false)) := by
  obtain ⟨L, l1, l2, l3, l4⟩ := LenNat_ev y hy ny (by omega)
  have v0 := val_nonneg (show (0 : Int) < 65536 by decide) hy
  refine ⟨fun h R K => ?_, fun h R K => ?_⟩
  · have hL : ¬ 20 < L := by
      intro hL
      by_cases c : 0 < val 65536 y
      · have := (l3 c).2
        have h2 : (2 : Int) ^ 20 ≤ 2 ^ (L - 1) := pow_mono' (by decide) (by omega)
        omega
      · have : y = [] := (val_eq_zero (show (0 : Int) < 65536 by decide) hy ny).1 (by omega)
        subst this
        simp at l1
        omega
    have e := val_small hy ny h
    have d0 := hy.getD (by decide) 0
    have d1 := hy.getD (by decide) 1
    unfold rf_small.c rf_small.d
    refine (rf_LenNat.eq l4 _).trans ?_
    refine (if_neg (by simp; omega)).trans ?_
    refine (rdigit_c y 0 _).trans ?_
    refine (rdigit_c y 1 _).trans ?_
    have w1 : IntKind.i64.wrap (y.getD 1 0 * 65536) = y.getD 1 0 * 65536 := i64w _ (by omega) (by omega)
    have w2 : IntKind.i64.wrap (y.getD 0 0 + y.getD 1 0 * 65536) = val 65536 y := by rw [i64w _ (by omega) (by omega)]; exact e.symm
    rw [w1, w2]
  · have hL : 20 < L := by
      rcases Nat.lt_or_ge 20 L with h1 | h1
      · exact h1
      · have h2 : (2 : Int) ^ L ≤ 2 ^ 20 := pow_mono' (by decide) h1
        omega
    unfold rf_small.c rf_small.d
    refine (rf_LenNat.eq l4 _).trans ?_
    exact if_pos (by simp; omega)
def rf_bit.c : (R : Type) → (List Int × Int) → ((Int) → Option R) → Option R := fun R a => at' (fun (a : List Int × Int) => rf_bit.f a.1 a.2) R a
theorem rf_bit.pc (a : List Int × Int) (b : Int) (h : rf_bit.f a.1 a.2 = some b) : PureC Tryz.prog 75 ((more rI (one iI)).enc a) (iI.enc b) := by
  intro w P0 vs hr
  obtain ⟨x0, x1⟩ := a
  obtain ⟨A0, c0, u0, e0, hc0, hf0, hr⟩ := at_row hr
  obtain ⟨u1, e1, hr⟩ := at_int hr
  have z := at_nil hr
  subst z
  subst e1
  have q2 := e0
  obtain rfl : vs = #[.slice A0 x0.length c0, .int .i64 x1] := Array.toList_inj.1 (by simpa using q2)
  refine Calls.mono (rf_bit.calls A0 c0 x0 x1 b w (now hf0) hc0 h) fun e w' he => ?_
  obtain ⟨rfl, hb⟩ := he
  exact ⟨_, rfl, hb.below, (show E.Rep _ _ _ _ _ from by simp only [iI, ci, E.Rep])⟩
theorem rf_bit.ok : FunOk Tryz.prog 75 (mk (more rI (one iI)) iI rf_bit.c) := at_ok (by kernel_rfl) rf_bit.pc
theorem rf_bit.eq {x0 : List Int} {x1 : Int} {b : Int} (h : rf_bit.f x0 x1 = some b) {R : Type} (K : (Int) → Option R) : rf_bit.c R (x0, x1) K = K b := at_eq (g := fun (a : List Int × Int) => rf_bit.f a.1 a.2) (a := (x0, x1)) h K
end Go.Proofs.YtemnjgkicndmjaaGreatDoor.Q
