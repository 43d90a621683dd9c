/- What this text proves: a part of the walk and of the plain laws of one card; no conditions. -/
import Derived.Test.YtemnjgkicndmjaaGreatDoorNb1
import Derived.LoopN
import Derived.Orders
import Derived.Laws.CopyRow
import Derived.Laws.Small
namespace Go.Proofs.YtemnjgkicndmjaaGreatDoor.Q
open Go.RowKit Go.Proofs.YtemnjgkicndmjaaGreatDoorW.PrintWords Go.Proofs.YtemnjgkicndmjaaGreatDoorW.PrintLast Go.Proofs.YtemnjgkicndmjaaGreatDoorW.PrintMore
attribute [local go_sem] max2_int min2_int max_two min_two max_three min_three max_four min_four
set_option linter.unusedVariables false
set_option linter.unusedSimpArgs false
def nat_IsOne.f (l0 : List Int) : Option (Bool) := if (l0.length : Int) = 1 then (if 0 < (l0.length : Int) then (some ((rd l0 0) == 1)) else (none)) else (some false)
set_option maxHeartbeats 8000000 in
set_option maxRecDepth 100000 in
theorem nat_IsOne.calls (A0 : Option Addr) (c0 : Nat) (l0 : List Int) (r : Bool) (w : World) (hr0 : Kd.C (Kd.int .u32) w A0 l0.length l0) (hc0 : l0.length ≤ c0) (h : nat_IsOne.f l0 = some r) :
  Calls Tryz.prog 64 #[.slice A0 l0.length c0] w fun e w' => e = .returned (.bool r) ∧ Drawn0 w w' := by
 have HR0 := am hr0
 have HC0 := am hc0
 clear hr0 hc0
 have H := h
 unfold nat_IsOne.f at H
 clear h
 by_cases c2 : (l0.length : Int) = 1
 ·rw [if_pos c2] at H
  have c2b0 : ((l0.length : Int) == 1) = true := beq_iff_eq.mpr c2
  have c2b1 : ((l0.length : Int) != 1) = false := bne_eq_false_iff_eq.mpr c2
  clear c2
  replace H := zn H
  obtain ⟨c3, H⟩ := H
  have c3b0 := decide_eq_true c3
  have c3b1 : decide (0 < l0.length) = true := decide_eq_true (by omega)
  clear c3
  obtain rfl := Option.some.inj H
  have p227 : 0 ≤ (0 : Int) := (by omega)
  have q227 : 0 < (l0.length : Int) := zq6
  obtain ⟨ad227, e227, hx227_0⟩ := Kd.at_int HR0.out 0 p227 q227
  cases e227
  have qi227 : (0 < l0.length) = True := eq_true (by omega)
  (try rw [show ((0 : Int)).toNat = 0 from rfl] at hx227_0)
  (try rw [Addr.add_zero'] at hx227_0)
  replace p227 := eq_true p227
  replace q227 := eq_true q227
  go_enter Tryz.func64, Tryz.ntmps64
  go_wp2
  go_ret
  exact ⟨by first | rfl | (simp; done) | (simp [*]; done), by repeat (first | exact Drawn0.refl _ | apply Drawn0.step)⟩
 ·rw [if_neg c2] at H
  have c2b0 : ((l0.length : Int) == 1) = false := beq_eq_false_iff_ne.mpr c2
  have c2b1 : ((l0.length : Int) != 1) = true := bne_iff_ne.mpr c2
  obtain rfl := Option.some.inj H
  go_enter Tryz.func64, Tryz.ntmps64
  go_wp2
  go_ret
  exact ⟨by first | rfl | (simp; done) | (simp [*]; done), by repeat (first | exact Drawn0.refl _ | apply Drawn0.step)⟩
def number_Check_1.f (l0 : List Int) : Option (Bool) := if (l0.length : Int) > 0 then (if 0 ≤ (wrap64 ((l0.length : Int) - 1)) then (if (wrap64 ((l0.length : Int) - 1)) < (l0.length : Int) then (some ((rd l0 (wrap64 ((l0.length : Int) - 1))) == 0)) else (none)) else (none)) else (some false)
set_option maxHeartbeats 8000000 in
set_option maxRecDepth 100000 in
theorem number_Check_1.calls (A0 : Option Addr) (c0 : Nat) (l0 : List Int) (r : Bool) (w : World) (hr0 : Kd.C (Kd.int .u32) w A0 l0.length l0) (hc0 : l0.length ≤ c0) (h : number_Check_1.f l0 = some r) :
  Calls Tryz.prog 89 #[.slice A0 l0.length c0] w fun e w' => e = .returned (.bool r) ∧ Drawn0 w w' := by
 have HR0 := am hr0
 have HC0 := am hc0
 clear hr0 hc0
 have H := h
 unfold number_Check_1.f at H
 clear h
 by_cases c2 : (l0.length : Int) > 0
 ·rw [if_pos c2] at H
  have c2b0 : decide (0 < (l0.length : Int)) = true := decide_eq_true c2
  have c2b1 : decide (0 < l0.length) = true := decide_eq_true (by omega)
  clear c2
  obtain ⟨ji3, hji3⟩ : ∃ j_ : Int, (wrap64 ((l0.length : Int) - 1)) = j_ := ⟨_, rfl⟩
  replace H : (if 0 ≤ (ji3) then (if (ji3) < (l0.length : Int) then (some ((rd l0 (ji3)) == 0)) else (none)) else (none)) = some r := by first | (rw [hji3] at H; exact H) | (simp only [hji3] at H ⊢; exact H)
  have hji3w : (IntKind.i64.wrap ((l0.length : Int) - 1)) = ji3 := (i64_w _).trans hji3
  replace H := zn H
  obtain ⟨c4, H⟩ := H
  have c4b0 := decide_eq_true c4
  clear c4
  replace H := zn H
  obtain ⟨c5, H⟩ := H
  have c5b0 := decide_eq_true c5
  clear c5
  obtain rfl := Option.some.inj H
  have p228 : 0 ≤ ((ji3) : Int) := zq6
  have q228 : (ji3) < (l0.length : Int) := zq6
  obtain ⟨ad228, e228, hx228_0⟩ := Kd.at_int HR0.out (ji3) p228 q228
  cases e228
  replace p228 := eq_true p228
  replace q228 := eq_true q228
  go_enter Tryz.func89, Tryz.ntmps89
  go_wp2
  go_ret
  exact ⟨by first | rfl | (simp; done) | (simp only [← hji3] <;> (first | rfl | simp)) | (simp [*]; done), by repeat (first | exact Drawn0.refl _ | apply Drawn0.step)⟩
 ·rw [if_neg c2] at H
  have c2b0 : decide (0 < (l0.length : Int)) = false := decide_eq_false c2
  have c2b1 : decide (0 < l0.length) = false := decide_eq_false (by omega)
  clear c2
  obtain rfl := Option.some.inj H
  go_enter Tryz.func89, Tryz.ntmps89
  go_wp2
  go_ret
  exact ⟨by first | rfl | (simp; done) | (simp [*]; done), by repeat (first | exact Drawn0.refl _ | apply Drawn0.step)⟩
mutual
def number_Check.j0 : Nat → Bool → Bool → List Int → List Int → Option (Int)
 | 0, _, _, _, _ => none
 | k + 1, x13, x230000, x230001, x230002 => if x13 = true then (some 3) else ((number_Check_1.f x230001).bind fun t230 => (if t230 = true then (number_Check.j1 k true x230000 x230001 x230002) else ((number_Check_1.f x230002).bind fun t231 => (if t231 = true then (number_Check.j1 k true x230000 x230001 x230002) else (number_Check.j1 k ((x230002.length : Int) == 0) x230000 x230001 x230002)))))
def number_Check.j1 : Nat → Bool → Bool → List Int → List Int → Option (Int)
 | 0, _, _, _, _ => none
 | k + 1, x14, x230000, x230001, x230002 => if x14 = true then (some 2) else (if (x230001.length : Int) = 0 then (if x230000 = true then (number_Check.j2 k true x230000 x230001 x230002) else ((nat_IsOne.f x230002).bind fun t232 => (number_Check.j2 k (!t232) x230000 x230001 x230002))) else (number_Check.j2 k false x230000 x230001 x230002))
def number_Check.j2 : Nat → Bool → Bool → List Int → List Int → Option (Int)
 | 0, _, _, _, _ => none
 | k + 1, x31, x230000, x230001, x230002 => if x31 = true then (some 2) else ((nat_IsOne.f x230002).bind fun t233 => (if t233 = true then (some 0) else ((nat_IsOne.f x230001).bind fun t234 => (if t234 = true then (some 0) else ((nat_Gcd.f k x230001 x230002).bind fun t235 => ((nat_IsOne.f t235).bind fun t238 => (if t238 = true then (some 0) else (some 2))))))))
end
def number_Check.f (k : Nat) (a0_0 : Bool) (l0_1 : List Int) (l0_2 : List Int) : Option (Int) := if (l0_1.length : Int) > 128 then (number_Check.j0 k true a0_0 l0_1 l0_2) else (number_Check.j0 k (decide ((l0_2.length : Int) > 128)) a0_0 l0_1 l0_2)
set_option maxHeartbeats 8000000 in
set_option maxRecDepth 100000 in
theorem number_Check.calls (k : Nat) (a0_0 : Bool) (A0_1 : Option Addr) (c0_1 : Nat) (l0_1 : List Int) (A0_2 : Option Addr) (c0_2 : Nat) (l0_2 : List Int) (r : Int) (w : World) (hr0_1 : Kd.C (Kd.int .u32) w A0_1 l0_1.length l0_1) (hc0_1 : l0_1.length ≤ c0_1) (hr0_2 : Kd.C (Kd.int .u32) w A0_2 l0_2.length l0_2) (hc0_2 : l0_2.length ≤ c0_2) (h : number_Check.f k a0_0 l0_1 l0_2 = some r) :
  Calls Tryz.prog 52 #[.agg #[.bool a0_0, .slice A0_1 l0_1.length c0_1, .slice A0_2 l0_2.length c0_2]] w fun e w' => e = .returned (.int .i64 r) ∧ Below w.heap.size w w' := by
 have hu24 := Tryz.underlying24
 have HR0_1 := am hr0_1
 have HC0_1 := am hc0_1
 clear hr0_1 hc0_1
 have HR0_2 := am hr0_2
 have HC0_2 := am hc0_2
 clear hr0_2 hc0_2
 have HB := am (Below.refl w.heap.size w)
 have H := h
 unfold number_Check.f at H
 clear h
 have HC2 := am H
 clear H
 go_enter Tryz.func52, Tryz.ntmps52
 go_upto_region 1 with (first | ((with_reducible refine gate_dst (N := 1) rfl ?_); (try (refine gate_guard (by rfl) ?_; dsimp only)); refine zbox (N := 1) (cs := #[.bool a0_0, .slice A0_1 l0_1.length c0_1, .slice A0_2 l0_2.length c0_2]) (t := 24) ?_; intro gb229 hg w3 hbox hb; refine zt3 (below_step zq1 hb) (hbox) ((zs hg (below_size zq1) : w.heap.size ≤ gb229)) ?_; clear HB; intro HB BK229 GW229; have GE229 := GW229; clear hb hbox hg))
 (try simp only [Act.put, List.setIfInBounds_toArray, List.set_cons_zero, List.set_cons_succ])
 go_cut [13] (fun v13 wc => ∃ (kq : Nat) (x13_1 : Bool), v13 = .bool x13_1 ∧ Aside0 (number_Check.j0 kq x13_1 a0_0 l0_1 l0_2 = some r) ∧ Aside0 (kq ≤ k) ∧ Aside0 (wc.heap[gb229]? = some (.cells #[.bool a0_0, (.slice A0_1 l0_1.length c0_1), (.slice A0_2 l0_2.length c0_2)] 24 (0, 0))) ∧ Aside0 (Below w.heap.size w wc))
 case first =>
  have H := HC2.out
  clear HC2
  by_cases c4 : (l0_1.length : Int) > 128
  ·rw [if_pos c4] at H
   have c4b0 : decide (128 < (l0_1.length : Int)) = true := decide_eq_true c4
   have c4b1 : decide (128 < l0_1.length) = true := decide_eq_true (by omega)
   clear c4
   (first | rw [c4b0] | (simp only [i64_w, i32_w]; rw [c4b0]) | skip)
   have H' := am H
   clear H
   have hcz5_0 := bc BK229.out 0 (.bool a0_0)
   have hcz5_1 := bc BK229.out 1 (.slice A0_1 l0_1.length c0_1)
   have hcz5_2 := bc BK229.out 2 (.slice A0_2 l0_2.length c0_2)
   have hfz5_0 := blk_frozen BK229.out 0
   have hfz5_1 := blk_frozen BK229.out 1
   have hfz5_2 := blk_frozen BK229.out 2
   go_wp2
   go_meet
   case rel => exact ⟨_, (true), zq8, H', ⟨by first | omega | exact Nat.le_refl _⟩, ⟨zq2 BK229.out⟩, ⟨zb1 GE229.out⟩⟩
  ·rw [if_neg c4] at H
   have c4b0 : decide (128 < (l0_1.length : Int)) = false := decide_eq_false c4
   have c4b1 : decide (128 < l0_1.length) = false := decide_eq_false (by omega)
   clear c4
   (first | rw [c4b0] | (simp only [i64_w, i32_w]; rw [c4b0]) | skip)
   have H' := am H
   clear H
   have hcz6_0 := bc BK229.out 0 (.bool a0_0)
   have hcz6_1 := bc BK229.out 1 (.slice A0_1 l0_1.length c0_1)
   have hcz6_2 := bc BK229.out 2 (.slice A0_2 l0_2.length c0_2)
   have hfz6_0 := blk_frozen BK229.out 0
   have hfz6_1 := blk_frozen BK229.out 1
   have hfz6_2 := blk_frozen BK229.out 2
   go_wp2
   go_meet
   case rel => exact ⟨_, (decide ((l0_2.length : Int) > 128)), zq8, H', ⟨by first | omega | exact Nat.le_refl _⟩, ⟨zq2 BK229.out⟩, ⟨zb1 GE229.out⟩⟩
 case rest =>
  clear HC2
  obtain ⟨kq, x13_1, rfl, HA, HJ1, BK229, HB⟩ := hcut
  cases kq with
  | zero => exact absurd HA.out (by simp [number_Check.j0])
  | succ kj1 =>
   have H := HA.out
   clear HA
   simp only [number_Check.j0] at H
   by_cases c7 : x13_1 = true
   ·subst c7
    have H1 : (some 3) = some r := by rw [if_pos rfl] at H; exact H
    clear H
    have H := H1
    clear H1
    obtain rfl := Option.some.inj H
    go_wp2
    go_ret
    exact ⟨zq9, zb1 GE229.out⟩
   ·replace c7 := Bool.eq_false_iff.mpr c7
    subst c7
    have H1 : ((number_Check_1.f l0_1).bind fun t230 => (if t230 = true then (number_Check.j1 kj1 true a0_0 l0_1 l0_2) else ((number_Check_1.f l0_2).bind fun t231 => (if t231 = true then (number_Check.j1 kj1 true a0_0 l0_1 l0_2) else (number_Check.j1 kj1 ((l0_2.length : Int) == 0) a0_0 l0_1 l0_2))))) = some r := by rw [if_neg (show ¬ (false = true) by decide)] at H; exact H
    clear H
    have H := H1
    clear H1
    have HC8 := am H
    clear H
    go_upto_region 4 with (fail)
    go_cut [14] (fun v14 wc => ∃ (kq : Nat) (x14_7 : Bool), v14 = .bool x14_7 ∧ Aside0 (number_Check.j1 kq x14_7 a0_0 l0_1 l0_2 = some r) ∧ Aside0 (kq ≤ kj1) ∧ Aside0 (wc.heap[gb229]? = some (.cells #[.bool a0_0, (.slice A0_1 l0_1.length c0_1), (.slice A0_2 l0_2.length c0_2)] 24 (0, 0))) ∧ Aside0 (Below w.heap.size w wc))
    case first =>
     have H := HC8.out
     clear HC8
     replace H := zj H
     obtain ⟨t230, A9, H⟩ := H
     by_cases c10 : t230 = true
     ·subst c10
      have H1 : (number_Check.j1 kj1 true a0_0 l0_1 l0_2) = some r := by rw [if_pos rfl] at H; exact H
      clear H
      have H := H1
      clear H1
      have H' := am H
      clear H
      have hcz11_0 := bc BK229.out 0 (.bool a0_0)
      have hcz11_1 := bc BK229.out 1 (.slice A0_1 l0_1.length c0_1)
      have hcz11_2 := bc BK229.out 2 (.slice A0_2 l0_2.length c0_2)
      have hfz11_0 := blk_frozen BK229.out 0
      have hfz11_1 := blk_frozen BK229.out 1
      have hfz11_2 := blk_frozen BK229.out 2
      go_wp2_with (first | (go_at_call 89; (with_reducible refine (number_Check_1.calls _ _ l0_1 true _ ?side1 ?side2 A9.out).mono ?_); (case side1 => exact zc (Kd.C_below HR0_1.out HB.out)); (case side2 => exact HC0_1.out); rintro e w' ⟨rfl, ⟨nd, rfl⟩⟩))
      go_meet
      case rel => exact ⟨_, (true), zq8, H', ⟨by have := HJ1.out; first | omega | exact Nat.le_refl _⟩, ⟨zq2 BK229.out⟩, ⟨zb1 GE229.out⟩⟩
     ·replace c10 := Bool.eq_false_iff.mpr c10
      subst c10
      have H1 : ((number_Check_1.f l0_2).bind fun t231 => (if t231 = true then (number_Check.j1 kj1 true a0_0 l0_1 l0_2) else (number_Check.j1 kj1 ((l0_2.length : Int) == 0) a0_0 l0_1 l0_2))) = some r := by rw [if_neg (show ¬ (false = true) by decide)] at H; exact H
      clear H
      have H := H1
      clear H1
      replace H := zj H
      obtain ⟨t231, A12, H⟩ := H
      by_cases c13 : t231 = true
      ·subst c13
       have H1 : (number_Check.j1 kj1 true a0_0 l0_1 l0_2) = some r := by rw [if_pos rfl] at H; exact H
       clear H
       have H := H1
       clear H1
       have H' := am H
       clear H
       have hcz14_0 := bc BK229.out 0 (.bool a0_0)
       have hcz14_1 := bc BK229.out 1 (.slice A0_1 l0_1.length c0_1)
       have hcz14_2 := bc BK229.out 2 (.slice A0_2 l0_2.length c0_2)
       have hfz14_0 := blk_frozen BK229.out 0
       have hfz14_1 := blk_frozen BK229.out 1
       have hfz14_2 := blk_frozen BK229.out 2
       go_wp2_with (first | (go_at_call 89; (with_reducible refine (number_Check_1.calls _ _ l0_1 false _ ?side1 ?side2 A9.out).mono ?_); (case side1 => exact zc (Kd.C_below HR0_1.out HB.out)); (case side2 => exact HC0_1.out); rintro e w' ⟨rfl, ⟨nd, rfl⟩⟩) | (go_at_call 89; (with_reducible refine (number_Check_1.calls _ _ l0_2 true _ ?side1 ?side2 A12.out).mono ?_); (case side1 => exact zc (Kd.C_below HR0_2.out (zb1 GE229.out))); (case side2 => exact HC0_2.out); rintro e w' ⟨rfl, ⟨nd, rfl⟩⟩))
       go_meet
       case rel => exact ⟨_, (true), zq8, H', ⟨by have := HJ1.out; first | omega | exact Nat.le_refl _⟩, ⟨zq2 BK229.out⟩, ⟨zb1 GE229.out⟩⟩
      ·replace c13 := Bool.eq_false_iff.mpr c13
       subst c13
       have H1 : (number_Check.j1 kj1 ((l0_2.length : Int) == 0) a0_0 l0_1 l0_2) = some r := by rw [if_neg (show ¬ (false = true) by decide)] at H; exact H
       clear H
       have H := H1
       clear H1
       have H' := am H
       clear H
       have hcz15_0 := bc BK229.out 0 (.bool a0_0)
       have hcz15_1 := bc BK229.out 1 (.slice A0_1 l0_1.length c0_1)
       have hcz15_2 := bc BK229.out 2 (.slice A0_2 l0_2.length c0_2)
       have hfz15_0 := blk_frozen BK229.out 0
       have hfz15_1 := blk_frozen BK229.out 1
       have hfz15_2 := blk_frozen BK229.out 2
       go_wp2_with (first | (go_at_call 89; (with_reducible refine (number_Check_1.calls _ _ l0_1 false _ ?side1 ?side2 A9.out).mono ?_); (case side1 => exact zc (Kd.C_below HR0_1.out HB.out)); (case side2 => exact HC0_1.out); rintro e w' ⟨rfl, ⟨nd, rfl⟩⟩) | (go_at_call 89; (with_reducible refine (number_Check_1.calls _ _ l0_2 false _ ?side1 ?side2 A12.out).mono ?_); (case side1 => exact zc (Kd.C_below HR0_2.out (zb1 GE229.out))); (case side2 => exact HC0_2.out); rintro e w' ⟨rfl, ⟨nd, rfl⟩⟩))
       go_meet
       case rel => exact ⟨_, (((l0_2.length : Int) == 0)), zq8, H', ⟨by have := HJ1.out; first | omega | exact Nat.le_refl _⟩, ⟨zq2 BK229.out⟩, ⟨zb1 GE229.out⟩⟩
    case rest =>
     clear HC8
     obtain ⟨kq, x14_7, rfl, HA, HJ7, BK229, HB⟩ := hcut
     cases kq with
     | zero => exact absurd HA.out (by simp [number_Check.j1])
     | succ kj7 =>
      have H := HA.out
      clear HA
      simp only [number_Check.j1] at H
      by_cases c16 : x14_7 = true
      ·subst c16
       have H1 : (some 2) = some r := by rw [if_pos rfl] at H; exact H
       clear H
       have H := H1
       clear H1
       obtain rfl := Option.some.inj H
       go_wp2
       go_ret
       exact ⟨zq9, zb1 GE229.out⟩
      ·replace c16 := Bool.eq_false_iff.mpr c16
       subst c16
       have H1 : (if (l0_1.length : Int) = 0 then (if a0_0 = true then (number_Check.j2 kj7 true a0_0 l0_1 l0_2) else ((nat_IsOne.f l0_2).bind fun t232 => (number_Check.j2 kj7 (!t232) a0_0 l0_1 l0_2))) else (number_Check.j2 kj7 false a0_0 l0_1 l0_2)) = some r := by rw [if_neg (show ¬ (false = true) by decide)] at H; exact H
       clear H
       have H := H1
       clear H1
       have HC17 := am H
       clear H
       go_upto_region 6 with (fail)
       go_cut [31] (fun v31 wc => ∃ (kq : Nat) (x31_16 : Bool), v31 = .bool x31_16 ∧ Aside0 (number_Check.j2 kq x31_16 a0_0 l0_1 l0_2 = some r) ∧ Aside0 (kq ≤ kj7) ∧ Aside0 (wc.heap[gb229]? = some (.cells #[.bool a0_0, (.slice A0_1 l0_1.length c0_1), (.slice A0_2 l0_2.length c0_2)] 24 (0, 0))) ∧ Aside0 (Below w.heap.size w wc))
       case first =>
        have H := HC17.out
        clear HC17
        by_cases c18 : (l0_1.length : Int) = 0
        ·rw [if_pos c18] at H
         have c18b0 : ((l0_1.length : Int) == 0) = true := beq_iff_eq.mpr c18
         have c18b1 : ((l0_1.length : Int) != 0) = false := bne_eq_false_iff_eq.mpr c18
         clear c18
         (first | rw [c18b0] | (simp only [i64_w, i32_w]; rw [c18b0]) | skip)
         by_cases c19 : a0_0 = true
         ·subst c19
          have H1 : (number_Check.j2 kj7 true true l0_1 l0_2) = some r := by rw [if_pos rfl] at H; exact H
          clear H
          have H := H1
          clear H1
          have H' := am H
          clear H
          have hcz20_0 := bc BK229.out 0 (.bool true)
          have hcz20_1 := bc BK229.out 1 (.slice A0_1 l0_1.length c0_1)
          have hcz20_2 := bc BK229.out 2 (.slice A0_2 l0_2.length c0_2)
          have hfz20_0 := blk_frozen BK229.out 0
          have hfz20_1 := blk_frozen BK229.out 1
          have hfz20_2 := blk_frozen BK229.out 2
          go_wp2
          go_meet
          case rel => exact ⟨_, (true), zq8, H', ⟨by have := HJ1.out; have := HJ7.out; first | omega | exact Nat.le_refl _⟩, ⟨zq2 BK229.out⟩, ⟨zb1 GE229.out⟩⟩
         ·replace c19 := Bool.eq_false_iff.mpr c19
          subst c19
          have H1 : ((nat_IsOne.f l0_2).bind fun t232 => (number_Check.j2 kj7 (!t232) false l0_1 l0_2)) = some r := by rw [if_neg (show ¬ (false = true) by decide)] at H; exact H
          clear H
          have H := H1
          clear H1
          replace H := zj H
          obtain ⟨t232, A21, H⟩ := H
          have H' := am H
          clear H
          have hcz22_0 := bc BK229.out 0 (.bool false)
          have hcz22_1 := bc BK229.out 1 (.slice A0_1 l0_1.length c0_1)
          have hcz22_2 := bc BK229.out 2 (.slice A0_2 l0_2.length c0_2)
          have hfz22_0 := blk_frozen BK229.out 0
          have hfz22_1 := blk_frozen BK229.out 1
          have hfz22_2 := blk_frozen BK229.out 2
          go_wp2_with (first | (go_at_call 64; (with_reducible refine (nat_IsOne.calls _ _ l0_2 t232 _ ?side1 ?side2 A21.out).mono ?_); (case side1 => exact zc (Kd.C_below HR0_2.out HB.out)); (case side2 => exact HC0_2.out); rintro e w' ⟨rfl, ⟨nd, rfl⟩⟩))
          go_meet
          case rel => exact ⟨_, (!t232), zq8, H', ⟨by have := HJ1.out; have := HJ7.out; first | omega | exact Nat.le_refl _⟩, ⟨zq2 BK229.out⟩, ⟨zb1 GE229.out⟩⟩
        ·rw [if_neg c18] at H
         have c18b0 : ((l0_1.length : Int) == 0) = false := beq_eq_false_iff_ne.mpr c18
         have c18b1 : ((l0_1.length : Int) != 0) = true := bne_iff_ne.mpr c18
         have c18b2 : ¬ (l0_1 = []) := fun h_ => c18 (by rw [h_]; rfl)
         (first | rw [c18b0] | (simp only [i64_w, i32_w]; rw [c18b0]) | skip)
         have H' := am H
         clear H
         have hcz23_0 := bc BK229.out 0 (.bool a0_0)
         have hcz23_1 := bc BK229.out 1 (.slice A0_1 l0_1.length c0_1)
         have hcz23_2 := bc BK229.out 2 (.slice A0_2 l0_2.length c0_2)
         have hfz23_0 := blk_frozen BK229.out 0
         have hfz23_1 := blk_frozen BK229.out 1
         have hfz23_2 := blk_frozen BK229.out 2
         go_wp2
         go_meet
         case rel => exact ⟨_, (false), zq8, H', ⟨by have := HJ1.out; have := HJ7.out; first | omega | exact Nat.le_refl _⟩, ⟨zq2 BK229.out⟩, ⟨zb1 GE229.out⟩⟩
       case rest =>
        clear HC17
        obtain ⟨kq, x31_16, rfl, HA, HJ16, BK229, HB⟩ := hcut
        cases kq with
        | zero => exact absurd HA.out (by simp [number_Check.j2])
        | succ kj16 =>
         have H := HA.out
         clear HA
         simp only [number_Check.j2] at H
         by_cases c24 : x31_16 = true
         ·subst c24
          have H1 : (some 2) = some r := by rw [if_pos rfl] at H; exact H
          clear H
          have H := H1
          clear H1
          obtain rfl := Option.some.inj H
          go_wp2
          go_ret
          exact ⟨zq9, zb1 GE229.out⟩
         ·replace c24 := Bool.eq_false_iff.mpr c24
          subst c24
          have H1 : ((nat_IsOne.f l0_2).bind fun t233 => (if t233 = true then (some 0) else ((nat_IsOne.f l0_1).bind fun t234 => (if t234 = true then (some 0) else ((nat_Gcd.f kj16 l0_1 l0_2).bind fun t235 => ((nat_IsOne.f t235).bind fun t238 => (if t238 = true then (some 0) else (some 2)))))))) = some r := by rw [if_neg (show ¬ (false = true) by decide)] at H; exact H
          clear H
          have H := H1
          clear H1
          replace H := zj H
          obtain ⟨t233, A25, H⟩ := H
          by_cases c26 : t233 = true
          ·subst c26
           have H1 : (some 0) = some r := by rw [if_pos rfl] at H; exact H
           clear H
           have H := H1
           clear H1
           obtain rfl := Option.some.inj H
           have hcz27_0 := bc BK229.out 0 (.bool a0_0)
           have hcz27_1 := bc BK229.out 1 (.slice A0_1 l0_1.length c0_1)
           have hcz27_2 := bc BK229.out 2 (.slice A0_2 l0_2.length c0_2)
           have hfz27_0 := blk_frozen BK229.out 0
           have hfz27_1 := blk_frozen BK229.out 1
           have hfz27_2 := blk_frozen BK229.out 2
           go_wp2_with (first | ((with_reducible refine gate_callee (f := 64) rfl ?_); refine goesL_ (some 49) rfl rfl Tryz.func64 (by kernel_rfl) rfl #[.slice A0_2 l0_2.length c0_2] rfl zq5 ?_; (with_reducible refine (nat_IsOne.calls _ _ l0_2 true _ ?side1 ?side2 A25.out).mono ?_); (case side1 => exact zc (Kd.C_below HR0_2.out HB.out)); (case side2 => exact HC0_2.out); rintro e w' ⟨rfl, ⟨nd, rfl⟩⟩; refine ⟨_, rfl, ?_⟩))
           go_ret
           exact ⟨zq9, zb1 GE229.out⟩
          ·replace c26 := Bool.eq_false_iff.mpr c26
           subst c26
           have H1 : ((nat_IsOne.f l0_1).bind fun t234 => (if t234 = true then (some 0) else ((nat_Gcd.f kj16 l0_1 l0_2).bind fun t235 => ((nat_IsOne.f t235).bind fun t238 => (if t238 = true then (some 0) else (some 2)))))) = some r := by rw [if_neg (show ¬ (false = true) by decide)] at H; exact H
           clear H
           have H := H1
           clear H1
           replace H := zj H
           obtain ⟨t234, A28, H⟩ := H
           by_cases c29 : t234 = true
           ·subst c29
            have H1 : (some 0) = some r := by rw [if_pos rfl] at H; exact H
            clear H
            have H := H1
            clear H1
            obtain rfl := Option.some.inj H
            have hcz30_0 := bc BK229.out 0 (.bool a0_0)
            have hcz30_1 := bc BK229.out 1 (.slice A0_1 l0_1.length c0_1)
            have hcz30_2 := bc BK229.out 2 (.slice A0_2 l0_2.length c0_2)
            have hfz30_0 := blk_frozen BK229.out 0
            have hfz30_1 := blk_frozen BK229.out 1
            have hfz30_2 := blk_frozen BK229.out 2
            go_wp2_with (first | ((with_reducible refine gate_callee (f := 64) rfl ?_); refine goesL_ (some 49) rfl rfl Tryz.func64 (by kernel_rfl) rfl #[.slice A0_2 l0_2.length c0_2] rfl zq5 ?_; (with_reducible refine (nat_IsOne.calls _ _ l0_2 false _ ?side1 ?side2 A25.out).mono ?_); (case side1 => exact zc (Kd.C_below HR0_2.out HB.out)); (case side2 => exact HC0_2.out); rintro e w' ⟨rfl, ⟨nd, rfl⟩⟩; refine ⟨_, rfl, ?_⟩) | (go_at_call 64; (with_reducible refine (nat_IsOne.calls _ _ l0_1 true _ ?side1 ?side2 A28.out).mono ?_); (case side1 => exact zc (Kd.C_below HR0_1.out (zb1 GE229.out))); (case side2 => exact HC0_1.out); rintro e w' ⟨rfl, ⟨nd, rfl⟩⟩))
            go_ret
            exact ⟨zq9, zb1 GE229.out⟩
           ·replace c29 := Bool.eq_false_iff.mpr c29
            subst c29
            have H1 : ((nat_Gcd.f kj16 l0_1 l0_2).bind fun t235 => ((nat_IsOne.f t235).bind fun t238 => (if t238 = true then (some 0) else (some 2)))) = some r := by rw [if_neg (show ¬ (false = true) by decide)] at H; exact H
            clear H
            have H := H1
            clear H1
            replace H := zj H
            obtain ⟨t235, A31, H⟩ := H
            replace H := zj H
            obtain ⟨t238, A32, H⟩ := H
            by_cases c33 : t238 = true
            ·subst c33
             have H1 : (some 0) = some r := by rw [if_pos rfl] at H; exact H
             clear H
             have H := H1
             clear H1
             obtain rfl := Option.some.inj H
             have hcz34_0 := bc BK229.out 0 (.bool a0_0)
             have hcz34_1 := bc BK229.out 1 (.slice A0_1 l0_1.length c0_1)
             have hcz34_2 := bc BK229.out 2 (.slice A0_2 l0_2.length c0_2)
             have hfz34_0 := blk_frozen BK229.out 0
             have hfz34_1 := blk_frozen BK229.out 1
             have hfz34_2 := blk_frozen BK229.out 2
             go_wp2_with (first | ((with_reducible refine gate_callee (f := 64) rfl ?_); refine goesL_ (some 49) rfl rfl Tryz.func64 (by kernel_rfl) rfl #[.slice A0_2 l0_2.length c0_2] rfl zq5 ?_; (with_reducible refine (nat_IsOne.calls _ _ l0_2 false _ ?side1 ?side2 A25.out).mono ?_); (case side1 => exact zc (Kd.C_below HR0_2.out HB.out)); (case side2 => exact HC0_2.out); rintro e w' ⟨rfl, ⟨nd, rfl⟩⟩; refine ⟨_, rfl, ?_⟩) | (go_at_call 64; (with_reducible refine (nat_IsOne.calls _ _ l0_1 false _ ?side1 ?side2 A28.out).mono ?_); (case side1 => exact zc (Kd.C_below HR0_1.out (zb1 GE229.out))); (case side2 => exact HC0_1.out); rintro e w' ⟨rfl, ⟨nd, rfl⟩⟩) | (go_at_call 51; (with_reducible refine (nat_Gcd.calls kj16 (fun k_ => k_ < w.heap.size) _ _ l0_1 (fun k_ => k_ < w.heap.size) _ _ l0_2 t235 _ ?side1 ?side2 A31.out).mono ?_); (case side1 => exact Kd.V_mk HC0_1.out (Kd.F_below (Kd.C_F (Kd.heap_int .u32) HR0_1.out) (zb1 GE229.out))); (case side2 => exact Kd.V_mk HC0_2.out (Kd.F_below (Kd.C_F (Kd.heap_int .u32) HR0_2.out) (zb1 GE229.out))); rintro e w35 ⟨v236, rfl, ho0, hb⟩; refine zt3 (Kd.R_lower (Kd.R_mono (ok' := fun k_ => True) ho0 (fun _ hk_ => trivial)) (below_size (zb1 GE229.out))) (bb BK229.out hb) (below_step (zb1 GE229.out) hb) ?_; clear BK229 HB; intro HO237 BK229 HB; obtain ⟨Ao36, co36, eo36⟩ := Kd.R_slice HO237.out; subst eo36) | (go_at_call 64; (with_reducible refine (nat_IsOne.calls _ _ t235 true _ ?side1 ?side2 A32.out).mono ?_); (case side1 => exact zc ((Kd.R_reads' HO237.out).2.2)); (case side2 => exact (Kd.R_reads' HO237.out).2.1); rintro e w' ⟨rfl, ⟨nd, rfl⟩⟩))
             go_ret
             exact ⟨zq9, zb1 GE229.out⟩
            ·replace c33 := Bool.eq_false_iff.mpr c33
             subst c33
             have H1 : (some 2) = some r := by rw [if_neg (show ¬ (false = true) by decide)] at H; exact H
             clear H
             have H := H1
             clear H1
             obtain rfl := Option.some.inj H
             have hcz37_0 := bc BK229.out 0 (.bool a0_0)
             have hcz37_1 := bc BK229.out 1 (.slice A0_1 l0_1.length c0_1)
             have hcz37_2 := bc BK229.out 2 (.slice A0_2 l0_2.length c0_2)
             have hfz37_0 := blk_frozen BK229.out 0
             have hfz37_1 := blk_frozen BK229.out 1
             have hfz37_2 := blk_frozen BK229.out 2
             go_wp2_with (first | ((with_reducible refine gate_callee (f := 64) rfl ?_); refine goesL_ (some 49) rfl rfl Tryz.func64 (by kernel_rfl) rfl #[.slice A0_2 l0_2.length c0_2] rfl zq5 ?_; (with_reducible refine (nat_IsOne.calls _ _ l0_2 false _ ?side1 ?side2 A25.out).mono ?_); (case side1 => exact zc (Kd.C_below HR0_2.out HB.out)); (case side2 => exact HC0_2.out); rintro e w' ⟨rfl, ⟨nd, rfl⟩⟩; refine ⟨_, rfl, ?_⟩) | (go_at_call 64; (with_reducible refine (nat_IsOne.calls _ _ l0_1 false _ ?side1 ?side2 A28.out).mono ?_); (case side1 => exact zc (Kd.C_below HR0_1.out (zb1 GE229.out))); (case side2 => exact HC0_1.out); rintro e w' ⟨rfl, ⟨nd, rfl⟩⟩) | (go_at_call 51; (with_reducible refine (nat_Gcd.calls kj16 (fun k_ => k_ < w.heap.size) _ _ l0_1 (fun k_ => k_ < w.heap.size) _ _ l0_2 t235 _ ?side1 ?side2 A31.out).mono ?_); (case side1 => exact Kd.V_mk HC0_1.out (Kd.F_below (Kd.C_F (Kd.heap_int .u32) HR0_1.out) (zb1 GE229.out))); (case side2 => exact Kd.V_mk HC0_2.out (Kd.F_below (Kd.C_F (Kd.heap_int .u32) HR0_2.out) (zb1 GE229.out))); rintro e w38 ⟨v236, rfl, ho0, hb⟩; refine zt3 (Kd.R_lower (Kd.R_mono (ok' := fun k_ => True) ho0 (fun _ hk_ => trivial)) (below_size (zb1 GE229.out))) (bb BK229.out hb) (below_step (zb1 GE229.out) hb) ?_; clear BK229 HB; intro HO237 BK229 HB; obtain ⟨Ao39, co39, eo39⟩ := Kd.R_slice HO237.out; subst eo39) | (go_at_call 64; (with_reducible refine (nat_IsOne.calls _ _ t235 false _ ?side1 ?side2 A32.out).mono ?_); (case side1 => exact zc ((Kd.R_reads' HO237.out).2.2)); (case side2 => exact (Kd.R_reads' HO237.out).2.1); rintro e w' ⟨rfl, ⟨nd, rfl⟩⟩))
             go_ret
             exact ⟨zq9, zb1 GE229.out⟩
mutual
def nat_Mul.l0 : Nat → List Int → List Int → List Int → Int → Int → Option (List Int)
 | 0, _, _, _, _, _ => none
 | k + 1, x1, x5, x17, x18, x19 => if x19 < x18 then (if 0 ≤ x19 then (if x19 < (x17.length : Int) then (nat_Mul.l1 k x1 x5 x19 (rd x17 x19) 0 x17 x18 x19 x1 (x1.length : Int) 0) else (none)) else (none)) else ((nat_Trim.f k x5).bind fun t315 => (some t315))
def nat_Mul.l1 : Nat → List Int → List Int → Int → Int → Int → List Int → Int → Int → List Int → Int → Int → Option (List Int)
 | 0, _, _, _, _, _, _, _, _, _, _, _ => none
 | k + 1, x1, x5, x6, x7, x8, x17, x18, x19, x24, x25, x26 => if x26 < x25 then (if 0 ≤ x26 then (if x26 < (x24.length : Int) then (if 0 ≤ (wrap64 (x6 + x26)) then (if (wrap64 (x6 + x26)) < (x5.length : Int) then (nat_Mul.l1 k x1 (x5.set ((wrap64 (x6 + x26)) : Int).toNat ((IntKind.u64.wrap (x8 + (IntKind.u64.wrap ((IntKind.u64.wrap ((IntKind.u64.wrap (x7)) * (IntKind.u64.wrap (rd x24 x26)))) + (IntKind.u64.wrap (rd x5 (wrap64 (x6 + x26)))))))) % 4294967296)) x6 x7 ((IntKind.u64.wrap (x8 + (IntKind.u64.wrap ((IntKind.u64.wrap ((IntKind.u64.wrap (x7)) * (IntKind.u64.wrap (rd x24 x26)))) + (IntKind.u64.wrap (rd x5 (wrap64 (x6 + x26)))))))) / 4294967296) x17 x18 x19 x24 x25 (wrap64 (x26 + 1))) else (none)) else (none)) else (none)) else (none)) else (if 0 ≤ (wrap64 (x6 + (x1.length : Int))) then (if (wrap64 (x6 + (x1.length : Int))) < (x5.length : Int) then (nat_Mul.l0 k x1 (x5.set ((wrap64 (x6 + (x1.length : Int))) : Int).toNat ((x8) % 4294967296)) x17 x18 (wrap64 (x19 + 1))) else (none)) else (none))
end
def nat_Mul.f (k : Nat) (l0 : List Int) (l1 : List Int) : Option (List Int) := if 0 ≤ (wrap64 ((l0.length : Int) + (l1.length : Int))) then (if (wrap64 ((l0.length : Int) + (l1.length : Int)) : Int).toNat ≤ 70368744177664 then (nat_Mul.l0 k l1 (List.replicate (wrap64 ((l0.length : Int) + (l1.length : Int)) : Int).toNat 0) l0 (l0.length : Int) 0) else (none)) else (none)
set_option maxHeartbeats 8000000 in
set_option maxRecDepth 100000 in
theorem nat_Mul.calls (k : Nat) (A0 : Option Addr) (c0 : Nat) (l0 : List Int) (A1 : Option Addr) (c1 : Nat) (l1 : List Int) (r : List Int) (w : World) (hr0 : Kd.C (Kd.int .u32) w A0 l0.length l0) (hc0 : l0.length ≤ c0) (hr1 : Kd.C (Kd.int .u32) w A1 l1.length l1) (hc1 : l1.length ≤ c1) (h : nat_Mul.f k l0 l1 = some r) :
  Calls Tryz.prog 30 #[.slice A0 l0.length c0, .slice A1 l1.length c1] w fun e w' => ∃ v0_ : Value, e = .returned (v0_) ∧ Kd.V (Kd.int .u32) 73 w' w.heap.size (fun k_ => (w.heap.size ≤ k_)) v0_ r ∧ Below w.heap.size w w' := by
 have HR0 := am hr0
 have HC0 := am hc0
 clear hr0 hc0
 have HR1 := am hr1
 have HC1 := am hc1
 clear hr1 hc1
 have HB := am (Below.refl w.heap.size w)
 have H := h
 unfold nat_Mul.f at H
 clear h
 obtain ⟨ji3, hji3⟩ : ∃ j_ : Int, (wrap64 ((l0.length : Int) + (l1.length : Int))) = j_ := ⟨_, rfl⟩
 replace H : (if 0 ≤ (ji3) then (if (ji3 : Int).toNat ≤ 70368744177664 then (nat_Mul.l0 k l1 (List.replicate (ji3 : Int).toNat 0) l0 (l0.length : Int) 0) else (none)) else (none)) = some r := by first | (rw [hji3] at H; exact H) | (simp only [hji3] at H ⊢; exact H)
 have hji3w : (IntKind.i64.wrap ((l0.length : Int) + (l1.length : Int))) = ji3 := (i64_w _).trans hji3
 replace H := zn H
 obtain ⟨c4, H⟩ := H
 have c4b0 := eq_true c4
 have c4b1 := decide_eq_true c4
 clear c4
 replace H := zn H
 obtain ⟨c5, H⟩ := H
 have c5b0 := eq_true c5
 have c5b1 := decide_eq_true c5
 clear c5
 obtain ⟨y312, hy312⟩ : ∃ y_ : List Int, y_ = (List.replicate (ji3 : Int).toNat 0) := ⟨_, rfl⟩
 try rw [← hy312] at H
 have Ny312 := am hy312
 clear hy312
 have H' := am H
 clear H
 go_enter Tryz.func30, Tryz.ntmps30
 go_wp2_with (first | ((with_reducible refine gate_dst (N := 16) rfl ?_); refine Kd.R_make (Kd.int .u32) _ 73 rfl (N := 16) rfl 22 _ _ rfl ji3 rfl rfl Tryz.underlying22 (.int .u32 0) 4 info73 rfl (by decide) (by omega) 0 (ok := fun _ => True) (okp := fun _ => True) rfl (fun _ hk => hk) trivial zq6 (Nat.le_trans (Nat.mul_le_mul_right _ (zq6 : ji3.toNat ≤ 70368744177664)) (by omega)) (Below.refl _ _) (Nat.le_refl _) ?_; intro v313 w6 ho7 hb hg_ hnew_; clear hg_ hnew_; (first | rw [← Ny312.out] at ho7 | (simp only [Int.reduceToNat] at ho7; rw [← Ny312.out] at ho7)); refine zt2 (Kd.R_lower (Kd.R_newM (M := fun k_ => (w.heap.size ≤ k_)) ho7 (below_size zq1) (fun k_ h_ => h_)) (below_size zq1)) (below_step zq1 hb) ?_; clear HB; intro HO314 HB; clear hb ho7))
 go_loopg [19] k (fun kq v19 w' => ∃ (x5_1 : List Int) (x19_1 : Int), v19 = .int .i64 x19_1 ∧ Aside0 (nat_Mul.l0 kq l1 x5_1 l0 (l0.length : Int) x19_1 = some r) ∧ Aside0 (kq ≤ k) ∧ Aside0 (Kd.R (Kd.int .u32) 73 w' w.heap.size (fun k_ => (w.heap.size ≤ k_)) v313 x5_1) ∧ Aside0 (Below w.heap.size w w'))
 case atStart => exact ⟨(y312), (0), zq8, H', ⟨Nat.le_refl _⟩, ⟨zwR (h := by exact Kd.R_mono HO314.out (fun _ hk => hk.1))⟩, ⟨zq1⟩⟩
 case round =>
  clear H'
  obtain ⟨x5_1, x19_1, rfl, HA, HK1, HO_5, HB⟩ := hrel
  cases gk with
  | zero => exact absurd HA.out (by simp [nat_Mul.l0])
  | succ k1 =>
   have H := HA.out
   clear HA
   simp only [nat_Mul.l0] at H
   by_cases c8 : x19_1 < (l0.length : Int)
   ·rw [if_pos c8] at H
    have c8b0 := decide_eq_true c8
    clear c8
    replace H := zn H
    obtain ⟨c9, H⟩ := H
    have c9b0 := decide_eq_true c9
    clear c9
    replace H := zn H
    obtain ⟨c10, H⟩ := H
    have c10b0 := decide_eq_true c10
    clear c10
    have H' := am H
    clear H
    have p318 : 0 ≤ (x19_1 : Int) := zq6
    have q318 : x19_1 < (l0.length : Int) := zq6
    obtain ⟨ad318, e318, hx318_0⟩ := Kd.at_int HR0.out x19_1 p318 q318
    cases e318
    replace hx318_0 := (HB.out.cell (World.block_lt_of_cell? w _ hx318_0)).trans hx318_0
    replace p318 := eq_true p318
    replace q318 := eq_true q318
    go_wp2
    go_loopg [8, 26] k1 (fun kq v8 v26 w' => ∃ (x5_2 : List Int) (x8_2 : Int) (x26_2 : Int), v8 = .int .u64 x8_2 ∧ v26 = .int .i64 x26_2 ∧ Aside0 (nat_Mul.l1 kq l1 x5_2 x19_1 (rd l0 x19_1) x8_2 l0 (l0.length : Int) x19_1 l1 (l1.length : Int) x26_2 = some r) ∧ Aside0 (kq ≤ k1) ∧ Aside0 (Kd.R (Kd.int .u32) 73 w' w.heap.size (fun k_ => (w.heap.size ≤ k_)) v313 x5_2) ∧ Aside0 (Below w.heap.size w w'))
    case atStart => exact ⟨(x5_1), (0), (0), zq8, zq8, H', ⟨Nat.le_refl _⟩, ⟨zq4 HO_5.out⟩, ⟨zq1⟩⟩
    case round =>
     clear H'
     obtain ⟨x5_2, x8_2, x26_2, rfl, rfl, HA, HK2, HO_5, HB⟩ := hrel
     cases gk with
     | zero => exact absurd HA.out (by simp [nat_Mul.l1])
     | succ k2 =>
      have H := HA.out
      clear HA
      simp only [nat_Mul.l1] at H
      by_cases c11 : x26_2 < (l1.length : Int)
      ·rw [if_pos c11] at H
       have c11b0 := decide_eq_true c11
       clear c11
       replace H := zn H
       obtain ⟨c12, H⟩ := H
       have c12b0 := decide_eq_true c12
       clear c12
       replace H := zn H
       obtain ⟨c13, H⟩ := H
       have c13b0 := decide_eq_true c13
       clear c13
       obtain ⟨ji14, hji14⟩ : ∃ j_ : Int, (wrap64 (x19_1 + x26_2)) = j_ := ⟨_, rfl⟩
       replace H : (if 0 ≤ (ji14) then (if (ji14) < (x5_2.length : Int) then (nat_Mul.l1 k2 l1 (x5_2.set ((ji14) : Int).toNat ((IntKind.u64.wrap (x8_2 + (IntKind.u64.wrap ((IntKind.u64.wrap ((IntKind.u64.wrap ((rd l0 x19_1))) * (IntKind.u64.wrap (rd l1 x26_2)))) + (IntKind.u64.wrap (rd x5_2 (ji14))))))) % 4294967296)) x19_1 (rd l0 x19_1) ((IntKind.u64.wrap (x8_2 + (IntKind.u64.wrap ((IntKind.u64.wrap ((IntKind.u64.wrap ((rd l0 x19_1))) * (IntKind.u64.wrap (rd l1 x26_2)))) + (IntKind.u64.wrap (rd x5_2 (ji14))))))) / 4294967296) l0 (l0.length : Int) x19_1 l1 (l1.length : Int) (wrap64 (x26_2 + 1))) else (none)) else (none)) = some r := by first | (rw [hji14] at H; exact H) | (simp only [hji14] at H ⊢; exact H)
       have hji14w : (IntKind.i64.wrap (x19_1 + x26_2)) = ji14 := (i64_w _).trans hji14
       replace H := zn H
       obtain ⟨c15, H⟩ := H
       have c15b0 := decide_eq_true c15
       clear c15
       replace H := zn H
       obtain ⟨c16, H⟩ := H
       have c16b0 := decide_eq_true c16
       clear c16
       obtain ⟨y321, hy321⟩ : ∃ y_ : List Int, y_ = (x5_2.set ((ji14) : Int).toNat ((IntKind.u64.wrap (x8_2 + (IntKind.u64.wrap ((IntKind.u64.wrap ((IntKind.u64.wrap ((rd l0 x19_1))) * (IntKind.u64.wrap (rd l1 x26_2)))) + (IntKind.u64.wrap (rd x5_2 (ji14))))))) % 4294967296)) := ⟨_, rfl⟩
       try rw [← hy321] at H
       have Ny321 := am hy321
       clear hy321
       have H' := am H
       clear H
       have p319 : 0 ≤ (x26_2 : Int) := zq6
       have q319 : x26_2 < (l1.length : Int) := zq6
       obtain ⟨ad319, e319, hx319_0⟩ := Kd.at_int HR1.out x26_2 p319 q319
       cases e319
       replace hx319_0 := (HB.out.cell (World.block_lt_of_cell? w _ hx319_0)).trans hx319_0
       replace p319 := eq_true p319
       replace q319 := eq_true q319
       obtain ⟨Ao18, co18, eo18⟩ := Kd.R_slice HO_5.out
       subst eo18
       have p320 : 0 ≤ ((ji14) : Int) := zq6
       have q320 : (ji14) < (x5_2.length : Int) := zq6
       obtain ⟨ad320, e320, hx320_0⟩ := Kd.at_int (Kd.R_reads' HO_5.out).2.2 (ji14) p320 q320
       cases e320
       replace p320 := eq_true p320
       replace q320 := eq_true q320
       have p17 : 0 ≤ ((ji14) : Int) := zq6
       have q17 : ((ji14) : Int) < ((x5_2.length : Int) : Int) := zq6
       obtain ⟨go17, co17, eo17, gb17, gl17, cl17, HG17⟩ := Kd.R_form HO_5.out (by omega)
       (first | cases eo17 | (injection eo17 with ea_ en_ ec_; (first | subst ea_ | (injection ea_ with ea_; subst ea_)); subst ec_; clear en_))
       have GB17 := am gb17
       have GG17 := am HG17
       clear gb17 gl17 HG17
       (first | simp only [add_plain] at hx320_0 | skip)
       obtain ⟨hx17_0, hf17_0⟩ := Kd.R_celln 0 HO_5.out ((ji14) : Int) p17 q17
       replace p17 := eq_true p17
       replace q17 := eq_true q17
       have HP19 := Kd.R_putg HO_5.out ((ji14) : Int) ((IntKind.u64.wrap (x8_2 + (IntKind.u64.wrap ((IntKind.u64.wrap ((IntKind.u64.wrap ((rd l0 x19_1))) * (IntKind.u64.wrap (rd l1 x26_2)))) + (IntKind.u64.wrap (rd x5_2 (ji14))))))) % 4294967296)
       go_wp2_with (first | ((with_reducible refine gate_store (t := 73) (p := 52) rfl ?_); refine zstore (t := 73) (p := 52) (w1 := (wr.setCell ⟨go17, ((ji14) : Int).toNat, none⟩ (.int .u32 ((IntKind.u64.wrap (x8_2 + (IntKind.u64.wrap ((IntKind.u64.wrap ((IntKind.u64.wrap ((rd l0 x19_1))) * (IntKind.u64.wrap (rd l1 x26_2)))) + (IntKind.u64.wrap (rd x5_2 (ji14))))))) % 4294967296)))) ?_; intro w20 hw; have hg : wr.grownBy w20 (some go17) := (by rw [hw]; exact HP19.2); have hp_ : Kd.R (Kd.int .u32) 73 w20 w.heap.size (fun k_ => (w.heap.size ≤ k_)) (.slice (some ⟨go17, 0, none⟩) x5_2.length co18) y321 := (by rw [hw, Ny321.out]; exact HP19.1); clear HP19; refine zt2 (hp_) ((by rw [hw]; exact below_set (HB.out) GB17.out : Below w.heap.size w w20)) ?_; clear HO_5 HB; intro HO_5 HB; clear hg hw hp_))
       go_roundg k2
       case measure => have := HK1.out; have := HK2.out; omega
       case rel => exact ⟨(y321), ((IntKind.u64.wrap (x8_2 + (IntKind.u64.wrap ((IntKind.u64.wrap ((IntKind.u64.wrap ((rd l0 x19_1))) * (IntKind.u64.wrap (rd l1 x26_2)))) + (IntKind.u64.wrap (rd x5_2 (ji14))))))) / 4294967296), (wrap64 (x26_2 + 1)), (by first | rfl | (simp; done) | (simp only [← hji14] <;> (first | rfl | simp)) | (simp [*]; done)), zq8, (by first | exact H' | (rw [hji3]; exact H') | (rw [hji14]; exact H')), ⟨by have := HK1.out; have := HK2.out; omega⟩, ⟨zq4 HO_5.out⟩, ⟨zq1⟩⟩
      ·rw [if_neg c11] at H
       have c11b0 := decide_eq_false c11
       clear c11
       obtain ⟨ji21, hji21⟩ : ∃ j_ : Int, (wrap64 (x19_1 + (l1.length : Int))) = j_ := ⟨_, rfl⟩
       replace H : (if 0 ≤ (ji21) then (if (ji21) < (x5_2.length : Int) then (nat_Mul.l0 k2 l1 (x5_2.set ((ji21) : Int).toNat ((x8_2) % 4294967296)) l0 (l0.length : Int) (wrap64 (x19_1 + 1))) else (none)) else (none)) = some r := by first | (rw [hji21] at H; exact H) | (simp only [hji21] at H ⊢; exact H)
       have hji21w : (IntKind.i64.wrap (x19_1 + (l1.length : Int))) = ji21 := (i64_w _).trans hji21
       replace H := zn H
       obtain ⟨c22, H⟩ := H
       have c22b0 := decide_eq_true c22
       clear c22
       replace H := zn H
       obtain ⟨c23, H⟩ := H
       have c23b0 := decide_eq_true c23
       clear c23
       obtain ⟨y322, hy322⟩ : ∃ y_ : List Int, y_ = (x5_2.set ((ji21) : Int).toNat ((x8_2) % 4294967296)) := ⟨_, rfl⟩
       try rw [← hy322] at H
       have Ny322 := am hy322
       clear hy322
       have H' := am H
       clear H
       have p24 : 0 ≤ ((ji21) : Int) := zq6
       have q24 : ((ji21) : Int) < ((x5_2.length : Int) : Int) := zq6
       obtain ⟨go24, co24, eo24, gb24, gl24, cl24, HG24⟩ := Kd.R_form HO_5.out (by omega)
       (first | cases eo24 | (injection eo24 with ea_ en_ ec_; (first | subst ea_ | (injection ea_ with ea_; subst ea_)); subst ec_; clear en_))
       have GB24 := am gb24
       have GG24 := am HG24
       clear gb24 gl24 HG24
       obtain ⟨hx24_0, hf24_0⟩ := Kd.R_celln 0 HO_5.out ((ji21) : Int) p24 q24
       replace p24 := eq_true p24
       replace q24 := eq_true q24
       have HP25 := Kd.R_putg HO_5.out ((ji21) : Int) ((x8_2) % 4294967296)
       go_wp2_with (first | ((with_reducible refine gate_store (t := 73) (p := 63) rfl ?_); refine zstore (t := 73) (p := 63) (w1 := (wr.setCell ⟨go24, ((ji21) : Int).toNat, none⟩ (.int .u32 ((x8_2) % 4294967296)))) ?_; intro w26 hw; have hg : wr.grownBy w26 (some go24) := (by rw [hw]; exact HP25.2); have hp_ : Kd.R (Kd.int .u32) 73 w26 w.heap.size (fun k_ => (w.heap.size ≤ k_)) (.slice (some ⟨go24, 0, none⟩) x5_2.length co24) y322 := (by rw [hw, Ny322.out]; exact HP25.1); clear HP25; refine zt2 (hp_) ((by rw [hw]; exact below_set (HB.out) GB24.out : Below w.heap.size w w26)) ?_; clear HO_5 HB; intro HO_5 HB; clear hg hw hp_))
       go_roundg k2
       case measure => have := HK1.out; have := HK2.out; omega
       case rel => exact ⟨(y322), (wrap64 (x19_1 + 1)), zq8, (by first | exact H' | (rw [hji3]; exact H') | (rw [hji21]; exact H')), ⟨by have := HK1.out; have := HK2.out; omega⟩, ⟨zq4 HO_5.out⟩, ⟨zq1⟩⟩
   ·rw [if_neg c8] at H
    have c8b0 := decide_eq_false c8
    clear c8
    replace H := zj H
    obtain ⟨t315, A27, H⟩ := H
    obtain rfl := Option.some.inj H
    obtain ⟨Ao28, co28, eo28⟩ := Kd.R_slice HO_5.out
    subst eo28
    go_wp2_with (first | ((with_reducible refine gate_callee (f := 62) rfl ?_); refine goesL_ (some 66) rfl rfl Tryz.func62 (by kernel_rfl) rfl #[.slice Ao28 x5_1.length co28] rfl zq5 ?_; (with_reducible refine (nat_Trim.calls k1 (fun k_ => some k_ = (.slice Ao28 x5_1.length co28 : Value).ownBlock) _ _ x5_1 t315 _ ?side1 A27.out).mono ?_); (case side1 => exact Kd.R_V (Kd.R_tight rfl (HO_5.out))); rintro e w29 ⟨v316, rfl, ho0, hb⟩; refine ⟨_, rfl, ?_⟩; refine zt3 (rb HO_5 hb) (Kd.V_lower (Kd.V_mono (ok' := fun k_ => (w.heap.size ≤ k_)) ho0 (fun k_ hk_ => Or.elim hk_ (fun hs_ => ((HO_5.out).1 k_ hs_.symm)) (fun hn_ => (Nat.le_trans (below_size zq1) hn_)))) (below_size zq1)) (below_step zq1 hb) ?_; clear HO_5 HB; intro HO_5 HO317 HB))
    go_ret
    exact ⟨_, by first | rfl | (simp [errW_none, errW_some] <;> rfl) | (simp only [← hji3]; first | rfl | (simp [errW_none, errW_some] <;> rfl)) | (simp [*, errW_none, errW_some] <;> rfl), zq3 HO317.out, zq1⟩
mutual
def nat_plus.l0 : Nat → List Int → List Int → Int → Int → Int → Option (List Int)
 | 0, _, _, _, _, _ => none
 | k + 1, x1, x5, x6, x23, x24 => if x24 < x23 then (if 0 ≤ x24 then (if x24 < (x5.length : Int) then (if x24 < (x1.length : Int) then (nat_plus.l0 k x1 (x5.set (x24 : Int).toNat ((IntKind.u64.wrap ((IntKind.u64.wrap (x6 + (IntKind.u64.wrap (rd x5 x24)))) + (IntKind.u64.wrap (rd x1 x24)))) % 4294967296)) ((IntKind.u64.wrap ((IntKind.u64.wrap (x6 + (IntKind.u64.wrap (rd x5 x24)))) + (IntKind.u64.wrap (rd x1 x24)))) / 4294967296) x23 (wrap64 (x24 + 1))) else (nat_plus.l0 k x1 (x5.set (x24 : Int).toNat ((IntKind.u64.wrap (x6 + (IntKind.u64.wrap (rd x5 x24)))) % 4294967296)) ((IntKind.u64.wrap (x6 + (IntKind.u64.wrap (rd x5 x24)))) / 4294967296) x23 (wrap64 (x24 + 1)))) else (none)) else (none)) else ((nat_Trim.f k x5).bind fun t255 => (some t255))
def nat_plus.l1000 : Nat → List Int → List Int → Int → Int → Int → Option (List Int)
 | 0, _, _, _, _, _ => none
 | k + 1, x1, x5, x6, x23, x24 => if x24 < x23 then (if 0 ≤ x24 then (if x24 < (x5.length : Int) then (if x24 < (x1.length : Int) then (nat_plus.l1000 k x1 (x5.set (x24 : Int).toNat ((IntKind.u64.wrap ((IntKind.u64.wrap (x6 + (IntKind.u64.wrap (rd x5 x24)))) + (IntKind.u64.wrap (rd x1 x24)))) % 4294967296)) ((IntKind.u64.wrap ((IntKind.u64.wrap (x6 + (IntKind.u64.wrap (rd x5 x24)))) + (IntKind.u64.wrap (rd x1 x24)))) / 4294967296) x23 (wrap64 (x24 + 1))) else (nat_plus.l1000 k x1 (x5.set (x24 : Int).toNat ((IntKind.u64.wrap (x6 + (IntKind.u64.wrap (rd x5 x24)))) % 4294967296)) ((IntKind.u64.wrap (x6 + (IntKind.u64.wrap (rd x5 x24)))) / 4294967296) x23 (wrap64 (x24 + 1)))) else (none)) else (none)) else ((nat_Trim.f k x5).bind fun t267 => (some t267))
end
def nat_plus.f (k : Nat) (l0 : List Int) (l1 : List Int) : Option (List Int) := if (l0.length : Int) < (l1.length : Int) then (if 0 ≤ (wrap64 ((l1.length : Int) + 1)) then (if (wrap64 ((l1.length : Int) + 1) : Int).toNat ≤ 70368744177664 then ((some (List.replicate (wrap64 ((l1.length : Int) + 1) : Int).toNat 0 : List Int)).bind fun y246 => ((copy_e73.f y246 l1).bind fun bt249 => (nat_plus.l0 k l0 bt249.2 0 (y246.length : Int) 0))) else (none)) else (none)) else (if 0 ≤ (wrap64 ((l0.length : Int) + 1)) then (if (wrap64 ((l0.length : Int) + 1) : Int).toNat ≤ 70368744177664 then ((some (List.replicate (wrap64 ((l0.length : Int) + 1) : Int).toNat 0 : List Int)).bind fun y258 => ((copy_e73.f y258 l0).bind fun bt261 => (nat_plus.l1000 k l1 bt261.2 0 (y258.length : Int) 0))) else (none)) else (none))
set_option maxHeartbeats 8000000 in
set_option maxRecDepth 100000 in
theorem nat_plus.calls (k : Nat) (A0 : Option Addr) (c0 : Nat) (l0 : List Int) (A1 : Option Addr) (c1 : Nat) (l1 : List Int) (r : List Int) (w : World) (hr0 : Kd.C (Kd.int .u32) w A0 l0.length l0) (hc0 : l0.length ≤ c0) (hr1 : Kd.C (Kd.int .u32) w A1 l1.length l1) (hc1 : l1.length ≤ c1) (h : nat_plus.f k l0 l1 = some r) :
  Calls Tryz.prog 90 #[.slice A0 l0.length c0, .slice A1 l1.length c1] w fun e w' => ∃ v0_ : Value, e = .returned (v0_) ∧ Kd.V (Kd.int .u32) 73 w' w.heap.size (fun k_ => (w.heap.size ≤ k_)) v0_ r ∧ Below w.heap.size w w' := by
 have HR0 := am hr0
 have HC0 := am hc0
 clear hr0 hc0
 have HR1 := am hr1
 have HC1 := am hc1
 clear hr1 hc1
 have HB := am (Below.refl w.heap.size w)
 have H := h
 unfold nat_plus.f at H
 clear h
 by_cases c3 : (l0.length : Int) < (l1.length : Int)
 ·rw [if_pos c3] at H
  have c3b0 := decide_eq_true c3
  have c3b1 : decide (l0.length < l1.length) = true := decide_eq_true (Int.ofNat_lt.mp c3)
  clear c3
  obtain ⟨ji4, hji4⟩ : ∃ j_ : Int, (wrap64 ((l1.length : Int) + 1)) = j_ := ⟨_, rfl⟩
  replace H : (if 0 ≤ (ji4) then (if (ji4 : Int).toNat ≤ 70368744177664 then ((some (List.replicate (ji4 : Int).toNat 0 : List Int)).bind fun y246 => ((copy_e73.f y246 l1).bind fun bt249 => (nat_plus.l0 k l0 bt249.2 0 (y246.length : Int) 0))) else (none)) else (none)) = some r := by first | (rw [hji4] at H; exact H) | (simp only [hji4] at H ⊢; exact H)
  have hji4w : (IntKind.i64.wrap ((l1.length : Int) + 1)) = ji4 := (i64_w _).trans hji4
  replace H := zn H
  obtain ⟨c5, H⟩ := H
  have c5b0 := eq_true c5
  have c5b1 := decide_eq_true c5
  clear c5
  replace H := zn H
  obtain ⟨c6, H⟩ := H
  have c6b0 := eq_true c6
  have c6b1 := decide_eq_true c6
  clear c6
  obtain ⟨y246, hy246⟩ : ∃ y_ : List Int, y_ = (List.replicate (ji4 : Int).toNat 0) := ⟨_, rfl⟩
  replace H : ((copy_e73.f y246 l1).bind fun bt249 => (nat_plus.l0 k l0 bt249.2 0 (y246.length : Int) 0)) = some r := by first | (rw [hy246]; with_reducible exact H) | (have H2_ := (Option.bind_some _ _).symm.trans H; rw [hy246]; with_reducible exact H2_) | (have H2_ := (Option.bind_some _ _).symm.trans H; with_reducible exact H2_) | with_reducible exact H | (rw [hy246]; exact H) | exact H
  have Ny246 := am hy246
  clear hy246
  replace H := zj H
  obtain ⟨⟨t249, t250⟩, A7, H⟩ := H
  replace H : (nat_plus.l0 k l0 t250 0 (y246.length : Int) 0) = some r := H
  have H' := am H
  clear H
  go_enter Tryz.func90, Tryz.ntmps90
  go_wp2_with (first | ((with_reducible refine gate_dst (N := 18) rfl ?_); refine Kd.R_make (Kd.int .u32) _ 73 rfl (N := 18) rfl 22 _ _ rfl ji4 rfl rfl Tryz.underlying22 (.int .u32 0) 4 info73 rfl (by decide) (by omega) 0 (ok := fun _ => True) (okp := fun _ => True) rfl (fun _ hk => hk) trivial zq6 (Nat.le_trans (Nat.mul_le_mul_right _ (zq6 : ji4.toNat ≤ 70368744177664)) (by omega)) (Below.refl _ _) (Nat.le_refl _) ?_; intro v247 w8 ho9 hb hg_ hnew_; clear hg_ hnew_; (first | rw [← Ny246.out] at ho9 | (simp only [Int.reduceToNat] at ho9; rw [← Ny246.out] at ho9)); refine zt2 (Kd.R_lower (Kd.R_newM (M := fun k_ => (w.heap.size ≤ k_)) ho9 (below_size zq1) (fun k_ h_ => h_)) (below_size zq1)) (below_step zq1 hb) ?_; clear HB; intro HO248 HB; clear hb ho9; obtain ⟨Ao10, co10, eo10⟩ := Kd.R_slice HO248.out; subst eo10) | ((with_reducible refine gate_builtin (b := .copy) rfl ?_); refine copyL_ (some 21) rfl rfl #[.slice Ao10 y246.length co10, .slice A1 l1.length c1] rfl zq5 ?_; (with_reducible refine (copy_e73.calls (fun k_ => some k_ = (.slice Ao10 y246.length co10 : Value).ownBlock) (.slice Ao10 y246.length co10) y246 _ _ l1 t249 t250 w _ ?side1 ?side2 ?side3 ?side4 A7.out).mono ?_); (case side1 => repeat (first | (with_reducible first | exact HB.out | apply below_alloc | apply pw_below_drewN | apply below_drew1) | exact HB.out)); (case side2 => exact Kd.R_tight rfl HO248.out); (case side3 => exact Kd.C_kept_came (Kd.heap_int .u32) HR1.out zq1 (fun k_ hs_ => (fun e_ => Kd.R_base HO248.out k_ e_.symm) hs_)); (case side4 => exact HC1.out); rintro e w11 ⟨rfl, hy0, hb, hkp⟩; refine ⟨_, rfl, ?_⟩; refine zt2 (Kd.R_reok rfl hy0 (fun k_ e_ => HO248.out.1 k_ e_)) (hb) ?_; clear HO248 HB; intro HO248 HB; (try clear hb); (try clear hkp); (try clear hy0)))
  go_loopg [6, 24] k (fun kq v6 v24 w' => ∃ (x5_1 : List Int) (x6_1 : Int) (x24_1 : Int), v6 = .int .u64 x6_1 ∧ v24 = .int .i64 x24_1 ∧ Aside0 (nat_plus.l0 kq l0 x5_1 x6_1 (y246.length : Int) x24_1 = some r) ∧ Aside0 (kq ≤ k) ∧ Aside0 (Kd.R (Kd.int .u32) 73 w' w.heap.size (fun k_ => (w.heap.size ≤ k_)) (.slice Ao10 y246.length co10) x5_1) ∧ Aside0 (Below w.heap.size w w'))
  case atStart => exact ⟨(t250), (0), (0), zq8, zq8, H', ⟨Nat.le_refl _⟩, ⟨zwR (h := by exact Kd.R_mono HO248.out (fun _ hk => hk.1))⟩, ⟨zq1⟩⟩
  case round =>
   clear H'
   obtain ⟨x5_1, x6_1, x24_1, rfl, rfl, HA, HK1, HO_5, HB⟩ := hrel
   have hl5_1 := (Kd.R_reads' HO_5.out).1
   rw [hl5_1] at HO_5
   (try simp only [hl5_1])
   cases gk with
   | zero => exact absurd HA.out (by simp [nat_plus.l0])
   | succ k1 =>
    have H := HA.out
    clear HA
    simp only [nat_plus.l0] at H
    by_cases c12 : x24_1 < (y246.length : Int)
    ·rw [if_pos c12] at H
     have c12b0 := decide_eq_true c12
     clear c12
     replace H := zn H
     obtain ⟨c13, H⟩ := H
     have c13b0 := decide_eq_true c13
     clear c13
     replace H := zn H
     obtain ⟨c14, H⟩ := H
     have c14b0 := decide_eq_true c14
     clear c14
     by_cases c15 : x24_1 < (l0.length : Int)
     ·rw [if_pos c15] at H
      have c15b0 := decide_eq_true c15
      clear c15
      obtain ⟨y253, hy253⟩ : ∃ y_ : List Int, y_ = (x5_1.set (x24_1 : Int).toNat ((IntKind.u64.wrap ((IntKind.u64.wrap (x6_1 + (IntKind.u64.wrap (rd x5_1 x24_1)))) + (IntKind.u64.wrap (rd l0 x24_1)))) % 4294967296)) := ⟨_, rfl⟩
      replace H : (nat_plus.l0 k1 l0 y253 ((IntKind.u64.wrap ((IntKind.u64.wrap (x6_1 + (IntKind.u64.wrap (rd x5_1 x24_1)))) + (IntKind.u64.wrap (rd l0 x24_1)))) / 4294967296) (y246.length : Int) (wrap64 (x24_1 + 1))) = some r := by first | (rw [hy253]; with_reducible exact H) | (have H2_ := (Option.bind_some _ _).symm.trans H; rw [hy253]; with_reducible exact H2_) | (have H2_ := (Option.bind_some _ _).symm.trans H; with_reducible exact H2_) | with_reducible exact H | (rw [hy253]; exact H) | exact H
      have Ny253 := am hy253
      clear hy253
      have H' := am H
      clear H
      have p251 : 0 ≤ (x24_1 : Int) := zq6
      have q251 : x24_1 < (x5_1.length : Int) := zq6
      obtain ⟨ad251, e251, hx251_0⟩ := Kd.at_int (Kd.R_reads' HO_5.out).2.2 x24_1 p251 q251
      cases e251
      replace p251 := eq_true p251
      replace q251 := eq_true q251
      have p252 : 0 ≤ (x24_1 : Int) := zq6
      have q252 : x24_1 < (l0.length : Int) := zq6
      obtain ⟨ad252, e252, hx252_0⟩ := Kd.at_int HR0.out x24_1 p252 q252
      cases e252
      replace hx252_0 := (HB.out.cell (World.block_lt_of_cell? w _ hx252_0)).trans hx252_0
      replace p252 := eq_true p252
      replace q252 := eq_true q252
      have p16 : 0 ≤ (x24_1 : Int) := zq6
      have q16 : (x24_1 : Int) < ((x5_1.length : Int) : Int) := zq6
      obtain ⟨go16, co16, eo16, gb16, gl16, cl16, HG16⟩ := Kd.R_form HO_5.out (by omega)
      (first | cases eo16 | (injection eo16 with ea_ en_ ec_; (first | subst ea_ | (injection ea_ with ea_; subst ea_)); subst ec_; clear en_))
      have GB16 := am gb16
      have GG16 := am HG16
      clear gb16 gl16 HG16
      (first | simp only [add_plain] at hx251_0 | skip)
      obtain ⟨hx16_0, hf16_0⟩ := Kd.R_celln 0 HO_5.out (x24_1 : Int) p16 q16
      replace p16 := eq_true p16
      replace q16 := eq_true q16
      have HP17 := Kd.R_putg HO_5.out (x24_1 : Int) ((IntKind.u64.wrap ((IntKind.u64.wrap (x6_1 + (IntKind.u64.wrap (rd x5_1 x24_1)))) + (IntKind.u64.wrap (rd l0 x24_1)))) % 4294967296)
      go_wp2_with (first | ((with_reducible refine gate_store (t := 73) (p := 49) rfl ?_); refine zstore (t := 73) (p := 49) (w1 := (wr.setCell ⟨go16, (x24_1 : Int).toNat, none⟩ (.int .u32 ((IntKind.u64.wrap ((IntKind.u64.wrap (x6_1 + (IntKind.u64.wrap (rd x5_1 x24_1)))) + (IntKind.u64.wrap (rd l0 x24_1)))) % 4294967296)))) ?_; intro w18 hw; have hg : wr.grownBy w18 (some go16) := (by rw [hw]; exact HP17.2); have hp_ : Kd.R (Kd.int .u32) 73 w18 w.heap.size (fun k_ => (w.heap.size ≤ k_)) (.slice (some ⟨go16, 0, none⟩) x5_1.length co10) y253 := (by rw [hw, Ny253.out]; exact HP17.1); clear HP17; refine zt2 (hp_) ((by rw [hw]; exact below_set (HB.out) GB16.out : Below w.heap.size w w18)) ?_; clear HO_5 HB; intro HO_5 HB; clear hg hw hp_))
      (try simp only [← hl5_1])
      go_roundg k1
      case measure => have := HK1.out; omega
      case rel => exact ⟨(y253), ((IntKind.u64.wrap ((IntKind.u64.wrap (x6_1 + (IntKind.u64.wrap (rd x5_1 x24_1)))) + (IntKind.u64.wrap (rd l0 x24_1)))) / 4294967296), (wrap64 (x24_1 + 1)), zq8, zq8, (by first | exact H' | (rw [hji4]; exact H')), ⟨by have := HK1.out; omega⟩, ⟨by (try simp only [hl5_1]); (with_reducible repeat (first | apply Kd.R_alloc | apply Kd.R_drewN | apply Kd.R_drew)); exact HO_5.out⟩, ⟨zq1⟩⟩
     ·rw [if_neg c15] at H
      have c15b0 := decide_eq_false c15
      (try (have c15b0x := c15b0; rw [hl5_1] at c15b0x))
      clear c15
      obtain ⟨y254, hy254⟩ : ∃ y_ : List Int, y_ = (x5_1.set (x24_1 : Int).toNat ((IntKind.u64.wrap (x6_1 + (IntKind.u64.wrap (rd x5_1 x24_1)))) % 4294967296)) := ⟨_, rfl⟩
      replace H : (nat_plus.l0 k1 l0 y254 ((IntKind.u64.wrap (x6_1 + (IntKind.u64.wrap (rd x5_1 x24_1)))) / 4294967296) (y246.length : Int) (wrap64 (x24_1 + 1))) = some r := by first | (rw [hy254]; with_reducible exact H) | (have H2_ := (Option.bind_some _ _).symm.trans H; rw [hy254]; with_reducible exact H2_) | (have H2_ := (Option.bind_some _ _).symm.trans H; with_reducible exact H2_) | with_reducible exact H | (rw [hy254]; exact H) | exact H
      have Ny254 := am hy254
      clear hy254
      have H' := am H
      clear H
      have p251 : 0 ≤ (x24_1 : Int) := zq6
      have q251 : x24_1 < (x5_1.length : Int) := zq6
      obtain ⟨ad251, e251, hx251_0⟩ := Kd.at_int (Kd.R_reads' HO_5.out).2.2 x24_1 p251 q251
      cases e251
      replace p251 := eq_true p251
      replace q251 := eq_true q251
      have p19 : 0 ≤ (x24_1 : Int) := zq6
      have q19 : (x24_1 : Int) < ((x5_1.length : Int) : Int) := zq6
      obtain ⟨go19, co19, eo19, gb19, gl19, cl19, HG19⟩ := Kd.R_form HO_5.out (by omega)
      (first | cases eo19 | (injection eo19 with ea_ en_ ec_; (first | subst ea_ | (injection ea_ with ea_; subst ea_)); subst ec_; clear en_))
      have GB19 := am gb19
      have GG19 := am HG19
      clear gb19 gl19 HG19
      (first | simp only [add_plain] at hx251_0 | skip)
      obtain ⟨hx19_0, hf19_0⟩ := Kd.R_celln 0 HO_5.out (x24_1 : Int) p19 q19
      replace p19 := eq_true p19
      replace q19 := eq_true q19
      have HP20 := Kd.R_putg HO_5.out (x24_1 : Int) ((IntKind.u64.wrap (x6_1 + (IntKind.u64.wrap (rd x5_1 x24_1)))) % 4294967296)
      go_wp2_with (first | ((with_reducible refine gate_store (t := 73) (p := 49) rfl ?_); refine zstore (t := 73) (p := 49) (w1 := (wr.setCell ⟨go19, (x24_1 : Int).toNat, none⟩ (.int .u32 ((IntKind.u64.wrap (x6_1 + (IntKind.u64.wrap (rd x5_1 x24_1)))) % 4294967296)))) ?_; intro w21 hw; have hg : wr.grownBy w21 (some go19) := (by rw [hw]; exact HP20.2); have hp_ : Kd.R (Kd.int .u32) 73 w21 w.heap.size (fun k_ => (w.heap.size ≤ k_)) (.slice (some ⟨go19, 0, none⟩) x5_1.length co10) y254 := (by rw [hw, Ny254.out]; exact HP20.1); clear HP20; refine zt2 (hp_) ((by rw [hw]; exact below_set (HB.out) GB19.out : Below w.heap.size w w21)) ?_; clear HO_5 HB; intro HO_5 HB; clear hg hw hp_))
      (try simp only [← hl5_1])
      go_roundg k1
      case measure => have := HK1.out; omega
      case rel => exact ⟨(y254), ((IntKind.u64.wrap (x6_1 + (IntKind.u64.wrap (rd x5_1 x24_1)))) / 4294967296), (wrap64 (x24_1 + 1)), zq8, zq8, (by first | exact H' | (rw [hji4]; exact H')), ⟨by have := HK1.out; omega⟩, ⟨by (try simp only [hl5_1]); (with_reducible repeat (first | apply Kd.R_alloc | apply Kd.R_drewN | apply Kd.R_drew)); exact HO_5.out⟩, ⟨zq1⟩⟩
    ·rw [if_neg c12] at H
     have c12b0 := decide_eq_false c12
     (try (have c12b0x := c12b0; rw [hl5_1] at c12b0x))
     clear c12
     replace H := zj H
     obtain ⟨t255, A22, H⟩ := H
     replace H : (some t255) = some r := H
     obtain rfl := Option.some.inj H
     go_wp2_with (first | ((with_reducible refine gate_callee (f := 62) rfl ?_); refine goesL_ (some 54) rfl rfl Tryz.func62 (by kernel_rfl) rfl #[.slice Ao10 x5_1.length co10] rfl zq5 ?_; (with_reducible refine (nat_Trim.calls k1 (fun k_ => some k_ = (.slice Ao10 x5_1.length co10 : Value).ownBlock) _ _ x5_1 t255 _ ?side1 A22.out).mono ?_); (case side1 => exact Kd.R_V (Kd.R_tight rfl (HO_5.out))); rintro e w23 ⟨v256, rfl, ho0, hb⟩; refine ⟨_, rfl, ?_⟩; refine zt3 (rb HO_5 hb) (Kd.V_lower (Kd.V_mono (ok' := fun k_ => (w.heap.size ≤ k_)) ho0 (fun k_ hk_ => Or.elim hk_ (fun hs_ => ((HO_5.out).1 k_ hs_.symm)) (fun hn_ => (Nat.le_trans (below_size zq1) hn_)))) (below_size zq1)) (below_step zq1 hb) ?_; clear HO_5 HB; intro HO_5 HO257 HB))
     go_ret
     exact ⟨_, by first | rfl | (simp [errW_none, errW_some] <;> rfl) | (simp only [← hji4]; first | rfl | (simp [errW_none, errW_some] <;> rfl)) | (simp [*, errW_none, errW_some] <;> rfl), zq3 HO257.out, zq1⟩
 ·rw [if_neg c3] at H
  have c3b0 := decide_eq_false c3
  have c3b1 : decide (l0.length < l1.length) = false := decide_eq_false (fun h => c3 (Int.ofNat_lt.mpr h))
  clear c3
  obtain ⟨ji24, hji24⟩ : ∃ j_ : Int, (wrap64 ((l0.length : Int) + 1)) = j_ := ⟨_, rfl⟩
  replace H : (if 0 ≤ (ji24) then (if (ji24 : Int).toNat ≤ 70368744177664 then ((some (List.replicate (ji24 : Int).toNat 0 : List Int)).bind fun y258 => ((copy_e73.f y258 l0).bind fun bt261 => (nat_plus.l1000 k l1 bt261.2 0 (y258.length : Int) 0))) else (none)) else (none)) = some r := by first | (rw [hji24] at H; exact H) | (simp only [hji24] at H ⊢; exact H)
  have hji24w : (IntKind.i64.wrap ((l0.length : Int) + 1)) = ji24 := (i64_w _).trans hji24
  replace H := zn H
  obtain ⟨c25, H⟩ := H
  have c25b0 := eq_true c25
  have c25b1 := decide_eq_true c25
  clear c25
  replace H := zn H
  obtain ⟨c26, H⟩ := H
  have c26b0 := eq_true c26
  have c26b1 := decide_eq_true c26
  clear c26
  obtain ⟨y258, hy258⟩ : ∃ y_ : List Int, y_ = (List.replicate (ji24 : Int).toNat 0) := ⟨_, rfl⟩
  replace H : ((copy_e73.f y258 l0).bind fun bt261 => (nat_plus.l1000 k l1 bt261.2 0 (y258.length : Int) 0)) = some r := by first | (rw [hy258]; with_reducible exact H) | (have H2_ := (Option.bind_some _ _).symm.trans H; rw [hy258]; with_reducible exact H2_) | (have H2_ := (Option.bind_some _ _).symm.trans H; with_reducible exact H2_) | with_reducible exact H | (rw [hy258]; exact H) | exact H
  have Ny258 := am hy258
  clear hy258
  replace H := zj H
  obtain ⟨⟨t261, t262⟩, A27, H⟩ := H
  replace H : (nat_plus.l1000 k l1 t262 0 (y258.length : Int) 0) = some r := H
  have H' := am H
  clear H
  go_enter Tryz.func90, Tryz.ntmps90
  go_wp2_with (first | ((with_reducible refine gate_dst (N := 18) rfl ?_); refine Kd.R_make (Kd.int .u32) _ 73 rfl (N := 18) rfl 22 _ _ rfl ji24 rfl rfl Tryz.underlying22 (.int .u32 0) 4 info73 rfl (by decide) (by omega) 0 (ok := fun _ => True) (okp := fun _ => True) rfl (fun _ hk => hk) trivial zq6 (Nat.le_trans (Nat.mul_le_mul_right _ (zq6 : ji24.toNat ≤ 70368744177664)) (by omega)) (Below.refl _ _) (Nat.le_refl _) ?_; intro v259 w28 ho29 hb hg_ hnew_; clear hg_ hnew_; (first | rw [← Ny258.out] at ho29 | (simp only [Int.reduceToNat] at ho29; rw [← Ny258.out] at ho29)); refine zt2 (Kd.R_lower (Kd.R_newM (M := fun k_ => (w.heap.size ≤ k_)) ho29 (below_size zq1) (fun k_ h_ => h_)) (below_size zq1)) (below_step zq1 hb) ?_; clear HB; intro HO260 HB; clear hb ho29; obtain ⟨Ao30, co30, eo30⟩ := Kd.R_slice HO260.out; subst eo30) | ((with_reducible refine gate_builtin (b := .copy) rfl ?_); refine copyL_ (some 21) rfl rfl #[.slice Ao30 y258.length co30, .slice A0 l0.length c0] rfl zq5 ?_; (with_reducible refine (copy_e73.calls (fun k_ => some k_ = (.slice Ao30 y258.length co30 : Value).ownBlock) (.slice Ao30 y258.length co30) y258 _ _ l0 t261 t262 w _ ?side1 ?side2 ?side3 ?side4 A27.out).mono ?_); (case side1 => repeat (first | (with_reducible first | exact HB.out | apply below_alloc | apply pw_below_drewN | apply below_drew1) | exact HB.out)); (case side2 => exact Kd.R_tight rfl HO260.out); (case side3 => exact Kd.C_kept_came (Kd.heap_int .u32) HR0.out zq1 (fun k_ hs_ => (fun e_ => Kd.R_base HO260.out k_ e_.symm) hs_)); (case side4 => exact HC0.out); rintro e w31 ⟨rfl, hy0, hb, hkp⟩; refine ⟨_, rfl, ?_⟩; refine zt2 (Kd.R_reok rfl hy0 (fun k_ e_ => HO260.out.1 k_ e_)) (hb) ?_; clear HO260 HB; intro HO260 HB; (try clear hb); (try clear hkp); (try clear hy0)))
  go_loopg [6, 24] k (fun kq v6 v24 w' => ∃ (x5_1 : List Int) (x6_1 : Int) (x24_1 : Int), v6 = .int .u64 x6_1 ∧ v24 = .int .i64 x24_1 ∧ Aside0 (nat_plus.l1000 kq l1 x5_1 x6_1 (y258.length : Int) x24_1 = some r) ∧ Aside0 (kq ≤ k) ∧ Aside0 (Kd.R (Kd.int .u32) 73 w' w.heap.size (fun k_ => (w.heap.size ≤ k_)) (.slice Ao30 y258.length co30) x5_1) ∧ Aside0 (Below w.heap.size w w'))
  case atStart => exact ⟨(t262), (0), (0), zq8, zq8, H', ⟨Nat.le_refl _⟩, ⟨zwR (h := by exact Kd.R_mono HO260.out (fun _ hk => hk.1))⟩, ⟨zq1⟩⟩
  case round =>
   clear H'
   obtain ⟨x5_1, x6_1, x24_1, rfl, rfl, HA, HK1, HO_5, HB⟩ := hrel
   have hl5_1 := (Kd.R_reads' HO_5.out).1
   rw [hl5_1] at HO_5
   (try simp only [hl5_1])
   cases gk with
   | zero => exact absurd HA.out (by simp [nat_plus.l1000])
   | succ k1 =>
    have H := HA.out
    clear HA
    simp only [nat_plus.l1000] at H
    by_cases c32 : x24_1 < (y258.length : Int)
    ·rw [if_pos c32] at H
     have c32b0 := decide_eq_true c32
     clear c32
     replace H := zn H
     obtain ⟨c33, H⟩ := H
     have c33b0 := decide_eq_true c33
     clear c33
     replace H := zn H
     obtain ⟨c34, H⟩ := H
     have c34b0 := decide_eq_true c34
     clear c34
     by_cases c35 : x24_1 < (l1.length : Int)
     ·rw [if_pos c35] at H
      have c35b0 := decide_eq_true c35
      clear c35
      obtain ⟨y265, hy265⟩ : ∃ y_ : List Int, y_ = (x5_1.set (x24_1 : Int).toNat ((IntKind.u64.wrap ((IntKind.u64.wrap (x6_1 + (IntKind.u64.wrap (rd x5_1 x24_1)))) + (IntKind.u64.wrap (rd l1 x24_1)))) % 4294967296)) := ⟨_, rfl⟩
      replace H : (nat_plus.l1000 k1 l1 y265 ((IntKind.u64.wrap ((IntKind.u64.wrap (x6_1 + (IntKind.u64.wrap (rd x5_1 x24_1)))) + (IntKind.u64.wrap (rd l1 x24_1)))) / 4294967296) (y258.length : Int) (wrap64 (x24_1 + 1))) = some r := by first | (rw [hy265]; with_reducible exact H) | (have H2_ := (Option.bind_some _ _).symm.trans H; rw [hy265]; with_reducible exact H2_) | (have H2_ := (Option.bind_some _ _).symm.trans H; with_reducible exact H2_) | with_reducible exact H | (rw [hy265]; exact H) | exact H
      have Ny265 := am hy265
      clear hy265
      have H' := am H
      clear H
      have p263 : 0 ≤ (x24_1 : Int) := zq6
      have q263 : x24_1 < (x5_1.length : Int) := zq6
      obtain ⟨ad263, e263, hx263_0⟩ := Kd.at_int (Kd.R_reads' HO_5.out).2.2 x24_1 p263 q263
      cases e263
      replace p263 := eq_true p263
      replace q263 := eq_true q263
      have p264 : 0 ≤ (x24_1 : Int) := zq6
      have q264 : x24_1 < (l1.length : Int) := zq6
      obtain ⟨ad264, e264, hx264_0⟩ := Kd.at_int HR1.out x24_1 p264 q264
      cases e264
      replace hx264_0 := (HB.out.cell (World.block_lt_of_cell? w _ hx264_0)).trans hx264_0
      replace p264 := eq_true p264
      replace q264 := eq_true q264
      have p36 : 0 ≤ (x24_1 : Int) := zq6
      have q36 : (x24_1 : Int) < ((x5_1.length : Int) : Int) := zq6
      obtain ⟨go36, co36, eo36, gb36, gl36, cl36, HG36⟩ := Kd.R_form HO_5.out (by omega)
      (first | cases eo36 | (injection eo36 with ea_ en_ ec_; (first | subst ea_ | (injection ea_ with ea_; subst ea_)); subst ec_; clear en_))
      have GB36 := am gb36
      have GG36 := am HG36
      clear gb36 gl36 HG36
      (first | simp only [add_plain] at hx263_0 | skip)
      obtain ⟨hx36_0, hf36_0⟩ := Kd.R_celln 0 HO_5.out (x24_1 : Int) p36 q36
      replace p36 := eq_true p36
      replace q36 := eq_true q36
      have HP37 := Kd.R_putg HO_5.out (x24_1 : Int) ((IntKind.u64.wrap ((IntKind.u64.wrap (x6_1 + (IntKind.u64.wrap (rd x5_1 x24_1)))) + (IntKind.u64.wrap (rd l1 x24_1)))) % 4294967296)
      go_wp2_with (first | ((with_reducible refine gate_store (t := 73) (p := 49) rfl ?_); refine zstore (t := 73) (p := 49) (w1 := (wr.setCell ⟨go36, (x24_1 : Int).toNat, none⟩ (.int .u32 ((IntKind.u64.wrap ((IntKind.u64.wrap (x6_1 + (IntKind.u64.wrap (rd x5_1 x24_1)))) + (IntKind.u64.wrap (rd l1 x24_1)))) % 4294967296)))) ?_; intro w38 hw; have hg : wr.grownBy w38 (some go36) := (by rw [hw]; exact HP37.2); have hp_ : Kd.R (Kd.int .u32) 73 w38 w.heap.size (fun k_ => (w.heap.size ≤ k_)) (.slice (some ⟨go36, 0, none⟩) x5_1.length co30) y265 := (by rw [hw, Ny265.out]; exact HP37.1); clear HP37; refine zt2 (hp_) ((by rw [hw]; exact below_set (HB.out) GB36.out : Below w.heap.size w w38)) ?_; clear HO_5 HB; intro HO_5 HB; clear hg hw hp_))
      (try simp only [← hl5_1])
      go_roundg k1
      case measure => have := HK1.out; omega
      case rel => exact ⟨(y265), ((IntKind.u64.wrap ((IntKind.u64.wrap (x6_1 + (IntKind.u64.wrap (rd x5_1 x24_1)))) + (IntKind.u64.wrap (rd l1 x24_1)))) / 4294967296), (wrap64 (x24_1 + 1)), zq8, zq8, (by first | exact H' | (rw [hji24]; exact H')), ⟨by have := HK1.out; omega⟩, ⟨by (try simp only [hl5_1]); (with_reducible repeat (first | apply Kd.R_alloc | apply Kd.R_drewN | apply Kd.R_drew)); exact HO_5.out⟩, ⟨zq1⟩⟩
     ·rw [if_neg c35] at H
      have c35b0 := decide_eq_false c35
      (try (have c35b0x := c35b0; rw [hl5_1] at c35b0x))
      clear c35
      obtain ⟨y266, hy266⟩ : ∃ y_ : List Int, y_ = (x5_1.set (x24_1 : Int).toNat ((IntKind.u64.wrap (x6_1 + (IntKind.u64.wrap (rd x5_1 x24_1)))) % 4294967296)) := ⟨_, rfl⟩
      replace H : (nat_plus.l1000 k1 l1 y266 ((IntKind.u64.wrap (x6_1 + (IntKind.u64.wrap (rd x5_1 x24_1)))) / 4294967296) (y258.length : Int) (wrap64 (x24_1 + 1))) = some r := by first | (rw [hy266]; with_reducible exact H) | (have H2_ := (Option.bind_some _ _).symm.trans H; rw [hy266]; with_reducible exact H2_) | (have H2_ := (Option.bind_some _ _).symm.trans H; with_reducible exact H2_) | with_reducible exact H | (rw [hy266]; exact H) | exact H
      have Ny266 := am hy266
      clear hy266
      have H' := am H
      clear H
      have p263 : 0 ≤ (x24_1 : Int) := zq6
      have q263 : x24_1 < (x5_1.length : Int) := zq6
      obtain ⟨ad263, e263, hx263_0⟩ := Kd.at_int (Kd.R_reads' HO_5.out).2.2 x24_1 p263 q263
      cases e263
      replace p263 := eq_true p263
      replace q263 := eq_true q263
      have p39 : 0 ≤ (x24_1 : Int) := zq6
      have q39 : (x24_1 : Int) < ((x5_1.length : Int) : Int) := zq6
      obtain ⟨go39, co39, eo39, gb39, gl39, cl39, HG39⟩ := Kd.R_form HO_5.out (by omega)
      (first | cases eo39 | (injection eo39 with ea_ en_ ec_; (first | subst ea_ | (injection ea_ with ea_; subst ea_)); subst ec_; clear en_))
      have GB39 := am gb39
      have GG39 := am HG39
      clear gb39 gl39 HG39
      (first | simp only [add_plain] at hx263_0 | skip)
      obtain ⟨hx39_0, hf39_0⟩ := Kd.R_celln 0 HO_5.out (x24_1 : Int) p39 q39
      replace p39 := eq_true p39
      replace q39 := eq_true q39
      have HP40 := Kd.R_putg HO_5.out (x24_1 : Int) ((IntKind.u64.wrap (x6_1 + (IntKind.u64.wrap (rd x5_1 x24_1)))) % 4294967296)
      go_wp2_with (first | ((with_reducible refine gate_store (t := 73) (p := 49) rfl ?_); refine zstore (t := 73) (p := 49) (w1 := (wr.setCell ⟨go39, (x24_1 : Int).toNat, none⟩ (.int .u32 ((IntKind.u64.wrap (x6_1 + (IntKind.u64.wrap (rd x5_1 x24_1)))) % 4294967296)))) ?_; intro w41 hw; have hg : wr.grownBy w41 (some go39) := (by rw [hw]; exact HP40.2); have hp_ : Kd.R (Kd.int .u32) 73 w41 w.heap.size (fun k_ => (w.heap.size ≤ k_)) (.slice (some ⟨go39, 0, none⟩) x5_1.length co30) y266 := (by rw [hw, Ny266.out]; exact HP40.1); clear HP40; refine zt2 (hp_) ((by rw [hw]; exact below_set (HB.out) GB39.out : Below w.heap.size w w41)) ?_; clear HO_5 HB; intro HO_5 HB; clear hg hw hp_))
      (try simp only [← hl5_1])
      go_roundg k1
      case measure => have := HK1.out; omega
      case rel => exact ⟨(y266), ((IntKind.u64.wrap (x6_1 + (IntKind.u64.wrap (rd x5_1 x24_1)))) / 4294967296), (wrap64 (x24_1 + 1)), zq8, zq8, (by first | exact H' | (rw [hji24]; exact H')), ⟨by have := HK1.out; omega⟩, ⟨by (try simp only [hl5_1]); (with_reducible repeat (first | apply Kd.R_alloc | apply Kd.R_drewN | apply Kd.R_drew)); exact HO_5.out⟩, ⟨zq1⟩⟩
    ·rw [if_neg c32] at H
     have c32b0 := decide_eq_false c32
     (try (have c32b0x := c32b0; rw [hl5_1] at c32b0x))
     clear c32
     replace H := zj H
     obtain ⟨t267, A42, H⟩ := H
     replace H : (some t267) = some r := H
     obtain rfl := Option.some.inj H
     go_wp2_with (first | ((with_reducible refine gate_callee (f := 62) rfl ?_); refine goesL_ (some 54) rfl rfl Tryz.func62 (by kernel_rfl) rfl #[.slice Ao30 x5_1.length co30] rfl zq5 ?_; (with_reducible refine (nat_Trim.calls k1 (fun k_ => some k_ = (.slice Ao30 x5_1.length co30 : Value).ownBlock) _ _ x5_1 t267 _ ?side1 A42.out).mono ?_); (case side1 => exact Kd.R_V (Kd.R_tight rfl (HO_5.out))); rintro e w43 ⟨v268, rfl, ho0, hb⟩; refine ⟨_, rfl, ?_⟩; refine zt3 (rb HO_5 hb) (Kd.V_lower (Kd.V_mono (ok' := fun k_ => (w.heap.size ≤ k_)) ho0 (fun k_ hk_ => Or.elim hk_ (fun hs_ => ((HO_5.out).1 k_ hs_.symm)) (fun hn_ => (Nat.le_trans (below_size zq1) hn_)))) (below_size zq1)) (below_step zq1 hb) ?_; clear HO_5 HB; intro HO_5 HO269 HB))
     go_ret
     exact ⟨_, by first | rfl | (simp [errW_none, errW_some] <;> rfl) | (simp only [← hji24]; first | rfl | (simp [errW_none, errW_some] <;> rfl)) | (simp [*, errW_none, errW_some] <;> rfl), zq3 HO269.out, zq1⟩
def nat_Sub.l0 : Nat → List Int → List Int → Int → Int → Int → Option (List Int)
 | 0, _, _, _, _, _ => none
 | k + 1, x1, x5, x6, x12, x13 => if x13 < x12 then (if 0 ≤ x13 then (if x13 < (x5.length : Int) then (if x13 < (x1.length : Int) then (nat_Sub.l0 k x1 (x5.set (x13 : Int).toNat ((IntKind.u64.wrap ((IntKind.u64.wrap ((IntKind.u64.wrap (rd x5 x13)) - x6)) - (IntKind.u64.wrap (rd x1 x13)))) % 4294967296)) (Go.bits .and .u64 ((IntKind.u64.wrap ((IntKind.u64.wrap ((IntKind.u64.wrap (rd x5 x13)) - x6)) - (IntKind.u64.wrap (rd x1 x13)))) / 4294967296) 1) x12 (wrap64 (x13 + 1))) else (nat_Sub.l0 k x1 (x5.set (x13 : Int).toNat ((IntKind.u64.wrap ((IntKind.u64.wrap (rd x5 x13)) - x6)) % 4294967296)) (Go.bits .and .u64 ((IntKind.u64.wrap ((IntKind.u64.wrap (rd x5 x13)) - x6)) / 4294967296) 1) x12 (wrap64 (x13 + 1)))) else (none)) else (none)) else ((nat_Trim.f k x5).bind fun t296 => (some t296))
def nat_Sub.f (k : Nat) (l0 : List Int) (l1 : List Int) : Option (List Int) := (slices_Clone_uint32_uint32.f l0).bind fun t289 => (nat_Sub.l0 k l1 t289 0 (t289.length : Int) 0)
set_option maxHeartbeats 8000000 in
set_option maxRecDepth 100000 in
theorem nat_Sub.calls (k : Nat) (A0 : Option Addr) (c0 : Nat) (l0 : List Int) (A1 : Option Addr) (c1 : Nat) (l1 : List Int) (r : List Int) (w : World) (hr0 : Kd.C (Kd.int .u32) w A0 l0.length l0) (hc0 : l0.length ≤ c0) (hr1 : Kd.C (Kd.int .u32) w A1 l1.length l1) (hc1 : l1.length ≤ c1) (h : nat_Sub.f k l0 l1 = some r) :
  Calls Tryz.prog 68 #[.slice A0 l0.length c0, .slice A1 l1.length c1] w fun e w' => ∃ v0_ : Value, e = .returned (v0_) ∧ Kd.V (Kd.int .u32) 73 w' w.heap.size (fun k_ => (w.heap.size ≤ k_)) v0_ r ∧ Below w.heap.size w w' := by
 have HR0 := am hr0
 have HC0 := am hc0
 clear hr0 hc0
 have HR1 := am hr1
 have HC1 := am hc1
 clear hr1 hc1
 have HB := am (Below.refl w.heap.size w)
 have H := h
 unfold nat_Sub.f at H
 clear h
 replace H := zj H
 obtain ⟨t289, A3, H⟩ := H
 have H' := am H
 clear H
 go_enter Tryz.func68, Tryz.ntmps68
 go_wp2_with (first | ((with_reducible refine gate_callee (f := 88) rfl ?_); refine goesL_ (some 10) rfl rfl Tryz.func88 (by kernel_rfl) rfl #[.slice A0 l0.length c0] rfl zq5 ?_; (with_reducible refine (slices_Clone_uint32_uint32.calls _ _ l0 t289 _ ?side1 ?side2 A3.out).mono ?_); (case side1 => exact zc (HR0.out)); (case side2 => exact HC0.out); rintro e w4 ⟨v290, rfl, ho0, hb⟩; refine ⟨_, rfl, ?_⟩; refine zt2 (Kd.R_lower (Kd.R_newM (M := fun k_ => (w.heap.size ≤ k_)) ho0 (below_size zq1) (fun k_ h_ => h_)) (below_size zq1)) (below_step zq1 hb) ?_; clear HB; intro HO291 HB; obtain ⟨Ao5, co5, eo5⟩ := Kd.R_slice HO291.out; subst eo5))
 go_loopg [6, 13] k (fun kq v6 v13 w' => ∃ (x5_1 : List Int) (x6_1 : Int) (x13_1 : Int), v6 = .int .u64 x6_1 ∧ v13 = .int .i64 x13_1 ∧ Aside0 (nat_Sub.l0 kq l1 x5_1 x6_1 (t289.length : Int) x13_1 = some r) ∧ Aside0 (kq ≤ k) ∧ Aside0 (Kd.R (Kd.int .u32) 73 w' w.heap.size (fun k_ => (w.heap.size ≤ k_)) (.slice Ao5 t289.length co5) x5_1) ∧ Aside0 (Below w.heap.size w w'))
 case atStart => exact ⟨(t289), (0), (0), zq8, zq8, H', ⟨Nat.le_refl _⟩, ⟨zwR (h := by exact Kd.R_mono HO291.out (fun _ hk => hk.1))⟩, ⟨zq1⟩⟩
 case round =>
  clear H'
  obtain ⟨x5_1, x6_1, x13_1, rfl, rfl, HA, HK1, HO_5, HB⟩ := hrel
  have hl5_1 := (Kd.R_reads' HO_5.out).1
  rw [hl5_1] at HO_5
  (try simp only [hl5_1])
  cases gk with
  | zero => exact absurd HA.out (by simp [nat_Sub.l0])
  | succ k1 =>
   have H := HA.out
   clear HA
   simp only [nat_Sub.l0] at H
   by_cases c6 : x13_1 < (t289.length : Int)
   ·rw [if_pos c6] at H
    have c6b0 := decide_eq_true c6
    clear c6
    replace H := zn H
    obtain ⟨c7, H⟩ := H
    have c7b0 := decide_eq_true c7
    clear c7
    replace H := zn H
    obtain ⟨c8, H⟩ := H
    have c8b0 := decide_eq_true c8
    clear c8
    by_cases c9 : x13_1 < (l1.length : Int)
    ·rw [if_pos c9] at H
     have c9b0 := decide_eq_true c9
     clear c9
     obtain ⟨y294, hy294⟩ : ∃ y_ : List Int, y_ = (x5_1.set (x13_1 : Int).toNat ((IntKind.u64.wrap ((IntKind.u64.wrap ((IntKind.u64.wrap (rd x5_1 x13_1)) - x6_1)) - (IntKind.u64.wrap (rd l1 x13_1)))) % 4294967296)) := ⟨_, rfl⟩
     try rw [← hy294] at H
     have Ny294 := am hy294
     clear hy294
     have H' := am H
     clear H
     have p292 : 0 ≤ (x13_1 : Int) := zq6
     have q292 : x13_1 < (x5_1.length : Int) := zq6
     obtain ⟨ad292, e292, hx292_0⟩ := Kd.at_int (Kd.R_reads' HO_5.out).2.2 x13_1 p292 q292
     cases e292
     replace p292 := eq_true p292
     replace q292 := eq_true q292
     have p293 : 0 ≤ (x13_1 : Int) := zq6
     have q293 : x13_1 < (l1.length : Int) := zq6
     obtain ⟨ad293, e293, hx293_0⟩ := Kd.at_int HR1.out x13_1 p293 q293
     cases e293
     replace hx293_0 := (HB.out.cell (World.block_lt_of_cell? w _ hx293_0)).trans hx293_0
     replace p293 := eq_true p293
     replace q293 := eq_true q293
     have p10 : 0 ≤ (x13_1 : Int) := zq6
     have q10 : (x13_1 : Int) < ((x5_1.length : Int) : Int) := zq6
     obtain ⟨go10, co10, eo10, gb10, gl10, cl10, HG10⟩ := Kd.R_form HO_5.out (by omega)
     (first | cases eo10 | (injection eo10 with ea_ en_ ec_; (first | subst ea_ | (injection ea_ with ea_; subst ea_)); subst ec_; clear en_))
     have GB10 := am gb10
     have GG10 := am HG10
     clear gb10 gl10 HG10
     (first | simp only [add_plain] at hx292_0 | skip)
     obtain ⟨hx10_0, hf10_0⟩ := Kd.R_celln 0 HO_5.out (x13_1 : Int) p10 q10
     replace p10 := eq_true p10
     replace q10 := eq_true q10
     have HP11 := Kd.R_putg HO_5.out (x13_1 : Int) ((IntKind.u64.wrap ((IntKind.u64.wrap ((IntKind.u64.wrap (rd x5_1 x13_1)) - x6_1)) - (IntKind.u64.wrap (rd l1 x13_1)))) % 4294967296)
     go_wp2_with (first | ((with_reducible refine gate_store (t := 73) (p := 38) rfl ?_); refine zstore (t := 73) (p := 38) (w1 := (wr.setCell ⟨go10, (x13_1 : Int).toNat, none⟩ (.int .u32 ((IntKind.u64.wrap ((IntKind.u64.wrap ((IntKind.u64.wrap (rd x5_1 x13_1)) - x6_1)) - (IntKind.u64.wrap (rd l1 x13_1)))) % 4294967296)))) ?_; intro w12 hw; have hg : wr.grownBy w12 (some go10) := (by rw [hw]; exact HP11.2); have hp_ : Kd.R (Kd.int .u32) 73 w12 w.heap.size (fun k_ => (w.heap.size ≤ k_)) (.slice (some ⟨go10, 0, none⟩) x5_1.length co5) y294 := (by rw [hw, Ny294.out]; exact HP11.1); clear HP11; refine zt2 (hp_) ((by rw [hw]; exact below_set (HB.out) GB10.out : Below w.heap.size w w12)) ?_; clear HO_5 HB; intro HO_5 HB; clear hg hw hp_))
     (try simp only [← hl5_1])
     go_roundg k1
     case measure => have := HK1.out; omega
     case rel => exact ⟨(y294), (Go.bits .and .u64 ((IntKind.u64.wrap ((IntKind.u64.wrap ((IntKind.u64.wrap (rd x5_1 x13_1)) - x6_1)) - (IntKind.u64.wrap (rd l1 x13_1)))) / 4294967296) 1), (wrap64 (x13_1 + 1)), zq8, zq8, H', ⟨by have := HK1.out; omega⟩, ⟨by (try simp only [hl5_1]); (with_reducible repeat (first | apply Kd.R_alloc | apply Kd.R_drewN | apply Kd.R_drew)); exact HO_5.out⟩, ⟨zq1⟩⟩
    ·rw [if_neg c9] at H
     have c9b0 := decide_eq_false c9
     (try (have c9b0x := c9b0; rw [hl5_1] at c9b0x))
     clear c9
     obtain ⟨y295, hy295⟩ : ∃ y_ : List Int, y_ = (x5_1.set (x13_1 : Int).toNat ((IntKind.u64.wrap ((IntKind.u64.wrap (rd x5_1 x13_1)) - x6_1)) % 4294967296)) := ⟨_, rfl⟩
     try rw [← hy295] at H
     have Ny295 := am hy295
     clear hy295
     have H' := am H
     clear H
     have p292 : 0 ≤ (x13_1 : Int) := zq6
     have q292 : x13_1 < (x5_1.length : Int) := zq6
     obtain ⟨ad292, e292, hx292_0⟩ := Kd.at_int (Kd.R_reads' HO_5.out).2.2 x13_1 p292 q292
     cases e292
     replace p292 := eq_true p292
     replace q292 := eq_true q292
     have p13 : 0 ≤ (x13_1 : Int) := zq6
     have q13 : (x13_1 : Int) < ((x5_1.length : Int) : Int) := zq6
     obtain ⟨go13, co13, eo13, gb13, gl13, cl13, HG13⟩ := Kd.R_form HO_5.out (by omega)
     (first | cases eo13 | (injection eo13 with ea_ en_ ec_; (first | subst ea_ | (injection ea_ with ea_; subst ea_)); subst ec_; clear en_))
     have GB13 := am gb13
     have GG13 := am HG13
     clear gb13 gl13 HG13
     (first | simp only [add_plain] at hx292_0 | skip)
     obtain ⟨hx13_0, hf13_0⟩ := Kd.R_celln 0 HO_5.out (x13_1 : Int) p13 q13
     replace p13 := eq_true p13
     replace q13 := eq_true q13
     have HP14 := Kd.R_putg HO_5.out (x13_1 : Int) ((IntKind.u64.wrap ((IntKind.u64.wrap (rd x5_1 x13_1)) - x6_1)) % 4294967296)
     go_wp2_with (first | ((with_reducible refine gate_store (t := 73) (p := 38) rfl ?_); refine zstore (t := 73) (p := 38) (w1 := (wr.setCell ⟨go13, (x13_1 : Int).toNat, none⟩ (.int .u32 ((IntKind.u64.wrap ((IntKind.u64.wrap (rd x5_1 x13_1)) - x6_1)) % 4294967296)))) ?_; intro w15 hw; have hg : wr.grownBy w15 (some go13) := (by rw [hw]; exact HP14.2); have hp_ : Kd.R (Kd.int .u32) 73 w15 w.heap.size (fun k_ => (w.heap.size ≤ k_)) (.slice (some ⟨go13, 0, none⟩) x5_1.length co5) y295 := (by rw [hw, Ny295.out]; exact HP14.1); clear HP14; refine zt2 (hp_) ((by rw [hw]; exact below_set (HB.out) GB13.out : Below w.heap.size w w15)) ?_; clear HO_5 HB; intro HO_5 HB; clear hg hw hp_))
     (try simp only [← hl5_1])
     go_roundg k1
     case measure => have := HK1.out; omega
     case rel => exact ⟨(y295), (Go.bits .and .u64 ((IntKind.u64.wrap ((IntKind.u64.wrap (rd x5_1 x13_1)) - x6_1)) / 4294967296) 1), (wrap64 (x13_1 + 1)), zq8, zq8, H', ⟨by have := HK1.out; omega⟩, ⟨by (try simp only [hl5_1]); (with_reducible repeat (first | apply Kd.R_alloc | apply Kd.R_drewN | apply Kd.R_drew)); exact HO_5.out⟩, ⟨zq1⟩⟩
   ·rw [if_neg c6] at H
    have c6b0 := decide_eq_false c6
    (try (have c6b0x := c6b0; rw [hl5_1] at c6b0x))
    clear c6
    replace H := zj H
    obtain ⟨t296, A16, H⟩ := H
    obtain rfl := Option.some.inj H
    go_wp2_with (first | ((with_reducible refine gate_callee (f := 62) rfl ?_); refine goesL_ (some 44) rfl rfl Tryz.func62 (by kernel_rfl) rfl #[.slice Ao5 x5_1.length co5] rfl zq5 ?_; (with_reducible refine (nat_Trim.calls k1 (fun k_ => some k_ = (.slice Ao5 x5_1.length co5 : Value).ownBlock) _ _ x5_1 t296 _ ?side1 A16.out).mono ?_); (case side1 => exact Kd.R_V (Kd.R_tight rfl (HO_5.out))); rintro e w17 ⟨v297, rfl, ho0, hb⟩; refine ⟨_, rfl, ?_⟩; refine zt3 (rb HO_5 hb) (Kd.V_lower (Kd.V_mono (ok' := fun k_ => (w.heap.size ≤ k_)) ho0 (fun k_ hk_ => Or.elim hk_ (fun hs_ => ((HO_5.out).1 k_ hs_.symm)) (fun hn_ => (Nat.le_trans (below_size zq1) hn_)))) (below_size zq1)) (below_step zq1 hb) ?_; clear HO_5 HB; intro HO_5 HO298 HB))
    go_ret
    exact ⟨_, zq9, zq3 HO298.out, zq1⟩
end Go.Proofs.YtemnjgkicndmjaaGreatDoor.Q

namespace Go.Proofs.YtemnjgkicndmjaaGreatDoor.E
open Go.RowKit Go.Proofs.YtemnjgkicndmjaaGreatDoorW.PrintWords
set_option linter.unusedVariables false
set_option linter.unusedSimpArgs false
inductive AV where
  | any | bool (b : Bool) | int (k : IntKind) (n : Int) | str (s : ByteArray) | nil
  | z0 | pnil | mnil | fnil
  | row (k : IntKind) (l : List Int) | arr (sz : Nat) (l : List AV) | at_ (l : List AV) | ptr (h off : Nat) | sl (s h n : Nat) | mp (h : Nat) | fn (f : Nat) (l : List AV)
  | agg (l : List AV) | tup (l : List AV) | mc (ks vs : List AV) (bs : List Nat) (clock : Nat)
instance : Inhabited AV := ⟨.any⟩
def Reads (a : Addr) (vs : List Value) (W : World) : Prop := ∀ i u, vs[i]? = some u → W.cell? (a.add i) = some u
mutual
def Rep (φ : Nat → Option (Nat × Nat)) (W : World) (ok : Nat → Prop) : AV → Value → Prop
  | .any, _ => True
  | .bool b, v => v = .bool b
  | .int k n, v => v = .int k n
  | .str s, v => v = .string s
  | .nil, v => v = .slice none 0 0
  | .row k l, v => ∃ A c, v = .slice A l.length c ∧ l.length ≤ c ∧ Kd.F (Kd.int k) W ok A l.length l
  | .arr sz l, v => ∃ a n c vs, v = .slice (some a) n c ∧ n ≤ c ∧ n * sz = l.length ∧ n ≤ 9223372036854775807 ∧ Foot (Reads a vs) W ok ∧ Reps φ W ok l vs
  | .at_ l, v => ∃ a vs, v = .pointer (some a) ∧ a.spot = none ∧ Foot (Reads a vs) W ok ∧ Reps φ W ok l vs
  | .z0, v => ∃ A, v = .slice A 0 0
  | .pnil, v => v = .pointer none
  | .mnil, v => v = .map none
  | .fnil, v => v = .nilFunc
  | .ptr h off, v => ∃ b t, φ h = some (b, t) ∧ v = .pointer (some ⟨b, off, none⟩)
  | .sl s h n, v => ∃ b c, φ h = some (b, c * s) ∧ v = .slice (some ⟨b, 0, none⟩) n c ∧ n ≤ c ∧ c ≤ 9223372036854775807
  | .mp h, v => ∃ b, φ h = some (b, 0) ∧ v = .map (some b)
  | .fn f l, v => ∃ cs, v = .func (.func f) #[] cs ∧ Reps φ W ok l cs.toList
  | .agg l, v => ∃ cs, v = .agg cs ∧ Reps φ W ok l cs.toList
  | .tup l, v => ∃ cs, v = .tuple cs ∧ Reps φ W ok l cs.toList
  | .mc _ _ _ _, _ => False
def Reps (φ : Nat → Option (Nat × Nat)) (W : World) (ok : Nat → Prop) : List AV → List Value → Prop
  | [], vs => vs = []
  | x :: l, vs => ∃ v vs', vs = v :: vs' ∧ Rep φ W ok x v ∧ Reps φ W ok l vs'
end
mutual
def noPtr : AV → Bool
  | .ptr _ _ | .sl _ _ _ | .mp _ | .mc _ _ _ _ => false
  | .arr _ l | .at_ l | .agg l | .tup l | .fn _ l => noPtrs l
  | _ => true
def noPtrs : List AV → Bool
  | [] => true
  | x :: l => noPtr x && noPtrs l
end
def atom : AV → Bool
  | .agg _ | .tup _ | .any | .mc _ _ _ _ => false
  | _ => true
section
variable {φ φ' : Nat → Option (Nat × Nat)} {W W1 : World} {ok ok' : Nat → Prop}
theorem Foot_move {p : World → Prop} (h : Foot p W ok) (hok : ∀ k, ok k → k < W.heap.size → ok' k) (hm : ∀ k, ok k → k < W.heap.size → W1.heap[k]? = W.heap[k]?) : Foot p W1 ok' :=
  ((h.bound).step (fun k hk hl => hm k hk.1 hl)).mono (fun k hk => hok k hk.1 hk.2)
mutual
theorem Rep.move (hφ : ∀ h b, φ h = some b → φ' h = some b) (hok : ∀ k, ok k → k < W.heap.size → ok' k) (hm : ∀ k, ok k → k < W.heap.size → W1.heap[k]? = W.heap[k]?) : ∀ (x : AV) {v : Value}, Rep φ W ok x v → Rep φ' W1 ok' x v
  | .any, _, h => by simp only [Rep]
  | .bool b, _, h => by simpa only [Rep] using h
  | .int k n, _, h => by simpa only [Rep] using h
  | .str s, _, h => by simpa only [Rep] using h
  | .nil, _, h => by simpa only [Rep] using h
  | .row k l, _, h => by
    simp only [Rep] at h ⊢
    obtain ⟨A, c, h1, h2, h3⟩ := h
    exact ⟨A, c, h1, h2, Foot_move h3 hok hm⟩
  | .arr sz l, _, h => by
    simp only [Rep] at h ⊢
    obtain ⟨a, n, c, vs, h1, h2, h3, h4, h5, h6⟩ := h
    exact ⟨a, n, c, vs, h1, h2, h3, h4, Foot_move h5 hok hm, Reps.move hφ hok hm l h6⟩
  | .at_ l, _, h => by
    simp only [Rep] at h ⊢
    obtain ⟨a, vs, h1, h2, h3, h4⟩ := h
    exact ⟨a, vs, h1, h2, Foot_move h3 hok hm, Reps.move hφ hok hm l h4⟩
  | .z0, _, h => by simpa only [Rep] using h
  | .pnil, _, h => by simpa only [Rep] using h
  | .mnil, _, h => by simpa only [Rep] using h
  | .fnil, _, h => by simpa only [Rep] using h
  | .mc _ _ _ _, _, h => by simp only [Rep] at h
  | .ptr h off, _, hh => by
    simp only [Rep] at hh ⊢
    obtain ⟨b, t, h1, h2⟩ := hh
    exact ⟨b, t, hφ _ _ h1, h2⟩
  | .sl s h n, _, hh => by
    simp only [Rep] at hh ⊢
    obtain ⟨b, c, h1, h2⟩ := hh
    exact ⟨b, c, hφ _ _ h1, h2⟩
  | .mp h, _, hh => by
    simp only [Rep] at hh ⊢
    obtain ⟨b, h1, h2⟩ := hh
    exact ⟨b, hφ _ _ h1, h2⟩
  | .fn f l, _, h => by
    simp only [Rep] at h ⊢
    obtain ⟨cs, h1, h2⟩ := h
    exact ⟨cs, h1, Reps.move hφ hok hm l h2⟩
  | .agg l, _, h => by
    simp only [Rep] at h ⊢
    obtain ⟨cs, h1, h2⟩ := h
    exact ⟨cs, h1, Reps.move hφ hok hm l h2⟩
  | .tup l, _, h => by
    simp only [Rep] at h ⊢
    obtain ⟨cs, h1, h2⟩ := h
    exact ⟨cs, h1, Reps.move hφ hok hm l h2⟩
theorem Reps.move (hφ : ∀ h b, φ h = some b → φ' h = some b) (hok : ∀ k, ok k → k < W.heap.size → ok' k) (hm : ∀ k, ok k → k < W.heap.size → W1.heap[k]? = W.heap[k]?) : ∀ (l : List AV) {vs : List Value}, Reps φ W ok l vs → Reps φ' W1 ok' l vs
  | [], _, h => by simpa only [Reps] using h
  | x :: l, _, h => by
    simp only [Reps] at h ⊢
    obtain ⟨v, vs', h1, h2, h3⟩ := h
    exact ⟨v, vs', h1, Rep.move hφ hok hm x h2, Reps.move hφ hok hm l h3⟩
end
mutual
theorem Rep.free : ∀ (x : AV) {v : Value}, noPtr x = true → Rep φ W ok x v → Rep φ' W ok x v
  | .any, _, _, h => by simp only [Rep]
  | .bool b, _, _, h => by simpa only [Rep] using h
  | .int k n, _, _, h => by simpa only [Rep] using h
  | .str s, _, _, h => by simpa only [Rep] using h
  | .nil, _, _, h => by simpa only [Rep] using h
  | .row k l, _, _, h => by simpa only [Rep] using h
  | .arr sz l, _, hn, h => by
    simp only [Rep] at h ⊢; simp only [noPtr] at hn
    obtain ⟨a, n, c, vs, h1, h2, h3, h4, h5, h6⟩ := h
    exact ⟨a, n, c, vs, h1, h2, h3, h4, h5, Reps.free l hn h6⟩
  | .at_ l, _, hn, h => by
    simp only [Rep] at h ⊢; simp only [noPtr] at hn
    obtain ⟨a, vs, h1, h2, h3, h4⟩ := h
    exact ⟨a, vs, h1, h2, h3, Reps.free l hn h4⟩
  | .z0, _, _, h => by simpa only [Rep] using h
  | .pnil, _, _, h => by simpa only [Rep] using h
  | .mnil, _, _, h => by simpa only [Rep] using h
  | .fnil, _, _, h => by simpa only [Rep] using h
  | .mc _ _ _ _, _, hn, _ => by simp [noPtr] at hn
  | .ptr h off, _, hn, _ => by simp [noPtr] at hn
  | .sl _ _ _, _, hn, _ => by simp [noPtr] at hn
  | .mp _, _, hn, _ => by simp [noPtr] at hn
  | .fn f l, _, hn, h => by
    simp only [Rep] at h ⊢; simp only [noPtr] at hn
    obtain ⟨cs, h1, h2⟩ := h
    exact ⟨cs, h1, Reps.free l hn h2⟩
  | .agg l, _, hn, h => by
    simp only [Rep] at h ⊢; simp only [noPtr] at hn
    obtain ⟨cs, h1, h2⟩ := h
    exact ⟨cs, h1, Reps.free l hn h2⟩
  | .tup l, _, hn, h => by
    simp only [Rep] at h ⊢; simp only [noPtr] at hn
    obtain ⟨cs, h1, h2⟩ := h
    exact ⟨cs, h1, Reps.free l hn h2⟩
theorem Reps.free : ∀ (l : List AV) {vs : List Value}, noPtrs l = true → Reps φ W ok l vs → Reps φ' W ok l vs
  | [], _, _, h => by simpa only [Reps] using h
  | x :: l, _, hn, h => by
    simp only [Reps] at h ⊢; simp only [noPtrs, Bool.and_eq_true] at hn
    obtain ⟨v, vs', h1, h2, h3⟩ := h
    exact ⟨v, vs', h1, Rep.free x hn.1 h2, Reps.free l hn.2 h3⟩
end
theorem Reps.length : ∀ {l : List AV} {vs : List Value}, Reps φ W ok l vs → vs.length = l.length
  | [], _, h => by simp only [Reps] at h; subst h; rfl
  | x :: l, _, h => by
    simp only [Reps] at h
    obtain ⟨v, vs', rfl, _, h3⟩ := h
    simp [Reps.length h3]
theorem Reps.get : ∀ {l : List AV} {vs : List Value} (i : Nat) {x : AV}, Reps φ W ok l vs → l[i]? = some x → ∃ v, vs[i]? = some v ∧ Rep φ W ok x v
  | [], _, i, _, _, hx => by simp at hx
  | y :: l, _, i, x, h, hx => by
    simp only [Reps] at h
    obtain ⟨v, vs', rfl, h2, h3⟩ := h
    cases i with
    | zero => simp at hx; subst hx; exact ⟨v, rfl, h2⟩
    | succ i => simpa using Reps.get i h3 (by simpa using hx)
theorem Reps.drop : ∀ {l : List AV} {vs : List Value} (i : Nat), Reps φ W ok l vs → Reps φ W ok (l.drop i) (vs.drop i)
  | [], _, i, h => by simp only [Reps] at h; subst h; simp [Reps]
  | y :: l, _, i, h => by
    have h' := h
    simp only [Reps] at h
    obtain ⟨v, vs', rfl, h2, h3⟩ := h
    cases i with
    | zero => exact h'
    | succ i => simpa using Reps.drop i h3
theorem Reps.take : ∀ {l : List AV} {vs : List Value} (i : Nat), Reps φ W ok l vs → Reps φ W ok (l.take i) (vs.take i)
  | [], _, i, h => by simp only [Reps] at h; subst h; simp [Reps]
  | y :: l, _, i, h => by
    simp only [Reps] at h
    obtain ⟨v, vs', rfl, h2, h3⟩ := h
    cases i with
    | zero => simp [Reps]
    | succ i => simp only [List.take_succ_cons, Reps]; exact ⟨_, _, rfl, h2, Reps.take i h3⟩
theorem Reps.append : ∀ {l l' : List AV} {vs vs' : List Value}, Reps φ W ok l vs → Reps φ W ok l' vs' → Reps φ W ok (l ++ l') (vs ++ vs')
  | [], _, _, _, h, h' => by simp only [Reps] at h; subst h; simpa using h'
  | y :: l, _, _, _, h, h' => by
    simp only [Reps] at h
    obtain ⟨v, vs', rfl, h2, h3⟩ := h
    simp only [List.cons_append, Reps]; exact ⟨_, _, rfl, h2, Reps.append h3 h'⟩
theorem Rep.one {x : AV} {v : Value} (ha : atom x = true) (h : Rep φ W ok x v) : v.oneCell' = true ∧ v.cells = #[v] := by
  cases x <;> simp only [atom] at ha <;> first | cases ha | skip
  all_goals (simp only [Rep] at h)
  all_goals first
    | (subst h; exact ⟨rfl, rfl⟩)
    | (obtain ⟨_, _, rfl, _⟩ := h; exact ⟨rfl, rfl⟩)
    | (obtain ⟨_, rfl, _⟩ := h; exact ⟨rfl, rfl⟩)
    | (obtain ⟨_, _, _, _, rfl, _⟩ := h; exact ⟨rfl, rfl⟩)
    | (obtain ⟨_, _, rfl⟩ := h; exact ⟨rfl, rfl⟩)
    | (obtain ⟨_, rfl⟩ := h; exact ⟨rfl, rfl⟩)
    | (obtain ⟨_, _, _, rfl, _⟩ := h; exact ⟨rfl, rfl⟩)
    | (obtain ⟨_, _, _, rfl⟩ := h; exact ⟨rfl, rfl⟩)
end
def upd (f : Nat → AV) (t : Nat) (v : AV) : Nat → AV := fun x => bif Nat.beq x t then v else f x
theorem upd_eq (f : Nat → AV) (t : Nat) (v : AV) (x : Nat) : upd f t v x = if x = t then v else f x := by
  unfold upd
  by_cases h : x = t
  · subst h; simp
  · have : Nat.beq x t = false := by
      cases hb : Nat.beq x t
      · rfl
      · exact absurd (Nat.eq_of_beq_eq_true hb) h
    simp [this, h]
def absAtom : Value → AV
  | .bool b => .bool b
  | .int k n => .int k n
  | .string s => .str s
  | .slice none 0 0 => .nil
  | .func (.func f) ⟨[]⟩ ⟨[]⟩ => .fn f []
  | .pointer none => .pnil
  | .map none => .mnil
  | .nilFunc => .fnil
  | _ => .any
def absV : Value → AV
  | .agg cs => .agg (cs.toList.map absAtom)
  | .tuple cs => .tup (cs.toList.map absAtom)
  | v => absAtom v
def ev (τ : Nat → AV) : Operand → AV
  | .tmp t => τ t
  | .const v => absV v
  | .func f => .fn f []
  | .global _ => .any
def cellsOf (x : AV) : Option (List AV) :=
  match x with
  | .agg l => if l.all atom then some l else none
  | x => if atom x then some [x] else none
def isAgg' (P : Program) (t : TypeId) : Bool :=
  match P.underlying t with
  | some (.struct _) | some (.array _ _) => true
  | _ => false
def sz (P : Program) (t : TypeId) : Option Nat := (P.info? t).map (·.size)
def loadA (P : Program) (t : TypeId) (cs : List AV) : Option AV :=
  if (P.underlying t).isNone then none else
  if isAgg' P t then
    match sz P t with
    | some n => if n ≤ cs.length then some (.agg (cs.take n)) else none
    | none => none
  else cs.head?
structure Eff where
  dst : AV
  rd : List Nat
  wr : List (Nat × AV)
  all : Option (Nat → AV)
  used : Nat
def val (x : AV) : Eff := ⟨x, [], [], none, 0⟩
def bitsA (op : BinOp) (k : IntKind) (x y : Int) : Option AV :=
  let a := BitVec.ofInt k.bits x
  let b := BitVec.ofInt k.bits y
  match op with
  | .and => some (.int k (k.wrap (a &&& b).toNat))
  | .or => some (.int k (k.wrap (a ||| b).toNat))
  | .xor => some (.int k (k.wrap (a ^^^ b).toNat))
  | .andNot => some (.int k (k.wrap (a &&& ~~~b).toNat))
  | _ => none
def binI {R : Type} (op : BinOp) (k : IntKind) (a b : Int) (K : AV → Option R) : Option R :=
  match op with
  | .add => K (.int k (k.wrap (a + b)))
  | .sub => K (.int k (k.wrap (a - b)))
  | .mul => K (.int k (k.wrap (a * b)))
  | .quo => if b = 0 then none else K (.int k (k.wrap (a.tdiv b)))
  | .rem => if b = 0 then none else K (.int k (a.tmod b))
  | .eql => K (.bool (a == b))
  | .neq => K (.bool (a != b))
  | .lss => K (.bool (decide (a < b)))
  | .leq => K (.bool (decide (a ≤ b)))
  | .gtr => K (.bool (decide (a > b)))
  | .geq => K (.bool (decide (a ≥ b)))
  | op => match bitsA op k a b with | some v => K v | none => none
def binA {R : Type} (P : Program) (op : BinOp) (t : TypeId) (x y : AV) (K : AV → Option R) : Option R :=
  match x, y with
  | .int k a, .int k' b =>
    match op with
    | .shl => if b < 0 then none else K (.int k (k.wrap (a * 2 ^ min b.toNat k.bits)))
    | .shr => if b < 0 then none else K (.int k (a.fdiv (2 ^ min b.toNat k.bits)))
    | op => if k = k' then binI op k a b K else none
  | .bool a, .bool b =>
    match op, P.underlying t with
    | .eql, some .bool => K (.bool (a == b))
    | .neq, some .bool => K (.bool (!(a == b)))
    | _, _ => none
  | .str a, .str b =>
    match op with
    | .eql => K (.bool (a.toList == b.toList))
    | .neq => K (.bool (!(a.toList == b.toList)))
    | .add => if a.size + b.size ≤ 9223372036854775807 then K (.str (a ++ b)) else none
    | _ => none
  | _, _ => none
def unA (op : UnOp) (x : AV) : Option AV :=
  match op, x with
  | .not, .bool b => some (.bool !b)
  | .neg, .int k n => some (.int k (k.wrap (0 - n)))
  | .xor, .int k n => some (.int k (k.wrap (BitVec.ofInt k.bits (if k.signed = true then -1 else k.max) ^^^ BitVec.ofInt k.bits n).toNat))
  | _, _ => none
def lenA (x : AV) : Option AV :=
  match x with
  | .str s => some (.int .i64 (s.size : Nat))
  | .nil => some (.int .i64 0)
  | .z0 => some (.int .i64 0)
  | .row _ l => some (.int .i64 (l.length : Nat))
  | .sl _ _ n => some (.int .i64 (n : Nat))
  | .arr s l => if s = 0 then none else some (.int .i64 ((l.length / s : Nat)))
  | _ => none
def fieldsOf (P : Program) (t : TypeId) : Option (Array Field) :=
  match P.underlying t with
  | some (.struct fs) => some fs
  | _ => none
def fieldAt' (P : Program) (t : TypeId) (f : Nat) : Option (Nat × Nat) :=
  match fieldsOf P t with
  | some fs => match fs[f]? with
    | some fd => match sz P fd.type with
      | some n => if n = 0 then none else some (fd.offset, n)
      | none => none
    | none => none
  | none => none
def setL (cs : List AV) (off : Nat) (vs : List AV) : List AV := cs.take off ++ vs ++ cs.drop (off + vs.length)
def placesOf (P : Program) (t : TypeId) : Option (List (Nat × Nat)) :=
  match fieldsOf P t with
  | some fs => fs.toList.mapM fun f => (P.info? f.type).map fun i => (f.offset, i.size)
  | none => none
def fillA (place : Nat → Option (Nat × Nat)) (τ : Nat → AV) : List (Nat × Operand) → List AV → Option (List AV)
  | [], cs => some cs
  | (i, x) :: rest, cs =>
    match place i, cellsOf (ev τ x) with
    | some (off, n), some vs => if vs.length = n ∧ off + n ≤ cs.length then fillA place τ rest (setL cs off vs) else none
    | _, _ => none
def zeroCells' (P : Program) (t : TypeId) : Option (List AV) := ((P.info? t).bind (·.zero)).bind fun v => cellsOf (absV v)
def asInts (k : IntKind) : List AV → Option (List Int)
  | [] => some []
  | .int k' n :: l => if k = k' then match asInts k l with | some is => some (n :: is) | none => none else none
  | _ => none
def partsOf (n : Nat) (τ : Nat → AV) : Nat → List (Nat × Operand) → Option (List AV)
  | _, [] => some []
  | i, (j, x) :: rest =>
    match cellsOf (ev τ x), partsOf n τ (i + 1) rest with
    | some c, some l => if c.length = n ∧ i = j then some (c ++ l) else none
    | _, _ => none
abbrev Fun := (R : Type) → List AV → (AV → Option R) → Option R
abbrev HFun := (R : Type) → List AV → (Nat → AV) → Nat → (AV → (Nat → AV) → Nat → Option R) → Option R
abbrev OFun := (R : Type) → List AV → (AV → List AV → Option R) → Option R
inductive Tf where
  | pure (F : Fun)
  | heap (F : HFun)
  | own (F : OFun)
abbrev Tab := Nat → Option Tf
def contC : AV → Option (List AV)
  | .agg cs => some cs
  | .row k l => some (l.map (.int k))
  | _ => none
mutual
def frz (β : Nat → AV) : AV → Option (AV × List Nat)
  | .sl s h n => match β h with
    | .row k l => if s = 1 ∧ n ≤ l.length then some (.row k (l.take n), [h]) else none
    | .agg cs => if noPtrs cs = true ∧ n * s ≤ cs.length then some (.arr s (cs.take (n * s)), [h]) else none
    | _ => none
  | .ptr h off => match β h with
    | .agg cs => if noPtrs cs = true then some (.at_ (cs.drop off), [h]) else none
    | _ => none
  | .mp _ => none
  | .mc _ _ _ _ => none
  | .arr s l => match frzs β l with | some (l', hs) => some (.arr s l', hs) | none => none
  | .at_ l => match frzs β l with | some (l', hs) => some (.at_ l', hs) | none => none
  | .agg l => match frzs β l with | some (l', hs) => some (.agg l', hs) | none => none
  | .tup l => match frzs β l with | some (l', hs) => some (.tup l', hs) | none => none
  | .fn f l => match frzs β l with | some (l', hs) => some (.fn f l', hs) | none => none
  | x => some (x, [])
def frzs (β : Nat → AV) : List AV → Option (List AV × List Nat)
  | [] => some ([], [])
  | x :: l => match frz β x, frzs β l with
    | some (y, hs), some (l', hs') => some (y :: l', hs ++ hs')
    | _, _ => none
end
mutual
def frzK {R : Type} (β : Nat → AV) : AV → (AV → List Nat → Option R) → Option R
  | .sl s h n, K => match β h with
    | .row k l => if s = 1 then (if n ≤ l.length then K (.row k (l.take n)) [h] else none) else none
    | .agg cs => if noPtrs cs = true then (if n * s ≤ cs.length then K (.arr s (cs.take (n * s))) [h] else none) else none
    | _ => none
  | .ptr h off, K => match β h with
    | .agg cs => if noPtrs cs = true then K (.at_ (cs.drop off)) [h] else none
    | _ => none
  | .mp _, K => none
  | .mc _ _ _ _, K => none
  | .arr s l, K => frzsK β l fun l' hs => K (.arr s l') hs
  | .at_ l, K => frzsK β l fun l' hs => K (.at_ l') hs
  | .agg l, K => frzsK β l fun l' hs => K (.agg l') hs
  | .tup l, K => frzsK β l fun l' hs => K (.tup l') hs
  | .fn f l, K => frzsK β l fun l' hs => K (.fn f l') hs
  | x, K => K x []
def frzsK {R : Type} (β : Nat → AV) : List AV → (List AV → List Nat → Option R) → Option R
  | [], K => K [] []
  | x :: l, K => frzK β x fun y hs => frzsK β l fun l' hs' => K (y :: l') (hs ++ hs')
end
mutual
def shift (n : Nat) : AV → AV
  | .sl s h m => .sl s (h + n) m
  | .ptr h off => .ptr (h + n) off
  | .mp h => .mp (h + n)
  | .mc ks vs bs c => .mc (shifts n ks) (shifts n vs) bs c
  | .arr s l => .arr s (shifts n l)
  | .at_ l => .at_ (shifts n l)
  | .agg l => .agg (shifts n l)
  | .tup l => .tup (shifts n l)
  | .fn f l => .fn f (shifts n l)
  | x => x
def shifts (n : Nat) : List AV → List AV
  | [] => []
  | x :: l => shift n x :: shifts n l
end
def ownW (n : Nat) : Nat → List AV → List (Nat × AV)
  | _, [] => []
  | h, b :: bs => (h, shift n b) :: ownW n (h + 1) bs
def indexA {R : Type} (x i : AV) (K : AV → Option R) : Option R :=
  match x, i with
  | .row k l, .int _ n => if 0 ≤ n ∧ n < l.length then K (.at_ [.int k (l.getD n.toNat 0)]) else none
  | .arr s l, .int _ n => if 0 < s ∧ 0 ≤ n ∧ (n + 1) * s ≤ l.length then K (.at_ ((l.drop (n.toNat * s)).take s)) else none
  | .sl s h m, .int _ n => if 0 ≤ n ∧ n < m then K (.ptr h (if s = 1 then n.toNat else n.toNat * s)) else none
  | _, _ => none
def loadB {R : Type} (P : Program) (t : TypeId) (c : AV) (off : Nat) (K : AV → Option R) : Option R :=
  match c with
  | .agg cs => match loadA P t (cs.drop off) with | some v => K v | none => none
  | .row k l => if (P.underlying t).isNone = true ∨ isAgg' P t = true then none else if off < l.length then K (.int k (l.getD off 0)) else none
  | _ => none
def storeB {R : Type} (P : Program) (t : TypeId) (c : AV) (off : Nat) (x : AV) (K : AV → Option R) : Option R :=
  match c with
  | .agg cs => match cellsOf x with
    | some vs => if sz P t = some vs.length ∧ off + vs.length ≤ cs.length then K (.agg (setL cs off vs)) else none
    | none => none
  | .row k l => match x with
    | .int k' n => if k' = k ∧ sz P t = some 1 then (if off < l.length then K (.row k (l.set off n)) else none) else none
    | _ => none
  | _ => none
def bnd {R : Type} (y : Nat) (dflt : Nat) (τ : Nat → AV) (x : Option Operand) (K : Nat → Option R) : Option R :=
  match x with
  | none => K dflt
  | some x => match ev τ x with
    | .int _ n => if 0 ≤ n ∧ n ≤ y then K n.toNat else none
    | _ => none
def sliceA {R : Type} (τ : Nat → AV) (x : AV) (lo hi : Option Operand) (K : AV → Option R) : Option R :=
  match x with
  | .row k l => bnd l.length l.length τ hi fun h => bnd h 0 τ lo fun lw => if lw = 0 then K (.row k (l.take h)) else none
  | .str s => bnd s.size s.size τ hi fun h => bnd h 0 τ lo fun lw => K (.str (s.extract lw h))
  | .arr s l => if s = 0 then none else bnd (l.length / s) (l.length / s) τ hi fun h => bnd h 0 τ lo fun lw => if lw = 0 then K (.arr s (l.take (h * s))) else none
  | .sl s h n => bnd n n τ hi fun m => bnd m 0 τ lo fun lw => if lw = 0 then K (.sl s h m) else none
  | _ => none
def zeroRow (P : Program) (e : TypeId) : Option IntKind :=
  match zeroCells' P e with
  | some [.int k n] => if n = 0 then some k else none
  | _ => none
def bytesOf (P : Program) (t : TypeId) : Option Nat := (P.info? t).map (·.bytes)
def makeA {R : Type} (P : Program) (e : TypeId) (nh : Nat) (l c : AV) (K : Eff → Option R) : Option R :=
  match l, c, sz P e, bytesOf P e, zeroCells' P e with
  | .int _ n, .int _ m, some s, some by_, some z =>
    if 0 ≤ n ∧ n ≤ m ∧ (by_ : Int) * m ≤ 140737488355328 ∧ m ≤ 9223372036854775807 then
      (match zeroRow P e with
      | some k => if s = 1 then K ⟨.sl 1 nh n.toNat, [], [(nh, .row k (List.replicate m.toNat 0))], none, 1⟩ else none
      | none => if s = 0 ∨ z.length ≠ s then none else K ⟨.sl s nh n.toNat, [], [(nh, .agg (List.replicate m.toNat z).flatten)], none, 1⟩)
    else none
  | _, _, _, _, _ => none
def copyA {R : Type} (β : Nat → AV) (d x : AV) (K : Eff → Option R) : Option R :=
  match d, x with
  | .sl 1 h n, .row k' r => match β h with
    | .row k l => if k' = k then (if n ≤ l.length then K ⟨.int .i64 ((min r.length n : Nat)), [h], [(h, .row k (r.take n ++ l.drop (min r.length n)))], none, 0⟩ else none) else none
    | _ => none
  | .sl _ _ _, .nil => K (val (.int .i64 0))
  | _, _ => none
def bxOf (σ : Nat → AV) : Nat → AV := fun h => σ (2 * h + 1)
def tmOf (σ : Nat → AV) : Nat → AV := fun t => σ (2 * t)
def callA {R : Type} (P : Program) (F : Tf) (β : Nat → AV) (nh : Nat) (xs : List AV) (K : Eff → Option R) : Option R :=
  match F with
  | .pure F => frzsK β xs fun ys hs => F R ys fun r => K ⟨r, hs, hs.map fun h => (h, .any), none, 0⟩
  | .own F => frzsK β xs fun ys hs => F R ys fun r bs => K ⟨shift nh r, hs, hs.map (fun h => (h, .any)) ++ ownW nh nh bs, none, bs.length⟩
  | .heap F => F R xs β nh fun r β' nh' => if nh ≤ nh' then K ⟨r, [], [], some β', nh' - nh⟩ else none
def doOp {R : Type} (P : Program) (T : Tab) (nh : Nat) (τ β : Nat → AV) (o : Oper) (K : Eff → Option R) : Option R :=
  match o.op with
  | .move x | .assign x => K (val (ev τ x))
  | .pick c a b => match ev τ c with | .bool t => if t = true then K (val (ev τ a)) else K (val (ev τ b)) | _ => none
  | .alloc t => match zeroCells' P t with | some cs => K ⟨.ptr nh 0, [], [(nh, .agg cs)], none, 1⟩ | none => none
  | .box t x => match cellsOf (ev τ x) with | some cs => K ⟨.ptr nh 0, [], [(nh, .agg cs)], none, 1⟩ | none => none
  | .build t parts => match zeroCells' P t, placesOf P t with
    | some z, some pl => match fillA (pl.toArray[·]?) τ parts.toList z with | some cs => K (val (.agg cs)) | none => none
    | _, _ => none
  | .buildSlice t len parts => match P.underlying t with
    | some (.slice e) => match sz P e with
      | some n => if parts.size = len ∧ 0 < n ∧ len * n < 100000 ∧ (zeroCells' P e).isSome = true then
          (match partsOf n τ 0 parts.toList with
          | some l => if (match P.underlying e with | some (.int _) => true | _ => false) = true then (match l.head? with | some (.int k _) => (match asInts k l with | some is => if n = 1 then K (val (.row k is)) else none | none => none) | _ => none)
            else K ⟨.sl n nh len, [], [(nh, .agg l)], none, 1⟩
          | none => none) else none
      | none => none
    | _ => none
  | .makeSlice t l c => match P.underlying t with
    | some (.slice e) => makeA P e nh (ev τ l) (ev τ c) K
    | _ => none
  | .makeFunc (.func f) ⟨[]⟩ cs => K (val (.fn f (cs.toList.map (ev τ))))
  | .nilCheck x => match ev τ x with
    | .ptr h o => K (val (.ptr h o))
    | .at_ l => K (val (.at_ l))
    | .fn f l => K (val (.fn f l))
    | .sl s h n => K (val (.sl s h n))
    | .mp h => K (val (.mp h))
    | _ => none
  | .load t x => match ev τ x with
    | .ptr h off => loadB P t (β h) off fun v => K ⟨v, [h], [], none, 0⟩
    | .at_ cs => match loadA P t cs with | some v => K (val v) | none => none
    | _ => none
  | .store t x y => match ev τ x with
    | .ptr h off => storeB P t (β h) off (ev τ y) fun c => K ⟨.any, [h], [(h, c)], none, 0⟩
    | _ => none
  | .binOp op t x y _ => binA P op t (ev τ x) (ev τ y) fun v => K (val v)
  | .unOp op _ x => match unA op (ev τ x) with | some v => K (val v) | none => none
  | .convert s d x => match P.underlying s, P.underlying d, ev τ x with
    | some (.int _), some (.int k), .int _ n => K (val (.int k (k.wrap n)))
    | _, _, _ => none
  | .fieldAddr s x f => match fieldAt' P s f with
    | some (off, _) => match ev τ x with
      | .ptr h o => K (val (.ptr h (o + off)))
      | .at_ cs => K (val (.at_ (cs.drop off)))
      | _ => none
    | none => none
  | .field s x f => match fieldsOf P s, ev τ x with
    | some fs, .agg cs => match fs[f]? with
      | some fd => match loadA P fd.type (cs.drop fd.offset) with | some v => K (val v) | none => none
      | none => none
    | _, _ => none
  | .indexAddr t x i => match P.underlying t with
    | some (.slice e) => match sz P e, ev τ x with
      | some 1, .row k l => indexA (.row k l) (ev τ i) fun v => K (val v)
      | some n, .arr s l => if n = s then indexA (.arr s l) (ev τ i) fun v => K (val v) else none
      | some n, .sl s h m => if n = s then indexA (.sl s h m) (ev τ i) fun v => K (val v) else none
      | _, _ => none
    | _ => none
  | .index t x i => match P.underlying t, ev τ x, ev τ i with
    | some .string, .str s, .int _ n => if 0 ≤ n ∧ n < s.size then K (val (.int .u8 ((s.data.getD n.toNat 0).toNat))) else none
    | _, _, _ => none
  | .slice t x lo hi mx => match mx, P.underlying t, ev τ x with
    | none, some .string, .str s => sliceA τ (.str s) lo hi fun v => K (val v)
    | none, some (.slice e), .row k l => (match sz P e with | some 1 => sliceA τ (.row k l) lo hi fun v => K (val v) | _ => none)
    | none, some (.slice e), .arr s l => (match sz P e with | some n => if n = s then sliceA τ (.arr s l) lo hi fun v => K (val v) else none | _ => none)
    | none, some (.slice e), .sl s h n => (match sz P e with | some m => if m = s then sliceA τ (.sl s h n) lo hi fun v => K (val v) else none | _ => none)
    | _, _, _ => none
  | .extract x i => match ev τ x with
    | .tup l => match l[i]? with | some v => K (val v) | none => none
    | _ => none
  | .call c =>
    match c.callee with
    | .builtin .len => match c.args.toList, c.argTypes[0]? with
      | [x], some t => match P.underlying t, lenA (ev τ x) with
        | some (.slice _), some v => (match ev τ x with | .str _ => none | _ => K (val v))
        | some .string, some v => (match ev τ x with | .str _ => K (val v) | _ => none)
        | _, _ => none
      | _, _ => none
    | .builtin .copy => match c.args.toList, c.argTypes[0]? with
      | [d, x], some t => (match P.underlying t with
        | some (.slice e) => if sz P e = some 1 then copyA β (ev τ d) (ev τ x) K else none
        | _ => none)
      | _, _ => none
    | .builtin .min => match c.args.toList with
      | [x, y] => match ev τ x, ev τ y with
        | .int k a, .int _ b => K (val (.int k (if b < a then b else a)))
        | _, _ => none
      | _ => none
    | .builtin .max => match c.args.toList with
      | [x, y] => match ev τ x, ev τ y with
        | .int k a, .int _ b => K (val (.int k (if b > a then b else a)))
        | _, _ => none
      | _ => none
    | .value f => match ev τ f with
      | .fn g cs => match T g with
        | some F => callA P F β nh (c.args.toList.map (ev τ) ++ cs) K
        | none => none
      | _ => none
    | _ => none
  | _ => none
def putT (σ : Nat → AV) (dst : Option Tmp) (x : AV) : Nat → AV :=
  match dst with
  | some d => upd σ (2 * d) x
  | none => σ
def putB (σ : Nat → AV) : List (Nat × AV) → Nat → AV
  | [] => σ
  | (h, v) :: l => putB (upd σ (2 * h + 1) v) l
def putW (σ : Nat → AV) (all : Option (Nat → AV)) : Nat → AV :=
  match all with
  | some β => fun x => bif Nat.beq (x % 2) 0 then σ x else β (x / 2)
  | none => σ
def put (σ : Nat → AV) (dst : Option Tmp) (e : Eff) : Nat → AV := putW (putB (putT σ dst e.dst) e.wr) e.all
structure State where
  σ : Nat → AV
  nh : Nat
inductive Ex where
  | normal | exit (id : Nat) | ret
def yieldA (ops : Array Oper) (σ : Nat → AV) (j : Nat) : AV :=
  match (ops[j]?).bind (·.dst) with
  | some t => σ (2 * t)
  | none => .any
def dstOk (N : Nat) (o : Oper) : Bool :=
  match o.dst with
  | some d => decide (d < N)
  | none => true
def oneOp {R : Type} (P : Program) (T : Tab) (N : Nat) (nh : Nat) (ops : Array Oper) (o : Oper) (σ : Nat → AV) (K : Eff → Option R) : Option R :=
  if dstOk N o = true then
    match o.guard with
    | none => doOp P T nh (tmOf σ) (bxOf σ) o K
    | some (j, want) => match yieldA ops σ j with
      | .bool b => if b = want then doOp P T nh (tmOf σ) (bxOf σ) o K else K (val (.tup []))
      | .tup [] => K (val (.tup []))
      | _ => none
  else none
structure Fx where
  rd : List Nat
  wr : List Nat
  all : Bool
def fxOf (ops : Array Oper) (o : Oper) (e : Eff) : Fx := ⟨(o.looksAt ops).map (2 * ·) ++ e.rd.map (2 * · + 1), (o.dst.toList).map (2 * ·) ++ e.wr.map (2 * ·.1 + 1), e.all.isSome⟩
def odd (x : Nat) : Bool := Nat.beq (x % 2) 1
def Fx.inR (f : Fx) (x : Nat) : Bool := f.rd.contains x || (f.all && odd x)
def Fx.inW (f : Fx) (x : Nat) : Bool := f.wr.contains x || (f.all && odd x)
def Fx.boxes (f : Fx) : Bool := f.all || f.rd.any odd || f.wr.any odd
def runOps {R : Type} (P : Program) (T : Tab) (N : Nat) (ops : Array Oper) : List Oper → Nat → (Nat → AV) → List Fx → ((Nat → AV) → Nat → List Fx → Option R) → Option R
  | [], nh, σ, tr, K => K σ nh tr
  | o :: rest, nh, σ, tr, K => oneOp P T N nh ops o σ fun e => runOps P T N ops rest (nh + e.used) (put σ o.dst e) (tr ++ [fxOf ops o e]) K
def clash (a b : Fx) : Bool := a.wr.any (fun x => b.rd.contains x || b.wr.contains x) || a.rd.any (fun x => b.wr.contains x) || (a.all && b.boxes) || (b.all && a.boxes)
def mask (acc : List Nat) : List Edge → Nat
  | [] => 0
  | e :: es => if Region.binds .any e = true then (2 ^ e.on ||| acc.getD e.on 0) ||| mask acc es else mask acc es
def befs : List Oper → List Nat → List Nat
  | [], acc => acc
  | o :: rest, acc => befs rest (acc ++ [mask acc o.after.toList])
def ordered (bef : List Nat) (tr : List Fx) : Bool :=
  (List.range tr.length).all fun j => (List.range j).all fun i => !clash (tr.getD i ⟨[], [], false⟩) (tr.getD j ⟨[], [], false⟩) || (bef.getD j 0).testBit i
def edgesOk : List Oper → Nat → Bool
  | [], _ => true
  | o :: rest, i => (o.after.all fun e => !Region.binds .any e || Nat.blt e.on i) && edgesOk rest (i + 1)
def loopN {R : Type} (body : State → (Ex → State → Option R) → Option R) : Nat → State → (Ex → State → Option R) → Option R
  | 0, _, _ => none
  | n + 1, s, K => body s fun e s' => match e with
    | .normal => loopN body n s' K
    | e => K e s'
abbrev LFun := (R : Type) → State → (Ex → State → Option R) → Option R
abbrev LTab := List Nat → Option LFun
def run {R : Type} (P : Program) (T : Tab) (L : LTab) (N : Nat) (fuel : Nat) : List Nat → Code → State → (Ex → State → Option R) → Option R
  | _, .skip, s, K => K .normal s
  | _, .region _ ops draw, s, K =>
    runOps P T N ops ops.toList s.nh s.σ [] fun σ nh tr =>
      if draw = true then (if (ordered (befs ops.toList []) tr && edgesOk ops.toList 0) = true then K .normal ⟨σ, nh⟩ else none) else K .normal ⟨σ, nh⟩
  | p, .seq a b, s, K => run P T L N fuel (0 :: p) a s fun e s' => match e with
    | .normal => run P T L N fuel (1 :: p) b s' K
    | e => K e s'
  | p, .cond c a b, s, K => match ev (tmOf s.σ) c with
    | .bool t => if t = true then run P T L N fuel (0 :: p) a s K else run P T L N fuel (1 :: p) b s K
    | _ => none
  | p, .block id b, s, K => run P T L N fuel (0 :: p) b s fun e s' => match e with
    | .exit i => if i = id then K .normal s' else K (.exit i) s'
    | e => K e s'
  | p, .loop b, s, K => match L p with
    | some F => F R s K
    | none => loopN (run P T L N fuel (0 :: p) b) fuel s K
  | _, .exit id, s, K => K (.exit id) s
  | _, .ret, s, K => K .ret s
  | _, _, _, _ => none
def resA (P : Program) (σ : Nat → AV) : List ResultVar → Option (List AV)
  | [] => some []
  | .tmp t :: rest => match resA P σ rest with | some l => some (σ (2 * t) :: l) | none => none
  | .cell t ty :: rest => match σ (2 * t), resA P σ rest with
    | .ptr h off, some l => match σ (2 * h + 1) with
      | .agg cs => match loadA P ty (cs.drop off) with | some v => some (v :: l) | none => none
      | _ => none
    | _, _ => none
def retA (P : Program) (fn : Func) (σ : Nat → AV) : Option AV :=
  match resA P σ fn.results.toList with
  | some [x] => some x
  | some l => some (.tup l)
  | none => none
def start (args : List AV) (β : Nat → AV) : Nat → AV := fun x => bif Nat.beq (x % 2) 0 then args.getD (x / 2) .any else β (x / 2)
def execH (P : Program) (T : Tab) (L : LTab) (fuel : Nat) (fn : Func) : HFun := fun R args β nh K =>
  match fn.body with
  | some c =>
    if args.length ≤ fn.ntmps then
      run P T L fn.ntmps fuel [] c ⟨start args β, nh⟩ fun e s => match e with
        | .exit _ => none
        | _ => match retA P fn s.σ with | some r => K r (bxOf s.σ) s.nh | none => none
    else none
  | none => none
def execFn (P : Program) (T : Tab) (L : LTab) (fuel : Nat) (fn : Func) : Fun := fun R args K => execH P T L fuel fn R args (fun _ => .any) 0 fun r β _ => frzK β r fun x _ => K x
def Ok (B : Nat) (P0 : Nat → Prop) (σ : Nat → AV) (φ : Nat → Option (Nat × Nat)) (k : Nat) : Prop := (P0 k ∨ B ≤ k) ∧ ∀ h t, σ (2 * h + 1) ≠ .any → φ h ≠ some (k, t)
def HoldsC (φ : Nat → Option (Nat × Nat)) (w : World) (ok : Nat → Prop) (h : Nat) (cs : List AV) : Prop :=
  ∃ b t vs e, φ h = some (b, t) ∧ w.heap[b]? = some (.cells vs e (0, 0)) ∧ vs.size = t ∧ cs.length ≤ t ∧ Reps φ w ok cs (vs.toList.take cs.length)
def Holds (φ : Nat → Option (Nat × Nat)) (w : World) (ok : Nat → Prop) (h : Nat) : AV → Prop
  | .agg cs => HoldsC φ w ok h cs
  | .row k l => HoldsC φ w ok h (l.map (.int k))
  | .mc ks us bs ck => ∃ b en, φ h = some (b, 0) ∧ w.heap[b]? = some (.map en ck) ∧ Reps φ w ok ks (en.toList.map (·.key)) ∧ Reps φ w ok us (en.toList.map (·.val)) ∧ bs = en.toList.map (·.born)
  | _ => False
structure Kept (B : Nat) (X : Nat → Prop) (w w' : World) : Prop where
  os : w'.os = w.os
  tape : w'.tape = w.tape
  output : w'.output = w.output
  size : w.heap.size ≤ w'.heap.size
  block : ∀ k, k < B → ¬ X k → w'.heap[k]? = w.heap[k]?
theorem Kept.refl (B : Nat) (X : Nat → Prop) (w : World) : Kept B X w w := ⟨rfl, rfl, rfl, Nat.le_refl _, fun _ _ _ => rfl⟩
theorem Kept.trans {B : Nat} {X : Nat → Prop} {a b c : World} (h : Kept B X a b) (k : Kept B X b c) : Kept B X a c :=
  ⟨k.os.trans h.os, k.tape.trans h.tape, k.output.trans h.output, Nat.le_trans h.size k.size, fun i hi hx => (k.block i hi hx).trans (h.block i hi hx)⟩
theorem Kept.mono {B B' : Nat} {X : Nat → Prop} {a b : World} (h : Kept B X a b) (hB : B' ≤ B) : Kept B' X a b :=
  ⟨h.os, h.tape, h.output, h.size, fun i hi hx => h.block i (by omega) hx⟩
theorem Kept.of {B : Nat} {X : Nat → Prop} {a b : World} (h : Below B a b) : Kept B X a b := ⟨h.os, h.tape, h.output, h.size, fun i hi _ => h.block i hi⟩
structure Ctx where
  X : Nat → Prop
  Γ : Nat → AV → Value → Prop
  g : Nat
def lim' (φ : Nat → Option (Nat × Nat)) (g : Nat) : Nat → Option (Nat × Nat) := fun h => if h < g then φ h else none
theorem lim_le {φ φ' : Nat → Option (Nat × Nat)} {g : Nat} (hφ : ∀ h b, φ h = some b → φ' h = some b) (h : Nat) (b : Nat × Nat) (hh : lim' φ g h = some b) : lim' φ' g h = some b := by
  unfold lim' at hh ⊢
  split at hh
  · rename_i hl; rw [if_pos hl]; exact hφ _ _ hh
  · cases hh
structure St (N B : Nat) (P0 : Nat → Prop) (X : Ctx) (w0 : World) (fresh : Nat → Prop) (σ : Nat → AV) (φ : Nat → Option (Nat × Nat)) (a : Act) (w : World) : Prop where
  below : Kept B X.X w0 w
  base : B ≤ w.heap.size
  defers : a.defers = []
  size : a.tmps.size = N
  tmps : ∀ t, Rep φ w (Ok B P0 σ φ) (σ (2 * t)) (a.tmps.getD t undef)
  boxes : ∀ h, σ (2 * h + 1) ≠ .any → Holds φ w (Ok B P0 σ φ) h (σ (2 * h + 1))
  own : ∀ h b t, φ h = some (b, t) → (X.X b ∨ B ≤ b) ∧ b < w.heap.size
  inj : ∀ h h' b t t', σ (2 * h + 1) ≠ .any → σ (2 * h' + 1) ≠ .any → φ h = some (b, t) → φ h' = some (b, t') → h = h'
  px : ∀ b, X.X b → P0 b
  gh : ∀ g x u, g ≤ X.g → X.Γ g x u → Rep (lim' φ g) w (Ok B P0 σ φ) x u
  fr : ∀ h, fresh h → φ h = none
section
variable {P : Program} {N B : Nat} {P0 : Nat → Prop} {X : Ctx} {w0 : World} {fresh fresh' : Nat → Prop} {σ σ' : Nat → AV} {φ φ' : Nat → Option (Nat × Nat)} {a : Act} {w w' : World} {o : Oper} {Q : Exit → Act → World → Prop} {next : Act → World → Prop}
theorem Ok_congr (h : ∀ h, σ' (2 * h + 1) = σ (2 * h + 1)) : Ok B P0 σ' φ = Ok B P0 σ φ := by
  funext k
  simp only [Ok, h]
theorem HoldsC.move {ok ok' : Nat → Prop} (hφ : ∀ h b, φ h = some b → φ' h = some b) (hok : ∀ k, ok k → k < w.heap.size → ok' k) (hm : ∀ k, ok k → k < w.heap.size → w'.heap[k]? = w.heap[k]?) {h : Nat} (hb : ∀ b t, φ h = some (b, t) → w'.heap[b]? = w.heap[b]?) {cs : List AV} (hh : HoldsC φ w ok h cs) : HoldsC φ' w' ok' h cs := by
  obtain ⟨b, t, vs, e, h1, h2, h3, h4, h5⟩ := hh
  exact ⟨b, t, vs, e, hφ _ _ h1, (hb b t h1).trans h2, h3, h4, Reps.move hφ hok hm _ h5⟩
theorem Holds.move {ok ok' : Nat → Prop} (hφ : ∀ h b, φ h = some b → φ' h = some b) (hok : ∀ k, ok k → k < w.heap.size → ok' k) (hm : ∀ k, ok k → k < w.heap.size → w'.heap[k]? = w.heap[k]?) {h : Nat} (hb : ∀ b t, φ h = some (b, t) → w'.heap[b]? = w.heap[b]?) {c : AV} (hh : Holds φ w ok h c) : Holds φ' w' ok' h c := by
  cases c <;> simp only [Holds] at hh ⊢
  · exact hh.move hφ hok hm hb
  · exact hh.move hφ hok hm hb
  · obtain ⟨b, en, h1, h2, h3, h4, h5⟩ := hh
    exact ⟨b, en, hφ _ _ h1, (hb b _ h1).trans h2, Reps.move hφ hok hm _ h3, Reps.move hφ hok hm _ h4, h5⟩
theorem Holds.block {ok : Nat → Prop} {h : Nat} {c : AV} (hh : Holds φ w ok h c) : ∃ b t, φ h = some (b, t) := by
  cases c <;> simp only [Holds, HoldsC] at hh
  · obtain ⟨b, t, _, _, h1, _⟩ := hh; exact ⟨b, t, h1⟩
  · obtain ⟨b, t, _, _, h1, _⟩ := hh; exact ⟨b, t, h1⟩
  · obtain ⟨b, _, h1, _⟩ := hh; exact ⟨b, 0, h1⟩
theorem Holds.ofC {ok : Nat → Prop} {h : Nat} {c : AV} {cs : List AV} (hc : contC c = some cs) (hh : HoldsC φ w ok h cs) : Holds φ w ok h c := by
  unfold contC at hc
  split at hc
  · injection hc with hc; subst hc; exact hh
  · injection hc with hc; subst hc; exact hh
  · cases hc
theorem Holds.toC {ok : Nat → Prop} {h : Nat} {c : AV} {cs : List AV} (hc : contC c = some cs) (hh : Holds φ w ok h c) : HoldsC φ w ok h cs := by
  unfold contC at hc
  split at hc
  · injection hc with hc; subst hc; exact hh
  · injection hc with hc; subst hc; exact hh
  · cases hc
theorem absAtom_rep (W : World) (ok : Nat → Prop) (v : Value) : Rep φ W ok (absAtom v) v := by
  unfold absAtom
  split <;> simp [Rep, Reps]
theorem absAtoms_rep (W : World) (ok : Nat → Prop) : ∀ (vs : List Value), Reps φ W ok (vs.map absAtom) vs
  | [] => by simp [Reps]
  | v :: vs => by simp only [List.map_cons, Reps]; exact ⟨v, vs, rfl, absAtom_rep W ok v, absAtoms_rep W ok vs⟩
theorem absV_rep (W : World) (ok : Nat → Prop) (v : Value) : Rep φ W ok (absV v) v := by
  unfold absV
  split
  · simp only [Rep]; exact ⟨_, rfl, absAtoms_rep W ok _⟩
  · simp only [Rep]; exact ⟨_, rfl, absAtoms_rep W ok _⟩
  · exact absAtom_rep W ok v
theorem St.ev (h : St N B P0 X w0 fresh σ φ a w) (x : Operand) : Rep φ w (Ok B P0 σ φ) (E.ev (tmOf σ) x) (a.eval x) := by
  cases x with
  | tmp t => exact h.tmps t
  | const v => exact absV_rep w _ v
  | global g => simp [E.ev, Rep]
  | func f => simp [E.ev, Rep, Reps, Act.eval]
theorem Reps.ones : ∀ {l : List AV} {vs : List Value} {ok : Nat → Prop}, l.all atom = true → Reps φ w ok l vs → ∀ v ∈ vs, v.oneCell' = true
  | [], _, _, _, h => by simp only [Reps] at h; subst h; simp
  | x :: l, _, _, ha, h => by
    simp only [Reps] at h
    obtain ⟨v, vs', rfl, h2, h3⟩ := h
    simp only [List.all_cons, Bool.and_eq_true] at ha
    intro u hu
    rcases List.mem_cons.1 hu with rfl | hu
    · exact (Rep.one ha.1 h2).1
    · exact Reps.ones ha.2 h3 u hu
theorem cellsOf_rep {x : AV} {l : List AV} {v : Value} {ok : Nat → Prop} (h : cellsOf x = some l) (hr : Rep φ w ok x v) : Reps φ w ok l v.cells.toList ∧ ∀ u ∈ v.cells.toList, u.oneCell' = true := by
  unfold cellsOf at h
  split at h
  · split at h
    · injection h with h
      subst h
      rename_i ha
      simp only [Rep] at hr
      obtain ⟨cs, rfl, hr⟩ := hr
      exact ⟨hr, Reps.ones ha hr⟩
    · cases h
  · split at h
    · injection h with h
      subst h
      rename_i ha
      obtain ⟨h1, h2⟩ := Rep.one ha hr
      rw [h2]
      refine ⟨?_, fun u hu => ?_⟩
      · simp only [Reps]; exact ⟨v, [], rfl, hr, rfl⟩
      · simp at hu; subst hu; exact h1
    · cases h
theorem putT_odd (σ : Nat → AV) (dst : Option Tmp) (x : AV) (h : Nat) : putT σ dst x (2 * h + 1) = σ (2 * h + 1) := by
  cases dst with
  | none => rfl
  | some d => simp only [putT, upd_eq]; rw [if_neg (by omega)]
theorem St.put (h : St N B P0 X w0 fresh σ φ a w) {dst : Option Tmp} (hd : ∀ d, dst = some d → d < N) {x : AV} {v : Value} (hv : ∀ d, dst = some d → Rep φ w (Ok B P0 σ φ) x v) :
    St N B P0 X w0 fresh (putT σ dst x) φ (a.put dst v) w := by
  have hO : Ok B P0 (putT σ dst x) φ = Ok B P0 σ φ := Ok_congr (putT_odd σ dst x)
  cases dst with
  | none => exact h
  | some d =>
    have hdN := hd d rfl
    refine { h with defers := h.defers, size := by simp [Act.put, h.size], tmps := fun t => ?_, boxes := fun k hk => ?_, inj := ?_, gh := fun g x u hl hg => by rw [hO]; exact h.gh g x u hl hg }
    · rw [hO]
      simp only [putT, upd_eq, Act.put]
      by_cases ht : t = d
      · subst ht
        rw [if_pos rfl]
        have : (a.tmps.setIfInBounds t v).getD t undef = v := by simp [Array.getD, h.size, hdN]
        rw [this]
        exact hv t rfl
      · rw [if_neg (by omega)]
        have : (a.tmps.setIfInBounds d v).getD t undef = a.tmps.getD t undef := by
          simp only [Array.getD_eq_getD_getElem?]
          rw [Array.getElem?_setIfInBounds_ne (Ne.symm ht)]
        rw [this]
        exact h.tmps t
    · rw [hO]
      rw [putT_odd] at hk ⊢
      exact h.boxes k hk
    · intro k k' b t t'
      rw [putT_odd, putT_odd]
      exact h.inj k k' b t t'
theorem St.world (h : St N B P0 X w0 fresh σ φ a w) (hb : Kept B X.X w w') (hm : ∀ k, k < w.heap.size → w'.heap[k]? = w.heap[k]?) : St N B P0 X w0 fresh σ φ a w' :=
  { h with
    below := h.below.trans hb
    base := Nat.le_trans h.base hb.size
    tmps := fun t => Rep.move (fun _ _ h => h) (fun _ h _ => h) (fun k _ hk => hm k hk) _ (h.tmps t)
    gh := fun g x u hl hg => Rep.move (fun _ _ h => h) (fun _ h _ => h) (fun k _ hk => hm k hk) _ (h.gh g x u hl hg)
    boxes := fun k hk => (h.boxes k hk).move (fun _ _ h => h) (fun _ h _ => h) (fun k _ hk => hm k hk) (fun b t hbt => hm b (h.own _ _ _ hbt).2)
    own := fun k b t hk => ⟨(h.own k b t hk).1, Nat.lt_of_lt_of_le (h.own k b t hk).2 hb.size⟩ }
theorem St.less (h : St N B P0 X w0 fresh σ φ a w) (hf : ∀ k, fresh' k → fresh k) : St N B P0 X w0 fresh' σ φ a w := { h with fr := fun k hk => h.fr k (hf k hk) }
theorem St.kill (h : St N B P0 X w0 fresh σ φ a w) (n : Nat) : St N B P0 X w0 fresh (upd σ (2 * n + 1) .any) φ a w := by
  have hl : ∀ k, upd σ (2 * n + 1) .any (2 * k + 1) ≠ .any → σ (2 * k + 1) ≠ .any ∧ upd σ (2 * n + 1) .any (2 * k + 1) = σ (2 * k + 1) := fun k hk => by
    simp only [upd_eq] at hk ⊢
    by_cases hkn : k = n
    · subst hkn; simp at hk
    · rw [if_neg (by omega)] at hk ⊢; exact ⟨hk, rfl⟩
  have hok : ∀ k, Ok B P0 σ φ k → k < w.heap.size → Ok B P0 (upd σ (2 * n + 1) .any) φ k := fun k hk _ => ⟨hk.1, fun j t hj => hk.2 j t (hl j hj).1⟩
  refine { h with tmps := fun t => ?_, boxes := fun k hk => ?_, inj := fun k k' b t t' hk hk' => h.inj k k' b t t' (hl k hk).1 (hl k' hk').1, gh := fun g x u hl hg => Rep.move (fun _ _ h => h) hok (fun _ _ _ => rfl) _ (h.gh g x u hl hg) }
  · simp only [upd_eq]
    rw [if_neg (by omega)]
    exact Rep.move (fun _ _ h => h) hok (fun _ _ _ => rfl) _ (h.tmps t)
  · obtain ⟨h1, h2⟩ := hl k hk
    rw [h2]
    exact (h.boxes k h1).move (fun _ _ h => h) hok (fun _ _ _ => rfl) (fun _ _ _ => rfl)
theorem St.kills (h : St N B P0 X w0 fresh σ φ a w) : ∀ (l : List Nat), St N B P0 X w0 fresh (putB σ (l.map fun h => (h, .any))) φ a w := by
  intro l
  induction l generalizing σ with
  | nil => exact h
  | cons n l ih => exact ih (h.kill n)
theorem St.new (h : St N B P0 X w0 fresh σ φ a w) {n : Nat} (hn : fresh n) {ob : Obj} {c : AV} {t : Nat} (hr : ∀ (φ' : Nat → Option (Nat × Nat)) (w' : World) (ok' : Nat → Prop), (∀ h b, φ h = some b → φ' h = some b) → (∀ k, Ok B P0 σ φ k → k < w.heap.size → ok' k) → (∀ k, Ok B P0 σ φ k → k < w.heap.size → w'.heap[k]? = w.heap[k]?) → φ' n = some (w.heap.size, t) → w'.heap[w.heap.size]? = some ob → Holds φ' w' ok' n c) :
    ∃ φ', St N B P0 X w0 (fun k => fresh k ∧ k ≠ n) (upd σ (2 * n + 1) c) φ' a (w.alloc ob) ∧ φ' n = some (w.heap.size, t) ∧ (∀ h b, φ h = some b → φ' h = some b) := by
  have hsz : (w.alloc ob).heap.size = w.heap.size + 1 := by show (w.heap.push _).size = _; simp
  have hm : ∀ k, k < w.heap.size → (w.alloc ob).heap[k]? = w.heap[k]? := fun k hk => Below.heap_alloc _ _ _ hk
  have hφ : ∀ k b, φ k = some b → (fun k => if k = n then some (w.heap.size, t) else φ k) k = some b := fun k b hk => by
    have : k ≠ n := fun e => by subst e; rw [h.fr k hn] at hk; cases hk
    simp [this, hk]
  have hlive : ∀ j, j ≠ n → upd σ (2 * n + 1) c (2 * j + 1) = σ (2 * j + 1) := fun j hj => by
    simp only [upd_eq]; rw [if_neg (by omega)]
  have hok : ∀ k, Ok B P0 σ φ k → k < w.heap.size → Ok B P0 (upd σ (2 * n + 1) c) (fun k => if k = n then some (w.heap.size, t) else φ k) k := fun k hk hlt => ⟨hk.1, fun j t' hj hjk => by
    dsimp only at hjk
    split at hjk
    · injection hjk with hjk; injection hjk with hjk; omega
    · rename_i hjn
      rw [hlive j hjn] at hj
      exact hk.2 j t' hj hjk⟩
  have hok2 : ∀ k, Ok B P0 σ φ k → k < (w.alloc ob).heap.size → k < w.heap.size ∨ k = w.heap.size := fun k _ hlt => by omega
  refine ⟨fun k => if k = n then some (w.heap.size, t) else φ k, ?_, by simp, hφ⟩
  refine { below := h.below.trans (Kept.of ((Below.refl _ _).alloc h.base _)), base := by rw [hsz]; exact Nat.le_succ_of_le h.base, defers := h.defers, size := h.size, tmps := fun t => ?_, boxes := fun k hk => ?_, own := fun k b t' hk => ?_, inj := fun k k' b t' t'' hl hl' hk hk' => ?_, px := h.px, gh := fun g x u hl hg => Rep.move (lim_le hφ) hok (fun k _ hk => hm k hk) _ (h.gh g x u hl hg), fr := fun k hk => ?_ }
  · simp only [upd_eq]
    rw [if_neg (by omega)]
    exact Rep.move hφ hok (fun k _ hk => hm k hk) _ (h.tmps t)
  · by_cases hkn : k = n
    · subst hkn
      have e : upd σ (2 * k + 1) c (2 * k + 1) = c := by simp [upd_eq]
      rw [e]
      exact hr _ _ _ hφ hok (fun k _ hk => hm k hk) (by simp) (by show (w.heap.push _)[w.heap.size]? = _; simp)
    · rw [hlive k hkn] at hk ⊢
      exact (h.boxes k hk).move hφ hok (fun k _ hk => hm k hk) (fun b t hbt => hm b (h.own _ _ _ hbt).2)
  · rw [hsz]
    split at hk
    · injection hk with hk; injection hk with hk; subst hk; exact ⟨.inr h.base, Nat.lt_succ_self _⟩
    · have := h.own k b t' hk; exact ⟨this.1, by omega⟩
  · split at hk <;> split at hk'
    · simp_all
    · injection hk with hk; injection hk with hk; have := (h.own k' b t'' hk').2; omega
    · injection hk' with hk'; injection hk' with hk'; have := (h.own k b t' hk).2; omega
    · rename_i h1 h2
      rw [hlive k h1] at hl
      rw [hlive k' h2] at hl'
      exact h.inj k k' b t' t'' hl hl' hk hk'
  · simp [hk.2, h.fr k hk.1]
theorem Holds_new {ok : Nat → Prop} {n t : Nat} {c : AV} {cs : List AV} {vs : Array Value} {e : Nat} (hc : contC c = some cs) (ht : vs.size = t) (hl : cs.length ≤ t) (hr : Reps φ w ok cs (vs.toList.take cs.length)) (φ' : Nat → Option (Nat × Nat)) (w' : World) (ok' : Nat → Prop) (hφ : ∀ h b, φ h = some b → φ' h = some b) (hok : ∀ k, ok k → k < w.heap.size → ok' k) (hm : ∀ k, ok k → k < w.heap.size → w'.heap[k]? = w.heap[k]?) (hn : φ' n = some (w.heap.size, t)) (hb : w'.heap[w.heap.size]? = some (.cells vs e (0, 0))) : Holds φ' w' ok' n c :=
  Holds.ofC hc ⟨_, t, vs, e, hn, hb, ht, hl, Reps.move hφ hok hm _ hr⟩
theorem St.set (h : St N B P0 X w0 fresh σ φ a w) {n b t : Nat} {c : AV} (hn : σ (2 * n + 1) ≠ .any) (hφn : φ n = some (b, t)) {w' : World} (hos : w'.os = w.os) (htp : w'.tape = w.tape) (hout : w'.output = w.output) (hsz : w'.heap.size = w.heap.size) (hother : ∀ k, k ≠ b → w'.heap[k]? = w.heap[k]?) (hc : c ≠ .any)
    (hr : (∀ k, Ok B P0 σ φ k → w'.heap[k]? = w.heap[k]?) → Holds φ w' (Ok B P0 σ φ) n c) : St N B P0 X w0 fresh (upd σ (2 * n + 1) c) φ a w' := by
  have hlive : ∀ j, (upd σ (2 * n + 1) c (2 * j + 1) ≠ .any) = (σ (2 * j + 1) ≠ .any) := fun j => by
    simp only [upd_eq]
    by_cases hj : j = n
    · subst hj; simp [hc, hn]
    · rw [if_neg (by omega)]
  have hO : Ok B P0 (upd σ (2 * n + 1) c) φ = Ok B P0 σ φ := by
    funext k
    simp only [Ok, hlive]
  have hokb : ∀ k, Ok B P0 σ φ k → k ≠ b := fun k hk hkb => hk.2 n t hn (by rw [hkb]; exact hφn)
  have hm : ∀ k, Ok B P0 σ φ k → w'.heap[k]? = w.heap[k]? := fun k hk => hother k (hokb k hk)
  refine { below := h.below.trans ⟨hos, htp, hout, by omega, fun k hk hx => hother k (fun e => ?_)⟩, base := by rw [hsz]; exact h.base, defers := h.defers, size := h.size, tmps := fun t => ?_, boxes := fun k hk => ?_, own := fun k b' t' hk => by rw [hsz]; exact h.own k b' t' hk, inj := fun k k' b' t' t'' hl hl' => h.inj k k' b' t' t'' (by rw [← hlive]; exact hl) (by rw [← hlive]; exact hl'), px := h.px, gh := fun g x u hl hg => by rw [hO]; exact Rep.move (fun _ _ h => h) (fun _ h _ => h) (fun k hk _ => hm k hk) _ (h.gh g x u hl hg), fr := h.fr }
  · subst e
    rcases (h.own n k t hφn).1 with h1 | h1
    · exact hx h1
    · omega
  · rw [hO]
    simp only [upd_eq]
    rw [if_neg (by omega)]
    exact Rep.move (fun _ _ h => h) (fun _ h _ => h) (fun k hk _ => hm k hk) _ (h.tmps t)
  · rw [hO]
    by_cases hkn : k = n
    · subst hkn
      have e : upd σ (2 * k + 1) c (2 * k + 1) = c := by simp [upd_eq]
      rw [e]
      exact hr hm
    · rw [hlive] at hk
      have e : upd σ (2 * n + 1) c (2 * k + 1) = σ (2 * k + 1) := by simp only [upd_eq]; rw [if_neg (by omega)]
      rw [e]
      refine (h.boxes k hk).move (fun _ _ h => h) (fun _ h _ => h) (fun k hk _ => hm k hk) (fun b' t' hbt => hother b' (fun e => hkn ?_))
      subst e
      exact h.inj k n b' t' t hk hn hbt hφn
theorem wp_value {v : Value} (h : (execOp a.eval o).run P w = .ok (.value v) w') (hk : next (a.put o.dst v) w') : o.wp P a w next Q := by
  unfold Oper.wp; rw [h]; exact hk
theorem wp_skip' (h : (execOp a.eval o).run P w = .ok .skip w') (hk : next (a.put o.dst undef) w') : o.wp P a w next Q := by
  unfold Oper.wp; rw [h]; exact hk
end
section
variable {P : Program} {φ : Nat → Option (Nat × Nat)} {w : World} {ok : Nat → Prop} {σ : Nat → AV} {a : Act}
theorem sz_info {t n : Nat} (h : sz P t = some n) : ∃ i, P.info? t = some i ∧ i.size = n := by
  unfold sz at h
  cases hi : P.info? t with
  | none => simp [hi] at h
  | some i => exact ⟨i, rfl, by simpa [hi] using h⟩
theorem run_sizeOf' {t n : Nat} (h : sz P t = some n) (w : World) : (sizeOf t).run P w = .ok n w := by
  obtain ⟨i, hi, hn⟩ := sz_info h
  simp [sizeOf, typeInfo, hi, hn]
theorem run_isAgg' {t : Nat} (h : (P.underlying t).isNone = false) (w : World) : (isAgg t).run P w = .ok (isAgg' P t) w := by
  cases hu : P.underlying t with
  | none => simp [hu] at h
  | some d => cases d <;> simp [isAgg, isAgg', run_underlying hu, hu]
theorem loadVar_run {t : Nat} {cs : List AV} {x : AV} {ad : Addr} {vs : List Value} (h : loadA P t cs = some x) (hr : Reps φ w ok cs vs) (hrd : Reads ad vs w) :
    ∃ v, (loadVar t ad).run P w = .ok v w ∧ Rep φ w ok x v := by
  unfold loadA at h
  split at h
  · cases h
  rename_i hu
  have hu' : (P.underlying t).isNone = false := by revert hu; cases P.underlying t <;> simp
  split at h
  · rename_i ha
    split at h
    · rename_i n hn
      split at h
      · injection h with h
        subst h
        rename_i hle
        have hl := hr.length
        have h1 := run_loadCells_list (P := P) w ad (vs.take n) (fun j v hj => hrd j v (by
          rw [List.getElem?_take] at hj
          split at hj
          · exact hj
          · cases hj))
        rw [List.length_take, Nat.min_eq_left (by omega)] at h1
        refine ⟨.agg (vs.take n).toArray, ?_, ?_⟩
        · simp [loadVar, run_isAgg' hu', ha, run_sizeOf' hn, h1]
        · simp only [Rep]
          exact ⟨_, rfl, hr.take n⟩
      · cases h
    · cases h
  · rename_i ha
    cases cs with
    | nil => simp at h
    | cons y l =>
      simp at h
      subst h
      simp only [Reps] at hr
      obtain ⟨v, vs', rfl, h2, h3⟩ := hr
      have hc := hrd 0 v rfl
      simp only [Addr.add, if_true] at hc
      refine ⟨v, ?_, h2⟩
      simp [loadVar, run_isAgg' hu', ha, load, Sem.run, hc]
theorem foldl_set (off : Nat) : ∀ (l : List Value) (cs : Array Value) (k : Nat), off + k + l.length ≤ cs.size →
    ((l.zipIdx k).foldl (fun cs (c, j) => cs.setIfInBounds (off + j) c) cs).toList = cs.toList.take (off + k) ++ l ++ cs.toList.drop (off + k + l.length)
  | [], cs, k, _ => by simp
  | x :: l, cs, k, h => by
    simp only [List.zipIdx_cons, List.foldl_cons]
    have hl : (x :: l).length = l.length + 1 := rfl
    rw [foldl_set off l _ (k + 1) (by simp; omega)]
    have e := list_seg_step cs.toList (off + k) x l (by simp at h ⊢; omega)
    simpa [Array.toList_setIfInBounds, Nat.add_assoc, Nat.add_comm 1 l.length] using e
theorem fill_step {place : Nat → Option (Nat × Nat)} {cells : Array Value} {i off n : Nat} {v : Value} {rest : List (Nat × Value)} (hp : place i = some (off, n)) (hn : v.cells.size = n) (hl : off + n ≤ cells.size) :
    ∃ cells', Instr.fill place cells ((i, v) :: rest) = Instr.fill place cells' rest ∧ cells'.toList = cells.toList.take off ++ v.cells.toList ++ cells.toList.drop (off + n) ∧ cells'.size = cells.size := by
  have h1 := foldl_set off v.cells.toList cells 0 (by simp; omega)
  have h2 : (v.cells.zipIdx.foldl (fun cs (c, j) => cs.setIfInBounds (off + j) c) cells) = ((v.cells.toList.zipIdx 0).foldl (fun cs (c, j) => cs.setIfInBounds (off + j) c) cells) := by
    rw [← Array.foldl_toList, Array.toList_zipIdx]
  refine ⟨v.cells.zipIdx.foldl (fun cs (c, j) => cs.setIfInBounds (off + j) c) cells, ?_, ?_, ?_⟩
  · simp only [Instr.fill, hp]
    rw [if_neg (by simp [hn]; omega)]
  · rw [h2, h1]
    simp [hn]
  · have h3 := congrArg List.length h1
    rw [h2, ← Array.length_toList, h3]
    simp only [List.length_append, List.length_take, List.length_drop, Array.length_toList, Nat.add_zero, hn]
    rw [Nat.min_eq_left (by omega)]
    omega
end
section
variable {P : Program} {φ : Nat → Option (Nat × Nat)} {w : World} {ok : Nat → Prop} {τ : Nat → AV} {a : Act}
theorem fillA_fill {place : Nat → Option (Nat × Nat)} : ∀ (parts : List (Nat × Operand)) (cs cs' : List AV) (cells : Array Value), (∀ p ∈ parts, Rep φ w ok (ev τ p.2) (a.eval p.2)) → fillA place τ parts cs = some cs' → Reps φ w ok cs cells.toList →
    ∃ cells', Instr.fill place cells (parts.map fun (i, x) => (i, a.eval x)) = some cells' ∧ Reps φ w ok cs' cells'.toList
  | [], cs, cs', cells, _, h, hr => by
    simp only [fillA, Option.some.injEq] at h
    subst h
    exact ⟨cells, rfl, hr⟩
  | (i, x) :: rest, cs, cs', cells, hev, h, hr => by
    simp only [fillA] at h
    split at h
    · rename_i off n vs hp hv
      split at h
      · rename_i hc
        obtain ⟨h1, h2⟩ := cellsOf_rep hv (hev (i, x) List.mem_cons_self)
        have hl := h1.length
        have hl2 := hr.length
        simp only [Array.length_toList] at hl hl2
        obtain ⟨cells2, e1, e2, e3⟩ := fill_step (rest := rest.map fun (i, x) => (i, a.eval x)) hp (show (a.eval x).cells.size = n by omega) (by omega : off + n ≤ cells.size)
        have hr2 : Reps φ w ok (setL cs off vs) cells2.toList := by
          rw [e2]
          unfold setL
          rw [hc.1]
          exact Reps.append (Reps.append (hr.take off) h1) (hr.drop (off + n))
        obtain ⟨cells', e4, e5⟩ := fillA_fill rest _ _ cells2 (fun p hp => hev p (List.mem_cons_of_mem _ hp)) h hr2
        exact ⟨cells', by rw [List.map_cons]; exact e1.trans e4, e5⟩
      · cases h
    · cases h
theorem zeroCells_rep {t : Nat} {cs : List AV} (h : zeroCells' P t = some cs) (W : World) (ok : Nat → Prop) : ∃ it z, P.info? t = some it ∧ it.zero = some z ∧ Reps φ W ok cs z.cells.toList ∧ ∀ u ∈ z.cells.toList, u.oneCell' = true := by
  unfold zeroCells' at h
  cases hi : P.info? t with
  | none => simp [hi] at h
  | some it =>
    cases hz : it.zero with
    | none => simp [hi, hz] at h
    | some z =>
      simp only [hi, hz, Option.bind_some] at h
      obtain ⟨h1, h2⟩ := cellsOf_rep h (absV_rep (φ := φ) W ok z)
      exact ⟨it, z, rfl, hz, h1, h2⟩
theorem build_run {t : Nat} {parts : Array (Nat × Operand)} {z : List AV} {pl : List (Nat × Nat)} {cs : List AV} (hz : zeroCells' P t = some z) (hp : placesOf P t = some pl) (hf : fillA (pl.toArray[·]?) τ parts.toList z = some cs)
    (hev : ∀ p ∈ parts.toList, Rep φ w ok (ev τ p.2) (a.eval p.2)) : ∃ v, (Instr.build t (parts.map fun (i, x) => (i, a.eval x))).run P w = .ok v w ∧ Rep φ w ok (.agg cs) v := by
  obtain ⟨it, zv, hi, hzz, hr, _⟩ := zeroCells_rep (φ := φ) hz w ok
  obtain ⟨cells, e1, e2⟩ := fillA_fill parts.toList z cs zv.cells hev hf hr
  refine ⟨.agg cells, run_build w t _ cells ?_, by simp only [Rep]; exact ⟨cells, rfl, e2⟩⟩
  unfold placesOf fieldsOf at hp
  unfold Program.built
  cases hu : P.underlying t with
  | none => simp [hu] at hp
  | some d =>
    cases d <;> try (simp [hu] at hp; done)
    case struct fs =>
      simp only [hu] at hp
      simp only [hi, hzz, hp]
      rw [Array.toList_map]
      exact e1
theorem partsOf_fill (n : Nat) : ∀ (parts : List (Nat × Operand)) (i : Nat) (l : List AV) (cells : Array Value), (∀ p ∈ parts, Rep φ w ok (ev τ p.2) (a.eval p.2)) → partsOf n τ i parts = some l → (i + parts.length) * n = cells.size →
    ∃ cells' vs, Instr.fill (fun i => some (i * n, n)) cells (parts.map fun (i, x) => (i, a.eval x)) = some cells' ∧ cells'.toList = cells.toList.take (i * n) ++ vs ∧ Reps φ w ok l vs ∧ (∀ u ∈ vs, u.oneCell' = true) ∧ vs.length = parts.length * n
  | [], i, l, cells, _, h, hs => by
    simp only [partsOf, Option.some.injEq] at h
    subst h
    refine ⟨cells, [], rfl, ?_, by simp [Reps], by simp, by simp⟩
    rw [List.append_nil, List.take_of_length_le]
    simp at hs ⊢
    omega
  | (j, x) :: rest, i, l, cells, hev, h, hs => by
    simp only [partsOf] at h
    split at h
    · rename_i c l' hc hl'
      split at h
      · rename_i hcc
        obtain ⟨h1, h2⟩ := hcc
        injection h with h
        subst h
        obtain ⟨g1, g2⟩ := cellsOf_rep hc (hev (j, x) List.mem_cons_self)
        subst h2
        have hl := g1.length
        simp only [Array.length_toList] at hl
        have hmul : (i + (rest.length + 1)) * n = i * n + n + rest.length * n := by rw [Nat.add_mul, Nat.add_mul]; omega
        simp only [List.length_cons] at hs
        obtain ⟨cells2, e1, e2, e3⟩ := fill_step (place := fun i => some (i * n, n)) (i := i) (rest := rest.map fun (i, x) => (i, a.eval x)) rfl (show (a.eval x).cells.size = n by omega) (by omega : i * n + n ≤ cells.size)
        have hmul2 : (i + 1 + rest.length) * n = i * n + n + rest.length * n := by rw [Nat.add_mul, Nat.add_mul]; omega
        obtain ⟨cells', vs, k1, k2, k3, k4, k5⟩ := partsOf_fill n rest (i + 1) l' cells2 (fun p hp => hev p (List.mem_cons_of_mem _ hp)) hl' (by rw [e3]; omega)
        refine ⟨cells', (a.eval x).cells.toList ++ vs, by rw [List.map_cons]; exact e1.trans k1, ?_, Reps.append g1 k3, ?_, ?_⟩
        · have hmul3 : (i + 1) * n = i * n + n := by rw [Nat.add_mul]; omega
          rw [k2, e2, hmul3]
          have t1 : (cells.toList.take (i * n)).length = i * n := by rw [List.length_take]; simp; omega
          have t2 : ((a.eval x).cells.toList).length = n := by simp; omega
          rw [List.take_append_of_le_length (by rw [List.length_append, t1, t2]; exact Nat.le_refl _), List.take_of_length_le (by rw [List.length_append, t1, t2]; exact Nat.le_refl _), List.append_assoc]
        · intro u hu
          rcases List.mem_append.1 hu with hu | hu
          · exact g2 u hu
          · exact k4 u hu
        · simp only [List.length_append, List.length_cons, Array.length_toList, k5]
          rw [Nat.add_mul]; omega
      · cases h
    · cases h
theorem asInts_vals {k : IntKind} : ∀ {l : List AV} {is : List Int} {vs : List Value}, asInts k l = some is → Reps φ w ok l vs → vs = is.map (Value.int k)
  | [], is, vs, h, hr => by
    simp only [asInts, Option.some.injEq] at h
    subst h
    simpa [Reps] using hr
  | x :: l, is, vs, h, hr => by
    simp only [Reps] at hr
    obtain ⟨v, vs', rfl, h2, h3⟩ := hr
    cases x <;> simp only [asInts] at h <;> try (cases h; done)
    rename_i k' n
    split at h
    · rename_i hk
      subst hk
      split at h
      · rename_i is' his
        injection h with h
        subst h
        rw [asInts_vals his h3]
        simp only [Rep] at h2
        subst h2
        rfl
      · cases h
    · cases h
end
def Trip (P : Program) (N nh : Nat) (σ : Nat → AV) (o : Oper) (e : Eff) : Prop := (e.used = 0 ∨ e.all.isSome = true ∨ e.wr ≠ []) ∧
  ∀ {B : Nat} {P0 : Nat → Prop} {X : Ctx} {w0 w : World} {fresh : Nat → Prop} {φ : Nat → Option (Nat × Nat)} {a : Act} (σ' : Nat → AV), (∀ t, Operand.tmp t ∈ o.op.operands → σ' (2 * t) = σ (2 * t)) → (∀ h ∈ e.rd, σ' (2 * h + 1) = σ (2 * h + 1)) → (e.all.isSome = true → ∀ h, σ' (2 * h + 1) = σ (2 * h + 1)) →
    St N B P0 X w0 fresh σ' φ a w → (∀ k, nh ≤ k → k < nh + e.used → fresh k) → (e.all.isSome = true → ∀ k, nh ≤ k → fresh k) → (∀ d, o.dst = some d → d < N) → ∀ (next : Act → World → Prop) (Q : Exit → Act → World → Prop),
    (∀ φ' v w', St N B P0 X w0 (fun k => fresh k ∧ ¬(nh ≤ k ∧ k < nh + e.used)) (put σ' o.dst e) φ' (a.put o.dst v) w' → next (a.put o.dst v) w') → o.wp P a w next Q
section
variable {P : Program} {N nh : Nat} {σ : Nat → AV} {o : Oper}
theorem ev_agree {σ' : Nat → AV} {x : Operand} (h : ∀ t, Operand.tmp t ∈ o.op.operands → σ' (2 * t) = σ (2 * t)) (hx : x ∈ o.op.operands) : ev (tmOf σ') x = ev (tmOf σ) x := by
  cases x with
  | tmp t => exact h t hx
  | _ => rfl
theorem trip_w {x : AV} (h : ∀ {B : Nat} {P0 : Nat → Prop} {X : Ctx} {σ' : Nat → AV} {w : World} {φ : Nat → Option (Nat × Nat)} {a : Act}, (∀ y ∈ o.op.operands, Rep φ w (Ok B P0 σ' φ) (ev (tmOf σ) y) (a.eval y)) → B ≤ w.heap.size → (∀ h b t, φ h = some (b, t) → b < w.heap.size) →
    ∃ v w', (execOp a.eval o).run P w = .ok (.value v) w' ∧ Below w.heap.size w w' ∧ Rep φ w' (Ok B P0 σ' φ) x v) : Trip P N nh σ o (val x) := by
  refine ⟨.inl rfl, ?_⟩
  intro B P0 X w0 w fresh φ a σ' h1 h2 _ hs hf _ hd next Q hk
  obtain ⟨v, w', hr, hb, hv⟩ := h (X := X) (fun y hy => by rw [← ev_agree h1 hy]; exact hs.ev y) hs.base (fun h b t hh => (hs.own h b t hh).2)
  refine wp_value hr (hk φ v w' ?_)
  have hs2 := hs.world (w' := w') (Kept.of (hb.mono hs.base)) (fun k hk => hb.block k hk)
  exact St.less (St.put hs2 hd (fun _ _ => hv)) (fun k hk => hk.1)
theorem trip_p {x : AV} (h : ∀ {w : World} {ok : Nat → Prop} {φ : Nat → Option (Nat × Nat)} {a : Act}, (∀ y ∈ o.op.operands, Rep φ w ok (ev (tmOf σ) y) (a.eval y)) →
    ∃ v, (execOp a.eval o).run P w = .ok (.value v) w ∧ Rep φ w ok x v) : Trip P N nh σ o (val x) :=
  trip_w fun hy _ _ => by
    obtain ⟨v, h1, h2⟩ := h hy
    exact ⟨v, _, h1, Below.refl _ _, h2⟩
theorem run_v {s : Sem Value} {v : Value} {w w' : World} (h : s.run P w = .ok v w') : ((do pure (Next.value (← s))) : Sem Next).run P w = .ok (.value v) w' := by
  simp [h]
theorem trip_move {x : Operand} (ho : o.op = .move x ∨ o.op = .assign x) : Trip P N nh σ o (val (ev (tmOf σ) x)) :=
  trip_p fun {w ok φ a} hy => ⟨a.eval x, by rcases ho with ho | ho <;> simp [execOp, ho], hy x (by rcases ho with ho | ho <;> simp [ho, Op.operands])⟩
theorem trip_pick {c x y : Operand} {t : Bool} (ho : o.op = .pick c x y) (hc : ev (tmOf σ) c = .bool t) : Trip P N nh σ o (val (if t = true then ev (tmOf σ) x else ev (tmOf σ) y)) :=
  trip_p fun {w ok φ a} hy => by
    have h1 := hy c (by simp [ho, Op.operands])
    rw [hc] at h1
    simp only [Rep] at h1
    have h2 := hy x (by simp [ho, Op.operands])
    have h3 := hy y (by simp [ho, Op.operands])
    refine ⟨if t then a.eval x else a.eval y, by simp [execOp, ho, h1, asBool], ?_⟩
    cases t
    · simpa using h3
    · simpa using h2
theorem trip_build {t : Nat} {parts : Array (Nat × Operand)} {z : List AV} {pl : List (Nat × Nat)} {cs : List AV} (ho : o.op = .build t parts) (hz : zeroCells' P t = some z) (hp : placesOf P t = some pl) (hf : fillA (pl.toArray[·]?) (tmOf σ) parts.toList z = some cs) : Trip P N nh σ o (val (.agg cs)) :=
  trip_p fun {w ok φ a} hy => by
    have hev : ∀ p ∈ parts.toList, Rep φ w ok (ev (tmOf σ) p.2) (a.eval p.2) := fun p hp => hy p.2 (by simp only [ho, Op.operands]; simp; exact ⟨p.1, by simpa using hp⟩)
    obtain ⟨v, h1, h2⟩ := build_run hz hp hf hev
    exact ⟨v, by simp [execOp, ho, h1], h2⟩
theorem trip_load_at {t : Nat} {x : Operand} {cs : List AV} {v : AV} (ho : o.op = .load t x) (hx : ev (tmOf σ) x = .at_ cs) (hl : loadA P t cs = some v) : Trip P N nh σ o (val v) :=
  trip_p fun {w ok φ a} hy => by
    have h1 := hy x (by simp [ho, Op.operands])
    rw [hx] at h1
    simp only [Rep] at h1
    obtain ⟨ad, vs, e1, e2, e3, e4⟩ := h1
    obtain ⟨u, k1, k2⟩ := loadVar_run hl e4 e3.now
    exact ⟨u, by simp [execOp, ho, e1, Instr.loadAt, Instr.sureAddr, k1], k2⟩
def toV : AV → Value
  | .int k n => .int k n
  | .bool b => .bool b
  | .str s => .string s
  | _ => undef
theorem binI_run {op : BinOp} {k : IntKind} {x y : Int} {R : Type} {K : AV → Option R} {r : R} (h : binI op k x y K = some r) (hop : op ≠ .shl ∧ op ≠ .shr) :
    ∃ v, K v = some r ∧ (∀ (w : World) (φ : Nat → Option (Nat × Nat)) (ok : Nat → Prop), Rep φ w ok v (toV v)) ∧ ∀ (w : World) (t : Nat), (Go.binOp op t (.int k x) (.int k y)).run P w = .ok (toV v) w := by
  obtain ⟨n1, n2⟩ := hop
  cases op <;> simp only [binI, bitsA] at h <;> (try (exact absurd rfl n1)) <;> (try (exact absurd rfl n2)) <;> (try (split at h; · cases h)) <;> (try cases h; done) <;>
    (refine ⟨_, h, fun w φ ok => ?_, fun w t => ?_⟩ <;> first
      | (unfold Rep; rfl)
      | (simp [toV, Go.binOp, Op.intArith, Op.intCmp, Op.intBits, Op.intDiv]; done)
      | (simp [toV, Go.binOp, Op.intArith, Op.intCmp, Op.intBits, Op.intDiv, *]; done))
theorem eqGuard_run {op : BinOp} {t : Nat} {x y : Operand} {u v : Value} (hu : ∃ k n, u = .int k n ∨ ∃ b, u = .bool b ∨ ∃ s, u = .string s) (w : World) : (eqGuard op t x y u v).run P w = .ok () w := by
  obtain ⟨k, n, rfl | ⟨b, rfl | ⟨s, rfl⟩⟩⟩ := hu <;> (unfold eqGuard; cases op <;> simp)
theorem binA_run {op : BinOp} {t : Nat} {x y : AV} {R : Type} {K : AV → Option R} {r : R} (h : binA P op t x y K = some r) : ∃ v, K v = some r ∧ (∀ (w : World) (φ : Nat → Option (Nat × Nat)) (ok : Nat → Prop), Rep φ w ok v (toV v)) ∧
    ∀ (w : World) (φ : Nat → Option (Nat × Nat)) (ok : Nat → Prop) (X Y : Operand) (u1 u2 : Value), Rep φ w ok x u1 → Rep φ w ok y u2 → (do eqGuard op t X Y u1 u2; Go.binOp op t u1 u2 : Sem Value).run P w = .ok (toV v) w := by
  cases x <;> cases y <;> simp only [binA] at h <;> try (cases h; done)
  · split at h
    · rename_i ht
      refine ⟨_, h, fun w φ ok => by unfold Rep; rfl, fun w φ ok X Y u1 u2 h1 h2 => ?_⟩
      simp only [Rep] at h1 h2
      subst h1 h2
      simp [eqGuard_run ⟨.i64, 0, .inr ⟨_, .inl rfl⟩⟩, Go.binOp, run_equal_bool _ _ _ _ ht, toV]
    · rename_i ht
      refine ⟨_, h, fun w φ ok => by unfold Rep; rfl, fun w φ ok X Y u1 u2 h1 h2 => ?_⟩
      simp only [Rep] at h1 h2
      subst h1 h2
      simp [eqGuard_run ⟨.i64, 0, .inr ⟨_, .inl rfl⟩⟩, Go.binOp, run_equal_bool _ _ _ _ ht, toV]
    · cases h
  · rename_i k a k' b
    split at h
    · split at h
      · cases h
      · rename_i hb
        refine ⟨_, h, fun w φ ok => by unfold Rep; rfl, fun w φ ok X Y u1 u2 h1 h2 => ?_⟩
        simp only [Rep] at h1 h2
        subst h1 h2
        simp [eqGuard_run ⟨_, _, .inl rfl⟩, Go.binOp, Op.shift, hb, toV]
    · split at h
      · cases h
      · rename_i hb
        refine ⟨_, h, fun w φ ok => by unfold Rep; rfl, fun w φ ok X Y u1 u2 h1 h2 => ?_⟩
        simp only [Rep] at h1 h2
        subst h1 h2
        simp [eqGuard_run ⟨_, _, .inl rfl⟩, Go.binOp, Op.shift, hb, toV]
    · split at h
      · rename_i n1 n2 hk
        subst hk
        obtain ⟨v, e1, e2, e3⟩ := binI_run (P := P) h ⟨n1, n2⟩
        refine ⟨v, e1, e2, fun w φ ok X Y u1 u2 h1 h2 => ?_⟩
        simp only [Rep] at h1 h2
        subst h1 h2
        simp [eqGuard_run ⟨_, _, .inl rfl⟩, e3]
      · cases h
  · split at h
    · refine ⟨_, h, fun w φ ok => by unfold Rep; rfl, fun w φ ok X Y u1 u2 h1 h2 => ?_⟩
      simp only [Rep] at h1 h2
      subst h1 h2
      simp [eqGuard_run ⟨.i64, 0, .inr ⟨true, .inr ⟨_, rfl⟩⟩⟩, Go.binOp, Op.stringOp, toV]
    · refine ⟨_, h, fun w φ ok => by unfold Rep; rfl, fun w φ ok X Y u1 u2 h1 h2 => ?_⟩
      simp only [Rep] at h1 h2
      subst h1 h2
      simp [eqGuard_run ⟨.i64, 0, .inr ⟨true, .inr ⟨_, rfl⟩⟩⟩, Go.binOp, Op.stringOp, toV]
    · split at h
      · rename_i hle
        refine ⟨_, h, fun w φ ok => by unfold Rep; rfl, fun w φ ok X Y u1 u2 h1 h2 => ?_⟩
        simp only [Rep] at h1 h2
        subst h1 h2
        have hi : IntKind.i64.max = 9223372036854775807 := rfl
        simp [eqGuard_run ⟨.i64, 0, .inr ⟨true, .inr ⟨_, rfl⟩⟩⟩, Go.binOp, Op.stringOp, toV, hi]
        omega
      · cases h
    · cases h
theorem trip_binA {op : BinOp} {t yt : Nat} {x y : Operand} {R : Type} {K : Eff → Option R} {r : R} (ho : o.op = .binOp op t x y yt) (h : binA P op t (ev (tmOf σ) x) (ev (tmOf σ) y) (fun v => K (val v)) = some r) : ∃ e, Trip P N nh σ o e ∧ K e = some r := by
  obtain ⟨v, h1, h2, h3⟩ := binA_run h
  refine ⟨val v, trip_p fun {w ok φ a} hy => ⟨toV v, ?_, h2 _ _ _⟩, h1⟩
  have := h3 w φ ok x y _ _ (hy x (by simp [ho, Op.operands])) (hy y (by simp [ho, Op.operands]))
  simp only [execOp, ho]
  exact run_v this
end
section
variable {P : Program} {N nh : Nat} {σ : Nat → AV} {o : Oper}
theorem trip_un {op : UnOp} {t : Nat} {x : Operand} {v : AV} (ho : o.op = .unOp op t x) (h : unA op (ev (tmOf σ) x) = some v) : Trip P N nh σ o (val v) :=
  trip_p fun {w ok φ a} hy => by
    have h1 := hy x (by simp [ho, Op.operands])
    generalize ev (tmOf σ) x = X at h h1
    cases op <;> cases X <;> simp only [unA] at h <;> try (cases h; done)
    all_goals
      refine ⟨toV v, ?_, ?_⟩
      all_goals
        injection h with h
        subst h
        simp only [Rep] at h1
    all_goals first
      | (simp only [Rep, toV]; done)
      | (simp only [execOp, ho, h1]; exact run_v (by simp [Op.unary, Op.intArith, Op.intBits, toV]; done))
theorem trip_convert {s d k : Nat} {k1 k2 k3 : IntKind} {x : Operand} {n : Int} (ho : o.op = .convert s d x) (hs : P.underlying s = some (.int k1)) (hd : P.underlying d = some (.int k2)) (hx : ev (tmOf σ) x = .int k3 n) : Trip P N nh σ o (val (.int k2 (k2.wrap n))) :=
  trip_p fun {w ok φ a} hy => by
    have h1 := hy x (by simp [ho, Op.operands])
    rw [hx] at h1
    simp only [Rep] at h1
    exact ⟨.int k2 (k2.wrap n), by simp only [execOp, ho, h1]; exact run_v (by simp [Go.convert, run_underlying hs, run_underlying hd, Conv.intToInt]), by simp only [Rep]⟩
theorem field_info {s f off n : Nat} (h : fieldAt' P s f = some (off, n)) : ∃ fs fd, P.underlying s = some (.struct fs) ∧ fs[f]? = some fd ∧ fd.offset = off ∧ sz P fd.type = some n ∧ n ≠ 0 := by
  unfold fieldAt' fieldsOf at h
  cases hu : P.underlying s with
  | none => simp [hu] at h
  | some d =>
    cases d <;> try (simp [hu] at h; done)
    case struct fs =>
      simp only [hu] at h
      split at h
      · rename_i fd hfd
        split at h
        · rename_i m hm
          split at h
          · cases h
          · rename_i hn
            injection h with h
            injection h with h3 h4
            subst h4
            exact ⟨fs, fd, rfl, hfd, h3, hm, hn⟩
        · cases h
      · cases h
theorem fieldAt_run {s f off n : Nat} (h : fieldAt' P s f = some (off, n)) (ad : Addr) (w : World) : (Instr.fieldAt s (.pointer (some ad)) f).run P w = .ok (.pointer (some (ad.add off))) w := by
  obtain ⟨fs, fd, h1, h2, h3, h4, h5⟩ := field_info h
  simp [Instr.fieldAt, run_underlying h1, h2, Instr.sureAddr, fieldPlace, run_sizeOf' h4, h5, h3]
theorem add_add (ad : Addr) (hs : ad.spot = none) (m n : Nat) : (ad.add m).add n = ad.add (m + n) := by
  obtain ⟨b, f, s⟩ := ad
  simp only at hs
  subst hs
  unfold Addr.add
  split <;> split <;> split <;> first | omega | (simp_all [Nat.add_assoc])
theorem add_spot (ad : Addr) (hs : ad.spot = none) (m : Nat) : (ad.add m).spot = none := by
  unfold Addr.add
  split
  · exact hs
  · rfl
theorem reads_drop {ad : Addr} (hs : ad.spot = none) {vs : List Value} {W : World} (m : Nat) (h : Reads ad vs W) : Reads (ad.add m) (vs.drop m) W := fun i u hu => by
  rw [add_add ad hs]
  exact h _ u (by rwa [List.getElem?_drop] at hu)
theorem trip_fieldAddr {s f off n : Nat} {x : Operand} (ho : o.op = .fieldAddr s x f) (hf : fieldAt' P s f = some (off, n)) {h ofs : Nat} (hx : ev (tmOf σ) x = .ptr h ofs) : Trip P N nh σ o (val (.ptr h (ofs + off))) :=
  trip_p fun {w ok φ a} hy => by
    have h1 := hy x (by simp [ho, Op.operands])
    rw [hx] at h1
    simp only [Rep] at h1
    obtain ⟨b, t, e1, e2⟩ := h1
    refine ⟨_, by simp only [execOp, ho, e2]; exact run_v (fieldAt_run hf _ w), ?_⟩
    simp only [Rep]
    refine ⟨b, t, e1, ?_⟩
    unfold Addr.add
    split
    · rename_i h0; simp [h0]
    · rfl
theorem trip_fieldAt {s f off n : Nat} {x : Operand} (ho : o.op = .fieldAddr s x f) (hf : fieldAt' P s f = some (off, n)) {cs : List AV} (hx : ev (tmOf σ) x = .at_ cs) : Trip P N nh σ o (val (.at_ (cs.drop off))) :=
  trip_p fun {w ok φ a} hy => by
    have h1 := hy x (by simp [ho, Op.operands])
    rw [hx] at h1
    simp only [Rep] at h1
    obtain ⟨ad, vs, e1, e2, e3, e4⟩ := h1
    refine ⟨_, by simp only [execOp, ho, e1]; exact run_v (fieldAt_run hf _ w), ?_⟩
    simp only [Rep]
    exact ⟨_, vs.drop off, rfl, add_spot ad e2 off, e3.imp fun W' hW => reads_drop e2 off hW, e4.drop off⟩
theorem indexAt_run {t e n len c : Nat} {k : IntKind} {i : Int} {ad : Addr} (hu : P.underlying t = some (.slice e)) (hs : sz P e = some n) (h0 : 0 ≤ i) (h1 : i < len) (w : World) :
    (Instr.indexAt t (.slice (some ad) len c) (.int k i)).run P w = .ok (.pointer (some (ad.add (i.toNat * n)))) w := by
  simp [Instr.indexAt, run_underlying hu, asIntOf, h0, h1, run_sizeOf' hs]
theorem row_at {φ : Nat → Option (Nat × Nat)} {w : World} {ok : Nat → Prop} {k : IntKind} {l : List Int} {A : Option Addr} (h : Kd.F (Kd.int k) w ok A l.length l) {i : Int} (h0 : 0 ≤ i) (h1 : i < l.length) :
    ∃ ad, A = some ad ∧ Rep φ w ok (.at_ [.int k (l.getD i.toNat 0)]) (.pointer (some (ad.add (i.toNat * 1)))) := by
  obtain ⟨ad, hA, hc⟩ := (h.now).2.2 (by omega)
  have hcell : ∀ W', Kd.C (Kd.int k) W' A l.length l → ∀ j, j < l.length → W'.cell? (ad.add j) = some (.int k (l.getD j 0)) := by
    intro W' hC j hj
    obtain ⟨ad', hA', hc'⟩ := hC.2.2 (by omega)
    rw [hA] at hA'
    injection hA' with hA'
    subst hA'
    obtain ⟨c, hcl, hK, hcc⟩ := hc' j _ (List.getElem?_eq_getElem hj)
    have hK' : c = [Value.int k l[j]] := hK
    subst hK'
    have := hcc 0 _ rfl
    simp only [Kd.int, Kd.scalar, Nat.mul_one, Nat.add_zero] at this
    rw [this]
    simp [List.getD, List.getElem?_eq_getElem hj]
  have hsp : ad.spot = none := by
    have := hcell w h.now 0 (by omega)
    simp only [Addr.add, if_true] at this
    unfold World.cell? at this
    split at this
    · split at this
      · cases this
      · rename_i hs; cases hh : ad.spot <;> simp_all
    · cases this
  refine ⟨ad, hA, ?_⟩
  simp only [Rep, Reps, Nat.mul_one]
  refine ⟨_, [.int k (l.getD i.toNat 0)], rfl, add_spot ad hsp _, Foot.imp h fun W' hC j u hu => ?_, _, [], rfl, rfl, rfl⟩
  cases j with
  | zero =>
    simp only [List.getElem?_cons_zero, Option.some.injEq] at hu
    subst hu
    simp only [Addr.add, if_true]
    exact hcell W' hC i.toNat (by omega)
  | succ j => simp at hu
theorem trip_indexRow {t e : Nat} {k : IntKind} {l : List Int} {x i : Operand} {R : Type} {K : AV → Option R} {r : R} (ho : o.op = .indexAddr t x i) (hu : P.underlying t = some (.slice e)) (hs : sz P e = some 1) (hx : ev (tmOf σ) x = .row k l) (h : indexA (.row k l) (ev (tmOf σ) i) K = some r) :
    ∃ v, Trip P N nh σ o (val v) ∧ K v = some r := by
  unfold indexA at h
  split at h
  · rename_i k' l' kk n e1 e2
    injection e1 with e1 e1'
    subst e1 e1'
    split at h
    · rename_i hb
      refine ⟨_, trip_p fun {w ok φ a} hy => ?_, h⟩
      have h1 := hy x (by simp [ho, Op.operands])
      have h2 := hy i (by simp [ho, Op.operands])
      rw [hx] at h1
      rw [e2] at h2
      simp only [Rep] at h1 h2
      obtain ⟨A, c, f1, f2, f3⟩ := h1
      obtain ⟨ad, rfl, hr⟩ := row_at f3 hb.1 hb.2
      exact ⟨_, by simp only [execOp, ho, f1, h2]; exact run_v (indexAt_run hu hs hb.1 hb.2 w), hr⟩
    · cases h
  · rename_i e1 _; cases e1
  · rename_i e1 _; cases e1
  · cases h
theorem trip_indexArr {t e n : Nat} {l : List AV} {x i : Operand} {R : Type} {K : AV → Option R} {r : R} (ho : o.op = .indexAddr t x i) (hu : P.underlying t = some (.slice e)) (hs : sz P e = some n) (hx : ev (tmOf σ) x = .arr n l) (h : indexA (.arr n l) (ev (tmOf σ) i) K = some r) :
    ∃ v, Trip P N nh σ o (val v) ∧ K v = some r := by
  unfold indexA at h
  split at h
  · rename_i e1 _; cases e1
  · rename_i s' l' kk j e1 e2
    injection e1 with e1 e1'
    subst e1 e1'
    split at h
    · rename_i hb
      obtain ⟨hb0, hb1, hb2⟩ := hb
      refine ⟨_, trip_p fun {w ok φ a} hy => ?_, h⟩
      have h1 := hy x (by simp [ho, Op.operands])
      have h2 := hy i (by simp [ho, Op.operands])
      rw [hx] at h1
      rw [e2] at h2
      simp only [Rep] at h1 h2
      obtain ⟨ad, m, c, vs, f1, f2, f3, f4, f5, f6⟩ := h1
      have hjm : j < m := by
        have : (j + 1) * n ≤ (m : Int) * n := by rw [← Int.natCast_mul, f3]; exact hb2
        have := Int.le_of_mul_le_mul_right this (by omega : (0 : Int) < n)
        omega
      have hlen := f6.length
      have hsp : ad.spot = none := by
        have h3 := f5.now 0 _ (List.getElem?_eq_getElem (by
          rw [hlen, ← f3]
          exact Nat.mul_pos (by omega) hb0))
        simp only [Addr.add, if_true] at h3
        unfold World.cell? at h3
        split at h3
        · split at h3
          · cases h3
          · rename_i hs; cases hh : ad.spot <;> simp_all
        · cases h3
      refine ⟨_, by simp only [execOp, ho, f1, h2]; exact run_v (indexAt_run hu hs hb1 hjm w), ?_⟩
      simp only [Rep]
      refine ⟨_, (vs.drop (j.toNat * n)).take n, rfl, add_spot ad hsp _, Foot.imp f5 fun W' hW q u hq => ?_, (f6.drop _).take _⟩
      rw [List.getElem?_take] at hq
      split at hq
      · exact reads_drop hsp _ hW q u hq
      · cases hq
    · cases h
  · rename_i e1 _; cases e1
  · cases h
theorem trip_indexSl {t e n hh m : Nat} {x i : Operand} {R : Type} {K : AV → Option R} {r : R} (ho : o.op = .indexAddr t x i) (hu : P.underlying t = some (.slice e)) (hs : sz P e = some n) (hx : ev (tmOf σ) x = .sl n hh m) (h : indexA (.sl n hh m) (ev (tmOf σ) i) K = some r) :
    ∃ v, Trip P N nh σ o (val v) ∧ K v = some r := by
  unfold indexA at h
  split at h
  · rename_i e1 _; cases e1
  · rename_i e1 _; cases e1
  · rename_i s' h' m' kk j e1 e2
    injection e1 with e1 e1' e1''
    subst e1 e1' e1''
    split at h
    · rename_i hb
      refine ⟨_, trip_p fun {w ok φ a} hy => ?_, h⟩
      have h1 := hy x (by simp [ho, Op.operands])
      have h2 := hy i (by simp [ho, Op.operands])
      rw [hx] at h1
      rw [e2] at h2
      simp only [Rep] at h1 h2
      obtain ⟨b, c, f1, f2, f3, f4⟩ := h1
      refine ⟨_, by simp only [execOp, ho, f2, h2]; exact run_v (indexAt_run hu hs hb.1 hb.2 w), ?_⟩
      simp only [Rep]
      refine ⟨b, c * n, f1, ?_⟩
      have : (if n = 1 then j.toNat else j.toNat * n) = j.toNat * n := by split <;> simp_all
      rw [this]
      unfold Addr.add
      split
      · rename_i h0; simp [h0]
      · simp
    · cases h
  · cases h
theorem trip_nilCheck {x : Operand} {v : AV} (ho : o.op = .nilCheck x) (hx : ev (tmOf σ) x = v) (hv : (∃ h off, v = .ptr h off) ∨ (∃ l, v = .at_ l) ∨ (∃ f l, v = .fn f l) ∨ (∃ s h n, v = .sl s h n) ∨ ∃ h, v = .mp h) : Trip P N nh σ o (val v) :=
  trip_p fun {w ok φ a} hy => by
    have h1 := hy x (by simp [ho, Op.operands])
    rw [hx] at h1
    refine ⟨a.eval x, ?_, h1⟩
    rcases hv with ⟨h, off, rfl⟩ | ⟨l, rfl⟩ | ⟨f, l, rfl⟩ | ⟨s, h, n, rfl⟩ | ⟨h, rfl⟩ <;> simp only [Rep] at h1
    · obtain ⟨b, t, _, e⟩ := h1; simp [execOp, ho, e]
    · obtain ⟨ad, vs, e, _⟩ := h1; simp [execOp, ho, e]
    · obtain ⟨cs, e, _⟩ := h1; simp [execOp, ho, e]
    · obtain ⟨b, c, _, e, _⟩ := h1; simp [execOp, ho, e]
    · obtain ⟨b, _, e⟩ := h1; simp [execOp, ho, e]
theorem evs_rep {w : World} {ok : Nat → Prop} {φ : Nat → Option (Nat × Nat)} {a : Act} : ∀ (l : List Operand), (∀ y ∈ l, Rep φ w ok (ev (tmOf σ) y) (a.eval y)) → Reps φ w ok (l.map (ev (tmOf σ))) (l.map a.eval)
  | [], _ => by simp [Reps]
  | y :: l, hy => by
    simp only [List.map_cons, Reps]
    exact ⟨_, _, rfl, hy y List.mem_cons_self, evs_rep l fun z hz => hy z (List.mem_cons_of_mem _ hz)⟩
theorem trip_makeFunc {f : Nat} {cs : Array Operand} (ho : o.op = .makeFunc (.func f) ⟨[]⟩ cs) : Trip P N nh σ o (val (.fn f (cs.toList.map (ev (tmOf σ))))) :=
  trip_p fun {w ok φ a} hy => by
    refine ⟨.func (.func f) #[] (cs.map a.eval), by simp [execOp, ho, Instr.makeFunc], ?_⟩
    simp only [Rep]
    refine ⟨_, rfl, ?_⟩
    rw [Array.toList_map]
    exact evs_rep _ fun y hy' => hy y (by simp only [ho, Op.operands]; simp; simpa using hy')
theorem bnd_run {R : Type} {y d : Nat} {x : Option Operand} {K : Nat → Option R} {r : R} (h : bnd y d (tmOf σ) x K = some r) : ∃ n, K n = some r ∧ (x = none → n = d) ∧ ∀ z, x = some z → n ≤ y ∧ ∃ k, ev (tmOf σ) z = .int k (n : Nat) := by
  unfold bnd at h
  split at h
  · exact ⟨d, h, fun _ => rfl, (fun z hz => by cases hz)⟩
  · rename_i z
    split at h
    · rename_i k n hz
      split at h
      · rename_i hb
        refine ⟨n.toNat, h, (fun hh => by cases hh), fun z' hz' => ?_⟩
        injection hz' with hz'
        subst hz'
        exact ⟨by omega, k, by rw [hz, Int.toNat_of_nonneg hb.1]⟩
      · cases h
    · cases h
theorem sliceBounds_run {R : Type} {len : Nat} {lo hi : Option Operand} {K : Nat → Nat → Option R} {r : R} (h : (bnd len len (tmOf σ) hi fun h => bnd h 0 (tmOf σ) lo fun l => K h l) = some r) :
    ∃ h l, K h l = some r ∧ l ≤ h ∧ h ≤ len ∧ ∀ {iss : Bool} {cap : Nat}, len ≤ cap → ∀ {w : World} {ok : Nat → Prop} {φ : Nat → Option (Nat × Nat)} {a : Act}, (∀ z, hi = some z → Rep φ w ok (ev (tmOf σ) z) (a.eval z)) → (∀ z, lo = some z → Rep φ w ok (ev (tmOf σ) z) (a.eval z)) →
      (Instr.sliceBounds iss len cap (lo.map a.eval) (hi.map a.eval) none).run P w = .ok (l, h, cap) w := by
  obtain ⟨hh, k1, k2, k3⟩ := bnd_run h
  obtain ⟨l, m1, m2, m3⟩ := bnd_run k1
  have hle : hh ≤ len := by
    cases hi with
    | none => rw [k2 rfl]; exact Nat.le_refl _
    | some z => exact (k3 z rfl).1
  have hll : l ≤ hh := by
    cases lo with
    | none => rw [m2 rfl]; exact Nat.zero_le _
    | some z => exact (m3 z rfl).1
  refine ⟨hh, l, m1, hll, hle, fun {iss cap} hlc {w ok φ a} r1 r2 => ?_⟩
  have b1 : (hh : Int) ≤ cap := by omega
  cases hi with
  | none =>
    have := k2 rfl
    subst this
    cases lo with
    | none => rw [m2 rfl]; simp [Instr.sliceBounds]
    | some z =>
      obtain ⟨_, k, hz⟩ := m3 z rfl
      have := r2 z rfl
      rw [hz] at this
      simp only [Rep] at this
      have b2 : (l : Int) ≤ hh := by omega
      simp [Instr.sliceBounds, Instr.sliceBound, this, asIntOf, hll]
  | some y =>
    obtain ⟨_, ky, hy⟩ := k3 y rfl
    have e1 := r1 y rfl
    rw [hy] at e1
    simp only [Rep] at e1
    have b3 : hh ≤ cap := by omega
    cases lo with
    | none => rw [m2 rfl]; simp [Instr.sliceBounds, Instr.sliceBound, e1, asIntOf, b3]
    | some z =>
      obtain ⟨_, k, hz⟩ := m3 z rfl
      have := r2 z rfl
      rw [hz] at this
      simp only [Rep] at this
      simp [Instr.sliceBounds, Instr.sliceBound, this, e1, asIntOf, hll, b3]
theorem trip_index {t : Nat} {x i : Operand} {s : ByteArray} {k : IntKind} {n : Int} (ho : o.op = .index t x i) (hu : P.underlying t = some .string) (hx : ev (tmOf σ) x = .str s) (hi : ev (tmOf σ) i = .int k n) (h0 : 0 ≤ n) (h1 : n < s.size) :
    Trip P N nh σ o (val (.int .u8 ((s.data.getD n.toNat 0).toNat))) :=
  trip_p fun {w ok φ a} hy => by
    have h2 := hy x (by simp [ho, Op.operands])
    have h3 := hy i (by simp [ho, Op.operands])
    rw [hx] at h2
    rw [hi] at h3
    simp only [Rep] at h2 h3
    have hlt : n.toNat < s.size := by omega
    have hg : s[n.toNat]? = some (s.data.getD n.toNat 0) := by
      rw [getElem?_pos s n.toNat hlt]
      have : s.data.size = s.size := rfl
      simp [Array.getD, this, hlt]
      rfl
    refine ⟨.int .u8 ((s.data.getD n.toNat 0).toNat), ?_, by simp only [Rep]⟩
    simp only [execOp, ho, h2, h3]
    refine run_v ?_
    simp [Instr.index, asIntOf, run_underlying hu, h0, hg]
theorem trip_extract {x : Operand} {i : Nat} {l : List AV} {v : AV} (ho : o.op = .extract x i) (hx : ev (tmOf σ) x = .tup l) (hl : l[i]? = some v) : Trip P N nh σ o (val v) :=
  trip_p fun {w ok φ a} hy => by
    have h1 := hy x (by simp [ho, Op.operands])
    rw [hx] at h1
    simp only [Rep] at h1
    obtain ⟨cs, e1, e2⟩ := h1
    obtain ⟨u, k1, k2⟩ := e2.get i hl
    refine ⟨u, ?_, k2⟩
    simp only [execOp, ho, e1]
    refine run_v ?_
    have : cs[i]? = some u := by simpa using k1
    simp [Instr.extract, this]
theorem part_run {t off : Nat} {cs : List AV} {x : AV} {cells : Array Value} {φ : Nat → Option (Nat × Nat)} {w : World} {ok : Nat → Prop} (h : loadA P t (cs.drop off) = some x) (hr : Reps φ w ok cs cells.toList) : ∃ v, (part t cells off).run P w = .ok v w ∧ Rep φ w ok x v := by
  have hd := hr.drop off
  unfold loadA at h
  split at h
  · cases h
  rename_i hu
  have hu' : (P.underlying t).isNone = false := by revert hu; cases P.underlying t <;> simp
  split at h
  · rename_i ha
    split at h
    · rename_i n hn
      split at h
      · injection h with h
        subst h
        refine ⟨.agg (cells.extract off (off + n)), ?_, ?_⟩
        · simp [part, run_isAgg' hu', ha, run_sizeOf' hn]
        · simp only [Rep]
          refine ⟨_, rfl, ?_⟩
          have := hd.take n
          simpa [Array.toList_extract] using this
      · cases h
    · cases h
  · rename_i ha
    cases hc : cs.drop off with
    | nil => rw [hc] at h; simp at h
    | cons y l =>
      rw [hc] at h hd
      simp at h
      subst h
      simp only [Reps] at hd
      obtain ⟨v, vs', e, h2, h3⟩ := hd
      have hv : cells[off]? = some v := by
        have := congrArg (·[0]?) e
        simpa using this
      exact ⟨v, by simp [part, run_isAgg' hu', ha, hv], h2⟩
theorem trip_field {s f : Nat} {x : Operand} {fs : Array Field} {fd : Field} {cs : List AV} {v : AV} (ho : o.op = .field s x f) (hf : fieldsOf P s = some fs) (hfd : fs[f]? = some fd) (hx : ev (tmOf σ) x = .agg cs) (hl : loadA P fd.type (cs.drop fd.offset) = some v) : Trip P N nh σ o (val v) :=
  trip_p fun {w ok φ a} hy => by
    have h1 := hy x (by simp [ho, Op.operands])
    rw [hx] at h1
    simp only [Rep] at h1
    obtain ⟨cells, e1, e2⟩ := h1
    obtain ⟨u, k1, k2⟩ := part_run hl e2
    have hu : P.underlying s = some (.struct fs) := by
      unfold fieldsOf at hf
      split at hf
      · rename_i gs hg
        injection hf with hf
        subst hf
        exact hg
      · cases hf
    refine ⟨u, ?_, k2⟩
    simp [execOp, ho, Instr.field, run_underlying hu, e1, asAgg, hfd, k1]
end
def PureC (P : Program) (f : Nat) (xs : List AV) (r : AV) : Prop :=
  ∀ (w : World) (P0 : Nat → Prop) (vs : Array Value), Reps (fun _ => none) w P0 xs vs.toList →
    Calls P f vs w fun e w' => ∃ v, e = .returned v ∧ Below w.heap.size w w' ∧ Rep (fun _ => none) w' (fun k => P0 k ∨ w.heap.size ≤ k) r v
def noAct : Act := { tmps := #[], defers := [] }
def HeapC (P : Program) (f : Nat) (xs : List AV) (β : Nat → AV) (nh : Nat) (r : AV) (β' : Nat → AV) (nh' : Nat) : Prop :=
  ∀ (B : Nat) (P0 : Nat → Prop) (X : Ctx) (w0 w : World) (G : Nat → Prop) (φ : Nat → Option (Nat × Nat)) (vs : Array Value), (∀ h, G h → h < nh) → X.g ≤ nh → St 0 B P0 X w0 (fun h => G h ∨ nh ≤ h) (start [] β) φ noAct w → Reps φ w (Ok B P0 (start [] β) φ) xs vs.toList →
    Calls P f vs w fun e w' => ∃ v φ', e = .returned v ∧ St 0 B P0 X w0 (fun h => G h ∨ nh' ≤ h) (start [] β') φ' noAct w' ∧ Rep φ' w' (Ok B P0 (start [] β') φ') r v
def callable (P : Program) (g : Nat) : Bool :=
  match P.funcs[g]? with
  | some fn => !(fn.name == "runtime.NumGoroutine") && fn.body.isSome
  | none => false
def FunOk (P : Program) (g : Nat) (F : Fun) : Prop := callable P g = true ∧ (∀ (R : Type) xs (K : AV → Option R), F R xs K = (F AV xs some).bind K) ∧ ∀ xs x, F AV xs some = some x → PureC P g xs x
def HFunOk (P : Program) (g : Nat) (F : HFun) : Prop := callable P g = true ∧ (∀ (R : Type) xs β nh (K : AV → (Nat → AV) → Nat → Option R), F R xs β nh K = (F (AV × (Nat → AV) × Nat) xs β nh fun a b c => some (a, b, c)).bind fun p => K p.1 p.2.1 p.2.2) ∧
  ∀ xs β nh r β' nh', F (AV × (Nat → AV) × Nat) xs β nh (fun a b c => some (a, b, c)) = some (r, β', nh') → HeapC P g xs β nh r β' nh'
def OwnC (P : Program) (f : Nat) (xs : List AV) (r : AV) (bs : List AV) : Prop := HeapC P f xs (fun _ => .any) 0 r (fun h => bs.getD h .any) bs.length
def OFunOk (P : Program) (g : Nat) (F : OFun) : Prop := callable P g = true ∧ (∀ (R : Type) xs (K : AV → List AV → Option R), F R xs K = (F (AV × List AV) xs fun a b => some (a, b)).bind fun p => K p.1 p.2) ∧
  ∀ xs r bs, F (AV × List AV) xs (fun a b => some (a, b)) = some (r, bs) → OwnC P g xs r bs
def TfOk (P : Program) (g : Nat) : Tf → Prop
  | .pure F => FunOk P g F
  | .heap F => HFunOk P g F
  | .own F => OFunOk P g F
theorem FunOk.at_ {P : Program} {g : Nat} {F : Fun} (h : FunOk P g F) {R : Type} {xs : List AV} {K : AV → Option R} {r : R} (hr : F R xs K = some r) : ∃ x, PureC P g xs x ∧ K x = some r := by
  rw [h.2.1] at hr
  obtain ⟨x, h1, h2⟩ := Option.bind_eq_some_iff.1 hr
  exact ⟨x, h.2.2 _ _ h1, h2⟩
theorem HFunOk.at_ {P : Program} {g : Nat} {F : HFun} (h : HFunOk P g F) {R : Type} {xs : List AV} {β : Nat → AV} {nh : Nat} {K : AV → (Nat → AV) → Nat → Option R} {r : R} (hr : F R xs β nh K = some r) : ∃ x β' nh', HeapC P g xs β nh x β' nh' ∧ K x β' nh' = some r := by
  rw [h.2.1] at hr
  obtain ⟨⟨x, β', nh'⟩, h1, h2⟩ := Option.bind_eq_some_iff.1 hr
  exact ⟨x, β', nh', h.2.2 _ _ _ _ _ _ h1, h2⟩
theorem OFunOk.at_ {P : Program} {g : Nat} {F : OFun} (h : OFunOk P g F) {R : Type} {xs : List AV} {K : AV → List AV → Option R} {r : R} (hr : F R xs K = some r) : ∃ x bs, OwnC P g xs x bs ∧ K x bs = some r := by
  rw [h.2.1] at hr
  obtain ⟨⟨x, bs⟩, h1, h2⟩ := Option.bind_eq_some_iff.1 hr
  exact ⟨x, bs, h.2.2 _ _ _ h1, h2⟩
def TOk (P : Program) (T : Tab) : Prop := ∀ g F, T g = some F → TfOk P g F
section
variable {P : Program} {N nh : Nat} {σ : Nat → AV} {o : Oper}
theorem lenA_rep {φ : Nat → Option (Nat × Nat)} {w : World} {ok : Nat → Prop} {x v : AV} {u : Value} (h : lenA x = some v) (hn : ∀ s, x ≠ .str s) (hr : Rep φ w ok x u) : ∃ A n c, u = .slice A n c ∧ v = .int .i64 (n : Nat) := by
  cases x <;> simp only [lenA] at h <;> try (cases h; done)
  · exact absurd rfl (hn _)
  · injection h with h
    subst h
    simp only [Rep] at hr
    exact ⟨none, 0, 0, hr, rfl⟩
  · injection h with h
    subst h
    simp only [Rep] at hr
    obtain ⟨A, hr⟩ := hr
    exact ⟨A, 0, 0, hr, rfl⟩
  · injection h with h
    subst h
    simp only [Rep] at hr
    obtain ⟨A, c, e1, _⟩ := hr
    exact ⟨A, _, c, e1, rfl⟩
  · split at h
    · cases h
    · rename_i hs
      injection h with h
      subst h
      simp only [Rep] at hr
      obtain ⟨a, n, c, vs, e1, _, e3, _⟩ := hr
      refine ⟨some a, n, c, e1, ?_⟩
      rw [← e3, Nat.mul_div_cancel _ (by omega)]
  · injection h with h
    subst h
    simp only [Rep] at hr
    obtain ⟨b, c, _, e1, _⟩ := hr
    exact ⟨_, _, c, e1, rfl⟩
theorem trip_len {c : Call} {x : Operand} {t e : Nat} {v : AV} (ho : o.op = .call c) (hc : c.callee = .builtin .len) (ha : c.args = #[x]) (ht : c.argTypes[0]? = some t) (hu : P.underlying t = some (.slice e)) (hl : lenA (ev (tmOf σ) x) = some v) (hn : ∀ s, ev (tmOf σ) x ≠ .str s) : Trip P N nh σ o (val v) :=
  trip_p fun {w ok φ a} hy => by
    have h1 := hy x (by simp [ho, Op.operands, Call.operands, hc, ha])
    obtain ⟨A, n, cc, e1, rfl⟩ := lenA_rep hl hn h1
    refine ⟨.int .i64 (n : Nat), ?_, by simp only [Rep]⟩
    simp [execOp, ho, resolve, hc, ha, invoke, builtin, e1, Builtin.len_, ht, run_underlying hu, goInt]
theorem trip_lenS {c : Call} {x : Operand} {t : Nat} {s : ByteArray} (ho : o.op = .call c) (hc : c.callee = .builtin .len) (ha : c.args = #[x]) (ht : c.argTypes[0]? = some t) (hu : P.underlying t = some .string) (hx : ev (tmOf σ) x = .str s) : Trip P N nh σ o (val (.int .i64 (s.size : Nat))) :=
  trip_p fun {w ok φ a} hy => by
    have h1 := hy x (by simp [ho, Op.operands, Call.operands, hc, ha])
    rw [hx] at h1
    simp only [Rep] at h1
    refine ⟨.int .i64 (s.size : Nat), ?_, by simp only [Rep]⟩
    simp [execOp, ho, resolve, hc, ha, invoke, builtin, h1, Builtin.len_, ht, run_underlying hu, goInt]
theorem trip_max {c : Call} {x y : Operand} {k k' : IntKind} {m n : Int} (ho : o.op = .call c) (hc : c.callee = .builtin .max) (ha : c.args = #[x, y]) (hx : ev (tmOf σ) x = .int k m) (hy' : ev (tmOf σ) y = .int k' n) : Trip P N nh σ o (val (.int k (if n > m then n else m))) :=
  trip_p fun {w ok φ a} hy => by
    have h1 := hy x (by simp [ho, Op.operands, Call.operands, hc, ha])
    have h2 := hy y (by simp [ho, Op.operands, Call.operands, hc, ha])
    rw [hx] at h1
    rw [hy'] at h2
    simp only [Rep] at h1 h2
    refine ⟨.int k (if n > m then n else m), ?_, by simp only [Rep]⟩
    simp [execOp, ho, resolve, hc, ha, invoke, builtin, h1, h2, Builtin.max_, Builtin.max2]
theorem trip_min {c : Call} {x y : Operand} {k k' : IntKind} {m n : Int} (ho : o.op = .call c) (hc : c.callee = .builtin .min) (ha : c.args = #[x, y]) (hx : ev (tmOf σ) x = .int k m) (hy' : ev (tmOf σ) y = .int k' n) : Trip P N nh σ o (val (.int k (if n < m then n else m))) :=
  trip_p fun {w ok φ a} hy => by
    have h1 := hy x (by simp [ho, Op.operands, Call.operands, hc, ha])
    have h2 := hy y (by simp [ho, Op.operands, Call.operands, hc, ha])
    rw [hx] at h1
    rw [hy'] at h2
    simp only [Rep] at h1 h2
    refine ⟨.int k (if n < m then n else m), ?_, by simp only [Rep]⟩
    simp [execOp, ho, resolve, hc, ha, invoke, builtin, h1, h2, Builtin.min_, Builtin.min2]
theorem reads_block {w : World} {b off : Nat} {vs : Array Value} {e : Nat} {fr : Nat × Nat} (h : w.heap[b]? = some (.cells vs e fr)) : Reads ⟨b, off, none⟩ (vs.toList.drop off) w := fun i u hu => by
  have : (⟨b, off, none⟩ : Addr).add i = ⟨b, off + i, none⟩ := by unfold Addr.add; split <;> simp_all
  rw [this]
  rw [List.getElem?_drop] at hu
  simp [World.cell?, h]
  simpa using hu
theorem foot_block {w : World} {ok : Nat → Prop} {b off : Nat} {vs : Array Value} {e : Nat} {fr : Nat × Nat} {us : List Value} (h : w.heap[b]? = some (.cells vs e fr)) (hok : ok b) (hu : ∀ (i : Nat) (u : Value), us[i]? = some u → (vs.toList.drop off)[i]? = some u) : Foot (Reads ⟨b, off, none⟩ us) w ok := fun W' hW => by
  have hlt : b < w.heap.size := (Array.getElem?_eq_some_iff.1 h).1
  have hg := hW b hok hlt
  rw [h] at hg
  intro i u hi
  exact reads_block hg i u (hu i u hi)
theorem ints_vals {φ : Nat → Option (Nat × Nat)} {w : World} {ok : Nat → Prop} {k : IntKind} : ∀ {l : List Int} {vs : List Value}, Reps φ w ok (l.map (.int k)) vs → vs = l.map (Value.int k)
  | [], vs, h => by simpa [Reps] using h
  | x :: l, vs, h => by
    simp only [List.map_cons, Reps] at h
    obtain ⟨v, vs', rfl, h2, h3⟩ := h
    rw [ints_vals h3]
    simp only [Rep] at h2
    subst h2
    rfl
theorem vals_ints {φ : Nat → Option (Nat × Nat)} {w : World} {ok : Nat → Prop} {k : IntKind} : ∀ (l : List Int), Reps φ w ok (l.map (.int k)) (l.map (Value.int k))
  | [] => by simp [Reps]
  | x :: l => by
    simp only [List.map_cons, Reps]
    exact ⟨_, _, rfl, by simp only [Rep], vals_ints l⟩
theorem row_block {w : World} {ok : Nat → Prop} {k : IntKind} {is : List Int} {b : Nat} {vs : Array Value} {e : Nat} {fr : Nat × Nat} (h : w.heap[b]? = some (.cells vs e fr)) (hok : ok b) (hc : vs.toList.take is.length = is.map (Value.int k)) (hl : is.length ≤ 9223372036854775807) : Kd.F (Kd.int k) w ok (some ⟨b, 0, none⟩) is.length is := by
  intro W' hW
  have hlt : b < w.heap.size := (Array.getElem?_eq_some_iff.1 h).1
  have hg := hW b hok hlt
  rw [h] at hg
  refine ⟨rfl, by omega, fun _ => ⟨_, rfl, fun j p hj => ⟨[.int k p], rfl, rfl, fun i u hu => ?_⟩⟩⟩
  cases i with
  | succ i => simp at hu
  | zero =>
    simp only [List.getElem?_cons_zero, Option.some.injEq] at hu
    subst hu
    have hjl := (List.getElem?_eq_some_iff.1 hj).1
    have h1 : (vs.toList.take is.length)[j]? = some (.int k p) := by rw [hc, List.getElem?_map, hj]; rfl
    rw [List.getElem?_take, if_pos hjl] at h1
    have := reads_block (off := 0) hg j (.int k p) (by rw [List.drop_zero]; exact h1)
    simpa [Kd.int, Kd.scalar] using this
structure Killed (σ σ' : Nat → AV) (hs : List Nat) : Prop where
  gone : ∀ h ∈ hs, σ' (2 * h + 1) = .any
  same : ∀ h, σ' (2 * h + 1) ≠ .any → σ' (2 * h + 1) = σ (2 * h + 1)
section
variable {B : Nat} {P0 : Nat → Prop} {X : Ctx} {w0 w : World} {fresh : Nat → Prop} {φ : Nat → Option (Nat × Nat)} {a : Act} {σ σ' : Nat → AV}
theorem Killed.ok {hs : List Nat} (hk : Killed σ σ' hs) {k : Nat} (h : Ok B P0 σ φ k) : Ok B P0 σ' φ k := ⟨h.1, fun j t hj => h.2 j t (by rw [← hk.same j hj]; exact hj)⟩
theorem Killed.less {hs hs' : List Nat} (hk : Killed σ σ' hs) (h : ∀ x ∈ hs', x ∈ hs) : Killed σ σ' hs' := ⟨fun x hx => hk.gone x (h x hx), hk.same⟩
theorem Killed.block {hs : List Nat} (hk : Killed σ σ' hs) (h : St N B P0 X w0 fresh σ φ a w) {n b t : Nat} (hn : n ∈ hs) (hl : σ (2 * n + 1) ≠ .any) (hφ : φ n = some (b, t)) : Ok B P0 σ' φ b := by
  refine ⟨(h.own n b t hφ).1.elim (fun hx => .inl (h.px b hx)) .inr, fun j t' hj hjb => ?_⟩
  have hj' : σ (2 * j + 1) ≠ .any := by rw [← hk.same j hj]; exact hj
  have := h.inj j n b t' t hj' hl hjb hφ
  subst this
  exact hj (hk.gone j hn)
theorem noPtrs_take : ∀ (l : List AV) (n : Nat), noPtrs l = true → noPtrs (l.take n) = true
  | [], n, _ => by simp [noPtrs]
  | x :: l, 0, _ => by simp [noPtrs]
  | x :: l, n + 1, h => by simp only [List.take_succ_cons, noPtrs, Bool.and_eq_true] at h ⊢; exact ⟨h.1, noPtrs_take l n h.2⟩
theorem noPtrs_drop : ∀ (l : List AV) (n : Nat), noPtrs l = true → noPtrs (l.drop n) = true
  | [], n, _ => by simp [noPtrs]
  | x :: l, 0, h => by simpa using h
  | x :: l, n + 1, h => by simp only [noPtrs, Bool.and_eq_true] at h; exact noPtrs_drop l n h.2
mutual
theorem frz_ok (h : St N B P0 X w0 fresh σ φ a w) : ∀ (x : AV) {y : AV} {hs : List Nat} {u : Value}, frz (bxOf σ) x = some (y, hs) → Killed σ σ' hs → Rep φ w (Ok B P0 σ φ) x u → Rep φ w (Ok B P0 σ' φ) y u ∧ noPtr y = true
  | .sl s n m, y, hs, u, hf, hk, hr => by
    simp only [frz] at hf
    simp only [Rep] at hr
    obtain ⟨b, c, e1, e2, e3, e4⟩ := hr
    split at hf
    · rename_i k l hb
      split at hf
      · rename_i hc
        injection hf with hf
        injection hf with hf1 hf2
        subst hf1 hf2
        obtain ⟨rfl, hml⟩ := hc
        have hlive : σ (2 * n + 1) ≠ .any := fun e => by rw [show bxOf σ n = σ (2 * n + 1) from rfl, e] at hb; cases hb
        have hh := h.boxes n hlive
        rw [show σ (2 * n + 1) = .row k l from hb] at hh
        simp only [Holds] at hh
        obtain ⟨b', t, vs, e, f1, f2, f3, f4, f5⟩ := hh
        rw [e1] at f1
        injection f1 with f1
        injection f1 with f1 f1'
        subst f1
        have hv := ints_vals f5
        rw [List.length_map] at hv
        refine ⟨?_, rfl⟩
        have hlen : (l.take m).length = m := by rw [List.length_take]; omega
        simp only [Rep]
        refine ⟨_, c, by rw [hlen]; exact e2, by omega, row_block f2 (hk.block h (List.mem_singleton.2 rfl) hlive e1) ?_ (by omega)⟩
        rw [hlen]
        have := congrArg (List.take m) hv
        rw [List.take_take, Nat.min_eq_left hml] at this
        rw [this, List.map_take]
      · cases hf
    · rename_i cs hb
      split at hf
      · rename_i hc
        injection hf with hf
        injection hf with hf1 hf2
        subst hf1 hf2
        obtain ⟨hnp, hml⟩ := hc
        have hlive : σ (2 * n + 1) ≠ .any := fun e => by rw [show bxOf σ n = σ (2 * n + 1) from rfl, e] at hb; cases hb
        have hh := h.boxes n hlive
        rw [show σ (2 * n + 1) = .agg cs from hb] at hh
        simp only [Holds] at hh
        obtain ⟨b', t, vs, e, f1, f2, f3, f4, f5⟩ := hh
        rw [e1] at f1
        injection f1 with f1
        injection f1 with f1 f1'
        subst f1
        refine ⟨?_, by simpa only [noPtr] using noPtrs_take _ _ hnp⟩
        have hlen : (cs.take (m * s)).length = m * s := by rw [List.length_take]; omega
        simp only [Rep]
        have hR : Reps φ w (Ok B P0 σ' φ) (cs.take (m * s)) (vs.toList.take (m * s)) := by
          have := (f5.take (m * s))
          rw [List.take_take, Nat.min_eq_left hml] at this
          exact Reps.move (fun _ _ h => h) (fun k hk' _ => hk.ok hk') (fun _ _ _ => rfl) _ this
        refine ⟨_, m, c, vs.toList.take (m * s), e2, e3, by rw [hlen], by omega, foot_block f2 (hk.block h (List.mem_singleton.2 rfl) hlive e1) (fun i u hu => ?_), hR⟩
        rw [List.drop_zero]
        rw [List.getElem?_take] at hu
        split at hu
        · exact hu
        · cases hu
      · cases hf
    · cases hf
  | .ptr n off, y, hs, u, hf, hk, hr => by
    simp only [frz] at hf
    simp only [Rep] at hr
    obtain ⟨b, t0, e1, e2⟩ := hr
    split at hf
    · rename_i cs hb
      split at hf
      · rename_i hnp
        injection hf with hf
        injection hf with hf1 hf2
        subst hf1 hf2
        have hlive : σ (2 * n + 1) ≠ .any := fun e => by rw [show bxOf σ n = σ (2 * n + 1) from rfl, e] at hb; cases hb
        have hh := h.boxes n hlive
        rw [show σ (2 * n + 1) = .agg cs from hb] at hh
        simp only [Holds] at hh
        obtain ⟨b', t, vs, e, f1, f2, f3, f4, f5⟩ := hh
        rw [e1] at f1
        injection f1 with f1
        injection f1 with f1 f1'
        subst f1
        refine ⟨?_, by simpa only [noPtr] using noPtrs_drop _ _ hnp⟩
        simp only [Rep]
        refine ⟨_, (vs.toList.take cs.length).drop off, e2, rfl, foot_block f2 (hk.block h (List.mem_singleton.2 rfl) hlive e1) (fun i u hu => ?_), Reps.move (fun _ _ h => h) (fun k hk' _ => hk.ok hk') (fun _ _ _ => rfl) _ (f5.drop off)⟩
        rw [List.getElem?_drop, List.getElem?_take] at hu
        rw [List.getElem?_drop]
        split at hu
        · exact hu
        · cases hu
      · cases hf
    · cases hf
  | .mp n, y, hs, u, hf, hk, hr => by simp [frz] at hf
  | .mc _ _ _ _, y, hs, u, hf, hk, hr => by simp [frz] at hf
  | .arr s l, y, hs, u, hf, hk, hr => by
    simp only [frz] at hf
    split at hf
    · rename_i l' hs' hl
      injection hf with hf
      injection hf with hf1 hf2
      subst hf1 hf2
      simp only [Rep] at hr ⊢
      obtain ⟨ad, n, c, vs, h1, h2, h3, h4, h5, h6⟩ := hr
      obtain ⟨k1, k2⟩ := frzs_ok h l hl hk h6
      have := h6.length
      have := k1.length
      refine ⟨⟨ad, n, c, vs, h1, h2, by omega, h4, Foot_move h5 (fun k hk' _ => hk.ok hk') (fun _ _ _ => rfl), k1⟩, by simpa only [noPtr] using k2⟩
    · cases hf
  | .at_ l, y, hs, u, hf, hk, hr => by
    simp only [frz] at hf
    split at hf
    · rename_i l' hs' hl
      injection hf with hf
      injection hf with hf1 hf2
      subst hf1 hf2
      simp only [Rep] at hr ⊢
      obtain ⟨ad, vs, h1, h2, h3, h4⟩ := hr
      obtain ⟨k1, k2⟩ := frzs_ok h l hl hk h4
      refine ⟨⟨ad, vs, h1, h2, Foot_move h3 (fun k hk' _ => hk.ok hk') (fun _ _ _ => rfl), k1⟩, by simpa only [noPtr] using k2⟩
    · cases hf
  | .agg l, y, hs, u, hf, hk, hr => by
    simp only [frz] at hf
    split at hf
    · rename_i l' hs' hl
      injection hf with hf
      injection hf with hf1 hf2
      subst hf1 hf2
      simp only [Rep] at hr ⊢
      obtain ⟨cs, h1, h2⟩ := hr
      obtain ⟨k1, k2⟩ := frzs_ok h l hl hk h2
      exact ⟨⟨cs, h1, k1⟩, by simpa only [noPtr] using k2⟩
    · cases hf
  | .tup l, y, hs, u, hf, hk, hr => by
    simp only [frz] at hf
    split at hf
    · rename_i l' hs' hl
      injection hf with hf
      injection hf with hf1 hf2
      subst hf1 hf2
      simp only [Rep] at hr ⊢
      obtain ⟨cs, h1, h2⟩ := hr
      obtain ⟨k1, k2⟩ := frzs_ok h l hl hk h2
      exact ⟨⟨cs, h1, k1⟩, by simpa only [noPtr] using k2⟩
    · cases hf
  | .fn f l, y, hs, u, hf, hk, hr => by
    simp only [frz] at hf
    split at hf
    · rename_i l' hs' hl
      injection hf with hf
      injection hf with hf1 hf2
      subst hf1 hf2
      simp only [Rep] at hr ⊢
      obtain ⟨cs, h1, h2⟩ := hr
      obtain ⟨k1, k2⟩ := frzs_ok h l hl hk h2
      exact ⟨⟨cs, h1, k1⟩, by simpa only [noPtr] using k2⟩
    · cases hf
  | .any, y, hs, u, hf, hk, hr => by simp only [frz] at hf; injection hf with hf; injection hf with hf1 hf2; subst hf1; exact ⟨by simp only [Rep], rfl⟩
  | .bool b, y, hs, u, hf, hk, hr => by simp only [frz] at hf; injection hf with hf; injection hf with hf1 hf2; subst hf1; exact ⟨by simpa only [Rep] using hr, rfl⟩
  | .int k n, y, hs, u, hf, hk, hr => by simp only [frz] at hf; injection hf with hf; injection hf with hf1 hf2; subst hf1; exact ⟨by simpa only [Rep] using hr, rfl⟩
  | .str b, y, hs, u, hf, hk, hr => by simp only [frz] at hf; injection hf with hf; injection hf with hf1 hf2; subst hf1; exact ⟨by simpa only [Rep] using hr, rfl⟩
  | .nil, y, hs, u, hf, hk, hr => by simp only [frz] at hf; injection hf with hf; injection hf with hf1 hf2; subst hf1; exact ⟨by simpa only [Rep] using hr, rfl⟩
  | .z0, y, hs, u, hf, hk, hr => by simp only [frz] at hf; injection hf with hf; injection hf with hf1 hf2; subst hf1; exact ⟨by simpa only [Rep] using hr, rfl⟩
  | .pnil, y, hs, u, hf, hk, hr => by simp only [frz] at hf; injection hf with hf; injection hf with hf1 hf2; subst hf1; exact ⟨by simpa only [Rep] using hr, rfl⟩
  | .mnil, y, hs, u, hf, hk, hr => by simp only [frz] at hf; injection hf with hf; injection hf with hf1 hf2; subst hf1; exact ⟨by simpa only [Rep] using hr, rfl⟩
  | .fnil, y, hs, u, hf, hk, hr => by simp only [frz] at hf; injection hf with hf; injection hf with hf1 hf2; subst hf1; exact ⟨by simpa only [Rep] using hr, rfl⟩
  | .row k l, y, hs, u, hf, hk, hr => by simp only [frz] at hf; injection hf with hf; injection hf with hf1 hf2; subst hf1; exact ⟨Rep.move (fun _ _ h => h) (fun k hk' _ => hk.ok hk') (fun _ _ _ => rfl) _ hr, rfl⟩
theorem frzs_ok (h : St N B P0 X w0 fresh σ φ a w) : ∀ (l : List AV) {l' : List AV} {hs : List Nat} {us : List Value}, frzs (bxOf σ) l = some (l', hs) → Killed σ σ' hs → Reps φ w (Ok B P0 σ φ) l us → Reps φ w (Ok B P0 σ' φ) l' us ∧ noPtrs l' = true
  | [], l', hs, us, hf, hk, hr => by
    simp only [frzs] at hf; injection hf with hf; injection hf with hf1 hf2; subst hf1
    exact ⟨by simpa only [Reps] using hr, rfl⟩
  | x :: l, l', hs, us, hf, hk, hr => by
    simp only [frzs] at hf
    split at hf
    · rename_i y hs1 l1 hs2 h1 h2
      injection hf with hf
      injection hf with hf1 hf2
      subst hf1 hf2
      simp only [Reps] at hr ⊢
      obtain ⟨v, vs', rfl, q1, q2⟩ := hr
      obtain ⟨k1, k2⟩ := frz_ok h x h1 (hk.less fun z hz => List.mem_append_left _ hz) q1
      obtain ⟨k3, k4⟩ := frzs_ok h l h2 (hk.less fun z hz => List.mem_append_right _ hz) q2
      exact ⟨⟨v, vs', rfl, k1, k3⟩, by simp only [noPtrs, k2, k4, Bool.and_self]⟩
    · cases hf
end
theorem putB_odd : ∀ (l : List (Nat × AV)) (σ : Nat → AV) (t : Nat), putB σ l (2 * t) = σ (2 * t)
  | [], σ, t => rfl
  | (h, v) :: l, σ, t => by
    simp only [putB]
    rw [putB_odd l, upd_eq, if_neg (by omega)]
theorem kills_killed : ∀ (l : List Nat) (σ : Nat → AV), Killed σ (putB σ (l.map fun h => (h, .any))) l
  | [], σ => ⟨fun h hh => (by cases hh), fun h _ => rfl⟩
  | n :: l, σ => by
    have ih := kills_killed l (upd σ (2 * n + 1) .any)
    refine ⟨fun h hh => ?_, fun h hh => ?_⟩
    · by_cases hl : h ∈ l
      · exact ih.gone h hl
      · have hn : h = n := (List.mem_cons.1 hh).resolve_right hl
        subst hn
        by_cases hx : putB (upd σ (2 * h + 1) .any) (l.map fun h => (h, .any)) (2 * h + 1) = .any
        · exact hx
        · have := ih.same h hx
          simp only [List.map_cons, putB]
          rw [this]
          simp [upd_eq]
    · have h1 := ih.same h hh
      simp only [List.map_cons, putB] at hh ⊢
      rw [h1] at hh ⊢
      simp only [upd_eq] at hh ⊢
      split at hh
      · exact absurd rfl hh
      · rename_i hne; rw [if_neg hne]
end
end
section
variable {P : Program} {N nh : Nat} {σ : Nat → AV} {o : Oper}
theorem putT_upd (σ : Nat → AV) (dst : Option Tmp) (x y : AV) (n : Nat) : putT (upd σ (2 * n + 1) y) dst x = upd (putT σ dst x) (2 * n + 1) y := by
  cases dst with
  | none => rfl
  | some d =>
    funext z
    simp only [putT, upd_eq]
    split <;> split <;> first | rfl | omega
theorem putT_putB (dst : Option Tmp) (x : AV) : ∀ (l : List (Nat × AV)) (σ : Nat → AV), putT (putB σ l) dst x = putB (putT σ dst x) l
  | [], _ => rfl
  | (h, v) :: l, σ => by simp only [putB]; rw [putT_putB dst x l, putT_upd]
theorem start_even (args : List AV) (β : Nat → AV) (t : Nat) : start args β (2 * t) = args.getD t .any := by
  have h1 : 2 * t % 2 = 0 := by omega
  have h2 : 2 * t / 2 = t := by omega
  simp [start, h1, h2]
theorem start_odd (args : List AV) (β : Nat → AV) (h : Nat) : start args β (2 * h + 1) = β h := by
  have h1 : (2 * h + 1) % 2 = 1 := by omega
  have h2 : (2 * h + 1) / 2 = h := by omega
  simp only [start, h1, h2]
  rfl
theorem putW_even (σ : Nat → AV) (β : Nat → AV) (t : Nat) : putW σ (some β) (2 * t) = σ (2 * t) := by
  have h1 : 2 * t % 2 = 0 := by omega
  simp [putW, h1]
theorem putW_odd (σ : Nat → AV) (β : Nat → AV) (h : Nat) : putW σ (some β) (2 * h + 1) = β h := by
  have h1 : (2 * h + 1) % 2 = 1 := by omega
  have h2 : (2 * h + 1) / 2 = h := by omega
  simp only [putW, h1, h2]
  rfl
theorem callee_run {a : Act} {w : World} {c : Call} {f : Operand} {g : Nat} {cs : Array Value} (ho : o.op = .call c) (hc : c.callee = .value f) (hf : a.eval f = .func (.func g) #[] cs) (hcl : callable P g = true) : (execOp a.eval o).run P w = .ok (.enter g (c.args.map a.eval ++ cs)) w := by
  unfold callable at hcl
  split at hcl
  · rename_i fn hfn
    simp only [Bool.and_eq_true, Bool.not_eq_true'] at hcl
    have hnm : fn.name ≠ "runtime.NumGoroutine" := by simpa using hcl.1
    have hbn : fn.body ≠ none := by intro hbb; simp [hbb] at hcl
    simp [execOp, ho, resolve, hc, hf, Deferred.ofValue, invoke, callFunc, hfn, hnm, hbn]
  · cases hcl
theorem call_evs {w : World} {ok : Nat → Prop} {φ : Nat → Option (Nat × Nat)} {a : Act} {σ' : Nat → AV} {c : Call} {f : Operand} {g : Nat} {l : List AV} (ho : o.op = .call c) (hc : c.callee = .value f) (hf : ev (tmOf σ) f = .fn g l) (hag : ∀ t, Operand.tmp t ∈ o.op.operands → σ' (2 * t) = σ (2 * t)) (hy : ∀ y, Rep φ w ok (ev (tmOf σ') y) (a.eval y)) :
    ∃ cs : Array Value, a.eval f = .func (.func g) #[] cs ∧ Reps φ w ok (c.args.toList.map (ev (tmOf σ)) ++ l) (c.args.map a.eval ++ cs).toList := by
  have hmem : ∀ y ∈ c.args.toList, y ∈ o.op.operands := fun y hy => by simp [ho, Op.operands, Call.operands, hc]; right; simpa using hy
  have hf1 := hy f
  rw [ev_agree hag (by simp [ho, Op.operands, Call.operands, hc]), hf] at hf1
  simp only [Rep] at hf1
  obtain ⟨cs, e1, e2⟩ := hf1
  refine ⟨cs, e1, ?_⟩
  rw [Array.toList_append, Array.toList_map]
  refine Reps.append (evs_rep _ fun y hy' => ?_) e2
  have := hy y
  rwa [ev_agree hag (hmem y hy')] at this
mutual
theorem frzK_eq {R : Type} {β : Nat → AV} : ∀ (x : AV) (K : AV → List Nat → Option R), frzK β x K = (frz β x).bind fun p => K p.1 p.2
  | .sl s n m, K => by
    simp only [frzK, frz]
    cases β n <;> dsimp only <;> first
      | rfl
      | (by_cases h1 : s = 1
         · by_cases h2 : m ≤ (by assumption : List Int).length
           · rw [if_pos h1, if_pos h2, if_pos ⟨h1, h2⟩]; rfl
           · rw [if_pos h1, if_neg h2, if_neg (fun h => h2 h.2)]; rfl
         · rw [if_neg h1, if_neg (fun h => h1 h.1)]; rfl)
      | (rename_i cs
         by_cases h1 : noPtrs cs = true
         · by_cases h2 : m * s ≤ cs.length
           · rw [if_pos h1, if_pos h2, if_pos ⟨h1, h2⟩]; rfl
           · rw [if_pos h1, if_neg h2, if_neg (fun h => h2 h.2)]; rfl
         · rw [if_neg h1, if_neg (fun h => h1 h.1)]; rfl)
  | .ptr n off, K => by
    simp only [frzK, frz]
    cases β n <;> dsimp only <;> first
      | rfl
      | (split <;> rfl)
  | .mp n, K => by simp only [frzK, frz]; rfl
  | .mc _ _ _ _, K => by simp only [frzK, frz]; rfl
  | .arr s l, K => by
    simp only [frzK, frz]; rw [frzsK_eq l]
    cases frzs β l <;> rfl
  | .at_ l, K => by
    simp only [frzK, frz]; rw [frzsK_eq l]
    cases frzs β l <;> rfl
  | .agg l, K => by
    simp only [frzK, frz]; rw [frzsK_eq l]
    cases frzs β l <;> rfl
  | .tup l, K => by
    simp only [frzK, frz]; rw [frzsK_eq l]
    cases frzs β l <;> rfl
  | .fn f l, K => by
    simp only [frzK, frz]; rw [frzsK_eq l]
    cases frzs β l <;> rfl
  | .any, K => by simp only [frzK, frz]; rfl
  | .bool b, K => by simp only [frzK, frz]; rfl
  | .int k n, K => by simp only [frzK, frz]; rfl
  | .str b, K => by simp only [frzK, frz]; rfl
  | .nil, K => by simp only [frzK, frz]; rfl
  | .z0, K => by simp only [frzK, frz]; rfl
  | .pnil, K => by simp only [frzK, frz]; rfl
  | .mnil, K => by simp only [frzK, frz]; rfl
  | .fnil, K => by simp only [frzK, frz]; rfl
  | .row k l, K => by simp only [frzK, frz]; rfl
theorem frzsK_eq {R : Type} {β : Nat → AV} : ∀ (l : List AV) (K : List AV → List Nat → Option R), frzsK β l K = (frzs β l).bind fun p => K p.1 p.2
  | [], K => by simp only [frzsK, frzs]; rfl
  | x :: l, K => by
    simp only [frzsK, frzs]
    rw [frzK_eq x]
    cases frz β x with
    | none => rfl
    | some p =>
      obtain ⟨y, hs⟩ := p
      show frzsK β l _ = _
      rw [frzsK_eq l]
      cases frzs β l <;> rfl
end
mutual
theorem frz_reads {β β' : Nat → AV} : ∀ (x : AV) {y : AV} {hs : List Nat}, frz β x = some (y, hs) → (∀ h ∈ hs, β' h = β h) → frz β' x = some (y, hs)
  | .sl s n m, y, hs, hf, hb => by
    simp only [frz] at hf ⊢
    have : β' n = β n := by
      revert hf
      cases hq : β n <;> intro hf <;> dsimp only at hf <;> first
        | (cases hf; done)
        | (split at hf <;> first | (cases hf; done) | (injection hf with hf; injection hf with h1 h2; subst h2; rw [← hq]; exact hb n (List.mem_singleton.2 rfl)))
    rw [this]; exact hf
  | .ptr n off, y, hs, hf, hb => by
    simp only [frz] at hf ⊢
    have : β' n = β n := by
      revert hf
      cases hq : β n <;> intro hf <;> dsimp only at hf <;> first
        | (cases hf; done)
        | (split at hf <;> first | (cases hf; done) | (injection hf with hf; injection hf with h1 h2; subst h2; rw [← hq]; exact hb n (List.mem_singleton.2 rfl)))
    rw [this]; exact hf
  | .mp n, y, hs, hf, hb => by simp [frz] at hf
  | .mc _ _ _ _, y, hs, hf, hb => by simp [frz] at hf
  | .arr s l, y, hs, hf, hb => by
    simp only [frz] at hf ⊢
    split at hf
    · rename_i l' hs' hl
      injection hf with hf; injection hf with h1 h2; subst h1 h2
      rw [frzs_reads l hl hb]
    · cases hf
  | .at_ l, y, hs, hf, hb => by
    simp only [frz] at hf ⊢
    split at hf
    · rename_i l' hs' hl
      injection hf with hf; injection hf with h1 h2; subst h1 h2
      rw [frzs_reads l hl hb]
    · cases hf
  | .agg l, y, hs, hf, hb => by
    simp only [frz] at hf ⊢
    split at hf
    · rename_i l' hs' hl
      injection hf with hf; injection hf with h1 h2; subst h1 h2
      rw [frzs_reads l hl hb]
    · cases hf
  | .tup l, y, hs, hf, hb => by
    simp only [frz] at hf ⊢
    split at hf
    · rename_i l' hs' hl
      injection hf with hf; injection hf with h1 h2; subst h1 h2
      rw [frzs_reads l hl hb]
    · cases hf
  | .fn f l, y, hs, hf, hb => by
    simp only [frz] at hf ⊢
    split at hf
    · rename_i l' hs' hl
      injection hf with hf; injection hf with h1 h2; subst h1 h2
      rw [frzs_reads l hl hb]
    · cases hf
  | .any, y, hs, hf, hb => by simpa only [frz] using hf
  | .bool b, y, hs, hf, hb => by simpa only [frz] using hf
  | .int k n, y, hs, hf, hb => by simpa only [frz] using hf
  | .str b, y, hs, hf, hb => by simpa only [frz] using hf
  | .nil, y, hs, hf, hb => by simpa only [frz] using hf
  | .z0, y, hs, hf, hb => by simpa only [frz] using hf
  | .pnil, y, hs, hf, hb => by simpa only [frz] using hf
  | .mnil, y, hs, hf, hb => by simpa only [frz] using hf
  | .fnil, y, hs, hf, hb => by simpa only [frz] using hf
  | .row k l, y, hs, hf, hb => by simpa only [frz] using hf
theorem frzs_reads {β β' : Nat → AV} : ∀ (l : List AV) {l' : List AV} {hs : List Nat}, frzs β l = some (l', hs) → (∀ h ∈ hs, β' h = β h) → frzs β' l = some (l', hs)
  | [], l', hs, hf, hb => by simpa only [frzs] using hf
  | x :: l, l', hs, hf, hb => by
    simp only [frzs] at hf ⊢
    split at hf
    · rename_i y hs1 l1 hs2 h1 h2
      injection hf with hf; injection hf with e1 e2; subst e1 e2
      rw [frz_reads x h1 fun h hh => hb h (List.mem_append_left _ hh), frzs_reads l h2 fun h hh => hb h (List.mem_append_right _ hh)]
    · cases hf
end
theorem trip_pure {c : Call} {f : Operand} {g : Nat} {cs ys : List AV} {hs : List Nat} {x : AV} (ho : o.op = .call c) (hc : c.callee = .value f) (hf : ev (tmOf σ) f = .fn g cs) (hcl : callable P g = true) (hz : frzs (bxOf σ) (c.args.toList.map (ev (tmOf σ)) ++ cs) = some (ys, hs)) (hP : PureC P g ys x) :
    Trip P N nh σ o ⟨x, hs, hs.map fun h => (h, .any), none, 0⟩ := by
  refine ⟨.inl rfl, ?_⟩
  intro B P0 X w0 w fresh φ a σ' h1 h2 _ hst hfr _ hd next Q hk
  obtain ⟨vs, e1, e2⟩ := call_evs ho hc hf h1 (fun y => hst.ev y)
  have hz' : frzs (bxOf σ') (c.args.toList.map (ev (tmOf σ)) ++ cs) = some (ys, hs) := frzs_reads _ hz fun h hh => h2 h hh
  have hkl := kills_killed hs σ'
  obtain ⟨q1, q2⟩ := frzs_ok hst _ hz' hkl e2
  have hs2 := hst.kills hs
  have hcalls := hP w (Ok B P0 (putB σ' (hs.map fun h => (h, .any))) φ) _ (Reps.free (φ' := fun _ => none) _ q2 q1)
  unfold Oper.wp
  rw [callee_run ho hc e1 hcl]
  refine Calls.mono hcalls fun e w' he => ?_
  obtain ⟨v, rfl, hbw, hv⟩ := he
  refine hk φ v w' ?_
  have hs3 := hs2.world (w' := w') (Kept.of (hbw.mono hst.base)) (fun k hk => hbw.block k hk)
  have hs4 := St.put hs3 hd (x := x) (v := v) (fun _ _ => Rep.move (fun h b hh => by cases hh) (fun k hk _ => by
    rcases hk with hk | hk
    · exact hk
    · exact ⟨.inr (Nat.le_trans hst.base hk), fun h t hh hφ => by have := (hst.own h k t hφ).2; omega⟩) (fun _ _ _ => rfl) _ hv)
  rw [putT_putB] at hs4
  exact St.less hs4 (fun k (hk : fresh k ∧ _) => hk.1)
theorem St.bare {B : Nat} {P0 : Nat → Prop} {X : Ctx} {w0 w : World} {fresh fresh' : Nat → Prop} {φ : Nat → Option (Nat × Nat)} {a : Act} {β : Nat → AV} (h : St N B P0 X w0 fresh σ φ a w) (hβ : ∀ h, σ (2 * h + 1) = β h) (hf : ∀ k, fresh' k → φ k = none) {g : Nat} : Ok B P0 (start [] β) φ = Ok B P0 σ φ ∧ St 0 B P0 ⟨X.X, fun i x u => Rep (lim' φ i) w (Ok B P0 σ φ) x u, g⟩ w0 fresh' (start [] β) φ noAct w := by
  have hb : ∀ h, start [] β (2 * h + 1) = σ (2 * h + 1) := fun h => by rw [start_odd, hβ]
  have hO : Ok B P0 (start [] β) φ = Ok B P0 σ φ := Ok_congr hb
  refine ⟨hO, { h with defers := rfl, size := rfl, tmps := fun t => by rw [start_even]; simp [Rep], boxes := fun k hk => ?_, inj := fun k k' b t t' hk hk' => ?_, gh := fun i x u hi hx => by rw [hO]; exact hx, fr := hf }⟩
  · rw [hO]
    rw [hb] at hk ⊢
    exact h.boxes k hk
  · rw [hb] at hk hk'
    exact h.inj k k' b t t' hk hk'
theorem lim_all {φ : Nat → Option (Nat × Nat)} {g : Nat} (h : ∀ k, g ≤ k → φ k = none) : lim' φ g = φ := by
  funext k
  unfold lim'
  split
  · rfl
  · rw [h k (by omega)]
theorem Rep.unlim {φ : Nat → Option (Nat × Nat)} {w : World} {ok : Nat → Prop} {g : Nat} {x : AV} {v : Value} (h : Rep (lim' φ g) w ok x v) : Rep φ w ok x v := Rep.move (fun k b hk => by
  unfold lim' at hk
  split at hk
  · exact hk
  · cases hk) (fun _ h _ => h) (fun _ _ _ => rfl) _ h
theorem trip_heap {c : Call} {f : Operand} {g : Nat} {cs : List AV} {x : AV} {β' : Nat → AV} {nh' : Nat} (ho : o.op = .call c) (hc : c.callee = .value f) (hf : ev (tmOf σ) f = .fn g cs) (hcl : callable P g = true) (hle : nh ≤ nh') (hP : HeapC P g (c.args.toList.map (ev (tmOf σ)) ++ cs) (bxOf σ) nh x β' nh') :
    Trip P N nh σ o ⟨x, [], [], some β', nh' - nh⟩ := by
  refine ⟨.inr (.inl rfl), ?_⟩
  intro B P0 X w0 w fresh φ a σ' h1 _ h2 hst hfr hall hd next Q hk
  obtain ⟨vs, e1, e2⟩ := call_evs ho hc hf h1 (fun y => hst.ev y)
  have hall := hall rfl
  have hlim : lim' φ nh = φ := lim_all fun k hk => hst.fr k (hall k hk)
  obtain ⟨hO, hb⟩ := hst.bare (β := bxOf σ) (fresh' := fun k => (fresh k ∧ k < nh) ∨ nh ≤ k) (fun h => h2 rfl h) (fun k hk => hst.fr k (hk.elim (fun h => h.1) (hall k)))
  have hcalls := hP B P0 ⟨X.X, fun i x u => Rep (lim' φ i) w (Ok B P0 σ' φ) x u, nh⟩ w0 w (fun k => fresh k ∧ k < nh) φ _ (fun h hh => hh.2) (Nat.le_refl _) hb (by rw [hO]; exact e2)
  unfold Oper.wp
  rw [callee_run ho hc e1 hcl]
  refine Calls.mono hcalls fun e w' he => ?_
  obtain ⟨v, φ', rfl, hs', hv⟩ := he
  have hmv : ∀ x u, Rep φ w (Ok B P0 σ' φ) x u → Rep φ' w' (Ok B P0 (start [] β') φ') x u := fun x u hx => Rep.unlim (hs'.gh nh x u (Nat.le_refl _) (by show Rep (lim' φ nh) w _ x u; rw [hlim]; exact hx))
  refine hk φ' v w' ?_
  have hO2 : Ok B P0 (putW σ' (some β')) φ' = Ok B P0 (start [] β') φ' := Ok_congr fun h => by rw [putW_odd, start_odd]
  have hs2 : St N B P0 X w0 (fun k => (fresh k ∧ k < nh) ∨ nh' ≤ k) (putW σ' (some β')) φ' a w' :=
    { hs' with
      defers := hst.defers
      size := hst.size
      tmps := fun t => by rw [hO2, putW_even]; exact hmv _ _ (hst.tmps t)
      gh := fun i x u hi hx => by
        rw [hO2]
        have hR := hst.gh i x u hi hx
        by_cases hin : i ≤ nh
        · exact hs'.gh i x u hin hR
        · have hli : lim' φ i = φ := lim_all fun k hk => hst.fr k (hall k (by omega))
          rw [hli] at hR
          have hR2 : Rep (lim' φ nh) w (Ok B P0 σ' φ) x u := by rw [hlim]; exact hR
          exact Rep.move (fun k b hk => by
            unfold lim' at hk ⊢
            split at hk
            · rw [if_pos (by omega)]; exact hk
            · cases hk) (fun _ h _ => h) (fun _ _ _ => rfl) _ (hs'.gh nh x u (Nat.le_refl _) hR2)
      boxes := fun k hk => by
        rw [hO2]
        rw [putW_odd] at hk ⊢
        have := hs'.boxes k (by rw [start_odd]; exact hk)
        rwa [start_odd] at this
      inj := fun k k' b t t' hk hk' => by
        rw [putW_odd] at hk hk'
        exact hs'.inj k k' b t t' (by rw [start_odd]; exact hk) (by rw [start_odd]; exact hk') }
  have hs3 := St.put hs2 hd (x := x) (v := v) (fun _ _ => by rw [hO2]; exact hv)
  have he : putT (putW σ' (some β')) o.dst x = put σ' o.dst ⟨x, [], [], some β', nh' - nh⟩ := by
    show putT (putW σ' (some β')) o.dst x = putW (putT σ' o.dst x) (some β')
    funext z
    rcases Nat.mod_two_eq_zero_or_one z with hz | hz
    · have ez : z = 2 * (z / 2) := by omega
      rw [ez, putW_even]
      cases o.dst with
      | none => simp only [putT]; rw [putW_even]
      | some d => simp only [putT, upd_eq]; split <;> first | rfl | rw [putW_even]
    · have ez : z = 2 * (z / 2) + 1 := by omega
      rw [ez, putT_odd, putW_odd, putW_odd]
  rw [← he]
  refine St.less hs3 (fun k (hk : fresh k ∧ ¬(nh ≤ k ∧ k < nh + (nh' - nh))) => ?_)
  by_cases hkn : k < nh
  · exact .inl ⟨hk.1, hkn⟩
  · right; omega
end
section
variable {P : Program} {N nh : Nat} {σ : Nat → AV} {o : Oper}
theorem trip_new {cs : List AV} {c x : AV} (hc : contC c = some cs) (h : ∀ {w : World} {ok : Nat → Prop} {φ : Nat → Option (Nat × Nat)} {a : Act}, (∀ y ∈ o.op.operands, Rep φ w ok (ev (tmOf σ) y) (a.eval y)) →
    ∃ (vs : Array Value) (t : Nat) (v : Value), (execOp a.eval o).run P w = .ok (.value v) (w.alloc (.cells vs t (0, 0))) ∧ cs.length ≤ vs.size ∧ Reps φ w ok cs (vs.toList.take cs.length) ∧
      ∀ (φ' : Nat → Option (Nat × Nat)) (w' : World) (ok' : Nat → Prop), φ' nh = some (w.heap.size, vs.size) → Rep φ' w' ok' x v) : Trip P N nh σ o ⟨x, [], [(nh, c)], none, 1⟩ := by
  refine ⟨.inr (.inr (by simp)), ?_⟩
  intro B P0 X w0 w fresh φ a σ' h1 h2 _ hs hfr _ hd next Q hk
  obtain ⟨vs, t, v, hr, hl, hv, hx⟩ := h (fun y hy => by rw [← ev_agree h1 hy]; exact hs.ev y)
  obtain ⟨φ', hs2, hφ, _⟩ := hs.new (hfr nh (Nat.le_refl _) (by show nh < nh + 1; omega)) (ob := .cells vs t (0, 0)) (c := c) (t := vs.size) (fun φ' w' ok' hφ hok hm hn hb => Holds_new hc rfl hl hv φ' w' ok' hφ hok hm hn hb)
  refine wp_value hr (hk φ' _ _ ?_)
  have := St.put hs2 hd (x := x) (v := v) (fun _ _ => hx _ _ _ hφ)
  rw [putT_upd] at this
  exact St.less this (fun k (hk : fresh k ∧ ¬(nh ≤ k ∧ k < nh + 1)) => ⟨hk.1, fun e => hk.2 (by omega)⟩)
theorem trip_alloc {t : Nat} {cs : List AV} (ho : o.op = .alloc t) (hz : zeroCells' P t = some cs) : Trip P N nh σ o ⟨.ptr nh 0, [], [(nh, .agg cs)], none, 1⟩ :=
  trip_new (cs := cs) rfl fun {w ok φ a} hy => by
    obtain ⟨it, z, h1, h2, h3, _⟩ := zeroCells_rep (φ := φ) hz w ok
    have hl := h3.length
    refine ⟨z.cells, t, .pointer (some ⟨w.heap.size, 0, none⟩), ?_, by rw [← Array.length_toList]; omega, by rw [List.take_of_length_le (by omega)]; exact h3, fun φ' w' ok' hφ => by simp only [Rep]; exact ⟨_, _, hφ, rfl⟩⟩
    simp only [execOp, ho]
    refine run_v ?_
    simp [Instr.alloc, zeroValue, typeInfo, h1, h2, newVar, newRow, newObj, Sem.run]
theorem trip_box {t : Nat} {x : Operand} {cs : List AV} (ho : o.op = .box t x) (hc : cellsOf (ev (tmOf σ) x) = some cs) : Trip P N nh σ o ⟨.ptr nh 0, [], [(nh, .agg cs)], none, 1⟩ :=
  trip_new (cs := cs) rfl fun {w ok φ a} hy => by
    obtain ⟨h1, _⟩ := cellsOf_rep hc (hy x (by simp [ho, Op.operands]))
    have hl := h1.length
    refine ⟨(a.eval x).cells, t, .pointer (some ⟨w.heap.size, 0, none⟩), ?_, by rw [← Array.length_toList]; omega, by rw [List.take_of_length_le (by omega)]; exact h1, fun φ' w' ok' hφ => by simp only [Rep]; exact ⟨_, _, hφ, rfl⟩⟩
    simp only [execOp, ho]
    refine run_v ?_
    simp [Instr.box, newVar, newRow, newObj, Sem.run]
theorem loadB_at {R : Type} {t off : Nat} {c : AV} {K : AV → Option R} {r : R} (h : loadB P t c off K = some r) : ∃ v cs, K v = some r ∧ contC c = some cs ∧ loadA P t (cs.drop off) = some v := by
  unfold loadB at h
  split at h
  · rename_i cs
    split at h
    · exact ⟨_, cs, h, rfl, by assumption⟩
    · cases h
  · rename_i k l
    split at h
    · cases h
    · rename_i hn
      split at h
      · rename_i hlt
        refine ⟨_, _, h, rfl, ?_⟩
        unfold loadA
        rw [if_neg (fun h => hn (.inl h)), if_neg (fun h => hn (.inr h))]
        rw [← List.map_drop, List.drop_eq_getElem_cons hlt]
        simp [List.getD, List.getElem?_eq_getElem hlt]
      · cases h
  · cases h
theorem trip_load {t h off : Nat} {x : Operand} {c : AV} {cs : List AV} {v : AV} (ho : o.op = .load t x) (hx : ev (tmOf σ) x = .ptr h off) (hb : σ (2 * h + 1) = c) (hc : contC c = some cs) (hl : loadA P t (cs.drop off) = some v) : Trip P N nh σ o ⟨v, [h], [], none, 0⟩ := by
  refine ⟨.inl rfl, ?_⟩
  intro B P0 X w0 w fresh φ a σ' h1 h2 _ hs hfr _ hd next Q hk
  have hp := hs.ev x
  rw [ev_agree h1 (by simp [ho, Op.operands]), hx] at hp
  simp only [Rep] at hp
  obtain ⟨b, t0, e1, e2⟩ := hp
  have hb' : σ' (2 * h + 1) = c := by rw [h2 h (by simp), hb]
  obtain ⟨b', t1, vs, e, f1, f2, f3, f4, f5⟩ := Holds.toC hc (by rw [← hb']; exact hs.boxes h (by rw [hb']; intro hh; rw [hh] at hc; simp [contC] at hc))
  rw [e1] at f1
  injection f1 with f1
  injection f1 with f1 f1'
  subst f1
  obtain ⟨u, k1, k2⟩ := loadVar_run (ad := ⟨b, off, none⟩) hl (f5.drop off) (fun i u hu => reads_block f2 i u (by
    rw [List.getElem?_drop, List.getElem?_take] at hu
    rw [List.getElem?_drop]
    split at hu
    · exact hu
    · cases hu))
  refine wp_value (v := u) (w' := w) (by simp [execOp, ho, e2, Instr.loadAt, Instr.sureAddr, k1]) (hk φ u w ?_)
  exact St.less (St.put hs hd (fun _ _ => k2)) (fun k (hk : fresh k ∧ _) => hk.1)
theorem setL_length {cs vs : List AV} {off : Nat} (h : off + vs.length ≤ cs.length) : (setL cs off vs).length = cs.length := by
  unfold setL
  simp only [List.length_append, List.length_take, List.length_drop]
  omega
theorem seg_take {α : Type} (L C : List α) (off n : Nat) (h : off + C.length ≤ n) (hn : n ≤ L.length) : (L.take off ++ C ++ L.drop (off + C.length)).take n = (L.take n).take off ++ C ++ (L.take n).drop (off + C.length) := by
  have e : L = L.take n ++ L.drop n := (List.take_append_drop n L).symm
  have e1 : L.take off = (L.take n).take off := by rw [List.take_take, Nat.min_eq_left (by omega)]
  have e2 : L.drop (off + C.length) = (L.take n).drop (off + C.length) ++ L.drop n := by
    conv => lhs; rw [e]
    rw [List.drop_append_of_le_length (by rw [List.length_take]; omega)]
  rw [e1, e2, ← List.append_assoc]
  refine List.take_left' ?_
  simp only [List.length_append, List.length_take, List.length_drop]
  omega
theorem trip_store {t h off : Nat} {x y : Operand} {c c' : AV} {cs vs : List AV} (ho : o.op = .store t x y) (hx : ev (tmOf σ) x = .ptr h off) (hb : σ (2 * h + 1) = c) (hc : contC c = some cs) (hy : cellsOf (ev (tmOf σ) y) = some vs) (hsz : sz P t = some vs.length) (hle : off + vs.length ≤ cs.length) (hc' : contC c' = some (setL cs off vs)) :
    Trip P N nh σ o ⟨.any, [h], [(h, c')], none, 0⟩ := by
  refine ⟨.inl rfl, ?_⟩
  intro B P0 X w0 w fresh φ a σ' h1 h2 _ hs hfr _ hd next Q hk
  have hp := hs.ev x
  rw [ev_agree h1 (by simp [ho, Op.operands]), hx] at hp
  simp only [Rep] at hp
  obtain ⟨b, t0, e1, e2⟩ := hp
  have hb' : σ' (2 * h + 1) = c := by rw [h2 h (by simp), hb]
  have hne : σ' (2 * h + 1) ≠ .any := by rw [hb']; intro hh; rw [hh] at hc; simp [contC] at hc
  obtain ⟨b', t1, old, e, f1, f2, f3, f4, f5⟩ := Holds.toC hc (by rw [← hb']; exact hs.boxes h hne)
  rw [e1] at f1
  injection f1 with f1
  injection f1 with f1 f1'
  subst f1 f1'
  have hv := hs.ev y
  rw [ev_agree h1 (by simp [ho, Op.operands])] at hv
  obtain ⟨g1, g2⟩ := cellsOf_rep hy hv
  have gl := g1.length
  have ol : cs.length ≤ old.toList.length := by simp; omega
  have hst := run_storeCells_at P b off e (a.eval y).cells.toList 0 old w f2 (by simp only [Nat.add_zero]; simp at ol gl ⊢; omega) g2
  simp only [Nat.add_zero] at hst
  generalize hL : (a.eval y).cells.toList = L at g1 g2 gl hst
  have hsv : (storeVar t ⟨b, off, none⟩ (a.eval y)).run P w = .ok () (w.setRow b (old.toList.take off ++ L ++ old.toList.drop (off + L.length)).toArray) := by
    have : (a.eval y).cells.size = vs.length := by rw [← Array.length_toList, hL, gl]
    simp [storeVar, run_sizeOf' hsz, this, hL]
    simpa using hst
  generalize hw : w.setRow b (old.toList.take off ++ L ++ old.toList.drop (off + L.length)).toArray = w1 at hsv
  refine wp_skip' (w' := w1) (by simp [execOp, ho, e2, Instr.storeAt, Instr.sureAddr, hsv]) (hk φ undef w1 ?_)
  have hother : ∀ k, k ≠ b → w1.heap[k]? = w.heap[k]? := fun k hk => by rw [← hw]; exact setRow_other w b k _ hk
  have hhere : w1.heap[b]? = some (.cells (old.toList.take off ++ L ++ old.toList.drop (off + L.length)).toArray e (0, 0)) := by rw [← hw]; exact setRow_heap w b old _ e _ f2
  have hsize : w1.heap.size = w.heap.size := by rw [← hw]; simp [World.setRow]
  have hne' : c' ≠ .any := by intro hh; rw [hh] at hc'; simp [contC] at hc'
  have hs1 := hs.set (c := c') hne e1 (w' := w1) (by rw [← hw]; rfl) (by rw [← hw]; rfl) (by rw [← hw]; rfl) hsize hother hne' (fun hm => Holds.ofC hc' ⟨b, t0, _, e, e1, hhere, by
    rw [← Array.length_toList]
    simp only [List.length_append, List.length_take, List.length_drop]
    rw [Array.length_toList, f3]
    simp at ol
    omega, by rw [setL_length hle]; exact f4, by
    rw [setL_length hle]
    show Reps φ w1 (Ok B P0 σ' φ) (setL cs off vs) (List.take cs.length (old.toList.take off ++ L ++ old.toList.drop (off + L.length)))
    rw [seg_take _ _ _ _ (by omega) ol]
    unfold setL
    rw [← gl]
    have mvs : ∀ {z : List AV} {u : List Value}, Reps φ w (Ok B P0 σ' φ) z u → Reps φ w1 (Ok B P0 σ' φ) z u := fun hz => Reps.move (fun _ _ h => h) (fun _ h _ => h) (fun k hk _ => hm k hk) _ hz
    exact Reps.append (Reps.append (mvs (f5.take off)) (mvs g1)) (mvs (f5.drop _))⟩)
  have := St.put hs1 hd (x := .any) (v := undef) (fun _ _ => by simp only [Rep])
  rw [putT_upd] at this
  exact St.less this (fun k (hk : fresh k ∧ _) => hk.1)
theorem storeB_at {R : Type} {t off : Nat} {c x : AV} {K : AV → Option R} {r : R} (h : storeB P t c off x K = some r) : ∃ c' cs vs, K c' = some r ∧ contC c = some cs ∧ cellsOf x = some vs ∧ sz P t = some vs.length ∧ off + vs.length ≤ cs.length ∧ contC c' = some (setL cs off vs) := by
  unfold storeB at h
  split at h
  · rename_i cs
    split at h
    · rename_i vs hv
      split at h
      · rename_i hc
        exact ⟨_, cs, vs, h, rfl, hv, hc.1, hc.2, rfl⟩
      · cases h
    · cases h
  · rename_i k l
    split at h
    · rename_i k' n
      split at h
      · rename_i hc
        obtain ⟨rfl, hs⟩ := hc
        split at h
        · rename_i hlt
          refine ⟨_, _, [.int k' n], h, rfl, rfl, hs, by simp; omega, ?_⟩
          simp only [contC, setL, Option.some.injEq]
          rw [List.set_eq_take_append_cons_drop, if_pos hlt]
          simp [List.map_take, List.map_drop]
        · cases h
      · cases h
    · cases h
  · cases h
theorem row_new {φ : Nat → Option (Nat × Nat)} {w : World} {B : Nat} {P0 : Nat → Prop} {σ : Nat → AV} {k : IntKind} {is : List Int} {cells : Array Value} {e : Nat} (hc : cells.toList = is.map (Value.int k)) (hl : is.length < 100000) (hB : B ≤ w.heap.size) (hφ : ∀ h b t, φ h = some (b, t) → b < w.heap.size) :
    Kd.F (Kd.int k) (w.alloc (.cells cells e (0, 0))) (Ok B P0 σ φ) (some ⟨w.heap.size, 0, none⟩) is.length is := by
  have hnew : (w.alloc (.cells cells e (0, 0))).heap[w.heap.size]? = some (.cells cells e (0, 0)) := by show (w.heap.push _)[w.heap.size]? = _; simp
  refine row_block hnew ⟨.inr hB, fun h t _ hh => by have := hφ h _ t hh; omega⟩ ?_ (by omega)
  rw [hc, List.take_of_length_le (by simp)]
theorem buildSlice_run {τ : Nat → AV} {t e n : Nat} {len : Nat} {parts : Array (Nat × Operand)} {l : List AV} {φ : Nat → Option (Nat × Nat)} {w : World} {ok : Nat → Prop} {a : Act} (hu : P.underlying t = some (.slice e)) (hs : sz P e = some n) (hp : parts.size = len) (hn : 0 < n) (hsm : len * n < 100000) (hz : (zeroCells' P e).isSome = true) (hl : partsOf n τ 0 parts.toList = some l)
    (hev : ∀ p ∈ parts.toList, Rep φ w ok (ev τ p.2) (a.eval p.2)) : ∃ cells : Array Value, (Instr.buildSlice t len (parts.map fun (i, x) => (i, a.eval x))).run P w = .ok (.slice (some ⟨w.heap.size, 0, none⟩) len len) (w.alloc (.cells cells e (0, 0))) ∧
      Reps φ w ok l cells.toList ∧ cells.size = len * n := by
  obtain ⟨zz, hzz⟩ := Option.isSome_iff_exists.1 hz
  obtain ⟨it, z, hi, hz1, _, _⟩ := zeroCells_rep (φ := φ) hzz w ok
  obtain ⟨i2, hi2, hn2⟩ := sz_info hs
  rw [hi] at hi2
  injection hi2 with hi2
  subst hi2
  let zero : Array Value := if len * n = 0 then #[] else z.cells
  obtain ⟨cells, vs, f1, f2, f3, f4, f5⟩ := partsOf_fill n parts.toList 0 l ((Array.range (len * n)).map (zero[· % zero.size]!)) hev hl (by simp [hp])
  have hcv : cells.toList = vs := by rw [f2]; simp
  refine ⟨cells, ?_, by rw [hcv]; exact f3, by rw [← Array.length_toList, hcv, f5]; simp [hp]⟩
  have hfill : Instr.fill (fun i => some (i * n, n)) ((Array.range (len * n)).map (zero[· % zero.size]!)) (parts.map fun (i, x) => (i, a.eval x)).toList = some cells := by
    rw [Array.toList_map]; exact f1
  have hbig : ¬ (2 ^ 24 < len * n) := by omega
  have r0 : Array.range 0 = #[] := rfl
  by_cases h0 : len * n = 0
  · have hf2 : Instr.fill (fun i => some (i * n, n)) #[] (List.map (fun x => (x.fst, a.eval x.snd)) parts.toList) = some cells := by
      have := hfill
      rw [h0, Array.toList_map, r0] at this
      simpa using this
    simp [Instr.buildSlice, run_underlying hu, run_sizeOf' hs, h0, r0, hf2, newRow, newObj, Sem.run]
  · have hf2 : Instr.fill (fun i => some (i * n, n)) (Array.map (fun x => z.cells[x % z.cells.size]!) (Array.range (len * n))) (List.map (fun x => (x.fst, a.eval x.snd)) parts.toList) = some cells := by
      have := hfill
      simp only [zero, if_neg h0] at this
      rw [Array.toList_map] at this
      exact this
    simp [Instr.buildSlice, run_underlying hu, run_sizeOf' hs, h0, hbig, zeroValue, typeInfo, hi, hz1, hf2, newRow, newObj, Sem.run]
theorem trip_row {t e len : Nat} {k : IntKind} {parts : Array (Nat × Operand)} {l : List AV} {is : List Int} (ho : o.op = .buildSlice t len parts) (hu : P.underlying t = some (.slice e)) (hs : sz P e = some 1) (hp : parts.size = len) (hsm : len * 1 < 100000) (hz : (zeroCells' P e).isSome = true) (hl : partsOf 1 (tmOf σ) 0 parts.toList = some l) (hi : asInts k l = some is) :
    Trip P N nh σ o (val (.row k is)) :=
  trip_w fun {B P0 X σ' w φ a} hy hB hφ => by
    have hev : ∀ p ∈ parts.toList, Rep φ w (Ok B P0 σ' φ) (ev (tmOf σ) p.2) (a.eval p.2) := fun p hp => hy p.2 (by simp only [ho, Op.operands]; simp; exact ⟨p.1, by simpa using hp⟩)
    obtain ⟨cells, h1, h2, h3⟩ := buildSlice_run hu hs hp (by omega) hsm hz hl hev
    have hc := asInts_vals hi h2
    have hlen : is.length = len := by have := congrArg List.length hc; simp at this; omega
    refine ⟨_, _, by simp only [execOp, ho]; exact run_v h1, (Below.refl _ _).alloc (Nat.le_refl _) _, ?_⟩
    simp only [Rep]
    refine ⟨some ⟨w.heap.size, 0, none⟩, len, by rw [hlen], by omega, row_new hc (by omega) hB hφ⟩
theorem trip_buildOwn {t e len n : Nat} {parts : Array (Nat × Operand)} {l : List AV} (ho : o.op = .buildSlice t len parts) (hu : P.underlying t = some (.slice e)) (hs : sz P e = some n) (hp : parts.size = len) (hn : 0 < n) (hsm : len * n < 100000) (hz : (zeroCells' P e).isSome = true) (hl : partsOf n (tmOf σ) 0 parts.toList = some l) :
    Trip P N nh σ o ⟨.sl n nh len, [], [(nh, .agg l)], none, 1⟩ :=
  trip_new (cs := l) rfl fun {w ok φ a} hy => by
    have hev : ∀ p ∈ parts.toList, Rep φ w ok (ev (tmOf σ) p.2) (a.eval p.2) := fun p hp => hy p.2 (by simp only [ho, Op.operands]; simp; exact ⟨p.1, by simpa using hp⟩)
    obtain ⟨cells, h1, h2, h3⟩ := buildSlice_run hu hs hp hn hsm hz hl hev
    have hl2 := h2.length
    have hle : len ≤ len * n := Nat.le_mul_of_pos_right len hn
    refine ⟨cells, e, _, by simp only [execOp, ho]; exact run_v h1, by rw [← Array.length_toList]; omega, by rw [List.take_of_length_le (by omega)]; exact h2, fun φ' w' ok' hφ => ?_⟩
    simp only [Rep]
    exact ⟨w.heap.size, len, by rw [hφ, h3], rfl, Nat.le_refl _, by omega⟩
theorem zeroRow_at {e : Nat} {k : IntKind} (h : zeroRow P e = some k) : zeroCells' P e = some [.int k 0] := by
  unfold zeroRow at h
  split at h
  · rename_i k' n hz
    split at h
    · rename_i hn
      injection h with h
      subst h hn
      exact hz
    · cases h
  · cases h
theorem cells_one {z : Array Value} {n : Nat} (h : z.size = 1) : madeCells z n = Array.replicate n (z.getD 0 undef) := by
  unfold madeCells
  apply Array.ext
  · simp
  · intro i h1 h2
    simp [h, Nat.mod_one, Array.getD]
theorem reps_replicate {φ : Nat → Option (Nat × Nat)} {w : World} {ok : Nat → Prop} {x : AV} {v : Value} (h : Rep φ w ok x v) : ∀ n, Reps φ w ok (List.replicate n x) (List.replicate n v)
  | 0 => by simp [Reps]
  | n + 1 => by simp only [List.replicate_succ, Reps]; exact ⟨_, _, rfl, h, reps_replicate h n⟩
theorem reps_flat {φ : Nat → Option (Nat × Nat)} {w : World} {ok : Nat → Prop} {x : List AV} {v : List Value} (h : Reps φ w ok x v) : ∀ n, Reps φ w ok (List.replicate n x).flatten (List.replicate n v).flatten
  | 0 => by simp [Reps]
  | n + 1 => by simp only [List.replicate_succ, List.flatten_cons]; exact Reps.append h (reps_flat h n)
theorem flat_get {α : Type} (z : List α) (hz : 0 < z.length) : ∀ (n i : Nat), i < n * z.length → (List.replicate n z).flatten[i]? = z[i % z.length]?
  | 0, i, h => by omega
  | n + 1, i, h => by
    have hm : (n + 1) * z.length = n * z.length + z.length := by rw [Nat.add_mul]; omega
    simp only [List.replicate_succ, List.flatten_cons]
    by_cases hi : i < z.length
    · rw [List.getElem?_append_left hi, Nat.mod_eq_of_lt hi]
    · rw [List.getElem?_append_right (by omega), flat_get z hz n (i - z.length) (by omega)]
      congr 1
      conv => rhs; rw [show i = (i - z.length) + z.length by omega, Nat.add_mod_right]
theorem flat_cells {z : Array Value} (hz : 0 < z.size) (n : Nat) : (madeCells z (n * z.size)).toList = (List.replicate n z.toList).flatten := by
  apply List.ext_getElem?
  intro i
  by_cases hi : i < n * z.size
  · rw [flat_get z.toList (by simpa using hz) n i (by simpa using hi)]
    have hlt : i % z.size < z.size := Nat.mod_lt _ hz
    simp [madeCells, hi, hlt]
  · rw [List.getElem?_eq_none (by simp [madeCells]; omega), List.getElem?_eq_none (by simp; omega)]
theorem makeA_trip {t e : Nat} {x y : Operand} {R : Type} {K : Eff → Option R} {r : R} (ho : o.op = .makeSlice t x y) (hu : P.underlying t = some (.slice e)) (h : makeA P e nh (ev (tmOf σ) x) (ev (tmOf σ) y) K = some r) : ∃ ef, Trip P N nh σ o ef ∧ K ef = some r := by
  unfold makeA at h
  split at h
  · rename_i kl n kc m s by_ z hx hy hs hby hz
    split at h
    · rename_i hb
      obtain ⟨b1, b2, b3, b4⟩ := hb
      have hrun : ∀ {w : World} {ok : Nat → Prop} {φ : Nat → Option (Nat × Nat)} {a : Act}, (∀ y ∈ o.op.operands, Rep φ w ok (ev (tmOf σ) y) (a.eval y)) → ∃ zv : Value, Reps φ w ok z zv.cells.toList ∧ (execOp a.eval o).run P w = .ok (.value (.slice (some ⟨w.heap.size, 0, none⟩) n.toNat m.toNat)) (w.alloc (.cells (madeCells zv.cells (m.toNat * s)) e)) := by
        intro w ok φ a hev
        have h1 := hev x (by simp [ho, Op.operands])
        have h2 := hev y (by simp [ho, Op.operands])
        rw [hx] at h1
        rw [hy] at h2
        simp only [Rep] at h1 h2
        obtain ⟨it, zv, hi, hz1, hr, _⟩ := zeroCells_rep (φ := φ) hz w ok
        obtain ⟨i2, hi2, hn2⟩ := sz_info hs
        rw [hi] at hi2
        injection hi2 with hi2
        subst hi2
        unfold bytesOf at hby
        rw [hi] at hby
        simp only [Option.map_some, Option.some.injEq] at hby
        refine ⟨zv, hr, ?_⟩
        simp only [execOp, ho, h1, h2]
        have := run_make w t e it zv hu hi hz1 kl kc n m b1 b2 (by rw [hby]; omega) b4
        rw [hn2] at this
        exact run_v this
      split at h
      · rename_i k hk
        split at h
        · rename_i hs1
          subst hs1
          have hzk := zeroRow_at hk
          rw [hz] at hzk
          injection hzk with hzk
          subst hzk
          refine ⟨_, trip_new (cs := (List.replicate m.toNat (0 : Int)).map (.int k)) rfl fun {w ok φ a} hev => ?_, h⟩
          obtain ⟨zv, hr, hrn⟩ := hrun hev
          have hl := hr.length
          have hzs : zv.cells.size = 1 := by simpa using hl
          have hz0 : zv.cells.toList = [zv.cells.getD 0 undef] := by
            match hq : zv.cells.toList, hl with
            | [u], _ => simp [Array.getD, hzs, ← Array.getElem_toList, hq]
          rw [hz0] at hr
          simp only [Reps] at hr
          obtain ⟨u, us, hu1, hu2, _⟩ := hr
          injection hu1 with hu1 _
          have hsz : (madeCells zv.cells (m.toNat * 1)).size = m.toNat := by simp [size_madeCells]
          refine ⟨_, e, _, hrn, by rw [hsz]; simp, ?_, fun φ' w' ok' hφ => ?_⟩
          · rw [Nat.mul_one, cells_one hzs, List.map_replicate]
            simp only [List.length_replicate, Array.toList_replicate, List.take_replicate, Nat.min_self]
            rw [hu1]
            exact reps_replicate hu2 _
          · simp only [Rep]
            exact ⟨w.heap.size, m.toNat, by rw [hφ, hsz, Nat.mul_one], rfl, by omega, by omega⟩
        · cases h
      · split at h
        · cases h
        · rename_i hsz
          have hs0 : 0 < s := by omega
          have hzl : z.length = s := by
            by_cases hq : z.length = s
            · exact hq
            · exact absurd (.inr hq) hsz
          refine ⟨_, trip_new (cs := (List.replicate m.toNat z).flatten) rfl fun {w ok φ a} hev => ?_, h⟩
          obtain ⟨zv, hr, hrn⟩ := hrun hev
          have hl := hr.length
          have hzs : zv.cells.size = s := by rw [← Array.length_toList, hl, hzl]
          have hfl : ((List.replicate m.toNat z).flatten).length = m.toNat * s := by simp [hzl]
          have hsz2 : (madeCells zv.cells (m.toNat * s)).size = m.toNat * s := size_madeCells _ _
          refine ⟨_, e, _, hrn, by rw [hsz2, hfl]; exact Nat.le_refl _, ?_, fun φ' w' ok' hφ => ?_⟩
          · rw [hfl, List.take_of_length_le (by rw [Array.length_toList, hsz2]; exact Nat.le_refl _)]
            have := flat_cells (z := zv.cells) (by omega) m.toNat
            rw [hzs] at this
            rw [this]
            exact reps_flat hr _
          · simp only [Rep]
            exact ⟨w.heap.size, m.toNat, by rw [hφ, hsz2], rfl, by omega, by omega⟩
    · cases h
  · cases h
end
section
variable {P : Program} {N nh : Nat} {σ : Nat → AV} {o : Oper}
theorem row_cells {W : World} {k : IntKind} {l : List Int} {ad : Addr} (h : Kd.C (Kd.int k) W (some ad) l.length l) (j : Nat) (v : Value) (hj : (l.map (Value.int k))[j]? = some v) : W.cell? (ad.add j) = some v := by
  rw [List.getElem?_map] at hj
  cases hq : l[j]? with
  | none => rw [hq] at hj; cases hj
  | some p =>
    rw [hq] at hj
    injection hj with hj
    subst hj
    have hlt := (List.getElem?_eq_some_iff.1 hq).1
    obtain ⟨ad', hA', hc'⟩ := h.2.2 (by omega)
    injection hA' with hA'
    subst hA'
    obtain ⟨c, hcl, hK, hcc⟩ := hc' j p hq
    have hK' : c = [Value.int k p] := hK
    subst hK'
    have := hcc 0 _ rfl
    simpa [Kd.int, Kd.scalar, Nat.mul_one, Nat.add_zero] using this
theorem row_take {w : World} {ok : Nat → Prop} {k : IntKind} {l : List Int} {A : Option Addr} {n : Nat} (h : Kd.F (Kd.int k) w ok A l.length l) (hn : n ≤ l.length) : Kd.F (Kd.int k) w ok A n (l.take n) := by
  refine Foot.imp h fun W' hC => ?_
  obtain ⟨h1, h2, h3⟩ := hC
  refine ⟨by rw [List.length_take]; omega, by omega, fun h0 => ?_⟩
  obtain ⟨ad, hA, hc⟩ := h3 (by omega)
  refine ⟨ad, hA, fun j p hj => hc j p ?_⟩
  rw [List.getElem?_take] at hj
  split at hj
  · exact hj
  · cases hj
theorem copy_run {t e : Nat} {argT : Array TypeId} {ty : TypeId} {b n cap c2 : Nat} {A : Option Addr} {k : IntKind} {l : List Int} {w : World} {old : Array Value} {en : Nat} (hu : P.underlying t = some (.slice e)) (hs : sz P e = some 1) (ht : argT[0]? = some t) (hg : w.heap[b]? = some (.cells old en (0, 0))) (hC : Kd.C (Kd.int k) w A l.length l) (hfit : n ≤ old.size) :
    (Builtin.copy_ argT ty #[.slice (some ⟨b, 0, none⟩) n cap, .slice A l.length c2]).run P w = .ok (.int .i64 ((min l.length n : Nat))) (w.setRow b ((l.take n).map (Value.int k) ++ old.toList.drop (min l.length n)).toArray) := by
  obtain ⟨i, hi, hin⟩ := sz_info hs
  have hlen : ((l.take n).map (Value.int k)).length = min l.length n := by rw [List.length_map, List.length_take, Nat.min_comm]
  have hst := run_storeCells_at P b 0 en ((l.take n).map (Value.int k)) 0 old w hg (by rw [hlen]; omega) (fun v hv => by
    obtain ⟨p, _, rfl⟩ := List.mem_map.1 hv
    rfl)
  simp only [Nat.zero_add, List.take_zero, List.nil_append] at hst
  rw [hlen] at hst
  have hmin : Nat.min l.length n = min l.length n := rfl
  cases A with
  | none =>
    have h0 : l.length = 0 := by
      rcases Nat.eq_zero_or_pos l.length with h | h
      · exact h
      · obtain ⟨ad, hA, _⟩ := hC.2.2 h
        cases hA
    have hl0 : l = [] := List.length_eq_zero_iff.1 h0
    subst hl0
    have hst' : (storeCells ⟨b, 0, none⟩ []).run P w = .ok () w := rfl
    have hw : w.setRow b old = w := setRow_self w b old en (0, 0) hg
    simp [Builtin.copy_, ht, run_underlying hu, Builtin.lenOf, Builtin.firstCells, sizeOf, typeInfo, hi, hin, hst', goInt, hw]
  | some ad =>
    have hl := run_loadCells_list (P := P) w ad ((l.take n).map (Value.int k)) (fun j v hj => row_cells hC j v (by
      rw [List.map_take, List.getElem?_take] at hj
      split at hj
      · exact hj
      · cases hj))
    rw [hlen] at hl
    simp [Builtin.copy_, ht, run_underlying hu, Builtin.lenOf, Builtin.firstCells, sizeOf, typeInfo, hi, hin, hmin, hl, hst, goInt, -List.map_take]
theorem trip_copy {c : Call} {d x : Operand} {t e h n : Nat} {k : IntKind} {l r : List Int} (ho : o.op = .call c) (hc : c.callee = .builtin .copy) (ha : c.args = #[d, x]) (ht : c.argTypes[0]? = some t) (hu : P.underlying t = some (.slice e)) (hs1 : sz P e = some 1) (hd' : ev (tmOf σ) d = .sl 1 h n) (hx : ev (tmOf σ) x = .row k r) (hb : bxOf σ h = .row k l) (hn : n ≤ l.length) :
    Trip P N nh σ o ⟨.int .i64 ((min r.length n : Nat)), [h], [(h, .row k (r.take n ++ l.drop (min r.length n)))], none, 0⟩ := by
  refine ⟨.inl rfl, ?_⟩
  intro B P0 X w0 w fresh φ a σ' h1 h2 _ hs hfr _ hd next Q hk
  have hp := hs.ev d
  rw [ev_agree h1 (by simp [ho, Op.operands, Call.operands, hc, ha]), hd'] at hp
  have hq := hs.ev x
  rw [ev_agree h1 (by simp [ho, Op.operands, Call.operands, hc, ha]), hx] at hq
  simp only [Rep] at hp hq
  obtain ⟨b, cap, e1, e2, e3, e4⟩ := hp
  obtain ⟨A, c2, q1, q2, q3⟩ := hq
  have hb' : σ' (2 * h + 1) = .row k l := by rw [h2 h (by simp)]; exact hb
  have hne : σ' (2 * h + 1) ≠ .any := by rw [hb']; intro hh; cases hh
  have hH := hs.boxes h hne
  rw [hb'] at hH
  simp only [Holds] at hH
  obtain ⟨b', t1, old, en, f1, f2, f3, f4, f5⟩ := hH
  rw [e1] at f1
  injection f1 with f1
  injection f1 with f1 f1'
  subst f1 f1'
  have hov := ints_vals f5
  rw [List.length_map] at f4 hov
  have hfit : n ≤ old.size := by omega
  have hrun := copy_run (ty := o.type) (cap := cap) (c2 := c2) hu hs1 ht f2 q3.now hfit
  have hrun2 : (execOp a.eval o).run P w = .ok (.value (.int .i64 ((min r.length n : Nat)))) (w.setRow b ((r.take n).map (Value.int k) ++ old.toList.drop (min r.length n)).toArray) := by
    simp [execOp, ho, resolve, hc, ha, invoke, builtin, e2, q1, hrun, -List.map_take]
  generalize hw : w.setRow b ((r.take n).map (Value.int k) ++ old.toList.drop (min r.length n)).toArray = w1 at hrun2
  refine wp_value (w' := w1) hrun2 (hk φ _ w1 ?_)
  have hother : ∀ k, k ≠ b → w1.heap[k]? = w.heap[k]? := fun k hk => by rw [← hw]; exact setRow_other w b k _ hk
  have hhere : w1.heap[b]? = some (.cells ((r.take n).map (Value.int k) ++ old.toList.drop (min r.length n)).toArray en (0, 0)) := by rw [← hw]; exact setRow_heap w b old _ en _ f2
  have hsize : w1.heap.size = w.heap.size := by rw [← hw]; simp [World.setRow]
  have hlen : (r.take n ++ l.drop (min r.length n)).length = l.length := by
    rw [List.length_append, List.length_take, List.length_drop]; omega
  have hs2 := hs.set (c := .row k (r.take n ++ l.drop (min r.length n))) hne e1 (w' := w1) (by rw [← hw]; rfl) (by rw [← hw]; rfl) (by rw [← hw]; rfl) hsize hother (fun hh => by cases hh) (fun hm => by
    simp only [Holds]
    refine ⟨b, cap * 1, _, en, e1, hhere, ?_, ?_, ?_⟩
    · have hl2 : old.toList.length = cap * 1 := by rw [Array.length_toList]; exact f3
      simp only [List.size_toArray, List.length_append, List.length_map, List.length_take, List.length_drop, hl2]
      omega
    · rw [List.length_map, hlen]; omega
    · rw [List.length_map, hlen]
      show Reps φ w1 _ ((r.take n ++ l.drop (min r.length n)).map (.int k)) (List.take l.length ((r.take n).map (Value.int k) ++ old.toList.drop (min r.length n)))
      have : List.take l.length ((r.take n).map (Value.int k) ++ old.toList.drop (min r.length n)) = (r.take n ++ l.drop (min r.length n)).map (Value.int k) := by
        rw [List.map_append, List.take_append, List.take_of_length_le (by simp only [List.length_map, List.length_take]; omega)]
        congr 1
        rw [List.map_drop, ← hov, List.drop_take]
        congr 1
        simp only [List.length_map, List.length_take]
        omega
      rw [this]
      exact vals_ints _)
  have := St.put hs2 hd (x := .int .i64 ((min r.length n : Nat))) (v := .int .i64 ((min r.length n : Nat))) (fun _ _ => by simp only [Rep])
  rw [putT_upd] at this
  exact St.less this (fun k (hk : fresh k ∧ _) => hk.1)
theorem trip_copyNil {c : Call} {d x : Operand} {t e h n s : Nat} (ho : o.op = .call c) (hc : c.callee = .builtin .copy) (ha : c.args = #[d, x]) (ht : c.argTypes[0]? = some t) (hu : P.underlying t = some (.slice e)) (hs1 : sz P e = some 1) (hd' : ev (tmOf σ) d = .sl s h n) (hx : ev (tmOf σ) x = .nil) : Trip P N nh σ o (val (.int .i64 0)) :=
  trip_p fun {w ok φ a} hy => by
    have hp := hy d (by simp [ho, Op.operands, Call.operands, hc, ha])
    have hq := hy x (by simp [ho, Op.operands, Call.operands, hc, ha])
    rw [hd'] at hp
    rw [hx] at hq
    simp only [Rep] at hp hq
    obtain ⟨b, cap, e1, e2, e3, e4⟩ := hp
    obtain ⟨i, hi, hin⟩ := sz_info hs1
    have hst' : (storeCells ⟨b, 0, none⟩ []).run P w = .ok () w := rfl
    refine ⟨.int .i64 0, ?_, by simp only [Rep]⟩
    simp [execOp, ho, resolve, hc, ha, invoke, builtin, e2, hq, Builtin.copy_, ht, run_underlying hu, Builtin.lenOf, Builtin.firstCells, sizeOf, typeInfo, hi, hin, hst', goInt]
theorem sliceA_trip {t : Nat} {x : Operand} {lo hi : Option Operand} {R : Type} {K : AV → Option R} {r : R} (ho : o.op = .slice t x lo hi none) (ht : (P.underlying t = some .string ∧ ∃ s, ev (tmOf σ) x = .str s) ∨ ∃ e, P.underlying t = some (.slice e) ∧ ((∃ k l, ev (tmOf σ) x = .row k l ∧ sz P e = some 1) ∨ (∃ s l, ev (tmOf σ) x = .arr s l ∧ sz P e = some s) ∨ ∃ s h n, ev (tmOf σ) x = .sl s h n ∧ sz P e = some s))
    (h : sliceA (tmOf σ) (ev (tmOf σ) x) lo hi K = some r) : ∃ v, Trip P N nh σ o (val v) ∧ K v = some r := by
  have hmx : x ∈ o.op.operands := by simp [ho, Op.operands]
  have hmh : ∀ z, hi = some z → z ∈ o.op.operands := fun z hz => by simp [ho, Op.operands, hz]
  have hml : ∀ z, lo = some z → z ∈ o.op.operands := fun z hz => by simp [ho, Op.operands, hz]
  have z0 : ∀ ad : Addr, ad.add 0 = ad := fun ad => by simp [Addr.add]
  rcases ht with ⟨hu, s, hx⟩ | ⟨e, hu, ⟨k, l, hx, hs⟩ | ⟨s, l, hx, hs⟩ | ⟨s, b, n, hx, hs⟩⟩
  · rw [hx] at h
    simp only [sliceA] at h
    obtain ⟨hh, lw, e1, e2, e3, e4⟩ := sliceBounds_run (P := P) h
    refine ⟨_, trip_p fun {w ok φ a} hy => ?_, e1⟩
    have h1 := hy x hmx
    rw [hx] at h1
    simp only [Rep] at h1
    have hb := e4 (iss := false) (Nat.le_refl _) (w := w) (a := a) (fun z hz => hy z (hmh z hz)) (fun z hz => hy z (hml z hz))
    refine ⟨.string (s.extract lw hh), ?_, by simp only [Rep]⟩
    simp only [execOp, ho, h1]
    exact run_v (by simp [Instr.sliceAt, Instr.slice, run_underlying hu, hb])
  · rw [hx] at h
    simp only [sliceA] at h
    obtain ⟨hh, lw, e1, e2, e3, e4⟩ := sliceBounds_run (P := P) h
    split at e1
    · rename_i hl0
      subst hl0
      refine ⟨_, trip_p fun {w ok φ a} hy => ?_, e1⟩
      have h1 := hy x hmx
      rw [hx] at h1
      simp only [Rep] at h1
      obtain ⟨A, c, q1, q2, q3⟩ := h1
      have hb := e4 (iss := true) q2 (w := w) (a := a) (fun z hz => hy z (hmh z hz)) (fun z hz => hy z (hml z hz))
      refine ⟨.slice A hh c, ?_, ?_⟩
      · simp only [execOp, ho, q1]
        refine run_v ?_
        simp [Instr.sliceAt, Instr.slice, run_underlying hu, hb, run_sizeOf' hs]
        intro _
        cases A <;> simp [z0]
      · simp only [Rep]
        have hlen : (l.take hh).length = hh := by rw [List.length_take]; omega
        exact ⟨A, c, by rw [hlen], by omega, by rw [hlen]; exact row_take q3 e3⟩
    · cases e1
  · rw [hx] at h
    simp only [sliceA] at h
    split at h
    · cases h
    rename_i hs0
    obtain ⟨hh, lw, e1, e2, e3, e4⟩ := sliceBounds_run (P := P) h
    split at e1
    · rename_i hl0
      subst hl0
      refine ⟨_, trip_p fun {w ok φ a} hy => ?_, e1⟩
      have h1 := hy x hmx
      rw [hx] at h1
      simp only [Rep] at h1
      obtain ⟨ad, n, c, vs, q1, q2, q3, q4, q5, q6⟩ := h1
      have hn : l.length / s = n := by rw [← q3, Nat.mul_div_cancel _ (by omega)]
      have hb := e4 (iss := true) (cap := c) (by omega) (w := w) (a := a) (fun z hz => hy z (hmh z hz)) (fun z hz => hy z (hml z hz))
      rw [hn] at hb
      refine ⟨.slice (some ad) hh c, ?_, ?_⟩
      · simp only [execOp, ho, q1]
        refine run_v ?_
        simp [Instr.sliceAt, Instr.slice, run_underlying hu, hb, run_sizeOf' hs, z0]
      · simp only [Rep]
        have hle : hh * s ≤ l.length := by rw [← q3]; exact Nat.mul_le_mul_right s (by omega)
        refine ⟨ad, hh, c, vs.take (hh * s), rfl, by omega, by rw [List.length_take]; omega, by omega, Foot.imp q5 fun W' hW i u hu => hW i u ?_, q6.take _⟩
        rw [List.getElem?_take] at hu
        split at hu
        · exact hu
        · cases hu
    · cases e1
  · rw [hx] at h
    simp only [sliceA] at h
    obtain ⟨hh, lw, e1, e2, e3, e4⟩ := sliceBounds_run (P := P) h
    split at e1
    · rename_i hl0
      subst hl0
      refine ⟨_, trip_p fun {w ok φ a} hy => ?_, e1⟩
      have h1 := hy x hmx
      rw [hx] at h1
      simp only [Rep] at h1
      obtain ⟨b', c, q1, q2, q3, q4⟩ := h1
      have hb := e4 (iss := true) (cap := c) q3 (w := w) (a := a) (fun z hz => hy z (hmh z hz)) (fun z hz => hy z (hml z hz))
      refine ⟨.slice (some ⟨b', 0, none⟩) hh c, ?_, ?_⟩
      · simp only [execOp, ho, q2]
        refine run_v ?_
        simp [Instr.sliceAt, Instr.slice, run_underlying hu, hb, run_sizeOf' hs, z0]
      · simp only [Rep]
        exact ⟨b', c, q1, rfl, by omega, q4⟩
    · cases e1
section
variable {φ1 φ2 : Nat → Option (Nat × Nat)} {W : World} {ok : Nat → Prop} {n : Nat}
mutual
theorem Rep.shift (hφ : ∀ h b, φ1 h = some b → φ2 (h + n) = some b) : ∀ (x : AV) {v : Value}, Rep φ1 W ok x v → Rep φ2 W ok (E.shift n x) v
  | .any, _, h => by simp only [E.shift, Rep]
  | .bool b, _, h => by simpa only [E.shift, Rep] using h
  | .int k m, _, h => by simpa only [E.shift, Rep] using h
  | .str s, _, h => by simpa only [E.shift, Rep] using h
  | .nil, _, h => by simpa only [E.shift, Rep] using h
  | .z0, _, h => by simpa only [E.shift, Rep] using h
  | .pnil, _, h => by simpa only [E.shift, Rep] using h
  | .mnil, _, h => by simpa only [E.shift, Rep] using h
  | .fnil, _, h => by simpa only [E.shift, Rep] using h
  | .row k l, _, h => by simpa only [E.shift, Rep] using h
  | .mc _ _ _ _, _, h => by simp only [Rep] at h
  | .arr s l, _, h => by
    simp only [E.shift, Rep] at h ⊢
    obtain ⟨a, m, c, vs, h1, h2, h3, h4, h5, h6⟩ := h
    have h7 := Reps.shift hφ l h6
    exact ⟨a, m, c, vs, h1, h2, by rw [← h7.length, h6.length]; exact h3, h4, h5, h7⟩
  | .at_ l, _, h => by
    simp only [E.shift, Rep] at h ⊢
    obtain ⟨a, vs, h1, h2, h3, h4⟩ := h
    exact ⟨a, vs, h1, h2, h3, Reps.shift hφ l h4⟩
  | .ptr h off, _, hh => by
    simp only [E.shift, Rep] at hh ⊢
    obtain ⟨b, t, h1, h2⟩ := hh
    exact ⟨b, t, hφ _ _ h1, h2⟩
  | .sl s h m, _, hh => by
    simp only [E.shift, Rep] at hh ⊢
    obtain ⟨b, c, h1, h2⟩ := hh
    exact ⟨b, c, hφ _ _ h1, h2⟩
  | .mp h, _, hh => by
    simp only [E.shift, Rep] at hh ⊢
    obtain ⟨b, h1, h2⟩ := hh
    exact ⟨b, hφ _ _ h1, h2⟩
  | .fn f l, _, h => by
    simp only [E.shift, Rep] at h ⊢
    obtain ⟨cs, h1, h2⟩ := h
    exact ⟨cs, h1, Reps.shift hφ l h2⟩
  | .agg l, _, h => by
    simp only [E.shift, Rep] at h ⊢
    obtain ⟨cs, h1, h2⟩ := h
    exact ⟨cs, h1, Reps.shift hφ l h2⟩
  | .tup l, _, h => by
    simp only [E.shift, Rep] at h ⊢
    obtain ⟨cs, h1, h2⟩ := h
    exact ⟨cs, h1, Reps.shift hφ l h2⟩
theorem Reps.shift (hφ : ∀ h b, φ1 h = some b → φ2 (h + n) = some b) : ∀ (l : List AV) {vs : List Value}, Reps φ1 W ok l vs → Reps φ2 W ok (E.shifts n l) vs
  | [], _, h => by simpa only [E.shifts, Reps] using h
  | x :: l, _, h => by
    simp only [E.shifts, Reps] at h ⊢
    obtain ⟨v, vs', h1, h2, h3⟩ := h
    exact ⟨v, vs', h1, Rep.shift hφ x h2, Reps.shift hφ l h3⟩
end
theorem shifts_length (n : Nat) : ∀ (l : List AV), (shifts n l).length = l.length
  | [] => rfl
  | x :: l => by simp only [shifts, List.length_cons, shifts_length n l]
theorem shifts_ints (n : Nat) (k : IntKind) : ∀ (l : List Int), shifts n (l.map (.int k)) = l.map (.int k)
  | [] => rfl
  | x :: l => by simp only [List.map_cons, shifts, shift, shifts_ints n k l]
theorem HoldsC.shift (hφ : ∀ h b, φ1 h = some b → φ2 (h + n) = some b) {h : Nat} {l : List AV} (hh : HoldsC φ1 W ok h l) : HoldsC φ2 W ok (h + n) (shifts n l) := by
  obtain ⟨b, t, vs, e, h1, h2, h3, h4, h5⟩ := hh
  exact ⟨b, t, vs, e, hφ _ _ h1, h2, h3, by rw [shifts_length]; exact h4, by rw [shifts_length]; exact Reps.shift hφ _ h5⟩
theorem Holds.shift (hφ : ∀ h b, φ1 h = some b → φ2 (h + n) = some b) {h : Nat} : ∀ {c : AV}, Holds φ1 W ok h c → Holds φ2 W ok (h + n) (E.shift n c) := by
  intro c hh
  cases c <;> simp only [Holds, E.shift] at hh ⊢
  · have := hh.shift hφ
    rw [shifts_ints] at this
    exact this
  · exact hh.shift hφ
  · obtain ⟨b, en, h1, h2, h3, h4, h5⟩ := hh
    exact ⟨b, en, hφ _ _ h1, h2, Reps.shift hφ _ h3, Reps.shift hφ _ h4, h5⟩
end
theorem shift_any {n : Nat} {c : AV} : shift n c ≠ .any ↔ c ≠ .any := by
  cases c <;> simp [shift]
theorem putB_append : ∀ (l m : List (Nat × AV)) (σ : Nat → AV), putB σ (l ++ m) = putB (putB σ l) m
  | [], _, _ => rfl
  | (h, v) :: l, m, σ => by simp only [List.cons_append, putB]; exact putB_append l m _
theorem ownW_out (n : Nat) : ∀ (bs : List AV) (h : Nat) (σ : Nat → AV) (k : Nat), ¬(h ≤ k ∧ k < h + bs.length) → putB σ (ownW n h bs) (2 * k + 1) = σ (2 * k + 1)
  | [], _, _, _, _ => rfl
  | b :: bs, h, σ, k, hk => by
    simp only [ownW, putB]
    simp only [List.length_cons] at hk
    rw [ownW_out n bs (h + 1) _ k (by omega), upd_eq, if_neg (by omega)]
theorem ownW_in (n : Nat) : ∀ (bs : List AV) (h : Nat) (σ : Nat → AV) (i : Nat), i < bs.length → putB σ (ownW n h bs) (2 * (i + h) + 1) = shift n (bs.getD i .any)
  | [], _, _, _, hi => by simp at hi
  | b :: bs, h, σ, 0, hi => by
    simp only [ownW, putB]
    rw [ownW_out n bs (h + 1) _ _ (by omega), upd_eq, if_pos (by omega)]
    rfl
  | b :: bs, h, σ, i + 1, hi => by
    simp only [ownW, putB]
    have := ownW_in n bs (h + 1) (upd σ (2 * h + 1) (shift n b)) i (by simpa using hi)
    rw [show i + 1 + h = i + (h + 1) by omega, this]
    rfl
theorem ownW_even (n : Nat) (bs : List AV) (h : Nat) (σ : Nat → AV) (t : Nat) : putB σ (ownW n h bs) (2 * t) = σ (2 * t) := putB_odd _ _ _
theorem trip_own {c : Call} {f : Operand} {g : Nat} {cs ys : List AV} {hs : List Nat} {x : AV} {bs : List AV} (ho : o.op = .call c) (hc : c.callee = .value f) (hf : ev (tmOf σ) f = .fn g cs) (hcl : callable P g = true) (hz : frzs (bxOf σ) (c.args.toList.map (ev (tmOf σ)) ++ cs) = some (ys, hs)) (hP : OwnC P g ys x bs) :
    Trip P N nh σ o ⟨shift nh x, hs, hs.map (fun h => (h, .any)) ++ ownW nh nh bs, none, bs.length⟩ := by
  refine ⟨?_, ?_⟩
  · cases bs with
    | nil => exact .inl rfl
    | cons b bs => exact .inr (.inr (by simp [ownW]))
  intro B P0 X w0 w fresh φ a σ' h1 h2 _ hst hfr _ hd next Q hk
  obtain ⟨vs, e1, e2⟩ := call_evs ho hc hf h1 (fun y => hst.ev y)
  have hz' : frzs (bxOf σ') (c.args.toList.map (ev (tmOf σ)) ++ cs) = some (ys, hs) := frzs_reads _ hz fun h hh => h2 h hh
  have hkl := kills_killed hs σ'
  obtain ⟨q1, q2⟩ := frzs_ok hst _ hz' hkl e2
  have hs2 := hst.kills hs
  generalize hσk : putB σ' (hs.map fun h => (h, .any)) = σk at q1 hs2
  have hs0 : St 0 w.heap.size (Ok B P0 σk φ) ⟨fun _ => False, fun _ _ _ => False, 0⟩ w (fun h => False ∨ 0 ≤ h) (start [] fun _ => .any) (fun _ => none) noAct w :=
    { below := Kept.refl _ _ _
      base := Nat.le_refl _
      defers := rfl
      size := rfl
      tmps := fun t => by rw [start_even]; simp [Rep]
      boxes := fun h hh => by rw [start_odd] at hh; exact absurd rfl hh
      own := fun h b t hh => by cases hh
      inj := fun h h' b t t' hh => by rw [start_odd] at hh; exact absurd rfl hh
      px := fun b hb => hb.elim
      gh := fun i x u _ hx => hx.elim
      fr := fun h _ => rfl }
  have hcalls := hP w.heap.size (Ok B P0 σk φ) _ w w (fun _ => False) (fun _ => none) _ (fun h hh => hh.elim) (Nat.le_refl _) hs0 (Reps.move (fun _ _ h => by cases h) (fun k hk _ => ⟨.inl hk, fun h t hh => by rw [start_odd] at hh; exact absurd rfl hh⟩) (fun _ _ _ => rfl) _ (Reps.free (φ' := fun _ => none) _ q2 q1))
  unfold Oper.wp
  rw [callee_run ho hc e1 hcl]
  refine Calls.mono hcalls fun e w' he => ?_
  obtain ⟨v, φ1, rfl, hs', hv⟩ := he
  have hnew : ∀ h b, φ1 h = some b → h < bs.length := fun h b hb => by
    rcases Nat.lt_or_ge h bs.length with hl | hl
    · exact hl
    · rw [hs'.fr h (.inr hl)] at hb; cases hb
  have hown1 : ∀ h b t, φ1 h = some (b, t) → w.heap.size ≤ b ∧ b < w'.heap.size := fun h b t hb => ⟨(hs'.own h b t hb).1.elim (fun h => h.elim) (fun h => h), (hs'.own h b t hb).2⟩
  have hlt := hs'.below.size
  have hsame : ∀ k, k < w.heap.size → w'.heap[k]? = w.heap[k]? := fun k hk => hs'.below.block k hk (fun h => h)
  let φ2 : Nat → Option (Nat × Nat) := fun h => if nh ≤ h ∧ h < nh + bs.length then φ1 (h - nh) else φ h
  have hφ2n : ∀ h b, φ1 h = some b → φ2 (h + nh) = some b := fun h b hb => by
    have := hnew h b hb
    show (if nh ≤ h + nh ∧ h + nh < nh + bs.length then φ1 (h + nh - nh) else φ (h + nh)) = some b
    rw [if_pos (by omega), Nat.add_sub_cancel]
    exact hb
  have hφ2o : ∀ h b, φ h = some b → φ2 h = some b := fun h b hb => by
    show (if nh ≤ h ∧ h < nh + bs.length then φ1 (h - nh) else φ h) = some b
    rw [if_neg (fun hc => by rw [hst.fr h (hfr h hc.1 hc.2)] at hb; cases hb)]
    exact hb
  have hφ2 : ∀ h b, φ2 h = some b → (nh ≤ h ∧ h < nh + bs.length ∧ φ1 (h - nh) = some b) ∨ (¬(nh ≤ h ∧ h < nh + bs.length) ∧ φ h = some b) := fun h b hb => by
    have hb : (if nh ≤ h ∧ h < nh + bs.length then φ1 (h - nh) else φ h) = some b := hb
    split at hb
    · rename_i hc; exact .inl ⟨hc.1, hc.2, hb⟩
    · rename_i hc; exact .inr ⟨hc, hb⟩
  have hσn : ∀ h, nh ≤ h → h < nh + bs.length → putB σk (ownW nh nh bs) (2 * h + 1) = shift nh (bs.getD (h - nh) .any) := fun h hh1 hh2 => by
    have := ownW_in nh bs nh σk (h - nh) (by omega)
    rw [Nat.sub_add_cancel hh1] at this
    exact this
  have hσo : ∀ h, ¬(nh ≤ h ∧ h < nh + bs.length) → putB σk (ownW nh nh bs) (2 * h + 1) = σk (2 * h + 1) := fun h hh => ownW_out nh bs nh σk h hh
  have hlive1 : ∀ h, nh ≤ h → h < nh + bs.length → putB σk (ownW nh nh bs) (2 * h + 1) ≠ .any → start [] (fun i => bs.getD i .any) (2 * (h - nh) + 1) ≠ .any := fun h hh1 hh2 hne => by
    rw [start_odd]
    rw [hσn h hh1 hh2] at hne
    exact shift_any.1 hne
  have hok2 : ∀ k, Ok B P0 σk φ k → k < w.heap.size → Ok B P0 (putB σk (ownW nh nh bs)) φ2 k := fun k hk hkl => ⟨hk.1, fun j t hj hjk => by
    rcases hφ2 j _ hjk with ⟨hj1, hj2, hj3⟩ | ⟨hj1, hj2⟩
    · have := (hown1 _ _ _ hj3).1; omega
    · rw [hσo j hj1] at hj
      exact hk.2 j t hj hj2⟩
  have hok1 : ∀ k, Ok w.heap.size (Ok B P0 σk φ) (start [] fun i => bs.getD i .any) φ1 k → Ok B P0 (putB σk (ownW nh nh bs)) φ2 k := fun k hk => by
    have hbase := hst.base
    rcases Nat.lt_or_ge k w.heap.size with hkl | hkl
    · exact hok2 k (hk.1.resolve_right (by omega)) hkl
    · refine ⟨.inr (by omega), fun j t hj hjk => ?_⟩
      rcases hφ2 j _ hjk with ⟨hj1, hj2, hj3⟩ | ⟨hj1, hj2⟩
      · exact hk.2 (j - nh) t (hlive1 j hj1 hj2 hj) hj3
      · have := (hst.own _ _ _ hj2).2; omega
  have hs3 : St N B P0 X w0 (fun k => fresh k ∧ ¬(nh ≤ k ∧ k < nh + bs.length)) (putB σk (ownW nh nh bs)) φ2 a w' :=
    { below := hs2.below.trans ⟨hs'.below.os, hs'.below.tape, hs'.below.output, hs'.below.size, fun k hk _ => hsame k (Nat.lt_of_lt_of_le hk hst.base)⟩
      base := Nat.le_trans hst.base hlt
      defers := hst.defers
      size := hst.size
      tmps := fun t => by
        rw [ownW_even]
        exact Rep.move hφ2o hok2 (fun k _ hk => hsame k hk) _ (hs2.tmps t)
      boxes := fun h hh => by
        by_cases hc : nh ≤ h ∧ h < nh + bs.length
        · have hl := hlive1 h hc.1 hc.2 hh
          have hb := hs'.boxes (h - nh) hl
          rw [start_odd] at hb
          rw [hσn h hc.1 hc.2]
          have := Holds.shift (n := nh) hφ2n hb
          rw [Nat.sub_add_cancel hc.1] at this
          exact this.move (fun _ _ h => h) (fun k hk _ => hok1 k hk) (fun _ _ _ => rfl) (fun _ _ _ => rfl)
        · rw [hσo h hc] at hh ⊢
          exact (hs2.boxes h hh).move hφ2o hok2 (fun k _ hk => hsame k hk) (fun b t hbt => hsame b (hst.own _ _ _ hbt).2)
      own := fun h b t hb => by
        have hbase := hst.base
        rcases hφ2 h _ hb with ⟨_, _, hj3⟩ | ⟨_, hj2⟩
        · have := hown1 _ _ _ hj3; exact ⟨.inr (by omega), this.2⟩
        · have := hst.own _ _ _ hj2; exact ⟨this.1, by omega⟩
      inj := fun h h' b t t' hl hl' hb hb' => by
        rcases hφ2 h _ hb with ⟨a1, a2, a3⟩ | ⟨a1, a2⟩ <;> rcases hφ2 h' _ hb' with ⟨b1, b2, b3⟩ | ⟨b1, b2⟩
        · have := hs'.inj (h - nh) (h' - nh) b t t' (hlive1 h a1 a2 hl) (hlive1 h' b1 b2 hl') a3 b3
          omega
        · have := (hown1 _ _ _ a3).1; have := (hst.own _ _ _ b2).2; omega
        · have := (hown1 _ _ _ b3).1; have := (hst.own _ _ _ a2).2; omega
        · rw [hσo h a1] at hl; rw [hσo h' b1] at hl'
          exact hs2.inj h h' b t t' hl hl' a2 b2
      px := hst.px
      gh := fun i x u hi hx => Rep.move (lim_le hφ2o) hok2 (fun k _ hk => hsame k hk) _ (hs2.gh i x u hi hx)
      fr := fun k hk => by
        show (if nh ≤ k ∧ k < nh + bs.length then φ1 (k - nh) else φ k) = none
        rw [if_neg hk.2]
        exact hst.fr k hk.1 }
  refine hk φ2 v w' ?_
  have hs4 := St.put hs3 hd (x := shift nh x) (v := v) (fun _ _ => Rep.move (fun _ _ h => h) (fun k hk _ => hok1 k hk) (fun _ _ _ => rfl) _ (Rep.shift (n := nh) hφ2n _ hv))
  rw [putT_putB, ← hσk, putT_putB, ← putB_append] at hs4
  exact hs4
theorem callA_trip {T : Tab} (hT : TOk P T) {c : Call} {f : Operand} {g : Nat} {cs : List AV} {F : Tf} {R : Type} {K : Eff → Option R} {r : R} (ho : o.op = .call c) (hc : c.callee = .value f) (hf : ev (tmOf σ) f = .fn g cs) (hF : T g = some F) (h : callA P F (bxOf σ) nh (c.args.toList.map (ev (tmOf σ)) ++ cs) K = some r) : ∃ e, Trip P N nh σ o e ∧ K e = some r := by
  have hok := hT g F hF
  unfold callA at h
  split at h
  · rename_i F
    rw [frzsK_eq] at h
    obtain ⟨⟨ys, hs⟩, hz, h⟩ := Option.bind_eq_some_iff.1 h
    obtain ⟨x, h3, h4⟩ := FunOk.at_ hok h
    exact ⟨_, trip_pure ho hc hf hok.1 hz h3, h4⟩
  · rename_i F
    rw [frzsK_eq] at h
    obtain ⟨⟨ys, hs⟩, hz, h⟩ := Option.bind_eq_some_iff.1 h
    obtain ⟨x, bs, h3, h4⟩ := OFunOk.at_ hok h
    exact ⟨_, trip_own ho hc hf hok.1 hz h3, h4⟩
  · rename_i F
    obtain ⟨x, β', nh', h3, h4⟩ := HFunOk.at_ hok h
    split at h4
    · rename_i hle
      exact ⟨_, trip_heap ho hc hf hok.1 hle h3, h4⟩
    · cases h4
theorem copyA_trip {c : Call} {d x : Operand} {t e : Nat} {R : Type} {K : Eff → Option R} {r : R} (ho : o.op = .call c) (hc : c.callee = .builtin .copy) (ha : c.args = #[d, x]) (ht : c.argTypes[0]? = some t) (hu : P.underlying t = some (.slice e)) (hs1 : sz P e = some 1) (h : copyA (bxOf σ) (ev (tmOf σ) d) (ev (tmOf σ) x) K = some r) : ∃ e, Trip P N nh σ o e ∧ K e = some r := by
  unfold copyA at h
  split at h
  · rename_i hh n k' rr hd hx
    split at h
    · rename_i k l hb
      split at h
      · rename_i hkk
        subst hkk
        split at h
        · rename_i hn
          exact ⟨_, trip_copy ho hc ha ht hu hs1 hd hx hb hn, h⟩
        · cases h
      · cases h
    · cases h
  · rename_i hd hx
    exact ⟨_, trip_copyNil ho hc ha ht hu hs1 hd hx, h⟩
  · cases h
theorem doOp_trip {T : Tab} (hT : TOk P T) {R : Type} {K : Eff → Option R} {r : R} (h : doOp P T nh (tmOf σ) (bxOf σ) o K = some r) : ∃ e, Trip P N nh σ o e ∧ K e = some r := by
  unfold doOp at h
  split at h
  · exact ⟨_, trip_move (.inl (by assumption)), h⟩
  · exact ⟨_, trip_move (.inr (by assumption)), h⟩
  · rename_i c x y ho
    split at h
    · rename_i b hc
      refine ⟨_, trip_pick ho hc, ?_⟩
      cases b <;> simpa using h
    · cases h
  · rename_i t ho
    split at h
    · exact ⟨_, trip_alloc ho (by assumption), h⟩
    · cases h
  · rename_i t x ho
    split at h
    · exact ⟨_, trip_box ho (by assumption), h⟩
    · cases h
  · rename_i t parts ho
    split at h
    · rename_i z pl hz hp
      split at h
      · exact ⟨_, trip_build ho hz hp (by assumption), h⟩
      · cases h
    · cases h
  · rename_i t len parts ho
    split at h
    · rename_i e hu
      split at h
      · rename_i n hn
        split at h
        · rename_i hcc
          obtain ⟨c1, c2, c3, c4⟩ := hcc
          split at h
          · rename_i l hl
            split at h
            · split at h
              · split at h
                · split at h
                  · rename_i is his
                    split at h
                    · rename_i hn1
                      subst hn1
                      exact ⟨_, trip_row ho hu hn c1 c3 c4 hl his, h⟩
                    · cases h
                  · cases h
                · cases h
              · rename_i hne; exact absurd rfl hne
            · split at h
              · rename_i hne; cases hne
              · exact ⟨_, trip_buildOwn ho hu hn c1 c2 c3 c4 hl, h⟩
          · cases h
        · cases h
      · cases h
    · cases h
  · rename_i t l c ho
    split at h
    · exact makeA_trip ho (by assumption) h
    · cases h
  · exact ⟨_, trip_makeFunc (by assumption), h⟩
  · rename_i x ho
    split at h
    · exact ⟨_, trip_nilCheck ho (by assumption) (.inl ⟨_, _, rfl⟩), h⟩
    · exact ⟨_, trip_nilCheck ho (by assumption) (.inr (.inl ⟨_, rfl⟩)), h⟩
    · exact ⟨_, trip_nilCheck ho (by assumption) (.inr (.inr (.inl ⟨_, _, rfl⟩))), h⟩
    · exact ⟨_, trip_nilCheck ho (by assumption) (.inr (.inr (.inr (.inl ⟨_, _, _, rfl⟩)))), h⟩
    · exact ⟨_, trip_nilCheck ho (by assumption) (.inr (.inr (.inr (.inr ⟨_, rfl⟩)))), h⟩
    · cases h
  · rename_i t x ho
    split at h
    · rename_i hh off hx
      obtain ⟨v, cs, h1, h2, h3⟩ := loadB_at h
      exact ⟨_, trip_load ho hx rfl h2 h3, h1⟩
    · rename_i cs hx
      split at h
      · exact ⟨_, trip_load_at ho hx (by assumption), h⟩
      · cases h
    · cases h
  · rename_i t x y ho
    split at h
    · rename_i hh off hx
      obtain ⟨c', cs, vs, h1, h2, h3, h4, h5, h6⟩ := storeB_at h
      exact ⟨_, trip_store ho hx rfl h2 h3 h4 h5 h6, h1⟩
    · cases h
  · exact trip_binA (by assumption) h
  · split at h
    · exact ⟨_, trip_un (by assumption) (by assumption), h⟩
    · cases h
  · split at h
    · exact ⟨_, trip_convert (k := 0) (by assumption) (by assumption) (by assumption) (by assumption), h⟩
    · cases h
  · rename_i s x f ho
    split at h
    · rename_i off n hf
      split at h
      · exact ⟨_, trip_fieldAddr ho hf (by assumption), h⟩
      · exact ⟨_, trip_fieldAt ho hf (by assumption), h⟩
      · cases h
    · cases h
  · rename_i s x f ho
    split at h
    · rename_i fs cs hf hx
      split at h
      · rename_i fd hfd
        split at h
        · exact ⟨_, trip_field ho hf hfd hx (by assumption), h⟩
        · cases h
      · cases h
    · cases h
  · rename_i t x i ho
    split at h
    · rename_i e hu
      split at h
      · rename_i k l hs hx
        obtain ⟨v, h1, h2⟩ := trip_indexRow (N := N) (nh := nh) ho hu hs hx h
        exact ⟨_, h1, h2⟩
      · rename_i n s l hs hx
        split at h
        · rename_i hns
          subst hns
          obtain ⟨v, h1, h2⟩ := trip_indexArr (N := N) (nh := nh) ho hu hs hx h
          exact ⟨_, h1, h2⟩
        · cases h
      · rename_i n s hh m hs hx
        split at h
        · rename_i hns
          subst hns
          obtain ⟨v, h1, h2⟩ := trip_indexSl (N := N) (nh := nh) ho hu hs hx h
          exact ⟨_, h1, h2⟩
        · cases h
      · cases h
    · cases h
  · rename_i t x i ho
    split at h
    · rename_i s k n hu hx hi
      split at h
      · rename_i hc
        exact ⟨_, trip_index ho hu hx hi hc.1 hc.2, h⟩
      · cases h
    · cases h
  · rename_i t x lo hi mx ho
    split at h
    · rename_i s hu hx
      rw [← hx] at h
      obtain ⟨v, h1, h2⟩ := sliceA_trip (N := N) (nh := nh) ho (.inl ⟨hu, _, hx⟩) h
      exact ⟨_, h1, h2⟩
    · rename_i e k l hu hx
      split at h
      · rename_i hs
        rw [← hx] at h
        obtain ⟨v, h1, h2⟩ := sliceA_trip (N := N) (nh := nh) ho (.inr ⟨e, hu, .inl ⟨k, l, hx, hs⟩⟩) h
        exact ⟨_, h1, h2⟩
      · cases h
    · rename_i e s l hu hx
      split at h
      · rename_i n hs
        split at h
        · rename_i hns
          subst hns
          rw [← hx] at h
          obtain ⟨v, h1, h2⟩ := sliceA_trip (N := N) (nh := nh) ho (.inr ⟨e, hu, .inr (.inl ⟨_, l, hx, hs⟩)⟩) h
          exact ⟨_, h1, h2⟩
        · cases h
      · cases h
    · rename_i e s hh n hu hx
      split at h
      · rename_i m hs
        split at h
        · rename_i hns
          subst hns
          rw [← hx] at h
          obtain ⟨v, h1, h2⟩ := sliceA_trip (N := N) (nh := nh) ho (.inr ⟨e, hu, .inr (.inr ⟨_, hh, n, hx, hs⟩)⟩) h
          exact ⟨_, h1, h2⟩
        · cases h
      · cases h
    · cases h
  · rename_i x i ho
    split at h
    · rename_i l hx
      split at h
      · exact ⟨_, trip_extract ho hx (by assumption), h⟩
      · cases h
    · cases h
  · rename_i c ho
    split at h
    · rename_i hc
      split at h
      · rename_i x t ha ht
        have ha' : c.args = #[x] := by rw [← Array.toList_inj]; exact ha
        split at h
        · rename_i e v hu hl
          split at h
          · cases h
          · rename_i hns
            exact ⟨_, trip_len ho hc ha' ht hu hl (fun s hs => hns s hs), h⟩
        · rename_i v hu hl
          split at h
          · rename_i s hs
            rw [hs] at hl
            simp only [lenA, Option.some.injEq] at hl
            subst hl
            exact ⟨_, trip_lenS ho hc ha' ht hu hs, h⟩
          · cases h
        · cases h
      · cases h
    · rename_i hc
      split at h
      · rename_i d x t ha ht
        have ha' : c.args = #[d, x] := by rw [← Array.toList_inj]; exact ha
        split at h
        · rename_i e hu
          split at h
          · rename_i hs1
            exact copyA_trip ho hc ha' ht hu hs1 h
          · cases h
        · cases h
      · cases h
    · rename_i hc
      split at h
      · rename_i x y ha
        have ha' : c.args = #[x, y] := by rw [← Array.toList_inj]; exact ha
        split at h
        · exact ⟨_, trip_min ho hc ha' (by assumption) (by assumption), h⟩
        · cases h
      · cases h
    · rename_i hc
      split at h
      · rename_i x y ha
        have ha' : c.args = #[x, y] := by rw [← Array.toList_inj]; exact ha
        split at h
        · exact ⟨_, trip_max ho hc ha' (by assumption) (by assumption), h⟩
        · cases h
      · cases h
    · rename_i f hc
      split at h
      · rename_i g cs hf
        split at h
        · rename_i F hF
          exact callA_trip hT ho hc hf hF h
        · cases h
      · cases h
    · cases h
  · cases h
end
theorem odd_odd (h : Nat) : odd (2 * h + 1) = true := by
  have h1 : (2 * h + 1) % 2 = 1 := by omega
  simp [odd, h1]
theorem odd_of {x : Nat} (h : odd x = true) : x = 2 * (x / 2) + 1 := by
  have := Nat.eq_of_beq_eq_true h
  omega
theorem even_of {x : Nat} (h : odd x = false) : x = 2 * (x / 2) := by
  rcases Nat.mod_two_eq_zero_or_one x with hx | hx
  · omega
  · simp [odd, hx] at h
theorem Fx.inR_iff {f : Fx} {x : Nat} : f.inR x = true ↔ x ∈ f.rd ∨ (f.all = true ∧ odd x = true) := by
  unfold Fx.inR
  simp
theorem Fx.inW_iff {f : Fx} {x : Nat} : f.inW x = true ↔ x ∈ f.wr ∨ (f.all = true ∧ odd x = true) := by
  unfold Fx.inW
  simp
theorem Fx.boxes_iff {f : Fx} : f.boxes = true ↔ f.all = true ∨ (∃ x ∈ f.rd, odd x = true) ∨ ∃ x ∈ f.wr, odd x = true := by
  unfold Fx.boxes
  simp [or_assoc]
def Trip1 (P : Program) (N nh : Nat) (ops : Array Oper) (i : Nat) (σ : Nat → AV) (o : Oper) (e : Eff) : Prop := (e.used = 0 ∨ (fxOf ops o e).boxes = true) ∧
  ∀ {B : Nat} {P0 : Nat → Prop} {X : Ctx} {w0 w : World} {fresh : Nat → Prop} {φ : Nat → Option (Nat × Nat)} {a : Act} (σ' : Nat → AV), (∀ x, (fxOf ops o e).inR x = true → σ' x = σ x) → St N B P0 X w0 fresh σ' φ a w → (∀ k, nh ≤ k → k < nh + e.used → fresh k) → (e.all.isSome = true → ∀ k, nh ≤ k → fresh k) →
    ∀ (next : Act → World → Prop) (Q : Exit → Act → World → Prop), (∀ φ' v w', St N B P0 X w0 (fun k => fresh k ∧ ¬(nh ≤ k ∧ k < nh + e.used)) (put σ' o.dst e) φ' (a.put o.dst v) w' → next (a.put o.dst v) w') → wpOp P ops Q i next a w
section
variable {P : Program} {N : Nat} {ops : Array Oper} {T : Tab}
theorem yield_rep {B : Nat} {P0 : Nat → Prop} {X : Ctx} {w0 w : World} {fresh : Nat → Prop} {φ : Nat → Option (Nat × Nat)} {a : Act} {σ : Nat → AV} {j : Nat} {b : Bool} (hs : St N B P0 X w0 fresh σ φ a w) (h : yieldA ops σ j = .bool b) : yielded ops a.tmps j = some b := by
  unfold yieldA at h
  unfold yielded
  split at h
  · rename_i t ht
    have h1 := hs.tmps t
    rw [h] at h1
    simp only [Rep] at h1
    rw [ht, Option.bind_some]
    rw [Array.getD_eq_getD_getElem?] at h1
    cases hq : a.tmps[t]? with
    | none => rw [hq] at h1; cases h1
    | some v => rw [hq] at h1; simp only [Option.getD_some] at h1; subst h1; rfl
  · cases h
theorem yield_undef {B : Nat} {P0 : Nat → Prop} {X : Ctx} {w0 w : World} {fresh : Nat → Prop} {φ : Nat → Option (Nat × Nat)} {a : Act} {σ : Nat → AV} {j : Nat} (hs : St N B P0 X w0 fresh σ φ a w) (h : yieldA ops σ j = .tup []) : yielded ops a.tmps j = none := by
  unfold yieldA at h
  unfold yielded
  split at h
  · rename_i t ht
    have h1 := hs.tmps t
    rw [h] at h1
    simp only [Rep, Reps] at h1
    obtain ⟨cs, h1, _⟩ := h1
    rw [ht, Option.bind_some]
    rw [Array.getD_eq_getD_getElem?] at h1
    cases hq : a.tmps[t]? with
    | none => rfl
    | some v => rw [hq] at h1; simp only [Option.getD_some] at h1; subst h1; rfl
  · cases h
theorem oneOp_trip (hT : TOk P T) {nh i : Nat} {o : Oper} {σ : Nat → AV} {R : Type} {K : Eff → Option R} {r : R} (ho : ops[i]? = some o) (h : oneOp P T N nh ops o σ K = some r) : ∃ e, Trip1 P N nh ops i σ o e ∧ K e = some r := by
  unfold oneOp at h
  split at h
  · rename_i hd
    have hd' : ∀ d, o.dst = some d → d < N := fun d hd1 => by simpa [dstOk, hd1] using hd
    have key : ∀ {e : Eff}, Trip P N nh σ o e → (∀ {B : Nat} {P0 : Nat → Prop} {X : Ctx} {w0 w : World} {fresh : Nat → Prop} {φ : Nat → Option (Nat × Nat)} {a : Act} (σ' : Nat → AV), (∀ x, (fxOf ops o e).inR x = true → σ' x = σ x) → St N B P0 X w0 fresh σ' φ a w → Region.wanted o (yielded ops a.tmps) = true) → Trip1 P N nh ops i σ o e := by
      intro e ht hw
      refine ⟨?_, ?_⟩
      · rcases ht.1 with h1 | h1 | h1
        · exact .inl h1
        · exact .inr (Fx.boxes_iff.2 (.inl h1))
        · right
          obtain ⟨p, hp⟩ := List.exists_mem_of_ne_nil _ h1
          exact Fx.boxes_iff.2 (.inr (.inr ⟨2 * p.1 + 1, List.mem_append_right _ (List.mem_map.2 ⟨p, hp, rfl⟩), odd_odd _⟩))
      intro B P0 X w0 w fresh φ a σ' hag hs hf hall next Q hk
      unfold wpOp
      simp only [ho, hw σ' hag hs, if_true]
      refine .inl (ht.2 σ' (fun t htm => hag _ ?_) (fun h hh => hag _ ?_) (fun hi h => hag _ ?_) hs hf hall hd' next Q hk)
      · exact Fx.inR_iff.2 (.inl (List.mem_append_left _ (List.mem_map.2 ⟨t, List.mem_append_left _ (List.mem_filterMap.2 ⟨.tmp t, by simpa using htm, rfl⟩), rfl⟩)))
      · exact Fx.inR_iff.2 (.inl (List.mem_append_right _ (List.mem_map.2 ⟨h, hh, rfl⟩)))
      · exact Fx.inR_iff.2 (.inr ⟨hi, odd_odd _⟩)
    split at h
    · rename_i hg
      obtain ⟨e, h1, h2⟩ := doOp_trip (N := N) hT h
      exact ⟨e, key h1 (fun σ' _ _ => by simp [Region.wanted, hg]), h2⟩
    · rename_i j want hg
      have hread : ∀ {e : Eff} {y : AV} {σ' : Nat → AV}, yieldA ops σ j = y → y ≠ .any → (∀ x, (fxOf ops o e).inR x = true → σ' x = σ x) → yieldA ops σ' j = y := by
        intro e y σ' hy hne hag
        unfold yieldA at hy ⊢
        split at hy
        · rename_i t ht
          rw [hag _ (Fx.inR_iff.2 (.inl (List.mem_append_left _ (List.mem_map.2 ⟨t, List.mem_append_right _ (by simp [hg, ht]), rfl⟩))))]
          exact hy
        · exact absurd hy.symm hne
      have skip : ∀ {y : AV}, yieldA ops σ j = y → y ≠ .any → (∀ {B : Nat} {P0 : Nat → Prop} {X : Ctx} {w0 w : World} {fresh : Nat → Prop} {φ : Nat → Option (Nat × Nat)} {a : Act} (σ' : Nat → AV), yieldA ops σ' j = y → St N B P0 X w0 fresh σ' φ a w → Region.wanted o (yielded ops a.tmps) = false) → Trip1 P N nh ops i σ o (val (.tup [])) := by
        intro y hy hne hw
        refine ⟨.inl rfl, ?_⟩
        intro B P0 X w0 w fresh φ a σ' hag hs hf hall next Q hk
        unfold wpOp
        simp only [ho, hw σ' (hread hy hne hag) hs, Bool.false_eq_true, if_false]
        exact hk φ undef w (St.less (St.put hs hd' (fun _ _ => by simp only [val, Rep, Reps]; exact ⟨#[], rfl, rfl⟩)) (fun k (hk : fresh k ∧ _) => hk.1))
      split at h
      · rename_i b hy
        split at h
        · rename_i hb
          subst hb
          obtain ⟨e, h1, h2⟩ := doOp_trip (N := N) hT h
          exact ⟨e, key h1 (fun σ' hag hs => by simp [Region.wanted, hg, yield_rep hs (hread hy (by simp) hag)]), h2⟩
        · rename_i hb
          exact ⟨_, skip hy (by simp) (fun σ' hy' hs => by simp [Region.wanted, hg, yield_rep hs hy', hb]), h⟩
      · rename_i hy
        exact ⟨_, skip hy (by simp) (fun σ' hy' hs => by simp [Region.wanted, hg, yield_undef hs hy']), h⟩
      · cases h
  · cases h
theorem runOps_ops (hT : TOk P T) {Q : Exit → Act → World → Prop} {R : Type} {r : R} {K : (Nat → AV) → Nat → List Fx → Option R} {B : Nat} {P0 : Nat → Prop} {X : Ctx} {w0 : World} {G : Nat → Prop}
    (hQ : ∀ σ' nh' tr φ a w, (∀ h, G h → h < nh') → X.g ≤ nh' → St N B P0 X w0 (fun h => G h ∨ nh' ≤ h) σ' φ a w → K σ' nh' tr = some r → Q .normal a w) :
    ∀ (rest : List Oper) (i nh : Nat) (σ : Nat → AV) (tr : List Fx) (φ : Nat → Option (Nat × Nat)) (a : Act) (w : World), ops.toList.drop i = rest → i + rest.length = ops.size → runOps P T N ops rest nh σ tr K = some r → (∀ h, G h → h < nh) → X.g ≤ nh → St N B P0 X w0 (fun h => G h ∨ nh ≤ h) σ φ a w → wpOps P ops Q (List.range' i rest.length) a w
  | [], i, nh, σ, tr, φ, a, w, hr, hi, h, hG, hX, hs => by
    simp only [runOps] at h
    simp only [List.length_nil, List.range'_zero, wpOps]
    exact hQ _ _ _ _ _ _ hG hX hs h
  | o :: rest, i, nh, σ, tr, φ, a, w, hr, hi, h, hG, hX, hs => by
    simp only [runOps] at h
    have ho : ops[i]? = some o := by
      have := congrArg (·[0]?) hr
      simpa using this
    obtain ⟨e, h1, h2⟩ := oneOp_trip hT ho h
    simp only [List.length_cons, List.range'_succ]
    rw [wpOps_cons]
    refine h1.2 σ (fun _ _ => rfl) hs (fun k hk _ => .inr hk) (fun _ k hk => .inr hk) _ Q (fun φ' v w' hs' => ?_)
    have hr' : ops.toList.drop (i + 1) = rest := by
      have := congrArg List.tail hr
      simpa [List.tail_drop] using this
    refine runOps_ops hT hQ rest (i + 1) _ _ _ φ' _ w' hr' (by simp only [List.length_cons] at hi; omega) h2 (fun h hh => by have := hG h hh; omega) (by omega) (St.less hs' (fun k hk => ?_))
    rcases hk with hk | hk
    · exact ⟨.inl hk, fun hh => by have := hG k hk; omega⟩
    · exact ⟨.inr (by omega), by omega⟩
end
def stAt (ops : Array Oper) (es : List Eff) (σ0 : Nat → AV) : Nat → Nat → AV
  | 0 => σ0
  | j + 1 => match ops[j]?, es[j]? with
    | some o, some e => put (stAt ops es σ0 j) o.dst e
    | _, _ => stAt ops es σ0 j
def nhAt (es : List Eff) (nh0 : Nat) : Nat → Nat
  | 0 => nh0
  | j + 1 => match es[j]? with
    | some e => nhAt es nh0 j + e.used
    | none => nhAt es nh0 j
def fx (ops : Array Oper) (es : List Eff) (j : Nat) : Fx :=
  match ops[j]?, es[j]? with
  | some o, some e => fxOf ops o e
  | _, _ => ⟨[], [], false⟩
def trOf (ops : Array Oper) (es : List Eff) : List Fx := (List.range es.length).map (fx ops es)
section
variable {P : Program} {N nh0 : Nat} {ops : Array Oper} {T : Tab} {σ0 : Nat → AV}
theorem stAt_prefix (es : List Eff) (e : Eff) : ∀ j, j ≤ es.length → stAt ops (es ++ [e]) σ0 j = stAt ops es σ0 j
  | 0, _ => rfl
  | j + 1, hj => by
    simp only [stAt, stAt_prefix es e j (by omega)]
    rw [List.getElem?_append_left (by omega)]
theorem nhAt_prefix (es : List Eff) (e : Eff) : ∀ j, j ≤ es.length → nhAt (es ++ [e]) nh0 j = nhAt es nh0 j
  | 0, _ => rfl
  | j + 1, hj => by
    simp only [nhAt, nhAt_prefix es e j (by omega)]
    rw [List.getElem?_append_left (by omega)]
theorem nhAt_mono (es : List Eff) : ∀ {i j : Nat}, i ≤ j → nhAt es nh0 i ≤ nhAt es nh0 j
  | i, 0, h => by have : i = 0 := by omega
                  subst this; exact Nat.le_refl _
  | i, j + 1, h => by
    rcases Nat.lt_or_ge i (j + 1) with h1 | h1
    · have := nhAt_mono es (i := i) (j := j) (by omega)
      simp only [nhAt]
      split <;> omega
    · have : i = j + 1 := by omega
      subst this; exact Nat.le_refl _
theorem nhAt_step {es : List Eff} {j : Nat} {e : Eff} (h : es[j]? = some e) : nhAt es nh0 (j + 1) = nhAt es nh0 j + e.used := by simp only [nhAt, h]
theorem fx_prefix (es : List Eff) (e : Eff) (j : Nat) (hj : j < es.length) : fx ops (es ++ [e]) j = fx ops es j := by
  unfold fx
  rw [List.getElem?_append_left hj]
theorem runOps_es (hT : TOk P T) {R : Type} {r : R} {K : (Nat → AV) → Nat → List Fx → Option R} :
    ∀ (rest : List Oper) (i : Nat) (es0 : List Eff), ops.toList.drop i = rest → i + rest.length = ops.size → es0.length = i →
      (∀ j o e, ops[j]? = some o → es0[j]? = some e → Trip1 P N (nhAt es0 nh0 j) ops j (stAt ops es0 σ0 j) o e) → runOps P T N ops rest (nhAt es0 nh0 i) (stAt ops es0 σ0 i) (trOf ops es0) K = some r →
      ∃ es, es.length = ops.size ∧ (∀ j o e, ops[j]? = some o → es[j]? = some e → Trip1 P N (nhAt es nh0 j) ops j (stAt ops es σ0 j) o e) ∧ K (stAt ops es σ0 ops.size) (nhAt es nh0 ops.size) (trOf ops es) = some r
  | [], i, es0, hr, hi, hl, hj, h => by
    simp only [List.length_nil, Nat.add_zero] at hi
    subst hi
    exact ⟨es0, hl, hj, h⟩
  | o :: rest, i, es0, hr, hi, hl, hj, h => by
    simp only [runOps] at h
    have ho : ops[i]? = some o := by
      have := congrArg (·[0]?) hr
      simpa using this
    obtain ⟨e, h1, h2⟩ := oneOp_trip hT ho h
    have hr' : ops.toList.drop (i + 1) = rest := by
      have := congrArg List.tail hr
      simpa [List.tail_drop] using this
    subst hl
    refine runOps_es hT rest (es0.length + 1) (es0 ++ [e]) hr' (by simp only [List.length_cons] at hi; omega) (by simp) ?_ ?_
    · intro j o' e' ho' he'
      by_cases hjl : j < es0.length
      · rw [List.getElem?_append_left hjl] at he'
        rw [stAt_prefix es0 e j (by omega), nhAt_prefix es0 e j (by omega)]
        exact hj j o' e' ho' he'
      · have hjl2 : j = es0.length := by
          have := (List.getElem?_eq_some_iff.1 he').1
          simp at this
          omega
        subst hjl2
        rw [ho] at ho'
        injection ho' with ho'
        subst ho'
        simp at he'
        subst he'
        rw [stAt_prefix es0 e _ (Nat.le_refl _), nhAt_prefix es0 e _ (Nat.le_refl _)]
        exact h1
    · have e1 : stAt ops (es0 ++ [e]) σ0 (es0.length + 1) = put (stAt ops es0 σ0 es0.length) o.dst e := by
        simp only [stAt, ho, List.getElem?_concat_length, stAt_prefix es0 e _ (Nat.le_refl _)]
      have e3 : nhAt (es0 ++ [e]) nh0 (es0.length + 1) = nhAt es0 nh0 es0.length + e.used := by
        simp only [nhAt, List.getElem?_concat_length, nhAt_prefix es0 e _ (Nat.le_refl _)]
      have e2 : trOf ops (es0 ++ [e]) = trOf ops es0 ++ [fxOf ops o e] := by
        unfold trOf
        rw [List.length_append, List.length_singleton, List.range_succ, List.map_append]
        congr 1
        · exact List.map_congr_left fun j hj => fx_prefix es0 e j (by simpa using hj)
        · simp [fx, ho]
      rw [e1, e2, e3]
      exact h2
theorem putB_far {x : Nat} : ∀ (l : List (Nat × AV)) (σ : Nat → AV), x ∉ l.map (2 * ·.1 + 1) → putB σ l x = σ x
  | [], _, _ => rfl
  | (h, v) :: l, σ, hx => by
    simp only [List.map_cons, List.mem_cons, not_or] at hx
    simp only [putB]
    rw [putB_far l _ hx.2, upd_eq, if_neg hx.1]
theorem putB_congr {x : Nat} : ∀ (l : List (Nat × AV)) {σ σ' : Nat → AV}, (x ∉ l.map (2 * ·.1 + 1) → σ x = σ' x) → putB σ l x = putB σ' l x
  | [], _, _, h => h (by simp)
  | (h, v) :: l, σ, σ', hx => by
    simp only [putB]
    refine putB_congr l fun hl => ?_
    simp only [upd_eq]
    split
    · rfl
    · rename_i hne
      exact hx (by simp only [List.map_cons, List.mem_cons, not_or]; exact ⟨hne, hl⟩)
theorem put_far {σ : Nat → AV} {o : Oper} {e : Eff} {x : Nat} (h : ¬ (fxOf ops o e).inW x = true) : put σ o.dst e x = σ x := by
  rw [Fx.inW_iff] at h
  simp only [not_or, not_and] at h
  obtain ⟨h1, h2⟩ := h
  have h1' : x ∉ (o.dst.toList).map (2 * ·) ∧ x ∉ e.wr.map (2 * ·.1 + 1) := ⟨fun hh => h1 (List.mem_append_left _ hh), fun hh => h1 (List.mem_append_right _ hh)⟩
  have h3 : putT σ o.dst e.dst x = σ x := by
    cases hd : o.dst with
    | none => rfl
    | some d => simp only [putT, upd_eq]; rw [if_neg (fun hx => h1'.1 (by simp [hd, hx]))]
  have h4 : putB (putT σ o.dst e.dst) e.wr x = σ x := by rw [putB_far _ _ h1'.2, h3]
  unfold put
  cases ha : e.all with
  | none => exact h4
  | some β =>
    have ho : odd x = false := by
      cases hq : odd x
      · rfl
      · exact absurd hq (h2 (by simp [fxOf, ha]))
    have := even_of ho
    rw [this, putW_even, ← this]
    exact h4
theorem put_near {σ σ' : Nat → AV} {o : Oper} {e : Eff} {x : Nat} (h : (fxOf ops o e).inW x = true) : put σ o.dst e x = put σ' o.dst e x := by
  rw [Fx.inW_iff] at h
  have key : x ∈ (fxOf ops o e).wr → putB (putT σ o.dst e.dst) e.wr x = putB (putT σ' o.dst e.dst) e.wr x := fun hx => putB_congr _ fun hl => by
    rcases List.mem_append.1 hx with hx | hx
    · simp only [List.mem_map, Option.mem_toList] at hx
      obtain ⟨d, hd, rfl⟩ := hx
      simp only [hd, putT, upd_eq, if_true]
    · exact absurd hx hl
  unfold put
  cases ha : e.all with
  | none =>
    rcases h with h | h
    · exact key h
    · simp [fxOf, ha] at h
  | some β =>
    cases hq : odd x with
    | true =>
      have := odd_of hq
      rw [this, putW_odd, putW_odd]
    | false =>
      have := even_of hq
      rw [this, putW_even, putW_even, ← this]
      rcases h with h | h
      · exact key h
      · rw [hq] at h; cases h.2
def part (ops : Array Oper) (es : List Eff) (σ0 : Nat → AV) (L : Nat → Bool) : Nat → Nat → AV
  | 0 => σ0
  | j + 1 => fun x => if L j = true ∧ (fx ops es j).inW x = true then stAt ops es σ0 (j + 1) x else part ops es σ0 L j x
theorem stAt_far {es : List Eff} {j x : Nat} (h : ¬ (fx ops es j).inW x = true) : stAt ops es σ0 (j + 1) x = stAt ops es σ0 j x := by
  unfold fx at h
  simp only [stAt]
  cases ho : ops[j]? with
  | none => rfl
  | some o =>
    cases he : es[j]? with
    | none => rfl
    | some e =>
      simp only [ho, he] at h
      exact put_far h
theorem part_all {n : Nat} {es : List Eff} {L : Nat → Bool} (h : ∀ j, j < n → L j = true) {x : Nat} : part ops es σ0 L n x = stAt ops es σ0 n x := by
  induction n with
  | zero => rfl
  | succ n ih =>
    simp only [part]
    by_cases hx : (fx ops es n).inW x = true
    · rw [if_pos ⟨h n (Nat.lt_succ_self n), hx⟩]
    · rw [if_neg (fun hh => hx hh.2), ih (fun j hj => h j (by omega)), stAt_far hx]
end
end Go.Proofs.YtemnjgkicndmjaaGreatDoor.E
