/- What this text proves: a part of the walk and of the plain laws of one card; no conditions. -/
import Derived.Test.YtemnjgkicndmjaaDoorBx1
namespace Go.Proofs.YtemnjgkicndmjaaDoor.Q
open Go.RowKit Go.Proofs.YtemnjgkicndmjaaDoorW.PrintWords Go.Proofs.YtemnjgkicndmjaaDoorW.PrintLast Go.Proofs.YtemnjgkicndmjaaDoorW.PrintMore
attribute [local go_sem] max2_int min2_int max_two min_two max_three min_three max_four min_four
set_option linter.unusedVariables false
set_option linter.unusedSimpArgs false
mutual
def number_Check.j0 : Nat → Bool → Bool → List Int → List Int → Option (Int)
 | 0, _, _, _, _ => none
 | k + 1, x13, x230000, x230001, x230002 => if x13 = true then (some 3) else ((number_Check_1.f x230001).bind fun t230 => (if t230 = true then (number_Check.j1 k true x230000 x230001 x230002) else ((number_Check_1.f x230002).bind fun t231 => (if t231 = true then (number_Check.j1 k true x230000 x230001 x230002) else (number_Check.j1 k ((x230002.length : Int) == 0) x230000 x230001 x230002)))))
def number_Check.j1 : Nat → Bool → Bool → List Int → List Int → Option (Int)
 | 0, _, _, _, _ => none
 | k + 1, x14, x230000, x230001, x230002 => if x14 = true then (some 2) else (if (x230001.length : Int) = 0 then (if x230000 = true then (number_Check.j2 k true x230000 x230001 x230002) else ((nat_IsOne.f x230002).bind fun t232 => (number_Check.j2 k (!t232) x230000 x230001 x230002))) else (number_Check.j2 k false x230000 x230001 x230002))
def number_Check.j2 : Nat → Bool → Bool → List Int → List Int → Option (Int)
 | 0, _, _, _, _ => none
 | k + 1, x31, x230000, x230001, x230002 => if x31 = true then (some 2) else ((nat_IsOne.f x230002).bind fun t233 => (if t233 = true then (some 0) else ((nat_IsOne.f x230001).bind fun t234 => (if t234 = true then (some 0) else ((nat_Gcd.f k x230001 x230002).bind fun t235 => ((nat_IsOne.f t235).bind fun t238 => (if t238 = true then (some 0) else (some 2))))))))
end
def number_Check.f (k : Nat) (a0_0 : Bool) (l0_1 : List Int) (l0_2 : List Int) : Option (Int) := if (l0_1.length : Int) > 128 then (number_Check.j0 k true a0_0 l0_1 l0_2) else (number_Check.j0 k (decide ((l0_2.length : Int) > 128)) a0_0 l0_1 l0_2)
theorem number_Check.mono_l : ∀ k, (∀ y0 y1 y2 y3, LeO (number_Check.j0 k y0 y1 y2 y3) (number_Check.j0 (k + 1) y0 y1 y2 y3)) ∧ (∀ y0 y1 y2 y3, LeO (number_Check.j1 k y0 y1 y2 y3) (number_Check.j1 (k + 1) y0 y1 y2 y3)) ∧ (∀ y0 y1 y2 y3, LeO (number_Check.j2 k y0 y1 y2 y3) (number_Check.j2 (k + 1) y0 y1 y2 y3))
 | 0 => ⟨fun _ _ _ _ r h => by simp [number_Check.j0] at h, fun _ _ _ _ r h => by simp [number_Check.j1] at h, fun _ _ _ _ r h => by simp [number_Check.j2] at h⟩
 | k + 1 => by
  obtain ⟨ih0, ih1, ih2⟩ := number_Check.mono_l k
  refine ⟨?_, ?_, ?_⟩
  ·intro y0 y1 y2 y3
   unfold number_Check.j0
   have m0 := ih0
   have m1 := ih1
   have m2 := ih2
   have m3 := @nat_Gcd.mono
   exact zm
  ·intro y0 y1 y2 y3
   unfold number_Check.j1
   have m0 := ih0
   have m1 := ih1
   have m2 := ih2
   have m3 := @nat_Gcd.mono
   exact zm
  ·intro y0 y1 y2 y3
   unfold number_Check.j2
   have m0 := ih0
   have m1 := ih1
   have m2 := ih2
   have m3 := @nat_Gcd.mono
   exact zm
theorem number_Check.mono : ∀ a0 a1 a2 k, LeO (number_Check.f k a0 a1 a2) (number_Check.f (k + 1) a0 a1 a2) := by
 intro a0 a1 a2 k
 obtain ⟨ih0, ih1, ih2⟩ := number_Check.mono_l k
 unfold number_Check.f
 have m0 := ih0
 have m1 := ih1
 have m2 := ih2
 have m3 := @nat_Gcd.mono
 exact zm
set_option maxHeartbeats 8000000 in
set_option maxRecDepth 100000 in
theorem number_Check.calls (k : Nat) (a0_0 : Bool) (A0_1 : Option Addr) (c0_1 : Nat) (l0_1 : List Int) (A0_2 : Option Addr) (c0_2 : Nat) (l0_2 : List Int) (r : Int) (w : World) (hr0_1 : Kd.C (Kd.int .u32) w A0_1 l0_1.length l0_1) (hc0_1 : l0_1.length ≤ c0_1) (hr0_2 : Kd.C (Kd.int .u32) w A0_2 l0_2.length l0_2) (hc0_2 : l0_2.length ≤ c0_2) (h : number_Check.f k a0_0 l0_1 l0_2 = some r) :
  Calls Tryd.prog 14 #[.agg #[.bool a0_0, .slice A0_1 l0_1.length c0_1, .slice A0_2 l0_2.length c0_2]] w fun e w' => e = .returned (.int .i64 r) ∧ Below w.heap.size w w' := by
 have hu24 := Tryd.underlying24
 have HR0_1 := am hr0_1
 have HC0_1 := am hc0_1
 clear hr0_1 hc0_1
 have HR0_2 := am hr0_2
 have HC0_2 := am hc0_2
 clear hr0_2 hc0_2
 have HB := am (Below.refl w.heap.size w)
 have H := h
 unfold number_Check.f at H
 clear h
 have HC2 := am H
 clear H
 go_enter Tryd.func14, Tryd.ntmps14
 go_upto_region 1 with (first | ((with_reducible refine gate_dst (N := 1) rfl ?_); (try (refine gate_guard (by rfl) ?_; dsimp only)); refine zbox (N := 1) (cs := #[.bool a0_0, .slice A0_1 l0_1.length c0_1, .slice A0_2 l0_2.length c0_2]) (t := 24) ?_; intro gb229 hg w3 hbox hb; refine zt3 (below_step zq1 hb) (hbox) ((zs hg (below_size zq1) : w.heap.size ≤ gb229)) ?_; clear HB; intro HB BK229 GW229; have GE229 := GW229; clear hb hbox hg))
 (try simp only [Act.put, List.setIfInBounds_toArray, List.set_cons_zero, List.set_cons_succ])
 go_cut [13] (fun v13 wc => ∃ (kq : Nat) (x13_1 : Bool), v13 = .bool x13_1 ∧ Aside0 (number_Check.j0 kq x13_1 a0_0 l0_1 l0_2 = some r) ∧ Aside0 (kq ≤ k) ∧ Aside0 (wc.heap[gb229]? = some (.cells #[.bool a0_0, (.slice A0_1 l0_1.length c0_1), (.slice A0_2 l0_2.length c0_2)] 24 (0, 0))) ∧ Aside0 (Below w.heap.size w wc))
 case first =>
  have H := HC2.out
  clear HC2
  by_cases c4 : (l0_1.length : Int) > 128
  ·rw [if_pos c4] at H
   have c4b0 : decide (128 < (l0_1.length : Int)) = true := decide_eq_true c4
   have c4b1 : decide (128 < l0_1.length) = true := decide_eq_true (by omega)
   clear c4
   (first | rw [c4b0] | (simp only [i64_w, i32_w]; rw [c4b0]) | skip)
   have H' := am H
   clear H
   have hcz5_0 := bc BK229.out 0 (.bool a0_0)
   have hcz5_1 := bc BK229.out 1 (.slice A0_1 l0_1.length c0_1)
   have hcz5_2 := bc BK229.out 2 (.slice A0_2 l0_2.length c0_2)
   have hfz5_0 := blk_frozen BK229.out 0
   have hfz5_1 := blk_frozen BK229.out 1
   have hfz5_2 := blk_frozen BK229.out 2
   go_wp2
   go_meet
   case rel => exact ⟨_, (true), zq8, H', ⟨by first | omega | exact Nat.le_refl _⟩, ⟨zq2 BK229.out⟩, ⟨zb1 GE229.out⟩⟩
  ·rw [if_neg c4] at H
   have c4b0 : decide (128 < (l0_1.length : Int)) = false := decide_eq_false c4
   have c4b1 : decide (128 < l0_1.length) = false := decide_eq_false (by omega)
   clear c4
   (first | rw [c4b0] | (simp only [i64_w, i32_w]; rw [c4b0]) | skip)
   have H' := am H
   clear H
   have hcz6_0 := bc BK229.out 0 (.bool a0_0)
   have hcz6_1 := bc BK229.out 1 (.slice A0_1 l0_1.length c0_1)
   have hcz6_2 := bc BK229.out 2 (.slice A0_2 l0_2.length c0_2)
   have hfz6_0 := blk_frozen BK229.out 0
   have hfz6_1 := blk_frozen BK229.out 1
   have hfz6_2 := blk_frozen BK229.out 2
   go_wp2
   go_meet
   case rel => exact ⟨_, (decide ((l0_2.length : Int) > 128)), zq8, H', ⟨by first | omega | exact Nat.le_refl _⟩, ⟨zq2 BK229.out⟩, ⟨zb1 GE229.out⟩⟩
 case rest =>
  clear HC2
  obtain ⟨kq, x13_1, rfl, HA, HJ1, BK229, HB⟩ := hcut
  cases kq with
  | zero => exact absurd HA.out (by simp [number_Check.j0])
  | succ kj1 =>
   have H := HA.out
   clear HA
   simp only [number_Check.j0] at H
   by_cases c7 : x13_1 = true
   ·subst c7
    have H1 : (some 3) = some r := by rw [if_pos rfl] at H; exact H
    clear H
    have H := H1
    clear H1
    obtain rfl := Option.some.inj H
    go_wp2
    go_ret
    exact ⟨zq9, zb1 GE229.out⟩
   ·replace c7 := Bool.eq_false_iff.mpr c7
    subst c7
    have H1 : ((number_Check_1.f l0_1).bind fun t230 => (if t230 = true then (number_Check.j1 kj1 true a0_0 l0_1 l0_2) else ((number_Check_1.f l0_2).bind fun t231 => (if t231 = true then (number_Check.j1 kj1 true a0_0 l0_1 l0_2) else (number_Check.j1 kj1 ((l0_2.length : Int) == 0) a0_0 l0_1 l0_2))))) = some r := by rw [if_neg (show ¬ (false = true) by decide)] at H; exact H
    clear H
    have H := H1
    clear H1
    have HC8 := am H
    clear H
    go_upto_region 4 with (fail)
    go_cut [14] (fun v14 wc => ∃ (kq : Nat) (x14_7 : Bool), v14 = .bool x14_7 ∧ Aside0 (number_Check.j1 kq x14_7 a0_0 l0_1 l0_2 = some r) ∧ Aside0 (kq ≤ kj1) ∧ Aside0 (wc.heap[gb229]? = some (.cells #[.bool a0_0, (.slice A0_1 l0_1.length c0_1), (.slice A0_2 l0_2.length c0_2)] 24 (0, 0))) ∧ Aside0 (Below w.heap.size w wc))
    case first =>
     have H := HC8.out
     clear HC8
     replace H := zj H
     obtain ⟨t230, A9, H⟩ := H
     by_cases c10 : t230 = true
     ·subst c10
      have H1 : (number_Check.j1 kj1 true a0_0 l0_1 l0_2) = some r := by rw [if_pos rfl] at H; exact H
      clear H
      have H := H1
      clear H1
      have H' := am H
      clear H
      have hcz11_0 := bc BK229.out 0 (.bool a0_0)
      have hcz11_1 := bc BK229.out 1 (.slice A0_1 l0_1.length c0_1)
      have hcz11_2 := bc BK229.out 2 (.slice A0_2 l0_2.length c0_2)
      have hfz11_0 := blk_frozen BK229.out 0
      have hfz11_1 := blk_frozen BK229.out 1
      have hfz11_2 := blk_frozen BK229.out 2
      go_wp2_with (first | (go_at_call 42; (with_reducible refine (number_Check_1.calls _ _ l0_1 true _ ?side1 ?side2 A9.out).mono ?_); (case side1 => exact zc (Kd.C_below HR0_1.out HB.out)); (case side2 => exact HC0_1.out); rintro e w' ⟨rfl, ⟨nd, rfl⟩⟩))
      go_meet
      case rel => exact ⟨_, (true), zq8, H', ⟨by have := HJ1.out; first | omega | exact Nat.le_refl _⟩, ⟨zq2 BK229.out⟩, ⟨zb1 GE229.out⟩⟩
     ·replace c10 := Bool.eq_false_iff.mpr c10
      subst c10
      have H1 : ((number_Check_1.f l0_2).bind fun t231 => (if t231 = true then (number_Check.j1 kj1 true a0_0 l0_1 l0_2) else (number_Check.j1 kj1 ((l0_2.length : Int) == 0) a0_0 l0_1 l0_2))) = some r := by rw [if_neg (show ¬ (false = true) by decide)] at H; exact H
      clear H
      have H := H1
      clear H1
      replace H := zj H
      obtain ⟨t231, A12, H⟩ := H
      by_cases c13 : t231 = true
      ·subst c13
       have H1 : (number_Check.j1 kj1 true a0_0 l0_1 l0_2) = some r := by rw [if_pos rfl] at H; exact H
       clear H
       have H := H1
       clear H1
       have H' := am H
       clear H
       have hcz14_0 := bc BK229.out 0 (.bool a0_0)
       have hcz14_1 := bc BK229.out 1 (.slice A0_1 l0_1.length c0_1)
       have hcz14_2 := bc BK229.out 2 (.slice A0_2 l0_2.length c0_2)
       have hfz14_0 := blk_frozen BK229.out 0
       have hfz14_1 := blk_frozen BK229.out 1
       have hfz14_2 := blk_frozen BK229.out 2
       go_wp2_with (first | (go_at_call 42; (with_reducible refine (number_Check_1.calls _ _ l0_1 false _ ?side1 ?side2 A9.out).mono ?_); (case side1 => exact zc (Kd.C_below HR0_1.out HB.out)); (case side2 => exact HC0_1.out); rintro e w' ⟨rfl, ⟨nd, rfl⟩⟩) | (go_at_call 42; (with_reducible refine (number_Check_1.calls _ _ l0_2 true _ ?side1 ?side2 A12.out).mono ?_); (case side1 => exact zc (Kd.C_below HR0_2.out (zb1 GE229.out))); (case side2 => exact HC0_2.out); rintro e w' ⟨rfl, ⟨nd, rfl⟩⟩))
       go_meet
       case rel => exact ⟨_, (true), zq8, H', ⟨by have := HJ1.out; first | omega | exact Nat.le_refl _⟩, ⟨zq2 BK229.out⟩, ⟨zb1 GE229.out⟩⟩
      ·replace c13 := Bool.eq_false_iff.mpr c13
       subst c13
       have H1 : (number_Check.j1 kj1 ((l0_2.length : Int) == 0) a0_0 l0_1 l0_2) = some r := by rw [if_neg (show ¬ (false = true) by decide)] at H; exact H
       clear H
       have H := H1
       clear H1
       have H' := am H
       clear H
       have hcz15_0 := bc BK229.out 0 (.bool a0_0)
       have hcz15_1 := bc BK229.out 1 (.slice A0_1 l0_1.length c0_1)
       have hcz15_2 := bc BK229.out 2 (.slice A0_2 l0_2.length c0_2)
       have hfz15_0 := blk_frozen BK229.out 0
       have hfz15_1 := blk_frozen BK229.out 1
       have hfz15_2 := blk_frozen BK229.out 2
       go_wp2_with (first | (go_at_call 42; (with_reducible refine (number_Check_1.calls _ _ l0_1 false _ ?side1 ?side2 A9.out).mono ?_); (case side1 => exact zc (Kd.C_below HR0_1.out HB.out)); (case side2 => exact HC0_1.out); rintro e w' ⟨rfl, ⟨nd, rfl⟩⟩) | (go_at_call 42; (with_reducible refine (number_Check_1.calls _ _ l0_2 false _ ?side1 ?side2 A12.out).mono ?_); (case side1 => exact zc (Kd.C_below HR0_2.out (zb1 GE229.out))); (case side2 => exact HC0_2.out); rintro e w' ⟨rfl, ⟨nd, rfl⟩⟩))
       go_meet
       case rel => exact ⟨_, (((l0_2.length : Int) == 0)), zq8, H', ⟨by have := HJ1.out; first | omega | exact Nat.le_refl _⟩, ⟨zq2 BK229.out⟩, ⟨zb1 GE229.out⟩⟩
    case rest =>
     clear HC8
     obtain ⟨kq, x14_7, rfl, HA, HJ7, BK229, HB⟩ := hcut
     cases kq with
     | zero => exact absurd HA.out (by simp [number_Check.j1])
     | succ kj7 =>
      have H := HA.out
      clear HA
      simp only [number_Check.j1] at H
      by_cases c16 : x14_7 = true
      ·subst c16
       have H1 : (some 2) = some r := by rw [if_pos rfl] at H; exact H
       clear H
       have H := H1
       clear H1
       obtain rfl := Option.some.inj H
       go_wp2
       go_ret
       exact ⟨zq9, zb1 GE229.out⟩
      ·replace c16 := Bool.eq_false_iff.mpr c16
       subst c16
       have H1 : (if (l0_1.length : Int) = 0 then (if a0_0 = true then (number_Check.j2 kj7 true a0_0 l0_1 l0_2) else ((nat_IsOne.f l0_2).bind fun t232 => (number_Check.j2 kj7 (!t232) a0_0 l0_1 l0_2))) else (number_Check.j2 kj7 false a0_0 l0_1 l0_2)) = some r := by rw [if_neg (show ¬ (false = true) by decide)] at H; exact H
       clear H
       have H := H1
       clear H1
       have HC17 := am H
       clear H
       go_upto_region 6 with (fail)
       go_cut [31] (fun v31 wc => ∃ (kq : Nat) (x31_16 : Bool), v31 = .bool x31_16 ∧ Aside0 (number_Check.j2 kq x31_16 a0_0 l0_1 l0_2 = some r) ∧ Aside0 (kq ≤ kj7) ∧ Aside0 (wc.heap[gb229]? = some (.cells #[.bool a0_0, (.slice A0_1 l0_1.length c0_1), (.slice A0_2 l0_2.length c0_2)] 24 (0, 0))) ∧ Aside0 (Below w.heap.size w wc))
       case first =>
        have H := HC17.out
        clear HC17
        by_cases c18 : (l0_1.length : Int) = 0
        ·rw [if_pos c18] at H
         have c18b0 : ((l0_1.length : Int) == 0) = true := beq_iff_eq.mpr c18
         have c18b1 : ((l0_1.length : Int) != 0) = false := bne_eq_false_iff_eq.mpr c18
         clear c18
         (first | rw [c18b0] | (simp only [i64_w, i32_w]; rw [c18b0]) | skip)
         by_cases c19 : a0_0 = true
         ·subst c19
          have H1 : (number_Check.j2 kj7 true true l0_1 l0_2) = some r := by rw [if_pos rfl] at H; exact H
          clear H
          have H := H1
          clear H1
          have H' := am H
          clear H
          have hcz20_0 := bc BK229.out 0 (.bool true)
          have hcz20_1 := bc BK229.out 1 (.slice A0_1 l0_1.length c0_1)
          have hcz20_2 := bc BK229.out 2 (.slice A0_2 l0_2.length c0_2)
          have hfz20_0 := blk_frozen BK229.out 0
          have hfz20_1 := blk_frozen BK229.out 1
          have hfz20_2 := blk_frozen BK229.out 2
          go_wp2
          go_meet
          case rel => exact ⟨_, (true), zq8, H', ⟨by have := HJ1.out; have := HJ7.out; first | omega | exact Nat.le_refl _⟩, ⟨zq2 BK229.out⟩, ⟨zb1 GE229.out⟩⟩
         ·replace c19 := Bool.eq_false_iff.mpr c19
          subst c19
          have H1 : ((nat_IsOne.f l0_2).bind fun t232 => (number_Check.j2 kj7 (!t232) false l0_1 l0_2)) = some r := by rw [if_neg (show ¬ (false = true) by decide)] at H; exact H
          clear H
          have H := H1
          clear H1
          replace H := zj H
          obtain ⟨t232, A21, H⟩ := H
          have H' := am H
          clear H
          have hcz22_0 := bc BK229.out 0 (.bool false)
          have hcz22_1 := bc BK229.out 1 (.slice A0_1 l0_1.length c0_1)
          have hcz22_2 := bc BK229.out 2 (.slice A0_2 l0_2.length c0_2)
          have hfz22_0 := blk_frozen BK229.out 0
          have hfz22_1 := blk_frozen BK229.out 1
          have hfz22_2 := blk_frozen BK229.out 2
          go_wp2_with (first | (go_at_call 43; (with_reducible refine (nat_IsOne.calls _ _ l0_2 t232 _ ?side1 ?side2 A21.out).mono ?_); (case side1 => exact zc (Kd.C_below HR0_2.out HB.out)); (case side2 => exact HC0_2.out); rintro e w' ⟨rfl, ⟨nd, rfl⟩⟩))
          go_meet
          case rel => exact ⟨_, (!t232), zq8, H', ⟨by have := HJ1.out; have := HJ7.out; first | omega | exact Nat.le_refl _⟩, ⟨zq2 BK229.out⟩, ⟨zb1 GE229.out⟩⟩
        ·rw [if_neg c18] at H
         have c18b0 : ((l0_1.length : Int) == 0) = false := beq_eq_false_iff_ne.mpr c18
         have c18b1 : ((l0_1.length : Int) != 0) = true := bne_iff_ne.mpr c18
         have c18b2 : ¬ (l0_1 = []) := fun h_ => c18 (by rw [h_]; rfl)
         (first | rw [c18b0] | (simp only [i64_w, i32_w]; rw [c18b0]) | skip)
         have H' := am H
         clear H
         have hcz23_0 := bc BK229.out 0 (.bool a0_0)
         have hcz23_1 := bc BK229.out 1 (.slice A0_1 l0_1.length c0_1)
         have hcz23_2 := bc BK229.out 2 (.slice A0_2 l0_2.length c0_2)
         have hfz23_0 := blk_frozen BK229.out 0
         have hfz23_1 := blk_frozen BK229.out 1
         have hfz23_2 := blk_frozen BK229.out 2
         go_wp2
         go_meet
         case rel => exact ⟨_, (false), zq8, H', ⟨by have := HJ1.out; have := HJ7.out; first | omega | exact Nat.le_refl _⟩, ⟨zq2 BK229.out⟩, ⟨zb1 GE229.out⟩⟩
       case rest =>
        clear HC17
        obtain ⟨kq, x31_16, rfl, HA, HJ16, BK229, HB⟩ := hcut
        cases kq with
        | zero => exact absurd HA.out (by simp [number_Check.j2])
        | succ kj16 =>
         have H := HA.out
         clear HA
         simp only [number_Check.j2] at H
         by_cases c24 : x31_16 = true
         ·subst c24
          have H1 : (some 2) = some r := by rw [if_pos rfl] at H; exact H
          clear H
          have H := H1
          clear H1
          obtain rfl := Option.some.inj H
          go_wp2
          go_ret
          exact ⟨zq9, zb1 GE229.out⟩
         ·replace c24 := Bool.eq_false_iff.mpr c24
          subst c24
          have H1 : ((nat_IsOne.f l0_2).bind fun t233 => (if t233 = true then (some 0) else ((nat_IsOne.f l0_1).bind fun t234 => (if t234 = true then (some 0) else ((nat_Gcd.f kj16 l0_1 l0_2).bind fun t235 => ((nat_IsOne.f t235).bind fun t238 => (if t238 = true then (some 0) else (some 2)))))))) = some r := by rw [if_neg (show ¬ (false = true) by decide)] at H; exact H
          clear H
          have H := H1
          clear H1
          replace H := zj H
          obtain ⟨t233, A25, H⟩ := H
          by_cases c26 : t233 = true
          ·subst c26
           have H1 : (some 0) = some r := by rw [if_pos rfl] at H; exact H
           clear H
           have H := H1
           clear H1
           obtain rfl := Option.some.inj H
           have hcz27_0 := bc BK229.out 0 (.bool a0_0)
           have hcz27_1 := bc BK229.out 1 (.slice A0_1 l0_1.length c0_1)
           have hcz27_2 := bc BK229.out 2 (.slice A0_2 l0_2.length c0_2)
           have hfz27_0 := blk_frozen BK229.out 0
           have hfz27_1 := blk_frozen BK229.out 1
           have hfz27_2 := blk_frozen BK229.out 2
           go_wp2_with (first | ((with_reducible refine gate_callee (f := 43) rfl ?_); refine goesL_ (some 49) rfl rfl Tryd.func43 (by kernel_rfl) rfl #[.slice A0_2 l0_2.length c0_2] rfl zq5 ?_; (with_reducible refine (nat_IsOne.calls _ _ l0_2 true _ ?side1 ?side2 A25.out).mono ?_); (case side1 => exact zc (Kd.C_below HR0_2.out HB.out)); (case side2 => exact HC0_2.out); rintro e w' ⟨rfl, ⟨nd, rfl⟩⟩; refine ⟨_, rfl, ?_⟩))
           go_ret
           exact ⟨zq9, zb1 GE229.out⟩
          ·replace c26 := Bool.eq_false_iff.mpr c26
           subst c26
           have H1 : ((nat_IsOne.f l0_1).bind fun t234 => (if t234 = true then (some 0) else ((nat_Gcd.f kj16 l0_1 l0_2).bind fun t235 => ((nat_IsOne.f t235).bind fun t238 => (if t238 = true then (some 0) else (some 2)))))) = some r := by rw [if_neg (show ¬ (false = true) by decide)] at H; exact H
           clear H
           have H := H1
           clear H1
           replace H := zj H
           obtain ⟨t234, A28, H⟩ := H
           by_cases c29 : t234 = true
           ·subst c29
            have H1 : (some 0) = some r := by rw [if_pos rfl] at H; exact H
            clear H
            have H := H1
            clear H1
            obtain rfl := Option.some.inj H
            have hcz30_0 := bc BK229.out 0 (.bool a0_0)
            have hcz30_1 := bc BK229.out 1 (.slice A0_1 l0_1.length c0_1)
            have hcz30_2 := bc BK229.out 2 (.slice A0_2 l0_2.length c0_2)
            have hfz30_0 := blk_frozen BK229.out 0
            have hfz30_1 := blk_frozen BK229.out 1
            have hfz30_2 := blk_frozen BK229.out 2
            go_wp2_with (first | ((with_reducible refine gate_callee (f := 43) rfl ?_); refine goesL_ (some 49) rfl rfl Tryd.func43 (by kernel_rfl) rfl #[.slice A0_2 l0_2.length c0_2] rfl zq5 ?_; (with_reducible refine (nat_IsOne.calls _ _ l0_2 false _ ?side1 ?side2 A25.out).mono ?_); (case side1 => exact zc (Kd.C_below HR0_2.out HB.out)); (case side2 => exact HC0_2.out); rintro e w' ⟨rfl, ⟨nd, rfl⟩⟩; refine ⟨_, rfl, ?_⟩) | (go_at_call 43; (with_reducible refine (nat_IsOne.calls _ _ l0_1 true _ ?side1 ?side2 A28.out).mono ?_); (case side1 => exact zc (Kd.C_below HR0_1.out (zb1 GE229.out))); (case side2 => exact HC0_1.out); rintro e w' ⟨rfl, ⟨nd, rfl⟩⟩))
            go_ret
            exact ⟨zq9, zb1 GE229.out⟩
           ·replace c29 := Bool.eq_false_iff.mpr c29
            subst c29
            have H1 : ((nat_Gcd.f kj16 l0_1 l0_2).bind fun t235 => ((nat_IsOne.f t235).bind fun t238 => (if t238 = true then (some 0) else (some 2)))) = some r := by rw [if_neg (show ¬ (false = true) by decide)] at H; exact H
            clear H
            have H := H1
            clear H1
            replace H := zj H
            obtain ⟨t235, A31, H⟩ := H
            replace H := zj H
            obtain ⟨t238, A32, H⟩ := H
            by_cases c33 : t238 = true
            ·subst c33
             have H1 : (some 0) = some r := by rw [if_pos rfl] at H; exact H
             clear H
             have H := H1
             clear H1
             obtain rfl := Option.some.inj H
             have hcz34_0 := bc BK229.out 0 (.bool a0_0)
             have hcz34_1 := bc BK229.out 1 (.slice A0_1 l0_1.length c0_1)
             have hcz34_2 := bc BK229.out 2 (.slice A0_2 l0_2.length c0_2)
             have hfz34_0 := blk_frozen BK229.out 0
             have hfz34_1 := blk_frozen BK229.out 1
             have hfz34_2 := blk_frozen BK229.out 2
             go_wp2_with (first | ((with_reducible refine gate_callee (f := 43) rfl ?_); refine goesL_ (some 49) rfl rfl Tryd.func43 (by kernel_rfl) rfl #[.slice A0_2 l0_2.length c0_2] rfl zq5 ?_; (with_reducible refine (nat_IsOne.calls _ _ l0_2 false _ ?side1 ?side2 A25.out).mono ?_); (case side1 => exact zc (Kd.C_below HR0_2.out HB.out)); (case side2 => exact HC0_2.out); rintro e w' ⟨rfl, ⟨nd, rfl⟩⟩; refine ⟨_, rfl, ?_⟩) | (go_at_call 43; (with_reducible refine (nat_IsOne.calls _ _ l0_1 false _ ?side1 ?side2 A28.out).mono ?_); (case side1 => exact zc (Kd.C_below HR0_1.out (zb1 GE229.out))); (case side2 => exact HC0_1.out); rintro e w' ⟨rfl, ⟨nd, rfl⟩⟩) | (go_at_call 44; (with_reducible refine (nat_Gcd.calls kj16 (fun k_ => k_ < w.heap.size) _ _ l0_1 (fun k_ => k_ < w.heap.size) _ _ l0_2 t235 _ ?side1 ?side2 A31.out).mono ?_); (case side1 => exact Kd.V_mk HC0_1.out (Kd.F_below (Kd.C_F (Kd.heap_int .u32) HR0_1.out) (zb1 GE229.out))); (case side2 => exact Kd.V_mk HC0_2.out (Kd.F_below (Kd.C_F (Kd.heap_int .u32) HR0_2.out) (zb1 GE229.out))); rintro e w35 ⟨v236, rfl, ho0, hb⟩; refine zt3 (Kd.R_lower (Kd.R_mono (ok' := fun k_ => True) ho0 (fun _ hk_ => trivial)) (below_size (zb1 GE229.out))) (bb BK229.out hb) (below_step (zb1 GE229.out) hb) ?_; clear BK229 HB; intro HO237 BK229 HB; obtain ⟨Ao36, co36, eo36⟩ := Kd.R_slice HO237.out; subst eo36) | (go_at_call 43; (with_reducible refine (nat_IsOne.calls _ _ t235 true _ ?side1 ?side2 A32.out).mono ?_); (case side1 => exact zc ((Kd.R_reads' HO237.out).2.2)); (case side2 => exact (Kd.R_reads' HO237.out).2.1); rintro e w' ⟨rfl, ⟨nd, rfl⟩⟩))
             go_ret
             exact ⟨zq9, zb1 GE229.out⟩
            ·replace c33 := Bool.eq_false_iff.mpr c33
             subst c33
             have H1 : (some 2) = some r := by rw [if_neg (show ¬ (false = true) by decide)] at H; exact H
             clear H
             have H := H1
             clear H1
             obtain rfl := Option.some.inj H
             have hcz37_0 := bc BK229.out 0 (.bool a0_0)
             have hcz37_1 := bc BK229.out 1 (.slice A0_1 l0_1.length c0_1)
             have hcz37_2 := bc BK229.out 2 (.slice A0_2 l0_2.length c0_2)
             have hfz37_0 := blk_frozen BK229.out 0
             have hfz37_1 := blk_frozen BK229.out 1
             have hfz37_2 := blk_frozen BK229.out 2
             go_wp2_with (first | ((with_reducible refine gate_callee (f := 43) rfl ?_); refine goesL_ (some 49) rfl rfl Tryd.func43 (by kernel_rfl) rfl #[.slice A0_2 l0_2.length c0_2] rfl zq5 ?_; (with_reducible refine (nat_IsOne.calls _ _ l0_2 false _ ?side1 ?side2 A25.out).mono ?_); (case side1 => exact zc (Kd.C_below HR0_2.out HB.out)); (case side2 => exact HC0_2.out); rintro e w' ⟨rfl, ⟨nd, rfl⟩⟩; refine ⟨_, rfl, ?_⟩) | (go_at_call 43; (with_reducible refine (nat_IsOne.calls _ _ l0_1 false _ ?side1 ?side2 A28.out).mono ?_); (case side1 => exact zc (Kd.C_below HR0_1.out (zb1 GE229.out))); (case side2 => exact HC0_1.out); rintro e w' ⟨rfl, ⟨nd, rfl⟩⟩) | (go_at_call 44; (with_reducible refine (nat_Gcd.calls kj16 (fun k_ => k_ < w.heap.size) _ _ l0_1 (fun k_ => k_ < w.heap.size) _ _ l0_2 t235 _ ?side1 ?side2 A31.out).mono ?_); (case side1 => exact Kd.V_mk HC0_1.out (Kd.F_below (Kd.C_F (Kd.heap_int .u32) HR0_1.out) (zb1 GE229.out))); (case side2 => exact Kd.V_mk HC0_2.out (Kd.F_below (Kd.C_F (Kd.heap_int .u32) HR0_2.out) (zb1 GE229.out))); rintro e w38 ⟨v236, rfl, ho0, hb⟩; refine zt3 (Kd.R_lower (Kd.R_mono (ok' := fun k_ => True) ho0 (fun _ hk_ => trivial)) (below_size (zb1 GE229.out))) (bb BK229.out hb) (below_step (zb1 GE229.out) hb) ?_; clear BK229 HB; intro HO237 BK229 HB; obtain ⟨Ao39, co39, eo39⟩ := Kd.R_slice HO237.out; subst eo39) | (go_at_call 43; (with_reducible refine (nat_IsOne.calls _ _ t235 false _ ?side1 ?side2 A32.out).mono ?_); (case side1 => exact zc ((Kd.R_reads' HO237.out).2.2)); (case side2 => exact (Kd.R_reads' HO237.out).2.1); rintro e w' ⟨rfl, ⟨nd, rfl⟩⟩))
             go_ret
             exact ⟨zq9, zb1 GE229.out⟩
mutual
def nat_Decimal.l0 : Nat → List Int → List Int → Option (ByteArray)
 | 0, _, _ => none
 | k + 1, x0, x3 => if (x0.length : Int) > 0 then ((nat_DivSmall.f k x0 1000000000).bind fun bt239 => (if x3.length < 35184372088832 then (nat_Decimal.l0 k bt239.1 (x3 ++ [bt239.2])) else (none))) else (nat_Decimal.l1 k x3 ([] : List Int) (wrap64 ((x3.length : Int) - 1)))
def nat_Decimal.l1 : Nat → List Int → List Int → Int → Option (ByteArray)
 | 0, _, _, _ => none
 | k + 1, x3, x6, x7 => if x7 ≥ 0 then (if 0 ≤ x7 then (if x7 < (x3.length : Int) then (if 9 ≤ 281474976710656 then (nat_Decimal.l2 k x3 x6 x7 (rd x3 x7) (List.replicate 9 0) 8) else (none)) else (none)) else (none)) else (nat_Decimal.l3 k x6 0)
def nat_Decimal.l2 : Nat → List Int → List Int → Int → Int → List Int → Int → Option (ByteArray)
 | 0, _, _, _, _, _, _ => none
 | k + 1, x3, x6, x7, x8, x9, x10 => if x10 ≥ 0 then (if 0 ≤ x10 then (if x10 < (x9.length : Int) then (nat_Decimal.l2 k x3 x6 x7 ((Int.tdiv x8 10) % 4294967296) (x9.set (x10 : Int).toNat (((48 + (Int.tmod x8 10)) % 4294967296) % 256)) (wrap64 (x10 - 1))) else (none)) else (none)) else (if x6.length + x9.length < 140737488355328 then (nat_Decimal.l1 k x3 (x6 ++ x9) (wrap64 (x7 - 1))) else (none))
def nat_Decimal.l3 : Nat → List Int → Int → Option (ByteArray)
 | 0, _, _ => none
 | k + 1, x6, x11 => if 0 ≤ x11 then (if x11 < (x6.length : Int) then (if (rd x6 x11) = 48 then (nat_Decimal.l3 k x6 (wrap64 (x11 + 1))) else (if x11 ≤ (x6.length : Int) then (some (strOfNums (x6.drop (x11 : Int).toNat))) else (none))) else (none)) else (none)
end
def nat_Decimal.f (k : Nat) (l0 : List Int) : Option (ByteArray) := if (l0.length : Int) = 0 then (some (⟨#[48]⟩ : ByteArray)) else (nat_Decimal.l0 k l0 ([] : List Int))
theorem nat_Decimal.mono_l : ∀ k, (∀ y0 y1, LeO (nat_Decimal.l0 k y0 y1) (nat_Decimal.l0 (k + 1) y0 y1)) ∧ (∀ y0 y1 y2, LeO (nat_Decimal.l1 k y0 y1 y2) (nat_Decimal.l1 (k + 1) y0 y1 y2)) ∧ (∀ y0 y1 y2 y3 y4 y5, LeO (nat_Decimal.l2 k y0 y1 y2 y3 y4 y5) (nat_Decimal.l2 (k + 1) y0 y1 y2 y3 y4 y5)) ∧ (∀ y0 y1, LeO (nat_Decimal.l3 k y0 y1) (nat_Decimal.l3 (k + 1) y0 y1))
 | 0 => ⟨fun _ _ r h => by simp [nat_Decimal.l0] at h, fun _ _ _ r h => by simp [nat_Decimal.l1] at h, fun _ _ _ _ _ _ r h => by simp [nat_Decimal.l2] at h, fun _ _ r h => by simp [nat_Decimal.l3] at h⟩
 | k + 1 => by
  obtain ⟨ih0, ih1, ih2, ih3⟩ := nat_Decimal.mono_l k
  refine ⟨?_, ?_, ?_, ?_⟩
  ·intro y0 y1
   unfold nat_Decimal.l0
   have m0 := ih0
   have m1 := ih1
   have m2 := ih2
   have m3 := ih3
   have m4 := @nat_DivSmall.mono
   exact zm
  ·intro y0 y1 y2
   unfold nat_Decimal.l1
   have m0 := ih0
   have m1 := ih1
   have m2 := ih2
   have m3 := ih3
   have m4 := @nat_DivSmall.mono
   exact zm
  ·intro y0 y1 y2 y3 y4 y5
   unfold nat_Decimal.l2
   have m0 := ih0
   have m1 := ih1
   have m2 := ih2
   have m3 := ih3
   have m4 := @nat_DivSmall.mono
   exact zm
  ·intro y0 y1
   unfold nat_Decimal.l3
   have m0 := ih0
   have m1 := ih1
   have m2 := ih2
   have m3 := ih3
   have m4 := @nat_DivSmall.mono
   exact zm
theorem nat_Decimal.mono : ∀ a0 k, LeO (nat_Decimal.f k a0) (nat_Decimal.f (k + 1) a0) := by
 intro a0 k
 obtain ⟨ih0, ih1, ih2, ih3⟩ := nat_Decimal.mono_l k
 unfold nat_Decimal.f
 have m0 := ih0
 have m1 := ih1
 have m2 := ih2
 have m3 := ih3
 have m4 := @nat_DivSmall.mono
 exact zm
set_option maxHeartbeats 8000000 in
set_option maxRecDepth 100000 in
theorem nat_Decimal.calls (k : Nat) (P0_ : Nat → Prop) (A0 : Option Addr) (c0 : Nat) (l0 : List Int) (r : ByteArray) (w : World) (hs0 : Kd.V (Kd.int .u32) 55 w w.heap.size (fun k_ => P0_ k_) (.slice A0 l0.length c0) l0) (h : nat_Decimal.f k l0 = some r) :
  Calls Tryd.prog 48 #[.slice A0 l0.length c0] w fun e w' => e = .returned (.string r) ∧ Below w.heap.size w w' := by
 have HO0 := am (show Kd.V (Kd.int .u32) 55 w w.heap.size (fun k_ => (P0_ k_ ∨ w.heap.size ≤ k_)) (.slice A0 l0.length c0) l0 from Kd.V_mono hs0 (fun k_ hk => .inl hk))
 have HB := am (Below.refl w.heap.size w)
 have H := h
 unfold nat_Decimal.f at H
 clear h
 by_cases c2 : (l0.length : Int) = 0
 ·rw [if_pos c2] at H
  have c2b0 : ((l0.length : Int) == 0) = true := beq_iff_eq.mpr c2
  have c2b1 : ((l0.length : Int) != 0) = false := bne_eq_false_iff_eq.mpr c2
  clear c2
  obtain rfl := Option.some.inj H
  go_enter Tryd.func48, Tryd.ntmps48
  go_wp2
  go_ret
  exact ⟨zq9, zq1⟩
 ·rw [if_neg c2] at H
  have c2b0 : ((l0.length : Int) == 0) = false := beq_eq_false_iff_ne.mpr c2
  have c2b1 : ((l0.length : Int) != 0) = true := bne_iff_ne.mpr c2
  have c2b2 : ¬ (l0 = []) := fun h_ => c2 (by rw [h_]; rfl)
  have H' := am H
  clear H
  go_enter Tryd.func48, Tryd.ntmps48
  go_wp2
  go_loopg [0, 3] k (fun kq v0 v3 w' => ∃ (x0_1 : List Int) (x3_1 : List Int), Aside0 (nat_Decimal.l0 kq x0_1 x3_1 = some r) ∧ Aside0 (kq ≤ k) ∧ Aside0 (Kd.V (Kd.int .u32) 55 w' w.heap.size (fun k_ => (P0_ k_ ∨ w.heap.size ≤ k_) ∧ some k_ ≠ (v3 : Value).ownBlock) v0 x0_1) ∧ Aside0 (Kd.R (Kd.int .u32) 55 w' w.heap.size (fun k_ => (w.heap.size ≤ k_)) v3 x3_1) ∧ Aside0 (Below w.heap.size w w'))
  case atStart => exact ⟨(l0), (([] : List Int)), H', ⟨Nat.le_refl _⟩, ⟨zwV (h := by exact Kd.V_mono HO0.out (fun _ hk => ⟨hk, (by simp [Value.ownBlock])⟩))⟩, ⟨by first | exact Kd.R_nil _ _ _ _ _ | exact Kd.N_nil _ _ _ _ _ | exact Kd.V_nil _ _ _ _ _ | exact Kd.Q_nil _ _ _ _ _ | exact Kd.S_nil _ _ _ _ _⟩, ⟨zq1⟩⟩
  case round =>
   clear H'
   obtain ⟨x0_1, x3_1, HA, HK1, HO_0, HO_3, HB⟩ := hrel
   cases gk with
   | zero => exact absurd HA.out (by simp [nat_Decimal.l0])
   | succ k1 =>
    have H := HA.out
    clear HA
    simp only [nat_Decimal.l0] at H
    by_cases c3 : (x0_1.length : Int) > 0
    ·rw [if_pos c3] at H
     have c3b0 : decide (0 < (x0_1.length : Int)) = true := decide_eq_true c3
     have c3b1 : decide (0 < x0_1.length) = true := decide_eq_true (by omega)
     clear c3
     replace H := zj H
     obtain ⟨⟨t239, t242⟩, A4, H⟩ := H
     try dsimp only at H
     replace H := zn H
     obtain ⟨c5, H⟩ := H
     have LMc5 := am c5
     clear c5
     obtain ⟨y243, hy243⟩ : ∃ y_ : List Int, y_ = (x3_1 ++ [t242]) := ⟨_, rfl⟩
     try rw [← hy243] at H
     have Ny243 := am hy243
     clear hy243
     have H' := am H
     clear H
     obtain ⟨Ao6, co6, eo6⟩ := Kd.V_slice HO_0.out
     subst eo6
     go_wp2_with (first | ((with_reducible refine gate_callee (f := 100) rfl ?_); refine goesL_ (some 20) rfl rfl Tryd.func100 (by kernel_rfl) rfl #[.slice Ao6 x0_1.length co6, .int .u32 1000000000] rfl zq5 ?_; (with_reducible refine (nat_DivSmall.calls k1 _ _ x0_1 1000000000 t239 t242 _ ?side1 ?side2 A4.out).mono ?_); (case side1 => exact zc ((Kd.V_reads' HO_0.out).2.2)); (case side2 => exact (Kd.V_reads' HO_0.out).2.1); rintro e w7 ⟨v240, rfl, ho0, hb⟩; refine ⟨_, rfl, ?_⟩; refine zt4 (vb HO_0 hb) (rb HO_3 hb) (Kd.V_lower (Kd.V_mono (ok' := fun k_ => (P0_ k_ ∨ w.heap.size ≤ k_) ∧ some k_ ≠ (u3 : Value).ownBlock) ho0 (fun k_ hk_ => ⟨(.inr (Nat.le_trans (below_size zq1) hk_)), (Kd.fresh' (Kd.R_lt (zq4 HO_3.out)) k_ hk_)⟩)) (below_size zq1)) (below_step zq1 hb) ?_; clear HO_0 HO_3 HB; intro HO_0 HO_3 HO241 HB) | ((with_reducible refine gate_builtin (b := .append) (xs := #[.tmp 23, .tmp 25]) rfl ?_); at_builtin; refine Kd.R_append (Kd.int .u32) (w0 := w) w.heap.size rfl (.tmp 23) (.tmp 25) 22 55 (.int .u32 0) 4 rfl Tryd.underlying22 info55 rfl (by decide) (by omega) u3 x3_1 t242 [.int .u32 t242] (fun k_ => (w.heap.size ≤ k_)) (fun _ => False) rfl rfl ?aP (fun _ hk => hk.elim) ?aF ?aO ?aB ?aS ?aL ?_; (case aP => exact rfl); (case aB => exact zq1); (case aF => exact (fun k_ hk => (Nat.le_trans (below_size zq1) hk))); (case aO => exact (zq4 HO_3.out)); (case aS => exact (below_size zq1)); (case aL => have := LMc5.out; omega); intro v244 w8 ho hb hg hat; rw [← Ny243.out] at ho; refine zt4 (Kd.V_afterv (ok := (fun k_ => (P0_ k_ ∨ w.heap.size ≤ k_))) (zq3 HO_0.out) hg hat) (Kd.V_afterv (ok := (fun k_ => (P0_ k_ ∨ w.heap.size ≤ k_))) (zq3 HO241.out) hg hat) (hb) (ho) ?_; clear HO_0 HO241 HB HO_3; intro HO_0 HO241 HB HO245; clear ho hb hg hat))
     go_roundg k1
     case measure => have := HK1.out; omega
     case rel => exact ⟨(t239), (y243), H', ⟨by have := HK1.out; omega⟩, ⟨zq3 HO241.out⟩, ⟨zq4 HO245.out⟩, ⟨zq1⟩⟩
    ·rw [if_neg c3] at H
     have c3b0 : decide (0 < (x0_1.length : Int)) = false := decide_eq_false c3
     have c3b1 : decide (0 < x0_1.length) = false := decide_eq_false (by omega)
     clear c3
     have H' := am H
     clear H
     obtain ⟨Ao9, co9, eo9⟩ := Kd.V_slice HO_0.out
     subst eo9
     obtain ⟨Ao10, co10, eo10⟩ := Kd.R_slice HO_3.out
     subst eo10
     go_wp2
     go_loopg [6, 7] k1 (fun kq v6 v7 w' => ∃ (x6_2 : List Int) (x7_2 : Int), v7 = .int .i64 x7_2 ∧ Aside0 (nat_Decimal.l1 kq x3_1 x6_2 x7_2 = some r) ∧ Aside0 (kq ≤ k1) ∧ Aside0 (Kd.R (Kd.int .u32) 55 w' w.heap.size (fun k_ => (w.heap.size ≤ k_)) (.slice Ao10 x3_1.length co10) x3_1) ∧ Aside0 (Kd.R (Kd.int .u8) 5 w' w.heap.size (fun k_ => (w.heap.size ≤ k_)) v6 x6_2) ∧ Aside0 (Below w.heap.size w w'))
     case atStart => exact ⟨(([] : List Int)), (wrap64 ((x3_1.length : Int) - 1)), zq8, H', ⟨Nat.le_refl _⟩, ⟨zq4 HO_3.out⟩, ⟨by first | exact Kd.R_nil _ _ _ _ _ | exact Kd.N_nil _ _ _ _ _ | exact Kd.V_nil _ _ _ _ _ | exact Kd.Q_nil _ _ _ _ _ | exact Kd.S_nil _ _ _ _ _⟩, ⟨zq1⟩⟩
     case round =>
      clear H'
      obtain ⟨x6_2, x7_2, rfl, HA, HK2, HO_3, HO_6, HB⟩ := hrel
      cases gk with
      | zero => exact absurd HA.out (by simp [nat_Decimal.l1])
      | succ k2 =>
       have H := HA.out
       clear HA
       simp only [nat_Decimal.l1] at H
       by_cases c11 : x7_2 ≥ 0
       ·rw [if_pos c11] at H
        have c11b0 : decide (0 ≤ x7_2) = true := decide_eq_true c11
        clear c11
        replace H := zn H
        obtain ⟨c12, H⟩ := H
        have c12b0 := decide_eq_true c12
        clear c12
        replace H := zn H
        obtain ⟨c13, H⟩ := H
        have c13b0 := decide_eq_true c13
        clear c13
        replace H := zn H
        obtain ⟨c14, H⟩ := H
        have c14b0 := eq_true c14
        have c14b1 := decide_eq_true c14
        clear c14
        obtain ⟨y247, hy247⟩ : ∃ y_ : List Int, y_ = (List.replicate 9 0) := ⟨_, rfl⟩
        try rw [← hy247] at H
        have Ny247 := am hy247
        clear hy247
        have H' := am H
        clear H
        have p246 : 0 ≤ (x7_2 : Int) := zq6
        have q246 : x7_2 < (x3_1.length : Int) := zq6
        obtain ⟨ad246, e246, hx246_0⟩ := Kd.at_int (Kd.R_reads' HO_3.out).2.2 x7_2 p246 q246
        cases e246
        replace p246 := eq_true p246
        replace q246 := eq_true q246
        go_wp2_with (first | ((with_reducible refine gate_dst (N := 39) rfl ?_); refine Kd.R_make (Kd.int .u8) _ 5 rfl (N := 39) rfl 105 _ _ rfl 9 rfl rfl Tryd.underlying105 (.int .u8 0) 1 info5 rfl (by decide) (by omega) 0 (ok := fun _ => True) (okp := fun _ => True) rfl (fun _ hk => hk) trivial (by omega) (by omega) (Below.refl _ _) (Nat.le_refl _) ?_; intro v248 w15 ho16 hb hg_ hnew_; clear hg_ hnew_; (first | rw [← Ny247.out] at ho16 | (simp only [Int.reduceToNat] at ho16; rw [← Ny247.out] at ho16)); refine zt4 (rb HO_3 hb) (Kd.R_elder' (zq4 HO_6.out) (Kd.R_base ho16) hb) (Kd.R_lower (Kd.R_new' (Kd.R_newM (M := fun k_ => (w.heap.size ≤ k_)) ho16 (below_size zq1) (fun k_ h_ => h_)) (Kd.R_lt (zq4 HO_6.out))) (below_size zq1)) (below_step zq1 hb) ?_; clear HO_3 HO_6 HB; intro HO_3 HO_6 HO249 HB; clear hb ho16))
        go_loopg [8, 10] k2 (fun kq v8 v10 w' => ∃ (x8_3 : Int) (x9_3 : List Int) (x10_3 : Int), v8 = .int .u32 x8_3 ∧ v10 = .int .i64 x10_3 ∧ Aside0 (nat_Decimal.l2 kq x3_1 x6_2 x7_2 x8_3 x9_3 x10_3 = some r) ∧ Aside0 (kq ≤ k2) ∧ Aside0 (Kd.R (Kd.int .u32) 55 w' w.heap.size (fun k_ => (w.heap.size ≤ k_)) (.slice (some ad246) x3_1.length co10) x3_1) ∧ Aside0 (Kd.R (Kd.int .u8) 5 w' w.heap.size (fun k_ => (w.heap.size ≤ k_) ∧ some k_ ≠ (v248 : Value).ownBlock) u6 x6_2) ∧ Aside0 (Kd.R (Kd.int .u8) 5 w' w.heap.size (fun k_ => (w.heap.size ≤ k_) ∧ some k_ ≠ (u6 : Value).ownBlock) v248 x9_3) ∧ Aside0 (Below w.heap.size w w'))
        case atStart => exact ⟨(rd x3_1 x7_2), (y247), (8), zq8, zq8, H', ⟨Nat.le_refl _⟩, ⟨zq4 HO_3.out⟩, ⟨zq4 HO_6.out⟩, ⟨zwR (h := by exact Kd.R_mono HO249.out (fun _ hk => ⟨hk.1.1, hk.2⟩))⟩, ⟨zq1⟩⟩
        case round =>
         clear H'
         obtain ⟨x8_3, x9_3, x10_3, rfl, rfl, HA, HK3, HO_3, HO_6, HO_9, HB⟩ := hrel
         cases gk with
         | zero => exact absurd HA.out (by simp [nat_Decimal.l2])
         | succ k3 =>
          have H := HA.out
          clear HA
          simp only [nat_Decimal.l2] at H
          by_cases c17 : x10_3 ≥ 0
          ·rw [if_pos c17] at H
           have c17b0 : decide (0 ≤ x10_3) = true := decide_eq_true c17
           clear c17
           replace H := zn H
           obtain ⟨c18, H⟩ := H
           have c18b0 := decide_eq_true c18
           clear c18
           replace H := zn H
           obtain ⟨c19, H⟩ := H
           have c19b0 := decide_eq_true c19
           clear c19
           obtain ⟨y250, hy250⟩ : ∃ y_ : List Int, y_ = (x9_3.set (x10_3 : Int).toNat (((48 + (Int.tmod x8_3 10)) % 4294967296) % 256)) := ⟨_, rfl⟩
           try rw [← hy250] at H
           have Ny250 := am hy250
           clear hy250
           have H' := am H
           clear H
           have p20 : 0 ≤ (x10_3 : Int) := zq6
           have q20 : (x10_3 : Int) < ((x9_3.length : Int) : Int) := zq6
           obtain ⟨go20, co20, eo20, gb20, gl20, cl20, HG20⟩ := Kd.R_form HO_9.out (by omega)
           (first | cases eo20 | (injection eo20 with ea_ en_ ec_; (first | subst ea_ | (injection ea_ with ea_; subst ea_)); subst ec_; clear en_))
           have GB20 := am gb20
           have GG20 := am HG20
           clear gb20 gl20 HG20
           obtain ⟨hx20_0, hf20_0⟩ := Kd.R_celln 0 HO_9.out (x10_3 : Int) p20 q20
           replace p20 := eq_true p20
           replace q20 := eq_true q20
           have HP21 := Kd.R_putg HO_9.out (x10_3 : Int) (((48 + (Int.tmod x8_3 10)) % 4294967296) % 256)
           go_wp2_with (first | ((with_reducible refine gate_store (t := 5) (p := 50) rfl ?_); refine zstore (t := 5) (p := 50) (w1 := (wr.setCell ⟨go20, (x10_3 : Int).toNat, none⟩ (.int .u8 (((48 + (Int.tmod x8_3 10)) % 4294967296) % 256)))) ?_; intro w22 hw; have hg : wr.grownBy w22 (some go20) := (by rw [hw]; exact HP21.2); have hp_ : Kd.R (Kd.int .u8) 5 w22 w.heap.size (fun k_ => (w.heap.size ≤ k_) ∧ some k_ ≠ (u6 : Value).ownBlock) (.slice (some ⟨go20, 0, none⟩) x9_3.length co20) y250 := (by rw [hw, Ny250.out]; exact HP21.1); clear HP21; refine zt4 (Kd.R_over' (v := (.slice (some ⟨go20, 0, none⟩) x9_3.length co20)) (zq4 HO_3.out) (Kd.R_typed HO_9.out) (by decide) hg) (Kd.R_after (v := (.slice (some ⟨go20, 0, none⟩) x9_3.length co20)) (v1 := (.slice (some ⟨go20, 0, none⟩) x9_3.length co20)) (ok := (fun k_ => (w.heap.size ≤ k_))) (zq4 HO_6.out) hg (.inl rfl)) (hp_) ((by rw [hw]; exact below_set (HB.out) GB20.out : Below w.heap.size w w22)) ?_; clear HO_3 HO_6 HO_9 HB; intro HO_3 HO_6 HO_9 HB; clear hg hw hp_))
           go_roundg k3
           case measure => have := HK1.out; have := HK2.out; have := HK3.out; omega
           case rel => exact ⟨((Int.tdiv x8_3 10) % 4294967296), (y250), (wrap64 (x10_3 - 1)), zq8, zq8, H', ⟨by have := HK1.out; have := HK2.out; have := HK3.out; omega⟩, ⟨zq4 HO_3.out⟩, ⟨zq4 HO_6.out⟩, ⟨zq4 HO_9.out⟩, ⟨zq1⟩⟩
          ·rw [if_neg c17] at H
           have c17b0 : decide (0 ≤ x10_3) = false := decide_eq_false c17
           clear c17
           replace H := zn H
           obtain ⟨c23, H⟩ := H
           have LMc23 := am c23
           clear c23
           obtain ⟨y251, hy251⟩ : ∃ y_ : List Int, y_ = (x6_2 ++ x9_3) := ⟨_, rfl⟩
           try rw [← hy251] at H
           have Ny251 := am hy251
           clear hy251
           have H' := am H
           clear H
           obtain ⟨Ao25, co25, eo25⟩ := Kd.R_slice HO_9.out
           subst eo25
           go_wp2_with (first | ((with_reducible refine gate_builtin (b := .append) (xs := #[.tmp 53, .tmp 54]) rfl ?_); at_builtin; refine Kd.R_append_rows (Kd.int .u8) (w0 := w) w.heap.size rfl (.tmp 53) (.tmp 54) 105 5 (.int .u8 0) 1 rfl Tryd.underlying105 info5 rfl (by decide) (by omega) u6 x6_2 x9_3 _ _ _ (fun k_ => (w.heap.size ≤ k_) ∧ some k_ ≠ (.slice Ao25 x9_3.length co25 : Value).ownBlock) (fun _ => False) rfl rfl ?aO ?aR (fun _ _ h => h) (fun _ h => h.elim) ?aF ?aB ?aS ?aL ?_; (case aR => repeat (first | exact (Kd.R_reads' HO_9.out).2.2 | (with_reducible refine Kd.C_alloc ?_ _) | (with_reducible refine Kd.C_drewN ?_ _) | (with_reducible refine Kd.C_drew ?_))); (case aB => exact zq1); (case aF => exact (fun k_ hk => ⟨(Nat.le_trans (below_size zq1) hk), Kd.fresh' (Kd.R_lt (zq4 HO_9.out)) k_ hk⟩)); (case aO => exact (zq4 HO_6.out)); (case aS => exact (below_size zq1)); (case aL => have := LMc23.out; omega); intro v252 w24 ho hb hg hat; rw [← Ny251.out] at ho; refine zt4 (Kd.R_over' (zq4 HO_3.out) (Kd.R_typed (zq4 HO_6.out)) (by decide) hg) (Kd.R_after (ok := (fun k_ => (w.heap.size ≤ k_))) (zq4 HO_9.out) hg hat) (hb) (ho) ?_; clear HO_3 HO_9 HB HO_6; intro HO_3 HO_9 HB HO253; clear ho hb hg hat))
           go_roundg k3
           case measure => have := HK1.out; have := HK2.out; have := HK3.out; omega
           case rel => exact ⟨(y251), (wrap64 (x7_2 - 1)), zq8, H', ⟨by have := HK1.out; have := HK2.out; have := HK3.out; omega⟩, ⟨zq4 HO_3.out⟩, ⟨zwR (h := by exact Kd.R_mono HO253.out (fun _ hk => hk.1))⟩, ⟨zq1⟩⟩
       ·rw [if_neg c11] at H
        have c11b0 : decide (0 ≤ x7_2) = false := decide_eq_false c11
        clear c11
        have H' := am H
        clear H
        go_wp2
        go_loopg [11] k2 (fun kq v11 w' => ∃ (x11_3 : Int), v11 = .int .i64 x11_3 ∧ Aside0 (nat_Decimal.l3 kq x6_2 x11_3 = some r) ∧ Aside0 (kq ≤ k2) ∧ Aside0 (Kd.R (Kd.int .u8) 5 w' w.heap.size (fun k_ => (w.heap.size ≤ k_)) u6 x6_2) ∧ Aside0 (Below w.heap.size w w'))
        case atStart => exact ⟨(0), zq8, H', ⟨Nat.le_refl _⟩, ⟨zq4 HO_6.out⟩, ⟨zq1⟩⟩
        case round =>
         clear H'
         obtain ⟨x11_3, rfl, HA, HK3, HO_6, HB⟩ := hrel
         cases gk with
         | zero => exact absurd HA.out (by simp [nat_Decimal.l3])
         | succ k3 =>
          have H := HA.out
          clear HA
          simp only [nat_Decimal.l3] at H
          replace H := zn H
          obtain ⟨c26, H⟩ := H
          have c26b0 := decide_eq_true c26
          clear c26
          replace H := zn H
          obtain ⟨c27, H⟩ := H
          have c27b0 := decide_eq_true c27
          clear c27
          by_cases c28 : (rd x6_2 x11_3) = 48
          ·rw [if_pos c28] at H
           have c28b0 : ((rd x6_2 x11_3) == 48) = true := beq_iff_eq.mpr c28
           have c28b1 : ((rd x6_2 x11_3) != 48) = false := bne_eq_false_iff_eq.mpr c28
           clear c28
           have H' := am H
           clear H
           obtain ⟨Ao29, co29, eo29⟩ := Kd.R_slice HO_6.out
           subst eo29
           have p254 : 0 ≤ (x11_3 : Int) := zq6
           have q254 : x11_3 < (x6_2.length : Int) := zq6
           obtain ⟨ad254, e254, hx254_0⟩ := Kd.at_int (Kd.R_reads' HO_6.out).2.2 x11_3 p254 q254
           cases e254
           replace p254 := eq_true p254
           replace q254 := eq_true q254
           go_wp2
           go_roundg k3
           case measure => have := HK1.out; have := HK2.out; have := HK3.out; omega
           case rel => exact ⟨(wrap64 (x11_3 + 1)), zq8, H', ⟨by have := HK1.out; have := HK2.out; have := HK3.out; omega⟩, ⟨zq4 HO_6.out⟩, ⟨zq1⟩⟩
          ·rw [if_neg c28] at H
           have c28b0 : ((rd x6_2 x11_3) == 48) = false := beq_eq_false_iff_ne.mpr c28
           have c28b1 : ((rd x6_2 x11_3) != 48) = true := bne_iff_ne.mpr c28
           have c30b0 := eq_true (zq6 : 0 ≤ x11_3)
           replace H := zn H
           obtain ⟨c31, H⟩ := H
           have c31b0 := eq_true c31
           have c31b1 := decide_eq_true c31
           clear c31
           obtain ⟨y255, hy255⟩ : ∃ y_ : List Int, y_ = (x6_2.drop (x11_3 : Int).toNat) := ⟨_, rfl⟩
           try rw [← hy255] at H
           have Ny255 := am hy255
           clear hy255
           obtain rfl := Option.some.inj H
           obtain ⟨Ao32, co32, eo32⟩ := Kd.R_slice HO_6.out
           subst eo32
           have p254 : 0 ≤ (x11_3 : Int) := zq6
           have q254 : x11_3 < (x6_2.length : Int) := zq6
           obtain ⟨ad254, e254, hx254_0⟩ := Kd.at_int (Kd.R_reads' HO_6.out).2.2 x11_3 p254 q254
           cases e254
           replace p254 := eq_true p254
           replace q254 := eq_true q254
           have q33 : (x11_3 : Int) ≤ ((x6_2.length : Int) : Int) := zq6
           obtain ⟨i033, hi033, _, hsz33, _⟩ := info_parts info5
           have hroom33 : x6_2.length ≤ co32 := (Kd.R_reads' HO_6.out).2.1
           have hC33 : Kd.C (Kd.int .u8) _ (some ad254) x6_2.length x6_2 := (Kd.R_reads' HO_6.out).2.2
           have q033 : (0 : Int) ≤ (x11_3 : Int) := zq6
           have hcut33 := cut_from (P := Tryd.prog) 105 5 .i64 Tryd.underlying105 hi033 1 hsz33 (some ad254) x6_2.length co32 x11_3 q033 q33
           have hr33 := Kd.C_drop (m := (x11_3 : Int).toNat) (c := co32) hC33 (by omega) hroom33
           obtain ⟨A33, hA33⟩ : ∃ A1, A1 = (if co32 = (x11_3 : Int).toNat then (some ad254) else ((some ad254) : Option Addr).map (·.add ((x11_3 : Int).toNat * 1))) := ⟨_, rfl⟩
           obtain ⟨c33, hc33⟩ : ∃ c1, c1 = co32 - (x11_3 : Int).toNat := ⟨_, rfl⟩
           have hy33 : y255.length = x6_2.length - (x11_3 : Int).toNat := (by rw [Ny255.out, List.length_drop] <;> omega)
           rw [show (x6_2).drop (x11_3 : Int).toNat = y255 from Ny255.out.symm] at hr33
           replace hr33 : Kd.C (Kd.int .u8) _ A33 y255.length y255 := (by rw [hA33]; exact hr33)
           rw [← hy33, ← hA33, ← hc33] at hcut33
           have HR258 := am hr33
           have HC258 := am (show y255.length ≤ c33 from by rw [hy33, hc33]; exact Nat.sub_le_sub_right hroom33 _)
           clear hr33 hC33 hroom33 hi033 hsz33 hc33
           have KY33 := am hy33
           have KA33 := am hA33
           clear hy33 hA33
           have KL33 := am (show (x11_3 : Int).toNat ≤ x6_2.length from by omega)
           replace q33 := eq_true q33
           have hcv34 := Kd.C_string (P := Tryd.prog) (A := A33) (c := c33) Tryd.underlying105 Tryd.underlying5 Tryd.underlying9 (by repeat (first | (with_reducible exact HR258.out) | (with_reducible refine Kd.C_alloc ?_ _) | (with_reducible refine Kd.C_drewN ?_ _) | (with_reducible refine Kd.C_drew ?_) | exact HR258.out))
           go_wp2
           go_ret
           exact ⟨zq9, zq1⟩
def number_Format.j0 : Nat → ByteArray → Bool → List Int → List Int → Option (ByteArray × Int)
 | 0, _, _, _, _ => none
 | k + 1, x5, x260000, x260001, x260002 => (nat_IsOne.f x260002).bind fun t262 => (if t262 = true then (some (x5, 0)) else ((nat_Decimal.f k x260002).bind fun t263 => (if 1 + t263.size ≤ 9223372036854775807 then (if x5.size + ((⟨#[114]⟩ : ByteArray) ++ t263).size ≤ 9223372036854775807 then (some (x5 ++ ((⟨#[114]⟩ : ByteArray) ++ t263), 0)) else (none)) else (none))))
def number_Format.f (k : Nat) (a0_0 : Bool) (l0_1 : List Int) (l0_2 : List Int) : Option (ByteArray × Int) := (number_Check.f k a0_0 l0_1 l0_2).bind fun t260 => (if t260 = 0 then ((nat_Decimal.f k l0_1).bind fun t261 => (if a0_0 = true then (if 1 + t261.size ≤ 9223372036854775807 then (number_Format.j0 k ((⟨#[45]⟩ : ByteArray) ++ t261) a0_0 l0_1 l0_2) else (none)) else (number_Format.j0 k t261 a0_0 l0_1 l0_2))) else (some ((⟨#[]⟩ : ByteArray), t260)))
theorem number_Format.mono_l : ∀ k, (∀ y0 y1 y2 y3, LeO (number_Format.j0 k y0 y1 y2 y3) (number_Format.j0 (k + 1) y0 y1 y2 y3))
 | 0 => fun _ _ _ _ r h => by simp [number_Format.j0] at h
 | k + 1 => by
  have ih0 := number_Format.mono_l k
  ·intro y0 y1 y2 y3
   unfold number_Format.j0
   have m0 := ih0
   have m1 := @nat_Decimal.mono
   have m2 := @number_Check.mono
   exact zm
theorem number_Format.mono : ∀ a0 a1 a2 k, LeO (number_Format.f k a0 a1 a2) (number_Format.f (k + 1) a0 a1 a2) := by
 intro a0 a1 a2 k
 have ih0 := number_Format.mono_l k
 unfold number_Format.f
 have m0 := ih0
 have m1 := @nat_Decimal.mono
 have m2 := @number_Check.mono
 exact zm
set_option maxHeartbeats 8000000 in
set_option maxRecDepth 100000 in
theorem number_Format.calls (k : Nat) (a0_0 : Bool) (A0_1 : Option Addr) (c0_1 : Nat) (l0_1 : List Int) (A0_2 : Option Addr) (c0_2 : Nat) (l0_2 : List Int) (r1 : ByteArray) (r2 : Int) (w : World) (hr0_1 : Kd.C (Kd.int .u32) w A0_1 l0_1.length l0_1) (hc0_1 : l0_1.length ≤ c0_1) (hr0_2 : Kd.C (Kd.int .u32) w A0_2 l0_2.length l0_2) (hc0_2 : l0_2.length ≤ c0_2) (h : number_Format.f k a0_0 l0_1 l0_2 = some (r1, r2)) :
  Calls Tryd.prog 17 #[.agg #[.bool a0_0, .slice A0_1 l0_1.length c0_1, .slice A0_2 l0_2.length c0_2]] w fun e w' => e = .returned (.tuple #[.string r1, .int .i64 r2]) ∧ Below w.heap.size w w' := by
 have hu24 := Tryd.underlying24
 have HR0_1 := am hr0_1
 have HC0_1 := am hc0_1
 clear hr0_1 hc0_1
 have HR0_2 := am hr0_2
 have HC0_2 := am hc0_2
 clear hr0_2 hc0_2
 have HB := am (Below.refl w.heap.size w)
 have H := h
 unfold number_Format.f at H
 clear h
 replace H := zj H
 obtain ⟨t260, A2, H⟩ := H
 by_cases c3 : t260 = 0
 ·rw [if_pos c3] at H
  have c3b0 : (t260 == 0) = true := beq_iff_eq.mpr c3
  have c3b1 : (t260 != 0) = false := bne_eq_false_iff_eq.mpr c3
  clear c3
  replace H := zj H
  obtain ⟨t261, A4, H⟩ := H
  have HC5 := am H
  clear H
  go_enter Tryd.func17, Tryd.ntmps17
  go_upto_if 15 with (first | ((with_reducible refine gate_dst (N := 1) rfl ?_); refine zbox (N := 1) (cs := #[.bool a0_0, .slice A0_1 l0_1.length c0_1, .slice A0_2 l0_2.length c0_2]) (t := 24) ?_; intro gb259 hg w6 hbox hb; refine zt3 (below_step zq1 hb) (hbox) ((zs hg (below_size zq1) : w.heap.size ≤ gb259)) ?_; clear HB; intro HB BK259 GW259; have GE259 := GW259; clear hb hbox hg; have hcz7_0 := bc BK259.out 0 (.bool a0_0); have hcz7_1 := bc BK259.out 1 (.slice A0_1 l0_1.length c0_1); have hcz7_2 := bc BK259.out 2 (.slice A0_2 l0_2.length c0_2); have hfz7_0 := blk_frozen BK259.out 0; have hfz7_1 := blk_frozen BK259.out 1; have hfz7_2 := blk_frozen BK259.out 2) | ((with_reducible refine gate_callee (f := 14) rfl ?_); refine goesL_ (some 7) rfl rfl Tryd.func14 (by kernel_rfl) rfl #[.agg #[.bool a0_0, .slice A0_1 l0_1.length c0_1, .slice A0_2 l0_2.length c0_2]] rfl zq5 ?_; (with_reducible refine (number_Check.calls k a0_0 _ _ l0_1 _ _ l0_2 t260 _ ?side1 ?side2 ?side3 ?side4 A2.out).mono ?_); (case side1 => exact zc (Kd.C_below HR0_1.out HB.out)); (case side2 => exact HC0_1.out); (case side3 => exact zc (Kd.C_below HR0_2.out HB.out)); (case side4 => exact HC0_2.out); rintro e w8 ⟨rfl, hb⟩; refine ⟨_, rfl, ?_⟩; refine zt2 (bb BK259.out hb) (below_step (zb1 GE259.out) hb) ?_; clear BK259 HB; intro BK259 HB; (try clear hb); (try clear hb2); (try clear hk); (try clear hi); have hcz9_0 := bc BK259.out 0 (.bool a0_0); have hcz9_1 := bc BK259.out 1 (.slice A0_1 l0_1.length c0_1); have hcz9_2 := bc BK259.out 2 (.slice A0_2 l0_2.length c0_2); have hfz9_0 := blk_frozen BK259.out 0; have hfz9_1 := blk_frozen BK259.out 1; have hfz9_2 := blk_frozen BK259.out 2) | ((with_reducible refine gate_callee (f := 48) rfl ?_); refine goesL_ (some 13) rfl rfl Tryd.func48 (by kernel_rfl) rfl #[.slice A0_1 l0_1.length c0_1] rfl zq5 ?_; (with_reducible refine (nat_Decimal.calls k (fun k_ => k_ < w.heap.size) _ _ l0_1 t261 _ ?side1 A4.out).mono ?_); (case side1 => exact Kd.V_mk HC0_1.out (Kd.F_below (Kd.C_F (Kd.heap_int .u32) HR0_1.out) (zb1 GE259.out))); rintro e w10 ⟨rfl, hb⟩; refine ⟨_, rfl, ?_⟩; refine zt2 (bb BK259.out hb) (below_step (zb1 GE259.out) hb) ?_; clear BK259 HB; intro BK259 HB; (try clear hb); (try clear hb2); (try clear hk); (try clear hi); have hcz11_0 := bc BK259.out 0 (.bool a0_0); have hcz11_1 := bc BK259.out 1 (.slice A0_1 l0_1.length c0_1); have hcz11_2 := bc BK259.out 2 (.slice A0_2 l0_2.length c0_2); have hfz11_0 := blk_frozen BK259.out 0; have hfz11_1 := blk_frozen BK259.out 1; have hfz11_2 := blk_frozen BK259.out 2))
  (try simp only [Act.put, List.setIfInBounds_toArray, List.set_cons_zero, List.set_cons_succ])
  go_cut [5] (fun v5 wc => ∃ (kq : Nat) (x5_4 : ByteArray), v5 = .string x5_4 ∧ Aside0 (number_Format.j0 kq x5_4 a0_0 l0_1 l0_2 = some (r1, r2)) ∧ Aside0 (kq ≤ k) ∧ Aside0 (wc.heap[gb259]? = some (.cells #[.bool a0_0, (.slice A0_1 l0_1.length c0_1), (.slice A0_2 l0_2.length c0_2)] 24 (0, 0))) ∧ Aside0 (Below w.heap.size w wc))
  case first =>
   have H := HC5.out
   clear HC5
   by_cases c12 : a0_0 = true
   ·subst c12
    have H1 : (if 1 + t261.size ≤ 9223372036854775807 then (number_Format.j0 k ((⟨#[45]⟩ : ByteArray) ++ t261) true l0_1 l0_2) else (none)) = some (r1, r2) := by rw [if_pos rfl] at H; exact H
    clear H
    have H := H1
    clear H1
    replace H := zn H
    obtain ⟨c13, H⟩ := H
    have c13b0 := eq_true c13
    have c13b1 := decide_eq_true c13
    try have c13b2 : (9223372036854775807 < 1 + t261.size) = False := eq_false (Nat.not_lt.2 c13)
    have H' := am H
    clear H
    go_wp2
    go_meet
    case rel => exact ⟨_, ((⟨#[45]⟩ : ByteArray) ++ t261), zq8, H', ⟨by first | omega | exact Nat.le_refl _⟩, ⟨zq2 BK259.out⟩, ⟨zb1 GE259.out⟩⟩
   ·replace c12 := Bool.eq_false_iff.mpr c12
    subst c12
    have H1 : (number_Format.j0 k t261 false l0_1 l0_2) = some (r1, r2) := by rw [if_neg (show ¬ (false = true) by decide)] at H; exact H
    clear H
    have H := H1
    clear H1
    have H' := am H
    clear H
    go_wp2
    go_meet
    case rel => exact ⟨_, (t261), zq8, H', ⟨by first | omega | exact Nat.le_refl _⟩, ⟨zq2 BK259.out⟩, ⟨zb1 GE259.out⟩⟩
  case rest =>
   clear HC5
   obtain ⟨kq, x5_4, rfl, HA, HJ4, BK259, HB⟩ := hcut
   cases kq with
   | zero => exact absurd HA.out (by simp [number_Format.j0])
   | succ kj4 =>
    have H := HA.out
    clear HA
    simp only [number_Format.j0] at H
    replace H := zj H
    obtain ⟨t262, A14, H⟩ := H
    by_cases c15 : t262 = true
    ·subst c15
     have H1 : (some (x5_4, 0)) = some (r1, r2) := by rw [if_pos rfl] at H; exact H
     clear H
     have H := H1
     clear H1
     simp only [Option.some.injEq, Prod.mk.injEq] at H
     obtain ⟨rfl, rfl⟩ := H
     have hcz16_0 := bc BK259.out 0 (.bool a0_0)
     have hcz16_1 := bc BK259.out 1 (.slice A0_1 l0_1.length c0_1)
     have hcz16_2 := bc BK259.out 2 (.slice A0_2 l0_2.length c0_2)
     have hfz16_0 := blk_frozen BK259.out 0
     have hfz16_1 := blk_frozen BK259.out 1
     have hfz16_2 := blk_frozen BK259.out 2
     go_wp2_with (first | ((with_reducible refine gate_callee (f := 43) rfl ?_); refine goesL_ (some 20) rfl rfl Tryd.func43 (by kernel_rfl) rfl #[.slice A0_2 l0_2.length c0_2] rfl zq5 ?_; (with_reducible refine (nat_IsOne.calls _ _ l0_2 true _ ?side1 ?side2 A14.out).mono ?_); (case side1 => exact zc (Kd.C_below HR0_2.out HB.out)); (case side2 => exact HC0_2.out); rintro e w' ⟨rfl, ⟨nd, rfl⟩⟩; refine ⟨_, rfl, ?_⟩))
     go_ret2
     exact ⟨zq9, zb1 GE259.out⟩
    ·replace c15 := Bool.eq_false_iff.mpr c15
     subst c15
     have H1 : ((nat_Decimal.f kj4 l0_2).bind fun t263 => (if 1 + t263.size ≤ 9223372036854775807 then (if x5_4.size + ((⟨#[114]⟩ : ByteArray) ++ t263).size ≤ 9223372036854775807 then (some (x5_4 ++ ((⟨#[114]⟩ : ByteArray) ++ t263), 0)) else (none)) else (none))) = some (r1, r2) := by rw [if_neg (show ¬ (false = true) by decide)] at H; exact H
     clear H
     have H := H1
     clear H1
     replace H := zj H
     obtain ⟨t263, A17, H⟩ := H
     replace H := zn H
     obtain ⟨c18, H⟩ := H
     have c18b0 := eq_true c18
     have c18b1 := decide_eq_true c18
     try have c18b2 : (9223372036854775807 < 1 + t263.size) = False := eq_false (Nat.not_lt.2 c18)
     replace H := zn H
     obtain ⟨c19, H⟩ := H
     have c19b0 := eq_true c19
     have c19b1 := decide_eq_true c19
     try have c19b2 : (9223372036854775807 < x5_4.size + ((⟨#[114]⟩ : ByteArray) ++ t263).size) = False := eq_false (Nat.not_lt.2 c19)
     simp only [Option.some.injEq, Prod.mk.injEq] at H
     obtain ⟨rfl, rfl⟩ := H
     have hcz20_0 := bc BK259.out 0 (.bool a0_0)
     have hcz20_1 := bc BK259.out 1 (.slice A0_1 l0_1.length c0_1)
     have hcz20_2 := bc BK259.out 2 (.slice A0_2 l0_2.length c0_2)
     have hfz20_0 := blk_frozen BK259.out 0
     have hfz20_1 := blk_frozen BK259.out 1
     have hfz20_2 := blk_frozen BK259.out 2
     go_wp2_with (first | ((with_reducible refine gate_callee (f := 43) rfl ?_); refine goesL_ (some 20) rfl rfl Tryd.func43 (by kernel_rfl) rfl #[.slice A0_2 l0_2.length c0_2] rfl zq5 ?_; (with_reducible refine (nat_IsOne.calls _ _ l0_2 false _ ?side1 ?side2 A14.out).mono ?_); (case side1 => exact zc (Kd.C_below HR0_2.out HB.out)); (case side2 => exact HC0_2.out); rintro e w' ⟨rfl, ⟨nd, rfl⟩⟩; refine ⟨_, rfl, ?_⟩) | ((with_reducible refine gate_callee (f := 48) rfl ?_); refine goesL_ (some 25) rfl rfl Tryd.func48 (by kernel_rfl) rfl #[.slice A0_2 l0_2.length c0_2] rfl zq5 ?_; (with_reducible refine (nat_Decimal.calls kj4 (fun k_ => k_ < w.heap.size) _ _ l0_2 t263 _ ?side1 A17.out).mono ?_); (case side1 => exact Kd.V_mk HC0_2.out (Kd.F_below (Kd.C_F (Kd.heap_int .u32) HR0_2.out) (zb1 GE259.out))); rintro e w21 ⟨rfl, hb⟩; refine ⟨_, rfl, ?_⟩; refine zt2 (bb BK259.out hb) (below_step (zb1 GE259.out) hb) ?_; clear BK259 HB; intro BK259 HB; (try clear hb); (try clear hb2); (try clear hk); (try clear hi)))
     go_ret2
     exact ⟨zq9, zb1 GE259.out⟩
 ·rw [if_neg c3] at H
  have c3b0 : (t260 == 0) = false := beq_eq_false_iff_ne.mpr c3
  have c3b1 : (t260 != 0) = true := bne_iff_ne.mpr c3
  simp only [Option.some.injEq, Prod.mk.injEq] at H
  obtain ⟨rfl, rfl⟩ := H
  go_enter Tryd.func17, Tryd.ntmps17
  go_wp2_with (first | ((with_reducible refine gate_dst (N := 1) rfl ?_); refine zbox (N := 1) (cs := #[.bool a0_0, .slice A0_1 l0_1.length c0_1, .slice A0_2 l0_2.length c0_2]) (t := 24) ?_; intro gb259 hg w22 hbox hb; refine zt3 (below_step zq1 hb) (hbox) ((zs hg (below_size zq1) : w.heap.size ≤ gb259)) ?_; clear HB; intro HB BK259 GW259; have GE259 := GW259; clear hb hbox hg; have hcz23_0 := bc BK259.out 0 (.bool a0_0); have hcz23_1 := bc BK259.out 1 (.slice A0_1 l0_1.length c0_1); have hcz23_2 := bc BK259.out 2 (.slice A0_2 l0_2.length c0_2); have hfz23_0 := blk_frozen BK259.out 0; have hfz23_1 := blk_frozen BK259.out 1; have hfz23_2 := blk_frozen BK259.out 2) | ((with_reducible refine gate_callee (f := 14) rfl ?_); refine goesL_ (some 7) rfl rfl Tryd.func14 (by kernel_rfl) rfl #[.agg #[.bool a0_0, .slice A0_1 l0_1.length c0_1, .slice A0_2 l0_2.length c0_2]] rfl zq5 ?_; (with_reducible refine (number_Check.calls k a0_0 _ _ l0_1 _ _ l0_2 t260 _ ?side1 ?side2 ?side3 ?side4 A2.out).mono ?_); (case side1 => exact zc (Kd.C_below HR0_1.out HB.out)); (case side2 => exact HC0_1.out); (case side3 => exact zc (Kd.C_below HR0_2.out HB.out)); (case side4 => exact HC0_2.out); rintro e w24 ⟨rfl, hb⟩; refine ⟨_, rfl, ?_⟩; refine zt2 (bb BK259.out hb) (below_step (zb1 GE259.out) hb) ?_; clear BK259 HB; intro BK259 HB; (try clear hb); (try clear hb2); (try clear hk); (try clear hi)))
  go_ret2
  exact ⟨zq9, zb1 GE259.out⟩
def stringslite_HasPrefix.f (a0 : ByteArray) (a1 : ByteArray) : Option (Bool) := if (a0.size : Int) ≥ (a1.size : Int) then (if 0 ≤ (a1.size : Int) then (if (a1.size : Int) ≤ (a0.size : Int) then (some ((a0.extract 0 ((a1.size : Int) : Int).toNat).toList == a1.toList)) else (none)) else (none)) else (some false)
set_option maxHeartbeats 8000000 in
set_option maxRecDepth 100000 in
theorem stringslite_HasPrefix.calls (a0 : ByteArray) (a1 : ByteArray) (r : Bool) (w : World) (h : stringslite_HasPrefix.f a0 a1 = some r) :
  Calls Tryd.prog 122 #[.string a0, .string a1] w fun e w' => e = .returned (.bool r) ∧ Drawn0 w w' := by
 have H := h
 unfold stringslite_HasPrefix.f at H
 clear h
 by_cases c3 : (a0.size : Int) ≥ (a1.size : Int)
 ·rw [if_pos c3] at H
  have c3b0 : decide ((a1.size : Int) ≤ (a0.size : Int)) = true := decide_eq_true c3
  have c3b1 : decide (a1.size ≤ a0.size) = true := decide_eq_true (Int.ofNat_le.mp c3)
  clear c3
  replace H := zn H
  obtain ⟨c4, H⟩ := H
  have c4b0 := eq_true c4
  have c4b1 := decide_eq_true c4
  clear c4
  replace H := zn H
  obtain ⟨c5, H⟩ := H
  have c5b0 := eq_true c5
  have c5b1 := decide_eq_true c5
  clear c5
  obtain rfl := Option.some.inj H
  go_enter Tryd.func122, Tryd.ntmps122
  go_wp2
  go_ret
  exact ⟨by first | rfl | (simp; done) | (simp [*]; done), by repeat (first | exact Drawn0.refl _ | apply Drawn0.step)⟩
 ·rw [if_neg c3] at H
  have c3b0 : decide ((a1.size : Int) ≤ (a0.size : Int)) = false := decide_eq_false c3
  have c3b1 : decide (a1.size ≤ a0.size) = false := decide_eq_false (fun h => c3 (Int.ofNat_le.mpr h))
  clear c3
  obtain rfl := Option.some.inj H
  go_enter Tryd.func122, Tryd.ntmps122
  go_wp2
  go_ret
  exact ⟨by first | rfl | (simp; done) | (simp [*]; done), by repeat (first | exact Drawn0.refl _ | apply Drawn0.step)⟩
def stringslite_CutPrefix.f (a0 : ByteArray) (a1 : ByteArray) : Option (ByteArray × Bool) := (stringslite_HasPrefix.f a0 a1).bind fun t264 => (if t264 = true then (if 0 ≤ (a1.size : Int) then (if (a1.size : Int) ≤ (a0.size : Int) then (some (a0.extract ((a1.size : Int) : Int).toNat a0.size, true)) else (none)) else (none)) else (some (a0, false)))
set_option maxHeartbeats 8000000 in
set_option maxRecDepth 100000 in
theorem stringslite_CutPrefix.calls (a0 : ByteArray) (a1 : ByteArray) (r1 : ByteArray) (r2 : Bool) (w : World) (h : stringslite_CutPrefix.f a0 a1 = some (r1, r2)) :
  Calls Tryd.prog 102 #[.string a0, .string a1] w fun e w' => e = .returned (.tuple #[.string r1, .bool r2]) ∧ Drawn0 w w' := by
 have H := h
 unfold stringslite_CutPrefix.f at H
 clear h
 replace H := zj H
 obtain ⟨t264, A3, H⟩ := H
 by_cases c4 : t264 = true
 ·subst c4
  have H1 : (if 0 ≤ (a1.size : Int) then (if (a1.size : Int) ≤ (a0.size : Int) then (some (a0.extract ((a1.size : Int) : Int).toNat a0.size, true)) else (none)) else (none)) = some (r1, r2) := by rw [if_pos rfl] at H; exact H
  clear H
  have H := H1
  clear H1
  replace H := zn H
  obtain ⟨c5, H⟩ := H
  have c5b0 := eq_true c5
  have c5b1 := decide_eq_true c5
  clear c5
  replace H := zn H
  obtain ⟨c6, H⟩ := H
  have c6b0 := eq_true c6
  have c6b1 := decide_eq_true c6
  clear c6
  simp only [Option.some.injEq, Prod.mk.injEq] at H
  obtain ⟨rfl, rfl⟩ := H
  go_enter Tryd.func102, Tryd.ntmps102
  go_wp2_with (first | ((with_reducible refine gate_callee (f := 122) rfl ?_); refine goesL_ (some 8) rfl rfl Tryd.func122 (by kernel_rfl) rfl #[.string a0, .string a1] rfl zq5 ?_; (with_reducible refine (stringslite_HasPrefix.calls a0 a1 true _ A3.out).mono ?_); rintro e w' ⟨rfl, ⟨nd, rfl⟩⟩; refine ⟨_, rfl, ?_⟩))
  go_ret2
  exact ⟨by first | rfl | (simp; done) | (simp [*]; done), by repeat (first | exact Drawn0.refl _ | apply Drawn0.step)⟩
 ·replace c4 := Bool.eq_false_iff.mpr c4
  subst c4
  have H1 : (some (a0, false)) = some (r1, r2) := by rw [if_neg (show ¬ (false = true) by decide)] at H; exact H
  clear H
  have H := H1
  clear H1
  simp only [Option.some.injEq, Prod.mk.injEq] at H
  obtain ⟨rfl, rfl⟩ := H
  go_enter Tryd.func102, Tryd.ntmps102
  go_wp2_with (first | ((with_reducible refine gate_callee (f := 122) rfl ?_); refine goesL_ (some 8) rfl rfl Tryd.func122 (by kernel_rfl) rfl #[.string a0, .string a1] rfl zq5 ?_; (with_reducible refine (stringslite_HasPrefix.calls a0 a1 false _ A3.out).mono ?_); rintro e w' ⟨rfl, ⟨nd, rfl⟩⟩; refine ⟨_, rfl, ?_⟩))
  go_ret2
  exact ⟨by first | rfl | (simp; done) | (simp [*]; done), by repeat (first | exact Drawn0.refl _ | apply Drawn0.step)⟩
def strings_CutPrefix.f (a0 : ByteArray) (a1 : ByteArray) : Option (ByteArray × Bool) := (stringslite_CutPrefix.f a0 a1).bind fun bt265 => (some (bt265.1, bt265.2))
set_option maxHeartbeats 8000000 in
set_option maxRecDepth 100000 in
theorem strings_CutPrefix.calls (a0 : ByteArray) (a1 : ByteArray) (r1 : ByteArray) (r2 : Bool) (w : World) (h : strings_CutPrefix.f a0 a1 = some (r1, r2)) :
  Calls Tryd.prog 50 #[.string a0, .string a1] w fun e w' => e = .returned (.tuple #[.string r1, .bool r2]) ∧ Drawn0 w w' := by
 have H := h
 unfold strings_CutPrefix.f at H
 clear h
 replace H := zj H
 obtain ⟨⟨t265, t266⟩, A3, H⟩ := H
 try dsimp only at H
 simp only [Option.some.injEq, Prod.mk.injEq] at H
 obtain ⟨rfl, rfl⟩ := H
 go_enter Tryd.func50, Tryd.ntmps50
 go_wp2_with (first | ((with_reducible refine gate_callee (f := 102) rfl ?_); refine goesL_ (some 8) rfl rfl Tryd.func102 (by kernel_rfl) rfl #[.string a0, .string a1] rfl zq5 ?_; (with_reducible refine (stringslite_CutPrefix.calls a0 a1 t265 t266 _ A3.out).mono ?_); rintro e w' ⟨rfl, ⟨nd, rfl⟩⟩; refine ⟨_, rfl, ?_⟩))
 go_ret2
 exact ⟨by first | rfl | (simp; done) | (simp [*]; done), by repeat (first | exact Drawn0.refl _ | apply Drawn0.step)⟩
def stringslite_Index.f (a0 : ByteArray) (a1 : ByteArray) : Option (Int) := if a1.size = 1 then some (Lib.indexByte a0.data.toList (bt a1 0).toNat.toUInt8) else none
theorem stringslite_Index.calls (a0 : ByteArray) (a1 : ByteArray) (r : Int) (w : World) (h : stringslite_Index.f a0 a1 = some r) :
  Calls Tryd.prog 123 #[.string a0, .string a1] w fun e w' => e = .returned (.int .i64 r) ∧ Drawn0 w w' := by
 unfold stringslite_Index.f at h
 split at h
 ·rename_i h1
  obtain rfl := Option.some.inj h
  obtain ⟨c, rfl⟩ : ∃ c, a1 = ⟨#[c]⟩ := by
   obtain ⟨⟨l⟩⟩ := a1
   match l, h1 with
   | [c], _ => exact ⟨c, rfl⟩
  have e : (bt ⟨#[c]⟩ 0).toNat.toUInt8 = c := by
   have : bt ⟨#[c]⟩ 0 = (c.toNat : Int) := rfl
   rw [this]; simp
  rw [e]
  exact (Any.stringslite_Index_one Tryd.lays219 a0 c w).mono fun e w' h => ⟨h.1, by rw [h.2]; exact Drawn0.refl w⟩
 ·cases h
def stringslite_Cut.f (a0 : ByteArray) (a1 : ByteArray) : Option (ByteArray × ByteArray × Bool) := (stringslite_Index.f a0 a1).bind fun t269 => (if t269 ≥ 0 then (if 0 ≤ t269 then (if t269 ≤ (a0.size : Int) then (if 0 ≤ (wrap64 (t269 + (a1.size : Int))) then (if (wrap64 (t269 + (a1.size : Int))) ≤ (a0.size : Int) then (some (a0.extract 0 (t269 : Int).toNat, a0.extract ((wrap64 (t269 + (a1.size : Int))) : Int).toNat a0.size, true)) else (none)) else (none)) else (none)) else (none)) else (some (a0, (⟨#[]⟩ : ByteArray), false)))
set_option maxHeartbeats 8000000 in
set_option maxRecDepth 100000 in
theorem stringslite_Cut.calls (a0 : ByteArray) (a1 : ByteArray) (r1 : ByteArray) (r2 : ByteArray) (r3 : Bool) (w : World) (h : stringslite_Cut.f a0 a1 = some (r1, r2, r3)) :
  Calls Tryd.prog 103 #[.string a0, .string a1] w fun e w' => e = .returned (.tuple #[.string r1, .string r2, .bool r3]) ∧ Drawn0 w w' := by
 have H := h
 unfold stringslite_Cut.f at H
 clear h
 replace H := zj H
 obtain ⟨t269, A3, H⟩ := H
 by_cases c4 : t269 ≥ 0
 ·rw [if_pos c4] at H
  have c4b0 : decide (0 ≤ t269) = true := decide_eq_true c4
  clear c4
  replace H := zn H
  obtain ⟨c5, H⟩ := H
  have c5b0 := eq_true c5
  have c5b1 := decide_eq_true c5
  clear c5
  replace H := zn H
  obtain ⟨c6, H⟩ := H
  have c6b0 := eq_true c6
  have c6b1 := decide_eq_true c6
  clear c6
  obtain ⟨ji7, hji7⟩ : ∃ j_ : Int, (wrap64 (t269 + (a1.size : Int))) = j_ := ⟨_, rfl⟩
  replace H : (if 0 ≤ (ji7) then (if (ji7) ≤ (a0.size : Int) then (some (a0.extract 0 (t269 : Int).toNat, a0.extract ((ji7) : Int).toNat a0.size, true)) else (none)) else (none)) = some (r1, r2, r3) := by first | (rw [hji7] at H; exact H) | (simp only [hji7] at H ⊢; exact H)
  (try rw [hji7] at A3)
  have hji7w : (IntKind.i64.wrap (t269 + (a1.size : Int))) = ji7 := (i64_w _).trans hji7
  replace H := zn H
  obtain ⟨c8, H⟩ := H
  have c8b0 := eq_true c8
  have c8b1 := decide_eq_true c8
  clear c8
  replace H := zn H
  obtain ⟨c9, H⟩ := H
  have c9b0 := eq_true c9
  have c9b1 := decide_eq_true c9
  clear c9
  simp only [Option.some.injEq, Prod.mk.injEq] at H
  obtain ⟨rfl, rfl, rfl⟩ := H
  go_enter Tryd.func103, Tryd.ntmps103
  go_wp2_with (first | (go_at_call 123; (with_reducible refine (stringslite_Index.calls a0 a1 t269 _ A3.out).mono ?_); rintro e w' ⟨rfl, ⟨nd, rfl⟩⟩; (try first | exact ⟨rfl, _, World.drewN_drewN _ _ _⟩ | exact ⟨rfl, _, Eq.trans (World.drewN_drewN _ _ _) (congrArg (World.drewN _) (Nat.add_assoc _ _ _))⟩)))
  repeat (go_quiet (first | (go_at_call 123; (with_reducible refine (stringslite_Index.calls a0 a1 t269 _ A3.out).mono ?_); rintro e w' ⟨rfl, ⟨nd, rfl⟩⟩; (try first | exact ⟨rfl, _, World.drewN_drewN _ _ _⟩ | exact ⟨rfl, _, Eq.trans (World.drewN_drewN _ _ _) (congrArg (World.drewN _) (Nat.add_assoc _ _ _))⟩))); try go_wp2_with (first | (go_at_call 123; (with_reducible refine (stringslite_Index.calls a0 a1 t269 _ A3.out).mono ?_); rintro e w' ⟨rfl, ⟨nd, rfl⟩⟩; (try first | exact ⟨rfl, _, World.drewN_drewN _ _ _⟩ | exact ⟨rfl, _, Eq.trans (World.drewN_drewN _ _ _) (congrArg (World.drewN _) (Nat.add_assoc _ _ _))⟩))))
  go_ret3
  exact ⟨by first | rfl | (simp; done) | (simp only [← hji7] <;> (first | rfl | simp)) | (simp [*]; done), by repeat (first | exact Drawn0.refl _ | apply Drawn0.step)⟩
 ·rw [if_neg c4] at H
  have c4b0 : decide (0 ≤ t269) = false := decide_eq_false c4
  clear c4
  simp only [Option.some.injEq, Prod.mk.injEq] at H
  obtain ⟨rfl, rfl, rfl⟩ := H
  go_enter Tryd.func103, Tryd.ntmps103
  go_wp2_with (first | (go_at_call 123; (with_reducible refine (stringslite_Index.calls a0 a1 t269 _ A3.out).mono ?_); rintro e w' ⟨rfl, ⟨nd, rfl⟩⟩; (try first | exact ⟨rfl, _, World.drewN_drewN _ _ _⟩ | exact ⟨rfl, _, Eq.trans (World.drewN_drewN _ _ _) (congrArg (World.drewN _) (Nat.add_assoc _ _ _))⟩)))
  repeat (go_quiet (first | (go_at_call 123; (with_reducible refine (stringslite_Index.calls a0 a1 t269 _ A3.out).mono ?_); rintro e w' ⟨rfl, ⟨nd, rfl⟩⟩; (try first | exact ⟨rfl, _, World.drewN_drewN _ _ _⟩ | exact ⟨rfl, _, Eq.trans (World.drewN_drewN _ _ _) (congrArg (World.drewN _) (Nat.add_assoc _ _ _))⟩))); try go_wp2_with (first | (go_at_call 123; (with_reducible refine (stringslite_Index.calls a0 a1 t269 _ A3.out).mono ?_); rintro e w' ⟨rfl, ⟨nd, rfl⟩⟩; (try first | exact ⟨rfl, _, World.drewN_drewN _ _ _⟩ | exact ⟨rfl, _, Eq.trans (World.drewN_drewN _ _ _) (congrArg (World.drewN _) (Nat.add_assoc _ _ _))⟩))))
  go_ret3
  exact ⟨by first | rfl | (simp; done) | (simp [*]; done), by repeat (first | exact Drawn0.refl _ | apply Drawn0.step)⟩
def strings_Cut.f (a0 : ByteArray) (a1 : ByteArray) : Option (ByteArray × ByteArray × Bool) := (stringslite_Cut.f a0 a1).bind fun bt270 => (some (bt270.1, bt270.2.1, bt270.2.2))
set_option maxHeartbeats 8000000 in
set_option maxRecDepth 100000 in
theorem strings_Cut.calls (a0 : ByteArray) (a1 : ByteArray) (r1 : ByteArray) (r2 : ByteArray) (r3 : Bool) (w : World) (h : strings_Cut.f a0 a1 = some (r1, r2, r3)) :
  Calls Tryd.prog 51 #[.string a0, .string a1] w fun e w' => e = .returned (.tuple #[.string r1, .string r2, .bool r3]) ∧ Drawn0 w w' := by
 have H := h
 unfold strings_Cut.f at H
 clear h
 replace H := zj H
 obtain ⟨⟨t270, t271, t272⟩, A3, H⟩ := H
 try dsimp only at H
 simp only [Option.some.injEq, Prod.mk.injEq] at H
 obtain ⟨rfl, rfl, rfl⟩ := H
 go_enter Tryd.func51, Tryd.ntmps51
 go_wp2_with (first | ((with_reducible refine gate_callee (f := 103) rfl ?_); refine goesL_ (some 9) rfl rfl Tryd.func103 (by kernel_rfl) rfl #[.string a0, .string a1] rfl zq5 ?_; (with_reducible refine (stringslite_Cut.calls a0 a1 t270 t271 t272 _ A3.out).mono ?_); rintro e w' ⟨rfl, ⟨nd, rfl⟩⟩; refine ⟨_, rfl, ?_⟩))
 go_ret3
 exact ⟨by first | rfl | (simp; done) | (simp [*]; done), by repeat (first | exact Drawn0.refl _ | apply Drawn0.step)⟩
def strings_Trim.f (a0 : ByteArray) (a1 : ByteArray) : Option (ByteArray) := if a0.size ≤ 9223372036854775807 ∧ a1.size < 4294967281 ∧ a1.data.toList.all (fun b => decide (b.toNat < 128)) = true then some ⟨(Lib.trimS a0.data.toList a1.data.toList).toArray⟩ else none
theorem strings_Trim.calls (a0 : ByteArray) (a1 : ByteArray) (r : ByteArray) (w : World) (h : strings_Trim.f a0 a1 = some r) :
  Calls Tryd.prog 104 #[.string a0, .string a1] w fun e w' => e = .returned (.string r) ∧ Below w.heap.size w w' := by
 unfold strings_Trim.f at h
 split at h
 ·rename_i h1
  obtain rfl := Option.some.inj h
  exact Any.strings_Trim_laid Tryd.lays160 (by kernel_rfl) a0 a1 w h1.1 h1.2.1 (ascii_of_all h1.2.2)
 ·cases h
def number_digits.f (a0 : ByteArray) : Option (Bool) := if a0.toList = ([] : List UInt8) then (some false) else ((strings_Trim.f a0 (⟨#[48, 49, 50, 51, 52, 53, 54, 55, 56, 57]⟩ : ByteArray)).bind fun t275 => (some (t275.toList == ([] : List UInt8))))
set_option maxHeartbeats 8000000 in
set_option maxRecDepth 100000 in
theorem number_digits.calls (a0 : ByteArray) (r : Bool) (w : World) (h : number_digits.f a0 = some r) :
  Calls Tryd.prog 52 #[.string a0] w fun e w' => e = .returned (.bool r) ∧ Below w.heap.size w w' := by
 have HB := am (Below.refl w.heap.size w)
 have H := h
 unfold number_digits.f at H
 clear h
 by_cases c2 : a0.toList = ([] : List UInt8)
 ·rw [if_pos c2] at H
  have c2b0 : (a0.toList == ([] : List UInt8)) = true := beq_iff_eq.mpr c2
  have c2b1 : (a0.toList != ([] : List UInt8)) = false := bne_eq_false_iff_eq.mpr c2
  clear c2
  obtain rfl := Option.some.inj H
  go_enter Tryd.func52, Tryd.ntmps52
  go_wp2
  go_ret
  exact ⟨zq9, zq1⟩
 ·rw [if_neg c2] at H
  have c2b0 : (a0.toList == ([] : List UInt8)) = false := beq_eq_false_iff_ne.mpr c2
  have c2b1 : (a0.toList != ([] : List UInt8)) = true := bne_iff_ne.mpr c2
  replace H := zj H
  obtain ⟨t275, A3, H⟩ := H
  obtain rfl := Option.some.inj H
  go_enter Tryd.func52, Tryd.ntmps52
  go_wp2_with (first | (go_at_call 104; (with_reducible refine (strings_Trim.calls a0 (⟨#[48, 49, 50, 51, 52, 53, 54, 55, 56, 57]⟩ : ByteArray) t275 _ A3.out).mono ?_); rintro e w4 ⟨rfl, hb⟩; refine zt1 (below_step zq1 hb) ?_; clear HB; intro HB; (try clear hb); (try clear hb2); (try clear hk); (try clear hi)))
  go_ret
  exact ⟨zq9, zq1⟩
mutual
def nat_Mul.l0 : Nat → List Int → List Int → List Int → Int → Int → Option (List Int)
 | 0, _, _, _, _, _ => none
 | k + 1, x1, x5, x17, x18, x19 => if x19 < x18 then (if 0 ≤ x19 then (if x19 < (x17.length : Int) then (nat_Mul.l1 k x1 x5 x19 (rd x17 x19) 0 x17 x18 x19 x1 (x1.length : Int) 0) else (none)) else (none)) else ((nat_Trim.f k x5).bind fun t279 => (some t279))
def nat_Mul.l1 : Nat → List Int → List Int → Int → Int → Int → List Int → Int → Int → List Int → Int → Int → Option (List Int)
 | 0, _, _, _, _, _, _, _, _, _, _, _ => none
 | k + 1, x1, x5, x6, x7, x8, x17, x18, x19, x24, x25, x26 => if x26 < x25 then (if 0 ≤ x26 then (if x26 < (x24.length : Int) then (if 0 ≤ (wrap64 (x6 + x26)) then (if (wrap64 (x6 + x26)) < (x5.length : Int) then (nat_Mul.l1 k x1 (x5.set ((wrap64 (x6 + x26)) : Int).toNat ((IntKind.u64.wrap (x8 + (IntKind.u64.wrap ((IntKind.u64.wrap ((IntKind.u64.wrap (x7)) * (IntKind.u64.wrap (rd x24 x26)))) + (IntKind.u64.wrap (rd x5 (wrap64 (x6 + x26)))))))) % 4294967296)) x6 x7 ((IntKind.u64.wrap (x8 + (IntKind.u64.wrap ((IntKind.u64.wrap ((IntKind.u64.wrap (x7)) * (IntKind.u64.wrap (rd x24 x26)))) + (IntKind.u64.wrap (rd x5 (wrap64 (x6 + x26)))))))) / 4294967296) x17 x18 x19 x24 x25 (wrap64 (x26 + 1))) else (none)) else (none)) else (none)) else (none)) else (if 0 ≤ (wrap64 (x6 + (x1.length : Int))) then (if (wrap64 (x6 + (x1.length : Int))) < (x5.length : Int) then (nat_Mul.l0 k x1 (x5.set ((wrap64 (x6 + (x1.length : Int))) : Int).toNat ((x8) % 4294967296)) x17 x18 (wrap64 (x19 + 1))) else (none)) else (none))
end
def nat_Mul.f (k : Nat) (l0 : List Int) (l1 : List Int) : Option (List Int) := if 0 ≤ (wrap64 ((l0.length : Int) + (l1.length : Int))) then (if (wrap64 ((l0.length : Int) + (l1.length : Int)) : Int).toNat ≤ 70368744177664 then (nat_Mul.l0 k l1 (List.replicate (wrap64 ((l0.length : Int) + (l1.length : Int)) : Int).toNat 0) l0 (l0.length : Int) 0) else (none)) else (none)
theorem nat_Mul.mono_l : ∀ k, (∀ y0 y1 y2 y3 y4, LeO (nat_Mul.l0 k y0 y1 y2 y3 y4) (nat_Mul.l0 (k + 1) y0 y1 y2 y3 y4)) ∧ (∀ y0 y1 y2 y3 y4 y5 y6 y7 y8 y9 y10, LeO (nat_Mul.l1 k y0 y1 y2 y3 y4 y5 y6 y7 y8 y9 y10) (nat_Mul.l1 (k + 1) y0 y1 y2 y3 y4 y5 y6 y7 y8 y9 y10))
 | 0 => ⟨fun _ _ _ _ _ r h => by simp [nat_Mul.l0] at h, fun _ _ _ _ _ _ _ _ _ _ _ r h => by simp [nat_Mul.l1] at h⟩
 | k + 1 => by
  obtain ⟨ih0, ih1⟩ := nat_Mul.mono_l k
  refine ⟨?_, ?_⟩
  ·intro y0 y1 y2 y3 y4
   unfold nat_Mul.l0
   have m0 := ih0
   have m1 := ih1
   have m2 := @nat_Trim.mono
   exact zm
  ·intro y0 y1 y2 y3 y4 y5 y6 y7 y8 y9 y10
   unfold nat_Mul.l1
   have m0 := ih0
   have m1 := ih1
   have m2 := @nat_Trim.mono
   exact zm
theorem nat_Mul.mono : ∀ a0 a1 k, LeO (nat_Mul.f k a0 a1) (nat_Mul.f (k + 1) a0 a1) := by
 intro a0 a1 k
 obtain ⟨ih0, ih1⟩ := nat_Mul.mono_l k
 unfold nat_Mul.f
 have m0 := ih0
 have m1 := ih1
 have m2 := @nat_Trim.mono
 exact zm
set_option maxHeartbeats 8000000 in
set_option maxRecDepth 100000 in
theorem nat_Mul.calls (k : Nat) (A0 : Option Addr) (c0 : Nat) (l0 : List Int) (A1 : Option Addr) (c1 : Nat) (l1 : List Int) (r : List Int) (w : World) (hr0 : Kd.C (Kd.int .u32) w A0 l0.length l0) (hc0 : l0.length ≤ c0) (hr1 : Kd.C (Kd.int .u32) w A1 l1.length l1) (hc1 : l1.length ≤ c1) (h : nat_Mul.f k l0 l1 = some r) :
  Calls Tryd.prog 77 #[.slice A0 l0.length c0, .slice A1 l1.length c1] w fun e w' => ∃ v0_ : Value, e = .returned (v0_) ∧ Kd.V (Kd.int .u32) 55 w' w.heap.size (fun k_ => (w.heap.size ≤ k_)) v0_ r ∧ Below w.heap.size w w' := by
 have HR0 := am hr0
 have HC0 := am hc0
 clear hr0 hc0
 have HR1 := am hr1
 have HC1 := am hc1
 clear hr1 hc1
 have HB := am (Below.refl w.heap.size w)
 have H := h
 unfold nat_Mul.f at H
 clear h
 obtain ⟨ji3, hji3⟩ : ∃ j_ : Int, (wrap64 ((l0.length : Int) + (l1.length : Int))) = j_ := ⟨_, rfl⟩
 replace H : (if 0 ≤ (ji3) then (if (ji3 : Int).toNat ≤ 70368744177664 then (nat_Mul.l0 k l1 (List.replicate (ji3 : Int).toNat 0) l0 (l0.length : Int) 0) else (none)) else (none)) = some r := by first | (rw [hji3] at H; exact H) | (simp only [hji3] at H ⊢; exact H)
 have hji3w : (IntKind.i64.wrap ((l0.length : Int) + (l1.length : Int))) = ji3 := (i64_w _).trans hji3
 replace H := zn H
 obtain ⟨c4, H⟩ := H
 have c4b0 := eq_true c4
 have c4b1 := decide_eq_true c4
 clear c4
 replace H := zn H
 obtain ⟨c5, H⟩ := H
 have c5b0 := eq_true c5
 have c5b1 := decide_eq_true c5
 clear c5
 obtain ⟨y276, hy276⟩ : ∃ y_ : List Int, y_ = (List.replicate (ji3 : Int).toNat 0) := ⟨_, rfl⟩
 try rw [← hy276] at H
 have Ny276 := am hy276
 clear hy276
 have H' := am H
 clear H
 go_enter Tryd.func77, Tryd.ntmps77
 go_wp2_with (first | ((with_reducible refine gate_dst (N := 16) rfl ?_); refine Kd.R_make (Kd.int .u32) _ 55 rfl (N := 16) rfl 22 _ _ rfl ji3 rfl rfl Tryd.underlying22 (.int .u32 0) 4 info55 rfl (by decide) (by omega) 0 (ok := fun _ => True) (okp := fun _ => True) rfl (fun _ hk => hk) trivial zq6 (Nat.le_trans (Nat.mul_le_mul_right _ (zq6 : ji3.toNat ≤ 70368744177664)) (by omega)) (Below.refl _ _) (Nat.le_refl _) ?_; intro v277 w6 ho7 hb hg_ hnew_; clear hg_ hnew_; (first | rw [← Ny276.out] at ho7 | (simp only [Int.reduceToNat] at ho7; rw [← Ny276.out] at ho7)); refine zt2 (Kd.R_lower (Kd.R_newM (M := fun k_ => (w.heap.size ≤ k_)) ho7 (below_size zq1) (fun k_ h_ => h_)) (below_size zq1)) (below_step zq1 hb) ?_; clear HB; intro HO278 HB; clear hb ho7))
 go_loopg [19] k (fun kq v19 w' => ∃ (x5_1 : List Int) (x19_1 : Int), v19 = .int .i64 x19_1 ∧ Aside0 (nat_Mul.l0 kq l1 x5_1 l0 (l0.length : Int) x19_1 = some r) ∧ Aside0 (kq ≤ k) ∧ Aside0 (Kd.R (Kd.int .u32) 55 w' w.heap.size (fun k_ => (w.heap.size ≤ k_)) v277 x5_1) ∧ Aside0 (Below w.heap.size w w'))
 case atStart => exact ⟨(y276), (0), zq8, H', ⟨Nat.le_refl _⟩, ⟨zwR (h := by exact Kd.R_mono HO278.out (fun _ hk => hk.1))⟩, ⟨zq1⟩⟩
 case round =>
  clear H'
  obtain ⟨x5_1, x19_1, rfl, HA, HK1, HO_5, HB⟩ := hrel
  cases gk with
  | zero => exact absurd HA.out (by simp [nat_Mul.l0])
  | succ k1 =>
   have H := HA.out
   clear HA
   simp only [nat_Mul.l0] at H
   by_cases c8 : x19_1 < (l0.length : Int)
   ·rw [if_pos c8] at H
    have c8b0 := decide_eq_true c8
    clear c8
    replace H := zn H
    obtain ⟨c9, H⟩ := H
    have c9b0 := decide_eq_true c9
    clear c9
    replace H := zn H
    obtain ⟨c10, H⟩ := H
    have c10b0 := decide_eq_true c10
    clear c10
    have H' := am H
    clear H
    have p282 : 0 ≤ (x19_1 : Int) := zq6
    have q282 : x19_1 < (l0.length : Int) := zq6
    obtain ⟨ad282, e282, hx282_0⟩ := Kd.at_int HR0.out x19_1 p282 q282
    cases e282
    replace hx282_0 := (HB.out.cell (World.block_lt_of_cell? w _ hx282_0)).trans hx282_0
    replace p282 := eq_true p282
    replace q282 := eq_true q282
    go_wp2
    go_loopg [8, 26] k1 (fun kq v8 v26 w' => ∃ (x5_2 : List Int) (x8_2 : Int) (x26_2 : Int), v8 = .int .u64 x8_2 ∧ v26 = .int .i64 x26_2 ∧ Aside0 (nat_Mul.l1 kq l1 x5_2 x19_1 (rd l0 x19_1) x8_2 l0 (l0.length : Int) x19_1 l1 (l1.length : Int) x26_2 = some r) ∧ Aside0 (kq ≤ k1) ∧ Aside0 (Kd.R (Kd.int .u32) 55 w' w.heap.size (fun k_ => (w.heap.size ≤ k_)) v277 x5_2) ∧ Aside0 (Below w.heap.size w w'))
    case atStart => exact ⟨(x5_1), (0), (0), zq8, zq8, H', ⟨Nat.le_refl _⟩, ⟨zq4 HO_5.out⟩, ⟨zq1⟩⟩
    case round =>
     clear H'
     obtain ⟨x5_2, x8_2, x26_2, rfl, rfl, HA, HK2, HO_5, HB⟩ := hrel
     cases gk with
     | zero => exact absurd HA.out (by simp [nat_Mul.l1])
     | succ k2 =>
      have H := HA.out
      clear HA
      simp only [nat_Mul.l1] at H
      by_cases c11 : x26_2 < (l1.length : Int)
      ·rw [if_pos c11] at H
       have c11b0 := decide_eq_true c11
       clear c11
       replace H := zn H
       obtain ⟨c12, H⟩ := H
       have c12b0 := decide_eq_true c12
       clear c12
       replace H := zn H
       obtain ⟨c13, H⟩ := H
       have c13b0 := decide_eq_true c13
       clear c13
       obtain ⟨ji14, hji14⟩ : ∃ j_ : Int, (wrap64 (x19_1 + x26_2)) = j_ := ⟨_, rfl⟩
       replace H : (if 0 ≤ (ji14) then (if (ji14) < (x5_2.length : Int) then (nat_Mul.l1 k2 l1 (x5_2.set ((ji14) : Int).toNat ((IntKind.u64.wrap (x8_2 + (IntKind.u64.wrap ((IntKind.u64.wrap ((IntKind.u64.wrap ((rd l0 x19_1))) * (IntKind.u64.wrap (rd l1 x26_2)))) + (IntKind.u64.wrap (rd x5_2 (ji14))))))) % 4294967296)) x19_1 (rd l0 x19_1) ((IntKind.u64.wrap (x8_2 + (IntKind.u64.wrap ((IntKind.u64.wrap ((IntKind.u64.wrap ((rd l0 x19_1))) * (IntKind.u64.wrap (rd l1 x26_2)))) + (IntKind.u64.wrap (rd x5_2 (ji14))))))) / 4294967296) l0 (l0.length : Int) x19_1 l1 (l1.length : Int) (wrap64 (x26_2 + 1))) else (none)) else (none)) = some r := by first | (rw [hji14] at H; exact H) | (simp only [hji14] at H ⊢; exact H)
       have hji14w : (IntKind.i64.wrap (x19_1 + x26_2)) = ji14 := (i64_w _).trans hji14
       replace H := zn H
       obtain ⟨c15, H⟩ := H
       have c15b0 := decide_eq_true c15
       clear c15
       replace H := zn H
       obtain ⟨c16, H⟩ := H
       have c16b0 := decide_eq_true c16
       clear c16
       obtain ⟨y285, hy285⟩ : ∃ y_ : List Int, y_ = (x5_2.set ((ji14) : Int).toNat ((IntKind.u64.wrap (x8_2 + (IntKind.u64.wrap ((IntKind.u64.wrap ((IntKind.u64.wrap ((rd l0 x19_1))) * (IntKind.u64.wrap (rd l1 x26_2)))) + (IntKind.u64.wrap (rd x5_2 (ji14))))))) % 4294967296)) := ⟨_, rfl⟩
       try rw [← hy285] at H
       have Ny285 := am hy285
       clear hy285
       have H' := am H
       clear H
       have p283 : 0 ≤ (x26_2 : Int) := zq6
       have q283 : x26_2 < (l1.length : Int) := zq6
       obtain ⟨ad283, e283, hx283_0⟩ := Kd.at_int HR1.out x26_2 p283 q283
       cases e283
       replace hx283_0 := (HB.out.cell (World.block_lt_of_cell? w _ hx283_0)).trans hx283_0
       replace p283 := eq_true p283
       replace q283 := eq_true q283
       obtain ⟨Ao18, co18, eo18⟩ := Kd.R_slice HO_5.out
       subst eo18
       have p284 : 0 ≤ ((ji14) : Int) := zq6
       have q284 : (ji14) < (x5_2.length : Int) := zq6
       obtain ⟨ad284, e284, hx284_0⟩ := Kd.at_int (Kd.R_reads' HO_5.out).2.2 (ji14) p284 q284
       cases e284
       replace p284 := eq_true p284
       replace q284 := eq_true q284
       have p17 : 0 ≤ ((ji14) : Int) := zq6
       have q17 : ((ji14) : Int) < ((x5_2.length : Int) : Int) := zq6
       obtain ⟨go17, co17, eo17, gb17, gl17, cl17, HG17⟩ := Kd.R_form HO_5.out (by omega)
       (first | cases eo17 | (injection eo17 with ea_ en_ ec_; (first | subst ea_ | (injection ea_ with ea_; subst ea_)); subst ec_; clear en_))
       have GB17 := am gb17
       have GG17 := am HG17
       clear gb17 gl17 HG17
       (first | simp only [add_plain] at hx284_0 | skip)
       obtain ⟨hx17_0, hf17_0⟩ := Kd.R_celln 0 HO_5.out ((ji14) : Int) p17 q17
       replace p17 := eq_true p17
       replace q17 := eq_true q17
       have HP19 := Kd.R_putg HO_5.out ((ji14) : Int) ((IntKind.u64.wrap (x8_2 + (IntKind.u64.wrap ((IntKind.u64.wrap ((IntKind.u64.wrap ((rd l0 x19_1))) * (IntKind.u64.wrap (rd l1 x26_2)))) + (IntKind.u64.wrap (rd x5_2 (ji14))))))) % 4294967296)
       go_wp2_with (first | ((with_reducible refine gate_store (t := 55) (p := 52) rfl ?_); refine zstore (t := 55) (p := 52) (w1 := (wr.setCell ⟨go17, ((ji14) : Int).toNat, none⟩ (.int .u32 ((IntKind.u64.wrap (x8_2 + (IntKind.u64.wrap ((IntKind.u64.wrap ((IntKind.u64.wrap ((rd l0 x19_1))) * (IntKind.u64.wrap (rd l1 x26_2)))) + (IntKind.u64.wrap (rd x5_2 (ji14))))))) % 4294967296)))) ?_; intro w20 hw; have hg : wr.grownBy w20 (some go17) := (by rw [hw]; exact HP19.2); have hp_ : Kd.R (Kd.int .u32) 55 w20 w.heap.size (fun k_ => (w.heap.size ≤ k_)) (.slice (some ⟨go17, 0, none⟩) x5_2.length co18) y285 := (by rw [hw, Ny285.out]; exact HP19.1); clear HP19; refine zt2 (hp_) ((by rw [hw]; exact below_set (HB.out) GB17.out : Below w.heap.size w w20)) ?_; clear HO_5 HB; intro HO_5 HB; clear hg hw hp_))
       go_roundg k2
       case measure => have := HK1.out; have := HK2.out; omega
       case rel => exact ⟨(y285), ((IntKind.u64.wrap (x8_2 + (IntKind.u64.wrap ((IntKind.u64.wrap ((IntKind.u64.wrap ((rd l0 x19_1))) * (IntKind.u64.wrap (rd l1 x26_2)))) + (IntKind.u64.wrap (rd x5_2 (ji14))))))) / 4294967296), (wrap64 (x26_2 + 1)), (by first | rfl | (simp; done) | (simp only [← hji14] <;> (first | rfl | simp)) | (simp [*]; done)), zq8, (by first | exact H' | (rw [hji3]; exact H') | (rw [hji14]; exact H')), ⟨by have := HK1.out; have := HK2.out; omega⟩, ⟨zq4 HO_5.out⟩, ⟨zq1⟩⟩
      ·rw [if_neg c11] at H
       have c11b0 := decide_eq_false c11
       clear c11
       obtain ⟨ji21, hji21⟩ : ∃ j_ : Int, (wrap64 (x19_1 + (l1.length : Int))) = j_ := ⟨_, rfl⟩
       replace H : (if 0 ≤ (ji21) then (if (ji21) < (x5_2.length : Int) then (nat_Mul.l0 k2 l1 (x5_2.set ((ji21) : Int).toNat ((x8_2) % 4294967296)) l0 (l0.length : Int) (wrap64 (x19_1 + 1))) else (none)) else (none)) = some r := by first | (rw [hji21] at H; exact H) | (simp only [hji21] at H ⊢; exact H)
       have hji21w : (IntKind.i64.wrap (x19_1 + (l1.length : Int))) = ji21 := (i64_w _).trans hji21
       replace H := zn H
       obtain ⟨c22, H⟩ := H
       have c22b0 := decide_eq_true c22
       clear c22
       replace H := zn H
       obtain ⟨c23, H⟩ := H
       have c23b0 := decide_eq_true c23
       clear c23
       obtain ⟨y286, hy286⟩ : ∃ y_ : List Int, y_ = (x5_2.set ((ji21) : Int).toNat ((x8_2) % 4294967296)) := ⟨_, rfl⟩
       try rw [← hy286] at H
       have Ny286 := am hy286
       clear hy286
       have H' := am H
       clear H
       have p24 : 0 ≤ ((ji21) : Int) := zq6
       have q24 : ((ji21) : Int) < ((x5_2.length : Int) : Int) := zq6
       obtain ⟨go24, co24, eo24, gb24, gl24, cl24, HG24⟩ := Kd.R_form HO_5.out (by omega)
       (first | cases eo24 | (injection eo24 with ea_ en_ ec_; (first | subst ea_ | (injection ea_ with ea_; subst ea_)); subst ec_; clear en_))
       have GB24 := am gb24
       have GG24 := am HG24
       clear gb24 gl24 HG24
       obtain ⟨hx24_0, hf24_0⟩ := Kd.R_celln 0 HO_5.out ((ji21) : Int) p24 q24
       replace p24 := eq_true p24
       replace q24 := eq_true q24
       have HP25 := Kd.R_putg HO_5.out ((ji21) : Int) ((x8_2) % 4294967296)
       go_wp2_with (first | ((with_reducible refine gate_store (t := 55) (p := 63) rfl ?_); refine zstore (t := 55) (p := 63) (w1 := (wr.setCell ⟨go24, ((ji21) : Int).toNat, none⟩ (.int .u32 ((x8_2) % 4294967296)))) ?_; intro w26 hw; have hg : wr.grownBy w26 (some go24) := (by rw [hw]; exact HP25.2); have hp_ : Kd.R (Kd.int .u32) 55 w26 w.heap.size (fun k_ => (w.heap.size ≤ k_)) (.slice (some ⟨go24, 0, none⟩) x5_2.length co24) y286 := (by rw [hw, Ny286.out]; exact HP25.1); clear HP25; refine zt2 (hp_) ((by rw [hw]; exact below_set (HB.out) GB24.out : Below w.heap.size w w26)) ?_; clear HO_5 HB; intro HO_5 HB; clear hg hw hp_))
       go_roundg k2
       case measure => have := HK1.out; have := HK2.out; omega
       case rel => exact ⟨(y286), (wrap64 (x19_1 + 1)), zq8, (by first | exact H' | (rw [hji3]; exact H') | (rw [hji21]; exact H')), ⟨by have := HK1.out; have := HK2.out; omega⟩, ⟨zq4 HO_5.out⟩, ⟨zq1⟩⟩
   ·rw [if_neg c8] at H
    have c8b0 := decide_eq_false c8
    clear c8
    replace H := zj H
    obtain ⟨t279, A27, H⟩ := H
    obtain rfl := Option.some.inj H
    obtain ⟨Ao28, co28, eo28⟩ := Kd.R_slice HO_5.out
    subst eo28
    go_wp2_with (first | ((with_reducible refine gate_callee (f := 86) rfl ?_); refine goesL_ (some 66) rfl rfl Tryd.func86 (by kernel_rfl) rfl #[.slice Ao28 x5_1.length co28] rfl zq5 ?_; (with_reducible refine (nat_Trim.calls k1 (fun k_ => some k_ = (.slice Ao28 x5_1.length co28 : Value).ownBlock) _ _ x5_1 t279 _ ?side1 A27.out).mono ?_); (case side1 => exact Kd.R_V (Kd.R_tight rfl (HO_5.out))); rintro e w29 ⟨v280, rfl, ho0, hb⟩; refine ⟨_, rfl, ?_⟩; refine zt3 (rb HO_5 hb) (Kd.V_lower (Kd.V_mono (ok' := fun k_ => (w.heap.size ≤ k_)) ho0 (fun k_ hk_ => Or.elim hk_ (fun hs_ => ((HO_5.out).1 k_ hs_.symm)) (fun hn_ => (Nat.le_trans (below_size zq1) hn_)))) (below_size zq1)) (below_step zq1 hb) ?_; clear HO_5 HB; intro HO_5 HO281 HB))
    go_ret
    exact ⟨_, by first | rfl | (simp [errW_none, errW_some] <;> rfl) | (simp only [← hji3]; first | rfl | (simp [errW_none, errW_some] <;> rfl)) | (simp [*, errW_none, errW_some] <;> rfl), zq3 HO281.out, zq1⟩
mutual
def nat_plus.l0 : Nat → List Int → List Int → Int → Int → Int → Option (List Int)
 | 0, _, _, _, _, _ => none
 | k + 1, x1, x5, x6, x23, x24 => if x24 < x23 then (if 0 ≤ x24 then (if x24 < (x5.length : Int) then (if x24 < (x1.length : Int) then (nat_plus.l0 k x1 (x5.set (x24 : Int).toNat ((IntKind.u64.wrap ((IntKind.u64.wrap (x6 + (IntKind.u64.wrap (rd x5 x24)))) + (IntKind.u64.wrap (rd x1 x24)))) % 4294967296)) ((IntKind.u64.wrap ((IntKind.u64.wrap (x6 + (IntKind.u64.wrap (rd x5 x24)))) + (IntKind.u64.wrap (rd x1 x24)))) / 4294967296) x23 (wrap64 (x24 + 1))) else (nat_plus.l0 k x1 (x5.set (x24 : Int).toNat ((IntKind.u64.wrap (x6 + (IntKind.u64.wrap (rd x5 x24)))) % 4294967296)) ((IntKind.u64.wrap (x6 + (IntKind.u64.wrap (rd x5 x24)))) / 4294967296) x23 (wrap64 (x24 + 1)))) else (none)) else (none)) else ((nat_Trim.f k x5).bind fun t296 => (some t296))
def nat_plus.l1000 : Nat → List Int → List Int → Int → Int → Int → Option (List Int)
 | 0, _, _, _, _, _ => none
 | k + 1, x1, x5, x6, x23, x24 => if x24 < x23 then (if 0 ≤ x24 then (if x24 < (x5.length : Int) then (if x24 < (x1.length : Int) then (nat_plus.l1000 k x1 (x5.set (x24 : Int).toNat ((IntKind.u64.wrap ((IntKind.u64.wrap (x6 + (IntKind.u64.wrap (rd x5 x24)))) + (IntKind.u64.wrap (rd x1 x24)))) % 4294967296)) ((IntKind.u64.wrap ((IntKind.u64.wrap (x6 + (IntKind.u64.wrap (rd x5 x24)))) + (IntKind.u64.wrap (rd x1 x24)))) / 4294967296) x23 (wrap64 (x24 + 1))) else (nat_plus.l1000 k x1 (x5.set (x24 : Int).toNat ((IntKind.u64.wrap (x6 + (IntKind.u64.wrap (rd x5 x24)))) % 4294967296)) ((IntKind.u64.wrap (x6 + (IntKind.u64.wrap (rd x5 x24)))) / 4294967296) x23 (wrap64 (x24 + 1)))) else (none)) else (none)) else ((nat_Trim.f k x5).bind fun t308 => (some t308))
end
def nat_plus.f (k : Nat) (l0 : List Int) (l1 : List Int) : Option (List Int) := if (l0.length : Int) < (l1.length : Int) then (if 0 ≤ (wrap64 ((l1.length : Int) + 1)) then (if (wrap64 ((l1.length : Int) + 1) : Int).toNat ≤ 70368744177664 then ((some (List.replicate (wrap64 ((l1.length : Int) + 1) : Int).toNat 0 : List Int)).bind fun y287 => ((copy_e55.f y287 l1).bind fun bt290 => (nat_plus.l0 k l0 bt290.2 0 (y287.length : Int) 0))) else (none)) else (none)) else (if 0 ≤ (wrap64 ((l0.length : Int) + 1)) then (if (wrap64 ((l0.length : Int) + 1) : Int).toNat ≤ 70368744177664 then ((some (List.replicate (wrap64 ((l0.length : Int) + 1) : Int).toNat 0 : List Int)).bind fun y299 => ((copy_e55.f y299 l0).bind fun bt302 => (nat_plus.l1000 k l1 bt302.2 0 (y299.length : Int) 0))) else (none)) else (none))
theorem nat_plus.mono_l : ∀ k, (∀ y0 y1 y2 y3 y4, LeO (nat_plus.l0 k y0 y1 y2 y3 y4) (nat_plus.l0 (k + 1) y0 y1 y2 y3 y4)) ∧ (∀ y0 y1 y2 y3 y4, LeO (nat_plus.l1000 k y0 y1 y2 y3 y4) (nat_plus.l1000 (k + 1) y0 y1 y2 y3 y4))
 | 0 => ⟨fun _ _ _ _ _ r h => by simp [nat_plus.l0] at h, fun _ _ _ _ _ r h => by simp [nat_plus.l1000] at h⟩
 | k + 1 => by
  obtain ⟨ih0, ih1⟩ := nat_plus.mono_l k
  refine ⟨?_, ?_⟩
  ·intro y0 y1 y2 y3 y4
   unfold nat_plus.l0
   have m0 := ih0
   have m1 := ih1
   have m2 := @nat_Trim.mono
   exact zm
  ·intro y0 y1 y2 y3 y4
   unfold nat_plus.l1000
   have m0 := ih0
   have m1 := ih1
   have m2 := @nat_Trim.mono
   exact zm
theorem nat_plus.mono : ∀ a0 a1 k, LeO (nat_plus.f k a0 a1) (nat_plus.f (k + 1) a0 a1) := by
 intro a0 a1 k
 obtain ⟨ih0, ih1⟩ := nat_plus.mono_l k
 unfold nat_plus.f
 have m0 := ih0
 have m1 := ih1
 have m2 := @nat_Trim.mono
 exact zm
set_option maxHeartbeats 8000000 in
set_option maxRecDepth 100000 in
theorem nat_plus.calls (k : Nat) (A0 : Option Addr) (c0 : Nat) (l0 : List Int) (A1 : Option Addr) (c1 : Nat) (l1 : List Int) (r : List Int) (w : World) (hr0 : Kd.C (Kd.int .u32) w A0 l0.length l0) (hc0 : l0.length ≤ c0) (hr1 : Kd.C (Kd.int .u32) w A1 l1.length l1) (hc1 : l1.length ≤ c1) (h : nat_plus.f k l0 l1 = some r) :
  Calls Tryd.prog 105 #[.slice A0 l0.length c0, .slice A1 l1.length c1] w fun e w' => ∃ v0_ : Value, e = .returned (v0_) ∧ Kd.V (Kd.int .u32) 55 w' w.heap.size (fun k_ => (w.heap.size ≤ k_)) v0_ r ∧ Below w.heap.size w w' := by
 have HR0 := am hr0
 have HC0 := am hc0
 clear hr0 hc0
 have HR1 := am hr1
 have HC1 := am hc1
 clear hr1 hc1
 have HB := am (Below.refl w.heap.size w)
 have H := h
 unfold nat_plus.f at H
 clear h
 by_cases c3 : (l0.length : Int) < (l1.length : Int)
 ·rw [if_pos c3] at H
  have c3b0 := decide_eq_true c3
  have c3b1 : decide (l0.length < l1.length) = true := decide_eq_true (Int.ofNat_lt.mp c3)
  clear c3
  obtain ⟨ji4, hji4⟩ : ∃ j_ : Int, (wrap64 ((l1.length : Int) + 1)) = j_ := ⟨_, rfl⟩
  replace H : (if 0 ≤ (ji4) then (if (ji4 : Int).toNat ≤ 70368744177664 then ((some (List.replicate (ji4 : Int).toNat 0 : List Int)).bind fun y287 => ((copy_e55.f y287 l1).bind fun bt290 => (nat_plus.l0 k l0 bt290.2 0 (y287.length : Int) 0))) else (none)) else (none)) = some r := by first | (rw [hji4] at H; exact H) | (simp only [hji4] at H ⊢; exact H)
  have hji4w : (IntKind.i64.wrap ((l1.length : Int) + 1)) = ji4 := (i64_w _).trans hji4
  replace H := zn H
  obtain ⟨c5, H⟩ := H
  have c5b0 := eq_true c5
  have c5b1 := decide_eq_true c5
  clear c5
  replace H := zn H
  obtain ⟨c6, H⟩ := H
  have c6b0 := eq_true c6
  have c6b1 := decide_eq_true c6
  clear c6
  obtain ⟨y287, hy287⟩ : ∃ y_ : List Int, y_ = (List.replicate (ji4 : Int).toNat 0) := ⟨_, rfl⟩
  replace H : ((copy_e55.f y287 l1).bind fun bt290 => (nat_plus.l0 k l0 bt290.2 0 (y287.length : Int) 0)) = some r := by first | (rw [hy287]; with_reducible exact H) | (have H2_ := (Option.bind_some _ _).symm.trans H; rw [hy287]; with_reducible exact H2_) | (have H2_ := (Option.bind_some _ _).symm.trans H; with_reducible exact H2_) | with_reducible exact H | (rw [hy287]; exact H) | exact H
  have Ny287 := am hy287
  clear hy287
  replace H := zj H
  obtain ⟨⟨t290, t291⟩, A7, H⟩ := H
  replace H : (nat_plus.l0 k l0 t291 0 (y287.length : Int) 0) = some r := H
  have H' := am H
  clear H
  go_enter Tryd.func105, Tryd.ntmps105
  go_wp2_with (first | ((with_reducible refine gate_dst (N := 18) rfl ?_); refine Kd.R_make (Kd.int .u32) _ 55 rfl (N := 18) rfl 22 _ _ rfl ji4 rfl rfl Tryd.underlying22 (.int .u32 0) 4 info55 rfl (by decide) (by omega) 0 (ok := fun _ => True) (okp := fun _ => True) rfl (fun _ hk => hk) trivial zq6 (Nat.le_trans (Nat.mul_le_mul_right _ (zq6 : ji4.toNat ≤ 70368744177664)) (by omega)) (Below.refl _ _) (Nat.le_refl _) ?_; intro v288 w8 ho9 hb hg_ hnew_; clear hg_ hnew_; (first | rw [← Ny287.out] at ho9 | (simp only [Int.reduceToNat] at ho9; rw [← Ny287.out] at ho9)); refine zt2 (Kd.R_lower (Kd.R_newM (M := fun k_ => (w.heap.size ≤ k_)) ho9 (below_size zq1) (fun k_ h_ => h_)) (below_size zq1)) (below_step zq1 hb) ?_; clear HB; intro HO289 HB; clear hb ho9; obtain ⟨Ao10, co10, eo10⟩ := Kd.R_slice HO289.out; subst eo10) | ((with_reducible refine gate_builtin (b := .copy) rfl ?_); refine copyL_ (some 21) rfl rfl #[.slice Ao10 y287.length co10, .slice A1 l1.length c1] rfl zq5 ?_; (with_reducible refine (copy_e55.calls (fun k_ => some k_ = (.slice Ao10 y287.length co10 : Value).ownBlock) (.slice Ao10 y287.length co10) y287 _ _ l1 t290 t291 w _ ?side1 ?side2 ?side3 ?side4 A7.out).mono ?_); (case side1 => repeat (first | (with_reducible first | exact HB.out | apply below_alloc | apply pw_below_drewN | apply below_drew1) | exact HB.out)); (case side2 => exact Kd.R_tight rfl HO289.out); (case side3 => exact Kd.C_kept_came (Kd.heap_int .u32) HR1.out zq1 (fun k_ hs_ => (fun e_ => Kd.R_base HO289.out k_ e_.symm) hs_)); (case side4 => exact HC1.out); rintro e w11 ⟨rfl, hy0, hb, hkp⟩; refine ⟨_, rfl, ?_⟩; refine zt2 (Kd.R_reok rfl hy0 (fun k_ e_ => HO289.out.1 k_ e_)) (hb) ?_; clear HO289 HB; intro HO289 HB; (try clear hb); (try clear hkp); (try clear hy0)))
  go_loopg [6, 24] k (fun kq v6 v24 w' => ∃ (x5_1 : List Int) (x6_1 : Int) (x24_1 : Int), v6 = .int .u64 x6_1 ∧ v24 = .int .i64 x24_1 ∧ Aside0 (nat_plus.l0 kq l0 x5_1 x6_1 (y287.length : Int) x24_1 = some r) ∧ Aside0 (kq ≤ k) ∧ Aside0 (Kd.R (Kd.int .u32) 55 w' w.heap.size (fun k_ => (w.heap.size ≤ k_)) (.slice Ao10 y287.length co10) x5_1) ∧ Aside0 (Below w.heap.size w w'))
  case atStart => exact ⟨(t291), (0), (0), zq8, zq8, H', ⟨Nat.le_refl _⟩, ⟨zwR (h := by exact Kd.R_mono HO289.out (fun _ hk => hk.1))⟩, ⟨zq1⟩⟩
  case round =>
   clear H'
   obtain ⟨x5_1, x6_1, x24_1, rfl, rfl, HA, HK1, HO_5, HB⟩ := hrel
   have hl5_1 := (Kd.R_reads' HO_5.out).1
   rw [hl5_1] at HO_5
   (try simp only [hl5_1])
   cases gk with
   | zero => exact absurd HA.out (by simp [nat_plus.l0])
   | succ k1 =>
    have H := HA.out
    clear HA
    simp only [nat_plus.l0] at H
    by_cases c12 : x24_1 < (y287.length : Int)
    ·rw [if_pos c12] at H
     have c12b0 := decide_eq_true c12
     clear c12
     replace H := zn H
     obtain ⟨c13, H⟩ := H
     have c13b0 := decide_eq_true c13
     clear c13
     replace H := zn H
     obtain ⟨c14, H⟩ := H
     have c14b0 := decide_eq_true c14
     clear c14
     by_cases c15 : x24_1 < (l0.length : Int)
     ·rw [if_pos c15] at H
      have c15b0 := decide_eq_true c15
      clear c15
      obtain ⟨y294, hy294⟩ : ∃ y_ : List Int, y_ = (x5_1.set (x24_1 : Int).toNat ((IntKind.u64.wrap ((IntKind.u64.wrap (x6_1 + (IntKind.u64.wrap (rd x5_1 x24_1)))) + (IntKind.u64.wrap (rd l0 x24_1)))) % 4294967296)) := ⟨_, rfl⟩
      replace H : (nat_plus.l0 k1 l0 y294 ((IntKind.u64.wrap ((IntKind.u64.wrap (x6_1 + (IntKind.u64.wrap (rd x5_1 x24_1)))) + (IntKind.u64.wrap (rd l0 x24_1)))) / 4294967296) (y287.length : Int) (wrap64 (x24_1 + 1))) = some r := by first | (rw [hy294]; with_reducible exact H) | (have H2_ := (Option.bind_some _ _).symm.trans H; rw [hy294]; with_reducible exact H2_) | (have H2_ := (Option.bind_some _ _).symm.trans H; with_reducible exact H2_) | with_reducible exact H | (rw [hy294]; exact H) | exact H
      have Ny294 := am hy294
      clear hy294
      have H' := am H
      clear H
      have p292 : 0 ≤ (x24_1 : Int) := zq6
      have q292 : x24_1 < (x5_1.length : Int) := zq6
      obtain ⟨ad292, e292, hx292_0⟩ := Kd.at_int (Kd.R_reads' HO_5.out).2.2 x24_1 p292 q292
      cases e292
      replace p292 := eq_true p292
      replace q292 := eq_true q292
      have p293 : 0 ≤ (x24_1 : Int) := zq6
      have q293 : x24_1 < (l0.length : Int) := zq6
      obtain ⟨ad293, e293, hx293_0⟩ := Kd.at_int HR0.out x24_1 p293 q293
      cases e293
      replace hx293_0 := (HB.out.cell (World.block_lt_of_cell? w _ hx293_0)).trans hx293_0
      replace p293 := eq_true p293
      replace q293 := eq_true q293
      have p16 : 0 ≤ (x24_1 : Int) := zq6
      have q16 : (x24_1 : Int) < ((x5_1.length : Int) : Int) := zq6
      obtain ⟨go16, co16, eo16, gb16, gl16, cl16, HG16⟩ := Kd.R_form HO_5.out (by omega)
      (first | cases eo16 | (injection eo16 with ea_ en_ ec_; (first | subst ea_ | (injection ea_ with ea_; subst ea_)); subst ec_; clear en_))
      have GB16 := am gb16
      have GG16 := am HG16
      clear gb16 gl16 HG16
      (first | simp only [add_plain] at hx292_0 | skip)
      obtain ⟨hx16_0, hf16_0⟩ := Kd.R_celln 0 HO_5.out (x24_1 : Int) p16 q16
      replace p16 := eq_true p16
      replace q16 := eq_true q16
      have HP17 := Kd.R_putg HO_5.out (x24_1 : Int) ((IntKind.u64.wrap ((IntKind.u64.wrap (x6_1 + (IntKind.u64.wrap (rd x5_1 x24_1)))) + (IntKind.u64.wrap (rd l0 x24_1)))) % 4294967296)
      go_wp2_with (first | ((with_reducible refine gate_store (t := 55) (p := 49) rfl ?_); refine zstore (t := 55) (p := 49) (w1 := (wr.setCell ⟨go16, (x24_1 : Int).toNat, none⟩ (.int .u32 ((IntKind.u64.wrap ((IntKind.u64.wrap (x6_1 + (IntKind.u64.wrap (rd x5_1 x24_1)))) + (IntKind.u64.wrap (rd l0 x24_1)))) % 4294967296)))) ?_; intro w18 hw; have hg : wr.grownBy w18 (some go16) := (by rw [hw]; exact HP17.2); have hp_ : Kd.R (Kd.int .u32) 55 w18 w.heap.size (fun k_ => (w.heap.size ≤ k_)) (.slice (some ⟨go16, 0, none⟩) x5_1.length co10) y294 := (by rw [hw, Ny294.out]; exact HP17.1); clear HP17; refine zt2 (hp_) ((by rw [hw]; exact below_set (HB.out) GB16.out : Below w.heap.size w w18)) ?_; clear HO_5 HB; intro HO_5 HB; clear hg hw hp_))
      (try simp only [← hl5_1])
      go_roundg k1
      case measure => have := HK1.out; omega
      case rel => exact ⟨(y294), ((IntKind.u64.wrap ((IntKind.u64.wrap (x6_1 + (IntKind.u64.wrap (rd x5_1 x24_1)))) + (IntKind.u64.wrap (rd l0 x24_1)))) / 4294967296), (wrap64 (x24_1 + 1)), zq8, zq8, (by first | exact H' | (rw [hji4]; exact H')), ⟨by have := HK1.out; omega⟩, ⟨by (try simp only [hl5_1]); (with_reducible repeat (first | apply Kd.R_alloc | apply Kd.R_drewN | apply Kd.R_drew)); exact HO_5.out⟩, ⟨zq1⟩⟩
     ·rw [if_neg c15] at H
      have c15b0 := decide_eq_false c15
      (try (have c15b0x := c15b0; rw [hl5_1] at c15b0x))
      clear c15
      obtain ⟨y295, hy295⟩ : ∃ y_ : List Int, y_ = (x5_1.set (x24_1 : Int).toNat ((IntKind.u64.wrap (x6_1 + (IntKind.u64.wrap (rd x5_1 x24_1)))) % 4294967296)) := ⟨_, rfl⟩
      replace H : (nat_plus.l0 k1 l0 y295 ((IntKind.u64.wrap (x6_1 + (IntKind.u64.wrap (rd x5_1 x24_1)))) / 4294967296) (y287.length : Int) (wrap64 (x24_1 + 1))) = some r := by first | (rw [hy295]; with_reducible exact H) | (have H2_ := (Option.bind_some _ _).symm.trans H; rw [hy295]; with_reducible exact H2_) | (have H2_ := (Option.bind_some _ _).symm.trans H; with_reducible exact H2_) | with_reducible exact H | (rw [hy295]; exact H) | exact H
      have Ny295 := am hy295
      clear hy295
      have H' := am H
      clear H
      have p292 : 0 ≤ (x24_1 : Int) := zq6
      have q292 : x24_1 < (x5_1.length : Int) := zq6
      obtain ⟨ad292, e292, hx292_0⟩ := Kd.at_int (Kd.R_reads' HO_5.out).2.2 x24_1 p292 q292
      cases e292
      replace p292 := eq_true p292
      replace q292 := eq_true q292
      have p19 : 0 ≤ (x24_1 : Int) := zq6
      have q19 : (x24_1 : Int) < ((x5_1.length : Int) : Int) := zq6
      obtain ⟨go19, co19, eo19, gb19, gl19, cl19, HG19⟩ := Kd.R_form HO_5.out (by omega)
      (first | cases eo19 | (injection eo19 with ea_ en_ ec_; (first | subst ea_ | (injection ea_ with ea_; subst ea_)); subst ec_; clear en_))
      have GB19 := am gb19
      have GG19 := am HG19
      clear gb19 gl19 HG19
      (first | simp only [add_plain] at hx292_0 | skip)
      obtain ⟨hx19_0, hf19_0⟩ := Kd.R_celln 0 HO_5.out (x24_1 : Int) p19 q19
      replace p19 := eq_true p19
      replace q19 := eq_true q19
      have HP20 := Kd.R_putg HO_5.out (x24_1 : Int) ((IntKind.u64.wrap (x6_1 + (IntKind.u64.wrap (rd x5_1 x24_1)))) % 4294967296)
      go_wp2_with (first | ((with_reducible refine gate_store (t := 55) (p := 49) rfl ?_); refine zstore (t := 55) (p := 49) (w1 := (wr.setCell ⟨go19, (x24_1 : Int).toNat, none⟩ (.int .u32 ((IntKind.u64.wrap (x6_1 + (IntKind.u64.wrap (rd x5_1 x24_1)))) % 4294967296)))) ?_; intro w21 hw; have hg : wr.grownBy w21 (some go19) := (by rw [hw]; exact HP20.2); have hp_ : Kd.R (Kd.int .u32) 55 w21 w.heap.size (fun k_ => (w.heap.size ≤ k_)) (.slice (some ⟨go19, 0, none⟩) x5_1.length co10) y295 := (by rw [hw, Ny295.out]; exact HP20.1); clear HP20; refine zt2 (hp_) ((by rw [hw]; exact below_set (HB.out) GB19.out : Below w.heap.size w w21)) ?_; clear HO_5 HB; intro HO_5 HB; clear hg hw hp_))
      (try simp only [← hl5_1])
      go_roundg k1
      case measure => have := HK1.out; omega
      case rel => exact ⟨(y295), ((IntKind.u64.wrap (x6_1 + (IntKind.u64.wrap (rd x5_1 x24_1)))) / 4294967296), (wrap64 (x24_1 + 1)), zq8, zq8, (by first | exact H' | (rw [hji4]; exact H')), ⟨by have := HK1.out; omega⟩, ⟨by (try simp only [hl5_1]); (with_reducible repeat (first | apply Kd.R_alloc | apply Kd.R_drewN | apply Kd.R_drew)); exact HO_5.out⟩, ⟨zq1⟩⟩
    ·rw [if_neg c12] at H
     have c12b0 := decide_eq_false c12
     (try (have c12b0x := c12b0; rw [hl5_1] at c12b0x))
     clear c12
     replace H := zj H
     obtain ⟨t296, A22, H⟩ := H
     replace H : (some t296) = some r := H
     obtain rfl := Option.some.inj H
     go_wp2_with (first | ((with_reducible refine gate_callee (f := 86) rfl ?_); refine goesL_ (some 54) rfl rfl Tryd.func86 (by kernel_rfl) rfl #[.slice Ao10 x5_1.length co10] rfl zq5 ?_; (with_reducible refine (nat_Trim.calls k1 (fun k_ => some k_ = (.slice Ao10 x5_1.length co10 : Value).ownBlock) _ _ x5_1 t296 _ ?side1 A22.out).mono ?_); (case side1 => exact Kd.R_V (Kd.R_tight rfl (HO_5.out))); rintro e w23 ⟨v297, rfl, ho0, hb⟩; refine ⟨_, rfl, ?_⟩; refine zt3 (rb HO_5 hb) (Kd.V_lower (Kd.V_mono (ok' := fun k_ => (w.heap.size ≤ k_)) ho0 (fun k_ hk_ => Or.elim hk_ (fun hs_ => ((HO_5.out).1 k_ hs_.symm)) (fun hn_ => (Nat.le_trans (below_size zq1) hn_)))) (below_size zq1)) (below_step zq1 hb) ?_; clear HO_5 HB; intro HO_5 HO298 HB))
     go_ret
     exact ⟨_, by first | rfl | (simp [errW_none, errW_some] <;> rfl) | (simp only [← hji4]; first | rfl | (simp [errW_none, errW_some] <;> rfl)) | (simp [*, errW_none, errW_some] <;> rfl), zq3 HO298.out, zq1⟩
 ·rw [if_neg c3] at H
  have c3b0 := decide_eq_false c3
  have c3b1 : decide (l0.length < l1.length) = false := decide_eq_false (fun h => c3 (Int.ofNat_lt.mpr h))
  clear c3
  obtain ⟨ji24, hji24⟩ : ∃ j_ : Int, (wrap64 ((l0.length : Int) + 1)) = j_ := ⟨_, rfl⟩
  replace H : (if 0 ≤ (ji24) then (if (ji24 : Int).toNat ≤ 70368744177664 then ((some (List.replicate (ji24 : Int).toNat 0 : List Int)).bind fun y299 => ((copy_e55.f y299 l0).bind fun bt302 => (nat_plus.l1000 k l1 bt302.2 0 (y299.length : Int) 0))) else (none)) else (none)) = some r := by first | (rw [hji24] at H; exact H) | (simp only [hji24] at H ⊢; exact H)
  have hji24w : (IntKind.i64.wrap ((l0.length : Int) + 1)) = ji24 := (i64_w _).trans hji24
  replace H := zn H
  obtain ⟨c25, H⟩ := H
  have c25b0 := eq_true c25
  have c25b1 := decide_eq_true c25
  clear c25
  replace H := zn H
  obtain ⟨c26, H⟩ := H
  have c26b0 := eq_true c26
  have c26b1 := decide_eq_true c26
  clear c26
  obtain ⟨y299, hy299⟩ : ∃ y_ : List Int, y_ = (List.replicate (ji24 : Int).toNat 0) := ⟨_, rfl⟩
  replace H : ((copy_e55.f y299 l0).bind fun bt302 => (nat_plus.l1000 k l1 bt302.2 0 (y299.length : Int) 0)) = some r := by first | (rw [hy299]; with_reducible exact H) | (have H2_ := (Option.bind_some _ _).symm.trans H; rw [hy299]; with_reducible exact H2_) | (have H2_ := (Option.bind_some _ _).symm.trans H; with_reducible exact H2_) | with_reducible exact H | (rw [hy299]; exact H) | exact H
  have Ny299 := am hy299
  clear hy299
  replace H := zj H
  obtain ⟨⟨t302, t303⟩, A27, H⟩ := H
  replace H : (nat_plus.l1000 k l1 t303 0 (y299.length : Int) 0) = some r := H
  have H' := am H
  clear H
  go_enter Tryd.func105, Tryd.ntmps105
  go_wp2_with (first | ((with_reducible refine gate_dst (N := 18) rfl ?_); refine Kd.R_make (Kd.int .u32) _ 55 rfl (N := 18) rfl 22 _ _ rfl ji24 rfl rfl Tryd.underlying22 (.int .u32 0) 4 info55 rfl (by decide) (by omega) 0 (ok := fun _ => True) (okp := fun _ => True) rfl (fun _ hk => hk) trivial zq6 (Nat.le_trans (Nat.mul_le_mul_right _ (zq6 : ji24.toNat ≤ 70368744177664)) (by omega)) (Below.refl _ _) (Nat.le_refl _) ?_; intro v300 w28 ho29 hb hg_ hnew_; clear hg_ hnew_; (first | rw [← Ny299.out] at ho29 | (simp only [Int.reduceToNat] at ho29; rw [← Ny299.out] at ho29)); refine zt2 (Kd.R_lower (Kd.R_newM (M := fun k_ => (w.heap.size ≤ k_)) ho29 (below_size zq1) (fun k_ h_ => h_)) (below_size zq1)) (below_step zq1 hb) ?_; clear HB; intro HO301 HB; clear hb ho29; obtain ⟨Ao30, co30, eo30⟩ := Kd.R_slice HO301.out; subst eo30) | ((with_reducible refine gate_builtin (b := .copy) rfl ?_); refine copyL_ (some 21) rfl rfl #[.slice Ao30 y299.length co30, .slice A0 l0.length c0] rfl zq5 ?_; (with_reducible refine (copy_e55.calls (fun k_ => some k_ = (.slice Ao30 y299.length co30 : Value).ownBlock) (.slice Ao30 y299.length co30) y299 _ _ l0 t302 t303 w _ ?side1 ?side2 ?side3 ?side4 A27.out).mono ?_); (case side1 => repeat (first | (with_reducible first | exact HB.out | apply below_alloc | apply pw_below_drewN | apply below_drew1) | exact HB.out)); (case side2 => exact Kd.R_tight rfl HO301.out); (case side3 => exact Kd.C_kept_came (Kd.heap_int .u32) HR0.out zq1 (fun k_ hs_ => (fun e_ => Kd.R_base HO301.out k_ e_.symm) hs_)); (case side4 => exact HC0.out); rintro e w31 ⟨rfl, hy0, hb, hkp⟩; refine ⟨_, rfl, ?_⟩; refine zt2 (Kd.R_reok rfl hy0 (fun k_ e_ => HO301.out.1 k_ e_)) (hb) ?_; clear HO301 HB; intro HO301 HB; (try clear hb); (try clear hkp); (try clear hy0)))
  go_loopg [6, 24] k (fun kq v6 v24 w' => ∃ (x5_1 : List Int) (x6_1 : Int) (x24_1 : Int), v6 = .int .u64 x6_1 ∧ v24 = .int .i64 x24_1 ∧ Aside0 (nat_plus.l1000 kq l1 x5_1 x6_1 (y299.length : Int) x24_1 = some r) ∧ Aside0 (kq ≤ k) ∧ Aside0 (Kd.R (Kd.int .u32) 55 w' w.heap.size (fun k_ => (w.heap.size ≤ k_)) (.slice Ao30 y299.length co30) x5_1) ∧ Aside0 (Below w.heap.size w w'))
  case atStart => exact ⟨(t303), (0), (0), zq8, zq8, H', ⟨Nat.le_refl _⟩, ⟨zwR (h := by exact Kd.R_mono HO301.out (fun _ hk => hk.1))⟩, ⟨zq1⟩⟩
  case round =>
   clear H'
   obtain ⟨x5_1, x6_1, x24_1, rfl, rfl, HA, HK1, HO_5, HB⟩ := hrel
   have hl5_1 := (Kd.R_reads' HO_5.out).1
   rw [hl5_1] at HO_5
   (try simp only [hl5_1])
   cases gk with
   | zero => exact absurd HA.out (by simp [nat_plus.l1000])
   | succ k1 =>
    have H := HA.out
    clear HA
    simp only [nat_plus.l1000] at H
    by_cases c32 : x24_1 < (y299.length : Int)
    ·rw [if_pos c32] at H
     have c32b0 := decide_eq_true c32
     clear c32
     replace H := zn H
     obtain ⟨c33, H⟩ := H
     have c33b0 := decide_eq_true c33
     clear c33
     replace H := zn H
     obtain ⟨c34, H⟩ := H
     have c34b0 := decide_eq_true c34
     clear c34
     by_cases c35 : x24_1 < (l1.length : Int)
     ·rw [if_pos c35] at H
      have c35b0 := decide_eq_true c35
      clear c35
      obtain ⟨y306, hy306⟩ : ∃ y_ : List Int, y_ = (x5_1.set (x24_1 : Int).toNat ((IntKind.u64.wrap ((IntKind.u64.wrap (x6_1 + (IntKind.u64.wrap (rd x5_1 x24_1)))) + (IntKind.u64.wrap (rd l1 x24_1)))) % 4294967296)) := ⟨_, rfl⟩
      replace H : (nat_plus.l1000 k1 l1 y306 ((IntKind.u64.wrap ((IntKind.u64.wrap (x6_1 + (IntKind.u64.wrap (rd x5_1 x24_1)))) + (IntKind.u64.wrap (rd l1 x24_1)))) / 4294967296) (y299.length : Int) (wrap64 (x24_1 + 1))) = some r := by first | (rw [hy306]; with_reducible exact H) | (have H2_ := (Option.bind_some _ _).symm.trans H; rw [hy306]; with_reducible exact H2_) | (have H2_ := (Option.bind_some _ _).symm.trans H; with_reducible exact H2_) | with_reducible exact H | (rw [hy306]; exact H) | exact H
      have Ny306 := am hy306
      clear hy306
      have H' := am H
      clear H
      have p304 : 0 ≤ (x24_1 : Int) := zq6
      have q304 : x24_1 < (x5_1.length : Int) := zq6
      obtain ⟨ad304, e304, hx304_0⟩ := Kd.at_int (Kd.R_reads' HO_5.out).2.2 x24_1 p304 q304
      cases e304
      replace p304 := eq_true p304
      replace q304 := eq_true q304
      have p305 : 0 ≤ (x24_1 : Int) := zq6
      have q305 : x24_1 < (l1.length : Int) := zq6
      obtain ⟨ad305, e305, hx305_0⟩ := Kd.at_int HR1.out x24_1 p305 q305
      cases e305
      replace hx305_0 := (HB.out.cell (World.block_lt_of_cell? w _ hx305_0)).trans hx305_0
      replace p305 := eq_true p305
      replace q305 := eq_true q305
      have p36 : 0 ≤ (x24_1 : Int) := zq6
      have q36 : (x24_1 : Int) < ((x5_1.length : Int) : Int) := zq6
      obtain ⟨go36, co36, eo36, gb36, gl36, cl36, HG36⟩ := Kd.R_form HO_5.out (by omega)
      (first | cases eo36 | (injection eo36 with ea_ en_ ec_; (first | subst ea_ | (injection ea_ with ea_; subst ea_)); subst ec_; clear en_))
      have GB36 := am gb36
      have GG36 := am HG36
      clear gb36 gl36 HG36
      (first | simp only [add_plain] at hx304_0 | skip)
      obtain ⟨hx36_0, hf36_0⟩ := Kd.R_celln 0 HO_5.out (x24_1 : Int) p36 q36
      replace p36 := eq_true p36
      replace q36 := eq_true q36
      have HP37 := Kd.R_putg HO_5.out (x24_1 : Int) ((IntKind.u64.wrap ((IntKind.u64.wrap (x6_1 + (IntKind.u64.wrap (rd x5_1 x24_1)))) + (IntKind.u64.wrap (rd l1 x24_1)))) % 4294967296)
      go_wp2_with (first | ((with_reducible refine gate_store (t := 55) (p := 49) rfl ?_); refine zstore (t := 55) (p := 49) (w1 := (wr.setCell ⟨go36, (x24_1 : Int).toNat, none⟩ (.int .u32 ((IntKind.u64.wrap ((IntKind.u64.wrap (x6_1 + (IntKind.u64.wrap (rd x5_1 x24_1)))) + (IntKind.u64.wrap (rd l1 x24_1)))) % 4294967296)))) ?_; intro w38 hw; have hg : wr.grownBy w38 (some go36) := (by rw [hw]; exact HP37.2); have hp_ : Kd.R (Kd.int .u32) 55 w38 w.heap.size (fun k_ => (w.heap.size ≤ k_)) (.slice (some ⟨go36, 0, none⟩) x5_1.length co30) y306 := (by rw [hw, Ny306.out]; exact HP37.1); clear HP37; refine zt2 (hp_) ((by rw [hw]; exact below_set (HB.out) GB36.out : Below w.heap.size w w38)) ?_; clear HO_5 HB; intro HO_5 HB; clear hg hw hp_))
      (try simp only [← hl5_1])
      go_roundg k1
      case measure => have := HK1.out; omega
      case rel => exact ⟨(y306), ((IntKind.u64.wrap ((IntKind.u64.wrap (x6_1 + (IntKind.u64.wrap (rd x5_1 x24_1)))) + (IntKind.u64.wrap (rd l1 x24_1)))) / 4294967296), (wrap64 (x24_1 + 1)), zq8, zq8, (by first | exact H' | (rw [hji24]; exact H')), ⟨by have := HK1.out; omega⟩, ⟨by (try simp only [hl5_1]); (with_reducible repeat (first | apply Kd.R_alloc | apply Kd.R_drewN | apply Kd.R_drew)); exact HO_5.out⟩, ⟨zq1⟩⟩
     ·rw [if_neg c35] at H
      have c35b0 := decide_eq_false c35
      (try (have c35b0x := c35b0; rw [hl5_1] at c35b0x))
      clear c35
      obtain ⟨y307, hy307⟩ : ∃ y_ : List Int, y_ = (x5_1.set (x24_1 : Int).toNat ((IntKind.u64.wrap (x6_1 + (IntKind.u64.wrap (rd x5_1 x24_1)))) % 4294967296)) := ⟨_, rfl⟩
      replace H : (nat_plus.l1000 k1 l1 y307 ((IntKind.u64.wrap (x6_1 + (IntKind.u64.wrap (rd x5_1 x24_1)))) / 4294967296) (y299.length : Int) (wrap64 (x24_1 + 1))) = some r := by first | (rw [hy307]; with_reducible exact H) | (have H2_ := (Option.bind_some _ _).symm.trans H; rw [hy307]; with_reducible exact H2_) | (have H2_ := (Option.bind_some _ _).symm.trans H; with_reducible exact H2_) | with_reducible exact H | (rw [hy307]; exact H) | exact H
      have Ny307 := am hy307
      clear hy307
      have H' := am H
      clear H
      have p304 : 0 ≤ (x24_1 : Int) := zq6
      have q304 : x24_1 < (x5_1.length : Int) := zq6
      obtain ⟨ad304, e304, hx304_0⟩ := Kd.at_int (Kd.R_reads' HO_5.out).2.2 x24_1 p304 q304
      cases e304
      replace p304 := eq_true p304
      replace q304 := eq_true q304
      have p39 : 0 ≤ (x24_1 : Int) := zq6
      have q39 : (x24_1 : Int) < ((x5_1.length : Int) : Int) := zq6
      obtain ⟨go39, co39, eo39, gb39, gl39, cl39, HG39⟩ := Kd.R_form HO_5.out (by omega)
      (first | cases eo39 | (injection eo39 with ea_ en_ ec_; (first | subst ea_ | (injection ea_ with ea_; subst ea_)); subst ec_; clear en_))
      have GB39 := am gb39
      have GG39 := am HG39
      clear gb39 gl39 HG39
      (first | simp only [add_plain] at hx304_0 | skip)
      obtain ⟨hx39_0, hf39_0⟩ := Kd.R_celln 0 HO_5.out (x24_1 : Int) p39 q39
      replace p39 := eq_true p39
      replace q39 := eq_true q39
      have HP40 := Kd.R_putg HO_5.out (x24_1 : Int) ((IntKind.u64.wrap (x6_1 + (IntKind.u64.wrap (rd x5_1 x24_1)))) % 4294967296)
      go_wp2_with (first | ((with_reducible refine gate_store (t := 55) (p := 49) rfl ?_); refine zstore (t := 55) (p := 49) (w1 := (wr.setCell ⟨go39, (x24_1 : Int).toNat, none⟩ (.int .u32 ((IntKind.u64.wrap (x6_1 + (IntKind.u64.wrap (rd x5_1 x24_1)))) % 4294967296)))) ?_; intro w41 hw; have hg : wr.grownBy w41 (some go39) := (by rw [hw]; exact HP40.2); have hp_ : Kd.R (Kd.int .u32) 55 w41 w.heap.size (fun k_ => (w.heap.size ≤ k_)) (.slice (some ⟨go39, 0, none⟩) x5_1.length co30) y307 := (by rw [hw, Ny307.out]; exact HP40.1); clear HP40; refine zt2 (hp_) ((by rw [hw]; exact below_set (HB.out) GB39.out : Below w.heap.size w w41)) ?_; clear HO_5 HB; intro HO_5 HB; clear hg hw hp_))
      (try simp only [← hl5_1])
      go_roundg k1
      case measure => have := HK1.out; omega
      case rel => exact ⟨(y307), ((IntKind.u64.wrap (x6_1 + (IntKind.u64.wrap (rd x5_1 x24_1)))) / 4294967296), (wrap64 (x24_1 + 1)), zq8, zq8, (by first | exact H' | (rw [hji24]; exact H')), ⟨by have := HK1.out; omega⟩, ⟨by (try simp only [hl5_1]); (with_reducible repeat (first | apply Kd.R_alloc | apply Kd.R_drewN | apply Kd.R_drew)); exact HO_5.out⟩, ⟨zq1⟩⟩
    ·rw [if_neg c32] at H
     have c32b0 := decide_eq_false c32
     (try (have c32b0x := c32b0; rw [hl5_1] at c32b0x))
     clear c32
     replace H := zj H
     obtain ⟨t308, A42, H⟩ := H
     replace H : (some t308) = some r := H
     obtain rfl := Option.some.inj H
     go_wp2_with (first | ((with_reducible refine gate_callee (f := 86) rfl ?_); refine goesL_ (some 54) rfl rfl Tryd.func86 (by kernel_rfl) rfl #[.slice Ao30 x5_1.length co30] rfl zq5 ?_; (with_reducible refine (nat_Trim.calls k1 (fun k_ => some k_ = (.slice Ao30 x5_1.length co30 : Value).ownBlock) _ _ x5_1 t308 _ ?side1 A42.out).mono ?_); (case side1 => exact Kd.R_V (Kd.R_tight rfl (HO_5.out))); rintro e w43 ⟨v309, rfl, ho0, hb⟩; refine ⟨_, rfl, ?_⟩; refine zt3 (rb HO_5 hb) (Kd.V_lower (Kd.V_mono (ok' := fun k_ => (w.heap.size ≤ k_)) ho0 (fun k_ hk_ => Or.elim hk_ (fun hs_ => ((HO_5.out).1 k_ hs_.symm)) (fun hn_ => (Nat.le_trans (below_size zq1) hn_)))) (below_size zq1)) (below_step zq1 hb) ?_; clear HO_5 HB; intro HO_5 HO310 HB))
     go_ret
     exact ⟨_, by first | rfl | (simp [errW_none, errW_some] <;> rfl) | (simp only [← hji24]; first | rfl | (simp [errW_none, errW_some] <;> rfl)) | (simp [*, errW_none, errW_some] <;> rfl), zq3 HO310.out, zq1⟩
mutual
def nat_FromDecimal.l0 : Nat → ByteArray → List Int → Option (List Int)
 | 0, _, _ => none
 | k + 1, x0, x3 => if (x0.size : Int) > 0 then (nat_FromDecimal.l1 k x0 x3 (wrap64 ((Int.tmod (wrap64 ((x0.size : Int) - 1)) 9) + 1)) 0 1 (wrap64 ((Int.tmod (wrap64 ((x0.size : Int) - 1)) 9) + 1)) 0) else (some x3)
def nat_FromDecimal.l1 : Nat → ByteArray → List Int → Int → Int → Int → Int → Int → Option (List Int)
 | 0, _, _, _, _, _, _, _ => none
 | k + 1, x0, x3, x4, x5, x6, x16, x17 => if x17 < x16 then (if 0 ≤ x17 then (if x17 < (x0.size : Int) then (nat_FromDecimal.l1 k x0 x3 x4 (IntKind.u64.wrap ((IntKind.u64.wrap (x5 * 10)) + (((bt x0 x17) - 48) % 256))) (IntKind.u64.wrap (x6 * 10)) x16 (wrap64 (x17 + 1))) else (none)) else (none)) else ((nat_Of.f k x6).bind fun t311 => ((nat_Mul.f k x3 t311).bind fun t314 => ((nat_Of.f k x5).bind fun t317 => ((nat_plus.f k t314 t317).bind fun t320 => (if 0 ≤ x4 then (if x4 ≤ (x0.size : Int) then (nat_FromDecimal.l0 k (x0.extract (x4 : Int).toNat x0.size) t320) else (none)) else (none))))))
end
def nat_FromDecimal.f (k : Nat) (a0 : ByteArray) : Option (List Int) := nat_FromDecimal.l0 k a0 ([] : List Int)
theorem nat_FromDecimal.mono_l : ∀ k, (∀ y0 y1, LeO (nat_FromDecimal.l0 k y0 y1) (nat_FromDecimal.l0 (k + 1) y0 y1)) ∧ (∀ y0 y1 y2 y3 y4 y5 y6, LeO (nat_FromDecimal.l1 k y0 y1 y2 y3 y4 y5 y6) (nat_FromDecimal.l1 (k + 1) y0 y1 y2 y3 y4 y5 y6))
 | 0 => ⟨fun _ _ r h => by simp [nat_FromDecimal.l0] at h, fun _ _ _ _ _ _ _ r h => by simp [nat_FromDecimal.l1] at h⟩
 | k + 1 => by
  obtain ⟨ih0, ih1⟩ := nat_FromDecimal.mono_l k
  refine ⟨?_, ?_⟩
  ·intro y0 y1
   unfold nat_FromDecimal.l0
   have m0 := ih0
   have m1 := ih1
   have m2 := @nat_Mul.mono
   have m3 := @nat_Of.mono
   have m4 := @nat_plus.mono
   exact zm
  ·intro y0 y1 y2 y3 y4 y5 y6
   unfold nat_FromDecimal.l1
   have m0 := ih0
   have m1 := ih1
   have m2 := @nat_Mul.mono
   have m3 := @nat_Of.mono
   have m4 := @nat_plus.mono
   exact zm
theorem nat_FromDecimal.mono : ∀ a0 k, LeO (nat_FromDecimal.f k a0) (nat_FromDecimal.f (k + 1) a0) := by
 intro a0 k
 obtain ⟨ih0, ih1⟩ := nat_FromDecimal.mono_l k
 unfold nat_FromDecimal.f
 have m0 := ih0
 have m1 := ih1
 have m2 := @nat_Mul.mono
 have m3 := @nat_Of.mono
 have m4 := @nat_plus.mono
 exact zm
set_option maxHeartbeats 8000000 in
set_option maxRecDepth 100000 in
theorem nat_FromDecimal.calls (k : Nat) (a0 : ByteArray) (r : List Int) (w : World) (h : nat_FromDecimal.f k a0 = some r) :
  Calls Tryd.prog 53 #[.string a0] w fun e w' => ∃ v0_ : Value, e = .returned (v0_) ∧ Kd.V (Kd.int .u32) 55 w' w.heap.size (fun k_ => (w.heap.size ≤ k_)) v0_ r ∧ Below w.heap.size w w' := by
 have HB := am (Below.refl w.heap.size w)
 have H := h
 unfold nat_FromDecimal.f at H
 clear h
 have H' := am H
 clear H
 go_enter Tryd.func53, Tryd.ntmps53
 go_wp2
 go_loopg [0, 3] k (fun kq v0 v3 w' => ∃ (x0_1 : ByteArray) (x3_1 : List Int), v0 = .string x0_1 ∧ Aside0 (nat_FromDecimal.l0 kq x0_1 x3_1 = some r) ∧ Aside0 (kq ≤ k) ∧ Aside0 (Kd.V (Kd.int .u32) 55 w' w.heap.size (fun k_ => (w.heap.size ≤ k_)) v3 x3_1) ∧ Aside0 (Below w.heap.size w w'))
 case atStart => exact ⟨(a0), (([] : List Int)), zq8, H', ⟨Nat.le_refl _⟩, ⟨Kd.V_nil _ _ _ _ _⟩, ⟨zq1⟩⟩
 case round =>
  clear H'
  obtain ⟨x0_1, x3_1, rfl, HA, HK1, HO_3, HB⟩ := hrel
  cases gk with
  | zero => exact absurd HA.out (by simp [nat_FromDecimal.l0])
  | succ k1 =>
   have H := HA.out
   clear HA
   simp only [nat_FromDecimal.l0] at H
   by_cases c2 : (x0_1.size : Int) > 0
   ·rw [if_pos c2] at H
    have c2b0 : decide (0 < (x0_1.size : Int)) = true := decide_eq_true c2
    have c2b1 : decide (0 < x0_1.size) = true := decide_eq_true (by omega)
    clear c2
    have H' := am H
    clear H
    go_wp2
    go_loopg [5, 6, 17] k1 (fun kq v5 v6 v17 w' => ∃ (x5_2 : Int) (x6_2 : Int) (x17_2 : Int), v5 = .int .u64 x5_2 ∧ v6 = .int .u64 x6_2 ∧ v17 = .int .i64 x17_2 ∧ Aside0 (nat_FromDecimal.l1 kq x0_1 x3_1 (wrap64 ((Int.tmod (wrap64 ((x0_1.size : Int) - 1)) 9) + 1)) x5_2 x6_2 (wrap64 ((Int.tmod (wrap64 ((x0_1.size : Int) - 1)) 9) + 1)) x17_2 = some r) ∧ Aside0 (kq ≤ k1) ∧ Aside0 (Kd.V (Kd.int .u32) 55 w' w.heap.size (fun k_ => (w.heap.size ≤ k_)) u3 x3_1) ∧ Aside0 (Below w.heap.size w w'))
    case atStart => exact ⟨(0), (1), (0), zq8, zq8, zq8, H', ⟨Nat.le_refl _⟩, ⟨zq3 HO_3.out⟩, ⟨zq1⟩⟩
    case round =>
     clear H'
     obtain ⟨x5_2, x6_2, x17_2, rfl, rfl, rfl, HA, HK2, HO_3, HB⟩ := hrel
     cases gk with
     | zero => exact absurd HA.out (by simp [nat_FromDecimal.l1])
     | succ k2 =>
      have H := HA.out
      clear HA
      simp only [nat_FromDecimal.l1] at H
      by_cases c3 : x17_2 < (wrap64 ((Int.tmod (wrap64 ((x0_1.size : Int) - 1)) 9) + 1))
      ·rw [if_pos c3] at H
       have c3b0 := decide_eq_true c3
       clear c3
       replace H := zn H
       obtain ⟨c4, H⟩ := H
       have c4b0 := decide_eq_true c4
       clear c4
       replace H := zn H
       obtain ⟨c5, H⟩ := H
       have c5b0 := decide_eq_true c5
       clear c5
       have H' := am H
       clear H
       have p6 : 0 ≤ (x17_2 : Int) := zq6
       have q6 : x17_2 < (x0_1.size : Int) := zq6
       have hx6 := bt_at x0_1 x17_2
       replace p6 := eq_true p6
       replace q6 := eq_true q6
       go_wp2
       go_roundg k2
       case measure => have := HK1.out; have := HK2.out; omega
       case rel => exact ⟨(IntKind.u64.wrap ((IntKind.u64.wrap (x5_2 * 10)) + (((bt x0_1 x17_2) - 48) % 256))), (IntKind.u64.wrap (x6_2 * 10)), (wrap64 (x17_2 + 1)), zq8, zq8, zq8, H', ⟨by have := HK1.out; have := HK2.out; omega⟩, ⟨zq3 HO_3.out⟩, ⟨zq1⟩⟩
      ·rw [if_neg c3] at H
       have c3b0 := decide_eq_false c3
       clear c3
       replace H := zj H
       obtain ⟨t311, A7, H⟩ := H
       replace H := zj H
       obtain ⟨t314, A8, H⟩ := H
       replace H := zj H
       obtain ⟨t317, A9, H⟩ := H
       replace H := zj H
       obtain ⟨t320, A10, H⟩ := H
       obtain ⟨ji11, hji11⟩ : ∃ j_ : Int, (wrap64 ((Int.tmod (wrap64 ((x0_1.size : Int) - 1)) 9) + 1)) = j_ := ⟨_, rfl⟩
       replace H : (if 0 ≤ (ji11) then (if (ji11) ≤ (x0_1.size : Int) then (nat_FromDecimal.l0 k2 (x0_1.extract ((ji11) : Int).toNat x0_1.size) t320) else (none)) else (none)) = some r := by first | (rw [hji11] at H; exact H) | (simp only [hji11] at H ⊢; exact H)
       (try rw [hji11] at c3b0)
       (try rw [hji11] at A7)
       (try rw [hji11] at A8)
       (try rw [hji11] at A9)
       (try rw [hji11] at A10)
       have hji11w : (IntKind.i64.wrap ((Int.tmod (wrap64 ((x0_1.size : Int) - 1)) 9) + 1)) = ji11 := (i64_w _).trans hji11
       replace H := zn H
       obtain ⟨c12, H⟩ := H
       have c12b0 := eq_true c12
       have c12b1 := decide_eq_true c12
       clear c12
       replace H := zn H
       obtain ⟨c13, H⟩ := H
       have c13b0 := eq_true c13
       have c13b1 := decide_eq_true c13
       clear c13
       have H' := am H
       clear H
       go_wp2_with (first | ((with_reducible refine gate_callee (f := 79) rfl ?_); refine goesL_ (some 33) rfl rfl Tryd.func79 (by kernel_rfl) rfl #[.int .u64 x6_2] rfl zq5 ?_; (with_reducible refine (nat_Of.calls k2 x6_2 t311 _ A7.out).mono ?_); rintro e w14 ⟨v312, rfl, ho0, hb⟩; refine ⟨_, rfl, ?_⟩; refine zt3 (vb HO_3 hb) (Kd.V_lower (Kd.V_mono (ok' := fun k_ => (w.heap.size ≤ k_)) ho0 (fun k_ hk_ => (Nat.le_trans (below_size zq1) hk_))) (below_size zq1)) (below_step zq1 hb) ?_; clear HO_3 HB; intro HO_3 HO313 HB; obtain ⟨Ao15, co15, eo15⟩ := Kd.V_slice HO_3.out; subst eo15; obtain ⟨Ao16, co16, eo16⟩ := Kd.V_slice HO313.out; subst eo16) | ((with_reducible refine gate_callee (f := 77) rfl ?_); refine goesL_ (some 34) rfl rfl Tryd.func77 (by kernel_rfl) rfl #[.slice Ao15 x3_1.length co15, .slice Ao16 t311.length co16] rfl zq5 ?_; (with_reducible refine (nat_Mul.calls k2 _ _ x3_1 _ _ t311 t314 _ ?side1 ?side2 ?side3 ?side4 A8.out).mono ?_); (case side1 => exact zc ((Kd.V_reads' HO_3.out).2.2)); (case side2 => exact (Kd.V_reads' HO_3.out).2.1); (case side3 => exact zc ((Kd.V_reads' HO313.out).2.2)); (case side4 => exact (Kd.V_reads' HO313.out).2.1); rintro e w17 ⟨v315, rfl, ho0, hb⟩; refine ⟨_, rfl, ?_⟩; refine zt4 (vb HO_3 hb) (vb HO313 hb) (Kd.V_lower (Kd.V_mono (ok' := fun k_ => (w.heap.size ≤ k_)) ho0 (fun k_ hk_ => (Nat.le_trans (below_size zq1) hk_))) (below_size zq1)) (below_step zq1 hb) ?_; clear HO_3 HO313 HB; intro HO_3 HO313 HO316 HB) | ((with_reducible refine gate_callee (f := 79) rfl ?_); refine goesL_ (some 36) rfl rfl Tryd.func79 (by kernel_rfl) rfl #[.int .u64 x5_2] rfl zq5 ?_; (with_reducible refine (nat_Of.calls k2 x5_2 t317 _ A9.out).mono ?_); rintro e w18 ⟨v318, rfl, ho0, hb⟩; refine ⟨_, rfl, ?_⟩; refine zt5 (vb HO_3 hb) (vb HO313 hb) (vb HO316 hb) (Kd.V_lower (Kd.V_mono (ok' := fun k_ => (w.heap.size ≤ k_)) ho0 (fun k_ hk_ => (Nat.le_trans (below_size zq1) hk_))) (below_size zq1)) (below_step zq1 hb) ?_; clear HO_3 HO313 HO316 HB; intro HO_3 HO313 HO316 HO319 HB; obtain ⟨Ao19, co19, eo19⟩ := Kd.V_slice HO316.out; subst eo19; obtain ⟨Ao20, co20, eo20⟩ := Kd.V_slice HO319.out; subst eo20) | ((with_reducible refine gate_callee (f := 105) rfl ?_); refine goesL_ (some 37) rfl rfl Tryd.func105 (by kernel_rfl) rfl #[.slice Ao19 t314.length co19, .slice Ao20 t317.length co20] rfl zq5 ?_; (with_reducible refine (nat_plus.calls k2 _ _ t314 _ _ t317 t320 _ ?side1 ?side2 ?side3 ?side4 A10.out).mono ?_); (case side1 => exact zc ((Kd.V_reads' HO316.out).2.2)); (case side2 => exact (Kd.V_reads' HO316.out).2.1); (case side3 => exact zc ((Kd.V_reads' HO319.out).2.2)); (case side4 => exact (Kd.V_reads' HO319.out).2.1); rintro e w21 ⟨v321, rfl, ho0, hb⟩; refine ⟨_, rfl, ?_⟩; refine zt6 (vb HO_3 hb) (vb HO313 hb) (vb HO316 hb) (vb HO319 hb) (Kd.V_lower (Kd.V_mono (ok' := fun k_ => (w.heap.size ≤ k_)) ho0 (fun k_ hk_ => (Nat.le_trans (below_size zq1) hk_))) (below_size zq1)) (below_step zq1 hb) ?_; clear HO_3 HO313 HO316 HO319 HB; intro HO_3 HO313 HO316 HO319 HO322 HB))
       go_roundg k2
       case measure => have := HK1.out; have := HK2.out; omega
       case rel => exact ⟨(x0_1.extract ((ji11) : Int).toNat x0_1.size), (t320), (by first | rfl | (simp; done) | (simp only [← hji11] <;> (first | rfl | simp)) | (simp [*]; done)), (by first | exact H' | (rw [hji11]; exact H')), ⟨by have := HK1.out; have := HK2.out; omega⟩, ⟨zq3 HO322.out⟩, ⟨zq1⟩⟩
   ·rw [if_neg c2] at H
    have c2b0 : decide (0 < (x0_1.size : Int)) = false := decide_eq_false c2
    have c2b1 : decide (0 < x0_1.size) = false := decide_eq_false (by omega)
    clear c2
    obtain rfl := Option.some.inj H
    go_wp2
    go_ret
    exact ⟨_, zq9, zq3 HO_3.out, zq1⟩
end Go.Proofs.YtemnjgkicndmjaaDoor.Q

namespace Go.Proofs.YtemnjgkicndmjaaDoor.Q
open Go.RowKit Go.Proofs.YtemnjgkicndmjaaDoorW.PrintWords Go.Proofs.YtemnjgkicndmjaaDoorW.PrintLast Go.Proofs.YtemnjgkicndmjaaDoorW.PrintMore
attribute [local go_sem] max2_int min2_int max_two min_two max_three min_three max_four min_four
set_option linter.unusedVariables false
set_option linter.unusedSimpArgs false
def number_raw.f (k : Nat) (a0 : Bool) (l1 : List Int) (l2 : List Int) : Option (Bool × List Int × List Int) := if (l1.length : Int) = 0 then (some (false, ([] : List Int), (([1] : List Int)))) else ((nat_IsOne.f l2).bind fun t327 => (if t327 = true then ((slices_Clone_uint32_uint32.f l1).bind fun t328 => ((slices_Clone_uint32_uint32.f l2).bind fun t331 => (some (a0, t328, t331)))) else ((nat_Gcd.f k l1 l2).bind fun t334 => ((nat_IsOne.f t334).bind fun t337 => (if t337 = true then ((slices_Clone_uint32_uint32.f l1).bind fun t338 => ((slices_Clone_uint32_uint32.f l2).bind fun t341 => (some (a0, t338, t341)))) else ((nat_DivMod.f k l1 t334).bind fun bt344 => ((nat_DivMod.f k l2 t334).bind fun bt350 => ((slices_Clone_uint32_uint32.f bt344.1).bind fun t356 => ((slices_Clone_uint32_uint32.f bt350.1).bind fun t359 => (some (a0, t356, t359)))))))))))
theorem number_raw.mono : ∀ a0 a1 a2 k, LeO (number_raw.f k a0 a1 a2) (number_raw.f (k + 1) a0 a1 a2) := by
 intro a0 a1 a2 k
 unfold number_raw.f
 have m0 := @nat_DivMod.mono
 have m1 := @nat_Gcd.mono
 exact zm
set_option maxHeartbeats 8000000 in
set_option maxRecDepth 100000 in
theorem number_raw.calls (k : Nat) (a0 : Bool) (A1 : Option Addr) (c1 : Nat) (l1 : List Int) (A2 : Option Addr) (c2 : Nat) (l2 : List Int) (r1 : Bool) (r2 : List Int) (r3 : List Int) (w : World) (hr1 : Kd.C (Kd.int .u32) w A1 l1.length l1) (hc1 : l1.length ≤ c1) (hr2 : Kd.C (Kd.int .u32) w A2 l2.length l2) (hc2 : l2.length ≤ c2) (h : number_raw.f k a0 l1 l2 = some (r1, r2, r3)) :
  Calls Tryd.prog 78 #[.bool a0, .slice A1 l1.length c1, .slice A2 l2.length c2] w fun e w' => ∃ v1_ v2_ : Value, e = .returned (.agg #[.bool r1, v1_, v2_]) ∧ Kd.R (Kd.int .u32) 55 w' w.heap.size (fun k_ => some k_ ≠ (v2_ : Value).ownBlock) v1_ r2 ∧ Kd.R (Kd.int .u32) 55 w' w.heap.size (fun k_ => some k_ ≠ (v1_ : Value).ownBlock) v2_ r3 ∧ Below w.heap.size w w' := by
 have hu24 := Tryd.underlying24
 have HR1 := am hr1
 have HC1 := am hc1
 clear hr1 hc1
 have HR2 := am hr2
 have HC2 := am hc2
 clear hr2 hc2
 have HB := am (Below.refl w.heap.size w)
 have H := h
 unfold number_raw.f at H
 clear h
 by_cases c4 : (l1.length : Int) = 0
 ·rw [if_pos c4] at H
  have c4b0 : ((l1.length : Int) == 0) = true := beq_iff_eq.mpr c4
  have c4b1 : ((l1.length : Int) != 0) = false := bne_eq_false_iff_eq.mpr c4
  clear c4
  obtain ⟨y324, hy324⟩ : ∃ y_ : List Int, y_ = (([1] : List Int)) := ⟨_, rfl⟩
  try rw [← hy324] at H
  have Ny324 := am hy324
  clear hy324
  simp only [Option.some.injEq, Prod.mk.injEq] at H
  obtain ⟨rfl, rfl, rfl⟩ := H
  go_enter Tryd.func78, Tryd.ntmps78
  go_wp2_with (first | ((with_reducible refine gate_dst (N := 6) rfl ?_); refine zbox (N := 6) (cs := #[.bool false, .slice none 0 0, .slice none 0 0]) (t := 24) ?_; intro gb323 hg w5 hbox hb; refine zt3 (below_step zq1 hb) (hbox) ((zs hg (below_size zq1) : w.heap.size ≤ gb323)) ?_; clear HB; intro HB BK323 GW323; have GE323 := GW323; clear hb hbox hg) | ((with_reducible refine gate_dst (N := 11) rfl ?_); refine Kd.R_lit (Kd.int .u32) _ 55 ?hg (N := 11) ?hd (xs := ([1] : List Int)) (inner := [.int .u32 1]) (ok := fun _ => True) (okp := fun _ => True) ?hr ?hp (fun _ hk => hk) trivial (Below.refl _ _) (Nat.le_refl _) (by simp) ?_; (case hd => rfl); (case hg => rfl); (case hr => exact zr); (case hp => exact (Reps.one (show Kd.M (Kd.int .u32) _ _ _ 1 [.int .u32 1] from rfl) (Reps.none _ _))); intro v325 w6 ho7 hb hg_ hnew_; clear hg_ hnew_; (first | rw [← Ny324.out] at ho7 | (simp only [Int.reduceToNat] at ho7; rw [← Ny324.out] at ho7)); refine zt3 (Kd.R_lower ho7 (below_size (zb1 GE323.out))) (bb BK323.out hb) (below_step (zb1 GE323.out) hb) ?_; clear BK323 HB; intro HO326 BK323 HB; clear hb ho7; obtain ⟨Ao8, co8, eo8⟩ := Kd.R_slice HO326.out; subst eo8; have hcz9_0 := bc BK323.out 0 (.bool false); have hcz9_1 := bc BK323.out 1 (.slice none 0 0); have hcz9_2 := bc BK323.out 2 (.slice none 0 0); have hfz9_0 := blk_frozen BK323.out 0; have hfz9_1 := blk_frozen BK323.out 1; have hfz9_2 := blk_frozen BK323.out 2))
  refine bodyPost_ret (results_cell_row rfl _ _ gb323 24 #[.bool false, .slice none 0 0, .slice Ao8 y324.length co8] (0, 0) _ rfl (by (with_reducible repeat (first | refine blk_drewN ?_ _ | refine blk_drew ?_ | refine blk_alloc ?_ _)); refine blk_put (cs := #[.bool false, .slice none 0 0, .slice none 0 0]) ?_ 2 _ rfl; (with_reducible repeat (first | refine blk_drewN ?_ _ | refine blk_drew ?_ | refine blk_alloc ?_ _)); refine blk_put (cs := #[.bool false, .slice none 0 0, .slice none 0 0]) ?_ 1 _ rfl; (with_reducible repeat (first | refine blk_drewN ?_ _ | refine blk_drew ?_ | refine blk_alloc ?_ _)); refine blk_put (cs := #[.bool false, .slice none 0 0, .slice none 0 0]) ?_ 0 _ rfl; (with_reducible repeat (first | refine blk_drewN ?_ _ | refine blk_drew ?_ | refine blk_alloc ?_ _)); exact BK323.out) Tryd.underlying24 rfl (by kernel_rfl)) rfl ?_
  exact ⟨_, _, zq9, by first | exact Kd.R_nil _ _ _ _ _ | exact Kd.N_nil _ _ _ _ _ | exact Kd.V_nil _ _ _ _ _ | exact Kd.Q_nil _ _ _ _ _ | exact Kd.S_nil _ _ _ _ _, zwR (h := by exact Kd.R_mono (Kd.R_far (p := ⟨gb323, 2, none⟩) (Kd.R_far (p := ⟨gb323, 1, none⟩) (Kd.R_far (p := ⟨gb323, 0, none⟩) (Kd.R_types HO326.out BK323.out (by decide)) (fun _ hk => hk.2) (.bool false)) (fun _ hk => hk.2) (.slice none 0 0)) (fun _ hk => hk.2) (.slice Ao8 y324.length co8)) (fun _ hk => (by simp [Value.ownBlock]))), zb1 GE323.out⟩
 ·rw [if_neg c4] at H
  have c4b0 : ((l1.length : Int) == 0) = false := beq_eq_false_iff_ne.mpr c4
  have c4b1 : ((l1.length : Int) != 0) = true := bne_iff_ne.mpr c4
  have c4b2 : ¬ (l1 = []) := fun h_ => c4 (by rw [h_]; rfl)
  replace H := zj H
  obtain ⟨t327, A10, H⟩ := H
  by_cases c11 : t327 = true
  ·subst c11
   have H1 : ((slices_Clone_uint32_uint32.f l1).bind fun t328 => ((slices_Clone_uint32_uint32.f l2).bind fun t331 => (some (a0, t328, t331)))) = some (r1, r2, r3) := by rw [if_pos rfl] at H; exact H
   clear H
   have H := H1
   clear H1
   replace H := zj H
   obtain ⟨t328, A12, H⟩ := H
   replace H := zj H
   obtain ⟨t331, A13, H⟩ := H
   simp only [Option.some.injEq, Prod.mk.injEq] at H
   obtain ⟨rfl, rfl, rfl⟩ := H
   go_enter Tryd.func78, Tryd.ntmps78
   go_wp2_with (first | ((with_reducible refine gate_dst (N := 6) rfl ?_); refine zbox (N := 6) (cs := #[.bool false, .slice none 0 0, .slice none 0 0]) (t := 24) ?_; intro gb323 hg w14 hbox hb; refine zt3 (below_step zq1 hb) (hbox) ((zs hg (below_size zq1) : w.heap.size ≤ gb323)) ?_; clear HB; intro HB BK323 GW323; have GE323 := GW323; clear hb hbox hg) | ((with_reducible refine gate_callee (f := 43) rfl ?_); refine goesL_ (some 14) rfl rfl Tryd.func43 (by kernel_rfl) rfl #[.slice A2 l2.length c2] rfl zq5 ?_; (with_reducible refine (nat_IsOne.calls _ _ l2 true _ ?side1 ?side2 A10.out).mono ?_); (case side1 => exact zc (Kd.C_below HR2.out HB.out)); (case side2 => exact HC2.out); rintro e w' ⟨rfl, ⟨nd, rfl⟩⟩; refine ⟨_, rfl, ?_⟩; (try (rw [drewN_self w14]; generalize hq_ : World.drewN w14 _ = w14; have n0_ : Aside0 (w14.heap[gb323]? = some (.cells #[.bool false, .slice none 0 0, .slice none 0 0] 24 (0, 0))) := ⟨by rw [← hq_]; exact (zq2 BK323.out)⟩; have n1_ : Aside0 (Below w.heap.size w w14) := ⟨by rw [← hq_]; exact (zb1 GE323.out)⟩; clear BK323 HB hq_; have BK323 := n0_; have HB := n1_; clear n0_ n1_))) | ((with_reducible refine gate_callee (f := 95) rfl ?_); refine goesL_ (some 36) rfl rfl Tryd.func95 (by kernel_rfl) rfl #[.slice A1 l1.length c1] rfl zq5 ?_; (with_reducible refine (slices_Clone_uint32_uint32.calls _ _ l1 t328 _ ?side1 ?side2 A12.out).mono ?_); (case side1 => exact zc (Kd.C_below HR1.out HB.out)); (case side2 => exact HC1.out); rintro e w15 ⟨v329, rfl, ho0, hb⟩; refine ⟨_, rfl, ?_⟩; refine zt3 (Kd.R_lower ho0 (below_size (zb1 GE323.out))) (bb BK323.out hb) (below_step (zb1 GE323.out) hb) ?_; clear BK323 HB; intro HO330 BK323 HB) | ((with_reducible refine gate_callee (f := 95) rfl ?_); refine goesL_ (some 38) rfl rfl Tryd.func95 (by kernel_rfl) rfl #[.slice A2 l2.length c2] rfl zq5 ?_; (with_reducible refine (slices_Clone_uint32_uint32.calls _ _ l2 t331 _ ?side1 ?side2 A13.out).mono ?_); (case side1 => exact zc (Kd.C_below HR2.out HB.out)); (case side2 => exact HC2.out); rintro e w16 ⟨v332, rfl, ho0, hb⟩; refine ⟨_, rfl, ?_⟩; refine zt4 (Kd.R_elder' (zq4 HO330.out) (Kd.R_base ho0) hb) (Kd.R_lower (Kd.R_new' ho0 (Kd.R_lt (zq4 HO330.out))) (below_size (zb1 GE323.out))) (bb BK323.out hb) (below_step (zb1 GE323.out) hb) ?_; clear HO330 BK323 HB; intro HO330 HO333 BK323 HB; obtain ⟨Ao17, co17, eo17⟩ := Kd.R_slice HO333.out; subst eo17; obtain ⟨Ao18, co18, eo18⟩ := Kd.R_slice HO330.out; subst eo18; have hcz19_0 := bc BK323.out 0 (.bool false); have hcz19_1 := bc BK323.out 1 (.slice none 0 0); have hcz19_2 := bc BK323.out 2 (.slice none 0 0); have hfz19_0 := blk_frozen BK323.out 0; have hfz19_1 := blk_frozen BK323.out 1; have hfz19_2 := blk_frozen BK323.out 2))
   refine bodyPost_ret (results_cell_row rfl _ _ gb323 24 #[.bool a0, .slice Ao18 t328.length co18, .slice Ao17 t331.length co17] (0, 0) _ rfl (by (with_reducible repeat (first | refine blk_drewN ?_ _ | refine blk_drew ?_ | refine blk_alloc ?_ _)); refine blk_put (cs := #[.bool a0, .slice Ao18 t328.length co18, .slice none 0 0]) ?_ 2 _ rfl; (with_reducible repeat (first | refine blk_drewN ?_ _ | refine blk_drew ?_ | refine blk_alloc ?_ _)); refine blk_put (cs := #[.bool a0, .slice none 0 0, .slice none 0 0]) ?_ 1 _ rfl; (with_reducible repeat (first | refine blk_drewN ?_ _ | refine blk_drew ?_ | refine blk_alloc ?_ _)); refine blk_put (cs := #[.bool false, .slice none 0 0, .slice none 0 0]) ?_ 0 _ rfl; (with_reducible repeat (first | refine blk_drewN ?_ _ | refine blk_drew ?_ | refine blk_alloc ?_ _)); exact BK323.out) Tryd.underlying24 rfl (by kernel_rfl)) rfl ?_
   exact ⟨_, _, zq9, zwR (h := by exact Kd.R_mono (Kd.R_far (p := ⟨gb323, 2, none⟩) (Kd.R_far (p := ⟨gb323, 1, none⟩) (Kd.R_far (p := ⟨gb323, 0, none⟩) (Kd.R_types HO330.out BK323.out (by decide)) (fun _ hk => hk.2) (.bool a0)) (fun _ hk => hk.2) (.slice Ao18 t328.length co18)) (fun _ hk => hk.2) (.slice Ao17 t331.length co17)) (fun _ hk => hk.1.2)), zwR (h := by exact Kd.R_mono (Kd.R_far (p := ⟨gb323, 2, none⟩) (Kd.R_far (p := ⟨gb323, 1, none⟩) (Kd.R_far (p := ⟨gb323, 0, none⟩) (Kd.R_types HO333.out BK323.out (by decide)) (fun _ hk => hk.2) (.bool a0)) (fun _ hk => hk.2) (.slice Ao18 t328.length co18)) (fun _ hk => hk.2) (.slice Ao17 t331.length co17)) (fun _ hk => hk.1.2)), zb1 GE323.out⟩
  ·replace c11 := Bool.eq_false_iff.mpr c11
   subst c11
   have H1 : ((nat_Gcd.f k l1 l2).bind fun t334 => ((nat_IsOne.f t334).bind fun t337 => (if t337 = true then ((slices_Clone_uint32_uint32.f l1).bind fun t338 => ((slices_Clone_uint32_uint32.f l2).bind fun t341 => (some (a0, t338, t341)))) else ((nat_DivMod.f k l1 t334).bind fun bt344 => ((nat_DivMod.f k l2 t334).bind fun bt350 => ((slices_Clone_uint32_uint32.f bt344.1).bind fun t356 => ((slices_Clone_uint32_uint32.f bt350.1).bind fun t359 => (some (a0, t356, t359))))))))) = some (r1, r2, r3) := by rw [if_neg (show ¬ (false = true) by decide)] at H; exact H
   clear H
   have H := H1
   clear H1
   replace H := zj H
   obtain ⟨t334, A20, H⟩ := H
   replace H := zj H
   obtain ⟨t337, A21, H⟩ := H
   by_cases c22 : t337 = true
   ·subst c22
    have H1 : ((slices_Clone_uint32_uint32.f l1).bind fun t338 => ((slices_Clone_uint32_uint32.f l2).bind fun t341 => (some (a0, t338, t341)))) = some (r1, r2, r3) := by rw [if_pos rfl] at H; exact H
    clear H
    have H := H1
    clear H1
    replace H := zj H
    obtain ⟨t338, A23, H⟩ := H
    replace H := zj H
    obtain ⟨t341, A24, H⟩ := H
    simp only [Option.some.injEq, Prod.mk.injEq] at H
    obtain ⟨rfl, rfl, rfl⟩ := H
    go_enter Tryd.func78, Tryd.ntmps78
    go_wp2_with (first | ((with_reducible refine gate_dst (N := 6) rfl ?_); refine zbox (N := 6) (cs := #[.bool false, .slice none 0 0, .slice none 0 0]) (t := 24) ?_; intro gb323 hg w25 hbox hb; refine zt3 (below_step zq1 hb) (hbox) ((zs hg (below_size zq1) : w.heap.size ≤ gb323)) ?_; clear HB; intro HB BK323 GW323; have GE323 := GW323; clear hb hbox hg) | ((with_reducible refine gate_callee (f := 43) rfl ?_); refine goesL_ (some 14) rfl rfl Tryd.func43 (by kernel_rfl) rfl #[.slice A2 l2.length c2] rfl zq5 ?_; (with_reducible refine (nat_IsOne.calls _ _ l2 false _ ?side1 ?side2 A10.out).mono ?_); (case side1 => exact zc (Kd.C_below HR2.out HB.out)); (case side2 => exact HC2.out); rintro e w' ⟨rfl, ⟨nd, rfl⟩⟩; refine ⟨_, rfl, ?_⟩; (try (rw [drewN_self w25]; generalize hq_ : World.drewN w25 _ = w25; have n0_ : Aside0 (w25.heap[gb323]? = some (.cells #[.bool false, .slice none 0 0, .slice none 0 0] 24 (0, 0))) := ⟨by rw [← hq_]; exact (zq2 BK323.out)⟩; have n1_ : Aside0 (Below w.heap.size w w25) := ⟨by rw [← hq_]; exact (zb1 GE323.out)⟩; clear BK323 HB hq_; have BK323 := n0_; have HB := n1_; clear n0_ n1_))) | ((with_reducible refine gate_callee (f := 44) rfl ?_); refine goesL_ (some 18) rfl rfl Tryd.func44 (by kernel_rfl) rfl #[.slice A1 l1.length c1, .slice A2 l2.length c2] rfl zq5 ?_; (with_reducible refine (nat_Gcd.calls k (fun k_ => k_ < w.heap.size) _ _ l1 (fun k_ => k_ < w.heap.size) _ _ l2 t334 _ ?side1 ?side2 A20.out).mono ?_); (case side1 => exact Kd.V_mk HC1.out (Kd.F_below (Kd.C_F (Kd.heap_int .u32) HR1.out) (zb1 GE323.out))); (case side2 => exact Kd.V_mk HC2.out (Kd.F_below (Kd.C_F (Kd.heap_int .u32) HR2.out) (zb1 GE323.out))); rintro e w26 ⟨v335, rfl, ho0, hb⟩; refine ⟨_, rfl, ?_⟩; refine zt3 (Kd.R_lower (Kd.R_mono (ok' := fun k_ => True) ho0 (fun _ hk_ => trivial)) (below_size (zb1 GE323.out))) (bb BK323.out hb) (below_step (zb1 GE323.out) hb) ?_; clear BK323 HB; intro HO336 BK323 HB; obtain ⟨Ao27, co27, eo27⟩ := Kd.R_slice HO336.out; subst eo27) | ((with_reducible refine gate_callee (f := 43) rfl ?_); refine goesL_ (some 20) rfl rfl Tryd.func43 (by kernel_rfl) rfl #[.slice Ao27 t334.length co27] rfl zq5 ?_; (with_reducible refine (nat_IsOne.calls _ _ t334 true _ ?side1 ?side2 A21.out).mono ?_); (case side1 => exact zc ((Kd.R_reads' HO336.out).2.2)); (case side2 => exact (Kd.R_reads' HO336.out).2.1); rintro e w' ⟨rfl, ⟨nd, rfl⟩⟩; refine ⟨_, rfl, ?_⟩; (try (rw [drewN_self w26]; generalize hq_ : World.drewN w26 _ = w26; have n0_ : Aside0 (Kd.R (Kd.int .u32) 55 w26 w.heap.size (fun _ => True) (.slice Ao27 t334.length co27) t334) := ⟨by rw [← hq_]; exact (zq4 HO336.out)⟩; have n1_ : Aside0 (w26.heap[gb323]? = some (.cells #[.bool false, .slice none 0 0, .slice none 0 0] 24 (0, 0))) := ⟨by rw [← hq_]; exact (zq2 BK323.out)⟩; have n2_ : Aside0 (Below w.heap.size w w26) := ⟨by rw [← hq_]; exact (zb1 GE323.out)⟩; clear HO336 BK323 HB hq_; have HO336 := n0_; have BK323 := n1_; have HB := n2_; clear n0_ n1_ n2_))) | ((with_reducible refine gate_callee (f := 95) rfl ?_); refine goesL_ (some 36) rfl rfl Tryd.func95 (by kernel_rfl) rfl #[.slice A1 l1.length c1] rfl zq5 ?_; (with_reducible refine (slices_Clone_uint32_uint32.calls _ _ l1 t338 _ ?side1 ?side2 A23.out).mono ?_); (case side1 => exact zc (Kd.C_below HR1.out HB.out)); (case side2 => exact HC1.out); rintro e w28 ⟨v339, rfl, ho0, hb⟩; refine ⟨_, rfl, ?_⟩; refine zt4 (Kd.R_elder' (zq4 HO336.out) (Kd.R_base ho0) hb) (Kd.R_lower (Kd.R_new' ho0 (Kd.R_lt (zq4 HO336.out))) (below_size (zb1 GE323.out))) (bb BK323.out hb) (below_step (zb1 GE323.out) hb) ?_; clear HO336 BK323 HB; intro HO336 HO340 BK323 HB) | ((with_reducible refine gate_callee (f := 95) rfl ?_); refine goesL_ (some 38) rfl rfl Tryd.func95 (by kernel_rfl) rfl #[.slice A2 l2.length c2] rfl zq5 ?_; (with_reducible refine (slices_Clone_uint32_uint32.calls _ _ l2 t341 _ ?side1 ?side2 A24.out).mono ?_); (case side1 => exact zc (Kd.C_below HR2.out HB.out)); (case side2 => exact HC2.out); rintro e w29 ⟨v342, rfl, ho0, hb⟩; refine ⟨_, rfl, ?_⟩; refine zt5 (Kd.R_elder' (zq4 HO336.out) (Kd.R_base ho0) hb) (Kd.R_elder' (zq4 HO340.out) (Kd.R_base ho0) hb) (Kd.R_lower (Kd.R_new' (Kd.R_new' ho0 (Kd.R_lt (zq4 HO336.out))) (Kd.R_lt (zq4 HO340.out))) (below_size (zb1 GE323.out))) (bb BK323.out hb) (below_step (zb1 GE323.out) hb) ?_; clear HO336 HO340 BK323 HB; intro HO336 HO340 HO343 BK323 HB; obtain ⟨Ao30, co30, eo30⟩ := Kd.R_slice HO343.out; subst eo30; obtain ⟨Ao31, co31, eo31⟩ := Kd.R_slice HO340.out; subst eo31; have hcz32_0 := bc BK323.out 0 (.bool false); have hcz32_1 := bc BK323.out 1 (.slice none 0 0); have hcz32_2 := bc BK323.out 2 (.slice none 0 0); have hfz32_0 := blk_frozen BK323.out 0; have hfz32_1 := blk_frozen BK323.out 1; have hfz32_2 := blk_frozen BK323.out 2))
    refine bodyPost_ret (results_cell_row rfl _ _ gb323 24 #[.bool a0, .slice Ao31 t338.length co31, .slice Ao30 t341.length co30] (0, 0) _ rfl (by (with_reducible repeat (first | refine blk_drewN ?_ _ | refine blk_drew ?_ | refine blk_alloc ?_ _)); refine blk_put (cs := #[.bool a0, .slice Ao31 t338.length co31, .slice none 0 0]) ?_ 2 _ rfl; (with_reducible repeat (first | refine blk_drewN ?_ _ | refine blk_drew ?_ | refine blk_alloc ?_ _)); refine blk_put (cs := #[.bool a0, .slice none 0 0, .slice none 0 0]) ?_ 1 _ rfl; (with_reducible repeat (first | refine blk_drewN ?_ _ | refine blk_drew ?_ | refine blk_alloc ?_ _)); refine blk_put (cs := #[.bool false, .slice none 0 0, .slice none 0 0]) ?_ 0 _ rfl; (with_reducible repeat (first | refine blk_drewN ?_ _ | refine blk_drew ?_ | refine blk_alloc ?_ _)); exact BK323.out) Tryd.underlying24 rfl (by kernel_rfl)) rfl ?_
    exact ⟨_, _, zq9, zwR (h := by exact Kd.R_mono (Kd.R_far (p := ⟨gb323, 2, none⟩) (Kd.R_far (p := ⟨gb323, 1, none⟩) (Kd.R_far (p := ⟨gb323, 0, none⟩) (Kd.R_types HO340.out BK323.out (by decide)) (fun _ hk => hk.2) (.bool a0)) (fun _ hk => hk.2) (.slice Ao31 t338.length co31)) (fun _ hk => hk.2) (.slice Ao30 t341.length co30)) (fun _ hk => hk.1.2)), zwR (h := by exact Kd.R_mono (Kd.R_far (p := ⟨gb323, 2, none⟩) (Kd.R_far (p := ⟨gb323, 1, none⟩) (Kd.R_far (p := ⟨gb323, 0, none⟩) (Kd.R_types HO343.out BK323.out (by decide)) (fun _ hk => hk.2) (.bool a0)) (fun _ hk => hk.2) (.slice Ao31 t338.length co31)) (fun _ hk => hk.2) (.slice Ao30 t341.length co30)) (fun _ hk => hk.1.2)), zb1 GE323.out⟩
   ·replace c22 := Bool.eq_false_iff.mpr c22
    subst c22
    have H1 : ((nat_DivMod.f k l1 t334).bind fun bt344 => ((nat_DivMod.f k l2 t334).bind fun bt350 => ((slices_Clone_uint32_uint32.f bt344.1).bind fun t356 => ((slices_Clone_uint32_uint32.f bt350.1).bind fun t359 => (some (a0, t356, t359)))))) = some (r1, r2, r3) := by rw [if_neg (show ¬ (false = true) by decide)] at H; exact H
    clear H
    have H := H1
    clear H1
    replace H := zj H
    obtain ⟨⟨t344, t347⟩, A33, H⟩ := H
    try dsimp only at H
    replace H := zj H
    obtain ⟨⟨t350, t353⟩, A34, H⟩ := H
    try dsimp only at H
    replace H := zj H
    obtain ⟨t356, A35, H⟩ := H
    replace H := zj H
    obtain ⟨t359, A36, H⟩ := H
    simp only [Option.some.injEq, Prod.mk.injEq] at H
    obtain ⟨rfl, rfl, rfl⟩ := H
    go_enter Tryd.func78, Tryd.ntmps78
    go_wp2_with (first | ((with_reducible refine gate_dst (N := 6) rfl ?_); refine zbox (N := 6) (cs := #[.bool false, .slice none 0 0, .slice none 0 0]) (t := 24) ?_; intro gb323 hg w37 hbox hb; refine zt3 (below_step zq1 hb) (hbox) ((zs hg (below_size zq1) : w.heap.size ≤ gb323)) ?_; clear HB; intro HB BK323 GW323; have GE323 := GW323; clear hb hbox hg) | ((with_reducible refine gate_callee (f := 43) rfl ?_); refine goesL_ (some 14) rfl rfl Tryd.func43 (by kernel_rfl) rfl #[.slice A2 l2.length c2] rfl zq5 ?_; (with_reducible refine (nat_IsOne.calls _ _ l2 false _ ?side1 ?side2 A10.out).mono ?_); (case side1 => exact zc (Kd.C_below HR2.out HB.out)); (case side2 => exact HC2.out); rintro e w' ⟨rfl, ⟨nd, rfl⟩⟩; refine ⟨_, rfl, ?_⟩; (try (rw [drewN_self w37]; generalize hq_ : World.drewN w37 _ = w37; have n0_ : Aside0 (w37.heap[gb323]? = some (.cells #[.bool false, .slice none 0 0, .slice none 0 0] 24 (0, 0))) := ⟨by rw [← hq_]; exact (zq2 BK323.out)⟩; have n1_ : Aside0 (Below w.heap.size w w37) := ⟨by rw [← hq_]; exact (zb1 GE323.out)⟩; clear BK323 HB hq_; have BK323 := n0_; have HB := n1_; clear n0_ n1_))) | ((with_reducible refine gate_callee (f := 44) rfl ?_); refine goesL_ (some 18) rfl rfl Tryd.func44 (by kernel_rfl) rfl #[.slice A1 l1.length c1, .slice A2 l2.length c2] rfl zq5 ?_; (with_reducible refine (nat_Gcd.calls k (fun k_ => k_ < w.heap.size) _ _ l1 (fun k_ => k_ < w.heap.size) _ _ l2 t334 _ ?side1 ?side2 A20.out).mono ?_); (case side1 => exact Kd.V_mk HC1.out (Kd.F_below (Kd.C_F (Kd.heap_int .u32) HR1.out) (zb1 GE323.out))); (case side2 => exact Kd.V_mk HC2.out (Kd.F_below (Kd.C_F (Kd.heap_int .u32) HR2.out) (zb1 GE323.out))); rintro e w38 ⟨v335, rfl, ho0, hb⟩; refine ⟨_, rfl, ?_⟩; refine zt3 (Kd.R_lower (Kd.R_mono (ok' := fun k_ => True) ho0 (fun _ hk_ => trivial)) (below_size (zb1 GE323.out))) (bb BK323.out hb) (below_step (zb1 GE323.out) hb) ?_; clear BK323 HB; intro HO336 BK323 HB; obtain ⟨Ao39, co39, eo39⟩ := Kd.R_slice HO336.out; subst eo39) | ((with_reducible refine gate_callee (f := 43) rfl ?_); refine goesL_ (some 20) rfl rfl Tryd.func43 (by kernel_rfl) rfl #[.slice Ao39 t334.length co39] rfl zq5 ?_; (with_reducible refine (nat_IsOne.calls _ _ t334 false _ ?side1 ?side2 A21.out).mono ?_); (case side1 => exact zc ((Kd.R_reads' HO336.out).2.2)); (case side2 => exact (Kd.R_reads' HO336.out).2.1); rintro e w' ⟨rfl, ⟨nd, rfl⟩⟩; refine ⟨_, rfl, ?_⟩; (try (rw [drewN_self w38]; generalize hq_ : World.drewN w38 _ = w38; have n0_ : Aside0 (Kd.R (Kd.int .u32) 55 w38 w.heap.size (fun _ => True) (.slice Ao39 t334.length co39) t334) := ⟨by rw [← hq_]; exact (zq4 HO336.out)⟩; have n1_ : Aside0 (w38.heap[gb323]? = some (.cells #[.bool false, .slice none 0 0, .slice none 0 0] 24 (0, 0))) := ⟨by rw [← hq_]; exact (zq2 BK323.out)⟩; have n2_ : Aside0 (Below w.heap.size w w38) := ⟨by rw [← hq_]; exact (zb1 GE323.out)⟩; clear HO336 BK323 HB hq_; have HO336 := n0_; have BK323 := n1_; have HB := n2_; clear n0_ n1_ n2_))) | ((with_reducible refine gate_callee (f := 94) rfl ?_); refine goesL_ (some 25) rfl rfl Tryd.func94 (by kernel_rfl) rfl #[.slice A1 l1.length c1, .slice Ao39 t334.length co39] rfl zq5 ?_; (with_reducible refine (nat_DivMod.calls k _ _ l1 _ _ t334 t344 t347 _ ?side1 ?side2 ?side3 ?side4 A33.out).mono ?_); (case side1 => exact zc (Kd.C_below HR1.out HB.out)); (case side2 => exact HC1.out); (case side3 => exact zc ((Kd.R_reads' HO336.out).2.2)); (case side4 => exact (Kd.R_reads' HO336.out).2.1); rintro e w40 ⟨v345, v348, rfl, ho0, ho1, hb⟩; refine ⟨_, rfl, ?_⟩; refine zt5 (rb HO336 hb) (Kd.V_lower (Kd.V_mono (ok' := fun k_ => some k_ ≠ (.slice Ao39 t334.length co39 : Value).ownBlock ∧ k_ ≠ gb323) ho0 (fun k_ hk_ => ⟨(Kd.fresh' (Kd.R_lt (zq4 HO336.out)) k_ hk_), (Kd.freshB (g := gb323) (o := .cells #[.bool false, .slice none 0 0, .slice none 0 0] 24 (0, 0)) (zq2 BK323.out) k_ hk_)⟩)) (below_size (zb1 GE323.out))) (Kd.V_lower (Kd.V_mono (ok' := fun k_ => some k_ ≠ (.slice Ao39 t334.length co39 : Value).ownBlock ∧ k_ ≠ gb323) ho1 (fun k_ hk_ => ⟨(Kd.fresh' (Kd.R_lt (zq4 HO336.out)) k_ hk_), (Kd.freshB (g := gb323) (o := .cells #[.bool false, .slice none 0 0, .slice none 0 0] 24 (0, 0)) (zq2 BK323.out) k_ hk_)⟩)) (below_size (zb1 GE323.out))) (bb BK323.out hb) (below_step (zb1 GE323.out) hb) ?_; clear HO336 BK323 HB; intro HO336 HO346 HO349 BK323 HB; (try clear ho1)) | ((with_reducible refine gate_callee (f := 94) rfl ?_); refine goesL_ (some 31) rfl rfl Tryd.func94 (by kernel_rfl) rfl #[.slice A2 l2.length c2, .slice Ao39 t334.length co39] rfl zq5 ?_; (with_reducible refine (nat_DivMod.calls k _ _ l2 _ _ t334 t350 t353 _ ?side1 ?side2 ?side3 ?side4 A34.out).mono ?_); (case side1 => exact zc (Kd.C_below HR2.out HB.out)); (case side2 => exact HC2.out); (case side3 => exact zc ((Kd.R_reads' HO336.out).2.2)); (case side4 => exact (Kd.R_reads' HO336.out).2.1); rintro e w41 ⟨v351, v354, rfl, ho0, ho1, hb⟩; refine ⟨_, rfl, ?_⟩; refine zt7 (rb HO336 hb) (vb HO346 hb) (vb HO349 hb) (Kd.V_lower (Kd.V_mono (ok' := fun k_ => some k_ ≠ (.slice Ao39 t334.length co39 : Value).ownBlock ∧ k_ ≠ gb323) ho0 (fun k_ hk_ => ⟨(Kd.fresh' (Kd.R_lt (zq4 HO336.out)) k_ hk_), (Kd.freshB (g := gb323) (o := .cells #[.bool false, .slice none 0 0, .slice none 0 0] 24 (0, 0)) (zq2 BK323.out) k_ hk_)⟩)) (below_size (zb1 GE323.out))) (Kd.V_lower (Kd.V_mono (ok' := fun k_ => some k_ ≠ (.slice Ao39 t334.length co39 : Value).ownBlock ∧ k_ ≠ gb323) ho1 (fun k_ hk_ => ⟨(Kd.fresh' (Kd.R_lt (zq4 HO336.out)) k_ hk_), (Kd.freshB (g := gb323) (o := .cells #[.bool false, .slice none 0 0, .slice none 0 0] 24 (0, 0)) (zq2 BK323.out) k_ hk_)⟩)) (below_size (zb1 GE323.out))) (bb BK323.out hb) (below_step (zb1 GE323.out) hb) ?_; clear HO336 HO346 HO349 BK323 HB; intro HO336 HO346 HO349 HO352 HO355 BK323 HB; (try clear ho1); obtain ⟨Ao42, co42, eo42⟩ := Kd.V_slice HO346.out; subst eo42) | ((with_reducible refine gate_callee (f := 95) rfl ?_); refine goesL_ (some 36) rfl rfl Tryd.func95 (by kernel_rfl) rfl #[.slice Ao42 t344.length co42] rfl zq5 ?_; (with_reducible refine (slices_Clone_uint32_uint32.calls _ _ t344 t356 _ ?side1 ?side2 A35.out).mono ?_); (case side1 => exact zc ((Kd.V_reads' HO346.out).2.2)); (case side2 => exact (Kd.V_reads' HO346.out).2.1); rintro e w43 ⟨v357, rfl, ho0, hb⟩; refine ⟨_, rfl, ?_⟩; refine zt8 (Kd.R_elder' (zq4 HO336.out) (Kd.R_base ho0) hb) (Kd.V_elder' (zq3 HO346.out) (Kd.R_base ho0) hb) (Kd.V_elder' (zq3 HO349.out) (Kd.R_base ho0) hb) (Kd.V_elder' (zq3 HO352.out) (Kd.R_base ho0) hb) (Kd.V_elder' (zq3 HO355.out) (Kd.R_base ho0) hb) (Kd.R_lower (Kd.R_new' ho0 (Kd.R_lt (zq4 HO336.out))) (below_size (zb1 GE323.out))) (bb BK323.out hb) (below_step (zb1 GE323.out) hb) ?_; clear HO336 HO346 HO349 HO352 HO355 BK323 HB; intro HO336 HO346 HO349 HO352 HO355 HO358 BK323 HB; obtain ⟨Ao44, co44, eo44⟩ := Kd.V_slice HO352.out; subst eo44) | ((with_reducible refine gate_callee (f := 95) rfl ?_); refine goesL_ (some 38) rfl rfl Tryd.func95 (by kernel_rfl) rfl #[.slice Ao44 t350.length co44] rfl zq5 ?_; (with_reducible refine (slices_Clone_uint32_uint32.calls _ _ t350 t359 _ ?side1 ?side2 A36.out).mono ?_); (case side1 => exact zc ((Kd.V_reads' HO352.out).2.2)); (case side2 => exact (Kd.V_reads' HO352.out).2.1); rintro e w45 ⟨v360, rfl, ho0, hb⟩; refine ⟨_, rfl, ?_⟩; refine zt9 (Kd.R_elder' (zq4 HO336.out) (Kd.R_base ho0) hb) (Kd.V_elder' (zq3 HO346.out) (Kd.R_base ho0) hb) (Kd.V_elder' (zq3 HO349.out) (Kd.R_base ho0) hb) (Kd.V_elder' (zq3 HO352.out) (Kd.R_base ho0) hb) (Kd.V_elder' (zq3 HO355.out) (Kd.R_base ho0) hb) (Kd.R_elder' (zq4 HO358.out) (Kd.R_base ho0) hb) (Kd.R_lower (Kd.R_new' (Kd.R_new' ho0 (Kd.R_lt (zq4 HO336.out))) (Kd.R_lt (zq4 HO358.out))) (below_size (zb1 GE323.out))) (bb BK323.out hb) (below_step (zb1 GE323.out) hb) ?_; clear HO336 HO346 HO349 HO352 HO355 HO358 BK323 HB; intro HO336 HO346 HO349 HO352 HO355 HO358 HO361 BK323 HB; obtain ⟨Ao46, co46, eo46⟩ := Kd.R_slice HO361.out; subst eo46; obtain ⟨Ao47, co47, eo47⟩ := Kd.R_slice HO358.out; subst eo47; have hcz48_0 := bc BK323.out 0 (.bool false); have hcz48_1 := bc BK323.out 1 (.slice none 0 0); have hcz48_2 := bc BK323.out 2 (.slice none 0 0); have hfz48_0 := blk_frozen BK323.out 0; have hfz48_1 := blk_frozen BK323.out 1; have hfz48_2 := blk_frozen BK323.out 2))
    refine bodyPost_ret (results_cell_row rfl _ _ gb323 24 #[.bool a0, .slice Ao47 t356.length co47, .slice Ao46 t359.length co46] (0, 0) _ rfl (by (with_reducible repeat (first | refine blk_drewN ?_ _ | refine blk_drew ?_ | refine blk_alloc ?_ _)); refine blk_put (cs := #[.bool a0, .slice Ao47 t356.length co47, .slice none 0 0]) ?_ 2 _ rfl; (with_reducible repeat (first | refine blk_drewN ?_ _ | refine blk_drew ?_ | refine blk_alloc ?_ _)); refine blk_put (cs := #[.bool a0, .slice none 0 0, .slice none 0 0]) ?_ 1 _ rfl; (with_reducible repeat (first | refine blk_drewN ?_ _ | refine blk_drew ?_ | refine blk_alloc ?_ _)); refine blk_put (cs := #[.bool false, .slice none 0 0, .slice none 0 0]) ?_ 0 _ rfl; (with_reducible repeat (first | refine blk_drewN ?_ _ | refine blk_drew ?_ | refine blk_alloc ?_ _)); exact BK323.out) Tryd.underlying24 rfl (by kernel_rfl)) rfl ?_
    exact ⟨_, _, zq9, zwR (h := by exact Kd.R_mono (Kd.R_far (p := ⟨gb323, 2, none⟩) (Kd.R_far (p := ⟨gb323, 1, none⟩) (Kd.R_far (p := ⟨gb323, 0, none⟩) (Kd.R_types HO358.out BK323.out (by decide)) (fun _ hk => hk.2) (.bool a0)) (fun _ hk => hk.2) (.slice Ao47 t356.length co47)) (fun _ hk => hk.2) (.slice Ao46 t359.length co46)) (fun _ hk => hk.1.2)), zwR (h := by exact Kd.R_mono (Kd.R_far (p := ⟨gb323, 2, none⟩) (Kd.R_far (p := ⟨gb323, 1, none⟩) (Kd.R_far (p := ⟨gb323, 0, none⟩) (Kd.R_types HO361.out BK323.out (by decide)) (fun _ hk => hk.2) (.bool a0)) (fun _ hk => hk.2) (.slice Ao47 t356.length co47)) (fun _ hk => hk.2) (.slice Ao46 t359.length co46)) (fun _ hk => hk.1.2)), zb1 GE323.out⟩
def number_fits.f (a0_0 : Bool) (l0_1 : List Int) (l0_2 : List Int) : Option (Bool × List Int × List Int × Int) := if (l0_1.length : Int) > 128 then (some (false, ([] : List Int), ([] : List Int), 3)) else (if (l0_2.length : Int) > 128 then (some (false, ([] : List Int), ([] : List Int), 3)) else (some (a0_0, l0_1, l0_2, 0)))
set_option maxHeartbeats 8000000 in
set_option maxRecDepth 100000 in
theorem number_fits.calls (a0_0 : Bool) (P0_1_ : Nat → Prop) (A0_1 : Option Addr) (c0_1 : Nat) (l0_1 : List Int) (P0_2_ : Nat → Prop) (A0_2 : Option Addr) (c0_2 : Nat) (l0_2 : List Int) (r1 : Bool) (r2 : List Int) (r3 : List Int) (r4 : Int) (w : World) (hs0_1 : Kd.V (Kd.int .u32) 55 w w.heap.size (fun k_ => P0_1_ k_) (.slice A0_1 l0_1.length c0_1) l0_1) (hs0_2 : Kd.V (Kd.int .u32) 55 w w.heap.size (fun k_ => P0_2_ k_) (.slice A0_2 l0_2.length c0_2) l0_2) (h : number_fits.f a0_0 l0_1 l0_2 = some (r1, r2, r3, r4)) :
  Calls Tryd.prog 106 #[.agg #[.bool a0_0, .slice A0_1 l0_1.length c0_1, .slice A0_2 l0_2.length c0_2]] w fun e w' => ∃ v1_ v2_ : Value, e = .returned (.tuple #[.agg #[.bool r1, v1_, v2_], .int .i64 r4]) ∧ Kd.V (Kd.int .u32) 55 w' w.heap.size (fun k_ => ((P0_1_ k_ ∨ P0_2_ k_) ∨ w.heap.size ≤ k_)) v1_ r2 ∧ Kd.V (Kd.int .u32) 55 w' w.heap.size (fun k_ => ((P0_1_ k_ ∨ P0_2_ k_) ∨ w.heap.size ≤ k_)) v2_ r3 ∧ Below w.heap.size w w' := by
 have hu24 := Tryd.underlying24
 have HO0_1 := am (show Kd.V (Kd.int .u32) 55 w w.heap.size (fun k_ => ((P0_1_ k_ ∨ P0_2_ k_) ∨ w.heap.size ≤ k_)) (.slice A0_1 l0_1.length c0_1) l0_1 from Kd.V_mono hs0_1 (fun k_ hk => .inl (.inl hk)))
 have HO0_2 := am (show Kd.V (Kd.int .u32) 55 w w.heap.size (fun k_ => ((P0_1_ k_ ∨ P0_2_ k_) ∨ w.heap.size ≤ k_)) (.slice A0_2 l0_2.length c0_2) l0_2 from Kd.V_mono hs0_2 (fun k_ hk => .inl (.inr hk)))
 have HB := am (Below.refl w.heap.size w)
 have H := h
 unfold number_fits.f at H
 clear h
 by_cases c2 : (l0_1.length : Int) > 128
 ·rw [if_pos c2] at H
  have c2b0 : decide (128 < (l0_1.length : Int)) = true := decide_eq_true c2
  have c2b1 : decide (128 < l0_1.length) = true := decide_eq_true (by omega)
  clear c2
  simp only [Option.some.injEq, Prod.mk.injEq] at H
  obtain ⟨rfl, rfl, rfl, rfl⟩ := H
  go_enter Tryd.func106, Tryd.ntmps106
  go_wp2_with (first | ((with_reducible refine gate_dst (N := 1) rfl ?_); (try (refine gate_guard (by rfl) ?_; dsimp only)); refine zbox (N := 1) (cs := #[.bool a0_0, .slice A0_1 l0_1.length c0_1, .slice A0_2 l0_2.length c0_2]) (t := 24) ?_; intro gb362 hg w3 hbox hb; refine zt5 (ve HO0_1 hg hb) (ve HO0_2 hg hb) (below_step zq1 hb) (hbox) ((zs hg (below_size zq1) : w.heap.size ≤ gb362)) ?_; clear HO0_1 HO0_2 HB; intro HO0_1 HO0_2 HB BK362 GW362; have GE362 := GW362; clear hb hbox hg) | ((with_reducible refine gate_dst (N := 2) rfl ?_); (try (refine gate_guard (by rfl) ?_; dsimp only)); refine zbox (N := 2) (cs := #[.bool false, .slice none 0 0, .slice none 0 0]) (t := 24) ?_; intro gb363 hg w4 hbox hb; refine zt8 (ve HO0_1 hg hb) (ve HO0_2 hg hb) (bb BK362.out hb) (below_step (zb1 GE362.out) hb) (hbox) ((zs hg (below_size (zb1 GE362.out)) : w.heap.size ≤ gb363)) ((by rw [hg]; exact Nat.ne_of_lt (bl BK362.out) : gb362 ≠ gb363)) ((by rw [hg]; exact Nat.ne_of_gt (bl BK362.out) : gb363 ≠ gb362)) ?_; clear HO0_1 HO0_2 BK362 HB; intro HO0_1 HO0_2 BK362 HB BK363 GW363 NB362_363 NB363_362; have GE363 := GW363; clear hb hbox hg; have hnb5 := NB362_363.out; have hnc5 := NB363_362.out; have hcz6_0 := bc BK362.out 0 (.bool a0_0); have hcz6_1 := bc BK362.out 1 (.slice A0_1 l0_1.length c0_1); have hcz6_2 := bc BK362.out 2 (.slice A0_2 l0_2.length c0_2); have hfz6_0 := blk_frozen BK362.out 0; have hfz6_1 := blk_frozen BK362.out 1; have hfz6_2 := blk_frozen BK362.out 2; have hcz7_0 := bc BK363.out 0 (.bool false); have hcz7_1 := bc BK363.out 1 (.slice none 0 0); have hcz7_2 := bc BK363.out 2 (.slice none 0 0); have hfz7_0 := blk_frozen BK363.out 0; have hfz7_1 := blk_frozen BK363.out 1; have hfz7_2 := blk_frozen BK363.out 2))
  refine bodyPost_ret (results_ct rfl _ _ gb363 24 #[.bool false, .slice none 0 0, .slice none 0 0] (0, 0) _ rfl (by (with_reducible repeat (first | refine blk_drewN ?_ _ | refine blk_drew ?_ | refine blk_alloc ?_ _)); refine blk_put (cs := #[.bool false, .slice none 0 0, .slice none 0 0]) ?_ 2 _ rfl; (with_reducible repeat (first | refine blk_drewN ?_ _ | refine blk_drew ?_ | refine blk_alloc ?_ _)); refine blk_put (cs := #[.bool false, .slice none 0 0, .slice none 0 0]) ?_ 1 _ rfl; (with_reducible repeat (first | refine blk_drewN ?_ _ | refine blk_drew ?_ | refine blk_alloc ?_ _)); refine blk_put (cs := #[.bool false, .slice none 0 0, .slice none 0 0]) ?_ 0 _ rfl; (with_reducible repeat (first | refine blk_drewN ?_ _ | refine blk_drew ?_ | refine blk_alloc ?_ _)); exact BK363.out) Tryd.underlying24 rfl (by kernel_rfl)) rfl ?_
  exact ⟨_, _, zq9, Kd.V_mono (Kd.V_nil _ _ _ _ _) (fun k_ hk => by first | exact ⟨(.inr (hk.1)), hk.2⟩ | exact (.inr (hk))), Kd.V_mono (Kd.V_nil _ _ _ _ _) (fun k_ hk => by first | exact ⟨(.inr (hk.1)), hk.2⟩ | exact (.inr (hk))), zb2 GE362.out GE363.out⟩
 ·rw [if_neg c2] at H
  have c2b0 : decide (128 < (l0_1.length : Int)) = false := decide_eq_false c2
  have c2b1 : decide (128 < l0_1.length) = false := decide_eq_false (by omega)
  clear c2
  by_cases c8 : (l0_2.length : Int) > 128
  ·rw [if_pos c8] at H
   have c8b0 : decide (128 < (l0_2.length : Int)) = true := decide_eq_true c8
   have c8b1 : decide (128 < l0_2.length) = true := decide_eq_true (by omega)
   clear c8
   simp only [Option.some.injEq, Prod.mk.injEq] at H
   obtain ⟨rfl, rfl, rfl, rfl⟩ := H
   go_enter Tryd.func106, Tryd.ntmps106
   go_wp2_with (first | ((with_reducible refine gate_dst (N := 1) rfl ?_); (try (refine gate_guard (by rfl) ?_; dsimp only)); refine zbox (N := 1) (cs := #[.bool a0_0, .slice A0_1 l0_1.length c0_1, .slice A0_2 l0_2.length c0_2]) (t := 24) ?_; intro gb362 hg w9 hbox hb; refine zt5 (ve HO0_1 hg hb) (ve HO0_2 hg hb) (below_step zq1 hb) (hbox) ((zs hg (below_size zq1) : w.heap.size ≤ gb362)) ?_; clear HO0_1 HO0_2 HB; intro HO0_1 HO0_2 HB BK362 GW362; have GE362 := GW362; clear hb hbox hg) | ((with_reducible refine gate_dst (N := 2) rfl ?_); (try (refine gate_guard (by rfl) ?_; dsimp only)); refine zbox (N := 2) (cs := #[.bool false, .slice none 0 0, .slice none 0 0]) (t := 24) ?_; intro gb363 hg w10 hbox hb; refine zt8 (ve HO0_1 hg hb) (ve HO0_2 hg hb) (bb BK362.out hb) (below_step (zb1 GE362.out) hb) (hbox) ((zs hg (below_size (zb1 GE362.out)) : w.heap.size ≤ gb363)) ((by rw [hg]; exact Nat.ne_of_lt (bl BK362.out) : gb362 ≠ gb363)) ((by rw [hg]; exact Nat.ne_of_gt (bl BK362.out) : gb363 ≠ gb362)) ?_; clear HO0_1 HO0_2 BK362 HB; intro HO0_1 HO0_2 BK362 HB BK363 GW363 NB362_363 NB363_362; have GE363 := GW363; clear hb hbox hg; have hnb11 := NB362_363.out; have hnc11 := NB363_362.out; have hcz12_0 := bc BK362.out 0 (.bool a0_0); have hcz12_1 := bc BK362.out 1 (.slice A0_1 l0_1.length c0_1); have hcz12_2 := bc BK362.out 2 (.slice A0_2 l0_2.length c0_2); have hfz12_0 := blk_frozen BK362.out 0; have hfz12_1 := blk_frozen BK362.out 1; have hfz12_2 := blk_frozen BK362.out 2; have hcz13_0 := bc BK363.out 0 (.bool false); have hcz13_1 := bc BK363.out 1 (.slice none 0 0); have hcz13_2 := bc BK363.out 2 (.slice none 0 0); have hfz13_0 := blk_frozen BK363.out 0; have hfz13_1 := blk_frozen BK363.out 1; have hfz13_2 := blk_frozen BK363.out 2))
   refine bodyPost_ret (results_ct rfl _ _ gb363 24 #[.bool false, .slice none 0 0, .slice none 0 0] (0, 0) _ rfl (by (with_reducible repeat (first | refine blk_drewN ?_ _ | refine blk_drew ?_ | refine blk_alloc ?_ _)); refine blk_put (cs := #[.bool false, .slice none 0 0, .slice none 0 0]) ?_ 2 _ rfl; (with_reducible repeat (first | refine blk_drewN ?_ _ | refine blk_drew ?_ | refine blk_alloc ?_ _)); refine blk_put (cs := #[.bool false, .slice none 0 0, .slice none 0 0]) ?_ 1 _ rfl; (with_reducible repeat (first | refine blk_drewN ?_ _ | refine blk_drew ?_ | refine blk_alloc ?_ _)); refine blk_put (cs := #[.bool false, .slice none 0 0, .slice none 0 0]) ?_ 0 _ rfl; (with_reducible repeat (first | refine blk_drewN ?_ _ | refine blk_drew ?_ | refine blk_alloc ?_ _)); exact BK363.out) Tryd.underlying24 rfl (by kernel_rfl)) rfl ?_
   exact ⟨_, _, zq9, Kd.V_mono (Kd.V_nil _ _ _ _ _) (fun k_ hk => by first | exact ⟨(.inr (hk.1)), hk.2⟩ | exact (.inr (hk))), Kd.V_mono (Kd.V_nil _ _ _ _ _) (fun k_ hk => by first | exact ⟨(.inr (hk.1)), hk.2⟩ | exact (.inr (hk))), zb2 GE362.out GE363.out⟩
  ·rw [if_neg c8] at H
   have c8b0 : decide (128 < (l0_2.length : Int)) = false := decide_eq_false c8
   have c8b1 : decide (128 < l0_2.length) = false := decide_eq_false (by omega)
   clear c8
   simp only [Option.some.injEq, Prod.mk.injEq] at H
   obtain ⟨rfl, rfl, rfl, rfl⟩ := H
   go_enter Tryd.func106, Tryd.ntmps106
   go_wp2_with (first | ((with_reducible refine gate_dst (N := 1) rfl ?_); (try (refine gate_guard (by rfl) ?_; dsimp only)); refine zbox (N := 1) (cs := #[.bool a0_0, .slice A0_1 l0_1.length c0_1, .slice A0_2 l0_2.length c0_2]) (t := 24) ?_; intro gb362 hg w14 hbox hb; refine zt5 (ve HO0_1 hg hb) (ve HO0_2 hg hb) (below_step zq1 hb) (hbox) ((zs hg (below_size zq1) : w.heap.size ≤ gb362)) ?_; clear HO0_1 HO0_2 HB; intro HO0_1 HO0_2 HB BK362 GW362; have GE362 := GW362; clear hb hbox hg) | ((with_reducible refine gate_dst (N := 2) rfl ?_); (try (refine gate_guard (by rfl) ?_; dsimp only)); refine zbox (N := 2) (cs := #[.bool false, .slice none 0 0, .slice none 0 0]) (t := 24) ?_; intro gb363 hg w15 hbox hb; refine zt8 (ve HO0_1 hg hb) (ve HO0_2 hg hb) (bb BK362.out hb) (below_step (zb1 GE362.out) hb) (hbox) ((zs hg (below_size (zb1 GE362.out)) : w.heap.size ≤ gb363)) ((by rw [hg]; exact Nat.ne_of_lt (bl BK362.out) : gb362 ≠ gb363)) ((by rw [hg]; exact Nat.ne_of_gt (bl BK362.out) : gb363 ≠ gb362)) ?_; clear HO0_1 HO0_2 BK362 HB; intro HO0_1 HO0_2 BK362 HB BK363 GW363 NB362_363 NB363_362; have GE363 := GW363; clear hb hbox hg; have hnb16 := NB362_363.out; have hnc16 := NB363_362.out; have hcz17_0 := bc BK362.out 0 (.bool a0_0); have hcz17_1 := bc BK362.out 1 (.slice A0_1 l0_1.length c0_1); have hcz17_2 := bc BK362.out 2 (.slice A0_2 l0_2.length c0_2); have hfz17_0 := blk_frozen BK362.out 0; have hfz17_1 := blk_frozen BK362.out 1; have hfz17_2 := blk_frozen BK362.out 2; have hcz18_0 := bc BK363.out 0 (.bool false); have hcz18_1 := bc BK363.out 1 (.slice none 0 0); have hcz18_2 := bc BK363.out 2 (.slice none 0 0); have hfz18_0 := blk_frozen BK363.out 0; have hfz18_1 := blk_frozen BK363.out 1; have hfz18_2 := blk_frozen BK363.out 2))
   refine bodyPost_ret (results_ct rfl _ _ gb363 24 #[.bool a0_0, .slice A0_1 l0_1.length c0_1, .slice A0_2 l0_2.length c0_2] (0, 0) _ rfl (by (with_reducible repeat (first | refine blk_drewN ?_ _ | refine blk_drew ?_ | refine blk_alloc ?_ _)); refine blk_put (cs := #[.bool a0_0, .slice A0_1 l0_1.length c0_1, .slice none 0 0]) ?_ 2 _ rfl; (with_reducible repeat (first | refine blk_drewN ?_ _ | refine blk_drew ?_ | refine blk_alloc ?_ _)); refine blk_put (cs := #[.bool a0_0, .slice none 0 0, .slice none 0 0]) ?_ 1 _ rfl; (with_reducible repeat (first | refine blk_drewN ?_ _ | refine blk_drew ?_ | refine blk_alloc ?_ _)); refine blk_put (cs := #[.bool false, .slice none 0 0, .slice none 0 0]) ?_ 0 _ rfl; (with_reducible repeat (first | refine blk_drewN ?_ _ | refine blk_drew ?_ | refine blk_alloc ?_ _)); exact BK363.out) Tryd.underlying24 rfl (by kernel_rfl)) rfl ?_
   exact ⟨_, _, zq9, zwV (h := by exact Kd.V_mono (zv3 gb363 (.bool a0_0) (.slice A0_1 l0_1.length c0_1) (.slice A0_2 l0_2.length c0_2) HO0_1.out (fun _ hk => hk.2)) (fun _ hk => hk.1.1.1)), zwV (h := by exact Kd.V_mono (zv3 gb363 (.bool a0_0) (.slice A0_1 l0_1.length c0_1) (.slice A0_2 l0_2.length c0_2) HO0_2.out (fun _ hk => hk.2)) (fun _ hk => hk.1.1.1)), zb2 GE362.out GE363.out⟩
def number_made.f (k : Nat) (a0 : Bool) (l1 : List Int) (l2 : List Int) : Option (Bool × List Int × List Int × Int) := (number_raw.f k a0 l1 l2).bind fun bt365 => ((number_fits.f bt365.1 bt365.2.1 bt365.2.2).bind fun bt372 => (some (bt372.1, bt372.2.1, bt372.2.2.1, bt372.2.2.2)))
theorem number_made.mono : ∀ a0 a1 a2 k, LeO (number_made.f k a0 a1 a2) (number_made.f (k + 1) a0 a1 a2) := by
 intro a0 a1 a2 k
 unfold number_made.f
 have m0 := @number_raw.mono
 exact zm
set_option maxHeartbeats 8000000 in
set_option maxRecDepth 100000 in
theorem number_made.calls (k : Nat) (a0 : Bool) (A1 : Option Addr) (c1 : Nat) (l1 : List Int) (A2 : Option Addr) (c2 : Nat) (l2 : List Int) (r1 : Bool) (r2 : List Int) (r3 : List Int) (r4 : Int) (w : World) (hr1 : Kd.C (Kd.int .u32) w A1 l1.length l1) (hc1 : l1.length ≤ c1) (hr2 : Kd.C (Kd.int .u32) w A2 l2.length l2) (hc2 : l2.length ≤ c2) (h : number_made.f k a0 l1 l2 = some (r1, r2, r3, r4)) :
  Calls Tryd.prog 54 #[.bool a0, .slice A1 l1.length c1, .slice A2 l2.length c2] w fun e w' => ∃ v1_ v2_ : Value, e = .returned (.tuple #[.agg #[.bool r1, v1_, v2_], .int .i64 r4]) ∧ Kd.V (Kd.int .u32) 55 w' w.heap.size (fun k_ => (w.heap.size ≤ k_)) v1_ r2 ∧ Kd.V (Kd.int .u32) 55 w' w.heap.size (fun k_ => (w.heap.size ≤ k_)) v2_ r3 ∧ Below w.heap.size w w' := by
 have hu24 := Tryd.underlying24
 have HR1 := am hr1
 have HC1 := am hc1
 clear hr1 hc1
 have HR2 := am hr2
 have HC2 := am hc2
 clear hr2 hc2
 have HB := am (Below.refl w.heap.size w)
 have H := h
 unfold number_made.f at H
 clear h
 replace H := zj H
 obtain ⟨⟨t365, t366, t369⟩, A4, H⟩ := H
 try dsimp only at H
 replace H := zj H
 obtain ⟨⟨t372, t373, t376, t379⟩, A5, H⟩ := H
 try dsimp only at H
 simp only [Option.some.injEq, Prod.mk.injEq] at H
 obtain ⟨rfl, rfl, rfl, rfl⟩ := H
 go_enter Tryd.func54, Tryd.ntmps54
 go_wp2_with (first | ((with_reducible refine gate_dst (N := 6) rfl ?_); refine zbox (N := 6) (cs := #[.bool false, .slice none 0 0, .slice none 0 0]) (t := 24) ?_; intro gb364 hg w6 hbox hb; refine zt3 (below_step zq1 hb) (hbox) ((zs hg (below_size zq1) : w.heap.size ≤ gb364)) ?_; clear HB; intro HB BK364 GW364; have GE364 := GW364; clear hb hbox hg) | ((with_reducible refine gate_callee (f := 78) rfl ?_); refine goesL_ (some 11) rfl rfl Tryd.func78 (by kernel_rfl) rfl #[.bool a0, .slice A1 l1.length c1, .slice A2 l2.length c2] rfl zq5 ?_; (with_reducible refine (number_raw.calls k a0 _ _ l1 _ _ l2 t365 t366 t369 _ ?side1 ?side2 ?side3 ?side4 A4.out).mono ?_); (case side1 => exact zc (Kd.C_below HR1.out HB.out)); (case side2 => exact HC1.out); (case side3 => exact zc (Kd.C_below HR2.out HB.out)); (case side4 => exact HC2.out); rintro e w7 ⟨v367, v370, rfl, ho0, ho1, hb⟩; refine ⟨_, rfl, ?_⟩; refine zt4 (Kd.R_lower (Kd.R_newM (M := fun k_ => (w.heap.size ≤ k_)) ho0 (below_size (zb1 GE364.out)) (fun k_ h_ => h_)) (below_size (zb1 GE364.out))) (Kd.R_lower (Kd.R_newM (M := fun k_ => (w.heap.size ≤ k_)) ho1 (below_size (zb1 GE364.out)) (fun k_ h_ => h_)) (below_size (zb1 GE364.out))) (bb BK364.out hb) (below_step (zb1 GE364.out) hb) ?_; clear BK364 HB; intro HO368 HO371 BK364 HB; (try clear ho1); obtain ⟨Ao8, co8, eo8⟩ := Kd.R_slice HO368.out; subst eo8; obtain ⟨Ao9, co9, eo9⟩ := Kd.R_slice HO371.out; subst eo9) | ((with_reducible refine gate_callee (f := 106) rfl ?_); refine goesL_ (some 12) rfl rfl Tryd.func106 (by kernel_rfl) rfl #[.agg #[.bool t365, .slice Ao8 t366.length co8, .slice Ao9 t369.length co9]] rfl zq5 ?_; (with_reducible refine (number_fits.calls t365 (fun k_ => some k_ = (.slice Ao8 t366.length co8 : Value).ownBlock) _ _ t366 (fun k_ => some k_ = (.slice Ao9 t369.length co9 : Value).ownBlock) _ _ t369 t372 t373 t376 t379 _ ?side1 ?side2 A5.out).mono ?_); (case side1 => exact Kd.R_V (Kd.R_tight rfl (Kd.R_types (HO368.out) BK364.out (by decide)))); (case side2 => exact Kd.R_V (Kd.R_tight rfl (Kd.R_types (HO371.out) BK364.out (by decide)))); rintro e w10 ⟨v374, v377, rfl, ho0, ho1, hb⟩; refine ⟨_, rfl, ?_⟩; refine zt6 (rb HO368 hb) (rb HO371 hb) (Kd.V_lower (Kd.V_mono (ok' := fun k_ => (w.heap.size ≤ k_) ∧ k_ ≠ gb364) ho0 (fun k_ hk_ => ⟨Or.elim hk_ (fun hs_ => Or.elim hs_ (fun hs_ => ((Kd.R_types (HO368.out) BK364.out (by decide)).1 k_ hs_.symm).1.1) (fun hs_ => ((Kd.R_types (HO371.out) BK364.out (by decide)).1 k_ hs_.symm).1.1)) (fun hn_ => (Nat.le_trans (below_size (zb1 GE364.out)) hn_)), Or.elim hk_ (fun hs_ => Or.elim hs_ (fun hs_ => ((Kd.R_types (HO368.out) BK364.out (by decide)).1 k_ hs_.symm).2) (fun hs_ => ((Kd.R_types (HO371.out) BK364.out (by decide)).1 k_ hs_.symm).2)) (fun hn_ => (Kd.freshB (g := gb364) (o := .cells #[.bool false, .slice none 0 0, .slice none 0 0] 24 (0, 0)) (zq2 BK364.out) k_ hn_))⟩)) (below_size (zb1 GE364.out))) (Kd.V_lower (Kd.V_mono (ok' := fun k_ => (w.heap.size ≤ k_) ∧ k_ ≠ gb364) ho1 (fun k_ hk_ => ⟨Or.elim hk_ (fun hs_ => Or.elim hs_ (fun hs_ => ((Kd.R_types (HO368.out) BK364.out (by decide)).1 k_ hs_.symm).1.1) (fun hs_ => ((Kd.R_types (HO371.out) BK364.out (by decide)).1 k_ hs_.symm).1.1)) (fun hn_ => (Nat.le_trans (below_size (zb1 GE364.out)) hn_)), Or.elim hk_ (fun hs_ => Or.elim hs_ (fun hs_ => ((Kd.R_types (HO368.out) BK364.out (by decide)).1 k_ hs_.symm).2) (fun hs_ => ((Kd.R_types (HO371.out) BK364.out (by decide)).1 k_ hs_.symm).2)) (fun hn_ => (Kd.freshB (g := gb364) (o := .cells #[.bool false, .slice none 0 0, .slice none 0 0] 24 (0, 0)) (zq2 BK364.out) k_ hn_))⟩)) (below_size (zb1 GE364.out))) (bb BK364.out hb) (below_step (zb1 GE364.out) hb) ?_; clear HO368 HO371 BK364 HB; intro HO368 HO371 HO375 HO378 BK364 HB; (try clear ho1); have hcz11_0 := bc BK364.out 0 (.bool false); have hcz11_1 := bc BK364.out 1 (.slice none 0 0); have hcz11_2 := bc BK364.out 2 (.slice none 0 0); have hfz11_0 := blk_frozen BK364.out 0; have hfz11_1 := blk_frozen BK364.out 1; have hfz11_2 := blk_frozen BK364.out 2; obtain ⟨Ao12, co12, eo12⟩ := Kd.V_slice HO375.out; subst eo12; obtain ⟨Ao13, co13, eo13⟩ := Kd.V_slice HO378.out; subst eo13))
 refine bodyPost_ret (results_ct rfl _ _ gb364 24 #[.bool t372, .slice Ao12 t373.length co12, .slice Ao13 t376.length co13] (0, 0) _ rfl (by (with_reducible repeat (first | refine blk_drewN ?_ _ | refine blk_drew ?_ | refine blk_alloc ?_ _)); refine blk_put (cs := #[.bool t372, .slice Ao12 t373.length co12, .slice none 0 0]) ?_ 2 _ rfl; (with_reducible repeat (first | refine blk_drewN ?_ _ | refine blk_drew ?_ | refine blk_alloc ?_ _)); refine blk_put (cs := #[.bool t372, .slice none 0 0, .slice none 0 0]) ?_ 1 _ rfl; (with_reducible repeat (first | refine blk_drewN ?_ _ | refine blk_drew ?_ | refine blk_alloc ?_ _)); refine blk_put (cs := #[.bool false, .slice none 0 0, .slice none 0 0]) ?_ 0 _ rfl; (with_reducible repeat (first | refine blk_drewN ?_ _ | refine blk_drew ?_ | refine blk_alloc ?_ _)); exact BK364.out) Tryd.underlying24 rfl (by kernel_rfl)) rfl ?_
 exact ⟨_, _, zq9, zwV (h := by exact Kd.V_mono (zv3 gb364 (.bool t372) (.slice Ao12 t373.length co12) (.slice Ao13 t376.length co13) HO375.out (fun _ hk => hk.2)) (fun _ hk => hk.1.1)), zwV (h := by exact Kd.V_mono (zv3 gb364 (.bool t372) (.slice Ao12 t373.length co12) (.slice Ao13 t376.length co13) HO378.out (fun _ hk => hk.2)) (fun _ hk => hk.1.1)), zb1 GE364.out⟩
def number_Parse.j0 : Nat → ByteArray → Bool → ByteArray → Bool → Bool → Option (Bool × List Int × List Int × Int)
 | 0, _, _, _, _, _ => none
 | k + 1, x4, x5, x6, x7, x34 => if x34 = true then (some (false, ([] : List Int), ([] : List Int), 6)) else (if x7 = true then ((nat_FromDecimal.f k x6).bind fun t391 => (if (t391.length : Int) = 0 then (some (false, ([] : List Int), ([] : List Int), 10)) else ((nat_FromDecimal.f k x4).bind fun t394 => ((number_made.f k x5 t394 t391).bind fun bt397 => (some (bt397.1, bt397.2.1, bt397.2.2.1, bt397.2.2.2)))))) else ((nat_FromDecimal.f k x4).bind fun t405 => ((number_made.f k x5 t405 (([1] : List Int))).bind fun bt408 => (some (bt408.1, bt408.2.1, bt408.2.2.1, bt408.2.2.2)))))
def number_Parse.f (k : Nat) (a0 : ByteArray) : Option (Bool × List Int × List Int × Int) := if (a0.size : Int) > 2500 then (some (false, ([] : List Int), ([] : List Int), 3)) else ((strings_CutPrefix.f a0 (⟨#[45]⟩ : ByteArray)).bind fun bt381 => ((strings_Cut.f bt381.1 (⟨#[114]⟩ : ByteArray)).bind fun bt383 => ((number_digits.f bt383.1).bind fun t386 => (if t386 = true then (if bt383.2.2 = true then ((number_digits.f bt383.2.1).bind fun t387 => (number_Parse.j0 k bt383.1 bt381.2 bt383.2.1 bt383.2.2 (!t387))) else (number_Parse.j0 k bt383.1 bt381.2 bt383.2.1 bt383.2.2 false)) else (number_Parse.j0 k bt383.1 bt381.2 bt383.2.1 bt383.2.2 true)))))
theorem number_Parse.mono_l : ∀ k, (∀ y0 y1 y2 y3 y4, LeO (number_Parse.j0 k y0 y1 y2 y3 y4) (number_Parse.j0 (k + 1) y0 y1 y2 y3 y4))
 | 0 => fun _ _ _ _ _ r h => by simp [number_Parse.j0] at h
 | k + 1 => by
  have ih0 := number_Parse.mono_l k
  ·intro y0 y1 y2 y3 y4
   unfold number_Parse.j0
   have m0 := ih0
   have m1 := @nat_FromDecimal.mono
   have m2 := @number_made.mono
   exact zm
theorem number_Parse.mono : ∀ a0 k, LeO (number_Parse.f k a0) (number_Parse.f (k + 1) a0) := by
 intro a0 k
 have ih0 := number_Parse.mono_l k
 unfold number_Parse.f
 have m0 := ih0
 have m1 := @nat_FromDecimal.mono
 have m2 := @number_made.mono
 exact zm
set_option maxHeartbeats 8000000 in
set_option maxRecDepth 100000 in
theorem number_Parse.calls (k : Nat) (a0 : ByteArray) (r1 : Bool) (r2 : List Int) (r3 : List Int) (r4 : Int) (w : World) (h : number_Parse.f k a0 = some (r1, r2, r3, r4)) :
  Calls Tryd.prog 19 #[.string a0] w fun e w' => ∃ v1_ v2_ : Value, e = .returned (.tuple #[.agg #[.bool r1, v1_, v2_], .int .i64 r4]) ∧ Kd.V (Kd.int .u32) 55 w' w.heap.size (fun k_ => (w.heap.size ≤ k_)) v1_ r2 ∧ Kd.V (Kd.int .u32) 55 w' w.heap.size (fun k_ => (w.heap.size ≤ k_)) v2_ r3 ∧ Below w.heap.size w w' := by
 have hu24 := Tryd.underlying24
 have HB := am (Below.refl w.heap.size w)
 have H := h
 unfold number_Parse.f at H
 clear h
 by_cases c2 : (a0.size : Int) > 2500
 ·rw [if_pos c2] at H
  have c2b0 : decide (2500 < (a0.size : Int)) = true := decide_eq_true c2
  have c2b1 : decide (2500 < a0.size) = true := decide_eq_true (by omega)
  clear c2
  simp only [Option.some.injEq, Prod.mk.injEq] at H
  obtain ⟨rfl, rfl, rfl, rfl⟩ := H
  go_enter Tryd.func19, Tryd.ntmps19
  go_wp2_with (first | ((with_reducible refine gate_dst (N := 2) rfl ?_); refine zbox (N := 2) (cs := #[.bool false, .slice none 0 0, .slice none 0 0]) (t := 24) ?_; intro gb380 hg w3 hbox hb; refine zt3 (below_step zq1 hb) (hbox) ((zs hg (below_size zq1) : w.heap.size ≤ gb380)) ?_; clear HB; intro HB BK380 GW380; have GE380 := GW380; clear hb hbox hg; have hcz4_0 := bc BK380.out 0 (.bool false); have hcz4_1 := bc BK380.out 1 (.slice none 0 0); have hcz4_2 := bc BK380.out 2 (.slice none 0 0); have hfz4_0 := blk_frozen BK380.out 0; have hfz4_1 := blk_frozen BK380.out 1; have hfz4_2 := blk_frozen BK380.out 2))
  refine bodyPost_ret (results_ct rfl _ _ gb380 24 #[.bool false, .slice none 0 0, .slice none 0 0] (0, 0) _ rfl (by (with_reducible repeat (first | refine blk_drewN ?_ _ | refine blk_drew ?_ | refine blk_alloc ?_ _)); refine blk_put (cs := #[.bool false, .slice none 0 0, .slice none 0 0]) ?_ 2 _ rfl; (with_reducible repeat (first | refine blk_drewN ?_ _ | refine blk_drew ?_ | refine blk_alloc ?_ _)); refine blk_put (cs := #[.bool false, .slice none 0 0, .slice none 0 0]) ?_ 1 _ rfl; (with_reducible repeat (first | refine blk_drewN ?_ _ | refine blk_drew ?_ | refine blk_alloc ?_ _)); refine blk_put (cs := #[.bool false, .slice none 0 0, .slice none 0 0]) ?_ 0 _ rfl; (with_reducible repeat (first | refine blk_drewN ?_ _ | refine blk_drew ?_ | refine blk_alloc ?_ _)); exact BK380.out) Tryd.underlying24 rfl (by kernel_rfl)) rfl ?_
  exact ⟨_, _, zq9, Kd.V_nil _ _ _ _ _, Kd.V_nil _ _ _ _ _, zb1 GE380.out⟩
 ·rw [if_neg c2] at H
  have c2b0 : decide (2500 < (a0.size : Int)) = false := decide_eq_false c2
  have c2b1 : decide (2500 < a0.size) = false := decide_eq_false (by omega)
  clear c2
  replace H := zj H
  obtain ⟨⟨t381, t382⟩, A5, H⟩ := H
  try dsimp only at H
  replace H := zj H
  obtain ⟨⟨t383, t384, t385⟩, A6, H⟩ := H
  try dsimp only at H
  have HC7 := am H
  clear H
  go_enter Tryd.func19, Tryd.ntmps19
  go_upto_region 5 with (first | ((with_reducible refine gate_dst (N := 2) rfl ?_); refine zbox (N := 2) (cs := #[.bool false, .slice none 0 0, .slice none 0 0]) (t := 24) ?_; intro gb380 hg w8 hbox hb; refine zt3 (below_step zq1 hb) (hbox) ((zs hg (below_size zq1) : w.heap.size ≤ gb380)) ?_; clear HB; intro HB BK380 GW380; have GE380 := GW380; clear hb hbox hg) | ((with_reducible refine gate_callee (f := 50) rfl ?_); refine goesL_ (some 15) rfl rfl Tryd.func50 (by kernel_rfl) rfl #[.string a0, .string (⟨#[45]⟩ : ByteArray)] rfl zq5 ?_; (with_reducible refine (strings_CutPrefix.calls a0 (⟨#[45]⟩ : ByteArray) t381 t382 _ A5.out).mono ?_); rintro e w' ⟨rfl, ⟨nd, rfl⟩⟩; refine ⟨_, rfl, ?_⟩) | ((with_reducible refine gate_callee (f := 51) rfl ?_); refine goesL_ (some 20) rfl rfl Tryd.func51 (by kernel_rfl) rfl #[.string t381, .string (⟨#[114]⟩ : ByteArray)] rfl zq5 ?_; (with_reducible refine (strings_Cut.calls t381 (⟨#[114]⟩ : ByteArray) t383 t384 t385 _ A6.out).mono ?_); rintro e w' ⟨rfl, ⟨nd, rfl⟩⟩; refine ⟨_, rfl, ?_⟩))
  (try simp only [Act.put, List.setIfInBounds_toArray, List.set_cons_zero, List.set_cons_succ])
  go_cut [34] (fun v34 wc => ∃ (kq : Nat) (x34_6 : Bool), v34 = .bool x34_6 ∧ Aside0 (number_Parse.j0 kq t383 t382 t384 t385 x34_6 = some (r1, r2, r3, r4)) ∧ Aside0 (kq ≤ k) ∧ Aside0 (wc.heap[gb380]? = some (.cells #[.bool false, (.slice none 0 0), (.slice none 0 0)] 24 (0, 0))) ∧ Aside0 (Below w.heap.size w wc))
  case first =>
   have H := HC7.out
   clear HC7
   replace H := zj H
   obtain ⟨t386, A9, H⟩ := H
   by_cases c10 : t386 = true
   ·subst c10
    have H1 : (if t385 = true then ((number_digits.f t384).bind fun t387 => (number_Parse.j0 k t383 t382 t384 t385 (!t387))) else (number_Parse.j0 k t383 t382 t384 t385 false)) = some (r1, r2, r3, r4) := by rw [if_pos rfl] at H; exact H
    clear H
    have H := H1
    clear H1
    by_cases c11 : t385 = true
    ·subst c11
     have H1 : ((number_digits.f t384).bind fun t387 => (number_Parse.j0 k t383 t382 t384 true (!t387))) = some (r1, r2, r3, r4) := by rw [if_pos rfl] at H; exact H
     clear H
     have H := H1
     clear H1
     replace H := zj H
     obtain ⟨t387, A12, H⟩ := H
     have H' := am H
     clear H
     go_wp2_with (first | ((with_reducible refine gate_callee (f := 52) rfl ?_); refine goesL_ (some 25) rfl rfl Tryd.func52 (by kernel_rfl) rfl #[.string t383] rfl zq5 ?_; (with_reducible refine (number_digits.calls t383 true _ A9.out).mono ?_); rintro e w13 ⟨rfl, hb⟩; refine ⟨_, rfl, ?_⟩; refine zt2 (bb BK380.out hb) (below_step (zb1 GE380.out) hb) ?_; clear BK380 HB; intro BK380 HB; (try clear hb); (try clear hb2); (try clear hk); (try clear hi)) | (go_at_call 52; (with_reducible refine (number_digits.calls t384 t387 _ A12.out).mono ?_); rintro e w14 ⟨rfl, hb⟩; refine zt2 (bb BK380.out hb) (below_step (zb1 GE380.out) hb) ?_; clear BK380 HB; intro BK380 HB; (try clear hb); (try clear hb2); (try clear hk); (try clear hi)))
     go_meet
     case rel => exact ⟨_, (!t387), zq8, H', ⟨by first | omega | exact Nat.le_refl _⟩, ⟨zq2 BK380.out⟩, ⟨zb1 GE380.out⟩⟩
    ·replace c11 := Bool.eq_false_iff.mpr c11
     subst c11
     have H1 : (number_Parse.j0 k t383 t382 t384 false false) = some (r1, r2, r3, r4) := by rw [if_neg (show ¬ (false = true) by decide)] at H; exact H
     clear H
     have H := H1
     clear H1
     have H' := am H
     clear H
     go_wp2_with (first | ((with_reducible refine gate_callee (f := 52) rfl ?_); refine goesL_ (some 25) rfl rfl Tryd.func52 (by kernel_rfl) rfl #[.string t383] rfl zq5 ?_; (with_reducible refine (number_digits.calls t383 true _ A9.out).mono ?_); rintro e w15 ⟨rfl, hb⟩; refine ⟨_, rfl, ?_⟩; refine zt2 (bb BK380.out hb) (below_step (zb1 GE380.out) hb) ?_; clear BK380 HB; intro BK380 HB; (try clear hb); (try clear hb2); (try clear hk); (try clear hi)))
     go_meet
     case rel => exact ⟨_, (false), zq8, H', ⟨by first | omega | exact Nat.le_refl _⟩, ⟨zq2 BK380.out⟩, ⟨zb1 GE380.out⟩⟩
   ·replace c10 := Bool.eq_false_iff.mpr c10
    subst c10
    have H1 : (number_Parse.j0 k t383 t382 t384 t385 true) = some (r1, r2, r3, r4) := by rw [if_neg (show ¬ (false = true) by decide)] at H; exact H
    clear H
    have H := H1
    clear H1
    have H' := am H
    clear H
    go_wp2_with (first | ((with_reducible refine gate_callee (f := 52) rfl ?_); refine goesL_ (some 25) rfl rfl Tryd.func52 (by kernel_rfl) rfl #[.string t383] rfl zq5 ?_; (with_reducible refine (number_digits.calls t383 false _ A9.out).mono ?_); rintro e w16 ⟨rfl, hb⟩; refine ⟨_, rfl, ?_⟩; refine zt2 (bb BK380.out hb) (below_step (zb1 GE380.out) hb) ?_; clear BK380 HB; intro BK380 HB; (try clear hb); (try clear hb2); (try clear hk); (try clear hi)))
    go_meet
    case rel => exact ⟨_, (true), zq8, H', ⟨by first | omega | exact Nat.le_refl _⟩, ⟨zq2 BK380.out⟩, ⟨zb1 GE380.out⟩⟩
  case rest =>
   clear HC7
   obtain ⟨kq, x34_6, rfl, HA, HJ6, BK380, HB⟩ := hcut
   cases kq with
   | zero => exact absurd HA.out (by simp [number_Parse.j0])
   | succ kj6 =>
    have H := HA.out
    clear HA
    simp only [number_Parse.j0] at H
    by_cases c17 : x34_6 = true
    ·subst c17
     have H1 : (some (false, ([] : List Int), ([] : List Int), 6)) = some (r1, r2, r3, r4) := by rw [if_pos rfl] at H; exact H
     clear H
     have H := H1
     clear H1
     simp only [Option.some.injEq, Prod.mk.injEq] at H
     obtain ⟨rfl, rfl, rfl, rfl⟩ := H
     have hcz18_0 := bc BK380.out 0 (.bool false)
     have hcz18_1 := bc BK380.out 1 (.slice none 0 0)
     have hcz18_2 := bc BK380.out 2 (.slice none 0 0)
     have hfz18_0 := blk_frozen BK380.out 0
     have hfz18_1 := blk_frozen BK380.out 1
     have hfz18_2 := blk_frozen BK380.out 2
     go_wp2
     refine bodyPost_ret (results_ct rfl _ _ gb380 24 #[.bool false, .slice none 0 0, .slice none 0 0] (0, 0) _ rfl (by (with_reducible repeat (first | refine blk_drewN ?_ _ | refine blk_drew ?_ | refine blk_alloc ?_ _)); refine blk_put (cs := #[.bool false, .slice none 0 0, .slice none 0 0]) ?_ 2 _ rfl; (with_reducible repeat (first | refine blk_drewN ?_ _ | refine blk_drew ?_ | refine blk_alloc ?_ _)); refine blk_put (cs := #[.bool false, .slice none 0 0, .slice none 0 0]) ?_ 1 _ rfl; (with_reducible repeat (first | refine blk_drewN ?_ _ | refine blk_drew ?_ | refine blk_alloc ?_ _)); refine blk_put (cs := #[.bool false, .slice none 0 0, .slice none 0 0]) ?_ 0 _ rfl; (with_reducible repeat (first | refine blk_drewN ?_ _ | refine blk_drew ?_ | refine blk_alloc ?_ _)); exact BK380.out) Tryd.underlying24 rfl (by kernel_rfl)) rfl ?_
     exact ⟨_, _, zq9, Kd.V_nil _ _ _ _ _, Kd.V_nil _ _ _ _ _, zb1 GE380.out⟩
    ·replace c17 := Bool.eq_false_iff.mpr c17
     subst c17
     have H1 : (if t385 = true then ((nat_FromDecimal.f kj6 t384).bind fun t391 => (if (t391.length : Int) = 0 then (some (false, ([] : List Int), ([] : List Int), 10)) else ((nat_FromDecimal.f kj6 t383).bind fun t394 => ((number_made.f kj6 t382 t394 t391).bind fun bt397 => (some (bt397.1, bt397.2.1, bt397.2.2.1, bt397.2.2.2)))))) else ((nat_FromDecimal.f kj6 t383).bind fun t405 => ((number_made.f kj6 t382 t405 (([1] : List Int))).bind fun bt408 => (some (bt408.1, bt408.2.1, bt408.2.2.1, bt408.2.2.2))))) = some (r1, r2, r3, r4) := by rw [if_neg (show ¬ (false = true) by decide)] at H; exact H
     clear H
     have H := H1
     clear H1
     obtain ⟨y388, hy388⟩ : ∃ y_ : List Int, y_ = (([1] : List Int)) := ⟨_, rfl⟩
     try rw [← hy388] at H
     have Ny388 := am hy388
     clear hy388
     by_cases c19 : t385 = true
     ·subst c19
      have H1 : ((nat_FromDecimal.f kj6 t384).bind fun t391 => (if (t391.length : Int) = 0 then (some (false, ([] : List Int), ([] : List Int), 10)) else ((nat_FromDecimal.f kj6 t383).bind fun t394 => ((number_made.f kj6 t382 t394 t391).bind fun bt397 => (some (bt397.1, bt397.2.1, bt397.2.2.1, bt397.2.2.2)))))) = some (r1, r2, r3, r4) := by rw [if_pos rfl] at H; exact H
      clear H
      have H := H1
      clear H1
      replace H := zj H
      obtain ⟨t391, A20, H⟩ := H
      by_cases c21 : (t391.length : Int) = 0
      ·rw [if_pos c21] at H
       have c21b0 : ((t391.length : Int) == 0) = true := beq_iff_eq.mpr c21
       have c21b1 : ((t391.length : Int) != 0) = false := bne_eq_false_iff_eq.mpr c21
       clear c21
       simp only [Option.some.injEq, Prod.mk.injEq] at H
       obtain ⟨rfl, rfl, rfl, rfl⟩ := H
       go_wp2_with (first | ((with_reducible refine gate_dst (N := 36) rfl ?_); refine Kd.R_lit (Kd.int .u32) _ 55 ?hg (N := 36) ?hd (xs := ([1] : List Int)) (inner := [.int .u32 1]) (ok := fun _ => True) (okp := fun _ => True) ?hr ?hp (fun _ hk => hk) trivial (Below.refl _ _) (Nat.le_refl _) (by simp) ?_; (case hd => rfl); (case hg => rfl); (case hr => exact zr); (case hp => exact (Reps.one (show Kd.M (Kd.int .u32) _ _ _ 1 [.int .u32 1] from rfl) (Reps.none _ _))); intro v389 w22 ho23 hb hg_ hnew_; clear hg_ hnew_; (first | rw [← Ny388.out] at ho23 | (simp only [Int.reduceToNat] at ho23; rw [← Ny388.out] at ho23)); refine zt3 (Kd.R_lower (Kd.R_newM (M := fun k_ => (w.heap.size ≤ k_)) ho23 (below_size (zb1 GE380.out)) (fun k_ h_ => h_)) (below_size (zb1 GE380.out))) (bb BK380.out hb) (below_step (zb1 GE380.out) hb) ?_; clear BK380 HB; intro HO390 BK380 HB; clear hb ho23) | ((with_reducible refine gate_callee (f := 53) rfl ?_); refine goesL_ (some 39) rfl rfl Tryd.func53 (by kernel_rfl) rfl #[.string t384] rfl zq5 ?_; (with_reducible refine (nat_FromDecimal.calls kj6 t384 t391 _ A20.out).mono ?_); rintro e w24 ⟨v392, rfl, ho0, hb⟩; refine ⟨_, rfl, ?_⟩; refine zt4 (rb HO390 hb) (Kd.V_lower (Kd.V_mono (ok' := fun k_ => (w.heap.size ≤ k_) ∧ some k_ ≠ (v389 : Value).ownBlock ∧ k_ ≠ gb380) ho0 (fun k_ hk_ => ⟨(Nat.le_trans (below_size (zb1 GE380.out)) hk_), (Kd.fresh' (Kd.R_lt (zq4 HO390.out)) k_ hk_), (Kd.freshB (g := gb380) (o := .cells #[.bool false, .slice none 0 0, .slice none 0 0] 24 (0, 0)) (zq2 BK380.out) k_ hk_)⟩)) (below_size (zb1 GE380.out))) (bb BK380.out hb) (below_step (zb1 GE380.out) hb) ?_; clear HO390 BK380 HB; intro HO390 HO393 BK380 HB; obtain ⟨Ao25, co25, eo25⟩ := Kd.V_slice HO393.out; subst eo25; have hcz26_0 := bc BK380.out 0 (.bool false); have hcz26_1 := bc BK380.out 1 (.slice none 0 0); have hcz26_2 := bc BK380.out 2 (.slice none 0 0); have hfz26_0 := blk_frozen BK380.out 0; have hfz26_1 := blk_frozen BK380.out 1; have hfz26_2 := blk_frozen BK380.out 2))
       refine bodyPost_ret (results_ct rfl _ _ gb380 24 #[.bool false, .slice none 0 0, .slice none 0 0] (0, 0) _ rfl (by (with_reducible repeat (first | refine blk_drewN ?_ _ | refine blk_drew ?_ | refine blk_alloc ?_ _)); refine blk_put (cs := #[.bool false, .slice none 0 0, .slice none 0 0]) ?_ 2 _ rfl; (with_reducible repeat (first | refine blk_drewN ?_ _ | refine blk_drew ?_ | refine blk_alloc ?_ _)); refine blk_put (cs := #[.bool false, .slice none 0 0, .slice none 0 0]) ?_ 1 _ rfl; (with_reducible repeat (first | refine blk_drewN ?_ _ | refine blk_drew ?_ | refine blk_alloc ?_ _)); refine blk_put (cs := #[.bool false, .slice none 0 0, .slice none 0 0]) ?_ 0 _ rfl; (with_reducible repeat (first | refine blk_drewN ?_ _ | refine blk_drew ?_ | refine blk_alloc ?_ _)); exact BK380.out) Tryd.underlying24 rfl (by kernel_rfl)) rfl ?_
       exact ⟨_, _, zq9, Kd.V_nil _ _ _ _ _, Kd.V_nil _ _ _ _ _, zb1 GE380.out⟩
      ·rw [if_neg c21] at H
       have c21b0 : ((t391.length : Int) == 0) = false := beq_eq_false_iff_ne.mpr c21
       have c21b1 : ((t391.length : Int) != 0) = true := bne_iff_ne.mpr c21
       have c21b2 : ¬ (t391 = []) := fun h_ => c21 (by rw [h_]; rfl)
       replace H := zj H
       obtain ⟨t394, A27, H⟩ := H
       replace H := zj H
       obtain ⟨⟨t397, t398, t401, t404⟩, A28, H⟩ := H
       try dsimp only at H
       simp only [Option.some.injEq, Prod.mk.injEq] at H
       obtain ⟨rfl, rfl, rfl, rfl⟩ := H
       go_wp2_with (first | ((with_reducible refine gate_dst (N := 36) rfl ?_); refine Kd.R_lit (Kd.int .u32) _ 55 ?hg (N := 36) ?hd (xs := ([1] : List Int)) (inner := [.int .u32 1]) (ok := fun _ => True) (okp := fun _ => True) ?hr ?hp (fun _ hk => hk) trivial (Below.refl _ _) (Nat.le_refl _) (by simp) ?_; (case hd => rfl); (case hg => rfl); (case hr => exact zr); (case hp => exact (Reps.one (show Kd.M (Kd.int .u32) _ _ _ 1 [.int .u32 1] from rfl) (Reps.none _ _))); intro v389 w29 ho30 hb hg_ hnew_; clear hg_ hnew_; (first | rw [← Ny388.out] at ho30 | (simp only [Int.reduceToNat] at ho30; rw [← Ny388.out] at ho30)); refine zt3 (Kd.R_lower (Kd.R_newM (M := fun k_ => (w.heap.size ≤ k_)) ho30 (below_size (zb1 GE380.out)) (fun k_ h_ => h_)) (below_size (zb1 GE380.out))) (bb BK380.out hb) (below_step (zb1 GE380.out) hb) ?_; clear BK380 HB; intro HO390 BK380 HB; clear hb ho30) | ((with_reducible refine gate_callee (f := 53) rfl ?_); refine goesL_ (some 39) rfl rfl Tryd.func53 (by kernel_rfl) rfl #[.string t384] rfl zq5 ?_; (with_reducible refine (nat_FromDecimal.calls kj6 t384 t391 _ A20.out).mono ?_); rintro e w31 ⟨v392, rfl, ho0, hb⟩; refine ⟨_, rfl, ?_⟩; refine zt4 (rb HO390 hb) (Kd.V_lower (Kd.V_mono (ok' := fun k_ => (w.heap.size ≤ k_) ∧ some k_ ≠ (v389 : Value).ownBlock ∧ k_ ≠ gb380) ho0 (fun k_ hk_ => ⟨(Nat.le_trans (below_size (zb1 GE380.out)) hk_), (Kd.fresh' (Kd.R_lt (zq4 HO390.out)) k_ hk_), (Kd.freshB (g := gb380) (o := .cells #[.bool false, .slice none 0 0, .slice none 0 0] 24 (0, 0)) (zq2 BK380.out) k_ hk_)⟩)) (below_size (zb1 GE380.out))) (bb BK380.out hb) (below_step (zb1 GE380.out) hb) ?_; clear HO390 BK380 HB; intro HO390 HO393 BK380 HB; obtain ⟨Ao32, co32, eo32⟩ := Kd.V_slice HO393.out; subst eo32) | ((with_reducible refine gate_callee (f := 53) rfl ?_); refine goesL_ (some 46) rfl rfl Tryd.func53 (by kernel_rfl) rfl #[.string t383] rfl zq5 ?_; (with_reducible refine (nat_FromDecimal.calls kj6 t383 t394 _ A27.out).mono ?_); rintro e w33 ⟨v395, rfl, ho0, hb⟩; refine ⟨_, rfl, ?_⟩; refine zt5 (rb HO390 hb) (vb HO393 hb) (Kd.V_lower (Kd.V_mono (ok' := fun k_ => (w.heap.size ≤ k_) ∧ some k_ ≠ (v389 : Value).ownBlock ∧ k_ ≠ gb380) ho0 (fun k_ hk_ => ⟨(Nat.le_trans (below_size (zb1 GE380.out)) hk_), (Kd.fresh' (Kd.R_lt (zq4 HO390.out)) k_ hk_), (Kd.freshB (g := gb380) (o := .cells #[.bool false, .slice none 0 0, .slice none 0 0] 24 (0, 0)) (zq2 BK380.out) k_ hk_)⟩)) (below_size (zb1 GE380.out))) (bb BK380.out hb) (below_step (zb1 GE380.out) hb) ?_; clear HO390 HO393 BK380 HB; intro HO390 HO393 HO396 BK380 HB; obtain ⟨Ao34, co34, eo34⟩ := Kd.V_slice HO396.out; subst eo34) | ((with_reducible refine gate_callee (f := 54) rfl ?_); refine goesL_ (some 48) rfl rfl Tryd.func54 (by kernel_rfl) rfl #[.bool t382, .slice Ao34 t394.length co34, .slice Ao32 t391.length co32] rfl zq5 ?_; (with_reducible refine (number_made.calls kj6 t382 _ _ t394 _ _ t391 t397 t398 t401 t404 _ ?side1 ?side2 ?side3 ?side4 A28.out).mono ?_); (case side1 => exact zc ((Kd.V_reads' HO396.out).2.2)); (case side2 => exact (Kd.V_reads' HO396.out).2.1); (case side3 => exact zc ((Kd.V_reads' HO393.out).2.2)); (case side4 => exact (Kd.V_reads' HO393.out).2.1); rintro e w35 ⟨v399, v402, rfl, ho0, ho1, hb⟩; refine ⟨_, rfl, ?_⟩; refine zt7 (rb HO390 hb) (vb HO393 hb) (vb HO396 hb) (Kd.V_lower (Kd.V_mono (ok' := fun k_ => (w.heap.size ≤ k_) ∧ some k_ ≠ (v389 : Value).ownBlock ∧ k_ ≠ gb380) ho0 (fun k_ hk_ => ⟨(Nat.le_trans (below_size (zb1 GE380.out)) hk_), (Kd.fresh' (Kd.R_lt (zq4 HO390.out)) k_ hk_), (Kd.freshB (g := gb380) (o := .cells #[.bool false, .slice none 0 0, .slice none 0 0] 24 (0, 0)) (zq2 BK380.out) k_ hk_)⟩)) (below_size (zb1 GE380.out))) (Kd.V_lower (Kd.V_mono (ok' := fun k_ => (w.heap.size ≤ k_) ∧ some k_ ≠ (v389 : Value).ownBlock ∧ k_ ≠ gb380) ho1 (fun k_ hk_ => ⟨(Nat.le_trans (below_size (zb1 GE380.out)) hk_), (Kd.fresh' (Kd.R_lt (zq4 HO390.out)) k_ hk_), (Kd.freshB (g := gb380) (o := .cells #[.bool false, .slice none 0 0, .slice none 0 0] 24 (0, 0)) (zq2 BK380.out) k_ hk_)⟩)) (below_size (zb1 GE380.out))) (bb BK380.out hb) (below_step (zb1 GE380.out) hb) ?_; clear HO390 HO393 HO396 BK380 HB; intro HO390 HO393 HO396 HO400 HO403 BK380 HB; (try clear ho1); have hcz36_0 := bc BK380.out 0 (.bool false); have hcz36_1 := bc BK380.out 1 (.slice none 0 0); have hcz36_2 := bc BK380.out 2 (.slice none 0 0); have hfz36_0 := blk_frozen BK380.out 0; have hfz36_1 := blk_frozen BK380.out 1; have hfz36_2 := blk_frozen BK380.out 2; obtain ⟨Ao37, co37, eo37⟩ := Kd.V_slice HO400.out; subst eo37; obtain ⟨Ao38, co38, eo38⟩ := Kd.V_slice HO403.out; subst eo38))
       refine bodyPost_ret (results_ct rfl _ _ gb380 24 #[.bool t397, .slice Ao37 t398.length co37, .slice Ao38 t401.length co38] (0, 0) _ rfl (by (with_reducible repeat (first | refine blk_drewN ?_ _ | refine blk_drew ?_ | refine blk_alloc ?_ _)); refine blk_put (cs := #[.bool t397, .slice Ao37 t398.length co37, .slice none 0 0]) ?_ 2 _ rfl; (with_reducible repeat (first | refine blk_drewN ?_ _ | refine blk_drew ?_ | refine blk_alloc ?_ _)); refine blk_put (cs := #[.bool t397, .slice none 0 0, .slice none 0 0]) ?_ 1 _ rfl; (with_reducible repeat (first | refine blk_drewN ?_ _ | refine blk_drew ?_ | refine blk_alloc ?_ _)); refine blk_put (cs := #[.bool false, .slice none 0 0, .slice none 0 0]) ?_ 0 _ rfl; (with_reducible repeat (first | refine blk_drewN ?_ _ | refine blk_drew ?_ | refine blk_alloc ?_ _)); exact BK380.out) Tryd.underlying24 rfl (by kernel_rfl)) rfl ?_
       exact ⟨_, _, zq9, zwV (h := by exact Kd.V_mono (zv3 gb380 (.bool t397) (.slice Ao37 t398.length co37) (.slice Ao38 t401.length co38) HO400.out (fun _ hk => hk.2.2)) (fun _ hk => hk.1.1)), zwV (h := by exact Kd.V_mono (zv3 gb380 (.bool t397) (.slice Ao37 t398.length co37) (.slice Ao38 t401.length co38) HO403.out (fun _ hk => hk.2.2)) (fun _ hk => hk.1.1)), zb1 GE380.out⟩
     ·replace c19 := Bool.eq_false_iff.mpr c19
      subst c19
      have H1 : ((nat_FromDecimal.f kj6 t383).bind fun t405 => ((number_made.f kj6 t382 t405 y388).bind fun bt408 => (some (bt408.1, bt408.2.1, bt408.2.2.1, bt408.2.2.2)))) = some (r1, r2, r3, r4) := by rw [if_neg (show ¬ (false = true) by decide)] at H; exact H
      clear H
      have H := H1
      clear H1
      replace H := zj H
      obtain ⟨t405, A39, H⟩ := H
      replace H := zj H
      obtain ⟨⟨t408, t409, t412, t415⟩, A40, H⟩ := H
      try dsimp only at H
      simp only [Option.some.injEq, Prod.mk.injEq] at H
      obtain ⟨rfl, rfl, rfl, rfl⟩ := H
      go_wp2_with (first | ((with_reducible refine gate_dst (N := 36) rfl ?_); refine Kd.R_lit (Kd.int .u32) _ 55 ?hg (N := 36) ?hd (xs := ([1] : List Int)) (inner := [.int .u32 1]) (ok := fun _ => True) (okp := fun _ => True) ?hr ?hp (fun _ hk => hk) trivial (Below.refl _ _) (Nat.le_refl _) (by simp) ?_; (case hd => rfl); (case hg => rfl); (case hr => exact zr); (case hp => exact (Reps.one (show Kd.M (Kd.int .u32) _ _ _ 1 [.int .u32 1] from rfl) (Reps.none _ _))); intro v389 w41 ho42 hb hg_ hnew_; clear hg_ hnew_; (first | rw [← Ny388.out] at ho42 | (simp only [Int.reduceToNat] at ho42; rw [← Ny388.out] at ho42)); refine zt3 (Kd.R_lower (Kd.R_newM (M := fun k_ => (w.heap.size ≤ k_)) ho42 (below_size (zb1 GE380.out)) (fun k_ h_ => h_)) (below_size (zb1 GE380.out))) (bb BK380.out hb) (below_step (zb1 GE380.out) hb) ?_; clear BK380 HB; intro HO390 BK380 HB; clear hb ho42) | ((with_reducible refine gate_callee (f := 53) rfl ?_); refine goesL_ (some 46) rfl rfl Tryd.func53 (by kernel_rfl) rfl #[.string t383] rfl zq5 ?_; (with_reducible refine (nat_FromDecimal.calls kj6 t383 t405 _ A39.out).mono ?_); rintro e w43 ⟨v406, rfl, ho0, hb⟩; refine ⟨_, rfl, ?_⟩; refine zt4 (rb HO390 hb) (Kd.V_lower (Kd.V_mono (ok' := fun k_ => (w.heap.size ≤ k_) ∧ some k_ ≠ (v389 : Value).ownBlock ∧ k_ ≠ gb380) ho0 (fun k_ hk_ => ⟨(Nat.le_trans (below_size (zb1 GE380.out)) hk_), (Kd.fresh' (Kd.R_lt (zq4 HO390.out)) k_ hk_), (Kd.freshB (g := gb380) (o := .cells #[.bool false, .slice none 0 0, .slice none 0 0] 24 (0, 0)) (zq2 BK380.out) k_ hk_)⟩)) (below_size (zb1 GE380.out))) (bb BK380.out hb) (below_step (zb1 GE380.out) hb) ?_; clear HO390 BK380 HB; intro HO390 HO407 BK380 HB; obtain ⟨Ao44, co44, eo44⟩ := Kd.V_slice HO407.out; subst eo44; obtain ⟨Ao45, co45, eo45⟩ := Kd.R_slice HO390.out; subst eo45) | ((with_reducible refine gate_callee (f := 54) rfl ?_); refine goesL_ (some 48) rfl rfl Tryd.func54 (by kernel_rfl) rfl #[.bool t382, .slice Ao44 t405.length co44, .slice Ao45 y388.length co45] rfl zq5 ?_; (with_reducible refine (number_made.calls kj6 t382 _ _ t405 _ _ y388 t408 t409 t412 t415 _ ?side1 ?side2 ?side3 ?side4 A40.out).mono ?_); (case side1 => exact zc ((Kd.V_reads' HO407.out).2.2)); (case side2 => exact (Kd.V_reads' HO407.out).2.1); (case side3 => exact zc ((Kd.R_reads' HO390.out).2.2)); (case side4 => exact (Kd.R_reads' HO390.out).2.1); rintro e w46 ⟨v410, v413, rfl, ho0, ho1, hb⟩; refine ⟨_, rfl, ?_⟩; refine zt6 (rb HO390 hb) (vb HO407 hb) (Kd.V_lower (Kd.V_mono (ok' := fun k_ => (w.heap.size ≤ k_) ∧ some k_ ≠ (.slice Ao45 y388.length co45 : Value).ownBlock ∧ k_ ≠ gb380) ho0 (fun k_ hk_ => ⟨(Nat.le_trans (below_size (zb1 GE380.out)) hk_), (Kd.fresh' (Kd.R_lt (zq4 HO390.out)) k_ hk_), (Kd.freshB (g := gb380) (o := .cells #[.bool false, .slice none 0 0, .slice none 0 0] 24 (0, 0)) (zq2 BK380.out) k_ hk_)⟩)) (below_size (zb1 GE380.out))) (Kd.V_lower (Kd.V_mono (ok' := fun k_ => (w.heap.size ≤ k_) ∧ some k_ ≠ (.slice Ao45 y388.length co45 : Value).ownBlock ∧ k_ ≠ gb380) ho1 (fun k_ hk_ => ⟨(Nat.le_trans (below_size (zb1 GE380.out)) hk_), (Kd.fresh' (Kd.R_lt (zq4 HO390.out)) k_ hk_), (Kd.freshB (g := gb380) (o := .cells #[.bool false, .slice none 0 0, .slice none 0 0] 24 (0, 0)) (zq2 BK380.out) k_ hk_)⟩)) (below_size (zb1 GE380.out))) (bb BK380.out hb) (below_step (zb1 GE380.out) hb) ?_; clear HO390 HO407 BK380 HB; intro HO390 HO407 HO411 HO414 BK380 HB; (try clear ho1); have hcz47_0 := bc BK380.out 0 (.bool false); have hcz47_1 := bc BK380.out 1 (.slice none 0 0); have hcz47_2 := bc BK380.out 2 (.slice none 0 0); have hfz47_0 := blk_frozen BK380.out 0; have hfz47_1 := blk_frozen BK380.out 1; have hfz47_2 := blk_frozen BK380.out 2; obtain ⟨Ao48, co48, eo48⟩ := Kd.V_slice HO411.out; subst eo48; obtain ⟨Ao49, co49, eo49⟩ := Kd.V_slice HO414.out; subst eo49))
      refine bodyPost_ret (results_ct rfl _ _ gb380 24 #[.bool t408, .slice Ao48 t409.length co48, .slice Ao49 t412.length co49] (0, 0) _ rfl (by (with_reducible repeat (first | refine blk_drewN ?_ _ | refine blk_drew ?_ | refine blk_alloc ?_ _)); refine blk_put (cs := #[.bool t408, .slice Ao48 t409.length co48, .slice none 0 0]) ?_ 2 _ rfl; (with_reducible repeat (first | refine blk_drewN ?_ _ | refine blk_drew ?_ | refine blk_alloc ?_ _)); refine blk_put (cs := #[.bool t408, .slice none 0 0, .slice none 0 0]) ?_ 1 _ rfl; (with_reducible repeat (first | refine blk_drewN ?_ _ | refine blk_drew ?_ | refine blk_alloc ?_ _)); refine blk_put (cs := #[.bool false, .slice none 0 0, .slice none 0 0]) ?_ 0 _ rfl; (with_reducible repeat (first | refine blk_drewN ?_ _ | refine blk_drew ?_ | refine blk_alloc ?_ _)); exact BK380.out) Tryd.underlying24 rfl (by kernel_rfl)) rfl ?_
      exact ⟨_, _, zq9, zwV (h := by exact Kd.V_mono (zv3 gb380 (.bool t408) (.slice Ao48 t409.length co48) (.slice Ao49 t412.length co49) HO411.out (fun _ hk => hk.2.2)) (fun _ hk => hk.1.1)), zwV (h := by exact Kd.V_mono (zv3 gb380 (.bool t408) (.slice Ao48 t409.length co48) (.slice Ao49 t412.length co49) HO414.out (fun _ hk => hk.2.2)) (fun _ hk => hk.1.1)), zb1 GE380.out⟩
def number_check.l0 : Nat → List (S24) → Int → Int → Option (Int)
 | 0, _, _, _ => none
 | k + 1, x6, x7, x8 => if x8 < x7 then (if 0 ≤ x8 then (if x8 < (x6.length : Int) then ((number_Check.f k ((rd_T24 x6 x8).f0) ((rd_T24 x6 x8).f1) ((rd_T24 x6 x8).f2)).bind fun t418 => (if t418 = 0 then (number_check.l0 k x6 x7 (wrap64 (x8 + 1))) else (some t418))) else (none)) else (none)) else (some 0)
def number_check.f (k : Nat) (l0 : List (S24)) : Option (Int) := number_check.l0 k l0 (l0.length : Int) 0
theorem number_check.mono_l : ∀ k, (∀ y0 y1 y2, LeO (number_check.l0 k y0 y1 y2) (number_check.l0 (k + 1) y0 y1 y2))
 | 0 => fun _ _ _ r h => by simp [number_check.l0] at h
 | k + 1 => by
  have ih0 := number_check.mono_l k
  ·intro y0 y1 y2
   unfold number_check.l0
   have m0 := ih0
   have m1 := @number_Check.mono
   exact zm
theorem number_check.mono : ∀ a0 k, LeO (number_check.f k a0) (number_check.f (k + 1) a0) := by
 intro a0 k
 have ih0 := number_check.mono_l k
 unfold number_check.f
 have m0 := ih0
 have m1 := @number_Check.mono
 exact zm
set_option maxHeartbeats 8000000 in
set_option maxRecDepth 100000 in
theorem number_check.calls (k : Nat) (A0 : Option Addr) (c0 : Nat) (l0 : List (S24)) (r : Int) (w : World) (hr0 : Kd.C k24 w A0 l0.length l0) (hc0 : l0.length ≤ c0) (h : number_check.f k l0 = some r) :
  Calls Tryd.prog 61 #[.slice A0 l0.length c0] w fun e w' => e = .returned (.int .i64 r) ∧ Below w.heap.size w w' := by
 have hu24 := Tryd.underlying24
 have HR0 := am hr0
 have HC0 := am hc0
 clear hr0 hc0
 have HB := am (Below.refl w.heap.size w)
 have H := h
 unfold number_check.f at H
 clear h
 have H' := am H
 clear H
 go_enter Tryd.func61, Tryd.ntmps61
 go_wp2
 go_loopg [8] k (fun kq v8 w' => ∃ (x8_1 : Int), v8 = .int .i64 x8_1 ∧ Aside0 (number_check.l0 kq l0 (l0.length : Int) x8_1 = some r) ∧ Aside0 (kq ≤ k) ∧ Aside0 (Below w.heap.size w w'))
 case atStart => exact ⟨(0), zq8, H', ⟨Nat.le_refl _⟩, ⟨zq1⟩⟩
 case round =>
  clear H'
  obtain ⟨x8_1, rfl, HA, HK1, HB⟩ := hrel
  cases gk with
  | zero => exact absurd HA.out (by simp [number_check.l0])
  | succ k1 =>
   have H := HA.out
   clear HA
   simp only [number_check.l0] at H
   by_cases c2 : x8_1 < (l0.length : Int)
   ·rw [if_pos c2] at H
    have c2b0 := decide_eq_true c2
    clear c2
    replace H := zn H
    obtain ⟨c3, H⟩ := H
    have c3b0 := decide_eq_true c3
    clear c3
    replace H := zn H
    obtain ⟨c4, H⟩ := H
    have c4b0 := decide_eq_true c4
    clear c4
    replace H := zj H
    obtain ⟨t418, A5, H⟩ := H
    by_cases c6 : t418 = 0
    ·rw [if_pos c6] at H
     have c6b0 : (t418 == 0) = true := beq_iff_eq.mpr c6
     have c6b1 : (t418 != 0) = false := bne_eq_false_iff_eq.mpr c6
     clear c6
     have H' := am H
     clear H
     have p416 : 0 ≤ (x8_1 : Int) := zq6
     have q416 : x8_1 < (l0.length : Int) := zq6
     obtain ⟨ad416, A416_1, c416_1, A416_2, c416_2, e416, hx416_0, hx416_1, hx416_2, hl416_1, hi416_1, hl416_2, hi416_2⟩ := at_T24 HR0.out x8_1 p416 q416
     cases e416
     replace hx416_0 := (HB.out.cell (World.block_lt_of_cell? w _ hx416_0)).trans hx416_0
     replace hx416_1 := (HB.out.cell (World.block_lt_of_cell? w _ hx416_1)).trans hx416_1
     replace hx416_2 := (HB.out.cell (World.block_lt_of_cell? w _ hx416_2)).trans hx416_2
     have HR416_1 := am hi416_1
     have HC416_1 := am hl416_1
     clear hi416_1 hl416_1
     have HR416_2 := am hi416_2
     have HC416_2 := am hl416_2
     clear hi416_2 hl416_2
     replace p416 := eq_true p416
     replace q416 := eq_true q416
     go_wp2_with (first | ((with_reducible refine gate_dst (N := 4) rfl ?_); refine zbox (N := 4) (cs := #[.bool false, .slice none 0 0, .slice none 0 0]) (t := 24) ?_; intro gb417 hg w7 hbox hb; refine zt3 (below_step zq1 hb) (hbox) ((zs hg (below_size zq1) : w.heap.size ≤ gb417)) ?_; clear HB; intro HB BK417 GW417; have GE417 := GW417; clear hb hbox hg; have hcz8_0 := bc BK417.out 0 (.bool false); have hcz8_1 := bc BK417.out 1 (.slice none 0 0); have hcz8_2 := bc BK417.out 2 (.slice none 0 0); have hfz8_0 := blk_frozen BK417.out 0; have hfz8_1 := blk_frozen BK417.out 1; have hfz8_2 := blk_frozen BK417.out 2) | ((with_reducible refine gate_callee (f := 14) rfl ?_); refine goesL_ (some 13) rfl rfl Tryd.func14 (by kernel_rfl) rfl #[.agg #[.bool ((rd_T24 l0 x8_1).f0), .slice A416_1 ((rd_T24 l0 x8_1).f1).length c416_1, .slice A416_2 ((rd_T24 l0 x8_1).f2).length c416_2]] rfl zq5 ?_; (with_reducible refine (number_Check.calls k1 ((rd_T24 l0 x8_1).f0) _ _ ((rd_T24 l0 x8_1).f1) _ _ ((rd_T24 l0 x8_1).f2) t418 _ ?side1 ?side2 ?side3 ?side4 A5.out).mono ?_); (case side1 => exact Kd.C_below HR416_1.out (zb1 GE417.out)); (case side2 => exact HC416_1.out); (case side3 => exact Kd.C_below HR416_2.out (zb1 GE417.out)); (case side4 => exact HC416_2.out); rintro e w9 ⟨rfl, hb⟩; refine ⟨_, rfl, ?_⟩; refine zt2 (blk_below (g := gb417) (o := .cells #[.bool ((rd_T24 l0 x8_1).f0), .slice A416_1 ((rd_T24 l0 x8_1).f1).length c416_1, .slice A416_2 ((rd_T24 l0 x8_1).f2).length c416_2] 24 (0, 0)) (by (with_reducible repeat (first | refine blk_drewN ?_ _ | refine blk_drew ?_ | refine blk_alloc ?_ _)); refine blk_put (cs := #[.bool ((rd_T24 l0 x8_1).f0), .slice A416_1 ((rd_T24 l0 x8_1).f1).length c416_1, .slice none 0 0]) ?_ 2 _ rfl; (with_reducible repeat (first | refine blk_drewN ?_ _ | refine blk_drew ?_ | refine blk_alloc ?_ _)); refine blk_put (cs := #[.bool ((rd_T24 l0 x8_1).f0), .slice none 0 0, .slice none 0 0]) ?_ 1 _ rfl; (with_reducible repeat (first | refine blk_drewN ?_ _ | refine blk_drew ?_ | refine blk_alloc ?_ _)); refine blk_put (cs := #[.bool false, .slice none 0 0, .slice none 0 0]) ?_ 0 _ rfl; (with_reducible repeat (first | refine blk_drewN ?_ _ | refine blk_drew ?_ | refine blk_alloc ?_ _)); exact BK417.out) hb) (below_step (zb1 GE417.out) hb) ?_; clear BK417 HB; intro BK417 HB; (try clear hb); (try clear hb2); (try clear hk); (try clear hi)))
     go_roundg k1
     case measure => have := HK1.out; omega
     case rel => exact ⟨(wrap64 (x8_1 + 1)), zq8, H', ⟨by have := HK1.out; omega⟩, ⟨zb1 GE417.out⟩⟩
    ·rw [if_neg c6] at H
     have c6b0 : (t418 == 0) = false := beq_eq_false_iff_ne.mpr c6
     have c6b1 : (t418 != 0) = true := bne_iff_ne.mpr c6
     obtain rfl := Option.some.inj H
     have p416 : 0 ≤ (x8_1 : Int) := zq6
     have q416 : x8_1 < (l0.length : Int) := zq6
     obtain ⟨ad416, A416_1, c416_1, A416_2, c416_2, e416, hx416_0, hx416_1, hx416_2, hl416_1, hi416_1, hl416_2, hi416_2⟩ := at_T24 HR0.out x8_1 p416 q416
     cases e416
     replace hx416_0 := (HB.out.cell (World.block_lt_of_cell? w _ hx416_0)).trans hx416_0
     replace hx416_1 := (HB.out.cell (World.block_lt_of_cell? w _ hx416_1)).trans hx416_1
     replace hx416_2 := (HB.out.cell (World.block_lt_of_cell? w _ hx416_2)).trans hx416_2
     have HR416_1 := am hi416_1
     have HC416_1 := am hl416_1
     clear hi416_1 hl416_1
     have HR416_2 := am hi416_2
     have HC416_2 := am hl416_2
     clear hi416_2 hl416_2
     replace p416 := eq_true p416
     replace q416 := eq_true q416
     go_wp2_with (first | ((with_reducible refine gate_dst (N := 4) rfl ?_); refine zbox (N := 4) (cs := #[.bool false, .slice none 0 0, .slice none 0 0]) (t := 24) ?_; intro gb417 hg w10 hbox hb; refine zt3 (below_step zq1 hb) (hbox) ((zs hg (below_size zq1) : w.heap.size ≤ gb417)) ?_; clear HB; intro HB BK417 GW417; have GE417 := GW417; clear hb hbox hg; have hcz11_0 := bc BK417.out 0 (.bool false); have hcz11_1 := bc BK417.out 1 (.slice none 0 0); have hcz11_2 := bc BK417.out 2 (.slice none 0 0); have hfz11_0 := blk_frozen BK417.out 0; have hfz11_1 := blk_frozen BK417.out 1; have hfz11_2 := blk_frozen BK417.out 2) | ((with_reducible refine gate_callee (f := 14) rfl ?_); refine goesL_ (some 13) rfl rfl Tryd.func14 (by kernel_rfl) rfl #[.agg #[.bool ((rd_T24 l0 x8_1).f0), .slice A416_1 ((rd_T24 l0 x8_1).f1).length c416_1, .slice A416_2 ((rd_T24 l0 x8_1).f2).length c416_2]] rfl zq5 ?_; (with_reducible refine (number_Check.calls k1 ((rd_T24 l0 x8_1).f0) _ _ ((rd_T24 l0 x8_1).f1) _ _ ((rd_T24 l0 x8_1).f2) t418 _ ?side1 ?side2 ?side3 ?side4 A5.out).mono ?_); (case side1 => exact Kd.C_below HR416_1.out (zb1 GE417.out)); (case side2 => exact HC416_1.out); (case side3 => exact Kd.C_below HR416_2.out (zb1 GE417.out)); (case side4 => exact HC416_2.out); rintro e w12 ⟨rfl, hb⟩; refine ⟨_, rfl, ?_⟩; refine zt2 (blk_below (g := gb417) (o := .cells #[.bool ((rd_T24 l0 x8_1).f0), .slice A416_1 ((rd_T24 l0 x8_1).f1).length c416_1, .slice A416_2 ((rd_T24 l0 x8_1).f2).length c416_2] 24 (0, 0)) (by (with_reducible repeat (first | refine blk_drewN ?_ _ | refine blk_drew ?_ | refine blk_alloc ?_ _)); refine blk_put (cs := #[.bool ((rd_T24 l0 x8_1).f0), .slice A416_1 ((rd_T24 l0 x8_1).f1).length c416_1, .slice none 0 0]) ?_ 2 _ rfl; (with_reducible repeat (first | refine blk_drewN ?_ _ | refine blk_drew ?_ | refine blk_alloc ?_ _)); refine blk_put (cs := #[.bool ((rd_T24 l0 x8_1).f0), .slice none 0 0, .slice none 0 0]) ?_ 1 _ rfl; (with_reducible repeat (first | refine blk_drewN ?_ _ | refine blk_drew ?_ | refine blk_alloc ?_ _)); refine blk_put (cs := #[.bool false, .slice none 0 0, .slice none 0 0]) ?_ 0 _ rfl; (with_reducible repeat (first | refine blk_drewN ?_ _ | refine blk_drew ?_ | refine blk_alloc ?_ _)); exact BK417.out) hb) (below_step (zb1 GE417.out) hb) ?_; clear BK417 HB; intro BK417 HB; (try clear hb); (try clear hb2); (try clear hk); (try clear hi)))
     go_ret
     exact ⟨zq9, zb1 GE417.out⟩
   ·rw [if_neg c2] at H
    have c2b0 := decide_eq_false c2
    clear c2
    obtain rfl := Option.some.inj H
    go_wp2
    go_ret
    exact ⟨zq9, zq1⟩
def nat_Add.l0 : Nat → List Int → List (List Int) → Int → Int → Option (List Int)
 | 0, _, _, _, _ => none
 | k + 1, x3, x6, x7, x8 => if x8 < x7 then (if 0 ≤ x8 then (if x8 < (x6.length : Int) then ((nat_plus.f k x3 (rd_L3 x6 x8)).bind fun t420 => (nat_Add.l0 k t420 x6 x7 (wrap64 (x8 + 1)))) else (none)) else (none)) else (some x3)
def nat_Add.f (k : Nat) (l0 : List (List Int)) : Option (List Int) := nat_Add.l0 k ([] : List Int) l0 (l0.length : Int) 0
theorem nat_Add.mono_l : ∀ k, (∀ y0 y1 y2 y3, LeO (nat_Add.l0 k y0 y1 y2 y3) (nat_Add.l0 (k + 1) y0 y1 y2 y3))
 | 0 => fun _ _ _ _ r h => by simp [nat_Add.l0] at h
 | k + 1 => by
  have ih0 := nat_Add.mono_l k
  ·intro y0 y1 y2 y3
   unfold nat_Add.l0
   have m0 := ih0
   have m1 := @nat_plus.mono
   exact zm
theorem nat_Add.mono : ∀ a0 k, LeO (nat_Add.f k a0) (nat_Add.f (k + 1) a0) := by
 intro a0 k
 have ih0 := nat_Add.mono_l k
 unfold nat_Add.f
 have m0 := ih0
 have m1 := @nat_plus.mono
 exact zm
set_option maxHeartbeats 8000000 in
set_option maxRecDepth 100000 in
theorem nat_Add.calls (k : Nat) (A0 : Option Addr) (c0 : Nat) (l0 : List (List Int)) (r : List Int) (w : World) (hr0 : Kd.C (Kd.slice 55 (Kd.int .u32)) w A0 l0.length l0) (hc0 : l0.length ≤ c0) (h : nat_Add.f k l0 = some r) :
  Calls Tryd.prog 93 #[.slice A0 l0.length c0] w fun e w' => ∃ v0_ : Value, e = .returned (v0_) ∧ Kd.V (Kd.int .u32) 55 w' w.heap.size (fun k_ => (w.heap.size ≤ k_)) v0_ r ∧ Below w.heap.size w w' := by
 have HR0 := am hr0
 have HC0 := am hc0
 clear hr0 hc0
 have HB := am (Below.refl w.heap.size w)
 have H := h
 unfold nat_Add.f at H
 clear h
 have H' := am H
 clear H
 go_enter Tryd.func93, Tryd.ntmps93
 go_wp2
 go_loopg [3, 8] k (fun kq v3 v8 w' => ∃ (x3_1 : List Int) (x8_1 : Int), v8 = .int .i64 x8_1 ∧ Aside0 (nat_Add.l0 kq x3_1 l0 (l0.length : Int) x8_1 = some r) ∧ Aside0 (kq ≤ k) ∧ Aside0 (Kd.V (Kd.int .u32) 55 w' w.heap.size (fun k_ => (w.heap.size ≤ k_)) v3 x3_1) ∧ Aside0 (Below w.heap.size w w'))
 case atStart => exact ⟨(([] : List Int)), (0), zq8, H', ⟨Nat.le_refl _⟩, ⟨Kd.V_nil _ _ _ _ _⟩, ⟨zq1⟩⟩
 case round =>
  clear H'
  obtain ⟨x3_1, x8_1, rfl, HA, HK1, HO_3, HB⟩ := hrel
  cases gk with
  | zero => exact absurd HA.out (by simp [nat_Add.l0])
  | succ k1 =>
   have H := HA.out
   clear HA
   simp only [nat_Add.l0] at H
   by_cases c2 : x8_1 < (l0.length : Int)
   ·rw [if_pos c2] at H
    have c2b0 := decide_eq_true c2
    clear c2
    replace H := zn H
    obtain ⟨c3, H⟩ := H
    have c3b0 := decide_eq_true c3
    clear c3
    replace H := zn H
    obtain ⟨c4, H⟩ := H
    have c4b0 := decide_eq_true c4
    clear c4
    replace H := zj H
    obtain ⟨t420, A5, H⟩ := H
    have H' := am H
    clear H
    have p419 : 0 ≤ (x8_1 : Int) := zq6
    have q419 : x8_1 < (l0.length : Int) := zq6
    obtain ⟨ad419, A419_0, c419_0, e419, hx419_0, hl419_0, hi419_0⟩ := at_L3 HR0.out x8_1 p419 q419
    cases e419
    replace hx419_0 := (HB.out.cell (World.block_lt_of_cell? w _ hx419_0)).trans hx419_0
    have HR419_0 := am hi419_0
    have HC419_0 := am hl419_0
    clear hi419_0 hl419_0
    replace p419 := eq_true p419
    replace q419 := eq_true q419
    obtain ⟨Ao6, co6, eo6⟩ := Kd.V_slice HO_3.out
    subst eo6
    go_wp2_with (first | ((with_reducible refine gate_callee (f := 105) rfl ?_); refine goesL_ (some 14) rfl rfl Tryd.func105 (by kernel_rfl) rfl #[.slice Ao6 x3_1.length co6, .slice A419_0 (rd_L3 l0 x8_1).length c419_0] rfl zq5 ?_; (with_reducible refine (nat_plus.calls k1 _ _ x3_1 _ _ (rd_L3 l0 x8_1) t420 _ ?side1 ?side2 ?side3 ?side4 A5.out).mono ?_); (case side1 => exact zc ((Kd.V_reads' HO_3.out).2.2)); (case side2 => exact (Kd.V_reads' HO_3.out).2.1); (case side3 => exact zc (Kd.C_below HR419_0.out HB.out)); (case side4 => exact HC419_0.out); rintro e w7 ⟨v421, rfl, ho0, hb⟩; refine ⟨_, rfl, ?_⟩; refine zt3 (vb HO_3 hb) (Kd.V_lower (Kd.V_mono (ok' := fun k_ => (w.heap.size ≤ k_)) ho0 (fun k_ hk_ => (Nat.le_trans (below_size zq1) hk_))) (below_size zq1)) (below_step zq1 hb) ?_; clear HO_3 HB; intro HO_3 HO422 HB))
    go_roundg k1
    case measure => have := HK1.out; omega
    case rel => exact ⟨(t420), (wrap64 (x8_1 + 1)), zq8, H', ⟨by have := HK1.out; omega⟩, ⟨zq3 HO422.out⟩, ⟨zq1⟩⟩
   ·rw [if_neg c2] at H
    have c2b0 := decide_eq_false c2
    clear c2
    obtain rfl := Option.some.inj H
    go_wp2
    go_ret
    exact ⟨_, zq9, zq3 HO_3.out, zq1⟩
def nat_Sub.l0 : Nat → List Int → List Int → Int → Int → Int → Option (List Int)
 | 0, _, _, _, _, _ => none
 | k + 1, x1, x5, x6, x12, x13 => if x13 < x12 then (if 0 ≤ x13 then (if x13 < (x5.length : Int) then (if x13 < (x1.length : Int) then (nat_Sub.l0 k x1 (x5.set (x13 : Int).toNat ((IntKind.u64.wrap ((IntKind.u64.wrap ((IntKind.u64.wrap (rd x5 x13)) - x6)) - (IntKind.u64.wrap (rd x1 x13)))) % 4294967296)) (Go.bits .and .u64 ((IntKind.u64.wrap ((IntKind.u64.wrap ((IntKind.u64.wrap (rd x5 x13)) - x6)) - (IntKind.u64.wrap (rd x1 x13)))) / 4294967296) 1) x12 (wrap64 (x13 + 1))) else (nat_Sub.l0 k x1 (x5.set (x13 : Int).toNat ((IntKind.u64.wrap ((IntKind.u64.wrap (rd x5 x13)) - x6)) % 4294967296)) (Go.bits .and .u64 ((IntKind.u64.wrap ((IntKind.u64.wrap (rd x5 x13)) - x6)) / 4294967296) 1) x12 (wrap64 (x13 + 1)))) else (none)) else (none)) else ((nat_Trim.f k x5).bind fun t430 => (some t430))
def nat_Sub.f (k : Nat) (l0 : List Int) (l1 : List Int) : Option (List Int) := (slices_Clone_uint32_uint32.f l0).bind fun t423 => (nat_Sub.l0 k l1 t423 0 (t423.length : Int) 0)
theorem nat_Sub.mono_l : ∀ k, (∀ y0 y1 y2 y3 y4, LeO (nat_Sub.l0 k y0 y1 y2 y3 y4) (nat_Sub.l0 (k + 1) y0 y1 y2 y3 y4))
 | 0 => fun _ _ _ _ _ r h => by simp [nat_Sub.l0] at h
 | k + 1 => by
  have ih0 := nat_Sub.mono_l k
  ·intro y0 y1 y2 y3 y4
   unfold nat_Sub.l0
   have m0 := ih0
   have m1 := @nat_Trim.mono
   exact zm
theorem nat_Sub.mono : ∀ a0 a1 k, LeO (nat_Sub.f k a0 a1) (nat_Sub.f (k + 1) a0 a1) := by
 intro a0 a1 k
 have ih0 := nat_Sub.mono_l k
 unfold nat_Sub.f
 have m0 := ih0
 have m1 := @nat_Trim.mono
 exact zm
set_option maxHeartbeats 8000000 in
set_option maxRecDepth 100000 in
theorem nat_Sub.calls (k : Nat) (A0 : Option Addr) (c0 : Nat) (l0 : List Int) (A1 : Option Addr) (c1 : Nat) (l1 : List Int) (r : List Int) (w : World) (hr0 : Kd.C (Kd.int .u32) w A0 l0.length l0) (hc0 : l0.length ≤ c0) (hr1 : Kd.C (Kd.int .u32) w A1 l1.length l1) (hc1 : l1.length ≤ c1) (h : nat_Sub.f k l0 l1 = some r) :
  Calls Tryd.prog 132 #[.slice A0 l0.length c0, .slice A1 l1.length c1] w fun e w' => ∃ v0_ : Value, e = .returned (v0_) ∧ Kd.V (Kd.int .u32) 55 w' w.heap.size (fun k_ => (w.heap.size ≤ k_)) v0_ r ∧ Below w.heap.size w w' := by
 have HR0 := am hr0
 have HC0 := am hc0
 clear hr0 hc0
 have HR1 := am hr1
 have HC1 := am hc1
 clear hr1 hc1
 have HB := am (Below.refl w.heap.size w)
 have H := h
 unfold nat_Sub.f at H
 clear h
 replace H := zj H
 obtain ⟨t423, A3, H⟩ := H
 have H' := am H
 clear H
 go_enter Tryd.func132, Tryd.ntmps132
 go_wp2_with (first | ((with_reducible refine gate_callee (f := 95) rfl ?_); refine goesL_ (some 10) rfl rfl Tryd.func95 (by kernel_rfl) rfl #[.slice A0 l0.length c0] rfl zq5 ?_; (with_reducible refine (slices_Clone_uint32_uint32.calls _ _ l0 t423 _ ?side1 ?side2 A3.out).mono ?_); (case side1 => exact zc (HR0.out)); (case side2 => exact HC0.out); rintro e w4 ⟨v424, rfl, ho0, hb⟩; refine ⟨_, rfl, ?_⟩; refine zt2 (Kd.R_lower (Kd.R_newM (M := fun k_ => (w.heap.size ≤ k_)) ho0 (below_size zq1) (fun k_ h_ => h_)) (below_size zq1)) (below_step zq1 hb) ?_; clear HB; intro HO425 HB; obtain ⟨Ao5, co5, eo5⟩ := Kd.R_slice HO425.out; subst eo5))
 go_loopg [6, 13] k (fun kq v6 v13 w' => ∃ (x5_1 : List Int) (x6_1 : Int) (x13_1 : Int), v6 = .int .u64 x6_1 ∧ v13 = .int .i64 x13_1 ∧ Aside0 (nat_Sub.l0 kq l1 x5_1 x6_1 (t423.length : Int) x13_1 = some r) ∧ Aside0 (kq ≤ k) ∧ Aside0 (Kd.R (Kd.int .u32) 55 w' w.heap.size (fun k_ => (w.heap.size ≤ k_)) (.slice Ao5 t423.length co5) x5_1) ∧ Aside0 (Below w.heap.size w w'))
 case atStart => exact ⟨(t423), (0), (0), zq8, zq8, H', ⟨Nat.le_refl _⟩, ⟨zwR (h := by exact Kd.R_mono HO425.out (fun _ hk => hk.1))⟩, ⟨zq1⟩⟩
 case round =>
  clear H'
  obtain ⟨x5_1, x6_1, x13_1, rfl, rfl, HA, HK1, HO_5, HB⟩ := hrel
  have hl5_1 := (Kd.R_reads' HO_5.out).1
  rw [hl5_1] at HO_5
  (try simp only [hl5_1])
  cases gk with
  | zero => exact absurd HA.out (by simp [nat_Sub.l0])
  | succ k1 =>
   have H := HA.out
   clear HA
   simp only [nat_Sub.l0] at H
   by_cases c6 : x13_1 < (t423.length : Int)
   ·rw [if_pos c6] at H
    have c6b0 := decide_eq_true c6
    clear c6
    replace H := zn H
    obtain ⟨c7, H⟩ := H
    have c7b0 := decide_eq_true c7
    clear c7
    replace H := zn H
    obtain ⟨c8, H⟩ := H
    have c8b0 := decide_eq_true c8
    clear c8
    by_cases c9 : x13_1 < (l1.length : Int)
    ·rw [if_pos c9] at H
     have c9b0 := decide_eq_true c9
     clear c9
     obtain ⟨y428, hy428⟩ : ∃ y_ : List Int, y_ = (x5_1.set (x13_1 : Int).toNat ((IntKind.u64.wrap ((IntKind.u64.wrap ((IntKind.u64.wrap (rd x5_1 x13_1)) - x6_1)) - (IntKind.u64.wrap (rd l1 x13_1)))) % 4294967296)) := ⟨_, rfl⟩
     try rw [← hy428] at H
     have Ny428 := am hy428
     clear hy428
     have H' := am H
     clear H
     have p426 : 0 ≤ (x13_1 : Int) := zq6
     have q426 : x13_1 < (x5_1.length : Int) := zq6
     obtain ⟨ad426, e426, hx426_0⟩ := Kd.at_int (Kd.R_reads' HO_5.out).2.2 x13_1 p426 q426
     cases e426
     replace p426 := eq_true p426
     replace q426 := eq_true q426
     have p427 : 0 ≤ (x13_1 : Int) := zq6
     have q427 : x13_1 < (l1.length : Int) := zq6
     obtain ⟨ad427, e427, hx427_0⟩ := Kd.at_int HR1.out x13_1 p427 q427
     cases e427
     replace hx427_0 := (HB.out.cell (World.block_lt_of_cell? w _ hx427_0)).trans hx427_0
     replace p427 := eq_true p427
     replace q427 := eq_true q427
     have p10 : 0 ≤ (x13_1 : Int) := zq6
     have q10 : (x13_1 : Int) < ((x5_1.length : Int) : Int) := zq6
     obtain ⟨go10, co10, eo10, gb10, gl10, cl10, HG10⟩ := Kd.R_form HO_5.out (by omega)
     (first | cases eo10 | (injection eo10 with ea_ en_ ec_; (first | subst ea_ | (injection ea_ with ea_; subst ea_)); subst ec_; clear en_))
     have GB10 := am gb10
     have GG10 := am HG10
     clear gb10 gl10 HG10
     (first | simp only [add_plain] at hx426_0 | skip)
     obtain ⟨hx10_0, hf10_0⟩ := Kd.R_celln 0 HO_5.out (x13_1 : Int) p10 q10
     replace p10 := eq_true p10
     replace q10 := eq_true q10
     have HP11 := Kd.R_putg HO_5.out (x13_1 : Int) ((IntKind.u64.wrap ((IntKind.u64.wrap ((IntKind.u64.wrap (rd x5_1 x13_1)) - x6_1)) - (IntKind.u64.wrap (rd l1 x13_1)))) % 4294967296)
     go_wp2_with (first | ((with_reducible refine gate_store (t := 55) (p := 38) rfl ?_); refine zstore (t := 55) (p := 38) (w1 := (wr.setCell ⟨go10, (x13_1 : Int).toNat, none⟩ (.int .u32 ((IntKind.u64.wrap ((IntKind.u64.wrap ((IntKind.u64.wrap (rd x5_1 x13_1)) - x6_1)) - (IntKind.u64.wrap (rd l1 x13_1)))) % 4294967296)))) ?_; intro w12 hw; have hg : wr.grownBy w12 (some go10) := (by rw [hw]; exact HP11.2); have hp_ : Kd.R (Kd.int .u32) 55 w12 w.heap.size (fun k_ => (w.heap.size ≤ k_)) (.slice (some ⟨go10, 0, none⟩) x5_1.length co5) y428 := (by rw [hw, Ny428.out]; exact HP11.1); clear HP11; refine zt2 (hp_) ((by rw [hw]; exact below_set (HB.out) GB10.out : Below w.heap.size w w12)) ?_; clear HO_5 HB; intro HO_5 HB; clear hg hw hp_))
     (try simp only [← hl5_1])
     go_roundg k1
     case measure => have := HK1.out; omega
     case rel => exact ⟨(y428), (Go.bits .and .u64 ((IntKind.u64.wrap ((IntKind.u64.wrap ((IntKind.u64.wrap (rd x5_1 x13_1)) - x6_1)) - (IntKind.u64.wrap (rd l1 x13_1)))) / 4294967296) 1), (wrap64 (x13_1 + 1)), zq8, zq8, H', ⟨by have := HK1.out; omega⟩, ⟨by (try simp only [hl5_1]); (with_reducible repeat (first | apply Kd.R_alloc | apply Kd.R_drewN | apply Kd.R_drew)); exact HO_5.out⟩, ⟨zq1⟩⟩
    ·rw [if_neg c9] at H
     have c9b0 := decide_eq_false c9
     (try (have c9b0x := c9b0; rw [hl5_1] at c9b0x))
     clear c9
     obtain ⟨y429, hy429⟩ : ∃ y_ : List Int, y_ = (x5_1.set (x13_1 : Int).toNat ((IntKind.u64.wrap ((IntKind.u64.wrap (rd x5_1 x13_1)) - x6_1)) % 4294967296)) := ⟨_, rfl⟩
     try rw [← hy429] at H
     have Ny429 := am hy429
     clear hy429
     have H' := am H
     clear H
     have p426 : 0 ≤ (x13_1 : Int) := zq6
     have q426 : x13_1 < (x5_1.length : Int) := zq6
     obtain ⟨ad426, e426, hx426_0⟩ := Kd.at_int (Kd.R_reads' HO_5.out).2.2 x13_1 p426 q426
     cases e426
     replace p426 := eq_true p426
     replace q426 := eq_true q426
     have p13 : 0 ≤ (x13_1 : Int) := zq6
     have q13 : (x13_1 : Int) < ((x5_1.length : Int) : Int) := zq6
     obtain ⟨go13, co13, eo13, gb13, gl13, cl13, HG13⟩ := Kd.R_form HO_5.out (by omega)
     (first | cases eo13 | (injection eo13 with ea_ en_ ec_; (first | subst ea_ | (injection ea_ with ea_; subst ea_)); subst ec_; clear en_))
     have GB13 := am gb13
     have GG13 := am HG13
     clear gb13 gl13 HG13
     (first | simp only [add_plain] at hx426_0 | skip)
     obtain ⟨hx13_0, hf13_0⟩ := Kd.R_celln 0 HO_5.out (x13_1 : Int) p13 q13
     replace p13 := eq_true p13
     replace q13 := eq_true q13
     have HP14 := Kd.R_putg HO_5.out (x13_1 : Int) ((IntKind.u64.wrap ((IntKind.u64.wrap (rd x5_1 x13_1)) - x6_1)) % 4294967296)
     go_wp2_with (first | ((with_reducible refine gate_store (t := 55) (p := 38) rfl ?_); refine zstore (t := 55) (p := 38) (w1 := (wr.setCell ⟨go13, (x13_1 : Int).toNat, none⟩ (.int .u32 ((IntKind.u64.wrap ((IntKind.u64.wrap (rd x5_1 x13_1)) - x6_1)) % 4294967296)))) ?_; intro w15 hw; have hg : wr.grownBy w15 (some go13) := (by rw [hw]; exact HP14.2); have hp_ : Kd.R (Kd.int .u32) 55 w15 w.heap.size (fun k_ => (w.heap.size ≤ k_)) (.slice (some ⟨go13, 0, none⟩) x5_1.length co5) y429 := (by rw [hw, Ny429.out]; exact HP14.1); clear HP14; refine zt2 (hp_) ((by rw [hw]; exact below_set (HB.out) GB13.out : Below w.heap.size w w15)) ?_; clear HO_5 HB; intro HO_5 HB; clear hg hw hp_))
     (try simp only [← hl5_1])
     go_roundg k1
     case measure => have := HK1.out; omega
     case rel => exact ⟨(y429), (Go.bits .and .u64 ((IntKind.u64.wrap ((IntKind.u64.wrap (rd x5_1 x13_1)) - x6_1)) / 4294967296) 1), (wrap64 (x13_1 + 1)), zq8, zq8, H', ⟨by have := HK1.out; omega⟩, ⟨by (try simp only [hl5_1]); (with_reducible repeat (first | apply Kd.R_alloc | apply Kd.R_drewN | apply Kd.R_drew)); exact HO_5.out⟩, ⟨zq1⟩⟩
   ·rw [if_neg c6] at H
    have c6b0 := decide_eq_false c6
    (try (have c6b0x := c6b0; rw [hl5_1] at c6b0x))
    clear c6
    replace H := zj H
    obtain ⟨t430, A16, H⟩ := H
    obtain rfl := Option.some.inj H
    go_wp2_with (first | ((with_reducible refine gate_callee (f := 86) rfl ?_); refine goesL_ (some 44) rfl rfl Tryd.func86 (by kernel_rfl) rfl #[.slice Ao5 x5_1.length co5] rfl zq5 ?_; (with_reducible refine (nat_Trim.calls k1 (fun k_ => some k_ = (.slice Ao5 x5_1.length co5 : Value).ownBlock) _ _ x5_1 t430 _ ?side1 A16.out).mono ?_); (case side1 => exact Kd.R_V (Kd.R_tight rfl (HO_5.out))); rintro e w17 ⟨v431, rfl, ho0, hb⟩; refine ⟨_, rfl, ?_⟩; refine zt3 (rb HO_5 hb) (Kd.V_lower (Kd.V_mono (ok' := fun k_ => (w.heap.size ≤ k_)) ho0 (fun k_ hk_ => Or.elim hk_ (fun hs_ => ((HO_5.out).1 k_ hs_.symm)) (fun hn_ => (Nat.le_trans (below_size zq1) hn_)))) (below_size zq1)) (below_step zq1 hb) ?_; clear HO_5 HB; intro HO_5 HO432 HB))
    go_ret
    exact ⟨_, zq9, zq3 HO432.out, zq1⟩
def number_sum.f (k : Nat) (a0 : Bool) (l1 : List Int) (a2 : Bool) (l3 : List Int) : Option (Bool × List Int) := if (a0 == a2) = true then ((nat_Add.f k (([l1, l3] : List (List Int)))).bind fun t436 => (some (a0, t436))) else ((nat_Compare.f k l1 l3).bind fun t439 => (if t439 ≥ 0 then ((nat_Sub.f k l1 l3).bind fun t440 => (some (a0, t440))) else ((nat_Sub.f k l3 l1).bind fun t443 => (some (a2, t443)))))
theorem number_sum.mono : ∀ a0 a1 a2 a3 k, LeO (number_sum.f k a0 a1 a2 a3) (number_sum.f (k + 1) a0 a1 a2 a3) := by
 intro a0 a1 a2 a3 k
 unfold number_sum.f
 have m0 := @nat_Add.mono
 have m1 := @nat_Compare.mono
 have m2 := @nat_Sub.mono
 exact zm
set_option maxHeartbeats 8000000 in
set_option maxRecDepth 100000 in
theorem number_sum.calls (k : Nat) (a0 : Bool) (P1_ : Nat → Prop) (A1 : Option Addr) (c1 : Nat) (l1 : List Int) (a2 : Bool) (P3_ : Nat → Prop) (A3 : Option Addr) (c3 : Nat) (l3 : List Int) (r1 : Bool) (r2 : List Int) (w : World) (hs1 : Kd.V (Kd.int .u32) 55 w w.heap.size (fun k_ => P1_ k_) (.slice A1 l1.length c1) l1) (hs3 : Kd.V (Kd.int .u32) 55 w w.heap.size (fun k_ => P3_ k_) (.slice A3 l3.length c3) l3) (h : number_sum.f k a0 l1 a2 l3 = some (r1, r2)) :
  Calls Tryd.prog 110 #[.bool a0, .slice A1 l1.length c1, .bool a2, .slice A3 l3.length c3] w fun e w' => ∃ v1_ : Value, e = .returned (.tuple #[.bool r1, v1_]) ∧ Kd.V (Kd.int .u32) 55 w' w.heap.size (fun k_ => ((P1_ k_ ∨ P3_ k_) ∨ w.heap.size ≤ k_)) v1_ r2 ∧ Below w.heap.size w w' := by
 have HO1 := am (show Kd.V (Kd.int .u32) 55 w w.heap.size (fun k_ => ((P1_ k_ ∨ P3_ k_) ∨ w.heap.size ≤ k_)) (.slice A1 l1.length c1) l1 from Kd.V_mono hs1 (fun k_ hk => .inl (.inl hk)))
 have HO3 := am (show Kd.V (Kd.int .u32) 55 w w.heap.size (fun k_ => ((P1_ k_ ∨ P3_ k_) ∨ w.heap.size ≤ k_)) (.slice A3 l3.length c3) l3 from Kd.V_mono hs3 (fun k_ hk => .inl (.inr hk)))
 have HB := am (Below.refl w.heap.size w)
 have H := h
 unfold number_sum.f at H
 clear h
 by_cases c5 : (a0 == a2) = true
 ·rw [if_pos c5] at H
  have c5b0 : (a0 == a2) = true := c5
  (try (have c5b1 : decide (a0 = a2) = true := by simpa using c5))
  (try (have c5b2 : (a0 == a2) = true := by simpa using c5))
  clear c5
  obtain ⟨y433, hy433⟩ : ∃ y_ : List (List Int), y_ = (([l1, l3] : List (List Int))) := ⟨_, rfl⟩
  try rw [← hy433] at H
  have Ny433 := am hy433
  clear hy433
  replace H := zj H
  obtain ⟨t436, A6, H⟩ := H
  simp only [Option.some.injEq, Prod.mk.injEq] at H
  obtain ⟨rfl, rfl⟩ := H
  go_enter Tryd.func110, Tryd.ntmps110
  go_wp2_with (first | ((with_reducible refine gate_dst (N := 17) rfl ?_); refine Kd.N_lit (Kd.slice 55 (Kd.int .u32)) _ 22 ?hg (N' := 17) ?hd (xs := ([l1, l3] : List (List Int))) (inner := [.slice A1 l1.length c1, .slice A3 l3.length c3]) (ok := (fun k_ => ((P1_ k_ ∨ P3_ k_) ∨ w.heap.size ≤ k_))) (okp := (fun k_ => ((P1_ k_ ∨ P3_ k_) ∨ w.heap.size ≤ k_))) ?hr ?hp (fun _ hk => hk) ((show ∀ k_, w.heap.size ≤ k_ → (fun k_ => ((P1_ k_ ∨ P3_ k_) ∨ w.heap.size ≤ k_)) k_ from fun k_ hk => (.inr (Nat.le_trans (below_size zq1) hk))) _ (Nat.le_refl _)) (Below.refl _ _) (Nat.le_refl _) (by simp) ?_; (case hd => rfl); (case hg => rfl); (case hr => exact zr); (case hp => exact (Reps.one (show Kd.FK (Kd.slice 55 (Kd.int .u32)) _ _ l1 [.slice A1 l1.length c1] from (Kd.FK_slice_mk (Kd.V_reads' (Kd.V_mono (ok' := (fun k_ => ((P1_ k_ ∨ P3_ k_) ∨ w.heap.size ≤ k_))) (HO1.out) (fun k_ hk => hk))).2.1 (Kd.V_F (Kd.V_mono (ok' := (fun k_ => ((P1_ k_ ∨ P3_ k_) ∨ w.heap.size ≤ k_))) (HO1.out) (fun k_ hk => hk))))) (Reps.one (show Kd.FK (Kd.slice 55 (Kd.int .u32)) _ _ l3 [.slice A3 l3.length c3] from (Kd.FK_slice_mk (Kd.V_reads' (Kd.V_mono (ok' := (fun k_ => ((P1_ k_ ∨ P3_ k_) ∨ w.heap.size ≤ k_))) (HO3.out) (fun k_ hk => hk))).2.1 (Kd.V_F (Kd.V_mono (ok' := (fun k_ => ((P1_ k_ ∨ P3_ k_) ∨ w.heap.size ≤ k_))) (HO3.out) (fun k_ hk => hk))))) (Reps.none _ _)))); intro v434 w7 ho8 hb hg_ hnew_; clear hg_ hnew_; (first | rw [← Ny433.out] at ho8 | (simp only [Int.reduceToNat] at ho8; rw [← Ny433.out] at ho8)); refine zt4 (Kd.V_elder' (zq3 HO1.out) (Kd.N_base ho8) hb) (Kd.V_elder' (zq3 HO3.out) (Kd.N_base ho8) hb) (Kd.N_lower ho8 (below_size zq1)) (below_step zq1 hb) ?_; clear HO1 HO3 HB; intro HO1 HO3 HO435 HB; clear hb ho8; obtain ⟨Ao9, co9, eo9⟩ := Kd.N_slice HO435.out; subst eo9) | ((with_reducible refine gate_callee (f := 93) rfl ?_); refine goesL_ (some 18) rfl rfl Tryd.func93 (by kernel_rfl) rfl #[.slice Ao9 y433.length co9] rfl zq5 ?_; (with_reducible refine (nat_Add.calls k _ _ y433 t436 _ ?side1 ?side2 A6.out).mono ?_); (case side1 => exact zc ((Kd.N_reads' HO435.out).2.2)); (case side2 => exact (Kd.N_reads' HO435.out).2.1); rintro e w10 ⟨v437, rfl, ho0, hb⟩; refine ⟨_, rfl, ?_⟩; refine zt5 (vb HO1 hb) (vb HO3 hb) (Kd.N_below (by (with_reducible repeat (first | apply Kd.N_alloc | apply Kd.N_drewN | apply Kd.N_drew)); exact HO435.out) hb) (Kd.V_lower (Kd.V_mono (ok' := fun k_ => ((P1_ k_ ∨ P3_ k_) ∨ w.heap.size ≤ k_) ∧ some k_ ≠ (.slice Ao9 y433.length co9 : Value).ownBlock) ho0 (fun k_ hk_ => ⟨(.inr (Nat.le_trans (below_size zq1) hk_)), (Kd.fresh' (Kd.N_lt (by (with_reducible repeat (first | apply Kd.N_alloc | apply Kd.N_drewN | apply Kd.N_drew)); exact HO435.out)) k_ hk_)⟩)) (below_size zq1)) (below_step zq1 hb) ?_; clear HO1 HO3 HO435 HB; intro HO1 HO3 HO435 HO438 HB))
  go_ret2
  exact ⟨_, zq9, zwV (h := by exact Kd.V_mono HO438.out (fun _ hk => hk.1)), zq1⟩
 ·rw [if_neg c5] at H
  have c5b0 : (a0 == a2) = false := by simpa using c5
  (try (have c5b1 : decide (a0 = a2) = false := by simpa using c5))
  (try (have c5b2 : (a0 == a2) = false := by simpa using c5))
  (try (have c5b3 : ¬ (a0 = a2) := by simpa using c5))
  clear c5
  replace H := zj H
  obtain ⟨t439, A11, H⟩ := H
  by_cases c12 : t439 ≥ 0
  ·rw [if_pos c12] at H
   have c12b0 : decide (0 ≤ t439) = true := decide_eq_true c12
   clear c12
   replace H := zj H
   obtain ⟨t440, A13, H⟩ := H
   simp only [Option.some.injEq, Prod.mk.injEq] at H
   obtain ⟨rfl, rfl⟩ := H
   go_enter Tryd.func110, Tryd.ntmps110
   go_wp2_with (first | ((with_reducible refine gate_callee (f := 109) rfl ?_); refine goesL_ (some 22) rfl rfl Tryd.func109 (by kernel_rfl) rfl #[.slice A1 l1.length c1, .slice A3 l3.length c3] rfl zq5 ?_; (with_reducible refine (nat_Compare.calls k _ _ l1 _ _ l3 t439 _ ?side1 ?side2 ?side3 ?side4 A11.out).mono ?_); (case side1 => exact zc ((Kd.V_reads' HO1.out).2.2)); (case side2 => exact (Kd.V_reads' HO1.out).2.1); (case side3 => exact zc ((Kd.V_reads' HO3.out).2.2)); (case side4 => exact (Kd.V_reads' HO3.out).2.1); rintro e w' ⟨rfl, ⟨nd, rfl⟩⟩; refine ⟨_, rfl, ?_⟩) | ((with_reducible refine gate_callee (f := 132) rfl ?_); refine goesL_ (some 27) rfl rfl Tryd.func132 (by kernel_rfl) rfl #[.slice A1 l1.length c1, .slice A3 l3.length c3] rfl zq5 ?_; (with_reducible refine (nat_Sub.calls k _ _ l1 _ _ l3 t440 _ ?side1 ?side2 ?side3 ?side4 A13.out).mono ?_); (case side1 => exact zc ((Kd.V_reads' HO1.out).2.2)); (case side2 => exact (Kd.V_reads' HO1.out).2.1); (case side3 => exact zc ((Kd.V_reads' HO3.out).2.2)); (case side4 => exact (Kd.V_reads' HO3.out).2.1); rintro e w14 ⟨v441, rfl, ho0, hb⟩; refine ⟨_, rfl, ?_⟩; refine zt4 (vb HO1 hb) (vb HO3 hb) (Kd.V_lower (Kd.V_mono (ok' := fun k_ => ((P1_ k_ ∨ P3_ k_) ∨ w.heap.size ≤ k_)) ho0 (fun k_ hk_ => (.inr (Nat.le_trans (below_size zq1) hk_)))) (below_size zq1)) (below_step zq1 hb) ?_; clear HO1 HO3 HB; intro HO1 HO3 HO442 HB))
   go_ret2
   exact ⟨_, zq9, zq3 HO442.out, zq1⟩
  ·rw [if_neg c12] at H
   have c12b0 : decide (0 ≤ t439) = false := decide_eq_false c12
   clear c12
   replace H := zj H
   obtain ⟨t443, A15, H⟩ := H
   simp only [Option.some.injEq, Prod.mk.injEq] at H
   obtain ⟨rfl, rfl⟩ := H
   go_enter Tryd.func110, Tryd.ntmps110
   go_wp2_with (first | ((with_reducible refine gate_callee (f := 109) rfl ?_); refine goesL_ (some 22) rfl rfl Tryd.func109 (by kernel_rfl) rfl #[.slice A1 l1.length c1, .slice A3 l3.length c3] rfl zq5 ?_; (with_reducible refine (nat_Compare.calls k _ _ l1 _ _ l3 t439 _ ?side1 ?side2 ?side3 ?side4 A11.out).mono ?_); (case side1 => exact zc ((Kd.V_reads' HO1.out).2.2)); (case side2 => exact (Kd.V_reads' HO1.out).2.1); (case side3 => exact zc ((Kd.V_reads' HO3.out).2.2)); (case side4 => exact (Kd.V_reads' HO3.out).2.1); rintro e w' ⟨rfl, ⟨nd, rfl⟩⟩; refine ⟨_, rfl, ?_⟩) | ((with_reducible refine gate_callee (f := 132) rfl ?_); refine goesL_ (some 31) rfl rfl Tryd.func132 (by kernel_rfl) rfl #[.slice A3 l3.length c3, .slice A1 l1.length c1] rfl zq5 ?_; (with_reducible refine (nat_Sub.calls k _ _ l3 _ _ l1 t443 _ ?side1 ?side2 ?side3 ?side4 A15.out).mono ?_); (case side1 => exact zc ((Kd.V_reads' HO3.out).2.2)); (case side2 => exact (Kd.V_reads' HO3.out).2.1); (case side3 => exact zc ((Kd.V_reads' HO1.out).2.2)); (case side4 => exact (Kd.V_reads' HO1.out).2.1); rintro e w16 ⟨v444, rfl, ho0, hb⟩; refine ⟨_, rfl, ?_⟩; refine zt4 (vb HO1 hb) (vb HO3 hb) (Kd.V_lower (Kd.V_mono (ok' := fun k_ => ((P1_ k_ ∨ P3_ k_) ∨ w.heap.size ≤ k_)) ho0 (fun k_ hk_ => (.inr (Nat.le_trans (below_size zq1) hk_)))) (below_size zq1)) (below_step zq1 hb) ?_; clear HO1 HO3 HB; intro HO1 HO3 HO445 HB))
   go_ret2
   exact ⟨_, zq9, zq3 HO445.out, zq1⟩
def number_add.f (k : Nat) (a0_0 : Bool) (l0_1 : List Int) (l0_2 : List Int) (a1_0 : Bool) (l1_1 : List Int) (l1_2 : List Int) (a2 : Bool) : Option (Bool × List Int × List Int × Int) := (nat_Mul.f k l0_1 l1_2).bind fun t449 => ((nat_Mul.f k l1_1 l0_2).bind fun t452 => ((number_sum.f k a0_0 t449 (a1_0 != a2) t452).bind fun bt455 => ((nat_Mul.f k l0_2 l1_2).bind fun t459 => ((number_made.f k bt455.1 bt455.2 t459).bind fun bt462 => (some (bt462.1, bt462.2.1, bt462.2.2.1, bt462.2.2.2))))))
theorem number_add.mono : ∀ a0 a1 a2 a3 a4 a5 a6 k, LeO (number_add.f k a0 a1 a2 a3 a4 a5 a6) (number_add.f (k + 1) a0 a1 a2 a3 a4 a5 a6) := by
 intro a0 a1 a2 a3 a4 a5 a6 k
 unfold number_add.f
 have m0 := @nat_Mul.mono
 have m1 := @number_made.mono
 have m2 := @number_sum.mono
 exact zm
def number_add.T1 : Bool × List (List Nat × List Nat) := (true, [([], []), ([0], [0]), ([], []), ([2], [2]), ([], []), ([4], [4]), ([3, 5], [3, 5]), ([], []), ([7], [7]), ([], []), ([8, 9], [8, 9]), ([], []), ([11], [11]), ([], []), ([13], [13]), ([12, 14, 6], [12, 14]), ([1, 6, 10, 15, 15], [1, 6, 10, 15]), ([16], [16]), ([17], [17]), ([17], [17]), ([18, 16, 0, 1, 2, 3, 4, 5, 6, 7, 8, 9, 10, 11, 12, 13, 14, 15, 16, 17, 18], [18]), ([19, 20, 0, 1, 2, 3, 4, 5, 6, 7, 8, 9, 10, 11, 12, 13, 14, 15, 16, 17, 18, 19, 20], [19])])
def number_add.B1 : List Nat := [0, 1, 0, 4, 0, 16, 60, 0, 128, 0, 896, 0, 2048, 0, 8192, 30844, 65535, 131071, 262143, 262143, 524287, 2097151]
theorem number_add.tab1 : rtab .any (opsOf Tryd.f64 1) = number_add.T1 := by kernel_rfl
theorem number_add.bits1 : waitsOk number_add.T1.2 number_add.B1 = true := by kernel_rfl
set_option maxHeartbeats 8000000 in
set_option maxRecDepth 100000 in
theorem number_add.calls (k : Nat) (a0_0 : Bool) (A0_1 : Option Addr) (c0_1 : Nat) (l0_1 : List Int) (A0_2 : Option Addr) (c0_2 : Nat) (l0_2 : List Int) (a1_0 : Bool) (A1_1 : Option Addr) (c1_1 : Nat) (l1_1 : List Int) (A1_2 : Option Addr) (c1_2 : Nat) (l1_2 : List Int) (a2 : Bool) (r1 : Bool) (r2 : List Int) (r3 : List Int) (r4 : Int) (w : World) (hr0_1 : Kd.C (Kd.int .u32) w A0_1 l0_1.length l0_1) (hc0_1 : l0_1.length ≤ c0_1) (hr0_2 : Kd.C (Kd.int .u32) w A0_2 l0_2.length l0_2) (hc0_2 : l0_2.length ≤ c0_2) (hr1_1 : Kd.C (Kd.int .u32) w A1_1 l1_1.length l1_1) (hc1_1 : l1_1.length ≤ c1_1) (hr1_2 : Kd.C (Kd.int .u32) w A1_2 l1_2.length l1_2) (hc1_2 : l1_2.length ≤ c1_2) (h : number_add.f k a0_0 l0_1 l0_2 a1_0 l1_1 l1_2 a2 = some (r1, r2, r3, r4)) :
  Calls Tryd.prog 64 #[.agg #[.bool a0_0, .slice A0_1 l0_1.length c0_1, .slice A0_2 l0_2.length c0_2], .agg #[.bool a1_0, .slice A1_1 l1_1.length c1_1, .slice A1_2 l1_2.length c1_2], .bool a2] w fun e w' => ∃ v1_ v2_ : Value, e = .returned (.tuple #[.agg #[.bool r1, v1_, v2_], .int .i64 r4]) ∧ Kd.V (Kd.int .u32) 55 w' w.heap.size (fun k_ => (w.heap.size ≤ k_)) v1_ r2 ∧ Kd.V (Kd.int .u32) 55 w' w.heap.size (fun k_ => (w.heap.size ≤ k_)) v2_ r3 ∧ Below w.heap.size w w' := by
 have hu24 := Tryd.underlying24
 have HR0_1 := am hr0_1
 have HC0_1 := am hc0_1
 clear hr0_1 hc0_1
 have HR0_2 := am hr0_2
 have HC0_2 := am hc0_2
 clear hr0_2 hc0_2
 have HR1_1 := am hr1_1
 have HC1_1 := am hc1_1
 clear hr1_1 hc1_1
 have HR1_2 := am hr1_2
 have HC1_2 := am hc1_2
 clear hr1_2 hc1_2
 have HB := am (Below.refl w.heap.size w)
 have H := h
 unfold number_add.f at H
 clear h
 replace H := zj H
 obtain ⟨t449, A4, H⟩ := H
 replace H := zj H
 obtain ⟨t452, A5, H⟩ := H
 replace H := zj H
 obtain ⟨⟨t455, t456⟩, A6, H⟩ := H
 try dsimp only at H
 replace H := zj H
 obtain ⟨t459, A7, H⟩ := H
 replace H := zj H
 obtain ⟨⟨t462, t463, t466, t469⟩, A8, H⟩ := H
 try dsimp only at H
 simp only [Option.some.injEq, Prod.mk.injEq] at H
 obtain ⟨rfl, rfl, rfl, rfl⟩ := H
 go_enter Tryd.func64, Tryd.ntmps64
 try go_wp2_with (first | ((with_reducible refine gate_dst (N := 3) rfl ?_); refine zbox (N := 3) (cs := #[.bool a0_0, .slice A0_1 l0_1.length c0_1, .slice A0_2 l0_2.length c0_2]) (t := 24) ?_; intro gb446 hg w9 hbox hb; refine zt3 (below_step zq1 hb) (hbox) ((zs hg (below_size zq1) : w.heap.size ≤ gb446)) ?_; clear HB; intro HB BK446 GW446; have GE446 := GW446; clear hb hbox hg) | ((with_reducible refine gate_dst (N := 4) rfl ?_); refine zbox (N := 4) (cs := #[.bool a1_0, .slice A1_1 l1_1.length c1_1, .slice A1_2 l1_2.length c1_2]) (t := 24) ?_; intro gb447 hg w10 hbox hb; refine zt6 (bb BK446.out hb) (below_step (zb1 GE446.out) hb) (hbox) ((zs hg (below_size (zb1 GE446.out)) : w.heap.size ≤ gb447)) ((by rw [hg]; exact Nat.ne_of_lt (bl BK446.out) : gb446 ≠ gb447)) ((by rw [hg]; exact Nat.ne_of_gt (bl BK446.out) : gb447 ≠ gb446)) ?_; clear BK446 HB; intro BK446 HB BK447 GW447 NB446_447 NB447_446; have GE447 := GW447; clear hb hbox hg) | ((with_reducible refine gate_dst (N := 6) rfl ?_); refine zbox (N := 6) (cs := #[.bool false, .slice none 0 0, .slice none 0 0]) (t := 24) ?_; intro gb448 hg w11 hbox hb; refine zt9 (bb BK446.out hb) (bb BK447.out hb) (below_step (zb2 GE446.out GE447.out) hb) (hbox) ((zs hg (below_size (zb2 GE446.out GE447.out)) : w.heap.size ≤ gb448)) ((by rw [hg]; exact Nat.ne_of_lt (bl BK446.out) : gb446 ≠ gb448)) ((by rw [hg]; exact Nat.ne_of_gt (bl BK446.out) : gb448 ≠ gb446)) ((by rw [hg]; exact Nat.ne_of_lt (bl BK447.out) : gb447 ≠ gb448)) ((by rw [hg]; exact Nat.ne_of_gt (bl BK447.out) : gb448 ≠ gb447)) ?_; clear BK446 BK447 HB; intro BK446 BK447 HB BK448 GW448 NB446_448 NB448_446 NB447_448 NB448_447; have GE448 := GW448; clear hb hbox hg))
 refine zt4 (blk_drew BK446.out) (blk_drew BK447.out) (blk_drew BK448.out) (below_drew1 HB.out) ?_
 clear BK446 BK447 BK448 HB
 intro BK446 BK447 BK448 HB
 refine start_ (n := 22) (S := fun w' => w'.cell? ⟨gb446, 0, none⟩ = some (.bool a0_0) ∧ w'.cell? ⟨gb446, 1, none⟩ = some (.slice A0_1 l0_1.length c0_1) ∧ w'.cell? ⟨gb446, 2, none⟩ = some (.slice A0_2 l0_2.length c0_2) ∧ w'.cell? ⟨gb447, 0, none⟩ = some (.bool a1_0) ∧ w'.cell? ⟨gb447, 1, none⟩ = some (.slice A1_1 l1_1.length c1_1) ∧ w'.cell? ⟨gb447, 2, none⟩ = some (.slice A1_2 l1_2.length c1_2)) (ds := []) #[false, false, false, false, false, false, false, false, false, false, false, false, false, false, false, false, false, false, false, false, false, false] (by kernel_rfl) rfl rfl ⟨(blk_cell BK446.out 0).trans rfl, (blk_cell BK446.out 1).trans rfl, (blk_cell BK446.out 2).trans rfl, (blk_cell BK447.out 0).trans rfl, (blk_cell BK447.out 1).trans rfl, (blk_cell BK447.out 2).trans rfl⟩ (fun hHeld => ?_); refine with_tabW number_add.tab1 number_add.bits1 (fun HT_ HW_ => ?_)
 generalize w11.drew = w12 at BK446 BK447 BK448 HB hHeld ⊢
 refine pz_ (i := 0) (N := some 11) (zmt 22 [0]) ?_
 refine pz_ (i := 2) (N := some 13) (zmt 22 [0, 2]) ?_
 refine pz_ (i := 4) (N := some 15) (zmt 22 [0, 2, 4]) ?_
 refine pz_ (i := 7) (N := some 18) (zmt 22 [0, 2, 4, 7]) ?_
 refine pz_ (i := 9) (N := some 20) (zmt 22 [0, 2, 4, 7, 9]) ?_
 refine pz_ (i := 11) (N := some 22) (zmt 22 [0, 2, 4, 7, 9, 11]) ?_
 refine pz_ (i := 13) (N := some 24) (zmt 22 [0, 2, 4, 7, 9, 11, 13]) ?_
 refine take_ (i := 1) (N := some 12) (v := ?_) (a' := ?_) #[true, true, true, false, true, false, false, true, false, true, false, true, false, true, false, false, false, false, false, false, false, false] rfl rfl (take_ofW HT_.out HW_.out (by kernel_rfl)) (fun _ _ _ h => h) (Or.inl ⟨by rfl, ?_⟩) hHeld ?_ ?_
 rotate_left
 ·rintro w' ⟨s0, s1, s2, s3, s4, s5⟩
  go_simp
  with_reducible rfl
 rotate_left
 ·simp only [Act.put, List.setIfInBounds_toArray, List.set_cons_zero, List.set_cons_succ, i64_w, i32_w]
  rfl
 refine take_ (i := 3) (N := some 14) (v := ?_) (a' := ?_) #[true, true, true, true, true, false, false, true, false, true, false, true, false, true, false, false, false, false, false, false, false, false] rfl rfl (take_ofW HT_.out HW_.out (by kernel_rfl)) (fun _ _ _ h => h) (Or.inl ⟨by rfl, ?_⟩) hHeld ?_ ?_
 rotate_left
 ·rintro w' ⟨s0, s1, s2, s3, s4, s5⟩
  go_simp
  with_reducible rfl
 rotate_left
 ·simp only [Act.put, List.setIfInBounds_toArray, List.set_cons_zero, List.set_cons_succ, i64_w, i32_w]
  rfl
 refine take_ (i := 5) (N := some 16) (v := ?_) (a' := ?_) #[true, true, true, true, true, true, false, true, false, true, false, true, false, true, false, false, false, false, false, false, false, false] rfl rfl (take_ofW HT_.out HW_.out (by kernel_rfl)) (fun _ _ _ h => h) (Or.inl ⟨by rfl, ?_⟩) hHeld ?_ ?_
 rotate_left
 ·rintro w' ⟨s0, s1, s2, s3, s4, s5⟩
  go_simp
  with_reducible rfl
 rotate_left
 ·simp only [Act.put, List.setIfInBounds_toArray, List.set_cons_zero, List.set_cons_succ, i64_w, i32_w]
  rfl
 refine take_ (i := 8) (N := some 19) (v := ?_) (a' := ?_) #[true, true, true, true, true, true, false, true, true, true, false, true, false, true, false, false, false, false, false, false, false, false] rfl rfl (take_ofW HT_.out HW_.out (by kernel_rfl)) (fun _ _ _ h => h) (Or.inl ⟨by rfl, ?_⟩) hHeld ?_ ?_
 rotate_left
 ·rintro w' ⟨s0, s1, s2, s3, s4, s5⟩
  go_simp
  with_reducible rfl
 rotate_left
 ·simp only [Act.put, List.setIfInBounds_toArray, List.set_cons_zero, List.set_cons_succ, i64_w, i32_w]
  rfl
 refine pz_ (i := 10) (N := some 21) (zmf 22 [6, 12, 14, 15, 16, 17, 18, 19, 20, 21]) ?_
 refine take_ (i := 12) (N := some 23) (v := ?_) (a' := ?_) #[true, true, true, true, true, true, false, true, true, true, true, true, true, true, false, false, false, false, false, false, false, false] rfl rfl (take_ofW HT_.out HW_.out (by kernel_rfl)) (fun _ _ _ h => h) (Or.inl ⟨by rfl, ?_⟩) hHeld ?_ ?_
 rotate_left
 ·rintro w' ⟨s0, s1, s2, s3, s4, s5⟩
  go_simp
  with_reducible rfl
 rotate_left
 ·simp only [Act.put, List.setIfInBounds_toArray, List.set_cons_zero, List.set_cons_succ, i64_w, i32_w]
  rfl
 refine take_ (i := 14) (N := some 25) (v := ?_) (a' := ?_) #[true, true, true, true, true, true, false, true, true, true, true, true, true, true, true, false, false, false, false, false, false, false] rfl rfl (take_ofW HT_.out HW_.out (by kernel_rfl)) (fun _ _ _ h => h) (Or.inl ⟨by rfl, ?_⟩) hHeld ?_ ?_
 rotate_left
 ·rintro w' ⟨s0, s1, s2, s3, s4, s5⟩
  go_simp
  with_reducible rfl
 rotate_left
 ·simp only [Act.put, List.setIfInBounds_toArray, List.set_cons_zero, List.set_cons_succ, i64_w, i32_w]
  rfl
 refine one_ (i := 6) (N := some 17) (zmf 22 [15, 16, 17, 18, 19, 20, 21]) rfl rfl (one_of HT_.out (by kernel_rfl)) (by decide) (fun K hK => ?_)
 refine goes_ Tryd.func77 (by kernel_rfl) rfl #[.slice A0_1 l0_1.length c0_1, .slice A1_2 l1_2.length c1_2] (by rfl) rfl rfl zq5 ?_
 with_reducible refine (nat_Mul.calls k _ _ l0_1 _ _ l1_2 t449 _ ?side1 ?side2 ?side3 ?side4 A4.out).mono ?_
 (case side1 => exact zc (Kd.C_below HR0_1.out HB.out))
 (case side2 => exact HC0_1.out)
 (case side3 => exact zc (Kd.C_below HR1_2.out HB.out))
 (case side4 => exact HC1_2.out)
 rintro e w13 ⟨v450, rfl, ho0, hb⟩
 refine ⟨_, rfl, ?_⟩
 refine zt5 (Kd.V_lower (Kd.V_mono (ok' := fun k_ => (w.heap.size ≤ k_) ∧ k_ ≠ gb446 ∧ k_ ≠ gb447 ∧ k_ ≠ gb448) ho0 (fun k_ hk_ => ⟨(Nat.le_trans (below_size (zb3 GE446.out GE447.out GE448.out)) hk_), (Kd.freshB (g := gb446) (o := .cells #[.bool a0_0, .slice A0_1 l0_1.length c0_1, .slice A0_2 l0_2.length c0_2] 24 (0, 0)) (zq2 BK446.out) k_ hk_), (Kd.freshB (g := gb447) (o := .cells #[.bool a1_0, .slice A1_1 l1_1.length c1_1, .slice A1_2 l1_2.length c1_2] 24 (0, 0)) (zq2 BK447.out) k_ hk_), (Kd.freshB (g := gb448) (o := .cells #[.bool false, .slice none 0 0, .slice none 0 0] 24 (0, 0)) (zq2 BK448.out) k_ hk_)⟩)) (below_size (zb3 GE446.out GE447.out GE448.out))) (bb BK446.out hb) (bb BK447.out hb) (bb BK448.out hb) (below_step (zb3 GE446.out GE447.out GE448.out) hb) ?_
 clear BK446 BK447 BK448 HB
 intro HO451 BK446 BK447 BK448 HB
 refine hK.out _ _ ⟨(blk_cell BK446.out 0).trans rfl, (blk_cell BK446.out 1).trans rfl, (blk_cell BK446.out 2).trans rfl, (blk_cell BK447.out 0).trans rfl, (blk_cell BK447.out 1).trans rfl, (blk_cell BK447.out 2).trans rfl⟩ (fun hHeld => ?_)
 clear hK K
 refine nz_ (N := (some 17)) ?_
 refine one_ (i := 15) (N := some 26) (zmf 22 [16, 17, 18, 19, 20, 21]) rfl rfl (one_of HT_.out (by kernel_rfl)) (by decide) (fun K hK => ?_)
 refine goes_ Tryd.func77 (by kernel_rfl) rfl #[.slice A1_1 l1_1.length c1_1, .slice A0_2 l0_2.length c0_2] (by rfl) rfl rfl zq5 ?_
 with_reducible refine (nat_Mul.calls k _ _ l1_1 _ _ l0_2 t452 _ ?side1 ?side2 ?side3 ?side4 A5.out).mono ?_
 (case side1 => exact zc (Kd.C_below HR1_1.out HB.out))
 (case side2 => exact HC1_1.out)
 (case side3 => exact zc (Kd.C_below HR0_2.out HB.out))
 (case side4 => exact HC0_2.out)
 rintro e w14 ⟨v453, rfl, ho0, hb⟩
 refine ⟨_, rfl, ?_⟩
 refine zt6 (vb HO451 hb) (Kd.V_lower (Kd.V_mono (ok' := fun k_ => (w.heap.size ≤ k_) ∧ k_ ≠ gb446 ∧ k_ ≠ gb447 ∧ k_ ≠ gb448) ho0 (fun k_ hk_ => ⟨(Nat.le_trans (below_size (zb3 GE446.out GE447.out GE448.out)) hk_), (Kd.freshB (g := gb446) (o := .cells #[.bool a0_0, .slice A0_1 l0_1.length c0_1, .slice A0_2 l0_2.length c0_2] 24 (0, 0)) (zq2 BK446.out) k_ hk_), (Kd.freshB (g := gb447) (o := .cells #[.bool a1_0, .slice A1_1 l1_1.length c1_1, .slice A1_2 l1_2.length c1_2] 24 (0, 0)) (zq2 BK447.out) k_ hk_), (Kd.freshB (g := gb448) (o := .cells #[.bool false, .slice none 0 0, .slice none 0 0] 24 (0, 0)) (zq2 BK448.out) k_ hk_)⟩)) (below_size (zb3 GE446.out GE447.out GE448.out))) (bb BK446.out hb) (bb BK447.out hb) (bb BK448.out hb) (below_step (zb3 GE446.out GE447.out GE448.out) hb) ?_
 clear HO451 BK446 BK447 BK448 HB
 intro HO451 HO454 BK446 BK447 BK448 HB
 obtain ⟨Ao15, co15, eo15⟩ := Kd.V_slice HO451.out
 (first | subst eo15 | (injection eo15 with f1_ f2_ f3_; have f4_ := f1_.symm; have f5_ := f3_.symm; clear f1_ f2_ f3_; subst f4_; subst f5_))
 obtain ⟨Ao16, co16, eo16⟩ := Kd.V_slice HO454.out
 (first | subst eo16 | (injection eo16 with f1_ f2_ f3_; have f4_ := f1_.symm; have f5_ := f3_.symm; clear f1_ f2_ f3_; subst f4_; subst f5_))
 refine hK.out _ _ ⟨(blk_cell BK446.out 0).trans rfl, (blk_cell BK446.out 1).trans rfl, (blk_cell BK446.out 2).trans rfl, (blk_cell BK447.out 0).trans rfl, (blk_cell BK447.out 1).trans rfl, (blk_cell BK447.out 2).trans rfl⟩ (fun hHeld => ?_)
 clear hK K
 refine nz_ (N := (some 26)) ?_
 refine one_ (i := 16) (N := some 27) (zmf 22 [17, 18, 19, 20, 21]) rfl rfl (one_of HT_.out (by kernel_rfl)) (by decide) (fun K hK => ?_)
 refine goes_ Tryd.func110 (by kernel_rfl) rfl #[.bool a0_0, .slice Ao15 t449.length co15, .bool (a1_0 != a2), .slice Ao16 t452.length co16] (by rfl) rfl rfl zq5 ?_
 with_reducible refine (number_sum.calls k a0_0 (fun k_ => ((w.heap.size ≤ k_) ∧ (k_ ≠ gb446 ∧ (k_ ≠ gb447 ∧ k_ ≠ gb448)))) _ _ t449 (a1_0 != a2) (fun k_ => ((w.heap.size ≤ k_) ∧ (k_ ≠ gb446 ∧ (k_ ≠ gb447 ∧ k_ ≠ gb448)))) _ _ t452 t455 t456 _ ?side1 ?side2 A6.out).mono ?_
 (case side1 => exact HO451.out)
 (case side2 => exact HO454.out)
 rintro e w17 ⟨v457, rfl, ho0, hb⟩
 refine ⟨_, rfl, ?_⟩
 refine zt7 (vb HO451 hb) (vb HO454 hb) (Kd.V_lower (Kd.V_mono (ok' := fun k_ => (w.heap.size ≤ k_) ∧ k_ ≠ gb446 ∧ k_ ≠ gb447 ∧ k_ ≠ gb448) ho0 (fun k_ hk_ => ⟨Or.elim hk_ (fun hs_ => Or.elim hs_ (fun hs_ => hs_.1) (fun hs_ => hs_.1)) (fun hn_ => (Nat.le_trans (below_size (zb3 GE446.out GE447.out GE448.out)) hn_)), Or.elim hk_ (fun hs_ => Or.elim hs_ (fun hs_ => hs_.2.1) (fun hs_ => hs_.2.1)) (fun hn_ => (Kd.freshB (g := gb446) (o := .cells #[.bool a0_0, .slice A0_1 l0_1.length c0_1, .slice A0_2 l0_2.length c0_2] 24 (0, 0)) (zq2 BK446.out) k_ hn_)), Or.elim hk_ (fun hs_ => Or.elim hs_ (fun hs_ => hs_.2.2.1) (fun hs_ => hs_.2.2.1)) (fun hn_ => (Kd.freshB (g := gb447) (o := .cells #[.bool a1_0, .slice A1_1 l1_1.length c1_1, .slice A1_2 l1_2.length c1_2] 24 (0, 0)) (zq2 BK447.out) k_ hn_)), Or.elim hk_ (fun hs_ => Or.elim hs_ (fun hs_ => hs_.2.2.2) (fun hs_ => hs_.2.2.2)) (fun hn_ => (Kd.freshB (g := gb448) (o := .cells #[.bool false, .slice none 0 0, .slice none 0 0] 24 (0, 0)) (zq2 BK448.out) k_ hn_))⟩)) (below_size (zb3 GE446.out GE447.out GE448.out))) (bb BK446.out hb) (bb BK447.out hb) (bb BK448.out hb) (below_step (zb3 GE446.out GE447.out GE448.out) hb) ?_
 clear HO451 HO454 BK446 BK447 BK448 HB
 intro HO451 HO454 HO458 BK446 BK447 BK448 HB
 refine hK.out _ _ ⟨(blk_cell BK446.out 0).trans rfl, (blk_cell BK446.out 1).trans rfl, (blk_cell BK446.out 2).trans rfl, (blk_cell BK447.out 0).trans rfl, (blk_cell BK447.out 1).trans rfl, (blk_cell BK447.out 2).trans rfl⟩ (fun hHeld => ?_)
 clear hK K
 refine nz_ (N := (some 27)) ?_
 refine pz_ (i := 17) (N := some 10) (zmf 22 [18, 19, 20, 21]) ?_
 refine pz_ (i := 18) (N := some 28) (zmf 22 [19, 20, 21]) ?_
 refine pz_ (i := 19) (N := some 29) (zmf 22 [20, 21]) ?_
 refine pz_ (i := 20) (N := some 8) (zmf 22 [21]) ?_
 refine pz_ (i := 21) (N := some 9) (zmf 22 []) ?_
 refine done_ (done_of HT_.out (by kernel_rfl)) ?_
 have hnb18 := NB446_447.out
 have hnc18 := NB447_446.out
 have hnb19 := NB446_448.out
 have hnc19 := NB448_446.out
 have hcz20_0 := bc BK446.out 0 (.bool a0_0)
 have hcz20_1 := bc BK446.out 1 (.slice A0_1 l0_1.length c0_1)
 have hcz20_2 := bc BK446.out 2 (.slice A0_2 l0_2.length c0_2)
 have hfz20_0 := blk_frozen BK446.out 0
 have hfz20_1 := blk_frozen BK446.out 1
 have hfz20_2 := blk_frozen BK446.out 2
 have hnb21 := NB447_448.out
 have hnc21 := NB448_447.out
 have hcz22_0 := bc BK447.out 0 (.bool a1_0)
 have hcz22_1 := bc BK447.out 1 (.slice A1_1 l1_1.length c1_1)
 have hcz22_2 := bc BK447.out 2 (.slice A1_2 l1_2.length c1_2)
 have hfz22_0 := blk_frozen BK447.out 0
 have hfz22_1 := blk_frozen BK447.out 1
 have hfz22_2 := blk_frozen BK447.out 2
 try go_wp2_with (first | ((with_reducible refine gate_callee (f := 77) rfl ?_); refine goesL_ (some 36) rfl rfl Tryd.func77 (by kernel_rfl) rfl #[.slice A0_2 l0_2.length c0_2, .slice A1_2 l1_2.length c1_2] rfl zq5 ?_; (with_reducible refine (nat_Mul.calls k _ _ l0_2 _ _ l1_2 t459 _ ?side1 ?side2 ?side3 ?side4 A7.out).mono ?_); (case side1 => exact zc (Kd.C_below HR0_2.out HB.out)); (case side2 => exact HC0_2.out); (case side3 => exact zc (Kd.C_below HR1_2.out HB.out)); (case side4 => exact HC1_2.out); rintro e w23 ⟨v460, rfl, ho0, hb⟩; refine ⟨_, rfl, ?_⟩; refine zt8 (vb HO451 hb) (vb HO454 hb) (vb HO458 hb) (Kd.V_lower (Kd.V_mono (ok' := fun k_ => (w.heap.size ≤ k_) ∧ k_ ≠ gb446 ∧ k_ ≠ gb447 ∧ k_ ≠ gb448) ho0 (fun k_ hk_ => ⟨(Nat.le_trans (below_size (zb3 GE446.out GE447.out GE448.out)) hk_), (Kd.freshB (g := gb446) (o := .cells #[.bool a0_0, .slice A0_1 l0_1.length c0_1, .slice A0_2 l0_2.length c0_2] 24 (0, 0)) (zq2 BK446.out) k_ hk_), (Kd.freshB (g := gb447) (o := .cells #[.bool a1_0, .slice A1_1 l1_1.length c1_1, .slice A1_2 l1_2.length c1_2] 24 (0, 0)) (zq2 BK447.out) k_ hk_), (Kd.freshB (g := gb448) (o := .cells #[.bool false, .slice none 0 0, .slice none 0 0] 24 (0, 0)) (zq2 BK448.out) k_ hk_)⟩)) (below_size (zb3 GE446.out GE447.out GE448.out))) (bb BK446.out hb) (bb BK447.out hb) (bb BK448.out hb) (below_step (zb3 GE446.out GE447.out GE448.out) hb) ?_; clear HO451 HO454 HO458 BK446 BK447 BK448 HB; intro HO451 HO454 HO458 HO461 BK446 BK447 BK448 HB; obtain ⟨Ao24, co24, eo24⟩ := Kd.V_slice HO458.out; subst eo24; obtain ⟨Ao25, co25, eo25⟩ := Kd.V_slice HO461.out; subst eo25) | ((with_reducible refine gate_callee (f := 54) rfl ?_); refine goesL_ (some 37) rfl rfl Tryd.func54 (by kernel_rfl) rfl #[.bool t455, .slice Ao24 t456.length co24, .slice Ao25 t459.length co25] rfl zq5 ?_; (with_reducible refine (number_made.calls k t455 _ _ t456 _ _ t459 t462 t463 t466 t469 _ ?side1 ?side2 ?side3 ?side4 A8.out).mono ?_); (case side1 => exact zc ((Kd.V_reads' HO458.out).2.2)); (case side2 => exact (Kd.V_reads' HO458.out).2.1); (case side3 => exact zc ((Kd.V_reads' HO461.out).2.2)); (case side4 => exact (Kd.V_reads' HO461.out).2.1); rintro e w26 ⟨v464, v467, rfl, ho0, ho1, hb⟩; refine ⟨_, rfl, ?_⟩; refine zt10 (vb HO451 hb) (vb HO454 hb) (vb HO458 hb) (vb HO461 hb) (Kd.V_lower (Kd.V_mono (ok' := fun k_ => (w.heap.size ≤ k_) ∧ k_ ≠ gb446 ∧ k_ ≠ gb447 ∧ k_ ≠ gb448) ho0 (fun k_ hk_ => ⟨(Nat.le_trans (below_size (zb3 GE446.out GE447.out GE448.out)) hk_), (Kd.freshB (g := gb446) (o := .cells #[.bool a0_0, .slice A0_1 l0_1.length c0_1, .slice A0_2 l0_2.length c0_2] 24 (0, 0)) (zq2 BK446.out) k_ hk_), (Kd.freshB (g := gb447) (o := .cells #[.bool a1_0, .slice A1_1 l1_1.length c1_1, .slice A1_2 l1_2.length c1_2] 24 (0, 0)) (zq2 BK447.out) k_ hk_), (Kd.freshB (g := gb448) (o := .cells #[.bool false, .slice none 0 0, .slice none 0 0] 24 (0, 0)) (zq2 BK448.out) k_ hk_)⟩)) (below_size (zb3 GE446.out GE447.out GE448.out))) (Kd.V_lower (Kd.V_mono (ok' := fun k_ => (w.heap.size ≤ k_) ∧ k_ ≠ gb446 ∧ k_ ≠ gb447 ∧ k_ ≠ gb448) ho1 (fun k_ hk_ => ⟨(Nat.le_trans (below_size (zb3 GE446.out GE447.out GE448.out)) hk_), (Kd.freshB (g := gb446) (o := .cells #[.bool a0_0, .slice A0_1 l0_1.length c0_1, .slice A0_2 l0_2.length c0_2] 24 (0, 0)) (zq2 BK446.out) k_ hk_), (Kd.freshB (g := gb447) (o := .cells #[.bool a1_0, .slice A1_1 l1_1.length c1_1, .slice A1_2 l1_2.length c1_2] 24 (0, 0)) (zq2 BK447.out) k_ hk_), (Kd.freshB (g := gb448) (o := .cells #[.bool false, .slice none 0 0, .slice none 0 0] 24 (0, 0)) (zq2 BK448.out) k_ hk_)⟩)) (below_size (zb3 GE446.out GE447.out GE448.out))) (bb BK446.out hb) (bb BK447.out hb) (bb BK448.out hb) (below_step (zb3 GE446.out GE447.out GE448.out) hb) ?_; clear HO451 HO454 HO458 HO461 BK446 BK447 BK448 HB; intro HO451 HO454 HO458 HO461 HO465 HO468 BK446 BK447 BK448 HB; (try clear ho1); have hcz27_0 := bc BK448.out 0 (.bool false); have hcz27_1 := bc BK448.out 1 (.slice none 0 0); have hcz27_2 := bc BK448.out 2 (.slice none 0 0); have hfz27_0 := blk_frozen BK448.out 0; have hfz27_1 := blk_frozen BK448.out 1; have hfz27_2 := blk_frozen BK448.out 2; obtain ⟨Ao28, co28, eo28⟩ := Kd.V_slice HO465.out; subst eo28; obtain ⟨Ao29, co29, eo29⟩ := Kd.V_slice HO468.out; subst eo29))
 refine bodyPost_ret (results_ct rfl _ _ gb448 24 #[.bool t462, .slice Ao28 t463.length co28, .slice Ao29 t466.length co29] (0, 0) _ rfl (by (with_reducible repeat (first | refine blk_drewN ?_ _ | refine blk_drew ?_ | refine blk_alloc ?_ _)); refine blk_put (cs := #[.bool t462, .slice Ao28 t463.length co28, .slice none 0 0]) ?_ 2 _ rfl; (with_reducible repeat (first | refine blk_drewN ?_ _ | refine blk_drew ?_ | refine blk_alloc ?_ _)); refine blk_put (cs := #[.bool t462, .slice none 0 0, .slice none 0 0]) ?_ 1 _ rfl; (with_reducible repeat (first | refine blk_drewN ?_ _ | refine blk_drew ?_ | refine blk_alloc ?_ _)); refine blk_put (cs := #[.bool false, .slice none 0 0, .slice none 0 0]) ?_ 0 _ rfl; (with_reducible repeat (first | refine blk_drewN ?_ _ | refine blk_drew ?_ | refine blk_alloc ?_ _)); exact BK448.out) Tryd.underlying24 rfl (by kernel_rfl)) rfl ?_
 exact ⟨_, _, zq9, zwV (h := by exact Kd.V_mono (zv3 gb448 (.bool t462) (.slice Ao28 t463.length co28) (.slice Ao29 t466.length co29) HO465.out (fun _ hk => hk.2.2.2)) (fun _ hk => hk.1.1)), zwV (h := by exact Kd.V_mono (zv3 gb448 (.bool t462) (.slice Ao28 t463.length co28) (.slice Ao29 t466.length co29) HO468.out (fun _ hk => hk.2.2.2)) (fun _ hk => hk.1.1)), zb3 GE446.out GE447.out GE448.out⟩
end Go.Proofs.YtemnjgkicndmjaaDoor.Q
