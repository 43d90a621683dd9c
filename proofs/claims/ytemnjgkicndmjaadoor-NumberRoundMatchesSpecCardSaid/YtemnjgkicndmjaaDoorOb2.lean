/- What this text proves: a part of the walk and of the plain laws of one card; no conditions. -/
import Derived.Test.YtemnjgkicndmjaaDoorOb1
import Derived.Laws.BitsAllLaws
import Derived.Laws.BitsLemmas
namespace Go.Proofs.YtemnjgkicndmjaaDoor.Q
open Go.RowKit Go.Proofs.YtemnjgkicndmjaaDoorW.PrintWords Go.Proofs.YtemnjgkicndmjaaDoorW.PrintLast Go.Proofs.YtemnjgkicndmjaaDoorW.PrintMore
attribute [local go_sem] max2_int min2_int max_two min_two max_three min_three max_four min_four
set_option linter.unusedVariables false
set_option linter.unusedSimpArgs false
mutual
def number_Check.j0 : Nat → Bool → Bool → List Int → List Int → Option (Int)
 | 0, _, _, _, _ => none
 | k + 1, x13, x230000, x230001, x230002 => if x13 = true then (some 3) else ((number_Check_1.f x230001).bind fun t230 => (if t230 = true then (number_Check.j1 k true x230000 x230001 x230002) else ((number_Check_1.f x230002).bind fun t231 => (if t231 = true then (number_Check.j1 k true x230000 x230001 x230002) else (number_Check.j1 k ((x230002.length : Int) == 0) x230000 x230001 x230002)))))
def number_Check.j1 : Nat → Bool → Bool → List Int → List Int → Option (Int)
 | 0, _, _, _, _ => none
 | k + 1, x14, x230000, x230001, x230002 => if x14 = true then (some 2) else (if (x230001.length : Int) = 0 then (if x230000 = true then (number_Check.j2 k true x230000 x230001 x230002) else ((nat_IsOne.f x230002).bind fun t232 => (number_Check.j2 k (!t232) x230000 x230001 x230002))) else (number_Check.j2 k false x230000 x230001 x230002))
def number_Check.j2 : Nat → Bool → Bool → List Int → List Int → Option (Int)
 | 0, _, _, _, _ => none
 | k + 1, x31, x230000, x230001, x230002 => if x31 = true then (some 2) else ((nat_IsOne.f x230002).bind fun t233 => (if t233 = true then (some 0) else ((nat_IsOne.f x230001).bind fun t234 => (if t234 = true then (some 0) else ((nat_Gcd.f k x230001 x230002).bind fun t235 => ((nat_IsOne.f t235).bind fun t238 => (if t238 = true then (some 0) else (some 2))))))))
end
def number_Check.f (k : Nat) (a0_0 : Bool) (l0_1 : List Int) (l0_2 : List Int) : Option (Int) := if (l0_1.length : Int) > 128 then (number_Check.j0 k true a0_0 l0_1 l0_2) else (number_Check.j0 k (decide ((l0_2.length : Int) > 128)) a0_0 l0_1 l0_2)
theorem number_Check.mono_l : ∀ k, (∀ y0 y1 y2 y3, LeO (number_Check.j0 k y0 y1 y2 y3) (number_Check.j0 (k + 1) y0 y1 y2 y3)) ∧ (∀ y0 y1 y2 y3, LeO (number_Check.j1 k y0 y1 y2 y3) (number_Check.j1 (k + 1) y0 y1 y2 y3)) ∧ (∀ y0 y1 y2 y3, LeO (number_Check.j2 k y0 y1 y2 y3) (number_Check.j2 (k + 1) y0 y1 y2 y3))
 | 0 => ⟨fun _ _ _ _ r h => by simp [number_Check.j0] at h, fun _ _ _ _ r h => by simp [number_Check.j1] at h, fun _ _ _ _ r h => by simp [number_Check.j2] at h⟩
 | k + 1 => by
  obtain ⟨ih0, ih1, ih2⟩ := number_Check.mono_l k
  refine ⟨?_, ?_, ?_⟩
  ·intro y0 y1 y2 y3
   unfold number_Check.j0
   have m0 := ih0
   have m1 := ih1
   have m2 := ih2
   have m3 := @nat_Gcd.mono
   exact zm
  ·intro y0 y1 y2 y3
   unfold number_Check.j1
   have m0 := ih0
   have m1 := ih1
   have m2 := ih2
   have m3 := @nat_Gcd.mono
   exact zm
  ·intro y0 y1 y2 y3
   unfold number_Check.j2
   have m0 := ih0
   have m1 := ih1
   have m2 := ih2
   have m3 := @nat_Gcd.mono
   exact zm
theorem number_Check.mono : ∀ a0 a1 a2 k, LeO (number_Check.f k a0 a1 a2) (number_Check.f (k + 1) a0 a1 a2) := by
 intro a0 a1 a2 k
 obtain ⟨ih0, ih1, ih2⟩ := number_Check.mono_l k
 unfold number_Check.f
 have m0 := ih0
 have m1 := ih1
 have m2 := ih2
 have m3 := @nat_Gcd.mono
 exact zm
set_option maxHeartbeats 8000000 in
set_option maxRecDepth 100000 in
theorem number_Check.calls (k : Nat) (a0_0 : Bool) (A0_1 : Option Addr) (c0_1 : Nat) (l0_1 : List Int) (A0_2 : Option Addr) (c0_2 : Nat) (l0_2 : List Int) (r : Int) (w : World) (hr0_1 : Kd.C (Kd.int .u32) w A0_1 l0_1.length l0_1) (hc0_1 : l0_1.length ≤ c0_1) (hr0_2 : Kd.C (Kd.int .u32) w A0_2 l0_2.length l0_2) (hc0_2 : l0_2.length ≤ c0_2) (h : number_Check.f k a0_0 l0_1 l0_2 = some r) :
  Calls Tryd.prog 14 #[.agg #[.bool a0_0, .slice A0_1 l0_1.length c0_1, .slice A0_2 l0_2.length c0_2]] w fun e w' => e = .returned (.int .i64 r) ∧ Below w.heap.size w w' := by
 have hu24 := Tryd.underlying24
 have HR0_1 := am hr0_1
 have HC0_1 := am hc0_1
 clear hr0_1 hc0_1
 have HR0_2 := am hr0_2
 have HC0_2 := am hc0_2
 clear hr0_2 hc0_2
 have HB := am (Below.refl w.heap.size w)
 have H := h
 unfold number_Check.f at H
 clear h
 have HC2 := am H
 clear H
 go_enter Tryd.func14, Tryd.ntmps14
 go_upto_region 1 with (first | ((with_reducible refine gate_dst (N := 1) rfl ?_); (try (refine gate_guard (by rfl) ?_; dsimp only)); refine zbox (N := 1) (cs := #[.bool a0_0, .slice A0_1 l0_1.length c0_1, .slice A0_2 l0_2.length c0_2]) (t := 24) ?_; intro gb229 hg w3 hbox hb; refine zt3 (below_step zq1 hb) (hbox) ((zs hg (below_size zq1) : w.heap.size ≤ gb229)) ?_; clear HB; intro HB BK229 GW229; have GE229 := GW229; clear hb hbox hg))
 (try simp only [Act.put, List.setIfInBounds_toArray, List.set_cons_zero, List.set_cons_succ])
 go_cut [13] (fun v13 wc => ∃ (kq : Nat) (x13_1 : Bool), v13 = .bool x13_1 ∧ Aside0 (number_Check.j0 kq x13_1 a0_0 l0_1 l0_2 = some r) ∧ Aside0 (kq ≤ k) ∧ Aside0 (wc.heap[gb229]? = some (.cells #[.bool a0_0, (.slice A0_1 l0_1.length c0_1), (.slice A0_2 l0_2.length c0_2)] 24 (0, 0))) ∧ Aside0 (Below w.heap.size w wc))
 case first =>
  have H := HC2.out
  clear HC2
  by_cases c4 : (l0_1.length : Int) > 128
  ·rw [if_pos c4] at H
   have c4b0 : decide (128 < (l0_1.length : Int)) = true := decide_eq_true c4
   have c4b1 : decide (128 < l0_1.length) = true := decide_eq_true (by omega)
   clear c4
   (first | rw [c4b0] | (simp only [i64_w, i32_w]; rw [c4b0]) | skip)
   have H' := am H
   clear H
   have hcz5_0 := bc BK229.out 0 (.bool a0_0)
   have hcz5_1 := bc BK229.out 1 (.slice A0_1 l0_1.length c0_1)
   have hcz5_2 := bc BK229.out 2 (.slice A0_2 l0_2.length c0_2)
   have hfz5_0 := blk_frozen BK229.out 0
   have hfz5_1 := blk_frozen BK229.out 1
   have hfz5_2 := blk_frozen BK229.out 2
   go_wp2
   go_meet
   case rel => exact ⟨_, (true), zq8, H', ⟨by first | omega | exact Nat.le_refl _⟩, ⟨zq2 BK229.out⟩, ⟨zb1 GE229.out⟩⟩
  ·rw [if_neg c4] at H
   have c4b0 : decide (128 < (l0_1.length : Int)) = false := decide_eq_false c4
   have c4b1 : decide (128 < l0_1.length) = false := decide_eq_false (by omega)
   clear c4
   (first | rw [c4b0] | (simp only [i64_w, i32_w]; rw [c4b0]) | skip)
   have H' := am H
   clear H
   have hcz6_0 := bc BK229.out 0 (.bool a0_0)
   have hcz6_1 := bc BK229.out 1 (.slice A0_1 l0_1.length c0_1)
   have hcz6_2 := bc BK229.out 2 (.slice A0_2 l0_2.length c0_2)
   have hfz6_0 := blk_frozen BK229.out 0
   have hfz6_1 := blk_frozen BK229.out 1
   have hfz6_2 := blk_frozen BK229.out 2
   go_wp2
   go_meet
   case rel => exact ⟨_, (decide ((l0_2.length : Int) > 128)), zq8, H', ⟨by first | omega | exact Nat.le_refl _⟩, ⟨zq2 BK229.out⟩, ⟨zb1 GE229.out⟩⟩
 case rest =>
  clear HC2
  obtain ⟨kq, x13_1, rfl, HA, HJ1, BK229, HB⟩ := hcut
  cases kq with
  | zero => exact absurd HA.out (by simp [number_Check.j0])
  | succ kj1 =>
   have H := HA.out
   clear HA
   simp only [number_Check.j0] at H
   by_cases c7 : x13_1 = true
   ·subst c7
    have H1 : (some 3) = some r := by rw [if_pos rfl] at H; exact H
    clear H
    have H := H1
    clear H1
    obtain rfl := Option.some.inj H
    go_wp2
    go_ret
    exact ⟨zq9, zb1 GE229.out⟩
   ·replace c7 := Bool.eq_false_iff.mpr c7
    subst c7
    have H1 : ((number_Check_1.f l0_1).bind fun t230 => (if t230 = true then (number_Check.j1 kj1 true a0_0 l0_1 l0_2) else ((number_Check_1.f l0_2).bind fun t231 => (if t231 = true then (number_Check.j1 kj1 true a0_0 l0_1 l0_2) else (number_Check.j1 kj1 ((l0_2.length : Int) == 0) a0_0 l0_1 l0_2))))) = some r := by rw [if_neg (show ¬ (false = true) by decide)] at H; exact H
    clear H
    have H := H1
    clear H1
    have HC8 := am H
    clear H
    go_upto_region 4 with (fail)
    go_cut [14] (fun v14 wc => ∃ (kq : Nat) (x14_7 : Bool), v14 = .bool x14_7 ∧ Aside0 (number_Check.j1 kq x14_7 a0_0 l0_1 l0_2 = some r) ∧ Aside0 (kq ≤ kj1) ∧ Aside0 (wc.heap[gb229]? = some (.cells #[.bool a0_0, (.slice A0_1 l0_1.length c0_1), (.slice A0_2 l0_2.length c0_2)] 24 (0, 0))) ∧ Aside0 (Below w.heap.size w wc))
    case first =>
     have H := HC8.out
     clear HC8
     replace H := zj H
     obtain ⟨t230, A9, H⟩ := H
     by_cases c10 : t230 = true
     ·subst c10
      have H1 : (number_Check.j1 kj1 true a0_0 l0_1 l0_2) = some r := by rw [if_pos rfl] at H; exact H
      clear H
      have H := H1
      clear H1
      have H' := am H
      clear H
      have hcz11_0 := bc BK229.out 0 (.bool a0_0)
      have hcz11_1 := bc BK229.out 1 (.slice A0_1 l0_1.length c0_1)
      have hcz11_2 := bc BK229.out 2 (.slice A0_2 l0_2.length c0_2)
      have hfz11_0 := blk_frozen BK229.out 0
      have hfz11_1 := blk_frozen BK229.out 1
      have hfz11_2 := blk_frozen BK229.out 2
      go_wp2_with (first | (go_at_call 42; (with_reducible refine (number_Check_1.calls _ _ l0_1 true _ ?side1 ?side2 A9.out).mono ?_); (case side1 => exact zc (Kd.C_below HR0_1.out HB.out)); (case side2 => exact HC0_1.out); rintro e w' ⟨rfl, ⟨nd, rfl⟩⟩))
      go_meet
      case rel => exact ⟨_, (true), zq8, H', ⟨by have := HJ1.out; first | omega | exact Nat.le_refl _⟩, ⟨zq2 BK229.out⟩, ⟨zb1 GE229.out⟩⟩
     ·replace c10 := Bool.eq_false_iff.mpr c10
      subst c10
      have H1 : ((number_Check_1.f l0_2).bind fun t231 => (if t231 = true then (number_Check.j1 kj1 true a0_0 l0_1 l0_2) else (number_Check.j1 kj1 ((l0_2.length : Int) == 0) a0_0 l0_1 l0_2))) = some r := by rw [if_neg (show ¬ (false = true) by decide)] at H; exact H
      clear H
      have H := H1
      clear H1
      replace H := zj H
      obtain ⟨t231, A12, H⟩ := H
      by_cases c13 : t231 = true
      ·subst c13
       have H1 : (number_Check.j1 kj1 true a0_0 l0_1 l0_2) = some r := by rw [if_pos rfl] at H; exact H
       clear H
       have H := H1
       clear H1
       have H' := am H
       clear H
       have hcz14_0 := bc BK229.out 0 (.bool a0_0)
       have hcz14_1 := bc BK229.out 1 (.slice A0_1 l0_1.length c0_1)
       have hcz14_2 := bc BK229.out 2 (.slice A0_2 l0_2.length c0_2)
       have hfz14_0 := blk_frozen BK229.out 0
       have hfz14_1 := blk_frozen BK229.out 1
       have hfz14_2 := blk_frozen BK229.out 2
       go_wp2_with (first | (go_at_call 42; (with_reducible refine (number_Check_1.calls _ _ l0_1 false _ ?side1 ?side2 A9.out).mono ?_); (case side1 => exact zc (Kd.C_below HR0_1.out HB.out)); (case side2 => exact HC0_1.out); rintro e w' ⟨rfl, ⟨nd, rfl⟩⟩) | (go_at_call 42; (with_reducible refine (number_Check_1.calls _ _ l0_2 true _ ?side1 ?side2 A12.out).mono ?_); (case side1 => exact zc (Kd.C_below HR0_2.out (zb1 GE229.out))); (case side2 => exact HC0_2.out); rintro e w' ⟨rfl, ⟨nd, rfl⟩⟩))
       go_meet
       case rel => exact ⟨_, (true), zq8, H', ⟨by have := HJ1.out; first | omega | exact Nat.le_refl _⟩, ⟨zq2 BK229.out⟩, ⟨zb1 GE229.out⟩⟩
      ·replace c13 := Bool.eq_false_iff.mpr c13
       subst c13
       have H1 : (number_Check.j1 kj1 ((l0_2.length : Int) == 0) a0_0 l0_1 l0_2) = some r := by rw [if_neg (show ¬ (false = true) by decide)] at H; exact H
       clear H
       have H := H1
       clear H1
       have H' := am H
       clear H
       have hcz15_0 := bc BK229.out 0 (.bool a0_0)
       have hcz15_1 := bc BK229.out 1 (.slice A0_1 l0_1.length c0_1)
       have hcz15_2 := bc BK229.out 2 (.slice A0_2 l0_2.length c0_2)
       have hfz15_0 := blk_frozen BK229.out 0
       have hfz15_1 := blk_frozen BK229.out 1
       have hfz15_2 := blk_frozen BK229.out 2
       go_wp2_with (first | (go_at_call 42; (with_reducible refine (number_Check_1.calls _ _ l0_1 false _ ?side1 ?side2 A9.out).mono ?_); (case side1 => exact zc (Kd.C_below HR0_1.out HB.out)); (case side2 => exact HC0_1.out); rintro e w' ⟨rfl, ⟨nd, rfl⟩⟩) | (go_at_call 42; (with_reducible refine (number_Check_1.calls _ _ l0_2 false _ ?side1 ?side2 A12.out).mono ?_); (case side1 => exact zc (Kd.C_below HR0_2.out (zb1 GE229.out))); (case side2 => exact HC0_2.out); rintro e w' ⟨rfl, ⟨nd, rfl⟩⟩))
       go_meet
       case rel => exact ⟨_, (((l0_2.length : Int) == 0)), zq8, H', ⟨by have := HJ1.out; first | omega | exact Nat.le_refl _⟩, ⟨zq2 BK229.out⟩, ⟨zb1 GE229.out⟩⟩
    case rest =>
     clear HC8
     obtain ⟨kq, x14_7, rfl, HA, HJ7, BK229, HB⟩ := hcut
     cases kq with
     | zero => exact absurd HA.out (by simp [number_Check.j1])
     | succ kj7 =>
      have H := HA.out
      clear HA
      simp only [number_Check.j1] at H
      by_cases c16 : x14_7 = true
      ·subst c16
       have H1 : (some 2) = some r := by rw [if_pos rfl] at H; exact H
       clear H
       have H := H1
       clear H1
       obtain rfl := Option.some.inj H
       go_wp2
       go_ret
       exact ⟨zq9, zb1 GE229.out⟩
      ·replace c16 := Bool.eq_false_iff.mpr c16
       subst c16
       have H1 : (if (l0_1.length : Int) = 0 then (if a0_0 = true then (number_Check.j2 kj7 true a0_0 l0_1 l0_2) else ((nat_IsOne.f l0_2).bind fun t232 => (number_Check.j2 kj7 (!t232) a0_0 l0_1 l0_2))) else (number_Check.j2 kj7 false a0_0 l0_1 l0_2)) = some r := by rw [if_neg (show ¬ (false = true) by decide)] at H; exact H
       clear H
       have H := H1
       clear H1
       have HC17 := am H
       clear H
       go_upto_region 6 with (fail)
       go_cut [31] (fun v31 wc => ∃ (kq : Nat) (x31_16 : Bool), v31 = .bool x31_16 ∧ Aside0 (number_Check.j2 kq x31_16 a0_0 l0_1 l0_2 = some r) ∧ Aside0 (kq ≤ kj7) ∧ Aside0 (wc.heap[gb229]? = some (.cells #[.bool a0_0, (.slice A0_1 l0_1.length c0_1), (.slice A0_2 l0_2.length c0_2)] 24 (0, 0))) ∧ Aside0 (Below w.heap.size w wc))
       case first =>
        have H := HC17.out
        clear HC17
        by_cases c18 : (l0_1.length : Int) = 0
        ·rw [if_pos c18] at H
         have c18b0 : ((l0_1.length : Int) == 0) = true := beq_iff_eq.mpr c18
         have c18b1 : ((l0_1.length : Int) != 0) = false := bne_eq_false_iff_eq.mpr c18
         clear c18
         (first | rw [c18b0] | (simp only [i64_w, i32_w]; rw [c18b0]) | skip)
         by_cases c19 : a0_0 = true
         ·subst c19
          have H1 : (number_Check.j2 kj7 true true l0_1 l0_2) = some r := by rw [if_pos rfl] at H; exact H
          clear H
          have H := H1
          clear H1
          have H' := am H
          clear H
          have hcz20_0 := bc BK229.out 0 (.bool true)
          have hcz20_1 := bc BK229.out 1 (.slice A0_1 l0_1.length c0_1)
          have hcz20_2 := bc BK229.out 2 (.slice A0_2 l0_2.length c0_2)
          have hfz20_0 := blk_frozen BK229.out 0
          have hfz20_1 := blk_frozen BK229.out 1
          have hfz20_2 := blk_frozen BK229.out 2
          go_wp2
          go_meet
          case rel => exact ⟨_, (true), zq8, H', ⟨by have := HJ1.out; have := HJ7.out; first | omega | exact Nat.le_refl _⟩, ⟨zq2 BK229.out⟩, ⟨zb1 GE229.out⟩⟩
         ·replace c19 := Bool.eq_false_iff.mpr c19
          subst c19
          have H1 : ((nat_IsOne.f l0_2).bind fun t232 => (number_Check.j2 kj7 (!t232) false l0_1 l0_2)) = some r := by rw [if_neg (show ¬ (false = true) by decide)] at H; exact H
          clear H
          have H := H1
          clear H1
          replace H := zj H
          obtain ⟨t232, A21, H⟩ := H
          have H' := am H
          clear H
          have hcz22_0 := bc BK229.out 0 (.bool false)
          have hcz22_1 := bc BK229.out 1 (.slice A0_1 l0_1.length c0_1)
          have hcz22_2 := bc BK229.out 2 (.slice A0_2 l0_2.length c0_2)
          have hfz22_0 := blk_frozen BK229.out 0
          have hfz22_1 := blk_frozen BK229.out 1
          have hfz22_2 := blk_frozen BK229.out 2
          go_wp2_with (first | (go_at_call 43; (with_reducible refine (nat_IsOne.calls _ _ l0_2 t232 _ ?side1 ?side2 A21.out).mono ?_); (case side1 => exact zc (Kd.C_below HR0_2.out HB.out)); (case side2 => exact HC0_2.out); rintro e w' ⟨rfl, ⟨nd, rfl⟩⟩))
          go_meet
          case rel => exact ⟨_, (!t232), zq8, H', ⟨by have := HJ1.out; have := HJ7.out; first | omega | exact Nat.le_refl _⟩, ⟨zq2 BK229.out⟩, ⟨zb1 GE229.out⟩⟩
        ·rw [if_neg c18] at H
         have c18b0 : ((l0_1.length : Int) == 0) = false := beq_eq_false_iff_ne.mpr c18
         have c18b1 : ((l0_1.length : Int) != 0) = true := bne_iff_ne.mpr c18
         have c18b2 : ¬ (l0_1 = []) := fun h_ => c18 (by rw [h_]; rfl)
         (first | rw [c18b0] | (simp only [i64_w, i32_w]; rw [c18b0]) | skip)
         have H' := am H
         clear H
         have hcz23_0 := bc BK229.out 0 (.bool a0_0)
         have hcz23_1 := bc BK229.out 1 (.slice A0_1 l0_1.length c0_1)
         have hcz23_2 := bc BK229.out 2 (.slice A0_2 l0_2.length c0_2)
         have hfz23_0 := blk_frozen BK229.out 0
         have hfz23_1 := blk_frozen BK229.out 1
         have hfz23_2 := blk_frozen BK229.out 2
         go_wp2
         go_meet
         case rel => exact ⟨_, (false), zq8, H', ⟨by have := HJ1.out; have := HJ7.out; first | omega | exact Nat.le_refl _⟩, ⟨zq2 BK229.out⟩, ⟨zb1 GE229.out⟩⟩
       case rest =>
        clear HC17
        obtain ⟨kq, x31_16, rfl, HA, HJ16, BK229, HB⟩ := hcut
        cases kq with
        | zero => exact absurd HA.out (by simp [number_Check.j2])
        | succ kj16 =>
         have H := HA.out
         clear HA
         simp only [number_Check.j2] at H
         by_cases c24 : x31_16 = true
         ·subst c24
          have H1 : (some 2) = some r := by rw [if_pos rfl] at H; exact H
          clear H
          have H := H1
          clear H1
          obtain rfl := Option.some.inj H
          go_wp2
          go_ret
          exact ⟨zq9, zb1 GE229.out⟩
         ·replace c24 := Bool.eq_false_iff.mpr c24
          subst c24
          have H1 : ((nat_IsOne.f l0_2).bind fun t233 => (if t233 = true then (some 0) else ((nat_IsOne.f l0_1).bind fun t234 => (if t234 = true then (some 0) else ((nat_Gcd.f kj16 l0_1 l0_2).bind fun t235 => ((nat_IsOne.f t235).bind fun t238 => (if t238 = true then (some 0) else (some 2)))))))) = some r := by rw [if_neg (show ¬ (false = true) by decide)] at H; exact H
          clear H
          have H := H1
          clear H1
          replace H := zj H
          obtain ⟨t233, A25, H⟩ := H
          by_cases c26 : t233 = true
          ·subst c26
           have H1 : (some 0) = some r := by rw [if_pos rfl] at H; exact H
           clear H
           have H := H1
           clear H1
           obtain rfl := Option.some.inj H
           have hcz27_0 := bc BK229.out 0 (.bool a0_0)
           have hcz27_1 := bc BK229.out 1 (.slice A0_1 l0_1.length c0_1)
           have hcz27_2 := bc BK229.out 2 (.slice A0_2 l0_2.length c0_2)
           have hfz27_0 := blk_frozen BK229.out 0
           have hfz27_1 := blk_frozen BK229.out 1
           have hfz27_2 := blk_frozen BK229.out 2
           go_wp2_with (first | ((with_reducible refine gate_callee (f := 43) rfl ?_); refine goesL_ (some 49) rfl rfl Tryd.func43 (by kernel_rfl) rfl #[.slice A0_2 l0_2.length c0_2] rfl zq5 ?_; (with_reducible refine (nat_IsOne.calls _ _ l0_2 true _ ?side1 ?side2 A25.out).mono ?_); (case side1 => exact zc (Kd.C_below HR0_2.out HB.out)); (case side2 => exact HC0_2.out); rintro e w' ⟨rfl, ⟨nd, rfl⟩⟩; refine ⟨_, rfl, ?_⟩))
           go_ret
           exact ⟨zq9, zb1 GE229.out⟩
          ·replace c26 := Bool.eq_false_iff.mpr c26
           subst c26
           have H1 : ((nat_IsOne.f l0_1).bind fun t234 => (if t234 = true then (some 0) else ((nat_Gcd.f kj16 l0_1 l0_2).bind fun t235 => ((nat_IsOne.f t235).bind fun t238 => (if t238 = true then (some 0) else (some 2)))))) = some r := by rw [if_neg (show ¬ (false = true) by decide)] at H; exact H
           clear H
           have H := H1
           clear H1
           replace H := zj H
           obtain ⟨t234, A28, H⟩ := H
           by_cases c29 : t234 = true
           ·subst c29
            have H1 : (some 0) = some r := by rw [if_pos rfl] at H; exact H
            clear H
            have H := H1
            clear H1
            obtain rfl := Option.some.inj H
            have hcz30_0 := bc BK229.out 0 (.bool a0_0)
            have hcz30_1 := bc BK229.out 1 (.slice A0_1 l0_1.length c0_1)
            have hcz30_2 := bc BK229.out 2 (.slice A0_2 l0_2.length c0_2)
            have hfz30_0 := blk_frozen BK229.out 0
            have hfz30_1 := blk_frozen BK229.out 1
            have hfz30_2 := blk_frozen BK229.out 2
            go_wp2_with (first | ((with_reducible refine gate_callee (f := 43) rfl ?_); refine goesL_ (some 49) rfl rfl Tryd.func43 (by kernel_rfl) rfl #[.slice A0_2 l0_2.length c0_2] rfl zq5 ?_; (with_reducible refine (nat_IsOne.calls _ _ l0_2 false _ ?side1 ?side2 A25.out).mono ?_); (case side1 => exact zc (Kd.C_below HR0_2.out HB.out)); (case side2 => exact HC0_2.out); rintro e w' ⟨rfl, ⟨nd, rfl⟩⟩; refine ⟨_, rfl, ?_⟩) | (go_at_call 43; (with_reducible refine (nat_IsOne.calls _ _ l0_1 true _ ?side1 ?side2 A28.out).mono ?_); (case side1 => exact zc (Kd.C_below HR0_1.out (zb1 GE229.out))); (case side2 => exact HC0_1.out); rintro e w' ⟨rfl, ⟨nd, rfl⟩⟩))
            go_ret
            exact ⟨zq9, zb1 GE229.out⟩
           ·replace c29 := Bool.eq_false_iff.mpr c29
            subst c29
            have H1 : ((nat_Gcd.f kj16 l0_1 l0_2).bind fun t235 => ((nat_IsOne.f t235).bind fun t238 => (if t238 = true then (some 0) else (some 2)))) = some r := by rw [if_neg (show ¬ (false = true) by decide)] at H; exact H
            clear H
            have H := H1
            clear H1
            replace H := zj H
            obtain ⟨t235, A31, H⟩ := H
            replace H := zj H
            obtain ⟨t238, A32, H⟩ := H
            by_cases c33 : t238 = true
            ·subst c33
             have H1 : (some 0) = some r := by rw [if_pos rfl] at H; exact H
             clear H
             have H := H1
             clear H1
             obtain rfl := Option.some.inj H
             have hcz34_0 := bc BK229.out 0 (.bool a0_0)
             have hcz34_1 := bc BK229.out 1 (.slice A0_1 l0_1.length c0_1)
             have hcz34_2 := bc BK229.out 2 (.slice A0_2 l0_2.length c0_2)
             have hfz34_0 := blk_frozen BK229.out 0
             have hfz34_1 := blk_frozen BK229.out 1
             have hfz34_2 := blk_frozen BK229.out 2
             go_wp2_with (first | ((with_reducible refine gate_callee (f := 43) rfl ?_); refine goesL_ (some 49) rfl rfl Tryd.func43 (by kernel_rfl) rfl #[.slice A0_2 l0_2.length c0_2] rfl zq5 ?_; (with_reducible refine (nat_IsOne.calls _ _ l0_2 false _ ?side1 ?side2 A25.out).mono ?_); (case side1 => exact zc (Kd.C_below HR0_2.out HB.out)); (case side2 => exact HC0_2.out); rintro e w' ⟨rfl, ⟨nd, rfl⟩⟩; refine ⟨_, rfl, ?_⟩) | (go_at_call 43; (with_reducible refine (nat_IsOne.calls _ _ l0_1 false _ ?side1 ?side2 A28.out).mono ?_); (case side1 => exact zc (Kd.C_below HR0_1.out (zb1 GE229.out))); (case side2 => exact HC0_1.out); rintro e w' ⟨rfl, ⟨nd, rfl⟩⟩) | (go_at_call 44; (with_reducible refine (nat_Gcd.calls kj16 (fun k_ => k_ < w.heap.size) _ _ l0_1 (fun k_ => k_ < w.heap.size) _ _ l0_2 t235 _ ?side1 ?side2 A31.out).mono ?_); (case side1 => exact Kd.V_mk HC0_1.out (Kd.F_below (Kd.C_F (Kd.heap_int .u32) HR0_1.out) (zb1 GE229.out))); (case side2 => exact Kd.V_mk HC0_2.out (Kd.F_below (Kd.C_F (Kd.heap_int .u32) HR0_2.out) (zb1 GE229.out))); rintro e w35 ⟨v236, rfl, ho0, hb⟩; refine zt3 (Kd.R_lower (Kd.R_mono (ok' := fun k_ => True) ho0 (fun _ hk_ => trivial)) (below_size (zb1 GE229.out))) (bb BK229.out hb) (below_step (zb1 GE229.out) hb) ?_; clear BK229 HB; intro HO237 BK229 HB; obtain ⟨Ao36, co36, eo36⟩ := Kd.R_slice HO237.out; subst eo36) | (go_at_call 43; (with_reducible refine (nat_IsOne.calls _ _ t235 true _ ?side1 ?side2 A32.out).mono ?_); (case side1 => exact zc ((Kd.R_reads' HO237.out).2.2)); (case side2 => exact (Kd.R_reads' HO237.out).2.1); rintro e w' ⟨rfl, ⟨nd, rfl⟩⟩))
             go_ret
             exact ⟨zq9, zb1 GE229.out⟩
            ·replace c33 := Bool.eq_false_iff.mpr c33
             subst c33
             have H1 : (some 2) = some r := by rw [if_neg (show ¬ (false = true) by decide)] at H; exact H
             clear H
             have H := H1
             clear H1
             obtain rfl := Option.some.inj H
             have hcz37_0 := bc BK229.out 0 (.bool a0_0)
             have hcz37_1 := bc BK229.out 1 (.slice A0_1 l0_1.length c0_1)
             have hcz37_2 := bc BK229.out 2 (.slice A0_2 l0_2.length c0_2)
             have hfz37_0 := blk_frozen BK229.out 0
             have hfz37_1 := blk_frozen BK229.out 1
             have hfz37_2 := blk_frozen BK229.out 2
             go_wp2_with (first | ((with_reducible refine gate_callee (f := 43) rfl ?_); refine goesL_ (some 49) rfl rfl Tryd.func43 (by kernel_rfl) rfl #[.slice A0_2 l0_2.length c0_2] rfl zq5 ?_; (with_reducible refine (nat_IsOne.calls _ _ l0_2 false _ ?side1 ?side2 A25.out).mono ?_); (case side1 => exact zc (Kd.C_below HR0_2.out HB.out)); (case side2 => exact HC0_2.out); rintro e w' ⟨rfl, ⟨nd, rfl⟩⟩; refine ⟨_, rfl, ?_⟩) | (go_at_call 43; (with_reducible refine (nat_IsOne.calls _ _ l0_1 false _ ?side1 ?side2 A28.out).mono ?_); (case side1 => exact zc (Kd.C_below HR0_1.out (zb1 GE229.out))); (case side2 => exact HC0_1.out); rintro e w' ⟨rfl, ⟨nd, rfl⟩⟩) | (go_at_call 44; (with_reducible refine (nat_Gcd.calls kj16 (fun k_ => k_ < w.heap.size) _ _ l0_1 (fun k_ => k_ < w.heap.size) _ _ l0_2 t235 _ ?side1 ?side2 A31.out).mono ?_); (case side1 => exact Kd.V_mk HC0_1.out (Kd.F_below (Kd.C_F (Kd.heap_int .u32) HR0_1.out) (zb1 GE229.out))); (case side2 => exact Kd.V_mk HC0_2.out (Kd.F_below (Kd.C_F (Kd.heap_int .u32) HR0_2.out) (zb1 GE229.out))); rintro e w38 ⟨v236, rfl, ho0, hb⟩; refine zt3 (Kd.R_lower (Kd.R_mono (ok' := fun k_ => True) ho0 (fun _ hk_ => trivial)) (below_size (zb1 GE229.out))) (bb BK229.out hb) (below_step (zb1 GE229.out) hb) ?_; clear BK229 HB; intro HO237 BK229 HB; obtain ⟨Ao39, co39, eo39⟩ := Kd.R_slice HO237.out; subst eo39) | (go_at_call 43; (with_reducible refine (nat_IsOne.calls _ _ t235 false _ ?side1 ?side2 A32.out).mono ?_); (case side1 => exact zc ((Kd.R_reads' HO237.out).2.2)); (case side2 => exact (Kd.R_reads' HO237.out).2.1); rintro e w' ⟨rfl, ⟨nd, rfl⟩⟩))
             go_ret
             exact ⟨zq9, zb1 GE229.out⟩
mutual
def nat_Mul.l0 : Nat → List Int → List Int → List Int → Int → Int → Option (List Int)
 | 0, _, _, _, _, _ => none
 | k + 1, x1, x5, x17, x18, x19 => if x19 < x18 then (if 0 ≤ x19 then (if x19 < (x17.length : Int) then (nat_Mul.l1 k x1 x5 x19 (rd x17 x19) 0 x17 x18 x19 x1 (x1.length : Int) 0) else (none)) else (none)) else ((nat_Trim.f k x5).bind fun t279 => (some t279))
def nat_Mul.l1 : Nat → List Int → List Int → Int → Int → Int → List Int → Int → Int → List Int → Int → Int → Option (List Int)
 | 0, _, _, _, _, _, _, _, _, _, _, _ => none
 | k + 1, x1, x5, x6, x7, x8, x17, x18, x19, x24, x25, x26 => if x26 < x25 then (if 0 ≤ x26 then (if x26 < (x24.length : Int) then (if 0 ≤ (wrap64 (x6 + x26)) then (if (wrap64 (x6 + x26)) < (x5.length : Int) then (nat_Mul.l1 k x1 (x5.set ((wrap64 (x6 + x26)) : Int).toNat ((IntKind.u64.wrap (x8 + (IntKind.u64.wrap ((IntKind.u64.wrap ((IntKind.u64.wrap (x7)) * (IntKind.u64.wrap (rd x24 x26)))) + (IntKind.u64.wrap (rd x5 (wrap64 (x6 + x26)))))))) % 4294967296)) x6 x7 ((IntKind.u64.wrap (x8 + (IntKind.u64.wrap ((IntKind.u64.wrap ((IntKind.u64.wrap (x7)) * (IntKind.u64.wrap (rd x24 x26)))) + (IntKind.u64.wrap (rd x5 (wrap64 (x6 + x26)))))))) / 4294967296) x17 x18 x19 x24 x25 (wrap64 (x26 + 1))) else (none)) else (none)) else (none)) else (none)) else (if 0 ≤ (wrap64 (x6 + (x1.length : Int))) then (if (wrap64 (x6 + (x1.length : Int))) < (x5.length : Int) then (nat_Mul.l0 k x1 (x5.set ((wrap64 (x6 + (x1.length : Int))) : Int).toNat ((x8) % 4294967296)) x17 x18 (wrap64 (x19 + 1))) else (none)) else (none))
end
def nat_Mul.f (k : Nat) (l0 : List Int) (l1 : List Int) : Option (List Int) := if 0 ≤ (wrap64 ((l0.length : Int) + (l1.length : Int))) then (if (wrap64 ((l0.length : Int) + (l1.length : Int)) : Int).toNat ≤ 70368744177664 then (nat_Mul.l0 k l1 (List.replicate (wrap64 ((l0.length : Int) + (l1.length : Int)) : Int).toNat 0) l0 (l0.length : Int) 0) else (none)) else (none)
theorem nat_Mul.mono_l : ∀ k, (∀ y0 y1 y2 y3 y4, LeO (nat_Mul.l0 k y0 y1 y2 y3 y4) (nat_Mul.l0 (k + 1) y0 y1 y2 y3 y4)) ∧ (∀ y0 y1 y2 y3 y4 y5 y6 y7 y8 y9 y10, LeO (nat_Mul.l1 k y0 y1 y2 y3 y4 y5 y6 y7 y8 y9 y10) (nat_Mul.l1 (k + 1) y0 y1 y2 y3 y4 y5 y6 y7 y8 y9 y10))
 | 0 => ⟨fun _ _ _ _ _ r h => by simp [nat_Mul.l0] at h, fun _ _ _ _ _ _ _ _ _ _ _ r h => by simp [nat_Mul.l1] at h⟩
 | k + 1 => by
  obtain ⟨ih0, ih1⟩ := nat_Mul.mono_l k
  refine ⟨?_, ?_⟩
  ·intro y0 y1 y2 y3 y4
   unfold nat_Mul.l0
   have m0 := ih0
   have m1 := ih1
   have m2 := @nat_Trim.mono
   exact zm
  ·intro y0 y1 y2 y3 y4 y5 y6 y7 y8 y9 y10
   unfold nat_Mul.l1
   have m0 := ih0
   have m1 := ih1
   have m2 := @nat_Trim.mono
   exact zm
theorem nat_Mul.mono : ∀ a0 a1 k, LeO (nat_Mul.f k a0 a1) (nat_Mul.f (k + 1) a0 a1) := by
 intro a0 a1 k
 obtain ⟨ih0, ih1⟩ := nat_Mul.mono_l k
 unfold nat_Mul.f
 have m0 := ih0
 have m1 := ih1
 have m2 := @nat_Trim.mono
 exact zm
set_option maxHeartbeats 8000000 in
set_option maxRecDepth 100000 in
theorem nat_Mul.calls (k : Nat) (A0 : Option Addr) (c0 : Nat) (l0 : List Int) (A1 : Option Addr) (c1 : Nat) (l1 : List Int) (r : List Int) (w : World) (hr0 : Kd.C (Kd.int .u32) w A0 l0.length l0) (hc0 : l0.length ≤ c0) (hr1 : Kd.C (Kd.int .u32) w A1 l1.length l1) (hc1 : l1.length ≤ c1) (h : nat_Mul.f k l0 l1 = some r) :
  Calls Tryd.prog 77 #[.slice A0 l0.length c0, .slice A1 l1.length c1] w fun e w' => ∃ v0_ : Value, e = .returned (v0_) ∧ Kd.V (Kd.int .u32) 55 w' w.heap.size (fun k_ => (w.heap.size ≤ k_)) v0_ r ∧ Below w.heap.size w w' := by
 have HR0 := am hr0
 have HC0 := am hc0
 clear hr0 hc0
 have HR1 := am hr1
 have HC1 := am hc1
 clear hr1 hc1
 have HB := am (Below.refl w.heap.size w)
 have H := h
 unfold nat_Mul.f at H
 clear h
 obtain ⟨ji3, hji3⟩ : ∃ j_ : Int, (wrap64 ((l0.length : Int) + (l1.length : Int))) = j_ := ⟨_, rfl⟩
 replace H : (if 0 ≤ (ji3) then (if (ji3 : Int).toNat ≤ 70368744177664 then (nat_Mul.l0 k l1 (List.replicate (ji3 : Int).toNat 0) l0 (l0.length : Int) 0) else (none)) else (none)) = some r := by first | (rw [hji3] at H; exact H) | (simp only [hji3] at H ⊢; exact H)
 have hji3w : (IntKind.i64.wrap ((l0.length : Int) + (l1.length : Int))) = ji3 := (i64_w _).trans hji3
 replace H := zn H
 obtain ⟨c4, H⟩ := H
 have c4b0 := eq_true c4
 have c4b1 := decide_eq_true c4
 clear c4
 replace H := zn H
 obtain ⟨c5, H⟩ := H
 have c5b0 := eq_true c5
 have c5b1 := decide_eq_true c5
 clear c5
 obtain ⟨y276, hy276⟩ : ∃ y_ : List Int, y_ = (List.replicate (ji3 : Int).toNat 0) := ⟨_, rfl⟩
 try rw [← hy276] at H
 have Ny276 := am hy276
 clear hy276
 have H' := am H
 clear H
 go_enter Tryd.func77, Tryd.ntmps77
 go_wp2_with (first | ((with_reducible refine gate_dst (N := 16) rfl ?_); refine Kd.R_make (Kd.int .u32) _ 55 rfl (N := 16) rfl 22 _ _ rfl ji3 rfl rfl Tryd.underlying22 (.int .u32 0) 4 info55 rfl (by decide) (by omega) 0 (ok := fun _ => True) (okp := fun _ => True) rfl (fun _ hk => hk) trivial zq6 (Nat.le_trans (Nat.mul_le_mul_right _ (zq6 : ji3.toNat ≤ 70368744177664)) (by omega)) (Below.refl _ _) (Nat.le_refl _) ?_; intro v277 w6 ho7 hb hg_ hnew_; clear hg_ hnew_; (first | rw [← Ny276.out] at ho7 | (simp only [Int.reduceToNat] at ho7; rw [← Ny276.out] at ho7)); refine zt2 (Kd.R_lower (Kd.R_newM (M := fun k_ => (w.heap.size ≤ k_)) ho7 (below_size zq1) (fun k_ h_ => h_)) (below_size zq1)) (below_step zq1 hb) ?_; clear HB; intro HO278 HB; clear hb ho7))
 go_loopg [19] k (fun kq v19 w' => ∃ (x5_1 : List Int) (x19_1 : Int), v19 = .int .i64 x19_1 ∧ Aside0 (nat_Mul.l0 kq l1 x5_1 l0 (l0.length : Int) x19_1 = some r) ∧ Aside0 (kq ≤ k) ∧ Aside0 (Kd.R (Kd.int .u32) 55 w' w.heap.size (fun k_ => (w.heap.size ≤ k_)) v277 x5_1) ∧ Aside0 (Below w.heap.size w w'))
 case atStart => exact ⟨(y276), (0), zq8, H', ⟨Nat.le_refl _⟩, ⟨zwR (h := by exact Kd.R_mono HO278.out (fun _ hk => hk.1))⟩, ⟨zq1⟩⟩
 case round =>
  clear H'
  obtain ⟨x5_1, x19_1, rfl, HA, HK1, HO_5, HB⟩ := hrel
  cases gk with
  | zero => exact absurd HA.out (by simp [nat_Mul.l0])
  | succ k1 =>
   have H := HA.out
   clear HA
   simp only [nat_Mul.l0] at H
   by_cases c8 : x19_1 < (l0.length : Int)
   ·rw [if_pos c8] at H
    have c8b0 := decide_eq_true c8
    clear c8
    replace H := zn H
    obtain ⟨c9, H⟩ := H
    have c9b0 := decide_eq_true c9
    clear c9
    replace H := zn H
    obtain ⟨c10, H⟩ := H
    have c10b0 := decide_eq_true c10
    clear c10
    have H' := am H
    clear H
    have p282 : 0 ≤ (x19_1 : Int) := zq6
    have q282 : x19_1 < (l0.length : Int) := zq6
    obtain ⟨ad282, e282, hx282_0⟩ := Kd.at_int HR0.out x19_1 p282 q282
    cases e282
    replace hx282_0 := (HB.out.cell (World.block_lt_of_cell? w _ hx282_0)).trans hx282_0
    replace p282 := eq_true p282
    replace q282 := eq_true q282
    go_wp2
    go_loopg [8, 26] k1 (fun kq v8 v26 w' => ∃ (x5_2 : List Int) (x8_2 : Int) (x26_2 : Int), v8 = .int .u64 x8_2 ∧ v26 = .int .i64 x26_2 ∧ Aside0 (nat_Mul.l1 kq l1 x5_2 x19_1 (rd l0 x19_1) x8_2 l0 (l0.length : Int) x19_1 l1 (l1.length : Int) x26_2 = some r) ∧ Aside0 (kq ≤ k1) ∧ Aside0 (Kd.R (Kd.int .u32) 55 w' w.heap.size (fun k_ => (w.heap.size ≤ k_)) v277 x5_2) ∧ Aside0 (Below w.heap.size w w'))
    case atStart => exact ⟨(x5_1), (0), (0), zq8, zq8, H', ⟨Nat.le_refl _⟩, ⟨zq4 HO_5.out⟩, ⟨zq1⟩⟩
    case round =>
     clear H'
     obtain ⟨x5_2, x8_2, x26_2, rfl, rfl, HA, HK2, HO_5, HB⟩ := hrel
     cases gk with
     | zero => exact absurd HA.out (by simp [nat_Mul.l1])
     | succ k2 =>
      have H := HA.out
      clear HA
      simp only [nat_Mul.l1] at H
      by_cases c11 : x26_2 < (l1.length : Int)
      ·rw [if_pos c11] at H
       have c11b0 := decide_eq_true c11
       clear c11
       replace H := zn H
       obtain ⟨c12, H⟩ := H
       have c12b0 := decide_eq_true c12
       clear c12
       replace H := zn H
       obtain ⟨c13, H⟩ := H
       have c13b0 := decide_eq_true c13
       clear c13
       obtain ⟨ji14, hji14⟩ : ∃ j_ : Int, (wrap64 (x19_1 + x26_2)) = j_ := ⟨_, rfl⟩
       replace H : (if 0 ≤ (ji14) then (if (ji14) < (x5_2.length : Int) then (nat_Mul.l1 k2 l1 (x5_2.set ((ji14) : Int).toNat ((IntKind.u64.wrap (x8_2 + (IntKind.u64.wrap ((IntKind.u64.wrap ((IntKind.u64.wrap ((rd l0 x19_1))) * (IntKind.u64.wrap (rd l1 x26_2)))) + (IntKind.u64.wrap (rd x5_2 (ji14))))))) % 4294967296)) x19_1 (rd l0 x19_1) ((IntKind.u64.wrap (x8_2 + (IntKind.u64.wrap ((IntKind.u64.wrap ((IntKind.u64.wrap ((rd l0 x19_1))) * (IntKind.u64.wrap (rd l1 x26_2)))) + (IntKind.u64.wrap (rd x5_2 (ji14))))))) / 4294967296) l0 (l0.length : Int) x19_1 l1 (l1.length : Int) (wrap64 (x26_2 + 1))) else (none)) else (none)) = some r := by first | (rw [hji14] at H; exact H) | (simp only [hji14] at H ⊢; exact H)
       have hji14w : (IntKind.i64.wrap (x19_1 + x26_2)) = ji14 := (i64_w _).trans hji14
       replace H := zn H
       obtain ⟨c15, H⟩ := H
       have c15b0 := decide_eq_true c15
       clear c15
       replace H := zn H
       obtain ⟨c16, H⟩ := H
       have c16b0 := decide_eq_true c16
       clear c16
       obtain ⟨y285, hy285⟩ : ∃ y_ : List Int, y_ = (x5_2.set ((ji14) : Int).toNat ((IntKind.u64.wrap (x8_2 + (IntKind.u64.wrap ((IntKind.u64.wrap ((IntKind.u64.wrap ((rd l0 x19_1))) * (IntKind.u64.wrap (rd l1 x26_2)))) + (IntKind.u64.wrap (rd x5_2 (ji14))))))) % 4294967296)) := ⟨_, rfl⟩
       try rw [← hy285] at H
       have Ny285 := am hy285
       clear hy285
       have H' := am H
       clear H
       have p283 : 0 ≤ (x26_2 : Int) := zq6
       have q283 : x26_2 < (l1.length : Int) := zq6
       obtain ⟨ad283, e283, hx283_0⟩ := Kd.at_int HR1.out x26_2 p283 q283
       cases e283
       replace hx283_0 := (HB.out.cell (World.block_lt_of_cell? w _ hx283_0)).trans hx283_0
       replace p283 := eq_true p283
       replace q283 := eq_true q283
       obtain ⟨Ao18, co18, eo18⟩ := Kd.R_slice HO_5.out
       subst eo18
       have p284 : 0 ≤ ((ji14) : Int) := zq6
       have q284 : (ji14) < (x5_2.length : Int) := zq6
       obtain ⟨ad284, e284, hx284_0⟩ := Kd.at_int (Kd.R_reads' HO_5.out).2.2 (ji14) p284 q284
       cases e284
       replace p284 := eq_true p284
       replace q284 := eq_true q284
       have p17 : 0 ≤ ((ji14) : Int) := zq6
       have q17 : ((ji14) : Int) < ((x5_2.length : Int) : Int) := zq6
       obtain ⟨go17, co17, eo17, gb17, gl17, cl17, HG17⟩ := Kd.R_form HO_5.out (by omega)
       (first | cases eo17 | (injection eo17 with ea_ en_ ec_; (first | subst ea_ | (injection ea_ with ea_; subst ea_)); subst ec_; clear en_))
       have GB17 := am gb17
       have GG17 := am HG17
       clear gb17 gl17 HG17
       (first | simp only [add_plain] at hx284_0 | skip)
       obtain ⟨hx17_0, hf17_0⟩ := Kd.R_celln 0 HO_5.out ((ji14) : Int) p17 q17
       replace p17 := eq_true p17
       replace q17 := eq_true q17
       have HP19 := Kd.R_putg HO_5.out ((ji14) : Int) ((IntKind.u64.wrap (x8_2 + (IntKind.u64.wrap ((IntKind.u64.wrap ((IntKind.u64.wrap ((rd l0 x19_1))) * (IntKind.u64.wrap (rd l1 x26_2)))) + (IntKind.u64.wrap (rd x5_2 (ji14))))))) % 4294967296)
       go_wp2_with (first | ((with_reducible refine gate_store (t := 55) (p := 52) rfl ?_); refine zstore (t := 55) (p := 52) (w1 := (wr.setCell ⟨go17, ((ji14) : Int).toNat, none⟩ (.int .u32 ((IntKind.u64.wrap (x8_2 + (IntKind.u64.wrap ((IntKind.u64.wrap ((IntKind.u64.wrap ((rd l0 x19_1))) * (IntKind.u64.wrap (rd l1 x26_2)))) + (IntKind.u64.wrap (rd x5_2 (ji14))))))) % 4294967296)))) ?_; intro w20 hw; have hg : wr.grownBy w20 (some go17) := (by rw [hw]; exact HP19.2); have hp_ : Kd.R (Kd.int .u32) 55 w20 w.heap.size (fun k_ => (w.heap.size ≤ k_)) (.slice (some ⟨go17, 0, none⟩) x5_2.length co18) y285 := (by rw [hw, Ny285.out]; exact HP19.1); clear HP19; refine zt2 (hp_) ((by rw [hw]; exact below_set (HB.out) GB17.out : Below w.heap.size w w20)) ?_; clear HO_5 HB; intro HO_5 HB; clear hg hw hp_))
       go_roundg k2
       case measure => have := HK1.out; have := HK2.out; omega
       case rel => exact ⟨(y285), ((IntKind.u64.wrap (x8_2 + (IntKind.u64.wrap ((IntKind.u64.wrap ((IntKind.u64.wrap ((rd l0 x19_1))) * (IntKind.u64.wrap (rd l1 x26_2)))) + (IntKind.u64.wrap (rd x5_2 (ji14))))))) / 4294967296), (wrap64 (x26_2 + 1)), (by first | rfl | (simp; done) | (simp only [← hji14] <;> (first | rfl | simp)) | (simp [*]; done)), zq8, (by first | exact H' | (rw [hji3]; exact H') | (rw [hji14]; exact H')), ⟨by have := HK1.out; have := HK2.out; omega⟩, ⟨zq4 HO_5.out⟩, ⟨zq1⟩⟩
      ·rw [if_neg c11] at H
       have c11b0 := decide_eq_false c11
       clear c11
       obtain ⟨ji21, hji21⟩ : ∃ j_ : Int, (wrap64 (x19_1 + (l1.length : Int))) = j_ := ⟨_, rfl⟩
       replace H : (if 0 ≤ (ji21) then (if (ji21) < (x5_2.length : Int) then (nat_Mul.l0 k2 l1 (x5_2.set ((ji21) : Int).toNat ((x8_2) % 4294967296)) l0 (l0.length : Int) (wrap64 (x19_1 + 1))) else (none)) else (none)) = some r := by first | (rw [hji21] at H; exact H) | (simp only [hji21] at H ⊢; exact H)
       have hji21w : (IntKind.i64.wrap (x19_1 + (l1.length : Int))) = ji21 := (i64_w _).trans hji21
       replace H := zn H
       obtain ⟨c22, H⟩ := H
       have c22b0 := decide_eq_true c22
       clear c22
       replace H := zn H
       obtain ⟨c23, H⟩ := H
       have c23b0 := decide_eq_true c23
       clear c23
       obtain ⟨y286, hy286⟩ : ∃ y_ : List Int, y_ = (x5_2.set ((ji21) : Int).toNat ((x8_2) % 4294967296)) := ⟨_, rfl⟩
       try rw [← hy286] at H
       have Ny286 := am hy286
       clear hy286
       have H' := am H
       clear H
       have p24 : 0 ≤ ((ji21) : Int) := zq6
       have q24 : ((ji21) : Int) < ((x5_2.length : Int) : Int) := zq6
       obtain ⟨go24, co24, eo24, gb24, gl24, cl24, HG24⟩ := Kd.R_form HO_5.out (by omega)
       (first | cases eo24 | (injection eo24 with ea_ en_ ec_; (first | subst ea_ | (injection ea_ with ea_; subst ea_)); subst ec_; clear en_))
       have GB24 := am gb24
       have GG24 := am HG24
       clear gb24 gl24 HG24
       obtain ⟨hx24_0, hf24_0⟩ := Kd.R_celln 0 HO_5.out ((ji21) : Int) p24 q24
       replace p24 := eq_true p24
       replace q24 := eq_true q24
       have HP25 := Kd.R_putg HO_5.out ((ji21) : Int) ((x8_2) % 4294967296)
       go_wp2_with (first | ((with_reducible refine gate_store (t := 55) (p := 63) rfl ?_); refine zstore (t := 55) (p := 63) (w1 := (wr.setCell ⟨go24, ((ji21) : Int).toNat, none⟩ (.int .u32 ((x8_2) % 4294967296)))) ?_; intro w26 hw; have hg : wr.grownBy w26 (some go24) := (by rw [hw]; exact HP25.2); have hp_ : Kd.R (Kd.int .u32) 55 w26 w.heap.size (fun k_ => (w.heap.size ≤ k_)) (.slice (some ⟨go24, 0, none⟩) x5_2.length co24) y286 := (by rw [hw, Ny286.out]; exact HP25.1); clear HP25; refine zt2 (hp_) ((by rw [hw]; exact below_set (HB.out) GB24.out : Below w.heap.size w w26)) ?_; clear HO_5 HB; intro HO_5 HB; clear hg hw hp_))
       go_roundg k2
       case measure => have := HK1.out; have := HK2.out; omega
       case rel => exact ⟨(y286), (wrap64 (x19_1 + 1)), zq8, (by first | exact H' | (rw [hji3]; exact H') | (rw [hji21]; exact H')), ⟨by have := HK1.out; have := HK2.out; omega⟩, ⟨zq4 HO_5.out⟩, ⟨zq1⟩⟩
   ·rw [if_neg c8] at H
    have c8b0 := decide_eq_false c8
    clear c8
    replace H := zj H
    obtain ⟨t279, A27, H⟩ := H
    obtain rfl := Option.some.inj H
    obtain ⟨Ao28, co28, eo28⟩ := Kd.R_slice HO_5.out
    subst eo28
    go_wp2_with (first | ((with_reducible refine gate_callee (f := 86) rfl ?_); refine goesL_ (some 66) rfl rfl Tryd.func86 (by kernel_rfl) rfl #[.slice Ao28 x5_1.length co28] rfl zq5 ?_; (with_reducible refine (nat_Trim.calls k1 (fun k_ => some k_ = (.slice Ao28 x5_1.length co28 : Value).ownBlock) _ _ x5_1 t279 _ ?side1 A27.out).mono ?_); (case side1 => exact Kd.R_V (Kd.R_tight rfl (HO_5.out))); rintro e w29 ⟨v280, rfl, ho0, hb⟩; refine ⟨_, rfl, ?_⟩; refine zt3 (rb HO_5 hb) (Kd.V_lower (Kd.V_mono (ok' := fun k_ => (w.heap.size ≤ k_)) ho0 (fun k_ hk_ => Or.elim hk_ (fun hs_ => ((HO_5.out).1 k_ hs_.symm)) (fun hn_ => (Nat.le_trans (below_size zq1) hn_)))) (below_size zq1)) (below_step zq1 hb) ?_; clear HO_5 HB; intro HO_5 HO281 HB))
    go_ret
    exact ⟨_, by first | rfl | (simp [errW_none, errW_some] <;> rfl) | (simp only [← hji3]; first | rfl | (simp [errW_none, errW_some] <;> rfl)) | (simp [*, errW_none, errW_some] <;> rfl), zq3 HO281.out, zq1⟩
mutual
def nat_plus.l0 : Nat → List Int → List Int → Int → Int → Int → Option (List Int)
 | 0, _, _, _, _, _ => none
 | k + 1, x1, x5, x6, x23, x24 => if x24 < x23 then (if 0 ≤ x24 then (if x24 < (x5.length : Int) then (if x24 < (x1.length : Int) then (nat_plus.l0 k x1 (x5.set (x24 : Int).toNat ((IntKind.u64.wrap ((IntKind.u64.wrap (x6 + (IntKind.u64.wrap (rd x5 x24)))) + (IntKind.u64.wrap (rd x1 x24)))) % 4294967296)) ((IntKind.u64.wrap ((IntKind.u64.wrap (x6 + (IntKind.u64.wrap (rd x5 x24)))) + (IntKind.u64.wrap (rd x1 x24)))) / 4294967296) x23 (wrap64 (x24 + 1))) else (nat_plus.l0 k x1 (x5.set (x24 : Int).toNat ((IntKind.u64.wrap (x6 + (IntKind.u64.wrap (rd x5 x24)))) % 4294967296)) ((IntKind.u64.wrap (x6 + (IntKind.u64.wrap (rd x5 x24)))) / 4294967296) x23 (wrap64 (x24 + 1)))) else (none)) else (none)) else ((nat_Trim.f k x5).bind fun t296 => (some t296))
def nat_plus.l1000 : Nat → List Int → List Int → Int → Int → Int → Option (List Int)
 | 0, _, _, _, _, _ => none
 | k + 1, x1, x5, x6, x23, x24 => if x24 < x23 then (if 0 ≤ x24 then (if x24 < (x5.length : Int) then (if x24 < (x1.length : Int) then (nat_plus.l1000 k x1 (x5.set (x24 : Int).toNat ((IntKind.u64.wrap ((IntKind.u64.wrap (x6 + (IntKind.u64.wrap (rd x5 x24)))) + (IntKind.u64.wrap (rd x1 x24)))) % 4294967296)) ((IntKind.u64.wrap ((IntKind.u64.wrap (x6 + (IntKind.u64.wrap (rd x5 x24)))) + (IntKind.u64.wrap (rd x1 x24)))) / 4294967296) x23 (wrap64 (x24 + 1))) else (nat_plus.l1000 k x1 (x5.set (x24 : Int).toNat ((IntKind.u64.wrap (x6 + (IntKind.u64.wrap (rd x5 x24)))) % 4294967296)) ((IntKind.u64.wrap (x6 + (IntKind.u64.wrap (rd x5 x24)))) / 4294967296) x23 (wrap64 (x24 + 1)))) else (none)) else (none)) else ((nat_Trim.f k x5).bind fun t308 => (some t308))
end
def nat_plus.f (k : Nat) (l0 : List Int) (l1 : List Int) : Option (List Int) := if (l0.length : Int) < (l1.length : Int) then (if 0 ≤ (wrap64 ((l1.length : Int) + 1)) then (if (wrap64 ((l1.length : Int) + 1) : Int).toNat ≤ 70368744177664 then ((some (List.replicate (wrap64 ((l1.length : Int) + 1) : Int).toNat 0 : List Int)).bind fun y287 => ((copy_e55.f y287 l1).bind fun bt290 => (nat_plus.l0 k l0 bt290.2 0 (y287.length : Int) 0))) else (none)) else (none)) else (if 0 ≤ (wrap64 ((l0.length : Int) + 1)) then (if (wrap64 ((l0.length : Int) + 1) : Int).toNat ≤ 70368744177664 then ((some (List.replicate (wrap64 ((l0.length : Int) + 1) : Int).toNat 0 : List Int)).bind fun y299 => ((copy_e55.f y299 l0).bind fun bt302 => (nat_plus.l1000 k l1 bt302.2 0 (y299.length : Int) 0))) else (none)) else (none))
theorem nat_plus.mono_l : ∀ k, (∀ y0 y1 y2 y3 y4, LeO (nat_plus.l0 k y0 y1 y2 y3 y4) (nat_plus.l0 (k + 1) y0 y1 y2 y3 y4)) ∧ (∀ y0 y1 y2 y3 y4, LeO (nat_plus.l1000 k y0 y1 y2 y3 y4) (nat_plus.l1000 (k + 1) y0 y1 y2 y3 y4))
 | 0 => ⟨fun _ _ _ _ _ r h => by simp [nat_plus.l0] at h, fun _ _ _ _ _ r h => by simp [nat_plus.l1000] at h⟩
 | k + 1 => by
  obtain ⟨ih0, ih1⟩ := nat_plus.mono_l k
  refine ⟨?_, ?_⟩
  ·intro y0 y1 y2 y3 y4
   unfold nat_plus.l0
   have m0 := ih0
   have m1 := ih1
   have m2 := @nat_Trim.mono
   exact zm
  ·intro y0 y1 y2 y3 y4
   unfold nat_plus.l1000
   have m0 := ih0
   have m1 := ih1
   have m2 := @nat_Trim.mono
   exact zm
theorem nat_plus.mono : ∀ a0 a1 k, LeO (nat_plus.f k a0 a1) (nat_plus.f (k + 1) a0 a1) := by
 intro a0 a1 k
 obtain ⟨ih0, ih1⟩ := nat_plus.mono_l k
 unfold nat_plus.f
 have m0 := ih0
 have m1 := ih1
 have m2 := @nat_Trim.mono
 exact zm
set_option maxHeartbeats 8000000 in
set_option maxRecDepth 100000 in
theorem nat_plus.calls (k : Nat) (A0 : Option Addr) (c0 : Nat) (l0 : List Int) (A1 : Option Addr) (c1 : Nat) (l1 : List Int) (r : List Int) (w : World) (hr0 : Kd.C (Kd.int .u32) w A0 l0.length l0) (hc0 : l0.length ≤ c0) (hr1 : Kd.C (Kd.int .u32) w A1 l1.length l1) (hc1 : l1.length ≤ c1) (h : nat_plus.f k l0 l1 = some r) :
  Calls Tryd.prog 105 #[.slice A0 l0.length c0, .slice A1 l1.length c1] w fun e w' => ∃ v0_ : Value, e = .returned (v0_) ∧ Kd.V (Kd.int .u32) 55 w' w.heap.size (fun k_ => (w.heap.size ≤ k_)) v0_ r ∧ Below w.heap.size w w' := by
 have HR0 := am hr0
 have HC0 := am hc0
 clear hr0 hc0
 have HR1 := am hr1
 have HC1 := am hc1
 clear hr1 hc1
 have HB := am (Below.refl w.heap.size w)
 have H := h
 unfold nat_plus.f at H
 clear h
 by_cases c3 : (l0.length : Int) < (l1.length : Int)
 ·rw [if_pos c3] at H
  have c3b0 := decide_eq_true c3
  have c3b1 : decide (l0.length < l1.length) = true := decide_eq_true (Int.ofNat_lt.mp c3)
  clear c3
  obtain ⟨ji4, hji4⟩ : ∃ j_ : Int, (wrap64 ((l1.length : Int) + 1)) = j_ := ⟨_, rfl⟩
  replace H : (if 0 ≤ (ji4) then (if (ji4 : Int).toNat ≤ 70368744177664 then ((some (List.replicate (ji4 : Int).toNat 0 : List Int)).bind fun y287 => ((copy_e55.f y287 l1).bind fun bt290 => (nat_plus.l0 k l0 bt290.2 0 (y287.length : Int) 0))) else (none)) else (none)) = some r := by first | (rw [hji4] at H; exact H) | (simp only [hji4] at H ⊢; exact H)
  have hji4w : (IntKind.i64.wrap ((l1.length : Int) + 1)) = ji4 := (i64_w _).trans hji4
  replace H := zn H
  obtain ⟨c5, H⟩ := H
  have c5b0 := eq_true c5
  have c5b1 := decide_eq_true c5
  clear c5
  replace H := zn H
  obtain ⟨c6, H⟩ := H
  have c6b0 := eq_true c6
  have c6b1 := decide_eq_true c6
  clear c6
  obtain ⟨y287, hy287⟩ : ∃ y_ : List Int, y_ = (List.replicate (ji4 : Int).toNat 0) := ⟨_, rfl⟩
  replace H : ((copy_e55.f y287 l1).bind fun bt290 => (nat_plus.l0 k l0 bt290.2 0 (y287.length : Int) 0)) = some r := by first | (rw [hy287]; with_reducible exact H) | (have H2_ := (Option.bind_some _ _).symm.trans H; rw [hy287]; with_reducible exact H2_) | (have H2_ := (Option.bind_some _ _).symm.trans H; with_reducible exact H2_) | with_reducible exact H | (rw [hy287]; exact H) | exact H
  have Ny287 := am hy287
  clear hy287
  replace H := zj H
  obtain ⟨⟨t290, t291⟩, A7, H⟩ := H
  replace H : (nat_plus.l0 k l0 t291 0 (y287.length : Int) 0) = some r := H
  have H' := am H
  clear H
  go_enter Tryd.func105, Tryd.ntmps105
  go_wp2_with (first | ((with_reducible refine gate_dst (N := 18) rfl ?_); refine Kd.R_make (Kd.int .u32) _ 55 rfl (N := 18) rfl 22 _ _ rfl ji4 rfl rfl Tryd.underlying22 (.int .u32 0) 4 info55 rfl (by decide) (by omega) 0 (ok := fun _ => True) (okp := fun _ => True) rfl (fun _ hk => hk) trivial zq6 (Nat.le_trans (Nat.mul_le_mul_right _ (zq6 : ji4.toNat ≤ 70368744177664)) (by omega)) (Below.refl _ _) (Nat.le_refl _) ?_; intro v288 w8 ho9 hb hg_ hnew_; clear hg_ hnew_; (first | rw [← Ny287.out] at ho9 | (simp only [Int.reduceToNat] at ho9; rw [← Ny287.out] at ho9)); refine zt2 (Kd.R_lower (Kd.R_newM (M := fun k_ => (w.heap.size ≤ k_)) ho9 (below_size zq1) (fun k_ h_ => h_)) (below_size zq1)) (below_step zq1 hb) ?_; clear HB; intro HO289 HB; clear hb ho9; obtain ⟨Ao10, co10, eo10⟩ := Kd.R_slice HO289.out; subst eo10) | ((with_reducible refine gate_builtin (b := .copy) rfl ?_); refine copyL_ (some 21) rfl rfl #[.slice Ao10 y287.length co10, .slice A1 l1.length c1] rfl zq5 ?_; (with_reducible refine (copy_e55.calls (fun k_ => some k_ = (.slice Ao10 y287.length co10 : Value).ownBlock) (.slice Ao10 y287.length co10) y287 _ _ l1 t290 t291 w _ ?side1 ?side2 ?side3 ?side4 A7.out).mono ?_); (case side1 => repeat (first | (with_reducible first | exact HB.out | apply below_alloc | apply pw_below_drewN | apply below_drew1) | exact HB.out)); (case side2 => exact Kd.R_tight rfl HO289.out); (case side3 => exact Kd.C_kept_came (Kd.heap_int .u32) HR1.out zq1 (fun k_ hs_ => (fun e_ => Kd.R_base HO289.out k_ e_.symm) hs_)); (case side4 => exact HC1.out); rintro e w11 ⟨rfl, hy0, hb, hkp⟩; refine ⟨_, rfl, ?_⟩; refine zt2 (Kd.R_reok rfl hy0 (fun k_ e_ => HO289.out.1 k_ e_)) (hb) ?_; clear HO289 HB; intro HO289 HB; (try clear hb); (try clear hkp); (try clear hy0)))
  go_loopg [6, 24] k (fun kq v6 v24 w' => ∃ (x5_1 : List Int) (x6_1 : Int) (x24_1 : Int), v6 = .int .u64 x6_1 ∧ v24 = .int .i64 x24_1 ∧ Aside0 (nat_plus.l0 kq l0 x5_1 x6_1 (y287.length : Int) x24_1 = some r) ∧ Aside0 (kq ≤ k) ∧ Aside0 (Kd.R (Kd.int .u32) 55 w' w.heap.size (fun k_ => (w.heap.size ≤ k_)) (.slice Ao10 y287.length co10) x5_1) ∧ Aside0 (Below w.heap.size w w'))
  case atStart => exact ⟨(t291), (0), (0), zq8, zq8, H', ⟨Nat.le_refl _⟩, ⟨zwR (h := by exact Kd.R_mono HO289.out (fun _ hk => hk.1))⟩, ⟨zq1⟩⟩
  case round =>
   clear H'
   obtain ⟨x5_1, x6_1, x24_1, rfl, rfl, HA, HK1, HO_5, HB⟩ := hrel
   have hl5_1 := (Kd.R_reads' HO_5.out).1
   rw [hl5_1] at HO_5
   (try simp only [hl5_1])
   cases gk with
   | zero => exact absurd HA.out (by simp [nat_plus.l0])
   | succ k1 =>
    have H := HA.out
    clear HA
    simp only [nat_plus.l0] at H
    by_cases c12 : x24_1 < (y287.length : Int)
    ·rw [if_pos c12] at H
     have c12b0 := decide_eq_true c12
     clear c12
     replace H := zn H
     obtain ⟨c13, H⟩ := H
     have c13b0 := decide_eq_true c13
     clear c13
     replace H := zn H
     obtain ⟨c14, H⟩ := H
     have c14b0 := decide_eq_true c14
     clear c14
     by_cases c15 : x24_1 < (l0.length : Int)
     ·rw [if_pos c15] at H
      have c15b0 := decide_eq_true c15
      clear c15
      obtain ⟨y294, hy294⟩ : ∃ y_ : List Int, y_ = (x5_1.set (x24_1 : Int).toNat ((IntKind.u64.wrap ((IntKind.u64.wrap (x6_1 + (IntKind.u64.wrap (rd x5_1 x24_1)))) + (IntKind.u64.wrap (rd l0 x24_1)))) % 4294967296)) := ⟨_, rfl⟩
      replace H : (nat_plus.l0 k1 l0 y294 ((IntKind.u64.wrap ((IntKind.u64.wrap (x6_1 + (IntKind.u64.wrap (rd x5_1 x24_1)))) + (IntKind.u64.wrap (rd l0 x24_1)))) / 4294967296) (y287.length : Int) (wrap64 (x24_1 + 1))) = some r := by first | (rw [hy294]; with_reducible exact H) | (have H2_ := (Option.bind_some _ _).symm.trans H; rw [hy294]; with_reducible exact H2_) | (have H2_ := (Option.bind_some _ _).symm.trans H; with_reducible exact H2_) | with_reducible exact H | (rw [hy294]; exact H) | exact H
      have Ny294 := am hy294
      clear hy294
      have H' := am H
      clear H
      have p292 : 0 ≤ (x24_1 : Int) := zq6
      have q292 : x24_1 < (x5_1.length : Int) := zq6
      obtain ⟨ad292, e292, hx292_0⟩ := Kd.at_int (Kd.R_reads' HO_5.out).2.2 x24_1 p292 q292
      cases e292
      replace p292 := eq_true p292
      replace q292 := eq_true q292
      have p293 : 0 ≤ (x24_1 : Int) := zq6
      have q293 : x24_1 < (l0.length : Int) := zq6
      obtain ⟨ad293, e293, hx293_0⟩ := Kd.at_int HR0.out x24_1 p293 q293
      cases e293
      replace hx293_0 := (HB.out.cell (World.block_lt_of_cell? w _ hx293_0)).trans hx293_0
      replace p293 := eq_true p293
      replace q293 := eq_true q293
      have p16 : 0 ≤ (x24_1 : Int) := zq6
      have q16 : (x24_1 : Int) < ((x5_1.length : Int) : Int) := zq6
      obtain ⟨go16, co16, eo16, gb16, gl16, cl16, HG16⟩ := Kd.R_form HO_5.out (by omega)
      (first | cases eo16 | (injection eo16 with ea_ en_ ec_; (first | subst ea_ | (injection ea_ with ea_; subst ea_)); subst ec_; clear en_))
      have GB16 := am gb16
      have GG16 := am HG16
      clear gb16 gl16 HG16
      (first | simp only [add_plain] at hx292_0 | skip)
      obtain ⟨hx16_0, hf16_0⟩ := Kd.R_celln 0 HO_5.out (x24_1 : Int) p16 q16
      replace p16 := eq_true p16
      replace q16 := eq_true q16
      have HP17 := Kd.R_putg HO_5.out (x24_1 : Int) ((IntKind.u64.wrap ((IntKind.u64.wrap (x6_1 + (IntKind.u64.wrap (rd x5_1 x24_1)))) + (IntKind.u64.wrap (rd l0 x24_1)))) % 4294967296)
      go_wp2_with (first | ((with_reducible refine gate_store (t := 55) (p := 49) rfl ?_); refine zstore (t := 55) (p := 49) (w1 := (wr.setCell ⟨go16, (x24_1 : Int).toNat, none⟩ (.int .u32 ((IntKind.u64.wrap ((IntKind.u64.wrap (x6_1 + (IntKind.u64.wrap (rd x5_1 x24_1)))) + (IntKind.u64.wrap (rd l0 x24_1)))) % 4294967296)))) ?_; intro w18 hw; have hg : wr.grownBy w18 (some go16) := (by rw [hw]; exact HP17.2); have hp_ : Kd.R (Kd.int .u32) 55 w18 w.heap.size (fun k_ => (w.heap.size ≤ k_)) (.slice (some ⟨go16, 0, none⟩) x5_1.length co10) y294 := (by rw [hw, Ny294.out]; exact HP17.1); clear HP17; refine zt2 (hp_) ((by rw [hw]; exact below_set (HB.out) GB16.out : Below w.heap.size w w18)) ?_; clear HO_5 HB; intro HO_5 HB; clear hg hw hp_))
      (try simp only [← hl5_1])
      go_roundg k1
      case measure => have := HK1.out; omega
      case rel => exact ⟨(y294), ((IntKind.u64.wrap ((IntKind.u64.wrap (x6_1 + (IntKind.u64.wrap (rd x5_1 x24_1)))) + (IntKind.u64.wrap (rd l0 x24_1)))) / 4294967296), (wrap64 (x24_1 + 1)), zq8, zq8, (by first | exact H' | (rw [hji4]; exact H')), ⟨by have := HK1.out; omega⟩, ⟨by (try simp only [hl5_1]); (with_reducible repeat (first | apply Kd.R_alloc | apply Kd.R_drewN | apply Kd.R_drew)); exact HO_5.out⟩, ⟨zq1⟩⟩
     ·rw [if_neg c15] at H
      have c15b0 := decide_eq_false c15
      (try (have c15b0x := c15b0; rw [hl5_1] at c15b0x))
      clear c15
      obtain ⟨y295, hy295⟩ : ∃ y_ : List Int, y_ = (x5_1.set (x24_1 : Int).toNat ((IntKind.u64.wrap (x6_1 + (IntKind.u64.wrap (rd x5_1 x24_1)))) % 4294967296)) := ⟨_, rfl⟩
      replace H : (nat_plus.l0 k1 l0 y295 ((IntKind.u64.wrap (x6_1 + (IntKind.u64.wrap (rd x5_1 x24_1)))) / 4294967296) (y287.length : Int) (wrap64 (x24_1 + 1))) = some r := by first | (rw [hy295]; with_reducible exact H) | (have H2_ := (Option.bind_some _ _).symm.trans H; rw [hy295]; with_reducible exact H2_) | (have H2_ := (Option.bind_some _ _).symm.trans H; with_reducible exact H2_) | with_reducible exact H | (rw [hy295]; exact H) | exact H
      have Ny295 := am hy295
      clear hy295
      have H' := am H
      clear H
      have p292 : 0 ≤ (x24_1 : Int) := zq6
      have q292 : x24_1 < (x5_1.length : Int) := zq6
      obtain ⟨ad292, e292, hx292_0⟩ := Kd.at_int (Kd.R_reads' HO_5.out).2.2 x24_1 p292 q292
      cases e292
      replace p292 := eq_true p292
      replace q292 := eq_true q292
      have p19 : 0 ≤ (x24_1 : Int) := zq6
      have q19 : (x24_1 : Int) < ((x5_1.length : Int) : Int) := zq6
      obtain ⟨go19, co19, eo19, gb19, gl19, cl19, HG19⟩ := Kd.R_form HO_5.out (by omega)
      (first | cases eo19 | (injection eo19 with ea_ en_ ec_; (first | subst ea_ | (injection ea_ with ea_; subst ea_)); subst ec_; clear en_))
      have GB19 := am gb19
      have GG19 := am HG19
      clear gb19 gl19 HG19
      (first | simp only [add_plain] at hx292_0 | skip)
      obtain ⟨hx19_0, hf19_0⟩ := Kd.R_celln 0 HO_5.out (x24_1 : Int) p19 q19
      replace p19 := eq_true p19
      replace q19 := eq_true q19
      have HP20 := Kd.R_putg HO_5.out (x24_1 : Int) ((IntKind.u64.wrap (x6_1 + (IntKind.u64.wrap (rd x5_1 x24_1)))) % 4294967296)
      go_wp2_with (first | ((with_reducible refine gate_store (t := 55) (p := 49) rfl ?_); refine zstore (t := 55) (p := 49) (w1 := (wr.setCell ⟨go19, (x24_1 : Int).toNat, none⟩ (.int .u32 ((IntKind.u64.wrap (x6_1 + (IntKind.u64.wrap (rd x5_1 x24_1)))) % 4294967296)))) ?_; intro w21 hw; have hg : wr.grownBy w21 (some go19) := (by rw [hw]; exact HP20.2); have hp_ : Kd.R (Kd.int .u32) 55 w21 w.heap.size (fun k_ => (w.heap.size ≤ k_)) (.slice (some ⟨go19, 0, none⟩) x5_1.length co10) y295 := (by rw [hw, Ny295.out]; exact HP20.1); clear HP20; refine zt2 (hp_) ((by rw [hw]; exact below_set (HB.out) GB19.out : Below w.heap.size w w21)) ?_; clear HO_5 HB; intro HO_5 HB; clear hg hw hp_))
      (try simp only [← hl5_1])
      go_roundg k1
      case measure => have := HK1.out; omega
      case rel => exact ⟨(y295), ((IntKind.u64.wrap (x6_1 + (IntKind.u64.wrap (rd x5_1 x24_1)))) / 4294967296), (wrap64 (x24_1 + 1)), zq8, zq8, (by first | exact H' | (rw [hji4]; exact H')), ⟨by have := HK1.out; omega⟩, ⟨by (try simp only [hl5_1]); (with_reducible repeat (first | apply Kd.R_alloc | apply Kd.R_drewN | apply Kd.R_drew)); exact HO_5.out⟩, ⟨zq1⟩⟩
    ·rw [if_neg c12] at H
     have c12b0 := decide_eq_false c12
     (try (have c12b0x := c12b0; rw [hl5_1] at c12b0x))
     clear c12
     replace H := zj H
     obtain ⟨t296, A22, H⟩ := H
     replace H : (some t296) = some r := H
     obtain rfl := Option.some.inj H
     go_wp2_with (first | ((with_reducible refine gate_callee (f := 86) rfl ?_); refine goesL_ (some 54) rfl rfl Tryd.func86 (by kernel_rfl) rfl #[.slice Ao10 x5_1.length co10] rfl zq5 ?_; (with_reducible refine (nat_Trim.calls k1 (fun k_ => some k_ = (.slice Ao10 x5_1.length co10 : Value).ownBlock) _ _ x5_1 t296 _ ?side1 A22.out).mono ?_); (case side1 => exact Kd.R_V (Kd.R_tight rfl (HO_5.out))); rintro e w23 ⟨v297, rfl, ho0, hb⟩; refine ⟨_, rfl, ?_⟩; refine zt3 (rb HO_5 hb) (Kd.V_lower (Kd.V_mono (ok' := fun k_ => (w.heap.size ≤ k_)) ho0 (fun k_ hk_ => Or.elim hk_ (fun hs_ => ((HO_5.out).1 k_ hs_.symm)) (fun hn_ => (Nat.le_trans (below_size zq1) hn_)))) (below_size zq1)) (below_step zq1 hb) ?_; clear HO_5 HB; intro HO_5 HO298 HB))
     go_ret
     exact ⟨_, by first | rfl | (simp [errW_none, errW_some] <;> rfl) | (simp only [← hji4]; first | rfl | (simp [errW_none, errW_some] <;> rfl)) | (simp [*, errW_none, errW_some] <;> rfl), zq3 HO298.out, zq1⟩
 ·rw [if_neg c3] at H
  have c3b0 := decide_eq_false c3
  have c3b1 : decide (l0.length < l1.length) = false := decide_eq_false (fun h => c3 (Int.ofNat_lt.mpr h))
  clear c3
  obtain ⟨ji24, hji24⟩ : ∃ j_ : Int, (wrap64 ((l0.length : Int) + 1)) = j_ := ⟨_, rfl⟩
  replace H : (if 0 ≤ (ji24) then (if (ji24 : Int).toNat ≤ 70368744177664 then ((some (List.replicate (ji24 : Int).toNat 0 : List Int)).bind fun y299 => ((copy_e55.f y299 l0).bind fun bt302 => (nat_plus.l1000 k l1 bt302.2 0 (y299.length : Int) 0))) else (none)) else (none)) = some r := by first | (rw [hji24] at H; exact H) | (simp only [hji24] at H ⊢; exact H)
  have hji24w : (IntKind.i64.wrap ((l0.length : Int) + 1)) = ji24 := (i64_w _).trans hji24
  replace H := zn H
  obtain ⟨c25, H⟩ := H
  have c25b0 := eq_true c25
  have c25b1 := decide_eq_true c25
  clear c25
  replace H := zn H
  obtain ⟨c26, H⟩ := H
  have c26b0 := eq_true c26
  have c26b1 := decide_eq_true c26
  clear c26
  obtain ⟨y299, hy299⟩ : ∃ y_ : List Int, y_ = (List.replicate (ji24 : Int).toNat 0) := ⟨_, rfl⟩
  replace H : ((copy_e55.f y299 l0).bind fun bt302 => (nat_plus.l1000 k l1 bt302.2 0 (y299.length : Int) 0)) = some r := by first | (rw [hy299]; with_reducible exact H) | (have H2_ := (Option.bind_some _ _).symm.trans H; rw [hy299]; with_reducible exact H2_) | (have H2_ := (Option.bind_some _ _).symm.trans H; with_reducible exact H2_) | with_reducible exact H | (rw [hy299]; exact H) | exact H
  have Ny299 := am hy299
  clear hy299
  replace H := zj H
  obtain ⟨⟨t302, t303⟩, A27, H⟩ := H
  replace H : (nat_plus.l1000 k l1 t303 0 (y299.length : Int) 0) = some r := H
  have H' := am H
  clear H
  go_enter Tryd.func105, Tryd.ntmps105
  go_wp2_with (first | ((with_reducible refine gate_dst (N := 18) rfl ?_); refine Kd.R_make (Kd.int .u32) _ 55 rfl (N := 18) rfl 22 _ _ rfl ji24 rfl rfl Tryd.underlying22 (.int .u32 0) 4 info55 rfl (by decide) (by omega) 0 (ok := fun _ => True) (okp := fun _ => True) rfl (fun _ hk => hk) trivial zq6 (Nat.le_trans (Nat.mul_le_mul_right _ (zq6 : ji24.toNat ≤ 70368744177664)) (by omega)) (Below.refl _ _) (Nat.le_refl _) ?_; intro v300 w28 ho29 hb hg_ hnew_; clear hg_ hnew_; (first | rw [← Ny299.out] at ho29 | (simp only [Int.reduceToNat] at ho29; rw [← Ny299.out] at ho29)); refine zt2 (Kd.R_lower (Kd.R_newM (M := fun k_ => (w.heap.size ≤ k_)) ho29 (below_size zq1) (fun k_ h_ => h_)) (below_size zq1)) (below_step zq1 hb) ?_; clear HB; intro HO301 HB; clear hb ho29; obtain ⟨Ao30, co30, eo30⟩ := Kd.R_slice HO301.out; subst eo30) | ((with_reducible refine gate_builtin (b := .copy) rfl ?_); refine copyL_ (some 21) rfl rfl #[.slice Ao30 y299.length co30, .slice A0 l0.length c0] rfl zq5 ?_; (with_reducible refine (copy_e55.calls (fun k_ => some k_ = (.slice Ao30 y299.length co30 : Value).ownBlock) (.slice Ao30 y299.length co30) y299 _ _ l0 t302 t303 w _ ?side1 ?side2 ?side3 ?side4 A27.out).mono ?_); (case side1 => repeat (first | (with_reducible first | exact HB.out | apply below_alloc | apply pw_below_drewN | apply below_drew1) | exact HB.out)); (case side2 => exact Kd.R_tight rfl HO301.out); (case side3 => exact Kd.C_kept_came (Kd.heap_int .u32) HR0.out zq1 (fun k_ hs_ => (fun e_ => Kd.R_base HO301.out k_ e_.symm) hs_)); (case side4 => exact HC0.out); rintro e w31 ⟨rfl, hy0, hb, hkp⟩; refine ⟨_, rfl, ?_⟩; refine zt2 (Kd.R_reok rfl hy0 (fun k_ e_ => HO301.out.1 k_ e_)) (hb) ?_; clear HO301 HB; intro HO301 HB; (try clear hb); (try clear hkp); (try clear hy0)))
  go_loopg [6, 24] k (fun kq v6 v24 w' => ∃ (x5_1 : List Int) (x6_1 : Int) (x24_1 : Int), v6 = .int .u64 x6_1 ∧ v24 = .int .i64 x24_1 ∧ Aside0 (nat_plus.l1000 kq l1 x5_1 x6_1 (y299.length : Int) x24_1 = some r) ∧ Aside0 (kq ≤ k) ∧ Aside0 (Kd.R (Kd.int .u32) 55 w' w.heap.size (fun k_ => (w.heap.size ≤ k_)) (.slice Ao30 y299.length co30) x5_1) ∧ Aside0 (Below w.heap.size w w'))
  case atStart => exact ⟨(t303), (0), (0), zq8, zq8, H', ⟨Nat.le_refl _⟩, ⟨zwR (h := by exact Kd.R_mono HO301.out (fun _ hk => hk.1))⟩, ⟨zq1⟩⟩
  case round =>
   clear H'
   obtain ⟨x5_1, x6_1, x24_1, rfl, rfl, HA, HK1, HO_5, HB⟩ := hrel
   have hl5_1 := (Kd.R_reads' HO_5.out).1
   rw [hl5_1] at HO_5
   (try simp only [hl5_1])
   cases gk with
   | zero => exact absurd HA.out (by simp [nat_plus.l1000])
   | succ k1 =>
    have H := HA.out
    clear HA
    simp only [nat_plus.l1000] at H
    by_cases c32 : x24_1 < (y299.length : Int)
    ·rw [if_pos c32] at H
     have c32b0 := decide_eq_true c32
     clear c32
     replace H := zn H
     obtain ⟨c33, H⟩ := H
     have c33b0 := decide_eq_true c33
     clear c33
     replace H := zn H
     obtain ⟨c34, H⟩ := H
     have c34b0 := decide_eq_true c34
     clear c34
     by_cases c35 : x24_1 < (l1.length : Int)
     ·rw [if_pos c35] at H
      have c35b0 := decide_eq_true c35
      clear c35
      obtain ⟨y306, hy306⟩ : ∃ y_ : List Int, y_ = (x5_1.set (x24_1 : Int).toNat ((IntKind.u64.wrap ((IntKind.u64.wrap (x6_1 + (IntKind.u64.wrap (rd x5_1 x24_1)))) + (IntKind.u64.wrap (rd l1 x24_1)))) % 4294967296)) := ⟨_, rfl⟩
      replace H : (nat_plus.l1000 k1 l1 y306 ((IntKind.u64.wrap ((IntKind.u64.wrap (x6_1 + (IntKind.u64.wrap (rd x5_1 x24_1)))) + (IntKind.u64.wrap (rd l1 x24_1)))) / 4294967296) (y299.length : Int) (wrap64 (x24_1 + 1))) = some r := by first | (rw [hy306]; with_reducible exact H) | (have H2_ := (Option.bind_some _ _).symm.trans H; rw [hy306]; with_reducible exact H2_) | (have H2_ := (Option.bind_some _ _).symm.trans H; with_reducible exact H2_) | with_reducible exact H | (rw [hy306]; exact H) | exact H
      have Ny306 := am hy306
      clear hy306
      have H' := am H
      clear H
      have p304 : 0 ≤ (x24_1 : Int) := zq6
      have q304 : x24_1 < (x5_1.length : Int) := zq6
      obtain ⟨ad304, e304, hx304_0⟩ := Kd.at_int (Kd.R_reads' HO_5.out).2.2 x24_1 p304 q304
      cases e304
      replace p304 := eq_true p304
      replace q304 := eq_true q304
      have p305 : 0 ≤ (x24_1 : Int) := zq6
      have q305 : x24_1 < (l1.length : Int) := zq6
      obtain ⟨ad305, e305, hx305_0⟩ := Kd.at_int HR1.out x24_1 p305 q305
      cases e305
      replace hx305_0 := (HB.out.cell (World.block_lt_of_cell? w _ hx305_0)).trans hx305_0
      replace p305 := eq_true p305
      replace q305 := eq_true q305
      have p36 : 0 ≤ (x24_1 : Int) := zq6
      have q36 : (x24_1 : Int) < ((x5_1.length : Int) : Int) := zq6
      obtain ⟨go36, co36, eo36, gb36, gl36, cl36, HG36⟩ := Kd.R_form HO_5.out (by omega)
      (first | cases eo36 | (injection eo36 with ea_ en_ ec_; (first | subst ea_ | (injection ea_ with ea_; subst ea_)); subst ec_; clear en_))
      have GB36 := am gb36
      have GG36 := am HG36
      clear gb36 gl36 HG36
      (first | simp only [add_plain] at hx304_0 | skip)
      obtain ⟨hx36_0, hf36_0⟩ := Kd.R_celln 0 HO_5.out (x24_1 : Int) p36 q36
      replace p36 := eq_true p36
      replace q36 := eq_true q36
      have HP37 := Kd.R_putg HO_5.out (x24_1 : Int) ((IntKind.u64.wrap ((IntKind.u64.wrap (x6_1 + (IntKind.u64.wrap (rd x5_1 x24_1)))) + (IntKind.u64.wrap (rd l1 x24_1)))) % 4294967296)
      go_wp2_with (first | ((with_reducible refine gate_store (t := 55) (p := 49) rfl ?_); refine zstore (t := 55) (p := 49) (w1 := (wr.setCell ⟨go36, (x24_1 : Int).toNat, none⟩ (.int .u32 ((IntKind.u64.wrap ((IntKind.u64.wrap (x6_1 + (IntKind.u64.wrap (rd x5_1 x24_1)))) + (IntKind.u64.wrap (rd l1 x24_1)))) % 4294967296)))) ?_; intro w38 hw; have hg : wr.grownBy w38 (some go36) := (by rw [hw]; exact HP37.2); have hp_ : Kd.R (Kd.int .u32) 55 w38 w.heap.size (fun k_ => (w.heap.size ≤ k_)) (.slice (some ⟨go36, 0, none⟩) x5_1.length co30) y306 := (by rw [hw, Ny306.out]; exact HP37.1); clear HP37; refine zt2 (hp_) ((by rw [hw]; exact below_set (HB.out) GB36.out : Below w.heap.size w w38)) ?_; clear HO_5 HB; intro HO_5 HB; clear hg hw hp_))
      (try simp only [← hl5_1])
      go_roundg k1
      case measure => have := HK1.out; omega
      case rel => exact ⟨(y306), ((IntKind.u64.wrap ((IntKind.u64.wrap (x6_1 + (IntKind.u64.wrap (rd x5_1 x24_1)))) + (IntKind.u64.wrap (rd l1 x24_1)))) / 4294967296), (wrap64 (x24_1 + 1)), zq8, zq8, (by first | exact H' | (rw [hji24]; exact H')), ⟨by have := HK1.out; omega⟩, ⟨by (try simp only [hl5_1]); (with_reducible repeat (first | apply Kd.R_alloc | apply Kd.R_drewN | apply Kd.R_drew)); exact HO_5.out⟩, ⟨zq1⟩⟩
     ·rw [if_neg c35] at H
      have c35b0 := decide_eq_false c35
      (try (have c35b0x := c35b0; rw [hl5_1] at c35b0x))
      clear c35
      obtain ⟨y307, hy307⟩ : ∃ y_ : List Int, y_ = (x5_1.set (x24_1 : Int).toNat ((IntKind.u64.wrap (x6_1 + (IntKind.u64.wrap (rd x5_1 x24_1)))) % 4294967296)) := ⟨_, rfl⟩
      replace H : (nat_plus.l1000 k1 l1 y307 ((IntKind.u64.wrap (x6_1 + (IntKind.u64.wrap (rd x5_1 x24_1)))) / 4294967296) (y299.length : Int) (wrap64 (x24_1 + 1))) = some r := by first | (rw [hy307]; with_reducible exact H) | (have H2_ := (Option.bind_some _ _).symm.trans H; rw [hy307]; with_reducible exact H2_) | (have H2_ := (Option.bind_some _ _).symm.trans H; with_reducible exact H2_) | with_reducible exact H | (rw [hy307]; exact H) | exact H
      have Ny307 := am hy307
      clear hy307
      have H' := am H
      clear H
      have p304 : 0 ≤ (x24_1 : Int) := zq6
      have q304 : x24_1 < (x5_1.length : Int) := zq6
      obtain ⟨ad304, e304, hx304_0⟩ := Kd.at_int (Kd.R_reads' HO_5.out).2.2 x24_1 p304 q304
      cases e304
      replace p304 := eq_true p304
      replace q304 := eq_true q304
      have p39 : 0 ≤ (x24_1 : Int) := zq6
      have q39 : (x24_1 : Int) < ((x5_1.length : Int) : Int) := zq6
      obtain ⟨go39, co39, eo39, gb39, gl39, cl39, HG39⟩ := Kd.R_form HO_5.out (by omega)
      (first | cases eo39 | (injection eo39 with ea_ en_ ec_; (first | subst ea_ | (injection ea_ with ea_; subst ea_)); subst ec_; clear en_))
      have GB39 := am gb39
      have GG39 := am HG39
      clear gb39 gl39 HG39
      (first | simp only [add_plain] at hx304_0 | skip)
      obtain ⟨hx39_0, hf39_0⟩ := Kd.R_celln 0 HO_5.out (x24_1 : Int) p39 q39
      replace p39 := eq_true p39
      replace q39 := eq_true q39
      have HP40 := Kd.R_putg HO_5.out (x24_1 : Int) ((IntKind.u64.wrap (x6_1 + (IntKind.u64.wrap (rd x5_1 x24_1)))) % 4294967296)
      go_wp2_with (first | ((with_reducible refine gate_store (t := 55) (p := 49) rfl ?_); refine zstore (t := 55) (p := 49) (w1 := (wr.setCell ⟨go39, (x24_1 : Int).toNat, none⟩ (.int .u32 ((IntKind.u64.wrap (x6_1 + (IntKind.u64.wrap (rd x5_1 x24_1)))) % 4294967296)))) ?_; intro w41 hw; have hg : wr.grownBy w41 (some go39) := (by rw [hw]; exact HP40.2); have hp_ : Kd.R (Kd.int .u32) 55 w41 w.heap.size (fun k_ => (w.heap.size ≤ k_)) (.slice (some ⟨go39, 0, none⟩) x5_1.length co30) y307 := (by rw [hw, Ny307.out]; exact HP40.1); clear HP40; refine zt2 (hp_) ((by rw [hw]; exact below_set (HB.out) GB39.out : Below w.heap.size w w41)) ?_; clear HO_5 HB; intro HO_5 HB; clear hg hw hp_))
      (try simp only [← hl5_1])
      go_roundg k1
      case measure => have := HK1.out; omega
      case rel => exact ⟨(y307), ((IntKind.u64.wrap (x6_1 + (IntKind.u64.wrap (rd x5_1 x24_1)))) / 4294967296), (wrap64 (x24_1 + 1)), zq8, zq8, (by first | exact H' | (rw [hji24]; exact H')), ⟨by have := HK1.out; omega⟩, ⟨by (try simp only [hl5_1]); (with_reducible repeat (first | apply Kd.R_alloc | apply Kd.R_drewN | apply Kd.R_drew)); exact HO_5.out⟩, ⟨zq1⟩⟩
    ·rw [if_neg c32] at H
     have c32b0 := decide_eq_false c32
     (try (have c32b0x := c32b0; rw [hl5_1] at c32b0x))
     clear c32
     replace H := zj H
     obtain ⟨t308, A42, H⟩ := H
     replace H : (some t308) = some r := H
     obtain rfl := Option.some.inj H
     go_wp2_with (first | ((with_reducible refine gate_callee (f := 86) rfl ?_); refine goesL_ (some 54) rfl rfl Tryd.func86 (by kernel_rfl) rfl #[.slice Ao30 x5_1.length co30] rfl zq5 ?_; (with_reducible refine (nat_Trim.calls k1 (fun k_ => some k_ = (.slice Ao30 x5_1.length co30 : Value).ownBlock) _ _ x5_1 t308 _ ?side1 A42.out).mono ?_); (case side1 => exact Kd.R_V (Kd.R_tight rfl (HO_5.out))); rintro e w43 ⟨v309, rfl, ho0, hb⟩; refine ⟨_, rfl, ?_⟩; refine zt3 (rb HO_5 hb) (Kd.V_lower (Kd.V_mono (ok' := fun k_ => (w.heap.size ≤ k_)) ho0 (fun k_ hk_ => Or.elim hk_ (fun hs_ => ((HO_5.out).1 k_ hs_.symm)) (fun hn_ => (Nat.le_trans (below_size zq1) hn_)))) (below_size zq1)) (below_step zq1 hb) ?_; clear HO_5 HB; intro HO_5 HO310 HB))
     go_ret
     exact ⟨_, by first | rfl | (simp [errW_none, errW_some] <;> rfl) | (simp only [← hji24]; first | rfl | (simp [errW_none, errW_some] <;> rfl)) | (simp [*, errW_none, errW_some] <;> rfl), zq3 HO310.out, zq1⟩
def nat_Sub.l0 : Nat → List Int → List Int → Int → Int → Int → Option (List Int)
 | 0, _, _, _, _, _ => none
 | k + 1, x1, x5, x6, x12, x13 => if x13 < x12 then (if 0 ≤ x13 then (if x13 < (x5.length : Int) then (if x13 < (x1.length : Int) then (nat_Sub.l0 k x1 (x5.set (x13 : Int).toNat ((IntKind.u64.wrap ((IntKind.u64.wrap ((IntKind.u64.wrap (rd x5 x13)) - x6)) - (IntKind.u64.wrap (rd x1 x13)))) % 4294967296)) (Go.bits .and .u64 ((IntKind.u64.wrap ((IntKind.u64.wrap ((IntKind.u64.wrap (rd x5 x13)) - x6)) - (IntKind.u64.wrap (rd x1 x13)))) / 4294967296) 1) x12 (wrap64 (x13 + 1))) else (nat_Sub.l0 k x1 (x5.set (x13 : Int).toNat ((IntKind.u64.wrap ((IntKind.u64.wrap (rd x5 x13)) - x6)) % 4294967296)) (Go.bits .and .u64 ((IntKind.u64.wrap ((IntKind.u64.wrap (rd x5 x13)) - x6)) / 4294967296) 1) x12 (wrap64 (x13 + 1)))) else (none)) else (none)) else ((nat_Trim.f k x5).bind fun t430 => (some t430))
def nat_Sub.f (k : Nat) (l0 : List Int) (l1 : List Int) : Option (List Int) := (slices_Clone_uint32_uint32.f l0).bind fun t423 => (nat_Sub.l0 k l1 t423 0 (t423.length : Int) 0)
theorem nat_Sub.mono_l : ∀ k, (∀ y0 y1 y2 y3 y4, LeO (nat_Sub.l0 k y0 y1 y2 y3 y4) (nat_Sub.l0 (k + 1) y0 y1 y2 y3 y4))
 | 0 => fun _ _ _ _ _ r h => by simp [nat_Sub.l0] at h
 | k + 1 => by
  have ih0 := nat_Sub.mono_l k
  ·intro y0 y1 y2 y3 y4
   unfold nat_Sub.l0
   have m0 := ih0
   have m1 := @nat_Trim.mono
   exact zm
theorem nat_Sub.mono : ∀ a0 a1 k, LeO (nat_Sub.f k a0 a1) (nat_Sub.f (k + 1) a0 a1) := by
 intro a0 a1 k
 have ih0 := nat_Sub.mono_l k
 unfold nat_Sub.f
 have m0 := ih0
 have m1 := @nat_Trim.mono
 exact zm
set_option maxHeartbeats 8000000 in
set_option maxRecDepth 100000 in
theorem nat_Sub.calls (k : Nat) (A0 : Option Addr) (c0 : Nat) (l0 : List Int) (A1 : Option Addr) (c1 : Nat) (l1 : List Int) (r : List Int) (w : World) (hr0 : Kd.C (Kd.int .u32) w A0 l0.length l0) (hc0 : l0.length ≤ c0) (hr1 : Kd.C (Kd.int .u32) w A1 l1.length l1) (hc1 : l1.length ≤ c1) (h : nat_Sub.f k l0 l1 = some r) :
  Calls Tryd.prog 132 #[.slice A0 l0.length c0, .slice A1 l1.length c1] w fun e w' => ∃ v0_ : Value, e = .returned (v0_) ∧ Kd.V (Kd.int .u32) 55 w' w.heap.size (fun k_ => (w.heap.size ≤ k_)) v0_ r ∧ Below w.heap.size w w' := by
 have HR0 := am hr0
 have HC0 := am hc0
 clear hr0 hc0
 have HR1 := am hr1
 have HC1 := am hc1
 clear hr1 hc1
 have HB := am (Below.refl w.heap.size w)
 have H := h
 unfold nat_Sub.f at H
 clear h
 replace H := zj H
 obtain ⟨t423, A3, H⟩ := H
 have H' := am H
 clear H
 go_enter Tryd.func132, Tryd.ntmps132
 go_wp2_with (first | ((with_reducible refine gate_callee (f := 95) rfl ?_); refine goesL_ (some 10) rfl rfl Tryd.func95 (by kernel_rfl) rfl #[.slice A0 l0.length c0] rfl zq5 ?_; (with_reducible refine (slices_Clone_uint32_uint32.calls _ _ l0 t423 _ ?side1 ?side2 A3.out).mono ?_); (case side1 => exact zc (HR0.out)); (case side2 => exact HC0.out); rintro e w4 ⟨v424, rfl, ho0, hb⟩; refine ⟨_, rfl, ?_⟩; refine zt2 (Kd.R_lower (Kd.R_newM (M := fun k_ => (w.heap.size ≤ k_)) ho0 (below_size zq1) (fun k_ h_ => h_)) (below_size zq1)) (below_step zq1 hb) ?_; clear HB; intro HO425 HB; obtain ⟨Ao5, co5, eo5⟩ := Kd.R_slice HO425.out; subst eo5))
 go_loopg [6, 13] k (fun kq v6 v13 w' => ∃ (x5_1 : List Int) (x6_1 : Int) (x13_1 : Int), v6 = .int .u64 x6_1 ∧ v13 = .int .i64 x13_1 ∧ Aside0 (nat_Sub.l0 kq l1 x5_1 x6_1 (t423.length : Int) x13_1 = some r) ∧ Aside0 (kq ≤ k) ∧ Aside0 (Kd.R (Kd.int .u32) 55 w' w.heap.size (fun k_ => (w.heap.size ≤ k_)) (.slice Ao5 t423.length co5) x5_1) ∧ Aside0 (Below w.heap.size w w'))
 case atStart => exact ⟨(t423), (0), (0), zq8, zq8, H', ⟨Nat.le_refl _⟩, ⟨zwR (h := by exact Kd.R_mono HO425.out (fun _ hk => hk.1))⟩, ⟨zq1⟩⟩
 case round =>
  clear H'
  obtain ⟨x5_1, x6_1, x13_1, rfl, rfl, HA, HK1, HO_5, HB⟩ := hrel
  have hl5_1 := (Kd.R_reads' HO_5.out).1
  rw [hl5_1] at HO_5
  (try simp only [hl5_1])
  cases gk with
  | zero => exact absurd HA.out (by simp [nat_Sub.l0])
  | succ k1 =>
   have H := HA.out
   clear HA
   simp only [nat_Sub.l0] at H
   by_cases c6 : x13_1 < (t423.length : Int)
   ·rw [if_pos c6] at H
    have c6b0 := decide_eq_true c6
    clear c6
    replace H := zn H
    obtain ⟨c7, H⟩ := H
    have c7b0 := decide_eq_true c7
    clear c7
    replace H := zn H
    obtain ⟨c8, H⟩ := H
    have c8b0 := decide_eq_true c8
    clear c8
    by_cases c9 : x13_1 < (l1.length : Int)
    ·rw [if_pos c9] at H
     have c9b0 := decide_eq_true c9
     clear c9
     obtain ⟨y428, hy428⟩ : ∃ y_ : List Int, y_ = (x5_1.set (x13_1 : Int).toNat ((IntKind.u64.wrap ((IntKind.u64.wrap ((IntKind.u64.wrap (rd x5_1 x13_1)) - x6_1)) - (IntKind.u64.wrap (rd l1 x13_1)))) % 4294967296)) := ⟨_, rfl⟩
     try rw [← hy428] at H
     have Ny428 := am hy428
     clear hy428
     have H' := am H
     clear H
     have p426 : 0 ≤ (x13_1 : Int) := zq6
     have q426 : x13_1 < (x5_1.length : Int) := zq6
     obtain ⟨ad426, e426, hx426_0⟩ := Kd.at_int (Kd.R_reads' HO_5.out).2.2 x13_1 p426 q426
     cases e426
     replace p426 := eq_true p426
     replace q426 := eq_true q426
     have p427 : 0 ≤ (x13_1 : Int) := zq6
     have q427 : x13_1 < (l1.length : Int) := zq6
     obtain ⟨ad427, e427, hx427_0⟩ := Kd.at_int HR1.out x13_1 p427 q427
     cases e427
     replace hx427_0 := (HB.out.cell (World.block_lt_of_cell? w _ hx427_0)).trans hx427_0
     replace p427 := eq_true p427
     replace q427 := eq_true q427
     have p10 : 0 ≤ (x13_1 : Int) := zq6
     have q10 : (x13_1 : Int) < ((x5_1.length : Int) : Int) := zq6
     obtain ⟨go10, co10, eo10, gb10, gl10, cl10, HG10⟩ := Kd.R_form HO_5.out (by omega)
     (first | cases eo10 | (injection eo10 with ea_ en_ ec_; (first | subst ea_ | (injection ea_ with ea_; subst ea_)); subst ec_; clear en_))
     have GB10 := am gb10
     have GG10 := am HG10
     clear gb10 gl10 HG10
     (first | simp only [add_plain] at hx426_0 | skip)
     obtain ⟨hx10_0, hf10_0⟩ := Kd.R_celln 0 HO_5.out (x13_1 : Int) p10 q10
     replace p10 := eq_true p10
     replace q10 := eq_true q10
     have HP11 := Kd.R_putg HO_5.out (x13_1 : Int) ((IntKind.u64.wrap ((IntKind.u64.wrap ((IntKind.u64.wrap (rd x5_1 x13_1)) - x6_1)) - (IntKind.u64.wrap (rd l1 x13_1)))) % 4294967296)
     go_wp2_with (first | ((with_reducible refine gate_store (t := 55) (p := 38) rfl ?_); refine zstore (t := 55) (p := 38) (w1 := (wr.setCell ⟨go10, (x13_1 : Int).toNat, none⟩ (.int .u32 ((IntKind.u64.wrap ((IntKind.u64.wrap ((IntKind.u64.wrap (rd x5_1 x13_1)) - x6_1)) - (IntKind.u64.wrap (rd l1 x13_1)))) % 4294967296)))) ?_; intro w12 hw; have hg : wr.grownBy w12 (some go10) := (by rw [hw]; exact HP11.2); have hp_ : Kd.R (Kd.int .u32) 55 w12 w.heap.size (fun k_ => (w.heap.size ≤ k_)) (.slice (some ⟨go10, 0, none⟩) x5_1.length co5) y428 := (by rw [hw, Ny428.out]; exact HP11.1); clear HP11; refine zt2 (hp_) ((by rw [hw]; exact below_set (HB.out) GB10.out : Below w.heap.size w w12)) ?_; clear HO_5 HB; intro HO_5 HB; clear hg hw hp_))
     (try simp only [← hl5_1])
     go_roundg k1
     case measure => have := HK1.out; omega
     case rel => exact ⟨(y428), (Go.bits .and .u64 ((IntKind.u64.wrap ((IntKind.u64.wrap ((IntKind.u64.wrap (rd x5_1 x13_1)) - x6_1)) - (IntKind.u64.wrap (rd l1 x13_1)))) / 4294967296) 1), (wrap64 (x13_1 + 1)), zq8, zq8, H', ⟨by have := HK1.out; omega⟩, ⟨by (try simp only [hl5_1]); (with_reducible repeat (first | apply Kd.R_alloc | apply Kd.R_drewN | apply Kd.R_drew)); exact HO_5.out⟩, ⟨zq1⟩⟩
    ·rw [if_neg c9] at H
     have c9b0 := decide_eq_false c9
     (try (have c9b0x := c9b0; rw [hl5_1] at c9b0x))
     clear c9
     obtain ⟨y429, hy429⟩ : ∃ y_ : List Int, y_ = (x5_1.set (x13_1 : Int).toNat ((IntKind.u64.wrap ((IntKind.u64.wrap (rd x5_1 x13_1)) - x6_1)) % 4294967296)) := ⟨_, rfl⟩
     try rw [← hy429] at H
     have Ny429 := am hy429
     clear hy429
     have H' := am H
     clear H
     have p426 : 0 ≤ (x13_1 : Int) := zq6
     have q426 : x13_1 < (x5_1.length : Int) := zq6
     obtain ⟨ad426, e426, hx426_0⟩ := Kd.at_int (Kd.R_reads' HO_5.out).2.2 x13_1 p426 q426
     cases e426
     replace p426 := eq_true p426
     replace q426 := eq_true q426
     have p13 : 0 ≤ (x13_1 : Int) := zq6
     have q13 : (x13_1 : Int) < ((x5_1.length : Int) : Int) := zq6
     obtain ⟨go13, co13, eo13, gb13, gl13, cl13, HG13⟩ := Kd.R_form HO_5.out (by omega)
     (first | cases eo13 | (injection eo13 with ea_ en_ ec_; (first | subst ea_ | (injection ea_ with ea_; subst ea_)); subst ec_; clear en_))
     have GB13 := am gb13
     have GG13 := am HG13
     clear gb13 gl13 HG13
     (first | simp only [add_plain] at hx426_0 | skip)
     obtain ⟨hx13_0, hf13_0⟩ := Kd.R_celln 0 HO_5.out (x13_1 : Int) p13 q13
     replace p13 := eq_true p13
     replace q13 := eq_true q13
     have HP14 := Kd.R_putg HO_5.out (x13_1 : Int) ((IntKind.u64.wrap ((IntKind.u64.wrap (rd x5_1 x13_1)) - x6_1)) % 4294967296)
     go_wp2_with (first | ((with_reducible refine gate_store (t := 55) (p := 38) rfl ?_); refine zstore (t := 55) (p := 38) (w1 := (wr.setCell ⟨go13, (x13_1 : Int).toNat, none⟩ (.int .u32 ((IntKind.u64.wrap ((IntKind.u64.wrap (rd x5_1 x13_1)) - x6_1)) % 4294967296)))) ?_; intro w15 hw; have hg : wr.grownBy w15 (some go13) := (by rw [hw]; exact HP14.2); have hp_ : Kd.R (Kd.int .u32) 55 w15 w.heap.size (fun k_ => (w.heap.size ≤ k_)) (.slice (some ⟨go13, 0, none⟩) x5_1.length co5) y429 := (by rw [hw, Ny429.out]; exact HP14.1); clear HP14; refine zt2 (hp_) ((by rw [hw]; exact below_set (HB.out) GB13.out : Below w.heap.size w w15)) ?_; clear HO_5 HB; intro HO_5 HB; clear hg hw hp_))
     (try simp only [← hl5_1])
     go_roundg k1
     case measure => have := HK1.out; omega
     case rel => exact ⟨(y429), (Go.bits .and .u64 ((IntKind.u64.wrap ((IntKind.u64.wrap (rd x5_1 x13_1)) - x6_1)) / 4294967296) 1), (wrap64 (x13_1 + 1)), zq8, zq8, H', ⟨by have := HK1.out; omega⟩, ⟨by (try simp only [hl5_1]); (with_reducible repeat (first | apply Kd.R_alloc | apply Kd.R_drewN | apply Kd.R_drew)); exact HO_5.out⟩, ⟨zq1⟩⟩
   ·rw [if_neg c6] at H
    have c6b0 := decide_eq_false c6
    (try (have c6b0x := c6b0; rw [hl5_1] at c6b0x))
    clear c6
    replace H := zj H
    obtain ⟨t430, A16, H⟩ := H
    obtain rfl := Option.some.inj H
    go_wp2_with (first | ((with_reducible refine gate_callee (f := 86) rfl ?_); refine goesL_ (some 44) rfl rfl Tryd.func86 (by kernel_rfl) rfl #[.slice Ao5 x5_1.length co5] rfl zq5 ?_; (with_reducible refine (nat_Trim.calls k1 (fun k_ => some k_ = (.slice Ao5 x5_1.length co5 : Value).ownBlock) _ _ x5_1 t430 _ ?side1 A16.out).mono ?_); (case side1 => exact Kd.R_V (Kd.R_tight rfl (HO_5.out))); rintro e w17 ⟨v431, rfl, ho0, hb⟩; refine ⟨_, rfl, ?_⟩; refine zt3 (rb HO_5 hb) (Kd.V_lower (Kd.V_mono (ok' := fun k_ => (w.heap.size ≤ k_)) ho0 (fun k_ hk_ => Or.elim hk_ (fun hs_ => ((HO_5.out).1 k_ hs_.symm)) (fun hn_ => (Nat.le_trans (below_size zq1) hn_)))) (below_size zq1)) (below_step zq1 hb) ?_; clear HO_5 HB; intro HO_5 HO432 HB))
    go_ret
    exact ⟨_, zq9, zq3 HO432.out, zq1⟩
end Go.Proofs.YtemnjgkicndmjaaDoor.Q
namespace Go.Proofs.YtemnjgkicndmjaaDoor.E
open Go.RowKit Go.Proofs.YtemnjgkicndmjaaDoorW.PrintWords
set_option linter.unusedVariables false
set_option linter.unusedSimpArgs false
inductive AV where
  | any | bool (b : Bool) | int (k : IntKind) (n : Int) | str (s : ByteArray) | nil
  | row (k : IntKind) (l : List Int) | arr (sz : Nat) (l : List AV) | at_ (l : List AV) | ptr (h off : Nat) | fn (f : Nat)
  | agg (l : List AV) | tup (l : List AV)
instance : Inhabited AV := ⟨.any⟩
def Reads (a : Addr) (vs : List Value) (W : World) : Prop := ∀ i u, vs[i]? = some u → W.cell? (a.add i) = some u
mutual
def Rep (φ : Nat → Option Nat) (W : World) (ok : Nat → Prop) : AV → Value → Prop
  | .any, _ => True
  | .bool b, v => v = .bool b
  | .int k n, v => v = .int k n
  | .str s, v => v = .string s
  | .nil, v => v = .slice none 0 0
  | .row k l, v => ∃ A c, v = .slice A l.length c ∧ l.length ≤ c ∧ Kd.F (Kd.int k) W ok A l.length l
  | .arr sz l, v => ∃ a n c vs, v = .slice (some a) n c ∧ n ≤ c ∧ n * sz = l.length ∧ n ≤ 9223372036854775807 ∧ Foot (Reads a vs) W ok ∧ Reps φ W ok l vs
  | .at_ l, v => ∃ a vs, v = .pointer (some a) ∧ a.spot = none ∧ Foot (Reads a vs) W ok ∧ Reps φ W ok l vs
  | .ptr h off, v => ∃ b, φ h = some b ∧ v = .pointer (some ⟨b, off, none⟩)
  | .fn f, v => v = .func (.func f) #[] #[]
  | .agg l, v => ∃ cs, v = .agg cs ∧ Reps φ W ok l cs.toList
  | .tup l, v => ∃ cs, v = .tuple cs ∧ Reps φ W ok l cs.toList
def Reps (φ : Nat → Option Nat) (W : World) (ok : Nat → Prop) : List AV → List Value → Prop
  | [], vs => vs = []
  | x :: l, vs => ∃ v vs', vs = v :: vs' ∧ Rep φ W ok x v ∧ Reps φ W ok l vs'
end
mutual
def noPtr : AV → Bool
  | .ptr _ _ => false
  | .arr _ l | .at_ l | .agg l | .tup l => noPtrs l
  | _ => true
def noPtrs : List AV → Bool
  | [] => true
  | x :: l => noPtr x && noPtrs l
end
def atom : AV → Bool
  | .agg _ | .tup _ | .any => false
  | _ => true
section
variable {φ φ' : Nat → Option Nat} {W W1 : World} {ok ok' : Nat → Prop}
theorem Foot_move {p : World → Prop} (h : Foot p W ok) (hok : ∀ k, ok k → k < W.heap.size → ok' k) (hm : ∀ k, ok k → k < W.heap.size → W1.heap[k]? = W.heap[k]?) : Foot p W1 ok' :=
  ((h.bound).step (fun k hk hl => hm k hk.1 hl)).mono (fun k hk => hok k hk.1 hk.2)
mutual
theorem Rep.move (hφ : ∀ h b, φ h = some b → φ' h = some b) (hok : ∀ k, ok k → k < W.heap.size → ok' k) (hm : ∀ k, ok k → k < W.heap.size → W1.heap[k]? = W.heap[k]?) : ∀ (x : AV) {v : Value}, Rep φ W ok x v → Rep φ' W1 ok' x v
  | .any, _, h => by simp only [Rep]
  | .bool b, _, h => by simpa only [Rep] using h
  | .int k n, _, h => by simpa only [Rep] using h
  | .str s, _, h => by simpa only [Rep] using h
  | .nil, _, h => by simpa only [Rep] using h
  | .row k l, _, h => by
    simp only [Rep] at h ⊢
    obtain ⟨A, c, h1, h2, h3⟩ := h
    exact ⟨A, c, h1, h2, Foot_move h3 hok hm⟩
  | .arr sz l, _, h => by
    simp only [Rep] at h ⊢
    obtain ⟨a, n, c, vs, h1, h2, h3, h4, h5, h6⟩ := h
    exact ⟨a, n, c, vs, h1, h2, h3, h4, Foot_move h5 hok hm, Reps.move hφ hok hm l h6⟩
  | .at_ l, _, h => by
    simp only [Rep] at h ⊢
    obtain ⟨a, vs, h1, h2, h3, h4⟩ := h
    exact ⟨a, vs, h1, h2, Foot_move h3 hok hm, Reps.move hφ hok hm l h4⟩
  | .ptr h off, _, hh => by
    simp only [Rep] at hh ⊢
    obtain ⟨b, h1, h2⟩ := hh
    exact ⟨b, hφ _ _ h1, h2⟩
  | .fn f, _, h => by simpa only [Rep] using h
  | .agg l, _, h => by
    simp only [Rep] at h ⊢
    obtain ⟨cs, h1, h2⟩ := h
    exact ⟨cs, h1, Reps.move hφ hok hm l h2⟩
  | .tup l, _, h => by
    simp only [Rep] at h ⊢
    obtain ⟨cs, h1, h2⟩ := h
    exact ⟨cs, h1, Reps.move hφ hok hm l h2⟩
theorem Reps.move (hφ : ∀ h b, φ h = some b → φ' h = some b) (hok : ∀ k, ok k → k < W.heap.size → ok' k) (hm : ∀ k, ok k → k < W.heap.size → W1.heap[k]? = W.heap[k]?) : ∀ (l : List AV) {vs : List Value}, Reps φ W ok l vs → Reps φ' W1 ok' l vs
  | [], _, h => by simpa only [Reps] using h
  | x :: l, _, h => by
    simp only [Reps] at h ⊢
    obtain ⟨v, vs', h1, h2, h3⟩ := h
    exact ⟨v, vs', h1, Rep.move hφ hok hm x h2, Reps.move hφ hok hm l h3⟩
end
mutual
theorem Rep.free : ∀ (x : AV) {v : Value}, noPtr x = true → Rep φ W ok x v → Rep φ' W ok x v
  | .any, _, _, h => by simp only [Rep]
  | .bool b, _, _, h => by simpa only [Rep] using h
  | .int k n, _, _, h => by simpa only [Rep] using h
  | .str s, _, _, h => by simpa only [Rep] using h
  | .nil, _, _, h => by simpa only [Rep] using h
  | .row k l, _, _, h => by simpa only [Rep] using h
  | .arr sz l, _, hn, h => by
    simp only [Rep] at h ⊢; simp only [noPtr] at hn
    obtain ⟨a, n, c, vs, h1, h2, h3, h4, h5, h6⟩ := h
    exact ⟨a, n, c, vs, h1, h2, h3, h4, h5, Reps.free l hn h6⟩
  | .at_ l, _, hn, h => by
    simp only [Rep] at h ⊢; simp only [noPtr] at hn
    obtain ⟨a, vs, h1, h2, h3, h4⟩ := h
    exact ⟨a, vs, h1, h2, h3, Reps.free l hn h4⟩
  | .ptr h off, _, hn, _ => by simp [noPtr] at hn
  | .fn f, _, _, h => by simpa only [Rep] using h
  | .agg l, _, hn, h => by
    simp only [Rep] at h ⊢; simp only [noPtr] at hn
    obtain ⟨cs, h1, h2⟩ := h
    exact ⟨cs, h1, Reps.free l hn h2⟩
  | .tup l, _, hn, h => by
    simp only [Rep] at h ⊢; simp only [noPtr] at hn
    obtain ⟨cs, h1, h2⟩ := h
    exact ⟨cs, h1, Reps.free l hn h2⟩
theorem Reps.free : ∀ (l : List AV) {vs : List Value}, noPtrs l = true → Reps φ W ok l vs → Reps φ' W ok l vs
  | [], _, _, h => by simpa only [Reps] using h
  | x :: l, _, hn, h => by
    simp only [Reps] at h ⊢; simp only [noPtrs, Bool.and_eq_true] at hn
    obtain ⟨v, vs', h1, h2, h3⟩ := h
    exact ⟨v, vs', h1, Rep.free x hn.1 h2, Reps.free l hn.2 h3⟩
end
theorem Reps.length : ∀ {l : List AV} {vs : List Value}, Reps φ W ok l vs → vs.length = l.length
  | [], _, h => by simp only [Reps] at h; subst h; rfl
  | x :: l, _, h => by
    simp only [Reps] at h
    obtain ⟨v, vs', rfl, _, h3⟩ := h
    simp [Reps.length h3]
theorem Reps.get : ∀ {l : List AV} {vs : List Value} (i : Nat) {x : AV}, Reps φ W ok l vs → l[i]? = some x → ∃ v, vs[i]? = some v ∧ Rep φ W ok x v
  | [], _, i, _, _, hx => by simp at hx
  | y :: l, _, i, x, h, hx => by
    simp only [Reps] at h
    obtain ⟨v, vs', rfl, h2, h3⟩ := h
    cases i with
    | zero => simp at hx; subst hx; exact ⟨v, rfl, h2⟩
    | succ i => simpa using Reps.get i h3 (by simpa using hx)
theorem Reps.drop : ∀ {l : List AV} {vs : List Value} (i : Nat), Reps φ W ok l vs → Reps φ W ok (l.drop i) (vs.drop i)
  | [], _, i, h => by simp only [Reps] at h; subst h; simp [Reps]
  | y :: l, _, i, h => by
    have h' := h
    simp only [Reps] at h
    obtain ⟨v, vs', rfl, h2, h3⟩ := h
    cases i with
    | zero => exact h'
    | succ i => simpa using Reps.drop i h3
theorem Reps.take : ∀ {l : List AV} {vs : List Value} (i : Nat), Reps φ W ok l vs → Reps φ W ok (l.take i) (vs.take i)
  | [], _, i, h => by simp only [Reps] at h; subst h; simp [Reps]
  | y :: l, _, i, h => by
    simp only [Reps] at h
    obtain ⟨v, vs', rfl, h2, h3⟩ := h
    cases i with
    | zero => simp [Reps]
    | succ i => simp only [List.take_succ_cons, Reps]; exact ⟨_, _, rfl, h2, Reps.take i h3⟩
theorem Reps.append : ∀ {l l' : List AV} {vs vs' : List Value}, Reps φ W ok l vs → Reps φ W ok l' vs' → Reps φ W ok (l ++ l') (vs ++ vs')
  | [], _, _, _, h, h' => by simp only [Reps] at h; subst h; simpa using h'
  | y :: l, _, _, _, h, h' => by
    simp only [Reps] at h
    obtain ⟨v, vs', rfl, h2, h3⟩ := h
    simp only [List.cons_append, Reps]; exact ⟨_, _, rfl, h2, Reps.append h3 h'⟩
theorem Rep.one {x : AV} {v : Value} (ha : atom x = true) (h : Rep φ W ok x v) : v.oneCell' = true ∧ v.cells = #[v] := by
  cases x <;> simp only [atom] at ha <;> first | cases ha | skip
  all_goals (simp only [Rep] at h)
  all_goals first
    | (subst h; exact ⟨rfl, rfl⟩)
    | (obtain ⟨_, _, rfl, _⟩ := h; exact ⟨rfl, rfl⟩)
    | (obtain ⟨_, _, _, _, rfl, _⟩ := h; exact ⟨rfl, rfl⟩)
    | (obtain ⟨_, _, rfl⟩ := h; exact ⟨rfl, rfl⟩)
end
def upd (f : Nat → AV) (t : Nat) (v : AV) : Nat → AV := fun x => bif Nat.beq x t then v else f x
theorem upd_eq (f : Nat → AV) (t : Nat) (v : AV) (x : Nat) : upd f t v x = if x = t then v else f x := by
  unfold upd
  by_cases h : x = t
  · subst h; simp
  · have : Nat.beq x t = false := by
      cases hb : Nat.beq x t
      · rfl
      · exact absurd (Nat.eq_of_beq_eq_true hb) h
    simp [this, h]
def absAtom : Value → AV
  | .bool b => .bool b
  | .int k n => .int k n
  | .string s => .str s
  | .slice none 0 0 => .nil
  | .func (.func f) ⟨[]⟩ ⟨[]⟩ => .fn f
  | _ => .any
def absV : Value → AV
  | .agg cs => .agg (cs.toList.map absAtom)
  | .tuple cs => .tup (cs.toList.map absAtom)
  | v => absAtom v
def ev (σ : Nat → AV) : Operand → AV
  | .tmp t => σ (2 * t)
  | .const v => absV v
  | .func f => .fn f
  | .global _ => .any
def cellsOf (x : AV) : Option (List AV) :=
  match x with
  | .agg l => if l.all atom then some l else none
  | x => if atom x then some [x] else none
def isAgg' (P : Program) (t : TypeId) : Bool :=
  match P.underlying t with
  | some (.struct _) | some (.array _ _) => true
  | _ => false
def sz (P : Program) (t : TypeId) : Option Nat := (P.info? t).map (·.size)
def loadA (P : Program) (t : TypeId) (cs : List AV) : Option AV :=
  if (P.underlying t).isNone then none else
  if isAgg' P t then
    match sz P t with
    | some n => if n ≤ cs.length then some (.agg (cs.take n)) else none
    | none => none
  else cs.head?
structure Eff where
  dst : AV
  rd : List Nat
  wr : Option (Nat × AV)
def val (x : AV) : Eff := ⟨x, [], none⟩
def bitsA (op : BinOp) (k : IntKind) (x y : Int) : Option AV :=
  let a := BitVec.ofInt k.bits x
  let b := BitVec.ofInt k.bits y
  match op with
  | .and => some (.int k (k.wrap (a &&& b).toNat))
  | .or => some (.int k (k.wrap (a ||| b).toNat))
  | .xor => some (.int k (k.wrap (a ^^^ b).toNat))
  | .andNot => some (.int k (k.wrap (a &&& ~~~b).toNat))
  | _ => none
def binI {R : Type} (op : BinOp) (k : IntKind) (a b : Int) (K : AV → Option R) : Option R :=
  match op with
  | .add => K (.int k (k.wrap (a + b)))
  | .sub => K (.int k (k.wrap (a - b)))
  | .mul => K (.int k (k.wrap (a * b)))
  | .quo => if b = 0 then none else K (.int k (k.wrap (a.tdiv b)))
  | .rem => if b = 0 then none else K (.int k (a.tmod b))
  | .eql => K (.bool (a == b))
  | .neq => K (.bool (a != b))
  | .lss => K (.bool (decide (a < b)))
  | .leq => K (.bool (decide (a ≤ b)))
  | .gtr => K (.bool (decide (a > b)))
  | .geq => K (.bool (decide (a ≥ b)))
  | op => match bitsA op k a b with | some v => K v | none => none
def binA {R : Type} (P : Program) (op : BinOp) (t : TypeId) (x y : AV) (K : AV → Option R) : Option R :=
  match x, y with
  | .int k a, .int k' b =>
    match op with
    | .shl => if b < 0 then none else K (.int k (k.wrap (a * 2 ^ min b.toNat k.bits)))
    | .shr => if b < 0 then none else K (.int k (a.fdiv (2 ^ min b.toNat k.bits)))
    | op => if k = k' then binI op k a b K else none
  | .bool a, .bool b =>
    match op, P.underlying t with
    | .eql, some .bool => K (.bool (a == b))
    | .neq, some .bool => K (.bool (!(a == b)))
    | _, _ => none
  | .str a, .str b =>
    match op with
    | .eql => K (.bool (a.toList == b.toList))
    | .neq => K (.bool (!(a.toList == b.toList)))
    | .add => if a.size + b.size ≤ 9223372036854775807 then K (.str (a ++ b)) else none
    | _ => none
  | _, _ => none
def unA (op : UnOp) (x : AV) : Option AV :=
  match op, x with
  | .not, .bool b => some (.bool !b)
  | .neg, .int k n => some (.int k (k.wrap (0 - n)))
  | _, _ => none
def lenA (x : AV) : Option AV :=
  match x with
  | .str s => some (.int .i64 (s.size : Nat))
  | .nil => some (.int .i64 0)
  | .row _ l => some (.int .i64 (l.length : Nat))
  | .arr s l => if s = 0 then none else some (.int .i64 ((l.length / s : Nat)))
  | _ => none
def fieldsOf (P : Program) (t : TypeId) : Option (Array Field) :=
  match P.underlying t with
  | some (.struct fs) => some fs
  | _ => none
def fieldAt' (P : Program) (t : TypeId) (f : Nat) : Option (Nat × Nat) :=
  match fieldsOf P t with
  | some fs => match fs[f]? with
    | some fd => match sz P fd.type with
      | some n => if n = 0 then none else some (fd.offset, n)
      | none => none
    | none => none
  | none => none
def setL (cs : List AV) (off : Nat) (vs : List AV) : List AV := cs.take off ++ vs ++ cs.drop (off + vs.length)
def placesOf (P : Program) (t : TypeId) : Option (List (Nat × Nat)) :=
  match fieldsOf P t with
  | some fs => fs.toList.mapM fun f => (P.info? f.type).map fun i => (f.offset, i.size)
  | none => none
def fillA (place : Nat → Option (Nat × Nat)) (σ : Nat → AV) : List (Nat × Operand) → List AV → Option (List AV)
  | [], cs => some cs
  | (i, x) :: rest, cs =>
    match place i, cellsOf (ev σ x) with
    | some (off, n), some vs => if vs.length = n ∧ off + n ≤ cs.length then fillA place σ rest (setL cs off vs) else none
    | _, _ => none
def zeroCells' (P : Program) (t : TypeId) : Option (List AV) := ((P.info? t).bind (·.zero)).bind fun v => cellsOf (absV v)
def asInts (k : IntKind) : List AV → Option (List Int)
  | [] => some []
  | .int k' n :: l => if k = k' then match asInts k l with | some is => some (n :: is) | none => none else none
  | _ => none
def partsOf (n : Nat) (σ : Nat → AV) : Nat → List (Nat × Operand) → Option (List AV)
  | _, [] => some []
  | i, (j, x) :: rest =>
    match cellsOf (ev σ x), partsOf n σ (i + 1) rest with
    | some c, some l => if c.length = n ∧ i = j ∧ noPtrs c then some (c ++ l) else none
    | _, _ => none
abbrev Fun := (R : Type) → List AV → (AV → Option R) → Option R
abbrev Tab := Nat → Option Fun
def indexA {R : Type} (x i : AV) (K : AV → Option R) : Option R :=
  match x, i with
  | .row k l, .int _ n => if 0 ≤ n ∧ n < l.length then K (.at_ [.int k (l.getD n.toNat 0)]) else none
  | .arr s l, .int _ n => if 0 < s ∧ 0 ≤ n ∧ (n + 1) * s ≤ l.length then K (.at_ ((l.drop (n.toNat * s)).take s)) else none
  | _, _ => none
def doOp {R : Type} (P : Program) (T : Tab) (new : Nat) (σ : Nat → AV) (o : Oper) (K : Eff → Option R) : Option R :=
  match o.op with
  | .move x | .assign x => K (val (ev σ x))
  | .pick c a b => match ev σ c with | .bool t => if t = true then K (val (ev σ a)) else K (val (ev σ b)) | _ => none
  | .alloc t => match zeroCells' P t with | some cs => K ⟨.ptr new 0, [], some (new, .agg cs)⟩ | none => none
  | .box t x => match cellsOf (ev σ x) with | some cs => K ⟨.ptr new 0, [], some (new, .agg cs)⟩ | none => none
  | .build t parts => match zeroCells' P t, placesOf P t with
    | some z, some pl => match fillA (pl.toArray[·]?) σ parts.toList z with | some cs => K (val (.agg cs)) | none => none
    | _, _ => none
  | .buildSlice t len parts =>
    match P.underlying t with
    | some (.slice e) =>
      match sz P e with
      | some n =>
        if parts.size = len ∧ 0 < n ∧ len * n < 100000 ∧ (zeroCells' P e).isSome then
          match partsOf n σ 0 parts.toList with
          | some l => match P.underlying e with
            | some (.int k) => match asInts k l with | some is => if n = 1 then K (val (.row k is)) else none | none => none
            | _ => K (val (.arr n l))
          | none => none
        else none
      | none => none
    | _ => none
  | .load t x =>
    match ev σ x with
    | .ptr h off => match σ (2 * h + 1) with
      | .agg cs => match loadA P t (cs.drop off) with | some v => K ⟨v, [h], none⟩ | none => none
      | _ => none
    | .at_ cs => match loadA P t cs with | some v => K (val v) | none => none
    | _ => none
  | .store t x y =>
    match ev σ x with
    | .ptr h off => match σ (2 * h + 1), cellsOf (ev σ y) with
      | .agg cs, some vs => if sz P t = some vs.length ∧ off + vs.length ≤ cs.length then K ⟨.any, [h], some (h, .agg (setL cs off vs))⟩ else none
      | _, _ => none
    | _ => none
  | .binOp op t x y _ => binA P op t (ev σ x) (ev σ y) fun v => K (val v)
  | .unOp op _ x => match unA op (ev σ x) with | some v => K (val v) | none => none
  | .convert s d x => match P.underlying s, P.underlying d, ev σ x with
    | some (.int _), some (.int k), .int _ n => K (val (.int k (k.wrap n)))
    | _, _, _ => none
  | .fieldAddr s x f => match fieldAt' P s f with
    | some (off, n) => match ev σ x with
      | .ptr h o => K (val (.ptr h (o + off)))
      | .at_ cs => K (val (.at_ (cs.drop off)))
      | _ => none
    | none => none
  | .field s x f => match fieldsOf P s, ev σ x with
    | some fs, .agg cs => match fs[f]? with
      | some fd => match loadA P fd.type (cs.drop fd.offset) with | some v => K (val v) | none => none
      | none => none
    | _, _ => none
  | .indexAddr t x i => match P.underlying t with
    | some (.slice e) => match sz P e, ev σ x with
      | some 1, .row k l => indexA (.row k l) (ev σ i) fun v => K (val v)
      | some n, .arr s l => if n = s then indexA (.arr s l) (ev σ i) fun v => K (val v) else none
      | _, _ => none
    | _ => none
  | .index t x i => match P.underlying t, ev σ x, ev σ i with
    | some .string, .str s, .int _ n => if 0 ≤ n ∧ n < s.size then K (val (.int .u8 ((s.data.getD n.toNat 0).toNat))) else none
    | _, _, _ => none
  | .extract x i => match ev σ x with
    | .tup l => match l[i]? with | some v => K (val v) | none => none
    | _ => none
  | .call c =>
    match c.callee with
    | .builtin .len => match c.args.toList, c.argTypes[0]? with
      | [x], some t => match P.underlying t, lenA (ev σ x) with
        | some (.slice _), some v => (match ev σ x with | .str _ => none | _ => K (val v))
        | some .string, some v => (match ev σ x with | .str _ => K (val v) | _ => none)
        | _, _ => none
      | _, _ => none
    | .builtin .min => match c.args.toList with
      | [x, y] => match ev σ x, ev σ y with
        | .int k a, .int _ b => K (val (.int k (if b < a then b else a)))
        | _, _ => none
      | _ => none
    | .builtin .max => match c.args.toList with
      | [x, y] => match ev σ x, ev σ y with
        | .int k a, .int _ b => K (val (.int k (if b > a then b else a)))
        | _, _ => none
      | _ => none
    | .value f => match ev σ f with
      | .fn g => match T g with
        | some F => if noPtrs (c.args.toList.map (ev σ)) then F R (c.args.toList.map (ev σ)) fun r => K (val r) else none
        | none => none
      | _ => none
    | _ => none
  | _ => none
def putT (σ : Nat → AV) (dst : Option Tmp) (x : AV) : Nat → AV :=
  match dst with
  | some d => upd σ (2 * d) x
  | none => σ
def put (σ : Nat → AV) (dst : Option Tmp) (e : Eff) : Nat → AV :=
  match e.wr with
  | some (h, v) => upd (putT σ dst e.dst) (2 * h + 1) v
  | none => putT σ dst e.dst
structure State where
  σ : Nat → AV
  nh : Nat
inductive Ex where
  | normal | exit (id : Nat) | ret
def yieldA (ops : Array Oper) (σ : Nat → AV) (j : Nat) : AV :=
  match (ops[j]?).bind (·.dst) with
  | some t => σ (2 * t)
  | none => .any
def dstOk (N : Nat) (o : Oper) : Bool :=
  match o.dst with
  | some d => decide (d < N)
  | none => true
def oneOp {R : Type} (P : Program) (T : Tab) (N : Nat) (nh : Nat) (ops : Array Oper) (i : Nat) (o : Oper) (σ : Nat → AV) (K : Eff → Option R) : Option R :=
  if dstOk N o = true then
    match o.guard with
    | none => doOp P T (nh + i) σ o K
    | some (j, want) => match yieldA ops σ j with
      | .bool b => if b = want then doOp P T (nh + i) σ o K else K (val (.tup []))
      | .tup [] => K (val (.tup []))
      | _ => none
  else none
def rds (ops : Array Oper) (o : Oper) (e : Eff) : List Nat := (o.looksAt ops).map (2 * ·) ++ e.rd.map (2 * · + 1)
def wrs (o : Oper) (e : Eff) : List Nat := (o.dst.toList).map (2 * ·) ++ (e.wr.toList).map (2 * ·.1 + 1)
def runOps {R : Type} (P : Program) (T : Tab) (N : Nat) (nh : Nat) (ops : Array Oper) : List Oper → Nat → (Nat → AV) → List (List Nat × List Nat) → ((Nat → AV) → List (List Nat × List Nat) → Option R) → Option R
  | [], _, σ, tr, K => K σ tr
  | o :: rest, i, σ, tr, K => oneOp P T N nh ops i o σ fun e => runOps P T N nh ops rest (i + 1) (put σ o.dst e) (tr ++ [(rds ops o e, wrs o e)]) K
def clash (a b : List Nat × List Nat) : Bool := a.2.any (fun x => b.1.contains x || b.2.contains x) || a.1.any (fun x => b.2.contains x)
def mask (acc : List Nat) : List Edge → Nat
  | [] => 0
  | e :: es => if Region.binds .any e = true then (2 ^ e.on ||| acc.getD e.on 0) ||| mask acc es else mask acc es
def befs : List Oper → List Nat → List Nat
  | [], acc => acc
  | o :: rest, acc => befs rest (acc ++ [mask acc o.after.toList])
def ordered (bef : List Nat) (tr : List (List Nat × List Nat)) : Bool :=
  (List.range tr.length).all fun j => (List.range j).all fun i => !clash (tr.getD i ([], [])) (tr.getD j ([], [])) || (bef.getD j 0).testBit i
def edgesOk : List Oper → Nat → Bool
  | [], _ => true
  | o :: rest, i => (o.after.all fun e => !Region.binds .any e || Nat.blt e.on i) && edgesOk rest (i + 1)
def loopN {R : Type} (body : State → (Ex → State → Option R) → Option R) : Nat → State → (Ex → State → Option R) → Option R
  | 0, _, _ => none
  | n + 1, s, K => body s fun e s' => match e with
    | .normal => loopN body n s' K
    | e => K e s'
def run {R : Type} (P : Program) (T : Tab) (N : Nat) (fuel : Nat) : Code → State → (Ex → State → Option R) → Option R
  | .skip, s, K => K .normal s
  | .region _ ops draw, s, K =>
    runOps P T N s.nh ops ops.toList 0 s.σ [] fun σ tr =>
      if draw = true then (if (ordered (befs ops.toList []) tr && edgesOk ops.toList 0) = true then K .normal ⟨σ, s.nh + ops.size⟩ else none) else K .normal ⟨σ, s.nh + ops.size⟩
  | .seq a b, s, K => run P T N fuel a s fun e s' => match e with
    | .normal => run P T N fuel b s' K
    | e => K e s'
  | .cond c a b, s, K => match ev s.σ c with
    | .bool t => if t = true then run P T N fuel a s K else run P T N fuel b s K
    | _ => none
  | .block id b, s, K => run P T N fuel b s fun e s' => match e with
    | .exit i => if i = id then K .normal s' else K (.exit i) s'
    | e => K e s'
  | .loop b, s, K => loopN (run P T N fuel b) fuel s K
  | .exit id, s, K => K (.exit id) s
  | .ret, s, K => K .ret s
  | _, _, _ => none
def resA (P : Program) (σ : Nat → AV) : List ResultVar → Option (List AV)
  | [] => some []
  | .tmp t :: rest => match resA P σ rest with | some l => some (σ (2 * t) :: l) | none => none
  | .cell t ty :: rest => match σ (2 * t), resA P σ rest with
    | .ptr h off, some l => match σ (2 * h + 1) with
      | .agg cs => match loadA P ty (cs.drop off) with | some v => some (v :: l) | none => none
      | _ => none
    | _, _ => none
def retA (P : Program) (fn : Func) (σ : Nat → AV) : Option AV :=
  match resA P σ fn.results.toList with
  | some [x] => if noPtr x then some x else none
  | some l => if noPtrs l then some (.tup l) else none
  | none => none
def start (args : List AV) : Nat → AV := fun x => bif Nat.beq (x % 2) 0 then args.getD (x / 2) .any else .any
def execFn (P : Program) (T : Tab) (fuel : Nat) (fn : Func) : Fun := fun R args K =>
  match fn.body with
  | some c =>
    if args.length ≤ fn.ntmps then
      run P T fn.ntmps fuel c ⟨start args, 0⟩ fun e s => match e with
        | .exit _ => none
        | _ => match retA P fn s.σ with | some r => K r | none => none
    else none
  | none => none
def Ok (B : Nat) (P0 : Nat → Prop) (φ : Nat → Option Nat) (k : Nat) : Prop := (P0 k ∨ B ≤ k) ∧ ∀ h, φ h ≠ some k
structure St (N B : Nat) (P0 : Nat → Prop) (w0 : World) (fresh : Nat → Prop) (σ : Nat → AV) (φ : Nat → Option Nat) (a : Act) (w : World) : Prop where
  below : Below B w0 w
  base : B ≤ w.heap.size
  defers : a.defers = []
  size : a.tmps.size = N
  tmps : ∀ t, Rep φ w (Ok B P0 φ) (σ (2 * t)) (a.tmps.getD t undef)
  boxes : ∀ h cs, σ (2 * h + 1) = .agg cs → ∃ b vs e, φ h = some b ∧ w.heap[b]? = some (.cells vs e (0, 0)) ∧ Reps φ w (Ok B P0 φ) cs vs.toList
  own : ∀ h b, φ h = some b → B ≤ b ∧ b < w.heap.size
  inj : ∀ h h' b, φ h = some b → φ h' = some b → h = h'
  fr : ∀ h, fresh h → φ h = none
section
variable {P : Program} {N B : Nat} {P0 : Nat → Prop} {w0 : World} {fresh fresh' : Nat → Prop} {σ σ' : Nat → AV} {φ : Nat → Option Nat} {a : Act} {w w' : World} {o : Oper} {Q : Exit → Act → World → Prop} {next : Act → World → Prop}
theorem absAtom_rep (W : World) (ok : Nat → Prop) (v : Value) : Rep φ W ok (absAtom v) v := by
  unfold absAtom
  split <;> simp [Rep]
theorem absAtoms_rep (W : World) (ok : Nat → Prop) : ∀ (vs : List Value), Reps φ W ok (vs.map absAtom) vs
  | [] => by simp [Reps]
  | v :: vs => by simp only [List.map_cons, Reps]; exact ⟨v, vs, rfl, absAtom_rep W ok v, absAtoms_rep W ok vs⟩
theorem absV_rep (W : World) (ok : Nat → Prop) (v : Value) : Rep φ W ok (absV v) v := by
  unfold absV
  split
  · simp only [Rep]; exact ⟨_, rfl, absAtoms_rep W ok _⟩
  · simp only [Rep]; exact ⟨_, rfl, absAtoms_rep W ok _⟩
  · exact absAtom_rep W ok v
theorem St.ev (h : St N B P0 w0 fresh σ φ a w) (x : Operand) : Rep φ w (Ok B P0 φ) (ev σ x) (a.eval x) := by
  cases x with
  | tmp t => exact h.tmps t
  | const v => exact absV_rep w _ v
  | global g => simp [E.ev, Rep]
  | func f => simp [E.ev, Rep, Act.eval]
theorem Reps.ones : ∀ {l : List AV} {vs : List Value} {ok : Nat → Prop}, l.all atom = true → Reps φ w ok l vs → ∀ v ∈ vs, v.oneCell' = true
  | [], _, _, _, h => by simp only [Reps] at h; subst h; simp
  | x :: l, _, _, ha, h => by
    simp only [Reps] at h
    obtain ⟨v, vs', rfl, h2, h3⟩ := h
    simp only [List.all_cons, Bool.and_eq_true] at ha
    intro u hu
    rcases List.mem_cons.1 hu with rfl | hu
    · exact (Rep.one ha.1 h2).1
    · exact Reps.ones ha.2 h3 u hu
theorem cellsOf_rep {x : AV} {l : List AV} {v : Value} {ok : Nat → Prop} (h : cellsOf x = some l) (hr : Rep φ w ok x v) : Reps φ w ok l v.cells.toList ∧ ∀ u ∈ v.cells.toList, u.oneCell' = true := by
  unfold cellsOf at h
  split at h
  · split at h
    · injection h with h
      subst h
      rename_i ha
      simp only [Rep] at hr
      obtain ⟨cs, rfl, hr⟩ := hr
      exact ⟨hr, Reps.ones ha hr⟩
    · cases h
  · split at h
    · injection h with h
      subst h
      rename_i ha
      obtain ⟨h1, h2⟩ := Rep.one ha hr
      rw [h2]
      refine ⟨?_, fun u hu => ?_⟩
      · simp only [Reps]; exact ⟨v, [], rfl, hr, rfl⟩
      · simp at hu; subst hu; exact h1
    · cases h
theorem St.put (h : St N B P0 w0 fresh σ φ a w) {dst : Option Tmp} (hd : ∀ d, dst = some d → d < N) {x : AV} {v : Value} (hv : ∀ d, dst = some d → Rep φ w (Ok B P0 φ) x v) :
    St N B P0 w0 fresh (putT σ dst x) φ (a.put dst v) w := by
  cases dst with
  | none => exact h
  | some d =>
    have hdN := hd d rfl
    refine { h with defers := h.defers, size := by simp [Act.put, h.size], tmps := fun t => ?_, boxes := fun k cs hk => ?_ }
    · simp only [putT, upd_eq, Act.put]
      by_cases ht : t = d
      · subst ht
        rw [if_pos rfl]
        have : (a.tmps.setIfInBounds t v).getD t undef = v := by simp [Array.getD, h.size, hdN]
        rw [this]
        exact hv t rfl
      · rw [if_neg (by omega)]
        have : (a.tmps.setIfInBounds d v).getD t undef = a.tmps.getD t undef := by
          simp only [Array.getD_eq_getD_getElem?]
          rw [Array.getElem?_setIfInBounds_ne (Ne.symm ht)]
        rw [this]
        exact h.tmps t
    · simp only [putT, upd_eq] at hk
      rw [if_neg (by omega)] at hk
      exact h.boxes k cs hk
theorem St.world (h : St N B P0 w0 fresh σ φ a w) (hb : Below B w w') (hs : w.heap.size ≤ w'.heap.size) (hm : ∀ k, k < w.heap.size → w'.heap[k]? = w.heap[k]?) : St N B P0 w0 fresh σ φ a w' :=
  { h with
    below := h.below.trans hb
    base := Nat.le_trans h.base hs
    tmps := fun t => Rep.move (fun _ _ h => h) (fun _ h _ => h) (fun k _ hk => hm k hk) _ (h.tmps t)
    boxes := fun k cs hk => by
      obtain ⟨b, vs, e, h1, h2, h3⟩ := h.boxes k cs hk
      exact ⟨b, vs, e, h1, (hm b (h.own k b h1).2).trans h2, Reps.move (fun _ _ h => h) (fun _ h _ => h) (fun k _ hk => hm k hk) _ h3⟩
    own := fun k b hk => ⟨(h.own k b hk).1, Nat.lt_of_lt_of_le (h.own k b hk).2 hs⟩ }
theorem St.less (h : St N B P0 w0 fresh σ φ a w) (hf : ∀ k, fresh' k → fresh k) : St N B P0 w0 fresh' σ φ a w := { h with fr := fun k hk => h.fr k (hf k hk) }
theorem St.new (h : St N B P0 w0 fresh σ φ a w) {n : Nat} (hn : fresh n) {cs : List AV} {vs : Array Value} (hr : Reps φ w (Ok B P0 φ) cs vs.toList) (t : TypeId) :
    ∃ φ', St N B P0 w0 (fun k => fresh k ∧ k ≠ n) (upd σ (2 * n + 1) (.agg cs)) φ' a (w.alloc (.cells vs t (0, 0))) ∧ φ' n = some w.heap.size := by
  have hsz : (w.alloc (.cells vs t (0, 0))).heap.size = w.heap.size + 1 := by show (w.heap.push _).size = _; simp
  have hm : ∀ k, k < w.heap.size → (w.alloc (.cells vs t (0, 0))).heap[k]? = w.heap[k]? := fun k hk => Below.heap_alloc _ _ _ hk
  have hnew : (w.alloc (.cells vs t (0, 0))).heap[w.heap.size]? = some (.cells vs t (0, 0)) := by show (w.heap.push _)[w.heap.size]? = _; simp
  have hφ : ∀ k b, φ k = some b → (fun k => if k = n then some w.heap.size else φ k) k = some b := fun k b hk => by
    have : k ≠ n := fun e => by subst e; rw [h.fr k hn] at hk; cases hk
    simp [this, hk]
  have hok : ∀ k, Ok B P0 φ k → k < w.heap.size → Ok B P0 (fun k => if k = n then some w.heap.size else φ k) k := fun k hk hlt => ⟨hk.1, fun j hj => by
    dsimp only at hj
    split at hj
    · injection hj with hj; omega
    · exact hk.2 j hj⟩
  refine ⟨fun k => if k = n then some w.heap.size else φ k, ?_, by simp⟩
  refine { below := h.below.alloc h.base _, base := by rw [hsz]; exact Nat.le_succ_of_le h.base, defers := h.defers, size := h.size, tmps := fun t => ?_, boxes := fun k cs' hk => ?_, own := fun k b hk => ?_, inj := fun k k' b hk hk' => ?_, fr := fun k hk => ?_ }
  · simp only [upd_eq]
    rw [if_neg (by omega)]
    exact Rep.move hφ hok (fun k _ hk => hm k hk) _ (h.tmps t)
  · simp only [upd_eq] at hk
    by_cases hkn : k = n
    · subst hkn
      rw [if_pos rfl] at hk
      injection hk with hk
      subst hk
      exact ⟨w.heap.size, vs, t, by simp, hnew, Reps.move hφ hok (fun k _ hk => hm k hk) _ hr⟩
    · rw [if_neg (by omega)] at hk
      obtain ⟨b, vs', e, h1, h2, h3⟩ := h.boxes k cs' hk
      exact ⟨b, vs', e, hφ k b h1, (hm b (h.own k b h1).2).trans h2, Reps.move hφ hok (fun k _ hk => hm k hk) _ h3⟩
  · rw [hsz]
    split at hk
    · injection hk with hk; subst hk; exact ⟨h.base, Nat.lt_succ_self _⟩
    · have := h.own k b hk; omega
  · split at hk <;> split at hk'
    · simp_all
    · injection hk with hk; have := h.own k' b hk'; omega
    · injection hk' with hk'; have := h.own k b hk; omega
    · exact h.inj k k' b hk hk'
  · simp [hk.2, h.fr k hk.1]
theorem wp_value {v : Value} (h : (execOp a.eval o).run P w = .ok (.value v) w') (hk : next (a.put o.dst v) w') : o.wp P a w next Q := by
  unfold Oper.wp; rw [h]; exact hk
theorem wp_skip' (h : (execOp a.eval o).run P w = .ok .skip w') (hk : next (a.put o.dst undef) w') : o.wp P a w next Q := by
  unfold Oper.wp; rw [h]; exact hk
end
section
variable {P : Program} {φ : Nat → Option Nat} {w : World} {ok : Nat → Prop} {σ : Nat → AV} {a : Act}
theorem sz_info {t n : Nat} (h : sz P t = some n) : ∃ i, P.info? t = some i ∧ i.size = n := by
  unfold sz at h
  cases hi : P.info? t with
  | none => simp [hi] at h
  | some i => exact ⟨i, rfl, by simpa [hi] using h⟩
theorem run_sizeOf' {t n : Nat} (h : sz P t = some n) (w : World) : (sizeOf t).run P w = .ok n w := by
  obtain ⟨i, hi, hn⟩ := sz_info h
  simp [sizeOf, typeInfo, hi, hn]
theorem run_isAgg' {t : Nat} (h : (P.underlying t).isNone = false) (w : World) : (isAgg t).run P w = .ok (isAgg' P t) w := by
  cases hu : P.underlying t with
  | none => simp [hu] at h
  | some d => cases d <;> simp [isAgg, isAgg', run_underlying hu, hu]
theorem loadVar_run {t : Nat} {cs : List AV} {x : AV} {ad : Addr} {vs : List Value} (h : loadA P t cs = some x) (hr : Reps φ w ok cs vs) (hrd : Reads ad vs w) :
    ∃ v, (loadVar t ad).run P w = .ok v w ∧ Rep φ w ok x v := by
  unfold loadA at h
  split at h
  · cases h
  rename_i hu
  have hu' : (P.underlying t).isNone = false := by revert hu; cases P.underlying t <;> simp
  split at h
  · rename_i ha
    split at h
    · rename_i n hn
      split at h
      · injection h with h
        subst h
        rename_i hle
        have hl := hr.length
        have h1 := run_loadCells_list (P := P) w ad (vs.take n) (fun j v hj => hrd j v (by
          rw [List.getElem?_take] at hj
          split at hj
          · exact hj
          · cases hj))
        rw [List.length_take, Nat.min_eq_left (by omega)] at h1
        refine ⟨.agg (vs.take n).toArray, ?_, ?_⟩
        · simp [loadVar, run_isAgg' hu', ha, run_sizeOf' hn, h1]
        · simp only [Rep]
          exact ⟨_, rfl, hr.take n⟩
      · cases h
    · cases h
  · rename_i ha
    cases cs with
    | nil => simp at h
    | cons y l =>
      simp at h
      subst h
      simp only [Reps] at hr
      obtain ⟨v, vs', rfl, h2, h3⟩ := hr
      have hc := hrd 0 v rfl
      simp only [Addr.add, if_true] at hc
      refine ⟨v, ?_, h2⟩
      simp [loadVar, run_isAgg' hu', ha, load, Sem.run, hc]
theorem foldl_set (off : Nat) : ∀ (l : List Value) (cs : Array Value) (k : Nat), off + k + l.length ≤ cs.size →
    ((l.zipIdx k).foldl (fun cs (c, j) => cs.setIfInBounds (off + j) c) cs).toList = cs.toList.take (off + k) ++ l ++ cs.toList.drop (off + k + l.length)
  | [], cs, k, _ => by simp
  | x :: l, cs, k, h => by
    simp only [List.zipIdx_cons, List.foldl_cons]
    have hl : (x :: l).length = l.length + 1 := rfl
    rw [foldl_set off l _ (k + 1) (by simp; omega)]
    have e := list_seg_step cs.toList (off + k) x l (by simp at h ⊢; omega)
    simpa [Array.toList_setIfInBounds, Nat.add_assoc, Nat.add_comm 1 l.length] using e
theorem fill_step {place : Nat → Option (Nat × Nat)} {cells : Array Value} {i off n : Nat} {v : Value} {rest : List (Nat × Value)} (hp : place i = some (off, n)) (hn : v.cells.size = n) (hl : off + n ≤ cells.size) :
    ∃ cells', Instr.fill place cells ((i, v) :: rest) = Instr.fill place cells' rest ∧ cells'.toList = cells.toList.take off ++ v.cells.toList ++ cells.toList.drop (off + n) ∧ cells'.size = cells.size := by
  have h1 := foldl_set off v.cells.toList cells 0 (by simp; omega)
  have h2 : (v.cells.zipIdx.foldl (fun cs (c, j) => cs.setIfInBounds (off + j) c) cells) = ((v.cells.toList.zipIdx 0).foldl (fun cs (c, j) => cs.setIfInBounds (off + j) c) cells) := by
    rw [← Array.foldl_toList, Array.toList_zipIdx]
  refine ⟨v.cells.zipIdx.foldl (fun cs (c, j) => cs.setIfInBounds (off + j) c) cells, ?_, ?_, ?_⟩
  · simp only [Instr.fill, hp]
    rw [if_neg (by simp [hn]; omega)]
  · rw [h2, h1]
    simp [hn]
  · have h3 := congrArg List.length h1
    rw [h2, ← Array.length_toList, h3]
    simp only [List.length_append, List.length_take, List.length_drop, Array.length_toList, Nat.add_zero, hn]
    rw [Nat.min_eq_left (by omega)]
    omega
end
section
variable {P : Program} {φ : Nat → Option Nat} {w : World} {ok : Nat → Prop} {σ : Nat → AV} {a : Act}
theorem fillA_fill {place : Nat → Option (Nat × Nat)} : ∀ (parts : List (Nat × Operand)) (cs cs' : List AV) (cells : Array Value), (∀ p ∈ parts, Rep φ w ok (ev σ p.2) (a.eval p.2)) → fillA place σ parts cs = some cs' → Reps φ w ok cs cells.toList →
    ∃ cells', Instr.fill place cells (parts.map fun (i, x) => (i, a.eval x)) = some cells' ∧ Reps φ w ok cs' cells'.toList
  | [], cs, cs', cells, _, h, hr => by
    simp only [fillA, Option.some.injEq] at h
    subst h
    exact ⟨cells, rfl, hr⟩
  | (i, x) :: rest, cs, cs', cells, hev, h, hr => by
    simp only [fillA] at h
    split at h
    · rename_i off n vs hp hv
      split at h
      · rename_i hc
        obtain ⟨h1, h2⟩ := cellsOf_rep hv (hev (i, x) List.mem_cons_self)
        have hl := h1.length
        have hl2 := hr.length
        simp only [Array.length_toList] at hl hl2
        obtain ⟨cells2, e1, e2, e3⟩ := fill_step (rest := rest.map fun (i, x) => (i, a.eval x)) hp (show (a.eval x).cells.size = n by omega) (by omega : off + n ≤ cells.size)
        have hr2 : Reps φ w ok (setL cs off vs) cells2.toList := by
          rw [e2]
          unfold setL
          rw [hc.1]
          exact Reps.append (Reps.append (hr.take off) h1) (hr.drop (off + n))
        obtain ⟨cells', e4, e5⟩ := fillA_fill rest _ _ cells2 (fun p hp => hev p (List.mem_cons_of_mem _ hp)) h hr2
        exact ⟨cells', by rw [List.map_cons]; exact e1.trans e4, e5⟩
      · cases h
    · cases h
theorem zeroCells_rep {t : Nat} {cs : List AV} (h : zeroCells' P t = some cs) (W : World) (ok : Nat → Prop) : ∃ it z, P.info? t = some it ∧ it.zero = some z ∧ Reps φ W ok cs z.cells.toList ∧ ∀ u ∈ z.cells.toList, u.oneCell' = true := by
  unfold zeroCells' at h
  cases hi : P.info? t with
  | none => simp [hi] at h
  | some it =>
    cases hz : it.zero with
    | none => simp [hi, hz] at h
    | some z =>
      simp only [hi, hz, Option.bind_some] at h
      obtain ⟨h1, h2⟩ := cellsOf_rep h (absV_rep (φ := φ) W ok z)
      exact ⟨it, z, rfl, hz, h1, h2⟩
theorem build_run {t : Nat} {parts : Array (Nat × Operand)} {z : List AV} {pl : List (Nat × Nat)} {cs : List AV} (hz : zeroCells' P t = some z) (hp : placesOf P t = some pl) (hf : fillA (pl.toArray[·]?) σ parts.toList z = some cs)
    (hev : ∀ p ∈ parts.toList, Rep φ w ok (ev σ p.2) (a.eval p.2)) : ∃ v, (Instr.build t (parts.map fun (i, x) => (i, a.eval x))).run P w = .ok v w ∧ Rep φ w ok (.agg cs) v := by
  obtain ⟨it, zv, hi, hzz, hr, _⟩ := zeroCells_rep (φ := φ) hz w ok
  obtain ⟨cells, e1, e2⟩ := fillA_fill parts.toList z cs zv.cells hev hf hr
  refine ⟨.agg cells, run_build w t _ cells ?_, by simp only [Rep]; exact ⟨cells, rfl, e2⟩⟩
  unfold placesOf fieldsOf at hp
  unfold Program.built
  cases hu : P.underlying t with
  | none => simp [hu] at hp
  | some d =>
    cases d <;> try (simp [hu] at hp; done)
    case struct fs =>
      simp only [hu] at hp
      simp only [hi, hzz, hp]
      rw [Array.toList_map]
      exact e1
theorem partsOf_fill (n : Nat) : ∀ (parts : List (Nat × Operand)) (i : Nat) (l : List AV) (cells : Array Value), (∀ p ∈ parts, Rep φ w ok (ev σ p.2) (a.eval p.2)) → partsOf n σ i parts = some l → (i + parts.length) * n = cells.size →
    ∃ cells' vs, Instr.fill (fun i => some (i * n, n)) cells (parts.map fun (i, x) => (i, a.eval x)) = some cells' ∧ cells'.toList = cells.toList.take (i * n) ++ vs ∧ Reps φ w ok l vs ∧ (∀ u ∈ vs, u.oneCell' = true) ∧ vs.length = parts.length * n ∧ noPtrs l = true
  | [], i, l, cells, _, h, hs => by
    simp only [partsOf, Option.some.injEq] at h
    subst h
    refine ⟨cells, [], rfl, ?_, by simp [Reps], by simp, by simp, by simp [noPtrs]⟩
    rw [List.append_nil, List.take_of_length_le]
    simp at hs ⊢
    omega
  | (j, x) :: rest, i, l, cells, hev, h, hs => by
    simp only [partsOf] at h
    split at h
    · rename_i c l' hc hl'
      split at h
      · rename_i hcc
        obtain ⟨h1, h2, h3⟩ := hcc
        injection h with h
        subst h
        obtain ⟨g1, g2⟩ := cellsOf_rep hc (hev (j, x) List.mem_cons_self)
        subst h2
        have hl := g1.length
        simp only [Array.length_toList] at hl
        have hmul : (i + (rest.length + 1)) * n = i * n + n + rest.length * n := by rw [Nat.add_mul, Nat.add_mul]; omega
        simp only [List.length_cons] at hs
        obtain ⟨cells2, e1, e2, e3⟩ := fill_step (place := fun i => some (i * n, n)) (i := i) (rest := rest.map fun (i, x) => (i, a.eval x)) rfl (show (a.eval x).cells.size = n by omega) (by omega : i * n + n ≤ cells.size)
        have hmul2 : (i + 1 + rest.length) * n = i * n + n + rest.length * n := by rw [Nat.add_mul, Nat.add_mul]; omega
        obtain ⟨cells', vs, k1, k2, k3, k4, k5, k6⟩ := partsOf_fill n rest (i + 1) l' cells2 (fun p hp => hev p (List.mem_cons_of_mem _ hp)) hl' (by rw [e3]; omega)
        refine ⟨cells', (a.eval x).cells.toList ++ vs, by rw [List.map_cons]; exact e1.trans k1, ?_, Reps.append g1 k3, ?_, ?_, ?_⟩
        · have hmul3 : (i + 1) * n = i * n + n := by rw [Nat.add_mul]; omega
          rw [k2, e2, hmul3]
          have t1 : (cells.toList.take (i * n)).length = i * n := by rw [List.length_take]; simp; omega
          have t2 : ((a.eval x).cells.toList).length = n := by simp; omega
          rw [List.take_append_of_le_length (by rw [List.length_append, t1, t2]; exact Nat.le_refl _), List.take_of_length_le (by rw [List.length_append, t1, t2]; exact Nat.le_refl _), List.append_assoc]
        · intro u hu
          rcases List.mem_append.1 hu with hu | hu
          · exact g2 u hu
          · exact k4 u hu
        · simp only [List.length_append, List.length_cons, Array.length_toList, k5]
          rw [Nat.add_mul]; omega
        · have noPtrs_append : ∀ (p q : List AV), noPtrs p = true → noPtrs q = true → noPtrs (p ++ q) = true := by
            intro p
            induction p with
            | nil => intro q _ hq; simpa using hq
            | cons y p ih => intro q hp hq; simp only [List.cons_append, noPtrs, Bool.and_eq_true] at hp ⊢; exact ⟨hp.1, ih q hp.2 hq⟩
          exact noPtrs_append _ _ h3 k6
      · cases h
    · cases h
theorem asInts_vals {k : IntKind} : ∀ {l : List AV} {is : List Int} {vs : List Value}, asInts k l = some is → Reps φ w ok l vs → vs = is.map (Value.int k)
  | [], is, vs, h, hr => by
    simp only [asInts, Option.some.injEq] at h
    subst h
    simpa [Reps] using hr
  | x :: l, is, vs, h, hr => by
    simp only [Reps] at hr
    obtain ⟨v, vs', rfl, h2, h3⟩ := hr
    cases x <;> simp only [asInts] at h <;> try (cases h; done)
    rename_i k' n
    split at h
    · rename_i hk
      subst hk
      split at h
      · rename_i is' his
        injection h with h
        subst h
        rw [asInts_vals his h3]
        simp only [Rep] at h2
        subst h2
        rfl
      · cases h
    · cases h
end
def Trip (P : Program) (N new : Nat) (σ : Nat → AV) (o : Oper) (e : Eff) : Prop :=
  ∀ {B : Nat} {P0 : Nat → Prop} {w0 w : World} {fresh : Nat → Prop} {φ : Nat → Option Nat} {a : Act} (σ' : Nat → AV), (∀ t, Operand.tmp t ∈ o.op.operands → σ' (2 * t) = σ (2 * t)) → (∀ h ∈ e.rd, σ' (2 * h + 1) = σ (2 * h + 1)) →
    St N B P0 w0 fresh σ' φ a w → fresh new → (∀ d, o.dst = some d → d < N) → ∀ (next : Act → World → Prop) (Q : Exit → Act → World → Prop),
    (∀ φ' v w', St N B P0 w0 (fun k => fresh k ∧ k ≠ new) (put σ' o.dst e) φ' (a.put o.dst v) w' → next (a.put o.dst v) w') → o.wp P a w next Q
section
variable {P : Program} {N new : Nat} {σ : Nat → AV} {o : Oper}
theorem ev_agree {σ' : Nat → AV} {x : Operand} (h : ∀ t, Operand.tmp t ∈ o.op.operands → σ' (2 * t) = σ (2 * t)) (hx : x ∈ o.op.operands) : ev σ' x = ev σ x := by
  cases x with
  | tmp t => exact h t hx
  | _ => rfl
theorem trip_w {x : AV} (h : ∀ {B : Nat} {P0 : Nat → Prop} {w : World} {φ : Nat → Option Nat} {a : Act}, (∀ y ∈ o.op.operands, Rep φ w (Ok B P0 φ) (ev σ y) (a.eval y)) → B ≤ w.heap.size → (∀ h b, φ h = some b → b < w.heap.size) →
    ∃ v w', (execOp a.eval o).run P w = .ok (.value v) w' ∧ Below w.heap.size w w' ∧ Rep φ w' (Ok B P0 φ) x v) : Trip P N new σ o (val x) := by
  intro B P0 w0 w fresh φ a σ' h1 h2 hs hf hd next Q hk
  obtain ⟨v, w', hr, hb, hv⟩ := h (fun y hy => by rw [← ev_agree h1 hy]; exact hs.ev y) hs.base (fun h b hh => (hs.own h b hh).2)
  refine wp_value hr (hk φ v w' ?_)
  have hs2 := hs.world (w' := w') (hb.mono hs.base) hb.size (fun k hk => hb.block k hk)
  exact St.less (St.put hs2 hd (fun _ _ => hv)) (fun k (hk : fresh k ∧ k ≠ new) => hk.1)
theorem trip_p {x : AV} (h : ∀ {w : World} {ok : Nat → Prop} {φ : Nat → Option Nat} {a : Act}, (∀ y ∈ o.op.operands, Rep φ w ok (ev σ y) (a.eval y)) →
    ∃ v, (execOp a.eval o).run P w = .ok (.value v) w ∧ Rep φ w ok x v) : Trip P N new σ o (val x) :=
  trip_w fun hy _ _ => by
    obtain ⟨v, h1, h2⟩ := h hy
    exact ⟨v, _, h1, Below.refl _ _, h2⟩
theorem run_v {s : Sem Value} {v : Value} {w w' : World} (h : s.run P w = .ok v w') : ((do pure (Next.value (← s))) : Sem Next).run P w = .ok (.value v) w' := by
  simp [h]
theorem trip_move {x : Operand} (ho : o.op = .move x ∨ o.op = .assign x) : Trip P N new σ o (val (ev σ x)) :=
  trip_p fun {w ok φ a} hy => ⟨a.eval x, by rcases ho with ho | ho <;> simp [execOp, ho], hy x (by rcases ho with ho | ho <;> simp [ho, Op.operands])⟩
theorem trip_pick {c x y : Operand} {t : Bool} (ho : o.op = .pick c x y) (hc : ev σ c = .bool t) : Trip P N new σ o (val (if t = true then ev σ x else ev σ y)) :=
  trip_p fun {w ok φ a} hy => by
    have h1 := hy c (by simp [ho, Op.operands])
    rw [hc] at h1
    simp only [Rep] at h1
    have h2 := hy x (by simp [ho, Op.operands])
    have h3 := hy y (by simp [ho, Op.operands])
    refine ⟨if t then a.eval x else a.eval y, by simp [execOp, ho, h1, asBool], ?_⟩
    cases t
    · simpa using h3
    · simpa using h2
theorem trip_build {t : Nat} {parts : Array (Nat × Operand)} {z : List AV} {pl : List (Nat × Nat)} {cs : List AV} (ho : o.op = .build t parts) (hz : zeroCells' P t = some z) (hp : placesOf P t = some pl) (hf : fillA (pl.toArray[·]?) σ parts.toList z = some cs) : Trip P N new σ o (val (.agg cs)) :=
  trip_p fun {w ok φ a} hy => by
    have hev : ∀ p ∈ parts.toList, Rep φ w ok (ev σ p.2) (a.eval p.2) := fun p hp => hy p.2 (by simp only [ho, Op.operands]; simp; exact ⟨p.1, by simpa using hp⟩)
    obtain ⟨v, h1, h2⟩ := build_run hz hp hf hev
    exact ⟨v, by simp [execOp, ho, h1], h2⟩
theorem trip_load_at {t : Nat} {x : Operand} {cs : List AV} {v : AV} (ho : o.op = .load t x) (hx : ev σ x = .at_ cs) (hl : loadA P t cs = some v) : Trip P N new σ o (val v) :=
  trip_p fun {w ok φ a} hy => by
    have h1 := hy x (by simp [ho, Op.operands])
    rw [hx] at h1
    simp only [Rep] at h1
    obtain ⟨ad, vs, e1, e2, e3, e4⟩ := h1
    obtain ⟨u, k1, k2⟩ := loadVar_run hl e4 e3.now
    exact ⟨u, by simp [execOp, ho, e1, Instr.loadAt, Instr.sureAddr, k1], k2⟩
def toV : AV → Value
  | .int k n => .int k n
  | .bool b => .bool b
  | .str s => .string s
  | _ => undef
theorem binI_run {op : BinOp} {k : IntKind} {x y : Int} {R : Type} {K : AV → Option R} {r : R} (h : binI op k x y K = some r) (hop : op ≠ .shl ∧ op ≠ .shr) :
    ∃ v, K v = some r ∧ (∀ (w : World) (φ : Nat → Option Nat) (ok : Nat → Prop), Rep φ w ok v (toV v)) ∧ ∀ (w : World) (t : Nat), (Go.binOp op t (.int k x) (.int k y)).run P w = .ok (toV v) w := by
  obtain ⟨n1, n2⟩ := hop
  cases op <;> simp only [binI, bitsA] at h <;> (try (exact absurd rfl n1)) <;> (try (exact absurd rfl n2)) <;> (try (split at h; · cases h)) <;> (try cases h; done) <;>
    (refine ⟨_, h, fun w φ ok => ?_, fun w t => ?_⟩ <;> first
      | (unfold Rep; rfl)
      | (simp [toV, Go.binOp, Op.intArith, Op.intCmp, Op.intBits, Op.intDiv]; done)
      | (simp [toV, Go.binOp, Op.intArith, Op.intCmp, Op.intBits, Op.intDiv, *]; done))
theorem eqGuard_run {op : BinOp} {t : Nat} {x y : Operand} {u v : Value} (hu : ∃ k n, u = .int k n ∨ ∃ b, u = .bool b ∨ ∃ s, u = .string s) (w : World) : (eqGuard op t x y u v).run P w = .ok () w := by
  obtain ⟨k, n, rfl | ⟨b, rfl | ⟨s, rfl⟩⟩⟩ := hu <;> (unfold eqGuard; cases op <;> simp)
theorem binA_run {op : BinOp} {t : Nat} {x y : AV} {R : Type} {K : AV → Option R} {r : R} (h : binA P op t x y K = some r) : ∃ v, K v = some r ∧ (∀ (w : World) (φ : Nat → Option Nat) (ok : Nat → Prop), Rep φ w ok v (toV v)) ∧
    ∀ (w : World) (φ : Nat → Option Nat) (ok : Nat → Prop) (X Y : Operand) (u1 u2 : Value), Rep φ w ok x u1 → Rep φ w ok y u2 → (do eqGuard op t X Y u1 u2; Go.binOp op t u1 u2 : Sem Value).run P w = .ok (toV v) w := by
  cases x <;> cases y <;> simp only [binA] at h <;> try (cases h; done)
  · split at h
    · rename_i ht
      refine ⟨_, h, fun w φ ok => by unfold Rep; rfl, fun w φ ok X Y u1 u2 h1 h2 => ?_⟩
      simp only [Rep] at h1 h2
      subst h1 h2
      simp [eqGuard_run ⟨.i64, 0, .inr ⟨_, .inl rfl⟩⟩, Go.binOp, run_equal_bool _ _ _ _ ht, toV]
    · rename_i ht
      refine ⟨_, h, fun w φ ok => by unfold Rep; rfl, fun w φ ok X Y u1 u2 h1 h2 => ?_⟩
      simp only [Rep] at h1 h2
      subst h1 h2
      simp [eqGuard_run ⟨.i64, 0, .inr ⟨_, .inl rfl⟩⟩, Go.binOp, run_equal_bool _ _ _ _ ht, toV]
    · cases h
  · rename_i k a k' b
    split at h
    · split at h
      · cases h
      · rename_i hb
        refine ⟨_, h, fun w φ ok => by unfold Rep; rfl, fun w φ ok X Y u1 u2 h1 h2 => ?_⟩
        simp only [Rep] at h1 h2
        subst h1 h2
        simp [eqGuard_run ⟨_, _, .inl rfl⟩, Go.binOp, Op.shift, hb, toV]
    · split at h
      · cases h
      · rename_i hb
        refine ⟨_, h, fun w φ ok => by unfold Rep; rfl, fun w φ ok X Y u1 u2 h1 h2 => ?_⟩
        simp only [Rep] at h1 h2
        subst h1 h2
        simp [eqGuard_run ⟨_, _, .inl rfl⟩, Go.binOp, Op.shift, hb, toV]
    · split at h
      · rename_i n1 n2 hk
        subst hk
        obtain ⟨v, e1, e2, e3⟩ := binI_run (P := P) h ⟨n1, n2⟩
        refine ⟨v, e1, e2, fun w φ ok X Y u1 u2 h1 h2 => ?_⟩
        simp only [Rep] at h1 h2
        subst h1 h2
        simp [eqGuard_run ⟨_, _, .inl rfl⟩, e3]
      · cases h
  · split at h
    · refine ⟨_, h, fun w φ ok => by unfold Rep; rfl, fun w φ ok X Y u1 u2 h1 h2 => ?_⟩
      simp only [Rep] at h1 h2
      subst h1 h2
      simp [eqGuard_run ⟨.i64, 0, .inr ⟨true, .inr ⟨_, rfl⟩⟩⟩, Go.binOp, Op.stringOp, toV]
    · refine ⟨_, h, fun w φ ok => by unfold Rep; rfl, fun w φ ok X Y u1 u2 h1 h2 => ?_⟩
      simp only [Rep] at h1 h2
      subst h1 h2
      simp [eqGuard_run ⟨.i64, 0, .inr ⟨true, .inr ⟨_, rfl⟩⟩⟩, Go.binOp, Op.stringOp, toV]
    · split at h
      · rename_i hle
        refine ⟨_, h, fun w φ ok => by unfold Rep; rfl, fun w φ ok X Y u1 u2 h1 h2 => ?_⟩
        simp only [Rep] at h1 h2
        subst h1 h2
        have hi : IntKind.i64.max = 9223372036854775807 := rfl
        simp [eqGuard_run ⟨.i64, 0, .inr ⟨true, .inr ⟨_, rfl⟩⟩⟩, Go.binOp, Op.stringOp, toV, hi]
        omega
      · cases h
    · cases h
theorem trip_binA {op : BinOp} {t yt : Nat} {x y : Operand} {R : Type} {K : Eff → Option R} {r : R} (ho : o.op = .binOp op t x y yt) (h : binA P op t (ev σ x) (ev σ y) (fun v => K (val v)) = some r) : ∃ e, Trip P N new σ o e ∧ K e = some r := by
  obtain ⟨v, h1, h2, h3⟩ := binA_run h
  refine ⟨val v, trip_p fun {w ok φ a} hy => ⟨toV v, ?_, h2 _ _ _⟩, h1⟩
  have := h3 w φ ok x y _ _ (hy x (by simp [ho, Op.operands])) (hy y (by simp [ho, Op.operands]))
  simp only [execOp, ho]
  exact run_v this
end
section
variable {P : Program} {N new : Nat} {σ : Nat → AV} {o : Oper}
theorem trip_un {op : UnOp} {t : Nat} {x : Operand} {v : AV} (ho : o.op = .unOp op t x) (h : unA op (ev σ x) = some v) : Trip P N new σ o (val v) :=
  trip_p fun {w ok φ a} hy => by
    have h1 := hy x (by simp [ho, Op.operands])
    generalize ev σ x = X at h h1
    cases op <;> cases X <;> simp only [unA] at h <;> try (cases h; done)
    all_goals
      refine ⟨toV v, ?_, ?_⟩
      all_goals
        injection h with h
        subst h
        simp only [Rep] at h1
    all_goals first
      | (simp only [Rep, toV]; done)
      | (simp only [execOp, ho, h1]; exact run_v (by simp [Op.unary, Op.intArith, toV]; done))
theorem trip_convert {s d k : Nat} {k1 k2 k3 : IntKind} {x : Operand} {n : Int} (ho : o.op = .convert s d x) (hs : P.underlying s = some (.int k1)) (hd : P.underlying d = some (.int k2)) (hx : ev σ x = .int k3 n) : Trip P N new σ o (val (.int k2 (k2.wrap n))) :=
  trip_p fun {w ok φ a} hy => by
    have h1 := hy x (by simp [ho, Op.operands])
    rw [hx] at h1
    simp only [Rep] at h1
    exact ⟨.int k2 (k2.wrap n), by simp only [execOp, ho, h1]; exact run_v (by simp [Go.convert, run_underlying hs, run_underlying hd, Conv.intToInt]), by simp only [Rep]⟩
theorem field_info {s f off n : Nat} (h : fieldAt' P s f = some (off, n)) : ∃ fs fd, P.underlying s = some (.struct fs) ∧ fs[f]? = some fd ∧ fd.offset = off ∧ sz P fd.type = some n ∧ n ≠ 0 := by
  unfold fieldAt' fieldsOf at h
  cases hu : P.underlying s with
  | none => simp [hu] at h
  | some d =>
    cases d <;> try (simp [hu] at h; done)
    case struct fs =>
      simp only [hu] at h
      split at h
      · rename_i fd hfd
        split at h
        · rename_i m hm
          split at h
          · cases h
          · rename_i hn
            injection h with h
            injection h with h3 h4
            subst h4
            exact ⟨fs, fd, rfl, hfd, h3, hm, hn⟩
        · cases h
      · cases h
theorem fieldAt_run {s f off n : Nat} (h : fieldAt' P s f = some (off, n)) (ad : Addr) (w : World) : (Instr.fieldAt s (.pointer (some ad)) f).run P w = .ok (.pointer (some (ad.add off))) w := by
  obtain ⟨fs, fd, h1, h2, h3, h4, h5⟩ := field_info h
  simp [Instr.fieldAt, run_underlying h1, h2, Instr.sureAddr, fieldPlace, run_sizeOf' h4, h5, h3]
theorem add_add (ad : Addr) (hs : ad.spot = none) (m n : Nat) : (ad.add m).add n = ad.add (m + n) := by
  obtain ⟨b, f, s⟩ := ad
  simp only at hs
  subst hs
  unfold Addr.add
  split <;> split <;> split <;> first | omega | (simp_all [Nat.add_assoc])
theorem add_spot (ad : Addr) (hs : ad.spot = none) (m : Nat) : (ad.add m).spot = none := by
  unfold Addr.add
  split
  · exact hs
  · rfl
theorem reads_drop {ad : Addr} (hs : ad.spot = none) {vs : List Value} {W : World} (m : Nat) (h : Reads ad vs W) : Reads (ad.add m) (vs.drop m) W := fun i u hu => by
  rw [add_add ad hs]
  exact h _ u (by rwa [List.getElem?_drop] at hu)
theorem trip_fieldAddr {s f off n : Nat} {x : Operand} (ho : o.op = .fieldAddr s x f) (hf : fieldAt' P s f = some (off, n)) {h ofs : Nat} (hx : ev σ x = .ptr h ofs) : Trip P N new σ o (val (.ptr h (ofs + off))) :=
  trip_p fun {w ok φ a} hy => by
    have h1 := hy x (by simp [ho, Op.operands])
    rw [hx] at h1
    simp only [Rep] at h1
    obtain ⟨b, e1, e2⟩ := h1
    refine ⟨_, by simp only [execOp, ho, e2]; exact run_v (fieldAt_run hf _ w), ?_⟩
    simp only [Rep]
    refine ⟨b, e1, ?_⟩
    unfold Addr.add
    split
    · rename_i h0; simp [h0]
    · rfl
theorem trip_fieldAt {s f off n : Nat} {x : Operand} (ho : o.op = .fieldAddr s x f) (hf : fieldAt' P s f = some (off, n)) {cs : List AV} (hx : ev σ x = .at_ cs) : Trip P N new σ o (val (.at_ (cs.drop off))) :=
  trip_p fun {w ok φ a} hy => by
    have h1 := hy x (by simp [ho, Op.operands])
    rw [hx] at h1
    simp only [Rep] at h1
    obtain ⟨ad, vs, e1, e2, e3, e4⟩ := h1
    refine ⟨_, by simp only [execOp, ho, e1]; exact run_v (fieldAt_run hf _ w), ?_⟩
    simp only [Rep]
    exact ⟨_, vs.drop off, rfl, add_spot ad e2 off, e3.imp fun W' hW => reads_drop e2 off hW, e4.drop off⟩
theorem indexAt_run {t e n len c : Nat} {k : IntKind} {i : Int} {ad : Addr} (hu : P.underlying t = some (.slice e)) (hs : sz P e = some n) (h0 : 0 ≤ i) (h1 : i < len) (w : World) :
    (Instr.indexAt t (.slice (some ad) len c) (.int k i)).run P w = .ok (.pointer (some (ad.add (i.toNat * n)))) w := by
  simp [Instr.indexAt, run_underlying hu, asIntOf, h0, h1, run_sizeOf' hs]
theorem row_at {φ : Nat → Option Nat} {w : World} {ok : Nat → Prop} {k : IntKind} {l : List Int} {A : Option Addr} (h : Kd.F (Kd.int k) w ok A l.length l) {i : Int} (h0 : 0 ≤ i) (h1 : i < l.length) :
    ∃ ad, A = some ad ∧ Rep φ w ok (.at_ [.int k (l.getD i.toNat 0)]) (.pointer (some (ad.add (i.toNat * 1)))) := by
  obtain ⟨ad, hA, hc⟩ := (h.now).2.2 (by omega)
  have hcell : ∀ W', Kd.C (Kd.int k) W' A l.length l → ∀ j, j < l.length → W'.cell? (ad.add j) = some (.int k (l.getD j 0)) := by
    intro W' hC j hj
    obtain ⟨ad', hA', hc'⟩ := hC.2.2 (by omega)
    rw [hA] at hA'
    injection hA' with hA'
    subst hA'
    obtain ⟨c, hcl, hK, hcc⟩ := hc' j _ (List.getElem?_eq_getElem hj)
    have hK' : c = [Value.int k l[j]] := hK
    subst hK'
    have := hcc 0 _ rfl
    simp only [Kd.int, Kd.scalar, Nat.mul_one, Nat.add_zero] at this
    rw [this]
    simp [List.getD, List.getElem?_eq_getElem hj]
  have hsp : ad.spot = none := by
    have := hcell w h.now 0 (by omega)
    simp only [Addr.add, if_true] at this
    unfold World.cell? at this
    split at this
    · split at this
      · cases this
      · rename_i hs; cases hh : ad.spot <;> simp_all
    · cases this
  refine ⟨ad, hA, ?_⟩
  simp only [Rep, Reps, Nat.mul_one]
  refine ⟨_, [.int k (l.getD i.toNat 0)], rfl, add_spot ad hsp _, Foot.imp h fun W' hC j u hu => ?_, _, [], rfl, rfl, rfl⟩
  cases j with
  | zero =>
    simp only [List.getElem?_cons_zero, Option.some.injEq] at hu
    subst hu
    simp only [Addr.add, if_true]
    exact hcell W' hC i.toNat (by omega)
  | succ j => simp at hu
theorem trip_indexRow {t e : Nat} {k : IntKind} {l : List Int} {x i : Operand} {R : Type} {K : AV → Option R} {r : R} (ho : o.op = .indexAddr t x i) (hu : P.underlying t = some (.slice e)) (hs : sz P e = some 1) (hx : ev σ x = .row k l) (h : indexA (.row k l) (ev σ i) K = some r) :
    ∃ v, Trip P N new σ o (val v) ∧ K v = some r := by
  unfold indexA at h
  split at h
  · rename_i k' l' kk n e1 e2
    injection e1 with e1 e1'
    subst e1 e1'
    split at h
    · rename_i hb
      refine ⟨_, trip_p fun {w ok φ a} hy => ?_, h⟩
      have h1 := hy x (by simp [ho, Op.operands])
      have h2 := hy i (by simp [ho, Op.operands])
      rw [hx] at h1
      rw [e2] at h2
      simp only [Rep] at h1 h2
      obtain ⟨A, c, f1, f2, f3⟩ := h1
      obtain ⟨ad, rfl, hr⟩ := row_at f3 hb.1 hb.2
      exact ⟨_, by simp only [execOp, ho, f1, h2]; exact run_v (indexAt_run hu hs hb.1 hb.2 w), hr⟩
    · cases h
  · rename_i e1 _; cases e1
  · cases h
theorem trip_indexArr {t e n : Nat} {l : List AV} {x i : Operand} {R : Type} {K : AV → Option R} {r : R} (ho : o.op = .indexAddr t x i) (hu : P.underlying t = some (.slice e)) (hs : sz P e = some n) (hx : ev σ x = .arr n l) (h : indexA (.arr n l) (ev σ i) K = some r) :
    ∃ v, Trip P N new σ o (val v) ∧ K v = some r := by
  unfold indexA at h
  split at h
  · rename_i e1 _; cases e1
  · rename_i s' l' kk j e1 e2
    injection e1 with e1 e1'
    subst e1 e1'
    split at h
    · rename_i hb
      obtain ⟨hb0, hb1, hb2⟩ := hb
      refine ⟨_, trip_p fun {w ok φ a} hy => ?_, h⟩
      have h1 := hy x (by simp [ho, Op.operands])
      have h2 := hy i (by simp [ho, Op.operands])
      rw [hx] at h1
      rw [e2] at h2
      simp only [Rep] at h1 h2
      obtain ⟨ad, m, c, vs, f1, f2, f3, f4, f5, f6⟩ := h1
      have hjm : j < m := by
        have : (j + 1) * n ≤ (m : Int) * n := by rw [← Int.natCast_mul, f3]; exact hb2
        have := Int.le_of_mul_le_mul_right this (by omega : (0 : Int) < n)
        omega
      have hlen := f6.length
      have hsp : ad.spot = none := by
        have h3 := f5.now 0 _ (List.getElem?_eq_getElem (by
          rw [hlen, ← f3]
          exact Nat.mul_pos (by omega) hb0))
        simp only [Addr.add, if_true] at h3
        unfold World.cell? at h3
        split at h3
        · split at h3
          · cases h3
          · rename_i hs; cases hh : ad.spot <;> simp_all
        · cases h3
      refine ⟨_, by simp only [execOp, ho, f1, h2]; exact run_v (indexAt_run hu hs hb1 hjm w), ?_⟩
      simp only [Rep]
      refine ⟨_, (vs.drop (j.toNat * n)).take n, rfl, add_spot ad hsp _, Foot.imp f5 fun W' hW q u hq => ?_, (f6.drop _).take _⟩
      rw [List.getElem?_take] at hq
      split at hq
      · exact reads_drop hsp _ hW q u hq
      · cases hq
    · cases h
  · cases h
theorem trip_index {t : Nat} {x i : Operand} {s : ByteArray} {k : IntKind} {n : Int} (ho : o.op = .index t x i) (hu : P.underlying t = some .string) (hx : ev σ x = .str s) (hi : ev σ i = .int k n) (h0 : 0 ≤ n) (h1 : n < s.size) :
    Trip P N new σ o (val (.int .u8 ((s.data.getD n.toNat 0).toNat))) :=
  trip_p fun {w ok φ a} hy => by
    have h2 := hy x (by simp [ho, Op.operands])
    have h3 := hy i (by simp [ho, Op.operands])
    rw [hx] at h2
    rw [hi] at h3
    simp only [Rep] at h2 h3
    have hlt : n.toNat < s.size := by omega
    have hg : s[n.toNat]? = some (s.data.getD n.toNat 0) := by
      rw [getElem?_pos s n.toNat hlt]
      have : s.data.size = s.size := rfl
      simp [Array.getD, this, hlt]
      rfl
    refine ⟨.int .u8 ((s.data.getD n.toNat 0).toNat), ?_, by simp only [Rep]⟩
    simp only [execOp, ho, h2, h3]
    refine run_v ?_
    simp [Instr.index, asIntOf, run_underlying hu, h0, hg]
theorem trip_extract {x : Operand} {i : Nat} {l : List AV} {v : AV} (ho : o.op = .extract x i) (hx : ev σ x = .tup l) (hl : l[i]? = some v) : Trip P N new σ o (val v) :=
  trip_p fun {w ok φ a} hy => by
    have h1 := hy x (by simp [ho, Op.operands])
    rw [hx] at h1
    simp only [Rep] at h1
    obtain ⟨cs, e1, e2⟩ := h1
    obtain ⟨u, k1, k2⟩ := e2.get i hl
    refine ⟨u, ?_, k2⟩
    simp only [execOp, ho, e1]
    refine run_v ?_
    have : cs[i]? = some u := by simpa using k1
    simp [Instr.extract, this]
theorem part_run {t off : Nat} {cs : List AV} {x : AV} {cells : Array Value} {φ : Nat → Option Nat} {w : World} {ok : Nat → Prop} (h : loadA P t (cs.drop off) = some x) (hr : Reps φ w ok cs cells.toList) : ∃ v, (part t cells off).run P w = .ok v w ∧ Rep φ w ok x v := by
  have hd := hr.drop off
  unfold loadA at h
  split at h
  · cases h
  rename_i hu
  have hu' : (P.underlying t).isNone = false := by revert hu; cases P.underlying t <;> simp
  split at h
  · rename_i ha
    split at h
    · rename_i n hn
      split at h
      · injection h with h
        subst h
        refine ⟨.agg (cells.extract off (off + n)), ?_, ?_⟩
        · simp [part, run_isAgg' hu', ha, run_sizeOf' hn]
        · simp only [Rep]
          refine ⟨_, rfl, ?_⟩
          have := hd.take n
          simpa [Array.toList_extract] using this
      · cases h
    · cases h
  · rename_i ha
    cases hc : cs.drop off with
    | nil => rw [hc] at h; simp at h
    | cons y l =>
      rw [hc] at h hd
      simp at h
      subst h
      simp only [Reps] at hd
      obtain ⟨v, vs', e, h2, h3⟩ := hd
      have hv : cells[off]? = some v := by
        have := congrArg (·[0]?) e
        simpa using this
      exact ⟨v, by simp [part, run_isAgg' hu', ha, hv], h2⟩
theorem trip_field {s f : Nat} {x : Operand} {fs : Array Field} {fd : Field} {cs : List AV} {v : AV} (ho : o.op = .field s x f) (hf : fieldsOf P s = some fs) (hfd : fs[f]? = some fd) (hx : ev σ x = .agg cs) (hl : loadA P fd.type (cs.drop fd.offset) = some v) : Trip P N new σ o (val v) :=
  trip_p fun {w ok φ a} hy => by
    have h1 := hy x (by simp [ho, Op.operands])
    rw [hx] at h1
    simp only [Rep] at h1
    obtain ⟨cells, e1, e2⟩ := h1
    obtain ⟨u, k1, k2⟩ := part_run hl e2
    have hu : P.underlying s = some (.struct fs) := by
      unfold fieldsOf at hf
      split at hf
      · rename_i gs hg
        injection hf with hf
        subst hf
        exact hg
      · cases hf
    refine ⟨u, ?_, k2⟩
    simp [execOp, ho, Instr.field, run_underlying hu, e1, asAgg, hfd, k1]
end
def PureC (P : Program) (f : Nat) (xs : List AV) (r : AV) : Prop :=
  ∀ (w : World) (P0 : Nat → Prop) (vs : Array Value), Reps (fun _ => none) w P0 xs vs.toList →
    Calls P f vs w fun e w' => ∃ v, e = .returned v ∧ Below w.heap.size w w' ∧ Rep (fun _ => none) w' (fun k => P0 k ∨ w.heap.size ≤ k) r v
def callable (P : Program) (g : Nat) : Bool :=
  match P.funcs[g]? with
  | some fn => !(fn.name == "runtime.NumGoroutine") && fn.body.isSome
  | none => false
def FunOk (P : Program) (g : Nat) (F : Fun) : Prop := callable P g = true ∧ (∀ (R : Type) xs (K : AV → Option R), F R xs K = (F AV xs some).bind K) ∧ ∀ xs x, F AV xs some = some x → PureC P g xs x
theorem FunOk.at_ {P : Program} {g : Nat} {F : Fun} (h : FunOk P g F) {R : Type} {xs : List AV} {K : AV → Option R} {r : R} (hr : F R xs K = some r) : ∃ x, PureC P g xs x ∧ K x = some r := by
  rw [h.2.1] at hr
  obtain ⟨x, h1, h2⟩ := Option.bind_eq_some_iff.1 hr
  exact ⟨x, h.2.2 _ _ h1, h2⟩
def TOk (P : Program) (T : Tab) : Prop := ∀ g F, T g = some F → FunOk P g F
section
variable {P : Program} {N new : Nat} {σ : Nat → AV} {o : Oper}
theorem lenA_rep {φ : Nat → Option Nat} {w : World} {ok : Nat → Prop} {x v : AV} {u : Value} (h : lenA x = some v) (hn : ∀ s, x ≠ .str s) (hr : Rep φ w ok x u) : ∃ A n c, u = .slice A n c ∧ v = .int .i64 (n : Nat) := by
  cases x <;> simp only [lenA] at h <;> try (cases h; done)
  · exact absurd rfl (hn _)
  · injection h with h
    subst h
    simp only [Rep] at hr
    exact ⟨none, 0, 0, hr, rfl⟩
  · injection h with h
    subst h
    simp only [Rep] at hr
    obtain ⟨A, c, e1, _⟩ := hr
    exact ⟨A, _, c, e1, rfl⟩
  · split at h
    · cases h
    · rename_i hs
      injection h with h
      subst h
      simp only [Rep] at hr
      obtain ⟨a, n, c, vs, e1, _, e3, _⟩ := hr
      refine ⟨some a, n, c, e1, ?_⟩
      rw [← e3, Nat.mul_div_cancel _ (by omega)]
theorem trip_len {c : Call} {x : Operand} {t e : Nat} {v : AV} (ho : o.op = .call c) (hc : c.callee = .builtin .len) (ha : c.args = #[x]) (ht : c.argTypes[0]? = some t) (hu : P.underlying t = some (.slice e)) (hl : lenA (ev σ x) = some v) (hn : ∀ s, ev σ x ≠ .str s) : Trip P N new σ o (val v) :=
  trip_p fun {w ok φ a} hy => by
    have h1 := hy x (by simp [ho, Op.operands, Call.operands, hc, ha])
    obtain ⟨A, n, cc, e1, rfl⟩ := lenA_rep hl hn h1
    refine ⟨.int .i64 (n : Nat), ?_, by simp only [Rep]⟩
    simp [execOp, ho, resolve, hc, ha, invoke, builtin, e1, Builtin.len_, ht, run_underlying hu, goInt]
theorem trip_lenS {c : Call} {x : Operand} {t : Nat} {s : ByteArray} (ho : o.op = .call c) (hc : c.callee = .builtin .len) (ha : c.args = #[x]) (ht : c.argTypes[0]? = some t) (hu : P.underlying t = some .string) (hx : ev σ x = .str s) : Trip P N new σ o (val (.int .i64 (s.size : Nat))) :=
  trip_p fun {w ok φ a} hy => by
    have h1 := hy x (by simp [ho, Op.operands, Call.operands, hc, ha])
    rw [hx] at h1
    simp only [Rep] at h1
    refine ⟨.int .i64 (s.size : Nat), ?_, by simp only [Rep]⟩
    simp [execOp, ho, resolve, hc, ha, invoke, builtin, h1, Builtin.len_, ht, run_underlying hu, goInt]
theorem trip_max {c : Call} {x y : Operand} {k k' : IntKind} {m n : Int} (ho : o.op = .call c) (hc : c.callee = .builtin .max) (ha : c.args = #[x, y]) (hx : ev σ x = .int k m) (hy' : ev σ y = .int k' n) : Trip P N new σ o (val (.int k (if n > m then n else m))) :=
  trip_p fun {w ok φ a} hy => by
    have h1 := hy x (by simp [ho, Op.operands, Call.operands, hc, ha])
    have h2 := hy y (by simp [ho, Op.operands, Call.operands, hc, ha])
    rw [hx] at h1
    rw [hy'] at h2
    simp only [Rep] at h1 h2
    refine ⟨.int k (if n > m then n else m), ?_, by simp only [Rep]⟩
    simp [execOp, ho, resolve, hc, ha, invoke, builtin, h1, h2, Builtin.max_, Builtin.max2]
theorem trip_min {c : Call} {x y : Operand} {k k' : IntKind} {m n : Int} (ho : o.op = .call c) (hc : c.callee = .builtin .min) (ha : c.args = #[x, y]) (hx : ev σ x = .int k m) (hy' : ev σ y = .int k' n) : Trip P N new σ o (val (.int k (if n < m then n else m))) :=
  trip_p fun {w ok φ a} hy => by
    have h1 := hy x (by simp [ho, Op.operands, Call.operands, hc, ha])
    have h2 := hy y (by simp [ho, Op.operands, Call.operands, hc, ha])
    rw [hx] at h1
    rw [hy'] at h2
    simp only [Rep] at h1 h2
    refine ⟨.int k (if n < m then n else m), ?_, by simp only [Rep]⟩
    simp [execOp, ho, resolve, hc, ha, invoke, builtin, h1, h2, Builtin.min_, Builtin.min2]
theorem trip_call {c : Call} {f : Operand} {g : Nat} {x : AV} (ho : o.op = .call c) (hc : c.callee = .value f) (hf : ev σ f = .fn g) (hcl : callable P g = true) (hn : noPtrs (c.args.toList.map (ev σ)) = true) (hP : PureC P g (c.args.toList.map (ev σ)) x) : Trip P N new σ o (val x) := by
  intro B P0 w0 w fresh φ a σ' h1 h2 hs hfr hd next Q hk
  have hmem : ∀ y ∈ c.args.toList, y ∈ o.op.operands := fun y hy => by simp [ho, Op.operands, Call.operands, hc]; right; simpa using hy
  have hf1 := hs.ev f
  rw [ev_agree h1 (by simp [ho, Op.operands, Call.operands, hc]), hf] at hf1
  simp only [Rep] at hf1
  have hargs : ∀ (l : List Operand), (∀ y ∈ l, y ∈ o.op.operands) → Reps φ w (Ok B P0 φ) (l.map (ev σ)) (l.map a.eval) := by
    intro l
    induction l with
    | nil => intro _; simp [Reps]
    | cons y l ih =>
      intro hy
      simp only [List.map_cons, Reps]
      have := hs.ev y
      rw [ev_agree h1 (hy y List.mem_cons_self)] at this
      exact ⟨_, _, rfl, this, ih fun z hz => hy z (List.mem_cons_of_mem _ hz)⟩
  have hR := Reps.free (φ' := fun _ => none) _ hn (hargs c.args.toList hmem)
  have hcalls := hP w (Ok B P0 φ) (c.args.map a.eval) (by simpa using hR)
  unfold callable at hcl
  split at hcl
  · rename_i fn hfn
    simp only [Bool.and_eq_true, Bool.not_eq_true'] at hcl
    have hb : fn.body.isNone = false := by cases hbb : fn.body <;> simp_all
    have hrun : (execOp a.eval o).run P w = .ok (.enter g (c.args.map a.eval)) w := by
      have hnm : fn.name ≠ "runtime.NumGoroutine" := by simpa using hcl.1
      have hbn : fn.body ≠ none := by intro hbb; simp [hbb] at hb
      simp [execOp, ho, resolve, hc, hf1, Deferred.ofValue, invoke, callFunc, hfn, hnm, hbn]
    unfold Oper.wp
    rw [hrun]
    refine Calls.mono hcalls fun e w' he => ?_
    obtain ⟨v, rfl, hbw, hv⟩ := he
    refine hk φ v w' ?_
    have hs2 := hs.world (w' := w') (hbw.mono hs.base) hbw.size (fun k hk => hbw.block k hk)
    refine St.less (St.put hs2 hd (fun _ _ => Rep.move (fun h b hh => by cases hh) (fun k hk _ => ?_) (fun _ _ _ => rfl) _ hv)) (fun k (hk : fresh k ∧ k ≠ new) => hk.1)
    rcases hk with hk | hk
    · exact hk
    · exact ⟨.inr (Nat.le_trans hs.base hk), fun h hh => by have := (hs.own h k hh).2; omega⟩
  · cases hcl
theorem put_comm (σ : Nat → AV) (dst : Option Tmp) (x y : AV) (n : Nat) : putT (upd σ (2 * n + 1) y) dst x = upd (putT σ dst x) (2 * n + 1) y := by
  cases dst with
  | none => rfl
  | some d =>
    funext z
    simp only [putT, upd_eq]
    split <;> split <;> first | rfl | omega
theorem trip_new {cs : List AV} (h : ∀ {w : World} {ok : Nat → Prop} {φ : Nat → Option Nat} {a : Act}, (∀ y ∈ o.op.operands, Rep φ w ok (ev σ y) (a.eval y)) →
    ∃ vs t, (execOp a.eval o).run P w = .ok (.value (.pointer (some ⟨w.heap.size, 0, none⟩))) (w.alloc (.cells vs t (0, 0))) ∧ Reps φ w ok cs vs.toList) : Trip P N new σ o ⟨.ptr new 0, [], some (new, .agg cs)⟩ := by
  intro B P0 w0 w fresh φ a σ' h1 h2 hs hfr hd next Q hk
  obtain ⟨vs, t, hr, hv⟩ := h (fun y hy => by rw [← ev_agree h1 hy]; exact hs.ev y)
  obtain ⟨φ', hs2, hφ⟩ := hs.new hfr hv t
  refine wp_value hr (hk φ' _ _ ?_)
  have := St.put hs2 hd (x := .ptr new 0) (v := .pointer (some ⟨w.heap.size, 0, none⟩)) (fun _ _ => by simp only [Rep]; exact ⟨_, hφ, rfl⟩)
  rw [put_comm] at this
  exact this
theorem trip_alloc {t : Nat} {cs : List AV} (ho : o.op = .alloc t) (hz : zeroCells' P t = some cs) : Trip P N new σ o ⟨.ptr new 0, [], some (new, .agg cs)⟩ :=
  trip_new fun {w ok φ a} hy => by
    obtain ⟨it, z, h1, h2, h3, _⟩ := zeroCells_rep (φ := φ) hz w ok
    refine ⟨z.cells, t, ?_, h3⟩
    simp only [execOp, ho]
    refine run_v ?_
    simp [Instr.alloc, zeroValue, typeInfo, h1, h2, newVar, newRow, newObj, Sem.run]
theorem trip_box {t : Nat} {x : Operand} {cs : List AV} (ho : o.op = .box t x) (hc : cellsOf (ev σ x) = some cs) : Trip P N new σ o ⟨.ptr new 0, [], some (new, .agg cs)⟩ :=
  trip_new fun {w ok φ a} hy => by
    obtain ⟨h1, _⟩ := cellsOf_rep hc (hy x (by simp [ho, Op.operands]))
    refine ⟨(a.eval x).cells, t, ?_, h1⟩
    simp only [execOp, ho]
    refine run_v ?_
    simp [Instr.box, newVar, newRow, newObj, Sem.run]
theorem reads_block {w : World} {b off : Nat} {vs : Array Value} {e : Nat} {fr : Nat × Nat} (h : w.heap[b]? = some (.cells vs e fr)) : Reads ⟨b, off, none⟩ (vs.toList.drop off) w := fun i u hu => by
  have : (⟨b, off, none⟩ : Addr).add i = ⟨b, off + i, none⟩ := by unfold Addr.add; split <;> simp_all
  rw [this]
  rw [List.getElem?_drop] at hu
  simp [World.cell?, h]
  simpa using hu
theorem trip_load {t h off : Nat} {x : Operand} {cs : List AV} {v : AV} (ho : o.op = .load t x) (hx : ev σ x = .ptr h off) (hb : σ (2 * h + 1) = .agg cs) (hl : loadA P t (cs.drop off) = some v) : Trip P N new σ o ⟨v, [h], none⟩ := by
  intro B P0 w0 w fresh φ a σ' h1 h2 hs hfr hd next Q hk
  have hp := hs.ev x
  rw [ev_agree h1 (by simp [ho, Op.operands]), hx] at hp
  simp only [Rep] at hp
  obtain ⟨b, e1, e2⟩ := hp
  obtain ⟨b', vs, e, f1, f2, f3⟩ := hs.boxes h cs (by rw [h2 h (by simp), hb])
  rw [e1] at f1
  injection f1 with f1
  subst f1
  obtain ⟨u, k1, k2⟩ := loadVar_run hl (f3.drop off) (reads_block f2)
  refine wp_value (v := u) (w' := w) (by simp [execOp, ho, e2, Instr.loadAt, Instr.sureAddr, k1]) (hk φ u w ?_)
  exact St.less (St.put hs hd (fun _ _ => k2)) (fun k (hk : fresh k ∧ k ≠ new) => hk.1)
theorem trip_store {t h off : Nat} {x y : Operand} {cs vs : List AV} (ho : o.op = .store t x y) (hx : ev σ x = .ptr h off) (hb : σ (2 * h + 1) = .agg cs) (hy : cellsOf (ev σ y) = some vs) (hsz : sz P t = some vs.length) (hle : off + vs.length ≤ cs.length) :
    Trip P N new σ o ⟨.any, [h], some (h, .agg (setL cs off vs))⟩ := by
  intro B P0 w0 w fresh φ a σ' h1 h2 hs hfr hd next Q hk
  have hp := hs.ev x
  rw [ev_agree h1 (by simp [ho, Op.operands]), hx] at hp
  simp only [Rep] at hp
  obtain ⟨b, e1, e2⟩ := hp
  obtain ⟨b', old, e, f1, f2, f3⟩ := hs.boxes h cs (by rw [h2 h (by simp), hb])
  rw [e1] at f1
  injection f1 with f1
  subst f1
  have hv := hs.ev y
  rw [ev_agree h1 (by simp [ho, Op.operands])] at hv
  obtain ⟨g1, g2⟩ := cellsOf_rep hy hv
  have gl := g1.length
  have ol := f3.length
  have hst := run_storeCells_at P b off e (a.eval y).cells.toList 0 old w f2 (by simp only [Nat.add_zero]; simp at ol; omega) g2
  simp only [Nat.add_zero] at hst
  have hsv : (storeVar t ⟨b, off, none⟩ (a.eval y)).run P w = .ok () (w.setRow b (old.toList.take off ++ (a.eval y).cells.toList ++ old.toList.drop (off + (a.eval y).cells.toList.length)).toArray) := by
    simp at gl
    simp [storeVar, run_sizeOf' hsz, gl]
    simpa [gl] using hst
  generalize hw : w.setRow b (old.toList.take off ++ (a.eval y).cells.toList ++ old.toList.drop (off + (a.eval y).cells.toList.length)).toArray = w1 at hsv
  refine wp_skip' (w' := w1) (by simp [execOp, ho, e2, Instr.storeAt, Instr.sureAddr, hsv]) (hk φ undef w1 ?_)
  have hother : ∀ k, k ≠ b → w1.heap[k]? = w.heap[k]? := fun k hk => by rw [← hw]; exact setRow_other w b k _ hk
  have hhere : w1.heap[b]? = some (.cells (old.toList.take off ++ (a.eval y).cells.toList ++ old.toList.drop (off + (a.eval y).cells.toList.length)).toArray e (0, 0)) := by rw [← hw]; exact setRow_heap w b old _ e _ f2
  have hsize : w1.heap.size = w.heap.size := by rw [← hw]; simp [World.setRow]
  have hokb : ∀ k, Ok B P0 φ k → k ≠ b := fun k hk hkb => hk.2 h (by rw [hkb]; exact e1)
  have hbB := (hs.own h b e1).1
  have mv : ∀ {z : AV} {u : Value}, Rep φ w (Ok B P0 φ) z u → Rep φ w1 (Ok B P0 φ) z u := fun hz => Rep.move (fun _ _ h => h) (fun _ h _ => h) (fun k hk _ => hother k (hokb k hk)) _ hz
  have mvs : ∀ {z : List AV} {u : List Value}, Reps φ w (Ok B P0 φ) z u → Reps φ w1 (Ok B P0 φ) z u := fun hz => Reps.move (fun _ _ h => h) (fun _ h _ => h) (fun k hk _ => hother k (hokb k hk)) _ hz
  have hs1 : St N B P0 w0 fresh (upd σ' (2 * h + 1) (.agg (setL cs off vs))) φ a w1 :=
    { below := hs.below.trans ⟨by rw [← hw]; rfl, by rw [← hw]; rfl, by rw [← hw]; rfl, by omega, fun k hk => hother k (by omega)⟩
      base := by rw [hsize]; exact hs.base
      defers := hs.defers
      size := hs.size
      tmps := fun t => by
        simp only [upd_eq]
        rw [if_neg (by omega)]
        exact mv (hs.tmps t)
      boxes := fun h' cs' hk' => by
        simp only [upd_eq] at hk'
        by_cases hh : h' = h
        · subst hh
          rw [if_pos rfl] at hk'
          injection hk' with hk'
          subst hk'
          refine ⟨b, _, e, e1, hhere, ?_⟩
          unfold setL
          rw [gl]
          exact Reps.append (Reps.append (mvs (f3.take off)) (mvs g1)) (mvs (f3.drop _))
        · rw [if_neg (by omega)] at hk'
          obtain ⟨b2, vs2, e3, q1, q2, q3⟩ := hs.boxes h' cs' hk'
          refine ⟨b2, vs2, e3, q1, ?_, mvs q3⟩
          rw [hother b2 (fun hb2 => hh (hs.inj h' h b (by rw [← hb2]; exact q1) e1))]
          exact q2
      own := fun h' b2 q => by rw [hsize]; exact hs.own h' b2 q
      inj := hs.inj
      fr := hs.fr }
  have := St.put hs1 hd (x := .any) (v := undef) (fun _ _ => by simp only [Rep])
  rw [put_comm] at this
  exact St.less this (fun k (hk : fresh k ∧ k ≠ new) => hk.1)
end
section
variable {P : Program} {N new : Nat} {σ : Nat → AV} {o : Oper}
theorem row_new {φ : Nat → Option Nat} {w : World} {B : Nat} {P0 : Nat → Prop} {k : IntKind} {is : List Int} {cells : Array Value} {e : Nat} (hc : cells.toList = is.map (Value.int k)) (hl : is.length < 100000) (hB : B ≤ w.heap.size) (hφ : ∀ h b, φ h = some b → b < w.heap.size) :
    Kd.F (Kd.int k) (w.alloc (.cells cells e (0, 0))) (Ok B P0 φ) (some ⟨w.heap.size, 0, none⟩) is.length is := by
  intro W' hW
  have hnew : (w.alloc (.cells cells e (0, 0))).heap[w.heap.size]? = some (.cells cells e (0, 0)) := by show (w.heap.push _)[w.heap.size]? = _; simp
  have hg := hW w.heap.size ⟨.inr hB, fun h hh => by have := hφ h _ hh; omega⟩ (by show _ < (w.heap.push _).size; simp)
  rw [hnew] at hg
  refine ⟨rfl, by omega, fun _ => ⟨_, rfl, fun j p hj => ⟨[.int k p], rfl, rfl, fun i u hu => ?_⟩⟩⟩
  cases i with
  | succ i => simp at hu
  | zero =>
    simp only [List.getElem?_cons_zero, Option.some.injEq] at hu
    subst hu
    have := reads_block (off := 0) hg j (.int k p) (by rw [List.drop_zero, hc, List.getElem?_map, hj]; rfl)
    simpa [Kd.int, Kd.scalar] using this
theorem buildSlice_run {t e n : Nat} {len : Nat} {parts : Array (Nat × Operand)} {l : List AV} {φ : Nat → Option Nat} {w : World} {ok : Nat → Prop} {a : Act} (hu : P.underlying t = some (.slice e)) (hs : sz P e = some n) (hp : parts.size = len) (hn : 0 < n) (hsm : len * n < 100000) (hz : (zeroCells' P e).isSome = true) (hl : partsOf n σ 0 parts.toList = some l)
    (hev : ∀ p ∈ parts.toList, Rep φ w ok (ev σ p.2) (a.eval p.2)) : ∃ cells : Array Value, (Instr.buildSlice t len (parts.map fun (i, x) => (i, a.eval x))).run P w = .ok (.slice (some ⟨w.heap.size, 0, none⟩) len len) (w.alloc (.cells cells e (0, 0))) ∧
      Reps φ w ok l cells.toList ∧ cells.size = len * n ∧ noPtrs l = true := by
  obtain ⟨zz, hzz⟩ := Option.isSome_iff_exists.1 hz
  obtain ⟨it, z, hi, hz1, _, _⟩ := zeroCells_rep (φ := φ) hzz w ok
  obtain ⟨i2, hi2, hn2⟩ := sz_info hs
  rw [hi] at hi2
  injection hi2 with hi2
  subst hi2
  let zero : Array Value := if len * n = 0 then #[] else z.cells
  obtain ⟨cells, vs, f1, f2, f3, f4, f5, f6⟩ := partsOf_fill n parts.toList 0 l ((Array.range (len * n)).map (zero[· % zero.size]!)) hev hl (by simp [hp])
  have hcv : cells.toList = vs := by rw [f2]; simp
  refine ⟨cells, ?_, by rw [hcv]; exact f3, by rw [← Array.length_toList, hcv, f5]; simp [hp], f6⟩
  have hfill : Instr.fill (fun i => some (i * n, n)) ((Array.range (len * n)).map (zero[· % zero.size]!)) (parts.map fun (i, x) => (i, a.eval x)).toList = some cells := by
    rw [Array.toList_map]; exact f1
  have hbig : ¬ (2 ^ 24 < len * n) := by omega
  have r0 : Array.range 0 = #[] := rfl
  by_cases h0 : len * n = 0
  · have hf2 : Instr.fill (fun i => some (i * n, n)) #[] (List.map (fun x => (x.fst, a.eval x.snd)) parts.toList) = some cells := by
      have := hfill
      rw [h0, Array.toList_map, r0] at this
      simpa using this
    simp [Instr.buildSlice, run_underlying hu, run_sizeOf' hs, h0, r0, hf2, newRow, newObj, Sem.run]
  · have hf2 : Instr.fill (fun i => some (i * n, n)) (Array.map (fun x => z.cells[x % z.cells.size]!) (Array.range (len * n))) (List.map (fun x => (x.fst, a.eval x.snd)) parts.toList) = some cells := by
      have := hfill
      simp only [zero, if_neg h0] at this
      rw [Array.toList_map] at this
      exact this
    simp [Instr.buildSlice, run_underlying hu, run_sizeOf' hs, h0, hbig, zeroValue, typeInfo, hi, hz1, hf2, newRow, newObj, Sem.run]
theorem trip_row {t e len : Nat} {k : IntKind} {parts : Array (Nat × Operand)} {l : List AV} {is : List Int} (ho : o.op = .buildSlice t len parts) (hu : P.underlying t = some (.slice e)) (hs : sz P e = some 1) (hp : parts.size = len) (hsm : len * 1 < 100000) (hz : (zeroCells' P e).isSome = true) (hl : partsOf 1 σ 0 parts.toList = some l) (hi : asInts k l = some is) :
    Trip P N new σ o (val (.row k is)) :=
  trip_w fun {B P0 w φ a} hy hB hφ => by
    have hev : ∀ p ∈ parts.toList, Rep φ w (Ok B P0 φ) (ev σ p.2) (a.eval p.2) := fun p hp => hy p.2 (by simp only [ho, Op.operands]; simp; exact ⟨p.1, by simpa using hp⟩)
    obtain ⟨cells, h1, h2, h3, h4⟩ := buildSlice_run hu hs hp (by omega) hsm hz hl hev
    have hc := asInts_vals hi h2
    have hlen : is.length = len := by have := congrArg List.length hc; simp at this; omega
    refine ⟨_, _, by simp only [execOp, ho]; exact run_v h1, (Below.refl _ _).alloc (Nat.le_refl _) _, ?_⟩
    simp only [Rep]
    refine ⟨some ⟨w.heap.size, 0, none⟩, len, by rw [hlen], by omega, row_new hc (by omega) hB hφ⟩
theorem trip_arr {t e len n : Nat} {parts : Array (Nat × Operand)} {l : List AV} (ho : o.op = .buildSlice t len parts) (hu : P.underlying t = some (.slice e)) (hs : sz P e = some n) (hp : parts.size = len) (hn : 0 < n) (hsm : len * n < 100000) (hz : (zeroCells' P e).isSome = true) (hl : partsOf n σ 0 parts.toList = some l) :
    Trip P N new σ o (val (.arr n l)) :=
  trip_w fun {B P0 w φ a} hy hB hφ => by
    have hev : ∀ p ∈ parts.toList, Rep φ w (Ok B P0 φ) (ev σ p.2) (a.eval p.2) := fun p hp => hy p.2 (by simp only [ho, Op.operands]; simp; exact ⟨p.1, by simpa using hp⟩)
    obtain ⟨cells, h1, h2, h3, h4⟩ := buildSlice_run hu hs hp hn hsm hz hl hev
    have hl2 := h2.length
    have hm : ∀ k, k < w.heap.size → (w.alloc (.cells cells e (0, 0))).heap[k]? = w.heap[k]? := fun k hk => Below.heap_alloc _ _ _ hk
    refine ⟨_, _, by simp only [execOp, ho]; exact run_v h1, (Below.refl _ _).alloc (Nat.le_refl _) _, ?_⟩
    simp only [Rep]
    have hlen : len ≤ len * n := Nat.le_mul_of_pos_right len hn
    refine ⟨_, len, len, cells.toList, rfl, Nat.le_refl _, by rw [← hl2, Array.length_toList, h3], by omega, fun W' hW => ?_, Reps.move (fun _ _ h => h) (fun _ h _ => h) (fun k _ hk => hm k hk) _ h2⟩
    have hnew : (w.alloc (.cells cells e (0, 0))).heap[w.heap.size]? = some (.cells cells e (0, 0)) := by show (w.heap.push _)[w.heap.size]? = _; simp
    have hg := hW w.heap.size ⟨.inr hB, fun h hh => by have := hφ h _ hh; omega⟩ (by show _ < (w.heap.push _).size; simp)
    rw [hnew] at hg
    have := reads_block (off := 0) hg
    simpa using this
theorem doOp_trip {T : Tab} (hT : TOk P T) {R : Type} {K : Eff → Option R} {r : R} (h : doOp P T new σ o K = some r) : ∃ e, Trip P N new σ o e ∧ K e = some r := by
  unfold doOp at h
  split at h
  · exact ⟨_, trip_move (.inl (by assumption)), h⟩
  · exact ⟨_, trip_move (.inr (by assumption)), h⟩
  · rename_i c x y ho
    split at h
    · rename_i b hc
      refine ⟨_, trip_pick ho hc, ?_⟩
      cases b <;> simpa using h
    · cases h
  · rename_i t ho
    split at h
    · exact ⟨_, trip_alloc ho (by assumption), h⟩
    · cases h
  · rename_i t x ho
    split at h
    · exact ⟨_, trip_box ho (by assumption), h⟩
    · cases h
  · rename_i t parts ho
    split at h
    · rename_i z pl hz hp
      split at h
      · exact ⟨_, trip_build ho hz hp (by assumption), h⟩
      · cases h
    · cases h
  · rename_i t len parts ho
    split at h
    · rename_i e hu
      split at h
      · rename_i n hn
        split at h
        · rename_i hcc
          obtain ⟨c1, c2, c3, c4⟩ := hcc
          split at h
          · rename_i l hl
            split at h
            · split at h
              · rename_i is his
                split at h
                · rename_i hn1
                  subst hn1
                  exact ⟨_, trip_row ho hu hn c1 c3 c4 hl his, h⟩
                · cases h
              · cases h
            · exact ⟨_, trip_arr ho hu hn c1 c2 c3 c4 hl, h⟩
          · cases h
        · cases h
      · cases h
    · cases h
  · rename_i t x ho
    split at h
    · rename_i hh off hx
      split at h
      · rename_i cs hb
        split at h
        · exact ⟨_, trip_load ho hx hb (by assumption), h⟩
        · cases h
      · cases h
    · rename_i cs hx
      split at h
      · exact ⟨_, trip_load_at ho hx (by assumption), h⟩
      · cases h
    · cases h
  · rename_i t x y ho
    split at h
    · rename_i hh off hx
      split at h
      · rename_i cs vs hb hy
        split at h
        · rename_i hc
          exact ⟨_, trip_store ho hx hb hy hc.1 hc.2, h⟩
        · cases h
      · cases h
    · cases h
  · exact trip_binA (by assumption) h
  · split at h
    · exact ⟨_, trip_un (by assumption) (by assumption), h⟩
    · cases h
  · split at h
    · exact ⟨_, trip_convert (k := 0) (by assumption) (by assumption) (by assumption) (by assumption), h⟩
    · cases h
  · rename_i s x f ho
    split at h
    · rename_i off n hf
      split at h
      · exact ⟨_, trip_fieldAddr ho hf (by assumption), h⟩
      · exact ⟨_, trip_fieldAt ho hf (by assumption), h⟩
      · cases h
    · cases h
  · rename_i s x f ho
    split at h
    · rename_i fs cs hf hx
      split at h
      · rename_i fd hfd
        split at h
        · exact ⟨_, trip_field ho hf hfd hx (by assumption), h⟩
        · cases h
      · cases h
    · cases h
  · rename_i t x i ho
    split at h
    · rename_i e hu
      split at h
      · rename_i k l hs hx
        obtain ⟨v, h1, h2⟩ := trip_indexRow (N := N) (new := new) ho hu hs hx h
        exact ⟨_, h1, h2⟩
      · rename_i n s l hs hx
        split at h
        · rename_i hns
          subst hns
          obtain ⟨v, h1, h2⟩ := trip_indexArr (N := N) (new := new) ho hu hs hx h
          exact ⟨_, h1, h2⟩
        · cases h
      · cases h
    · cases h
  · rename_i t x i ho
    split at h
    · rename_i s k n hu hx hi
      split at h
      · rename_i hc
        exact ⟨_, trip_index ho hu hx hi hc.1 hc.2, h⟩
      · cases h
    · cases h
  · rename_i x i ho
    split at h
    · rename_i l hx
      split at h
      · exact ⟨_, trip_extract ho hx (by assumption), h⟩
      · cases h
    · cases h
  · rename_i c ho
    split at h
    · rename_i hc
      split at h
      · rename_i x t ha ht
        have ha' : c.args = #[x] := by rw [← Array.toList_inj]; exact ha
        split at h
        · rename_i e v hu hl
          split at h
          · cases h
          · rename_i hns
            exact ⟨_, trip_len ho hc ha' ht hu hl (fun s hs => hns s hs), h⟩
        · rename_i v hu hl
          split at h
          · rename_i s hs
            rw [hs] at hl
            simp only [lenA, Option.some.injEq] at hl
            subst hl
            exact ⟨_, trip_lenS ho hc ha' ht hu hs, h⟩
          · cases h
        · cases h
      · cases h
    · rename_i hc
      split at h
      · rename_i x y ha
        have ha' : c.args = #[x, y] := by rw [← Array.toList_inj]; exact ha
        split at h
        · exact ⟨_, trip_min ho hc ha' (by assumption) (by assumption), h⟩
        · cases h
      · cases h
    · rename_i hc
      split at h
      · rename_i x y ha
        have ha' : c.args = #[x, y] := by rw [← Array.toList_inj]; exact ha
        split at h
        · exact ⟨_, trip_max ho hc ha' (by assumption) (by assumption), h⟩
        · cases h
      · cases h
    · rename_i f hc
      split at h
      · rename_i g hf
        split at h
        · rename_i F hF
          split at h
          · rename_i hn
            obtain ⟨x, h3, h4⟩ := (hT g F hF).at_ h
            exact ⟨_, trip_call ho hc hf (hT g F hF).1 hn h3, h4⟩
          · cases h
        · cases h
      · cases h
    · cases h
  · cases h
end
def Trip1 (P : Program) (N nh : Nat) (ops : Array Oper) (i : Nat) (σ : Nat → AV) (o : Oper) (e : Eff) : Prop :=
  ∀ {B : Nat} {P0 : Nat → Prop} {w0 w : World} {fresh : Nat → Prop} {φ : Nat → Option Nat} {a : Act} (σ' : Nat → AV), (∀ x ∈ rds ops o e, σ' x = σ x) → St N B P0 w0 fresh σ' φ a w → fresh (nh + i) →
    ∀ (next : Act → World → Prop) (Q : Exit → Act → World → Prop), (∀ φ' v w', St N B P0 w0 (fun k => fresh k ∧ k ≠ nh + i) (put σ' o.dst e) φ' (a.put o.dst v) w' → next (a.put o.dst v) w') → wpOp P ops Q i next a w
section
variable {P : Program} {N nh : Nat} {ops : Array Oper} {T : Tab}
theorem yield_rep {B : Nat} {P0 : Nat → Prop} {w0 w : World} {fresh : Nat → Prop} {φ : Nat → Option Nat} {a : Act} {σ : Nat → AV} {j : Nat} {b : Bool} (hs : St N B P0 w0 fresh σ φ a w) (h : yieldA ops σ j = .bool b) : yielded ops a.tmps j = some b := by
  unfold yieldA at h
  unfold yielded
  split at h
  · rename_i t ht
    have h1 := hs.tmps t
    rw [h] at h1
    simp only [Rep] at h1
    rw [ht, Option.bind_some]
    rw [Array.getD_eq_getD_getElem?] at h1
    cases hq : a.tmps[t]? with
    | none => rw [hq] at h1; cases h1
    | some v => rw [hq] at h1; simp only [Option.getD_some] at h1; subst h1; rfl
  · cases h
theorem yield_undef {B : Nat} {P0 : Nat → Prop} {w0 w : World} {fresh : Nat → Prop} {φ : Nat → Option Nat} {a : Act} {σ : Nat → AV} {j : Nat} (hs : St N B P0 w0 fresh σ φ a w) (h : yieldA ops σ j = .tup []) : yielded ops a.tmps j = none := by
  unfold yieldA at h
  unfold yielded
  split at h
  · rename_i t ht
    have h1 := hs.tmps t
    rw [h] at h1
    simp only [Rep, Reps] at h1
    obtain ⟨cs, h1, _⟩ := h1
    rw [ht, Option.bind_some]
    rw [Array.getD_eq_getD_getElem?] at h1
    cases hq : a.tmps[t]? with
    | none => rfl
    | some v => rw [hq] at h1; simp only [Option.getD_some] at h1; subst h1; rfl
  · cases h
theorem oneOp_trip (hT : TOk P T) {i : Nat} {o : Oper} {σ : Nat → AV} {R : Type} {K : Eff → Option R} {r : R} (ho : ops[i]? = some o) (h : oneOp P T N nh ops i o σ K = some r) : ∃ e, Trip1 P N nh ops i σ o e ∧ K e = some r := by
  unfold oneOp at h
  split at h
  · rename_i hd
    have hd' : ∀ d, o.dst = some d → d < N := fun d hd1 => by simpa [dstOk, hd1] using hd
    have key : ∀ {e : Eff}, Trip P N (nh + i) σ o e → (∀ {B : Nat} {P0 : Nat → Prop} {w0 w : World} {fresh : Nat → Prop} {φ : Nat → Option Nat} {a : Act} (σ' : Nat → AV), (∀ x ∈ rds ops o e, σ' x = σ x) → St N B P0 w0 fresh σ' φ a w → Region.wanted o (yielded ops a.tmps) = true) → Trip1 P N nh ops i σ o e := by
      intro e ht hw B P0 w0 w fresh φ a σ' hag hs hf next Q hk
      unfold wpOp
      simp only [ho, hw σ' hag hs, if_true]
      refine .inl (ht σ' (fun t htm => hag _ ?_) (fun h hh => hag _ ?_) hs hf hd' next Q hk)
      · exact List.mem_append_left _ (List.mem_map.2 ⟨t, List.mem_append_left _ (List.mem_filterMap.2 ⟨.tmp t, by simpa using htm, rfl⟩), rfl⟩)
      · exact List.mem_append_right _ (List.mem_map.2 ⟨h, hh, rfl⟩)
    split at h
    · rename_i hg
      obtain ⟨e, h1, h2⟩ := doOp_trip (N := N) hT h
      exact ⟨e, key h1 (fun σ' _ _ => by simp [Region.wanted, hg]), h2⟩
    · rename_i j want hg
      have hread : ∀ {e : Eff} {b : Bool} {σ' : Nat → AV}, yieldA ops σ j = .bool b → (∀ x ∈ rds ops o e, σ' x = σ x) → yieldA ops σ' j = .bool b := by
        intro e b σ' hy hag
        unfold yieldA at hy ⊢
        split at hy
        · rename_i t ht
          rw [hag _ (List.mem_append_left _ (List.mem_map.2 ⟨t, List.mem_append_right _ (by simp [hg, ht]), rfl⟩))]
          exact hy
        · cases hy
      have hreadU : ∀ {e : Eff} {σ' : Nat → AV}, yieldA ops σ j = .tup [] → (∀ x ∈ rds ops o e, σ' x = σ x) → yieldA ops σ' j = .tup [] := by
        intro e σ' hy hag
        unfold yieldA at hy ⊢
        split at hy
        · rename_i t ht
          rw [hag _ (List.mem_append_left _ (List.mem_map.2 ⟨t, List.mem_append_right _ (by simp [hg, ht]), rfl⟩))]
          exact hy
        · cases hy
      split at h
      · rename_i b hy
        split at h
        · rename_i hb
          subst hb
          obtain ⟨e, h1, h2⟩ := doOp_trip (N := N) hT h
          exact ⟨e, key h1 (fun σ' hag hs => by simp [Region.wanted, hg, yield_rep hs (hread hy hag)]), h2⟩
        · rename_i hb
          refine ⟨val (.tup []), ?_, h⟩
          intro B P0 w0 w fresh φ a σ' hag hs hf next Q hk
          unfold wpOp
          have hw : Region.wanted o (yielded ops a.tmps) = false := by simp [Region.wanted, hg, yield_rep hs (hread hy hag), hb]
          simp only [ho, hw, Bool.false_eq_true, if_false]
          exact hk φ undef w (St.less (St.put hs hd' (fun _ _ => by simp only [val, Rep, Reps]; exact ⟨#[], rfl, rfl⟩)) (fun k (hk : fresh k ∧ k ≠ nh + i) => hk.1))
      · rename_i hy
        refine ⟨val (.tup []), ?_, h⟩
        intro B P0 w0 w fresh φ a σ' hag hs hf next Q hk
        unfold wpOp
        have hw : Region.wanted o (yielded ops a.tmps) = false := by simp [Region.wanted, hg, yield_undef hs (hreadU hy hag)]
        simp only [ho, hw, Bool.false_eq_true, if_false]
        exact hk φ undef w (St.less (St.put hs hd' (fun _ _ => by simp only [val, Rep, Reps]; exact ⟨#[], rfl, rfl⟩)) (fun k (hk : fresh k ∧ k ≠ nh + i) => hk.1))
      · cases h
  · cases h
theorem runOps_ops (hT : TOk P T) {Q : Exit → Act → World → Prop} {R : Type} {r : R} {K : (Nat → AV) → List (List Nat × List Nat) → Option R} {B : Nat} {P0 : Nat → Prop} {w0 : World}
    (hQ : ∀ σ' tr φ a w, St N B P0 w0 (fun h => nh + ops.size ≤ h) σ' φ a w → K σ' tr = some r → Q .normal a w) :
    ∀ (rest : List Oper) (i : Nat) (σ : Nat → AV) (tr : List (List Nat × List Nat)) (φ : Nat → Option Nat) (a : Act) (w : World), ops.toList.drop i = rest → i + rest.length = ops.size → runOps P T N nh ops rest i σ tr K = some r → St N B P0 w0 (fun h => nh + i ≤ h) σ φ a w → wpOps P ops Q (List.range' i rest.length) a w
  | [], i, σ, tr, φ, a, w, hr, hi, h, hs => by
    simp only [runOps] at h
    simp only [List.length_nil, Nat.add_zero] at hi
    subst hi
    simp only [List.length_nil, List.range'_zero, wpOps]
    exact hQ _ _ _ _ _ hs h
  | o :: rest, i, σ, tr, φ, a, w, hr, hi, h, hs => by
    simp only [runOps] at h
    have ho : ops[i]? = some o := by
      have := congrArg (·[0]?) hr
      simpa using this
    obtain ⟨e, h1, h2⟩ := oneOp_trip hT ho h
    simp only [List.length_cons, List.range'_succ]
    rw [wpOps_cons]
    refine h1 σ (fun _ _ => rfl) hs (Nat.le_refl _) _ Q (fun φ' v w' hs' => ?_)
    have hr' : ops.toList.drop (i + 1) = rest := by
      have := congrArg List.tail hr
      simpa [List.tail_drop] using this
    exact runOps_ops hT hQ rest (i + 1) _ _ φ' _ w' hr' (by simp only [List.length_cons] at hi; omega) h2 (St.less hs' (fun k hk => ⟨by omega, by omega⟩))
end
def stAt (ops : Array Oper) (es : List Eff) (σ0 : Nat → AV) : Nat → Nat → AV
  | 0 => σ0
  | j + 1 => match ops[j]?, es[j]? with
    | some o, some e => put (stAt ops es σ0 j) o.dst e
    | _, _ => stAt ops es σ0 j
def fx (ops : Array Oper) (es : List Eff) (j : Nat) : List Nat × List Nat :=
  match ops[j]?, es[j]? with
  | some o, some e => (rds ops o e, wrs o e)
  | _, _ => ([], [])
def trOf (ops : Array Oper) (es : List Eff) : List (List Nat × List Nat) := (List.range es.length).map (fx ops es)
section
variable {P : Program} {N nh : Nat} {ops : Array Oper} {T : Tab} {σ0 : Nat → AV}
theorem stAt_prefix (es : List Eff) (e : Eff) : ∀ j, j ≤ es.length → stAt ops (es ++ [e]) σ0 j = stAt ops es σ0 j
  | 0, _ => rfl
  | j + 1, hj => by
    simp only [stAt, stAt_prefix es e j (by omega)]
    rw [List.getElem?_append_left (by omega)]
theorem fx_prefix (es : List Eff) (e : Eff) (j : Nat) (hj : j < es.length) : fx ops (es ++ [e]) j = fx ops es j := by
  unfold fx
  rw [List.getElem?_append_left hj]
theorem runOps_es (hT : TOk P T) {R : Type} {r : R} {K : (Nat → AV) → List (List Nat × List Nat) → Option R} :
    ∀ (rest : List Oper) (i : Nat) (es0 : List Eff), ops.toList.drop i = rest → i + rest.length = ops.size → es0.length = i →
      (∀ j o e, ops[j]? = some o → es0[j]? = some e → Trip1 P N nh ops j (stAt ops es0 σ0 j) o e) → runOps P T N nh ops rest i (stAt ops es0 σ0 i) (trOf ops es0) K = some r →
      ∃ es, es.length = ops.size ∧ (∀ j o e, ops[j]? = some o → es[j]? = some e → Trip1 P N nh ops j (stAt ops es σ0 j) o e) ∧ K (stAt ops es σ0 ops.size) (trOf ops es) = some r
  | [], i, es0, hr, hi, hl, hj, h => by
    simp only [List.length_nil, Nat.add_zero] at hi
    subst hi
    exact ⟨es0, hl, hj, h⟩
  | o :: rest, i, es0, hr, hi, hl, hj, h => by
    simp only [runOps] at h
    have ho : ops[i]? = some o := by
      have := congrArg (·[0]?) hr
      simpa using this
    obtain ⟨e, h1, h2⟩ := oneOp_trip hT ho h
    have hr' : ops.toList.drop (i + 1) = rest := by
      have := congrArg List.tail hr
      simpa [List.tail_drop] using this
    subst hl
    refine runOps_es hT rest (es0.length + 1) (es0 ++ [e]) hr' (by simp only [List.length_cons] at hi; omega) (by simp) ?_ ?_
    · intro j o' e' ho' he'
      by_cases hjl : j < es0.length
      · rw [List.getElem?_append_left hjl] at he'
        rw [stAt_prefix es0 e j (by omega)]
        exact hj j o' e' ho' he'
      · have hjl2 : j = es0.length := by
          have := (List.getElem?_eq_some_iff.1 he').1
          simp at this
          omega
        subst hjl2
        rw [ho] at ho'
        injection ho' with ho'
        subst ho'
        simp at he'
        subst he'
        rw [stAt_prefix es0 e _ (Nat.le_refl _)]
        exact h1
    · have e1 : stAt ops (es0 ++ [e]) σ0 (es0.length + 1) = put (stAt ops es0 σ0 es0.length) o.dst e := by
        simp only [stAt, ho, List.getElem?_concat_length, stAt_prefix es0 e _ (Nat.le_refl _)]
      have e2 : trOf ops (es0 ++ [e]) = trOf ops es0 ++ [(rds ops o e, wrs o e)] := by
        unfold trOf
        rw [List.length_append, List.length_singleton, List.range_succ, List.map_append]
        congr 1
        · exact List.map_congr_left fun j hj => fx_prefix es0 e j (by simpa using hj)
        · simp [fx, ho]
      rw [e1, e2]
      exact h2
theorem put_far {σ : Nat → AV} {o : Oper} {e : Eff} {x : Nat} (h : x ∉ wrs o e) : put σ o.dst e x = σ x := by
  unfold wrs at h
  rw [List.mem_append] at h
  have h1 : ∀ d, o.dst = some d → x ≠ 2 * d := fun d hd hx => h (.inl (by simp [hd, hx]))
  have h2 : ∀ p, e.wr = some p → x ≠ 2 * p.1 + 1 := fun p hp hx => h (.inr (by simp [hp, hx]))
  have h3 : putT σ o.dst e.dst x = σ x := by
    cases hd : o.dst with
    | none => rfl
    | some d => simp only [putT, upd_eq, if_neg (h1 d hd)]
  unfold put
  cases hp : e.wr with
  | none => exact h3
  | some p =>
    obtain ⟨p, v⟩ := p
    simp only [upd_eq, if_neg (h2 (p, v) hp)]
    exact h3
theorem put_near {σ σ' : Nat → AV} {o : Oper} {e : Eff} {x : Nat} (h : x ∈ wrs o e) : put σ o.dst e x = put σ' o.dst e x := by
  have h3 : ∀ d, o.dst = some d → x = 2 * d → putT σ o.dst e.dst x = putT σ' o.dst e.dst x := fun d hd hx => by
    simp only [putT, hd, upd_eq, hx, if_true]
  unfold wrs at h
  rw [List.mem_append] at h
  unfold put
  cases hp : e.wr with
  | some p =>
    obtain ⟨p, v⟩ := p
    simp only [upd_eq]
    split
    · rfl
    · rename_i hne
      rcases h with h | h
      · simp only [List.mem_map, Option.mem_toList] at h
        obtain ⟨d, hd, rfl⟩ := h
        exact h3 d hd rfl
      · simp [hp] at h
        exact absurd h hne
  | none =>
    rcases h with h | h
    · simp only [List.mem_map, Option.mem_toList] at h
      obtain ⟨d, hd, rfl⟩ := h
      exact h3 d hd rfl
    · simp [hp] at h
def part (ops : Array Oper) (es : List Eff) (σ0 : Nat → AV) (L : Nat → Bool) : Nat → Nat → AV
  | 0 => σ0
  | j + 1 => fun x => if L j = true ∧ x ∈ (fx ops es j).2 then stAt ops es σ0 (j + 1) x else part ops es σ0 L j x
theorem stAt_far {es : List Eff} {j x : Nat} (h : x ∉ (fx ops es j).2) : stAt ops es σ0 (j + 1) x = stAt ops es σ0 j x := by
  unfold fx at h
  simp only [stAt]
  cases ho : ops[j]? with
  | none => rfl
  | some o =>
    cases he : es[j]? with
    | none => rfl
    | some e =>
      simp only [ho, he] at h
      exact put_far h
theorem part_all {n : Nat} {es : List Eff} {L : Nat → Bool} (h : ∀ j, j < n → L j = true) {x : Nat} : part ops es σ0 L n x = stAt ops es σ0 n x := by
  induction n with
  | zero => rfl
  | succ n ih =>
    simp only [part]
    by_cases hx : x ∈ (fx ops es n).2
    · rw [if_pos ⟨h n (Nat.lt_succ_self n), hx⟩]
    · rw [if_neg (fun hh => hx hh.2), ih (fun j hj => h j (by omega)), stAt_far hx]
end
end Go.Proofs.YtemnjgkicndmjaaDoor.E

namespace Go.Proofs.YtemnjgkicndmjaaDoor.E
open Go.RowKit Go.Proofs.YtemnjgkicndmjaaDoorW.PrintWords
set_option linter.unusedVariables false
set_option linter.unusedSimpArgs false
section
variable {P : Program} {N nh : Nat} {ops : Array Oper} {T : Tab} {σ0 : Nat → AV} {L : Nat → Bool} {es : List Eff}
def Closed' (ops : Array Oper) (L : Nat → Bool) : Prop := ∀ j o, ops[j]? = some o → L j = true → ∀ e ∈ o.after, Region.binds .any e = true → L e.on = true
theorem mask_good {acc : List Nat} (hacc : ∀ j s, acc[j]? = some s → L j = true → ∀ m, s.testBit m = true → L m = true) : ∀ (l : List Edge), (∀ e ∈ l, Region.binds .any e = true → L e.on = true) → ∀ m, (mask acc l).testBit m = true → L m = true
  | [], _, m, h => by simp [mask] at h
  | e :: l, hl, m, h => by
    have hl2 : ∀ e ∈ l, Region.binds .any e = true → L e.on = true := fun e he => hl e (List.mem_cons_of_mem _ he)
    simp only [mask] at h
    split at h
    · rename_i hb
      have he := hl e List.mem_cons_self hb
      rw [Nat.testBit_or, Nat.testBit_or, Bool.or_eq_true, Bool.or_eq_true] at h
      rcases h with (h | h) | h
      · rw [Nat.testBit_two_pow] at h
        have : e.on = m := by simpa using h
        rw [← this]; exact he
      · cases hq : acc[e.on]? with
        | none => simp [List.getD, hq] at h
        | some s =>
          simp only [List.getD, hq, Option.getD_some] at h
          exact hacc _ s hq he m h
      · exact mask_good hacc l hl2 m h
    · exact mask_good hacc l hl2 m h
theorem befs_good (hC : Closed' ops L) : ∀ (rest : List Oper) (acc : List Nat), ops.toList.drop acc.length = rest →
    (∀ (j : Nat) (o : Oper) (s : Nat), ops[j]? = some o → acc[j]? = some s → (∀ e ∈ o.after, Region.binds .any e = true → L e.on = true) → ∀ m, s.testBit m = true → L m = true) →
    ∀ (j : Nat) (o : Oper) (s : Nat), ops[j]? = some o → (befs rest acc)[j]? = some s → (∀ e ∈ o.after, Region.binds .any e = true → L e.on = true) → ∀ m, s.testBit m = true → L m = true
  | [], acc, _, h => h
  | o :: rest, acc, hr, h => by
    have ho : ops[acc.length]? = some o := by
      have := congrArg (·[0]?) hr
      simpa using this
    have hr' : ops.toList.drop (acc.length + 1) = rest := by
      have := congrArg List.tail hr
      simpa [List.tail_drop] using this
    simp only [befs]
    refine befs_good hC rest _ (by simpa using hr') ?_
    intro j o' s ho' hs he m hm
    by_cases hj : j < acc.length
    · rw [List.getElem?_append_left hj] at hs
      exact h j o' s ho' hs he m hm
    · have hj2 : j = acc.length := by
        have := (List.getElem?_eq_some_iff.1 hs).1
        simp at this
        omega
      subst hj2
      rw [ho] at ho'
      injection ho' with ho'
      subst ho'
      simp at hs
      subst hs
      refine mask_good (fun k s hk hL => ?_) o.after.toList (fun e he' => he e (by simpa using he')) m hm
      have hkl := (List.getElem?_eq_some_iff.1 hk).1
      have hlen : acc.length < ops.size := (Array.getElem?_eq_some_iff.1 ho).1
      have hok : ops[k]? = some ops[k] := Array.getElem?_eq_getElem (by omega)
      exact h k _ s hok hk (hC k _ hok hL)
theorem bef_listed (hC : Closed' ops L) {j : Nat} {o : Oper} (ho : ops[j]? = some o) (he : ∀ e ∈ o.after, Region.binds .any e = true → L e.on = true) {m : Nat} (hm : ((befs ops.toList []).getD j 0).testBit m = true) : L m = true := by
  cases hq : (befs ops.toList [])[j]? with
  | none => simp [List.getD, hq] at hm
  | some s =>
    simp only [List.getD, hq, Option.getD_some] at hm
    exact befs_good hC ops.toList [] (by simp) (fun j o s _ h => by simp at h) j o s ho hq he m hm
theorem ordered_at {bef : List Nat} (h : ordered bef (trOf ops es) = true) {i j : Nat} (hij : i < j) (hj : j < es.length) (hc : clash (fx ops es i) (fx ops es j) = true) : (bef.getD j 0).testBit i = true := by
  unfold ordered at h
  simp only [List.all_eq_true, List.mem_range, Bool.or_eq_true, Bool.not_eq_true'] at h
  have hl : (trOf ops es).length = es.length := by simp [trOf]
  have hg : ∀ k, k < es.length → (trOf ops es).getD k ([], []) = fx ops es k := fun k hk => by simp [trOf, List.getD, hk]
  have := h j (by rw [hl]; exact hj) i hij
  rw [hg i (by omega), hg j hj, hc] at this
  simpa using this
theorem clash_wr {a b : List Nat × List Nat} {x : Nat} (h1 : x ∈ a.2) (h2 : x ∈ b.1 ∨ x ∈ b.2) : clash a b = true := by
  unfold clash
  simp only [Bool.or_eq_true, List.any_eq_true, List.contains_iff_mem]
  exact .inl ⟨x, h1, h2⟩
theorem clash_rw {a b : List Nat × List Nat} {x : Nat} (h1 : x ∈ a.1) (h2 : x ∈ b.2) : clash a b = true := by
  unfold clash
  simp only [Bool.or_eq_true, List.any_eq_true, List.contains_iff_mem]
  exact .inr ⟨x, h1, h2⟩
section
variable (hord : ordered (befs ops.toList []) (trOf ops es) = true) (hes : es.length = ops.size) (hC : Closed' ops L) {i : Nat} {o : Oper} (ho : ops[i]? = some o) (hi : L i = false)
include hord hes hC ho hi
omit ho in
theorem later {m x : Nat} (hm : i < m) (hml : m < es.length) (hL : L m = true) (hx : x ∈ (fx ops es m).2) : x ∉ (fx ops es i).1 ∧ x ∉ (fx ops es i).2 := by
  have key : clash (fx ops es i) (fx ops es m) = false := by
    cases hc : clash (fx ops es i) (fx ops es m)
    · rfl
    · have := ordered_at hord hm hml hc
      have hom : ops[m]? = some ops[m] := Array.getElem?_eq_getElem (by omega)
      have := bef_listed hC hom (hC m _ hom hL) this
      rw [hi] at this
      cases this
  constructor
  · intro h1; rw [clash_rw h1 hx] at key; cases key
  · intro h1; rw [clash_wr h1 (.inr hx)] at key; cases key
theorem reads_same (he : ∀ e ∈ o.after, Region.binds .any e = true → L e.on = true) {x : Nat} (hx : x ∈ (fx ops es i).1) : ∀ m, m ≤ es.length → part ops es σ0 L m x = stAt ops es σ0 (min m i) x
  | 0, _ => by simp [part, stAt]
  | m + 1, hml => by
    have ih := reads_same he hx m (by omega)
    have hil : i < es.length := by rw [hes]; exact (Array.getElem?_eq_some_iff.1 ho).1
    simp only [part]
    by_cases hmi : m < i
    · rw [Nat.min_eq_left (by omega)] at ih ⊢
      by_cases hw : x ∈ (fx ops es m).2
      · have := bef_listed hC ho he (ordered_at hord hmi hil (clash_wr hw (.inl hx)))
        rw [if_pos ⟨this, hw⟩]
      · rw [if_neg (fun hh => hw hh.2), ih, stAt_far hw]
    · rw [Nat.min_eq_right (by omega)] at ih ⊢
      by_cases hc : L m = true ∧ x ∈ (fx ops es m).2
      · exfalso
        have hne : m ≠ i := fun e => by rw [e, hi] at hc; cases hc.1
        exact (later hord hes hC hi (by omega) (by omega) hc.1 hc.2).1 hx
      · rw [if_neg hc, ih]
theorem part_put {e : Eff} (hee : es[i]? = some e) : put (part ops es σ0 L es.length) o.dst e = part ops es σ0 (fun j => L j || decide (j = i)) es.length := by
  have hfx : (fx ops es i).2 = wrs o e := by simp [fx, ho, hee]
  have hil : i < es.length := (List.getElem?_eq_some_iff.1 hee).1
  funext x
  by_cases hx : x ∈ wrs o e
  · rw [put_near (σ' := stAt ops es σ0 i) hx]
    have h1 : stAt ops es σ0 (i + 1) x = put (stAt ops es σ0 i) o.dst e x := by simp only [stAt, ho, hee]
    rw [← h1]
    have : ∀ m, i < m → m ≤ es.length → part ops es σ0 (fun j => L j || decide (j = i)) m x = stAt ops es σ0 (i + 1) x := by
      intro m
      induction m with
      | zero => intro h; omega
      | succ m ih =>
        intro hm hml
        simp only [part]
        by_cases hmi : m = i
        · subst hmi
          rw [if_pos ⟨by simp, by rw [hfx]; exact hx⟩]
        · rw [if_neg (fun hh => ?_)]
          · exact ih (by omega) (by omega)
          · have hL : L m = true := by simpa [hmi] using hh.1
            exact (later hord hes hC hi (by omega) (by omega) hL hh.2).2 (by rw [hfx]; exact hx)
    exact (this es.length hil (Nat.le_refl _)).symm
  · rw [put_far hx]
    have : ∀ m, part ops es σ0 L m x = part ops es σ0 (fun j => L j || decide (j = i)) m x := by
      intro m
      induction m with
      | zero => rfl
      | succ m ih =>
        simp only [part]
        by_cases hmi : m = i
        · subst hmi
          rw [hfx, if_neg (fun hh => hx hh.2), if_neg (fun hh => hx hh.2), ih]
        · simp only [hmi, decide_false, Bool.or_false, ih]
    exact this _
end
end
section
variable {P : Program} {N nh : Nat} {ops : Array Oper} {T : Tab} {σ0 : Nat → AV} {es : List Eff}
theorem edgesOk_at : ∀ (l : List Oper) (i j : Nat) (o : Oper), edgesOk l i = true → l[j]? = some o → ∀ e ∈ o.after, Region.binds .any e = true → e.on < i + j
  | [], _, _, _, _, h => by simp at h
  | o' :: l, i, j, o, hk, h => by
    simp only [edgesOk, Bool.and_eq_true] at hk
    intro e he hb
    cases j with
    | zero =>
      simp only [List.getElem?_cons_zero, Option.some.injEq] at h
      subst h
      have := (Array.all_eq_true_iff_forall_mem.1 hk.1) e he
      simp only [hb, Bool.not_true, Bool.false_or] at this
      have : e.on < i := by rw [Nat.blt_eq] at this; exact this
      omega
    | succ j =>
      have := edgesOk_at l (i + 1) j o hk.2 (by simpa using h) e he hb
      omega
theorem filter_less {L L' : Nat → Bool} (hle : ∀ j, L j = true → L' j = true) {i : Nat} (hi : L i = false) (hi' : L' i = true) : ∀ (l : List Nat), i ∈ l → (l.filter fun j => !L' j).length < (l.filter fun j => !L j).length := by
  have le : ∀ (l : List Nat), (l.filter fun j => !L' j).length ≤ (l.filter fun j => !L j).length := by
    intro l
    induction l with
    | nil => simp
    | cons j l ih =>
      simp only [List.filter_cons]
      cases hj : L j <;> cases hj' : L' j <;> simp <;> first | omega | (have := hle j hj; simp [hj'] at this)
  intro l
  induction l with
  | nil => intro h; cases h
  | cons j l ih =>
    intro h
    simp only [List.filter_cons]
    have hl := le l
    by_cases hji : j = i
    · subst hji
      simp [hi, hi']
      omega
    · have hm : i ∈ l := (List.mem_cons.1 h).resolve_left (fun e => hji e.symm)
      have := ih hm
      cases hj : L j <;> cases hj' : L' j <;> simp <;> first | omega | (have := hle j hj; simp [hj'] at this)
theorem any_ops {Q : Exit → Act → World → Prop} {B : Nat} {P0 : Nat → Prop} {w0 : World} (hes : es.length = ops.size) (htr : ∀ j o e, ops[j]? = some o → es[j]? = some e → Trip1 P N nh ops j (stAt ops es σ0 j) o e)
    (hord : ordered (befs ops.toList []) (trOf ops es) = true) (hed : edgesOk ops.toList 0 = true)
    (hQ : ∀ φ a w, St N B P0 w0 (fun h => nh + ops.size ≤ h) (stAt ops es σ0 ops.size) φ a w → Q .normal a w) :
    ∀ (fuel : Nat) (listed : Array Bool) (φ : Nat → Option Nat) (a : Act) (w : World), listed.size = ops.size → Closed' ops (fun j => listed.getD j false) →
      ((List.range ops.size).filter fun j => !(listed.getD j false)).length ≤ fuel →
      St N B P0 w0 (fun h => nh ≤ h ∧ ∀ j, listed.getD j false = true → h ≠ nh + j) (part ops es σ0 (fun j => listed.getD j false) es.length) φ a w → wpAny P .any ops Q fuel listed a w := by
  have done : ∀ (listed : Array Bool) (φ : Nat → Option Nat) (a : Act) (w : World), (∀ j, j < ops.size → listed.getD j false = true) →
      St N B P0 w0 (fun h => nh ≤ h ∧ ∀ j, listed.getD j false = true → h ≠ nh + j) (part ops es σ0 (fun j => listed.getD j false) es.length) φ a w → listed.size = ops.size → Q .normal a w := by
    intro listed φ a w hall hs hsz
    refine hQ φ a w ?_
    have : part ops es σ0 (fun j => listed.getD j false) es.length = stAt ops es σ0 ops.size := by
      funext x
      rw [hes]
      exact part_all (fun j hj => hall j hj)
    rw [this] at hs
    refine St.less hs (fun h hh => ⟨by omega, fun j hj => ?_⟩)
    have : j < ops.size := by
      rcases Nat.lt_or_ge j listed.size with h' | h'
      · omega
      · simp [Array.getElem?_eq_none h'] at hj
    omega
  have allOf : ∀ (listed : Array Bool), listed.size = ops.size → Region.ready .any ops listed = [] → ∀ n, n ≤ ops.size → ∀ j, j < n → listed.getD j false = true := by
    intro listed hsz hr n
    induction n with
    | zero => intro _ j hj; omega
    | succ n ih =>
      intro hn j hj
      by_cases hjn : j < n
      · exact ih (by omega) j hjn
      · have hjn2 : j = n := by omega
        subst hjn2
        cases hL : listed.getD j false with
        | true => rfl
        | false =>
          exfalso
          have : j ∈ Region.ready .any ops listed := by
            rw [mem_ready]
            refine ⟨?_, ops[j], Array.getElem?_eq_getElem (by omega), fun e he hb => ?_⟩
            · have hlt : j < listed.size := by omega
              simp [hlt] at hL ⊢
              exact hL
            · have := edgesOk_at ops.toList 0 j ops[j] hed (by simp) e he hb
              exact ih (by omega) e.on (by omega)
          rw [hr] at this
          cases this
  intro fuel
  induction fuel with
  | zero =>
    intro listed φ a w hsz hC hf hs
    have hall : ∀ j, j < ops.size → listed.getD j false = true := by
      intro j hj
      cases hL : listed.getD j false with
      | true => rfl
      | false =>
        exfalso
        have : j ∈ (List.range ops.size).filter fun j => !(listed.getD j false) := by
          rw [List.mem_filter]
          exact ⟨List.mem_range.2 hj, by rw [hL]; rfl⟩
        have := List.length_pos_of_mem this
        omega
    refine ⟨?_, done listed φ a w hall hs hsz⟩
    apply List.eq_nil_iff_forall_not_mem.2
    intro j hj
    obtain ⟨h1, o, h2, _⟩ := mem_ready.1 hj
    have hlt : j < ops.size := (Array.getElem?_eq_some_iff.1 h2).1
    have := hall j hlt
    have hlt2 : j < listed.size := by omega
    simp [hlt2] at h1 this
    rw [h1] at this
    cases this
  | succ fuel ih =>
    intro listed φ a w hsz hC hf hs
    refine ⟨fun hr => done listed φ a w (fun j hj => allOf listed hsz hr ops.size (Nat.le_refl _) j hj) hs hsz, fun i hi => ?_⟩
    obtain ⟨h1, o, ho, he⟩ := mem_ready.1 hi
    have hlt : i < ops.size := (Array.getElem?_eq_some_iff.1 ho).1
    have hlt2 : i < listed.size := by omega
    have hi0 : listed.getD i false = false := by simp [hlt2] at h1 ⊢; exact h1
    have hee : es[i]? = some es[i] := List.getElem?_eq_getElem (by omega)
    have hfx : (fx ops es i).1 = rds ops o es[i] := by simp [fx, ho, hee]
    refine htr i o es[i] ho hee _ (fun x hx => ?_) hs ⟨by omega, fun j hj => ?_⟩ _ Q (fun φ' v w' hs' => ?_)
    · rw [reads_same (L := fun j => listed.getD j false) hord hes hC ho hi0 he (by rw [hfx]; exact hx) es.length (Nat.le_refl _), Nat.min_eq_right (by omega)]
    · intro hh
      have : j = i := by omega
      subst this
      rw [hi0] at hj
      cases hj
    · have hL1 : ∀ j, (listed.setIfInBounds i true).getD j false = (listed.getD j false || decide (j = i)) := by
        intro j
        by_cases hji : j = i
        · subst hji
          simp [hlt2]
        · rw [getD_set_ne false (fun e => hji e.symm)]
          simp [hji]
      have hLL : (fun j => (listed.setIfInBounds i true).getD j false) = fun j => listed.getD j false || decide (j = i) := by
        funext j
        exact hL1 j
      rw [part_put (L := fun j => listed.getD j false) hord hes hC ho hi0 hee] at hs'
      refine ih (listed.setIfInBounds i true) φ' _ w' (by simp [hsz]) ?_ ?_ ?_
      · rw [hLL]
        intro j o' ho' hj e he' hb
        dsimp only at hj ⊢
        by_cases hji : j = i
        · subst hji
          rw [ho] at ho'
          injection ho' with ho'
          subst ho'
          rw [he e he' hb, Bool.true_or]
        · have hj2 : listed.getD j false = true := by simpa [hji] using hj
          have h5 : listed.getD e.on false = true := hC j o' ho' hj2 e he' hb
          rw [h5, Bool.true_or]
      · have := filter_less (L := fun j => listed.getD j false) (L' := fun j => (listed.setIfInBounds i true).getD j false) (fun j hj => by rw [hL1, hj, Bool.true_or]) hi0 (by rw [hL1]; simp) (List.range ops.size) (List.mem_range.2 hlt)
        omega
      · rw [hLL]
        refine St.less hs' (fun h hh => ⟨⟨hh.1, fun j hj => hh.2 j ?_⟩, hh.2 i ?_⟩)
        · rw [hL1, hj, Bool.true_or]
        · rw [hL1]; simp
end
section
variable {P : Program} {N nh : Nat} {ops : Array Oper} {T : Tab} {fuel : Nat}
theorem binI_nat {R : Type} {op : BinOp} {k : IntKind} {x y : Int} (K : AV → Option R) : binI op k x y K = (binI op k x y some).bind K := by
  unfold binI
  (repeat' split) <;> rfl
theorem binA_nat {R : Type} {op : BinOp} {t : Nat} {x y : AV} (K : AV → Option R) : binA P op t x y K = (binA P op t x y some).bind K := by
  unfold binA
  (repeat' split) <;> first | rfl | exact binI_nat K
theorem indexA_nat {R : Type} {x y : AV} (K : AV → Option R) : indexA x y K = (indexA x y some).bind K := by
  unfold indexA
  (repeat' split) <;> rfl
theorem doOp_nat (hT : TOk P T) {new : Nat} {σ : Nat → AV} {o : Oper} {R : Type} (K : Eff → Option R) : doOp P T new σ o K = (doOp P T new σ o some).bind K := by
  unfold doOp
  (repeat' split) <;> first
    | rfl
    | (rw [binA_nat, binA_nat (fun v => some (val v)), Option.bind_assoc]; rfl)
    | (rw [indexA_nat, indexA_nat (fun v => some (val v)), Option.bind_assoc]; rfl)
    | (rename_i F hF _; rw [(hT _ F hF).2.1 R, (hT _ F hF).2.1 Eff, Option.bind_assoc]; rfl)
theorem oneOp_nat (hT : TOk P T) {i : Nat} {σ : Nat → AV} {o : Oper} {R : Type} (K : Eff → Option R) : oneOp P T N nh ops i o σ K = (oneOp P T N nh ops i o σ some).bind K := by
  unfold oneOp
  (repeat' split) <;> first
    | rfl
    | exact doOp_nat hT K
theorem runOps_nat (hT : TOk P T) {R : Type} (K : (Nat → AV) → List (List Nat × List Nat) → Option R) : ∀ (rest : List Oper) (i : Nat) (σ : Nat → AV) (tr : List (List Nat × List Nat)), runOps P T N nh ops rest i σ tr K = (runOps P T N nh ops rest i σ tr fun s t => some (s, t)).bind fun p => K p.1 p.2
  | [], i, σ, tr => rfl
  | o :: rest, i, σ, tr => by
    simp only [runOps]
    rw [oneOp_nat hT, oneOp_nat hT (fun e => runOps P T N nh ops rest (i + 1) (put σ o.dst e) (tr ++ [(rds ops o e, wrs o e)]) fun s t => some (s, t)), Option.bind_assoc]
    congr 1
    funext e
    exact runOps_nat hT K rest (i + 1) _ _
theorem loopN_nat {R : Type} (body : {R : Type} → State → (Ex → State → Option R) → Option R) (hb : ∀ (R : Type) s (K : Ex → State → Option R), body s K = (body s fun e s => some (e, s)).bind fun p => K p.1 p.2) (K : Ex → State → Option R) : ∀ (n : Nat) (s : State), loopN body n s K = (loopN body n s fun e s => some (e, s)).bind fun p => K p.1 p.2
  | 0, s => rfl
  | n + 1, s => by
    simp only [loopN]
    refine (hb R s _).trans (Eq.trans ?_ (congrArg (fun (o : Option (Ex × State)) => o.bind fun p => K p.1 p.2) (hb _ s _).symm))
    rw [Option.bind_assoc]
    congr 1
    funext p
    obtain ⟨e, s'⟩ := p
    cases e with
    | normal => exact loopN_nat body hb K n s'
    | exit id => rfl
    | ret => rfl
theorem run_nat (hT : TOk P T) : ∀ (c : Code) (s : State) {R : Type} (K : Ex → State → Option R), run P T N fuel c s K = (run P T N fuel c s fun e s => some (e, s)).bind fun p => K p.1 p.2 := by
  intro c
  induction c with
  | region id ops draw =>
    intro s R K
    simp only [run]
    rw [runOps_nat hT, runOps_nat hT (fun σ tr => if draw = true then (if (ordered (befs ops.toList []) tr && edgesOk ops.toList 0) = true then some (Ex.normal, (⟨σ, s.nh + ops.size⟩ : State)) else none) else some (Ex.normal, ⟨σ, s.nh + ops.size⟩)), Option.bind_assoc]
    congr 1
    funext p
    (repeat' split) <;> rfl
  | seq x y ihx ihy =>
    intro s R K
    simp only [run]
    refine (ihx s _).trans (Eq.trans ?_ (congrArg (fun (o : Option (Ex × State)) => o.bind fun p => K p.1 p.2) (ihx s _).symm))
    rw [Option.bind_assoc]
    congr 1
    funext p
    obtain ⟨e, s'⟩ := p
    cases e with
    | normal => exact ihy s' K
    | exit id => rfl
    | ret => rfl
  | cond c x y ihx ihy =>
    intro s R K
    simp only [run]
    split
    · split
      · exact ihx s K
      · exact ihy s K
    · rfl
  | block id b ih =>
    intro s R K
    simp only [run]
    refine (ih s _).trans (Eq.trans ?_ (congrArg (fun (o : Option (Ex × State)) => o.bind fun p => K p.1 p.2) (ih s _).symm))
    rw [Option.bind_assoc]
    congr 1
    funext p
    obtain ⟨e, s'⟩ := p
    cases e with
    | exit i => dsimp only; split <;> rfl
    | normal => rfl
    | ret => rfl
  | loop b ih =>
    intro s R K
    simp only [run]
    exact loopN_nat (fun {R} => run P T N fuel b) (fun R s K => ih s K) K fuel s
  | _ => intro s R K; rfl
def toExit : Ex → Exit
  | .normal => .normal
  | .exit id => .exit id
  | .ret => .ret
theorem run_sound (hT : TOk P T) (hm : P.follows .mixedOrders = true) {B : Nat} {P0 : Nat → Prop} {w0 : World} {R : Type} {r : R} : ∀ (c : Code) (s : State) (K : Ex → State → Option R) (Q : Exit → Act → World → Prop) (φ : Nat → Option Nat) (a : Act) (w : World),
    run P T N fuel c s K = some r → St N B P0 w0 (fun h => s.nh ≤ h) s.σ φ a w → (∀ e s' φ' a' w', St N B P0 w0 (fun h => s'.nh ≤ h) s'.σ φ' a' w' → K e s' = some r → Q (toExit e) a' w') → c.wp P Q a w := by
  intro c
  induction c with
  | skip => intro s K Q φ a w h hs hQ; exact Go.wp_skip (hQ .normal s φ a w hs h)
  | exit id => intro s K Q φ a w h hs hQ; exact wp_exit (hQ (.exit id) s φ a w hs h)
  | ret => intro s K Q φ a w h hs hQ; exact wp_ret (hQ .ret s φ a w hs h)
  | region id ops draw =>
    intro s K Q φ a w h hs hQ
    simp only [run] at h
    cases draw with
    | false =>
      refine wp_region ?_
      rw [List.range_eq_range', ← Array.length_toList]
      refine runOps_ops hT (K := _) (fun σ' tr φ' a' w' hs' hK => ?_) ops.toList 0 s.σ [] φ a w rfl (by simp) h hs
      simp only [Bool.false_eq_true, if_false] at hK
      exact hQ .normal ⟨σ', s.nh + ops.size⟩ φ' a' w' hs' hK
    | true =>
      obtain ⟨es, h1, h2, h3⟩ := runOps_es (σ0 := s.σ) hT ops.toList 0 [] rfl (by simp) rfl (fun j o e _ he => by simp at he) h
      simp only [if_true] at h3
      split at h3
      · rename_i hc
        rw [Bool.and_eq_true] at hc
        refine wp_region_any hm ?_
        have hg : ∀ j, (Array.replicate ops.size false).getD j false = false := fun j => by
          rw [Array.getD_eq_getD_getElem?, Array.getElem?_replicate]
          split <;> rfl
        refine any_ops h1 h2 hc.1 hc.2 (fun φ' a' w' hs' => hQ .normal ⟨_, s.nh + ops.size⟩ φ' a' w' hs' h3) ops.size _ φ a _ (by simp) (fun j o _ hj => by have := hg j; dsimp only at hj; rw [hj] at this; cases this) ?_ ?_
        · have := List.length_filter_le (fun j => !((Array.replicate ops.size false).getD j false)) (List.range ops.size)
          rw [List.length_range] at this
          exact this
        · have hp : part ops es s.σ (fun j => (Array.replicate ops.size false).getD j false) es.length = s.σ := by
            have : ∀ n, part ops es s.σ (fun j => (Array.replicate ops.size false).getD j false) n = s.σ := by
              intro n
              induction n with
              | zero => rfl
              | succ n ih =>
                funext x
                simp only [part]; rw [if_neg (fun hh => by have := hg n; rw [hh.1] at this; cases this), ih]
            exact this _
          rw [hp]
          exact (hs.world (w' := { w with drawn := w.drawn + 1 }) ⟨rfl, rfl, rfl, Nat.le_refl _, fun _ _ => rfl⟩ (Nat.le_refl _) (fun _ _ => rfl)).less (fun h hh => hh.1)
      · cases h3
  | seq x y ihx ihy =>
    intro s K Q φ a w h hs hQ
    simp only [run] at h
    refine wp_seq (ihx s _ _ φ a w h hs fun e s' φ' a' w' hs' hK => ?_)
    cases e with
    | normal => exact ihy s' K Q φ' a' w' hK hs' hQ
    | exit id => exact hQ (.exit id) s' φ' a' w' hs' hK
    | ret => exact hQ .ret s' φ' a' w' hs' hK
  | cond c x y ihx ihy =>
    intro s K Q φ a w h hs hQ
    simp only [run] at h
    split at h
    · rename_i t hc
      have h1 := hs.ev c
      rw [hc] at h1
      simp only [Rep] at h1
      refine wp_cond h1 ?_
      cases t with
      | true => exact ihx s K Q φ a w (by simpa using h) hs hQ
      | false => exact ihy s K Q φ a w (by simpa using h) hs hQ
    · cases h
  | block id b ih =>
    intro s K Q φ a w h hs hQ
    simp only [run] at h
    refine wp_block (ih s _ _ φ a w h hs fun e s' φ' a' w' hs' hK => ?_)
    cases e with
    | normal => exact hQ .normal s' φ' a' w' hs' hK
    | ret => exact hQ .ret s' φ' a' w' hs' hK
    | exit i =>
      dsimp only at hK
      simp only [toExit, Exit.inBlock]
      split at hK
      · rename_i hi
        rw [if_pos hi]
        exact hQ .normal s' φ' a' w' hs' hK
      · rename_i hi
        rw [if_neg hi]
        exact hQ (.exit i) s' φ' a' w' hs' hK
  | loop b ih =>
    intro s K Q φ a w h hs hQ
    simp only [run] at h
    refine wp_loop_rounds fuel ?_
    have key : ∀ (n : Nat) (s : State) (φ : Nat → Option Nat) (a : Act) (w : World), loopN (run P T N fuel b) n s K = some r → St N B P0 w0 (fun h => s.nh ≤ h) s.σ φ a w → Code.rounds P b Q n a w := by
      intro n
      induction n with
      | zero => intro s φ a w h; simp [loopN] at h
      | succ n ihn =>
        intro s φ a w h hs
        simp only [loopN] at h
        refine ih s _ _ φ a w h hs fun e s' φ' a' w' hs' hK => ?_
        cases e with
        | normal => exact ihn s' φ' a' w' hK hs'
        | exit id => exact hQ (.exit id) s' φ' a' w' hs' hK
        | ret => exact hQ .ret s' φ' a' w' hs' hK
    exact key fuel s φ a w h hs
  | _ => intro s K Q φ a w h hs hQ; simp [run] at h
end
def resOne (tmps : Array Value) : ResultVar → Sem Value
  | .tmp t => pure (tmps.getD t undef)
  | .cell a t => do loadVar t (← asAddr (tmps.getD a undef))
theorem results_eq (fn : Func) (tmps : Array Value) : results fn tmps = (fn.results.mapM (resOne tmps)) >>= fun vs => (pure (if h : vs.size = 1 then vs[0] else .tuple vs) : Sem Value) := rfl
section
variable {P : Program} {N : Nat} {T : Tab} {fuel : Nat}
theorem resA_run {B : Nat} {P0 : Nat → Prop} {w0 w : World} {fresh : Nat → Prop} {φ : Nat → Option Nat} {a : Act} {σ : Nat → AV} (hs : St N B P0 w0 fresh σ φ a w) : ∀ (l : List ResultVar) (r : List AV), resA P σ l = some r →
    ∃ vs, (l.mapM (resOne a.tmps)).run P w = .ok vs w ∧ Reps φ w (Ok B P0 φ) r vs
  | [], r, h => by
    simp only [resA, Option.some.injEq] at h
    subst h
    exact ⟨[], rfl, by simp [Reps]⟩
  | .tmp t :: rest, r, h => by
    simp only [resA] at h
    split at h
    · rename_i l hl
      injection h with h
      subst h
      obtain ⟨vs, h1, h2⟩ := resA_run hs rest l hl
      refine ⟨a.tmps.getD t undef :: vs, by simp only [List.mapM_cons, Sem.run_bind, resOne, Sem.run_pure, Result.andThen_ok, h1], ?_⟩
      simp only [Reps]
      exact ⟨_, _, rfl, hs.tmps t, h2⟩
    · cases h
  | .cell c ty :: rest, r, h => by
    simp only [resA] at h
    split at h
    · rename_i hh off l hx hl
      split at h
      · rename_i cs hb
        split at h
        · rename_i v hv
          injection h with h
          subst h
          obtain ⟨vs, h1, h2⟩ := resA_run hs rest l hl
          have hp := hs.tmps c
          rw [hx] at hp
          simp only [Rep] at hp
          obtain ⟨b, e1, e2⟩ := hp
          obtain ⟨b', vs', e, f1, f2, f3⟩ := hs.boxes hh cs hb
          rw [e1] at f1
          injection f1 with f1
          subst f1
          obtain ⟨u, k1, k2⟩ := loadVar_run hv (f3.drop off) (reads_block f2)
          refine ⟨u :: vs, by simp only [List.mapM_cons, Sem.run_bind, resOne, e2, asAddr, Sem.run_pure, Result.andThen_ok, h1, k1], ?_⟩
          simp only [Reps]
          exact ⟨_, _, rfl, k2, h2⟩
        · cases h
      · cases h
    · cases h
theorem retA_run {fn : Func} {B : Nat} {P0 : Nat → Prop} {w0 w : World} {fresh : Nat → Prop} {φ : Nat → Option Nat} {a : Act} {σ : Nat → AV} (hs : St N B P0 w0 fresh σ φ a w) {x : AV} (h : retA P fn σ = some x) :
    ∃ v, (results fn a.tmps).run P w = .ok v w ∧ Rep φ w (Ok B P0 φ) x v ∧ noPtr x = true := by
  unfold retA at h
  have key : ∀ l, resA P σ fn.results.toList = some l → ∃ vs, (results fn a.tmps).run P w = .ok (if h : vs.toArray.size = 1 then vs.toArray[0] else .tuple vs.toArray) w ∧ Reps φ w (Ok B P0 φ) l vs := by
    intro l hl
    obtain ⟨vs, h1, h2⟩ := resA_run hs _ l hl
    refine ⟨vs, ?_, h2⟩
    rw [results_eq, Array.mapM_eq_mapM_toList]
    simp [h1]
  split at h
  · rename_i y hl
    split at h
    · rename_i hn
      injection h with h
      subst h
      obtain ⟨vs, h1, h2⟩ := key _ hl
      simp only [Reps] at h2
      obtain ⟨v, vs', rfl, h3, rfl⟩ := h2
      exact ⟨v, by simpa using h1, h3, hn⟩
    · cases h
  · rename_i l hne hl
    split at h
    · rename_i hn
      injection h with h
      subst h
      obtain ⟨vs, h1, h2⟩ := key _ hl
      have hlen := h2.length
      have h1' : vs.length ≠ 1 := by
        intro h11
        rw [h11] at hlen
        match l, hlen, hne with
        | [y], _, hne => exact hne y rfl
      refine ⟨.tuple vs.toArray, by rw [h1]; simp [h1'], ?_, by simpa [noPtr] using hn⟩
      simp only [Rep]
      exact ⟨_, rfl, h2⟩
    · cases h
  · cases h
theorem start_even (args : List AV) (t : Nat) : start args (2 * t) = args.getD t .any := by
  have h1 : 2 * t % 2 = 0 := by omega
  have h2 : 2 * t / 2 = t := by omega
  simp [start, h1, h2]
theorem start_odd (args : List AV) (h : Nat) : start args (2 * h + 1) = .any := by
  have h1 : (2 * h + 1) % 2 = 1 := by omega
  simp only [start, h1]
  rfl
theorem execFn_ok (hT : TOk P T) (hm : P.follows .mixedOrders = true) {f : Nat} {fn : Func} (hf : P.funcs[f]? = some fn) (hc : callable P f = true) : FunOk P f (execFn P T fuel fn) := by
  refine ⟨hc, fun R xs K => ?_, fun xs x h w P0 vs hR => ?_⟩
  · unfold execFn
    split
    · split
      · rw [run_nat hT, run_nat hT (R := AV), Option.bind_assoc]
        congr 1
        funext p
        obtain ⟨e, s⟩ := p
        cases e <;> dsimp only <;> first
          | rfl
          | (cases retA P fn s.σ <;> rfl)
      · rfl
    · rfl
  · unfold execFn at h
    split at h
    · rename_i c hb
      split at h
      · rename_i hlen
        have hl := hR.length
        refine calls_of_wp hf hb ?_
        have hvs : vs.size ≤ fn.ntmps := by rw [← Array.length_toList, hl]; exact hlen
        have hst : St fn.ntmps w.heap.size P0 w (fun h => (0 : Nat) ≤ h) (start xs) (fun _ => none) { tmps := vs ++ Array.replicate (fn.ntmps - vs.size) undef, defers := [] } w :=
          { below := Below.refl _ _
            base := Nat.le_refl _
            defers := rfl
            size := by simp; omega
            tmps := fun t => by
              rw [start_even]
              cases hx : xs[t]? with
              | none => simp [List.getD, hx, Rep]
              | some y =>
                obtain ⟨v, hv, hr⟩ := hR.get t hx
                have hlt : t < vs.size := by
                  have := (List.getElem?_eq_some_iff.1 hv).1
                  simpa using this
                have e1 : (vs ++ Array.replicate (fn.ntmps - vs.size) undef).getD t undef = v := by
                  rw [Array.getD_eq_getD_getElem?, Array.getElem?_append_left hlt]
                  have : vs[t]? = some v := by simpa using hv
                  rw [this]
                  rfl
                simp only [List.getD, hx, Option.getD_some, e1]
                exact Rep.move (fun _ _ h => h) (fun k hk _ => ⟨.inl hk, fun h hh => by cases hh⟩) (fun _ _ _ => rfl) _ hr
            boxes := fun h cs hh => by rw [start_odd] at hh; cases hh
            own := fun h b hh => by cases hh
            inj := fun h h' b hh => by cases hh
            fr := fun h _ => rfl }
        refine run_sound hT hm c ⟨start xs, 0⟩ _ _ _ _ _ h hst fun e s' φ' a' w' hs' hK => ?_
        have fin : (match retA P fn s'.σ with | some r => some r | none => none) = some x → a'.defers = [] ∧ ∃ v, (results fn a'.tmps).run P w' = .ok v w' ∧ ∃ u, Ending.returned v = .returned u ∧ Below w.heap.size w w' ∧ Rep (fun _ => none) w' (fun k => P0 k ∨ w.heap.size ≤ k) x u := by
          intro hK
          split at hK
          · rename_i r hr
            injection hK with hK
            subst hK
            obtain ⟨v, h1, h2, h3⟩ := retA_run hs' hr
            exact ⟨hs'.defers, v, h1, v, rfl, hs'.below, Rep.move (fun _ _ h => h) (fun k hk _ => hk.1) (fun _ _ _ => rfl) _ (Rep.free _ h3 h2)⟩
          · cases hK
        cases e with
        | normal => exact fin hK
        | ret => exact fin hK
        | exit id => cases hK
      · cases h
    · cases h
end
def oneOp' {R : Type} (P : Program) (T : Tab) (N : Nat) (nh : Nat) (ops : Array Oper) (i : Nat) (o : Oper) (σ : Nat → AV) (K : (Nat → AV) → Eff → Option R) : Option R :=
  if dstOk N o = true then
    match o.guard with
    | none => doOp P T (nh + i) σ o (K σ)
    | some (j, want) => match (ops[j]?).bind (·.dst) with
      | some t => match σ (2 * t) with
        | .bool b => if b = want then doOp P T (nh + i) (upd σ (2 * t) (.bool want)) o (K (upd σ (2 * t) (.bool want))) else K (upd σ (2 * t) (.bool (!want))) (val (.tup []))
        | .tup [] => K σ (val (.tup []))
        | _ => none
      | none => none
  else none
def runOps' {R : Type} (P : Program) (T : Tab) (N : Nat) (nh : Nat) (ops : Array Oper) : List Oper → Nat → (Nat → AV) → List (List Nat × List Nat) → ((Nat → AV) → List (List Nat × List Nat) → Option R) → Option R
  | [], _, σ, tr, K => K σ tr
  | o :: rest, i, σ, tr, K => oneOp' P T N nh ops i o σ fun σ e => runOps' P T N nh ops rest (i + 1) (put σ o.dst e) (tr ++ [(rds ops o e, wrs o e)]) K
def know (s : State) (c : Operand) (b : Bool) : State :=
  match c with
  | .tmp t => ⟨upd s.σ (2 * t) (.bool b), s.nh⟩
  | _ => s
def run' {R : Type} (P : Program) (T : Tab) (N : Nat) (fuel : Nat) : Code → State → (Ex → State → Option R) → Option R
  | .skip, s, K => K .normal s
  | .region _ ops draw, s, K =>
    runOps' P T N s.nh ops ops.toList 0 s.σ [] fun σ tr =>
      if draw = true then (if (ordered (befs ops.toList []) tr && edgesOk ops.toList 0) = true then K .normal ⟨σ, s.nh + ops.size⟩ else none) else K .normal ⟨σ, s.nh + ops.size⟩
  | .seq a b, s, K => run' P T N fuel a s fun e s' => match e with
    | .normal => run' P T N fuel b s' K
    | e => K e s'
  | .cond c a b, s, K => match ev s.σ c with
    | .bool t => if t = true then run' P T N fuel a (know s c true) K else run' P T N fuel b (know s c false) K
    | _ => none
  | .block id b, s, K => run' P T N fuel b s fun e s' => match e with
    | .exit i => if i = id then K .normal s' else K (.exit i) s'
    | e => K e s'
  | .loop b, s, K => loopN (run' P T N fuel b) fuel s K
  | .exit id, s, K => K (.exit id) s
  | .ret, s, K => K .ret s
  | _, _, _ => none
def execFn' (P : Program) (T : Tab) (fuel : Nat) (fn : Func) : Fun := fun R args K =>
  match fn.body with
  | some c =>
    if args.length ≤ fn.ntmps then
      run' P T fn.ntmps fuel c ⟨start args, 0⟩ fun e s => match e with
        | .exit _ => none
        | _ => match retA P fn s.σ with | some r => K r | none => none
    else none
  | none => none
theorem upd_same {σ : Nat → AV} {x : Nat} {v : AV} (h : σ x = v) : upd σ x v = σ := by
  funext y
  rw [upd_eq]
  split
  · rename_i e; rw [e, h]
  · rfl
section
variable {P : Program} {N nh : Nat} {ops : Array Oper} {T : Tab} {fuel : Nat}
theorem oneOp'_eq {R : Type} {i : Nat} {o : Oper} {σ : Nat → AV} (K : (Nat → AV) → Eff → Option R) : oneOp' P T N nh ops i o σ K = oneOp P T N nh ops i o σ (K σ) := by
  unfold oneOp' oneOp
  split
  · cases hg : o.guard with
    | none => rfl
    | some p =>
      obtain ⟨j, want⟩ := p
      dsimp only
      unfold yieldA
      cases (ops[j]?).bind (·.dst) with
      | none => rfl
      | some t =>
        dsimp only
        cases hs : σ (2 * t) <;> try dsimp only
        rotate_left
        · rename_i l
          cases l <;> rfl
        rename_i b
        by_cases h : b = want
        · subst h
          rw [if_pos rfl, if_pos rfl, upd_same hs]
        · rw [if_neg h, if_neg h, upd_same (by rw [hs]; cases b <;> cases want <;> simp_all)]
  · rfl
theorem runOps'_eq {R : Type} (K : (Nat → AV) → List (List Nat × List Nat) → Option R) : ∀ (rest : List Oper) (i : Nat) (σ : Nat → AV) (tr : List (List Nat × List Nat)), runOps' P T N nh ops rest i σ tr K = runOps P T N nh ops rest i σ tr K
  | [], _, _, _ => rfl
  | o :: rest, i, σ, tr => by
    simp only [runOps', runOps, oneOp'_eq]
    congr 1
    funext e
    exact runOps'_eq K rest (i + 1) _ _
theorem know_eq {s : State} {c : Operand} {b : Bool} (h : ev s.σ c = .bool b) : know s c b = s := by
  cases c <;> simp only [know]
  rw [upd_same h]
theorem loopN_congr {R : Type} {f g : State → (Ex → State → Option R) → Option R} (h : ∀ s K, f s K = g s K) (K : Ex → State → Option R) : ∀ (n : Nat) (s : State), loopN f n s K = loopN g n s K
  | 0, _ => rfl
  | n + 1, s => by
    simp only [loopN, h]
    congr 1
    funext e s'
    cases e <;> simp only
    exact loopN_congr h K n s'
theorem run'_eq : ∀ (c : Code) {R : Type} (s : State) (K : Ex → State → Option R), run' P T N fuel c s K = run P T N fuel c s K := by
  intro c
  induction c with
  | region id ops draw => intro R s K; simp only [run', run, runOps'_eq]
  | seq x y ihx ihy =>
    intro R s K
    simp only [run', run, ihx]
    congr 1
    funext e s'
    cases e <;> simp only [ihy]
  | cond c x y ihx ihy =>
    intro R s K
    simp only [run', run]
    cases hc : ev s.σ c <;> simp only [ihx, ihy]
    rename_i t
    cases t with
    | true => rw [if_pos rfl, if_pos rfl, know_eq hc]
    | false => rw [if_neg (by decide), if_neg (by decide), know_eq hc]
  | block id b ih =>
    intro R s K
    simp only [run', run, ih]
    try congr 1
  | loop b ih => intro R s K; simp only [run', run]; exact loopN_congr (fun s K => ih s K) K fuel s
  | _ => intro R s K; rfl
theorem execFn'_eq (fn : Func) : execFn' P T fuel fn = execFn P T fuel fn := by
  funext R args K
  unfold execFn' execFn
  cases fn.body with
  | none => rfl
  | some c =>
    dsimp only
    split
    · rw [run'_eq]
      try congr 1
    · rfl
theorem execFn'_ok (hT : TOk P T) (hm : P.follows .mixedOrders = true) {f : Nat} {fn : Func} (hf : P.funcs[f]? = some fn) (hc : callable P f = true) : FunOk P f (execFn' P T fuel fn) := by
  rw [execFn'_eq]
  exact execFn_ok hT hm hf hc
end
abbrev CF (A B : Type) := (R : Type) → A → (B → Option R) → Option R
structure Cd (A : Type) where
  dec : AV → Option A
  enc : A → AV
  ok : ∀ {φ : Nat → Option Nat} {W : World} {o : Nat → Prop} {x : AV} {v : Value} {a : A}, Rep φ W o x v → dec x = some a → Rep φ W o (enc a) v
structure Cds (A : Type) where
  dec : List AV → Option A
  enc : A → List AV
  ok : ∀ {φ : Nat → Option Nat} {W : World} {o : Nat → Prop} {x : List AV} {v : List Value} {a : A}, Reps φ W o x v → dec x = some a → Reps φ W o (enc a) v
def cb : Cd Bool where
  dec x := match x with | .bool b => some b | _ => none
  enc := .bool
  ok := fun {φ W o x v a} h e => by cases x <;> simp only [] at e <;> first | (cases e; done) | (injection e with e; subst e; exact h)
def cs : Cd ByteArray where
  dec x := match x with | .str b => some b | _ => none
  enc := .str
  ok := fun {φ W o x v a} h e => by cases x <;> simp only [] at e <;> first | (cases e; done) | (injection e with e; subst e; exact h)
def ci (k : IntKind) : Cd Int where
  dec x := match x with | .int k' n => if k' = k then some n else none | _ => none
  enc := .int k
  ok := fun {φ W o x v a} h e => by
    cases x <;> simp only [] at e <;> try (cases e; done)
    split at e
    · rename_i hk
      injection e with e
      subst e hk
      exact h
    · cases e
def cr (k : IntKind) : Cd (List Int) where
  dec x := match x with | .nil => some [] | .row k' l => if k' = k then some l else none | _ => none
  enc := .row k
  ok := fun {φ W o x v a} h e => by
    cases x <;> simp only [] at e <;> try (cases e; done)
    · injection e with e
      subst e
      simp only [Rep] at h ⊢
      subst h
      exact ⟨none, 0, rfl, Nat.le_refl _, fun W' _ => Kd.C_nil _ _⟩
    · split at e
      · rename_i hk
        injection e with e
        subst e hk
        exact h
      · cases e
def agg {A : Type} (c : Cds A) : Cd A where
  dec x := match x with | .agg l => c.dec l | _ => none
  enc a := .agg (c.enc a)
  ok := fun {φ W o x v a} h e => by
    cases x <;> simp only [] at e <;> try (cases e; done)
    simp only [Rep] at h ⊢
    obtain ⟨cs, h1, h2⟩ := h
    exact ⟨cs, h1, c.ok h2 e⟩
def tup {A : Type} (c : Cds A) : Cd A where
  dec x := match x with | .tup l => c.dec l | _ => none
  enc a := .tup (c.enc a)
  ok := fun {φ W o x v a} h e => by
    cases x <;> simp only [] at e <;> try (cases e; done)
    simp only [Rep] at h ⊢
    obtain ⟨cs, h1, h2⟩ := h
    exact ⟨cs, h1, c.ok h2 e⟩
def one {A : Type} (c : Cd A) : Cds A where
  dec l := match l with | [x] => c.dec x | _ => none
  enc a := [c.enc a]
  ok := fun {φ W o x v a} h e => by
    split at e
    · simp only [Reps] at h ⊢
      obtain ⟨v, vs', h1, h2, h3⟩ := h
      exact ⟨v, vs', h1, c.ok h2 e, h3⟩
    · cases e
def more {A B : Type} (c : Cd A) (cs : Cds B) : Cds (A × B) where
  dec l := match l with | x :: l => (match c.dec x with | some a => (match cs.dec l with | some b => some (a, b) | none => none) | none => none) | [] => none
  enc a := c.enc a.1 :: cs.enc a.2
  ok := fun {φ W o x v a} h e => by
    split at e
    · split at e
      · rename_i a1 h1
        split at e
        · rename_i b1 h2
          injection e with e
          subst e
          simp only [Reps] at h ⊢
          obtain ⟨v, vs', k1, k2, k3⟩ := h
          exact ⟨v, vs', k1, c.ok k2 h1, cs.ok k3 h2⟩
        · cases e
      · cases e
    · cases e
def arr {A : Type} (n : Nat) (c : Cds A) : Cd A where
  dec x := match x with | .arr m l => if m = n ∧ (c.dec l).isSome ∧ ((c.dec l).map fun a => (c.enc a).length) = some l.length then c.dec l else none | _ => none
  enc a := .arr n (c.enc a)
  ok := fun {φ W o x v a} h e => by
    cases x <;> simp only [] at e <;> try (cases e; done)
    split at e
    · rename_i hk
      obtain ⟨rfl, h1, h2⟩ := hk
      simp only [Rep] at h ⊢
      rw [e] at h2
      injection h2 with h2
      obtain ⟨p, n, cc, vs, k1, k2, k3, k4, k5, k6⟩ := h
      exact ⟨p, n, cc, vs, k1, k2, by rw [k3]; exact h2.symm, k4, k5, c.ok k6 e⟩
    · cases e
abbrev Nm := Bool × List Int × List Int
def rU := cr .u32
def rI := cr .i64
def iI := ci .i64
def kN : Cd Nm := agg (more cb (more rU (one rU)))
def kQ : Cd Nm := agg (more cb (more rI (one rI)))
def kE : Cd (Nm × Int) := tup (more kN (one iI))
def mk {A B : Type} (ca : Cds A) (cb : Cd B) (c : (R : Type) → A → (B → Option R) → Option R) : Fun := fun R ys K => match ca.dec ys with | some a => c R a fun b => K (cb.enc b) | none => none
theorem mk_ok {P : Program} {f : Nat} {A B : Type} {ca : Cds A} {cb : Cd B} {c : (R : Type) → A → (B → Option R) → Option R} (hc : callable P f = true) (hn : ∀ (R : Type) a (K : B → Option R), c R a K = (c B a some).bind K) (h : ∀ a b, c B a some = some b → PureC P f (ca.enc a) (cb.enc b)) : FunOk P f (mk ca cb c) := by
  refine ⟨hc, fun R xs K => ?_, fun xs x hx => ?_⟩
  · unfold mk
    split
    · rename_i a ha
      rw [hn R, hn AV, Option.bind_assoc]
      rfl
    · rfl
  · unfold mk at hx
    split at hx
    · rename_i a ha
      rw [hn] at hx
      obtain ⟨b, h1, h2⟩ := Option.bind_eq_some_iff.1 hx
      injection h2 with h2
      subst h2
      exact fun w P0 vs hr => h a b h1 w P0 vs (ca.ok hr ha)
    · cases hx
def dk {B R : Type} (c : Cd B) (K : B → Option R) (x : AV) : Option R := match c.dec x with | some b => K b | none => none
theorem exec_nat {P : Program} {T : Tab} {fuel f : Nat} {fn : Func} {A B : Type} {enc : A → List AV} {cb : Cd B} {c : (R : Type) → A → (B → Option R) → Option R} (hT : TOk P T) (hm : P.follows .mixedOrders = true) (hf : P.funcs[f]? = some fn) (hc : callable P f = true)
    (h : ∀ (R : Type) a (K : B → Option R), execFn' P T fuel fn R (enc a) (dk cb K) = c R a K) (R : Type) (a : A) (K : B → Option R) : c R a K = (c B a some).bind K := by
  have hF := execFn'_ok (fuel := fuel) hT hm hf hc
  rw [← h, ← h, hF.2.1 R, hF.2.1 B, Option.bind_assoc]
  congr 1
  funext x
  unfold dk
  cases cb.dec x <;> rfl
theorem exec_pure {P : Program} {T : Tab} {fuel f : Nat} {fn : Func} {A B : Type} {enc : A → List AV} {cb : Cd B} {c : (R : Type) → A → (B → Option R) → Option R} (hT : TOk P T) (hm : P.follows .mixedOrders = true) (hf : P.funcs[f]? = some fn) (hc : callable P f = true)
    (h : ∀ (R : Type) a (K : B → Option R), execFn' P T fuel fn R (enc a) (dk cb K) = c R a K) (a : A) (b : B) (hb : c B a some = some b) : PureC P f (enc a) (cb.enc b) := by
  have hF := execFn'_ok (fuel := fuel) hT hm hf hc
  rw [← h, hF.2.1 B] at hb
  obtain ⟨x, h1, h2⟩ := Option.bind_eq_some_iff.1 hb
  unfold dk at h2
  split at h2
  · rename_i b' hb'
    injection h2 with h2
    subst h2
    intro w P0 vs hr
    refine Calls.mono (hF.2.2 _ _ h1 w P0 vs hr) fun e w' he => ?_
    obtain ⟨v, e1, e2, e3⟩ := he
    exact ⟨v, e1, e2, cb.ok e3 hb'⟩
  · cases h2
def Shown (P : Program) (f : Nat) {A B : Type} (enc : A → List AV) (cb : Cd B) (c : CF A B) : Prop := (∀ (R : Type) a (K : B → Option R), c R a K = (c B a some).bind K) ∧ ∀ a b, c B a some = some b → PureC P f (enc a) (cb.enc b)
theorem exec_shown {P : Program} {T : Tab} {fuel f : Nat} {fn : Func} {A B : Type} {enc : A → List AV} {cb : Cd B} {c : CF A B} (hT : TOk P T) (hm : P.follows .mixedOrders = true) (hf : P.funcs[f]? = some fn) (hc : callable P f = true)
    (h : ∀ (R : Type) a (K : B → Option R), execFn' P T fuel fn R (enc a) (dk cb K) = c R a K) : Shown P f enc cb c := ⟨exec_nat hT hm hf hc h, exec_pure hT hm hf hc h⟩
theorem Shown.ok {P : Program} {f : Nat} {A B : Type} {ca : Cds A} {cb : Cd B} {c : CF A B} (h : Shown P f ca.enc cb c) (hc : callable P f = true) : FunOk P f (mk ca cb c) := mk_ok hc h.1 h.2
def Evt {A : Type} (g : Nat → Option A) (a : A) : Prop := ∃ k0, ∀ k, k0 ≤ k → g k = some a
open Classical in
noncomputable def lim {A : Type} (g : Nat → Option A) : Option A := if h : ∃ a, Evt g a then some h.choose else none
theorem Evt.unique {A : Type} {g : Nat → Option A} {a b : A} (h : Evt g a) (h' : Evt g b) : a = b := by
  obtain ⟨n, h1⟩ := h
  obtain ⟨m, h2⟩ := h'
  have e1 := h1 (max n m) (Nat.le_max_left _ _)
  have e2 := h2 (max n m) (Nat.le_max_right _ _)
  rw [e1] at e2
  injection e2
theorem lim_ev {A : Type} {g : Nat → Option A} {a : A} (h : Evt g a) : lim g = some a := by
  have hx : ∃ a, Evt g a := ⟨a, h⟩
  unfold lim
  rw [dif_pos hx]
  exact congrArg some (hx.choose_spec.unique h)
theorem lim_some {A : Type} {g : Nat → Option A} {a : A} (h : lim g = some a) : ∃ k, g k = some a := by
  unfold lim at h
  split at h
  · rename_i hx
    injection h with h
    obtain ⟨k, hk⟩ := hx.choose_spec
    exact ⟨k, by rw [← h]; exact hk k (Nat.le_refl k)⟩
  · cases h
noncomputable def lm {A B : Type} (g : A → Nat → Option B) (R : Type) (a : A) (K : B → Option R) : Option R := (lim (g a)).bind K
def at' {A B : Type} (g : A → Option B) (R : Type) (a : A) (K : B → Option R) : Option R := (g a).bind K
theorem lm_ok {P : Program} {f : Nat} {A B : Type} {ca : Cds A} {cb : Cd B} {g : A → Nat → Option B} (hc : callable P f = true) (h : ∀ a b k, g a k = some b → PureC P f (ca.enc a) (cb.enc b)) : FunOk P f (mk ca cb (lm g)) := by
  refine mk_ok hc (fun R a K => by unfold lm; cases lim (g a) <;> rfl) fun a b hb => ?_
  unfold lm at hb
  obtain ⟨x, h1, h2⟩ := Option.bind_eq_some_iff.1 hb
  injection h2 with h2
  subst h2
  obtain ⟨k, hk⟩ := lim_some h1
  exact h a x k hk
theorem at_ok {P : Program} {f : Nat} {A B : Type} {ca : Cds A} {cb : Cd B} {g : A → Option B} (hc : callable P f = true) (h : ∀ a b, g a = some b → PureC P f (ca.enc a) (cb.enc b)) : FunOk P f (mk ca cb (at' g)) := by
  refine mk_ok hc (fun R a K => by unfold at'; cases g a <;> rfl) fun a b hb => ?_
  unfold at' at hb
  obtain ⟨x, h1, h2⟩ := Option.bind_eq_some_iff.1 hb
  injection h2 with h2
  subst h2
  exact h a x h1
theorem lm_ev {A B R : Type} {g : A → Nat → Option B} {a : A} {b : B} (h : Evt (g a) b) (K : B → Option R) : lm g R a K = K b := by unfold lm; rw [lim_ev h]; rfl
theorem at_eq {A B R : Type} {g : A → Option B} {a : A} {b : B} (h : g a = some b) (K : B → Option R) : at' g R a K = K b := by unfold at'; rw [h]; rfl
def tb : List (Nat × Fun) → Tab
  | [], _ => none
  | (n, F) :: l, g => bif Nat.beq n g then some F else tb l g
theorem tb_nil {P : Program} : TOk P (tb []) := fun g F h => by cases h
theorem tb_cons {P : Program} {n : Nat} {F : Fun} {l : List (Nat × Fun)} (h : FunOk P n F) (hl : TOk P (tb l)) : TOk P (tb ((n, F) :: l)) := fun g G hg => by
  simp only [tb] at hg
  cases hb : Nat.beq n g with
  | true =>
    rw [hb] at hg
    injection hg with hg
    have := Nat.eq_of_beq_eq_true hb
    subst this hg
    exact h
  | false =>
    rw [hb] at hg
    exact hl g G hg
section
variable {φ : Nat → Option Nat} {w W : World} {o ok' : Nat → Prop} {xs : List AV} {vs : List Value} {v : Value} {k : IntKind} {l : List Int}
theorem at_row (h : Reps φ w o (.row k l :: xs) vs) : ∃ A c vs', vs = .slice A l.length c :: vs' ∧ l.length ≤ c ∧ Kd.F (Kd.int k) w o A l.length l ∧ Reps φ w o xs vs' := by
  simp only [Reps, Rep] at h
  obtain ⟨v, vs', h1, ⟨A, c, rfl, h2, h3⟩, h4⟩ := h
  exact ⟨A, c, vs', h1, h2, h3, h4⟩
theorem at_int {n : Int} (h : Reps φ w o (.int k n :: xs) vs) : ∃ vs', vs = .int k n :: vs' ∧ Reps φ w o xs vs' := by
  simp only [Reps, Rep] at h
  obtain ⟨v, vs', h1, rfl, h4⟩ := h
  exact ⟨vs', h1, h4⟩
theorem at_bool {b : Bool} (h : Reps φ w o (.bool b :: xs) vs) : ∃ vs', vs = .bool b :: vs' ∧ Reps φ w o xs vs' := by
  simp only [Reps, Rep] at h
  obtain ⟨v, vs', h1, rfl, h4⟩ := h
  exact ⟨vs', h1, h4⟩
theorem at_str {b : ByteArray} (h : Reps φ w o (.str b :: xs) vs) : ∃ vs', vs = .string b :: vs' ∧ Reps φ w o xs vs' := by
  simp only [Reps, Rep] at h
  obtain ⟨v, vs', h1, rfl, h4⟩ := h
  exact ⟨vs', h1, h4⟩
theorem at_nil (h : Reps φ w o [] vs) : vs = [] := by simpa only [Reps] using h
theorem at_agg {m : List AV} (h : Reps φ w o (.agg m :: xs) vs) : ∃ cs vs', vs = .agg cs :: vs' ∧ Reps φ w o m cs.toList ∧ Reps φ w o xs vs' := by
  simp only [Reps, Rep] at h
  obtain ⟨v, vs', h1, ⟨cs, rfl, h2⟩, h4⟩ := h
  exact ⟨cs, vs', h1, h2, h4⟩
theorem V_row {e b : Nat} (h : Kd.V (Kd.int k) e W b o v l) (hok : ∀ n, o n → ok' n) : Rep φ W ok' (.row k l) v := by
  obtain ⟨A, c, h1, h2, h3⟩ := h
  simp only [Rep]
  exact ⟨A, c, h1, h2, Kd.F_mono h3 hok⟩
theorem R_new {e b : Nat} (h : (Kd.int k).R e W b o v l) (hok : ∀ n, b ≤ n → ok' n) : Rep φ W ok' (.row k l) v := V_row (Kd.V_mono (Kd.R_V (base' := b) (Kd.R_bound h)) fun k hk => hok k hk.2.1) fun _ h => h
theorem now {A : Option Addr} {n : Nat} (h : Kd.F (Kd.int k) w o A n l) : Kd.C (Kd.int k) w A n l := Foot.now h
theorem rowV {A : Option Addr} {c e b : Nat} (h : Kd.F (Kd.int k) w o A l.length l) (hl : l.length ≤ c) : Kd.V (Kd.int k) e w b (fun n => o n) (.slice A l.length c) l := Kd.V_mk hl h
theorem rep_tup2 {x y : AV} {u : Value} (h : Rep φ W o x v) (h' : Rep φ W o y u) : Rep φ W o (.tup [x, y]) (.tuple #[v, u]) := by
  simp only [Rep, Reps]
  exact ⟨_, rfl, v, [u], rfl, h, u, [], rfl, h', rfl⟩
theorem rep_tup3 {x y z : AV} {u t : Value} (h : Rep φ W o x v) (h' : Rep φ W o y u) (h'' : Rep φ W o z t) : Rep φ W o (.tup [x, y, z]) (.tuple #[v, u, t]) := by
  simp only [Rep, Reps]
  exact ⟨_, rfl, v, [u, t], rfl, h, u, [t], rfl, h', t, [], rfl, h'', rfl⟩
theorem rep_agg3 {x y z : AV} {u t : Value} (h : Rep φ W o x v) (h' : Rep φ W o y u) (h'' : Rep φ W o z t) : Rep φ W o (.agg [x, y, z]) (.agg #[v, u, t]) := by
  simp only [Rep, Reps]
  exact ⟨_, rfl, v, [u, t], rfl, h, u, [t], rfl, h', t, [], rfl, h'', rfl⟩
theorem row_C {A : Option Addr} {c : Nat} (h : l.length ≤ c) (hc : Kd.C (Kd.int k) w A l.length l) : Rep φ w (fun n => n < w.heap.size) (.row k l) (.slice A l.length c) := by
  simp only [Rep]
  exact ⟨A, c, rfl, h, Kd.C_F (Kd.heap_int k) hc⟩
theorem rep_num {A A' : Option Addr} {c c' : Nat} {l' : List Int} (b : Bool) (h : l.length ≤ c) (hc : Kd.C (Kd.int k) w A l.length l) (h' : l'.length ≤ c') (hc' : Kd.C (Kd.int k) w A' l'.length l') : Rep φ w (fun n => n < w.heap.size) (.agg [.bool b, .row k l, .row k l']) (.agg #[.bool b, .slice A l.length c, .slice A' l'.length c']) :=
  rep_agg3 (by simp only [Rep]) (row_C h hc) (row_C h' hc')
theorem rep_int3 (n : Int) : Rep φ w o (.int k n) (.int k n) := by simp only [Rep]
theorem reps_cons {x : AV} (h : Rep φ w o x v) (h' : Reps φ w o xs vs) : Reps φ w o (x :: xs) (v :: vs) := by
  simp only [Reps]
  exact ⟨v, vs, rfl, h, h'⟩
theorem reps_nil : Reps φ w o [] [] := by simp only [Reps]
end
def none0 : Cds Unit where
  dec l := match l with | [] => some () | _ => none
  enc _ := []
  ok := fun {φ W o x v a} h e => by
    split at e
    · exact h
    · cases e
end Go.Proofs.YtemnjgkicndmjaaDoor.E
namespace Go.Proofs.YtemnjgkicndmjaaDoor.Q
open Go.RowKit Go.Proofs.YtemnjgkicndmjaaDoorW.PrintWords Go.Proofs.YtemnjgkicndmjaaDoorW.PrintLast Go.Proofs.YtemnjgkicndmjaaDoorW.PrintMore
def val (B : Int) : List Int → Int
  | [] => 0
  | x :: xs => x + B * val B xs
def Lim (B : Int) (xs : List Int) : Prop := ∀ x, x ∈ xs → 0 ≤ x ∧ x < B
def Nrm (xs : List Int) : Prop := ∀ x, xs.getLast? = some x → x ≠ 0
theorem lim_nil (B : Int) : Lim B [] := by intro x h; cases h
theorem lim_cons {B x : Int} {xs : List Int} : Lim B (x :: xs) ↔ (0 ≤ x ∧ x < B) ∧ Lim B xs := by
  constructor
  · intro h; exact ⟨h x (by simp), fun y hy => h y (by simp [hy])⟩
  · rintro ⟨h1, h2⟩ y hy
    rcases List.mem_cons.1 hy with rfl | hy
    · exact h1
    · exact h2 y hy
theorem lim_append {B : Int} {xs ys : List Int} : Lim B (xs ++ ys) ↔ Lim B xs ∧ Lim B ys := by
  constructor
  · intro h; exact ⟨fun y hy => h y (by simp [hy]), fun y hy => h y (by simp [hy])⟩
  · rintro ⟨h1, h2⟩ y hy
    rcases List.mem_append.1 hy with hy | hy
    · exact h1 y hy
    · exact h2 y hy
theorem Lim.take {B : Int} {xs : List Int} (h : Lim B xs) (n : Nat) : Lim B (xs.take n) := fun y hy => h y (List.mem_of_mem_take hy)
theorem Lim.drop {B : Int} {xs : List Int} (h : Lim B xs) (n : Nat) : Lim B (xs.drop n) := fun y hy => h y (List.mem_of_mem_drop hy)
theorem Lim.set {B : Int} {xs : List Int} (h : Lim B xs) (n : Nat) {v : Int} (hv : 0 ≤ v ∧ v < B) : Lim B (xs.set n v) := by
  intro y hy
  rcases List.mem_or_eq_of_mem_set hy with hy | rfl
  · exact h y hy
  · exact hv
theorem lim_replicate {B : Int} (hB : 0 < B) (n : Nat) : Lim B (List.replicate n 0) := by
  intro y hy
  have := List.eq_of_mem_replicate hy
  subst this
  exact ⟨Int.le_refl _, hB⟩
theorem Lim.getD {B : Int} {xs : List Int} (hB : 0 < B) (h : Lim B xs) (n : Nat) : 0 ≤ xs.getD n 0 ∧ xs.getD n 0 < B := by
  rw [List.getD_eq_getElem?_getD]
  rcases Nat.lt_or_ge n xs.length with hn | hn
  · rw [List.getElem?_eq_getElem hn]; exact h _ (List.getElem_mem hn)
  · rw [List.getElem?_eq_none hn]; exact ⟨Int.le_refl _, hB⟩
theorem val_append (B : Int) (xs ys : List Int) : val B (xs ++ ys) = val B xs + B ^ xs.length * val B ys := by
  induction xs with
  | nil => simp [val]
  | cons x xs ih => simp only [List.cons_append, val, ih, List.length_cons, Int.pow_succ]; grind
theorem val_snoc (B : Int) (xs : List Int) (x : Int) : val B (xs ++ [x]) = val B xs + B ^ xs.length * x := by
  rw [val_append]; simp [val]
theorem val_replicate (B : Int) (n : Nat) : val B (List.replicate n 0) = 0 := by
  induction n with
  | zero => rfl
  | succ n ih => simp [List.replicate_succ, val, ih]
theorem pow_pos' {B : Int} (hB : 0 < B) (n : Nat) : 0 < B ^ n := Int.pow_pos hB
theorem pow_mono' {B : Int} (hB : 0 < B) {m n : Nat} (h : m ≤ n) : B ^ m ≤ B ^ n := by
  induction h with
  | refl => exact Int.le_refl _
  | step _ ih =>
    rw [Int.pow_succ]
    have := pow_pos' hB
    rename_i n _
    have h2 : B ^ n * 1 ≤ B ^ n * B := Int.mul_le_mul_of_nonneg_left (by omega) (Int.le_of_lt (this n))
    omega
theorem val_nonneg {B : Int} (hB : 0 < B) {xs : List Int} (h : Lim B xs) : 0 ≤ val B xs := by
  induction xs with
  | nil => exact Int.le_refl _
  | cons x xs ih =>
    obtain ⟨h1, h2⟩ := lim_cons.1 h
    have := Int.mul_nonneg (Int.le_of_lt hB) (ih h2)
    simp only [val]; omega
theorem val_lt {B : Int} (hB : 0 < B) {xs : List Int} (h : Lim B xs) : val B xs < B ^ xs.length := by
  induction xs with
  | nil => simp [val]
  | cons x xs ih =>
    obtain ⟨h1, h2⟩ := lim_cons.1 h
    have h3 := ih h2
    have h4 : B * (val B xs + 1) ≤ B * B ^ xs.length := Int.mul_le_mul_of_nonneg_left (by omega) (by omega)
    simp only [val, List.length_cons, Int.pow_succ]
    grind
theorem nrm_nil : Nrm [] := by intro x h; cases h
theorem nrm_snoc {xs : List Int} {x : Int} : Nrm (xs ++ [x]) ↔ x ≠ 0 := by
  simp [Nrm]
theorem nrm_cons {x : Int} {xs : List Int} (h : Nrm (x :: xs)) : Nrm xs := by
  intro y hy
  refine h y ?_
  rw [List.getLast?_cons, hy]; simp
theorem val_ge {B : Int} (hB : 0 < B) {xs : List Int} (h : Lim B xs) (hn : Nrm xs) (h0 : xs ≠ []) : B ^ (xs.length - 1) ≤ val B xs := by
  obtain ⟨ys, y, rfl⟩ : ∃ ys y, xs = ys ++ [y] := ⟨xs.dropLast, xs.getLast h0, (List.dropLast_concat_getLast h0).symm⟩
  have hy := nrm_snoc.1 hn
  obtain ⟨h1, h2⟩ := lim_append.1 h
  have h3 := (lim_cons.1 h2).1
  have h4 := val_nonneg hB h1
  rw [val_snoc]
  have h5 : B ^ ys.length * 1 ≤ B ^ ys.length * y := Int.mul_le_mul_of_nonneg_left (by omega) (Int.le_of_lt (pow_pos' hB _))
  simp only [List.length_append, List.length_singleton, Nat.add_sub_cancel]
  omega
theorem val_eq_zero {B : Int} (hB : 0 < B) {xs : List Int} (h : Lim B xs) (hn : Nrm xs) : val B xs = 0 ↔ xs = [] := by
  constructor
  · intro h0
    by_cases e : xs = []
    · exact e
    · have := val_ge hB h hn e
      have := pow_pos' hB (xs.length - 1)
      omega
  · rintro rfl; rfl
theorem val_pos {B : Int} (hB : 0 < B) {xs : List Int} (h : Lim B xs) (hn : Nrm xs) (h0 : xs ≠ []) : 0 < val B xs := by
  have := val_ge hB h hn h0
  have := pow_pos' hB (xs.length - 1)
  omega
theorem digit_unique {B x y a b : Int} (hx : 0 ≤ x ∧ x < B) (hy : 0 ≤ y ∧ y < B) (h : x + B * a = y + B * b) : x = y ∧ a = b := by
  have hB : 0 < B := by omega
  have e1 : (x + B * a) % B = x := by rw [Int.add_mul_emod_self_left, Int.emod_eq_of_lt hx.1 hx.2]
  have e2 : (y + B * b) % B = y := by rw [Int.add_mul_emod_self_left, Int.emod_eq_of_lt hy.1 hy.2]
  have e : x = y := by rw [← e1, ← e2, h]
  refine ⟨e, ?_⟩
  subst e
  have : B * a = B * b := by omega
  exact Int.eq_of_mul_eq_mul_left (by omega) this
theorem val_inj {B : Int} (hB : 0 < B) {xs ys : List Int} (hx : Lim B xs) (hy : Lim B ys) (nx : Nrm xs) (ny : Nrm ys) (h : val B xs = val B ys) : xs = ys := by
  induction xs generalizing ys with
  | nil => exact ((val_eq_zero hB hy ny).1 h.symm).symm
  | cons x xs ih =>
    cases ys with
    | nil => exact (val_eq_zero hB hx nx).1 h
    | cons y ys =>
      obtain ⟨a1, a2⟩ := lim_cons.1 hx
      obtain ⟨b1, b2⟩ := lim_cons.1 hy
      obtain ⟨e, e'⟩ := digit_unique a1 b1 h
      rw [e, ih a2 b2 (nrm_cons nx) (nrm_cons ny) e']
theorem val_split (B : Int) (xs : List Int) (i : Nat) (h : i ≤ xs.length) : val B xs = val B (xs.take i) + B ^ i * val B (xs.drop i) := by
  have := val_append B (xs.take i) (xs.drop i)
  rw [List.take_append_drop, List.length_take, Nat.min_eq_left h] at this
  exact this
theorem take_succ' (xs : List Int) (i : Nat) (h : i < xs.length) : xs.take (i + 1) = xs.take i ++ [xs.getD i 0] := by
  rw [List.take_succ_eq_append_getElem h, List.getD_eq_getElem?_getD, List.getElem?_eq_getElem h]; rfl
theorem drop_cons' (xs : List Int) (i : Nat) (h : i < xs.length) : xs.drop i = xs.getD i 0 :: xs.drop (i + 1) := by
  rw [List.drop_eq_getElem_cons h, List.getD_eq_getElem?_getD, List.getElem?_eq_getElem h]; rfl
theorem val_take_succ (B : Int) (xs : List Int) (i : Nat) (h : i < xs.length) : val B (xs.take (i + 1)) = val B (xs.take i) + B ^ i * xs.getD i 0 := by
  rw [take_succ' xs i h, val_snoc, List.length_take, Nat.min_eq_left (by omega)]
theorem val_drop (B : Int) (xs : List Int) (i : Nat) (h : i < xs.length) : val B (xs.drop i) = xs.getD i 0 + B * val B (xs.drop (i + 1)) := by
  rw [drop_cons' xs i h]; rfl
theorem val_set (B : Int) (xs : List Int) (i : Nat) (v : Int) (h : i < xs.length) : val B (xs.set i v) = val B xs + B ^ i * (v - xs.getD i 0) := by
  induction xs generalizing i with
  | nil => simp at h
  | cons x xs ih =>
    cases i with
    | zero => simp [val]; omega
    | succ i =>
      simp only [List.length_cons, Nat.add_lt_add_iff_right] at h
      simp only [List.set_cons_succ, val, ih i h, Int.pow_succ, List.getD_cons_succ]
      grind
def trim (xs : List Int) : List Int := (xs.reverse.dropWhile (· == 0)).reverse
theorem trim_snoc_zero (xs : List Int) : trim (xs ++ [0]) = trim xs := by simp [trim]
theorem trim_snoc (xs : List Int) {x : Int} (h : x ≠ 0) : trim (xs ++ [x]) = xs ++ [x] := by simp [trim, h]
theorem snoc_induction {P : List Int → Prop} (h0 : P []) (h1 : ∀ xs x, P xs → P (xs ++ [x])) (xs : List Int) : P xs := by
  have key : ∀ n, ∀ xs : List Int, xs.length = n → P xs := by
    intro n
    induction n with
    | zero => intro xs h; rw [List.eq_nil_of_length_eq_zero h]; exact h0
    | succ n ih =>
      intro xs h
      have h2 : xs ≠ [] := by rintro rfl; simp at h
      rw [← List.dropLast_concat_getLast h2]
      exact h1 _ _ (ih _ (by simp [h]))
  exact key _ xs rfl
theorem val_trim (B : Int) (xs : List Int) : val B (trim xs) = val B xs := by
  induction xs using snoc_induction with
  | h0 => rfl
  | h1 xs x ih =>
    by_cases h : x = 0
    · subst h; rw [trim_snoc_zero, ih, val_snoc]; simp
    · rw [trim_snoc xs h]
theorem nrm_trim (xs : List Int) : Nrm (trim xs) := by
  induction xs using snoc_induction with
  | h0 => exact nrm_nil
  | h1 xs x ih =>
    by_cases h : x = 0
    · subst h; rw [trim_snoc_zero]; exact ih
    · rw [trim_snoc xs h]; exact nrm_snoc.2 h
theorem trim_prefix (xs : List Int) : ∃ n, trim xs = xs.take n := by
  induction xs using snoc_induction with
  | h0 => exact ⟨0, rfl⟩
  | h1 xs x ih =>
    by_cases h : x = 0
    · subst h
      obtain ⟨n, hn⟩ := ih
      refine ⟨min n xs.length, ?_⟩
      rw [trim_snoc_zero, hn, List.take_append_of_le_length (by omega)]
      rw [List.take_eq_take_min]
    · refine ⟨xs.length + 1, ?_⟩
      rw [trim_snoc xs h, List.take_of_length_le (by simp)]
theorem lim_trim {B : Int} {xs : List Int} (h : Lim B xs) : Lim B (trim xs) := by
  obtain ⟨n, hn⟩ := trim_prefix xs
  rw [hn]; exact h.take n
theorem length_trim (xs : List Int) : (trim xs).length ≤ xs.length := by
  obtain ⟨n, hn⟩ := trim_prefix xs
  rw [hn, List.length_take]; omega
theorem val_split' (B : Int) (zs : List Int) (i : Nat) : val B zs = val B (zs.take i) + B ^ i * val B (zs.drop i) := by
  by_cases h : i ≤ zs.length
  · exact val_split _ zs i h
  · rw [List.take_of_length_le (by omega), List.drop_of_length_le (by omega)]; simp [val]
theorem val_take_succ' (B : Int) (zs : List Int) (i : Nat) : val B (zs.take (i + 1)) = val B (zs.take i) + B ^ i * zs.getD i 0 := by
  by_cases h : i < zs.length
  · exact val_take_succ _ zs i h
  · rw [List.take_of_length_le (by omega), List.take_of_length_le (by omega), List.getD_eq_getElem?_getD, List.getElem?_eq_none (by omega)]; simp
theorem val_drop' (B : Int) (zs : List Int) (i : Nat) : val B (zs.drop i) = zs.getD i 0 + B * val B (zs.drop (i + 1)) := by
  by_cases h : i < zs.length
  · exact val_drop _ zs i h
  · rw [List.drop_of_length_le (by omega), List.drop_of_length_le (by omega), List.getD_eq_getElem?_getD, List.getElem?_eq_none (by omega)]; simp [val]
theorem lim_nrm_snoc {B : Int} {xs : List Int} {x : Int} (h : Lim B xs) (hx : 0 ≤ x ∧ x < B) : Lim B (xs ++ [x]) := lim_append.2 ⟨h, by intro y hy; rw [List.mem_singleton] at hy; rw [hy]; exact hx⟩
theorem w64 {x : Int} (h1 : -9223372036854775808 ≤ x) (h2 : x ≤ 9223372036854775807) : wrap64 x = x := by unfold wrap64; omega
theorem u64w (n : Int) : IntKind.u64.wrap n = n % 18446744073709551616 := by simp [IntKind.wrap, IntKind.bits, IntKind.signed]
theorem u64_id {x : Int} (h1 : 0 ≤ x) (h2 : x < 18446744073709551616) : IntKind.u64.wrap x = x := by rw [u64w]; omega
theorem bits_or_shift {a b : Int} (ha0 : 0 ≤ a) (ha : a < 4294967296) (hb0 : 0 ≤ b) (hb : b < 4294967296) : Go.bits .or .u64 (a * 4294967296) b = a * 4294967296 + b := by
  rw [u64_or _ _ (by omega) (by omega) hb0 (by omega), nat_join 32 _ _ (by omega) (by omega)]
  omega
theorem bits_or_shift' {a b : Int} (ha0 : 0 ≤ a) (ha : a < 4294967296) (hb0 : 0 ≤ b) (hb : b < 4294967296) : Go.bits .or .u64 b (a * 4294967296) = a * 4294967296 + b := by
  rw [u64_or _ _ hb0 (by omega) (by omega) (by omega), Nat.or_comm, nat_join 32 _ _ (by omega) (by omega)]
  omega
theorem bits_and_one {x : Int} (h0 : 0 ≤ x) (h1 : x < 18446744073709551616) : Go.bits .and .u64 x 1 = x % 2 := by
  rw [u64_and _ _ h0 h1 (by omega) (by omega)]
  have : (1 : Int).toNat = 1 := rfl
  rw [this, Nat.and_one_is_mod]
  omega
theorem Ev.ret {α : Type} {g : Nat → Option α} {r : α} (h : ∀ k, g k = some r) : Ev g r := ⟨0, fun k _ => h k⟩
theorem Ev.unique {α : Type} {g : Nat → Option α} {r r' : α} (h : Ev g r) (h' : Ev g r') : r = r' := by
  obtain ⟨K, hK⟩ := h
  obtain ⟨K', hK'⟩ := h'
  have h1 := hK (max K K') (by omega)
  have h2 := hK' (max K K') (by omega)
  rw [h1] at h2
  exact Option.some.inj h2
theorem Ev.const {α : Type} {a : Option α} {r : α} (h : a = some r) : Ev (fun _ => a) r := ⟨0, fun _ _ => h⟩
theorem Ev.eq {α : Type} {g : Nat → Option α} {r r' : α} (h : Ev g r) (e : r = r') : Ev g r' := e ▸ h
theorem rd_getD (xs : List Int) (i : Nat) : rd xs (i : Int) = xs.getD i 0 := by simp [rd]
theorem Lim.rd {B : Int} {xs : List Int} (hB : 0 < B) (h : Lim B xs) (i : Int) : 0 ≤ rd xs i ∧ rd xs i < B := h.getD hB _
end Go.Proofs.YtemnjgkicndmjaaDoor.Q
namespace Go.Proofs.YtemnjgkicndmjaaDoor.Q
open Go.RowKit Go.Proofs.YtemnjgkicndmjaaDoor.E Go.Proofs.YtemnjgkicndmjaaDoorW.PrintWords Go.Proofs.YtemnjgkicndmjaaDoorW.PrintLast Go.Proofs.YtemnjgkicndmjaaDoorW.PrintMore
set_option linter.unusedVariables false
theorem mixed : Tryd.prog.follows .mixedOrders = true := by kernel_rfl
noncomputable def number_Check.c : (R : Type) → (Nm) → ((Int) → Option R) → Option R := fun R a => lm (fun (a : Nm) k => number_Check.f k a.1 a.2.1 a.2.2) R a
theorem number_Check.pc (a : Nm) (b : Int) (k : Nat) (h : number_Check.f k a.1 a.2.1 a.2.2 = some b) : PureC Tryd.prog 14 ((one kN).enc a) (iI.enc b) := by
  intro w P0 vs hr
  obtain ⟨x0, x1, x2⟩ := a
  obtain ⟨d0, u0, e0, hg0, hr⟩ := at_agg hr
  obtain ⟨u1, e1, hg0⟩ := at_bool hg0
  obtain ⟨A2, c2, u2, e2, hc2, hf2, hg0⟩ := at_row hg0
  obtain ⟨A3, c3, u3, e3, hc3, hf3, hg0⟩ := at_row hg0
  have z := at_nil hg0
  subst z
  subst e3
  subst e2
  have q4 := e1
  obtain rfl : d0 = #[.bool x0, .slice A2 x1.length c2, .slice A3 x2.length c3] := Array.toList_inj.1 (by simpa using q4)
  have z := at_nil hr
  subst z
  have q5 := e0
  obtain rfl : vs = #[.agg #[.bool x0, .slice A2 x1.length c2, .slice A3 x2.length c3]] := Array.toList_inj.1 (by simpa using q5)
  refine Calls.mono (number_Check.calls k x0 A2 c2 x1 A3 c3 x2 b w (now hf2) hc2 (now hf3) hc3 h) fun e w' he => ?_
  obtain ⟨rfl, hb⟩ := he
  exact ⟨_, rfl, hb, (show Rep _ _ _ _ _ from by simp only [iI, ci, Rep])⟩
theorem number_Check.ok : FunOk Tryd.prog 14 (mk (one kN) iI number_Check.c) := lm_ok (by kernel_rfl) number_Check.pc
theorem number_Check.eq {x0 : Bool} {x1 : List Int} {x2 : List Int} {b : Int} (h : Ev (fun k => number_Check.f k x0 x1 x2) b) {R : Type} (K : (Int) → Option R) : number_Check.c R (x0, x1, x2) K = K b := lm_ev (g := fun (a : Nm) k => number_Check.f k a.1 a.2.1 a.2.2) (a := (x0, x1, x2)) h K
noncomputable def nat_Mul.c : (R : Type) → (List Int × List Int) → ((List Int) → Option R) → Option R := fun R a => lm (fun (a : List Int × List Int) k => nat_Mul.f k a.1 a.2) R a
theorem nat_Mul.pc (a : List Int × List Int) (b : List Int) (k : Nat) (h : nat_Mul.f k a.1 a.2 = some b) : PureC Tryd.prog 77 ((more rU (one rU)).enc a) (rU.enc b) := by
  intro w P0 vs hr
  obtain ⟨x0, x1⟩ := a
  obtain ⟨A0, c0, u0, e0, hc0, hf0, hr⟩ := at_row hr
  obtain ⟨A1, c1, u1, e1, hc1, hf1, hr⟩ := at_row hr
  have z := at_nil hr
  subst z
  subst e1
  have q2 := e0
  obtain rfl : vs = #[.slice A0 x0.length c0, .slice A1 x1.length c1] := Array.toList_inj.1 (by simpa using q2)
  refine Calls.mono (nat_Mul.calls k A0 c0 x0 A1 c1 x1 b w (now hf0) hc0 (now hf1) hc1 h) fun e w' he => ?_
  obtain ⟨v0_, rfl, hv0, hb⟩ := he
  exact ⟨_, rfl, hb, (V_row hv0 fun n hn => .inr hn)⟩
theorem nat_Mul.ok : FunOk Tryd.prog 77 (mk (more rU (one rU)) rU nat_Mul.c) := lm_ok (by kernel_rfl) nat_Mul.pc
theorem nat_Mul.eq {x0 : List Int} {x1 : List Int} {b : List Int} (h : Ev (fun k => nat_Mul.f k x0 x1) b) {R : Type} (K : (List Int) → Option R) : nat_Mul.c R (x0, x1) K = K b := lm_ev (g := fun (a : List Int × List Int) k => nat_Mul.f k a.1 a.2) (a := (x0, x1)) h K
noncomputable def nat_plus.c : (R : Type) → (List Int × List Int) → ((List Int) → Option R) → Option R := fun R a => lm (fun (a : List Int × List Int) k => nat_plus.f k a.1 a.2) R a
theorem nat_plus.pc (a : List Int × List Int) (b : List Int) (k : Nat) (h : nat_plus.f k a.1 a.2 = some b) : PureC Tryd.prog 105 ((more rU (one rU)).enc a) (rU.enc b) := by
  intro w P0 vs hr
  obtain ⟨x0, x1⟩ := a
  obtain ⟨A0, c0, u0, e0, hc0, hf0, hr⟩ := at_row hr
  obtain ⟨A1, c1, u1, e1, hc1, hf1, hr⟩ := at_row hr
  have z := at_nil hr
  subst z
  subst e1
  have q2 := e0
  obtain rfl : vs = #[.slice A0 x0.length c0, .slice A1 x1.length c1] := Array.toList_inj.1 (by simpa using q2)
  refine Calls.mono (nat_plus.calls k A0 c0 x0 A1 c1 x1 b w (now hf0) hc0 (now hf1) hc1 h) fun e w' he => ?_
  obtain ⟨v0_, rfl, hv0, hb⟩ := he
  exact ⟨_, rfl, hb, (V_row hv0 fun n hn => .inr hn)⟩
theorem nat_plus.ok : FunOk Tryd.prog 105 (mk (more rU (one rU)) rU nat_plus.c) := lm_ok (by kernel_rfl) nat_plus.pc
theorem nat_plus.eq {x0 : List Int} {x1 : List Int} {b : List Int} (h : Ev (fun k => nat_plus.f k x0 x1) b) {R : Type} (K : (List Int) → Option R) : nat_plus.c R (x0, x1) K = K b := lm_ev (g := fun (a : List Int × List Int) k => nat_plus.f k a.1 a.2) (a := (x0, x1)) h K
noncomputable def nat_Compare.c : (R : Type) → (List Int × List Int) → ((Int) → Option R) → Option R := fun R a => lm (fun (a : List Int × List Int) k => nat_Compare.f k a.1 a.2) R a
theorem nat_Compare.pc (a : List Int × List Int) (b : Int) (k : Nat) (h : nat_Compare.f k a.1 a.2 = some b) : PureC Tryd.prog 109 ((more rU (one rU)).enc a) (iI.enc b) := by
  intro w P0 vs hr
  obtain ⟨x0, x1⟩ := a
  obtain ⟨A0, c0, u0, e0, hc0, hf0, hr⟩ := at_row hr
  obtain ⟨A1, c1, u1, e1, hc1, hf1, hr⟩ := at_row hr
  have z := at_nil hr
  subst z
  subst e1
  have q2 := e0
  obtain rfl : vs = #[.slice A0 x0.length c0, .slice A1 x1.length c1] := Array.toList_inj.1 (by simpa using q2)
  refine Calls.mono (nat_Compare.calls k A0 c0 x0 A1 c1 x1 b w (now hf0) hc0 (now hf1) hc1 h) fun e w' he => ?_
  obtain ⟨rfl, hb⟩ := he
  exact ⟨_, rfl, hb.below, (show Rep _ _ _ _ _ from by simp only [iI, ci, Rep])⟩
theorem nat_Compare.ok : FunOk Tryd.prog 109 (mk (more rU (one rU)) iI nat_Compare.c) := lm_ok (by kernel_rfl) nat_Compare.pc
theorem nat_Compare.eq {x0 : List Int} {x1 : List Int} {b : Int} (h : Ev (fun k => nat_Compare.f k x0 x1) b) {R : Type} (K : (Int) → Option R) : nat_Compare.c R (x0, x1) K = K b := lm_ev (g := fun (a : List Int × List Int) k => nat_Compare.f k a.1 a.2) (a := (x0, x1)) h K
noncomputable def nat_Sub.c : (R : Type) → (List Int × List Int) → ((List Int) → Option R) → Option R := fun R a => lm (fun (a : List Int × List Int) k => nat_Sub.f k a.1 a.2) R a
theorem nat_Sub.pc (a : List Int × List Int) (b : List Int) (k : Nat) (h : nat_Sub.f k a.1 a.2 = some b) : PureC Tryd.prog 132 ((more rU (one rU)).enc a) (rU.enc b) := by
  intro w P0 vs hr
  obtain ⟨x0, x1⟩ := a
  obtain ⟨A0, c0, u0, e0, hc0, hf0, hr⟩ := at_row hr
  obtain ⟨A1, c1, u1, e1, hc1, hf1, hr⟩ := at_row hr
  have z := at_nil hr
  subst z
  subst e1
  have q2 := e0
  obtain rfl : vs = #[.slice A0 x0.length c0, .slice A1 x1.length c1] := Array.toList_inj.1 (by simpa using q2)
  refine Calls.mono (nat_Sub.calls k A0 c0 x0 A1 c1 x1 b w (now hf0) hc0 (now hf1) hc1 h) fun e w' he => ?_
  obtain ⟨v0_, rfl, hv0, hb⟩ := he
  exact ⟨_, rfl, hb, (V_row hv0 fun n hn => .inr hn)⟩
theorem nat_Sub.ok : FunOk Tryd.prog 132 (mk (more rU (one rU)) rU nat_Sub.c) := lm_ok (by kernel_rfl) nat_Sub.pc
theorem nat_Sub.eq {x0 : List Int} {x1 : List Int} {b : List Int} (h : Ev (fun k => nat_Sub.f k x0 x1) b) {R : Type} (K : (List Int) → Option R) : nat_Sub.c R (x0, x1) K = K b := lm_ev (g := fun (a : List Int × List Int) k => nat_Sub.f k a.1 a.2) (a := (x0, x1)) h K
noncomputable def nat_Gcd.c : (R : Type) → (List Int × List Int) → ((List Int) → Option R) → Option R := fun R a => lm (fun (a : List Int × List Int) k => nat_Gcd.f k a.1 a.2) R a
theorem nat_Gcd.pc (a : List Int × List Int) (b : List Int) (k : Nat) (h : nat_Gcd.f k a.1 a.2 = some b) : PureC Tryd.prog 44 ((more rU (one rU)).enc a) (rU.enc b) := by
  intro w P0 vs hr
  obtain ⟨x0, x1⟩ := a
  obtain ⟨A0, c0, u0, e0, hc0, hf0, hr⟩ := at_row hr
  obtain ⟨A1, c1, u1, e1, hc1, hf1, hr⟩ := at_row hr
  have z := at_nil hr
  subst z
  subst e1
  have q2 := e0
  obtain rfl : vs = #[.slice A0 x0.length c0, .slice A1 x1.length c1] := Array.toList_inj.1 (by simpa using q2)
  refine Calls.mono (nat_Gcd.calls k P0 A0 c0 x0 P0 A1 c1 x1 b w (rowV hf0 hc0) (rowV hf1 hc1) h) fun e w' he => ?_
  obtain ⟨v0_, rfl, hv0, hb⟩ := he
  exact ⟨_, rfl, hb, (R_new hv0 fun n hn => .inr hn)⟩
theorem nat_Gcd.ok : FunOk Tryd.prog 44 (mk (more rU (one rU)) rU nat_Gcd.c) := lm_ok (by kernel_rfl) nat_Gcd.pc
theorem nat_Gcd.eq {x0 : List Int} {x1 : List Int} {b : List Int} (h : Ev (fun k => nat_Gcd.f k x0 x1) b) {R : Type} (K : (List Int) → Option R) : nat_Gcd.c R (x0, x1) K = K b := lm_ev (g := fun (a : List Int × List Int) k => nat_Gcd.f k a.1 a.2) (a := (x0, x1)) h K
noncomputable def nat_DivMod.c : (R : Type) → (List Int × List Int) → (((List Int × List Int)) → Option R) → Option R := fun R a => lm (fun (a : List Int × List Int) k => nat_DivMod.f k a.1 a.2) R a
theorem nat_DivMod.pc (a : List Int × List Int) (b : (List Int × List Int)) (k : Nat) (h : nat_DivMod.f k a.1 a.2 = some b) : PureC Tryd.prog 94 ((more rU (one rU)).enc a) ((tup (more rU (one rU))).enc b) := by
  intro w P0 vs hr
  obtain ⟨x0, x1⟩ := a
  obtain ⟨r0, r1⟩ := b
  obtain ⟨A0, c0, u0, e0, hc0, hf0, hr⟩ := at_row hr
  obtain ⟨A1, c1, u1, e1, hc1, hf1, hr⟩ := at_row hr
  have z := at_nil hr
  subst z
  subst e1
  have q2 := e0
  obtain rfl : vs = #[.slice A0 x0.length c0, .slice A1 x1.length c1] := Array.toList_inj.1 (by simpa using q2)
  refine Calls.mono (nat_DivMod.calls k A0 c0 x0 A1 c1 x1 r0 r1 w (now hf0) hc0 (now hf1) hc1 h) fun e w' he => ?_
  obtain ⟨v0_, v1_, rfl, hv0, hv1, hb⟩ := he
  exact ⟨_, rfl, hb, (rep_tup2 (V_row hv0 fun n hn => .inr hn) (V_row hv1 fun n hn => .inr hn))⟩
theorem nat_DivMod.ok : FunOk Tryd.prog 94 (mk (more rU (one rU)) (tup (more rU (one rU))) nat_DivMod.c) := lm_ok (by kernel_rfl) nat_DivMod.pc
theorem nat_DivMod.eq {x0 : List Int} {x1 : List Int} {b : (List Int × List Int)} (h : Ev (fun k => nat_DivMod.f k x0 x1) b) {R : Type} (K : ((List Int × List Int)) → Option R) : nat_DivMod.c R (x0, x1) K = K b := lm_ev (g := fun (a : List Int × List Int) k => nat_DivMod.f k a.1 a.2) (a := (x0, x1)) h K
def nat_IsOne.c : (R : Type) → (List Int) → ((Bool) → Option R) → Option R := fun R a => at' (fun (a : List Int) => nat_IsOne.f a) R a
theorem nat_IsOne.pc (a : List Int) (b : Bool) (h : nat_IsOne.f a = some b) : PureC Tryd.prog 43 ((one rU).enc a) (cb.enc b) := by
  intro w P0 vs hr
  obtain ⟨A0, c0, u0, e0, hc0, hf0, hr⟩ := at_row hr
  have z := at_nil hr
  subst z
  have q1 := e0
  obtain rfl : vs = #[.slice A0 a.length c0] := Array.toList_inj.1 (by simpa using q1)
  refine Calls.mono (nat_IsOne.calls A0 c0 a b w (now hf0) hc0 h) fun e w' he => ?_
  obtain ⟨rfl, hb⟩ := he
  exact ⟨_, rfl, hb.below, (show Rep _ _ _ _ _ from by simp only [cb, Rep])⟩
theorem nat_IsOne.ok : FunOk Tryd.prog 43 (mk (one rU) cb nat_IsOne.c) := at_ok (by kernel_rfl) nat_IsOne.pc
theorem nat_IsOne.eq {x0 : List Int} {b : Bool} (h : nat_IsOne.f x0 = some b) {R : Type} (K : (Bool) → Option R) : nat_IsOne.c R x0 K = K b := at_eq (g := fun (a : List Int) => nat_IsOne.f a) (a := x0) h K
def slices_Clone_uint32_uint32.c : (R : Type) → (List Int) → ((List Int) → Option R) → Option R := fun R a => at' (fun (a : List Int) => slices_Clone_uint32_uint32.f a) R a
theorem slices_Clone_uint32_uint32.pc (a : List Int) (b : List Int) (h : slices_Clone_uint32_uint32.f a = some b) : PureC Tryd.prog 95 ((one rU).enc a) (rU.enc b) := by
  intro w P0 vs hr
  obtain ⟨A0, c0, u0, e0, hc0, hf0, hr⟩ := at_row hr
  have z := at_nil hr
  subst z
  have q1 := e0
  obtain rfl : vs = #[.slice A0 a.length c0] := Array.toList_inj.1 (by simpa using q1)
  refine Calls.mono (slices_Clone_uint32_uint32.calls A0 c0 a b w (now hf0) hc0 h) fun e w' he => ?_
  obtain ⟨v0_, rfl, hv0, hb⟩ := he
  exact ⟨_, rfl, hb, (R_new hv0 fun n hn => .inr hn)⟩
theorem slices_Clone_uint32_uint32.ok : FunOk Tryd.prog 95 (mk (one rU) rU slices_Clone_uint32_uint32.c) := at_ok (by kernel_rfl) slices_Clone_uint32_uint32.pc
theorem slices_Clone_uint32_uint32.eq {x0 : List Int} {b : List Int} (h : slices_Clone_uint32_uint32.f x0 = some b) {R : Type} (K : (List Int) → Option R) : slices_Clone_uint32_uint32.c R x0 K = K b := at_eq (g := fun (a : List Int) => slices_Clone_uint32_uint32.f a) (a := x0) h K
noncomputable def number_check2.c (R : Type) (a : (Bool × List Int × List Int × Bool × List Int × List Int)) (K : (Int) → Option R) : Option R :=
  (number_Check.c _ (a.1, a.2.1, a.2.2.1) fun t1 => (if (t1 != (0 : Int)) = true then K t1 else (number_Check.c _ (a.2.2.2.1, a.2.2.2.2.1, a.2.2.2.2.2) fun t2 => (if (t2 != (0 : Int)) = true then K t2 else K (0 : Int)))))
noncomputable def number_check2.T (g14 : CF (Nm) (Int)) : List (Nat × Fun) := [(14, mk (one kN) iI g14)]
theorem number_check2.tok : TOk Tryd.prog (tb (number_check2.T number_Check.c)) := (tb_cons number_Check.ok tb_nil)
set_option maxRecDepth 100000 in
theorem number_check2.ex0 (g14 : CF (Nm) (Int)) (R : Type) (a : (Bool × List Int × List Int × Bool × List Int × List Int)) (K : (Int) → Option R) : execFn' Tryd.prog (tb (number_check2.T g14)) 60 Tryd.f61 R ((one (arr 3 (more cb (more rU (more rU (more cb (more rU (one rU)))))))).enc a) (dk iI K) = (g14 _ (a.1, a.2.1, a.2.2.1) fun t1 => (if (t1 != (0 : Int)) = true then K t1 else (g14 _ (a.2.2.2.1, a.2.2.2.2.1, a.2.2.2.2.2) fun t2 => (if (t2 != (0 : Int)) = true then K t2 else K (0 : Int))))) := by kernel_rfl
theorem number_check2.sh : Shown Tryd.prog 61 (one (arr 3 (more cb (more rU (more rU (more cb (more rU (one rU)))))))).enc iI number_check2.c := exec_shown number_check2.tok mixed Tryd.func61 (by kernel_rfl) (number_check2.ex0 number_Check.c)
theorem number_check2.ok : FunOk Tryd.prog 61 (mk (one (arr 3 (more cb (more rU (more rU (more cb (more rU (one rU)))))))) iI number_check2.c) := number_check2.sh.ok (by kernel_rfl)
noncomputable def number_fits.c (R : Type) (a : Nm) (K : ((Nm × Int)) → Option R) : Option R :=
  (if (decide ((a.2.1.length : Int) > (128 : Int))) = false then (if (decide ((a.2.2.length : Int) > (128 : Int))) = true then K ((false, ([] : List Int), ([] : List Int)), (3 : Int)) else K ((a.1, a.2.1, a.2.2), (0 : Int))) else K ((false, ([] : List Int), ([] : List Int)), (3 : Int)))
noncomputable def number_fits.T : List (Nat × Fun) := []
theorem number_fits.tok : TOk Tryd.prog (tb (number_fits.T)) := tb_nil
set_option maxRecDepth 100000 in
theorem number_fits.ex0 (R : Type) (a : Nm) (K : ((Nm × Int)) → Option R) : execFn' Tryd.prog (tb (number_fits.T)) 60 Tryd.f106 R ((one kN).enc a) (dk kE K) = (if (decide ((a.2.1.length : Int) > (128 : Int))) = false then (if (decide ((a.2.2.length : Int) > (128 : Int))) = true then K ((false, ([] : List Int), ([] : List Int)), (3 : Int)) else K ((a.1, a.2.1, a.2.2), (0 : Int))) else K ((false, ([] : List Int), ([] : List Int)), (3 : Int))) := by kernel_rfl
theorem number_fits.sh : Shown Tryd.prog 106 (one kN).enc kE number_fits.c := exec_shown number_fits.tok mixed Tryd.func106 (by kernel_rfl) (number_fits.ex0)
theorem number_fits.ok : FunOk Tryd.prog 106 (mk (one kN) kE number_fits.c) := number_fits.sh.ok (by kernel_rfl)
noncomputable def number_raw.c (R : Type) (a : Bool × List Int × List Int) (K : (Nm) → Option R) : Option R :=
  (if ((a.2.1.length : Int) == (0 : Int)) = true then K (false, ([] : List Int), ([(1 : Int)] : List Int)) else (nat_IsOne.c _ a.2.2 fun t1 => (if (!t1) = true then (nat_Gcd.c _ (a.2.1, a.2.2) fun t2 => (nat_IsOne.c _ t2 fun t3 => (if (!t3) = true then (nat_DivMod.c _ (a.2.1, t2) fun t4 => (nat_DivMod.c _ (a.2.2, t2) fun t5 => (slices_Clone_uint32_uint32.c _ t4.1 fun t6 => (slices_Clone_uint32_uint32.c _ t5.1 fun t7 => K (a.1, t6, t7))))) else (slices_Clone_uint32_uint32.c _ a.2.1 fun t8 => (slices_Clone_uint32_uint32.c _ a.2.2 fun t9 => K (a.1, t8, t9)))))) else (slices_Clone_uint32_uint32.c _ a.2.1 fun t10 => (slices_Clone_uint32_uint32.c _ a.2.2 fun t11 => K (a.1, t10, t11))))))
noncomputable def number_raw.T (g43 : CF (List Int) (Bool)) (g44 : CF (List Int × List Int) (List Int)) (g94 : CF (List Int × List Int) ((List Int × List Int))) (g95 : CF (List Int) (List Int)) : List (Nat × Fun) := [(43, mk (one rU) cb g43), (44, mk (more rU (one rU)) rU g44), (94, mk (more rU (one rU)) (tup (more rU (one rU))) g94), (95, mk (one rU) rU g95)]
theorem number_raw.tok : TOk Tryd.prog (tb (number_raw.T nat_IsOne.c nat_Gcd.c nat_DivMod.c slices_Clone_uint32_uint32.c)) := (tb_cons nat_IsOne.ok (tb_cons nat_Gcd.ok (tb_cons nat_DivMod.ok (tb_cons slices_Clone_uint32_uint32.ok tb_nil))))
set_option maxRecDepth 100000 in
theorem number_raw.ex0 (g43 : CF (List Int) (Bool)) (g44 : CF (List Int × List Int) (List Int)) (g94 : CF (List Int × List Int) ((List Int × List Int))) (g95 : CF (List Int) (List Int)) (R : Type) (a : Bool × List Int × List Int) (K : (Nm) → Option R) : execFn' Tryd.prog (tb (number_raw.T g43 g44 g94 g95)) 60 Tryd.f78 R ((more cb (more rU (one rU))).enc a) (dk kN K) = (if ((a.2.1.length : Int) == (0 : Int)) = true then K (false, ([] : List Int), ([(1 : Int)] : List Int)) else (g43 _ a.2.2 fun t1 => (if (!t1) = true then (g44 _ (a.2.1, a.2.2) fun t2 => (g43 _ t2 fun t3 => (if (!t3) = true then (g94 _ (a.2.1, t2) fun t4 => (g94 _ (a.2.2, t2) fun t5 => (g95 _ t4.1 fun t6 => (g95 _ t5.1 fun t7 => K (a.1, t6, t7))))) else (g95 _ a.2.1 fun t8 => (g95 _ a.2.2 fun t9 => K (a.1, t8, t9)))))) else (g95 _ a.2.1 fun t10 => (g95 _ a.2.2 fun t11 => K (a.1, t10, t11)))))) := by kernel_rfl
theorem number_raw.sh : Shown Tryd.prog 78 (more cb (more rU (one rU))).enc kN number_raw.c := exec_shown number_raw.tok mixed Tryd.func78 (by kernel_rfl) (number_raw.ex0 nat_IsOne.c nat_Gcd.c nat_DivMod.c slices_Clone_uint32_uint32.c)
theorem number_raw.ok : FunOk Tryd.prog 78 (mk (more cb (more rU (one rU))) kN number_raw.c) := number_raw.sh.ok (by kernel_rfl)
noncomputable def number_made.c (R : Type) (a : Bool × List Int × List Int) (K : ((Nm × Int)) → Option R) : Option R :=
  (number_raw.c _ (a.1, a.2.1, a.2.2) fun t1 => (number_fits.c _ (t1.1, t1.2.1, t1.2.2) fun t2 => K ((t2.1.1, t2.1.2.1, t2.1.2.2), t2.2)))
noncomputable def number_made.T (g78 : CF (Bool × List Int × List Int) (Nm)) (g106 : CF (Nm) ((Nm × Int))) : List (Nat × Fun) := [(78, mk (more cb (more rU (one rU))) kN g78), (106, mk (one kN) kE g106)]
theorem number_made.tok : TOk Tryd.prog (tb (number_made.T number_raw.c number_fits.c)) := (tb_cons number_raw.ok (tb_cons number_fits.ok tb_nil))
set_option maxRecDepth 100000 in
theorem number_made.ex0 (g78 : CF (Bool × List Int × List Int) (Nm)) (g106 : CF (Nm) ((Nm × Int))) (R : Type) (a : Bool × List Int × List Int) (K : ((Nm × Int)) → Option R) : execFn' Tryd.prog (tb (number_made.T g78 g106)) 60 Tryd.f54 R ((more cb (more rU (one rU))).enc a) (dk kE K) = (g78 _ (a.1, a.2.1, a.2.2) fun t1 => (g106 _ (t1.1, t1.2.1, t1.2.2) fun t2 => K ((t2.1.1, t2.1.2.1, t2.1.2.2), t2.2))) := by kernel_rfl
theorem number_made.sh : Shown Tryd.prog 54 (more cb (more rU (one rU))).enc kE number_made.c := exec_shown number_made.tok mixed Tryd.func54 (by kernel_rfl) (number_made.ex0 number_raw.c number_fits.c)
theorem number_made.ok : FunOk Tryd.prog 54 (mk (more cb (more rU (one rU))) kE number_made.c) := number_made.sh.ok (by kernel_rfl)
noncomputable def number_sum.c (R : Type) (a : Bool × List Int × Bool × List Int) (K : ((Bool × List Int)) → Option R) : Option R :=
  (if (a.1 == a.2.2.1) = true then (nat_plus.c _ (([] : List Int), a.2.1) fun t1 => (nat_plus.c _ (t1, a.2.2.2) fun t2 => K (a.1, t2))) else (nat_Compare.c _ (a.2.1, a.2.2.2) fun t3 => (if (decide (t3 ≥ (0 : Int))) = true then (nat_Sub.c _ (a.2.1, a.2.2.2) fun t4 => K (a.1, t4)) else (nat_Sub.c _ (a.2.2.2, a.2.1) fun t5 => K (a.2.2.1, t5)))))
noncomputable def number_sum.T93 (g105 : CF (List Int × List Int) (List Int)) (g109 : CF (List Int × List Int) (Int)) (g132 : CF (List Int × List Int) (List Int)) : List (Nat × Fun) := [(105, mk (more rU (one rU)) rU g105)]
theorem number_sum.tok93 : TOk Tryd.prog (tb (number_sum.T93 nat_plus.c nat_Compare.c nat_Sub.c)) := (tb_cons nat_plus.ok tb_nil)
noncomputable def number_sum.T (g105 : CF (List Int × List Int) (List Int)) (g109 : CF (List Int × List Int) (Int)) (g132 : CF (List Int × List Int) (List Int)) : List (Nat × Fun) := [(93, execFn' Tryd.prog (tb (number_sum.T93 g105 g109 g132)) 60 Tryd.f93), (109, mk (more rU (one rU)) iI g109), (132, mk (more rU (one rU)) rU g132)]
theorem number_sum.tok : TOk Tryd.prog (tb (number_sum.T nat_plus.c nat_Compare.c nat_Sub.c)) := (tb_cons (execFn'_ok number_sum.tok93 mixed Tryd.func93 (by kernel_rfl)) (tb_cons nat_Compare.ok (tb_cons nat_Sub.ok tb_nil)))
set_option maxRecDepth 100000 in
theorem number_sum.ex0 (g105 : CF (List Int × List Int) (List Int)) (g109 : CF (List Int × List Int) (Int)) (g132 : CF (List Int × List Int) (List Int)) (R : Type) (a : Bool × List Int × Bool × List Int) (K : ((Bool × List Int)) → Option R) : execFn' Tryd.prog (tb (number_sum.T g105 g109 g132)) 60 Tryd.f110 R ((more cb (more rU (more cb (one rU)))).enc a) (dk (tup (more cb (one rU))) K) = (if (a.1 == a.2.2.1) = true then (g105 _ (([] : List Int), a.2.1) fun t1 => (g105 _ (t1, a.2.2.2) fun t2 => K (a.1, t2))) else (g109 _ (a.2.1, a.2.2.2) fun t3 => (if (decide (t3 ≥ (0 : Int))) = true then (g132 _ (a.2.1, a.2.2.2) fun t4 => K (a.1, t4)) else (g132 _ (a.2.2.2, a.2.1) fun t5 => K (a.2.2.1, t5))))) := by kernel_rfl
theorem number_sum.sh : Shown Tryd.prog 110 (more cb (more rU (more cb (one rU)))).enc (tup (more cb (one rU))) number_sum.c := exec_shown number_sum.tok mixed Tryd.func110 (by kernel_rfl) (number_sum.ex0 nat_plus.c nat_Compare.c nat_Sub.c)
theorem number_sum.ok : FunOk Tryd.prog 110 (mk (more cb (more rU (more cb (one rU)))) (tup (more cb (one rU))) number_sum.c) := number_sum.sh.ok (by kernel_rfl)
noncomputable def number_add.c (R : Type) (a : Nm × Nm × Bool) (K : ((Nm × Int)) → Option R) : Option R :=
  (nat_Mul.c _ (a.1.2.1, a.2.1.2.2) fun t1 => (nat_Mul.c _ (a.2.1.2.1, a.1.2.2) fun t2 => (number_sum.c _ (a.1.1, t1, (!(a.2.1.1 == a.2.2)), t2) fun t3 => (nat_Mul.c _ (a.1.2.2, a.2.1.2.2) fun t4 => (number_made.c _ (t3.1, t3.2, t4) fun t5 => K ((t5.1.1, t5.1.2.1, t5.1.2.2), t5.2))))))
noncomputable def number_add.T (g77 : CF (List Int × List Int) (List Int)) (g110 : CF (Bool × List Int × Bool × List Int) ((Bool × List Int))) (g54 : CF (Bool × List Int × List Int) ((Nm × Int))) : List (Nat × Fun) := [(54, mk (more cb (more rU (one rU))) kE g54), (77, mk (more rU (one rU)) rU g77), (110, mk (more cb (more rU (more cb (one rU)))) (tup (more cb (one rU))) g110)]
theorem number_add.tok : TOk Tryd.prog (tb (number_add.T nat_Mul.c number_sum.c number_made.c)) := (tb_cons number_made.ok (tb_cons nat_Mul.ok (tb_cons number_sum.ok tb_nil)))
set_option maxRecDepth 100000 in
theorem number_add.ex0 (g77 : CF (List Int × List Int) (List Int)) (g110 : CF (Bool × List Int × Bool × List Int) ((Bool × List Int))) (g54 : CF (Bool × List Int × List Int) ((Nm × Int))) (R : Type) (a : Nm × Nm × Bool) (K : ((Nm × Int)) → Option R) : execFn' Tryd.prog (tb (number_add.T g77 g110 g54)) 60 Tryd.f64 R ((more kN (more kN (one cb))).enc a) (dk kE K) = (g77 _ (a.1.2.1, a.2.1.2.2) fun t1 => (g77 _ (a.2.1.2.1, a.1.2.2) fun t2 => (g110 _ (a.1.1, t1, (!(a.2.1.1 == a.2.2)), t2) fun t3 => (g77 _ (a.1.2.2, a.2.1.2.2) fun t4 => (g54 _ (t3.1, t3.2, t4) fun t5 => K ((t5.1.1, t5.1.2.1, t5.1.2.2), t5.2)))))) := by kernel_rfl
theorem number_add.sh : Shown Tryd.prog 64 (more kN (more kN (one cb))).enc kE number_add.c := exec_shown number_add.tok mixed Tryd.func64 (by kernel_rfl) (number_add.ex0 nat_Mul.c number_sum.c number_made.c)
theorem number_add.ok : FunOk Tryd.prog 64 (mk (more kN (more kN (one cb))) kE number_add.c) := number_add.sh.ok (by kernel_rfl)
noncomputable def number_Add.c (R : Type) (a : Nm × Nm) (K : ((Nm × Int)) → Option R) : Option R :=
  (number_check2.c _ (a.1.1, a.1.2.1, a.1.2.2, a.2.1, a.2.2.1, a.2.2.2) fun t1 => (if (t1 != (0 : Int)) = true then K ((false, ([] : List Int), ([] : List Int)), t1) else (number_add.c _ ((a.1.1, a.1.2.1, a.1.2.2), (a.2.1, a.2.2.1, a.2.2.2), false) fun t2 => K ((t2.1.1, t2.1.2.1, t2.1.2.2), t2.2))))
noncomputable def number_Add.T (g61 : CF ((Bool × List Int × List Int × Bool × List Int × List Int)) (Int)) (g64 : CF (Nm × Nm × Bool) ((Nm × Int))) : List (Nat × Fun) := [(61, mk (one (arr 3 (more cb (more rU (more rU (more cb (more rU (one rU)))))))) iI g61), (64, mk (more kN (more kN (one cb))) kE g64)]
theorem number_Add.tok : TOk Tryd.prog (tb (number_Add.T number_check2.c number_add.c)) := (tb_cons number_check2.ok (tb_cons number_add.ok tb_nil))
set_option maxRecDepth 100000 in
theorem number_Add.ex0 (g61 : CF ((Bool × List Int × List Int × Bool × List Int × List Int)) (Int)) (g64 : CF (Nm × Nm × Bool) ((Nm × Int))) (R : Type) (a : Nm × Nm) (K : ((Nm × Int)) → Option R) : execFn' Tryd.prog (tb (number_Add.T g61 g64)) 60 Tryd.f25 R ((more kN (one kN)).enc a) (dk kE K) = (g61 _ (a.1.1, a.1.2.1, a.1.2.2, a.2.1, a.2.2.1, a.2.2.2) fun t1 => (if (t1 != (0 : Int)) = true then K ((false, ([] : List Int), ([] : List Int)), t1) else (g64 _ ((a.1.1, a.1.2.1, a.1.2.2), (a.2.1, a.2.2.1, a.2.2.2), false) fun t2 => K ((t2.1.1, t2.1.2.1, t2.1.2.2), t2.2)))) := by kernel_rfl
theorem number_Add.sh : Shown Tryd.prog 25 (more kN (one kN)).enc kE number_Add.c := exec_shown number_Add.tok mixed Tryd.func25 (by kernel_rfl) (number_Add.ex0 number_check2.c number_add.c)
theorem number_Add.ok : FunOk Tryd.prog 25 (mk (more kN (one kN)) kE number_Add.c) := number_Add.sh.ok (by kernel_rfl)
noncomputable def number_Sub.c (R : Type) (a : Nm × Nm) (K : ((Nm × Int)) → Option R) : Option R :=
  (number_check2.c _ (a.1.1, a.1.2.1, a.1.2.2, a.2.1, a.2.2.1, a.2.2.2) fun t1 => (if (t1 != (0 : Int)) = true then K ((false, ([] : List Int), ([] : List Int)), t1) else (number_add.c _ ((a.1.1, a.1.2.1, a.1.2.2), (a.2.1, a.2.2.1, a.2.2.2), true) fun t2 => K ((t2.1.1, t2.1.2.1, t2.1.2.2), t2.2))))
noncomputable def number_Sub.T (g61 : CF ((Bool × List Int × List Int × Bool × List Int × List Int)) (Int)) (g64 : CF (Nm × Nm × Bool) ((Nm × Int))) : List (Nat × Fun) := [(61, mk (one (arr 3 (more cb (more rU (more rU (more cb (more rU (one rU)))))))) iI g61), (64, mk (more kN (more kN (one cb))) kE g64)]
theorem number_Sub.tok : TOk Tryd.prog (tb (number_Sub.T number_check2.c number_add.c)) := (tb_cons number_check2.ok (tb_cons number_add.ok tb_nil))
set_option maxRecDepth 100000 in
theorem number_Sub.ex0 (g61 : CF ((Bool × List Int × List Int × Bool × List Int × List Int)) (Int)) (g64 : CF (Nm × Nm × Bool) ((Nm × Int))) (R : Type) (a : Nm × Nm) (K : ((Nm × Int)) → Option R) : execFn' Tryd.prog (tb (number_Sub.T g61 g64)) 60 Tryd.f27 R ((more kN (one kN)).enc a) (dk kE K) = (g61 _ (a.1.1, a.1.2.1, a.1.2.2, a.2.1, a.2.2.1, a.2.2.2) fun t1 => (if (t1 != (0 : Int)) = true then K ((false, ([] : List Int), ([] : List Int)), t1) else (g64 _ ((a.1.1, a.1.2.1, a.1.2.2), (a.2.1, a.2.2.1, a.2.2.2), true) fun t2 => K ((t2.1.1, t2.1.2.1, t2.1.2.2), t2.2)))) := by kernel_rfl
theorem number_Sub.sh : Shown Tryd.prog 27 (more kN (one kN)).enc kE number_Sub.c := exec_shown number_Sub.tok mixed Tryd.func27 (by kernel_rfl) (number_Sub.ex0 number_check2.c number_add.c)
theorem number_Sub.ok : FunOk Tryd.prog 27 (mk (more kN (one kN)) kE number_Sub.c) := number_Sub.sh.ok (by kernel_rfl)
noncomputable def number_Mul.c (R : Type) (a : Nm × Nm) (K : ((Nm × Int)) → Option R) : Option R :=
  (number_check2.c _ (a.1.1, a.1.2.1, a.1.2.2, a.2.1, a.2.2.1, a.2.2.2) fun t1 => (if (t1 != (0 : Int)) = true then K ((false, ([] : List Int), ([] : List Int)), t1) else (nat_Mul.c _ (a.1.2.1, a.2.2.1) fun t2 => (nat_Mul.c _ (a.1.2.2, a.2.2.2) fun t3 => (number_made.c _ ((!(a.1.1 == a.2.1)), t2, t3) fun t4 => K ((t4.1.1, t4.1.2.1, t4.1.2.2), t4.2))))))
noncomputable def number_Mul.T (g61 : CF ((Bool × List Int × List Int × Bool × List Int × List Int)) (Int)) (g77 : CF (List Int × List Int) (List Int)) (g54 : CF (Bool × List Int × List Int) ((Nm × Int))) : List (Nat × Fun) := [(54, mk (more cb (more rU (one rU))) kE g54), (61, mk (one (arr 3 (more cb (more rU (more rU (more cb (more rU (one rU)))))))) iI g61), (77, mk (more rU (one rU)) rU g77)]
theorem number_Mul.tok : TOk Tryd.prog (tb (number_Mul.T number_check2.c nat_Mul.c number_made.c)) := (tb_cons number_made.ok (tb_cons number_check2.ok (tb_cons nat_Mul.ok tb_nil)))
set_option maxRecDepth 100000 in
theorem number_Mul.ex0 (g61 : CF ((Bool × List Int × List Int × Bool × List Int × List Int)) (Int)) (g77 : CF (List Int × List Int) (List Int)) (g54 : CF (Bool × List Int × List Int) ((Nm × Int))) (R : Type) (a : Nm × Nm) (K : ((Nm × Int)) → Option R) : execFn' Tryd.prog (tb (number_Mul.T g61 g77 g54)) 60 Tryd.f28 R ((more kN (one kN)).enc a) (dk kE K) = (g61 _ (a.1.1, a.1.2.1, a.1.2.2, a.2.1, a.2.2.1, a.2.2.2) fun t1 => (if (t1 != (0 : Int)) = true then K ((false, ([] : List Int), ([] : List Int)), t1) else (g77 _ (a.1.2.1, a.2.2.1) fun t2 => (g77 _ (a.1.2.2, a.2.2.2) fun t3 => (g54 _ ((!(a.1.1 == a.2.1)), t2, t3) fun t4 => K ((t4.1.1, t4.1.2.1, t4.1.2.2), t4.2)))))) := by kernel_rfl
theorem number_Mul.sh : Shown Tryd.prog 28 (more kN (one kN)).enc kE number_Mul.c := exec_shown number_Mul.tok mixed Tryd.func28 (by kernel_rfl) (number_Mul.ex0 number_check2.c nat_Mul.c number_made.c)
theorem number_Mul.ok : FunOk Tryd.prog 28 (mk (more kN (one kN)) kE number_Mul.c) := number_Mul.sh.ok (by kernel_rfl)
noncomputable def number_Div.c (R : Type) (a : Nm × Nm) (K : ((Nm × Int)) → Option R) : Option R :=
  (number_check2.c _ (a.1.1, a.1.2.1, a.1.2.2, a.2.1, a.2.2.1, a.2.2.2) fun t1 => (if (t1 != (0 : Int)) = true then K ((false, ([] : List Int), ([] : List Int)), t1) else (if ((a.2.2.1.length : Int) == (0 : Int)) = true then K ((false, ([] : List Int), ([] : List Int)), (10 : Int)) else (nat_Mul.c _ (a.1.2.1, a.2.2.2) fun t2 => (nat_Mul.c _ (a.1.2.2, a.2.2.1) fun t3 => (number_made.c _ ((!(a.1.1 == a.2.1)), t2, t3) fun t4 => K ((t4.1.1, t4.1.2.1, t4.1.2.2), t4.2)))))))
noncomputable def number_Div.T (g61 : CF ((Bool × List Int × List Int × Bool × List Int × List Int)) (Int)) (g77 : CF (List Int × List Int) (List Int)) (g54 : CF (Bool × List Int × List Int) ((Nm × Int))) : List (Nat × Fun) := [(54, mk (more cb (more rU (one rU))) kE g54), (61, mk (one (arr 3 (more cb (more rU (more rU (more cb (more rU (one rU)))))))) iI g61), (77, mk (more rU (one rU)) rU g77)]
theorem number_Div.tok : TOk Tryd.prog (tb (number_Div.T number_check2.c nat_Mul.c number_made.c)) := (tb_cons number_made.ok (tb_cons number_check2.ok (tb_cons nat_Mul.ok tb_nil)))
set_option maxRecDepth 100000 in
theorem number_Div.ex0 (g61 : CF ((Bool × List Int × List Int × Bool × List Int × List Int)) (Int)) (g77 : CF (List Int × List Int) (List Int)) (g54 : CF (Bool × List Int × List Int) ((Nm × Int))) (R : Type) (a : Nm × Nm) (K : ((Nm × Int)) → Option R) : execFn' Tryd.prog (tb (number_Div.T g61 g77 g54)) 60 Tryd.f29 R ((more kN (one kN)).enc a) (dk kE K) = (g61 _ (a.1.1, a.1.2.1, a.1.2.2, a.2.1, a.2.2.1, a.2.2.2) fun t1 => (if (t1 != (0 : Int)) = true then K ((false, ([] : List Int), ([] : List Int)), t1) else (if ((a.2.2.1.length : Int) == (0 : Int)) = true then K ((false, ([] : List Int), ([] : List Int)), (10 : Int)) else (g77 _ (a.1.2.1, a.2.2.2) fun t2 => (g77 _ (a.1.2.2, a.2.2.1) fun t3 => (g54 _ ((!(a.1.1 == a.2.1)), t2, t3) fun t4 => K ((t4.1.1, t4.1.2.1, t4.1.2.2), t4.2))))))) := by kernel_rfl
theorem number_Div.sh : Shown Tryd.prog 29 (more kN (one kN)).enc kE number_Div.c := exec_shown number_Div.tok mixed Tryd.func29 (by kernel_rfl) (number_Div.ex0 number_check2.c nat_Mul.c number_made.c)
theorem number_Div.ok : FunOk Tryd.prog 29 (mk (more kN (one kN)) kE number_Div.c) := number_Div.sh.ok (by kernel_rfl)
noncomputable def nat_Of.c : (R : Type) → (Int) → ((List Int) → Option R) → Option R := fun R a => lm (fun (a : Int) k => nat_Of.f k a) R a
theorem nat_Of.pc (a : Int) (b : List Int) (k : Nat) (h : nat_Of.f k a = some b) : PureC Tryd.prog 79 ((one (ci .u64)).enc a) (rU.enc b) := by
  intro w P0 vs hr
  obtain ⟨u0, e0, hr⟩ := at_int hr
  have z := at_nil hr
  subst z
  have q1 := e0
  obtain rfl : vs = #[.int .u64 a] := Array.toList_inj.1 (by simpa using q1)
  refine Calls.mono (nat_Of.calls k a b w h) fun e w' he => ?_
  obtain ⟨v0_, rfl, hv0, hb⟩ := he
  exact ⟨_, rfl, hb, (V_row hv0 fun n hn => .inr hn)⟩
theorem nat_Of.ok : FunOk Tryd.prog 79 (mk (one (ci .u64)) rU nat_Of.c) := lm_ok (by kernel_rfl) nat_Of.pc
theorem nat_Of.eq {x0 : Int} {b : List Int} (h : Ev (fun k => nat_Of.f k x0) b) {R : Type} (K : (List Int) → Option R) : nat_Of.c R x0 K = K b := lm_ev (g := fun (a : Int) k => nat_Of.f k a) (a := x0) h K
end Go.Proofs.YtemnjgkicndmjaaDoor.Q
