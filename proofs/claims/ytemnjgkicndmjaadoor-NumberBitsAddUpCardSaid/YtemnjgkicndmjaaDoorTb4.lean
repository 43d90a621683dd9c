/- What this text proves: a part of the walk and of the plain laws of one card; no conditions. -/
import Derived.Test.YtemnjgkicndmjaaDoorTb3
namespace Go.Proofs.YtemnjgkicndmjaaDoor.Q
open Go.RowKit Go.Proofs.YtemnjgkicndmjaaDoorW.PrintWords Go.Proofs.YtemnjgkicndmjaaDoorW.PrintLast Go.Proofs.YtemnjgkicndmjaaDoorW.PrintMore
attribute [local go_sem] max2_int min2_int max_two min_two max_three min_three max_four min_four
set_option linter.unusedVariables false
set_option linter.unusedSimpArgs false
mutual
def rf_Fault.j0 : Nat → Bool → Bool → List Int → List Int → Option (Int)
 | 0, _, _, _, _ => none
 | k + 1, x14, x600000, x600001, x600002 => if x14 = true then (some 3) else (if (x600002.length : Int) = 0 then (rf_Fault.j1 k true x600000 x600001 x600002) else (if 0 ≤ (wrap64 ((x600002.length : Int) - 1)) then (if (wrap64 ((x600002.length : Int) - 1)) < (x600002.length : Int) then (if (rd x600002 (wrap64 ((x600002.length : Int) - 1))) = 0 then (rf_Fault.j1 k true x600000 x600001 x600002) else (if (x600001.length : Int) > 0 then (if 0 ≤ (wrap64 ((x600001.length : Int) - 1)) then (if (wrap64 ((x600001.length : Int) - 1)) < (x600001.length : Int) then (rf_Fault.j1 k ((rd x600001 (wrap64 ((x600001.length : Int) - 1))) == 0) x600000 x600001 x600002) else (none)) else (none)) else (rf_Fault.j1 k false x600000 x600001 x600002))) else (none)) else (none)))
def rf_Fault.j1 : Nat → Bool → Bool → List Int → List Int → Option (Int)
 | 0, _, _, _, _ => none
 | k + 1, x46, x600000, x600001, x600002 => if x46 = true then (some 2) else ((rf_natOf.f k x600001).bind fun t602 => ((rf_natOf.f k x600002).bind fun t605 => (if (t602.length : Int) = 0 then (if x600000 = true then (rf_Fault.j2 k t602 t605 true) else ((rf_CmpNat.f k t605 (([1] : List Int))).bind fun t611 => (rf_Fault.j2 k t602 t605 (t611 != 0)))) else (rf_Fault.j2 k t602 t605 false))))
def rf_Fault.j2 : Nat → List Int → List Int → Bool → Option (Int)
 | 0, _, _, _ => none
 | k + 1, x3, x4, x65 => if x65 = true then (some 2) else ((rf_GcdNat.f k x3 x4).bind fun t612 => ((rf_CmpNat.f k t612 (([1] : List Int))).bind fun t618 => (if t618 = 0 then (some 0) else (some 2))))
end
def rf_Fault.f (k : Nat) (a0_0 : Bool) (l0_1 : List Int) (l0_2 : List Int) : Option (Int) := if (l0_1.length : Int) > 128 then (rf_Fault.j0 k true a0_0 l0_1 l0_2) else (rf_Fault.j0 k (decide ((l0_2.length : Int) > 128)) a0_0 l0_1 l0_2)
theorem rf_Fault.mono_l : ∀ k, (∀ y0 y1 y2 y3, LeO (rf_Fault.j0 k y0 y1 y2 y3) (rf_Fault.j0 (k + 1) y0 y1 y2 y3)) ∧ (∀ y0 y1 y2 y3, LeO (rf_Fault.j1 k y0 y1 y2 y3) (rf_Fault.j1 (k + 1) y0 y1 y2 y3)) ∧ (∀ y0 y1 y2, LeO (rf_Fault.j2 k y0 y1 y2) (rf_Fault.j2 (k + 1) y0 y1 y2))
 | 0 => ⟨fun _ _ _ _ r h => by simp [rf_Fault.j0] at h, fun _ _ _ _ r h => by simp [rf_Fault.j1] at h, fun _ _ _ r h => by simp [rf_Fault.j2] at h⟩
 | k + 1 => by
  obtain ⟨ih0, ih1, ih2⟩ := rf_Fault.mono_l k
  refine ⟨?_, ?_, ?_⟩
  ·intro y0 y1 y2 y3
   unfold rf_Fault.j0
   have m0 := ih0
   have m1 := ih1
   have m2 := ih2
   have m3 := @rf_CmpNat.mono
   have m4 := @rf_GcdNat.mono
   have m5 := @rf_natOf.mono
   exact zm
  ·intro y0 y1 y2 y3
   unfold rf_Fault.j1
   have m0 := ih0
   have m1 := ih1
   have m2 := ih2
   have m3 := @rf_CmpNat.mono
   have m4 := @rf_GcdNat.mono
   have m5 := @rf_natOf.mono
   exact zm
  ·intro y0 y1 y2
   unfold rf_Fault.j2
   have m0 := ih0
   have m1 := ih1
   have m2 := ih2
   have m3 := @rf_CmpNat.mono
   have m4 := @rf_GcdNat.mono
   have m5 := @rf_natOf.mono
   exact zm
theorem rf_Fault.mono : ∀ a0 a1 a2 k, LeO (rf_Fault.f k a0 a1 a2) (rf_Fault.f (k + 1) a0 a1 a2) := by
 intro a0 a1 a2 k
 obtain ⟨ih0, ih1, ih2⟩ := rf_Fault.mono_l k
 unfold rf_Fault.f
 have m0 := ih0
 have m1 := ih1
 have m2 := ih2
 have m3 := @rf_CmpNat.mono
 have m4 := @rf_GcdNat.mono
 have m5 := @rf_natOf.mono
 exact zm
def rf_Fault.T5 : Bool × List (List Nat × List Nat) := (true, [([], []), ([0], [0]), ([1], [1]), ([], []), ([3], [3]), ([4, 2], [4]), ([2, 5, 0, 1, 2], [2]), ([5, 6, 0, 1, 2, 3, 4, 5, 6], [5])])
def rf_Fault.B5 : List Nat := [0, 1, 3, 0, 8, 31, 63, 127]
theorem rf_Fault.tab5 : rtab .any (opsOf Tryd.f15 5) = rf_Fault.T5 := by kernel_rfl
theorem rf_Fault.bits5 : waitsOk rf_Fault.T5.2 rf_Fault.B5 = true := by kernel_rfl
set_option maxHeartbeats 8000000 in
set_option maxRecDepth 100000 in
theorem rf_Fault.calls (k : Nat) (a0_0 : Bool) (A0_1 : Option Addr) (c0_1 : Nat) (l0_1 : List Int) (A0_2 : Option Addr) (c0_2 : Nat) (l0_2 : List Int) (r : Int) (w : World) (hr0_1 : Kd.C (Kd.int .u32) w A0_1 l0_1.length l0_1) (hc0_1 : l0_1.length ≤ c0_1) (hr0_2 : Kd.C (Kd.int .u32) w A0_2 l0_2.length l0_2) (hc0_2 : l0_2.length ≤ c0_2) (h : rf_Fault.f k a0_0 l0_1 l0_2 = some r) :
  Calls Tryd.prog 15 #[.agg #[.bool a0_0, .slice A0_1 l0_1.length c0_1, .slice A0_2 l0_2.length c0_2]] w fun e w' => e = .returned (.int .i64 r) ∧ Below w.heap.size w w' := by
 have hu24 := Tryd.underlying24
 have HR0_1 := am hr0_1
 have HC0_1 := am hc0_1
 clear hr0_1 hc0_1
 have HR0_2 := am hr0_2
 have HC0_2 := am hc0_2
 clear hr0_2 hc0_2
 have HB := am (Below.refl w.heap.size w)
 have H := h
 unfold rf_Fault.f at H
 clear h
 have HC2 := am H
 clear H
 go_enter Tryd.func15, Tryd.ntmps15
 go_upto_region 1 with (first | ((with_reducible refine gate_dst (N := 1) rfl ?_); (try (refine gate_guard (by rfl) ?_; dsimp only)); refine zbox (N := 1) (cs := #[.bool a0_0, .slice A0_1 l0_1.length c0_1, .slice A0_2 l0_2.length c0_2]) (t := 24) ?_; intro gb599 hg w3 hbox hb; refine zt3 (below_step zq1 hb) (hbox) ((zs hg (below_size zq1) : w.heap.size ≤ gb599)) ?_; clear HB; intro HB BK599 GW599; have GE599 := GW599; clear hb hbox hg))
 (try simp only [Act.put, List.setIfInBounds_toArray, List.set_cons_zero, List.set_cons_succ])
 go_cut [14] (fun v14 wc => ∃ (kq : Nat) (x14_1 : Bool), v14 = .bool x14_1 ∧ Aside0 (rf_Fault.j0 kq x14_1 a0_0 l0_1 l0_2 = some r) ∧ Aside0 (kq ≤ k) ∧ Aside0 (wc.heap[gb599]? = some (.cells #[.bool a0_0, (.slice A0_1 l0_1.length c0_1), (.slice A0_2 l0_2.length c0_2)] 24 (0, 0))) ∧ Aside0 (Below w.heap.size w wc))
 case first =>
  have H := HC2.out
  clear HC2
  by_cases c4 : (l0_1.length : Int) > 128
  ·rw [if_pos c4] at H
   have c4b0 : decide (128 < (l0_1.length : Int)) = true := decide_eq_true c4
   have c4b1 : decide (128 < l0_1.length) = true := decide_eq_true (by omega)
   clear c4
   (first | rw [c4b0] | (simp only [i64_w, i32_w]; rw [c4b0]) | skip)
   have H' := am H
   clear H
   have hcz5_0 := bc BK599.out 0 (.bool a0_0)
   have hcz5_1 := bc BK599.out 1 (.slice A0_1 l0_1.length c0_1)
   have hcz5_2 := bc BK599.out 2 (.slice A0_2 l0_2.length c0_2)
   have hfz5_0 := blk_frozen BK599.out 0
   have hfz5_1 := blk_frozen BK599.out 1
   have hfz5_2 := blk_frozen BK599.out 2
   go_wp2
   go_meet
   case rel => exact ⟨_, (true), zq8, H', ⟨by first | omega | exact Nat.le_refl _⟩, ⟨zq2 BK599.out⟩, ⟨zb1 GE599.out⟩⟩
  ·rw [if_neg c4] at H
   have c4b0 : decide (128 < (l0_1.length : Int)) = false := decide_eq_false c4
   have c4b1 : decide (128 < l0_1.length) = false := decide_eq_false (by omega)
   clear c4
   (first | rw [c4b0] | (simp only [i64_w, i32_w]; rw [c4b0]) | skip)
   have H' := am H
   clear H
   have hcz6_0 := bc BK599.out 0 (.bool a0_0)
   have hcz6_1 := bc BK599.out 1 (.slice A0_1 l0_1.length c0_1)
   have hcz6_2 := bc BK599.out 2 (.slice A0_2 l0_2.length c0_2)
   have hfz6_0 := blk_frozen BK599.out 0
   have hfz6_1 := blk_frozen BK599.out 1
   have hfz6_2 := blk_frozen BK599.out 2
   go_wp2
   go_meet
   case rel => exact ⟨_, (decide ((l0_2.length : Int) > 128)), zq8, H', ⟨by first | omega | exact Nat.le_refl _⟩, ⟨zq2 BK599.out⟩, ⟨zb1 GE599.out⟩⟩
 case rest =>
  clear HC2
  obtain ⟨kq, x14_1, rfl, HA, HJ1, BK599, HB⟩ := hcut
  cases kq with
  | zero => exact absurd HA.out (by simp [rf_Fault.j0])
  | succ kj1 =>
   have H := HA.out
   clear HA
   simp only [rf_Fault.j0] at H
   by_cases c7 : x14_1 = true
   ·subst c7
    have H1 : (some 3) = some r := by rw [if_pos rfl] at H; exact H
    clear H
    have H := H1
    clear H1
    obtain rfl := Option.some.inj H
    go_wp2
    go_ret
    exact ⟨zq9, zb1 GE599.out⟩
   ·replace c7 := Bool.eq_false_iff.mpr c7
    subst c7
    have H1 : (if (l0_2.length : Int) = 0 then (rf_Fault.j1 kj1 true a0_0 l0_1 l0_2) else (if 0 ≤ (wrap64 ((l0_2.length : Int) - 1)) then (if (wrap64 ((l0_2.length : Int) - 1)) < (l0_2.length : Int) then (if (rd l0_2 (wrap64 ((l0_2.length : Int) - 1))) = 0 then (rf_Fault.j1 kj1 true a0_0 l0_1 l0_2) else (if (l0_1.length : Int) > 0 then (if 0 ≤ (wrap64 ((l0_1.length : Int) - 1)) then (if (wrap64 ((l0_1.length : Int) - 1)) < (l0_1.length : Int) then (rf_Fault.j1 kj1 ((rd l0_1 (wrap64 ((l0_1.length : Int) - 1))) == 0) a0_0 l0_1 l0_2) else (none)) else (none)) else (rf_Fault.j1 kj1 false a0_0 l0_1 l0_2))) else (none)) else (none))) = some r := by rw [if_neg (show ¬ (false = true) by decide)] at H; exact H
    clear H
    have H := H1
    clear H1
    have HC8 := am H
    clear H
    go_upto_region 3 with (fail)
    go_cut [46] (fun v46 wc => ∃ (kq : Nat) (x46_7 : Bool), v46 = .bool x46_7 ∧ Aside0 (rf_Fault.j1 kq x46_7 a0_0 l0_1 l0_2 = some r) ∧ Aside0 (kq ≤ kj1) ∧ Aside0 (wc.heap[gb599]? = some (.cells #[.bool a0_0, (.slice A0_1 l0_1.length c0_1), (.slice A0_2 l0_2.length c0_2)] 24 (0, 0))) ∧ Aside0 (Below w.heap.size w wc))
    case first =>
     have H := HC8.out
     clear HC8
     by_cases c9 : (l0_2.length : Int) = 0
     ·rw [if_pos c9] at H
      have c9b0 : ((l0_2.length : Int) == 0) = true := beq_iff_eq.mpr c9
      have c9b1 : ((l0_2.length : Int) != 0) = false := bne_eq_false_iff_eq.mpr c9
      clear c9
      (first | rw [c9b0] | (simp only [i64_w, i32_w]; rw [c9b0]) | skip)
      have H' := am H
      clear H
      have hcz10_0 := bc BK599.out 0 (.bool a0_0)
      have hcz10_1 := bc BK599.out 1 (.slice A0_1 l0_1.length c0_1)
      have hcz10_2 := bc BK599.out 2 (.slice A0_2 l0_2.length c0_2)
      have hfz10_0 := blk_frozen BK599.out 0
      have hfz10_1 := blk_frozen BK599.out 1
      have hfz10_2 := blk_frozen BK599.out 2
      go_wp2
      go_meet
      case rel => exact ⟨_, (true), zq8, H', ⟨by have := HJ1.out; first | omega | exact Nat.le_refl _⟩, ⟨zq2 BK599.out⟩, ⟨zb1 GE599.out⟩⟩
     ·rw [if_neg c9] at H
      have c9b0 : ((l0_2.length : Int) == 0) = false := beq_eq_false_iff_ne.mpr c9
      have c9b1 : ((l0_2.length : Int) != 0) = true := bne_iff_ne.mpr c9
      have c9b2 : ¬ (l0_2 = []) := fun h_ => c9 (by rw [h_]; rfl)
      (first | rw [c9b0] | (simp only [i64_w, i32_w]; rw [c9b0]) | skip)
      obtain ⟨ji11, hji11⟩ : ∃ j_ : Int, (wrap64 ((l0_2.length : Int) - 1)) = j_ := ⟨_, rfl⟩
      replace H : (if 0 ≤ (ji11) then (if (ji11) < (l0_2.length : Int) then (if (rd l0_2 (ji11)) = 0 then (rf_Fault.j1 kj1 true a0_0 l0_1 l0_2) else (if (l0_1.length : Int) > 0 then (if 0 ≤ (wrap64 ((l0_1.length : Int) - 1)) then (if (wrap64 ((l0_1.length : Int) - 1)) < (l0_1.length : Int) then (rf_Fault.j1 kj1 ((rd l0_1 (wrap64 ((l0_1.length : Int) - 1))) == 0) a0_0 l0_1 l0_2) else (none)) else (none)) else (rf_Fault.j1 kj1 false a0_0 l0_1 l0_2))) else (none)) else (none)) = some r := by first | (rw [hji11] at H; exact H) | (simp only [hji11] at H ⊢; exact H)
      have hji11w : (IntKind.i64.wrap ((l0_2.length : Int) - 1)) = ji11 := (i64_w _).trans hji11
      replace H := zn H
      obtain ⟨c12, H⟩ := H
      have c12b0 := decide_eq_true c12
      clear c12
      replace H := zn H
      obtain ⟨c13, H⟩ := H
      have c13b0 := decide_eq_true c13
      clear c13
      by_cases c14 : (rd l0_2 (ji11)) = 0
      ·rw [if_pos c14] at H
       have c14b0 : ((rd l0_2 (ji11)) == 0) = true := beq_iff_eq.mpr c14
       have c14b1 : ((rd l0_2 (ji11)) != 0) = false := bne_eq_false_iff_eq.mpr c14
       clear c14
       have H' := am H
       clear H
       have hcz15_0 := bc BK599.out 0 (.bool a0_0)
       have hcz15_1 := bc BK599.out 1 (.slice A0_1 l0_1.length c0_1)
       have hcz15_2 := bc BK599.out 2 (.slice A0_2 l0_2.length c0_2)
       have hfz15_0 := blk_frozen BK599.out 0
       have hfz15_1 := blk_frozen BK599.out 1
       have hfz15_2 := blk_frozen BK599.out 2
       have p600 : 0 ≤ ((ji11) : Int) := zq6
       have q600 : (ji11) < (l0_2.length : Int) := zq6
       obtain ⟨ad600, e600, hx600_0⟩ := Kd.at_int HR0_2.out (ji11) p600 q600
       cases e600
       replace hx600_0 := (HB.out.cell (World.block_lt_of_cell? w _ hx600_0)).trans hx600_0
       replace p600 := eq_true p600
       replace q600 := eq_true q600
       go_wp2
       go_meet
       case rel => exact ⟨_, (true), zq8, (by first | exact H' | (rw [hji11]; exact H')), ⟨by have := HJ1.out; first | omega | exact Nat.le_refl _⟩, ⟨zq2 BK599.out⟩, ⟨zb1 GE599.out⟩⟩
      ·rw [if_neg c14] at H
       have c14b0 : ((rd l0_2 (ji11)) == 0) = false := beq_eq_false_iff_ne.mpr c14
       have c14b1 : ((rd l0_2 (ji11)) != 0) = true := bne_iff_ne.mpr c14
       by_cases c16 : (l0_1.length : Int) > 0
       ·rw [if_pos c16] at H
        have c16b0 : decide (0 < (l0_1.length : Int)) = true := decide_eq_true c16
        have c16b1 : decide (0 < l0_1.length) = true := decide_eq_true (by omega)
        clear c16
        obtain ⟨ji17, hji17⟩ : ∃ j_ : Int, (wrap64 ((l0_1.length : Int) - 1)) = j_ := ⟨_, rfl⟩
        replace H : (if 0 ≤ (ji17) then (if (ji17) < (l0_1.length : Int) then (rf_Fault.j1 kj1 ((rd l0_1 (ji17)) == 0) a0_0 l0_1 l0_2) else (none)) else (none)) = some r := by first | (rw [hji17] at H; exact H) | (simp only [hji17] at H ⊢; exact H)
        have hji17w : (IntKind.i64.wrap ((l0_1.length : Int) - 1)) = ji17 := (i64_w _).trans hji17
        replace H := zn H
        obtain ⟨c18, H⟩ := H
        have c18b0 := decide_eq_true c18
        clear c18
        replace H := zn H
        obtain ⟨c19, H⟩ := H
        have c19b0 := decide_eq_true c19
        clear c19
        have H' := am H
        clear H
        have hcz20_0 := bc BK599.out 0 (.bool a0_0)
        have hcz20_1 := bc BK599.out 1 (.slice A0_1 l0_1.length c0_1)
        have hcz20_2 := bc BK599.out 2 (.slice A0_2 l0_2.length c0_2)
        have hfz20_0 := blk_frozen BK599.out 0
        have hfz20_1 := blk_frozen BK599.out 1
        have hfz20_2 := blk_frozen BK599.out 2
        have p600 : 0 ≤ ((ji11) : Int) := zq6
        have q600 : (ji11) < (l0_2.length : Int) := zq6
        obtain ⟨ad600, e600, hx600_0⟩ := Kd.at_int HR0_2.out (ji11) p600 q600
        cases e600
        replace hx600_0 := (HB.out.cell (World.block_lt_of_cell? w _ hx600_0)).trans hx600_0
        replace p600 := eq_true p600
        replace q600 := eq_true q600
        have p601 : 0 ≤ ((ji17) : Int) := zq6
        have q601 : (ji17) < (l0_1.length : Int) := zq6
        obtain ⟨ad601, e601, hx601_0⟩ := Kd.at_int HR0_1.out (ji17) p601 q601
        cases e601
        replace hx601_0 := (HB.out.cell (World.block_lt_of_cell? w _ hx601_0)).trans hx601_0
        replace p601 := eq_true p601
        replace q601 := eq_true q601
        go_wp2
        go_meet
        case rel => exact ⟨_, (((rd l0_1 (ji17)) == 0)), (by first | rfl | (simp; done) | (simp only [← hji17] <;> (first | rfl | simp)) | (simp [*]; done)), (by first | exact H' | (rw [hji11]; exact H') | (rw [hji17]; exact H')), ⟨by have := HJ1.out; first | omega | exact Nat.le_refl _⟩, ⟨zq2 BK599.out⟩, ⟨zb1 GE599.out⟩⟩
       ·rw [if_neg c16] at H
        have c16b0 : decide (0 < (l0_1.length : Int)) = false := decide_eq_false c16
        have c16b1 : decide (0 < l0_1.length) = false := decide_eq_false (by omega)
        clear c16
        have H' := am H
        clear H
        have hcz21_0 := bc BK599.out 0 (.bool a0_0)
        have hcz21_1 := bc BK599.out 1 (.slice A0_1 l0_1.length c0_1)
        have hcz21_2 := bc BK599.out 2 (.slice A0_2 l0_2.length c0_2)
        have hfz21_0 := blk_frozen BK599.out 0
        have hfz21_1 := blk_frozen BK599.out 1
        have hfz21_2 := blk_frozen BK599.out 2
        have p600 : 0 ≤ ((ji11) : Int) := zq6
        have q600 : (ji11) < (l0_2.length : Int) := zq6
        obtain ⟨ad600, e600, hx600_0⟩ := Kd.at_int HR0_2.out (ji11) p600 q600
        cases e600
        replace hx600_0 := (HB.out.cell (World.block_lt_of_cell? w _ hx600_0)).trans hx600_0
        replace p600 := eq_true p600
        replace q600 := eq_true q600
        go_wp2
        go_meet
        case rel => exact ⟨_, (false), zq8, (by first | exact H' | (rw [hji11]; exact H')), ⟨by have := HJ1.out; first | omega | exact Nat.le_refl _⟩, ⟨zq2 BK599.out⟩, ⟨zb1 GE599.out⟩⟩
    case rest =>
     clear HC8
     obtain ⟨kq, x46_7, rfl, HA, HJ7, BK599, HB⟩ := hcut
     cases kq with
     | zero => exact absurd HA.out (by simp [rf_Fault.j1])
     | succ kj7 =>
      have H := HA.out
      clear HA
      simp only [rf_Fault.j1] at H
      by_cases c22 : x46_7 = true
      ·subst c22
       have H1 : (some 2) = some r := by rw [if_pos rfl] at H; exact H
       clear H
       have H := H1
       clear H1
       obtain rfl := Option.some.inj H
       go_wp2
       go_ret
       exact ⟨zq9, zb1 GE599.out⟩
      ·replace c22 := Bool.eq_false_iff.mpr c22
       subst c22
       have H1 : ((rf_natOf.f kj7 l0_1).bind fun t602 => ((rf_natOf.f kj7 l0_2).bind fun t605 => (if (t602.length : Int) = 0 then (if a0_0 = true then (rf_Fault.j2 kj7 t602 t605 true) else ((rf_CmpNat.f kj7 t605 (([1] : List Int))).bind fun t611 => (rf_Fault.j2 kj7 t602 t605 (t611 != 0)))) else (rf_Fault.j2 kj7 t602 t605 false)))) = some r := by rw [if_neg (show ¬ (false = true) by decide)] at H; exact H
       clear H
       have H := H1
       clear H1
       replace H := zj H
       obtain ⟨t602, A23, H⟩ := H
       replace H := zj H
       obtain ⟨t605, A24, H⟩ := H
       have HC25 := am H
       clear H
       try go_wp2
       refine zt2 (blk_drew BK599.out) (below_drew1 HB.out) ?_
       clear BK599 HB
       intro BK599 HB
       refine start_ (n := 8) (S := fun w' => w'.cell? ⟨gb599, 0, none⟩ = some (.bool a0_0) ∧ w'.cell? ⟨gb599, 1, none⟩ = some (.slice A0_1 l0_1.length c0_1) ∧ w'.cell? ⟨gb599, 2, none⟩ = some (.slice A0_2 l0_2.length c0_2)) (ds := []) #[false, false, false, false, false, false, false, false] (by kernel_rfl) rfl rfl ⟨(blk_cell BK599.out 0).trans rfl, (blk_cell BK599.out 1).trans rfl, (blk_cell BK599.out 2).trans rfl⟩ (fun hHeld => ?_); refine with_tabW rf_Fault.tab5 rf_Fault.bits5 (fun HT_ HW_ => ?_)
       generalize wc.drew = w26 at BK599 HB hHeld ⊢
       refine pz_ (i := 0) (N := some 47) (zmt 8 [0]) ?_
       refine pz_ (i := 3) (N := some 50) (zmt 8 [0, 3]) ?_
       refine tz3 (i := 1) (N := some 48) (zmt 8 [0, 1, 3]) ?_
       refine tz3 (i := 4) (N := some 51) (zmt 8 [0, 1, 3, 4]) ?_
       refine one_ (i := 2) (N := some 49) (zmf 8 [5, 6, 7]) rfl rfl (one_of HT_.out (by kernel_rfl)) (by decide) (fun K hK => ?_)
       refine goes_ Tryd.func45 (by kernel_rfl) rfl #[.slice A0_1 l0_1.length c0_1] (by rfl) rfl rfl zq5 ?_
       with_reducible refine (rf_natOf.calls kj7 _ _ l0_1 t602 _ ?side1 ?side2 A23.out).mono ?_
       (case side1 => exact zc (Kd.C_below HR0_1.out HB.out))
       (case side2 => exact HC0_1.out)
       rintro e w27 ⟨v603, rfl, ho0, hb⟩
       refine ⟨_, rfl, ?_⟩
       refine zt3 (Kd.V_lower (Kd.V_mono (ok' := fun k_ => k_ ≠ gb599) ho0 (fun k_ hk_ => (Kd.freshB (g := gb599) (o := .cells #[.bool a0_0, .slice A0_1 l0_1.length c0_1, .slice A0_2 l0_2.length c0_2] 24 (0, 0)) (zq2 BK599.out) k_ hk_))) (below_size (zb1 GE599.out))) (bb BK599.out hb) (below_step (zb1 GE599.out) hb) ?_
       clear BK599 HB
       intro HO604 BK599 HB
       refine hK.out _ _ ⟨(blk_cell BK599.out 0).trans rfl, (blk_cell BK599.out 1).trans rfl, (blk_cell BK599.out 2).trans rfl⟩ (fun hHeld => ?_)
       clear hK K
       refine nz_ (N := (some 49)) ?_
       refine one_ (i := 5) (N := some 52) (zmf 8 [6, 7]) rfl rfl (one_of HT_.out (by kernel_rfl)) (by decide) (fun K hK => ?_)
       refine goes_ Tryd.func45 (by kernel_rfl) rfl #[.slice A0_2 l0_2.length c0_2] (by rfl) rfl rfl zq5 ?_
       with_reducible refine (rf_natOf.calls kj7 _ _ l0_2 t605 _ ?side1 ?side2 A24.out).mono ?_
       (case side1 => exact zc (Kd.C_below HR0_2.out HB.out))
       (case side2 => exact HC0_2.out)
       rintro e w28 ⟨v606, rfl, ho0, hb⟩
       refine ⟨_, rfl, ?_⟩
       refine zt4 (vb HO604 hb) (Kd.V_lower (Kd.V_mono (ok' := fun k_ => k_ ≠ gb599) ho0 (fun k_ hk_ => (Kd.freshB (g := gb599) (o := .cells #[.bool a0_0, .slice A0_1 l0_1.length c0_1, .slice A0_2 l0_2.length c0_2] 24 (0, 0)) (zq2 BK599.out) k_ hk_))) (below_size (zb1 GE599.out))) (bb BK599.out hb) (below_step (zb1 GE599.out) hb) ?_
       clear HO604 BK599 HB
       intro HO604 HO607 BK599 HB
       refine hK.out _ _ ⟨(blk_cell BK599.out 0).trans rfl, (blk_cell BK599.out 1).trans rfl, (blk_cell BK599.out 2).trans rfl⟩ (fun hHeld => ?_)
       clear hK K
       refine nz_ (N := (some 52)) ?_
       refine pz_ (i := 6) (N := some 3) (zmf 8 [7]) ?_
       refine pz_ (i := 7) (N := some 4) (zmf 8 []) ?_
       refine done_ (done_of HT_.out (by kernel_rfl)) ?_
       go_upto_region 6 with (fail)
       go_cut [65] (fun v65 wc => ∃ (kq : Nat) (x65_24 : Bool), v65 = .bool x65_24 ∧ Aside0 (rf_Fault.j2 kq t602 t605 x65_24 = some r) ∧ Aside0 (kq ≤ kj7) ∧ Aside0 (Kd.V (Kd.int .i64) 3 wc w.heap.size (fun k_ => k_ ≠ gb599) v603 t602) ∧ Aside0 (Kd.V (Kd.int .i64) 3 wc w.heap.size (fun k_ => k_ ≠ gb599) v606 t605) ∧ Aside0 (wc.heap[gb599]? = some (.cells #[.bool a0_0, (.slice A0_1 l0_1.length c0_1), (.slice A0_2 l0_2.length c0_2)] 24 (0, 0))) ∧ Aside0 (Below w.heap.size w wc))
       case first =>
        have H := HC25.out
        clear HC25
        by_cases c29 : (t602.length : Int) = 0
        ·rw [if_pos c29] at H
         have c29b0 : ((t602.length : Int) == 0) = true := beq_iff_eq.mpr c29
         have c29b1 : ((t602.length : Int) != 0) = false := bne_eq_false_iff_eq.mpr c29
         clear c29
         (first | rw [c29b0] | (simp only [i64_w, i32_w]; rw [c29b0]) | skip)
         by_cases c30 : a0_0 = true
         ·subst c30
          have H1 : (rf_Fault.j2 kj7 t602 t605 true) = some r := by rw [if_pos rfl] at H; exact H
          clear H
          have H := H1
          clear H1
          have H' := am H
          clear H
          obtain ⟨Ao31, co31, eo31⟩ := Kd.V_slice HO604.out
          subst eo31
          have hcz32_0 := bc BK599.out 0 (.bool true)
          have hcz32_1 := bc BK599.out 1 (.slice A0_1 l0_1.length c0_1)
          have hcz32_2 := bc BK599.out 2 (.slice A0_2 l0_2.length c0_2)
          have hfz32_0 := blk_frozen BK599.out 0
          have hfz32_1 := blk_frozen BK599.out 1
          have hfz32_2 := blk_frozen BK599.out 2
          go_wp2
          go_meet
          case rel => exact ⟨_, (true), zq8, H', ⟨by have := HJ1.out; have := HJ7.out; first | omega | exact Nat.le_refl _⟩, ⟨zq3 HO604.out⟩, ⟨zq3 HO607.out⟩, ⟨zq2 BK599.out⟩, ⟨zb1 GE599.out⟩⟩
         ·replace c30 := Bool.eq_false_iff.mpr c30
          subst c30
          have H1 : ((rf_CmpNat.f kj7 t605 (([1] : List Int))).bind fun t611 => (rf_Fault.j2 kj7 t602 t605 (t611 != 0))) = some r := by rw [if_neg (show ¬ (false = true) by decide)] at H; exact H
          clear H
          have H := H1
          clear H1
          obtain ⟨y608, hy608⟩ : ∃ y_ : List Int, y_ = (([1] : List Int)) := ⟨_, rfl⟩
          try rw [← hy608] at H
          have Ny608 := am hy608
          clear hy608
          replace H := zj H
          obtain ⟨t611, A33, H⟩ := H
          have H' := am H
          clear H
          obtain ⟨Ao34, co34, eo34⟩ := Kd.V_slice HO604.out
          subst eo34
          have hcz35_0 := bc BK599.out 0 (.bool false)
          have hcz35_1 := bc BK599.out 1 (.slice A0_1 l0_1.length c0_1)
          have hcz35_2 := bc BK599.out 2 (.slice A0_2 l0_2.length c0_2)
          have hfz35_0 := blk_frozen BK599.out 0
          have hfz35_1 := blk_frozen BK599.out 1
          have hfz35_2 := blk_frozen BK599.out 2
          go_wp2_with (first | ((with_reducible refine gate_dst (N := 61) rfl ?_); (try (refine gate_guard (by rfl) ?_; dsimp only)); refine Kd.R_lit (Kd.int .i64) _ 3 ?hg (N := 61) ?hd (xs := ([1] : List Int)) (inner := [.int .i64 1]) (ok := fun _ => True) (okp := fun _ => True) ?hr ?hp (fun _ hk => hk) trivial (Below.refl _ _) (Nat.le_refl _) (by simp) ?_; (case hd => rfl); (case hg => rfl); (case hr => exact zr); (case hp => exact (Reps.one (show Kd.M (Kd.int .i64) _ _ _ 1 [.int .i64 1] from rfl) (Reps.none _ _))); intro v609 w36 ho37 hb hg_ hnew_; clear hg_ hnew_; (first | rw [← Ny608.out] at ho37 | (simp only [Int.reduceToNat] at ho37; rw [← Ny608.out] at ho37)); refine zt5 (Kd.V_elder' (zq3 HO604.out) (Kd.R_base ho37) hb) (Kd.V_elder' (zq3 HO607.out) (Kd.R_base ho37) hb) (Kd.R_lower ho37 (below_size (zb1 GE599.out))) (bb BK599.out hb) (below_step (zb1 GE599.out) hb) ?_; clear HO604 HO607 BK599 HB; intro HO604 HO607 HO610 BK599 HB; clear hb ho37; obtain ⟨Ao38, co38, eo38⟩ := Kd.V_slice HO607.out; subst eo38; obtain ⟨Ao39, co39, eo39⟩ := Kd.R_slice HO610.out; subst eo39) | (go_at_call 46; (with_reducible refine (rf_CmpNat.calls kj7 _ _ t605 _ _ y608 t611 _ ?side1 ?side2 ?side3 ?side4 A33.out).mono ?_); (case side1 => exact zc ((Kd.V_reads' HO607.out).2.2)); (case side2 => exact (Kd.V_reads' HO607.out).2.1); (case side3 => exact zc ((Kd.R_reads' HO610.out).2.2)); (case side4 => exact (Kd.R_reads' HO610.out).2.1); rintro e w40 ⟨rfl, hb⟩; refine zt5 (vb HO604 hb) (vb HO607 hb) (rb HO610 hb) (bb BK599.out hb) (below_step (zb1 GE599.out) hb) ?_; clear HO604 HO607 HO610 BK599 HB; intro HO604 HO607 HO610 BK599 HB; (try clear hb); (try clear hb2); (try clear hk); (try clear hi)))
          go_meet
          case rel => exact ⟨_, ((t611 != 0)), zq8, H', ⟨by have := HJ1.out; have := HJ7.out; first | omega | exact Nat.le_refl _⟩, ⟨zwV (h := by exact Kd.V_mono HO604.out (fun _ hk => hk.1))⟩, ⟨zwV (h := by exact Kd.V_mono HO607.out (fun _ hk => hk.1))⟩, ⟨zq2 BK599.out⟩, ⟨zb1 GE599.out⟩⟩
        ·rw [if_neg c29] at H
         have c29b0 : ((t602.length : Int) == 0) = false := beq_eq_false_iff_ne.mpr c29
         have c29b1 : ((t602.length : Int) != 0) = true := bne_iff_ne.mpr c29
         have c29b2 : ¬ (t602 = []) := fun h_ => c29 (by rw [h_]; rfl)
         (first | rw [c29b0] | (simp only [i64_w, i32_w]; rw [c29b0]) | skip)
         have H' := am H
         clear H
         obtain ⟨Ao41, co41, eo41⟩ := Kd.V_slice HO604.out
         subst eo41
         go_wp2
         go_meet
         case rel => exact ⟨_, (false), zq8, H', ⟨by have := HJ1.out; have := HJ7.out; first | omega | exact Nat.le_refl _⟩, ⟨zq3 HO604.out⟩, ⟨zq3 HO607.out⟩, ⟨zq2 BK599.out⟩, ⟨zb1 GE599.out⟩⟩
       case rest =>
        clear HC25
        obtain ⟨kq, x65_24, rfl, HA, HJ24, HO_3, HO_4, BK599, HB⟩ := hcut
        cases kq with
        | zero => exact absurd HA.out (by simp [rf_Fault.j2])
        | succ kj24 =>
         have H := HA.out
         clear HA
         simp only [rf_Fault.j2] at H
         by_cases c42 : x65_24 = true
         ·subst c42
          have H1 : (some 2) = some r := by rw [if_pos rfl] at H; exact H
          clear H
          have H := H1
          clear H1
          obtain rfl := Option.some.inj H
          go_wp2
          go_ret
          exact ⟨zq9, zb1 GE599.out⟩
         ·replace c42 := Bool.eq_false_iff.mpr c42
          subst c42
          have H1 : ((rf_GcdNat.f kj24 t602 t605).bind fun t612 => ((rf_CmpNat.f kj24 t612 (([1] : List Int))).bind fun t618 => (if t618 = 0 then (some 0) else (some 2)))) = some r := by rw [if_neg (show ¬ (false = true) by decide)] at H; exact H
          clear H
          have H := H1
          clear H1
          replace H := zj H
          obtain ⟨t612, A43, H⟩ := H
          obtain ⟨y615, hy615⟩ : ∃ y_ : List Int, y_ = (([1] : List Int)) := ⟨_, rfl⟩
          try rw [← hy615] at H
          have Ny615 := am hy615
          clear hy615
          replace H := zj H
          obtain ⟨t618, A44, H⟩ := H
          by_cases c45 : t618 = 0
          ·rw [if_pos c45] at H
           have c45b0 : (t618 == 0) = true := beq_iff_eq.mpr c45
           have c45b1 : (t618 != 0) = false := bne_eq_false_iff_eq.mpr c45
           clear c45
           obtain rfl := Option.some.inj H
           obtain ⟨Ao46, co46, eo46⟩ := Kd.V_slice HO_3.out
           subst eo46
           obtain ⟨Ao47, co47, eo47⟩ := Kd.V_slice HO_4.out
           subst eo47
           go_wp2_with (first | ((with_reducible refine gate_callee (f := 47) rfl ?_); refine goesL_ (some 68) rfl rfl Tryd.func47 (by kernel_rfl) rfl #[.slice Ao46 t602.length co46, .slice Ao47 t605.length co47] rfl zq5 ?_; (with_reducible refine (rf_GcdNat.calls kj24 (fun k_ => k_ ≠ gb599) _ _ t602 (fun k_ => k_ ≠ gb599) _ _ t605 t612 _ ?side1 ?side2 A43.out).mono ?_); (case side1 => exact HO_3.out); (case side2 => exact HO_4.out); rintro e w48 ⟨v613, rfl, ho0, hb⟩; refine ⟨_, rfl, ?_⟩; refine zt5 (vb HO_3 hb) (vb HO_4 hb) (Kd.V_lower (Kd.V_mono (ok' := fun k_ => k_ ≠ gb599) ho0 (fun k_ hk_ => Or.elim hk_ (fun hs_ => Or.elim hs_ (fun hs_ => hs_) (fun hs_ => hs_)) (fun hn_ => (Kd.freshB (g := gb599) (o := .cells #[.bool a0_0, .slice A0_1 l0_1.length c0_1, .slice A0_2 l0_2.length c0_2] 24 (0, 0)) (zq2 BK599.out) k_ hn_)))) (below_size (zb1 GE599.out))) (bb BK599.out hb) (below_step (zb1 GE599.out) hb) ?_; clear HO_3 HO_4 BK599 HB; intro HO_3 HO_4 HO614 BK599 HB) | ((with_reducible refine gate_dst (N := 69) rfl ?_); (try (refine gate_guard (by rfl) ?_; dsimp only)); refine Kd.R_lit (Kd.int .i64) _ 3 ?hg (N := 69) ?hd (xs := ([1] : List Int)) (inner := [.int .i64 1]) (ok := fun _ => True) (okp := fun _ => True) ?hr ?hp (fun _ hk => hk) trivial (Below.refl _ _) (Nat.le_refl _) (by simp) ?_; (case hd => rfl); (case hg => rfl); (case hr => exact zr); (case hp => exact (Reps.one (show Kd.M (Kd.int .i64) _ _ _ 1 [.int .i64 1] from rfl) (Reps.none _ _))); intro v616 w49 ho50 hb hg_ hnew_; clear hg_ hnew_; (first | rw [← Ny615.out] at ho50 | (simp only [Int.reduceToNat] at ho50; rw [← Ny615.out] at ho50)); refine zt6 (Kd.V_elder' (zq3 HO_3.out) (Kd.R_base ho50) hb) (Kd.V_elder' (zq3 HO_4.out) (Kd.R_base ho50) hb) (Kd.V_elder' (zq3 HO614.out) (Kd.R_base ho50) hb) (Kd.R_lower ho50 (below_size (zb1 GE599.out))) (bb BK599.out hb) (below_step (zb1 GE599.out) hb) ?_; clear HO_3 HO_4 HO614 BK599 HB; intro HO_3 HO_4 HO614 HO617 BK599 HB; clear hb ho50; obtain ⟨Ao51, co51, eo51⟩ := Kd.V_slice HO614.out; subst eo51; obtain ⟨Ao52, co52, eo52⟩ := Kd.R_slice HO617.out; subst eo52) | ((with_reducible refine gate_callee (f := 46) rfl ?_); refine goesL_ (some 70) rfl rfl Tryd.func46 (by kernel_rfl) rfl #[.slice Ao51 t612.length co51, .slice Ao52 y615.length co52] rfl zq5 ?_; (with_reducible refine (rf_CmpNat.calls kj24 _ _ t612 _ _ y615 t618 _ ?side1 ?side2 ?side3 ?side4 A44.out).mono ?_); (case side1 => exact zc ((Kd.V_reads' HO614.out).2.2)); (case side2 => exact (Kd.V_reads' HO614.out).2.1); (case side3 => exact zc ((Kd.R_reads' HO617.out).2.2)); (case side4 => exact (Kd.R_reads' HO617.out).2.1); rintro e w53 ⟨rfl, hb⟩; refine ⟨_, rfl, ?_⟩; refine zt6 (vb HO_3 hb) (vb HO_4 hb) (vb HO614 hb) (rb HO617 hb) (bb BK599.out hb) (below_step (zb1 GE599.out) hb) ?_; clear HO_3 HO_4 HO614 HO617 BK599 HB; intro HO_3 HO_4 HO614 HO617 BK599 HB; (try clear hb); (try clear hb2); (try clear hk); (try clear hi)))
           go_ret
           exact ⟨zq9, zb1 GE599.out⟩
          ·rw [if_neg c45] at H
           have c45b0 : (t618 == 0) = false := beq_eq_false_iff_ne.mpr c45
           have c45b1 : (t618 != 0) = true := bne_iff_ne.mpr c45
           obtain rfl := Option.some.inj H
           obtain ⟨Ao54, co54, eo54⟩ := Kd.V_slice HO_3.out
           subst eo54
           obtain ⟨Ao55, co55, eo55⟩ := Kd.V_slice HO_4.out
           subst eo55
           go_wp2_with (first | ((with_reducible refine gate_callee (f := 47) rfl ?_); refine goesL_ (some 68) rfl rfl Tryd.func47 (by kernel_rfl) rfl #[.slice Ao54 t602.length co54, .slice Ao55 t605.length co55] rfl zq5 ?_; (with_reducible refine (rf_GcdNat.calls kj24 (fun k_ => k_ ≠ gb599) _ _ t602 (fun k_ => k_ ≠ gb599) _ _ t605 t612 _ ?side1 ?side2 A43.out).mono ?_); (case side1 => exact HO_3.out); (case side2 => exact HO_4.out); rintro e w56 ⟨v613, rfl, ho0, hb⟩; refine ⟨_, rfl, ?_⟩; refine zt5 (vb HO_3 hb) (vb HO_4 hb) (Kd.V_lower (Kd.V_mono (ok' := fun k_ => k_ ≠ gb599) ho0 (fun k_ hk_ => Or.elim hk_ (fun hs_ => Or.elim hs_ (fun hs_ => hs_) (fun hs_ => hs_)) (fun hn_ => (Kd.freshB (g := gb599) (o := .cells #[.bool a0_0, .slice A0_1 l0_1.length c0_1, .slice A0_2 l0_2.length c0_2] 24 (0, 0)) (zq2 BK599.out) k_ hn_)))) (below_size (zb1 GE599.out))) (bb BK599.out hb) (below_step (zb1 GE599.out) hb) ?_; clear HO_3 HO_4 BK599 HB; intro HO_3 HO_4 HO614 BK599 HB) | ((with_reducible refine gate_dst (N := 69) rfl ?_); (try (refine gate_guard (by rfl) ?_; dsimp only)); refine Kd.R_lit (Kd.int .i64) _ 3 ?hg (N := 69) ?hd (xs := ([1] : List Int)) (inner := [.int .i64 1]) (ok := fun _ => True) (okp := fun _ => True) ?hr ?hp (fun _ hk => hk) trivial (Below.refl _ _) (Nat.le_refl _) (by simp) ?_; (case hd => rfl); (case hg => rfl); (case hr => exact zr); (case hp => exact (Reps.one (show Kd.M (Kd.int .i64) _ _ _ 1 [.int .i64 1] from rfl) (Reps.none _ _))); intro v616 w57 ho58 hb hg_ hnew_; clear hg_ hnew_; (first | rw [← Ny615.out] at ho58 | (simp only [Int.reduceToNat] at ho58; rw [← Ny615.out] at ho58)); refine zt6 (Kd.V_elder' (zq3 HO_3.out) (Kd.R_base ho58) hb) (Kd.V_elder' (zq3 HO_4.out) (Kd.R_base ho58) hb) (Kd.V_elder' (zq3 HO614.out) (Kd.R_base ho58) hb) (Kd.R_lower ho58 (below_size (zb1 GE599.out))) (bb BK599.out hb) (below_step (zb1 GE599.out) hb) ?_; clear HO_3 HO_4 HO614 BK599 HB; intro HO_3 HO_4 HO614 HO617 BK599 HB; clear hb ho58; obtain ⟨Ao59, co59, eo59⟩ := Kd.V_slice HO614.out; subst eo59; obtain ⟨Ao60, co60, eo60⟩ := Kd.R_slice HO617.out; subst eo60) | ((with_reducible refine gate_callee (f := 46) rfl ?_); refine goesL_ (some 70) rfl rfl Tryd.func46 (by kernel_rfl) rfl #[.slice Ao59 t612.length co59, .slice Ao60 y615.length co60] rfl zq5 ?_; (with_reducible refine (rf_CmpNat.calls kj24 _ _ t612 _ _ y615 t618 _ ?side1 ?side2 ?side3 ?side4 A44.out).mono ?_); (case side1 => exact zc ((Kd.V_reads' HO614.out).2.2)); (case side2 => exact (Kd.V_reads' HO614.out).2.1); (case side3 => exact zc ((Kd.R_reads' HO617.out).2.2)); (case side4 => exact (Kd.R_reads' HO617.out).2.1); rintro e w61 ⟨rfl, hb⟩; refine ⟨_, rfl, ?_⟩; refine zt6 (vb HO_3 hb) (vb HO_4 hb) (vb HO614 hb) (rb HO617 hb) (bb BK599.out hb) (below_step (zb1 GE599.out) hb) ?_; clear HO_3 HO_4 HO614 HO617 BK599 HB; intro HO_3 HO_4 HO614 HO617 BK599 HB; (try clear hb); (try clear hb2); (try clear hk); (try clear hi)))
           go_ret
           exact ⟨zq9, zb1 GE599.out⟩
mutual
def rf_MulNat.l0 : Nat → List Int → List Int → List Int → Int → Int → Option (List Int)
 | 0, _, _, _, _, _ => none
 | k + 1, x0, x1, x5, x18, x19 => if x19 < x18 then (rf_MulNat.l1 k x0 x1 x5 x19 0 0 x18 x19) else ((rf_trim.f k x5).bind fun t701 => (some t701))
def rf_MulNat.l1 : Nat → List Int → List Int → List Int → Int → Int → Int → Int → Int → Option (List Int)
 | 0, _, _, _, _, _, _, _, _ => none
 | k + 1, x0, x1, x5, x6, x7, x8, x18, x19 => if x8 < (x1.length : Int) then (if 0 ≤ (wrap64 (x6 + x8)) then (if (wrap64 (x6 + x8)) < (x5.length : Int) then (if 0 ≤ x6 then (if x6 < (x0.length : Int) then ((rf_digit.f x1 x8).bind fun t706 => (rf_MulNat.l1 k x0 x1 (x5.set ((wrap64 (x6 + x8)) : Int).toNat (Int.tmod (wrap64 ((wrap64 ((rd x5 (wrap64 (x6 + x8))) + (wrap64 ((rd x0 x6) * t706)))) + x7)) 65536)) x6 (wrap64 (Int.tdiv (wrap64 ((wrap64 ((rd x5 (wrap64 (x6 + x8))) + (wrap64 ((rd x0 x6) * t706)))) + x7)) 65536)) (wrap64 (x8 + 1)) x18 x19)) else (none)) else (none)) else (none)) else (none)) else (if x7 > 0 then (if 0 ≤ (wrap64 (x6 + x8)) then (if (wrap64 (x6 + x8)) < (x5.length : Int) then (if 0 ≤ x6 then (if x6 < (x0.length : Int) then ((rf_digit.f x1 x8).bind fun t710 => (rf_MulNat.l1 k x0 x1 (x5.set ((wrap64 (x6 + x8)) : Int).toNat (Int.tmod (wrap64 ((wrap64 ((rd x5 (wrap64 (x6 + x8))) + (wrap64 ((rd x0 x6) * t710)))) + x7)) 65536)) x6 (wrap64 (Int.tdiv (wrap64 ((wrap64 ((rd x5 (wrap64 (x6 + x8))) + (wrap64 ((rd x0 x6) * t710)))) + x7)) 65536)) (wrap64 (x8 + 1)) x18 x19)) else (none)) else (none)) else (none)) else (none)) else (rf_MulNat.l0 k x0 x1 x5 x18 (wrap64 (x19 + 1))))
end
def rf_MulNat.f (k : Nat) (l0 : List Int) (l1 : List Int) : Option (List Int) := if 0 ≤ (wrap64 ((wrap64 ((l0.length : Int) + (l1.length : Int))) + 1)) then (if (wrap64 ((wrap64 ((l0.length : Int) + (l1.length : Int))) + 1) : Int).toNat ≤ 35184372088832 then (rf_MulNat.l0 k l0 l1 (List.replicate (wrap64 ((wrap64 ((l0.length : Int) + (l1.length : Int))) + 1) : Int).toNat 0) (l0.length : Int) 0) else (none)) else (none)
theorem rf_MulNat.mono_l : ∀ k, (∀ y0 y1 y2 y3 y4, LeO (rf_MulNat.l0 k y0 y1 y2 y3 y4) (rf_MulNat.l0 (k + 1) y0 y1 y2 y3 y4)) ∧ (∀ y0 y1 y2 y3 y4 y5 y6 y7, LeO (rf_MulNat.l1 k y0 y1 y2 y3 y4 y5 y6 y7) (rf_MulNat.l1 (k + 1) y0 y1 y2 y3 y4 y5 y6 y7))
 | 0 => ⟨fun _ _ _ _ _ r h => by simp [rf_MulNat.l0] at h, fun _ _ _ _ _ _ _ _ r h => by simp [rf_MulNat.l1] at h⟩
 | k + 1 => by
  obtain ⟨ih0, ih1⟩ := rf_MulNat.mono_l k
  refine ⟨?_, ?_⟩
  ·intro y0 y1 y2 y3 y4
   unfold rf_MulNat.l0
   have m0 := ih0
   have m1 := ih1
   have m2 := @rf_trim.mono
   exact zm
  ·intro y0 y1 y2 y3 y4 y5 y6 y7
   unfold rf_MulNat.l1
   have m0 := ih0
   have m1 := ih1
   have m2 := @rf_trim.mono
   exact zm
theorem rf_MulNat.mono : ∀ a0 a1 k, LeO (rf_MulNat.f k a0 a1) (rf_MulNat.f (k + 1) a0 a1) := by
 intro a0 a1 k
 obtain ⟨ih0, ih1⟩ := rf_MulNat.mono_l k
 unfold rf_MulNat.f
 have m0 := ih0
 have m1 := ih1
 have m2 := @rf_trim.mono
 exact zm
set_option maxHeartbeats 8000000 in
set_option maxRecDepth 100000 in
theorem rf_MulNat.calls (k : Nat) (A0 : Option Addr) (c0 : Nat) (l0 : List Int) (A1 : Option Addr) (c1 : Nat) (l1 : List Int) (r : List Int) (w : World) (hr0 : Kd.C (Kd.int .i64) w A0 l0.length l0) (hc0 : l0.length ≤ c0) (hr1 : Kd.C (Kd.int .i64) w A1 l1.length l1) (hc1 : l1.length ≤ c1) (h : rf_MulNat.f k l0 l1 = some r) :
  Calls Tryd.prog 63 #[.slice A0 l0.length c0, .slice A1 l1.length c1] w fun e w' => ∃ v0_ : Value, e = .returned (v0_) ∧ Kd.V (Kd.int .i64) 3 w' w.heap.size (fun k_ => (w.heap.size ≤ k_)) v0_ r ∧ Below w.heap.size w w' := by
 have HR0 := am hr0
 have HC0 := am hc0
 clear hr0 hc0
 have HR1 := am hr1
 have HC1 := am hc1
 clear hr1 hc1
 have HB := am (Below.refl w.heap.size w)
 have H := h
 unfold rf_MulNat.f at H
 clear h
 obtain ⟨ji3, hji3⟩ : ∃ j_ : Int, (wrap64 ((wrap64 ((l0.length : Int) + (l1.length : Int))) + 1)) = j_ := ⟨_, rfl⟩
 replace H : (if 0 ≤ (ji3) then (if (ji3 : Int).toNat ≤ 35184372088832 then (rf_MulNat.l0 k l0 l1 (List.replicate (ji3 : Int).toNat 0) (l0.length : Int) 0) else (none)) else (none)) = some r := by first | (rw [hji3] at H; exact H) | (simp only [hji3] at H ⊢; exact H)
 have hji3w : (IntKind.i64.wrap ((wrap64 ((l0.length : Int) + (l1.length : Int))) + 1)) = ji3 := (i64_w _).trans hji3
 replace H := zn H
 obtain ⟨c4, H⟩ := H
 have c4b0 := eq_true c4
 have c4b1 := decide_eq_true c4
 clear c4
 replace H := zn H
 obtain ⟨c5, H⟩ := H
 have c5b0 := eq_true c5
 have c5b1 := decide_eq_true c5
 clear c5
 obtain ⟨y698, hy698⟩ : ∃ y_ : List Int, y_ = (List.replicate (ji3 : Int).toNat 0) := ⟨_, rfl⟩
 try rw [← hy698] at H
 have Ny698 := am hy698
 clear hy698
 have H' := am H
 clear H
 go_enter Tryd.func63, Tryd.ntmps63
 go_wp2_with (first | ((with_reducible refine gate_dst (N := 16) rfl ?_); refine Kd.R_make (Kd.int .i64) _ 3 rfl (N := 16) rfl 39 _ _ rfl ji3 rfl rfl Tryd.underlying39 (.int .i64 0) 8 info3 rfl (by decide) (by omega) 0 (ok := fun _ => True) (okp := fun _ => True) rfl (fun _ hk => hk) trivial zq6 (Nat.le_trans (Nat.mul_le_mul_right _ (zq6 : ji3.toNat ≤ 35184372088832)) (by omega)) (Below.refl _ _) (Nat.le_refl _) ?_; intro v699 w6 ho7 hb hg_ hnew_; clear hg_ hnew_; (first | rw [← Ny698.out] at ho7 | (simp only [Int.reduceToNat] at ho7; rw [← Ny698.out] at ho7)); refine zt2 (Kd.R_lower (Kd.R_newM (M := fun k_ => (w.heap.size ≤ k_)) ho7 (below_size zq1) (fun k_ h_ => h_)) (below_size zq1)) (below_step zq1 hb) ?_; clear HB; intro HO700 HB; clear hb ho7))
 repeat (go_quiet (first | ((with_reducible refine gate_dst (N := 16) rfl ?_); refine Kd.R_make (Kd.int .i64) _ 3 rfl (N := 16) rfl 39 _ _ rfl ji3 rfl rfl Tryd.underlying39 (.int .i64 0) 8 info3 rfl (by decide) (by omega) 0 (ok := fun _ => True) (okp := fun _ => True) rfl (fun _ hk => hk) trivial zq6 (Nat.le_trans (Nat.mul_le_mul_right _ (zq6 : ji3.toNat ≤ 35184372088832)) (by omega)) (Below.refl _ _) (Nat.le_refl _) ?_; intro v699 w6 ho7 hb hg_ hnew_; clear hg_ hnew_; (first | rw [← Ny698.out] at ho7 | (simp only [Int.reduceToNat] at ho7; rw [← Ny698.out] at ho7)); refine zt2 (Kd.R_lower (Kd.R_newM (M := fun k_ => (w.heap.size ≤ k_)) ho7 (below_size zq1) (fun k_ h_ => h_)) (below_size zq1)) (below_step zq1 hb) ?_; clear HB; intro HO700 HB; clear hb ho7)); try go_wp2_with (first | ((with_reducible refine gate_dst (N := 16) rfl ?_); refine Kd.R_make (Kd.int .i64) _ 3 rfl (N := 16) rfl 39 _ _ rfl ji3 rfl rfl Tryd.underlying39 (.int .i64 0) 8 info3 rfl (by decide) (by omega) 0 (ok := fun _ => True) (okp := fun _ => True) rfl (fun _ hk => hk) trivial zq6 (Nat.le_trans (Nat.mul_le_mul_right _ (zq6 : ji3.toNat ≤ 35184372088832)) (by omega)) (Below.refl _ _) (Nat.le_refl _) ?_; intro v699 w6 ho7 hb hg_ hnew_; clear hg_ hnew_; (first | rw [← Ny698.out] at ho7 | (simp only [Int.reduceToNat] at ho7; rw [← Ny698.out] at ho7)); refine zt2 (Kd.R_lower (Kd.R_newM (M := fun k_ => (w.heap.size ≤ k_)) ho7 (below_size zq1) (fun k_ h_ => h_)) (below_size zq1)) (below_step zq1 hb) ?_; clear HB; intro HO700 HB; clear hb ho7)))
 go_loopg [19] k (fun kq v19 w' => ∃ (x5_1 : List Int) (x19_1 : Int), v19 = .int .i64 x19_1 ∧ Aside0 (rf_MulNat.l0 kq l0 l1 x5_1 (l0.length : Int) x19_1 = some r) ∧ Aside0 (kq ≤ k) ∧ Aside0 (Kd.R (Kd.int .i64) 3 w' w.heap.size (fun k_ => (w.heap.size ≤ k_)) v699 x5_1) ∧ Aside0 (Below w.heap.size w w'))
 case atStart => exact ⟨(y698), (0), zq8, H', ⟨Nat.le_refl _⟩, ⟨zwR (h := by exact Kd.R_mono HO700.out (fun _ hk => hk.1))⟩, ⟨zq1⟩⟩
 case round =>
  clear H'
  obtain ⟨x5_1, x19_1, rfl, HA, HK1, HO_5, HB⟩ := hrel
  cases gk with
  | zero => exact absurd HA.out (by simp [rf_MulNat.l0])
  | succ k1 =>
   have H := HA.out
   clear HA
   simp only [rf_MulNat.l0] at H
   by_cases c8 : x19_1 < (l0.length : Int)
   ·rw [if_pos c8] at H
    have c8b0 := decide_eq_true c8
    clear c8
    have H' := am H
    clear H
    go_wp2
    repeat (go_quiet (fail); try go_wp2)
    go_loopg [7, 8] k1 (fun kq v7 v8 w' => ∃ (x5_2 : List Int) (x7_2 : Int) (x8_2 : Int), v7 = .int .i64 x7_2 ∧ v8 = .int .i64 x8_2 ∧ Aside0 (rf_MulNat.l1 kq l0 l1 x5_2 x19_1 x7_2 x8_2 (l0.length : Int) x19_1 = some r) ∧ Aside0 (kq ≤ k1) ∧ Aside0 (Kd.R (Kd.int .i64) 3 w' w.heap.size (fun k_ => (w.heap.size ≤ k_)) v699 x5_2) ∧ Aside0 (Below w.heap.size w w'))
    case atStart => exact ⟨(x5_1), (0), (0), zq8, zq8, H', ⟨Nat.le_refl _⟩, ⟨zq4 HO_5.out⟩, ⟨zq1⟩⟩
    case round =>
     clear H'
     obtain ⟨x5_2, x7_2, x8_2, rfl, rfl, HA, HK2, HO_5, HB⟩ := hrel
     cases gk with
     | zero => exact absurd HA.out (by simp [rf_MulNat.l1])
     | succ k2 =>
      have H := HA.out
      clear HA
      simp only [rf_MulNat.l1] at H
      by_cases c9 : x8_2 < (l1.length : Int)
      ·rw [if_pos c9] at H
       have c9b0 := decide_eq_true c9
       clear c9
       obtain ⟨ji10, hji10⟩ : ∃ j_ : Int, (wrap64 (x19_1 + x8_2)) = j_ := ⟨_, rfl⟩
       replace H : (if 0 ≤ (ji10) then (if (ji10) < (x5_2.length : Int) then (if 0 ≤ x19_1 then (if x19_1 < (l0.length : Int) then ((rf_digit.f l1 x8_2).bind fun t706 => (rf_MulNat.l1 k2 l0 l1 (x5_2.set ((ji10) : Int).toNat (Int.tmod (wrap64 ((wrap64 ((rd x5_2 (ji10)) + (wrap64 ((rd l0 x19_1) * t706)))) + x7_2)) 65536)) x19_1 (wrap64 (Int.tdiv (wrap64 ((wrap64 ((rd x5_2 (ji10)) + (wrap64 ((rd l0 x19_1) * t706)))) + x7_2)) 65536)) (wrap64 (x8_2 + 1)) (l0.length : Int) x19_1)) else (none)) else (none)) else (none)) else (none)) = some r := by first | (rw [hji10] at H; exact H) | (simp only [hji10] at H ⊢; exact H)
       have hji10w : (IntKind.i64.wrap (x19_1 + x8_2)) = ji10 := (i64_w _).trans hji10
       replace H := zn H
       obtain ⟨c11, H⟩ := H
       have c11b0 := decide_eq_true c11
       clear c11
       replace H := zn H
       obtain ⟨c12, H⟩ := H
       have c12b0 := decide_eq_true c12
       clear c12
       replace H := zn H
       obtain ⟨c13, H⟩ := H
       have c13b0 := decide_eq_true c13
       clear c13
       replace H := zn H
       obtain ⟨c14, H⟩ := H
       have c14b0 := decide_eq_true c14
       clear c14
       replace H := zj H
       obtain ⟨t706, A15, H⟩ := H
       obtain ⟨y707, hy707⟩ : ∃ y_ : List Int, y_ = (x5_2.set ((ji10) : Int).toNat (Int.tmod (wrap64 ((wrap64 ((rd x5_2 (ji10)) + (wrap64 ((rd l0 x19_1) * t706)))) + x7_2)) 65536)) := ⟨_, rfl⟩
       try rw [← hy707] at H
       have Ny707 := am hy707
       clear hy707
       have H' := am H
       clear H
       obtain ⟨Ao17, co17, eo17⟩ := Kd.R_slice HO_5.out
       subst eo17
       have p704 : 0 ≤ ((ji10) : Int) := zq6
       have q704 : (ji10) < (x5_2.length : Int) := zq6
       obtain ⟨ad704, e704, hx704_0⟩ := Kd.at_int (Kd.R_reads' HO_5.out).2.2 (ji10) p704 q704
       cases e704
       replace p704 := eq_true p704
       replace q704 := eq_true q704
       have p705 : 0 ≤ (x19_1 : Int) := zq6
       have q705 : x19_1 < (l0.length : Int) := zq6
       obtain ⟨ad705, e705, hx705_0⟩ := Kd.at_int HR0.out x19_1 p705 q705
       cases e705
       replace hx705_0 := (HB.out.cell (World.block_lt_of_cell? w _ hx705_0)).trans hx705_0
       replace p705 := eq_true p705
       replace q705 := eq_true q705
       go_wp2_with (first | (go_at_call 97; (with_reducible refine (rf_digit.calls _ _ l1 x8_2 t706 _ ?side1 ?side2 A15.out).mono ?_); (case side1 => exact zc (Kd.C_below HR1.out HB.out)); (case side2 => exact HC1.out); rintro e w' ⟨rfl, ⟨nd, rfl⟩⟩; (try first | exact ⟨rfl, _, World.drewN_drewN _ _ _⟩ | exact ⟨rfl, _, Eq.trans (World.drewN_drewN _ _ _) (congrArg (World.drewN _) (Nat.add_assoc _ _ _))⟩); have p16 : 0 ≤ ((ji10) : Int) := zq6; have q16 : ((ji10) : Int) < ((x5_2.length : Int) : Int) := zq6; obtain ⟨go16, co16, eo16, gb16, gl16, cl16, HG16⟩ := Kd.R_form HO_5.out (by omega); (first | cases eo16 | (injection eo16 with ea_ en_ ec_; (first | subst ea_ | (injection ea_ with ea_; subst ea_)); subst ec_; clear en_)); have GB16 := am gb16; have GG16 := am HG16; clear gb16 gl16 HG16; (first | simp only [add_plain] at hx704_0 | skip); obtain ⟨hx16_0, hf16_0⟩ := Kd.R_celln 0 HO_5.out ((ji10) : Int) p16 q16; replace p16 := eq_true p16; replace q16 := eq_true q16; obtain ⟨hy18_, hz18_⟩ := Kd.R_celln 0 HO_5.out ((ji10) : Int) zq6 zq6; have HP18 := Kd.R_putg HO_5.out ((ji10) : Int) (Int.tmod (wrap64 ((wrap64 ((rd x5_2 (ji10)) + (wrap64 ((rd l0 x19_1) * t706)))) + x7_2)) 65536)) | ((with_reducible refine gate_store (t := 3) (p := 55) rfl ?_); (try (rw [drewN_self wr]; generalize hq_ : World.drewN wr _ = wr; refine zt2 (Kd.R_at hq_ HO_5.out) (below_at hq_ HB.out) ?_; clear hq_ HO_5 HB; intro HO_5 HB; (try (obtain ⟨hy18_, hz18_⟩ := Kd.R_celln 0 HO_5.out ((ji10) : Int) zq6 zq6)); (try (have HP18 := Kd.R_putg HO_5.out ((ji10) : Int) (Int.tmod (wrap64 ((wrap64 ((rd x5_2 (ji10)) + (wrap64 ((rd l0 x19_1) * t706)))) + x7_2)) 65536))))); refine zstore (t := 3) (p := 55) (w1 := (wr.setCell ⟨go16, ((ji10) : Int).toNat, none⟩ (.int .i64 (Int.tmod (wrap64 ((wrap64 ((rd x5_2 (ji10)) + (wrap64 ((rd l0 x19_1) * t706)))) + x7_2)) 65536)))) ?_; intro w19 hw; have hg : wr.grownBy w19 (some go16) := (by rw [hw]; exact HP18.2); have hp_ : Kd.R (Kd.int .i64) 3 w19 w.heap.size (fun k_ => (w.heap.size ≤ k_)) (.slice (some ⟨go16, 0, none⟩) x5_2.length co17) y707 := (by rw [hw, Ny707.out]; exact HP18.1); clear HP18; refine zt2 (hp_) ((by rw [hw]; exact below_set (HB.out) GB16.out : Below w.heap.size w w19)) ?_; clear HO_5 HB; intro HO_5 HB; clear hg hw hp_))
       repeat (go_quiet (first | (go_at_call 97; (with_reducible refine (rf_digit.calls _ _ l1 x8_2 t706 _ ?side1 ?side2 A15.out).mono ?_); (case side1 => exact zc (Kd.C_below HR1.out HB.out)); (case side2 => exact HC1.out); rintro e w' ⟨rfl, ⟨nd, rfl⟩⟩; (try first | exact ⟨rfl, _, World.drewN_drewN _ _ _⟩ | exact ⟨rfl, _, Eq.trans (World.drewN_drewN _ _ _) (congrArg (World.drewN _) (Nat.add_assoc _ _ _))⟩); have p16 : 0 ≤ ((ji10) : Int) := zq6; have q16 : ((ji10) : Int) < ((x5_2.length : Int) : Int) := zq6; obtain ⟨go16, co16, eo16, gb16, gl16, cl16, HG16⟩ := Kd.R_form HO_5.out (by omega); (first | cases eo16 | (injection eo16 with ea_ en_ ec_; (first | subst ea_ | (injection ea_ with ea_; subst ea_)); subst ec_; clear en_)); have GB16 := am gb16; have GG16 := am HG16; clear gb16 gl16 HG16; (first | simp only [add_plain] at hx704_0 | skip); obtain ⟨hx16_0, hf16_0⟩ := Kd.R_celln 0 HO_5.out ((ji10) : Int) p16 q16; replace p16 := eq_true p16; replace q16 := eq_true q16; obtain ⟨hy18_, hz18_⟩ := Kd.R_celln 0 HO_5.out ((ji10) : Int) zq6 zq6; have HP18 := Kd.R_putg HO_5.out ((ji10) : Int) (Int.tmod (wrap64 ((wrap64 ((rd x5_2 (ji10)) + (wrap64 ((rd l0 x19_1) * t706)))) + x7_2)) 65536)) | ((with_reducible refine gate_store (t := 3) (p := 55) rfl ?_); (try (rw [drewN_self wr]; generalize hq_ : World.drewN wr _ = wr; refine zt2 (Kd.R_at hq_ HO_5.out) (below_at hq_ HB.out) ?_; clear hq_ HO_5 HB; intro HO_5 HB; (try (obtain ⟨hy18_, hz18_⟩ := Kd.R_celln 0 HO_5.out ((ji10) : Int) zq6 zq6)); (try (have HP18 := Kd.R_putg HO_5.out ((ji10) : Int) (Int.tmod (wrap64 ((wrap64 ((rd x5_2 (ji10)) + (wrap64 ((rd l0 x19_1) * t706)))) + x7_2)) 65536))))); refine zstore (t := 3) (p := 55) (w1 := (wr.setCell ⟨go16, ((ji10) : Int).toNat, none⟩ (.int .i64 (Int.tmod (wrap64 ((wrap64 ((rd x5_2 (ji10)) + (wrap64 ((rd l0 x19_1) * t706)))) + x7_2)) 65536)))) ?_; intro w19 hw; have hg : wr.grownBy w19 (some go16) := (by rw [hw]; exact HP18.2); have hp_ : Kd.R (Kd.int .i64) 3 w19 w.heap.size (fun k_ => (w.heap.size ≤ k_)) (.slice (some ⟨go16, 0, none⟩) x5_2.length co17) y707 := (by rw [hw, Ny707.out]; exact HP18.1); clear HP18; refine zt2 (hp_) ((by rw [hw]; exact below_set (HB.out) GB16.out : Below w.heap.size w w19)) ?_; clear HO_5 HB; intro HO_5 HB; clear hg hw hp_)); try go_wp2_with (first | (go_at_call 97; (with_reducible refine (rf_digit.calls _ _ l1 x8_2 t706 _ ?side1 ?side2 A15.out).mono ?_); (case side1 => exact zc (Kd.C_below HR1.out HB.out)); (case side2 => exact HC1.out); rintro e w' ⟨rfl, ⟨nd, rfl⟩⟩; (try first | exact ⟨rfl, _, World.drewN_drewN _ _ _⟩ | exact ⟨rfl, _, Eq.trans (World.drewN_drewN _ _ _) (congrArg (World.drewN _) (Nat.add_assoc _ _ _))⟩); have p16 : 0 ≤ ((ji10) : Int) := zq6; have q16 : ((ji10) : Int) < ((x5_2.length : Int) : Int) := zq6; obtain ⟨go16, co16, eo16, gb16, gl16, cl16, HG16⟩ := Kd.R_form HO_5.out (by omega); (first | cases eo16 | (injection eo16 with ea_ en_ ec_; (first | subst ea_ | (injection ea_ with ea_; subst ea_)); subst ec_; clear en_)); have GB16 := am gb16; have GG16 := am HG16; clear gb16 gl16 HG16; (first | simp only [add_plain] at hx704_0 | skip); obtain ⟨hx16_0, hf16_0⟩ := Kd.R_celln 0 HO_5.out ((ji10) : Int) p16 q16; replace p16 := eq_true p16; replace q16 := eq_true q16; obtain ⟨hy18_, hz18_⟩ := Kd.R_celln 0 HO_5.out ((ji10) : Int) zq6 zq6; have HP18 := Kd.R_putg HO_5.out ((ji10) : Int) (Int.tmod (wrap64 ((wrap64 ((rd x5_2 (ji10)) + (wrap64 ((rd l0 x19_1) * t706)))) + x7_2)) 65536)) | ((with_reducible refine gate_store (t := 3) (p := 55) rfl ?_); (try (rw [drewN_self wr]; generalize hq_ : World.drewN wr _ = wr; refine zt2 (Kd.R_at hq_ HO_5.out) (below_at hq_ HB.out) ?_; clear hq_ HO_5 HB; intro HO_5 HB; (try (obtain ⟨hy18_, hz18_⟩ := Kd.R_celln 0 HO_5.out ((ji10) : Int) zq6 zq6)); (try (have HP18 := Kd.R_putg HO_5.out ((ji10) : Int) (Int.tmod (wrap64 ((wrap64 ((rd x5_2 (ji10)) + (wrap64 ((rd l0 x19_1) * t706)))) + x7_2)) 65536))))); refine zstore (t := 3) (p := 55) (w1 := (wr.setCell ⟨go16, ((ji10) : Int).toNat, none⟩ (.int .i64 (Int.tmod (wrap64 ((wrap64 ((rd x5_2 (ji10)) + (wrap64 ((rd l0 x19_1) * t706)))) + x7_2)) 65536)))) ?_; intro w19 hw; have hg : wr.grownBy w19 (some go16) := (by rw [hw]; exact HP18.2); have hp_ : Kd.R (Kd.int .i64) 3 w19 w.heap.size (fun k_ => (w.heap.size ≤ k_)) (.slice (some ⟨go16, 0, none⟩) x5_2.length co17) y707 := (by rw [hw, Ny707.out]; exact HP18.1); clear HP18; refine zt2 (hp_) ((by rw [hw]; exact below_set (HB.out) GB16.out : Below w.heap.size w w19)) ?_; clear HO_5 HB; intro HO_5 HB; clear hg hw hp_)))
       go_roundg k2
       case measure => have := HK1.out; have := HK2.out; omega
       case rel => exact ⟨(y707), (wrap64 (Int.tdiv (wrap64 ((wrap64 ((rd x5_2 (ji10)) + (wrap64 ((rd l0 x19_1) * t706)))) + x7_2)) 65536)), (wrap64 (x8_2 + 1)), (by first | rfl | (simp; done) | (simp only [← hji10] <;> (first | rfl | simp)) | (simp [*]; done)), zq8, (by first | exact H' | (rw [hji3]; exact H') | (rw [hji10]; exact H')), ⟨by have := HK1.out; have := HK2.out; omega⟩, ⟨zq4 HO_5.out⟩, ⟨zq1⟩⟩
      ·rw [if_neg c9] at H
       have c9b0 := decide_eq_false c9
       clear c9
       by_cases c20 : x7_2 > 0
       ·rw [if_pos c20] at H
        have c20b0 : decide (0 < x7_2) = true := decide_eq_true c20
        clear c20
        obtain ⟨ji21, hji21⟩ : ∃ j_ : Int, (wrap64 (x19_1 + x8_2)) = j_ := ⟨_, rfl⟩
        replace H : (if 0 ≤ (ji21) then (if (ji21) < (x5_2.length : Int) then (if 0 ≤ x19_1 then (if x19_1 < (l0.length : Int) then ((rf_digit.f l1 x8_2).bind fun t710 => (rf_MulNat.l1 k2 l0 l1 (x5_2.set ((ji21) : Int).toNat (Int.tmod (wrap64 ((wrap64 ((rd x5_2 (ji21)) + (wrap64 ((rd l0 x19_1) * t710)))) + x7_2)) 65536)) x19_1 (wrap64 (Int.tdiv (wrap64 ((wrap64 ((rd x5_2 (ji21)) + (wrap64 ((rd l0 x19_1) * t710)))) + x7_2)) 65536)) (wrap64 (x8_2 + 1)) (l0.length : Int) x19_1)) else (none)) else (none)) else (none)) else (none)) = some r := by first | (rw [hji21] at H; exact H) | (simp only [hji21] at H ⊢; exact H)
        have hji21w : (IntKind.i64.wrap (x19_1 + x8_2)) = ji21 := (i64_w _).trans hji21
        replace H := zn H
        obtain ⟨c22, H⟩ := H
        have c22b0 := decide_eq_true c22
        clear c22
        replace H := zn H
        obtain ⟨c23, H⟩ := H
        have c23b0 := decide_eq_true c23
        clear c23
        replace H := zn H
        obtain ⟨c24, H⟩ := H
        have c24b0 := decide_eq_true c24
        clear c24
        replace H := zn H
        obtain ⟨c25, H⟩ := H
        have c25b0 := decide_eq_true c25
        clear c25
        replace H := zj H
        obtain ⟨t710, A26, H⟩ := H
        obtain ⟨y711, hy711⟩ : ∃ y_ : List Int, y_ = (x5_2.set ((ji21) : Int).toNat (Int.tmod (wrap64 ((wrap64 ((rd x5_2 (ji21)) + (wrap64 ((rd l0 x19_1) * t710)))) + x7_2)) 65536)) := ⟨_, rfl⟩
        try rw [← hy711] at H
        have Ny711 := am hy711
        clear hy711
        have H' := am H
        clear H
        obtain ⟨Ao28, co28, eo28⟩ := Kd.R_slice HO_5.out
        subst eo28
        have p708 : 0 ≤ ((ji21) : Int) := zq6
        have q708 : (ji21) < (x5_2.length : Int) := zq6
        obtain ⟨ad708, e708, hx708_0⟩ := Kd.at_int (Kd.R_reads' HO_5.out).2.2 (ji21) p708 q708
        cases e708
        replace p708 := eq_true p708
        replace q708 := eq_true q708
        have p709 : 0 ≤ (x19_1 : Int) := zq6
        have q709 : x19_1 < (l0.length : Int) := zq6
        obtain ⟨ad709, e709, hx709_0⟩ := Kd.at_int HR0.out x19_1 p709 q709
        cases e709
        replace hx709_0 := (HB.out.cell (World.block_lt_of_cell? w _ hx709_0)).trans hx709_0
        replace p709 := eq_true p709
        replace q709 := eq_true q709
        go_wp2_with (first | (go_at_call 97; (with_reducible refine (rf_digit.calls _ _ l1 x8_2 t710 _ ?side1 ?side2 A26.out).mono ?_); (case side1 => exact zc (Kd.C_below HR1.out HB.out)); (case side2 => exact HC1.out); rintro e w' ⟨rfl, ⟨nd, rfl⟩⟩; (try first | exact ⟨rfl, _, World.drewN_drewN _ _ _⟩ | exact ⟨rfl, _, Eq.trans (World.drewN_drewN _ _ _) (congrArg (World.drewN _) (Nat.add_assoc _ _ _))⟩); have p27 : 0 ≤ ((ji21) : Int) := zq6; have q27 : ((ji21) : Int) < ((x5_2.length : Int) : Int) := zq6; obtain ⟨go27, co27, eo27, gb27, gl27, cl27, HG27⟩ := Kd.R_form HO_5.out (by omega); (first | cases eo27 | (injection eo27 with ea_ en_ ec_; (first | subst ea_ | (injection ea_ with ea_; subst ea_)); subst ec_; clear en_)); have GB27 := am gb27; have GG27 := am HG27; clear gb27 gl27 HG27; (first | simp only [add_plain] at hx708_0 | skip); obtain ⟨hx27_0, hf27_0⟩ := Kd.R_celln 0 HO_5.out ((ji21) : Int) p27 q27; replace p27 := eq_true p27; replace q27 := eq_true q27; obtain ⟨hy29_, hz29_⟩ := Kd.R_celln 0 HO_5.out ((ji21) : Int) zq6 zq6; have HP29 := Kd.R_putg HO_5.out ((ji21) : Int) (Int.tmod (wrap64 ((wrap64 ((rd x5_2 (ji21)) + (wrap64 ((rd l0 x19_1) * t710)))) + x7_2)) 65536)) | ((with_reducible refine gate_store (t := 3) (p := 55) rfl ?_); (try (rw [drewN_self wr]; generalize hq_ : World.drewN wr _ = wr; refine zt2 (Kd.R_at hq_ HO_5.out) (below_at hq_ HB.out) ?_; clear hq_ HO_5 HB; intro HO_5 HB; (try (obtain ⟨hy29_, hz29_⟩ := Kd.R_celln 0 HO_5.out ((ji21) : Int) zq6 zq6)); (try (have HP29 := Kd.R_putg HO_5.out ((ji21) : Int) (Int.tmod (wrap64 ((wrap64 ((rd x5_2 (ji21)) + (wrap64 ((rd l0 x19_1) * t710)))) + x7_2)) 65536))))); refine zstore (t := 3) (p := 55) (w1 := (wr.setCell ⟨go27, ((ji21) : Int).toNat, none⟩ (.int .i64 (Int.tmod (wrap64 ((wrap64 ((rd x5_2 (ji21)) + (wrap64 ((rd l0 x19_1) * t710)))) + x7_2)) 65536)))) ?_; intro w30 hw; have hg : wr.grownBy w30 (some go27) := (by rw [hw]; exact HP29.2); have hp_ : Kd.R (Kd.int .i64) 3 w30 w.heap.size (fun k_ => (w.heap.size ≤ k_)) (.slice (some ⟨go27, 0, none⟩) x5_2.length co28) y711 := (by rw [hw, Ny711.out]; exact HP29.1); clear HP29; refine zt2 (hp_) ((by rw [hw]; exact below_set (HB.out) GB27.out : Below w.heap.size w w30)) ?_; clear HO_5 HB; intro HO_5 HB; clear hg hw hp_))
        repeat (go_quiet (first | (go_at_call 97; (with_reducible refine (rf_digit.calls _ _ l1 x8_2 t710 _ ?side1 ?side2 A26.out).mono ?_); (case side1 => exact zc (Kd.C_below HR1.out HB.out)); (case side2 => exact HC1.out); rintro e w' ⟨rfl, ⟨nd, rfl⟩⟩; (try first | exact ⟨rfl, _, World.drewN_drewN _ _ _⟩ | exact ⟨rfl, _, Eq.trans (World.drewN_drewN _ _ _) (congrArg (World.drewN _) (Nat.add_assoc _ _ _))⟩); have p27 : 0 ≤ ((ji21) : Int) := zq6; have q27 : ((ji21) : Int) < ((x5_2.length : Int) : Int) := zq6; obtain ⟨go27, co27, eo27, gb27, gl27, cl27, HG27⟩ := Kd.R_form HO_5.out (by omega); (first | cases eo27 | (injection eo27 with ea_ en_ ec_; (first | subst ea_ | (injection ea_ with ea_; subst ea_)); subst ec_; clear en_)); have GB27 := am gb27; have GG27 := am HG27; clear gb27 gl27 HG27; (first | simp only [add_plain] at hx708_0 | skip); obtain ⟨hx27_0, hf27_0⟩ := Kd.R_celln 0 HO_5.out ((ji21) : Int) p27 q27; replace p27 := eq_true p27; replace q27 := eq_true q27; obtain ⟨hy29_, hz29_⟩ := Kd.R_celln 0 HO_5.out ((ji21) : Int) zq6 zq6; have HP29 := Kd.R_putg HO_5.out ((ji21) : Int) (Int.tmod (wrap64 ((wrap64 ((rd x5_2 (ji21)) + (wrap64 ((rd l0 x19_1) * t710)))) + x7_2)) 65536)) | ((with_reducible refine gate_store (t := 3) (p := 55) rfl ?_); (try (rw [drewN_self wr]; generalize hq_ : World.drewN wr _ = wr; refine zt2 (Kd.R_at hq_ HO_5.out) (below_at hq_ HB.out) ?_; clear hq_ HO_5 HB; intro HO_5 HB; (try (obtain ⟨hy29_, hz29_⟩ := Kd.R_celln 0 HO_5.out ((ji21) : Int) zq6 zq6)); (try (have HP29 := Kd.R_putg HO_5.out ((ji21) : Int) (Int.tmod (wrap64 ((wrap64 ((rd x5_2 (ji21)) + (wrap64 ((rd l0 x19_1) * t710)))) + x7_2)) 65536))))); refine zstore (t := 3) (p := 55) (w1 := (wr.setCell ⟨go27, ((ji21) : Int).toNat, none⟩ (.int .i64 (Int.tmod (wrap64 ((wrap64 ((rd x5_2 (ji21)) + (wrap64 ((rd l0 x19_1) * t710)))) + x7_2)) 65536)))) ?_; intro w30 hw; have hg : wr.grownBy w30 (some go27) := (by rw [hw]; exact HP29.2); have hp_ : Kd.R (Kd.int .i64) 3 w30 w.heap.size (fun k_ => (w.heap.size ≤ k_)) (.slice (some ⟨go27, 0, none⟩) x5_2.length co28) y711 := (by rw [hw, Ny711.out]; exact HP29.1); clear HP29; refine zt2 (hp_) ((by rw [hw]; exact below_set (HB.out) GB27.out : Below w.heap.size w w30)) ?_; clear HO_5 HB; intro HO_5 HB; clear hg hw hp_)); try go_wp2_with (first | (go_at_call 97; (with_reducible refine (rf_digit.calls _ _ l1 x8_2 t710 _ ?side1 ?side2 A26.out).mono ?_); (case side1 => exact zc (Kd.C_below HR1.out HB.out)); (case side2 => exact HC1.out); rintro e w' ⟨rfl, ⟨nd, rfl⟩⟩; (try first | exact ⟨rfl, _, World.drewN_drewN _ _ _⟩ | exact ⟨rfl, _, Eq.trans (World.drewN_drewN _ _ _) (congrArg (World.drewN _) (Nat.add_assoc _ _ _))⟩); have p27 : 0 ≤ ((ji21) : Int) := zq6; have q27 : ((ji21) : Int) < ((x5_2.length : Int) : Int) := zq6; obtain ⟨go27, co27, eo27, gb27, gl27, cl27, HG27⟩ := Kd.R_form HO_5.out (by omega); (first | cases eo27 | (injection eo27 with ea_ en_ ec_; (first | subst ea_ | (injection ea_ with ea_; subst ea_)); subst ec_; clear en_)); have GB27 := am gb27; have GG27 := am HG27; clear gb27 gl27 HG27; (first | simp only [add_plain] at hx708_0 | skip); obtain ⟨hx27_0, hf27_0⟩ := Kd.R_celln 0 HO_5.out ((ji21) : Int) p27 q27; replace p27 := eq_true p27; replace q27 := eq_true q27; obtain ⟨hy29_, hz29_⟩ := Kd.R_celln 0 HO_5.out ((ji21) : Int) zq6 zq6; have HP29 := Kd.R_putg HO_5.out ((ji21) : Int) (Int.tmod (wrap64 ((wrap64 ((rd x5_2 (ji21)) + (wrap64 ((rd l0 x19_1) * t710)))) + x7_2)) 65536)) | ((with_reducible refine gate_store (t := 3) (p := 55) rfl ?_); (try (rw [drewN_self wr]; generalize hq_ : World.drewN wr _ = wr; refine zt2 (Kd.R_at hq_ HO_5.out) (below_at hq_ HB.out) ?_; clear hq_ HO_5 HB; intro HO_5 HB; (try (obtain ⟨hy29_, hz29_⟩ := Kd.R_celln 0 HO_5.out ((ji21) : Int) zq6 zq6)); (try (have HP29 := Kd.R_putg HO_5.out ((ji21) : Int) (Int.tmod (wrap64 ((wrap64 ((rd x5_2 (ji21)) + (wrap64 ((rd l0 x19_1) * t710)))) + x7_2)) 65536))))); refine zstore (t := 3) (p := 55) (w1 := (wr.setCell ⟨go27, ((ji21) : Int).toNat, none⟩ (.int .i64 (Int.tmod (wrap64 ((wrap64 ((rd x5_2 (ji21)) + (wrap64 ((rd l0 x19_1) * t710)))) + x7_2)) 65536)))) ?_; intro w30 hw; have hg : wr.grownBy w30 (some go27) := (by rw [hw]; exact HP29.2); have hp_ : Kd.R (Kd.int .i64) 3 w30 w.heap.size (fun k_ => (w.heap.size ≤ k_)) (.slice (some ⟨go27, 0, none⟩) x5_2.length co28) y711 := (by rw [hw, Ny711.out]; exact HP29.1); clear HP29; refine zt2 (hp_) ((by rw [hw]; exact below_set (HB.out) GB27.out : Below w.heap.size w w30)) ?_; clear HO_5 HB; intro HO_5 HB; clear hg hw hp_)))
        go_roundg k2
        case measure => have := HK1.out; have := HK2.out; omega
        case rel => exact ⟨(y711), (wrap64 (Int.tdiv (wrap64 ((wrap64 ((rd x5_2 (ji21)) + (wrap64 ((rd l0 x19_1) * t710)))) + x7_2)) 65536)), (wrap64 (x8_2 + 1)), (by first | rfl | (simp; done) | (simp only [← hji21] <;> (first | rfl | simp)) | (simp [*]; done)), zq8, (by first | exact H' | (rw [hji3]; exact H') | (rw [hji21]; exact H')), ⟨by have := HK1.out; have := HK2.out; omega⟩, ⟨zq4 HO_5.out⟩, ⟨zq1⟩⟩
       ·rw [if_neg c20] at H
        have c20b0 : decide (0 < x7_2) = false := decide_eq_false c20
        clear c20
        have H' := am H
        clear H
        go_wp2
        repeat (go_quiet (fail); try go_wp2)
        go_roundg k2
        case measure => have := HK1.out; have := HK2.out; omega
        case rel => exact ⟨(x5_2), (wrap64 (x19_1 + 1)), zq8, (by first | exact H' | (rw [hji3]; exact H')), ⟨by have := HK1.out; have := HK2.out; omega⟩, ⟨zq4 HO_5.out⟩, ⟨zq1⟩⟩
   ·rw [if_neg c8] at H
    have c8b0 := decide_eq_false c8
    clear c8
    replace H := zj H
    obtain ⟨t701, A31, H⟩ := H
    obtain rfl := Option.some.inj H
    obtain ⟨Ao32, co32, eo32⟩ := Kd.R_slice HO_5.out
    subst eo32
    go_wp2_with (first | (go_at_call 96; (with_reducible refine (rf_trim.calls k1 (fun k_ => some k_ = (.slice Ao32 x5_1.length co32 : Value).ownBlock) _ _ x5_1 t701 _ ?side1 A31.out).mono ?_); (case side1 => exact Kd.R_V (Kd.R_tight rfl (HO_5.out))); rintro e w33 ⟨v702, rfl, ho0, hb⟩; refine zt3 (rb HO_5 hb) (Kd.V_lower (Kd.V_mono (ok' := fun k_ => (w.heap.size ≤ k_)) ho0 (fun k_ hk_ => Or.elim hk_ (fun hs_ => ((HO_5.out).1 k_ hs_.symm)) (fun hn_ => (Nat.le_trans (below_size zq1) hn_)))) (below_size zq1)) (below_step zq1 hb) ?_; clear HO_5 HB; intro HO_5 HO703 HB))
    repeat (go_quiet (first | (go_at_call 96; (with_reducible refine (rf_trim.calls k1 (fun k_ => some k_ = (.slice Ao32 x5_1.length co32 : Value).ownBlock) _ _ x5_1 t701 _ ?side1 A31.out).mono ?_); (case side1 => exact Kd.R_V (Kd.R_tight rfl (HO_5.out))); rintro e w33 ⟨v702, rfl, ho0, hb⟩; refine zt3 (rb HO_5 hb) (Kd.V_lower (Kd.V_mono (ok' := fun k_ => (w.heap.size ≤ k_)) ho0 (fun k_ hk_ => Or.elim hk_ (fun hs_ => ((HO_5.out).1 k_ hs_.symm)) (fun hn_ => (Nat.le_trans (below_size zq1) hn_)))) (below_size zq1)) (below_step zq1 hb) ?_; clear HO_5 HB; intro HO_5 HO703 HB)); try go_wp2_with (first | (go_at_call 96; (with_reducible refine (rf_trim.calls k1 (fun k_ => some k_ = (.slice Ao32 x5_1.length co32 : Value).ownBlock) _ _ x5_1 t701 _ ?side1 A31.out).mono ?_); (case side1 => exact Kd.R_V (Kd.R_tight rfl (HO_5.out))); rintro e w33 ⟨v702, rfl, ho0, hb⟩; refine zt3 (rb HO_5 hb) (Kd.V_lower (Kd.V_mono (ok' := fun k_ => (w.heap.size ≤ k_)) ho0 (fun k_ hk_ => Or.elim hk_ (fun hs_ => ((HO_5.out).1 k_ hs_.symm)) (fun hn_ => (Nat.le_trans (below_size zq1) hn_)))) (below_size zq1)) (below_step zq1 hb) ?_; clear HO_5 HB; intro HO_5 HO703 HB)))
    go_ret
    exact ⟨_, by first | rfl | (simp [errW_none, errW_some] <;> rfl) | (simp only [← hji3]; first | rfl | (simp [errW_none, errW_some] <;> rfl)) | (simp [*, errW_none, errW_some] <;> rfl), zq3 HO703.out, zq1⟩
end Go.Proofs.YtemnjgkicndmjaaDoor.Q

namespace Go.Proofs.YtemnjgkicndmjaaDoor.Q
open Go.RowKit Go.Proofs.YtemnjgkicndmjaaDoorW.PrintWords Go.Proofs.YtemnjgkicndmjaaDoorW.PrintLast Go.Proofs.YtemnjgkicndmjaaDoorW.PrintMore
attribute [local go_sem] max2_int min2_int max_two min_two max_three min_three max_four min_four
set_option linter.unusedVariables false
set_option linter.unusedSimpArgs false
mutual
def rf_AddNat.l0 : Nat → List Int → List Int → List Int → Int → Int → Option (List Int)
 | 0, _, _, _, _, _ => none
 | k + 1, x0, x1, x5, x6, x7 => if x7 < (x0.length : Int) then (rf_AddNat.j1 k x0 x1 x5 x6 x7 true) else (if x7 < (x1.length : Int) then (rf_AddNat.j1 k x0 x1 x5 x6 x7 true) else (rf_AddNat.j1 k x0 x1 x5 x6 x7 (decide (x6 > 0))))
def rf_AddNat.j1 : Nat → List Int → List Int → List Int → Int → Int → Bool → Option (List Int)
 | 0, _, _, _, _, _, _ => none
 | k + 1, x0, x1, x5, x6, x7, x22 => if x22 = true then ((rf_digit.f x0 x7).bind fun t646 => ((rf_digit.f x1 x7).bind fun t647 => (if x5.length < 17592186044416 then (rf_AddNat.l0 k x0 x1 (x5 ++ [Int.tmod (wrap64 ((wrap64 (t646 + t647)) + x6)) 65536]) (wrap64 (Int.tdiv (wrap64 ((wrap64 (t646 + t647)) + x6)) 65536)) (wrap64 (x7 + 1))) else (none)))) else ((rf_trim.f k x5).bind fun t651 => (some t651))
end
def rf_AddNat.f (k : Nat) (l0 : List Int) (l1 : List Int) : Option (List Int) := rf_AddNat.l0 k l0 l1 ([] : List Int) 0 0
theorem rf_AddNat.mono_l : ∀ k, (∀ y0 y1 y2 y3 y4, LeO (rf_AddNat.l0 k y0 y1 y2 y3 y4) (rf_AddNat.l0 (k + 1) y0 y1 y2 y3 y4)) ∧ (∀ y0 y1 y2 y3 y4 y5, LeO (rf_AddNat.j1 k y0 y1 y2 y3 y4 y5) (rf_AddNat.j1 (k + 1) y0 y1 y2 y3 y4 y5))
 | 0 => ⟨fun _ _ _ _ _ r h => by simp [rf_AddNat.l0] at h, fun _ _ _ _ _ _ r h => by simp [rf_AddNat.j1] at h⟩
 | k + 1 => by
  obtain ⟨ih0, ih1⟩ := rf_AddNat.mono_l k
  refine ⟨?_, ?_⟩
  ·intro y0 y1 y2 y3 y4
   unfold rf_AddNat.l0
   have m0 := ih0
   have m1 := ih1
   have m2 := @rf_trim.mono
   exact zm
  ·intro y0 y1 y2 y3 y4 y5
   unfold rf_AddNat.j1
   have m0 := ih0
   have m1 := ih1
   have m2 := @rf_trim.mono
   exact zm
theorem rf_AddNat.mono : ∀ a0 a1 k, LeO (rf_AddNat.f k a0 a1) (rf_AddNat.f (k + 1) a0 a1) := by
 intro a0 a1 k
 obtain ⟨ih0, ih1⟩ := rf_AddNat.mono_l k
 unfold rf_AddNat.f
 have m0 := ih0
 have m1 := ih1
 have m2 := @rf_trim.mono
 exact zm
set_option maxHeartbeats 8000000 in
set_option maxRecDepth 100000 in
theorem rf_AddNat.calls (k : Nat) (A0 : Option Addr) (c0 : Nat) (l0 : List Int) (A1 : Option Addr) (c1 : Nat) (l1 : List Int) (r : List Int) (w : World) (hr0 : Kd.C (Kd.int .i64) w A0 l0.length l0) (hc0 : l0.length ≤ c0) (hr1 : Kd.C (Kd.int .i64) w A1 l1.length l1) (hc1 : l1.length ≤ c1) (h : rf_AddNat.f k l0 l1 = some r) :
  Calls Tryd.prog 90 #[.slice A0 l0.length c0, .slice A1 l1.length c1] w fun e w' => ∃ v0_ : Value, e = .returned (v0_) ∧ Kd.V (Kd.int .i64) 3 w' w.heap.size (fun k_ => (w.heap.size ≤ k_)) v0_ r ∧ Below w.heap.size w w' := by
 have HR0 := am hr0
 have HC0 := am hc0
 clear hr0 hc0
 have HR1 := am hr1
 have HC1 := am hc1
 clear hr1 hc1
 have HB := am (Below.refl w.heap.size w)
 have H := h
 unfold rf_AddNat.f at H
 clear h
 have H' := am H
 clear H
 go_enter Tryd.func90, Tryd.ntmps90
 go_wp2
 go_loopg [5, 6, 7] k (fun kq v5 v6 v7 w' => ∃ (x5_1 : List Int) (x6_1 : Int) (x7_1 : Int), v6 = .int .i64 x6_1 ∧ v7 = .int .i64 x7_1 ∧ Aside0 (rf_AddNat.l0 kq l0 l1 x5_1 x6_1 x7_1 = some r) ∧ Aside0 (kq ≤ k) ∧ Aside0 (Kd.R (Kd.int .i64) 3 w' w.heap.size (fun k_ => (w.heap.size ≤ k_)) v5 x5_1) ∧ Aside0 (Below w.heap.size w w'))
 case atStart => exact ⟨(([] : List Int)), (0), (0), zq8, zq8, H', ⟨Nat.le_refl _⟩, ⟨by first | exact Kd.R_nil _ _ _ _ _ | exact Kd.N_nil _ _ _ _ _ | exact Kd.V_nil _ _ _ _ _ | exact Kd.Q_nil _ _ _ _ _ | exact Kd.S_nil _ _ _ _ _⟩, ⟨zq1⟩⟩
 case round =>
  clear H'
  obtain ⟨x5_1, x6_1, x7_1, rfl, rfl, HA, HK1, HO_5, HB⟩ := hrel
  cases gk with
  | zero => exact absurd HA.out (by simp [rf_AddNat.l0])
  | succ k1 =>
   have H := HA.out
   clear HA
   simp only [rf_AddNat.l0] at H
   have HC3 := am H
   clear H
   go_upto_region 4 with (fail)
   go_cut [22] (fun v22 wc => ∃ (kq : Nat) (x22_2 : Bool), v22 = .bool x22_2 ∧ Aside0 (rf_AddNat.j1 kq l0 l1 x5_1 x6_1 x7_1 x22_2 = some r) ∧ Aside0 (kq ≤ k1) ∧ Aside0 (Kd.R (Kd.int .i64) 3 wc w.heap.size (fun k_ => (w.heap.size ≤ k_)) u5 x5_1) ∧ Aside0 (Below w.heap.size w wc))
   case first =>
    have H := HC3.out
    clear HC3
    by_cases c4 : x7_1 < (l0.length : Int)
    ·rw [if_pos c4] at H
     have c4b0 := decide_eq_true c4
     clear c4
     (first | rw [c4b0] | (simp only [i64_w, i32_w]; rw [c4b0]) | skip)
     have H' := am H
     clear H
     go_wp2
     go_meet
     case rel => exact ⟨_, (true), zq8, H', ⟨by have := HK1.out; first | omega | exact Nat.le_refl _⟩, ⟨zq4 HO_5.out⟩, ⟨zq1⟩⟩
    ·rw [if_neg c4] at H
     have c4b0 := decide_eq_false c4
     clear c4
     (first | rw [c4b0] | (simp only [i64_w, i32_w]; rw [c4b0]) | skip)
     by_cases c5 : x7_1 < (l1.length : Int)
     ·rw [if_pos c5] at H
      have c5b0 := decide_eq_true c5
      clear c5
      have H' := am H
      clear H
      go_wp2
      go_meet
      case rel => exact ⟨_, (true), zq8, H', ⟨by have := HK1.out; first | omega | exact Nat.le_refl _⟩, ⟨zq4 HO_5.out⟩, ⟨zq1⟩⟩
     ·rw [if_neg c5] at H
      have c5b0 := decide_eq_false c5
      clear c5
      have H' := am H
      clear H
      go_wp2
      go_meet
      case rel => exact ⟨_, (decide (x6_1 > 0)), zq8, H', ⟨by have := HK1.out; first | omega | exact Nat.le_refl _⟩, ⟨zq4 HO_5.out⟩, ⟨zq1⟩⟩
   case rest =>
    clear HC3
    obtain ⟨kq, x22_2, rfl, HA, HJ2, HO_5, HB⟩ := hcut
    cases kq with
    | zero => exact absurd HA.out (by simp [rf_AddNat.j1])
    | succ kj2 =>
     have H := HA.out
     clear HA
     simp only [rf_AddNat.j1] at H
     by_cases c6 : x22_2 = true
     ·subst c6
      have H1 : ((rf_digit.f l0 x7_1).bind fun t646 => ((rf_digit.f l1 x7_1).bind fun t647 => (if x5_1.length < 17592186044416 then (rf_AddNat.l0 kj2 l0 l1 (x5_1 ++ [Int.tmod (wrap64 ((wrap64 (t646 + t647)) + x6_1)) 65536]) (wrap64 (Int.tdiv (wrap64 ((wrap64 (t646 + t647)) + x6_1)) 65536)) (wrap64 (x7_1 + 1))) else (none)))) = some r := by rw [if_pos rfl] at H; exact H
      clear H
      have H := H1
      clear H1
      replace H := zj H
      obtain ⟨t646, A7, H⟩ := H
      replace H := zj H
      obtain ⟨t647, A8, H⟩ := H
      replace H := zn H
      obtain ⟨c9, H⟩ := H
      have LMc9 := am c9
      clear c9
      obtain ⟨y648, hy648⟩ : ∃ y_ : List Int, y_ = (x5_1 ++ [Int.tmod (wrap64 ((wrap64 (t646 + t647)) + x6_1)) 65536]) := ⟨_, rfl⟩
      try rw [← hy648] at H
      have Ny648 := am hy648
      clear hy648
      have H' := am H
      clear H
      go_wp2_with (first | ((with_reducible refine gate_callee (f := 97) rfl ?_); refine goesL_ (some 27) rfl rfl Tryd.func97 (by kernel_rfl) rfl #[.slice A0 l0.length c0, .int .i64 x7_1] rfl zq5 ?_; (with_reducible refine (rf_digit.calls _ _ l0 x7_1 t646 _ ?side1 ?side2 A7.out).mono ?_); (case side1 => exact zc (Kd.C_below HR0.out HB.out)); (case side2 => exact HC0.out); rintro e w' ⟨rfl, ⟨nd, rfl⟩⟩; refine ⟨_, rfl, ?_⟩) | ((with_reducible refine gate_callee (f := 97) rfl ?_); refine goesL_ (some 30) rfl rfl Tryd.func97 (by kernel_rfl) rfl #[.slice A1 l1.length c1, .int .i64 x7_1] rfl zq5 ?_; (with_reducible refine (rf_digit.calls _ _ l1 x7_1 t647 _ ?side1 ?side2 A8.out).mono ?_); (case side1 => exact zc (Kd.C_below HR1.out zq1)); (case side2 => exact HC1.out); rintro e w' ⟨rfl, ⟨nd, rfl⟩⟩; refine ⟨_, rfl, ?_⟩) | ((with_reducible refine gate_builtin (b := .append) (xs := #[.tmp 34, .tmp 37]) rfl ?_); (try (refine gate_guard (by rfl) ?_; dsimp only)); at_builtin; refine Kd.R_append (Kd.int .i64) (w0 := w) w.heap.size rfl (.tmp 34) (.tmp 37) 39 3 (.int .i64 0) 8 rfl Tryd.underlying39 info3 rfl (by decide) (by omega) u5 x5_1 (Int.tmod (wrap64 ((wrap64 (t646 + t647)) + x6_1)) 65536) [.int .i64 (Int.tmod (wrap64 ((wrap64 (t646 + t647)) + x6_1)) 65536)] (fun k_ => (w.heap.size ≤ k_)) (fun _ => False) rfl rfl ?aP (fun _ hk => hk.elim) ?aF ?aO ?aB ?aS ?aL ?_; (case aP => exact rfl); (case aB => exact zq1); (case aF => exact (fun k_ hk => (Nat.le_trans (below_size zq1) hk))); (case aO => exact (zq4 HO_5.out)); (case aS => exact (below_size zq1)); (case aL => have := LMc9.out; omega); intro v649 w10 ho hb hg hat; rw [← Ny648.out] at ho; refine zt2 (hb) (ho) ?_; clear HB HO_5; intro HB HO650; clear ho hb hg hat))
      go_roundg kj2
      case measure => have := HK1.out; have := HJ2.out; omega
      case rel => exact ⟨(y648), (wrap64 (Int.tdiv (wrap64 ((wrap64 (t646 + t647)) + x6_1)) 65536)), (wrap64 (x7_1 + 1)), zq8, zq8, H', ⟨by have := HK1.out; have := HJ2.out; omega⟩, ⟨zq4 HO650.out⟩, ⟨zq1⟩⟩
     ·replace c6 := Bool.eq_false_iff.mpr c6
      subst c6
      have H1 : ((rf_trim.f kj2 x5_1).bind fun t651 => (some t651)) = some r := by rw [if_neg (show ¬ (false = true) by decide)] at H; exact H
      clear H
      have H := H1
      clear H1
      replace H := zj H
      obtain ⟨t651, A11, H⟩ := H
      obtain rfl := Option.some.inj H
      obtain ⟨Ao12, co12, eo12⟩ := Kd.R_slice HO_5.out
      subst eo12
      go_wp2_with (first | ((with_reducible refine gate_callee (f := 96) rfl ?_); refine goesL_ (some 42) rfl rfl Tryd.func96 (by kernel_rfl) rfl #[.slice Ao12 x5_1.length co12] rfl zq5 ?_; (with_reducible refine (rf_trim.calls kj2 (fun k_ => some k_ = (.slice Ao12 x5_1.length co12 : Value).ownBlock) _ _ x5_1 t651 _ ?side1 A11.out).mono ?_); (case side1 => exact Kd.R_V (Kd.R_tight rfl (HO_5.out))); rintro e w13 ⟨v652, rfl, ho0, hb⟩; refine ⟨_, rfl, ?_⟩; refine zt3 (rb HO_5 hb) (Kd.V_lower (Kd.V_mono (ok' := fun k_ => (w.heap.size ≤ k_)) ho0 (fun k_ hk_ => Or.elim hk_ (fun hs_ => ((HO_5.out).1 k_ hs_.symm)) (fun hn_ => (Nat.le_trans (below_size zq1) hn_)))) (below_size zq1)) (below_step zq1 hb) ?_; clear HO_5 HB; intro HO_5 HO653 HB))
      go_ret
      exact ⟨_, zq9, zq3 HO653.out, zq1⟩
def rf_LenNat.l0 : Nat → Int → Int → Option (Int)
 | 0, _, _ => none
 | k + 1, x3, x4 => if x4 > 0 then (rf_LenNat.l0 k (wrap64 (x3 + 1)) (x4 / 2)) else (some x3)
def rf_LenNat.f (k : Nat) (l0 : List Int) : Option (Int) := if (l0.length : Int) > 0 then (if 0 ≤ (wrap64 ((l0.length : Int) - 1)) then (if (wrap64 ((l0.length : Int) - 1)) < (l0.length : Int) then (rf_LenNat.l0 k (wrap64 (16 * (wrap64 ((l0.length : Int) - 1)))) (rd l0 (wrap64 ((l0.length : Int) - 1)))) else (none)) else (none)) else (some 0)
theorem rf_LenNat.mono_l : ∀ k, (∀ y0 y1, LeO (rf_LenNat.l0 k y0 y1) (rf_LenNat.l0 (k + 1) y0 y1))
 | 0 => fun _ _ r h => by simp [rf_LenNat.l0] at h
 | k + 1 => by
  have ih0 := rf_LenNat.mono_l k
  ·intro y0 y1
   unfold rf_LenNat.l0
   have m0 := ih0
   exact zm
theorem rf_LenNat.mono : ∀ a0 k, LeO (rf_LenNat.f k a0) (rf_LenNat.f (k + 1) a0) := by
 intro a0 k
 have ih0 := rf_LenNat.mono_l k
 unfold rf_LenNat.f
 have m0 := ih0
 exact zm
set_option maxHeartbeats 8000000 in
set_option maxRecDepth 100000 in
theorem rf_LenNat.calls (k : Nat) (A0 : Option Addr) (c0 : Nat) (l0 : List Int) (r : Int) (w : World) (hr0 : Kd.C (Kd.int .i64) w A0 l0.length l0) (hc0 : l0.length ≤ c0) (h : rf_LenNat.f k l0 = some r) :
  Calls Tryd.prog 113 #[.slice A0 l0.length c0] w fun e w' => e = .returned (.int .i64 r) ∧ Drawn0 w w' := by
 have HR0 := am hr0
 have HC0 := am hc0
 clear hr0 hc0
 have H := h
 unfold rf_LenNat.f at H
 clear h
 by_cases c2 : (l0.length : Int) > 0
 ·rw [if_pos c2] at H
  have c2b0 : decide (0 < (l0.length : Int)) = true := decide_eq_true c2
  have c2b1 : decide (0 < l0.length) = true := decide_eq_true (by omega)
  clear c2
  obtain ⟨ji3, hji3⟩ : ∃ j_ : Int, (wrap64 ((l0.length : Int) - 1)) = j_ := ⟨_, rfl⟩
  replace H : (if 0 ≤ (ji3) then (if (ji3) < (l0.length : Int) then (rf_LenNat.l0 k (wrap64 (16 * (ji3))) (rd l0 (ji3))) else (none)) else (none)) = some r := by first | (rw [hji3] at H; exact H) | (simp only [hji3] at H ⊢; exact H)
  have hji3w : (IntKind.i64.wrap ((l0.length : Int) - 1)) = ji3 := (i64_w _).trans hji3
  replace H := zn H
  obtain ⟨c4, H⟩ := H
  have c4b0 := decide_eq_true c4
  clear c4
  replace H := zn H
  obtain ⟨c5, H⟩ := H
  have c5b0 := decide_eq_true c5
  clear c5
  have H' := am H
  clear H
  have p654 : 0 ≤ ((ji3) : Int) := zq6
  have q654 : (ji3) < (l0.length : Int) := zq6
  obtain ⟨ad654, e654, hx654_0⟩ := Kd.at_int HR0.out (ji3) p654 q654
  cases e654
  replace p654 := eq_true p654
  replace q654 := eq_true q654
  go_enter Tryd.func113, Tryd.ntmps113
  go_wp2
  go_loopg [3, 4] k (fun kq v3 v4 w' => ∃ (x3_1 : Int) (x4_1 : Int), v3 = .int .i64 x3_1 ∧ v4 = .int .i64 x4_1 ∧ Aside0 (rf_LenNat.l0 kq x3_1 x4_1 = some r) ∧ Aside0 (kq ≤ k) ∧ Drawn0 w w')
  case atStart => exact ⟨(wrap64 (16 * (ji3))), (rd l0 (ji3)), (by first | rfl | (simp; done) | (simp only [← hji3] <;> (first | rfl | simp)) | (simp [*]; done)), (by first | rfl | (simp; done) | (simp only [← hji3] <;> (first | rfl | simp)) | (simp [*]; done)), H', ⟨Nat.le_refl _⟩, by repeat (first | exact Drawn0.refl _ | apply Drawn0.step)⟩
  case round =>
   clear H'
   obtain ⟨x3_1, x4_1, rfl, rfl, HA, HK1, ⟨m1, rfl⟩⟩ := hrel
   cases gk with
   | zero => exact absurd HA.out (by simp [rf_LenNat.l0])
   | succ k1 =>
    have H := HA.out
    clear HA
    simp only [rf_LenNat.l0] at H
    by_cases c6 : x4_1 > 0
    ·rw [if_pos c6] at H
     have c6b0 : decide (0 < x4_1) = true := decide_eq_true c6
     clear c6
     have H' := am H
     clear H
     go_wp2
     go_roundg k1
     case measure => have := HK1.out; omega
     case rel => exact ⟨(wrap64 (x3_1 + 1)), (x4_1 / 2), zq8, zq8, (by first | exact H' | (rw [hji3]; exact H')), ⟨by have := HK1.out; omega⟩, by repeat (first | exact Drawn0.refl _ | apply Drawn0.step)⟩
    ·rw [if_neg c6] at H
     have c6b0 : decide (0 < x4_1) = false := decide_eq_false c6
     clear c6
     obtain rfl := Option.some.inj H
     go_wp2
     go_ret
     exact ⟨by first | rfl | (simp; done) | (simp only [← hji3] <;> (first | rfl | simp)) | (simp [*]; done), by repeat (first | exact Drawn0.refl _ | apply Drawn0.step)⟩
 ·rw [if_neg c2] at H
  have c2b0 : decide (0 < (l0.length : Int)) = false := decide_eq_false c2
  have c2b1 : decide (0 < l0.length) = false := decide_eq_false (by omega)
  clear c2
  obtain rfl := Option.some.inj H
  go_enter Tryd.func113, Tryd.ntmps113
  go_wp2
  go_ret
  exact ⟨by first | rfl | (simp; done) | (simp [*]; done), by repeat (first | exact Drawn0.refl _ | apply Drawn0.step)⟩
mutual
def rf_DivNat.l0 : Nat → List Int → List Int → List Int → List Int → Int → Option (List Int × List Int)
 | 0, _, _, _, _, _ => none
 | k + 1, x0, x1, x6, x7, x8 => if x8 ≥ 0 then ((rf_ShlNat.f k x7 1).bind fun t662 => ((rf_bit.f x0 x8).bind fun t665 => (if t665 = 1 then ((rf_AddNat.f k t662 (([1] : List Int))).bind fun t669 => (rf_DivNat.j1 k x0 x1 x6 t669 x8)) else (rf_DivNat.j1 k x0 x1 x6 t662 x8)))) else ((rf_trim.f k x6).bind fun t659 => (some (t659, x7)))
def rf_DivNat.j1 : Nat → List Int → List Int → List Int → List Int → Int → Option (List Int × List Int)
 | 0, _, _, _, _, _ => none
 | k + 1, x0, x1, x6, x7, x8 => (rf_CmpNat.f k x7 x1).bind fun t672 => (if t672 ≥ 0 then ((rf_SubNat.f k x7 x1).bind fun t673 => (if 0 ≤ (wrap64 (Int.tdiv x8 16)) then (if (wrap64 (Int.tdiv x8 16)) < (x6.length : Int) then (if 0 ≤ (Int.tmod x8 16) then (rf_DivNat.l0 k x0 x1 (x6.set ((wrap64 (Int.tdiv x8 16)) : Int).toNat (Go.bits .or .i64 (rd x6 (wrap64 (Int.tdiv x8 16))) (shl .i64 1 (Int.tmod x8 16)))) t673 (wrap64 (x8 - 1))) else (none)) else (none)) else (none))) else (rf_DivNat.l0 k x0 x1 x6 x7 (wrap64 (x8 - 1))))
end
def rf_DivNat.f (k : Nat) (l0 : List Int) (l1 : List Int) : Option (List Int × List Int) := if 0 ≤ (l0.length : Int) then (if ((l0.length : Int) : Int).toNat ≤ 35184372088832 then ((rf_LenNat.f k l0).bind fun t658 => (rf_DivNat.l0 k l0 l1 (List.replicate ((l0.length : Int) : Int).toNat 0) ([] : List Int) (wrap64 (t658 - 1)))) else (none)) else (none)
theorem rf_DivNat.mono_l : ∀ k, (∀ y0 y1 y2 y3 y4, LeO (rf_DivNat.l0 k y0 y1 y2 y3 y4) (rf_DivNat.l0 (k + 1) y0 y1 y2 y3 y4)) ∧ (∀ y0 y1 y2 y3 y4, LeO (rf_DivNat.j1 k y0 y1 y2 y3 y4) (rf_DivNat.j1 (k + 1) y0 y1 y2 y3 y4))
 | 0 => ⟨fun _ _ _ _ _ r h => by simp [rf_DivNat.l0] at h, fun _ _ _ _ _ r h => by simp [rf_DivNat.j1] at h⟩
 | k + 1 => by
  obtain ⟨ih0, ih1⟩ := rf_DivNat.mono_l k
  refine ⟨?_, ?_⟩
  ·intro y0 y1 y2 y3 y4
   unfold rf_DivNat.l0
   have m0 := ih0
   have m1 := ih1
   have m2 := @rf_AddNat.mono
   have m3 := @rf_CmpNat.mono
   have m4 := @rf_LenNat.mono
   have m5 := @rf_ShlNat.mono
   have m6 := @rf_SubNat.mono
   have m7 := @rf_trim.mono
   exact zm
  ·intro y0 y1 y2 y3 y4
   unfold rf_DivNat.j1
   have m0 := ih0
   have m1 := ih1
   have m2 := @rf_AddNat.mono
   have m3 := @rf_CmpNat.mono
   have m4 := @rf_LenNat.mono
   have m5 := @rf_ShlNat.mono
   have m6 := @rf_SubNat.mono
   have m7 := @rf_trim.mono
   exact zm
theorem rf_DivNat.mono : ∀ a0 a1 k, LeO (rf_DivNat.f k a0 a1) (rf_DivNat.f (k + 1) a0 a1) := by
 intro a0 a1 k
 obtain ⟨ih0, ih1⟩ := rf_DivNat.mono_l k
 unfold rf_DivNat.f
 have m0 := ih0
 have m1 := ih1
 have m2 := @rf_AddNat.mono
 have m3 := @rf_CmpNat.mono
 have m4 := @rf_LenNat.mono
 have m5 := @rf_ShlNat.mono
 have m6 := @rf_SubNat.mono
 have m7 := @rf_trim.mono
 exact zm
def rf_DivNat.T11 : Bool × List (List Nat × List Nat) := (true, [([], []), ([], []), ([1], [1]), ([0, 2], [0, 2]), ([3], [3]), ([], []), ([5], [5]), ([6], [6]), ([4, 7], [4, 7]), ([0, 2, 0, 1, 2, 3, 4, 5, 6, 7, 8], [0, 2]), ([9, 8, 0, 1, 2, 3, 4, 5, 6, 7, 8], [8, 9])])
def rf_DivNat.B11 : List Nat := [0, 0, 2, 7, 15, 0, 32, 96, 255, 511, 1023]
theorem rf_DivNat.tab11 : rtab .any (opsOf Tryd.f76 11) = rf_DivNat.T11 := by kernel_rfl
theorem rf_DivNat.bits11 : waitsOk rf_DivNat.T11.2 rf_DivNat.B11 = true := by kernel_rfl
set_option maxHeartbeats 8000000 in
set_option maxRecDepth 100000 in
theorem rf_DivNat.calls (k : Nat) (A0 : Option Addr) (c0 : Nat) (l0 : List Int) (A1 : Option Addr) (c1 : Nat) (l1 : List Int) (r1 : List Int) (r2 : List Int) (w : World) (hr0 : Kd.C (Kd.int .i64) w A0 l0.length l0) (hc0 : l0.length ≤ c0) (hr1 : Kd.C (Kd.int .i64) w A1 l1.length l1) (hc1 : l1.length ≤ c1) (h : rf_DivNat.f k l0 l1 = some (r1, r2)) :
  Calls Tryd.prog 76 #[.slice A0 l0.length c0, .slice A1 l1.length c1] w fun e w' => ∃ v0_ v1_ : Value, e = .returned (.tuple #[v0_, v1_]) ∧ Kd.V (Kd.int .i64) 3 w' w.heap.size (fun k_ => (w.heap.size ≤ k_)) v0_ r1 ∧ Kd.V (Kd.int .i64) 3 w' w.heap.size (fun k_ => (w.heap.size ≤ k_)) v1_ r2 ∧ Below w.heap.size w w' := by
 have HR0 := am hr0
 have HC0 := am hc0
 clear hr0 hc0
 have HR1 := am hr1
 have HC1 := am hc1
 clear hr1 hc1
 have HB := am (Below.refl w.heap.size w)
 have H := h
 unfold rf_DivNat.f at H
 clear h
 replace H := zn H
 obtain ⟨c3, H⟩ := H
 have c3b0 := eq_true c3
 have c3b1 := decide_eq_true c3
 clear c3
 replace H := zn H
 obtain ⟨c4, H⟩ := H
 have c4b0 := eq_true c4
 have c4b1 := decide_eq_true c4
 clear c4
 obtain ⟨y655, hy655⟩ : ∃ y_ : List Int, y_ = (List.replicate ((l0.length : Int) : Int).toNat 0) := ⟨_, rfl⟩
 try rw [← hy655] at H
 have Ny655 := am hy655
 clear hy655
 replace H := zj H
 obtain ⟨t658, A5, H⟩ := H
 have H' := am H
 clear H
 go_enter Tryd.func76, Tryd.ntmps76
 go_wp2_with (first | ((with_reducible refine gate_dst (N := 11) rfl ?_); refine Kd.R_make (Kd.int .i64) _ 3 rfl (N := 11) rfl 39 _ _ rfl (l0.length : Int) rfl rfl Tryd.underlying39 (.int .i64 0) 8 info3 rfl (by decide) (by omega) 0 (ok := fun _ => True) (okp := fun _ => True) rfl (fun _ hk => hk) trivial zq6 (Nat.le_trans (Nat.mul_le_mul_right _ (zq6 : (l0.length : Int).toNat ≤ 35184372088832)) (by omega)) (Below.refl _ _) (Nat.le_refl _) ?_; intro v656 w6 ho7 hb hg_ hnew_; clear hg_ hnew_; (first | rw [← Ny655.out] at ho7 | (simp only [Int.reduceToNat] at ho7; rw [← Ny655.out] at ho7)); refine zt2 (Kd.R_lower (Kd.R_newM (M := fun k_ => (w.heap.size ≤ k_)) ho7 (below_size zq1) (fun k_ h_ => h_)) (below_size zq1)) (below_step zq1 hb) ?_; clear HB; intro HO657 HB; clear hb ho7) | ((with_reducible refine gate_callee (f := 113) rfl ?_); refine goesL_ (some 13) rfl rfl Tryd.func113 (by kernel_rfl) rfl #[.slice A0 l0.length c0] rfl zq5 ?_; (with_reducible refine (rf_LenNat.calls k _ _ l0 t658 _ ?side1 ?side2 A5.out).mono ?_); (case side1 => exact zc (Kd.C_below HR0.out HB.out)); (case side2 => exact HC0.out); rintro e w' ⟨rfl, ⟨nd, rfl⟩⟩; refine ⟨_, rfl, ?_⟩))
 go_loopg [7, 8] k (fun kq v7 v8 w' => ∃ (x6_1 : List Int) (x7_1 : List Int) (x8_1 : Int), v8 = .int .i64 x8_1 ∧ Aside0 (rf_DivNat.l0 kq l0 l1 x6_1 x7_1 x8_1 = some (r1, r2)) ∧ Aside0 (kq ≤ k) ∧ Aside0 (Kd.R (Kd.int .i64) 3 w' w.heap.size (fun k_ => (w.heap.size ≤ k_)) v656 x6_1) ∧ Aside0 (Kd.V (Kd.int .i64) 3 w' w.heap.size (fun k_ => (w.heap.size ≤ k_) ∧ some k_ ≠ (v656 : Value).ownBlock) v7 x7_1) ∧ Aside0 (Below w.heap.size w w'))
 case atStart => exact ⟨(y655), (([] : List Int)), (wrap64 (t658 - 1)), zq8, H', ⟨Nat.le_refl _⟩, ⟨zwR (h := by exact Kd.R_mono HO657.out (fun _ hk => hk.1))⟩, ⟨Kd.V_nil _ _ _ _ _⟩, ⟨zq1⟩⟩
 case round =>
  clear H'
  obtain ⟨x6_1, x7_1, x8_1, rfl, HA, HK1, HO_6, HO_7, HB⟩ := hrel
  cases gk with
  | zero => exact absurd HA.out (by simp [rf_DivNat.l0])
  | succ k1 =>
   have H := HA.out
   clear HA
   simp only [rf_DivNat.l0] at H
   by_cases c8 : x8_1 ≥ 0
   ·rw [if_pos c8] at H
    have c8b0 : decide (0 ≤ x8_1) = true := decide_eq_true c8
    clear c8
    replace H := zj H
    obtain ⟨t662, A9, H⟩ := H
    replace H := zj H
    obtain ⟨t665, A10, H⟩ := H
    have HC11 := am H
    clear H
    obtain ⟨Ao12, co12, eo12⟩ := Kd.V_slice HO_7.out
    subst eo12
    go_upto_if 24 with (first | ((with_reducible refine gate_callee (f := 82) rfl ?_); refine goesL_ (some 20) rfl rfl Tryd.func82 (by kernel_rfl) rfl #[.slice Ao12 x7_1.length co12, .int .i64 1] rfl zq5 ?_; (with_reducible refine (rf_ShlNat.calls k1 _ _ x7_1 1 t662 _ ?side1 ?side2 A9.out).mono ?_); (case side1 => exact zc ((Kd.V_reads' HO_7.out).2.2)); (case side2 => exact (Kd.V_reads' HO_7.out).2.1); rintro e w13 ⟨v663, rfl, ho0, hb⟩; refine ⟨_, rfl, ?_⟩; refine zt4 (rb HO_6 hb) (vb HO_7 hb) (Kd.V_lower (Kd.V_mono (ok' := fun k_ => (w.heap.size ≤ k_) ∧ some k_ ≠ (v656 : Value).ownBlock) ho0 (fun k_ hk_ => ⟨(Nat.le_trans (below_size zq1) hk_), (Kd.fresh' (Kd.R_lt (zq4 HO_6.out)) k_ hk_)⟩)) (below_size zq1)) (below_step zq1 hb) ?_; clear HO_6 HO_7 HB; intro HO_6 HO_7 HO664 HB) | ((with_reducible refine gate_callee (f := 98) rfl ?_); refine goesL_ (some 23) rfl rfl Tryd.func98 (by kernel_rfl) rfl #[.slice A0 l0.length c0, .int .i64 x8_1] rfl zq5 ?_; (with_reducible refine (rf_bit.calls _ _ l0 x8_1 t665 _ ?side1 ?side2 A10.out).mono ?_); (case side1 => exact zc (Kd.C_below HR0.out HB.out)); (case side2 => exact HC0.out); rintro e w' ⟨rfl, ⟨nd, rfl⟩⟩; refine ⟨_, rfl, ?_⟩))
    (try simp only [Act.put, List.setIfInBounds_toArray, List.set_cons_zero, List.set_cons_succ])
    go_cut [7] (fun v7 wc => ∃ (kq : Nat) (x7_10 : List Int), Aside0 (rf_DivNat.j1 kq l0 l1 x6_1 x7_10 x8_1 = some (r1, r2)) ∧ Aside0 (kq ≤ k1) ∧ Aside0 (Kd.R (Kd.int .i64) 3 wc w.heap.size (fun k_ => (w.heap.size ≤ k_)) v656 x6_1) ∧ Aside0 (Kd.V (Kd.int .i64) 3 wc w.heap.size (fun k_ => (w.heap.size ≤ k_) ∧ some k_ ≠ (v656 : Value).ownBlock) v7 x7_10) ∧ Aside0 (Below w.heap.size w wc))
    case first =>
     have H := HC11.out
     clear HC11
     by_cases c14 : t665 = 1
     ·rw [if_pos c14] at H
      have c14b0 : (t665 == 1) = true := beq_iff_eq.mpr c14
      have c14b1 : (t665 != 1) = false := bne_eq_false_iff_eq.mpr c14
      clear c14
      (first | rw [c14b0] | (simp only [i64_w, i32_w]; rw [c14b0]) | skip)
      obtain ⟨y666, hy666⟩ : ∃ y_ : List Int, y_ = (([1] : List Int)) := ⟨_, rfl⟩
      try rw [← hy666] at H
      have Ny666 := am hy666
      clear hy666
      replace H := zj H
      obtain ⟨t669, A15, H⟩ := H
      have H' := am H
      clear H
      go_wp2_with (first | ((with_reducible refine gate_dst (N := 26) rfl ?_); refine Kd.R_lit (Kd.int .i64) _ 3 ?hg (N := 26) ?hd (xs := ([1] : List Int)) (inner := [.int .i64 1]) (ok := fun _ => True) (okp := fun _ => True) ?hr ?hp (fun _ hk => hk) trivial (Below.refl _ _) (Nat.le_refl _) (by simp) ?_; (case hd => rfl); (case hg => rfl); (case hr => exact zr); (case hp => exact (Reps.one (show Kd.M (Kd.int .i64) _ _ _ 1 [.int .i64 1] from rfl) (Reps.none _ _))); intro v667 w16 ho17 hb hg_ hnew_; clear hg_ hnew_; (first | rw [← Ny666.out] at ho17 | (simp only [Int.reduceToNat] at ho17; rw [← Ny666.out] at ho17)); refine zt5 (Kd.R_elder' (zq4 HO_6.out) (Kd.R_base ho17) hb) (Kd.V_elder' (zq3 HO_7.out) (Kd.R_base ho17) hb) (Kd.V_elder' (zq3 HO664.out) (Kd.R_base ho17) hb) (Kd.R_lower (Kd.R_new' (Kd.R_newM (M := fun k_ => (w.heap.size ≤ k_)) ho17 (below_size zq1) (fun k_ h_ => h_)) (Kd.R_lt (zq4 HO_6.out))) (below_size zq1)) (below_step zq1 hb) ?_; clear HO_6 HO_7 HO664 HB; intro HO_6 HO_7 HO664 HO668 HB; clear hb ho17; obtain ⟨Ao18, co18, eo18⟩ := Kd.V_slice HO664.out; subst eo18; obtain ⟨Ao19, co19, eo19⟩ := Kd.R_slice HO668.out; subst eo19) | ((with_reducible refine gate_callee (f := 90) rfl ?_); refine goesL_ (some 27) rfl rfl Tryd.func90 (by kernel_rfl) rfl #[.slice Ao18 t662.length co18, .slice Ao19 y666.length co19] rfl zq5 ?_; (with_reducible refine (rf_AddNat.calls k1 _ _ t662 _ _ y666 t669 _ ?side1 ?side2 ?side3 ?side4 A15.out).mono ?_); (case side1 => exact zc ((Kd.V_reads' HO664.out).2.2)); (case side2 => exact (Kd.V_reads' HO664.out).2.1); (case side3 => exact zc ((Kd.R_reads' HO668.out).2.2)); (case side4 => exact (Kd.R_reads' HO668.out).2.1); rintro e w20 ⟨v670, rfl, ho0, hb⟩; refine ⟨_, rfl, ?_⟩; refine zt6 (rb HO_6 hb) (vb HO_7 hb) (vb HO664 hb) (rb HO668 hb) (Kd.V_lower (Kd.V_mono (ok' := fun k_ => (w.heap.size ≤ k_) ∧ some k_ ≠ (v656 : Value).ownBlock ∧ some k_ ≠ (.slice Ao19 y666.length co19 : Value).ownBlock) ho0 (fun k_ hk_ => ⟨(Nat.le_trans (below_size zq1) hk_), (Kd.fresh' (Kd.R_lt (zq4 HO_6.out)) k_ hk_), (Kd.fresh' (Kd.R_lt (zq4 HO668.out)) k_ hk_)⟩)) (below_size zq1)) (below_step zq1 hb) ?_; clear HO_6 HO_7 HO664 HO668 HB; intro HO_6 HO_7 HO664 HO668 HO671 HB))
      go_meet
      case rel => exact ⟨_, (t669), H', ⟨by have := HK1.out; first | omega | exact Nat.le_refl _⟩, ⟨zwR (h := by exact Kd.R_mono HO_6.out (fun _ hk => hk.1))⟩, ⟨zwV (h := by exact Kd.V_mono HO671.out (fun _ hk => ⟨hk.1, hk.2.1⟩))⟩, ⟨zq1⟩⟩
     ·rw [if_neg c14] at H
      have c14b0 : (t665 == 1) = false := beq_eq_false_iff_ne.mpr c14
      have c14b1 : (t665 != 1) = true := bne_iff_ne.mpr c14
      (first | rw [c14b0] | (simp only [i64_w, i32_w]; rw [c14b0]) | skip)
      have H' := am H
      clear H
      go_wp2
      go_meet
      case rel => exact ⟨_, (t662), H', ⟨by have := HK1.out; first | omega | exact Nat.le_refl _⟩, ⟨zq4 HO_6.out⟩, ⟨zq3 HO664.out⟩, ⟨zq1⟩⟩
    case rest =>
     clear HC11
     obtain ⟨kq, x7_10, HA, HJ10, HO_6, HO_7, HB⟩ := hcut
     cases kq with
     | zero => exact absurd HA.out (by simp [rf_DivNat.j1])
     | succ kj10 =>
      have H := HA.out
      clear HA
      simp only [rf_DivNat.j1] at H
      replace H := zj H
      obtain ⟨t672, A21, H⟩ := H
      by_cases c22 : t672 ≥ 0
      ·rw [if_pos c22] at H
       have c22b0 : decide (0 ≤ t672) = true := decide_eq_true c22
       clear c22
       replace H := zj H
       obtain ⟨t673, A23, H⟩ := H
       obtain ⟨ji24, hji24⟩ : ∃ j_ : Int, (wrap64 (Int.tdiv x8_1 16)) = j_ := ⟨_, rfl⟩
       replace H : (if 0 ≤ (ji24) then (if (ji24) < (x6_1.length : Int) then (if 0 ≤ (Int.tmod x8_1 16) then (rf_DivNat.l0 kj10 l0 l1 (x6_1.set ((ji24) : Int).toNat (Go.bits .or .i64 (rd x6_1 (ji24)) (shl .i64 1 (Int.tmod x8_1 16)))) t673 (wrap64 (x8_1 - 1))) else (none)) else (none)) else (none)) = some (r1, r2) := by first | (rw [hji24] at H; exact H) | (simp only [hji24] at H ⊢; exact H)
       (try rw [hji24] at A21)
       (try rw [hji24] at A23)
       have hji24w : (IntKind.i64.wrap (Int.tdiv x8_1 16)) = ji24 := (i64_w _).trans hji24
       replace H := zn H
       obtain ⟨c25, H⟩ := H
       have c25b0 := decide_eq_true c25
       clear c25
       replace H := zn H
       obtain ⟨c26, H⟩ := H
       have c26b0 := decide_eq_true c26
       clear c26
       obtain ⟨ji27, hji27⟩ : ∃ j_ : Int, (Int.tmod x8_1 16) = j_ := ⟨_, rfl⟩
       replace H : (if 0 ≤ (ji27) then (rf_DivNat.l0 kj10 l0 l1 (x6_1.set ((ji24) : Int).toNat (Go.bits .or .i64 (rd x6_1 (ji24)) (shl .i64 1 (ji27)))) t673 (wrap64 (x8_1 - 1))) else (none)) = some (r1, r2) := by first | (rw [hji27] at H; exact H) | (simp only [hji27] at H ⊢; exact H)
       (try rw [hji27] at A21)
       (try rw [hji27] at A23)
       replace H := zn H
       obtain ⟨c28, H⟩ := H
       have c28b0 := eq_true c28
       have c28b1 := decide_eq_true c28
       clear c28
       obtain ⟨ji29, hji29⟩ : ∃ j_ : Int, (shl .i64 1 (ji27)) = j_ := ⟨_, rfl⟩
       replace H : (rf_DivNat.l0 kj10 l0 l1 (x6_1.set ((ji24) : Int).toNat (Go.bits .or .i64 (rd x6_1 (ji24)) (ji29))) t673 (wrap64 (x8_1 - 1))) = some (r1, r2) := by first | (rw [hji29] at H; exact H) | (simp only [hji29] at H ⊢; exact H)
       (try rw [hji29] at A21)
       (try rw [hji29] at A23)
       have hji29_ : (IntKind.i64.wrap (1 * 2 ^ min (ji27).toNat 64)) = ji29 := hji29
       have hji29z : (ji27) ≤ 64 → (IntKind.i64.wrap (1 * 2 ^ (ji27).toNat)) = ji29 := shl_small hji29
       have hji29u : (IntKind.i64.wrap (2 ^ min (ji27).toNat 64)) = ji29 := by have h_ := hji29_; rw [Int.one_mul] at h_; exact h_
       have hji29v : (ji27) ≤ 64 → (IntKind.i64.wrap (2 ^ (ji27).toNat)) = ji29 := fun hle_ => by have h_ := hji29z hle_; rw [Int.one_mul] at h_; exact h_
       have hji29y : (wrap64 (1 * 2 ^ min (ji27).toNat 64)) = ji29 := (i64_w _).symm.trans hji29_
       have hji29x : (ji27) ≤ 64 → (wrap64 (1 * 2 ^ (ji27).toNat)) = ji29 := fun h_ => (i64_w _).symm.trans (hji29z h_)
       obtain ⟨y677, hy677⟩ : ∃ y_ : List Int, y_ = (x6_1.set ((ji24) : Int).toNat (Go.bits .or .i64 (rd x6_1 (ji24)) (ji29))) := ⟨_, rfl⟩
       try rw [← hy677] at H
       have Ny677 := am hy677
       clear hy677
       have H' := am H
       clear H
       obtain ⟨Ao31, co31, eo31⟩ := Kd.V_slice HO_7.out
       subst eo31
       try go_wp2_with (first | ((with_reducible refine gate_callee (f := 46) rfl ?_); refine goesL_ (some 30) rfl rfl Tryd.func46 (by kernel_rfl) rfl #[.slice Ao31 x7_10.length co31, .slice A1 l1.length c1] rfl zq5 ?_; (with_reducible refine (rf_CmpNat.calls kj10 _ _ x7_10 _ _ l1 t672 _ ?side1 ?side2 ?side3 ?side4 A21.out).mono ?_); (case side1 => exact zc ((Kd.V_reads' HO_7.out).2.2)); (case side2 => exact (Kd.V_reads' HO_7.out).2.1); (case side3 => exact zc (Kd.C_below HR1.out HB.out)); (case side4 => exact HC1.out); rintro e w32 ⟨rfl, hb⟩; refine ⟨_, rfl, ?_⟩; refine zt3 (rb HO_6 hb) (vb HO_7 hb) (below_step zq1 hb) ?_; clear HO_6 HO_7 HB; intro HO_6 HO_7 HB; (try clear hb); (try clear hb2); (try clear hk); (try clear hi)) | ((with_reducible refine gate_callee (f := 83) rfl ?_); refine goesL_ (some 34) rfl rfl Tryd.func83 (by kernel_rfl) rfl #[.slice Ao31 x7_10.length co31, .slice A1 l1.length c1] rfl zq5 ?_; (with_reducible refine (rf_SubNat.calls kj10 _ _ x7_10 _ _ l1 t673 _ ?side1 ?side2 ?side3 ?side4 A23.out).mono ?_); (case side1 => exact zc ((Kd.V_reads' HO_7.out).2.2)); (case side2 => exact (Kd.V_reads' HO_7.out).2.1); (case side3 => exact zc (Kd.C_below HR1.out HB.out)); (case side4 => exact HC1.out); rintro e w33 ⟨v674, rfl, ho0, hb⟩; refine ⟨_, rfl, ?_⟩; refine zt4 (rb HO_6 hb) (vb HO_7 hb) (Kd.V_lower (Kd.V_mono (ok' := fun k_ => (w.heap.size ≤ k_) ∧ some k_ ≠ (v656 : Value).ownBlock) ho0 (fun k_ hk_ => ⟨(Nat.le_trans (below_size zq1) hk_), (Kd.fresh' (Kd.R_lt (zq4 HO_6.out)) k_ hk_)⟩)) (below_size zq1)) (below_step zq1 hb) ?_; clear HO_6 HO_7 HB; intro HO_6 HO_7 HO675 HB))
       refine zt4 (Kd.R_drew HO_6.out) (Kd.V_drew HO_7.out) (Kd.V_drew HO675.out) (below_drew1 HB.out) ?_
       clear HO_6 HO_7 HO675 HB
       intro HO_6 HO_7 HO675 HB
       obtain ⟨Ao35, co35, eo35⟩ := Kd.R_slice HO_6.out
       (first | subst eo35 | (injection eo35 with f1_ f2_ f3_; have f4_ := f1_.symm; have f5_ := f3_.symm; clear f1_ f2_ f3_; subst f4_; subst f5_))
       have p676 : 0 ≤ ((ji24) : Int) := zq6
       have q676 : (ji24) < (x6_1.length : Int) := zq6
       obtain ⟨ad676, e676, hx676_0⟩ := Kd.at_int (Kd.R_reads' HO_6.out).2.2 (ji24) p676 q676
       cases e676
       replace p676 := eq_true p676
       replace q676 := eq_true q676
       have p30 : 0 ≤ ((ji24) : Int) := zq6
       have q30 : ((ji24) : Int) < ((x6_1.length : Int) : Int) := zq6
       obtain ⟨go30, co30, eo30, gb30, gl30, cl30, HG30⟩ := Kd.R_form HO_6.out (by omega)
       (first | cases eo30 | (injection eo30 with ea_ en_ ec_; (first | subst ea_ | (injection ea_ with ea_; subst ea_)); subst ec_; clear en_))
       have GB30 := am gb30
       have GG30 := am HG30
       clear gb30 gl30 HG30
       (first | simp only [add_plain] at hx676_0 | skip)
       obtain ⟨hx30_0, hf30_0⟩ := Kd.R_celln 0 HO_6.out ((ji24) : Int) p30 q30
       replace p30 := eq_true p30
       replace q30 := eq_true q30
       have HP36 := Kd.R_putn HO_6.out ((ji24) : Int) (Go.bits .or .i64 (rd x6_1 (ji24)) (ji29))
       rw [← Ny677.out] at HP36
       have HQ36 := am HP36
       clear HP36
       refine start_ (n := 11) (S := fun w' => w'.cell? ⟨go30, ((ji24)).toNat, none⟩ = some (.int .i64 (rd x6_1 (ji24)))) (ds := [10]) #[false, false, false, false, false, false, false, false, false, false, false] (by kernel_rfl) rfl rfl (hx676_0) (fun hHeld => ?_); refine with_tabW rf_DivNat.tab11 rf_DivNat.bits11 (fun HT_ HW_ => ?_)
       generalize w33.drew = w34 at HO_6 HO_7 HO675 HB GG30 HQ36 hf30_0 hx30_0 hx676_0 hHeld ⊢
       refine pz_ (i := 0) (N := some 35) (zmt 11 [0]) ?_
       refine pz_ (i := 1) (N := some 36) (zmt 11 [0, 1]) ?_
       refine pz_ (i := 2) (N := some 37) (zmt 11 [0, 1, 2]) ?_
       refine pz_ (i := 3) (N := some 38) (zmt 11 [0, 1, 2, 3]) ?_
       refine pz_ (i := 5) (N := some 40) (zmt 11 [0, 1, 2, 3, 5]) ?_
       refine pz_ (i := 6) (N := some 41) (zmf 11 [4, 7, 8, 9, 10]) ?_
       refine pz_ (i := 7) (N := some 42) (zmf 11 [4, 8, 9, 10]) ?_
       refine tz1 (i := 4) (N := some 39) (zmf 11 [8, 9, 10]) ?_
       refine pz_ (i := 8) (N := some 43) (zmf 11 [9, 10]) ?_
       refine pz_ (i := 9) (N := some 44) (zmf 11 [10]) ?_
       refine last_ (i := 10) (N := none) (zmf 11 []) rfl rfl (one_of HT_.out (by kernel_rfl)) (by decide) (fun K hK => ?_)
       refine skip_ (w1 := ?_) (by rfl) rfl ?_ ?_
       rotate_left
       ·go_simp
        rfl
       refine hK.out _ _ ?_
       clear hK K
       refine done_ (done_of HT_.out (by kernel_rfl)) ?_
       try go_wp2
       go_roundg kj10
       case measure => have := HK1.out; have := HJ10.out; omega
       case rel => exact ⟨(y677), (t673), (wrap64 (x8_1 - 1)), zq8, (by first | exact H' | (rw [hji24]; exact H') | (rw [hji27]; exact H') | (rw [hji29]; exact H')), ⟨by have := HK1.out; have := HJ10.out; omega⟩, ⟨zq4 HQ36.out⟩, ⟨zwV (h := by exact Kd.V_mono (Kd.V_far (p := ⟨go30, ((ji24) : Int).toNat, none⟩) (Kd.V_mono HO675.out (fun k_ hk => (⟨hk, fun e_ => hk.2 (by rw [e_]; rfl)⟩ : _ ∧ k_ ≠ go30))) (fun _ hk => hk.2) (.int .i64 (Go.bits .or .i64 (rd x6_1 (ji24)) (ji29)))) (fun _ hk => ⟨hk.1.1, hk.1.2⟩))⟩, ⟨zb1 GB30.out⟩⟩
      ·rw [if_neg c22] at H
       have c22b0 : decide (0 ≤ t672) = false := decide_eq_false c22
       clear c22
       have H' := am H
       clear H
       obtain ⟨Ao37, co37, eo37⟩ := Kd.V_slice HO_7.out
       subst eo37
       go_wp2_with (first | ((with_reducible refine gate_callee (f := 46) rfl ?_); refine goesL_ (some 30) rfl rfl Tryd.func46 (by kernel_rfl) rfl #[.slice Ao37 x7_10.length co37, .slice A1 l1.length c1] rfl zq5 ?_; (with_reducible refine (rf_CmpNat.calls kj10 _ _ x7_10 _ _ l1 t672 _ ?side1 ?side2 ?side3 ?side4 A21.out).mono ?_); (case side1 => exact zc ((Kd.V_reads' HO_7.out).2.2)); (case side2 => exact (Kd.V_reads' HO_7.out).2.1); (case side3 => exact zc (Kd.C_below HR1.out HB.out)); (case side4 => exact HC1.out); rintro e w38 ⟨rfl, hb⟩; refine ⟨_, rfl, ?_⟩; refine zt3 (rb HO_6 hb) (vb HO_7 hb) (below_step zq1 hb) ?_; clear HO_6 HO_7 HB; intro HO_6 HO_7 HB; (try clear hb); (try clear hb2); (try clear hk); (try clear hi)))
       go_roundg kj10
       case measure => have := HK1.out; have := HJ10.out; omega
       case rel => exact ⟨(x6_1), (x7_10), (wrap64 (x8_1 - 1)), zq8, H', ⟨by have := HK1.out; have := HJ10.out; omega⟩, ⟨zq4 HO_6.out⟩, ⟨zq3 HO_7.out⟩, ⟨zq1⟩⟩
   ·rw [if_neg c8] at H
    have c8b0 : decide (0 ≤ x8_1) = false := decide_eq_false c8
    clear c8
    replace H := zj H
    obtain ⟨t659, A39, H⟩ := H
    simp only [Option.some.injEq, Prod.mk.injEq] at H
    obtain ⟨rfl, rfl⟩ := H
    obtain ⟨Ao40, co40, eo40⟩ := Kd.R_slice HO_6.out
    subst eo40
    go_wp2_with (first | ((with_reducible refine gate_callee (f := 96) rfl ?_); refine goesL_ (some 46) rfl rfl Tryd.func96 (by kernel_rfl) rfl #[.slice Ao40 x6_1.length co40] rfl zq5 ?_; (with_reducible refine (rf_trim.calls k1 (fun k_ => some k_ = (.slice Ao40 x6_1.length co40 : Value).ownBlock) _ _ x6_1 t659 _ ?side1 A39.out).mono ?_); (case side1 => exact Kd.R_V (Kd.R_tight rfl (HO_6.out))); rintro e w41 ⟨v660, rfl, ho0, hb⟩; refine ⟨_, rfl, ?_⟩; refine zt4 (rb HO_6 hb) (vb HO_7 hb) (Kd.V_lower (Kd.V_mono (ok' := fun k_ => (w.heap.size ≤ k_)) ho0 (fun k_ hk_ => Or.elim hk_ (fun hs_ => ((HO_6.out).1 k_ hs_.symm)) (fun hn_ => (Nat.le_trans (below_size zq1) hn_)))) (below_size zq1)) (below_step zq1 hb) ?_; clear HO_6 HO_7 HB; intro HO_6 HO_7 HO661 HB))
    go_ret2
    exact ⟨_, _, zq9, zq3 HO661.out, zwV (h := by exact Kd.V_mono HO_7.out (fun _ hk => hk.1)), zq1⟩
def rf_limbs.l0 : Nat → List Int → List Int → Int → Option (List Int)
 | 0, _, _, _ => none
 | k + 1, x0, x3, x4 => if x4 < (x0.length : Int) then (if 0 ≤ x4 then ((rf_digit.f x0 (wrap64 (x4 + 1))).bind fun t628 => (if x3.length < 35184372088832 then (rf_limbs.l0 k x0 (x3 ++ [Go.bits .or .u32 ((rd x0 x4) % 4294967296) ((((t628) % 4294967296) * 65536) % 4294967296)]) (wrap64 (x4 + 2))) else (none))) else (none)) else (some x3)
def rf_limbs.f (k : Nat) (l0 : List Int) : Option (List Int) := rf_limbs.l0 k l0 ([] : List Int) 0
theorem rf_limbs.mono_l : ∀ k, (∀ y0 y1 y2, LeO (rf_limbs.l0 k y0 y1 y2) (rf_limbs.l0 (k + 1) y0 y1 y2))
 | 0 => fun _ _ _ r h => by simp [rf_limbs.l0] at h
 | k + 1 => by
  have ih0 := rf_limbs.mono_l k
  ·intro y0 y1 y2
   unfold rf_limbs.l0
   have m0 := ih0
   exact zm
theorem rf_limbs.mono : ∀ a0 k, LeO (rf_limbs.f k a0) (rf_limbs.f (k + 1) a0) := by
 intro a0 k
 have ih0 := rf_limbs.mono_l k
 unfold rf_limbs.f
 have m0 := ih0
 exact zm
def rf_limbs.T5 : Bool × List (List Nat × List Nat) := (true, [([], []), ([], []), ([], []), ([1, 2], [1, 2]), ([3], [3]), ([4], [4]), ([], []), ([], []), ([7], [7]), ([6, 8], [6, 8]), ([9], [9]), ([10], [10]), ([5, 11], [5, 11]), ([12], [12]), ([0, 13, 9], [0, 13]), ([14, 14, 0, 1, 2, 3, 4, 5, 6, 7, 8, 9, 10, 11, 12, 13, 14], [0, 14])])
def rf_limbs.B5 : List Nat := [0, 0, 0, 6, 14, 30, 0, 0, 128, 448, 960, 1984, 4094, 8190, 16383, 32767]
theorem rf_limbs.tab5 : rtab .any (opsOf Tryd.f108 5) = rf_limbs.T5 := by kernel_rfl
theorem rf_limbs.bits5 : waitsOk rf_limbs.T5.2 rf_limbs.B5 = true := by kernel_rfl
set_option maxHeartbeats 8000000 in
set_option maxRecDepth 100000 in
theorem rf_limbs.calls (k : Nat) (A0 : Option Addr) (c0 : Nat) (l0 : List Int) (r : List Int) (w : World) (hr0 : Kd.C (Kd.int .i64) w A0 l0.length l0) (hc0 : l0.length ≤ c0) (h : rf_limbs.f k l0 = some r) :
  Calls Tryd.prog 108 #[.slice A0 l0.length c0] w fun e w' => ∃ v0_ : Value, e = .returned (v0_) ∧ Kd.R (Kd.int .u32) 55 w' w.heap.size (fun _ => True) v0_ r ∧ Below w.heap.size w w' := by
 have HR0 := am hr0
 have HC0 := am hc0
 clear hr0 hc0
 have HB := am (Below.refl w.heap.size w)
 have H := h
 unfold rf_limbs.f at H
 clear h
 have H' := am H
 clear H
 go_enter Tryd.func108, Tryd.ntmps108
 go_wp2
 go_loopg [3, 4] k (fun kq v3 v4 w' => ∃ (x3_1 : List Int) (x4_1 : Int), v4 = .int .i64 x4_1 ∧ Aside0 (rf_limbs.l0 kq l0 x3_1 x4_1 = some r) ∧ Aside0 (kq ≤ k) ∧ Aside0 (Kd.R (Kd.int .u32) 55 w' w.heap.size (fun _ => True) v3 x3_1) ∧ Aside0 (Below w.heap.size w w'))
 case atStart => exact ⟨(([] : List Int)), (0), zq8, H', ⟨Nat.le_refl _⟩, ⟨by first | exact Kd.R_nil _ _ _ _ _ | exact Kd.N_nil _ _ _ _ _ | exact Kd.V_nil _ _ _ _ _ | exact Kd.Q_nil _ _ _ _ _ | exact Kd.S_nil _ _ _ _ _⟩, ⟨zq1⟩⟩
 case round =>
  clear H'
  obtain ⟨x3_1, x4_1, rfl, HA, HK1, HO_3, HB⟩ := hrel
  cases gk with
  | zero => exact absurd HA.out (by simp [rf_limbs.l0])
  | succ k1 =>
   have H := HA.out
   clear HA
   simp only [rf_limbs.l0] at H
   by_cases c2 : x4_1 < (l0.length : Int)
   ·rw [if_pos c2] at H
    have c2b0 := decide_eq_true c2
    clear c2
    replace H := zn H
    obtain ⟨c3, H⟩ := H
    have c3b0 := decide_eq_true c3
    clear c3
    replace H := zj H
    obtain ⟨t628, A4, H⟩ := H
    replace H := zn H
    obtain ⟨c5, H⟩ := H
    have LMc5 := am c5
    clear c5
    obtain ⟨y629, hy629⟩ : ∃ y_ : List Int, y_ = (x3_1 ++ [Go.bits .or .u32 ((rd l0 x4_1) % 4294967296) ((((t628) % 4294967296) * 65536) % 4294967296)]) := ⟨_, rfl⟩
    try rw [← hy629] at H
    have Ny629 := am hy629
    clear hy629
    have H' := am H
    clear H
    try go_wp2
    refine zt2 (Kd.R_drew HO_3.out) (below_drew1 HB.out) ?_
    clear HO_3 HB
    intro HO_3 HB
    have p627 : 0 ≤ (x4_1 : Int) := zq6
    have q627 : x4_1 < (l0.length : Int) := zq6
    obtain ⟨ad627, e627, hx627_0⟩ := Kd.at_int HR0.out x4_1 p627 q627
    have hw627_0 := hx627_0
    cases e627
    replace hx627_0 := (HB.out.cell (World.block_lt_of_cell? w _ hx627_0)).trans hx627_0
    replace p627 := eq_true p627
    replace q627 := eq_true q627
    refine start_ (n := 16) (S := fun w' => w'.cell? (ad627.add (x4_1).toNat) = some (.int .i64 (rd l0 x4_1))) (ds := []) #[false, false, false, false, false, false, false, false, false, false, false, false, false, false, false, false] (by kernel_rfl) rfl rfl (((HB.out.cell (World.block_lt_of_cell? w _ hw627_0)).trans hw627_0)) (fun hHeld => ?_); refine with_tabW rf_limbs.tab5 rf_limbs.bits5 (fun HT_ HW_ => ?_)
    generalize wr.drew = w6 at HO_3 HB hx627_0 hHeld ⊢
    refine pz_ (i := 0) (N := some 11) (zmt 16 [0]) ?_
    refine pz_ (i := 1) (N := some 12) (zmt 16 [0, 1]) ?_
    refine pz_ (i := 2) (N := some 13) (zmt 16 [0, 1, 2]) ?_
    refine pz_ (i := 3) (N := some 14) (zmt 16 [0, 1, 2, 3]) ?_
    refine pz_ (i := 6) (N := some 17) (zmt 16 [0, 1, 2, 3, 6]) ?_
    refine pz_ (i := 7) (N := some 18) (zmt 16 [0, 1, 2, 3, 6, 7]) ?_
    refine pz_ (i := 8) (N := some 19) (zmt 16 [0, 1, 2, 3, 6, 7, 8]) ?_
    refine tz1 (i := 4) (N := some 15) (zmt 16 [0, 1, 2, 3, 4, 6, 7, 8]) ?_
    refine pz_ (i := 5) (N := some 16) (zmf 16 [9, 10, 11, 12, 13, 14, 15]) ?_
    refine one_ (i := 9) (N := some 20) (zmf 16 [10, 11, 12, 13, 14, 15]) rfl rfl (one_of HT_.out (by kernel_rfl)) (by decide) (fun K hK => ?_)
    refine goes_ Tryd.func97 (by kernel_rfl) rfl #[.slice (some ad627) l0.length c0, .int .i64 (wrap64 (x4_1 + 1))] (by rfl) rfl rfl zq5 ?_
    with_reducible refine (rf_digit.calls _ _ l0 (wrap64 (x4_1 + 1)) t628 _ ?side1 ?side2 A4.out).mono ?_
    (case side1 => exact zc (Kd.C_below HR0.out HB.out))
    (case side2 => exact HC0.out)
    rintro e w' ⟨rfl, ⟨nd, rfl⟩⟩
    refine ⟨_, rfl, ?_⟩
    refine hK.out _ _ (((HB.out.cell (World.block_lt_of_cell? w _ hw627_0)).trans hw627_0)) (fun hHeld => ?_)
    clear hK K
    refine nz_ (N := (some 20)) ?_
    refine pz_ (i := 10) (N := some 21) (zmf 16 [11, 12, 13, 14, 15]) ?_
    refine pz_ (i := 11) (N := some 22) (zmf 16 [12, 13, 14, 15]) ?_
    refine pz_ (i := 12) (N := some 23) (zmf 16 [13, 14, 15]) ?_
    refine one_ (i := 13) (N := some 24) (zmf 16 [14, 15]) rfl rfl (one_of HT_.out (by kernel_rfl)) (by decide) (fun K hK => ?_)
    refine value_ (w1 := ?_) (v := ?_) (by rfl) rfl ?_ ?_
    rotate_left 2
    ·go_simp
     constructor
     ·rfl
     ·rfl
    refine hK.out _ _ ((World.cell?_alloc_lt _ _ _ (World.block_lt_of_cell? _ _ (((HB.out.cell (World.block_lt_of_cell? w _ hw627_0)).trans hw627_0)))).trans (((HB.out.cell (World.block_lt_of_cell? w _ hw627_0)).trans hw627_0))) (fun hHeld => ?_)
    clear hK K
    refine nz_ (N := (some 24)) ?_
    refine one_ (i := 14) (N := some 25) (zmf 16 [15]) rfl rfl (one_of HT_.out (by kernel_rfl)) (by decide) (fun K hK => ?_)
    refine Kd.R_append_step (Kd.int .u32) (w0 := w) w.heap.size (by rfl) (.tmp 11) (.tmp 24) 22 55 (.int .u32 0) 4 rfl Tryd.underlying22 info55 rfl (by decide) (by omega) u3 x3_1 (Go.bits .or .u32 ((rd l0 x4_1) % 4294967296) ((((t628) % 4294967296) * 65536) % 4294967296)) [.int .u32 (Go.bits .or .u32 ((rd l0 x4_1) % 4294967296) ((((t628) % 4294967296) * 65536) % 4294967296))] (fun _ => True) (fun _ => False) rfl rfl ?aP (fun _ hk => hk.elim) ?aF ?aO ?aB ?aS ?aL ?_
    (case aP => exact rfl)
    (case aB => exact zq1)
    (case aF => exact (fun _ _ => trivial))
    (case aO => exact (zq4 HO_3.out))
    (case aS => exact (below_size zq1))
    (case aL => have := LMc5.out; omega)
    intro v630 w7 ho hb hg hat
    rw [← Ny629.out] at ho
    refine zt2 (hb) (ho) ?_
    clear HB HO_3
    intro HB HO631
    clear ho hb hg hat
    refine hK.out _ _ (((HB.out.cell (World.block_lt_of_cell? w _ hw627_0)).trans hw627_0)) (fun hHeld => ?_)
    clear hK K
    refine nz_ (N := (some 25)) ?_
    refine pz_ (i := 15) (N := some 3) (zmf 16 []) ?_
    refine done_ (done_of HT_.out (by kernel_rfl)) ?_
    try go_wp2
    go_roundg k1
    case measure => have := HK1.out; omega
    case rel => exact ⟨(y629), (wrap64 (x4_1 + 2)), zq8, H', ⟨by have := HK1.out; omega⟩, ⟨zq4 HO631.out⟩, ⟨zq1⟩⟩
   ·rw [if_neg c2] at H
    have c2b0 := decide_eq_false c2
    clear c2
    obtain rfl := Option.some.inj H
    go_wp2
    go_ret
    exact ⟨_, zq9, zq4 HO_3.out, zq1⟩
def lw_sameLimbs.l0 : Nat → List Int → List Int → Int → Option (Bool)
 | 0, _, _, _ => none
 | k + 1, x0, x1, x5 => if x5 < (x0.length : Int) then (if 0 ≤ x5 then (if x5 < (x1.length : Int) then (if (rd x0 x5) = (rd x1 x5) then (lw_sameLimbs.l0 k x0 x1 (wrap64 (x5 + 1))) else (some false)) else (none)) else (none)) else (some true)
def lw_sameLimbs.f (k : Nat) (l0 : List Int) (l1 : List Int) : Option (Bool) := if (l0.length : Int) = (l1.length : Int) then (lw_sameLimbs.l0 k l0 l1 0) else (some false)
theorem lw_sameLimbs.mono_l : ∀ k, (∀ y0 y1 y2, LeO (lw_sameLimbs.l0 k y0 y1 y2) (lw_sameLimbs.l0 (k + 1) y0 y1 y2))
 | 0 => fun _ _ _ r h => by simp [lw_sameLimbs.l0] at h
 | k + 1 => by
  have ih0 := lw_sameLimbs.mono_l k
  ·intro y0 y1 y2
   unfold lw_sameLimbs.l0
   have m0 := ih0
   exact zm
theorem lw_sameLimbs.mono : ∀ a0 a1 k, LeO (lw_sameLimbs.f k a0 a1) (lw_sameLimbs.f (k + 1) a0 a1) := by
 intro a0 a1 k
 have ih0 := lw_sameLimbs.mono_l k
 unfold lw_sameLimbs.f
 have m0 := ih0
 exact zm
set_option maxHeartbeats 8000000 in
set_option maxRecDepth 100000 in
theorem lw_sameLimbs.calls (k : Nat) (A0 : Option Addr) (c0 : Nat) (l0 : List Int) (A1 : Option Addr) (c1 : Nat) (l1 : List Int) (r : Bool) (w : World) (hr0 : Kd.C (Kd.int .u32) w A0 l0.length l0) (hc0 : l0.length ≤ c0) (hr1 : Kd.C (Kd.int .u32) w A1 l1.length l1) (hc1 : l1.length ≤ c1) (h : lw_sameLimbs.f k l0 l1 = some r) :
  Calls Tryd.prog 55 #[.slice A0 l0.length c0, .slice A1 l1.length c1] w fun e w' => e = .returned (.bool r) ∧ Drawn0 w w' := by
 have HR0 := am hr0
 have HC0 := am hc0
 clear hr0 hc0
 have HR1 := am hr1
 have HC1 := am hc1
 clear hr1 hc1
 have H := h
 unfold lw_sameLimbs.f at H
 clear h
 by_cases c3 : (l0.length : Int) = (l1.length : Int)
 ·rw [if_pos c3] at H
  have c3b0 : ((l0.length : Int) == (l1.length : Int)) = true := beq_iff_eq.mpr c3
  have c3b1 : ((l0.length : Int) != (l1.length : Int)) = false := bne_eq_false_iff_eq.mpr c3
  have c3b2 : (l0.length == l1.length) = true := by first | simpa using c3 | (simp at c3 ⊢; omega)
  clear c3
  have H' := am H
  clear H
  go_enter Tryd.func55, Tryd.ntmps55
  go_wp2
  repeat (go_quiet (fail); try go_wp2)
  go_loopg [5] k (fun kq v5 w' => ∃ (x5_1 : Int), v5 = .int .i64 x5_1 ∧ Aside0 (lw_sameLimbs.l0 kq l0 l1 x5_1 = some r) ∧ Aside0 (kq ≤ k) ∧ Drawn0 w w')
  case atStart => exact ⟨(0), zq8, H', ⟨Nat.le_refl _⟩, by repeat (first | exact Drawn0.refl _ | apply Drawn0.step)⟩
  case round =>
   clear H'
   obtain ⟨x5_1, rfl, HA, HK1, ⟨m1, rfl⟩⟩ := hrel
   cases gk with
   | zero => exact absurd HA.out (by simp [lw_sameLimbs.l0])
   | succ k1 =>
    have H := HA.out
    clear HA
    simp only [lw_sameLimbs.l0] at H
    by_cases c4 : x5_1 < (l0.length : Int)
    ·rw [if_pos c4] at H
     have c4b0 := decide_eq_true c4
     clear c4
     replace H := zn H
     obtain ⟨c5, H⟩ := H
     have c5b0 := decide_eq_true c5
     clear c5
     replace H := zn H
     obtain ⟨c6, H⟩ := H
     have c6b0 := decide_eq_true c6
     clear c6
     by_cases c7 : (rd l0 x5_1) = (rd l1 x5_1)
     ·rw [if_pos c7] at H
      have c7b0 : ((rd l0 x5_1) == (rd l1 x5_1)) = true := beq_iff_eq.mpr c7
      have c7b1 : ((rd l0 x5_1) != (rd l1 x5_1)) = false := bne_eq_false_iff_eq.mpr c7
      clear c7
      have H' := am H
      clear H
      have p514 : 0 ≤ (x5_1 : Int) := zq6
      have q514 : x5_1 < (l0.length : Int) := zq6
      obtain ⟨ad514, e514, hx514_0⟩ := Kd.at_int HR0.out x5_1 p514 q514
      cases e514
      replace p514 := eq_true p514
      replace q514 := eq_true q514
      have p515 : 0 ≤ (x5_1 : Int) := zq6
      have q515 : x5_1 < (l1.length : Int) := zq6
      obtain ⟨ad515, e515, hx515_0⟩ := Kd.at_int HR1.out x5_1 p515 q515
      cases e515
      replace p515 := eq_true p515
      replace q515 := eq_true q515
      go_wp2
      repeat (go_quiet (fail); try go_wp2)
      go_roundg k1
      case measure => have := HK1.out; omega
      case rel => exact ⟨(wrap64 (x5_1 + 1)), zq8, H', ⟨by have := HK1.out; omega⟩, by repeat (first | exact Drawn0.refl _ | apply Drawn0.step)⟩
     ·rw [if_neg c7] at H
      have c7b0 : ((rd l0 x5_1) == (rd l1 x5_1)) = false := beq_eq_false_iff_ne.mpr c7
      have c7b1 : ((rd l0 x5_1) != (rd l1 x5_1)) = true := bne_iff_ne.mpr c7
      obtain rfl := Option.some.inj H
      have p514 : 0 ≤ (x5_1 : Int) := zq6
      have q514 : x5_1 < (l0.length : Int) := zq6
      obtain ⟨ad514, e514, hx514_0⟩ := Kd.at_int HR0.out x5_1 p514 q514
      cases e514
      replace p514 := eq_true p514
      replace q514 := eq_true q514
      have p515 : 0 ≤ (x5_1 : Int) := zq6
      have q515 : x5_1 < (l1.length : Int) := zq6
      obtain ⟨ad515, e515, hx515_0⟩ := Kd.at_int HR1.out x5_1 p515 q515
      cases e515
      replace p515 := eq_true p515
      replace q515 := eq_true q515
      go_wp2
      repeat (go_quiet (fail); try go_wp2)
      go_ret
      exact ⟨by first | rfl | (simp; done) | (simp [*]; done), by repeat (first | exact Drawn0.refl _ | apply Drawn0.step)⟩
    ·rw [if_neg c4] at H
     have c4b0 := decide_eq_false c4
     clear c4
     obtain rfl := Option.some.inj H
     go_wp2
     repeat (go_quiet (fail); try go_wp2)
     go_ret
     exact ⟨by first | rfl | (simp; done) | (simp [*]; done), by repeat (first | exact Drawn0.refl _ | apply Drawn0.step)⟩
 ·rw [if_neg c3] at H
  have c3b0 : ((l0.length : Int) == (l1.length : Int)) = false := beq_eq_false_iff_ne.mpr c3
  have c3b1 : ((l0.length : Int) != (l1.length : Int)) = true := bne_iff_ne.mpr c3
  have c3b2 : (l0.length == l1.length) = false := by first | simpa using c3 | (simp at c3 ⊢; omega)
  obtain rfl := Option.some.inj H
  go_enter Tryd.func55, Tryd.ntmps55
  go_wp2
  repeat (go_quiet (fail); try go_wp2)
  go_ret
  exact ⟨by first | rfl | (simp; done) | (simp [*]; done), by repeat (first | exact Drawn0.refl _ | apply Drawn0.step)⟩
def strings_IndexByte.f (a0 : ByteArray) (a1 : Int) : Option (Int) := some (Lib.indexByte a0.data.toList a1.toNat.toUInt8)
theorem strings_IndexByte.calls (a0 : ByteArray) (a1 : Int) (r : Int) (w : World) (h : strings_IndexByte.f a0 a1 = some r) :
  Calls Tryd.prog 65 #[.string a0, .int .u8 a1] w fun e w' => e = .returned (.int .i64 r) ∧ Drawn0 w w' := by
 obtain rfl := Option.some.inj h
 exact (Any.strings_IndexByte Tryd.lays137 a0 a1 w).mono fun e w' h => ⟨h.1, by rw [h.2]; exact Drawn0.refl w⟩
end Go.Proofs.YtemnjgkicndmjaaDoor.Q
namespace Go.Proofs.YtemnjgkicndmjaaDoor.Q
open Go.RowKit Go.Proofs.YtemnjgkicndmjaaDoor.E Go.Proofs.YtemnjgkicndmjaaDoorW.PrintWords Go.Proofs.YtemnjgkicndmjaaDoorW.PrintLast Go.Proofs.YtemnjgkicndmjaaDoorW.PrintMore
set_option linter.unusedVariables false
noncomputable def rf_Fault.c : (R : Type) → (Nm) → ((Int) → Option R) → Option R := fun R a => lm (fun (a : Nm) k => rf_Fault.f k a.1 a.2.1 a.2.2) R a
theorem rf_Fault.pc (a : Nm) (b : Int) (k : Nat) (h : rf_Fault.f k a.1 a.2.1 a.2.2 = some b) : PureC Tryd.prog 15 ((one kN).enc a) (iI.enc b) := by
  intro w P0 vs hr
  obtain ⟨x0, x1, x2⟩ := a
  obtain ⟨d0, u0, e0, hg0, hr⟩ := at_agg hr
  obtain ⟨u1, e1, hg0⟩ := at_bool hg0
  obtain ⟨A2, c2, u2, e2, hc2, hf2, hg0⟩ := at_row hg0
  obtain ⟨A3, c3, u3, e3, hc3, hf3, hg0⟩ := at_row hg0
  have z := at_nil hg0
  subst z
  subst e3
  subst e2
  have q4 := e1
  obtain rfl : d0 = #[.bool x0, .slice A2 x1.length c2, .slice A3 x2.length c3] := Array.toList_inj.1 (by simpa using q4)
  have z := at_nil hr
  subst z
  have q5 := e0
  obtain rfl : vs = #[.agg #[.bool x0, .slice A2 x1.length c2, .slice A3 x2.length c3]] := Array.toList_inj.1 (by simpa using q5)
  refine Calls.mono (rf_Fault.calls k x0 A2 c2 x1 A3 c3 x2 b w (now hf2) hc2 (now hf3) hc3 h) fun e w' he => ?_
  obtain ⟨rfl, hb⟩ := he
  exact ⟨_, rfl, hb, (show E.Rep _ _ _ _ _ from by simp only [iI, ci, E.Rep])⟩
theorem rf_Fault.ok : FunOk Tryd.prog 15 (mk (one kN) iI rf_Fault.c) := lm_ok (by kernel_rfl) rf_Fault.pc
theorem rf_Fault.eq {x0 : Bool} {x1 : List Int} {x2 : List Int} {b : Int} (h : Ev (fun k => rf_Fault.f k x0 x1 x2) b) {R : Type} (K : (Int) → Option R) : rf_Fault.c R (x0, x1, x2) K = K b := lm_ev (g := fun (a : Nm) k => rf_Fault.f k a.1 a.2.1 a.2.2) (a := (x0, x1, x2)) h K
noncomputable def rf_natOf.c : (R : Type) → (List Int) → ((List Int) → Option R) → Option R := fun R a => lm (fun (a : List Int) k => rf_natOf.f k a) R a
theorem rf_natOf.pc (a : List Int) (b : List Int) (k : Nat) (h : rf_natOf.f k a = some b) : PureC Tryd.prog 45 ((one rU).enc a) (rI.enc b) := by
  intro w P0 vs hr
  obtain ⟨A0, c0, u0, e0, hc0, hf0, hr⟩ := at_row hr
  have z := at_nil hr
  subst z
  have q1 := e0
  obtain rfl : vs = #[.slice A0 a.length c0] := Array.toList_inj.1 (by simpa using q1)
  refine Calls.mono (rf_natOf.calls k A0 c0 a b w (now hf0) hc0 h) fun e w' he => ?_
  obtain ⟨v0_, rfl, hv0, hb⟩ := he
  exact ⟨_, rfl, hb, (V_row hv0 fun n hn => .inr hn)⟩
theorem rf_natOf.ok : FunOk Tryd.prog 45 (mk (one rU) rI rf_natOf.c) := lm_ok (by kernel_rfl) rf_natOf.pc
theorem rf_natOf.eq {x0 : List Int} {b : List Int} (h : Ev (fun k => rf_natOf.f k x0) b) {R : Type} (K : (List Int) → Option R) : rf_natOf.c R x0 K = K b := lm_ev (g := fun (a : List Int) k => rf_natOf.f k a) (a := x0) h K
noncomputable def rf_CmpNat.c : (R : Type) → (List Int × List Int) → ((Int) → Option R) → Option R := fun R a => lm (fun (a : List Int × List Int) k => rf_CmpNat.f k a.1 a.2) R a
theorem rf_CmpNat.pc (a : List Int × List Int) (b : Int) (k : Nat) (h : rf_CmpNat.f k a.1 a.2 = some b) : PureC Tryd.prog 46 ((more rI (one rI)).enc a) (iI.enc b) := by
  intro w P0 vs hr
  obtain ⟨x0, x1⟩ := a
  obtain ⟨A0, c0, u0, e0, hc0, hf0, hr⟩ := at_row hr
  obtain ⟨A1, c1, u1, e1, hc1, hf1, hr⟩ := at_row hr
  have z := at_nil hr
  subst z
  subst e1
  have q2 := e0
  obtain rfl : vs = #[.slice A0 x0.length c0, .slice A1 x1.length c1] := Array.toList_inj.1 (by simpa using q2)
  refine Calls.mono (rf_CmpNat.calls k A0 c0 x0 A1 c1 x1 b w (now hf0) hc0 (now hf1) hc1 h) fun e w' he => ?_
  obtain ⟨rfl, hb⟩ := he
  exact ⟨_, rfl, hb, (show E.Rep _ _ _ _ _ from by simp only [iI, ci, E.Rep])⟩
theorem rf_CmpNat.ok : FunOk Tryd.prog 46 (mk (more rI (one rI)) iI rf_CmpNat.c) := lm_ok (by kernel_rfl) rf_CmpNat.pc
theorem rf_CmpNat.eq {x0 : List Int} {x1 : List Int} {b : Int} (h : Ev (fun k => rf_CmpNat.f k x0 x1) b) {R : Type} (K : (Int) → Option R) : rf_CmpNat.c R (x0, x1) K = K b := lm_ev (g := fun (a : List Int × List Int) k => rf_CmpNat.f k a.1 a.2) (a := (x0, x1)) h K
noncomputable def rf_MulNat.c : (R : Type) → (List Int × List Int) → ((List Int) → Option R) → Option R := fun R a => lm (fun (a : List Int × List Int) k => rf_MulNat.f k a.1 a.2) R a
theorem rf_MulNat.pc (a : List Int × List Int) (b : List Int) (k : Nat) (h : rf_MulNat.f k a.1 a.2 = some b) : PureC Tryd.prog 63 ((more rI (one rI)).enc a) (rI.enc b) := by
  intro w P0 vs hr
  obtain ⟨x0, x1⟩ := a
  obtain ⟨A0, c0, u0, e0, hc0, hf0, hr⟩ := at_row hr
  obtain ⟨A1, c1, u1, e1, hc1, hf1, hr⟩ := at_row hr
  have z := at_nil hr
  subst z
  subst e1
  have q2 := e0
  obtain rfl : vs = #[.slice A0 x0.length c0, .slice A1 x1.length c1] := Array.toList_inj.1 (by simpa using q2)
  refine Calls.mono (rf_MulNat.calls k A0 c0 x0 A1 c1 x1 b w (now hf0) hc0 (now hf1) hc1 h) fun e w' he => ?_
  obtain ⟨v0_, rfl, hv0, hb⟩ := he
  exact ⟨_, rfl, hb, (V_row hv0 fun n hn => .inr hn)⟩
theorem rf_MulNat.ok : FunOk Tryd.prog 63 (mk (more rI (one rI)) rI rf_MulNat.c) := lm_ok (by kernel_rfl) rf_MulNat.pc
theorem rf_MulNat.eq {x0 : List Int} {x1 : List Int} {b : List Int} (h : Ev (fun k => rf_MulNat.f k x0 x1) b) {R : Type} (K : (List Int) → Option R) : rf_MulNat.c R (x0, x1) K = K b := lm_ev (g := fun (a : List Int × List Int) k => rf_MulNat.f k a.1 a.2) (a := (x0, x1)) h K
noncomputable def rf_AddNat.c : (R : Type) → (List Int × List Int) → ((List Int) → Option R) → Option R := fun R a => lm (fun (a : List Int × List Int) k => rf_AddNat.f k a.1 a.2) R a
theorem rf_AddNat.pc (a : List Int × List Int) (b : List Int) (k : Nat) (h : rf_AddNat.f k a.1 a.2 = some b) : PureC Tryd.prog 90 ((more rI (one rI)).enc a) (rI.enc b) := by
  intro w P0 vs hr
  obtain ⟨x0, x1⟩ := a
  obtain ⟨A0, c0, u0, e0, hc0, hf0, hr⟩ := at_row hr
  obtain ⟨A1, c1, u1, e1, hc1, hf1, hr⟩ := at_row hr
  have z := at_nil hr
  subst z
  subst e1
  have q2 := e0
  obtain rfl : vs = #[.slice A0 x0.length c0, .slice A1 x1.length c1] := Array.toList_inj.1 (by simpa using q2)
  refine Calls.mono (rf_AddNat.calls k A0 c0 x0 A1 c1 x1 b w (now hf0) hc0 (now hf1) hc1 h) fun e w' he => ?_
  obtain ⟨v0_, rfl, hv0, hb⟩ := he
  exact ⟨_, rfl, hb, (V_row hv0 fun n hn => .inr hn)⟩
theorem rf_AddNat.ok : FunOk Tryd.prog 90 (mk (more rI (one rI)) rI rf_AddNat.c) := lm_ok (by kernel_rfl) rf_AddNat.pc
theorem rf_AddNat.eq {x0 : List Int} {x1 : List Int} {b : List Int} (h : Ev (fun k => rf_AddNat.f k x0 x1) b) {R : Type} (K : (List Int) → Option R) : rf_AddNat.c R (x0, x1) K = K b := lm_ev (g := fun (a : List Int × List Int) k => rf_AddNat.f k a.1 a.2) (a := (x0, x1)) h K
noncomputable def rf_SubNat.c : (R : Type) → (List Int × List Int) → ((List Int) → Option R) → Option R := fun R a => lm (fun (a : List Int × List Int) k => rf_SubNat.f k a.1 a.2) R a
theorem rf_SubNat.pc (a : List Int × List Int) (b : List Int) (k : Nat) (h : rf_SubNat.f k a.1 a.2 = some b) : PureC Tryd.prog 83 ((more rI (one rI)).enc a) (rI.enc b) := by
  intro w P0 vs hr
  obtain ⟨x0, x1⟩ := a
  obtain ⟨A0, c0, u0, e0, hc0, hf0, hr⟩ := at_row hr
  obtain ⟨A1, c1, u1, e1, hc1, hf1, hr⟩ := at_row hr
  have z := at_nil hr
  subst z
  subst e1
  have q2 := e0
  obtain rfl : vs = #[.slice A0 x0.length c0, .slice A1 x1.length c1] := Array.toList_inj.1 (by simpa using q2)
  refine Calls.mono (rf_SubNat.calls k A0 c0 x0 A1 c1 x1 b w (now hf0) hc0 (now hf1) hc1 h) fun e w' he => ?_
  obtain ⟨v0_, rfl, hv0, hb⟩ := he
  exact ⟨_, rfl, hb, (V_row hv0 fun n hn => .inr hn)⟩
theorem rf_SubNat.ok : FunOk Tryd.prog 83 (mk (more rI (one rI)) rI rf_SubNat.c) := lm_ok (by kernel_rfl) rf_SubNat.pc
theorem rf_SubNat.eq {x0 : List Int} {x1 : List Int} {b : List Int} (h : Ev (fun k => rf_SubNat.f k x0 x1) b) {R : Type} (K : (List Int) → Option R) : rf_SubNat.c R (x0, x1) K = K b := lm_ev (g := fun (a : List Int × List Int) k => rf_SubNat.f k a.1 a.2) (a := (x0, x1)) h K
noncomputable def rf_GcdNat.c : (R : Type) → (List Int × List Int) → ((List Int) → Option R) → Option R := fun R a => lm (fun (a : List Int × List Int) k => rf_GcdNat.f k a.1 a.2) R a
theorem rf_GcdNat.pc (a : List Int × List Int) (b : List Int) (k : Nat) (h : rf_GcdNat.f k a.1 a.2 = some b) : PureC Tryd.prog 47 ((more rI (one rI)).enc a) (rI.enc b) := by
  intro w P0 vs hr
  obtain ⟨x0, x1⟩ := a
  obtain ⟨A0, c0, u0, e0, hc0, hf0, hr⟩ := at_row hr
  obtain ⟨A1, c1, u1, e1, hc1, hf1, hr⟩ := at_row hr
  have z := at_nil hr
  subst z
  subst e1
  have q2 := e0
  obtain rfl : vs = #[.slice A0 x0.length c0, .slice A1 x1.length c1] := Array.toList_inj.1 (by simpa using q2)
  refine Calls.mono (rf_GcdNat.calls k P0 A0 c0 x0 P0 A1 c1 x1 b w (rowV hf0 hc0) (rowV hf1 hc1) h) fun e w' he => ?_
  obtain ⟨v0_, rfl, hv0, hb⟩ := he
  exact ⟨_, rfl, hb, (V_row hv0 fun n hn => hn.elim (fun h => h.elim .inl .inl) .inr)⟩
theorem rf_GcdNat.ok : FunOk Tryd.prog 47 (mk (more rI (one rI)) rI rf_GcdNat.c) := lm_ok (by kernel_rfl) rf_GcdNat.pc
theorem rf_GcdNat.eq {x0 : List Int} {x1 : List Int} {b : List Int} (h : Ev (fun k => rf_GcdNat.f k x0 x1) b) {R : Type} (K : (List Int) → Option R) : rf_GcdNat.c R (x0, x1) K = K b := lm_ev (g := fun (a : List Int × List Int) k => rf_GcdNat.f k a.1 a.2) (a := (x0, x1)) h K
noncomputable def rf_DivNat.c : (R : Type) → (List Int × List Int) → (((List Int × List Int)) → Option R) → Option R := fun R a => lm (fun (a : List Int × List Int) k => rf_DivNat.f k a.1 a.2) R a
theorem rf_DivNat.pc (a : List Int × List Int) (b : (List Int × List Int)) (k : Nat) (h : rf_DivNat.f k a.1 a.2 = some b) : PureC Tryd.prog 76 ((more rI (one rI)).enc a) ((tup (more rI (one rI))).enc b) := by
  intro w P0 vs hr
  obtain ⟨x0, x1⟩ := a
  obtain ⟨r0, r1⟩ := b
  obtain ⟨A0, c0, u0, e0, hc0, hf0, hr⟩ := at_row hr
  obtain ⟨A1, c1, u1, e1, hc1, hf1, hr⟩ := at_row hr
  have z := at_nil hr
  subst z
  subst e1
  have q2 := e0
  obtain rfl : vs = #[.slice A0 x0.length c0, .slice A1 x1.length c1] := Array.toList_inj.1 (by simpa using q2)
  refine Calls.mono (rf_DivNat.calls k A0 c0 x0 A1 c1 x1 r0 r1 w (now hf0) hc0 (now hf1) hc1 h) fun e w' he => ?_
  obtain ⟨v0_, v1_, rfl, hv0, hv1, hb⟩ := he
  exact ⟨_, rfl, hb, (rep_tup2 (V_row hv0 fun n hn => .inr hn) (V_row hv1 fun n hn => .inr hn))⟩
theorem rf_DivNat.ok : FunOk Tryd.prog 76 (mk (more rI (one rI)) (tup (more rI (one rI))) rf_DivNat.c) := lm_ok (by kernel_rfl) rf_DivNat.pc
theorem rf_DivNat.eq {x0 : List Int} {x1 : List Int} {b : (List Int × List Int)} (h : Ev (fun k => rf_DivNat.f k x0 x1) b) {R : Type} (K : ((List Int × List Int)) → Option R) : rf_DivNat.c R (x0, x1) K = K b := lm_ev (g := fun (a : List Int × List Int) k => rf_DivNat.f k a.1 a.2) (a := (x0, x1)) h K
noncomputable def rf_limbs.c : (R : Type) → (List Int) → ((List Int) → Option R) → Option R := fun R a => lm (fun (a : List Int) k => rf_limbs.f k a) R a
theorem rf_limbs.pc (a : List Int) (b : List Int) (k : Nat) (h : rf_limbs.f k a = some b) : PureC Tryd.prog 108 ((one rI).enc a) (rU.enc b) := by
  intro w P0 vs hr
  obtain ⟨A0, c0, u0, e0, hc0, hf0, hr⟩ := at_row hr
  have z := at_nil hr
  subst z
  have q1 := e0
  obtain rfl : vs = #[.slice A0 a.length c0] := Array.toList_inj.1 (by simpa using q1)
  refine Calls.mono (rf_limbs.calls k A0 c0 a b w (now hf0) hc0 h) fun e w' he => ?_
  obtain ⟨v0_, rfl, hv0, hb⟩ := he
  exact ⟨_, rfl, hb, (R_new hv0 fun n hn => .inr hn)⟩
theorem rf_limbs.ok : FunOk Tryd.prog 108 (mk (one rI) rU rf_limbs.c) := lm_ok (by kernel_rfl) rf_limbs.pc
theorem rf_limbs.eq {x0 : List Int} {b : List Int} (h : Ev (fun k => rf_limbs.f k x0) b) {R : Type} (K : (List Int) → Option R) : rf_limbs.c R x0 K = K b := lm_ev (g := fun (a : List Int) k => rf_limbs.f k a) (a := x0) h K
noncomputable def lw_sameLimbs.c : (R : Type) → (List Int × List Int) → ((Bool) → Option R) → Option R := fun R a => lm (fun (a : List Int × List Int) k => lw_sameLimbs.f k a.1 a.2) R a
theorem lw_sameLimbs.pc (a : List Int × List Int) (b : Bool) (k : Nat) (h : lw_sameLimbs.f k a.1 a.2 = some b) : PureC Tryd.prog 55 ((more rU (one rU)).enc a) (cb.enc b) := by
  intro w P0 vs hr
  obtain ⟨x0, x1⟩ := a
  obtain ⟨A0, c0, u0, e0, hc0, hf0, hr⟩ := at_row hr
  obtain ⟨A1, c1, u1, e1, hc1, hf1, hr⟩ := at_row hr
  have z := at_nil hr
  subst z
  subst e1
  have q2 := e0
  obtain rfl : vs = #[.slice A0 x0.length c0, .slice A1 x1.length c1] := Array.toList_inj.1 (by simpa using q2)
  refine Calls.mono (lw_sameLimbs.calls k A0 c0 x0 A1 c1 x1 b w (now hf0) hc0 (now hf1) hc1 h) fun e w' he => ?_
  obtain ⟨rfl, hb⟩ := he
  exact ⟨_, rfl, hb.below, (show E.Rep _ _ _ _ _ from by simp only [cb, E.Rep])⟩
theorem lw_sameLimbs.ok : FunOk Tryd.prog 55 (mk (more rU (one rU)) cb lw_sameLimbs.c) := lm_ok (by kernel_rfl) lw_sameLimbs.pc
theorem lw_sameLimbs.eq {x0 : List Int} {x1 : List Int} {b : Bool} (h : Ev (fun k => lw_sameLimbs.f k x0 x1) b) {R : Type} (K : (Bool) → Option R) : lw_sameLimbs.c R (x0, x1) K = K b := lm_ev (g := fun (a : List Int × List Int) k => lw_sameLimbs.f k a.1 a.2) (a := (x0, x1)) h K
def strings_IndexByte.c : (R : Type) → (ByteArray × Int) → ((Int) → Option R) → Option R := fun R a => at' (fun (a : ByteArray × Int) => strings_IndexByte.f a.1 a.2) R a
theorem strings_IndexByte.pc (a : ByteArray × Int) (b : Int) (h : strings_IndexByte.f a.1 a.2 = some b) : PureC Tryd.prog 65 ((more cs (one (ci .u8))).enc a) (iI.enc b) := by
  intro w P0 vs hr
  obtain ⟨x0, x1⟩ := a
  obtain ⟨u0, e0, hr⟩ := at_str hr
  obtain ⟨u1, e1, hr⟩ := at_int hr
  have z := at_nil hr
  subst z
  subst e1
  have q2 := e0
  obtain rfl : vs = #[.string x0, .int .u8 x1] := Array.toList_inj.1 (by simpa using q2)
  refine Calls.mono (strings_IndexByte.calls x0 x1 b w h) fun e w' he => ?_
  obtain ⟨rfl, hb⟩ := he
  exact ⟨_, rfl, hb.below, (show E.Rep _ _ _ _ _ from by simp only [iI, ci, E.Rep])⟩
theorem strings_IndexByte.ok : FunOk Tryd.prog 65 (mk (more cs (one (ci .u8))) iI strings_IndexByte.c) := at_ok (by kernel_rfl) strings_IndexByte.pc
theorem strings_IndexByte.eq {x0 : ByteArray} {x1 : Int} {b : Int} (h : strings_IndexByte.f x0 x1 = some b) {R : Type} (K : (Int) → Option R) : strings_IndexByte.c R (x0, x1) K = K b := at_eq (g := fun (a : ByteArray × Int) => strings_IndexByte.f a.1 a.2) (a := (x0, x1)) h K
noncomputable def rf_IsInt.c (R : Type) (a : Nm) (K : (Bool) → Option R) : Option R :=
  (rf_CmpNat.c _ (a.2.2, ([(1 : Int)] : List Int)) fun t1 => K (t1 == (0 : Int)))
noncomputable def rf_IsInt.T (g46 : CF (List Int × List Int) (Int)) : List (Nat × Tf) := [(46, .pure (mk (more rI (one rI)) iI g46))]
theorem rf_IsInt.tok : TOk Tryd.prog (tt (rf_IsInt.T rf_CmpNat.c)) := (tt_cons rf_CmpNat.ok tt_nil)
set_option maxRecDepth 100000 in
theorem rf_IsInt.ex0 (g46 : CF (List Int × List Int) (Int)) (R : Type) (a : Nm) (K : (Bool) → Option R) : execFn' Tryd.prog (tt (rf_IsInt.T g46)) (lt []) 60 Tryd.f66 R ((one kQ).enc a) (dk cb K) = (g46 _ (a.2.2, ([(1 : Int)] : List Int)) fun t1 => K (t1 == (0 : Int))) := by kernel_rfl
theorem rf_IsInt.sh : Shown Tryd.prog 66 (one kQ).enc cb rf_IsInt.c := exec_shown rf_IsInt.tok mixed Tryd.func66 (by kernel_rfl) (rf_IsInt.ex0 rf_CmpNat.c)
theorem rf_IsInt.ok : FunOk Tryd.prog 66 (mk (one kQ) cb rf_IsInt.c) := rf_IsInt.sh.ok (by kernel_rfl)
noncomputable def rf_Of.c (R : Type) (a : Nm) (K : (Nm) → Option R) : Option R :=
  (rf_natOf.c _ a.2.1 fun t1 => (rf_natOf.c _ a.2.2 fun t2 => K (a.1, t1, t2)))
noncomputable def rf_Of.T (g45 : CF (List Int) (List Int)) : List (Nat × Tf) := [(45, .pure (mk (one rU) rI g45))]
theorem rf_Of.tok : TOk Tryd.prog (tt (rf_Of.T rf_natOf.c)) := (tt_cons rf_natOf.ok tt_nil)
set_option maxRecDepth 100000 in
theorem rf_Of.ex0 (g45 : CF (List Int) (List Int)) (R : Type) (a : Nm) (K : (Nm) → Option R) : execFn' Tryd.prog (tt (rf_Of.T g45)) (lt []) 60 Tryd.f24 R ((one kN).enc a) (dk kQ K) = (g45 _ a.2.1 fun t1 => (g45 _ a.2.2 fun t2 => K (a.1, t1, t2))) := by kernel_rfl
theorem rf_Of.sh : Shown Tryd.prog 24 (one kN).enc kQ rf_Of.c := exec_shown rf_Of.tok mixed Tryd.func24 (by kernel_rfl) (rf_Of.ex0 rf_natOf.c)
theorem rf_Of.ok : FunOk Tryd.prog 24 (mk (one kN) kQ rf_Of.c) := rf_Of.sh.ok (by kernel_rfl)
noncomputable def rf_reduce.c (R : Type) (a : Bool × List Int × List Int) (K : (Nm) → Option R) : Option R :=
  (rf_GcdNat.c _ (a.2.1, a.2.2) fun t1 => (rf_CmpNat.c _ (t1, ([(1 : Int)] : List Int)) fun t2 => (if (t2 != (0 : Int)) = true then (rf_DivNat.c _ (a.2.1, t1) fun t3 => (rf_DivNat.c _ (a.2.2, t1) fun t4 => (if a.1 = true then K ((decide ((t3.1.length : Int) > (0 : Int))), t3.1, t4.1) else K (false, t3.1, t4.1)))) else (if a.1 = true then K ((decide ((a.2.1.length : Int) > (0 : Int))), a.2.1, a.2.2) else K (false, a.2.1, a.2.2)))))
noncomputable def rf_reduce.T (g47 : CF (List Int × List Int) (List Int)) (g46 : CF (List Int × List Int) (Int)) (g76 : CF (List Int × List Int) ((List Int × List Int))) : List (Nat × Tf) := [(46, .pure (mk (more rI (one rI)) iI g46)), (47, .pure (mk (more rI (one rI)) rI g47)), (76, .pure (mk (more rI (one rI)) (tup (more rI (one rI))) g76))]
theorem rf_reduce.tok : TOk Tryd.prog (tt (rf_reduce.T rf_GcdNat.c rf_CmpNat.c rf_DivNat.c)) := (tt_cons rf_CmpNat.ok (tt_cons rf_GcdNat.ok (tt_cons rf_DivNat.ok tt_nil)))
set_option maxRecDepth 100000 in
theorem rf_reduce.ex0 (g47 : CF (List Int × List Int) (List Int)) (g46 : CF (List Int × List Int) (Int)) (g76 : CF (List Int × List Int) ((List Int × List Int))) (R : Type) (a : Bool × List Int × List Int) (K : (Nm) → Option R) : execFn' Tryd.prog (tt (rf_reduce.T g47 g46 g76)) (lt []) 60 Tryd.f60 R ((more cb (more rI (one rI))).enc a) (dk kQ K) = (g47 _ (a.2.1, a.2.2) fun t1 => (g46 _ (t1, ([(1 : Int)] : List Int)) fun t2 => (if (t2 != (0 : Int)) = true then (g76 _ (a.2.1, t1) fun t3 => (g76 _ (a.2.2, t1) fun t4 => (if a.1 = true then K ((decide ((t3.1.length : Int) > (0 : Int))), t3.1, t4.1) else K (false, t3.1, t4.1)))) else (if a.1 = true then K ((decide ((a.2.1.length : Int) > (0 : Int))), a.2.1, a.2.2) else K (false, a.2.1, a.2.2))))) := by kernel_rfl
theorem rf_reduce.sh : Shown Tryd.prog 60 (more cb (more rI (one rI))).enc kQ rf_reduce.c := exec_shown rf_reduce.tok mixed Tryd.func60 (by kernel_rfl) (rf_reduce.ex0 rf_GcdNat.c rf_CmpNat.c rf_DivNat.c)
theorem rf_reduce.ok : FunOk Tryd.prog 60 (mk (more cb (more rI (one rI))) kQ rf_reduce.c) := rf_reduce.sh.ok (by kernel_rfl)
noncomputable def rf_Plus.c (R : Type) (a : Nm × Nm) (K : (Nm) → Option R) : Option R :=
  (rf_MulNat.c _ (a.1.2.1, a.2.2.2) fun t1 => (rf_MulNat.c _ (a.2.2.1, a.1.2.2) fun t2 => (rf_MulNat.c _ (a.1.2.2, a.2.2.2) fun t3 => (if (a.1.1 == a.2.1) = true then (rf_AddNat.c _ (t1, t2) fun t4 => (rf_reduce.c _ (a.1.1, t4, t3) fun t5 => K (t5.1, t5.2.1, t5.2.2))) else (rf_CmpNat.c _ (t1, t2) fun t6 => (if (decide (t6 ≥ (0 : Int))) = true then (rf_SubNat.c _ (t1, t2) fun t7 => (rf_reduce.c _ (a.1.1, t7, t3) fun t8 => K (t8.1, t8.2.1, t8.2.2))) else (rf_SubNat.c _ (t2, t1) fun t9 => (rf_reduce.c _ (a.2.1, t9, t3) fun t10 => K (t10.1, t10.2.1, t10.2.2)))))))))
noncomputable def rf_Plus.T (g63 : CF (List Int × List Int) (List Int)) (g90 : CF (List Int × List Int) (List Int)) (g60 : CF (Bool × List Int × List Int) (Nm)) (g46 : CF (List Int × List Int) (Int)) (g83 : CF (List Int × List Int) (List Int)) : List (Nat × Tf) := [(46, .pure (mk (more rI (one rI)) iI g46)), (60, .pure (mk (more cb (more rI (one rI))) kQ g60)), (63, .pure (mk (more rI (one rI)) rI g63)), (83, .pure (mk (more rI (one rI)) rI g83)), (90, .pure (mk (more rI (one rI)) rI g90))]
theorem rf_Plus.tok : TOk Tryd.prog (tt (rf_Plus.T rf_MulNat.c rf_AddNat.c rf_reduce.c rf_CmpNat.c rf_SubNat.c)) := (tt_cons rf_CmpNat.ok (tt_cons rf_reduce.ok (tt_cons rf_MulNat.ok (tt_cons rf_SubNat.ok (tt_cons rf_AddNat.ok tt_nil)))))
set_option maxRecDepth 100000 in
theorem rf_Plus.ex0 (g63 : CF (List Int × List Int) (List Int)) (g90 : CF (List Int × List Int) (List Int)) (g60 : CF (Bool × List Int × List Int) (Nm)) (g46 : CF (List Int × List Int) (Int)) (g83 : CF (List Int × List Int) (List Int)) (R : Type) (a : Nm × Nm) (K : (Nm) → Option R) : execFn' Tryd.prog (tt (rf_Plus.T g63 g90 g60 g46 g83)) (lt []) 60 Tryd.f67 R ((more kQ (one kQ)).enc a) (dk kQ K) = (g63 _ (a.1.2.1, a.2.2.2) fun t1 => (g63 _ (a.2.2.1, a.1.2.2) fun t2 => (g63 _ (a.1.2.2, a.2.2.2) fun t3 => (if (a.1.1 == a.2.1) = true then (g90 _ (t1, t2) fun t4 => (g60 _ (a.1.1, t4, t3) fun t5 => K (t5.1, t5.2.1, t5.2.2))) else (g46 _ (t1, t2) fun t6 => (if (decide (t6 ≥ (0 : Int))) = true then (g83 _ (t1, t2) fun t7 => (g60 _ (a.1.1, t7, t3) fun t8 => K (t8.1, t8.2.1, t8.2.2))) else (g83 _ (t2, t1) fun t9 => (g60 _ (a.2.1, t9, t3) fun t10 => K (t10.1, t10.2.1, t10.2.2))))))))) := by kernel_rfl
theorem rf_Plus.sh : Shown Tryd.prog 67 (more kQ (one kQ)).enc kQ rf_Plus.c := exec_shown rf_Plus.tok mixed Tryd.func67 (by kernel_rfl) (rf_Plus.ex0 rf_MulNat.c rf_AddNat.c rf_reduce.c rf_CmpNat.c rf_SubNat.c)
theorem rf_Plus.ok : FunOk Tryd.prog 67 (mk (more kQ (one kQ)) kQ rf_Plus.c) := rf_Plus.sh.ok (by kernel_rfl)
noncomputable def rf_Minus.c (R : Type) (a : Nm) (K : (Nm) → Option R) : Option R :=
  (if (!a.1) = true then K ((decide ((a.2.1.length : Int) > (0 : Int))), a.2.1, a.2.2) else K (false, a.2.1, a.2.2))
noncomputable def rf_Minus.T : List (Nat × Tf) := []
theorem rf_Minus.tok : TOk Tryd.prog (tt (rf_Minus.T)) := tt_nil
set_option maxRecDepth 100000 in
theorem rf_Minus.ex0 (R : Type) (a : Nm) (K : (Nm) → Option R) : execFn' Tryd.prog (tt (rf_Minus.T)) (lt []) 60 Tryd.f68 R ((one kQ).enc a) (dk kQ K) = (if (!a.1) = true then K ((decide ((a.2.1.length : Int) > (0 : Int))), a.2.1, a.2.2) else K (false, a.2.1, a.2.2)) := by kernel_rfl
theorem rf_Minus.sh : Shown Tryd.prog 68 (one kQ).enc kQ rf_Minus.c := exec_shown rf_Minus.tok mixed Tryd.func68 (by kernel_rfl) (rf_Minus.ex0)
theorem rf_Minus.ok : FunOk Tryd.prog 68 (mk (one kQ) kQ rf_Minus.c) := rf_Minus.sh.ok (by kernel_rfl)
noncomputable def rf_Product.c (R : Type) (a : Nm × Nm) (K : (Nm) → Option R) : Option R :=
  (rf_MulNat.c _ (a.1.2.1, a.2.2.1) fun t1 => (rf_MulNat.c _ (a.1.2.2, a.2.2.2) fun t2 => (rf_reduce.c _ ((!(a.1.1 == a.2.1)), t1, t2) fun t3 => K (t3.1, t3.2.1, t3.2.2))))
noncomputable def rf_Product.T (g63 : CF (List Int × List Int) (List Int)) (g60 : CF (Bool × List Int × List Int) (Nm)) : List (Nat × Tf) := [(60, .pure (mk (more cb (more rI (one rI))) kQ g60)), (63, .pure (mk (more rI (one rI)) rI g63))]
theorem rf_Product.tok : TOk Tryd.prog (tt (rf_Product.T rf_MulNat.c rf_reduce.c)) := (tt_cons rf_reduce.ok (tt_cons rf_MulNat.ok tt_nil))
set_option maxRecDepth 100000 in
theorem rf_Product.ex0 (g63 : CF (List Int × List Int) (List Int)) (g60 : CF (Bool × List Int × List Int) (Nm)) (R : Type) (a : Nm × Nm) (K : (Nm) → Option R) : execFn' Tryd.prog (tt (rf_Product.T g63 g60)) (lt []) 60 Tryd.f69 R ((more kQ (one kQ)).enc a) (dk kQ K) = (g63 _ (a.1.2.1, a.2.2.1) fun t1 => (g63 _ (a.1.2.2, a.2.2.2) fun t2 => (g60 _ ((!(a.1.1 == a.2.1)), t1, t2) fun t3 => K (t3.1, t3.2.1, t3.2.2)))) := by kernel_rfl
theorem rf_Product.sh : Shown Tryd.prog 69 (more kQ (one kQ)).enc kQ rf_Product.c := exec_shown rf_Product.tok mixed Tryd.func69 (by kernel_rfl) (rf_Product.ex0 rf_MulNat.c rf_reduce.c)
theorem rf_Product.ok : FunOk Tryd.prog 69 (mk (more kQ (one kQ)) kQ rf_Product.c) := rf_Product.sh.ok (by kernel_rfl)
noncomputable def rf_Inverse.c (R : Type) (a : Nm) (K : (Nm) → Option R) : Option R :=
  K (a.1, a.2.2, a.2.1)
noncomputable def rf_Inverse.T : List (Nat × Tf) := []
theorem rf_Inverse.tok : TOk Tryd.prog (tt (rf_Inverse.T)) := tt_nil
set_option maxRecDepth 100000 in
theorem rf_Inverse.ex0 (R : Type) (a : Nm) (K : (Nm) → Option R) : execFn' Tryd.prog (tt (rf_Inverse.T)) (lt []) 60 Tryd.f70 R ((one kQ).enc a) (dk kQ K) = K (a.1, a.2.2, a.2.1) := by kernel_rfl
theorem rf_Inverse.sh : Shown Tryd.prog 70 (one kQ).enc kQ rf_Inverse.c := exec_shown rf_Inverse.tok mixed Tryd.func70 (by kernel_rfl) (rf_Inverse.ex0)
theorem rf_Inverse.ok : FunOk Tryd.prog 70 (mk (one kQ) kQ rf_Inverse.c) := rf_Inverse.sh.ok (by kernel_rfl)
noncomputable def rf_Made.c (R : Type) (a : Nm) (K : ((Nm × Int)) → Option R) : Option R :=
  (rf_limbs.c _ a.2.1 fun t1 => (rf_limbs.c _ a.2.2 fun t2 => (if (decide ((t1.length : Int) > (128 : Int))) = false then (if (decide ((t2.length : Int) > (128 : Int))) = true then K ((false, ([] : List Int), ([] : List Int)), (3 : Int)) else K ((a.1, t1, t2), (0 : Int))) else K ((false, ([] : List Int), ([] : List Int)), (3 : Int)))))
noncomputable def rf_Made.T (g108 : CF (List Int) (List Int)) : List (Nat × Tf) := [(108, .pure (mk (one rI) rU g108))]
theorem rf_Made.tok : TOk Tryd.prog (tt (rf_Made.T rf_limbs.c)) := (tt_cons rf_limbs.ok tt_nil)
set_option maxRecDepth 100000 in
theorem rf_Made.ex0 (g108 : CF (List Int) (List Int)) (R : Type) (a : Nm) (K : ((Nm × Int)) → Option R) : execFn' Tryd.prog (tt (rf_Made.T g108)) (lt []) 60 Tryd.f59 R ((one kQ).enc a) (dk kE K) = (g108 _ a.2.1 fun t1 => (g108 _ a.2.2 fun t2 => (if (decide ((t1.length : Int) > (128 : Int))) = false then (if (decide ((t2.length : Int) > (128 : Int))) = true then K ((false, ([] : List Int), ([] : List Int)), (3 : Int)) else K ((a.1, t1, t2), (0 : Int))) else K ((false, ([] : List Int), ([] : List Int)), (3 : Int))))) := by kernel_rfl
theorem rf_Made.sh : Shown Tryd.prog 59 (one kQ).enc kE rf_Made.c := exec_shown rf_Made.tok mixed Tryd.func59 (by kernel_rfl) (rf_Made.ex0 rf_limbs.c)
theorem rf_Made.ok : FunOk Tryd.prog 59 (mk (one kQ) kE rf_Made.c) := rf_Made.sh.ok (by kernel_rfl)
noncomputable def rf_Two43.c (R : Type) (a : Nm × Nm) (K : ((Nm × Int)) → Option R) : Option R :=
  (rf_Fault.c _ (a.1.1, a.1.2.1, a.1.2.2) fun t1 => (if (t1 != (0 : Int)) = true then K ((false, ([] : List Int), ([] : List Int)), t1) else (rf_Fault.c _ (a.2.1, a.2.2.1, a.2.2.2) fun t2 => (if (t2 != (0 : Int)) = true then K ((false, ([] : List Int), ([] : List Int)), t2) else (rf_Of.c _ (a.1.1, a.1.2.1, a.1.2.2) fun t3 => (rf_Of.c _ (a.2.1, a.2.2.1, a.2.2.2) fun t4 => (rf_Plus.c _ ((t3.1, t3.2.1, t3.2.2), (t4.1, t4.2.1, t4.2.2)) fun t5 => (rf_Made.c _ (t5.1, t5.2.1, t5.2.2) fun t6 => K ((t6.1.1, t6.1.2.1, t6.1.2.2), t6.2)))))))))
noncomputable def rf_Two43.T (g15 : CF (Nm) (Int)) (g24 : CF (Nm) (Nm)) (g67 : CF (Nm × Nm) (Nm)) (g59 : CF (Nm) ((Nm × Int))) : List (Nat × Tf) := [(15, .pure (mk (one kN) iI g15)), (24, .pure (mk (one kN) kQ g24)), (59, .pure (mk (one kQ) kE g59)), (65, .pure (mk (more cs (one (ci .u8))) iI strings_IndexByte.c)), (67, .pure (mk (more kQ (one kQ)) kQ g67))]
theorem rf_Two43.tok : TOk Tryd.prog (tt (rf_Two43.T rf_Fault.c rf_Of.c rf_Plus.c rf_Made.c)) := (tt_cons rf_Fault.ok (tt_cons rf_Of.ok (tt_cons rf_Made.ok (tt_cons strings_IndexByte.ok (tt_cons rf_Plus.ok tt_nil)))))
set_option maxRecDepth 100000 in
theorem rf_Two43.ex0 (g15 : CF (Nm) (Int)) (g24 : CF (Nm) (Nm)) (g67 : CF (Nm × Nm) (Nm)) (g59 : CF (Nm) ((Nm × Int))) (R : Type) (a : Nm × Nm) (K : ((Nm × Int)) → Option R) : execFn' Tryd.prog (tt (rf_Two43.T g15 g24 g67 g59)) (lt []) 60 Tryd.f26 R [.int .u8 (43 : Int), .agg [.bool a.1.1, .row .u32 a.1.2.1, .row .u32 a.1.2.2], .agg [.bool a.2.1, .row .u32 a.2.2.1, .row .u32 a.2.2.2]] (dk kE K) = (g15 _ (a.1.1, a.1.2.1, a.1.2.2) fun t1 => (if (t1 != (0 : Int)) = true then K ((false, ([] : List Int), ([] : List Int)), t1) else (g15 _ (a.2.1, a.2.2.1, a.2.2.2) fun t2 => (if (t2 != (0 : Int)) = true then K ((false, ([] : List Int), ([] : List Int)), t2) else (g24 _ (a.1.1, a.1.2.1, a.1.2.2) fun t3 => (g24 _ (a.2.1, a.2.2.1, a.2.2.2) fun t4 => (g67 _ ((t3.1, t3.2.1, t3.2.2), (t4.1, t4.2.1, t4.2.2)) fun t5 => (g59 _ (t5.1, t5.2.1, t5.2.2) fun t6 => K ((t6.1.1, t6.1.2.1, t6.1.2.2), t6.2))))))))) := by kernel_rfl
theorem rf_Two43.sh : Shown Tryd.prog 26 (fun (a : Nm × Nm) => [.int .u8 (43 : Int), .agg [.bool a.1.1, .row .u32 a.1.2.1, .row .u32 a.1.2.2], .agg [.bool a.2.1, .row .u32 a.2.2.1, .row .u32 a.2.2.2]]) kE rf_Two43.c := exec_shown rf_Two43.tok mixed Tryd.func26 (by kernel_rfl) (rf_Two43.ex0 rf_Fault.c rf_Of.c rf_Plus.c rf_Made.c)
noncomputable def rf_Two45.c (R : Type) (a : Nm × Nm) (K : ((Nm × Int)) → Option R) : Option R :=
  (rf_Fault.c _ (a.1.1, a.1.2.1, a.1.2.2) fun t1 => (if (t1 != (0 : Int)) = true then K ((false, ([] : List Int), ([] : List Int)), t1) else (rf_Fault.c _ (a.2.1, a.2.2.1, a.2.2.2) fun t2 => (if (t2 != (0 : Int)) = true then K ((false, ([] : List Int), ([] : List Int)), t2) else (rf_Of.c _ (a.1.1, a.1.2.1, a.1.2.2) fun t3 => (rf_Of.c _ (a.2.1, a.2.2.1, a.2.2.2) fun t4 => (rf_Minus.c _ (t4.1, t4.2.1, t4.2.2) fun t5 => (rf_Plus.c _ ((t3.1, t3.2.1, t3.2.2), (t5.1, t5.2.1, t5.2.2)) fun t6 => (rf_Made.c _ (t6.1, t6.2.1, t6.2.2) fun t7 => K ((t7.1.1, t7.1.2.1, t7.1.2.2), t7.2))))))))))
noncomputable def rf_Two45.T (g15 : CF (Nm) (Int)) (g24 : CF (Nm) (Nm)) (g68 : CF (Nm) (Nm)) (g67 : CF (Nm × Nm) (Nm)) (g59 : CF (Nm) ((Nm × Int))) : List (Nat × Tf) := [(15, .pure (mk (one kN) iI g15)), (24, .pure (mk (one kN) kQ g24)), (59, .pure (mk (one kQ) kE g59)), (65, .pure (mk (more cs (one (ci .u8))) iI strings_IndexByte.c)), (67, .pure (mk (more kQ (one kQ)) kQ g67)), (68, .pure (mk (one kQ) kQ g68))]
theorem rf_Two45.tok : TOk Tryd.prog (tt (rf_Two45.T rf_Fault.c rf_Of.c rf_Minus.c rf_Plus.c rf_Made.c)) := (tt_cons rf_Fault.ok (tt_cons rf_Of.ok (tt_cons rf_Made.ok (tt_cons strings_IndexByte.ok (tt_cons rf_Plus.ok (tt_cons rf_Minus.ok tt_nil))))))
set_option maxRecDepth 100000 in
theorem rf_Two45.ex0 (g15 : CF (Nm) (Int)) (g24 : CF (Nm) (Nm)) (g68 : CF (Nm) (Nm)) (g67 : CF (Nm × Nm) (Nm)) (g59 : CF (Nm) ((Nm × Int))) (R : Type) (a : Nm × Nm) (K : ((Nm × Int)) → Option R) : execFn' Tryd.prog (tt (rf_Two45.T g15 g24 g68 g67 g59)) (lt []) 60 Tryd.f26 R [.int .u8 (45 : Int), .agg [.bool a.1.1, .row .u32 a.1.2.1, .row .u32 a.1.2.2], .agg [.bool a.2.1, .row .u32 a.2.2.1, .row .u32 a.2.2.2]] (dk kE K) = (g15 _ (a.1.1, a.1.2.1, a.1.2.2) fun t1 => (if (t1 != (0 : Int)) = true then K ((false, ([] : List Int), ([] : List Int)), t1) else (g15 _ (a.2.1, a.2.2.1, a.2.2.2) fun t2 => (if (t2 != (0 : Int)) = true then K ((false, ([] : List Int), ([] : List Int)), t2) else (g24 _ (a.1.1, a.1.2.1, a.1.2.2) fun t3 => (g24 _ (a.2.1, a.2.2.1, a.2.2.2) fun t4 => (g68 _ (t4.1, t4.2.1, t4.2.2) fun t5 => (g67 _ ((t3.1, t3.2.1, t3.2.2), (t5.1, t5.2.1, t5.2.2)) fun t6 => (g59 _ (t6.1, t6.2.1, t6.2.2) fun t7 => K ((t7.1.1, t7.1.2.1, t7.1.2.2), t7.2)))))))))) := by kernel_rfl
theorem rf_Two45.sh : Shown Tryd.prog 26 (fun (a : Nm × Nm) => [.int .u8 (45 : Int), .agg [.bool a.1.1, .row .u32 a.1.2.1, .row .u32 a.1.2.2], .agg [.bool a.2.1, .row .u32 a.2.2.1, .row .u32 a.2.2.2]]) kE rf_Two45.c := exec_shown rf_Two45.tok mixed Tryd.func26 (by kernel_rfl) (rf_Two45.ex0 rf_Fault.c rf_Of.c rf_Minus.c rf_Plus.c rf_Made.c)
noncomputable def rf_Two42.c (R : Type) (a : Nm × Nm) (K : ((Nm × Int)) → Option R) : Option R :=
  (rf_Fault.c _ (a.1.1, a.1.2.1, a.1.2.2) fun t1 => (if (t1 != (0 : Int)) = true then K ((false, ([] : List Int), ([] : List Int)), t1) else (rf_Fault.c _ (a.2.1, a.2.2.1, a.2.2.2) fun t2 => (if (t2 != (0 : Int)) = true then K ((false, ([] : List Int), ([] : List Int)), t2) else (rf_Of.c _ (a.1.1, a.1.2.1, a.1.2.2) fun t3 => (rf_Of.c _ (a.2.1, a.2.2.1, a.2.2.2) fun t4 => (rf_Product.c _ ((t3.1, t3.2.1, t3.2.2), (t4.1, t4.2.1, t4.2.2)) fun t5 => (rf_Made.c _ (t5.1, t5.2.1, t5.2.2) fun t6 => K ((t6.1.1, t6.1.2.1, t6.1.2.2), t6.2)))))))))
noncomputable def rf_Two42.T (g15 : CF (Nm) (Int)) (g24 : CF (Nm) (Nm)) (g69 : CF (Nm × Nm) (Nm)) (g59 : CF (Nm) ((Nm × Int))) : List (Nat × Tf) := [(15, .pure (mk (one kN) iI g15)), (24, .pure (mk (one kN) kQ g24)), (59, .pure (mk (one kQ) kE g59)), (65, .pure (mk (more cs (one (ci .u8))) iI strings_IndexByte.c)), (69, .pure (mk (more kQ (one kQ)) kQ g69))]
theorem rf_Two42.tok : TOk Tryd.prog (tt (rf_Two42.T rf_Fault.c rf_Of.c rf_Product.c rf_Made.c)) := (tt_cons rf_Fault.ok (tt_cons rf_Of.ok (tt_cons rf_Made.ok (tt_cons strings_IndexByte.ok (tt_cons rf_Product.ok tt_nil)))))
set_option maxRecDepth 100000 in
theorem rf_Two42.ex0 (g15 : CF (Nm) (Int)) (g24 : CF (Nm) (Nm)) (g69 : CF (Nm × Nm) (Nm)) (g59 : CF (Nm) ((Nm × Int))) (R : Type) (a : Nm × Nm) (K : ((Nm × Int)) → Option R) : execFn' Tryd.prog (tt (rf_Two42.T g15 g24 g69 g59)) (lt []) 60 Tryd.f26 R [.int .u8 (42 : Int), .agg [.bool a.1.1, .row .u32 a.1.2.1, .row .u32 a.1.2.2], .agg [.bool a.2.1, .row .u32 a.2.2.1, .row .u32 a.2.2.2]] (dk kE K) = (g15 _ (a.1.1, a.1.2.1, a.1.2.2) fun t1 => (if (t1 != (0 : Int)) = true then K ((false, ([] : List Int), ([] : List Int)), t1) else (g15 _ (a.2.1, a.2.2.1, a.2.2.2) fun t2 => (if (t2 != (0 : Int)) = true then K ((false, ([] : List Int), ([] : List Int)), t2) else (g24 _ (a.1.1, a.1.2.1, a.1.2.2) fun t3 => (g24 _ (a.2.1, a.2.2.1, a.2.2.2) fun t4 => (g69 _ ((t3.1, t3.2.1, t3.2.2), (t4.1, t4.2.1, t4.2.2)) fun t5 => (g59 _ (t5.1, t5.2.1, t5.2.2) fun t6 => K ((t6.1.1, t6.1.2.1, t6.1.2.2), t6.2))))))))) := by kernel_rfl
theorem rf_Two42.sh : Shown Tryd.prog 26 (fun (a : Nm × Nm) => [.int .u8 (42 : Int), .agg [.bool a.1.1, .row .u32 a.1.2.1, .row .u32 a.1.2.2], .agg [.bool a.2.1, .row .u32 a.2.2.1, .row .u32 a.2.2.2]]) kE rf_Two42.c := exec_shown rf_Two42.tok mixed Tryd.func26 (by kernel_rfl) (rf_Two42.ex0 rf_Fault.c rf_Of.c rf_Product.c rf_Made.c)
noncomputable def rf_Two47.c (R : Type) (a : Nm × Nm) (K : ((Nm × Int)) → Option R) : Option R :=
  (rf_Fault.c _ (a.1.1, a.1.2.1, a.1.2.2) fun t1 => (if (t1 != (0 : Int)) = true then K ((false, ([] : List Int), ([] : List Int)), t1) else (rf_Fault.c _ (a.2.1, a.2.2.1, a.2.2.2) fun t2 => (if (t2 != (0 : Int)) = true then K ((false, ([] : List Int), ([] : List Int)), t2) else (rf_Of.c _ (a.1.1, a.1.2.1, a.1.2.2) fun t3 => (rf_Of.c _ (a.2.1, a.2.2.1, a.2.2.2) fun t4 => (if ((t4.2.1.length : Int) == (0 : Int)) = false then (rf_Inverse.c _ (t4.1, t4.2.1, t4.2.2) fun t5 => (rf_Product.c _ ((t3.1, t3.2.1, t3.2.2), (t5.1, t5.2.1, t5.2.2)) fun t6 => (rf_Made.c _ (t6.1, t6.2.1, t6.2.2) fun t7 => K ((t7.1.1, t7.1.2.1, t7.1.2.2), t7.2)))) else K ((false, ([] : List Int), ([] : List Int)), (10 : Int)))))))))
noncomputable def rf_Two47.T (g15 : CF (Nm) (Int)) (g24 : CF (Nm) (Nm)) (g70 : CF (Nm) (Nm)) (g69 : CF (Nm × Nm) (Nm)) (g59 : CF (Nm) ((Nm × Int))) : List (Nat × Tf) := [(15, .pure (mk (one kN) iI g15)), (24, .pure (mk (one kN) kQ g24)), (59, .pure (mk (one kQ) kE g59)), (65, .pure (mk (more cs (one (ci .u8))) iI strings_IndexByte.c)), (69, .pure (mk (more kQ (one kQ)) kQ g69)), (70, .pure (mk (one kQ) kQ g70))]
theorem rf_Two47.tok : TOk Tryd.prog (tt (rf_Two47.T rf_Fault.c rf_Of.c rf_Inverse.c rf_Product.c rf_Made.c)) := (tt_cons rf_Fault.ok (tt_cons rf_Of.ok (tt_cons rf_Made.ok (tt_cons strings_IndexByte.ok (tt_cons rf_Product.ok (tt_cons rf_Inverse.ok tt_nil))))))
set_option maxRecDepth 100000 in
theorem rf_Two47.ex0 (g15 : CF (Nm) (Int)) (g24 : CF (Nm) (Nm)) (g70 : CF (Nm) (Nm)) (g69 : CF (Nm × Nm) (Nm)) (g59 : CF (Nm) ((Nm × Int))) (R : Type) (a : Nm × Nm) (K : ((Nm × Int)) → Option R) : execFn' Tryd.prog (tt (rf_Two47.T g15 g24 g70 g69 g59)) (lt []) 60 Tryd.f26 R [.int .u8 (47 : Int), .agg [.bool a.1.1, .row .u32 a.1.2.1, .row .u32 a.1.2.2], .agg [.bool a.2.1, .row .u32 a.2.2.1, .row .u32 a.2.2.2]] (dk kE K) = (g15 _ (a.1.1, a.1.2.1, a.1.2.2) fun t1 => (if (t1 != (0 : Int)) = true then K ((false, ([] : List Int), ([] : List Int)), t1) else (g15 _ (a.2.1, a.2.2.1, a.2.2.2) fun t2 => (if (t2 != (0 : Int)) = true then K ((false, ([] : List Int), ([] : List Int)), t2) else (g24 _ (a.1.1, a.1.2.1, a.1.2.2) fun t3 => (g24 _ (a.2.1, a.2.2.1, a.2.2.2) fun t4 => (if ((t4.2.1.length : Int) == (0 : Int)) = false then (g70 _ (t4.1, t4.2.1, t4.2.2) fun t5 => (g69 _ ((t3.1, t3.2.1, t3.2.2), (t5.1, t5.2.1, t5.2.2)) fun t6 => (g59 _ (t6.1, t6.2.1, t6.2.2) fun t7 => K ((t7.1.1, t7.1.2.1, t7.1.2.2), t7.2)))) else K ((false, ([] : List Int), ([] : List Int)), (10 : Int))))))))) := by kernel_rfl
theorem rf_Two47.sh : Shown Tryd.prog 26 (fun (a : Nm × Nm) => [.int .u8 (47 : Int), .agg [.bool a.1.1, .row .u32 a.1.2.1, .row .u32 a.1.2.2], .agg [.bool a.2.1, .row .u32 a.2.2.1, .row .u32 a.2.2.2]]) kE rf_Two47.c := exec_shown rf_Two47.tok mixed Tryd.func26 (by kernel_rfl) (rf_Two47.ex0 rf_Fault.c rf_Of.c rf_Inverse.c rf_Product.c rf_Made.c)
noncomputable def lw_same.c (R : Type) (a : Nm × Nm) (K : (Bool) → Option R) : Option R :=
  (if (a.1.1 == a.2.1) = true then (lw_sameLimbs.c _ (a.1.2.1, a.2.2.1) fun t1 => (if t1 = true then (lw_sameLimbs.c _ (a.1.2.2, a.2.2.2) fun t2 => K t2) else K false)) else K false)
noncomputable def lw_same.T (g55 : CF (List Int × List Int) (Bool)) : List (Nat × Tf) := [(55, .pure (mk (more rU (one rU)) cb g55))]
theorem lw_same.tok : TOk Tryd.prog (tt (lw_same.T lw_sameLimbs.c)) := (tt_cons lw_sameLimbs.ok tt_nil)
set_option maxRecDepth 100000 in
theorem lw_same.ex0 (g55 : CF (List Int × List Int) (Bool)) (R : Type) (a : Nm × Nm) (K : (Bool) → Option R) : execFn' Tryd.prog (tt (lw_same.T g55)) (lt []) 60 Tryd.f20 R ((more kN (one kN)).enc a) (dk cb K) = (if (a.1.1 == a.2.1) = true then (g55 _ (a.1.2.1, a.2.2.1) fun t1 => (if t1 = true then (g55 _ (a.1.2.2, a.2.2.2) fun t2 => K t2) else K false)) else K false) := by kernel_rfl
theorem lw_same.sh : Shown Tryd.prog 20 (more kN (one kN)).enc cb lw_same.c := exec_shown lw_same.tok mixed Tryd.func20 (by kernel_rfl) (lw_same.ex0 lw_sameLimbs.c)
theorem lw_same.ok : FunOk Tryd.prog 20 (mk (more kN (one kN)) cb lw_same.c) := lw_same.sh.ok (by kernel_rfl)
noncomputable def rf_Two.c (R : Type) (a : Int × Nm × Nm) (K : ((Nm × Int)) → Option R) : Option R := if a.1 = 43 then rf_Two43.c R a.2 K else if a.1 = 45 then rf_Two45.c R a.2 K else if a.1 = 42 then rf_Two42.c R a.2 K else if a.1 = 47 then rf_Two47.c R a.2 K else none
theorem rf_Two.ok : FunOk Tryd.prog 26 (mk (more (ci .u8) (more kN (one kN))) kE rf_Two.c) := by
  refine mk_ok (by kernel_rfl) (fun R a K => ?_) (fun a b h => ?_)
  · unfold rf_Two.c
    by_cases h : a.1 = 43
    · rw [if_pos h, if_pos h]; exact rf_Two43.sh.1 R a.2 K
    rw [if_neg h, if_neg h]; clear h
    by_cases h : a.1 = 45
    · rw [if_pos h, if_pos h]; exact rf_Two45.sh.1 R a.2 K
    rw [if_neg h, if_neg h]; clear h
    by_cases h : a.1 = 42
    · rw [if_pos h, if_pos h]; exact rf_Two42.sh.1 R a.2 K
    rw [if_neg h, if_neg h]; clear h
    by_cases h : a.1 = 47
    · rw [if_pos h, if_pos h]; exact rf_Two47.sh.1 R a.2 K
    rw [if_neg h, if_neg h]; clear h
    rfl
  · obtain ⟨op, a⟩ := a
    unfold rf_Two.c at h
    by_cases c : op = 43
    · subst c; rw [if_pos rfl] at h; exact rf_Two43.sh.2 a b h
    rw [if_neg c] at h; clear c
    by_cases c : op = 45
    · subst c; rw [if_pos rfl] at h; exact rf_Two45.sh.2 a b h
    rw [if_neg c] at h; clear c
    by_cases c : op = 42
    · subst c; rw [if_pos rfl] at h; exact rf_Two42.sh.2 a b h
    rw [if_neg c] at h; clear c
    by_cases c : op = 47
    · subst c; rw [if_pos rfl] at h; exact rf_Two47.sh.2 a b h
    rw [if_neg c] at h; clear c
    cases h
end Go.Proofs.YtemnjgkicndmjaaDoor.Q
namespace Go.Proofs.YtemnjgkicndmjaaDoor.Q
open Go.RowKit Go.Proofs.YtemnjgkicndmjaaDoorW.PrintWords Go.Proofs.YtemnjgkicndmjaaDoorW.PrintLast Go.Proofs.YtemnjgkicndmjaaDoorW.PrintMore
attribute [local go_sem] max2_int min2_int max_two min_two max_three min_three max_four min_four
set_option linter.unusedVariables false
set_option linter.unusedSimpArgs false
mutual
def nat_FromDecimal.l0 : Nat → ByteArray → List Int → Option (List Int)
 | 0, _, _ => none
 | k + 1, x0, x3 => if (x0.size : Int) > 0 then (nat_FromDecimal.l1 k x0 x3 (wrap64 ((Int.tmod (wrap64 ((x0.size : Int) - 1)) 9) + 1)) 0 1 (wrap64 ((Int.tmod (wrap64 ((x0.size : Int) - 1)) 9) + 1)) 0) else (some x3)
def nat_FromDecimal.l1 : Nat → ByteArray → List Int → Int → Int → Int → Int → Int → Option (List Int)
 | 0, _, _, _, _, _, _, _ => none
 | k + 1, x0, x3, x4, x5, x6, x16, x17 => if x17 < x16 then (if 0 ≤ x17 then (if x17 < (x0.size : Int) then (nat_FromDecimal.l1 k x0 x3 x4 (IntKind.u64.wrap ((IntKind.u64.wrap (x5 * 10)) + (((bt x0 x17) - 48) % 256))) (IntKind.u64.wrap (x6 * 10)) x16 (wrap64 (x17 + 1))) else (none)) else (none)) else ((nat_Of.f k x6).bind fun t311 => ((nat_Mul.f k x3 t311).bind fun t314 => ((nat_Of.f k x5).bind fun t317 => ((nat_plus.f k t314 t317).bind fun t320 => (if 0 ≤ x4 then (if x4 ≤ (x0.size : Int) then (nat_FromDecimal.l0 k (x0.extract (x4 : Int).toNat x0.size) t320) else (none)) else (none))))))
end
def nat_FromDecimal.f (k : Nat) (a0 : ByteArray) : Option (List Int) := nat_FromDecimal.l0 k a0 ([] : List Int)
theorem nat_FromDecimal.mono_l : ∀ k, (∀ y0 y1, LeO (nat_FromDecimal.l0 k y0 y1) (nat_FromDecimal.l0 (k + 1) y0 y1)) ∧ (∀ y0 y1 y2 y3 y4 y5 y6, LeO (nat_FromDecimal.l1 k y0 y1 y2 y3 y4 y5 y6) (nat_FromDecimal.l1 (k + 1) y0 y1 y2 y3 y4 y5 y6))
 | 0 => ⟨fun _ _ r h => by simp [nat_FromDecimal.l0] at h, fun _ _ _ _ _ _ _ r h => by simp [nat_FromDecimal.l1] at h⟩
 | k + 1 => by
  obtain ⟨ih0, ih1⟩ := nat_FromDecimal.mono_l k
  refine ⟨?_, ?_⟩
  ·intro y0 y1
   unfold nat_FromDecimal.l0
   have m0 := ih0
   have m1 := ih1
   have m2 := @nat_Mul.mono
   have m3 := @nat_Of.mono
   have m4 := @nat_plus.mono
   exact zm
  ·intro y0 y1 y2 y3 y4 y5 y6
   unfold nat_FromDecimal.l1
   have m0 := ih0
   have m1 := ih1
   have m2 := @nat_Mul.mono
   have m3 := @nat_Of.mono
   have m4 := @nat_plus.mono
   exact zm
theorem nat_FromDecimal.mono : ∀ a0 k, LeO (nat_FromDecimal.f k a0) (nat_FromDecimal.f (k + 1) a0) := by
 intro a0 k
 obtain ⟨ih0, ih1⟩ := nat_FromDecimal.mono_l k
 unfold nat_FromDecimal.f
 have m0 := ih0
 have m1 := ih1
 have m2 := @nat_Mul.mono
 have m3 := @nat_Of.mono
 have m4 := @nat_plus.mono
 exact zm
set_option maxHeartbeats 8000000 in
set_option maxRecDepth 100000 in
theorem nat_FromDecimal.calls (k : Nat) (a0 : ByteArray) (r : List Int) (w : World) (h : nat_FromDecimal.f k a0 = some r) :
  Calls Tryd.prog 53 #[.string a0] w fun e w' => ∃ v0_ : Value, e = .returned (v0_) ∧ Kd.V (Kd.int .u32) 55 w' w.heap.size (fun k_ => (w.heap.size ≤ k_)) v0_ r ∧ Below w.heap.size w w' := by
 have HB := am (Below.refl w.heap.size w)
 have H := h
 unfold nat_FromDecimal.f at H
 clear h
 have H' := am H
 clear H
 go_enter Tryd.func53, Tryd.ntmps53
 go_wp2
 go_loopg [0, 3] k (fun kq v0 v3 w' => ∃ (x0_1 : ByteArray) (x3_1 : List Int), v0 = .string x0_1 ∧ Aside0 (nat_FromDecimal.l0 kq x0_1 x3_1 = some r) ∧ Aside0 (kq ≤ k) ∧ Aside0 (Kd.V (Kd.int .u32) 55 w' w.heap.size (fun k_ => (w.heap.size ≤ k_)) v3 x3_1) ∧ Aside0 (Below w.heap.size w w'))
 case atStart => exact ⟨(a0), (([] : List Int)), zq8, H', ⟨Nat.le_refl _⟩, ⟨Kd.V_nil _ _ _ _ _⟩, ⟨zq1⟩⟩
 case round =>
  clear H'
  obtain ⟨x0_1, x3_1, rfl, HA, HK1, HO_3, HB⟩ := hrel
  cases gk with
  | zero => exact absurd HA.out (by simp [nat_FromDecimal.l0])
  | succ k1 =>
   have H := HA.out
   clear HA
   simp only [nat_FromDecimal.l0] at H
   by_cases c2 : (x0_1.size : Int) > 0
   ·rw [if_pos c2] at H
    have c2b0 : decide (0 < (x0_1.size : Int)) = true := decide_eq_true c2
    have c2b1 : decide (0 < x0_1.size) = true := decide_eq_true (by omega)
    clear c2
    have H' := am H
    clear H
    go_wp2
    go_loopg [5, 6, 17] k1 (fun kq v5 v6 v17 w' => ∃ (x5_2 : Int) (x6_2 : Int) (x17_2 : Int), v5 = .int .u64 x5_2 ∧ v6 = .int .u64 x6_2 ∧ v17 = .int .i64 x17_2 ∧ Aside0 (nat_FromDecimal.l1 kq x0_1 x3_1 (wrap64 ((Int.tmod (wrap64 ((x0_1.size : Int) - 1)) 9) + 1)) x5_2 x6_2 (wrap64 ((Int.tmod (wrap64 ((x0_1.size : Int) - 1)) 9) + 1)) x17_2 = some r) ∧ Aside0 (kq ≤ k1) ∧ Aside0 (Kd.V (Kd.int .u32) 55 w' w.heap.size (fun k_ => (w.heap.size ≤ k_)) u3 x3_1) ∧ Aside0 (Below w.heap.size w w'))
    case atStart => exact ⟨(0), (1), (0), zq8, zq8, zq8, H', ⟨Nat.le_refl _⟩, ⟨zq3 HO_3.out⟩, ⟨zq1⟩⟩
    case round =>
     clear H'
     obtain ⟨x5_2, x6_2, x17_2, rfl, rfl, rfl, HA, HK2, HO_3, HB⟩ := hrel
     cases gk with
     | zero => exact absurd HA.out (by simp [nat_FromDecimal.l1])
     | succ k2 =>
      have H := HA.out
      clear HA
      simp only [nat_FromDecimal.l1] at H
      by_cases c3 : x17_2 < (wrap64 ((Int.tmod (wrap64 ((x0_1.size : Int) - 1)) 9) + 1))
      ·rw [if_pos c3] at H
       have c3b0 := decide_eq_true c3
       clear c3
       replace H := zn H
       obtain ⟨c4, H⟩ := H
       have c4b0 := decide_eq_true c4
       clear c4
       replace H := zn H
       obtain ⟨c5, H⟩ := H
       have c5b0 := decide_eq_true c5
       clear c5
       have H' := am H
       clear H
       have p6 : 0 ≤ (x17_2 : Int) := zq6
       have q6 : x17_2 < (x0_1.size : Int) := zq6
       have hx6 := bt_at x0_1 x17_2
       replace p6 := eq_true p6
       replace q6 := eq_true q6
       go_wp2
       go_roundg k2
       case measure => have := HK1.out; have := HK2.out; omega
       case rel => exact ⟨(IntKind.u64.wrap ((IntKind.u64.wrap (x5_2 * 10)) + (((bt x0_1 x17_2) - 48) % 256))), (IntKind.u64.wrap (x6_2 * 10)), (wrap64 (x17_2 + 1)), zq8, zq8, zq8, H', ⟨by have := HK1.out; have := HK2.out; omega⟩, ⟨zq3 HO_3.out⟩, ⟨zq1⟩⟩
      ·rw [if_neg c3] at H
       have c3b0 := decide_eq_false c3
       clear c3
       replace H := zj H
       obtain ⟨t311, A7, H⟩ := H
       replace H := zj H
       obtain ⟨t314, A8, H⟩ := H
       replace H := zj H
       obtain ⟨t317, A9, H⟩ := H
       replace H := zj H
       obtain ⟨t320, A10, H⟩ := H
       obtain ⟨ji11, hji11⟩ : ∃ j_ : Int, (wrap64 ((Int.tmod (wrap64 ((x0_1.size : Int) - 1)) 9) + 1)) = j_ := ⟨_, rfl⟩
       replace H : (if 0 ≤ (ji11) then (if (ji11) ≤ (x0_1.size : Int) then (nat_FromDecimal.l0 k2 (x0_1.extract ((ji11) : Int).toNat x0_1.size) t320) else (none)) else (none)) = some r := by first | (rw [hji11] at H; exact H) | (simp only [hji11] at H ⊢; exact H)
       (try rw [hji11] at c3b0)
       (try rw [hji11] at A7)
       (try rw [hji11] at A8)
       (try rw [hji11] at A9)
       (try rw [hji11] at A10)
       have hji11w : (IntKind.i64.wrap ((Int.tmod (wrap64 ((x0_1.size : Int) - 1)) 9) + 1)) = ji11 := (i64_w _).trans hji11
       replace H := zn H
       obtain ⟨c12, H⟩ := H
       have c12b0 := eq_true c12
       have c12b1 := decide_eq_true c12
       clear c12
       replace H := zn H
       obtain ⟨c13, H⟩ := H
       have c13b0 := eq_true c13
       have c13b1 := decide_eq_true c13
       clear c13
       have H' := am H
       clear H
       go_wp2_with (first | ((with_reducible refine gate_callee (f := 79) rfl ?_); refine goesL_ (some 33) rfl rfl Tryd.func79 (by kernel_rfl) rfl #[.int .u64 x6_2] rfl zq5 ?_; (with_reducible refine (nat_Of.calls k2 x6_2 t311 _ A7.out).mono ?_); rintro e w14 ⟨v312, rfl, ho0, hb⟩; refine ⟨_, rfl, ?_⟩; refine zt3 (vb HO_3 hb) (Kd.V_lower (Kd.V_mono (ok' := fun k_ => (w.heap.size ≤ k_)) ho0 (fun k_ hk_ => (Nat.le_trans (below_size zq1) hk_))) (below_size zq1)) (below_step zq1 hb) ?_; clear HO_3 HB; intro HO_3 HO313 HB; obtain ⟨Ao15, co15, eo15⟩ := Kd.V_slice HO_3.out; subst eo15; obtain ⟨Ao16, co16, eo16⟩ := Kd.V_slice HO313.out; subst eo16) | ((with_reducible refine gate_callee (f := 77) rfl ?_); refine goesL_ (some 34) rfl rfl Tryd.func77 (by kernel_rfl) rfl #[.slice Ao15 x3_1.length co15, .slice Ao16 t311.length co16] rfl zq5 ?_; (with_reducible refine (nat_Mul.calls k2 _ _ x3_1 _ _ t311 t314 _ ?side1 ?side2 ?side3 ?side4 A8.out).mono ?_); (case side1 => exact zc ((Kd.V_reads' HO_3.out).2.2)); (case side2 => exact (Kd.V_reads' HO_3.out).2.1); (case side3 => exact zc ((Kd.V_reads' HO313.out).2.2)); (case side4 => exact (Kd.V_reads' HO313.out).2.1); rintro e w17 ⟨v315, rfl, ho0, hb⟩; refine ⟨_, rfl, ?_⟩; refine zt4 (vb HO_3 hb) (vb HO313 hb) (Kd.V_lower (Kd.V_mono (ok' := fun k_ => (w.heap.size ≤ k_)) ho0 (fun k_ hk_ => (Nat.le_trans (below_size zq1) hk_))) (below_size zq1)) (below_step zq1 hb) ?_; clear HO_3 HO313 HB; intro HO_3 HO313 HO316 HB) | ((with_reducible refine gate_callee (f := 79) rfl ?_); refine goesL_ (some 36) rfl rfl Tryd.func79 (by kernel_rfl) rfl #[.int .u64 x5_2] rfl zq5 ?_; (with_reducible refine (nat_Of.calls k2 x5_2 t317 _ A9.out).mono ?_); rintro e w18 ⟨v318, rfl, ho0, hb⟩; refine ⟨_, rfl, ?_⟩; refine zt5 (vb HO_3 hb) (vb HO313 hb) (vb HO316 hb) (Kd.V_lower (Kd.V_mono (ok' := fun k_ => (w.heap.size ≤ k_)) ho0 (fun k_ hk_ => (Nat.le_trans (below_size zq1) hk_))) (below_size zq1)) (below_step zq1 hb) ?_; clear HO_3 HO313 HO316 HB; intro HO_3 HO313 HO316 HO319 HB; obtain ⟨Ao19, co19, eo19⟩ := Kd.V_slice HO316.out; subst eo19; obtain ⟨Ao20, co20, eo20⟩ := Kd.V_slice HO319.out; subst eo20) | ((with_reducible refine gate_callee (f := 105) rfl ?_); refine goesL_ (some 37) rfl rfl Tryd.func105 (by kernel_rfl) rfl #[.slice Ao19 t314.length co19, .slice Ao20 t317.length co20] rfl zq5 ?_; (with_reducible refine (nat_plus.calls k2 _ _ t314 _ _ t317 t320 _ ?side1 ?side2 ?side3 ?side4 A10.out).mono ?_); (case side1 => exact zc ((Kd.V_reads' HO316.out).2.2)); (case side2 => exact (Kd.V_reads' HO316.out).2.1); (case side3 => exact zc ((Kd.V_reads' HO319.out).2.2)); (case side4 => exact (Kd.V_reads' HO319.out).2.1); rintro e w21 ⟨v321, rfl, ho0, hb⟩; refine ⟨_, rfl, ?_⟩; refine zt6 (vb HO_3 hb) (vb HO313 hb) (vb HO316 hb) (vb HO319 hb) (Kd.V_lower (Kd.V_mono (ok' := fun k_ => (w.heap.size ≤ k_)) ho0 (fun k_ hk_ => (Nat.le_trans (below_size zq1) hk_))) (below_size zq1)) (below_step zq1 hb) ?_; clear HO_3 HO313 HO316 HO319 HB; intro HO_3 HO313 HO316 HO319 HO322 HB))
       go_roundg k2
       case measure => have := HK1.out; have := HK2.out; omega
       case rel => exact ⟨(x0_1.extract ((ji11) : Int).toNat x0_1.size), (t320), (by first | rfl | (simp; done) | (simp only [← hji11] <;> (first | rfl | simp)) | (simp [*]; done)), (by first | exact H' | (rw [hji11]; exact H')), ⟨by have := HK1.out; have := HK2.out; omega⟩, ⟨zq3 HO322.out⟩, ⟨zq1⟩⟩
   ·rw [if_neg c2] at H
    have c2b0 : decide (0 < (x0_1.size : Int)) = false := decide_eq_false c2
    have c2b1 : decide (0 < x0_1.size) = false := decide_eq_false (by omega)
    clear c2
    obtain rfl := Option.some.inj H
    go_wp2
    go_ret
    exact ⟨_, zq9, zq3 HO_3.out, zq1⟩
mutual
def nat_Decimal.l0 : Nat → List Int → List Int → Option (ByteArray)
 | 0, _, _ => none
 | k + 1, x0, x3 => if (x0.length : Int) > 0 then ((nat_DivSmall.f k x0 1000000000).bind fun bt239 => (if x3.length < 35184372088832 then (nat_Decimal.l0 k bt239.1 (x3 ++ [bt239.2])) else (none))) else (nat_Decimal.l1 k x3 ([] : List Int) (wrap64 ((x3.length : Int) - 1)))
def nat_Decimal.l1 : Nat → List Int → List Int → Int → Option (ByteArray)
 | 0, _, _, _ => none
 | k + 1, x3, x6, x7 => if x7 ≥ 0 then (if 0 ≤ x7 then (if x7 < (x3.length : Int) then (if 9 ≤ 281474976710656 then (nat_Decimal.l2 k x3 x6 x7 (rd x3 x7) (List.replicate 9 0) 8) else (none)) else (none)) else (none)) else (nat_Decimal.l3 k x6 0)
def nat_Decimal.l2 : Nat → List Int → List Int → Int → Int → List Int → Int → Option (ByteArray)
 | 0, _, _, _, _, _, _ => none
 | k + 1, x3, x6, x7, x8, x9, x10 => if x10 ≥ 0 then (if 0 ≤ x10 then (if x10 < (x9.length : Int) then (nat_Decimal.l2 k x3 x6 x7 ((Int.tdiv x8 10) % 4294967296) (x9.set (x10 : Int).toNat (((48 + (Int.tmod x8 10)) % 4294967296) % 256)) (wrap64 (x10 - 1))) else (none)) else (none)) else (if x6.length + x9.length < 140737488355328 then (nat_Decimal.l1 k x3 (x6 ++ x9) (wrap64 (x7 - 1))) else (none))
def nat_Decimal.l3 : Nat → List Int → Int → Option (ByteArray)
 | 0, _, _ => none
 | k + 1, x6, x11 => if 0 ≤ x11 then (if x11 < (x6.length : Int) then (if (rd x6 x11) = 48 then (nat_Decimal.l3 k x6 (wrap64 (x11 + 1))) else (if x11 ≤ (x6.length : Int) then (some (strOfNums (x6.drop (x11 : Int).toNat))) else (none))) else (none)) else (none)
end
def nat_Decimal.f (k : Nat) (l0 : List Int) : Option (ByteArray) := if (l0.length : Int) = 0 then (some (⟨#[48]⟩ : ByteArray)) else (nat_Decimal.l0 k l0 ([] : List Int))
theorem nat_Decimal.mono_l : ∀ k, (∀ y0 y1, LeO (nat_Decimal.l0 k y0 y1) (nat_Decimal.l0 (k + 1) y0 y1)) ∧ (∀ y0 y1 y2, LeO (nat_Decimal.l1 k y0 y1 y2) (nat_Decimal.l1 (k + 1) y0 y1 y2)) ∧ (∀ y0 y1 y2 y3 y4 y5, LeO (nat_Decimal.l2 k y0 y1 y2 y3 y4 y5) (nat_Decimal.l2 (k + 1) y0 y1 y2 y3 y4 y5)) ∧ (∀ y0 y1, LeO (nat_Decimal.l3 k y0 y1) (nat_Decimal.l3 (k + 1) y0 y1))
 | 0 => ⟨fun _ _ r h => by simp [nat_Decimal.l0] at h, fun _ _ _ r h => by simp [nat_Decimal.l1] at h, fun _ _ _ _ _ _ r h => by simp [nat_Decimal.l2] at h, fun _ _ r h => by simp [nat_Decimal.l3] at h⟩
 | k + 1 => by
  obtain ⟨ih0, ih1, ih2, ih3⟩ := nat_Decimal.mono_l k
  refine ⟨?_, ?_, ?_, ?_⟩
  ·intro y0 y1
   unfold nat_Decimal.l0
   have m0 := ih0
   have m1 := ih1
   have m2 := ih2
   have m3 := ih3
   have m4 := @nat_DivSmall.mono
   exact zm
  ·intro y0 y1 y2
   unfold nat_Decimal.l1
   have m0 := ih0
   have m1 := ih1
   have m2 := ih2
   have m3 := ih3
   have m4 := @nat_DivSmall.mono
   exact zm
  ·intro y0 y1 y2 y3 y4 y5
   unfold nat_Decimal.l2
   have m0 := ih0
   have m1 := ih1
   have m2 := ih2
   have m3 := ih3
   have m4 := @nat_DivSmall.mono
   exact zm
  ·intro y0 y1
   unfold nat_Decimal.l3
   have m0 := ih0
   have m1 := ih1
   have m2 := ih2
   have m3 := ih3
   have m4 := @nat_DivSmall.mono
   exact zm
theorem nat_Decimal.mono : ∀ a0 k, LeO (nat_Decimal.f k a0) (nat_Decimal.f (k + 1) a0) := by
 intro a0 k
 obtain ⟨ih0, ih1, ih2, ih3⟩ := nat_Decimal.mono_l k
 unfold nat_Decimal.f
 have m0 := ih0
 have m1 := ih1
 have m2 := ih2
 have m3 := ih3
 have m4 := @nat_DivSmall.mono
 exact zm
set_option maxHeartbeats 8000000 in
set_option maxRecDepth 100000 in
theorem nat_Decimal.calls (k : Nat) (P0_ : Nat → Prop) (A0 : Option Addr) (c0 : Nat) (l0 : List Int) (r : ByteArray) (w : World) (hs0 : Kd.V (Kd.int .u32) 55 w w.heap.size (fun k_ => P0_ k_) (.slice A0 l0.length c0) l0) (h : nat_Decimal.f k l0 = some r) :
  Calls Tryd.prog 48 #[.slice A0 l0.length c0] w fun e w' => e = .returned (.string r) ∧ Below w.heap.size w w' := by
 have HO0 := am (show Kd.V (Kd.int .u32) 55 w w.heap.size (fun k_ => (P0_ k_ ∨ w.heap.size ≤ k_)) (.slice A0 l0.length c0) l0 from Kd.V_mono hs0 (fun k_ hk => .inl hk))
 have HB := am (Below.refl w.heap.size w)
 have H := h
 unfold nat_Decimal.f at H
 clear h
 by_cases c2 : (l0.length : Int) = 0
 ·rw [if_pos c2] at H
  have c2b0 : ((l0.length : Int) == 0) = true := beq_iff_eq.mpr c2
  have c2b1 : ((l0.length : Int) != 0) = false := bne_eq_false_iff_eq.mpr c2
  clear c2
  obtain rfl := Option.some.inj H
  go_enter Tryd.func48, Tryd.ntmps48
  go_wp2
  go_ret
  exact ⟨zq9, zq1⟩
 ·rw [if_neg c2] at H
  have c2b0 : ((l0.length : Int) == 0) = false := beq_eq_false_iff_ne.mpr c2
  have c2b1 : ((l0.length : Int) != 0) = true := bne_iff_ne.mpr c2
  have c2b2 : ¬ (l0 = []) := fun h_ => c2 (by rw [h_]; rfl)
  have H' := am H
  clear H
  go_enter Tryd.func48, Tryd.ntmps48
  go_wp2
  go_loopg [0, 3] k (fun kq v0 v3 w' => ∃ (x0_1 : List Int) (x3_1 : List Int), Aside0 (nat_Decimal.l0 kq x0_1 x3_1 = some r) ∧ Aside0 (kq ≤ k) ∧ Aside0 (Kd.V (Kd.int .u32) 55 w' w.heap.size (fun k_ => (P0_ k_ ∨ w.heap.size ≤ k_) ∧ some k_ ≠ (v3 : Value).ownBlock) v0 x0_1) ∧ Aside0 (Kd.R (Kd.int .u32) 55 w' w.heap.size (fun k_ => (w.heap.size ≤ k_)) v3 x3_1) ∧ Aside0 (Below w.heap.size w w'))
  case atStart => exact ⟨(l0), (([] : List Int)), H', ⟨Nat.le_refl _⟩, ⟨zwV (h := by exact Kd.V_mono HO0.out (fun _ hk => ⟨hk, (by simp [Value.ownBlock])⟩))⟩, ⟨by first | exact Kd.R_nil _ _ _ _ _ | exact Kd.N_nil _ _ _ _ _ | exact Kd.V_nil _ _ _ _ _ | exact Kd.Q_nil _ _ _ _ _ | exact Kd.S_nil _ _ _ _ _⟩, ⟨zq1⟩⟩
  case round =>
   clear H'
   obtain ⟨x0_1, x3_1, HA, HK1, HO_0, HO_3, HB⟩ := hrel
   cases gk with
   | zero => exact absurd HA.out (by simp [nat_Decimal.l0])
   | succ k1 =>
    have H := HA.out
    clear HA
    simp only [nat_Decimal.l0] at H
    by_cases c3 : (x0_1.length : Int) > 0
    ·rw [if_pos c3] at H
     have c3b0 : decide (0 < (x0_1.length : Int)) = true := decide_eq_true c3
     have c3b1 : decide (0 < x0_1.length) = true := decide_eq_true (by omega)
     clear c3
     replace H := zj H
     obtain ⟨⟨t239, t242⟩, A4, H⟩ := H
     try dsimp only at H
     replace H := zn H
     obtain ⟨c5, H⟩ := H
     have LMc5 := am c5
     clear c5
     obtain ⟨y243, hy243⟩ : ∃ y_ : List Int, y_ = (x3_1 ++ [t242]) := ⟨_, rfl⟩
     try rw [← hy243] at H
     have Ny243 := am hy243
     clear hy243
     have H' := am H
     clear H
     obtain ⟨Ao6, co6, eo6⟩ := Kd.V_slice HO_0.out
     subst eo6
     go_wp2_with (first | ((with_reducible refine gate_callee (f := 100) rfl ?_); refine goesL_ (some 20) rfl rfl Tryd.func100 (by kernel_rfl) rfl #[.slice Ao6 x0_1.length co6, .int .u32 1000000000] rfl zq5 ?_; (with_reducible refine (nat_DivSmall.calls k1 _ _ x0_1 1000000000 t239 t242 _ ?side1 ?side2 A4.out).mono ?_); (case side1 => exact zc ((Kd.V_reads' HO_0.out).2.2)); (case side2 => exact (Kd.V_reads' HO_0.out).2.1); rintro e w7 ⟨v240, rfl, ho0, hb⟩; refine ⟨_, rfl, ?_⟩; refine zt4 (vb HO_0 hb) (rb HO_3 hb) (Kd.V_lower (Kd.V_mono (ok' := fun k_ => (P0_ k_ ∨ w.heap.size ≤ k_) ∧ some k_ ≠ (u3 : Value).ownBlock) ho0 (fun k_ hk_ => ⟨(.inr (Nat.le_trans (below_size zq1) hk_)), (Kd.fresh' (Kd.R_lt (zq4 HO_3.out)) k_ hk_)⟩)) (below_size zq1)) (below_step zq1 hb) ?_; clear HO_0 HO_3 HB; intro HO_0 HO_3 HO241 HB) | ((with_reducible refine gate_builtin (b := .append) (xs := #[.tmp 23, .tmp 25]) rfl ?_); at_builtin; refine Kd.R_append (Kd.int .u32) (w0 := w) w.heap.size rfl (.tmp 23) (.tmp 25) 22 55 (.int .u32 0) 4 rfl Tryd.underlying22 info55 rfl (by decide) (by omega) u3 x3_1 t242 [.int .u32 t242] (fun k_ => (w.heap.size ≤ k_)) (fun _ => False) rfl rfl ?aP (fun _ hk => hk.elim) ?aF ?aO ?aB ?aS ?aL ?_; (case aP => exact rfl); (case aB => exact zq1); (case aF => exact (fun k_ hk => (Nat.le_trans (below_size zq1) hk))); (case aO => exact (zq4 HO_3.out)); (case aS => exact (below_size zq1)); (case aL => have := LMc5.out; omega); intro v244 w8 ho hb hg hat; rw [← Ny243.out] at ho; refine zt4 (Kd.V_afterv (ok := (fun k_ => (P0_ k_ ∨ w.heap.size ≤ k_))) (zq3 HO_0.out) hg hat) (Kd.V_afterv (ok := (fun k_ => (P0_ k_ ∨ w.heap.size ≤ k_))) (zq3 HO241.out) hg hat) (hb) (ho) ?_; clear HO_0 HO241 HB HO_3; intro HO_0 HO241 HB HO245; clear ho hb hg hat))
     go_roundg k1
     case measure => have := HK1.out; omega
     case rel => exact ⟨(t239), (y243), H', ⟨by have := HK1.out; omega⟩, ⟨zq3 HO241.out⟩, ⟨zq4 HO245.out⟩, ⟨zq1⟩⟩
    ·rw [if_neg c3] at H
     have c3b0 : decide (0 < (x0_1.length : Int)) = false := decide_eq_false c3
     have c3b1 : decide (0 < x0_1.length) = false := decide_eq_false (by omega)
     clear c3
     have H' := am H
     clear H
     obtain ⟨Ao9, co9, eo9⟩ := Kd.V_slice HO_0.out
     subst eo9
     obtain ⟨Ao10, co10, eo10⟩ := Kd.R_slice HO_3.out
     subst eo10
     go_wp2
     go_loopg [6, 7] k1 (fun kq v6 v7 w' => ∃ (x6_2 : List Int) (x7_2 : Int), v7 = .int .i64 x7_2 ∧ Aside0 (nat_Decimal.l1 kq x3_1 x6_2 x7_2 = some r) ∧ Aside0 (kq ≤ k1) ∧ Aside0 (Kd.R (Kd.int .u32) 55 w' w.heap.size (fun k_ => (w.heap.size ≤ k_)) (.slice Ao10 x3_1.length co10) x3_1) ∧ Aside0 (Kd.R (Kd.int .u8) 5 w' w.heap.size (fun k_ => (w.heap.size ≤ k_)) v6 x6_2) ∧ Aside0 (Below w.heap.size w w'))
     case atStart => exact ⟨(([] : List Int)), (wrap64 ((x3_1.length : Int) - 1)), zq8, H', ⟨Nat.le_refl _⟩, ⟨zq4 HO_3.out⟩, ⟨by first | exact Kd.R_nil _ _ _ _ _ | exact Kd.N_nil _ _ _ _ _ | exact Kd.V_nil _ _ _ _ _ | exact Kd.Q_nil _ _ _ _ _ | exact Kd.S_nil _ _ _ _ _⟩, ⟨zq1⟩⟩
     case round =>
      clear H'
      obtain ⟨x6_2, x7_2, rfl, HA, HK2, HO_3, HO_6, HB⟩ := hrel
      cases gk with
      | zero => exact absurd HA.out (by simp [nat_Decimal.l1])
      | succ k2 =>
       have H := HA.out
       clear HA
       simp only [nat_Decimal.l1] at H
       by_cases c11 : x7_2 ≥ 0
       ·rw [if_pos c11] at H
        have c11b0 : decide (0 ≤ x7_2) = true := decide_eq_true c11
        clear c11
        replace H := zn H
        obtain ⟨c12, H⟩ := H
        have c12b0 := decide_eq_true c12
        clear c12
        replace H := zn H
        obtain ⟨c13, H⟩ := H
        have c13b0 := decide_eq_true c13
        clear c13
        replace H := zn H
        obtain ⟨c14, H⟩ := H
        have c14b0 := eq_true c14
        have c14b1 := decide_eq_true c14
        clear c14
        obtain ⟨y247, hy247⟩ : ∃ y_ : List Int, y_ = (List.replicate 9 0) := ⟨_, rfl⟩
        try rw [← hy247] at H
        have Ny247 := am hy247
        clear hy247
        have H' := am H
        clear H
        have p246 : 0 ≤ (x7_2 : Int) := zq6
        have q246 : x7_2 < (x3_1.length : Int) := zq6
        obtain ⟨ad246, e246, hx246_0⟩ := Kd.at_int (Kd.R_reads' HO_3.out).2.2 x7_2 p246 q246
        cases e246
        replace p246 := eq_true p246
        replace q246 := eq_true q246
        go_wp2_with (first | ((with_reducible refine gate_dst (N := 39) rfl ?_); refine Kd.R_make (Kd.int .u8) _ 5 rfl (N := 39) rfl 105 _ _ rfl 9 rfl rfl Tryd.underlying105 (.int .u8 0) 1 info5 rfl (by decide) (by omega) 0 (ok := fun _ => True) (okp := fun _ => True) rfl (fun _ hk => hk) trivial (by omega) (by omega) (Below.refl _ _) (Nat.le_refl _) ?_; intro v248 w15 ho16 hb hg_ hnew_; clear hg_ hnew_; (first | rw [← Ny247.out] at ho16 | (simp only [Int.reduceToNat] at ho16; rw [← Ny247.out] at ho16)); refine zt4 (rb HO_3 hb) (Kd.R_elder' (zq4 HO_6.out) (Kd.R_base ho16) hb) (Kd.R_lower (Kd.R_new' (Kd.R_newM (M := fun k_ => (w.heap.size ≤ k_)) ho16 (below_size zq1) (fun k_ h_ => h_)) (Kd.R_lt (zq4 HO_6.out))) (below_size zq1)) (below_step zq1 hb) ?_; clear HO_3 HO_6 HB; intro HO_3 HO_6 HO249 HB; clear hb ho16))
        go_loopg [8, 10] k2 (fun kq v8 v10 w' => ∃ (x8_3 : Int) (x9_3 : List Int) (x10_3 : Int), v8 = .int .u32 x8_3 ∧ v10 = .int .i64 x10_3 ∧ Aside0 (nat_Decimal.l2 kq x3_1 x6_2 x7_2 x8_3 x9_3 x10_3 = some r) ∧ Aside0 (kq ≤ k2) ∧ Aside0 (Kd.R (Kd.int .u32) 55 w' w.heap.size (fun k_ => (w.heap.size ≤ k_)) (.slice (some ad246) x3_1.length co10) x3_1) ∧ Aside0 (Kd.R (Kd.int .u8) 5 w' w.heap.size (fun k_ => (w.heap.size ≤ k_) ∧ some k_ ≠ (v248 : Value).ownBlock) u6 x6_2) ∧ Aside0 (Kd.R (Kd.int .u8) 5 w' w.heap.size (fun k_ => (w.heap.size ≤ k_) ∧ some k_ ≠ (u6 : Value).ownBlock) v248 x9_3) ∧ Aside0 (Below w.heap.size w w'))
        case atStart => exact ⟨(rd x3_1 x7_2), (y247), (8), zq8, zq8, H', ⟨Nat.le_refl _⟩, ⟨zq4 HO_3.out⟩, ⟨zq4 HO_6.out⟩, ⟨zwR (h := by exact Kd.R_mono HO249.out (fun _ hk => ⟨hk.1.1, hk.2⟩))⟩, ⟨zq1⟩⟩
        case round =>
         clear H'
         obtain ⟨x8_3, x9_3, x10_3, rfl, rfl, HA, HK3, HO_3, HO_6, HO_9, HB⟩ := hrel
         cases gk with
         | zero => exact absurd HA.out (by simp [nat_Decimal.l2])
         | succ k3 =>
          have H := HA.out
          clear HA
          simp only [nat_Decimal.l2] at H
          by_cases c17 : x10_3 ≥ 0
          ·rw [if_pos c17] at H
           have c17b0 : decide (0 ≤ x10_3) = true := decide_eq_true c17
           clear c17
           replace H := zn H
           obtain ⟨c18, H⟩ := H
           have c18b0 := decide_eq_true c18
           clear c18
           replace H := zn H
           obtain ⟨c19, H⟩ := H
           have c19b0 := decide_eq_true c19
           clear c19
           obtain ⟨y250, hy250⟩ : ∃ y_ : List Int, y_ = (x9_3.set (x10_3 : Int).toNat (((48 + (Int.tmod x8_3 10)) % 4294967296) % 256)) := ⟨_, rfl⟩
           try rw [← hy250] at H
           have Ny250 := am hy250
           clear hy250
           have H' := am H
           clear H
           have p20 : 0 ≤ (x10_3 : Int) := zq6
           have q20 : (x10_3 : Int) < ((x9_3.length : Int) : Int) := zq6
           obtain ⟨go20, co20, eo20, gb20, gl20, cl20, HG20⟩ := Kd.R_form HO_9.out (by omega)
           (first | cases eo20 | (injection eo20 with ea_ en_ ec_; (first | subst ea_ | (injection ea_ with ea_; subst ea_)); subst ec_; clear en_))
           have GB20 := am gb20
           have GG20 := am HG20
           clear gb20 gl20 HG20
           obtain ⟨hx20_0, hf20_0⟩ := Kd.R_celln 0 HO_9.out (x10_3 : Int) p20 q20
           replace p20 := eq_true p20
           replace q20 := eq_true q20
           have HP21 := Kd.R_putg HO_9.out (x10_3 : Int) (((48 + (Int.tmod x8_3 10)) % 4294967296) % 256)
           go_wp2_with (first | ((with_reducible refine gate_store (t := 5) (p := 50) rfl ?_); refine zstore (t := 5) (p := 50) (w1 := (wr.setCell ⟨go20, (x10_3 : Int).toNat, none⟩ (.int .u8 (((48 + (Int.tmod x8_3 10)) % 4294967296) % 256)))) ?_; intro w22 hw; have hg : wr.grownBy w22 (some go20) := (by rw [hw]; exact HP21.2); have hp_ : Kd.R (Kd.int .u8) 5 w22 w.heap.size (fun k_ => (w.heap.size ≤ k_) ∧ some k_ ≠ (u6 : Value).ownBlock) (.slice (some ⟨go20, 0, none⟩) x9_3.length co20) y250 := (by rw [hw, Ny250.out]; exact HP21.1); clear HP21; refine zt4 (Kd.R_over' (v := (.slice (some ⟨go20, 0, none⟩) x9_3.length co20)) (zq4 HO_3.out) (Kd.R_typed HO_9.out) (by decide) hg) (Kd.R_after (v := (.slice (some ⟨go20, 0, none⟩) x9_3.length co20)) (v1 := (.slice (some ⟨go20, 0, none⟩) x9_3.length co20)) (ok := (fun k_ => (w.heap.size ≤ k_))) (zq4 HO_6.out) hg (.inl rfl)) (hp_) ((by rw [hw]; exact below_set (HB.out) GB20.out : Below w.heap.size w w22)) ?_; clear HO_3 HO_6 HO_9 HB; intro HO_3 HO_6 HO_9 HB; clear hg hw hp_))
           go_roundg k3
           case measure => have := HK1.out; have := HK2.out; have := HK3.out; omega
           case rel => exact ⟨((Int.tdiv x8_3 10) % 4294967296), (y250), (wrap64 (x10_3 - 1)), zq8, zq8, H', ⟨by have := HK1.out; have := HK2.out; have := HK3.out; omega⟩, ⟨zq4 HO_3.out⟩, ⟨zq4 HO_6.out⟩, ⟨zq4 HO_9.out⟩, ⟨zq1⟩⟩
          ·rw [if_neg c17] at H
           have c17b0 : decide (0 ≤ x10_3) = false := decide_eq_false c17
           clear c17
           replace H := zn H
           obtain ⟨c23, H⟩ := H
           have LMc23 := am c23
           clear c23
           obtain ⟨y251, hy251⟩ : ∃ y_ : List Int, y_ = (x6_2 ++ x9_3) := ⟨_, rfl⟩
           try rw [← hy251] at H
           have Ny251 := am hy251
           clear hy251
           have H' := am H
           clear H
           obtain ⟨Ao25, co25, eo25⟩ := Kd.R_slice HO_9.out
           subst eo25
           go_wp2_with (first | ((with_reducible refine gate_builtin (b := .append) (xs := #[.tmp 53, .tmp 54]) rfl ?_); at_builtin; refine Kd.R_append_rows (Kd.int .u8) (w0 := w) w.heap.size rfl (.tmp 53) (.tmp 54) 105 5 (.int .u8 0) 1 rfl Tryd.underlying105 info5 rfl (by decide) (by omega) u6 x6_2 x9_3 _ _ _ (fun k_ => (w.heap.size ≤ k_) ∧ some k_ ≠ (.slice Ao25 x9_3.length co25 : Value).ownBlock) (fun _ => False) rfl rfl ?aO ?aR (fun _ _ h => h) (fun _ h => h.elim) ?aF ?aB ?aS ?aL ?_; (case aR => repeat (first | exact (Kd.R_reads' HO_9.out).2.2 | (with_reducible refine Kd.C_alloc ?_ _) | (with_reducible refine Kd.C_drewN ?_ _) | (with_reducible refine Kd.C_drew ?_))); (case aB => exact zq1); (case aF => exact (fun k_ hk => ⟨(Nat.le_trans (below_size zq1) hk), Kd.fresh' (Kd.R_lt (zq4 HO_9.out)) k_ hk⟩)); (case aO => exact (zq4 HO_6.out)); (case aS => exact (below_size zq1)); (case aL => have := LMc23.out; omega); intro v252 w24 ho hb hg hat; rw [← Ny251.out] at ho; refine zt4 (Kd.R_over' (zq4 HO_3.out) (Kd.R_typed (zq4 HO_6.out)) (by decide) hg) (Kd.R_after (ok := (fun k_ => (w.heap.size ≤ k_))) (zq4 HO_9.out) hg hat) (hb) (ho) ?_; clear HO_3 HO_9 HB HO_6; intro HO_3 HO_9 HB HO253; clear ho hb hg hat))
           go_roundg k3
           case measure => have := HK1.out; have := HK2.out; have := HK3.out; omega
           case rel => exact ⟨(y251), (wrap64 (x7_2 - 1)), zq8, H', ⟨by have := HK1.out; have := HK2.out; have := HK3.out; omega⟩, ⟨zq4 HO_3.out⟩, ⟨zwR (h := by exact Kd.R_mono HO253.out (fun _ hk => hk.1))⟩, ⟨zq1⟩⟩
       ·rw [if_neg c11] at H
        have c11b0 : decide (0 ≤ x7_2) = false := decide_eq_false c11
        clear c11
        have H' := am H
        clear H
        go_wp2
        go_loopg [11] k2 (fun kq v11 w' => ∃ (x11_3 : Int), v11 = .int .i64 x11_3 ∧ Aside0 (nat_Decimal.l3 kq x6_2 x11_3 = some r) ∧ Aside0 (kq ≤ k2) ∧ Aside0 (Kd.R (Kd.int .u8) 5 w' w.heap.size (fun k_ => (w.heap.size ≤ k_)) u6 x6_2) ∧ Aside0 (Below w.heap.size w w'))
        case atStart => exact ⟨(0), zq8, H', ⟨Nat.le_refl _⟩, ⟨zq4 HO_6.out⟩, ⟨zq1⟩⟩
        case round =>
         clear H'
         obtain ⟨x11_3, rfl, HA, HK3, HO_6, HB⟩ := hrel
         cases gk with
         | zero => exact absurd HA.out (by simp [nat_Decimal.l3])
         | succ k3 =>
          have H := HA.out
          clear HA
          simp only [nat_Decimal.l3] at H
          replace H := zn H
          obtain ⟨c26, H⟩ := H
          have c26b0 := decide_eq_true c26
          clear c26
          replace H := zn H
          obtain ⟨c27, H⟩ := H
          have c27b0 := decide_eq_true c27
          clear c27
          by_cases c28 : (rd x6_2 x11_3) = 48
          ·rw [if_pos c28] at H
           have c28b0 : ((rd x6_2 x11_3) == 48) = true := beq_iff_eq.mpr c28
           have c28b1 : ((rd x6_2 x11_3) != 48) = false := bne_eq_false_iff_eq.mpr c28
           clear c28
           have H' := am H
           clear H
           obtain ⟨Ao29, co29, eo29⟩ := Kd.R_slice HO_6.out
           subst eo29
           have p254 : 0 ≤ (x11_3 : Int) := zq6
           have q254 : x11_3 < (x6_2.length : Int) := zq6
           obtain ⟨ad254, e254, hx254_0⟩ := Kd.at_int (Kd.R_reads' HO_6.out).2.2 x11_3 p254 q254
           cases e254
           replace p254 := eq_true p254
           replace q254 := eq_true q254
           go_wp2
           go_roundg k3
           case measure => have := HK1.out; have := HK2.out; have := HK3.out; omega
           case rel => exact ⟨(wrap64 (x11_3 + 1)), zq8, H', ⟨by have := HK1.out; have := HK2.out; have := HK3.out; omega⟩, ⟨zq4 HO_6.out⟩, ⟨zq1⟩⟩
          ·rw [if_neg c28] at H
           have c28b0 : ((rd x6_2 x11_3) == 48) = false := beq_eq_false_iff_ne.mpr c28
           have c28b1 : ((rd x6_2 x11_3) != 48) = true := bne_iff_ne.mpr c28
           have c30b0 := eq_true (zq6 : 0 ≤ x11_3)
           replace H := zn H
           obtain ⟨c31, H⟩ := H
           have c31b0 := eq_true c31
           have c31b1 := decide_eq_true c31
           clear c31
           obtain ⟨y255, hy255⟩ : ∃ y_ : List Int, y_ = (x6_2.drop (x11_3 : Int).toNat) := ⟨_, rfl⟩
           try rw [← hy255] at H
           have Ny255 := am hy255
           clear hy255
           obtain rfl := Option.some.inj H
           obtain ⟨Ao32, co32, eo32⟩ := Kd.R_slice HO_6.out
           subst eo32
           have p254 : 0 ≤ (x11_3 : Int) := zq6
           have q254 : x11_3 < (x6_2.length : Int) := zq6
           obtain ⟨ad254, e254, hx254_0⟩ := Kd.at_int (Kd.R_reads' HO_6.out).2.2 x11_3 p254 q254
           cases e254
           replace p254 := eq_true p254
           replace q254 := eq_true q254
           have q33 : (x11_3 : Int) ≤ ((x6_2.length : Int) : Int) := zq6
           obtain ⟨i033, hi033, _, hsz33, _⟩ := info_parts info5
           have hroom33 : x6_2.length ≤ co32 := (Kd.R_reads' HO_6.out).2.1
           have hC33 : Kd.C (Kd.int .u8) _ (some ad254) x6_2.length x6_2 := (Kd.R_reads' HO_6.out).2.2
           have q033 : (0 : Int) ≤ (x11_3 : Int) := zq6
           have hcut33 := cut_from (P := Tryd.prog) 105 5 .i64 Tryd.underlying105 hi033 1 hsz33 (some ad254) x6_2.length co32 x11_3 q033 q33
           have hr33 := Kd.C_drop (m := (x11_3 : Int).toNat) (c := co32) hC33 (by omega) hroom33
           obtain ⟨A33, hA33⟩ : ∃ A1, A1 = (if co32 = (x11_3 : Int).toNat then (some ad254) else ((some ad254) : Option Addr).map (·.add ((x11_3 : Int).toNat * 1))) := ⟨_, rfl⟩
           obtain ⟨c33, hc33⟩ : ∃ c1, c1 = co32 - (x11_3 : Int).toNat := ⟨_, rfl⟩
           have hy33 : y255.length = x6_2.length - (x11_3 : Int).toNat := (by rw [Ny255.out, List.length_drop] <;> omega)
           rw [show (x6_2).drop (x11_3 : Int).toNat = y255 from Ny255.out.symm] at hr33
           replace hr33 : Kd.C (Kd.int .u8) _ A33 y255.length y255 := (by rw [hA33]; exact hr33)
           rw [← hy33, ← hA33, ← hc33] at hcut33
           have HR258 := am hr33
           have HC258 := am (show y255.length ≤ c33 from by rw [hy33, hc33]; exact Nat.sub_le_sub_right hroom33 _)
           clear hr33 hC33 hroom33 hi033 hsz33 hc33
           have KY33 := am hy33
           have KA33 := am hA33
           clear hy33 hA33
           have KL33 := am (show (x11_3 : Int).toNat ≤ x6_2.length from by omega)
           replace q33 := eq_true q33
           have hcv34 := Kd.C_string (P := Tryd.prog) (A := A33) (c := c33) Tryd.underlying105 Tryd.underlying5 Tryd.underlying9 (by repeat (first | (with_reducible exact HR258.out) | (with_reducible refine Kd.C_alloc ?_ _) | (with_reducible refine Kd.C_drewN ?_ _) | (with_reducible refine Kd.C_drew ?_) | exact HR258.out))
           go_wp2
           go_ret
           exact ⟨zq9, zq1⟩
def stringslite_HasPrefix.f (a0 : ByteArray) (a1 : ByteArray) : Option (Bool) := if (a0.size : Int) ≥ (a1.size : Int) then (if 0 ≤ (a1.size : Int) then (if (a1.size : Int) ≤ (a0.size : Int) then (some ((a0.extract 0 ((a1.size : Int) : Int).toNat).toList == a1.toList)) else (none)) else (none)) else (some false)
set_option maxHeartbeats 8000000 in
set_option maxRecDepth 100000 in
theorem stringslite_HasPrefix.calls (a0 : ByteArray) (a1 : ByteArray) (r : Bool) (w : World) (h : stringslite_HasPrefix.f a0 a1 = some r) :
  Calls Tryd.prog 122 #[.string a0, .string a1] w fun e w' => e = .returned (.bool r) ∧ Drawn0 w w' := by
 have H := h
 unfold stringslite_HasPrefix.f at H
 clear h
 by_cases c3 : (a0.size : Int) ≥ (a1.size : Int)
 ·rw [if_pos c3] at H
  have c3b0 : decide ((a1.size : Int) ≤ (a0.size : Int)) = true := decide_eq_true c3
  have c3b1 : decide (a1.size ≤ a0.size) = true := decide_eq_true (Int.ofNat_le.mp c3)
  clear c3
  replace H := zn H
  obtain ⟨c4, H⟩ := H
  have c4b0 := eq_true c4
  have c4b1 := decide_eq_true c4
  clear c4
  replace H := zn H
  obtain ⟨c5, H⟩ := H
  have c5b0 := eq_true c5
  have c5b1 := decide_eq_true c5
  clear c5
  obtain rfl := Option.some.inj H
  go_enter Tryd.func122, Tryd.ntmps122
  go_wp2
  go_ret
  exact ⟨by first | rfl | (simp; done) | (simp [*]; done), by repeat (first | exact Drawn0.refl _ | apply Drawn0.step)⟩
 ·rw [if_neg c3] at H
  have c3b0 : decide ((a1.size : Int) ≤ (a0.size : Int)) = false := decide_eq_false c3
  have c3b1 : decide (a1.size ≤ a0.size) = false := decide_eq_false (fun h => c3 (Int.ofNat_le.mpr h))
  clear c3
  obtain rfl := Option.some.inj H
  go_enter Tryd.func122, Tryd.ntmps122
  go_wp2
  go_ret
  exact ⟨by first | rfl | (simp; done) | (simp [*]; done), by repeat (first | exact Drawn0.refl _ | apply Drawn0.step)⟩
def stringslite_CutPrefix.f (a0 : ByteArray) (a1 : ByteArray) : Option (ByteArray × Bool) := (stringslite_HasPrefix.f a0 a1).bind fun t264 => (if t264 = true then (if 0 ≤ (a1.size : Int) then (if (a1.size : Int) ≤ (a0.size : Int) then (some (a0.extract ((a1.size : Int) : Int).toNat a0.size, true)) else (none)) else (none)) else (some (a0, false)))
set_option maxHeartbeats 8000000 in
set_option maxRecDepth 100000 in
theorem stringslite_CutPrefix.calls (a0 : ByteArray) (a1 : ByteArray) (r1 : ByteArray) (r2 : Bool) (w : World) (h : stringslite_CutPrefix.f a0 a1 = some (r1, r2)) :
  Calls Tryd.prog 102 #[.string a0, .string a1] w fun e w' => e = .returned (.tuple #[.string r1, .bool r2]) ∧ Drawn0 w w' := by
 have H := h
 unfold stringslite_CutPrefix.f at H
 clear h
 replace H := zj H
 obtain ⟨t264, A3, H⟩ := H
 by_cases c4 : t264 = true
 ·subst c4
  have H1 : (if 0 ≤ (a1.size : Int) then (if (a1.size : Int) ≤ (a0.size : Int) then (some (a0.extract ((a1.size : Int) : Int).toNat a0.size, true)) else (none)) else (none)) = some (r1, r2) := by rw [if_pos rfl] at H; exact H
  clear H
  have H := H1
  clear H1
  replace H := zn H
  obtain ⟨c5, H⟩ := H
  have c5b0 := eq_true c5
  have c5b1 := decide_eq_true c5
  clear c5
  replace H := zn H
  obtain ⟨c6, H⟩ := H
  have c6b0 := eq_true c6
  have c6b1 := decide_eq_true c6
  clear c6
  simp only [Option.some.injEq, Prod.mk.injEq] at H
  obtain ⟨rfl, rfl⟩ := H
  go_enter Tryd.func102, Tryd.ntmps102
  go_wp2_with (first | ((with_reducible refine gate_callee (f := 122) rfl ?_); refine goesL_ (some 8) rfl rfl Tryd.func122 (by kernel_rfl) rfl #[.string a0, .string a1] rfl zq5 ?_; (with_reducible refine (stringslite_HasPrefix.calls a0 a1 true _ A3.out).mono ?_); rintro e w' ⟨rfl, ⟨nd, rfl⟩⟩; refine ⟨_, rfl, ?_⟩))
  go_ret2
  exact ⟨by first | rfl | (simp; done) | (simp [*]; done), by repeat (first | exact Drawn0.refl _ | apply Drawn0.step)⟩
 ·replace c4 := Bool.eq_false_iff.mpr c4
  subst c4
  have H1 : (some (a0, false)) = some (r1, r2) := by rw [if_neg (show ¬ (false = true) by decide)] at H; exact H
  clear H
  have H := H1
  clear H1
  simp only [Option.some.injEq, Prod.mk.injEq] at H
  obtain ⟨rfl, rfl⟩ := H
  go_enter Tryd.func102, Tryd.ntmps102
  go_wp2_with (first | ((with_reducible refine gate_callee (f := 122) rfl ?_); refine goesL_ (some 8) rfl rfl Tryd.func122 (by kernel_rfl) rfl #[.string a0, .string a1] rfl zq5 ?_; (with_reducible refine (stringslite_HasPrefix.calls a0 a1 false _ A3.out).mono ?_); rintro e w' ⟨rfl, ⟨nd, rfl⟩⟩; refine ⟨_, rfl, ?_⟩))
  go_ret2
  exact ⟨by first | rfl | (simp; done) | (simp [*]; done), by repeat (first | exact Drawn0.refl _ | apply Drawn0.step)⟩
def strings_CutPrefix.f (a0 : ByteArray) (a1 : ByteArray) : Option (ByteArray × Bool) := (stringslite_CutPrefix.f a0 a1).bind fun bt265 => (some (bt265.1, bt265.2))
set_option maxHeartbeats 8000000 in
set_option maxRecDepth 100000 in
theorem strings_CutPrefix.calls (a0 : ByteArray) (a1 : ByteArray) (r1 : ByteArray) (r2 : Bool) (w : World) (h : strings_CutPrefix.f a0 a1 = some (r1, r2)) :
  Calls Tryd.prog 50 #[.string a0, .string a1] w fun e w' => e = .returned (.tuple #[.string r1, .bool r2]) ∧ Drawn0 w w' := by
 have H := h
 unfold strings_CutPrefix.f at H
 clear h
 replace H := zj H
 obtain ⟨⟨t265, t266⟩, A3, H⟩ := H
 try dsimp only at H
 simp only [Option.some.injEq, Prod.mk.injEq] at H
 obtain ⟨rfl, rfl⟩ := H
 go_enter Tryd.func50, Tryd.ntmps50
 go_wp2_with (first | ((with_reducible refine gate_callee (f := 102) rfl ?_); refine goesL_ (some 8) rfl rfl Tryd.func102 (by kernel_rfl) rfl #[.string a0, .string a1] rfl zq5 ?_; (with_reducible refine (stringslite_CutPrefix.calls a0 a1 t265 t266 _ A3.out).mono ?_); rintro e w' ⟨rfl, ⟨nd, rfl⟩⟩; refine ⟨_, rfl, ?_⟩))
 go_ret2
 exact ⟨by first | rfl | (simp; done) | (simp [*]; done), by repeat (first | exact Drawn0.refl _ | apply Drawn0.step)⟩
def stringslite_Index.f (a0 : ByteArray) (a1 : ByteArray) : Option (Int) := if a1.size = 1 then some (Lib.indexByte a0.data.toList (bt a1 0).toNat.toUInt8) else none
theorem stringslite_Index.calls (a0 : ByteArray) (a1 : ByteArray) (r : Int) (w : World) (h : stringslite_Index.f a0 a1 = some r) :
  Calls Tryd.prog 123 #[.string a0, .string a1] w fun e w' => e = .returned (.int .i64 r) ∧ Drawn0 w w' := by
 unfold stringslite_Index.f at h
 split at h
 ·rename_i h1
  obtain rfl := Option.some.inj h
  obtain ⟨c, rfl⟩ : ∃ c, a1 = ⟨#[c]⟩ := by
   obtain ⟨⟨l⟩⟩ := a1
   match l, h1 with
   | [c], _ => exact ⟨c, rfl⟩
  have e : (bt ⟨#[c]⟩ 0).toNat.toUInt8 = c := by
   have : bt ⟨#[c]⟩ 0 = (c.toNat : Int) := rfl
   rw [this]; simp
  rw [e]
  exact (Any.stringslite_Index_one Tryd.lays219 a0 c w).mono fun e w' h => ⟨h.1, by rw [h.2]; exact Drawn0.refl w⟩
 ·cases h
def stringslite_Cut.f (a0 : ByteArray) (a1 : ByteArray) : Option (ByteArray × ByteArray × Bool) := (stringslite_Index.f a0 a1).bind fun t269 => (if t269 ≥ 0 then (if 0 ≤ t269 then (if t269 ≤ (a0.size : Int) then (if 0 ≤ (wrap64 (t269 + (a1.size : Int))) then (if (wrap64 (t269 + (a1.size : Int))) ≤ (a0.size : Int) then (some (a0.extract 0 (t269 : Int).toNat, a0.extract ((wrap64 (t269 + (a1.size : Int))) : Int).toNat a0.size, true)) else (none)) else (none)) else (none)) else (none)) else (some (a0, (⟨#[]⟩ : ByteArray), false)))
set_option maxHeartbeats 8000000 in
set_option maxRecDepth 100000 in
theorem stringslite_Cut.calls (a0 : ByteArray) (a1 : ByteArray) (r1 : ByteArray) (r2 : ByteArray) (r3 : Bool) (w : World) (h : stringslite_Cut.f a0 a1 = some (r1, r2, r3)) :
  Calls Tryd.prog 103 #[.string a0, .string a1] w fun e w' => e = .returned (.tuple #[.string r1, .string r2, .bool r3]) ∧ Drawn0 w w' := by
 have H := h
 unfold stringslite_Cut.f at H
 clear h
 replace H := zj H
 obtain ⟨t269, A3, H⟩ := H
 by_cases c4 : t269 ≥ 0
 ·rw [if_pos c4] at H
  have c4b0 : decide (0 ≤ t269) = true := decide_eq_true c4
  clear c4
  replace H := zn H
  obtain ⟨c5, H⟩ := H
  have c5b0 := eq_true c5
  have c5b1 := decide_eq_true c5
  clear c5
  replace H := zn H
  obtain ⟨c6, H⟩ := H
  have c6b0 := eq_true c6
  have c6b1 := decide_eq_true c6
  clear c6
  obtain ⟨ji7, hji7⟩ : ∃ j_ : Int, (wrap64 (t269 + (a1.size : Int))) = j_ := ⟨_, rfl⟩
  replace H : (if 0 ≤ (ji7) then (if (ji7) ≤ (a0.size : Int) then (some (a0.extract 0 (t269 : Int).toNat, a0.extract ((ji7) : Int).toNat a0.size, true)) else (none)) else (none)) = some (r1, r2, r3) := by first | (rw [hji7] at H; exact H) | (simp only [hji7] at H ⊢; exact H)
  (try rw [hji7] at A3)
  have hji7w : (IntKind.i64.wrap (t269 + (a1.size : Int))) = ji7 := (i64_w _).trans hji7
  replace H := zn H
  obtain ⟨c8, H⟩ := H
  have c8b0 := eq_true c8
  have c8b1 := decide_eq_true c8
  clear c8
  replace H := zn H
  obtain ⟨c9, H⟩ := H
  have c9b0 := eq_true c9
  have c9b1 := decide_eq_true c9
  clear c9
  simp only [Option.some.injEq, Prod.mk.injEq] at H
  obtain ⟨rfl, rfl, rfl⟩ := H
  go_enter Tryd.func103, Tryd.ntmps103
  go_wp2_with (first | (go_at_call 123; (with_reducible refine (stringslite_Index.calls a0 a1 t269 _ A3.out).mono ?_); rintro e w' ⟨rfl, ⟨nd, rfl⟩⟩; (try first | exact ⟨rfl, _, World.drewN_drewN _ _ _⟩ | exact ⟨rfl, _, Eq.trans (World.drewN_drewN _ _ _) (congrArg (World.drewN _) (Nat.add_assoc _ _ _))⟩)))
  repeat (go_quiet (first | (go_at_call 123; (with_reducible refine (stringslite_Index.calls a0 a1 t269 _ A3.out).mono ?_); rintro e w' ⟨rfl, ⟨nd, rfl⟩⟩; (try first | exact ⟨rfl, _, World.drewN_drewN _ _ _⟩ | exact ⟨rfl, _, Eq.trans (World.drewN_drewN _ _ _) (congrArg (World.drewN _) (Nat.add_assoc _ _ _))⟩))); try go_wp2_with (first | (go_at_call 123; (with_reducible refine (stringslite_Index.calls a0 a1 t269 _ A3.out).mono ?_); rintro e w' ⟨rfl, ⟨nd, rfl⟩⟩; (try first | exact ⟨rfl, _, World.drewN_drewN _ _ _⟩ | exact ⟨rfl, _, Eq.trans (World.drewN_drewN _ _ _) (congrArg (World.drewN _) (Nat.add_assoc _ _ _))⟩))))
  go_ret3
  exact ⟨by first | rfl | (simp; done) | (simp only [← hji7] <;> (first | rfl | simp)) | (simp [*]; done), by repeat (first | exact Drawn0.refl _ | apply Drawn0.step)⟩
 ·rw [if_neg c4] at H
  have c4b0 : decide (0 ≤ t269) = false := decide_eq_false c4
  clear c4
  simp only [Option.some.injEq, Prod.mk.injEq] at H
  obtain ⟨rfl, rfl, rfl⟩ := H
  go_enter Tryd.func103, Tryd.ntmps103
  go_wp2_with (first | (go_at_call 123; (with_reducible refine (stringslite_Index.calls a0 a1 t269 _ A3.out).mono ?_); rintro e w' ⟨rfl, ⟨nd, rfl⟩⟩; (try first | exact ⟨rfl, _, World.drewN_drewN _ _ _⟩ | exact ⟨rfl, _, Eq.trans (World.drewN_drewN _ _ _) (congrArg (World.drewN _) (Nat.add_assoc _ _ _))⟩)))
  repeat (go_quiet (first | (go_at_call 123; (with_reducible refine (stringslite_Index.calls a0 a1 t269 _ A3.out).mono ?_); rintro e w' ⟨rfl, ⟨nd, rfl⟩⟩; (try first | exact ⟨rfl, _, World.drewN_drewN _ _ _⟩ | exact ⟨rfl, _, Eq.trans (World.drewN_drewN _ _ _) (congrArg (World.drewN _) (Nat.add_assoc _ _ _))⟩))); try go_wp2_with (first | (go_at_call 123; (with_reducible refine (stringslite_Index.calls a0 a1 t269 _ A3.out).mono ?_); rintro e w' ⟨rfl, ⟨nd, rfl⟩⟩; (try first | exact ⟨rfl, _, World.drewN_drewN _ _ _⟩ | exact ⟨rfl, _, Eq.trans (World.drewN_drewN _ _ _) (congrArg (World.drewN _) (Nat.add_assoc _ _ _))⟩))))
  go_ret3
  exact ⟨by first | rfl | (simp; done) | (simp [*]; done), by repeat (first | exact Drawn0.refl _ | apply Drawn0.step)⟩
def strings_Cut.f (a0 : ByteArray) (a1 : ByteArray) : Option (ByteArray × ByteArray × Bool) := (stringslite_Cut.f a0 a1).bind fun bt270 => (some (bt270.1, bt270.2.1, bt270.2.2))
set_option maxHeartbeats 8000000 in
set_option maxRecDepth 100000 in
theorem strings_Cut.calls (a0 : ByteArray) (a1 : ByteArray) (r1 : ByteArray) (r2 : ByteArray) (r3 : Bool) (w : World) (h : strings_Cut.f a0 a1 = some (r1, r2, r3)) :
  Calls Tryd.prog 51 #[.string a0, .string a1] w fun e w' => e = .returned (.tuple #[.string r1, .string r2, .bool r3]) ∧ Drawn0 w w' := by
 have H := h
 unfold strings_Cut.f at H
 clear h
 replace H := zj H
 obtain ⟨⟨t270, t271, t272⟩, A3, H⟩ := H
 try dsimp only at H
 simp only [Option.some.injEq, Prod.mk.injEq] at H
 obtain ⟨rfl, rfl, rfl⟩ := H
 go_enter Tryd.func51, Tryd.ntmps51
 go_wp2_with (first | ((with_reducible refine gate_callee (f := 103) rfl ?_); refine goesL_ (some 9) rfl rfl Tryd.func103 (by kernel_rfl) rfl #[.string a0, .string a1] rfl zq5 ?_; (with_reducible refine (stringslite_Cut.calls a0 a1 t270 t271 t272 _ A3.out).mono ?_); rintro e w' ⟨rfl, ⟨nd, rfl⟩⟩; refine ⟨_, rfl, ?_⟩))
 go_ret3
 exact ⟨by first | rfl | (simp; done) | (simp [*]; done), by repeat (first | exact Drawn0.refl _ | apply Drawn0.step)⟩
def strings_Trim.f (a0 : ByteArray) (a1 : ByteArray) : Option (ByteArray) := if a0.size ≤ 9223372036854775807 ∧ a1.size < 4294967281 ∧ a1.data.toList.all (fun b => decide (b.toNat < 128)) = true then some ⟨(Lib.trimS a0.data.toList a1.data.toList).toArray⟩ else none
theorem strings_Trim.calls (a0 : ByteArray) (a1 : ByteArray) (r : ByteArray) (w : World) (h : strings_Trim.f a0 a1 = some r) :
  Calls Tryd.prog 104 #[.string a0, .string a1] w fun e w' => e = .returned (.string r) ∧ Below w.heap.size w w' := by
 unfold strings_Trim.f at h
 split at h
 ·rename_i h1
  obtain rfl := Option.some.inj h
  exact Any.strings_Trim_laid Tryd.lays160 (by kernel_rfl) a0 a1 w h1.1 h1.2.1 (ascii_of_all h1.2.2)
 ·cases h
end Go.Proofs.YtemnjgkicndmjaaDoor.Q
namespace Go.Proofs.YtemnjgkicndmjaaDoor.Q
open Go.RowKit Go.Proofs.YtemnjgkicndmjaaDoor.E Go.Proofs.YtemnjgkicndmjaaDoorW.PrintWords Go.Proofs.YtemnjgkicndmjaaDoorW.PrintLast Go.Proofs.YtemnjgkicndmjaaDoorW.PrintMore
set_option linter.unusedVariables false
noncomputable def nat_FromDecimal.c : (R : Type) → (ByteArray) → ((List Int) → Option R) → Option R := fun R a => lm (fun (a : ByteArray) k => nat_FromDecimal.f k a) R a
theorem nat_FromDecimal.pc (a : ByteArray) (b : List Int) (k : Nat) (h : nat_FromDecimal.f k a = some b) : PureC Tryd.prog 53 ((one cs).enc a) (rU.enc b) := by
  intro w P0 vs hr
  obtain ⟨u0, e0, hr⟩ := at_str hr
  have z := at_nil hr
  subst z
  have q1 := e0
  obtain rfl : vs = #[.string a] := Array.toList_inj.1 (by simpa using q1)
  refine Calls.mono (nat_FromDecimal.calls k a b w h) fun e w' he => ?_
  obtain ⟨v0_, rfl, hv0, hb⟩ := he
  exact ⟨_, rfl, hb, (V_row hv0 fun n hn => .inr hn)⟩
theorem nat_FromDecimal.ok : FunOk Tryd.prog 53 (mk (one cs) rU nat_FromDecimal.c) := lm_ok (by kernel_rfl) nat_FromDecimal.pc
theorem nat_FromDecimal.eq {x0 : ByteArray} {b : List Int} (h : Ev (fun k => nat_FromDecimal.f k x0) b) {R : Type} (K : (List Int) → Option R) : nat_FromDecimal.c R x0 K = K b := lm_ev (g := fun (a : ByteArray) k => nat_FromDecimal.f k a) (a := x0) h K
noncomputable def nat_Decimal.c : (R : Type) → (List Int) → ((ByteArray) → Option R) → Option R := fun R a => lm (fun (a : List Int) k => nat_Decimal.f k a) R a
theorem nat_Decimal.pc (a : List Int) (b : ByteArray) (k : Nat) (h : nat_Decimal.f k a = some b) : PureC Tryd.prog 48 ((one rU).enc a) (cs.enc b) := by
  intro w P0 vs hr
  obtain ⟨A0, c0, u0, e0, hc0, hf0, hr⟩ := at_row hr
  have z := at_nil hr
  subst z
  have q1 := e0
  obtain rfl : vs = #[.slice A0 a.length c0] := Array.toList_inj.1 (by simpa using q1)
  refine Calls.mono (nat_Decimal.calls k P0 A0 c0 a b w (rowV hf0 hc0) h) fun e w' he => ?_
  obtain ⟨rfl, hb⟩ := he
  exact ⟨_, rfl, hb, (show E.Rep _ _ _ _ _ from by simp only [cs, E.Rep])⟩
theorem nat_Decimal.ok : FunOk Tryd.prog 48 (mk (one rU) cs nat_Decimal.c) := lm_ok (by kernel_rfl) nat_Decimal.pc
theorem nat_Decimal.eq {x0 : List Int} {b : ByteArray} (h : Ev (fun k => nat_Decimal.f k x0) b) {R : Type} (K : (ByteArray) → Option R) : nat_Decimal.c R x0 K = K b := lm_ev (g := fun (a : List Int) k => nat_Decimal.f k a) (a := x0) h K
def strings_CutPrefix.c : (R : Type) → (ByteArray × ByteArray) → (((ByteArray × Bool)) → Option R) → Option R := fun R a => at' (fun (a : ByteArray × ByteArray) => strings_CutPrefix.f a.1 a.2) R a
theorem strings_CutPrefix.pc (a : ByteArray × ByteArray) (b : (ByteArray × Bool)) (h : strings_CutPrefix.f a.1 a.2 = some b) : PureC Tryd.prog 50 ((more cs (one cs)).enc a) ((tup (more cs (one cb))).enc b) := by
  intro w P0 vs hr
  obtain ⟨x0, x1⟩ := a
  obtain ⟨r0, r1⟩ := b
  obtain ⟨u0, e0, hr⟩ := at_str hr
  obtain ⟨u1, e1, hr⟩ := at_str hr
  have z := at_nil hr
  subst z
  subst e1
  have q2 := e0
  obtain rfl : vs = #[.string x0, .string x1] := Array.toList_inj.1 (by simpa using q2)
  refine Calls.mono (strings_CutPrefix.calls x0 x1 r0 r1 w h) fun e w' he => ?_
  obtain ⟨rfl, hb⟩ := he
  exact ⟨_, rfl, hb.below, (rep_tup2 (show E.Rep _ _ _ _ _ from by simp only [cs, E.Rep]) (show E.Rep _ _ _ _ _ from by simp only [cb, E.Rep]))⟩
theorem strings_CutPrefix.ok : FunOk Tryd.prog 50 (mk (more cs (one cs)) (tup (more cs (one cb))) strings_CutPrefix.c) := at_ok (by kernel_rfl) strings_CutPrefix.pc
theorem strings_CutPrefix.eq {x0 : ByteArray} {x1 : ByteArray} {b : (ByteArray × Bool)} (h : strings_CutPrefix.f x0 x1 = some b) {R : Type} (K : ((ByteArray × Bool)) → Option R) : strings_CutPrefix.c R (x0, x1) K = K b := at_eq (g := fun (a : ByteArray × ByteArray) => strings_CutPrefix.f a.1 a.2) (a := (x0, x1)) h K
def strings_Cut.c : (R : Type) → (ByteArray × ByteArray) → (((ByteArray × ByteArray × Bool)) → Option R) → Option R := fun R a => at' (fun (a : ByteArray × ByteArray) => strings_Cut.f a.1 a.2) R a
theorem strings_Cut.pc (a : ByteArray × ByteArray) (b : (ByteArray × ByteArray × Bool)) (h : strings_Cut.f a.1 a.2 = some b) : PureC Tryd.prog 51 ((more cs (one cs)).enc a) ((tup (more cs (more cs (one cb)))).enc b) := by
  intro w P0 vs hr
  obtain ⟨x0, x1⟩ := a
  obtain ⟨r0, r1, r2⟩ := b
  obtain ⟨u0, e0, hr⟩ := at_str hr
  obtain ⟨u1, e1, hr⟩ := at_str hr
  have z := at_nil hr
  subst z
  subst e1
  have q2 := e0
  obtain rfl : vs = #[.string x0, .string x1] := Array.toList_inj.1 (by simpa using q2)
  refine Calls.mono (strings_Cut.calls x0 x1 r0 r1 r2 w h) fun e w' he => ?_
  obtain ⟨rfl, hb⟩ := he
  exact ⟨_, rfl, hb.below, (rep_tup3 (show E.Rep _ _ _ _ _ from by simp only [cs, E.Rep]) (show E.Rep _ _ _ _ _ from by simp only [cs, E.Rep]) (show E.Rep _ _ _ _ _ from by simp only [cb, E.Rep]))⟩
theorem strings_Cut.ok : FunOk Tryd.prog 51 (mk (more cs (one cs)) (tup (more cs (more cs (one cb)))) strings_Cut.c) := at_ok (by kernel_rfl) strings_Cut.pc
theorem strings_Cut.eq {x0 : ByteArray} {x1 : ByteArray} {b : (ByteArray × ByteArray × Bool)} (h : strings_Cut.f x0 x1 = some b) {R : Type} (K : ((ByteArray × ByteArray × Bool)) → Option R) : strings_Cut.c R (x0, x1) K = K b := at_eq (g := fun (a : ByteArray × ByteArray) => strings_Cut.f a.1 a.2) (a := (x0, x1)) h K
def strings_Trim.c : (R : Type) → (ByteArray × ByteArray) → ((ByteArray) → Option R) → Option R := fun R a => at' (fun (a : ByteArray × ByteArray) => strings_Trim.f a.1 a.2) R a
theorem strings_Trim.pc (a : ByteArray × ByteArray) (b : ByteArray) (h : strings_Trim.f a.1 a.2 = some b) : PureC Tryd.prog 104 ((more cs (one cs)).enc a) (cs.enc b) := by
  intro w P0 vs hr
  obtain ⟨x0, x1⟩ := a
  obtain ⟨u0, e0, hr⟩ := at_str hr
  obtain ⟨u1, e1, hr⟩ := at_str hr
  have z := at_nil hr
  subst z
  subst e1
  have q2 := e0
  obtain rfl : vs = #[.string x0, .string x1] := Array.toList_inj.1 (by simpa using q2)
  refine Calls.mono (strings_Trim.calls x0 x1 b w h) fun e w' he => ?_
  obtain ⟨rfl, hb⟩ := he
  exact ⟨_, rfl, hb, (show E.Rep _ _ _ _ _ from by simp only [cs, E.Rep])⟩
theorem strings_Trim.ok : FunOk Tryd.prog 104 (mk (more cs (one cs)) cs strings_Trim.c) := at_ok (by kernel_rfl) strings_Trim.pc
theorem strings_Trim.eq {x0 : ByteArray} {x1 : ByteArray} {b : ByteArray} (h : strings_Trim.f x0 x1 = some b) {R : Type} (K : (ByteArray) → Option R) : strings_Trim.c R (x0, x1) K = K b := at_eq (g := fun (a : ByteArray × ByteArray) => strings_Trim.f a.1 a.2) (a := (x0, x1)) h K
noncomputable def cT0 : List (Nat × Fun) := [(53, mk (one cs) rU (at' fun (a : ByteArray) => nat_FromDecimal.f 40 a)), (48, mk (one rU) cs (at' fun (a : List Int) => nat_Decimal.f 40 a)), (50, mk (more cs (one cs)) (tup (more cs (one cb))) (at' fun (a : ByteArray × ByteArray) => strings_CutPrefix.f a.1 a.2)), (51, mk (more cs (one cs)) (tup (more cs (more cs (one cb)))) (at' fun (a : ByteArray × ByteArray) => strings_Cut.f a.1 a.2)), (104, mk (more cs (one cs)) cs (at' fun (a : ByteArray × ByteArray) => strings_Trim.f a.1 a.2)), (77, mk (more rU (one rU)) rU (at' fun (a : List Int × List Int) => nat_Mul.f 40 a.1 a.2)), (105, mk (more rU (one rU)) rU (at' fun (a : List Int × List Int) => nat_plus.f 40 a.1 a.2)), (109, mk (more rU (one rU)) iI (at' fun (a : List Int × List Int) => nat_Compare.f 40 a.1 a.2)), (132, mk (more rU (one rU)) rU (at' fun (a : List Int × List Int) => nat_Sub.f 40 a.1 a.2)), (44, mk (more rU (one rU)) rU (at' fun (a : List Int × List Int) => nat_Gcd.f 40 a.1 a.2)), (94, mk (more rU (one rU)) (tup (more rU (one rU))) (at' fun (a : List Int × List Int) => nat_DivMod.f 40 a.1 a.2)), (43, mk (one rU) cb (at' fun (a : List Int) => nat_IsOne.f a)), (95, mk (one rU) rU (at' fun (a : List Int) => slices_Clone_uint32_uint32.f a))]
theorem cTok0 : TOk Tryd.prog (tb cT0) := (tb_cons (at_ok (by kernel_rfl) fun a b h => nat_FromDecimal.pc a b 40 h) (tb_cons (at_ok (by kernel_rfl) fun a b h => nat_Decimal.pc a b 40 h) (tb_cons (at_ok (by kernel_rfl) fun a b h => strings_CutPrefix.pc a b h) (tb_cons (at_ok (by kernel_rfl) fun a b h => strings_Cut.pc a b h) (tb_cons (at_ok (by kernel_rfl) fun a b h => strings_Trim.pc a b h) (tb_cons (at_ok (by kernel_rfl) fun a b h => nat_Mul.pc a b 40 h) (tb_cons (at_ok (by kernel_rfl) fun a b h => nat_plus.pc a b 40 h) (tb_cons (at_ok (by kernel_rfl) fun a b h => nat_Compare.pc a b 40 h) (tb_cons (at_ok (by kernel_rfl) fun a b h => nat_Sub.pc a b 40 h) (tb_cons (at_ok (by kernel_rfl) fun a b h => nat_Gcd.pc a b 40 h) (tb_cons (at_ok (by kernel_rfl) fun a b h => nat_DivMod.pc a b 40 h) (tb_cons (at_ok (by kernel_rfl) fun a b h => nat_IsOne.pc a b h) (tb_cons (at_ok (by kernel_rfl) fun a b h => slices_Clone_uint32_uint32.pc a b h) tb_nil)))))))))))))
noncomputable def cT1 : List (Nat × Fun) := [(42, execFn' Tryd.prog (tb cT0) (lt []) 40 Tryd.f42), (78, execFn' Tryd.prog (tb cT0) (lt []) 40 Tryd.f78), (106, execFn' Tryd.prog (tb cT0) (lt []) 40 Tryd.f106), (52, execFn' Tryd.prog (tb cT0) (lt []) 40 Tryd.f52), (93, execFn' Tryd.prog (tb cT0) (lt []) 40 Tryd.f93)] ++ cT0
theorem cTok1 : TOk Tryd.prog (tb cT1) := (tb_cons (execN_ok cTok0 mixed Tryd.func42 (by kernel_rfl)) (tb_cons (execN_ok cTok0 mixed Tryd.func78 (by kernel_rfl)) (tb_cons (execN_ok cTok0 mixed Tryd.func106 (by kernel_rfl)) (tb_cons (execN_ok cTok0 mixed Tryd.func52 (by kernel_rfl)) (tb_cons (execN_ok cTok0 mixed Tryd.func93 (by kernel_rfl)) cTok0)))))
noncomputable def cT2 : List (Nat × Fun) := [(14, execFn' Tryd.prog (tb cT1) (lt []) 40 Tryd.f14), (54, execFn' Tryd.prog (tb cT1) (lt []) 40 Tryd.f54), (110, execFn' Tryd.prog (tb cT1) (lt []) 40 Tryd.f110)] ++ cT1
theorem cTok2 : TOk Tryd.prog (tb cT2) := (tb_cons (execN_ok cTok1 mixed Tryd.func14 (by kernel_rfl)) (tb_cons (execN_ok cTok1 mixed Tryd.func54 (by kernel_rfl)) (tb_cons (execN_ok cTok1 mixed Tryd.func110 (by kernel_rfl)) cTok1)))
noncomputable def cT3 : List (Nat × Fun) := [(61, execFn' Tryd.prog (tb cT2) (lt []) 40 Tryd.f61), (64, execFn' Tryd.prog (tb cT2) (lt []) 40 Tryd.f64), (19, execFn' Tryd.prog (tb cT2) (lt []) 40 Tryd.f19), (17, execFn' Tryd.prog (tb cT2) (lt []) 40 Tryd.f17)] ++ cT2
theorem cTok3 : TOk Tryd.prog (tb cT3) := (tb_cons (execN_ok cTok2 mixed Tryd.func61 (by kernel_rfl)) (tb_cons (execN_ok cTok2 mixed Tryd.func64 (by kernel_rfl)) (tb_cons (execN_ok cTok2 mixed Tryd.func19 (by kernel_rfl)) (tb_cons (execN_ok cTok2 mixed Tryd.func17 (by kernel_rfl)) cTok2))))
noncomputable def cT4 : List (Nat × Fun) := [(25, execFn' Tryd.prog (tb cT3) (lt []) 40 Tryd.f25)] ++ cT3
theorem cTok4 : TOk Tryd.prog (tb cT4) := (tb_cons (execN_ok cTok3 mixed Tryd.func25 (by kernel_rfl)) cTok3)
def lw_counted.c (R : Type) (_ : Unit) (K : Bool → Option R) : Option R := K true
set_option maxRecDepth 100000 in
theorem lw_counted.run : execFn' Tryd.prog (tb cT4) (lt []) 40 Tryd.f16 AV [] some = some (.bool true) := by kernel_rfl
theorem lw_counted.ok : FunOk Tryd.prog 16 (mk none0 cb lw_counted.c) := by
  refine mk_ok (by kernel_rfl) (fun R a K => rfl) (fun a b h => ?_)
  injection h with h
  subst h
  exact (execN_ok cTok4 mixed Tryd.func16 (by kernel_rfl)).2.2 _ _ lw_counted.run
noncomputable def lw_NumberBitsAddUp.c (R : Type) (a : Nm × Nm) (K : (Bool) → Option R) : Option R :=
  (number_Bits.c _ ((1 : Int), (a.1.1, a.1.2.1, a.1.2.2), (a.2.1, a.2.2.1, a.2.2.2)) fun t1 => (number_Bits.c _ ((2 : Int), (a.1.1, a.1.2.1, a.1.2.2), (a.2.1, a.2.2.1, a.2.2.2)) fun t2 => (number_Bits.c _ ((3 : Int), (a.1.1, a.1.2.1, a.1.2.2), (a.2.1, a.2.2.1, a.2.2.2)) fun t3 => (if (t1.2 != (0 : Int)) = false then (if (t2.2 != (0 : Int)) = false then (if (t3.2 != (0 : Int)) = true then (lw_counted.c _ () fun t4 => K t4) else (number_Add.c _ ((t1.1.1, t1.1.2.1, t1.1.2.2), (t3.1.1, t3.1.2.1, t3.1.2.2)) fun t5 => (number_Add.c _ ((t1.1.1, t1.1.2.1, t1.1.2.2), (t2.1.1, t2.1.2.1, t2.1.2.2)) fun t6 => (number_Add.c _ ((a.1.1, a.1.2.1, a.1.2.2), (a.2.1, a.2.2.1, a.2.2.2)) fun t7 => (if (t5.2 != (0 : Int)) = false then (lw_same.c _ ((t5.1.1, t5.1.2.1, t5.1.2.2), (t2.1.1, t2.1.2.1, t2.1.2.2)) fun t8 => (if t8 = true then (if (t6.2 == t7.2) = true then (lw_same.c _ ((t6.1.1, t6.1.2.1, t6.1.2.2), (t7.1.1, t7.1.2.1, t7.1.2.2)) fun t9 => (if t9 = true then (lw_counted.c _ () fun t10 => K t10) else K false)) else K false) else K false)) else (if (t6.2 == t7.2) = true then (lw_same.c _ ((t6.1.1, t6.1.2.1, t6.1.2.2), (t7.1.1, t7.1.2.1, t7.1.2.2)) fun t11 => (if t11 = true then (lw_counted.c _ () fun t12 => K t12) else K false)) else K false)))))) else (lw_counted.c _ () fun t13 => K t13)) else (lw_counted.c _ () fun t14 => K t14)))))
noncomputable def lw_NumberBitsAddUp.T (g35 : CF (Int × Nm × Nm) ((Nm × Int))) (g16 : CF (Unit) (Bool)) (g25 : CF (Nm × Nm) ((Nm × Int))) (g20 : CF (Nm × Nm) (Bool)) : List (Nat × Tf) := [(16, .pure (mk none0 cb g16)), (20, .pure (mk (more kN (one kN)) cb g20)), (25, .pure (mk (more kN (one kN)) kE g25)), (35, .pure (mk (more iI (more kN (one kN))) kE g35))]
theorem lw_NumberBitsAddUp.tok : TOk Tryd.prog (tt (lw_NumberBitsAddUp.T number_Bits.c lw_counted.c number_Add.c lw_same.c)) := (tt_cons lw_counted.ok (tt_cons lw_same.ok (tt_cons number_Add.ok (tt_cons number_Bits.ok tt_nil))))
set_option maxRecDepth 100000 in
theorem lw_NumberBitsAddUp.ex0 (g35 : CF (Int × Nm × Nm) ((Nm × Int))) (g16 : CF (Unit) (Bool)) (g25 : CF (Nm × Nm) ((Nm × Int))) (g20 : CF (Nm × Nm) (Bool)) (R : Type) (a : Nm × Nm) (K : (Bool) → Option R) : execFn' Tryd.prog (tt (lw_NumberBitsAddUp.T g35 g16 g25 g20)) (lt []) 60 Tryd.f11 R ((more kN (one kN)).enc a) (dk cb K) = (g35 _ ((1 : Int), (a.1.1, a.1.2.1, a.1.2.2), (a.2.1, a.2.2.1, a.2.2.2)) fun t1 => (g35 _ ((2 : Int), (a.1.1, a.1.2.1, a.1.2.2), (a.2.1, a.2.2.1, a.2.2.2)) fun t2 => (g35 _ ((3 : Int), (a.1.1, a.1.2.1, a.1.2.2), (a.2.1, a.2.2.1, a.2.2.2)) fun t3 => (if (t1.2 != (0 : Int)) = false then (if (t2.2 != (0 : Int)) = false then (if (t3.2 != (0 : Int)) = true then (g16 _ () fun t4 => K t4) else (g25 _ ((t1.1.1, t1.1.2.1, t1.1.2.2), (t3.1.1, t3.1.2.1, t3.1.2.2)) fun t5 => (g25 _ ((t1.1.1, t1.1.2.1, t1.1.2.2), (t2.1.1, t2.1.2.1, t2.1.2.2)) fun t6 => (g25 _ ((a.1.1, a.1.2.1, a.1.2.2), (a.2.1, a.2.2.1, a.2.2.2)) fun t7 => (if (t5.2 != (0 : Int)) = false then (g20 _ ((t5.1.1, t5.1.2.1, t5.1.2.2), (t2.1.1, t2.1.2.1, t2.1.2.2)) fun t8 => (if t8 = true then (if (t6.2 == t7.2) = true then (g20 _ ((t6.1.1, t6.1.2.1, t6.1.2.2), (t7.1.1, t7.1.2.1, t7.1.2.2)) fun t9 => (if t9 = true then (g16 _ () fun t10 => K t10) else K false)) else K false) else K false)) else (if (t6.2 == t7.2) = true then (g20 _ ((t6.1.1, t6.1.2.1, t6.1.2.2), (t7.1.1, t7.1.2.1, t7.1.2.2)) fun t11 => (if t11 = true then (g16 _ () fun t12 => K t12) else K false)) else K false)))))) else (g16 _ () fun t13 => K t13)) else (g16 _ () fun t14 => K t14))))) := by kernel_rfl
theorem lw_NumberBitsAddUp.sh : Shown Tryd.prog 11 (more kN (one kN)).enc cb lw_NumberBitsAddUp.c := exec_shown lw_NumberBitsAddUp.tok mixed Tryd.func11 (by kernel_rfl) (lw_NumberBitsAddUp.ex0 number_Bits.c lw_counted.c number_Add.c lw_same.c)
theorem lw_NumberBitsAddUp.ok : FunOk Tryd.prog 11 (mk (more kN (one kN)) cb lw_NumberBitsAddUp.c) := lw_NumberBitsAddUp.sh.ok (by kernel_rfl)
end Go.Proofs.YtemnjgkicndmjaaDoor.Q
namespace Go.Proofs.YtemnjgkicndmjaaDoor.Q
open Go.RowKit Go.Proofs.YtemnjgkicndmjaaDoorW.PrintWords Go.Proofs.YtemnjgkicndmjaaDoorW.PrintLast Go.Proofs.YtemnjgkicndmjaaDoorW.PrintMore
set_option linter.unusedVariables false
theorem trim_ev (xs : List Int) : xs.length ≤ 1099511627776 → Ev (fun k => nat_Trim.l0 k xs) (trim xs) := by
  induction xs using snoc_induction with
  | h0 => intro _; exact Ev.step (f := fun _ => some []) (fun k => by simp [nat_Trim.l0]) (Ev.now _)
  | h1 xs x ih =>
    intro hl
    simp only [List.length_append, List.length_singleton] at hl
    have hw : wrap64 (((xs ++ [x]).length : Int) - 1) = xs.length := by simp only [List.length_append, List.length_singleton]; unfold wrap64; omega
    have hr : rd (xs ++ [x]) (xs.length : Int) = x := by rw [rd_getD]; simp
    have h1 : ((xs ++ [x]).length : Int) > 0 := by simp only [List.length_append, List.length_singleton]; omega
    have h2 : (xs.length : Int) < ((xs ++ [x]).length : Int) := by simp only [List.length_append, List.length_singleton]; omega
    by_cases hx : x = 0
    · subst hx
      rw [trim_snoc_zero]
      refine Ev.step (f := fun k => nat_Trim.l0 k xs) (fun k => ?_) (ih (by omega))
      simp only [nat_Trim.l0]
      rw [hw, if_pos h1, if_pos (by omega), if_pos h2, hr, if_pos rfl, if_pos (by omega)]
      simp
    · rw [trim_snoc xs hx]
      refine Ev.step (f := fun _ => some (xs ++ [x])) (fun k => ?_) (Ev.now _)
      simp only [nat_Trim.l0]
      rw [hw, if_pos h1, if_pos (by omega), if_pos h2, hr, if_neg hx]
theorem Trim_ev (xs : List Int) (h : xs.length ≤ 1099511627776) : Ev (fun k => nat_Trim.f k xs) (trim xs) := trim_ev xs h
theorem IsOne_eq (xs : List Int) : nat_IsOne.f xs = some (decide (xs = [1])) := by
  unfold nat_IsOne.f
  match xs with
  | [] => simp
  | [x] => simp [rd]; rw [Bool.eq_iff_iff]; simp
  | x :: y :: l => rw [if_neg (by simp; omega)]; simp
theorem val_of2 (x y : Int) : val 4294967296 [x, y] = x + 4294967296 * y := by simp [val]
theorem Of_ev (n : Int) (h0 : 0 ≤ n) (h1 : n < 18446744073709551616) : ∃ r, Ev (fun k => nat_Of.f k n) r ∧ Lim 4294967296 r ∧ Nrm r ∧ val 4294967296 r = n ∧ r.length ≤ 2 := by
  refine ⟨trim [n % 4294967296, n / 4294967296 % 4294967296], ?_, ?_, nrm_trim _, ?_, Nat.le_trans (length_trim _) (by simp)⟩
  · unfold nat_Of.f
    exact Ev.bind (f := fun _ t => some t) (Trim_ev _ (by simp)) (Ev.now _)
  · refine lim_trim ?_
    rw [lim_cons, lim_cons]
    exact ⟨by omega, by omega, lim_nil _⟩
  · rw [val_trim, val_of2]; omega
theorem sign_eq (n : Int) : nat_sign.f n = some (if n < 0 then -1 else if n > 0 then 1 else 0) := by unfold nat_sign.f; split <;> (try split) <;> simp_all
def cmpI (a b : Int) : Int := if a < b then -1 else if a > b then 1 else 0
theorem compare_loop (xs ys : List Int) (hx : Lim 4294967296 xs) (hy : Lim 4294967296 ys) (hl : xs.length = ys.length) (hb : xs.length ≤ 1099511627776) : ∀ i : Nat, i ≤ xs.length → xs.drop i = ys.drop i →
    Ev (fun k => nat_Compare.l0 k xs ys ((i : Int) - 1)) (cmpI (val 4294967296 xs) (val 4294967296 ys)) := by
  intro i
  induction i with
  | zero =>
    intro _ h
    simp only [List.drop_zero] at h
    subst h
    refine Ev.step (f := fun _ => some 0) (fun k => ?_) ?_
    · simp [nat_Compare.l0]
    · unfold cmpI; rw [if_neg (by omega), if_neg (by omega)]; exact Ev.now _
  | succ i ih =>
    intro hi h
    have e1 : (((i + 1 : Nat) : Int) - 1) = (i : Int) := by omega
    rw [e1]
    have hB : (0 : Int) < 4294967296 := by decide
    by_cases heq : xs.getD i 0 = ys.getD i 0
    · refine Ev.step (f := fun k => nat_Compare.l0 k xs ys ((i : Int) - 1)) (fun k => ?_) (ih (by omega) ?_)
      · simp only [nat_Compare.l0]
        rw [if_pos (by omega), if_pos (by omega), if_pos (by omega), if_pos (by omega), rd_getD, rd_getD, if_pos heq, w64 (by omega) (by omega)]
      · rw [drop_cons' xs i (by omega), drop_cons' ys i (by omega), heq, h]
    · have a1 := val_split 4294967296 xs i (by omega)
      have a2 := val_split 4294967296 ys i (by omega)
      rw [val_drop 4294967296 xs i (by omega)] at a1
      rw [val_drop 4294967296 ys i (by omega), ← h] at a2
      have b1 := val_lt hB (hx.take i)
      have b2 := val_lt hB (hy.take i)
      rw [List.length_take, Nat.min_eq_left (by omega)] at b1 b2
      have c1 := val_nonneg hB (hx.take i)
      have c2 := val_nonneg hB (hy.take i)
      have hP : (0 : Int) < (4294967296 : Int) ^ i := pow_pos' hB i
      generalize 4294967296 * val 4294967296 (xs.drop (i + 1)) = T at a1 a2
      rw [Int.mul_add] at a1 a2
      generalize 4294967296 ^ i * T = U at a1 a2
      have key : ∀ p q s t : Int, p < q → s < 4294967296 ^ i → 0 ≤ t → s + (4294967296 ^ i * p + U) < t + (4294967296 ^ i * q + U) := by
        intro p q s t hpq hs ht
        have : 4294967296 ^ i * (p + 1) ≤ 4294967296 ^ i * q := Int.mul_le_mul_of_nonneg_left (by omega) (by omega)
        rw [Int.mul_add, Int.mul_one] at this
        omega
      by_cases hlt : xs.getD i 0 < ys.getD i 0
      · refine Ev.step (f := fun _ => some (-1)) (fun k => ?_) ?_
        · simp only [nat_Compare.l0]
          rw [if_pos (by omega), if_pos (by omega), if_pos (by omega), if_pos (by omega), rd_getD, rd_getD, if_neg heq, if_pos hlt]
        · have := key _ _ _ _ hlt b1 c2
          unfold cmpI; rw [if_pos (by omega)]; exact Ev.now _
      · refine Ev.step (f := fun _ => some 1) (fun k => ?_) ?_
        · simp only [nat_Compare.l0]
          rw [if_pos (by omega), if_pos (by omega), if_pos (by omega), if_pos (by omega), rd_getD, rd_getD, if_neg heq, if_neg hlt]
        · have := key _ _ _ _ (show ys.getD i 0 < xs.getD i 0 by omega) b2 c1
          unfold cmpI; rw [if_neg (by omega), if_pos (by omega)]; exact Ev.now _
theorem len_lt_val {B : Int} (hB : 0 < B) {xs ys : List Int} (hx : Lim B xs) (hy : Lim B ys) (ny : Nrm ys) (h : xs.length < ys.length) : val B xs < val B ys := by
  have h1 := val_lt hB hx
  have h2 := val_ge hB hy ny (by rintro rfl; simp at h)
  have h3 : B ^ xs.length ≤ B ^ (ys.length - 1) := pow_mono' hB (by omega)
  omega
theorem Compare_ev (xs ys : List Int) (hx : Lim 4294967296 xs) (hy : Lim 4294967296 ys) (nx : Nrm xs) (ny : Nrm ys) (hb : xs.length ≤ 1099511627776) (hb' : ys.length ≤ 1099511627776) : Ev (fun k => nat_Compare.f k xs ys) (cmpI (val 4294967296 xs) (val 4294967296 ys)) := by
  have hB : (0 : Int) < 4294967296 := by decide
  unfold nat_Compare.f
  by_cases hl : xs.length = ys.length
  · have := compare_loop xs ys hx hy hl hb xs.length (by omega) (by rw [List.drop_length, hl, List.drop_length])
    refine Ev.congr (fun k => ?_) this
    rw [if_pos (by omega), w64 (by omega) (by omega)]
  · refine Ev.ret fun k => ?_
    rw [if_neg (by omega), w64 (by omega) (by omega), sign_eq]
    unfold cmpI
    rcases Nat.lt_or_ge xs.length ys.length with h | h
    · have := len_lt_val hB hx hy ny h
      rw [if_pos (by omega), if_pos (by omega)]; rfl
    · have := len_lt_val hB hy hx nx (by omega)
      rw [if_neg (by omega), if_pos (by omega), if_neg (by omega), if_pos (by omega)]; rfl
theorem divsmall_loop (xs : List Int) (d : Int) (hx : Lim 4294967296 xs) (hd0 : 0 < d) (hd : d < 4294967296) (hb : xs.length ≤ 1099511627776) : ∀ (i : Nat) (out : List Int) (rest : Int), i ≤ xs.length → out.length = xs.length → Lim 4294967296 out → out.take i = List.replicate i 0 → 0 ≤ rest → rest < d →
    ∃ r, Ev (fun k => nat_DivSmall.l0 k xs d out rest ((i : Int) - 1)) (trim r, val 4294967296 (xs.take i) + 4294967296 ^ i * rest - d * ((val 4294967296 (xs.take i) + 4294967296 ^ i * rest) / d)) ∧ r.length = xs.length ∧ Lim 4294967296 r ∧ val 4294967296 r = val 4294967296 out + (val 4294967296 (xs.take i) + 4294967296 ^ i * rest) / d := by
  intro i
  have hB : (0 : Int) < 4294967296 := by decide
  induction i with
  | zero =>
    intro out rest _ hlen ho hz h0 h1
    refine ⟨out, ?_, hlen, ho, ?_⟩
    · refine Ev.step (f := fun k => (nat_Trim.f k out).bind fun t => some (t, rest % 4294967296)) (fun k => ?_) ?_
      · simp [nat_DivSmall.l0]
      · refine Ev.bind (f := fun _ t => some (t, rest % 4294967296)) (Trim_ev out (by omega)) (Ev.eq (Ev.now _) ?_)
        have e1 : rest / d = 0 := Int.ediv_eq_zero_of_lt h0 h1
        simp only [List.take_zero, val, Int.pow_zero, Int.one_mul, Int.zero_add, e1, Int.mul_zero, Int.sub_zero]
        congr 1
        exact Int.emod_eq_of_lt h0 (by omega)
    · have e1 : rest / d = 0 := Int.ediv_eq_zero_of_lt h0 h1
      simp [val, e1]
  | succ i ih =>
    intro out rest hi hlen ho hz h0 h1
    have e1 : (((i + 1 : Nat) : Int) - 1) = (i : Int) := by omega
    have hxi := hx.rd hB (i : Int)
    have hxg : rd xs (i : Int) = xs.getD i 0 := rd_getD xs i
    generalize hy : rd xs (i : Int) = y at hxi hxg
    have hcur : rest * 4294967296 + y < 18446744073709551616 := by omega
    have hq0 : 0 ≤ (rest * 4294967296 + y) / d := Int.ediv_nonneg (by omega) (by omega)
    have hq1 : (rest * 4294967296 + y) / d < 4294967296 := by
      refine Int.ediv_lt_of_lt_mul hd0 ?_
      have : (rest + 1) * 4294967296 ≤ d * 4294967296 := Int.mul_le_mul_of_nonneg_right (by omega) (by decide)
      rw [Int.mul_comm d] at this
      have e : (rest + 1) * 4294967296 = rest * 4294967296 + 4294967296 := by grind
      omega
    have hr0 : 0 ≤ (rest * 4294967296 + y) % d := Int.emod_nonneg _ (by omega)
    have hr1 : (rest * 4294967296 + y) % d < d := Int.emod_lt_of_pos _ hd0
    have hdm := Int.mul_ediv_add_emod (rest * 4294967296 + y) d
    generalize hQ : (rest * 4294967296 + y) / d = q at *
    generalize hR : (rest * 4294967296 + y) % d = s at *
    have hoi : out.getD i 0 = 0 := by
      have : (out.take (i + 1)).getD i 0 = 0 := by rw [hz]; simp [List.getD_eq_getElem?_getD]
      rw [List.getD_eq_getElem?_getD, List.getElem?_take, if_pos (by omega)] at this
      rw [List.getD_eq_getElem?_getD]; exact this
    obtain ⟨r, hev, hrl, hrL, hrv⟩ := ih (out.set i q) s (by omega) (by simp [hlen]) (ho.set i ⟨hq0, hq1⟩) (by
      rw [List.take_set_of_le (by omega)]
      have := congrArg (List.take i) hz
      rw [List.take_take, Nat.min_eq_left (by omega), List.take_replicate, Nat.min_eq_left (by omega)] at this
      exact this) hr0 hr1
    have hval : val 4294967296 (xs.take (i + 1)) + 4294967296 ^ (i + 1) * rest = d * (4294967296 ^ i * q) + (val 4294967296 (xs.take i) + 4294967296 ^ i * s) := by
      rw [val_take_succ 4294967296 xs i (by omega), ← hxg, Int.pow_succ]
      have : (rest * 4294967296 + y) = d * q + s := by rw [← hdm]
      grind
    have hdiv : (val 4294967296 (xs.take (i + 1)) + 4294967296 ^ (i + 1) * rest) / d = 4294967296 ^ i * q + (val 4294967296 (xs.take i) + 4294967296 ^ i * s) / d := by
      rw [hval, Int.mul_add_ediv_left _ _ (by omega)]
    refine ⟨r, ?_, hrl, hrL, ?_⟩
    · refine Ev.step (f := fun k => nat_DivSmall.l0 k xs d (out.set i q) s ((i : Int) - 1)) (fun k => ?_) (Ev.eq hev ?_)
      · rw [e1]
        simp only [nat_DivSmall.l0]
        rw [if_pos (by omega), if_pos (by omega), if_pos (by omega), u64_id (x := d) (by omega) (by omega), if_neg (by omega), if_pos (by omega), hy,
          u64_id (x := rest * 4294967296) (by omega) (by omega), u64_id (x := y) (by omega) (by omega), bits_or_shift h0 (by omega) hxi.1 hxi.2,
          Int.tdiv_eq_ediv_of_nonneg (by omega), Int.tmod_eq_emod_of_nonneg (by omega), hQ, hR, u64_id hq0 (by omega), w64 (by omega) (by omega), Int.emod_eq_of_lt hq0 hq1]
        simp
      · congr 1
        rw [hdiv, hval]
        grind
    · rw [hrv, hdiv, val_set 4294967296 out i q (by omega), hoi]
      grind
theorem DivSmall_ev (xs : List Int) (d : Int) (hx : Lim 4294967296 xs) (hd0 : 0 < d) (hd : d < 4294967296) (hb : xs.length ≤ 1099511627776) :
    ∃ r, Ev (fun k => nat_DivSmall.f k xs d) (r, val 4294967296 xs % d) ∧ Lim 4294967296 r ∧ Nrm r ∧ val 4294967296 r = val 4294967296 xs / d ∧ r.length ≤ xs.length := by
  obtain ⟨r, h1, h2, h3, h4⟩ := divsmall_loop xs d hx hd0 hd hb xs.length (List.replicate xs.length 0) 0 (by omega) (by simp) (lim_replicate (by decide) _) (by rw [List.take_of_length_le (by simp)]) (by omega) hd0
  rw [List.take_of_length_le (Nat.le_refl _), Int.mul_zero, Int.add_zero] at h1 h4
  refine ⟨trim r, ?_, lim_trim h3, nrm_trim _, by rw [val_trim, h4, val_replicate, Int.zero_add], Nat.le_trans (length_trim _) (by omega)⟩
  refine Ev.congr (fun k => ?_) (Ev.eq h1 ?_)
  · unfold nat_DivSmall.f
    rw [if_pos (by omega), if_pos (by omega), w64 (by omega) (by omega)]
    simp
  · congr 1
    have := Int.mul_ediv_add_emod (val 4294967296 xs) d
    omega
def len8 : ByteArray := (⟨#[0, 1, 2, 2, 3, 3, 3, 3, 4, 4, 4, 4, 4, 4, 4, 4, 5, 5, 5, 5, 5, 5, 5, 5, 5, 5, 5, 5, 5, 5, 5, 5, 6, 6, 6, 6, 6, 6, 6, 6, 6, 6, 6, 6, 6, 6, 6, 6, 6, 6, 6, 6, 6, 6, 6, 6, 6, 6, 6, 6, 6, 6, 6, 6, 7, 7, 7, 7, 7, 7, 7, 7, 7, 7, 7, 7, 7, 7, 7, 7, 7, 7, 7, 7, 7, 7, 7, 7, 7, 7, 7, 7, 7, 7, 7, 7, 7, 7, 7, 7, 7, 7, 7, 7, 7, 7, 7, 7, 7, 7, 7, 7, 7, 7, 7, 7, 7, 7, 7, 7, 7, 7, 7, 7, 7, 7, 7, 7, 8, 8, 8, 8, 8, 8, 8, 8, 8, 8, 8, 8, 8, 8, 8, 8, 8, 8, 8, 8, 8, 8, 8, 8, 8, 8, 8, 8, 8, 8, 8, 8, 8, 8, 8, 8, 8, 8, 8, 8, 8, 8, 8, 8, 8, 8, 8, 8, 8, 8, 8, 8, 8, 8, 8, 8, 8, 8, 8, 8, 8, 8, 8, 8, 8, 8, 8, 8, 8, 8, 8, 8, 8, 8, 8, 8, 8, 8, 8, 8, 8, 8, 8, 8, 8, 8, 8, 8, 8, 8, 8, 8, 8, 8, 8, 8, 8, 8, 8, 8, 8, 8, 8, 8, 8, 8, 8, 8, 8, 8, 8, 8, 8, 8, 8, 8, 8, 8, 8, 8, 8, 8, 8, 8, 8, 8, 8, 8]⟩ : ByteArray)
set_option maxRecDepth 100000 in
theorem len8_all : ∀ i : Fin 256, (0 ≤ bt len8 (i.val : Int) ∧ bt len8 (i.val : Int) ≤ 8 ∧ (i.val : Int) < 2 ^ (bt len8 (i.val : Int)).toNat ∧ (i.val = 0 ∨ (1 ≤ bt len8 (i.val : Int) ∧ (2 : Int) ^ ((bt len8 (i.val : Int)).toNat - 1) ≤ (i.val : Int)))) := by decide +kernel
theorem len8_at {x : Int} (h0 : 0 ≤ x) (h1 : x < 256) : 0 ≤ bt len8 x ∧ bt len8 x ≤ 8 ∧ x < 2 ^ (bt len8 x).toNat ∧ (x = 0 ∨ (1 ≤ bt len8 x ∧ (2 : Int) ^ ((bt len8 x).toNat - 1) ≤ x)) := by
  obtain ⟨n, rfl⟩ := Int.eq_ofNat_of_zero_le h0
  have := len8_all ⟨n, by omega⟩
  simp only at this
  refine ⟨this.1, this.2.1, this.2.2.1, ?_⟩
  rcases this.2.2.2 with h | h
  · left; omega
  · right; exact h
theorem Len32_unf (a : Int) : bits_Len32.f a = if a ≥ 65536 then (if (a / 65536) ≥ 256 then (if 0 ≤ (((a / 65536) / 256) % 256) then (if (((a / 65536) / 256) % 256) < 256 then (some (wrap64 ((16 + 8) + (wrap64 (bt len8 (((a / 65536) / 256) % 256)))))) else (none)) else (none)) else (if 0 ≤ ((a / 65536) % 256) then (if ((a / 65536) % 256) < 256 then (some (wrap64 (16 + (wrap64 (bt len8 ((a / 65536) % 256)))))) else (none)) else (none))) else (if a ≥ 256 then (if 0 ≤ ((a / 256) % 256) then (if ((a / 256) % 256) < 256 then (some (wrap64 ((0 + 8) + (wrap64 (bt len8 ((a / 256) % 256)))))) else (none)) else (none)) else (if 0 ≤ (a % 256) then (if (a % 256) < 256 then (some (wrap64 (0 + (wrap64 (bt len8 (a % 256)))))) else (none)) else (none))) := rfl
theorem len_part {a x : Int} {j : Nat} (hx0 : 0 ≤ x) (hx : x < 256) (hl : x * 2 ^ j ≤ a) (hu : a < (x + 1) * 2 ^ j) : ∃ n : Nat, bt len8 x = n ∧ n ≤ 8 ∧ a < 2 ^ (n + j) ∧ (x = 0 ∨ (1 ≤ n ∧ (2 : Int) ^ (n + j - 1) ≤ a)) := by
  obtain ⟨h1, h2, h3, h4⟩ := len8_at hx0 hx
  generalize bt len8 x = y at *
  obtain ⟨n, rfl⟩ := Int.eq_ofNat_of_zero_le h1
  rw [Int.toNat_natCast] at h3 h4
  have hP : (0 : Int) < 2 ^ j := Int.pow_pos (by decide)
  refine ⟨n, rfl, by omega, ?_, ?_⟩
  · rw [Int.pow_add]
    have : (x + 1) * 2 ^ j ≤ 2 ^ n * 2 ^ j := Int.mul_le_mul_of_nonneg_right (by omega) (by omega)
    omega
  · rcases h4 with h4 | ⟨h4, h5⟩
    · left; exact h4
    · right
      refine ⟨by omega, ?_⟩
      rw [show n + j - 1 = n - 1 + j by omega, Int.pow_add]
      have : 2 ^ (n - 1) * 2 ^ j ≤ x * 2 ^ j := Int.mul_le_mul_of_nonneg_right h5 (by omega)
      omega
set_option maxRecDepth 100000 in
theorem Len32_eq (a : Int) (h0 : 0 ≤ a) (h1 : a < 4294967296) : ∃ n : Nat, bits_Len32.f a = some (n : Int) ∧ n ≤ 32 ∧ a < 2 ^ n ∧ (a = 0 ∨ (1 ≤ n ∧ (2 : Int) ^ (n - 1) ≤ a)) := by
  rw [Len32_unf]
  by_cases c1 : a ≥ 65536
  · rw [if_pos c1]
    by_cases c2 : a / 65536 ≥ 256
    · rw [if_pos c2, if_pos (by omega), if_pos (by omega)]
      obtain ⟨n, e, hn, hu, hl⟩ := len_part (a := a) (x := a / 65536 / 256 % 256) (j := 24) (by omega) (by omega) (by omega) (by omega)
      rw [e]
      refine ⟨n + 24, ?_, by omega, hu, ?_⟩
      · rw [w64 (x := (n : Int)) (by omega) (by omega), w64 (by omega) (by omega)]; congr 1; omega
      · rcases hl with hl | hl
        · omega
        · right; exact ⟨by omega, hl.2⟩
    · rw [if_neg c2, if_pos (by omega), if_pos (by omega)]
      obtain ⟨n, e, hn, hu, hl⟩ := len_part (a := a) (x := a / 65536 % 256) (j := 16) (by omega) (by omega) (by omega) (by omega)
      rw [e]
      refine ⟨n + 16, ?_, by omega, hu, ?_⟩
      · rw [w64 (x := (n : Int)) (by omega) (by omega), w64 (by omega) (by omega)]; congr 1; omega
      · rcases hl with hl | hl
        · omega
        · right; exact ⟨by omega, hl.2⟩
  · rw [if_neg c1]
    by_cases c2 : a ≥ 256
    · rw [if_pos c2, if_pos (by omega), if_pos (by omega)]
      obtain ⟨n, e, hn, hu, hl⟩ := len_part (a := a) (x := a / 256 % 256) (j := 8) (by omega) (by omega) (by omega) (by omega)
      rw [e]
      refine ⟨n + 8, ?_, by omega, hu, ?_⟩
      · rw [w64 (x := (n : Int)) (by omega) (by omega), w64 (by omega) (by omega)]; congr 1; omega
      · rcases hl with hl | hl
        · omega
        · right; exact ⟨by omega, hl.2⟩
    · rw [if_neg c2, if_pos (by omega), if_pos (by omega)]
      obtain ⟨n, e, hn, hu, hl⟩ := len_part (a := a) (x := a % 256) (j := 0) (by omega) (by omega) (by omega) (by omega)
      rw [e]
      refine ⟨n, ?_, by omega, hu, ?_⟩
      · rw [w64 (x := (n : Int)) (by omega) (by omega), w64 (by omega) (by omega)]; congr 1; omega
      · rcases hl with hl | hl
        · left; omega
        · right; exact hl
theorem Lead_eq (a : Int) (h0 : 0 < a) (h1 : a < 4294967296) : ∃ s : Nat, bits_LeadingZeros32.f a = some (s : Int) ∧ s < 32 ∧ 2147483648 ≤ a * 2 ^ s ∧ a * 2 ^ s < 4294967296 := by
  obtain ⟨n, e, hn, hu, hl⟩ := Len32_eq a (by omega) h1
  rcases hl with hl | ⟨h2, hl⟩
  · omega
  · refine ⟨32 - n, ?_, by omega, ?_, ?_⟩
    · unfold bits_LeadingZeros32.f
      rw [e]
      simp only [Option.bind_some]
      rw [w64 (by omega) (by omega)]; congr 1; omega
    · have : (2 : Int) ^ (n - 1) * 2 ^ (32 - n) ≤ a * 2 ^ (32 - n) := Int.mul_le_mul_of_nonneg_right hl (Int.le_of_lt (Int.pow_pos (by decide)))
      rw [← Int.pow_add, show n - 1 + (32 - n) = 31 by omega] at this
      exact this
    · have : a * 2 ^ (32 - n) < (2 : Int) ^ n * 2 ^ (32 - n) := Int.mul_lt_mul_of_pos_right hu (Int.pow_pos (by decide))
      rw [← Int.pow_add, show n + (32 - n) = 32 by omega] at this
      exact this
theorem take_set_succ {xs : List Int} {i : Nat} {v : Int} (h : i < xs.length) : (xs.set i v).take (i + 1) = xs.take i ++ [v] := by
  rw [take_succ' _ _ (by simpa using h), List.take_set_of_le (by omega)]
  congr 2
  rw [List.getD_eq_getElem?_getD, List.getElem?_set_self h]; rfl
theorem drop_set_succ {xs : List Int} {i : Nat} {v : Int} : (xs.set i v).drop (i + 1) = xs.drop (i + 1) := by
  rw [List.drop_set_of_lt (by omega)]
theorem getD_set_self {xs : List Int} {i : Nat} {v : Int} (h : i < xs.length) : (xs.set i v).getD i 0 = v := by rw [List.getD_eq_getElem?_getD, List.getElem?_set_self h]; rfl
theorem getD_set_ne {xs : List Int} {i j : Nat} {v : Int} (h : i ≠ j) : (xs.set i v).getD j 0 = xs.getD j 0 := by rw [List.getD_eq_getElem?_getD, List.getElem?_set_ne h, List.getD_eq_getElem?_getD]
theorem pow_base {s : Nat} (h : s ≤ 32) : (2 : Int) ^ s * 2 ^ (32 - s) = 4294967296 := by
  rw [← Int.pow_add, show s + (32 - s) = 32 by omega]; rfl
theorem pow_lt_base {s : Nat} (h : s < 32) : (2 : Int) ^ s ≤ 2147483648 := by
  have := pow_mono' (B := 2) (by decide) (show s ≤ 31 by omega)
  exact this
theorem or_low {a c : Int} {s : Nat} (h : s < 32) (ha0 : 0 ≤ a) (ha : a < 4294967296) (hm : a % 2 ^ s = 0) (hc0 : 0 ≤ c) (hc : c < 2 ^ s) : Go.bits .or .u32 c a = c + a := by
  have hp := pow_lt_base h
  rw [u32_or _ _ hc0 (by omega) ha0 ha, Nat.or_comm, nat_join s]
  · omega
  · have : ((a.toNat % 2 ^ s : Nat) : Int) = 0 := by
      rw [Int.natCast_emod, Int.toNat_of_nonneg ha0, Int.natCast_pow]; exact hm
    omega
  · have : ((c.toNat : Nat) : Int) < ((2 ^ s : Nat) : Int) := by
      rw [Int.toNat_of_nonneg hc0, Int.natCast_pow]; exact hc
    omega
theorem shl64 {x : Int} {b : Nat} (hb : b < 32) (h0 : 0 ≤ x) (h1 : x < 4294967296) : shl .u64 (IntKind.u64.wrap x) (b : Int) = x * 2 ^ b ∧ 0 ≤ x * 2 ^ b ∧ x * 2 ^ b < 2 ^ b * 4294967296 := by
  have hp := pow_lt_base hb
  have hp0 : (0 : Int) < 2 ^ b := Int.pow_pos (by decide)
  have h2 : 0 ≤ x * 2 ^ b := Int.mul_nonneg h0 (by omega)
  have h3 : x * 2 ^ b < 4294967296 * 2 ^ b := Int.mul_lt_mul_of_pos_right h1 hp0
  rw [u64_id h0 (by omega)]
  unfold shl
  rw [Int.toNat_natCast, Nat.min_eq_left (by simp [IntKind.bits]; omega), u64_id h2 (by omega)]
  exact ⟨rfl, h2, by omega⟩
theorem shl_parts {x : Int} {b : Nat} (hb : b < 32) : (x * 2 ^ b) % 4294967296 % 2 ^ b = 0 ∧ (x * 2 ^ b) % 4294967296 + 2 ^ b ≤ 4294967296 := by
  have hp0 : (0 : Int) < 2 ^ b := Int.pow_pos (by decide)
  have hd : (2 : Int) ^ b ∣ 4294967296 := ⟨2 ^ (32 - b), (pow_base (by omega)).symm⟩
  have h1 : (x * 2 ^ b) % 4294967296 % 2 ^ b = 0 := by
    rw [Int.emod_emod_of_dvd _ hd, Int.mul_emod_left]
  refine ⟨h1, ?_⟩
  obtain ⟨c, hc⟩ := hd
  obtain ⟨e, he⟩ := Int.dvd_of_emod_eq_zero h1
  have hl : (x * 2 ^ b) % 4294967296 < 4294967296 := Int.emod_lt_of_pos _ (by decide)
  rw [he, hc] at *
  have : e < c := Int.lt_of_mul_lt_mul_left hl (by omega)
  have := Int.mul_le_mul_of_nonneg_left (show e + 1 ≤ c by omega) (Int.le_of_lt hp0)
  rw [Int.mul_add, Int.mul_one] at this
  exact this
theorem getD_zeros {out : List Int} {m j : Nat} (h : out.drop m = List.replicate (out.length - m) 0) (hj : m ≤ j) : out.getD j 0 = 0 := by
  have : (out.drop m).getD (j - m) 0 = 0 := by rw [h]; simp [List.getD_eq_getElem?_getD, List.getElem?_replicate]; split <;> rfl
  rw [List.getD_eq_getElem?_getD, List.getElem?_drop, show m + (j - m) = j by omega] at this
  rw [List.getD_eq_getElem?_getD]; exact this
theorem shl_step {x : Int} {b : Nat} (hb : b < 32) (h0 : 0 ≤ x) (h1 : x < 4294967296) : ∃ lo hi : Int, shl .u64 (IntKind.u64.wrap x) (b : Int) % 4294967296 = lo ∧ (shl .u64 (IntKind.u64.wrap x) (b : Int) / 4294967296) % 4294967296 = hi ∧ x * 2 ^ b = lo + 4294967296 * hi ∧ 0 ≤ lo ∧ 0 ≤ hi ∧ hi < 2 ^ b ∧ hi < 4294967296 ∧
    (∀ c : Int, 0 ≤ c → c < 2 ^ b → Go.bits .or .u32 c lo = c + lo ∧ c + lo < 4294967296) ∧ Go.bits .or .u32 0 hi = hi := by
  obtain ⟨s1, s2, s3⟩ := shl64 hb h0 h1
  obtain ⟨p1, p2⟩ := shl_parts (x := x) hb
  have hp := pow_lt_base hb
  have hp0 : (0 : Int) < 2 ^ b := Int.pow_pos (by decide)
  have hlo : 0 ≤ x * 2 ^ b % 4294967296 := Int.emod_nonneg _ (by decide)
  have hlo1 : x * 2 ^ b % 4294967296 < 4294967296 := Int.emod_lt_of_pos _ (by decide)
  have hhi0 : 0 ≤ x * 2 ^ b / 4294967296 := Int.ediv_nonneg s2 (by decide)
  have hhi : x * 2 ^ b / 4294967296 < 2 ^ b := Int.ediv_lt_of_lt_mul (by decide) s3
  have hdm := Int.mul_ediv_add_emod (x * 2 ^ b) 4294967296
  have hhi1 : x * 2 ^ b / 4294967296 < 4294967296 := Int.lt_trans hhi (Int.lt_of_le_of_lt hp (by decide))
  have hc2 : ∀ c : Int, 0 ≤ c → c < 2 ^ b → Go.bits .or .u32 c (x * 2 ^ b % 4294967296) = c + x * 2 ^ b % 4294967296 := fun c hc0 hc => or_low hb hlo hlo1 p1 hc0 hc
  clear p1 s2 s3 h0 h1
  rw [s1, Int.emod_eq_of_lt hhi0 hhi1]
  clear s1
  generalize x * 2 ^ b % 4294967296 = lo at *
  generalize x * 2 ^ b / 4294967296 = hi at *
  refine ⟨lo, hi, rfl, rfl, by rw [← hdm, Int.add_comm], hlo, hhi0, hhi, hhi1, fun c hc0 hc => ⟨hc2 c hc0 hc, by omega⟩, ?_⟩
  rw [u32_or _ _ (by decide) (by decide) hhi0 hhi1]
  simp only [Int.toNat_zero, Nat.zero_or]
  rw [Int.toNat_of_nonneg hhi0]
theorem getD_replicate (n i : Nat) : (List.replicate n (0 : Int)).getD i 0 = 0 := by
  rw [List.getD_eq_getElem?_getD, List.getElem?_replicate]; split <;> rfl
theorem shl_loop (xs : List Int) (w b : Nat) (hx : Lim 4294967296 xs) (hb : b < 32) (hL : xs.length + w ≤ 549755813888) : ∀ (d i : Nat) (out : List Int), d = xs.length - i → i ≤ xs.length → out.length = xs.length + w + 1 → Lim 4294967296 out →
    val 4294967296 out = 4294967296 ^ w * 2 ^ b * val 4294967296 (xs.take i) → out.drop (i + w + 1) = List.replicate (out.length - (i + w + 1)) 0 → out.getD (i + w) 0 < 2 ^ b →
    ∃ r, Ev (fun k => nat_Shl.l0 k (((32 * w + b : Nat)) : Int) out xs (xs.length : Int) (i : Int)) (trim r) ∧ r.length = xs.length + w + 1 ∧ Lim 4294967296 r ∧ val 4294967296 r = 4294967296 ^ w * 2 ^ b * val 4294967296 xs := by
  have hB : (0 : Int) < 4294967296 := by decide
  have e1 : ∀ _ : Unit, Int.tmod ((32 * w + b : Nat) : Int) 32 = b := fun _ => by rw [Int.tmod_eq_emod_of_nonneg (by omega)]; omega
  have e2 : ∀ _ : Unit, wrap64 (Int.tdiv ((32 * w + b : Nat) : Int) 32) = w := fun _ => by rw [Int.tdiv_eq_ediv_of_nonneg (by omega), w64 (by omega) (by omega)]; omega
  intro d
  induction d with
  | zero =>
    intro i out hd hi hlen ho hv hz ht
    have hii : i = xs.length := by omega
    subst hii
    refine ⟨out, ?_, hlen, ho, by rw [hv, List.take_of_length_le (Nat.le_refl _)]⟩
    refine Ev.step (f := fun k => (nat_Trim.f k out).bind fun t => some t) (fun k => ?_) ?_
    · simp only [nat_Shl.l0]; rw [if_neg (by omega)]
    · exact Ev.bind (f := fun _ t => some t) (Trim_ev out (by omega)) (Ev.now _)
  | succ d ih =>
    intro i out hd hi hlen ho hv hz ht
    have g1 : (i : Int) < (xs.length : Int) := by omega
    have g2 : (0 : Int) ≤ (i : Int) := by omega
    have g3 : (0 : Int) ≤ ((i + w : Nat) : Int) := by omega
    have g4 : ((i + w : Nat) : Int) < (out.length : Int) := by omega
    have g5 : (0 : Int) ≤ ((i + w + 1 : Nat) : Int) := by omega
    have g6 : ((i + w + 1 : Nat) : Int) < (out.length : Int) := by omega
    have g7 : ∀ _ : Unit, wrap64 ((i : Int) + 1) = ((i + 1 : Nat) : Int) := fun _ => by rw [w64 (by omega) (by omega)]; omega
    have g8 : (0 : Int) ≤ (b : Int) := by omega
    have g9 : i + w + 1 < out.length := by omega
    have g10 : i + w < out.length := by omega
    have g11 : i < xs.length := by omega
    have g12 : d = xs.length - (i + 1) := by omega
    have f1 : ∀ _ : Unit, wrap64 ((i : Int) + (w : Int)) = ((i + w : Nat) : Int) := fun _ => by rw [w64 (by omega) (by omega)]; omega
    have f2 : ∀ _ : Unit, wrap64 (((i + w : Nat) : Int) + 1) = ((i + w + 1 : Nat) : Int) := fun _ => by rw [w64 (by omega) (by omega)]; omega
    have hz1 : out.getD (i + w + 1) 0 = 0 := getD_zeros hz (by omega)
    have hxi := hx.rd hB (i : Int)
    have hxg : rd xs (i : Int) = xs.getD i 0 := rd_getD xs i
    generalize hy : rd xs (i : Int) = x at hxi hxg
    have hc := ho.getD hB (i + w)
    obtain ⟨lo, hi', s1, s2, s3, hlo, hhi0, hhi, hhi1, hor, hor0⟩ := shl_step hb hxi.1 hxi.2
    have hor2 := (hor _ hc.1 ht).2
    have hor1 := (hor _ hc.1 ht).1
    clear hor
    have hval : val 4294967296 ((out.set (i + w) (out.getD (i + w) 0 + lo)).set (i + w + 1) hi') = 4294967296 ^ w * 2 ^ b * val 4294967296 (xs.take (i + 1)) := by
      rw [val_set _ _ _ _ (by rw [List.length_set]; exact g9), val_set _ _ _ _ g10, hv, getD_set_ne (Nat.ne_of_lt (Nat.lt_succ_self _)), hz1, val_take_succ _ _ _ g11, ← hxg, Int.pow_succ, Int.pow_add]
      clear hv ht hc hhi hhi1 hhi0 hlo hor2 hor1 hor0 s1 s2 ih hz hx ho hy hxi
      grind
    obtain ⟨r, hev, hrl, hrL, hrv⟩ := ih (i + 1) ((out.set (i + w) (out.getD (i + w) 0 + lo)).set (i + w + 1) hi') g12 g11 (by simp [hlen])
      ((ho.set _ ⟨Int.add_nonneg hc.1 hlo, hor2⟩).set _ ⟨hhi0, hhi1⟩) hval (by
        rw [List.length_set, List.length_set, show i + 1 + w + 1 = (i + w + 1) + 1 from by rw [Nat.add_right_comm i 1 w], List.drop_set_of_lt (Nat.lt_succ_self _), List.drop_set_of_lt (Nat.lt_succ_of_lt (Nat.lt_succ_self _)), show List.drop (i + w + 1 + 1) out = (out.drop (i + w + 1)).drop 1 by rw [List.drop_drop], hz, List.drop_replicate]
        rfl) (by
        rw [show i + 1 + w = i + w + 1 from Nat.add_right_comm i 1 w, getD_set_self (by rw [List.length_set]; exact g9)]; exact hhi)
    refine ⟨r, ?_, hrl, hrL, hrv⟩
    refine Ev.step (f := fun k => nat_Shl.l0 k (((32 * w + b : Nat)) : Int) ((out.set (i + w) (out.getD (i + w) 0 + lo)).set (i + w + 1) hi') xs (xs.length : Int) ((i + 1 : Nat) : Int)) (fun k => ?_) hev
    simp only [nat_Shl.l0]
    rw [if_pos g1, if_pos g2, if_pos g1, e1 (), e2 (), if_pos g8, f1 (), if_pos g3, if_pos g4, f2 (), hy, s1, s2, rd_getD, hor1, Option.bind_some, if_pos g5, if_pos g6, rd_getD, Int.toNat_natCast, getD_set_ne (Nat.ne_of_lt (Nat.lt_succ_self _)), Int.toNat_natCast, hz1, hor0, g7 ()]
theorem Shl_ev (xs : List Int) (n : Nat) (hx : Lim 4294967296 xs) (hL : xs.length + n / 32 ≤ 549755813888) :
    ∃ r, Ev (fun k => nat_Shl.f k xs (n : Int)) r ∧ Lim 4294967296 r ∧ Nrm r ∧ val 4294967296 r = val 4294967296 xs * 2 ^ n ∧ r.length ≤ xs.length + n / 32 + 1 := by
  have hB : (0 : Int) < 4294967296 := by decide
  cases xs with
  | nil => exact ⟨[], Ev.const (by rfl), lim_nil _, nrm_nil, by simp [val], by simp⟩
  | cons x xs =>
    obtain ⟨r, h1, h2, h3, h4⟩ := shl_loop (x :: xs) (n / 32) (n % 32) hx (by omega) hL (x :: xs).length 0 (List.replicate ((x :: xs).length + n / 32 + 1) 0) (by omega) (by omega) (by simp) (lim_replicate hB _)
      (by rw [val_replicate, List.take_zero]; simp [val]) (by rw [List.drop_replicate, List.length_replicate]) (by
        have : (0 : Int) < 2 ^ (n % 32) := Int.pow_pos (by decide)
        rw [getD_replicate]; exact this)
    refine ⟨trim r, ?_, lim_trim h3, nrm_trim _, ?_, Nat.le_trans (length_trim _) (by omega)⟩
    · refine Ev.congr (fun k => ?_) h1
      unfold nat_Shl.f
      have e : wrap64 (wrap64 (((x :: xs).length : Int) + wrap64 (Int.tdiv (n : Int) 32)) + 1) = (((x :: xs).length + n / 32 + 1 : Nat) : Int) := by
        rw [Int.tdiv_eq_ediv_of_nonneg (by omega), w64 (x := (n : Int) / 32) (by omega) (by omega), w64 (x := ((x :: xs).length : Int) + (n : Int) / 32) (by omega) (by omega), w64 (by omega) (by omega)]
        omega
      rw [if_neg (by simp; omega), e, if_pos (by omega), if_pos (by omega), Int.toNat_natCast, show 32 * (n / 32) + n % 32 = n by omega]
      rfl
    · rw [val_trim, h4, show (4294967296 : Int) = 2 ^ 32 from rfl, ← Int.pow_mul, ← Int.pow_add, show 32 * (n / 32) + n % 32 = n by omega, Int.mul_comm]
theorem shr_digit {B P P' D0 D1 t : Int} (hP : 0 < P) (hP' : 0 < P') (hB : P * P' = B) (h0 : 0 ≤ D0) (h1 : D0 < B) :
    ((D0 + B * D1) / P) % B + B * ((D1 + B * t) / P) = (D0 + B * (D1 + B * t)) / P := by
  have hB0 : 0 < B := by rw [← hB]; exact Int.mul_pos hP hP'
  have hq := Int.mul_ediv_add_emod (D1 + B * t) P
  have hr0 : 0 ≤ (D1 + B * t) % P := Int.emod_nonneg _ (by omega)
  have hr1 : (D1 + B * t) % P < P := Int.emod_lt_of_pos _ hP
  generalize (D1 + B * t) / P = q at *
  generalize (D1 + B * t) % P = r at *
  have e1 : D0 + B * (D1 + B * t) = (D0 + B * r) + P * (B * q) := by rw [← hq]; grind
  have e2 : D0 + B * D1 = (D0 + B * r) + P * (B * (q - P' * t)) := by
    have : D1 = P * q + r - B * t := by omega
    rw [this]; grind
  rw [e1, e2, Int.add_mul_ediv_left _ _ (by omega), Int.add_mul_ediv_left _ _ (by omega), Int.add_mul_emod_self_left]
  rw [Int.emod_eq_of_lt (Int.ediv_nonneg (Int.add_nonneg h0 (Int.mul_nonneg (by omega) hr0)) (by omega))]
  refine Int.ediv_lt_of_lt_mul hP ?_
  have : B * (r + 1) ≤ B * P := Int.mul_le_mul_of_nonneg_left (by omega) (by omega)
  rw [Int.mul_add, Int.mul_one] at this
  omega
theorem shr64 {x : Int} {b : Nat} (hb : b < 32) : shr .u64 x (b : Int) = x / 2 ^ b := by
  unfold shr
  rw [Int.toNat_natCast, Nat.min_eq_left (by simp [IntKind.bits]; omega)]
theorem shr_at {x y : Int} {b : Nat} (hb : b < 32) (hx0 : 0 ≤ x) (hx : x < 4294967296) (hy0 : 0 ≤ y) (hy : y < 4294967296) :
    shr .u64 (Go.bits .or .u64 (IntKind.u64.wrap x) (IntKind.u64.wrap ((IntKind.u64.wrap y) * 4294967296))) (b : Int) % 4294967296 = ((x + 4294967296 * y) / 2 ^ b) % 4294967296 := by
  rw [shr64 hb, u64_id hx0 (by omega), u64_id hy0 (by omega), u64_id (by omega) (by omega), bits_or_shift' hy0 hy hx0 hx, show y * 4294967296 + x = x + 4294967296 * y by omega]
theorem shr_loop (xs : List Int) (w b : Nat) (hx : Lim 4294967296 xs) (hb : b < 32) (hw : w ≤ xs.length) (hL : xs.length + w ≤ 549755813888) (ex : Bool) : ∀ (d i : Nat) (out : List Int), d + i = xs.length - w → out.length = xs.length - w → Lim 4294967296 out →
    val 4294967296 (out.take i) + 4294967296 ^ i * (val 4294967296 ((xs.drop w).drop i) / 2 ^ b) = val 4294967296 (xs.drop w) / 2 ^ b →
    ∃ r, Ev (fun k => nat_Shr.l0 k xs (((32 * w + b : Nat)) : Int) out ex (w : Int) (out.length : Int) (i : Int)) (trim r, ex) ∧ r.length = xs.length - w ∧ Lim 4294967296 r ∧ val 4294967296 r = val 4294967296 (xs.drop w) / 2 ^ b := by
  have hB : (0 : Int) < 4294967296 := by decide
  have e1 : ∀ _ : Unit, Int.tmod ((32 * w + b : Nat) : Int) 32 = b := fun _ => by rw [Int.tmod_eq_emod_of_nonneg (by omega)]; omega
  intro d
  induction d with
  | zero =>
    intro i out hd hlen ho hv
    refine ⟨out, ?_, hlen, ho, ?_⟩
    · refine Ev.step (f := fun k => (nat_Trim.f k out).bind fun t => some (t, ex)) (fun k => ?_) ?_
      · simp only [nat_Shr.l0]; rw [if_neg (by omega)]
      · exact Ev.bind (f := fun _ t => some (t, ex)) (Trim_ev out (by omega)) (Ev.now _)
    · rw [List.take_of_length_le (by omega), List.drop_of_length_le (by rw [List.length_drop]; omega)] at hv
      simp only [val, Int.zero_ediv, Int.mul_zero, Int.add_zero] at hv
      exact hv
  | succ d ih =>
    intro i out hd hlen ho hv
    have g1 : (i : Int) < (out.length : Int) := by omega
    have g2 : (0 : Int) ≤ (i : Int) := by omega
    have g3 : (0 : Int) ≤ ((i + w : Nat) : Int) := by omega
    have g4 : ((i + w : Nat) : Int) < (xs.length : Int) := by omega
    have g5 : (0 : Int) ≤ ((i + w + 1 : Nat) : Int) := by omega
    have g7 : ∀ _ : Unit, wrap64 ((i : Int) + 1) = ((i + 1 : Nat) : Int) := fun _ => by rw [w64 (by omega) (by omega)]; omega
    have g8 : (0 : Int) ≤ (b : Int) := by omega
    have g9 : i < out.length := by omega
    have g10 : i < (xs.drop w).length := by rw [List.length_drop]; omega
    have f1 : ∀ _ : Unit, wrap64 ((i : Int) + (w : Int)) = ((i + w : Nat) : Int) := fun _ => by rw [w64 (by omega) (by omega)]; omega
    have f2 : ∀ _ : Unit, wrap64 (((i + w : Nat) : Int) + 1) = ((i + w + 1 : Nat) : Int) := fun _ => by rw [w64 (by omega) (by omega)]; omega
    have hg : (xs.drop w).getD i 0 = rd xs ((i + w : Nat) : Int) := by rw [rd_getD, List.getD_eq_getElem?_getD, List.getElem?_drop, List.getD_eq_getElem?_getD, Nat.add_comm]
    have hxi := hx.rd hB ((i + w : Nat) : Int)
    have hyi := hx.rd hB ((i + w + 1 : Nat) : Int)
    have hP0 : (0 : Int) < 2 ^ b := Int.pow_pos (by decide)
    have hP1 : (0 : Int) < 2 ^ (32 - b) := Int.pow_pos (by decide)
    have hs : ∀ (D1 t : Int), val 4294967296 ((xs.drop w).drop (i + 1)) = D1 + 4294967296 * t →
        val 4294967296 ((out.set i (((rd xs ((i + w : Nat) : Int) + 4294967296 * D1) / 2 ^ b) % 4294967296)).take (i + 1)) + 4294967296 ^ (i + 1) * (val 4294967296 ((xs.drop w).drop (i + 1)) / 2 ^ b) = val 4294967296 (xs.drop w) / 2 ^ b := by
      intro D1 t h
      have hd := shr_digit (t := t) (D1 := D1) hP0 hP1 (pow_base (show b ≤ 32 by omega)) hxi.1 hxi.2
      rw [take_set_succ g9, val_snoc, List.length_take, Nat.min_eq_left (by omega), ← hv, val_drop _ _ i g10, h, hg, ← hd, Int.pow_succ]
      grind
    have hset : ∀ v : Int, Lim 4294967296 (out.set i (v % 4294967296)) := fun v => ho.set _ ⟨Int.emod_nonneg _ (by decide), Int.emod_lt_of_pos _ (by decide)⟩
    by_cases c : i + w + 1 < xs.length
    · obtain ⟨r, hev, hrl, hrL, hrv⟩ := ih (i + 1) (out.set i (((rd xs ((i + w : Nat) : Int) + 4294967296 * rd xs ((i + w + 1 : Nat) : Int)) / 2 ^ b) % 4294967296)) (by omega) (by rw [List.length_set]; exact hlen) (hset _)
        (hs _ (val 4294967296 ((xs.drop w).drop (i + 2))) (by
          rw [val_drop _ _ (i + 1) (by rw [List.length_drop]; omega), rd_getD, List.getD_eq_getElem?_getD, List.getElem?_drop, List.getD_eq_getElem?_getD, show w + (i + 1) = i + w + 1 by omega]))
      refine ⟨r, ?_, hrl, hrL, hrv⟩
      rw [List.length_set] at hev
      refine Ev.step (f := fun k => nat_Shr.l0 k xs (((32 * w + b : Nat)) : Int) (out.set i (((rd xs ((i + w : Nat) : Int) + 4294967296 * rd xs ((i + w + 1 : Nat) : Int)) / 2 ^ b) % 4294967296)) ex (w : Int) (out.length : Int) ((i + 1 : Nat) : Int)) (fun k => ?_) hev
      simp only [nat_Shr.l0]
      have c' : ((i + w + 1 : Nat) : Int) < (xs.length : Int) := by omega
      rw [if_pos g1, f1 (), if_pos g3, if_pos g4, f2 (), if_pos c', if_pos g5, e1 (), if_pos g8, if_pos g2, if_pos g1, shr_at hb hxi.1 hxi.2 hyi.1 hyi.2, g7 (), Int.toNat_natCast]
    · obtain ⟨r, hev, hrl, hrL, hrv⟩ := ih (i + 1) (out.set i (((rd xs ((i + w : Nat) : Int) + 4294967296 * 0) / 2 ^ b) % 4294967296)) (by omega) (by rw [List.length_set]; exact hlen) (hset _)
        (hs 0 0 (by rw [List.drop_of_length_le (by rw [List.length_drop]; omega)]; rfl))
      refine ⟨r, ?_, hrl, hrL, hrv⟩
      rw [List.length_set, Int.mul_zero, Int.add_zero] at hev
      refine Ev.step (f := fun k => nat_Shr.l0 k xs (((32 * w + b : Nat)) : Int) (out.set i ((rd xs ((i + w : Nat) : Int) / 2 ^ b) % 4294967296)) ex (w : Int) (out.length : Int) ((i + 1 : Nat) : Int)) (fun k => ?_) hev
      simp only [nat_Shr.l0]
      have c' : ¬ ((i + w + 1 : Nat) : Int) < (xs.length : Int) := by omega
      rw [if_pos g1, f1 (), if_pos g3, if_pos g4, f2 (), if_neg c', e1 (), if_pos g8, if_pos g2, if_pos g1, u64_id hxi.1 (by omega), shr64 hb, g7 (), Int.toNat_natCast]
theorem and_low {x : Int} {b : Nat} (hb : b < 32) (h0 : 0 ≤ x) (h1 : x < 4294967296) : Go.bits .and .u32 x (((shl .u32 1 (b : Int)) - 1) % 4294967296) = x % 2 ^ b := by
  have hp := pow_lt_base hb
  have hp0 : (0 : Int) < 2 ^ b := Int.pow_pos (by decide)
  have e : shl .u32 1 (b : Int) = 2 ^ b := by
    unfold shl
    rw [Int.toNat_natCast, Nat.min_eq_left (by simp [IntKind.bits]; omega), Int.one_mul]
    simp [IntKind.wrap, IntKind.bits, IntKind.signed]
    exact Int.emod_eq_of_lt (by omega) (by omega)
  rw [e, Int.emod_eq_of_lt (by omega) (by omega), u32_and _ _ h0 h1 (by omega) (by omega)]
  have e2 : ((2 : Int) ^ b - 1).toNat = 2 ^ b - 1 := by
    have : ((2 ^ b : Nat) : Int) = (2 : Int) ^ b := by rw [Int.natCast_pow]; rfl
    omega
  rw [e2, Nat.and_two_pow_sub_one_eq_mod, Int.natCast_emod, Int.toNat_of_nonneg h0, Int.natCast_pow]; rfl
theorem Shr_ev (xs : List Int) (n : Nat) (hx : Lim 4294967296 xs) (hn : Nrm xs) (hL : xs.length ≤ 274877906944) (hn2 : n / 32 ≤ 274877906944) :
    ∃ r, Ev (fun k => nat_Shr.f k xs (n : Int)) (r, decide (val 4294967296 xs % 2 ^ n = 0)) ∧ Lim 4294967296 r ∧ Nrm r ∧ val 4294967296 r = val 4294967296 xs / 2 ^ n ∧ r.length ≤ xs.length := by
  have hB : (0 : Int) < 4294967296 := by decide
  have e0 : (2 : Int) ^ n = 4294967296 ^ (n / 32) * 2 ^ (n % 32) := by
    rw [show (4294967296 : Int) = 2 ^ 32 from rfl, ← Int.pow_mul, ← Int.pow_add, show 32 * (n / 32) + n % 32 = n by omega]
  have hP0 : (0 : Int) < 2 ^ (n % 32) := Int.pow_pos (by decide)
  have hW0 : (0 : Int) < 4294967296 ^ (n / 32) := Int.pow_pos (by decide)
  have e2 : ∀ _ : Unit, wrap64 (Int.tdiv (n : Int) 32) = ((n / 32 : Nat) : Int) := fun _ => by rw [Int.tdiv_eq_ediv_of_nonneg (by omega), w64 (by omega) (by omega)]; omega
  have en : n = 32 * (n / 32) + n % 32 := by omega
  have e1 : ∀ _ : Unit, Int.tmod (n : Int) 32 = ((n % 32 : Nat) : Int) := fun _ => by rw [Int.tmod_eq_emod_of_nonneg (by omega)]; omega
  have hb : n % 32 < 32 := by omega
  generalize hw : n / 32 = w at *
  generalize hbb : n % 32 = b at *
  by_cases c : w ≥ xs.length
  · have hv := val_lt hB hx
    have hv0 := val_nonneg hB hx
    have hm := pow_mono' hB c
    have hlt : val 4294967296 xs < 4294967296 ^ w * 2 ^ b := by
      have : 4294967296 ^ w * 1 ≤ (4294967296 : Int) ^ w * 2 ^ b := Int.mul_le_mul_of_nonneg_left (by omega) (by omega)
      omega
    refine ⟨[], ⟨0, fun k _ => ?_⟩, lim_nil _, nrm_nil, ?_, by simp⟩
    · simp only [nat_Shr.f]
      rw [e2 (), if_pos (by omega)]
      rw [e0, Int.emod_eq_of_lt hv0 hlt]
      have h8 : ((xs.length : Int) == 0) = decide (val 4294967296 xs = 0) := by
        have h9 := val_eq_zero hB hx hn
        by_cases h7 : xs = []
        · rw [decide_eq_true (h9.2 h7), h7]; rfl
        · rw [decide_eq_false (fun h => h7 (h9.1 h)), beq_eq_false_iff_ne]
          intro h; exact h7 (List.length_eq_zero_iff.1 (by omega))
      rw [h8]
    · rw [e0, Int.ediv_eq_zero_of_lt hv0 hlt]; rfl
  · have c1 : w < xs.length := by omega
    have hs := val_split 4294967296 xs w (by omega)
    have ht0 := val_nonneg hB (hx.take w)
    have ht1 := val_lt hB (hx.take w)
    rw [List.length_take, Nat.min_eq_left (by omega)] at ht1
    have hd0 := val_nonneg hB (hx.drop w)
    have hdiv : val 4294967296 xs / 2 ^ n = val 4294967296 (xs.drop w) / 2 ^ b := by
      rw [e0, ← Int.ediv_ediv_of_nonneg (by omega), hs, Int.add_mul_ediv_left _ _ (by omega), Int.ediv_eq_zero_of_lt ht0 ht1, Int.zero_add]
    have hmod : (val 4294967296 xs % 2 ^ n = 0) ↔ (val 4294967296 (xs.take w) = 0 ∧ val 4294967296 (xs.drop w) % 2 ^ b = 0) := by
      have hdm := Int.mul_ediv_add_emod (val 4294967296 (xs.drop w)) (2 ^ b)
      have hr0 : 0 ≤ val 4294967296 (xs.drop w) % 2 ^ b := Int.emod_nonneg _ (by omega)
      have hr1 : val 4294967296 (xs.drop w) % 2 ^ b < 2 ^ b := Int.emod_lt_of_pos _ hP0
      have h1 : val 4294967296 xs % 2 ^ n = val 4294967296 (xs.take w) + 4294967296 ^ w * (val 4294967296 (xs.drop w) % 2 ^ b) := by
        rw [e0, hs, ← hdm]
        generalize val 4294967296 (xs.drop w) / 2 ^ b = q at *
        generalize val 4294967296 (xs.drop w) % 2 ^ b = r at *
        rw [show val 4294967296 (xs.take w) + 4294967296 ^ w * (2 ^ b * q + r) = (val 4294967296 (xs.take w) + 4294967296 ^ w * r) + (4294967296 ^ w * 2 ^ b) * q by grind, Int.add_mul_emod_self_left]
        have h3 : 4294967296 ^ w * (r + 1) ≤ 4294967296 ^ w * 2 ^ b := Int.mul_le_mul_of_nonneg_left (by omega) (by omega)
        rw [Int.mul_add, Int.mul_one] at h3
        rw [show (2 ^ b * q + r) % 2 ^ b = r by rw [Int.add_comm, Int.add_mul_emod_self_left]; exact Int.emod_eq_of_lt hr0 hr1]
        exact Int.emod_eq_of_lt (Int.add_nonneg ht0 (Int.mul_nonneg (by omega) hr0)) (by omega)
      rw [h1]
      generalize val 4294967296 (xs.drop w) % 2 ^ b = r at *
      have h4 : 0 ≤ 4294967296 ^ w * r := Int.mul_nonneg (by omega) hr0
      constructor
      · intro h
        have h5 : 4294967296 ^ w * r = 0 := by omega
        rcases Int.mul_eq_zero.1 h5 with h6 | h6
        · omega
        · exact ⟨by omega, h6⟩
      · rintro ⟨h5, h6⟩
        rw [h5, h6]; simp
    have hl : ∀ ex : Bool, ∃ r, Ev (fun k => nat_Shr.j0 k xs (n : Int) ex (w : Int)) (trim r, ex) ∧ r.length = xs.length - w ∧ Lim 4294967296 r ∧ val 4294967296 r = val 4294967296 (xs.drop w) / 2 ^ b := by
      intro ex
      obtain ⟨r, h1, h2, h3, h4⟩ := shr_loop xs w b hx hb (by omega) (by omega) ex (xs.length - w) 0 (List.replicate (xs.length - w) 0) (by omega) (by simp) (lim_replicate hB _) (by simp [val])
      refine ⟨r, ?_, h2, h3, h4⟩
      rw [← en] at h1
      refine Ev.step (fun k => ?_) h1
      have e3 : wrap64 ((xs.length : Int) - (w : Int)) = ((xs.length - w : Nat) : Int) := by rw [w64 (by omega) (by omega)]; omega
      simp only [nat_Shr.j0]
      rw [e3, if_pos (by omega), Int.toNat_natCast, if_pos (by omega), Option.bind_some]
      rfl
    have hlow : val 4294967296 (xs.drop w) % 2 ^ b = rd xs (w : Int) % 2 ^ b := by
      rw [val_drop _ xs w c1, rd_getD]
      have : (4294967296 : Int) * val 4294967296 (xs.drop (w + 1)) = 2 ^ b * (2 ^ (32 - b) * val 4294967296 (xs.drop (w + 1))) := by rw [← pow_base (show b ≤ 32 by omega)]; grind
      rw [this, Int.add_mul_emod_self_left]
    obtain ⟨r, h1, h2, h3, h4⟩ := hl (decide (val 4294967296 xs % 2 ^ n = 0))
    refine ⟨trim r, ?_, lim_trim h3, nrm_trim _, by rw [val_trim, h4, hdiv], Nat.le_trans (length_trim _) (by omega)⟩
    have hcl : ∀ k, nat_Shr.f k xs (n : Int) = (nat_Trim.f k (xs.take w)).bind fun t143 => (if (t143.length : Int) = 0 then nat_Shr.j0 k xs (n : Int) (rd xs (w : Int) % 2 ^ b == 0) (w : Int) else nat_Shr.j0 k xs (n : Int) false (w : Int)) := by
      intro k
      have hxi := hx.rd hB (w : Int)
      simp only [nat_Shr.f, slices_Clone_uint32_uint32.f]
      rw [e2 (), e1 (), if_neg (by omega), if_pos (by omega), if_pos (by omega), Int.toNat_natCast, if_pos (by rw [List.length_take]; omega), Option.bind_some, if_pos (by omega), if_pos (by omega), and_low hb hxi.1 hxi.2]
    refine Ev.congr hcl (Ev.bind (f := fun k t143 => (if (List.length t143 : Int) = 0 then nat_Shr.j0 k xs (n : Int) (rd xs (w : Int) % 2 ^ b == 0) (w : Int) else nat_Shr.j0 k xs (n : Int) false (w : Int))) (Trim_ev (xs.take w) (by rw [List.length_take]; omega)) ?_)
    have hz : val 4294967296 (xs.take w) = 0 ↔ trim (xs.take w) = [] := by
      rw [← val_trim]; exact val_eq_zero hB (lim_trim (hx.take w)) (nrm_trim _)
    by_cases c2 : trim (xs.take w) = []
    · have : decide (val 4294967296 xs % 2 ^ n = 0) = (rd xs (w : Int) % 2 ^ b == 0) := by
        have h8 : (val 4294967296 xs % 2 ^ n = 0) ↔ (rd xs (w : Int) % 2 ^ b = 0) := by rw [hmod, hlow]; exact ⟨fun h => h.2, fun h => ⟨hz.2 c2, h⟩⟩
        by_cases h7 : rd xs (w : Int) % 2 ^ b = 0
        · rw [decide_eq_true (h8.2 h7), h7]; rfl
        · rw [decide_eq_false (fun h => h7 (h8.1 h)), eq_comm, beq_eq_false_iff_ne]; exact h7
      rw [this] at h1
      simp only [c2, List.length_nil, Int.natCast_zero, if_true]
      rw [this]
      exact h1
    · have : decide (val 4294967296 xs % 2 ^ n = 0) = false := by
        rw [decide_eq_false_iff_not, hmod]
        intro h
        exact c2 (hz.1 h.1)
      rw [this] at h1
      have h0 : ¬ ((trim (xs.take w)).length : Int) = 0 := by
        intro h
        exact c2 (List.length_eq_zero_iff.1 (by omega))
      simp only [if_neg h0]
      rw [this]
      exact h1
theorem knuth_ge {B q V U v12 top3 Pm Vl Ul : Int} (hV : V = v12 * Pm + Vl) (hVl : 0 ≤ Vl) (hU : U = top3 * Pm + Ul) (hUl : Ul < Pm) (hP : 0 < Pm) (hq : q * V ≤ U) (hq0 : 0 ≤ q) : q * v12 ≤ top3 := by
  have h1 : q * v12 * Pm ≤ U := by
    have : 0 ≤ q * Vl := Int.mul_nonneg hq0 hVl
    subst hV; grind
  have h2 : q * v12 * Pm < (top3 + 1) * Pm := by grind
  have := Int.lt_of_mul_lt_mul_right h2 (by omega)
  omega
theorem knuth_le {B g V U v12 top3 Pm Vl Ul q : Int} (hV : V = v12 * Pm + Vl) (hVl : Vl < Pm) (hU : U = top3 * Pm + Ul) (hUl : 0 ≤ Ul) (hP : 0 < Pm) (hg0 : 0 ≤ g) (hg : g < B) (h : g * v12 ≤ top3) (hBV : B * Pm ≤ V) (hq : U < (q + 1) * V) (hV0 : 0 < V) : g ≤ q + 1 := by
  have h1 : g * v12 * Pm ≤ top3 * Pm := Int.mul_le_mul_of_nonneg_right h (by omega)
  have h2 : g * Vl ≤ g * Pm := Int.mul_le_mul_of_nonneg_left (by omega) hg0
  have h3 : g * Pm < B * Pm := Int.mul_lt_mul_of_pos_right hg hP
  have h4 : (g - 1) * V < (q + 1) * V := by subst hV; grind
  have := Int.lt_of_mul_lt_mul_right h4 (by omega)
  omega
theorem sub_step {a lo w : Int} (ha0 : 0 ≤ a) (ha : a < 4294967296) (hl0 : 0 ≤ lo) (hl : lo < 4294967296) (hw0 : 0 ≤ w) (hw : w ≤ 1) :
    ∃ d b' : Int, IntKind.u64.wrap (IntKind.u64.wrap (IntKind.u64.wrap a - lo) - w) % 4294967296 = d ∧ Go.bits .and .u64 (IntKind.u64.wrap (IntKind.u64.wrap (IntKind.u64.wrap a - lo) - w) / 4294967296) 1 = b' ∧ 0 ≤ d ∧ d < 4294967296 ∧ 0 ≤ b' ∧ b' ≤ 1 ∧ d - 4294967296 * b' = a - lo - w := by
  rw [u64_id ha0 (by omega), u64w, u64w]
  by_cases h : a - lo - w < 0
  · have e : ((a - lo) % 18446744073709551616 - w) % 18446744073709551616 = a - lo - w + 18446744073709551616 := by omega
    rw [e, bits_and_one (by omega) (by omega)]
    exact ⟨_, _, rfl, rfl, by omega, by omega, by omega, by omega, by omega⟩
  · have e : ((a - lo) % 18446744073709551616 - w) % 18446744073709551616 = a - lo - w := by omega
    rw [e, bits_and_one (by omega) (by omega)]
    exact ⟨_, _, rfl, rfl, by omega, by omega, by omega, by omega, by omega⟩
theorem mul_lim {g b : Int} (hg0 : 0 ≤ g) (hg : g < 4294967296) (hb0 : 0 ≤ b) (hb : b < 4294967296) : 0 ≤ g * b ∧ g * b ≤ 18446744065119617025 := by
  refine ⟨Int.mul_nonneg hg0 hb0, ?_⟩
  have h1 : g * b ≤ g * 4294967295 := Int.mul_le_mul_of_nonneg_left (by omega) hg0
  omega
theorem mul_step {c g b : Int} (hc0 : 0 ≤ c) (hc : c < 4294967296) (hg0 : 0 ≤ g) (hg : g < 4294967296) (hb0 : 0 ≤ b) (hb : b < 4294967296) :
    ∃ lo c' : Int, IntKind.u64.wrap (c + IntKind.u64.wrap (g * IntKind.u64.wrap b)) % 4294967296 = lo ∧ IntKind.u64.wrap (c + IntKind.u64.wrap (g * IntKind.u64.wrap b)) / 4294967296 = c' ∧ 0 ≤ lo ∧ lo < 4294967296 ∧ 0 ≤ c' ∧ c' < 4294967296 ∧ c + g * b = lo + 4294967296 * c' := by
  obtain ⟨h1, h2⟩ := mul_lim hg0 hg hb0 hb
  rw [u64_id hb0 (by omega), u64_id (x := g * b) h1 (by omega), u64_id (by omega) (by omega)]
  generalize g * b = p at *
  exact ⟨_, _, rfl, rfl, by omega, by omega, by omega, by omega, by omega⟩
theorem add_step {c a b : Int} (hc0 : 0 ≤ c) (hc : c ≤ 1) (ha0 : 0 ≤ a) (ha : a < 4294967296) (hb0 : 0 ≤ b) (hb : b < 4294967296) :
    ∃ lo c' : Int, IntKind.u64.wrap (c + IntKind.u64.wrap (IntKind.u64.wrap a + IntKind.u64.wrap b)) % 4294967296 = lo ∧ IntKind.u64.wrap (c + IntKind.u64.wrap (IntKind.u64.wrap a + IntKind.u64.wrap b)) / 4294967296 = c' ∧ 0 ≤ lo ∧ lo < 4294967296 ∧ 0 ≤ c' ∧ c' ≤ 1 ∧ c + a + b = lo + 4294967296 * c' := by
  rw [u64_id ha0 (by omega), u64_id hb0 (by omega), u64_id (x := a + b) (by omega) (by omega), u64_id (by omega) (by omega)]
  exact ⟨_, _, rfl, rfl, by omega, by omega, by omega, by omega, by omega⟩
theorem digit_l2 (v : List Int) (g : Int) (hv : Lim 4294967296 v) (hL : v.length ≤ 549755813888) : ∀ (d i : Nat) (u0 u : List Int) (c : Int), d + i = v.length → u.length = v.length + 1 → Lim 4294967296 u → 0 ≤ c → c ≤ 1 →
    val 4294967296 (u.take i) + 4294967296 ^ i * c = val 4294967296 (u0.take i) + val 4294967296 (v.take i) → u.drop i = u0.drop i → u0.length = v.length + 1 →
    ∃ r, Ev (fun k => nat_digit.l2 k u v (v.length : Int) g c (v.length : Int) (i : Int)) (IntKind.u64.wrap (g - 1) % 4294967296, r) ∧ Lim 4294967296 r ∧ r.length = v.length + 1 ∧ ∃ z : Int, val 4294967296 r = val 4294967296 u0 + val 4294967296 v - 4294967296 ^ (v.length + 1) * z := by
  have hB : (0 : Int) < 4294967296 := by decide
  intro d
  induction d with
  | zero =>
    intro i u0 u c hd hl hu hc0 hc hval hdr hl0
    have hi : i = v.length := by omega
    subst hi
    have hxi := hu.rd hB (v.length : Int)
    have hx0 : rd u (v.length : Int) = u.getD v.length 0 := rd_getD u _
    have hx1 : u0.getD v.length 0 = u.getD v.length 0 := by
      have h1 : (u.drop v.length).getD 0 0 = (u0.drop v.length).getD 0 0 := by rw [hdr]
      rw [List.getD_eq_getElem?_getD, List.getElem?_drop, List.getD_eq_getElem?_getD, List.getElem?_drop] at h1
      rw [List.getD_eq_getElem?_getD, List.getD_eq_getElem?_getD]; exact h1.symm
    refine ⟨u.set v.length ((rd u (v.length : Int) + c) % 4294967296), Ev.step (f := fun _ => some (IntKind.u64.wrap (g - 1) % 4294967296, u.set v.length ((rd u (v.length : Int) + c) % 4294967296))) (fun k => ?_) (Ev.now _), hu.set _ ⟨Int.emod_nonneg _ (by decide), Int.emod_lt_of_pos _ hB⟩, by rw [List.length_set, hl], (rd u (v.length : Int) + c) / 4294967296, ?_⟩
    · simp only [nat_digit.l2]
      rw [if_neg (by omega), if_pos (by omega), if_pos (by omega), Int.emod_eq_of_lt hc0 (by omega : c < 4294967296), Int.toNat_natCast]
    · have hs1 := val_take_succ 4294967296 u v.length (by omega)
      have hs0 := val_take_succ 4294967296 u0 v.length (by omega)
      rw [List.take_of_length_le (by omega)] at hs1 hs0
      rw [List.take_of_length_le (Nat.le_refl _)] at hval
      rw [val_set _ _ _ _ (by omega), hs0, hx1]
      have hdm := Int.mul_ediv_add_emod (rd u (v.length : Int) + c) 4294967296
      rw [hx0] at hdm ⊢
      rw [hs1, Int.pow_succ]
      generalize (u.getD v.length 0 + c) / 4294967296 = z at *
      generalize (u.getD v.length 0 + c) % 4294967296 = y at *
      grind
  | succ d ih =>
    intro i u0 u c hd hl hu hc0 hc hval hdr hl0
    have g1 : (i : Int) < (v.length : Int) := by omega
    have g2 : (0 : Int) ≤ (i : Int) := by omega
    have g3 : (i : Int) < (u.length : Int) := by omega
    have g4 : i < v.length := by omega
    have g5 : i < u.length := by omega
    have g6 : i < u0.length := by omega
    have g7 : ∀ _ : Unit, wrap64 ((i : Int) + 1) = ((i + 1 : Nat) : Int) := fun _ => by rw [w64 (by omega) (by omega)]; omega
    have g8 : d + (i + 1) = v.length := by omega
    have hxi := hu.rd hB (i : Int)
    have hyi := hv.rd hB (i : Int)
    obtain ⟨lo, c', s1, s2, hlo0, hlo, hc'0, hc', hs⟩ := add_step hc0 hc hxi.1 hxi.2 hyi.1 hyi.2
    have hux : rd u (i : Int) = u0.getD i 0 := by
      rw [rd_getD]
      have h1 : (u.drop i).getD 0 0 = (u0.drop i).getD 0 0 := by rw [hdr]
      rw [List.getD_eq_getElem?_getD, List.getElem?_drop, List.getD_eq_getElem?_getD, List.getElem?_drop] at h1
      rw [List.getD_eq_getElem?_getD, List.getD_eq_getElem?_getD]; exact h1
    have hvx : rd v (i : Int) = v.getD i 0 := rd_getD v i
    obtain ⟨r, hev, h1, h2, h3⟩ := ih (i + 1) u0 (u.set i lo) c' g8 (by rw [List.length_set, hl]) (hu.set _ ⟨hlo0, hlo⟩) hc'0 hc' (by
        rw [take_set_succ g5, val_snoc, List.length_take, Nat.min_eq_left (Nat.le_of_lt g5), val_take_succ _ _ _ g4, val_take_succ _ _ _ g6, ← hux, ← hvx, Int.pow_succ]
        clear ih hdr hu hv s1 s2 hxi hyi hux hvx
        grind) (by rw [drop_set_succ, ← List.drop_drop, ← List.drop_drop, hdr]) hl0
    refine ⟨r, Ev.step (f := fun k => nat_digit.l2 k (u.set i lo) v (v.length : Int) g c' (v.length : Int) ((i + 1 : Nat) : Int)) (fun k => ?_) hev, h1, h2, h3⟩
    simp only [nat_digit.l2]
    rw [if_pos g1, if_pos g2, if_pos g3, if_pos g1, s1, s2, g7 (), Int.toNat_natCast]
theorem digit_l1 (v : List Int) (g : Int) (hg0 : 0 ≤ g) (hg : g < 4294967296) (hv : Lim 4294967296 v) (hL : v.length ≤ 549755813888) (q : Int) (u0 : List Int) (hu0 : Lim 4294967296 u0) (hl0 : u0.length = v.length + 1) (hq0 : 0 ≤ q) (hqV : q * val 4294967296 v ≤ val 4294967296 u0) (hqU : val 4294967296 u0 < (q + 1) * val 4294967296 v) (hqg : q ≤ g) (hgq : g ≤ q + 1) : ∀ (d i : Nat) (u : List Int) (b c : Int), d + i = v.length → u.length = v.length + 1 → Lim 4294967296 u → 0 ≤ b → b ≤ 1 → 0 ≤ c → c < 4294967296 →
    val 4294967296 (u.take i) - 4294967296 ^ i * b = val 4294967296 (u0.take i) - g * val 4294967296 (v.take i) + 4294967296 ^ i * c → u.drop i = u0.drop i →
    ∃ r, Ev (fun k => nat_digit.l1 k u v (v.length : Int) g b c (v.length : Int) (i : Int)) (q, r) ∧ Lim 4294967296 r ∧ r.length = v.length + 1 ∧ val 4294967296 r = val 4294967296 u0 - q * val 4294967296 v := by
  have hB : (0 : Int) < 4294967296 := by decide
  intro d
  induction d with
  | zero =>
    intro i u b c hd hl hu hb0 hb hc0 hc hval hdr
    have hi : i = v.length := by omega
    subst hi
    have hxi := hu.rd hB (v.length : Int)
    have hx0 : rd u (v.length : Int) = u.getD v.length 0 := rd_getD u _
    have hx1 : u0.getD v.length 0 = u.getD v.length 0 := by
      have h1 : (u.drop v.length).getD 0 0 = (u0.drop v.length).getD 0 0 := by rw [hdr]
      rw [List.getD_eq_getElem?_getD, List.getElem?_drop, List.getD_eq_getElem?_getD, List.getElem?_drop] at h1
      rw [List.getD_eq_getElem?_getD, List.getD_eq_getElem?_getD]; exact h1.symm
    obtain ⟨y, b', s1, s2, hy0, hy, hb'0, hb', hs⟩ := sub_step (lo := c) hxi.1 hxi.2 hc0 hc hb0 hb
    have hlen : v.length < u.length := by omega
    have hul : Lim 4294967296 (u.set v.length y) := hu.set _ ⟨hy0, hy⟩
    have hul1 : (u.set v.length y).length = v.length + 1 := by rw [List.length_set, hl]
    have hfin : val 4294967296 (u.set v.length y) - 4294967296 ^ (v.length + 1) * b' = val 4294967296 u0 - g * val 4294967296 v := by
      have hs1 := val_take_succ 4294967296 u v.length (by omega)
      have hs0 := val_take_succ 4294967296 u0 v.length (by omega)
      rw [List.take_of_length_le (by omega)] at hs1 hs0
      rw [List.take_of_length_le (Nat.le_refl _)] at hval
      rw [val_set _ _ _ _ hlen, hs0, hx1, hs1, Int.pow_succ]
      rw [hx0] at hs
      clear s1 s2 hu hdr hqV hqU hu0 hv hul
      grind
    have hn0 := val_nonneg hB hul
    have hn1 := val_lt hB hul
    rw [hul1] at hn1
    have g2 : (0 : Int) ≤ (v.length : Int) := by omega
    have g3 : ((v.length : Nat) : Int) < (u.length : Int) := by omega
    have g1 : ¬ (v.length : Int) < (v.length : Int) := by omega
    by_cases hbz : b' = 0
    · have hgq2 : g = q := by
        rw [hbz, Int.mul_zero, Int.sub_zero] at hfin
        have h5 : g * val 4294967296 v < (q + 1) * val 4294967296 v := by omega
        have hv0 := val_nonneg hB hv
        have := Int.lt_of_mul_lt_mul_right h5 hv0
        omega
      refine ⟨u.set v.length y, Ev.step (f := fun _ => some (q, u.set v.length y)) (fun k => ?_) (Ev.now _), hul, hul1, ?_⟩
      · simp only [nat_digit.l1]
        rw [if_neg g1, if_pos g2, if_pos g3, s1, s2, Option.bind_some, if_pos hbz, Int.emod_eq_of_lt hg0 hg, Int.toNat_natCast, hgq2]
      · rw [hbz, Int.mul_zero, Int.sub_zero, hgq2] at hfin
        exact hfin
    · have hb1 : b' = 1 := by omega
      rw [hb1, Int.mul_one] at hfin
      have hgq2 : g = q + 1 := by
        have h6 : q * val 4294967296 v < g * val 4294967296 v := by omega
        have hv0 := val_nonneg hB hv
        have := Int.lt_of_mul_lt_mul_right h6 hv0
        omega
      obtain ⟨r, hev, r1, r2, z, r3⟩ := digit_l2 v g hv hL v.length 0 (u.set v.length y) (u.set v.length y) 0 (by omega) hul1 hul (by omega) (by omega) (by simp [val]) rfl hul1
      refine ⟨r, Ev.step (f := fun k => nat_digit.l2 k (u.set v.length y) v (v.length : Int) g 0 (v.length : Int) 0) (fun k => ?_) (Ev.eq hev ?_), r1, r2, ?_⟩
      · simp only [nat_digit.l1]
        rw [if_neg g1, if_pos g2, if_pos g3, s1, s2, Option.bind_some, if_neg hbz, Int.toNat_natCast]
      · rw [u64_id (by omega) (by omega), hgq2, show q + 1 - 1 = q by omega, Int.emod_eq_of_lt hq0 (by omega)]
      · have m0 := val_nonneg hB r1
        have m1 := val_lt hB r1
        rw [r2] at m1
        have hVlt := val_lt hB hv
        have hpm := pow_mono' hB (show v.length ≤ v.length + 1 by omega)
        rw [hgq2] at hfin
        have e1 : (q + 1) * val 4294967296 v = q * val 4294967296 v + val 4294967296 v := by grind
        rw [e1] at hfin hqU
        have hz : z = 1 := by
          have e3 : val 4294967296 r = val 4294967296 u0 - q * val 4294967296 v + 4294967296 ^ (v.length + 1) * (1 - z) := by
            rw [r3, Int.mul_sub, Int.mul_one]; omega
          generalize (4294967296 : Int) ^ (v.length + 1) = M at *
          clear hev s1 s2 hs r3
          have h0 : 1 - z = 0 := by
            generalize 1 - z = y' at *
            rcases Int.lt_trichotomy y' 0 with h | h | h
            · have : M * y' ≤ M * (-1) := Int.mul_le_mul_of_nonneg_left (by omega) (by omega)
              omega
            · exact h
            · have : M * 1 ≤ M * y' := Int.mul_le_mul_of_nonneg_left (by omega) (by omega)
              omega
          omega
        rw [hz, Int.mul_one] at r3
        omega
  | succ d ih =>
    intro i u b c hd hl hu hb0 hb hc0 hc hval hdr
    have g1 : (i : Int) < (v.length : Int) := by omega
    have g2 : (0 : Int) ≤ (i : Int) := by omega
    have g3 : (i : Int) < (u.length : Int) := by omega
    have g4 : i < v.length := by omega
    have g5 : i < u.length := by omega
    have g6 : i < u0.length := by omega
    have g7 : ∀ _ : Unit, wrap64 ((i : Int) + 1) = ((i + 1 : Nat) : Int) := fun _ => by rw [w64 (by omega) (by omega)]; omega
    have g8 : d + (i + 1) = v.length := by omega
    have hxi := hu.rd hB (i : Int)
    have hyi := hv.rd hB (i : Int)
    obtain ⟨lo, c', s1, s2, hlo0, hlo, hc'0, hc', hs⟩ := mul_step hc0 hc hg0 hg hyi.1 hyi.2
    obtain ⟨y, b', t1, t2, hy0, hy, hb'0, hb', ht⟩ := sub_step hxi.1 hxi.2 hlo0 hlo hb0 hb
    have hux : rd u (i : Int) = u0.getD i 0 := by
      rw [rd_getD]
      have h1 : (u.drop i).getD 0 0 = (u0.drop i).getD 0 0 := by rw [hdr]
      rw [List.getD_eq_getElem?_getD, List.getElem?_drop, List.getD_eq_getElem?_getD, List.getElem?_drop] at h1
      rw [List.getD_eq_getElem?_getD, List.getD_eq_getElem?_getD]; exact h1
    have hvx : rd v (i : Int) = v.getD i 0 := rd_getD v i
    obtain ⟨r, hev, h1, h2, h3⟩ := ih (i + 1) (u.set i y) b' c' g8 (by rw [List.length_set, hl]) (hu.set _ ⟨hy0, hy⟩) hb'0 hb' hc'0 hc' (by
        rw [take_set_succ g5, val_snoc, List.length_take, Nat.min_eq_left (Nat.le_of_lt g5), val_take_succ _ _ _ g4, val_take_succ _ _ _ g6, ← hux, ← hvx, Int.pow_succ]
        clear ih hdr hu hv s1 s2 t1 t2 hxi hyi hux hvx hu0 hqV hqU
        grind) (by rw [drop_set_succ, ← List.drop_drop, ← List.drop_drop, hdr])
    refine ⟨r, Ev.step (f := fun k => nat_digit.l1 k (u.set i y) v (v.length : Int) g b' c' (v.length : Int) ((i + 1 : Nat) : Int)) (fun k => ?_) hev, h1, h2, h3⟩
    simp only [nat_digit.l1]
    rw [if_pos g1, if_pos g2, if_pos g1, if_pos g3, s1, s2, t1, t2, g7 (), Int.toNat_natCast]
end Go.Proofs.YtemnjgkicndmjaaDoor.Q

