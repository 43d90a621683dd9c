/- What this text proves: a part of the walk and of the plain laws of one card; no conditions. -/
import Derived.Test.YtemnjgkicndmjaaDoorBs3
import Derived.ChangeSame
import Derived.Stop.Joined
import Derived.SevenTiedAt
namespace Go.Proofs.YtemnjgkicndmjaaDoor.Q
open Go.RowKit Go.Proofs.YtemnjgkicndmjaaDoorW.PrintWords Go.Proofs.YtemnjgkicndmjaaDoorW.PrintLast Go.Proofs.YtemnjgkicndmjaaDoorW.PrintMore
attribute [local go_sem] max2_int min2_int max_two min_two max_three min_three max_four min_four
set_option linter.unusedVariables false
set_option linter.unusedSimpArgs false
def lw_sameLimbs.l0 : Nat → List Int → List Int → Int → Option (Bool)
 | 0, _, _, _ => none
 | k + 1, x0, x1, x5 => if x5 < (x0.length : Int) then (if 0 ≤ x5 then (if x5 < (x1.length : Int) then (if (rd x0 x5) = (rd x1 x5) then (lw_sameLimbs.l0 k x0 x1 (wrap64 (x5 + 1))) else (some false)) else (none)) else (none)) else (some true)
def lw_sameLimbs.f (k : Nat) (l0 : List Int) (l1 : List Int) : Option (Bool) := if (l0.length : Int) = (l1.length : Int) then (lw_sameLimbs.l0 k l0 l1 0) else (some false)
theorem lw_sameLimbs.mono_l : ∀ k, (∀ y0 y1 y2, LeO (lw_sameLimbs.l0 k y0 y1 y2) (lw_sameLimbs.l0 (k + 1) y0 y1 y2))
 | 0 => fun _ _ _ r h => by simp [lw_sameLimbs.l0] at h
 | k + 1 => by
  have ih0 := lw_sameLimbs.mono_l k
  ·intro y0 y1 y2
   unfold lw_sameLimbs.l0
   have m0 := ih0
   exact zm
theorem lw_sameLimbs.mono : ∀ a0 a1 k, LeO (lw_sameLimbs.f k a0 a1) (lw_sameLimbs.f (k + 1) a0 a1) := by
 intro a0 a1 k
 have ih0 := lw_sameLimbs.mono_l k
 unfold lw_sameLimbs.f
 have m0 := ih0
 exact zm
set_option maxHeartbeats 8000000 in
set_option maxRecDepth 100000 in
theorem lw_sameLimbs.calls (k : Nat) (A0 : Option Addr) (c0 : Nat) (l0 : List Int) (A1 : Option Addr) (c1 : Nat) (l1 : List Int) (r : Bool) (w : World) (hr0 : Kd.C (Kd.int .u32) w A0 l0.length l0) (hc0 : l0.length ≤ c0) (hr1 : Kd.C (Kd.int .u32) w A1 l1.length l1) (hc1 : l1.length ≤ c1) (h : lw_sameLimbs.f k l0 l1 = some r) :
  Calls Tryd.prog 55 #[.slice A0 l0.length c0, .slice A1 l1.length c1] w fun e w' => e = .returned (.bool r) ∧ Drawn0 w w' := by
 have HR0 := am hr0
 have HC0 := am hc0
 clear hr0 hc0
 have HR1 := am hr1
 have HC1 := am hc1
 clear hr1 hc1
 have H := h
 unfold lw_sameLimbs.f at H
 clear h
 by_cases c3 : (l0.length : Int) = (l1.length : Int)
 ·rw [if_pos c3] at H
  have c3b0 : ((l0.length : Int) == (l1.length : Int)) = true := beq_iff_eq.mpr c3
  have c3b1 : ((l0.length : Int) != (l1.length : Int)) = false := bne_eq_false_iff_eq.mpr c3
  have c3b2 : (l0.length == l1.length) = true := by first | simpa using c3 | (simp at c3 ⊢; omega)
  clear c3
  have H' := am H
  clear H
  go_enter Tryd.func55, Tryd.ntmps55
  go_wp2
  repeat (go_quiet (fail); try go_wp2)
  go_loopg [5] k (fun kq v5 w' => ∃ (x5_1 : Int), v5 = .int .i64 x5_1 ∧ Aside0 (lw_sameLimbs.l0 kq l0 l1 x5_1 = some r) ∧ Aside0 (kq ≤ k) ∧ Drawn0 w w')
  case atStart => exact ⟨(0), zq8, H', ⟨Nat.le_refl _⟩, by repeat (first | exact Drawn0.refl _ | apply Drawn0.step)⟩
  case round =>
   clear H'
   obtain ⟨x5_1, rfl, HA, HK1, ⟨m1, rfl⟩⟩ := hrel
   cases gk with
   | zero => exact absurd HA.out (by simp [lw_sameLimbs.l0])
   | succ k1 =>
    have H := HA.out
    clear HA
    simp only [lw_sameLimbs.l0] at H
    by_cases c4 : x5_1 < (l0.length : Int)
    ·rw [if_pos c4] at H
     have c4b0 := decide_eq_true c4
     clear c4
     replace H := zn H
     obtain ⟨c5, H⟩ := H
     have c5b0 := decide_eq_true c5
     clear c5
     replace H := zn H
     obtain ⟨c6, H⟩ := H
     have c6b0 := decide_eq_true c6
     clear c6
     by_cases c7 : (rd l0 x5_1) = (rd l1 x5_1)
     ·rw [if_pos c7] at H
      have c7b0 : ((rd l0 x5_1) == (rd l1 x5_1)) = true := beq_iff_eq.mpr c7
      have c7b1 : ((rd l0 x5_1) != (rd l1 x5_1)) = false := bne_eq_false_iff_eq.mpr c7
      clear c7
      have H' := am H
      clear H
      have p514 : 0 ≤ (x5_1 : Int) := zq6
      have q514 : x5_1 < (l0.length : Int) := zq6
      obtain ⟨ad514, e514, hx514_0⟩ := Kd.at_int HR0.out x5_1 p514 q514
      cases e514
      replace p514 := eq_true p514
      replace q514 := eq_true q514
      have p515 : 0 ≤ (x5_1 : Int) := zq6
      have q515 : x5_1 < (l1.length : Int) := zq6
      obtain ⟨ad515, e515, hx515_0⟩ := Kd.at_int HR1.out x5_1 p515 q515
      cases e515
      replace p515 := eq_true p515
      replace q515 := eq_true q515
      go_wp2
      repeat (go_quiet (fail); try go_wp2)
      go_roundg k1
      case measure => have := HK1.out; omega
      case rel => exact ⟨(wrap64 (x5_1 + 1)), zq8, H', ⟨by have := HK1.out; omega⟩, by repeat (first | exact Drawn0.refl _ | apply Drawn0.step)⟩
     ·rw [if_neg c7] at H
      have c7b0 : ((rd l0 x5_1) == (rd l1 x5_1)) = false := beq_eq_false_iff_ne.mpr c7
      have c7b1 : ((rd l0 x5_1) != (rd l1 x5_1)) = true := bne_iff_ne.mpr c7
      obtain rfl := Option.some.inj H
      have p514 : 0 ≤ (x5_1 : Int) := zq6
      have q514 : x5_1 < (l0.length : Int) := zq6
      obtain ⟨ad514, e514, hx514_0⟩ := Kd.at_int HR0.out x5_1 p514 q514
      cases e514
      replace p514 := eq_true p514
      replace q514 := eq_true q514
      have p515 : 0 ≤ (x5_1 : Int) := zq6
      have q515 : x5_1 < (l1.length : Int) := zq6
      obtain ⟨ad515, e515, hx515_0⟩ := Kd.at_int HR1.out x5_1 p515 q515
      cases e515
      replace p515 := eq_true p515
      replace q515 := eq_true q515
      go_wp2
      repeat (go_quiet (fail); try go_wp2)
      go_ret
      exact ⟨by first | rfl | (simp; done) | (simp [*]; done), by repeat (first | exact Drawn0.refl _ | apply Drawn0.step)⟩
    ·rw [if_neg c4] at H
     have c4b0 := decide_eq_false c4
     clear c4
     obtain rfl := Option.some.inj H
     go_wp2
     repeat (go_quiet (fail); try go_wp2)
     go_ret
     exact ⟨by first | rfl | (simp; done) | (simp [*]; done), by repeat (first | exact Drawn0.refl _ | apply Drawn0.step)⟩
 ·rw [if_neg c3] at H
  have c3b0 : ((l0.length : Int) == (l1.length : Int)) = false := beq_eq_false_iff_ne.mpr c3
  have c3b1 : ((l0.length : Int) != (l1.length : Int)) = true := bne_iff_ne.mpr c3
  have c3b2 : (l0.length == l1.length) = false := by first | simpa using c3 | (simp at c3 ⊢; omega)
  obtain rfl := Option.some.inj H
  go_enter Tryd.func55, Tryd.ntmps55
  go_wp2
  repeat (go_quiet (fail); try go_wp2)
  go_ret
  exact ⟨by first | rfl | (simp; done) | (simp [*]; done), by repeat (first | exact Drawn0.refl _ | apply Drawn0.step)⟩
def lw_same.f (k : Nat) (a0_0 : Bool) (l0_1 : List Int) (l0_2 : List Int) (a1_0 : Bool) (l1_1 : List Int) (l1_2 : List Int) : Option (Bool) := if (a0_0 == a1_0) = true then ((lw_sameLimbs.f k l0_1 l1_1).bind fun t518 => (if t518 = true then ((lw_sameLimbs.f k l0_2 l1_2).bind fun t519 => (some t519)) else (some false))) else (some false)
theorem lw_same.mono : ∀ a0 a1 a2 a3 a4 a5 k, LeO (lw_same.f k a0 a1 a2 a3 a4 a5) (lw_same.f (k + 1) a0 a1 a2 a3 a4 a5) := by
 intro a0 a1 a2 a3 a4 a5 k
 unfold lw_same.f
 have m0 := @lw_sameLimbs.mono
 exact zm
set_option maxHeartbeats 8000000 in
set_option maxRecDepth 100000 in
theorem lw_same.calls (k : Nat) (a0_0 : Bool) (A0_1 : Option Addr) (c0_1 : Nat) (l0_1 : List Int) (A0_2 : Option Addr) (c0_2 : Nat) (l0_2 : List Int) (a1_0 : Bool) (A1_1 : Option Addr) (c1_1 : Nat) (l1_1 : List Int) (A1_2 : Option Addr) (c1_2 : Nat) (l1_2 : List Int) (r : Bool) (w : World) (hr0_1 : Kd.C (Kd.int .u32) w A0_1 l0_1.length l0_1) (hc0_1 : l0_1.length ≤ c0_1) (hr0_2 : Kd.C (Kd.int .u32) w A0_2 l0_2.length l0_2) (hc0_2 : l0_2.length ≤ c0_2) (hr1_1 : Kd.C (Kd.int .u32) w A1_1 l1_1.length l1_1) (hc1_1 : l1_1.length ≤ c1_1) (hr1_2 : Kd.C (Kd.int .u32) w A1_2 l1_2.length l1_2) (hc1_2 : l1_2.length ≤ c1_2) (h : lw_same.f k a0_0 l0_1 l0_2 a1_0 l1_1 l1_2 = some r) :
  Calls Tryd.prog 20 #[.agg #[.bool a0_0, .slice A0_1 l0_1.length c0_1, .slice A0_2 l0_2.length c0_2], .agg #[.bool a1_0, .slice A1_1 l1_1.length c1_1, .slice A1_2 l1_2.length c1_2]] w fun e w' => e = .returned (.bool r) ∧ Below w.heap.size w w' := by
 have hu24 := Tryd.underlying24
 have HR0_1 := am hr0_1
 have HC0_1 := am hc0_1
 clear hr0_1 hc0_1
 have HR0_2 := am hr0_2
 have HC0_2 := am hc0_2
 clear hr0_2 hc0_2
 have HR1_1 := am hr1_1
 have HC1_1 := am hc1_1
 clear hr1_1 hc1_1
 have HR1_2 := am hr1_2
 have HC1_2 := am hc1_2
 clear hr1_2 hc1_2
 have HB := am (Below.refl w.heap.size w)
 have H := h
 unfold lw_same.f at H
 clear h
 by_cases c3 : (a0_0 == a1_0) = true
 ·rw [if_pos c3] at H
  have c3b0 : (a0_0 == a1_0) = true := c3
  (try (have c3b1 : decide (a0_0 = a1_0) = true := by simpa using c3))
  (try (have c3b2 : (a0_0 == a1_0) = true := by simpa using c3))
  clear c3
  replace H := zi H
  obtain ⟨t518, A40, H⟩ := H
  have A4 := am A40
  clear A40
  by_cases c5 : t518 = true
  ·subst c5
   have H1 : ((lw_sameLimbs.f k l0_2 l1_2).bind fun t519 => (some t519)) = some r := by rw [if_pos rfl] at H; exact H
   clear H
   have H := H1
   clear H1
   replace H := zi H
   obtain ⟨t519, A60, H⟩ := H
   have A6 := am A60
   clear A60
   obtain rfl := Option.some.inj H
   go_enter Tryd.func20, Tryd.ntmps20
   go_wp2_with (first | ((with_reducible refine gate_dst (N := 2) rfl ?_); refine box_event ?hg (N := 2) ?hd (cs := #[.bool a0_0, .slice A0_1 l0_1.length c0_1, .slice A0_2 l0_2.length c0_2]) (t := 24) ?hr ?_; (case hd => rfl); (case hg => rfl); (case hr => exact zr); intro gb516 hg w7 hbox hb; have n0_ := am (below_step zq1 hb); have n1_ := am (hbox); have n2_ := am ((by rw [hg]; exact (below_size zq1) : w.heap.size ≤ gb516)); have n3_ := am ((by rw [hg]; exact (below_size zq1) : w.heap.size ≤ gb516)); clear HB; have HB := n0_; have BK516 := n1_; have GW516 := n2_; have GE516 := n3_; clear n0_ n1_ n2_ n3_; clear hb hbox hg) | ((with_reducible refine gate_dst (N := 3) rfl ?_); refine box_event ?hg (N := 3) ?hd (cs := #[.bool a1_0, .slice A1_1 l1_1.length c1_1, .slice A1_2 l1_2.length c1_2]) (t := 24) ?hr ?_; (case hd => rfl); (case hg => rfl); (case hr => exact zr); intro gb517 hg w8 hbox hb; have n0_ := am (blk_below (g := gb516) (o := .cells #[.bool a0_0, .slice A0_1 l0_1.length c0_1, .slice A0_2 l0_2.length c0_2] 24 (0, 0)) (zq2 BK516.out) hb); have n1_ := am (below_step (zb1 GE516.out) hb); have n2_ := am (hbox); have n3_ := am ((by rw [hg]; exact (below_size (zb1 GE516.out)) : w.heap.size ≤ gb517)); have n4_ := am ((by rw [hg]; exact (below_size (zb1 GE516.out)) : w.heap.size ≤ gb517)); have n5_ := am ((by rw [hg]; exact Nat.ne_of_lt (blk_lt (g := gb516) (o := .cells #[.bool a0_0, .slice A0_1 l0_1.length c0_1, .slice A0_2 l0_2.length c0_2] 24 (0, 0)) (zq2 BK516.out)) : gb516 ≠ gb517)); have n6_ := am ((by rw [hg]; exact Nat.ne_of_gt (blk_lt (g := gb516) (o := .cells #[.bool a0_0, .slice A0_1 l0_1.length c0_1, .slice A0_2 l0_2.length c0_2] 24 (0, 0)) (zq2 BK516.out)) : gb517 ≠ gb516)); clear BK516 HB; have BK516 := n0_; have HB := n1_; have BK517 := n2_; have GW517 := n3_; have GE517 := n4_; have NB516_517 := n5_; have NB517_516 := n6_; clear n0_ n1_ n2_ n3_ n4_ n5_ n6_ hb hbox hg; have hnb9 := NB516_517.out; have hnc9 := NB517_516.out; have hcz10_0 : w8.cell? ⟨gb516, 0, none⟩ = some (.bool a0_0) := (blk_cell BK516.out 0).trans rfl; have hcz10_1 : w8.cell? ⟨gb516, 1, none⟩ = some (.slice A0_1 l0_1.length c0_1) := (blk_cell BK516.out 1).trans rfl; have hcz10_2 : w8.cell? ⟨gb516, 2, none⟩ = some (.slice A0_2 l0_2.length c0_2) := (blk_cell BK516.out 2).trans rfl; have hfz10_0 := blk_frozen BK516.out 0; have hfz10_1 := blk_frozen BK516.out 1; have hfz10_2 := blk_frozen BK516.out 2; have hcz11_0 : w8.cell? ⟨gb517, 0, none⟩ = some (.bool a1_0) := (blk_cell BK517.out 0).trans rfl; have hcz11_1 : w8.cell? ⟨gb517, 1, none⟩ = some (.slice A1_1 l1_1.length c1_1) := (blk_cell BK517.out 1).trans rfl; have hcz11_2 : w8.cell? ⟨gb517, 2, none⟩ = some (.slice A1_2 l1_2.length c1_2) := (blk_cell BK517.out 2).trans rfl; have hfz11_0 := blk_frozen BK517.out 0; have hfz11_1 := blk_frozen BK517.out 1; have hfz11_2 := blk_frozen BK517.out 2) | (go_at_call 55; (with_reducible refine (lw_sameLimbs.calls k _ _ l0_1 _ _ l1_1 true _ ?side1 ?side2 ?side3 ?side4 A4.out).mono ?_); (case side1 => exact zc (Kd.C_below HR0_1.out HB.out)); (case side2 => exact HC0_1.out); (case side3 => exact zc (Kd.C_below HR1_1.out HB.out)); (case side4 => exact HC1_1.out); rintro e w' ⟨rfl, ⟨nd, rfl⟩⟩) | (go_at_call 55; (with_reducible refine (lw_sameLimbs.calls k _ _ l0_2 _ _ l1_2 t519 _ ?side1 ?side2 ?side3 ?side4 A6.out).mono ?_); (case side1 => exact zc (Kd.C_below HR0_2.out (zb2 GE516.out GE517.out))); (case side2 => exact HC0_2.out); (case side3 => exact zc (Kd.C_below HR1_2.out (zb2 GE516.out GE517.out))); (case side4 => exact HC1_2.out); rintro e w' ⟨rfl, ⟨nd, rfl⟩⟩))
   go_ret
   exact ⟨zq9, zb2 GE516.out GE517.out⟩
  ·replace c5 := Bool.eq_false_iff.mpr c5
   subst c5
   have H1 : (some false) = some r := by rw [if_neg (show ¬ (false = true) by decide)] at H; exact H
   clear H
   have H := H1
   clear H1
   obtain rfl := Option.some.inj H
   go_enter Tryd.func20, Tryd.ntmps20
   go_wp2_with (first | ((with_reducible refine gate_dst (N := 2) rfl ?_); refine box_event ?hg (N := 2) ?hd (cs := #[.bool a0_0, .slice A0_1 l0_1.length c0_1, .slice A0_2 l0_2.length c0_2]) (t := 24) ?hr ?_; (case hd => rfl); (case hg => rfl); (case hr => exact zr); intro gb516 hg w12 hbox hb; have n0_ := am (below_step zq1 hb); have n1_ := am (hbox); have n2_ := am ((by rw [hg]; exact (below_size zq1) : w.heap.size ≤ gb516)); have n3_ := am ((by rw [hg]; exact (below_size zq1) : w.heap.size ≤ gb516)); clear HB; have HB := n0_; have BK516 := n1_; have GW516 := n2_; have GE516 := n3_; clear n0_ n1_ n2_ n3_; clear hb hbox hg) | ((with_reducible refine gate_dst (N := 3) rfl ?_); refine box_event ?hg (N := 3) ?hd (cs := #[.bool a1_0, .slice A1_1 l1_1.length c1_1, .slice A1_2 l1_2.length c1_2]) (t := 24) ?hr ?_; (case hd => rfl); (case hg => rfl); (case hr => exact zr); intro gb517 hg w13 hbox hb; have n0_ := am (blk_below (g := gb516) (o := .cells #[.bool a0_0, .slice A0_1 l0_1.length c0_1, .slice A0_2 l0_2.length c0_2] 24 (0, 0)) (zq2 BK516.out) hb); have n1_ := am (below_step (zb1 GE516.out) hb); have n2_ := am (hbox); have n3_ := am ((by rw [hg]; exact (below_size (zb1 GE516.out)) : w.heap.size ≤ gb517)); have n4_ := am ((by rw [hg]; exact (below_size (zb1 GE516.out)) : w.heap.size ≤ gb517)); have n5_ := am ((by rw [hg]; exact Nat.ne_of_lt (blk_lt (g := gb516) (o := .cells #[.bool a0_0, .slice A0_1 l0_1.length c0_1, .slice A0_2 l0_2.length c0_2] 24 (0, 0)) (zq2 BK516.out)) : gb516 ≠ gb517)); have n6_ := am ((by rw [hg]; exact Nat.ne_of_gt (blk_lt (g := gb516) (o := .cells #[.bool a0_0, .slice A0_1 l0_1.length c0_1, .slice A0_2 l0_2.length c0_2] 24 (0, 0)) (zq2 BK516.out)) : gb517 ≠ gb516)); clear BK516 HB; have BK516 := n0_; have HB := n1_; have BK517 := n2_; have GW517 := n3_; have GE517 := n4_; have NB516_517 := n5_; have NB517_516 := n6_; clear n0_ n1_ n2_ n3_ n4_ n5_ n6_ hb hbox hg; have hnb14 := NB516_517.out; have hnc14 := NB517_516.out; have hcz15_0 : w13.cell? ⟨gb516, 0, none⟩ = some (.bool a0_0) := (blk_cell BK516.out 0).trans rfl; have hcz15_1 : w13.cell? ⟨gb516, 1, none⟩ = some (.slice A0_1 l0_1.length c0_1) := (blk_cell BK516.out 1).trans rfl; have hcz15_2 : w13.cell? ⟨gb516, 2, none⟩ = some (.slice A0_2 l0_2.length c0_2) := (blk_cell BK516.out 2).trans rfl; have hfz15_0 := blk_frozen BK516.out 0; have hfz15_1 := blk_frozen BK516.out 1; have hfz15_2 := blk_frozen BK516.out 2; have hcz16_0 : w13.cell? ⟨gb517, 0, none⟩ = some (.bool a1_0) := (blk_cell BK517.out 0).trans rfl; have hcz16_1 : w13.cell? ⟨gb517, 1, none⟩ = some (.slice A1_1 l1_1.length c1_1) := (blk_cell BK517.out 1).trans rfl; have hcz16_2 : w13.cell? ⟨gb517, 2, none⟩ = some (.slice A1_2 l1_2.length c1_2) := (blk_cell BK517.out 2).trans rfl; have hfz16_0 := blk_frozen BK517.out 0; have hfz16_1 := blk_frozen BK517.out 1; have hfz16_2 := blk_frozen BK517.out 2) | (go_at_call 55; (with_reducible refine (lw_sameLimbs.calls k _ _ l0_1 _ _ l1_1 false _ ?side1 ?side2 ?side3 ?side4 A4.out).mono ?_); (case side1 => exact zc (Kd.C_below HR0_1.out HB.out)); (case side2 => exact HC0_1.out); (case side3 => exact zc (Kd.C_below HR1_1.out HB.out)); (case side4 => exact HC1_1.out); rintro e w' ⟨rfl, ⟨nd, rfl⟩⟩))
   go_ret
   exact ⟨zq9, zb2 GE516.out GE517.out⟩
 ·rw [if_neg c3] at H
  have c3b0 : (a0_0 == a1_0) = false := by simpa using c3
  (try (have c3b1 : decide (a0_0 = a1_0) = false := by simpa using c3))
  (try (have c3b2 : (a0_0 == a1_0) = false := by simpa using c3))
  (try (have c3b3 : ¬ (a0_0 = a1_0) := by simpa using c3))
  clear c3
  obtain rfl := Option.some.inj H
  go_enter Tryd.func20, Tryd.ntmps20
  go_wp2_with (first | ((with_reducible refine gate_dst (N := 2) rfl ?_); refine box_event ?hg (N := 2) ?hd (cs := #[.bool a0_0, .slice A0_1 l0_1.length c0_1, .slice A0_2 l0_2.length c0_2]) (t := 24) ?hr ?_; (case hd => rfl); (case hg => rfl); (case hr => exact zr); intro gb516 hg w17 hbox hb; have n0_ := am (below_step zq1 hb); have n1_ := am (hbox); have n2_ := am ((by rw [hg]; exact (below_size zq1) : w.heap.size ≤ gb516)); have n3_ := am ((by rw [hg]; exact (below_size zq1) : w.heap.size ≤ gb516)); clear HB; have HB := n0_; have BK516 := n1_; have GW516 := n2_; have GE516 := n3_; clear n0_ n1_ n2_ n3_; clear hb hbox hg) | ((with_reducible refine gate_dst (N := 3) rfl ?_); refine box_event ?hg (N := 3) ?hd (cs := #[.bool a1_0, .slice A1_1 l1_1.length c1_1, .slice A1_2 l1_2.length c1_2]) (t := 24) ?hr ?_; (case hd => rfl); (case hg => rfl); (case hr => exact zr); intro gb517 hg w18 hbox hb; have n0_ := am (blk_below (g := gb516) (o := .cells #[.bool a0_0, .slice A0_1 l0_1.length c0_1, .slice A0_2 l0_2.length c0_2] 24 (0, 0)) (zq2 BK516.out) hb); have n1_ := am (below_step (zb1 GE516.out) hb); have n2_ := am (hbox); have n3_ := am ((by rw [hg]; exact (below_size (zb1 GE516.out)) : w.heap.size ≤ gb517)); have n4_ := am ((by rw [hg]; exact (below_size (zb1 GE516.out)) : w.heap.size ≤ gb517)); have n5_ := am ((by rw [hg]; exact Nat.ne_of_lt (blk_lt (g := gb516) (o := .cells #[.bool a0_0, .slice A0_1 l0_1.length c0_1, .slice A0_2 l0_2.length c0_2] 24 (0, 0)) (zq2 BK516.out)) : gb516 ≠ gb517)); have n6_ := am ((by rw [hg]; exact Nat.ne_of_gt (blk_lt (g := gb516) (o := .cells #[.bool a0_0, .slice A0_1 l0_1.length c0_1, .slice A0_2 l0_2.length c0_2] 24 (0, 0)) (zq2 BK516.out)) : gb517 ≠ gb516)); clear BK516 HB; have BK516 := n0_; have HB := n1_; have BK517 := n2_; have GW517 := n3_; have GE517 := n4_; have NB516_517 := n5_; have NB517_516 := n6_; clear n0_ n1_ n2_ n3_ n4_ n5_ n6_ hb hbox hg; have hnb19 := NB516_517.out; have hnc19 := NB517_516.out; have hcz20_0 : w18.cell? ⟨gb516, 0, none⟩ = some (.bool a0_0) := (blk_cell BK516.out 0).trans rfl; have hcz20_1 : w18.cell? ⟨gb516, 1, none⟩ = some (.slice A0_1 l0_1.length c0_1) := (blk_cell BK516.out 1).trans rfl; have hcz20_2 : w18.cell? ⟨gb516, 2, none⟩ = some (.slice A0_2 l0_2.length c0_2) := (blk_cell BK516.out 2).trans rfl; have hfz20_0 := blk_frozen BK516.out 0; have hfz20_1 := blk_frozen BK516.out 1; have hfz20_2 := blk_frozen BK516.out 2; have hcz21_0 : w18.cell? ⟨gb517, 0, none⟩ = some (.bool a1_0) := (blk_cell BK517.out 0).trans rfl; have hcz21_1 : w18.cell? ⟨gb517, 1, none⟩ = some (.slice A1_1 l1_1.length c1_1) := (blk_cell BK517.out 1).trans rfl; have hcz21_2 : w18.cell? ⟨gb517, 2, none⟩ = some (.slice A1_2 l1_2.length c1_2) := (blk_cell BK517.out 2).trans rfl; have hfz21_0 := blk_frozen BK517.out 0; have hfz21_1 := blk_frozen BK517.out 1; have hfz21_2 := blk_frozen BK517.out 2))
  go_ret
  exact ⟨zq9, zb2 GE516.out GE517.out⟩
def number_FromInt.f (k : Nat) (a0 : Int) : Option (Bool × List Int × List Int) := if a0 < 0 then ((nat_Of.f k (IntKind.u64.wrap (-(IntKind.u64.wrap (a0))))).bind fun t1666 => ((number_raw.f k true t1666 (([1] : List Int))).bind fun bt1672 => (some (bt1672.1, bt1672.2.1, bt1672.2.2)))) else ((nat_Of.f k (IntKind.u64.wrap (a0))).bind fun t1679 => ((number_raw.f k false t1679 (([1] : List Int))).bind fun bt1685 => (some (bt1685.1, bt1685.2.1, bt1685.2.2))))
theorem number_FromInt.mono : ∀ a0 k, LeO (number_FromInt.f k a0) (number_FromInt.f (k + 1) a0) := by
 intro a0 k
 unfold number_FromInt.f
 have m0 := @nat_Of.mono
 have m1 := @number_raw.mono
 exact zm
set_option maxHeartbeats 8000000 in
set_option maxRecDepth 100000 in
theorem number_FromInt.calls (k : Nat) (a0 : Int) (r1 : Bool) (r2 : List Int) (r3 : List Int) (w : World) (h : number_FromInt.f k a0 = some (r1, r2, r3)) :
  Calls Tryd.prog 31 #[.int .i64 a0] w fun e w' => ∃ v1_ v2_ : Value, e = .returned (.agg #[.bool r1, v1_, v2_]) ∧ Kd.R (Kd.int .u32) 55 w' w.heap.size (fun k_ => some k_ ≠ (v2_ : Value).ownBlock) v1_ r2 ∧ Kd.R (Kd.int .u32) 55 w' w.heap.size (fun k_ => some k_ ≠ (v1_ : Value).ownBlock) v2_ r3 ∧ Below w.heap.size w w' := by
 have hu24 := Tryd.underlying24
 have HB := am (Below.refl w.heap.size w)
 have H := h
 unfold number_FromInt.f at H
 clear h
 by_cases c2 : a0 < 0
 ·rw [if_pos c2] at H
  have c2b0 := decide_eq_true c2
  clear c2
  replace H := zi H
  obtain ⟨t1666, A30, H⟩ := H
  have A3 := am A30
  clear A30
  obtain ⟨y1669, hy1669⟩ : ∃ y_ : List Int, y_ = (([1] : List Int)) := ⟨_, rfl⟩
  try rw [← hy1669] at H
  have Ny1669 := am hy1669
  clear hy1669
  replace H := zi H
  obtain ⟨⟨t1672, t1673, t1676⟩, A40, H⟩ := H
  try dsimp only at H
  have A4 := am A40
  clear A40
  simp only [Option.some.injEq, Prod.mk.injEq] at H
  obtain ⟨rfl, rfl, rfl⟩ := H
  go_enter Tryd.func31, Tryd.ntmps31
  go_wp2_with (first | ((with_reducible refine gate_dst (N := 2) rfl ?_); refine box_event ?hg (N := 2) ?hd (cs := #[.bool false, .slice none 0 0, .slice none 0 0]) (t := 24) ?hr ?_; (case hd => rfl); (case hg => rfl); (case hr => exact zr); intro gb1665 hg w5 hbox hb; have n0_ := am (below_step zq1 hb); have n1_ := am (hbox); have n2_ := am ((by rw [hg]; exact (below_size zq1) : w.heap.size ≤ gb1665)); have n3_ := am ((by rw [hg]; exact (below_size zq1) : w.heap.size ≤ gb1665)); clear HB; have HB := n0_; have BK1665 := n1_; have GW1665 := n2_; have GE1665 := n3_; clear n0_ n1_ n2_ n3_; clear hb hbox hg) | ((with_reducible refine gate_callee (f := 79) rfl ?_); refine goesL_ (some 13) rfl rfl Tryd.func79 (by kernel_rfl) rfl #[.int .u64 (IntKind.u64.wrap (-(IntKind.u64.wrap (a0))))] rfl zq5 ?_; (with_reducible refine (nat_Of.calls k (IntKind.u64.wrap (-(IntKind.u64.wrap (a0)))) t1666 _ A3.out).mono ?_); rintro e w6 ⟨v1667, rfl, ho0, hb⟩; refine ⟨_, rfl, ?_⟩; have n0_ := am (Kd.V_lower (Kd.V_mono (ok' := fun k_ => k_ ≠ gb1665) ho0 (fun k_ hk_ => (Kd.freshB (g := gb1665) (o := .cells #[.bool false, .slice none 0 0, .slice none 0 0] 24 (0, 0)) (zq2 BK1665.out) k_ hk_))) (below_size (zb1 GE1665.out))); have n1_ := am (blk_below (g := gb1665) (o := .cells #[.bool false, .slice none 0 0, .slice none 0 0] 24 (0, 0)) (zq2 BK1665.out) hb); have n2_ := am (below_step (zb1 GE1665.out) hb); clear BK1665 HB; have HO1668 := n0_; have BK1665 := n1_; have HB := n2_; clear n0_ n1_ n2_) | ((with_reducible refine gate_dst (N := 14) rfl ?_); refine Kd.R_lit (Kd.int .u32) _ 55 ?hg (N := 14) ?hd (xs := ([1] : List Int)) (inner := [.int .u32 1]) (ok := fun _ => True) (okp := fun _ => True) ?hr ?hp (fun _ hk => hk) trivial (Below.refl _ _) (Nat.le_refl _) (by simp) ?_; (case hd => rfl); (case hg => rfl); (case hr => exact zr); (case hp => exact (Reps.one (show Kd.M (Kd.int .u32) _ _ _ 1 [.int .u32 1] from rfl) (Reps.none _ _))); intro v1670 w7 ho8 hb hg_ hnew_; clear hg_ hnew_; (first | rw [← Ny1669.out] at ho8 | (simp only [Int.reduceToNat] at ho8; rw [← Ny1669.out] at ho8)); have n0_ := am (Kd.V_elder' (zq3 HO1668.out) (Kd.R_base ho8) hb); have n1_ := am (Kd.R_lower ho8 (below_size (zb1 GE1665.out))); have n2_ := am (blk_below (g := gb1665) (o := .cells #[.bool false, .slice none 0 0, .slice none 0 0] 24 (0, 0)) (zq2 BK1665.out) hb); have n3_ := am (below_step (zb1 GE1665.out) hb); clear HO1668 BK1665 HB; have HO1668 := n0_; have HO1671 := n1_; have BK1665 := n2_; have HB := n3_; clear n0_ n1_ n2_ n3_ hb ho8; obtain ⟨Ao9, co9, eo9⟩ := Kd.V_slice HO1668.out; subst eo9; obtain ⟨Ao10, co10, eo10⟩ := Kd.R_slice HO1671.out; subst eo10) | ((with_reducible refine gate_callee (f := 78) rfl ?_); refine goesL_ (some 15) rfl rfl Tryd.func78 (by kernel_rfl) rfl #[.bool true, .slice Ao9 t1666.length co9, .slice Ao10 y1669.length co10] rfl zq5 ?_; (with_reducible refine (number_raw.calls k true _ _ t1666 _ _ y1669 t1672 t1673 t1676 _ ?side1 ?side2 ?side3 ?side4 A4.out).mono ?_); (case side1 => exact zc ((Kd.V_reads' HO1668.out).2.2)); (case side2 => exact (Kd.V_reads' HO1668.out).2.1); (case side3 => exact zc ((Kd.R_reads' HO1671.out).2.2)); (case side4 => exact (Kd.R_reads' HO1671.out).2.1); rintro e w11 ⟨v1674, v1677, rfl, ho0, ho1, hb⟩; refine ⟨_, rfl, ?_⟩; have n0_ := am (Kd.V_mono (Kd.V_told (Kd.V_told (Kd.V_old (zq3 HO1668.out) hb) (Kd.R_base ho0)) (Kd.R_base ho1)) (fun _ h_ => h_.1)); have n1_ := am (Kd.R_mono (Kd.R_told (Kd.R_told (Kd.R_old (zq4 HO1671.out) hb) (Kd.R_base ho0)) (Kd.R_base ho1)) (fun _ h_ => h_.1)); have n2_ := am (Kd.R_lower (Kd.R_new' ho0 (Kd.R_lt (zq4 HO1671.out))) (below_size (zb1 GE1665.out))); have n3_ := am (Kd.R_lower (Kd.R_new' ho1 (Kd.R_lt (zq4 HO1671.out))) (below_size (zb1 GE1665.out))); have n4_ := am (blk_below (g := gb1665) (o := .cells #[.bool false, .slice none 0 0, .slice none 0 0] 24 (0, 0)) (zq2 BK1665.out) hb); have n5_ := am (below_step (zb1 GE1665.out) hb); clear HO1668 HO1671 BK1665 HB; have HO1668 := n0_; have HO1671 := n1_; have HO1675 := n2_; have HO1678 := n3_; have BK1665 := n4_; have HB := n5_; clear n0_ n1_ n2_ n3_ n4_ n5_; (try clear ho1); have hcz12_0 : w11.cell? ⟨gb1665, 0, none⟩ = some (.bool false) := (blk_cell BK1665.out 0).trans rfl; have hcz12_1 : w11.cell? ⟨gb1665, 1, none⟩ = some (.slice none 0 0) := (blk_cell BK1665.out 1).trans rfl; have hcz12_2 : w11.cell? ⟨gb1665, 2, none⟩ = some (.slice none 0 0) := (blk_cell BK1665.out 2).trans rfl; have hfz12_0 := blk_frozen BK1665.out 0; have hfz12_1 := blk_frozen BK1665.out 1; have hfz12_2 := blk_frozen BK1665.out 2; obtain ⟨Ao13, co13, eo13⟩ := Kd.R_slice HO1675.out; subst eo13; obtain ⟨Ao14, co14, eo14⟩ := Kd.R_slice HO1678.out; subst eo14))
  refine bodyPost_ret (results_cell_row rfl _ _ gb1665 24 #[.bool t1672, .slice Ao13 t1673.length co13, .slice Ao14 t1676.length co14] (0, 0) _ rfl (by (with_reducible repeat (first | refine blk_drewN ?_ _ | refine blk_drew ?_ | refine blk_alloc ?_ _)); refine blk_put (cs := #[.bool t1672, .slice Ao13 t1673.length co13, .slice none 0 0]) ?_ 2 _ rfl; (with_reducible repeat (first | refine blk_drewN ?_ _ | refine blk_drew ?_ | refine blk_alloc ?_ _)); refine blk_put (cs := #[.bool t1672, .slice none 0 0, .slice none 0 0]) ?_ 1 _ rfl; (with_reducible repeat (first | refine blk_drewN ?_ _ | refine blk_drew ?_ | refine blk_alloc ?_ _)); refine blk_put (cs := #[.bool false, .slice none 0 0, .slice none 0 0]) ?_ 0 _ rfl; (with_reducible repeat (first | refine blk_drewN ?_ _ | refine blk_drew ?_ | refine blk_alloc ?_ _)); exact BK1665.out) Tryd.underlying24 rfl (by kernel_rfl)) rfl ?_
  exact ⟨_, _, zq9, by (with_reducible repeat (first | apply Kd.R_alloc | apply Kd.R_drewN | apply Kd.R_drew)); exact Kd.R_mono (Kd.R_far (p := ⟨gb1665, 2, none⟩) (Kd.R_far (p := ⟨gb1665, 1, none⟩) (Kd.R_far (p := ⟨gb1665, 0, none⟩) (Kd.R_types HO1675.out BK1665.out (by decide)) (fun _ hk => hk.2) (.bool t1672)) (fun _ hk => hk.2) (.slice Ao13 t1673.length co13)) (fun _ hk => hk.2) (.slice Ao14 t1676.length co14)) (fun _ hk => hk.1.1), by (with_reducible repeat (first | apply Kd.R_alloc | apply Kd.R_drewN | apply Kd.R_drew)); exact Kd.R_mono (Kd.R_far (p := ⟨gb1665, 2, none⟩) (Kd.R_far (p := ⟨gb1665, 1, none⟩) (Kd.R_far (p := ⟨gb1665, 0, none⟩) (Kd.R_types HO1678.out BK1665.out (by decide)) (fun _ hk => hk.2) (.bool t1672)) (fun _ hk => hk.2) (.slice Ao13 t1673.length co13)) (fun _ hk => hk.2) (.slice Ao14 t1676.length co14)) (fun _ hk => hk.1.1), zb1 GE1665.out⟩
 ·rw [if_neg c2] at H
  have c2b0 := decide_eq_false c2
  clear c2
  replace H := zi H
  obtain ⟨t1679, A150, H⟩ := H
  have A15 := am A150
  clear A150
  obtain ⟨y1682, hy1682⟩ : ∃ y_ : List Int, y_ = (([1] : List Int)) := ⟨_, rfl⟩
  try rw [← hy1682] at H
  have Ny1682 := am hy1682
  clear hy1682
  replace H := zi H
  obtain ⟨⟨t1685, t1686, t1689⟩, A160, H⟩ := H
  try dsimp only at H
  have A16 := am A160
  clear A160
  simp only [Option.some.injEq, Prod.mk.injEq] at H
  obtain ⟨rfl, rfl, rfl⟩ := H
  go_enter Tryd.func31, Tryd.ntmps31
  go_wp2_with (first | ((with_reducible refine gate_dst (N := 2) rfl ?_); refine box_event ?hg (N := 2) ?hd (cs := #[.bool false, .slice none 0 0, .slice none 0 0]) (t := 24) ?hr ?_; (case hd => rfl); (case hg => rfl); (case hr => exact zr); intro gb1665 hg w17 hbox hb; have n0_ := am (below_step zq1 hb); have n1_ := am (hbox); have n2_ := am ((by rw [hg]; exact (below_size zq1) : w.heap.size ≤ gb1665)); have n3_ := am ((by rw [hg]; exact (below_size zq1) : w.heap.size ≤ gb1665)); clear HB; have HB := n0_; have BK1665 := n1_; have GW1665 := n2_; have GE1665 := n3_; clear n0_ n1_ n2_ n3_; clear hb hbox hg) | ((with_reducible refine gate_callee (f := 79) rfl ?_); refine goesL_ (some 13) rfl rfl Tryd.func79 (by kernel_rfl) rfl #[.int .u64 (IntKind.u64.wrap (a0))] rfl zq5 ?_; (with_reducible refine (nat_Of.calls k (IntKind.u64.wrap (a0)) t1679 _ A15.out).mono ?_); rintro e w18 ⟨v1680, rfl, ho0, hb⟩; refine ⟨_, rfl, ?_⟩; have n0_ := am (Kd.V_lower (Kd.V_mono (ok' := fun k_ => k_ ≠ gb1665) ho0 (fun k_ hk_ => (Kd.freshB (g := gb1665) (o := .cells #[.bool false, .slice none 0 0, .slice none 0 0] 24 (0, 0)) (zq2 BK1665.out) k_ hk_))) (below_size (zb1 GE1665.out))); have n1_ := am (blk_below (g := gb1665) (o := .cells #[.bool false, .slice none 0 0, .slice none 0 0] 24 (0, 0)) (zq2 BK1665.out) hb); have n2_ := am (below_step (zb1 GE1665.out) hb); clear BK1665 HB; have HO1681 := n0_; have BK1665 := n1_; have HB := n2_; clear n0_ n1_ n2_) | ((with_reducible refine gate_dst (N := 14) rfl ?_); refine Kd.R_lit (Kd.int .u32) _ 55 ?hg (N := 14) ?hd (xs := ([1] : List Int)) (inner := [.int .u32 1]) (ok := fun _ => True) (okp := fun _ => True) ?hr ?hp (fun _ hk => hk) trivial (Below.refl _ _) (Nat.le_refl _) (by simp) ?_; (case hd => rfl); (case hg => rfl); (case hr => exact zr); (case hp => exact (Reps.one (show Kd.M (Kd.int .u32) _ _ _ 1 [.int .u32 1] from rfl) (Reps.none _ _))); intro v1683 w19 ho20 hb hg_ hnew_; clear hg_ hnew_; (first | rw [← Ny1682.out] at ho20 | (simp only [Int.reduceToNat] at ho20; rw [← Ny1682.out] at ho20)); have n0_ := am (Kd.V_elder' (zq3 HO1681.out) (Kd.R_base ho20) hb); have n1_ := am (Kd.R_lower ho20 (below_size (zb1 GE1665.out))); have n2_ := am (blk_below (g := gb1665) (o := .cells #[.bool false, .slice none 0 0, .slice none 0 0] 24 (0, 0)) (zq2 BK1665.out) hb); have n3_ := am (below_step (zb1 GE1665.out) hb); clear HO1681 BK1665 HB; have HO1681 := n0_; have HO1684 := n1_; have BK1665 := n2_; have HB := n3_; clear n0_ n1_ n2_ n3_ hb ho20; obtain ⟨Ao21, co21, eo21⟩ := Kd.V_slice HO1681.out; subst eo21; obtain ⟨Ao22, co22, eo22⟩ := Kd.R_slice HO1684.out; subst eo22) | ((with_reducible refine gate_callee (f := 78) rfl ?_); refine goesL_ (some 15) rfl rfl Tryd.func78 (by kernel_rfl) rfl #[.bool false, .slice Ao21 t1679.length co21, .slice Ao22 y1682.length co22] rfl zq5 ?_; (with_reducible refine (number_raw.calls k false _ _ t1679 _ _ y1682 t1685 t1686 t1689 _ ?side1 ?side2 ?side3 ?side4 A16.out).mono ?_); (case side1 => exact zc ((Kd.V_reads' HO1681.out).2.2)); (case side2 => exact (Kd.V_reads' HO1681.out).2.1); (case side3 => exact zc ((Kd.R_reads' HO1684.out).2.2)); (case side4 => exact (Kd.R_reads' HO1684.out).2.1); rintro e w23 ⟨v1687, v1690, rfl, ho0, ho1, hb⟩; refine ⟨_, rfl, ?_⟩; have n0_ := am (Kd.V_mono (Kd.V_told (Kd.V_told (Kd.V_old (zq3 HO1681.out) hb) (Kd.R_base ho0)) (Kd.R_base ho1)) (fun _ h_ => h_.1)); have n1_ := am (Kd.R_mono (Kd.R_told (Kd.R_told (Kd.R_old (zq4 HO1684.out) hb) (Kd.R_base ho0)) (Kd.R_base ho1)) (fun _ h_ => h_.1)); have n2_ := am (Kd.R_lower (Kd.R_new' ho0 (Kd.R_lt (zq4 HO1684.out))) (below_size (zb1 GE1665.out))); have n3_ := am (Kd.R_lower (Kd.R_new' ho1 (Kd.R_lt (zq4 HO1684.out))) (below_size (zb1 GE1665.out))); have n4_ := am (blk_below (g := gb1665) (o := .cells #[.bool false, .slice none 0 0, .slice none 0 0] 24 (0, 0)) (zq2 BK1665.out) hb); have n5_ := am (below_step (zb1 GE1665.out) hb); clear HO1681 HO1684 BK1665 HB; have HO1681 := n0_; have HO1684 := n1_; have HO1688 := n2_; have HO1691 := n3_; have BK1665 := n4_; have HB := n5_; clear n0_ n1_ n2_ n3_ n4_ n5_; (try clear ho1); have hcz24_0 : w23.cell? ⟨gb1665, 0, none⟩ = some (.bool false) := (blk_cell BK1665.out 0).trans rfl; have hcz24_1 : w23.cell? ⟨gb1665, 1, none⟩ = some (.slice none 0 0) := (blk_cell BK1665.out 1).trans rfl; have hcz24_2 : w23.cell? ⟨gb1665, 2, none⟩ = some (.slice none 0 0) := (blk_cell BK1665.out 2).trans rfl; have hfz24_0 := blk_frozen BK1665.out 0; have hfz24_1 := blk_frozen BK1665.out 1; have hfz24_2 := blk_frozen BK1665.out 2; obtain ⟨Ao25, co25, eo25⟩ := Kd.R_slice HO1688.out; subst eo25; obtain ⟨Ao26, co26, eo26⟩ := Kd.R_slice HO1691.out; subst eo26))
  refine bodyPost_ret (results_cell_row rfl _ _ gb1665 24 #[.bool t1685, .slice Ao25 t1686.length co25, .slice Ao26 t1689.length co26] (0, 0) _ rfl (by (with_reducible repeat (first | refine blk_drewN ?_ _ | refine blk_drew ?_ | refine blk_alloc ?_ _)); refine blk_put (cs := #[.bool t1685, .slice Ao25 t1686.length co25, .slice none 0 0]) ?_ 2 _ rfl; (with_reducible repeat (first | refine blk_drewN ?_ _ | refine blk_drew ?_ | refine blk_alloc ?_ _)); refine blk_put (cs := #[.bool t1685, .slice none 0 0, .slice none 0 0]) ?_ 1 _ rfl; (with_reducible repeat (first | refine blk_drewN ?_ _ | refine blk_drew ?_ | refine blk_alloc ?_ _)); refine blk_put (cs := #[.bool false, .slice none 0 0, .slice none 0 0]) ?_ 0 _ rfl; (with_reducible repeat (first | refine blk_drewN ?_ _ | refine blk_drew ?_ | refine blk_alloc ?_ _)); exact BK1665.out) Tryd.underlying24 rfl (by kernel_rfl)) rfl ?_
  exact ⟨_, _, zq9, by (with_reducible repeat (first | apply Kd.R_alloc | apply Kd.R_drewN | apply Kd.R_drew)); exact Kd.R_mono (Kd.R_far (p := ⟨gb1665, 2, none⟩) (Kd.R_far (p := ⟨gb1665, 1, none⟩) (Kd.R_far (p := ⟨gb1665, 0, none⟩) (Kd.R_types HO1688.out BK1665.out (by decide)) (fun _ hk => hk.2) (.bool t1685)) (fun _ hk => hk.2) (.slice Ao25 t1686.length co25)) (fun _ hk => hk.2) (.slice Ao26 t1689.length co26)) (fun _ hk => hk.1.1), by (with_reducible repeat (first | apply Kd.R_alloc | apply Kd.R_drewN | apply Kd.R_drew)); exact Kd.R_mono (Kd.R_far (p := ⟨gb1665, 2, none⟩) (Kd.R_far (p := ⟨gb1665, 1, none⟩) (Kd.R_far (p := ⟨gb1665, 0, none⟩) (Kd.R_types HO1691.out BK1665.out (by decide)) (fun _ hk => hk.2) (.bool t1685)) (fun _ hk => hk.2) (.slice Ao25 t1686.length co25)) (fun _ hk => hk.2) (.slice Ao26 t1689.length co26)) (fun _ hk => hk.1.1), zb1 GE1665.out⟩
def number_integers.l0 : Nat → List (S24) → Int → Int → Option (Int)
 | 0, _, _, _ => none
 | k + 1, x11, x12, x13 => if x13 < x12 then (if 0 ≤ x13 then (if x13 < (x11.length : Int) then ((nat_IsOne.f ((rd_T24 x11 x13).f2)).bind fun t1401 => (if t1401 = true then (number_integers.l0 k x11 x12 (wrap64 (x13 + 1))) else (some 7))) else (none)) else (none)) else (some 0)
def number_integers.f (k : Nat) (l0 : List (S24)) : Option (Int) := (number_check.f k l0).bind fun t1398 => (if t1398 = 0 then (number_integers.l0 k l0 (l0.length : Int) 0) else (some t1398))
theorem number_integers.mono_l : ∀ k, (∀ y0 y1 y2, LeO (number_integers.l0 k y0 y1 y2) (number_integers.l0 (k + 1) y0 y1 y2))
 | 0 => fun _ _ _ r h => by simp [number_integers.l0] at h
 | k + 1 => by
  have ih0 := number_integers.mono_l k
  ·intro y0 y1 y2
   unfold number_integers.l0
   have m0 := ih0
   have m1 := @number_check.mono
   exact zm
theorem number_integers.mono : ∀ a0 k, LeO (number_integers.f k a0) (number_integers.f (k + 1) a0) := by
 intro a0 k
 have ih0 := number_integers.mono_l k
 unfold number_integers.f
 have m0 := ih0
 have m1 := @number_check.mono
 exact zm
set_option maxHeartbeats 8000000 in
set_option maxRecDepth 100000 in
theorem number_integers.calls (k : Nat) (A0 : Option Addr) (c0 : Nat) (l0 : List (S24)) (r : Int) (w : World) (hr0 : Kd.C k24 w A0 l0.length l0) (hc0 : l0.length ≤ c0) (h : number_integers.f k l0 = some r) :
  Calls Tryd.prog 80 #[.slice A0 l0.length c0] w fun e w' => e = .returned (.int .i64 r) ∧ Below w.heap.size w w' := by
 have hu24 := Tryd.underlying24
 have HR0 := am hr0
 have HC0 := am hc0
 clear hr0 hc0
 have HB := am (Below.refl w.heap.size w)
 have H := h
 unfold number_integers.f at H
 clear h
 replace H := zi H
 obtain ⟨t1398, A20, H⟩ := H
 have A2 := am A20
 clear A20
 by_cases c3 : t1398 = 0
 ·rw [if_pos c3] at H
  have c3b0 : (t1398 == 0) = true := beq_iff_eq.mpr c3
  have c3b1 : (t1398 != 0) = false := bne_eq_false_iff_eq.mpr c3
  clear c3
  have H' := am H
  clear H
  go_enter Tryd.func80, Tryd.ntmps80
  go_wp2_with (first | ((with_reducible refine gate_callee (f := 61) rfl ?_); refine goesL_ (some 7) rfl rfl Tryd.func61 (by kernel_rfl) rfl #[.slice A0 l0.length c0] rfl zq5 ?_; (with_reducible refine (number_check.calls k _ _ l0 t1398 _ ?side1 ?side2 A2.out).mono ?_); (case side1 => exact zc (HR0.out)); (case side2 => exact HC0.out); rintro e w4 ⟨rfl, hb⟩; refine ⟨_, rfl, ?_⟩; have n0_ := am (below_step zq1 hb); clear HB; have HB := n0_; clear n0_; (try clear hb); (try clear hb2); (try clear hk); (try clear hi)))
  go_loopg [13] k (fun kq v13 w' => ∃ (x13_1 : Int), v13 = .int .i64 x13_1 ∧ Aside0 (number_integers.l0 kq l0 (l0.length : Int) x13_1 = some r) ∧ Aside0 (kq ≤ k) ∧ Aside0 (Below w.heap.size w w'))
  case atStart => exact ⟨(0), zq8, H', ⟨Nat.le_refl _⟩, ⟨zq1⟩⟩
  case round =>
   clear H'
   obtain ⟨x13_1, rfl, HA, HK1, HB⟩ := hrel
   cases gk with
   | zero => exact absurd HA.out (by simp [number_integers.l0])
   | succ k1 =>
    have H := HA.out
    clear HA
    simp only [number_integers.l0] at H
    by_cases c5 : x13_1 < (l0.length : Int)
    ·rw [if_pos c5] at H
     have c5b0 := decide_eq_true c5
     clear c5
     replace H := zn H
     obtain ⟨c6, H⟩ := H
     have c6b0 := decide_eq_true c6
     clear c6
     replace H := zn H
     obtain ⟨c7, H⟩ := H
     have c7b0 := decide_eq_true c7
     clear c7
     replace H := zi H
     obtain ⟨t1401, A80, H⟩ := H
     have A8 := am A80
     clear A80
     by_cases c9 : t1401 = true
     ·subst c9
      have H1 : (number_integers.l0 k1 l0 (l0.length : Int) (wrap64 (x13_1 + 1))) = some r := by rw [if_pos rfl] at H; exact H
      clear H
      have H := H1
      clear H1
      have H' := am H
      clear H
      have p1399 : 0 ≤ (x13_1 : Int) := zq6
      have q1399 : x13_1 < (l0.length : Int) := zq6
      obtain ⟨ad1399, A1399_1, c1399_1, A1399_2, c1399_2, e1399, hx1399_0, hx1399_1, hx1399_2, hl1399_1, hi1399_1, hl1399_2, hi1399_2⟩ := at_T24 HR0.out x13_1 p1399 q1399
      cases e1399
      replace hx1399_0 := (HB.out.cell (World.block_lt_of_cell? w _ hx1399_0)).trans hx1399_0
      replace hx1399_1 := (HB.out.cell (World.block_lt_of_cell? w _ hx1399_1)).trans hx1399_1
      replace hx1399_2 := (HB.out.cell (World.block_lt_of_cell? w _ hx1399_2)).trans hx1399_2
      have HR1399_1 := am hi1399_1
      have HC1399_1 := am hl1399_1
      clear hi1399_1 hl1399_1
      have HR1399_2 := am hi1399_2
      have HC1399_2 := am hl1399_2
      clear hi1399_2 hl1399_2
      replace p1399 := eq_true p1399
      replace q1399 := eq_true q1399
      go_wp2_with (first | ((with_reducible refine gate_dst (N := 5) rfl ?_); refine box_event ?hg (N := 5) ?hd (cs := #[.bool false, .slice none 0 0, .slice none 0 0]) (t := 24) ?hr ?_; (case hd => rfl); (case hg => rfl); (case hr => exact zr); intro gb1400 hg w10 hbox hb; have n0_ := am (below_step zq1 hb); have n1_ := am (hbox); have n2_ := am ((by rw [hg]; exact (below_size zq1) : w.heap.size ≤ gb1400)); have n3_ := am ((by rw [hg]; exact (below_size zq1) : w.heap.size ≤ gb1400)); clear HB; have HB := n0_; have BK1400 := n1_; have GW1400 := n2_; have GE1400 := n3_; clear n0_ n1_ n2_ n3_ hb hbox hg; have hcz11_0 : w10.cell? ⟨gb1400, 0, none⟩ = some (.bool false) := (blk_cell BK1400.out 0).trans rfl; have hcz11_1 : w10.cell? ⟨gb1400, 1, none⟩ = some (.slice none 0 0) := (blk_cell BK1400.out 1).trans rfl; have hcz11_2 : w10.cell? ⟨gb1400, 2, none⟩ = some (.slice none 0 0) := (blk_cell BK1400.out 2).trans rfl; have hfz11_0 := blk_frozen BK1400.out 0; have hfz11_1 := blk_frozen BK1400.out 1; have hfz11_2 := blk_frozen BK1400.out 2) | ((with_reducible refine gate_callee (f := 43) rfl ?_); refine goesL_ (some 19) rfl rfl Tryd.func43 (by kernel_rfl) rfl #[.slice A1399_2 ((rd_T24 l0 x13_1).f2).length c1399_2] rfl zq5 ?_; (with_reducible refine (nat_IsOne.calls _ _ ((rd_T24 l0 x13_1).f2) true _ ?side1 ?side2 A8.out).mono ?_); (case side1 => exact Kd.C_below HR1399_2.out (zb1 GE1400.out)); (case side2 => exact HC1399_2.out); rintro e w' ⟨rfl, ⟨nd, rfl⟩⟩; refine ⟨_, rfl, ?_⟩))
      go_roundg k1
      case measure => have := HK1.out; omega
      case rel => exact ⟨(wrap64 (x13_1 + 1)), zq8, H', ⟨by have := HK1.out; omega⟩, ⟨zb1 GE1400.out⟩⟩
     ·replace c9 := Bool.eq_false_iff.mpr c9
      subst c9
      have H1 : (some 7) = some r := by rw [if_neg (show ¬ (false = true) by decide)] at H; exact H
      clear H
      have H := H1
      clear H1
      obtain rfl := Option.some.inj H
      have p1399 : 0 ≤ (x13_1 : Int) := zq6
      have q1399 : x13_1 < (l0.length : Int) := zq6
      obtain ⟨ad1399, A1399_1, c1399_1, A1399_2, c1399_2, e1399, hx1399_0, hx1399_1, hx1399_2, hl1399_1, hi1399_1, hl1399_2, hi1399_2⟩ := at_T24 HR0.out x13_1 p1399 q1399
      cases e1399
      replace hx1399_0 := (HB.out.cell (World.block_lt_of_cell? w _ hx1399_0)).trans hx1399_0
      replace hx1399_1 := (HB.out.cell (World.block_lt_of_cell? w _ hx1399_1)).trans hx1399_1
      replace hx1399_2 := (HB.out.cell (World.block_lt_of_cell? w _ hx1399_2)).trans hx1399_2
      have HR1399_1 := am hi1399_1
      have HC1399_1 := am hl1399_1
      clear hi1399_1 hl1399_1
      have HR1399_2 := am hi1399_2
      have HC1399_2 := am hl1399_2
      clear hi1399_2 hl1399_2
      replace p1399 := eq_true p1399
      replace q1399 := eq_true q1399
      go_wp2_with (first | ((with_reducible refine gate_dst (N := 5) rfl ?_); refine box_event ?hg (N := 5) ?hd (cs := #[.bool false, .slice none 0 0, .slice none 0 0]) (t := 24) ?hr ?_; (case hd => rfl); (case hg => rfl); (case hr => exact zr); intro gb1400 hg w12 hbox hb; have n0_ := am (below_step zq1 hb); have n1_ := am (hbox); have n2_ := am ((by rw [hg]; exact (below_size zq1) : w.heap.size ≤ gb1400)); have n3_ := am ((by rw [hg]; exact (below_size zq1) : w.heap.size ≤ gb1400)); clear HB; have HB := n0_; have BK1400 := n1_; have GW1400 := n2_; have GE1400 := n3_; clear n0_ n1_ n2_ n3_ hb hbox hg; have hcz13_0 : w12.cell? ⟨gb1400, 0, none⟩ = some (.bool false) := (blk_cell BK1400.out 0).trans rfl; have hcz13_1 : w12.cell? ⟨gb1400, 1, none⟩ = some (.slice none 0 0) := (blk_cell BK1400.out 1).trans rfl; have hcz13_2 : w12.cell? ⟨gb1400, 2, none⟩ = some (.slice none 0 0) := (blk_cell BK1400.out 2).trans rfl; have hfz13_0 := blk_frozen BK1400.out 0; have hfz13_1 := blk_frozen BK1400.out 1; have hfz13_2 := blk_frozen BK1400.out 2) | ((with_reducible refine gate_callee (f := 43) rfl ?_); refine goesL_ (some 19) rfl rfl Tryd.func43 (by kernel_rfl) rfl #[.slice A1399_2 ((rd_T24 l0 x13_1).f2).length c1399_2] rfl zq5 ?_; (with_reducible refine (nat_IsOne.calls _ _ ((rd_T24 l0 x13_1).f2) false _ ?side1 ?side2 A8.out).mono ?_); (case side1 => exact Kd.C_below HR1399_2.out (zb1 GE1400.out)); (case side2 => exact HC1399_2.out); rintro e w' ⟨rfl, ⟨nd, rfl⟩⟩; refine ⟨_, rfl, ?_⟩))
      go_ret
      exact ⟨zq9, zb1 GE1400.out⟩
    ·rw [if_neg c5] at H
     have c5b0 := decide_eq_false c5
     clear c5
     obtain rfl := Option.some.inj H
     go_wp2
     go_ret
     exact ⟨zq9, zq1⟩
 ·rw [if_neg c3] at H
  have c3b0 : (t1398 == 0) = false := beq_eq_false_iff_ne.mpr c3
  have c3b1 : (t1398 != 0) = true := bne_iff_ne.mpr c3
  obtain rfl := Option.some.inj H
  go_enter Tryd.func80, Tryd.ntmps80
  go_wp2_with (first | ((with_reducible refine gate_callee (f := 61) rfl ?_); refine goesL_ (some 7) rfl rfl Tryd.func61 (by kernel_rfl) rfl #[.slice A0 l0.length c0] rfl zq5 ?_; (with_reducible refine (number_check.calls k _ _ l0 t1398 _ ?side1 ?side2 A2.out).mono ?_); (case side1 => exact zc (HR0.out)); (case side2 => exact HC0.out); rintro e w14 ⟨rfl, hb⟩; refine ⟨_, rfl, ?_⟩; have n0_ := am (below_step zq1 hb); clear HB; have HB := n0_; clear n0_; (try clear hb); (try clear hb2); (try clear hk); (try clear hi)))
  go_ret
  exact ⟨zq9, zq1⟩
mutual
def number_ToInt.l0 : Nat → Int → List Int → Int → Int → Bool → List Int → List Int → Option (Int × Int)
 | 0, _, _, _, _, _, _, _ => none
 | k + 1, x5, x19, x20, x21, x1693000, x1693001, x1693002 => if x21 < x20 then (if 0 ≤ x21 then (if x21 < (x19.length : Int) then (if 0 ≤ (wrap64 (32 * x21)) then (number_ToInt.l0 k (Go.bits .or .u64 x5 (shl .u64 (IntKind.u64.wrap (rd x19 x21)) (wrap64 (32 * x21)))) x19 x20 (wrap64 (x21 + 1)) x1693000 x1693001 x1693002) else (none)) else (none)) else (none)) else (if x1693000 = true then (number_ToInt.j1 k x5 (decide (x5 ≤ 9223372036854775808)) x1693000 x1693001 x1693002) else (number_ToInt.j1 k x5 false x1693000 x1693001 x1693002))
def number_ToInt.j1 : Nat → Int → Bool → Bool → List Int → List Int → Option (Int × Int)
 | 0, _, _, _, _, _ => none
 | k + 1, x5, x34, x1693000, x1693001, x1693002 => if x34 = true then (some (wrap64 (IntKind.u64.wrap (-x5)), 0)) else (if x1693000 = true then (some (0, 3)) else (if x5 ≤ 9223372036854775807 then (some (wrap64 (x5), 0)) else (some (0, 3))))
end
def number_ToInt.f (k : Nat) (a0_0 : Bool) (l0_1 : List Int) (l0_2 : List Int) : Option (Int × Int) := (number_integers.f k (([(⟨a0_0, l0_1, l0_2⟩ : S24)] : List (S24)))).bind fun t1696 => (if t1696 = 0 then (if (l0_1.length : Int) > 2 then (some (0, 3)) else (number_ToInt.l0 k 0 l0_1 (l0_1.length : Int) 0 a0_0 l0_1 l0_2)) else (some (0, t1696)))
theorem number_ToInt.mono_l : ∀ k, (∀ y0 y1 y2 y3 y4 y5 y6, LeO (number_ToInt.l0 k y0 y1 y2 y3 y4 y5 y6) (number_ToInt.l0 (k + 1) y0 y1 y2 y3 y4 y5 y6)) ∧ (∀ y0 y1 y2 y3 y4, LeO (number_ToInt.j1 k y0 y1 y2 y3 y4) (number_ToInt.j1 (k + 1) y0 y1 y2 y3 y4))
 | 0 => ⟨fun _ _ _ _ _ _ _ r h => by simp [number_ToInt.l0] at h, fun _ _ _ _ _ r h => by simp [number_ToInt.j1] at h⟩
 | k + 1 => by
  obtain ⟨ih0, ih1⟩ := number_ToInt.mono_l k
  refine ⟨?_, ?_⟩
  ·intro y0 y1 y2 y3 y4 y5 y6
   unfold number_ToInt.l0
   have m0 := ih0
   have m1 := ih1
   have m2 := @number_integers.mono
   exact zm
  ·intro y0 y1 y2 y3 y4
   unfold number_ToInt.j1
   have m0 := ih0
   have m1 := ih1
   have m2 := @number_integers.mono
   exact zm
theorem number_ToInt.mono : ∀ a0 a1 a2 k, LeO (number_ToInt.f k a0 a1 a2) (number_ToInt.f (k + 1) a0 a1 a2) := by
 intro a0 a1 a2 k
 obtain ⟨ih0, ih1⟩ := number_ToInt.mono_l k
 unfold number_ToInt.f
 have m0 := ih0
 have m1 := ih1
 have m2 := @number_integers.mono
 exact zm
set_option maxHeartbeats 8000000 in
set_option maxRecDepth 100000 in
theorem number_ToInt.calls (k : Nat) (a0_0 : Bool) (P0_1_ : Nat → Prop) (A0_1 : Option Addr) (c0_1 : Nat) (l0_1 : List Int) (P0_2_ : Nat → Prop) (A0_2 : Option Addr) (c0_2 : Nat) (l0_2 : List Int) (r1 : Int) (r2 : Int) (w : World) (hs0_1 : Kd.V (Kd.int .u32) 55 w w.heap.size (fun k_ => P0_1_ k_) (.slice A0_1 l0_1.length c0_1) l0_1) (hs0_2 : Kd.V (Kd.int .u32) 55 w w.heap.size (fun k_ => P0_2_ k_) (.slice A0_2 l0_2.length c0_2) l0_2) (h : number_ToInt.f k a0_0 l0_1 l0_2 = some (r1, r2)) :
  Calls Tryd.prog 32 #[.agg #[.bool a0_0, .slice A0_1 l0_1.length c0_1, .slice A0_2 l0_2.length c0_2]] w fun e w' => e = .returned (.tuple #[.int .i64 r1, .int .i64 r2]) ∧ Below w.heap.size w w' := by
 have hu24 := Tryd.underlying24
 have HO0_1 := am (show Kd.V (Kd.int .u32) 55 w w.heap.size (fun k_ => ((P0_1_ k_ ∨ P0_2_ k_) ∨ w.heap.size ≤ k_)) (.slice A0_1 l0_1.length c0_1) l0_1 from Kd.V_mono hs0_1 (fun k_ hk => .inl (.inl hk)))
 have HO0_2 := am (show Kd.V (Kd.int .u32) 55 w w.heap.size (fun k_ => ((P0_1_ k_ ∨ P0_2_ k_) ∨ w.heap.size ≤ k_)) (.slice A0_2 l0_2.length c0_2) l0_2 from Kd.V_mono hs0_2 (fun k_ hk => .inl (.inr hk)))
 have HB := am (Below.refl w.heap.size w)
 have H := h
 unfold number_ToInt.f at H
 clear h
 obtain ⟨y1693, hy1693⟩ : ∃ y_ : List (S24), y_ = (([(⟨a0_0, l0_1, l0_2⟩ : S24)] : List (S24))) := ⟨_, rfl⟩
 try rw [← hy1693] at H
 have Ny1693 := am hy1693
 clear hy1693
 replace H := zi H
 obtain ⟨t1696, A20, H⟩ := H
 have A2 := am A20
 clear A20
 by_cases c3 : t1696 = 0
 ·rw [if_pos c3] at H
  have c3b0 : (t1696 == 0) = true := beq_iff_eq.mpr c3
  have c3b1 : (t1696 != 0) = false := bne_eq_false_iff_eq.mpr c3
  clear c3
  by_cases c4 : (l0_1.length : Int) > 2
  ·rw [if_pos c4] at H
   have c4b0 : decide (2 < (l0_1.length : Int)) = true := decide_eq_true c4
   have c4b1 : decide (2 < l0_1.length) = true := decide_eq_true (by omega)
   clear c4
   simp only [Option.some.injEq, Prod.mk.injEq] at H
   obtain ⟨rfl, rfl⟩ := H
   go_enter Tryd.func32, Tryd.ntmps32
   go_wp2_with (first | ((with_reducible refine gate_dst (N := 1) rfl ?_); refine box_event ?hg (N := 1) ?hd (cs := #[.bool a0_0, .slice A0_1 l0_1.length c0_1, .slice A0_2 l0_2.length c0_2]) (t := 24) ?hr ?_; (case hd => rfl); (case hg => rfl); (case hr => exact zr); intro gb1692 hg w5 hbox hb; have n0_ := am (Kd.V_below (Kd.V_elderB (zq3 HO0_1.out) gb1692 (Nat.le_of_eq hg.symm)) hb); have n1_ := am (Kd.V_below (Kd.V_elderB (zq3 HO0_2.out) gb1692 (Nat.le_of_eq hg.symm)) hb); have n2_ := am (below_step zq1 hb); have n3_ := am (hbox); have n4_ := am ((by rw [hg]; exact (below_size zq1) : w.heap.size ≤ gb1692)); have n5_ := am ((by rw [hg]; exact (below_size zq1) : w.heap.size ≤ gb1692)); clear HO0_1 HO0_2 HB; have HO0_1 := n0_; have HO0_2 := n1_; have HB := n2_; have BK1692 := n3_; have GW1692 := n4_; have GE1692 := n5_; clear n0_ n1_ n2_ n3_ n4_ n5_ hb hbox hg; have hcz6_0 : w5.cell? ⟨gb1692, 0, none⟩ = some (.bool a0_0) := (blk_cell BK1692.out 0).trans rfl; have hcz6_1 : w5.cell? ⟨gb1692, 1, none⟩ = some (.slice A0_1 l0_1.length c0_1) := (blk_cell BK1692.out 1).trans rfl; have hcz6_2 : w5.cell? ⟨gb1692, 2, none⟩ = some (.slice A0_2 l0_2.length c0_2) := (blk_cell BK1692.out 2).trans rfl; have hfz6_0 := blk_frozen BK1692.out 0; have hfz6_1 := blk_frozen BK1692.out 1; have hfz6_2 := blk_frozen BK1692.out 2) | ((with_reducible refine gate_dst (N := 9) rfl ?_); refine Kd.N_lit k24 _ 24 ?hg (N' := 9) ?hd (xs := ([(⟨a0_0, l0_1, l0_2⟩ : S24)] : List (S24))) (inner := [.bool a0_0, .slice A0_1 l0_1.length c0_1, .slice A0_2 l0_2.length c0_2]) (ok := (fun k_ => ((P0_1_ k_ ∨ P0_2_ k_) ∨ w.heap.size ≤ k_) ∧ k_ ≠ gb1692)) (okp := (fun k_ => ((P0_1_ k_ ∨ P0_2_ k_) ∨ w.heap.size ≤ k_) ∧ k_ ≠ gb1692)) ?hr ?hp (fun _ hk => hk) ((show ∀ k_, w5.heap.size ≤ k_ → (fun k_ => ((P0_1_ k_ ∨ P0_2_ k_) ∨ w.heap.size ≤ k_) ∧ k_ ≠ gb1692) k_ from fun k_ hk => ⟨(.inr (Nat.le_trans (below_size (zb1 GE1692.out)) hk)), Kd.freshB (g := gb1692) (o := .cells #[.bool a0_0, .slice A0_1 l0_1.length c0_1, .slice A0_2 l0_2.length c0_2] 24 (0, 0)) (zq2 BK1692.out) k_ hk⟩) _ (Nat.le_refl _)) (Below.refl _ _) (Nat.le_refl _) (by simp) ?_; (case hd => rfl); (case hg => rfl); (case hr => exact zr); (case hp => exact (Reps.c3 (show Kd.FK k24 _ _ (⟨a0_0, l0_1, l0_2⟩ : S24) [.bool a0_0, .slice A0_1 l0_1.length c0_1, .slice A0_2 l0_2.length c0_2] from (k24_mkF _ _ (⟨a0_0, l0_1, l0_2⟩ : S24) (Kd.V_reads' (Kd.V_mono (ok' := (fun k_ => ((P0_1_ k_ ∨ P0_2_ k_) ∨ w.heap.size ≤ k_) ∧ k_ ≠ gb1692)) (HO0_1.out) (fun k_ hk => ⟨hk.1, hk.2⟩))).2.1 (Kd.V_F (Kd.V_mono (ok' := (fun k_ => ((P0_1_ k_ ∨ P0_2_ k_) ∨ w.heap.size ≤ k_) ∧ k_ ≠ gb1692)) (HO0_1.out) (fun k_ hk => ⟨hk.1, hk.2⟩))) (Kd.V_reads' (Kd.V_mono (ok' := (fun k_ => ((P0_1_ k_ ∨ P0_2_ k_) ∨ w.heap.size ≤ k_) ∧ k_ ≠ gb1692)) (HO0_2.out) (fun k_ hk => ⟨hk.1, hk.2⟩))).2.1 (Kd.V_F (Kd.V_mono (ok' := (fun k_ => ((P0_1_ k_ ∨ P0_2_ k_) ∨ w.heap.size ≤ k_) ∧ k_ ≠ gb1692)) (HO0_2.out) (fun k_ hk => ⟨hk.1, hk.2⟩))))) (Reps.none _ _))); intro v1694 w7 ho8 hb hg_ hnew_; clear hg_ hnew_; (first | rw [← Ny1693.out] at ho8 | (simp only [Int.reduceToNat] at ho8; rw [← Ny1693.out] at ho8)); have n0_ := am (Kd.V_elder' (zq3 HO0_1.out) (Kd.N_base ho8) hb); have n1_ := am (Kd.V_elder' (zq3 HO0_2.out) (Kd.N_base ho8) hb); have n2_ := am (Kd.N_lower ho8 (below_size (zb1 GE1692.out))); have n3_ := am (blk_below (g := gb1692) (o := .cells #[.bool a0_0, .slice A0_1 l0_1.length c0_1, .slice A0_2 l0_2.length c0_2] 24 (0, 0)) (zq2 BK1692.out) hb); have n4_ := am (below_step (zb1 GE1692.out) hb); clear HO0_1 HO0_2 BK1692 HB; have HO0_1 := n0_; have HO0_2 := n1_; have HO1695 := n2_; have BK1692 := n3_; have HB := n4_; clear n0_ n1_ n2_ n3_ n4_ hb ho8; obtain ⟨Ao9, co9, eo9⟩ := Kd.N_slice HO1695.out; subst eo9) | ((with_reducible refine gate_callee (f := 80) rfl ?_); refine goesL_ (some 10) rfl rfl Tryd.func80 (by kernel_rfl) rfl #[.slice Ao9 y1693.length co9] rfl zq5 ?_; (with_reducible refine (number_integers.calls k _ _ y1693 t1696 _ ?side1 ?side2 A2.out).mono ?_); (case side1 => exact zc ((Kd.N_reads' HO1695.out).2.2)); (case side2 => exact (Kd.N_reads' HO1695.out).2.1); rintro e w10 ⟨rfl, hb⟩; refine ⟨_, rfl, ?_⟩; have n0_ := am (Kd.V_below (zq3 HO0_1.out) hb); have n1_ := am (Kd.V_below (zq3 HO0_2.out) hb); have n2_ := am (Kd.N_below (by (with_reducible repeat (first | apply Kd.N_alloc | apply Kd.N_drewN | apply Kd.N_drew)); exact HO1695.out) hb); have n3_ := am (blk_below (g := gb1692) (o := .cells #[.bool a0_0, .slice A0_1 l0_1.length c0_1, .slice A0_2 l0_2.length c0_2] 24 (0, 0)) (zq2 BK1692.out) hb); have n4_ := am (below_step (zb1 GE1692.out) hb); clear HO0_1 HO0_2 HO1695 BK1692 HB; have HO0_1 := n0_; have HO0_2 := n1_; have HO1695 := n2_; have BK1692 := n3_; have HB := n4_; clear n0_ n1_ n2_ n3_ n4_; (try clear hb); (try clear hb2); (try clear hk); (try clear hi); have hcz11_0 : w10.cell? ⟨gb1692, 0, none⟩ = some (.bool a0_0) := (blk_cell BK1692.out 0).trans rfl; have hcz11_1 : w10.cell? ⟨gb1692, 1, none⟩ = some (.slice A0_1 l0_1.length c0_1) := (blk_cell BK1692.out 1).trans rfl; have hcz11_2 : w10.cell? ⟨gb1692, 2, none⟩ = some (.slice A0_2 l0_2.length c0_2) := (blk_cell BK1692.out 2).trans rfl; have hfz11_0 := blk_frozen BK1692.out 0; have hfz11_1 := blk_frozen BK1692.out 1; have hfz11_2 := blk_frozen BK1692.out 2))
   go_ret2
   exact ⟨zq9, zb1 GE1692.out⟩
  ·rw [if_neg c4] at H
   have c4b0 : decide (2 < (l0_1.length : Int)) = false := decide_eq_false c4
   have c4b1 : decide (2 < l0_1.length) = false := decide_eq_false (by omega)
   clear c4
   have H' := am H
   clear H
   go_enter Tryd.func32, Tryd.ntmps32
   go_wp2_with (first | ((with_reducible refine gate_dst (N := 1) rfl ?_); refine box_event ?hg (N := 1) ?hd (cs := #[.bool a0_0, .slice A0_1 l0_1.length c0_1, .slice A0_2 l0_2.length c0_2]) (t := 24) ?hr ?_; (case hd => rfl); (case hg => rfl); (case hr => exact zr); intro gb1692 hg w12 hbox hb; have n0_ := am (Kd.V_below (Kd.V_elderB (zq3 HO0_1.out) gb1692 (Nat.le_of_eq hg.symm)) hb); have n1_ := am (Kd.V_below (Kd.V_elderB (zq3 HO0_2.out) gb1692 (Nat.le_of_eq hg.symm)) hb); have n2_ := am (below_step zq1 hb); have n3_ := am (hbox); have n4_ := am ((by rw [hg]; exact (below_size zq1) : w.heap.size ≤ gb1692)); have n5_ := am ((by rw [hg]; exact (below_size zq1) : w.heap.size ≤ gb1692)); clear HO0_1 HO0_2 HB; have HO0_1 := n0_; have HO0_2 := n1_; have HB := n2_; have BK1692 := n3_; have GW1692 := n4_; have GE1692 := n5_; clear n0_ n1_ n2_ n3_ n4_ n5_ hb hbox hg; have hcz13_0 : w12.cell? ⟨gb1692, 0, none⟩ = some (.bool a0_0) := (blk_cell BK1692.out 0).trans rfl; have hcz13_1 : w12.cell? ⟨gb1692, 1, none⟩ = some (.slice A0_1 l0_1.length c0_1) := (blk_cell BK1692.out 1).trans rfl; have hcz13_2 : w12.cell? ⟨gb1692, 2, none⟩ = some (.slice A0_2 l0_2.length c0_2) := (blk_cell BK1692.out 2).trans rfl; have hfz13_0 := blk_frozen BK1692.out 0; have hfz13_1 := blk_frozen BK1692.out 1; have hfz13_2 := blk_frozen BK1692.out 2) | ((with_reducible refine gate_dst (N := 9) rfl ?_); refine Kd.N_lit k24 _ 24 ?hg (N' := 9) ?hd (xs := ([(⟨a0_0, l0_1, l0_2⟩ : S24)] : List (S24))) (inner := [.bool a0_0, .slice A0_1 l0_1.length c0_1, .slice A0_2 l0_2.length c0_2]) (ok := (fun k_ => ((P0_1_ k_ ∨ P0_2_ k_) ∨ w.heap.size ≤ k_) ∧ k_ ≠ gb1692)) (okp := (fun k_ => ((P0_1_ k_ ∨ P0_2_ k_) ∨ w.heap.size ≤ k_) ∧ k_ ≠ gb1692)) ?hr ?hp (fun _ hk => hk) ((show ∀ k_, w12.heap.size ≤ k_ → (fun k_ => ((P0_1_ k_ ∨ P0_2_ k_) ∨ w.heap.size ≤ k_) ∧ k_ ≠ gb1692) k_ from fun k_ hk => ⟨(.inr (Nat.le_trans (below_size (zb1 GE1692.out)) hk)), Kd.freshB (g := gb1692) (o := .cells #[.bool a0_0, .slice A0_1 l0_1.length c0_1, .slice A0_2 l0_2.length c0_2] 24 (0, 0)) (zq2 BK1692.out) k_ hk⟩) _ (Nat.le_refl _)) (Below.refl _ _) (Nat.le_refl _) (by simp) ?_; (case hd => rfl); (case hg => rfl); (case hr => exact zr); (case hp => exact (Reps.c3 (show Kd.FK k24 _ _ (⟨a0_0, l0_1, l0_2⟩ : S24) [.bool a0_0, .slice A0_1 l0_1.length c0_1, .slice A0_2 l0_2.length c0_2] from (k24_mkF _ _ (⟨a0_0, l0_1, l0_2⟩ : S24) (Kd.V_reads' (Kd.V_mono (ok' := (fun k_ => ((P0_1_ k_ ∨ P0_2_ k_) ∨ w.heap.size ≤ k_) ∧ k_ ≠ gb1692)) (HO0_1.out) (fun k_ hk => ⟨hk.1, hk.2⟩))).2.1 (Kd.V_F (Kd.V_mono (ok' := (fun k_ => ((P0_1_ k_ ∨ P0_2_ k_) ∨ w.heap.size ≤ k_) ∧ k_ ≠ gb1692)) (HO0_1.out) (fun k_ hk => ⟨hk.1, hk.2⟩))) (Kd.V_reads' (Kd.V_mono (ok' := (fun k_ => ((P0_1_ k_ ∨ P0_2_ k_) ∨ w.heap.size ≤ k_) ∧ k_ ≠ gb1692)) (HO0_2.out) (fun k_ hk => ⟨hk.1, hk.2⟩))).2.1 (Kd.V_F (Kd.V_mono (ok' := (fun k_ => ((P0_1_ k_ ∨ P0_2_ k_) ∨ w.heap.size ≤ k_) ∧ k_ ≠ gb1692)) (HO0_2.out) (fun k_ hk => ⟨hk.1, hk.2⟩))))) (Reps.none _ _))); intro v1694 w14 ho15 hb hg_ hnew_; clear hg_ hnew_; (first | rw [← Ny1693.out] at ho15 | (simp only [Int.reduceToNat] at ho15; rw [← Ny1693.out] at ho15)); have n0_ := am (Kd.V_elder' (zq3 HO0_1.out) (Kd.N_base ho15) hb); have n1_ := am (Kd.V_elder' (zq3 HO0_2.out) (Kd.N_base ho15) hb); have n2_ := am (Kd.N_lower ho15 (below_size (zb1 GE1692.out))); have n3_ := am (blk_below (g := gb1692) (o := .cells #[.bool a0_0, .slice A0_1 l0_1.length c0_1, .slice A0_2 l0_2.length c0_2] 24 (0, 0)) (zq2 BK1692.out) hb); have n4_ := am (below_step (zb1 GE1692.out) hb); clear HO0_1 HO0_2 BK1692 HB; have HO0_1 := n0_; have HO0_2 := n1_; have HO1695 := n2_; have BK1692 := n3_; have HB := n4_; clear n0_ n1_ n2_ n3_ n4_ hb ho15; obtain ⟨Ao16, co16, eo16⟩ := Kd.N_slice HO1695.out; subst eo16) | ((with_reducible refine gate_callee (f := 80) rfl ?_); refine goesL_ (some 10) rfl rfl Tryd.func80 (by kernel_rfl) rfl #[.slice Ao16 y1693.length co16] rfl zq5 ?_; (with_reducible refine (number_integers.calls k _ _ y1693 t1696 _ ?side1 ?side2 A2.out).mono ?_); (case side1 => exact zc ((Kd.N_reads' HO1695.out).2.2)); (case side2 => exact (Kd.N_reads' HO1695.out).2.1); rintro e w17 ⟨rfl, hb⟩; refine ⟨_, rfl, ?_⟩; have n0_ := am (Kd.V_below (zq3 HO0_1.out) hb); have n1_ := am (Kd.V_below (zq3 HO0_2.out) hb); have n2_ := am (Kd.N_below (by (with_reducible repeat (first | apply Kd.N_alloc | apply Kd.N_drewN | apply Kd.N_drew)); exact HO1695.out) hb); have n3_ := am (blk_below (g := gb1692) (o := .cells #[.bool a0_0, .slice A0_1 l0_1.length c0_1, .slice A0_2 l0_2.length c0_2] 24 (0, 0)) (zq2 BK1692.out) hb); have n4_ := am (below_step (zb1 GE1692.out) hb); clear HO0_1 HO0_2 HO1695 BK1692 HB; have HO0_1 := n0_; have HO0_2 := n1_; have HO1695 := n2_; have BK1692 := n3_; have HB := n4_; clear n0_ n1_ n2_ n3_ n4_; (try clear hb); (try clear hb2); (try clear hk); (try clear hi); have hcz18_0 : w17.cell? ⟨gb1692, 0, none⟩ = some (.bool a0_0) := (blk_cell BK1692.out 0).trans rfl; have hcz18_1 : w17.cell? ⟨gb1692, 1, none⟩ = some (.slice A0_1 l0_1.length c0_1) := (blk_cell BK1692.out 1).trans rfl; have hcz18_2 : w17.cell? ⟨gb1692, 2, none⟩ = some (.slice A0_2 l0_2.length c0_2) := (blk_cell BK1692.out 2).trans rfl; have hfz18_0 := blk_frozen BK1692.out 0; have hfz18_1 := blk_frozen BK1692.out 1; have hfz18_2 := blk_frozen BK1692.out 2))
   go_loopg [5, 21] k (fun kq v5 v21 w' => ∃ (x5_1 : Int) (x21_1 : Int), v5 = .int .u64 x5_1 ∧ v21 = .int .i64 x21_1 ∧ Aside0 (number_ToInt.l0 kq x5_1 l0_1 (l0_1.length : Int) x21_1 a0_0 l0_1 l0_2 = some (r1, r2)) ∧ Aside0 (kq ≤ k) ∧ Aside0 (Kd.V (Kd.int .u32) 55 w' w.heap.size (fun k_ => ((P0_1_ k_ ∨ P0_2_ k_) ∨ w.heap.size ≤ k_) ∧ k_ ≠ gb1692) (.slice A0_1 l0_1.length c0_1) l0_1) ∧ Aside0 (Kd.V (Kd.int .u32) 55 w' w.heap.size (fun k_ => ((P0_1_ k_ ∨ P0_2_ k_) ∨ w.heap.size ≤ k_) ∧ k_ ≠ gb1692) (.slice A0_1 l0_1.length c0_1) l0_1) ∧ Aside0 (Kd.V (Kd.int .u32) 55 w' w.heap.size (fun k_ => ((P0_1_ k_ ∨ P0_2_ k_) ∨ w.heap.size ≤ k_) ∧ k_ ≠ gb1692) (.slice A0_2 l0_2.length c0_2) l0_2) ∧ Aside0 (w'.heap[gb1692]? = some (.cells #[.bool a0_0, (.slice A0_1 l0_1.length c0_1), (.slice A0_2 l0_2.length c0_2)] 24 (0, 0))) ∧ Aside0 (Below w.heap.size w w'))
   case atStart => exact ⟨(0), (0), zq8, zq8, H', ⟨Nat.le_refl _⟩, ⟨by (with_reducible repeat (first | apply Kd.V_alloc | apply Kd.V_drewN | apply Kd.V_drew)); exact Kd.V_mono HO0_1.out (fun _ hk => ⟨hk.1.1, hk.1.2⟩)⟩, ⟨by (with_reducible repeat (first | apply Kd.V_alloc | apply Kd.V_drewN | apply Kd.V_drew)); exact Kd.V_mono HO0_1.out (fun _ hk => ⟨hk.1.1, hk.1.2⟩)⟩, ⟨by (with_reducible repeat (first | apply Kd.V_alloc | apply Kd.V_drewN | apply Kd.V_drew)); exact Kd.V_mono HO0_2.out (fun _ hk => ⟨hk.1.1, hk.1.2⟩)⟩, ⟨zq2 BK1692.out⟩, ⟨zb1 GE1692.out⟩⟩
   case round =>
    clear H'
    obtain ⟨x5_1, x21_1, rfl, rfl, HA, HK1, HO_19, HO_1693001, HO_1693002, BK1692, HB⟩ := hrel
    cases gk with
    | zero => exact absurd HA.out (by simp [number_ToInt.l0])
    | succ k1 =>
     have H := HA.out
     clear HA
     simp only [number_ToInt.l0] at H
     by_cases c19 : x21_1 < (l0_1.length : Int)
     ·rw [if_pos c19] at H
      have c19b0 := decide_eq_true c19
      clear c19
      replace H := zn H
      obtain ⟨c20, H⟩ := H
      have c20b0 := decide_eq_true c20
      clear c20
      replace H := zn H
      obtain ⟨c21, H⟩ := H
      have c21b0 := decide_eq_true c21
      clear c21
      obtain ⟨ji22, hji22⟩ : ∃ j_ : Int, (wrap64 (32 * x21_1)) = j_ := ⟨_, rfl⟩
      replace H : (if 0 ≤ (ji22) then (number_ToInt.l0 k1 (Go.bits .or .u64 x5_1 (shl .u64 (IntKind.u64.wrap (rd l0_1 x21_1)) (ji22))) l0_1 (l0_1.length : Int) (wrap64 (x21_1 + 1)) a0_0 l0_1 l0_2) else (none)) = some (r1, r2) := by first | (rw [hji22] at H; exact H) | (simp only [hji22] at H ⊢; exact H)
      have hji22w : (IntKind.i64.wrap (32 * x21_1)) = ji22 := (i64_w _).trans hji22
      replace H := zn H
      obtain ⟨c23, H⟩ := H
      have c23b0 := eq_true c23
      have c23b1 := decide_eq_true c23
      clear c23
      obtain ⟨ji24, hji24⟩ : ∃ j_ : Int, (shl .u64 (IntKind.u64.wrap (rd l0_1 x21_1)) (ji22)) = j_ := ⟨_, rfl⟩
      replace H : (number_ToInt.l0 k1 (Go.bits .or .u64 x5_1 (ji24)) l0_1 (l0_1.length : Int) (wrap64 (x21_1 + 1)) a0_0 l0_1 l0_2) = some (r1, r2) := by first | (rw [hji24] at H; exact H) | (simp only [hji24] at H ⊢; exact H)
      have hji24_ : (IntKind.u64.wrap ((IntKind.u64.wrap (rd l0_1 x21_1)) * 2 ^ min (ji22).toNat 64)) = ji24 := hji24
      have hji24z : (ji22) ≤ 64 → (IntKind.u64.wrap ((IntKind.u64.wrap (rd l0_1 x21_1)) * 2 ^ (ji22).toNat)) = ji24 := shl_small hji24
      have H' := am H
      clear H
      have p1697 : 0 ≤ (x21_1 : Int) := zq6
      have q1697 : x21_1 < (l0_1.length : Int) := zq6
      obtain ⟨ad1697, e1697, hx1697_0⟩ := Kd.at_int (Kd.V_reads' HO_19.out).2.2 x21_1 p1697 q1697
      cases e1697
      replace p1697 := eq_true p1697
      replace q1697 := eq_true q1697
      go_wp2
      go_roundg k1
      case measure => have := HK1.out; omega
      case rel => exact ⟨(Go.bits .or .u64 x5_1 (ji24)), (wrap64 (x21_1 + 1)), (by first | rfl | (simp; done) | (simp only [← hji24] <;> (first | rfl | simp)) | (simp [*]; done)), zq8, (by first | exact H' | (rw [hji22]; exact H') | (rw [hji24]; exact H')), ⟨by have := HK1.out; omega⟩, ⟨zq3 HO_19.out⟩, ⟨zq3 HO_1693001.out⟩, ⟨zq3 HO_1693002.out⟩, ⟨zq2 BK1692.out⟩, ⟨zb1 GE1692.out⟩⟩
     ·rw [if_neg c19] at H
      have c19b0 := decide_eq_false c19
      clear c19
      have HC25 := am H
      clear H
      go_upto_region 12 with (fail)
      go_cut [34] (fun v34 wc => ∃ (kq : Nat) (x34_24 : Bool), v34 = .bool x34_24 ∧ Aside0 (number_ToInt.j1 kq x5_1 x34_24 a0_0 l0_1 l0_2 = some (r1, r2)) ∧ Aside0 (kq ≤ k1) ∧ Aside0 (Kd.V (Kd.int .u32) 55 wc w.heap.size (fun k_ => ((P0_1_ k_ ∨ P0_2_ k_) ∨ w.heap.size ≤ k_) ∧ k_ ≠ gb1692) (.slice A0_1 l0_1.length c0_1) l0_1) ∧ Aside0 (Kd.V (Kd.int .u32) 55 wc w.heap.size (fun k_ => ((P0_1_ k_ ∨ P0_2_ k_) ∨ w.heap.size ≤ k_) ∧ k_ ≠ gb1692) (.slice A0_2 l0_2.length c0_2) l0_2) ∧ Aside0 (wc.heap[gb1692]? = some (.cells #[.bool a0_0, (.slice A0_1 l0_1.length c0_1), (.slice A0_2 l0_2.length c0_2)] 24 (0, 0))) ∧ Aside0 (Below w.heap.size w wc))
      case first =>
       have H := HC25.out
       clear HC25
       by_cases c26 : a0_0 = true
       ·subst c26
        have H1 : (number_ToInt.j1 k1 x5_1 (decide (x5_1 ≤ 9223372036854775808)) true l0_1 l0_2) = some (r1, r2) := by rw [if_pos rfl] at H; exact H
        clear H
        have H := H1
        clear H1
        have H' := am H
        clear H
        have hcz27_0 : wr.cell? ⟨gb1692, 0, none⟩ = some (.bool true) := (blk_cell BK1692.out 0).trans rfl
        have hcz27_1 : wr.cell? ⟨gb1692, 1, none⟩ = some (.slice A0_1 l0_1.length c0_1) := (blk_cell BK1692.out 1).trans rfl
        have hcz27_2 : wr.cell? ⟨gb1692, 2, none⟩ = some (.slice A0_2 l0_2.length c0_2) := (blk_cell BK1692.out 2).trans rfl
        have hfz27_0 := blk_frozen BK1692.out 0
        have hfz27_1 := blk_frozen BK1692.out 1
        have hfz27_2 := blk_frozen BK1692.out 2
        go_wp2
        go_meet
        case rel => exact ⟨_, (decide (x5_1 ≤ 9223372036854775808)), zq8, H', ⟨by have := HK1.out; first | omega | exact Nat.le_refl _⟩, ⟨zq3 HO_1693001.out⟩, ⟨zq3 HO_1693002.out⟩, ⟨zq2 BK1692.out⟩, ⟨zb1 GE1692.out⟩⟩
       ·replace c26 := Bool.eq_false_iff.mpr c26
        subst c26
        have H1 : (number_ToInt.j1 k1 x5_1 false false l0_1 l0_2) = some (r1, r2) := by rw [if_neg (show ¬ (false = true) by decide)] at H; exact H
        clear H
        have H := H1
        clear H1
        have H' := am H
        clear H
        have hcz28_0 : wr.cell? ⟨gb1692, 0, none⟩ = some (.bool false) := (blk_cell BK1692.out 0).trans rfl
        have hcz28_1 : wr.cell? ⟨gb1692, 1, none⟩ = some (.slice A0_1 l0_1.length c0_1) := (blk_cell BK1692.out 1).trans rfl
        have hcz28_2 : wr.cell? ⟨gb1692, 2, none⟩ = some (.slice A0_2 l0_2.length c0_2) := (blk_cell BK1692.out 2).trans rfl
        have hfz28_0 := blk_frozen BK1692.out 0
        have hfz28_1 := blk_frozen BK1692.out 1
        have hfz28_2 := blk_frozen BK1692.out 2
        go_wp2
        go_meet
        case rel => exact ⟨_, (false), zq8, H', ⟨by have := HK1.out; first | omega | exact Nat.le_refl _⟩, ⟨zq3 HO_1693001.out⟩, ⟨zq3 HO_1693002.out⟩, ⟨zq2 BK1692.out⟩, ⟨zb1 GE1692.out⟩⟩
      case rest =>
       clear HC25
       obtain ⟨kq, x34_24, rfl, HA, HJ24, HO_1693001, HO_1693002, BK1692, HB⟩ := hcut
       cases kq with
       | zero => exact absurd HA.out (by simp [number_ToInt.j1])
       | succ kj24 =>
        have H := HA.out
        clear HA
        simp only [number_ToInt.j1] at H
        by_cases c29 : x34_24 = true
        ·subst c29
         have H1 : (some (wrap64 (IntKind.u64.wrap (-x5_1)), 0)) = some (r1, r2) := by rw [if_pos rfl] at H; exact H
         clear H
         have H := H1
         clear H1
         simp only [Option.some.injEq, Prod.mk.injEq] at H
         obtain ⟨rfl, rfl⟩ := H
         go_wp2
         go_ret2
         exact ⟨zq9, zb1 GE1692.out⟩
        ·replace c29 := Bool.eq_false_iff.mpr c29
         subst c29
         have H1 : (if a0_0 = true then (some (0, 3)) else (if x5_1 ≤ 9223372036854775807 then (some (wrap64 (x5_1), 0)) else (some (0, 3)))) = some (r1, r2) := by rw [if_neg (show ¬ (false = true) by decide)] at H; exact H
         clear H
         have H := H1
         clear H1
         by_cases c30 : a0_0 = true
         ·subst c30
          have H1 : (some (0, 3)) = some (r1, r2) := by rw [if_pos rfl] at H; exact H
          clear H
          have H := H1
          clear H1
          simp only [Option.some.injEq, Prod.mk.injEq] at H
          obtain ⟨rfl, rfl⟩ := H
          have hcz31_0 : wc.cell? ⟨gb1692, 0, none⟩ = some (.bool true) := (blk_cell BK1692.out 0).trans rfl
          have hcz31_1 : wc.cell? ⟨gb1692, 1, none⟩ = some (.slice A0_1 l0_1.length c0_1) := (blk_cell BK1692.out 1).trans rfl
          have hcz31_2 : wc.cell? ⟨gb1692, 2, none⟩ = some (.slice A0_2 l0_2.length c0_2) := (blk_cell BK1692.out 2).trans rfl
          have hfz31_0 := blk_frozen BK1692.out 0
          have hfz31_1 := blk_frozen BK1692.out 1
          have hfz31_2 := blk_frozen BK1692.out 2
          go_wp2
          go_ret2
          exact ⟨zq9, zb1 GE1692.out⟩
         ·replace c30 := Bool.eq_false_iff.mpr c30
          subst c30
          have H1 : (if x5_1 ≤ 9223372036854775807 then (some (wrap64 (x5_1), 0)) else (some (0, 3))) = some (r1, r2) := by rw [if_neg (show ¬ (false = true) by decide)] at H; exact H
          clear H
          have H := H1
          clear H1
          by_cases c32 : x5_1 ≤ 9223372036854775807
          ·rw [if_pos c32] at H
           have c32b0 := decide_eq_true c32
           clear c32
           simp only [Option.some.injEq, Prod.mk.injEq] at H
           obtain ⟨rfl, rfl⟩ := H
           have hcz33_0 : wc.cell? ⟨gb1692, 0, none⟩ = some (.bool false) := (blk_cell BK1692.out 0).trans rfl
           have hcz33_1 : wc.cell? ⟨gb1692, 1, none⟩ = some (.slice A0_1 l0_1.length c0_1) := (blk_cell BK1692.out 1).trans rfl
           have hcz33_2 : wc.cell? ⟨gb1692, 2, none⟩ = some (.slice A0_2 l0_2.length c0_2) := (blk_cell BK1692.out 2).trans rfl
           have hfz33_0 := blk_frozen BK1692.out 0
           have hfz33_1 := blk_frozen BK1692.out 1
           have hfz33_2 := blk_frozen BK1692.out 2
           go_wp2
           go_ret2
           exact ⟨zq9, zb1 GE1692.out⟩
          ·rw [if_neg c32] at H
           have c32b0 := decide_eq_false c32
           clear c32
           simp only [Option.some.injEq, Prod.mk.injEq] at H
           obtain ⟨rfl, rfl⟩ := H
           have hcz34_0 : wc.cell? ⟨gb1692, 0, none⟩ = some (.bool false) := (blk_cell BK1692.out 0).trans rfl
           have hcz34_1 : wc.cell? ⟨gb1692, 1, none⟩ = some (.slice A0_1 l0_1.length c0_1) := (blk_cell BK1692.out 1).trans rfl
           have hcz34_2 : wc.cell? ⟨gb1692, 2, none⟩ = some (.slice A0_2 l0_2.length c0_2) := (blk_cell BK1692.out 2).trans rfl
           have hfz34_0 := blk_frozen BK1692.out 0
           have hfz34_1 := blk_frozen BK1692.out 1
           have hfz34_2 := blk_frozen BK1692.out 2
           go_wp2
           go_ret2
           exact ⟨zq9, zb1 GE1692.out⟩
 ·rw [if_neg c3] at H
  have c3b0 : (t1696 == 0) = false := beq_eq_false_iff_ne.mpr c3
  have c3b1 : (t1696 != 0) = true := bne_iff_ne.mpr c3
  simp only [Option.some.injEq, Prod.mk.injEq] at H
  obtain ⟨rfl, rfl⟩ := H
  go_enter Tryd.func32, Tryd.ntmps32
  go_wp2_with (first | ((with_reducible refine gate_dst (N := 1) rfl ?_); refine box_event ?hg (N := 1) ?hd (cs := #[.bool a0_0, .slice A0_1 l0_1.length c0_1, .slice A0_2 l0_2.length c0_2]) (t := 24) ?hr ?_; (case hd => rfl); (case hg => rfl); (case hr => exact zr); intro gb1692 hg w35 hbox hb; have n0_ := am (Kd.V_below (Kd.V_elderB (zq3 HO0_1.out) gb1692 (Nat.le_of_eq hg.symm)) hb); have n1_ := am (Kd.V_below (Kd.V_elderB (zq3 HO0_2.out) gb1692 (Nat.le_of_eq hg.symm)) hb); have n2_ := am (below_step zq1 hb); have n3_ := am (hbox); have n4_ := am ((by rw [hg]; exact (below_size zq1) : w.heap.size ≤ gb1692)); have n5_ := am ((by rw [hg]; exact (below_size zq1) : w.heap.size ≤ gb1692)); clear HO0_1 HO0_2 HB; have HO0_1 := n0_; have HO0_2 := n1_; have HB := n2_; have BK1692 := n3_; have GW1692 := n4_; have GE1692 := n5_; clear n0_ n1_ n2_ n3_ n4_ n5_ hb hbox hg; have hcz36_0 : w35.cell? ⟨gb1692, 0, none⟩ = some (.bool a0_0) := (blk_cell BK1692.out 0).trans rfl; have hcz36_1 : w35.cell? ⟨gb1692, 1, none⟩ = some (.slice A0_1 l0_1.length c0_1) := (blk_cell BK1692.out 1).trans rfl; have hcz36_2 : w35.cell? ⟨gb1692, 2, none⟩ = some (.slice A0_2 l0_2.length c0_2) := (blk_cell BK1692.out 2).trans rfl; have hfz36_0 := blk_frozen BK1692.out 0; have hfz36_1 := blk_frozen BK1692.out 1; have hfz36_2 := blk_frozen BK1692.out 2) | ((with_reducible refine gate_dst (N := 9) rfl ?_); refine Kd.N_lit k24 _ 24 ?hg (N' := 9) ?hd (xs := ([(⟨a0_0, l0_1, l0_2⟩ : S24)] : List (S24))) (inner := [.bool a0_0, .slice A0_1 l0_1.length c0_1, .slice A0_2 l0_2.length c0_2]) (ok := (fun k_ => ((P0_1_ k_ ∨ P0_2_ k_) ∨ w.heap.size ≤ k_) ∧ k_ ≠ gb1692)) (okp := (fun k_ => ((P0_1_ k_ ∨ P0_2_ k_) ∨ w.heap.size ≤ k_) ∧ k_ ≠ gb1692)) ?hr ?hp (fun _ hk => hk) ((show ∀ k_, w35.heap.size ≤ k_ → (fun k_ => ((P0_1_ k_ ∨ P0_2_ k_) ∨ w.heap.size ≤ k_) ∧ k_ ≠ gb1692) k_ from fun k_ hk => ⟨(.inr (Nat.le_trans (below_size (zb1 GE1692.out)) hk)), Kd.freshB (g := gb1692) (o := .cells #[.bool a0_0, .slice A0_1 l0_1.length c0_1, .slice A0_2 l0_2.length c0_2] 24 (0, 0)) (zq2 BK1692.out) k_ hk⟩) _ (Nat.le_refl _)) (Below.refl _ _) (Nat.le_refl _) (by simp) ?_; (case hd => rfl); (case hg => rfl); (case hr => exact zr); (case hp => exact (Reps.c3 (show Kd.FK k24 _ _ (⟨a0_0, l0_1, l0_2⟩ : S24) [.bool a0_0, .slice A0_1 l0_1.length c0_1, .slice A0_2 l0_2.length c0_2] from (k24_mkF _ _ (⟨a0_0, l0_1, l0_2⟩ : S24) (Kd.V_reads' (Kd.V_mono (ok' := (fun k_ => ((P0_1_ k_ ∨ P0_2_ k_) ∨ w.heap.size ≤ k_) ∧ k_ ≠ gb1692)) (HO0_1.out) (fun k_ hk => ⟨hk.1, hk.2⟩))).2.1 (Kd.V_F (Kd.V_mono (ok' := (fun k_ => ((P0_1_ k_ ∨ P0_2_ k_) ∨ w.heap.size ≤ k_) ∧ k_ ≠ gb1692)) (HO0_1.out) (fun k_ hk => ⟨hk.1, hk.2⟩))) (Kd.V_reads' (Kd.V_mono (ok' := (fun k_ => ((P0_1_ k_ ∨ P0_2_ k_) ∨ w.heap.size ≤ k_) ∧ k_ ≠ gb1692)) (HO0_2.out) (fun k_ hk => ⟨hk.1, hk.2⟩))).2.1 (Kd.V_F (Kd.V_mono (ok' := (fun k_ => ((P0_1_ k_ ∨ P0_2_ k_) ∨ w.heap.size ≤ k_) ∧ k_ ≠ gb1692)) (HO0_2.out) (fun k_ hk => ⟨hk.1, hk.2⟩))))) (Reps.none _ _))); intro v1694 w37 ho38 hb hg_ hnew_; clear hg_ hnew_; (first | rw [← Ny1693.out] at ho38 | (simp only [Int.reduceToNat] at ho38; rw [← Ny1693.out] at ho38)); have n0_ := am (Kd.V_elder' (zq3 HO0_1.out) (Kd.N_base ho38) hb); have n1_ := am (Kd.V_elder' (zq3 HO0_2.out) (Kd.N_base ho38) hb); have n2_ := am (Kd.N_lower ho38 (below_size (zb1 GE1692.out))); have n3_ := am (blk_below (g := gb1692) (o := .cells #[.bool a0_0, .slice A0_1 l0_1.length c0_1, .slice A0_2 l0_2.length c0_2] 24 (0, 0)) (zq2 BK1692.out) hb); have n4_ := am (below_step (zb1 GE1692.out) hb); clear HO0_1 HO0_2 BK1692 HB; have HO0_1 := n0_; have HO0_2 := n1_; have HO1695 := n2_; have BK1692 := n3_; have HB := n4_; clear n0_ n1_ n2_ n3_ n4_ hb ho38; obtain ⟨Ao39, co39, eo39⟩ := Kd.N_slice HO1695.out; subst eo39) | ((with_reducible refine gate_callee (f := 80) rfl ?_); refine goesL_ (some 10) rfl rfl Tryd.func80 (by kernel_rfl) rfl #[.slice Ao39 y1693.length co39] rfl zq5 ?_; (with_reducible refine (number_integers.calls k _ _ y1693 t1696 _ ?side1 ?side2 A2.out).mono ?_); (case side1 => exact zc ((Kd.N_reads' HO1695.out).2.2)); (case side2 => exact (Kd.N_reads' HO1695.out).2.1); rintro e w40 ⟨rfl, hb⟩; refine ⟨_, rfl, ?_⟩; have n0_ := am (Kd.V_below (zq3 HO0_1.out) hb); have n1_ := am (Kd.V_below (zq3 HO0_2.out) hb); have n2_ := am (Kd.N_below (by (with_reducible repeat (first | apply Kd.N_alloc | apply Kd.N_drewN | apply Kd.N_drew)); exact HO1695.out) hb); have n3_ := am (blk_below (g := gb1692) (o := .cells #[.bool a0_0, .slice A0_1 l0_1.length c0_1, .slice A0_2 l0_2.length c0_2] 24 (0, 0)) (zq2 BK1692.out) hb); have n4_ := am (below_step (zb1 GE1692.out) hb); clear HO0_1 HO0_2 HO1695 BK1692 HB; have HO0_1 := n0_; have HO0_2 := n1_; have HO1695 := n2_; have BK1692 := n3_; have HB := n4_; clear n0_ n1_ n2_ n3_ n4_; (try clear hb); (try clear hb2); (try clear hk); (try clear hi)))
  go_ret2
  exact ⟨zq9, zb1 GE1692.out⟩
def rf_digit.f (l0 : List Int) (a1 : Int) : Option (Int) := if a1 < (l0.length : Int) then (if 0 ≤ a1 then (some (rd l0 a1)) else (none)) else (some 0)
set_option maxHeartbeats 8000000 in
set_option maxRecDepth 100000 in
theorem rf_digit.calls (A0 : Option Addr) (c0 : Nat) (l0 : List Int) (a1 : Int) (r : Int) (w : World) (hr0 : Kd.C (Kd.int .i64) w A0 l0.length l0) (hc0 : l0.length ≤ c0) (h : rf_digit.f l0 a1 = some r) :
  Calls Tryd.prog 97 #[.slice A0 l0.length c0, .int .i64 a1] w fun e w' => e = .returned (.int .i64 r) ∧ Drawn0 w w' := by
 have HR0 := am hr0
 have HC0 := am hc0
 clear hr0 hc0
 have H := h
 unfold rf_digit.f at H
 clear h
 by_cases c3 : a1 < (l0.length : Int)
 ·rw [if_pos c3] at H
  have c3b0 := decide_eq_true c3
  clear c3
  replace H := zn H
  obtain ⟨c4, H⟩ := H
  have c4b0 := decide_eq_true c4
  clear c4
  obtain rfl := Option.some.inj H
  have p536 : 0 ≤ (a1 : Int) := zq6
  have q536 : a1 < (l0.length : Int) := zq6
  obtain ⟨ad536, e536, hx536_0⟩ := Kd.at_int HR0.out a1 p536 q536
  cases e536
  replace p536 := eq_true p536
  replace q536 := eq_true q536
  go_enter Tryd.func97, Tryd.ntmps97
  go_wp2
  go_ret
  exact ⟨by first | rfl | (simp; done) | (simp [*]; done), by repeat (first | exact Drawn0.refl _ | apply Drawn0.step)⟩
 ·rw [if_neg c3] at H
  have c3b0 := decide_eq_false c3
  clear c3
  obtain rfl := Option.some.inj H
  go_enter Tryd.func97, Tryd.ntmps97
  go_wp2
  go_ret
  exact ⟨by first | rfl | (simp; done) | (simp [*]; done), by repeat (first | exact Drawn0.refl _ | apply Drawn0.step)⟩
def rf_limbs.l0 : Nat → List Int → List Int → Int → Option (List Int)
 | 0, _, _, _ => none
 | k + 1, x0, x3, x4 => if x4 < (x0.length : Int) then (if 0 ≤ x4 then ((rf_digit.f x0 (wrap64 (x4 + 1))).bind fun t628 => (if x3.length < 35184372088832 then (rf_limbs.l0 k x0 (x3 ++ [Go.bits .or .u32 ((rd x0 x4) % 4294967296) ((((t628) % 4294967296) * 65536) % 4294967296)]) (wrap64 (x4 + 2))) else (none))) else (none)) else (some x3)
def rf_limbs.f (k : Nat) (l0 : List Int) : Option (List Int) := rf_limbs.l0 k l0 ([] : List Int) 0
theorem rf_limbs.mono_l : ∀ k, (∀ y0 y1 y2, LeO (rf_limbs.l0 k y0 y1 y2) (rf_limbs.l0 (k + 1) y0 y1 y2))
 | 0 => fun _ _ _ r h => by simp [rf_limbs.l0] at h
 | k + 1 => by
  have ih0 := rf_limbs.mono_l k
  ·intro y0 y1 y2
   unfold rf_limbs.l0
   have m0 := ih0
   exact zm
theorem rf_limbs.mono : ∀ a0 k, LeO (rf_limbs.f k a0) (rf_limbs.f (k + 1) a0) := by
 intro a0 k
 have ih0 := rf_limbs.mono_l k
 unfold rf_limbs.f
 have m0 := ih0
 exact zm
def rf_limbs.T5 : Bool × List (List Nat × List Nat) := (true, [([], []), ([], []), ([], []), ([1, 2], [1, 2]), ([3], [3]), ([4], [4]), ([], []), ([], []), ([7], [7]), ([6, 8], [6, 8]), ([9], [9]), ([10], [10]), ([5, 11], [5, 11]), ([12], [12]), ([0, 13, 9], [0, 13]), ([14, 14, 0, 1, 2, 3, 4, 5, 6, 7, 8, 9, 10, 11, 12, 13, 14], [0, 14])])
def rf_limbs.B5 : List Nat := [0, 0, 0, 6, 14, 30, 0, 0, 128, 448, 960, 1984, 4094, 8190, 16383, 32767]
theorem rf_limbs.tab5 : rtab .any (opsOf Tryd.f108 5) = rf_limbs.T5 := by kernel_rfl
theorem rf_limbs.bits5 : waitsOk rf_limbs.T5.2 rf_limbs.B5 = true := by kernel_rfl
set_option maxHeartbeats 8000000 in
set_option maxRecDepth 100000 in
theorem rf_limbs.calls (k : Nat) (A0 : Option Addr) (c0 : Nat) (l0 : List Int) (r : List Int) (w : World) (hr0 : Kd.C (Kd.int .i64) w A0 l0.length l0) (hc0 : l0.length ≤ c0) (h : rf_limbs.f k l0 = some r) :
  Calls Tryd.prog 108 #[.slice A0 l0.length c0] w fun e w' => ∃ v0_ : Value, e = .returned (v0_) ∧ Kd.R (Kd.int .u32) 55 w' w.heap.size (fun _ => True) v0_ r ∧ Below w.heap.size w w' := by
 have HR0 := am hr0
 have HC0 := am hc0
 clear hr0 hc0
 have HB := am (Below.refl w.heap.size w)
 have H := h
 unfold rf_limbs.f at H
 clear h
 have H' := am H
 clear H
 go_enter Tryd.func108, Tryd.ntmps108
 go_wp2
 go_loopg [3, 4] k (fun kq v3 v4 w' => ∃ (x3_1 : List Int) (x4_1 : Int), v4 = .int .i64 x4_1 ∧ Aside0 (rf_limbs.l0 kq l0 x3_1 x4_1 = some r) ∧ Aside0 (kq ≤ k) ∧ Aside0 (Kd.R (Kd.int .u32) 55 w' w.heap.size (fun _ => True) v3 x3_1) ∧ Aside0 (Below w.heap.size w w'))
 case atStart => exact ⟨(([] : List Int)), (0), zq8, H', ⟨Nat.le_refl _⟩, ⟨by first | exact Kd.R_nil _ _ _ _ _ | exact Kd.N_nil _ _ _ _ _ | exact Kd.V_nil _ _ _ _ _ | exact Kd.Q_nil _ _ _ _ _ | exact Kd.S_nil _ _ _ _ _⟩, ⟨zq1⟩⟩
 case round =>
  clear H'
  obtain ⟨x3_1, x4_1, rfl, HA, HK1, HO_3, HB⟩ := hrel
  cases gk with
  | zero => exact absurd HA.out (by simp [rf_limbs.l0])
  | succ k1 =>
   have H := HA.out
   clear HA
   simp only [rf_limbs.l0] at H
   by_cases c2 : x4_1 < (l0.length : Int)
   ·rw [if_pos c2] at H
    have c2b0 := decide_eq_true c2
    clear c2
    replace H := zn H
    obtain ⟨c3, H⟩ := H
    have c3b0 := decide_eq_true c3
    clear c3
    replace H := zi H
    obtain ⟨t628, A40, H⟩ := H
    have A4 := am A40
    clear A40
    replace H := zn H
    obtain ⟨c5, H⟩ := H
    have LMc5 := am c5
    clear c5
    obtain ⟨y629, hy629⟩ : ∃ y_ : List Int, y_ = (x3_1 ++ [Go.bits .or .u32 ((rd l0 x4_1) % 4294967296) ((((t628) % 4294967296) * 65536) % 4294967296)]) := ⟨_, rfl⟩
    try rw [← hy629] at H
    have Ny629 := am hy629
    clear hy629
    have H' := am H
    clear H
    try go_wp2
    have n0_ := am (Kd.R_drew HO_3.out)
    have n1_ := am (below_drew1 HB.out)
    clear HO_3 HB
    have HO_3 := n0_
    have HB := n1_
    clear n0_ n1_
    have p627 : 0 ≤ (x4_1 : Int) := zq6
    have q627 : x4_1 < (l0.length : Int) := zq6
    obtain ⟨ad627, e627, hx627_0⟩ := Kd.at_int HR0.out x4_1 p627 q627
    have hw627_0 := hx627_0
    cases e627
    replace hx627_0 := (HB.out.cell (World.block_lt_of_cell? w _ hx627_0)).trans hx627_0
    replace p627 := eq_true p627
    replace q627 := eq_true q627
    refine start_ (n := 16) (S := fun w' => w'.cell? (ad627.add (x4_1).toNat) = some (.int .i64 (rd l0 x4_1))) (ds := []) #[false, false, false, false, false, false, false, false, false, false, false, false, false, false, false, false] (by kernel_rfl) rfl rfl (((HB.out.cell (World.block_lt_of_cell? w _ hw627_0)).trans hw627_0)) (fun hHeld => ?_); refine with_tabW rf_limbs.tab5 rf_limbs.bits5 (fun HT_ HW_ => ?_)
    generalize wr.drew = w6 at HO_3 HB hx627_0 hHeld ⊢
    refine pure_ (i := 0) (N := some 11) (v := ?_) (a' := ?_) #[true, false, false, false, false, false, false, false, false, false, false, false, false, false, false, false] rfl rfl (any_of HT_.out (by kernel_rfl)) (fun _ _ _ h => h) (Or.inl ⟨by rfl, ?_⟩) ?_ ?_
    rotate_left
    ·intro w'
     go_simp
     with_reducible rfl
    rotate_left
    ·simp only [Act.put, List.setIfInBounds_toArray, List.set_cons_zero, List.set_cons_succ, i64_w, i32_w]
     rfl
    refine pure_ (i := 1) (N := some 12) (v := ?_) (a' := ?_) #[true, true, false, false, false, false, false, false, false, false, false, false, false, false, false, false] rfl rfl (any_of HT_.out (by kernel_rfl)) (fun _ _ _ h => h) (Or.inl ⟨by rfl, ?_⟩) ?_ ?_
    rotate_left
    ·intro w'
     go_simp
     with_reducible rfl
    rotate_left
    ·simp only [Act.put, List.setIfInBounds_toArray, List.set_cons_zero, List.set_cons_succ, i64_w, i32_w]
     rfl
    refine pure_ (i := 2) (N := some 13) (v := ?_) (a' := ?_) #[true, true, true, false, false, false, false, false, false, false, false, false, false, false, false, false] rfl rfl (any_of HT_.out (by kernel_rfl)) (fun _ _ _ h => h) (Or.inl ⟨by rfl, ?_⟩) ?_ ?_
    rotate_left
    ·intro w'
     go_simp
     with_reducible rfl
    rotate_left
    ·simp only [Act.put, List.setIfInBounds_toArray, List.set_cons_zero, List.set_cons_succ, i64_w, i32_w]
     rfl
    refine pure_ (i := 3) (N := some 14) (v := ?_) (a' := ?_) #[true, true, true, true, false, false, false, false, false, false, false, false, false, false, false, false] rfl rfl (any_of HT_.out (by kernel_rfl)) (fun _ _ _ h => h) (Or.inl ⟨by rfl, ?_⟩) ?_ ?_
    rotate_left
    ·intro w'
     go_simp
     with_reducible rfl
    rotate_left
    ·simp only [Act.put, List.setIfInBounds_toArray, List.set_cons_zero, List.set_cons_succ, i64_w, i32_w]
     rfl
    refine pure_ (i := 6) (N := some 17) (v := ?_) (a' := ?_) #[true, true, true, true, false, false, true, false, false, false, false, false, false, false, false, false] rfl rfl (any_of HT_.out (by kernel_rfl)) (fun _ _ _ h => h) (Or.inl ⟨by rfl, ?_⟩) ?_ ?_
    rotate_left
    ·intro w'
     go_simp
     with_reducible rfl
    rotate_left
    ·simp only [Act.put, List.setIfInBounds_toArray, List.set_cons_zero, List.set_cons_succ, i64_w, i32_w]
     rfl
    refine pure_ (i := 7) (N := some 18) (v := ?_) (a' := ?_) #[true, true, true, true, false, false, true, true, false, false, false, false, false, false, false, false] rfl rfl (any_of HT_.out (by kernel_rfl)) (fun _ _ _ h => h) (Or.inl ⟨by rfl, ?_⟩) ?_ ?_
    rotate_left
    ·intro w'
     go_simp
     with_reducible rfl
    rotate_left
    ·simp only [Act.put, List.setIfInBounds_toArray, List.set_cons_zero, List.set_cons_succ, i64_w, i32_w]
     rfl
    refine pure_ (i := 8) (N := some 19) (v := ?_) (a' := ?_) #[true, true, true, true, false, false, true, true, true, false, false, false, false, false, false, false] rfl rfl (any_of HT_.out (by kernel_rfl)) (fun _ _ _ h => h) (Or.inl ⟨by rfl, ?_⟩) ?_ ?_
    rotate_left
    ·intro w'
     go_simp
     with_reducible rfl
    rotate_left
    ·simp only [Act.put, List.setIfInBounds_toArray, List.set_cons_zero, List.set_cons_succ, i64_w, i32_w]
     rfl
    refine take_ (i := 4) (N := some 15) (v := ?_) (a' := ?_) #[true, true, true, true, true, false, true, true, true, false, false, false, false, false, false, false] rfl rfl (take_ofW HT_.out HW_.out (by kernel_rfl)) (fun _ _ _ h => h) (Or.inl ⟨by rfl, ?_⟩) hHeld ?_ ?_
    rotate_left
    ·intro w' s0
     go_simp
     with_reducible rfl
    rotate_left
    ·simp only [Act.put, List.setIfInBounds_toArray, List.set_cons_zero, List.set_cons_succ, i64_w, i32_w]
     rfl
    refine pure_ (i := 5) (N := some 16) (v := ?_) (a' := ?_) #[true, true, true, true, true, true, true, true, true, false, false, false, false, false, false, false] rfl rfl (any_of HT_.out (by kernel_rfl)) (fun _ _ _ h => h) (Or.inl ⟨by rfl, ?_⟩) ?_ ?_
    rotate_left
    ·intro w'
     go_simp
     with_reducible rfl
    rotate_left
    ·simp only [Act.put, List.setIfInBounds_toArray, List.set_cons_zero, List.set_cons_succ, i64_w, i32_w]
     rfl
    refine one_ (i := 9) (N := some 20) #[true, true, true, true, true, true, true, true, true, true, false, false, false, false, false, false] rfl rfl (one_of HT_.out (by kernel_rfl)) (by decide) (fun K hK => ?_)
    refine goes_ Tryd.func97 (by kernel_rfl) rfl #[.slice (some ad627) l0.length c0, .int .i64 (wrap64 (x4_1 + 1))] (by rfl) rfl rfl zq5 ?_
    with_reducible refine (rf_digit.calls _ _ l0 (wrap64 (x4_1 + 1)) t628 _ ?side1 ?side2 A4.out).mono ?_
    (case side1 => exact zc (Kd.C_below HR0.out HB.out))
    (case side2 => exact HC0.out)
    rintro e w' ⟨rfl, ⟨nd, rfl⟩⟩
    refine ⟨_, rfl, ?_⟩
    refine hK.out _ _ (((HB.out.cell (World.block_lt_of_cell? w _ hw627_0)).trans hw627_0)) (fun hHeld => ?_)
    clear hK K
    refine norm_ (a' := ?_) ?_ ?_
    rotate_left
    ·show Act.put _ (some 20) _ = _
     simp only [Act.put, List.setIfInBounds_toArray, List.set_cons_zero, List.set_cons_succ, i64_w, i32_w]
     rfl
    refine pure_ (i := 10) (N := some 21) (v := ?_) (a' := ?_) #[true, true, true, true, true, true, true, true, true, true, true, false, false, false, false, false] rfl rfl (any_of HT_.out (by kernel_rfl)) (fun _ _ _ h => h) (Or.inl ⟨by rfl, ?_⟩) ?_ ?_
    rotate_left
    ·intro w'
     go_simp
     with_reducible rfl
    rotate_left
    ·simp only [Act.put, List.setIfInBounds_toArray, List.set_cons_zero, List.set_cons_succ, i64_w, i32_w]
     rfl
    refine pure_ (i := 11) (N := some 22) (v := ?_) (a' := ?_) #[true, true, true, true, true, true, true, true, true, true, true, true, false, false, false, false] rfl rfl (any_of HT_.out (by kernel_rfl)) (fun _ _ _ h => h) (Or.inl ⟨by rfl, ?_⟩) ?_ ?_
    rotate_left
    ·intro w'
     go_simp
     with_reducible rfl
    rotate_left
    ·simp only [Act.put, List.setIfInBounds_toArray, List.set_cons_zero, List.set_cons_succ, i64_w, i32_w]
     rfl
    refine pure_ (i := 12) (N := some 23) (v := ?_) (a' := ?_) #[true, true, true, true, true, true, true, true, true, true, true, true, true, false, false, false] rfl rfl (any_of HT_.out (by kernel_rfl)) (fun _ _ _ h => h) (Or.inl ⟨by rfl, ?_⟩) ?_ ?_
    rotate_left
    ·intro w'
     go_simp
     with_reducible rfl
    rotate_left
    ·simp only [Act.put, List.setIfInBounds_toArray, List.set_cons_zero, List.set_cons_succ, i64_w, i32_w]
     rfl
    refine one_ (i := 13) (N := some 24) #[true, true, true, true, true, true, true, true, true, true, true, true, true, true, false, false] rfl rfl (one_of HT_.out (by kernel_rfl)) (by decide) (fun K hK => ?_)
    refine value_ (w1 := ?_) (v := ?_) (by rfl) rfl ?_ ?_
    rotate_left 2
    ·go_simp
     constructor
     ·rfl
     ·rfl
    refine hK.out _ _ ((World.cell?_alloc_lt _ _ _ (World.block_lt_of_cell? _ _ (((HB.out.cell (World.block_lt_of_cell? w _ hw627_0)).trans hw627_0)))).trans (((HB.out.cell (World.block_lt_of_cell? w _ hw627_0)).trans hw627_0))) (fun hHeld => ?_)
    clear hK K
    refine norm_ (a' := ?_) ?_ ?_
    rotate_left
    ·show Act.put _ (some 24) _ = _
     simp only [Act.put, List.setIfInBounds_toArray, List.set_cons_zero, List.set_cons_succ, i64_w, i32_w]
     rfl
    refine one_ (i := 14) (N := some 25) #[true, true, true, true, true, true, true, true, true, true, true, true, true, true, true, false] rfl rfl (one_of HT_.out (by kernel_rfl)) (by decide) (fun K hK => ?_)
    refine Kd.R_append_step (Kd.int .u32) (w0 := w) w.heap.size (by rfl) (.tmp 11) (.tmp 24) 22 55 (.int .u32 0) 4 rfl Tryd.underlying22 info55 rfl (by decide) (by omega) u3 x3_1 (Go.bits .or .u32 ((rd l0 x4_1) % 4294967296) ((((t628) % 4294967296) * 65536) % 4294967296)) [.int .u32 (Go.bits .or .u32 ((rd l0 x4_1) % 4294967296) ((((t628) % 4294967296) * 65536) % 4294967296))] (fun _ => True) (fun _ => False) rfl rfl ?aP (fun _ hk => hk.elim) ?aF ?aO ?aB ?aS ?aL ?_
    (case aP => exact rfl)
    (case aB => exact zq1)
    (case aF => exact (fun _ _ => trivial))
    (case aO => exact (zq4 HO_3.out))
    (case aS => exact (below_size zq1))
    (case aL => have := LMc5.out; omega)
    intro v630 w7 ho hb hg hat
    rw [← Ny629.out] at ho
    have n0_ := am (hb)
    have n1_ := am (ho)
    clear HB HO_3
    have HB := n0_
    have HO631 := n1_
    clear n0_ n1_ ho hb hg hat
    refine hK.out _ _ (((HB.out.cell (World.block_lt_of_cell? w _ hw627_0)).trans hw627_0)) (fun hHeld => ?_)
    clear hK K
    refine norm_ (a' := ?_) ?_ ?_
    rotate_left
    ·show Act.put _ (some 25) _ = _
     simp only [Act.put, List.setIfInBounds_toArray, List.set_cons_zero, List.set_cons_succ, i64_w, i32_w]
     rfl
    refine pure_ (i := 15) (N := some 3) (v := ?_) (a' := ?_) #[true, true, true, true, true, true, true, true, true, true, true, true, true, true, true, true] rfl rfl (any_of HT_.out (by kernel_rfl)) (fun _ _ _ h => h) (Or.inl ⟨by rfl, ?_⟩) ?_ ?_
    rotate_left
    ·intro w'
     go_simp
     with_reducible rfl
    rotate_left
    ·simp only [Act.put, List.setIfInBounds_toArray, List.set_cons_zero, List.set_cons_succ, i64_w, i32_w]
     rfl
    refine done_ (done_of HT_.out (by kernel_rfl)) ?_
    try go_wp2
    go_roundg k1
    case measure => have := HK1.out; omega
    case rel => exact ⟨(y629), (wrap64 (x4_1 + 2)), zq8, H', ⟨by have := HK1.out; omega⟩, ⟨zq4 HO631.out⟩, ⟨zq1⟩⟩
   ·rw [if_neg c2] at H
    have c2b0 := decide_eq_false c2
    clear c2
    obtain rfl := Option.some.inj H
    go_wp2
    go_ret
    exact ⟨_, zq9, zq4 HO_3.out, zq1⟩
def rf_Made.f (k : Nat) (a0_0 : Bool) (l0_1 : List Int) (l0_2 : List Int) : Option (Bool × List Int × List Int × Int) := (rf_limbs.f k l0_1).bind fun t634 => ((rf_limbs.f k l0_2).bind fun t637 => (if (t634.length : Int) > 128 then (some (false, ([] : List Int), ([] : List Int), 3)) else (if (t637.length : Int) > 128 then (some (false, ([] : List Int), ([] : List Int), 3)) else (some (a0_0, t634, t637, 0)))))
theorem rf_Made.mono : ∀ a0 a1 a2 k, LeO (rf_Made.f k a0 a1 a2) (rf_Made.f (k + 1) a0 a1 a2) := by
 intro a0 a1 a2 k
 unfold rf_Made.f
 have m0 := @rf_limbs.mono
 exact zm
def rf_Made.T1 : Bool × List (List Nat × List Nat) := (true, [([], []), ([0], [0]), ([], []), ([2], [2]), ([3], [3]), ([], []), ([5], [5]), ([6, 4], [6]), ([1, 4, 7], [1, 4, 7]), ([], []), ([9, 8, 7, 0, 1, 2, 3, 4, 5, 6, 7, 8, 9], [8, 9])])
def rf_Made.B1 : List Nat := [0, 1, 0, 4, 12, 0, 32, 124, 255, 0, 1023]
theorem rf_Made.tab1 : rtab .any (opsOf Tryd.f59 1) = rf_Made.T1 := by kernel_rfl
theorem rf_Made.bits1 : waitsOk rf_Made.T1.2 rf_Made.B1 = true := by kernel_rfl
set_option maxHeartbeats 8000000 in
set_option maxRecDepth 100000 in
theorem rf_Made.calls (k : Nat) (a0_0 : Bool) (A0_1 : Option Addr) (c0_1 : Nat) (l0_1 : List Int) (A0_2 : Option Addr) (c0_2 : Nat) (l0_2 : List Int) (r1 : Bool) (r2 : List Int) (r3 : List Int) (r4 : Int) (w : World) (hr0_1 : Kd.C (Kd.int .i64) w A0_1 l0_1.length l0_1) (hc0_1 : l0_1.length ≤ c0_1) (hr0_2 : Kd.C (Kd.int .i64) w A0_2 l0_2.length l0_2) (hc0_2 : l0_2.length ≤ c0_2) (h : rf_Made.f k a0_0 l0_1 l0_2 = some (r1, r2, r3, r4)) :
  Calls Tryd.prog 59 #[.agg #[.bool a0_0, .slice A0_1 l0_1.length c0_1, .slice A0_2 l0_2.length c0_2]] w fun e w' => ∃ v1_ v2_ : Value, e = .returned (.tuple #[.agg #[.bool r1, v1_, v2_], .int .i64 r4]) ∧ Kd.R (Kd.int .u32) 55 w' w.heap.size (fun k_ => some k_ ≠ (v2_ : Value).ownBlock) v1_ r2 ∧ Kd.R (Kd.int .u32) 55 w' w.heap.size (fun k_ => some k_ ≠ (v1_ : Value).ownBlock) v2_ r3 ∧ Below w.heap.size w w' := by
 have hu41 := Tryd.underlying41
 have hu24 := Tryd.underlying24
 have HR0_1 := am hr0_1
 have HC0_1 := am hc0_1
 clear hr0_1 hc0_1
 have HR0_2 := am hr0_2
 have HC0_2 := am hc0_2
 clear hr0_2 hc0_2
 have HB := am (Below.refl w.heap.size w)
 have H := h
 unfold rf_Made.f at H
 clear h
 replace H := zi H
 obtain ⟨t634, A20, H⟩ := H
 have A2 := am A20
 clear A20
 replace H := zi H
 obtain ⟨t637, A30, H⟩ := H
 have A3 := am A30
 clear A30
 by_cases c4 : (t634.length : Int) > 128
 ·rw [if_pos c4] at H
  have c4b0 : decide (128 < (t634.length : Int)) = true := decide_eq_true c4
  have c4b1 : decide (128 < t634.length) = true := decide_eq_true (by omega)
  clear c4
  simp only [Option.some.injEq, Prod.mk.injEq] at H
  obtain ⟨rfl, rfl, rfl, rfl⟩ := H
  go_enter Tryd.func59, Tryd.ntmps59
  try go_wp2_with (first | ((with_reducible refine gate_dst (N := 1) rfl ?_); (try (refine gate_guard (by rfl) ?_; dsimp only)); refine box_event ?hg (N := 1) ?hd (cs := #[.bool a0_0, .slice A0_1 l0_1.length c0_1, .slice A0_2 l0_2.length c0_2]) (t := 41) ?hr ?_; (case hd => rfl); (case hg => rfl); (case hr => exact zr); intro gb632 hg w5 hbox hb; have n0_ := am (below_step zq1 hb); have n1_ := am (hbox); have n2_ := am ((by rw [hg]; exact (below_size zq1) : w.heap.size ≤ gb632)); have n3_ := am ((by rw [hg]; exact (below_size zq1) : w.heap.size ≤ gb632)); clear HB; have HB := n0_; have BK632 := n1_; have GW632 := n2_; have GE632 := n3_; clear n0_ n1_ n2_ n3_; clear hb hbox hg) | ((with_reducible refine gate_dst (N := 2) rfl ?_); (try (refine gate_guard (by rfl) ?_; dsimp only)); refine box_event ?hg (N := 2) ?hd (cs := #[.bool false, .slice none 0 0, .slice none 0 0]) (t := 24) ?hr ?_; (case hd => rfl); (case hg => rfl); (case hr => exact zr); intro gb633 hg w6 hbox hb; have n0_ := am (blk_below (g := gb632) (o := .cells #[.bool a0_0, .slice A0_1 l0_1.length c0_1, .slice A0_2 l0_2.length c0_2] 41 (0, 0)) (zq2 BK632.out) hb); have n1_ := am (below_step (zb1 GE632.out) hb); have n2_ := am (hbox); have n3_ := am ((by rw [hg]; exact (below_size (zb1 GE632.out)) : w.heap.size ≤ gb633)); have n4_ := am ((by rw [hg]; exact (below_size (zb1 GE632.out)) : w.heap.size ≤ gb633)); have n5_ := am ((by rw [hg]; exact Nat.ne_of_lt (blk_lt (g := gb632) (o := .cells #[.bool a0_0, .slice A0_1 l0_1.length c0_1, .slice A0_2 l0_2.length c0_2] 41 (0, 0)) (zq2 BK632.out)) : gb632 ≠ gb633)); have n6_ := am ((by rw [hg]; exact Nat.ne_of_gt (blk_lt (g := gb632) (o := .cells #[.bool a0_0, .slice A0_1 l0_1.length c0_1, .slice A0_2 l0_2.length c0_2] 41 (0, 0)) (zq2 BK632.out)) : gb633 ≠ gb632)); clear BK632 HB; have BK632 := n0_; have HB := n1_; have BK633 := n2_; have GW633 := n3_; have GE633 := n4_; have NB632_633 := n5_; have NB633_632 := n6_; clear n0_ n1_ n2_ n3_ n4_ n5_ n6_; clear hb hbox hg))
  have n0_ := am (blk_drew BK632.out)
  have n1_ := am (blk_drew BK633.out)
  have n2_ := am (below_drew1 HB.out)
  clear BK632 BK633 HB
  have BK632 := n0_
  have BK633 := n1_
  have HB := n2_
  clear n0_ n1_ n2_
  refine start_ (n := 11) (S := fun w' => w'.cell? ⟨gb632, 0, none⟩ = some (.bool a0_0) ∧ w'.cell? ⟨gb632, 1, none⟩ = some (.slice A0_1 l0_1.length c0_1) ∧ w'.cell? ⟨gb632, 2, none⟩ = some (.slice A0_2 l0_2.length c0_2)) (ds := []) #[false, false, false, false, false, false, false, false, false, false, false] (by kernel_rfl) rfl rfl ⟨(blk_cell BK632.out 0).trans rfl, (blk_cell BK632.out 1).trans rfl, (blk_cell BK632.out 2).trans rfl⟩ (fun hHeld => ?_); refine with_tabW rf_Made.tab1 rf_Made.bits1 (fun HT_ HW_ => ?_)
  generalize w6.drew = w7 at BK632 BK633 HB hHeld ⊢
  refine pure_ (i := 0) (N := some 5) (v := ?_) (a' := ?_) #[true, false, false, false, false, false, false, false, false, false, false] rfl rfl (any_of HT_.out (by kernel_rfl)) (fun _ _ _ h => h) (Or.inl ⟨by rfl, ?_⟩) ?_ ?_
  rotate_left
  ·intro w'
   go_simp
   with_reducible rfl
  rotate_left
  ·simp only [Act.put, List.setIfInBounds_toArray, List.set_cons_zero, List.set_cons_succ, i64_w, i32_w]
   rfl
  refine pure_ (i := 2) (N := some 7) (v := ?_) (a' := ?_) #[true, false, true, false, false, false, false, false, false, false, false] rfl rfl (any_of HT_.out (by kernel_rfl)) (fun _ _ _ h => h) (Or.inl ⟨by rfl, ?_⟩) ?_ ?_
  rotate_left
  ·intro w'
   go_simp
   with_reducible rfl
  rotate_left
  ·simp only [Act.put, List.setIfInBounds_toArray, List.set_cons_zero, List.set_cons_succ, i64_w, i32_w]
   rfl
  refine pure_ (i := 5) (N := some 10) (v := ?_) (a' := ?_) #[true, false, true, false, false, true, false, false, false, false, false] rfl rfl (any_of HT_.out (by kernel_rfl)) (fun _ _ _ h => h) (Or.inl ⟨by rfl, ?_⟩) ?_ ?_
  rotate_left
  ·intro w'
   go_simp
   with_reducible rfl
  rotate_left
  ·simp only [Act.put, List.setIfInBounds_toArray, List.set_cons_zero, List.set_cons_succ, i64_w, i32_w]
   rfl
  refine take_ (i := 1) (N := some 6) (v := ?_) (a' := ?_) #[true, true, true, false, false, true, false, false, false, false, false] rfl rfl (take_ofW HT_.out HW_.out (by kernel_rfl)) (fun _ _ _ h => h) (Or.inl ⟨by rfl, ?_⟩) hHeld ?_ ?_
  rotate_left
  ·rintro w' ⟨s0, s1, s2⟩
   go_simp
   with_reducible rfl
  rotate_left
  ·simp only [Act.put, List.setIfInBounds_toArray, List.set_cons_zero, List.set_cons_succ, i64_w, i32_w]
   rfl
  refine take_ (i := 3) (N := some 8) (v := ?_) (a' := ?_) #[true, true, true, true, false, true, false, false, false, false, false] rfl rfl (take_ofW HT_.out HW_.out (by kernel_rfl)) (fun _ _ _ h => h) (Or.inl ⟨by rfl, ?_⟩) hHeld ?_ ?_
  rotate_left
  ·rintro w' ⟨s0, s1, s2⟩
   go_simp
   with_reducible rfl
  rotate_left
  ·simp only [Act.put, List.setIfInBounds_toArray, List.set_cons_zero, List.set_cons_succ, i64_w, i32_w]
   rfl
  refine take_ (i := 6) (N := some 11) (v := ?_) (a' := ?_) #[true, true, true, true, false, true, true, false, false, false, false] rfl rfl (take_ofW HT_.out HW_.out (by kernel_rfl)) (fun _ _ _ h => h) (Or.inl ⟨by rfl, ?_⟩) hHeld ?_ ?_
  rotate_left
  ·rintro w' ⟨s0, s1, s2⟩
   go_simp
   with_reducible rfl
  rotate_left
  ·simp only [Act.put, List.setIfInBounds_toArray, List.set_cons_zero, List.set_cons_succ, i64_w, i32_w]
   rfl
  refine join_ (σ := Value × Value × Nat) 1 #[true, true, true, true, true, true, true, true, true, true, false] (fun s_ => [(9, s_.1), (12, s_.2.1), (4, .pointer (some ⟨s_.2.2, 0, none⟩)), (13, .agg #[.bool a0_0, s_.1, s_.2.1])]) (fun s_ w' => (w'.cell? ⟨gb632, 0, none⟩ = some (.bool a0_0) ∧ w'.cell? ⟨gb632, 1, none⟩ = some (.slice A0_1 l0_1.length c0_1) ∧ w'.cell? ⟨gb632, 2, none⟩ = some (.slice A0_2 l0_2.length c0_2)) ∧ (Kd.R (Kd.int .u32) 55 w' w.heap.size (fun k_ => some k_ ≠ (s_.2.1 : Value).ownBlock) s_.1 t634) ∧ (Kd.R (Kd.int .u32) 55 w' w.heap.size (fun k_ => some k_ ≠ (s_.1 : Value).ownBlock) s_.2.1 t637) ∧ (w'.heap[gb632]? = some (.cells #[.bool a0_0, .slice A0_1 l0_1.length c0_1, .slice A0_2 l0_2.length c0_2] 41 (0, 0))) ∧ (w'.heap[gb633]? = some (.cells #[.bool false, .slice none 0 0, .slice none 0 0] 24 (0, 0))) ∧ (w'.heap[s_.2.2]? = some (.cells #[.bool false, .slice none 0 0, .slice none 0 0] 24 (0, 0))) ∧ (w.heap.size ≤ s_.2.2) ∧ (w.heap.size ≤ s_.2.2) ∧ (gb632 ≠ s_.2.2) ∧ (s_.2.2 ≠ gb632) ∧ (gb633 ≠ s_.2.2) ∧ (s_.2.2 ≠ gb633) ∧ (Below w.heap.size w w')) ?_ ?_
  rotate_left
  ·intro hCont
   refine two_ (i := 4) (j := 9) (Ni := some 9) (Nj := some 4) #[true, true, true, true, true, true, true, false, false, false, false] #[true, true, true, true, false, true, true, false, false, true, false] rfl rfl rfl rfl (two_of HT_.out (by kernel_rfl)) (by decide) (by decide) (fun K hK => ?_) (fun K hK => ?_)
   ·skip
    refine goes_ Tryd.func108 (by kernel_rfl) rfl #[.slice A0_1 l0_1.length c0_1] (by rfl) rfl rfl zq5 ?_
    with_reducible refine (rf_limbs.calls k _ _ l0_1 t634 _ ?side1 ?side2 A2.out).mono ?_
    (case side1 => exact zc (Kd.C_below HR0_1.out HB.out))
    (case side2 => exact HC0_1.out)
    rintro e w8 ⟨v635, rfl, ho0, hb⟩
    refine ⟨_, rfl, ?_⟩
    have n0_ := am (Kd.R_lower ho0 (below_size (zb2 GE632.out GE633.out)))
    have n1_ := am (blk_below (g := gb632) (o := .cells #[.bool a0_0, .slice A0_1 l0_1.length c0_1, .slice A0_2 l0_2.length c0_2] 41 (0, 0)) (zq2 BK632.out) hb)
    have n2_ := am (blk_below (g := gb633) (o := .cells #[.bool false, .slice none 0 0, .slice none 0 0] 24 (0, 0)) (zq2 BK633.out) hb)
    have n3_ := am (below_step (zb2 GE632.out GE633.out) hb)
    clear BK632 BK633 HB
    have HO636 := n0_
    have BK632 := n1_
    have BK633 := n2_
    have HB := n3_
    clear n0_ n1_ n2_ n3_
    (try clear hb)
    (try clear hb2)
    (try clear hk)
    (try clear hi)
    (try clear ho0)
    refine hK.out _ _ ⟨(blk_cell BK632.out 0).trans rfl, (blk_cell BK632.out 1).trans rfl, (blk_cell BK632.out 2).trans rfl⟩ (fun hHeld => ?_)
    clear hK K
    refine norm_ (a' := ?_) ?_ ?_
    rotate_left
    ·show Act.put _ (some 9) _ = _
     simp only [Act.put, List.setIfInBounds_toArray, List.set_cons_zero, List.set_cons_succ, i64_w, i32_w]
     rfl
    refine two_ (i := 7) (j := 9) (Ni := some 12) (Nj := some 4) #[true, true, true, true, true, true, true, true, false, false, false] #[true, true, true, true, true, true, true, false, false, true, false] rfl rfl rfl rfl (two_of HT_.out (by kernel_rfl)) (by decide) (by decide) (fun K hK => ?_) (fun K hK => ?_)
    ·skip
     refine goes_ Tryd.func108 (by kernel_rfl) rfl #[.slice A0_2 l0_2.length c0_2] (by rfl) rfl rfl zq5 ?_
     with_reducible refine (rf_limbs.calls k _ _ l0_2 t637 _ ?side1 ?side2 A3.out).mono ?_
     (case side1 => exact zc (Kd.C_below HR0_2.out HB.out))
     (case side2 => exact HC0_2.out)
     rintro e w9 ⟨v638, rfl, ho0, hb⟩
     refine ⟨_, rfl, ?_⟩
     have n0_ := am (Kd.R_elder' (zq4 HO636.out) (Kd.R_base ho0) hb)
     have n1_ := am (Kd.R_lower (Kd.R_new' ho0 (Kd.R_lt (zq4 HO636.out))) (below_size (zb2 GE632.out GE633.out)))
     have n2_ := am (blk_below (g := gb632) (o := .cells #[.bool a0_0, .slice A0_1 l0_1.length c0_1, .slice A0_2 l0_2.length c0_2] 41 (0, 0)) (zq2 BK632.out) hb)
     have n3_ := am (blk_below (g := gb633) (o := .cells #[.bool false, .slice none 0 0, .slice none 0 0] 24 (0, 0)) (zq2 BK633.out) hb)
     have n4_ := am (below_step (zb2 GE632.out GE633.out) hb)
     clear HO636 BK632 BK633 HB
     have HO636 := n0_
     have HO639 := n1_
     have BK632 := n2_
     have BK633 := n3_
     have HB := n4_
     clear n0_ n1_ n2_ n3_ n4_
     (try clear hb)
     (try clear hb2)
     (try clear hk)
     (try clear hi)
     (try clear ho0)
     obtain ⟨Ao10, co10, eo10⟩ := Kd.R_slice HO639.out
     (first | subst eo10 | (injection eo10 with f1_ f2_ f3_; have f4_ := f1_.symm; have f5_ := f3_.symm; clear f1_ f2_ f3_; subst f4_; subst f5_))
     obtain ⟨Ao11, co11, eo11⟩ := Kd.R_slice HO636.out
     (first | subst eo11 | (injection eo11 with f1_ f2_ f3_; have f4_ := f1_.symm; have f5_ := f3_.symm; clear f1_ f2_ f3_; subst f4_; subst f5_))
     refine hK.out _ _ ⟨(blk_cell BK632.out 0).trans rfl, (blk_cell BK632.out 1).trans rfl, (blk_cell BK632.out 2).trans rfl⟩ (fun hHeld => ?_)
     clear hK K
     refine norm_ (a' := ?_) ?_ ?_
     rotate_left
     ·show Act.put _ (some 12) _ = _
      simp only [Act.put, List.setIfInBounds_toArray, List.set_cons_zero, List.set_cons_succ, i64_w, i32_w]
      rfl
     refine pure_ (i := 8) (N := some 13) (v := ?_) (a' := ?_) #[true, true, true, true, true, true, true, true, true, false, false] rfl rfl (any_of HT_.out (by kernel_rfl)) (fun _ _ _ h => h) (Or.inl ⟨by rfl, ?_⟩) ?_ ?_
     rotate_left
     ·intro w'
      go_simp
      with_reducible rfl
     rotate_left
     ·simp only [Act.put, List.setIfInBounds_toArray, List.set_cons_zero, List.set_cons_succ, i64_w, i32_w]
      rfl
     refine one_ (i := 9) (N := some 4) #[true, true, true, true, true, true, true, true, true, true, false] rfl rfl (one_of HT_.out (by kernel_rfl)) (by decide) (fun K hK => ?_)
     refine box_step ?hg (N := 4) ?hd (cs := #[.bool false, .slice none 0 0, .slice none 0 0]) (t := 24) ?hr ?_; (case hd => rfl); (case hg => rfl); (case hr => exact zr)
     intro gb640 hg w12 hbox hb
     have n0_ := am (Kd.R_below (zq4 HO636.out) hb)
     have n1_ := am (Kd.R_below (zq4 HO639.out) hb)
     have n2_ := am (blk_below (g := gb632) (o := .cells #[.bool a0_0, .slice A0_1 l0_1.length c0_1, .slice A0_2 l0_2.length c0_2] 41 (0, 0)) (zq2 BK632.out) hb)
     have n3_ := am (blk_below (g := gb633) (o := .cells #[.bool false, .slice none 0 0, .slice none 0 0] 24 (0, 0)) (zq2 BK633.out) hb)
     have n4_ := am (below_step (zb2 GE632.out GE633.out) hb)
     have n5_ := am (hbox)
     have n6_ := am ((by rw [hg]; exact (below_size (zb2 GE632.out GE633.out)) : w.heap.size ≤ gb640))
     have n7_ := am ((by rw [hg]; exact (below_size (zb2 GE632.out GE633.out)) : w.heap.size ≤ gb640))
     have n8_ := am ((by rw [hg]; exact Nat.ne_of_lt (blk_lt (g := gb632) (o := .cells #[.bool a0_0, .slice A0_1 l0_1.length c0_1, .slice A0_2 l0_2.length c0_2] 41 (0, 0)) (zq2 BK632.out)) : gb632 ≠ gb640))
     have n9_ := am ((by rw [hg]; exact Nat.ne_of_gt (blk_lt (g := gb632) (o := .cells #[.bool a0_0, .slice A0_1 l0_1.length c0_1, .slice A0_2 l0_2.length c0_2] 41 (0, 0)) (zq2 BK632.out)) : gb640 ≠ gb632))
     have n10_ := am ((by rw [hg]; exact Nat.ne_of_lt (blk_lt (g := gb633) (o := .cells #[.bool false, .slice none 0 0, .slice none 0 0] 24 (0, 0)) (zq2 BK633.out)) : gb633 ≠ gb640))
     have n11_ := am ((by rw [hg]; exact Nat.ne_of_gt (blk_lt (g := gb633) (o := .cells #[.bool false, .slice none 0 0, .slice none 0 0] 24 (0, 0)) (zq2 BK633.out)) : gb640 ≠ gb633))
     clear HO636 HO639 BK632 BK633 HB
     have HO636 := n0_
     have HO639 := n1_
     have BK632 := n2_
     have BK633 := n3_
     have HB := n4_
     have BK640 := n5_
     have GW640 := n6_
     have GE640 := n7_
     have NB632_640 := n8_
     have NB640_632 := n9_
     have NB633_640 := n10_
     have NB640_633 := n11_
     clear n0_ n1_ n2_ n3_ n4_ n5_ n6_ n7_ n8_ n9_ n10_ n11_ hb hbox hg
     refine hK.out _ _ ⟨(blk_cell BK632.out 0).trans rfl, (blk_cell BK632.out 1).trans rfl, (blk_cell BK632.out 2).trans rfl⟩ (fun hHeld => ?_)
     clear hK K
     refine norm_ (a' := ?_) ?_ ?_
     rotate_left
     ·show Act.put _ (some 4) _ = _
      simp only [Act.put, List.setIfInBounds_toArray, List.set_cons_zero, List.set_cons_succ, i64_w, i32_w]
      rfl
     exact norm_ (by simp only [putAll, Act.put, List.setIfInBounds_toArray, List.set_cons_zero, List.set_cons_succ]) (hCont (.slice Ao11 t634.length co11, .slice Ao10 t637.length co10, gb640) _ ⟨hHeld, (by (with_reducible repeat (first | apply Kd.R_alloc | apply Kd.R_drewN | apply Kd.R_drew)); exact Kd.R_mono HO636.out (fun _ hk => hk.2)), (by (with_reducible repeat (first | apply Kd.R_alloc | apply Kd.R_drewN | apply Kd.R_drew)); exact Kd.R_mono HO639.out (fun _ hk => hk.2)), (zq2 BK632.out), (zq2 BK633.out), (zq2 BK640.out), GW640.out, GE640.out, NB632_640.out, NB640_632.out, NB633_640.out, NB640_633.out, (zb3 GE632.out GE633.out GE640.out)⟩)
    ·skip
     refine box_step ?hg (N := 4) ?hd (cs := #[.bool false, .slice none 0 0, .slice none 0 0]) (t := 24) ?hr ?_; (case hd => rfl); (case hg => rfl); (case hr => exact zr)
     intro gb640 hg w9 hbox hb
     have n0_ := am (Kd.R_below (zq4 HO636.out) hb)
     have n1_ := am (blk_below (g := gb632) (o := .cells #[.bool a0_0, .slice A0_1 l0_1.length c0_1, .slice A0_2 l0_2.length c0_2] 41 (0, 0)) (zq2 BK632.out) hb)
     have n2_ := am (blk_below (g := gb633) (o := .cells #[.bool false, .slice none 0 0, .slice none 0 0] 24 (0, 0)) (zq2 BK633.out) hb)
     have n3_ := am (below_step (zb2 GE632.out GE633.out) hb)
     have n4_ := am (hbox)
     have n5_ := am ((by rw [hg]; exact (below_size (zb2 GE632.out GE633.out)) : w.heap.size ≤ gb640))
     have n6_ := am ((by rw [hg]; exact (below_size (zb2 GE632.out GE633.out)) : w.heap.size ≤ gb640))
     have n7_ := am ((by rw [hg]; exact Nat.ne_of_lt (blk_lt (g := gb632) (o := .cells #[.bool a0_0, .slice A0_1 l0_1.length c0_1, .slice A0_2 l0_2.length c0_2] 41 (0, 0)) (zq2 BK632.out)) : gb632 ≠ gb640))
     have n8_ := am ((by rw [hg]; exact Nat.ne_of_gt (blk_lt (g := gb632) (o := .cells #[.bool a0_0, .slice A0_1 l0_1.length c0_1, .slice A0_2 l0_2.length c0_2] 41 (0, 0)) (zq2 BK632.out)) : gb640 ≠ gb632))
     have n9_ := am ((by rw [hg]; exact Nat.ne_of_lt (blk_lt (g := gb633) (o := .cells #[.bool false, .slice none 0 0, .slice none 0 0] 24 (0, 0)) (zq2 BK633.out)) : gb633 ≠ gb640))
     have n10_ := am ((by rw [hg]; exact Nat.ne_of_gt (blk_lt (g := gb633) (o := .cells #[.bool false, .slice none 0 0, .slice none 0 0] 24 (0, 0)) (zq2 BK633.out)) : gb640 ≠ gb633))
     clear HO636 BK632 BK633 HB
     have HO636 := n0_
     have BK632 := n1_
     have BK633 := n2_
     have HB := n3_
     have BK640 := n4_
     have GW640 := n5_
     have GE640 := n6_
     have NB632_640 := n7_
     have NB640_632 := n8_
     have NB633_640 := n9_
     have NB640_633 := n10_
     clear n0_ n1_ n2_ n3_ n4_ n5_ n6_ n7_ n8_ n9_ n10_ hb hbox hg
     refine hK.out _ _ ⟨(blk_cell BK632.out 0).trans rfl, (blk_cell BK632.out 1).trans rfl, (blk_cell BK632.out 2).trans rfl⟩ (fun hHeld => ?_)
     clear hK K
     refine norm_ (a' := ?_) ?_ ?_
     rotate_left
     ·show Act.put _ (some 4) _ = _
      simp only [Act.put, List.setIfInBounds_toArray, List.set_cons_zero, List.set_cons_succ, i64_w, i32_w]
      rfl
     refine one_ (i := 7) (N := some 12) #[true, true, true, true, true, true, true, true, false, true, false] rfl rfl (one_of HT_.out (by kernel_rfl)) (by decide) (fun K hK => ?_)
     refine goes_ Tryd.func108 (by kernel_rfl) rfl #[.slice A0_2 l0_2.length c0_2] (by rfl) rfl rfl zq5 ?_
     with_reducible refine (rf_limbs.calls k _ _ l0_2 t637 _ ?side1 ?side2 A3.out).mono ?_
     (case side1 => exact zc (Kd.C_below HR0_2.out HB.out))
     (case side2 => exact HC0_2.out)
     rintro e w10 ⟨v638, rfl, ho0, hb⟩
     refine ⟨_, rfl, ?_⟩
     have n0_ := am (Kd.R_elder' (zq4 HO636.out) (Kd.R_base ho0) hb)
     have n1_ := am (Kd.R_lower (Kd.R_new' ho0 (Kd.R_lt (zq4 HO636.out))) (below_size (zb3 GE632.out GE633.out GE640.out)))
     have n2_ := am (blk_below (g := gb632) (o := .cells #[.bool a0_0, .slice A0_1 l0_1.length c0_1, .slice A0_2 l0_2.length c0_2] 41 (0, 0)) (zq2 BK632.out) hb)
     have n3_ := am (blk_below (g := gb633) (o := .cells #[.bool false, .slice none 0 0, .slice none 0 0] 24 (0, 0)) (zq2 BK633.out) hb)
     have n4_ := am (blk_below (g := gb640) (o := .cells #[.bool false, .slice none 0 0, .slice none 0 0] 24 (0, 0)) (zq2 BK640.out) hb)
     have n5_ := am (below_step (zb3 GE632.out GE633.out GE640.out) hb)
     clear HO636 BK632 BK633 BK640 HB
     have HO636 := n0_
     have HO639 := n1_
     have BK632 := n2_
     have BK633 := n3_
     have BK640 := n4_
     have HB := n5_
     clear n0_ n1_ n2_ n3_ n4_ n5_
     (try clear hb)
     (try clear hb2)
     (try clear hk)
     (try clear hi)
     (try clear ho0)
     obtain ⟨Ao11, co11, eo11⟩ := Kd.R_slice HO639.out
     (first | subst eo11 | (injection eo11 with f1_ f2_ f3_; have f4_ := f1_.symm; have f5_ := f3_.symm; clear f1_ f2_ f3_; subst f4_; subst f5_))
     obtain ⟨Ao12, co12, eo12⟩ := Kd.R_slice HO636.out
     (first | subst eo12 | (injection eo12 with f1_ f2_ f3_; have f4_ := f1_.symm; have f5_ := f3_.symm; clear f1_ f2_ f3_; subst f4_; subst f5_))
     refine hK.out _ _ ⟨(blk_cell BK632.out 0).trans rfl, (blk_cell BK632.out 1).trans rfl, (blk_cell BK632.out 2).trans rfl⟩ (fun hHeld => ?_)
     clear hK K
     refine norm_ (a' := ?_) ?_ ?_
     rotate_left
     ·show Act.put _ (some 12) _ = _
      simp only [Act.put, List.setIfInBounds_toArray, List.set_cons_zero, List.set_cons_succ, i64_w, i32_w]
      rfl
     refine pure_ (i := 8) (N := some 13) (v := ?_) (a' := ?_) #[true, true, true, true, true, true, true, true, true, true, false] rfl rfl (any_of HT_.out (by kernel_rfl)) (fun _ _ _ h => h) (Or.inl ⟨by rfl, ?_⟩) ?_ ?_
     rotate_left
     ·intro w'
      go_simp
      with_reducible rfl
     rotate_left
     ·simp only [Act.put, List.setIfInBounds_toArray, List.set_cons_zero, List.set_cons_succ, i64_w, i32_w]
      rfl
     exact norm_ (by simp only [putAll, Act.put, List.setIfInBounds_toArray, List.set_cons_zero, List.set_cons_succ]) (hCont (.slice Ao12 t634.length co12, .slice Ao11 t637.length co11, gb640) _ ⟨hHeld, (by (with_reducible repeat (first | apply Kd.R_alloc | apply Kd.R_drewN | apply Kd.R_drew)); exact Kd.R_mono HO636.out (fun _ hk => hk.2)), (by (with_reducible repeat (first | apply Kd.R_alloc | apply Kd.R_drewN | apply Kd.R_drew)); exact Kd.R_mono HO639.out (fun _ hk => hk.2)), (zq2 BK632.out), (zq2 BK633.out), (zq2 BK640.out), GW640.out, GE640.out, NB632_640.out, NB640_632.out, NB633_640.out, NB640_633.out, (zb3 GE632.out GE633.out GE640.out)⟩)
   ·skip
    refine box_step ?hg (N := 4) ?hd (cs := #[.bool false, .slice none 0 0, .slice none 0 0]) (t := 24) ?hr ?_; (case hd => rfl); (case hg => rfl); (case hr => exact zr)
    intro gb640 hg w8 hbox hb
    have n0_ := am (blk_below (g := gb632) (o := .cells #[.bool a0_0, .slice A0_1 l0_1.length c0_1, .slice A0_2 l0_2.length c0_2] 41 (0, 0)) (zq2 BK632.out) hb)
    have n1_ := am (blk_below (g := gb633) (o := .cells #[.bool false, .slice none 0 0, .slice none 0 0] 24 (0, 0)) (zq2 BK633.out) hb)
    have n2_ := am (below_step (zb2 GE632.out GE633.out) hb)
    have n3_ := am (hbox)
    have n4_ := am ((by rw [hg]; exact (below_size (zb2 GE632.out GE633.out)) : w.heap.size ≤ gb640))
    have n5_ := am ((by rw [hg]; exact (below_size (zb2 GE632.out GE633.out)) : w.heap.size ≤ gb640))
    have n6_ := am ((by rw [hg]; exact Nat.ne_of_lt (blk_lt (g := gb632) (o := .cells #[.bool a0_0, .slice A0_1 l0_1.length c0_1, .slice A0_2 l0_2.length c0_2] 41 (0, 0)) (zq2 BK632.out)) : gb632 ≠ gb640))
    have n7_ := am ((by rw [hg]; exact Nat.ne_of_gt (blk_lt (g := gb632) (o := .cells #[.bool a0_0, .slice A0_1 l0_1.length c0_1, .slice A0_2 l0_2.length c0_2] 41 (0, 0)) (zq2 BK632.out)) : gb640 ≠ gb632))
    have n8_ := am ((by rw [hg]; exact Nat.ne_of_lt (blk_lt (g := gb633) (o := .cells #[.bool false, .slice none 0 0, .slice none 0 0] 24 (0, 0)) (zq2 BK633.out)) : gb633 ≠ gb640))
    have n9_ := am ((by rw [hg]; exact Nat.ne_of_gt (blk_lt (g := gb633) (o := .cells #[.bool false, .slice none 0 0, .slice none 0 0] 24 (0, 0)) (zq2 BK633.out)) : gb640 ≠ gb633))
    clear BK632 BK633 HB
    have BK632 := n0_
    have BK633 := n1_
    have HB := n2_
    have BK640 := n3_
    have GW640 := n4_
    have GE640 := n5_
    have NB632_640 := n6_
    have NB640_632 := n7_
    have NB633_640 := n8_
    have NB640_633 := n9_
    clear n0_ n1_ n2_ n3_ n4_ n5_ n6_ n7_ n8_ n9_ hb hbox hg
    refine hK.out _ _ ⟨(blk_cell BK632.out 0).trans rfl, (blk_cell BK632.out 1).trans rfl, (blk_cell BK632.out 2).trans rfl⟩ (fun hHeld => ?_)
    clear hK K
    refine norm_ (a' := ?_) ?_ ?_
    rotate_left
    ·show Act.put _ (some 4) _ = _
     simp only [Act.put, List.setIfInBounds_toArray, List.set_cons_zero, List.set_cons_succ, i64_w, i32_w]
     rfl
    refine one_ (i := 4) (N := some 9) #[true, true, true, true, true, true, true, false, false, true, false] rfl rfl (one_of HT_.out (by kernel_rfl)) (by decide) (fun K hK => ?_)
    refine goes_ Tryd.func108 (by kernel_rfl) rfl #[.slice A0_1 l0_1.length c0_1] (by rfl) rfl rfl zq5 ?_
    with_reducible refine (rf_limbs.calls k _ _ l0_1 t634 _ ?side1 ?side2 A2.out).mono ?_
    (case side1 => exact zc (Kd.C_below HR0_1.out HB.out))
    (case side2 => exact HC0_1.out)
    rintro e w9 ⟨v635, rfl, ho0, hb⟩
    refine ⟨_, rfl, ?_⟩
    have n0_ := am (Kd.R_lower ho0 (below_size (zb3 GE632.out GE633.out GE640.out)))
    have n1_ := am (blk_below (g := gb632) (o := .cells #[.bool a0_0, .slice A0_1 l0_1.length c0_1, .slice A0_2 l0_2.length c0_2] 41 (0, 0)) (zq2 BK632.out) hb)
    have n2_ := am (blk_below (g := gb633) (o := .cells #[.bool false, .slice none 0 0, .slice none 0 0] 24 (0, 0)) (zq2 BK633.out) hb)
    have n3_ := am (blk_below (g := gb640) (o := .cells #[.bool false, .slice none 0 0, .slice none 0 0] 24 (0, 0)) (zq2 BK640.out) hb)
    have n4_ := am (below_step (zb3 GE632.out GE633.out GE640.out) hb)
    clear BK632 BK633 BK640 HB
    have HO636 := n0_
    have BK632 := n1_
    have BK633 := n2_
    have BK640 := n3_
    have HB := n4_
    clear n0_ n1_ n2_ n3_ n4_
    (try clear hb)
    (try clear hb2)
    (try clear hk)
    (try clear hi)
    (try clear ho0)
    refine hK.out _ _ ⟨(blk_cell BK632.out 0).trans rfl, (blk_cell BK632.out 1).trans rfl, (blk_cell BK632.out 2).trans rfl⟩ (fun hHeld => ?_)
    clear hK K
    refine norm_ (a' := ?_) ?_ ?_
    rotate_left
    ·show Act.put _ (some 9) _ = _
     simp only [Act.put, List.setIfInBounds_toArray, List.set_cons_zero, List.set_cons_succ, i64_w, i32_w]
     rfl
    refine one_ (i := 7) (N := some 12) #[true, true, true, true, true, true, true, true, false, true, false] rfl rfl (one_of HT_.out (by kernel_rfl)) (by decide) (fun K hK => ?_)
    refine goes_ Tryd.func108 (by kernel_rfl) rfl #[.slice A0_2 l0_2.length c0_2] (by rfl) rfl rfl zq5 ?_
    with_reducible refine (rf_limbs.calls k _ _ l0_2 t637 _ ?side1 ?side2 A3.out).mono ?_
    (case side1 => exact zc (Kd.C_below HR0_2.out HB.out))
    (case side2 => exact HC0_2.out)
    rintro e w10 ⟨v638, rfl, ho0, hb⟩
    refine ⟨_, rfl, ?_⟩
    have n0_ := am (Kd.R_elder' (zq4 HO636.out) (Kd.R_base ho0) hb)
    have n1_ := am (Kd.R_lower (Kd.R_new' ho0 (Kd.R_lt (zq4 HO636.out))) (below_size (zb3 GE632.out GE633.out GE640.out)))
    have n2_ := am (blk_below (g := gb632) (o := .cells #[.bool a0_0, .slice A0_1 l0_1.length c0_1, .slice A0_2 l0_2.length c0_2] 41 (0, 0)) (zq2 BK632.out) hb)
    have n3_ := am (blk_below (g := gb633) (o := .cells #[.bool false, .slice none 0 0, .slice none 0 0] 24 (0, 0)) (zq2 BK633.out) hb)
    have n4_ := am (blk_below (g := gb640) (o := .cells #[.bool false, .slice none 0 0, .slice none 0 0] 24 (0, 0)) (zq2 BK640.out) hb)
    have n5_ := am (below_step (zb3 GE632.out GE633.out GE640.out) hb)
    clear HO636 BK632 BK633 BK640 HB
    have HO636 := n0_
    have HO639 := n1_
    have BK632 := n2_
    have BK633 := n3_
    have BK640 := n4_
    have HB := n5_
    clear n0_ n1_ n2_ n3_ n4_ n5_
    (try clear hb)
    (try clear hb2)
    (try clear hk)
    (try clear hi)
    (try clear ho0)
    obtain ⟨Ao11, co11, eo11⟩ := Kd.R_slice HO639.out
    (first | subst eo11 | (injection eo11 with f1_ f2_ f3_; have f4_ := f1_.symm; have f5_ := f3_.symm; clear f1_ f2_ f3_; subst f4_; subst f5_))
    obtain ⟨Ao12, co12, eo12⟩ := Kd.R_slice HO636.out
    (first | subst eo12 | (injection eo12 with f1_ f2_ f3_; have f4_ := f1_.symm; have f5_ := f3_.symm; clear f1_ f2_ f3_; subst f4_; subst f5_))
    refine hK.out _ _ ⟨(blk_cell BK632.out 0).trans rfl, (blk_cell BK632.out 1).trans rfl, (blk_cell BK632.out 2).trans rfl⟩ (fun hHeld => ?_)
    clear hK K
    refine norm_ (a' := ?_) ?_ ?_
    rotate_left
    ·show Act.put _ (some 12) _ = _
     simp only [Act.put, List.setIfInBounds_toArray, List.set_cons_zero, List.set_cons_succ, i64_w, i32_w]
     rfl
    refine pure_ (i := 8) (N := some 13) (v := ?_) (a' := ?_) #[true, true, true, true, true, true, true, true, true, true, false] rfl rfl (any_of HT_.out (by kernel_rfl)) (fun _ _ _ h => h) (Or.inl ⟨by rfl, ?_⟩) ?_ ?_
    rotate_left
    ·intro w'
     go_simp
     with_reducible rfl
    rotate_left
    ·simp only [Act.put, List.setIfInBounds_toArray, List.set_cons_zero, List.set_cons_succ, i64_w, i32_w]
     rfl
    exact norm_ (by simp only [putAll, Act.put, List.setIfInBounds_toArray, List.set_cons_zero, List.set_cons_succ]) (hCont (.slice Ao12 t634.length co12, .slice Ao11 t637.length co11, gb640) _ ⟨hHeld, (by (with_reducible repeat (first | apply Kd.R_alloc | apply Kd.R_drewN | apply Kd.R_drew)); exact Kd.R_mono HO636.out (fun _ hk => hk.2)), (by (with_reducible repeat (first | apply Kd.R_alloc | apply Kd.R_drewN | apply Kd.R_drew)); exact Kd.R_mono HO639.out (fun _ hk => hk.2)), (zq2 BK632.out), (zq2 BK633.out), (zq2 BK640.out), GW640.out, GE640.out, NB632_640.out, NB640_632.out, NB633_640.out, NB640_633.out, (zb3 GE632.out GE633.out GE640.out)⟩)
  rintro ⟨v635, v638, gb640⟩ w13 ⟨hS_, h0_, h1_, h2_, h3_, h4_, h5_, h6_, h7_, h8_, h9_, h10_, h11_⟩
  have n0_ : Aside0 (Kd.R (Kd.int .u32) 55 w13 w.heap.size (fun k_ => some k_ ≠ (v638 : Value).ownBlock) v635 t634) := ⟨h0_⟩
  have n1_ : Aside0 (Kd.R (Kd.int .u32) 55 w13 w.heap.size (fun k_ => some k_ ≠ (v635 : Value).ownBlock) v638 t637) := ⟨h1_⟩
  have n2_ : Aside0 (w13.heap[gb632]? = some (.cells #[.bool a0_0, .slice A0_1 l0_1.length c0_1, .slice A0_2 l0_2.length c0_2] 41 (0, 0))) := ⟨h2_⟩
  have n3_ : Aside0 (w13.heap[gb633]? = some (.cells #[.bool false, .slice none 0 0, .slice none 0 0] 24 (0, 0))) := ⟨h3_⟩
  have n4_ : Aside0 (w13.heap[gb640]? = some (.cells #[.bool false, .slice none 0 0, .slice none 0 0] 24 (0, 0))) := ⟨h4_⟩
  have n5_ : Aside0 (w.heap.size ≤ gb640) := ⟨h5_⟩
  have n6_ : Aside0 (w.heap.size ≤ gb640) := ⟨h6_⟩
  have n7_ : Aside0 (gb632 ≠ gb640) := ⟨h7_⟩
  have n8_ : Aside0 (gb640 ≠ gb632) := ⟨h8_⟩
  have n9_ : Aside0 (gb633 ≠ gb640) := ⟨h9_⟩
  have n10_ : Aside0 (gb640 ≠ gb633) := ⟨h10_⟩
  have n11_ : Aside0 (Below w.heap.size w w13) := ⟨h11_⟩
  clear BK632 BK633 HB h0_ h1_ h2_ h3_ h4_ h5_ h6_ h7_ h8_ h9_ h10_ h11_
  have HO636 := n0_
  have HO639 := n1_
  have BK632 := n2_
  have BK633 := n3_
  have BK640 := n4_
  have GW640 := n5_
  have GE640 := n6_
  have NB632_640 := n7_
  have NB640_632 := n8_
  have NB633_640 := n9_
  have NB640_633 := n10_
  have HB := n11_
  clear n0_ n1_ n2_ n3_ n4_ n5_ n6_ n7_ n8_ n9_ n10_ n11_
  have hHeld : w13.cell? ⟨gb632, 0, none⟩ = some (.bool a0_0) ∧ w13.cell? ⟨gb632, 1, none⟩ = some (.slice A0_1 l0_1.length c0_1) ∧ w13.cell? ⟨gb632, 2, none⟩ = some (.slice A0_2 l0_2.length c0_2) := hS_
  obtain ⟨Ao14, co14, eo14⟩ := Kd.R_slice HO639.out
  (first | subst eo14 | (injection eo14 with f1_ f2_ f3_; have f4_ := f1_.symm; have f5_ := f3_.symm; clear f1_ f2_ f3_; subst f4_; subst f5_))
  obtain ⟨Ao15, co15, eo15⟩ := Kd.R_slice HO636.out
  (first | subst eo15 | (injection eo15 with f1_ f2_ f3_; have f4_ := f1_.symm; have f5_ := f3_.symm; clear f1_ f2_ f3_; subst f4_; subst f5_))
  refine norm_ (a' := ?_) ?_ ?_
  rotate_left
  ·simp only [putAll, Act.put, List.setIfInBounds_toArray, List.set_cons_zero, List.set_cons_succ]
   rfl
  refine one_ (i := 10) (N := none) #[true, true, true, true, true, true, true, true, true, true, true] rfl rfl (one_of HT_.out (by kernel_rfl)) (by decide) (fun K hK => ?_)
  have hs16 : w13.cell? ⟨gb640, 0, none⟩ = some (.bool false) := (blk_cell BK640.out 0).trans rfl
  have hfs16 := blk_frozen BK640.out 0
  have hns16_0 := NB632_640.out
  have hns16_1 := NB633_640.out
  have hms16_0 := NB640_632.out
  have hms16_1 := NB640_633.out
  have hs17 : w13.cell? ⟨gb640, 1, none⟩ = some (.slice none 0 0) := (blk_cell BK640.out 1).trans rfl
  have hfs17 := blk_frozen BK640.out 1
  have hns17_0 := NB632_640.out
  have hns17_1 := NB633_640.out
  have hms17_0 := NB640_632.out
  have hms17_1 := NB640_633.out
  have hs18 : w13.cell? ⟨gb640, 2, none⟩ = some (.slice none 0 0) := (blk_cell BK640.out 2).trans rfl
  have hfs18 := blk_frozen BK640.out 2
  have hns18_0 := NB632_640.out
  have hns18_1 := NB633_640.out
  have hms18_0 := NB640_632.out
  have hms18_1 := NB640_633.out
  refine skip_ (w1 := ?_) (by rfl) rfl ?_ ?_
  rotate_left
  ·go_simp
   rfl
  refine hK.out _ _ ⟨((cell_far (p := ⟨gb640, _, none⟩) NB632_640.out _).trans (((cell_far (p := ⟨gb640, _, none⟩) NB632_640.out _).trans (((cell_far (p := ⟨gb640, _, none⟩) NB632_640.out _).trans (hHeld.1)))))), ((cell_far (p := ⟨gb640, _, none⟩) NB632_640.out _).trans (((cell_far (p := ⟨gb640, _, none⟩) NB632_640.out _).trans (((cell_far (p := ⟨gb640, _, none⟩) NB632_640.out _).trans (hHeld.2.1)))))), ((cell_far (p := ⟨gb640, _, none⟩) NB632_640.out _).trans (((cell_far (p := ⟨gb640, _, none⟩) NB632_640.out _).trans (((cell_far (p := ⟨gb640, _, none⟩) NB632_640.out _).trans (hHeld.2.2))))))⟩ (fun hHeld => ?_)
  clear hK K
  refine done_ (done_of HT_.out (by kernel_rfl)) ?_
  have hnb19 := NB640_632.out
  have hnc19 := NB632_640.out
  have hnb20 := NB640_633.out
  have hnc20 := NB633_640.out
  have hcz21_0 : w13.cell? ⟨gb640, 0, none⟩ = some (.bool false) := (blk_cell BK640.out 0).trans rfl
  have hcz21_1 : w13.cell? ⟨gb640, 1, none⟩ = some (.slice none 0 0) := (blk_cell BK640.out 1).trans rfl
  have hcz21_2 : w13.cell? ⟨gb640, 2, none⟩ = some (.slice none 0 0) := (blk_cell BK640.out 2).trans rfl
  have hfz21_0 := blk_frozen BK640.out 0
  have hfz21_1 := blk_frozen BK640.out 1
  have hfz21_2 := blk_frozen BK640.out 2
  have hnb22 := NB633_632.out
  have hnc22 := NB632_633.out
  have hcz23_0 : w13.cell? ⟨gb633, 0, none⟩ = some (.bool false) := (blk_cell BK633.out 0).trans rfl
  have hcz23_1 : w13.cell? ⟨gb633, 1, none⟩ = some (.slice none 0 0) := (blk_cell BK633.out 1).trans rfl
  have hcz23_2 : w13.cell? ⟨gb633, 2, none⟩ = some (.slice none 0 0) := (blk_cell BK633.out 2).trans rfl
  have hfz23_0 := blk_frozen BK633.out 0
  have hfz23_1 := blk_frozen BK633.out 1
  have hfz23_2 := blk_frozen BK633.out 2
  try go_wp2
  refine bodyPost_ret (results_ct rfl _ _ gb633 24 #[.bool false, .slice none 0 0, .slice none 0 0] (0, 0) _ rfl (by (with_reducible repeat (first | refine blk_drewN ?_ _ | refine blk_drew ?_ | refine blk_alloc ?_ _)); refine blk_put (cs := #[.bool false, .slice none 0 0, .slice none 0 0]) ?_ 2 _ rfl; (with_reducible repeat (first | refine blk_drewN ?_ _ | refine blk_drew ?_ | refine blk_alloc ?_ _)); refine blk_put (cs := #[.bool false, .slice none 0 0, .slice none 0 0]) ?_ 1 _ rfl; (with_reducible repeat (first | refine blk_drewN ?_ _ | refine blk_drew ?_ | refine blk_alloc ?_ _)); refine blk_put (cs := #[.bool false, .slice none 0 0, .slice none 0 0]) ?_ 0 _ rfl; (with_reducible repeat (first | refine blk_drewN ?_ _ | refine blk_drew ?_ | refine blk_alloc ?_ _)); refine blk_far ?_ NB633_640.out _; (with_reducible repeat (first | refine blk_drewN ?_ _ | refine blk_drew ?_ | refine blk_alloc ?_ _)); refine blk_far ?_ NB633_640.out _; (with_reducible repeat (first | refine blk_drewN ?_ _ | refine blk_drew ?_ | refine blk_alloc ?_ _)); refine blk_far ?_ NB633_640.out _; (with_reducible repeat (first | refine blk_drewN ?_ _ | refine blk_drew ?_ | refine blk_alloc ?_ _)); exact BK633.out) Tryd.underlying24 rfl (by kernel_rfl)) rfl ?_
  exact ⟨_, _, zq9, by first | exact Kd.R_nil _ _ _ _ _ | exact Kd.N_nil _ _ _ _ _ | exact Kd.V_nil _ _ _ _ _ | exact Kd.Q_nil _ _ _ _ _ | exact Kd.S_nil _ _ _ _ _, by first | exact Kd.R_nil _ _ _ _ _ | exact Kd.N_nil _ _ _ _ _ | exact Kd.V_nil _ _ _ _ _ | exact Kd.Q_nil _ _ _ _ _ | exact Kd.S_nil _ _ _ _ _, zb3 GE632.out GE633.out GE640.out⟩
 ·rw [if_neg c4] at H
  have c4b0 : decide (128 < (t634.length : Int)) = false := decide_eq_false c4
  have c4b1 : decide (128 < t634.length) = false := decide_eq_false (by omega)
  clear c4
  by_cases c24 : (t637.length : Int) > 128
  ·rw [if_pos c24] at H
   have c24b0 : decide (128 < (t637.length : Int)) = true := decide_eq_true c24
   have c24b1 : decide (128 < t637.length) = true := decide_eq_true (by omega)
   clear c24
   simp only [Option.some.injEq, Prod.mk.injEq] at H
   obtain ⟨rfl, rfl, rfl, rfl⟩ := H
   go_enter Tryd.func59, Tryd.ntmps59
   try go_wp2_with (first | ((with_reducible refine gate_dst (N := 1) rfl ?_); (try (refine gate_guard (by rfl) ?_; dsimp only)); refine box_event ?hg (N := 1) ?hd (cs := #[.bool a0_0, .slice A0_1 l0_1.length c0_1, .slice A0_2 l0_2.length c0_2]) (t := 41) ?hr ?_; (case hd => rfl); (case hg => rfl); (case hr => exact zr); intro gb632 hg w25 hbox hb; have n0_ := am (below_step zq1 hb); have n1_ := am (hbox); have n2_ := am ((by rw [hg]; exact (below_size zq1) : w.heap.size ≤ gb632)); have n3_ := am ((by rw [hg]; exact (below_size zq1) : w.heap.size ≤ gb632)); clear HB; have HB := n0_; have BK632 := n1_; have GW632 := n2_; have GE632 := n3_; clear n0_ n1_ n2_ n3_; clear hb hbox hg) | ((with_reducible refine gate_dst (N := 2) rfl ?_); (try (refine gate_guard (by rfl) ?_; dsimp only)); refine box_event ?hg (N := 2) ?hd (cs := #[.bool false, .slice none 0 0, .slice none 0 0]) (t := 24) ?hr ?_; (case hd => rfl); (case hg => rfl); (case hr => exact zr); intro gb633 hg w26 hbox hb; have n0_ := am (blk_below (g := gb632) (o := .cells #[.bool a0_0, .slice A0_1 l0_1.length c0_1, .slice A0_2 l0_2.length c0_2] 41 (0, 0)) (zq2 BK632.out) hb); have n1_ := am (below_step (zb1 GE632.out) hb); have n2_ := am (hbox); have n3_ := am ((by rw [hg]; exact (below_size (zb1 GE632.out)) : w.heap.size ≤ gb633)); have n4_ := am ((by rw [hg]; exact (below_size (zb1 GE632.out)) : w.heap.size ≤ gb633)); have n5_ := am ((by rw [hg]; exact Nat.ne_of_lt (blk_lt (g := gb632) (o := .cells #[.bool a0_0, .slice A0_1 l0_1.length c0_1, .slice A0_2 l0_2.length c0_2] 41 (0, 0)) (zq2 BK632.out)) : gb632 ≠ gb633)); have n6_ := am ((by rw [hg]; exact Nat.ne_of_gt (blk_lt (g := gb632) (o := .cells #[.bool a0_0, .slice A0_1 l0_1.length c0_1, .slice A0_2 l0_2.length c0_2] 41 (0, 0)) (zq2 BK632.out)) : gb633 ≠ gb632)); clear BK632 HB; have BK632 := n0_; have HB := n1_; have BK633 := n2_; have GW633 := n3_; have GE633 := n4_; have NB632_633 := n5_; have NB633_632 := n6_; clear n0_ n1_ n2_ n3_ n4_ n5_ n6_; clear hb hbox hg))
   have n0_ := am (blk_drew BK632.out)
   have n1_ := am (blk_drew BK633.out)
   have n2_ := am (below_drew1 HB.out)
   clear BK632 BK633 HB
   have BK632 := n0_
   have BK633 := n1_
   have HB := n2_
   clear n0_ n1_ n2_
   refine start_ (n := 11) (S := fun w' => w'.cell? ⟨gb632, 0, none⟩ = some (.bool a0_0) ∧ w'.cell? ⟨gb632, 1, none⟩ = some (.slice A0_1 l0_1.length c0_1) ∧ w'.cell? ⟨gb632, 2, none⟩ = some (.slice A0_2 l0_2.length c0_2)) (ds := []) #[false, false, false, false, false, false, false, false, false, false, false] (by kernel_rfl) rfl rfl ⟨(blk_cell BK632.out 0).trans rfl, (blk_cell BK632.out 1).trans rfl, (blk_cell BK632.out 2).trans rfl⟩ (fun hHeld => ?_); refine with_tabW rf_Made.tab1 rf_Made.bits1 (fun HT_ HW_ => ?_)
   generalize w26.drew = w27 at BK632 BK633 HB hHeld ⊢
   refine pure_ (i := 0) (N := some 5) (v := ?_) (a' := ?_) #[true, false, false, false, false, false, false, false, false, false, false] rfl rfl (any_of HT_.out (by kernel_rfl)) (fun _ _ _ h => h) (Or.inl ⟨by rfl, ?_⟩) ?_ ?_
   rotate_left
   ·intro w'
    go_simp
    with_reducible rfl
   rotate_left
   ·simp only [Act.put, List.setIfInBounds_toArray, List.set_cons_zero, List.set_cons_succ, i64_w, i32_w]
    rfl
   refine pure_ (i := 2) (N := some 7) (v := ?_) (a' := ?_) #[true, false, true, false, false, false, false, false, false, false, false] rfl rfl (any_of HT_.out (by kernel_rfl)) (fun _ _ _ h => h) (Or.inl ⟨by rfl, ?_⟩) ?_ ?_
   rotate_left
   ·intro w'
    go_simp
    with_reducible rfl
   rotate_left
   ·simp only [Act.put, List.setIfInBounds_toArray, List.set_cons_zero, List.set_cons_succ, i64_w, i32_w]
    rfl
   refine pure_ (i := 5) (N := some 10) (v := ?_) (a' := ?_) #[true, false, true, false, false, true, false, false, false, false, false] rfl rfl (any_of HT_.out (by kernel_rfl)) (fun _ _ _ h => h) (Or.inl ⟨by rfl, ?_⟩) ?_ ?_
   rotate_left
   ·intro w'
    go_simp
    with_reducible rfl
   rotate_left
   ·simp only [Act.put, List.setIfInBounds_toArray, List.set_cons_zero, List.set_cons_succ, i64_w, i32_w]
    rfl
   refine take_ (i := 1) (N := some 6) (v := ?_) (a' := ?_) #[true, true, true, false, false, true, false, false, false, false, false] rfl rfl (take_ofW HT_.out HW_.out (by kernel_rfl)) (fun _ _ _ h => h) (Or.inl ⟨by rfl, ?_⟩) hHeld ?_ ?_
   rotate_left
   ·rintro w' ⟨s0, s1, s2⟩
    go_simp
    with_reducible rfl
   rotate_left
   ·simp only [Act.put, List.setIfInBounds_toArray, List.set_cons_zero, List.set_cons_succ, i64_w, i32_w]
    rfl
   refine take_ (i := 3) (N := some 8) (v := ?_) (a' := ?_) #[true, true, true, true, false, true, false, false, false, false, false] rfl rfl (take_ofW HT_.out HW_.out (by kernel_rfl)) (fun _ _ _ h => h) (Or.inl ⟨by rfl, ?_⟩) hHeld ?_ ?_
   rotate_left
   ·rintro w' ⟨s0, s1, s2⟩
    go_simp
    with_reducible rfl
   rotate_left
   ·simp only [Act.put, List.setIfInBounds_toArray, List.set_cons_zero, List.set_cons_succ, i64_w, i32_w]
    rfl
   refine take_ (i := 6) (N := some 11) (v := ?_) (a' := ?_) #[true, true, true, true, false, true, true, false, false, false, false] rfl rfl (take_ofW HT_.out HW_.out (by kernel_rfl)) (fun _ _ _ h => h) (Or.inl ⟨by rfl, ?_⟩) hHeld ?_ ?_
   rotate_left
   ·rintro w' ⟨s0, s1, s2⟩
    go_simp
    with_reducible rfl
   rotate_left
   ·simp only [Act.put, List.setIfInBounds_toArray, List.set_cons_zero, List.set_cons_succ, i64_w, i32_w]
    rfl
   refine join_ (σ := Value × Value × Nat) 1 #[true, true, true, true, true, true, true, true, true, true, false] (fun s_ => [(9, s_.1), (12, s_.2.1), (4, .pointer (some ⟨s_.2.2, 0, none⟩)), (13, .agg #[.bool a0_0, s_.1, s_.2.1])]) (fun s_ w' => (w'.cell? ⟨gb632, 0, none⟩ = some (.bool a0_0) ∧ w'.cell? ⟨gb632, 1, none⟩ = some (.slice A0_1 l0_1.length c0_1) ∧ w'.cell? ⟨gb632, 2, none⟩ = some (.slice A0_2 l0_2.length c0_2)) ∧ (Kd.R (Kd.int .u32) 55 w' w.heap.size (fun k_ => some k_ ≠ (s_.2.1 : Value).ownBlock) s_.1 t634) ∧ (Kd.R (Kd.int .u32) 55 w' w.heap.size (fun k_ => some k_ ≠ (s_.1 : Value).ownBlock) s_.2.1 t637) ∧ (w'.heap[gb632]? = some (.cells #[.bool a0_0, .slice A0_1 l0_1.length c0_1, .slice A0_2 l0_2.length c0_2] 41 (0, 0))) ∧ (w'.heap[gb633]? = some (.cells #[.bool false, .slice none 0 0, .slice none 0 0] 24 (0, 0))) ∧ (w'.heap[s_.2.2]? = some (.cells #[.bool false, .slice none 0 0, .slice none 0 0] 24 (0, 0))) ∧ (w.heap.size ≤ s_.2.2) ∧ (w.heap.size ≤ s_.2.2) ∧ (gb632 ≠ s_.2.2) ∧ (s_.2.2 ≠ gb632) ∧ (gb633 ≠ s_.2.2) ∧ (s_.2.2 ≠ gb633) ∧ (Below w.heap.size w w')) ?_ ?_
   rotate_left
   ·intro hCont
    refine two_ (i := 4) (j := 9) (Ni := some 9) (Nj := some 4) #[true, true, true, true, true, true, true, false, false, false, false] #[true, true, true, true, false, true, true, false, false, true, false] rfl rfl rfl rfl (two_of HT_.out (by kernel_rfl)) (by decide) (by decide) (fun K hK => ?_) (fun K hK => ?_)
    ·skip
     refine goes_ Tryd.func108 (by kernel_rfl) rfl #[.slice A0_1 l0_1.length c0_1] (by rfl) rfl rfl zq5 ?_
     with_reducible refine (rf_limbs.calls k _ _ l0_1 t634 _ ?side1 ?side2 A2.out).mono ?_
     (case side1 => exact zc (Kd.C_below HR0_1.out HB.out))
     (case side2 => exact HC0_1.out)
     rintro e w28 ⟨v635, rfl, ho0, hb⟩
     refine ⟨_, rfl, ?_⟩
     have n0_ := am (Kd.R_lower ho0 (below_size (zb2 GE632.out GE633.out)))
     have n1_ := am (blk_below (g := gb632) (o := .cells #[.bool a0_0, .slice A0_1 l0_1.length c0_1, .slice A0_2 l0_2.length c0_2] 41 (0, 0)) (zq2 BK632.out) hb)
     have n2_ := am (blk_below (g := gb633) (o := .cells #[.bool false, .slice none 0 0, .slice none 0 0] 24 (0, 0)) (zq2 BK633.out) hb)
     have n3_ := am (below_step (zb2 GE632.out GE633.out) hb)
     clear BK632 BK633 HB
     have HO636 := n0_
     have BK632 := n1_
     have BK633 := n2_
     have HB := n3_
     clear n0_ n1_ n2_ n3_
     (try clear hb)
     (try clear hb2)
     (try clear hk)
     (try clear hi)
     (try clear ho0)
     refine hK.out _ _ ⟨(blk_cell BK632.out 0).trans rfl, (blk_cell BK632.out 1).trans rfl, (blk_cell BK632.out 2).trans rfl⟩ (fun hHeld => ?_)
     clear hK K
     refine norm_ (a' := ?_) ?_ ?_
     rotate_left
     ·show Act.put _ (some 9) _ = _
      simp only [Act.put, List.setIfInBounds_toArray, List.set_cons_zero, List.set_cons_succ, i64_w, i32_w]
      rfl
     refine two_ (i := 7) (j := 9) (Ni := some 12) (Nj := some 4) #[true, true, true, true, true, true, true, true, false, false, false] #[true, true, true, true, true, true, true, false, false, true, false] rfl rfl rfl rfl (two_of HT_.out (by kernel_rfl)) (by decide) (by decide) (fun K hK => ?_) (fun K hK => ?_)
     ·skip
      refine goes_ Tryd.func108 (by kernel_rfl) rfl #[.slice A0_2 l0_2.length c0_2] (by rfl) rfl rfl zq5 ?_
      with_reducible refine (rf_limbs.calls k _ _ l0_2 t637 _ ?side1 ?side2 A3.out).mono ?_
      (case side1 => exact zc (Kd.C_below HR0_2.out HB.out))
      (case side2 => exact HC0_2.out)
      rintro e w29 ⟨v638, rfl, ho0, hb⟩
      refine ⟨_, rfl, ?_⟩
      have n0_ := am (Kd.R_elder' (zq4 HO636.out) (Kd.R_base ho0) hb)
      have n1_ := am (Kd.R_lower (Kd.R_new' ho0 (Kd.R_lt (zq4 HO636.out))) (below_size (zb2 GE632.out GE633.out)))
      have n2_ := am (blk_below (g := gb632) (o := .cells #[.bool a0_0, .slice A0_1 l0_1.length c0_1, .slice A0_2 l0_2.length c0_2] 41 (0, 0)) (zq2 BK632.out) hb)
      have n3_ := am (blk_below (g := gb633) (o := .cells #[.bool false, .slice none 0 0, .slice none 0 0] 24 (0, 0)) (zq2 BK633.out) hb)
      have n4_ := am (below_step (zb2 GE632.out GE633.out) hb)
      clear HO636 BK632 BK633 HB
      have HO636 := n0_
      have HO639 := n1_
      have BK632 := n2_
      have BK633 := n3_
      have HB := n4_
      clear n0_ n1_ n2_ n3_ n4_
      (try clear hb)
      (try clear hb2)
      (try clear hk)
      (try clear hi)
      (try clear ho0)
      obtain ⟨Ao30, co30, eo30⟩ := Kd.R_slice HO639.out
      (first | subst eo30 | (injection eo30 with f1_ f2_ f3_; have f4_ := f1_.symm; have f5_ := f3_.symm; clear f1_ f2_ f3_; subst f4_; subst f5_))
      obtain ⟨Ao31, co31, eo31⟩ := Kd.R_slice HO636.out
      (first | subst eo31 | (injection eo31 with f1_ f2_ f3_; have f4_ := f1_.symm; have f5_ := f3_.symm; clear f1_ f2_ f3_; subst f4_; subst f5_))
      refine hK.out _ _ ⟨(blk_cell BK632.out 0).trans rfl, (blk_cell BK632.out 1).trans rfl, (blk_cell BK632.out 2).trans rfl⟩ (fun hHeld => ?_)
      clear hK K
      refine norm_ (a' := ?_) ?_ ?_
      rotate_left
      ·show Act.put _ (some 12) _ = _
       simp only [Act.put, List.setIfInBounds_toArray, List.set_cons_zero, List.set_cons_succ, i64_w, i32_w]
       rfl
      refine pure_ (i := 8) (N := some 13) (v := ?_) (a' := ?_) #[true, true, true, true, true, true, true, true, true, false, false] rfl rfl (any_of HT_.out (by kernel_rfl)) (fun _ _ _ h => h) (Or.inl ⟨by rfl, ?_⟩) ?_ ?_
      rotate_left
      ·intro w'
       go_simp
       with_reducible rfl
      rotate_left
      ·simp only [Act.put, List.setIfInBounds_toArray, List.set_cons_zero, List.set_cons_succ, i64_w, i32_w]
       rfl
      refine one_ (i := 9) (N := some 4) #[true, true, true, true, true, true, true, true, true, true, false] rfl rfl (one_of HT_.out (by kernel_rfl)) (by decide) (fun K hK => ?_)
      refine box_step ?hg (N := 4) ?hd (cs := #[.bool false, .slice none 0 0, .slice none 0 0]) (t := 24) ?hr ?_; (case hd => rfl); (case hg => rfl); (case hr => exact zr)
      intro gb640 hg w32 hbox hb
      have n0_ := am (Kd.R_below (zq4 HO636.out) hb)
      have n1_ := am (Kd.R_below (zq4 HO639.out) hb)
      have n2_ := am (blk_below (g := gb632) (o := .cells #[.bool a0_0, .slice A0_1 l0_1.length c0_1, .slice A0_2 l0_2.length c0_2] 41 (0, 0)) (zq2 BK632.out) hb)
      have n3_ := am (blk_below (g := gb633) (o := .cells #[.bool false, .slice none 0 0, .slice none 0 0] 24 (0, 0)) (zq2 BK633.out) hb)
      have n4_ := am (below_step (zb2 GE632.out GE633.out) hb)
      have n5_ := am (hbox)
      have n6_ := am ((by rw [hg]; exact (below_size (zb2 GE632.out GE633.out)) : w.heap.size ≤ gb640))
      have n7_ := am ((by rw [hg]; exact (below_size (zb2 GE632.out GE633.out)) : w.heap.size ≤ gb640))
      have n8_ := am ((by rw [hg]; exact Nat.ne_of_lt (blk_lt (g := gb632) (o := .cells #[.bool a0_0, .slice A0_1 l0_1.length c0_1, .slice A0_2 l0_2.length c0_2] 41 (0, 0)) (zq2 BK632.out)) : gb632 ≠ gb640))
      have n9_ := am ((by rw [hg]; exact Nat.ne_of_gt (blk_lt (g := gb632) (o := .cells #[.bool a0_0, .slice A0_1 l0_1.length c0_1, .slice A0_2 l0_2.length c0_2] 41 (0, 0)) (zq2 BK632.out)) : gb640 ≠ gb632))
      have n10_ := am ((by rw [hg]; exact Nat.ne_of_lt (blk_lt (g := gb633) (o := .cells #[.bool false, .slice none 0 0, .slice none 0 0] 24 (0, 0)) (zq2 BK633.out)) : gb633 ≠ gb640))
      have n11_ := am ((by rw [hg]; exact Nat.ne_of_gt (blk_lt (g := gb633) (o := .cells #[.bool false, .slice none 0 0, .slice none 0 0] 24 (0, 0)) (zq2 BK633.out)) : gb640 ≠ gb633))
      clear HO636 HO639 BK632 BK633 HB
      have HO636 := n0_
      have HO639 := n1_
      have BK632 := n2_
      have BK633 := n3_
      have HB := n4_
      have BK640 := n5_
      have GW640 := n6_
      have GE640 := n7_
      have NB632_640 := n8_
      have NB640_632 := n9_
      have NB633_640 := n10_
      have NB640_633 := n11_
      clear n0_ n1_ n2_ n3_ n4_ n5_ n6_ n7_ n8_ n9_ n10_ n11_ hb hbox hg
      refine hK.out _ _ ⟨(blk_cell BK632.out 0).trans rfl, (blk_cell BK632.out 1).trans rfl, (blk_cell BK632.out 2).trans rfl⟩ (fun hHeld => ?_)
      clear hK K
      refine norm_ (a' := ?_) ?_ ?_
      rotate_left
      ·show Act.put _ (some 4) _ = _
       simp only [Act.put, List.setIfInBounds_toArray, List.set_cons_zero, List.set_cons_succ, i64_w, i32_w]
       rfl
      exact norm_ (by simp only [putAll, Act.put, List.setIfInBounds_toArray, List.set_cons_zero, List.set_cons_succ]) (hCont (.slice Ao31 t634.length co31, .slice Ao30 t637.length co30, gb640) _ ⟨hHeld, (by (with_reducible repeat (first | apply Kd.R_alloc | apply Kd.R_drewN | apply Kd.R_drew)); exact Kd.R_mono HO636.out (fun _ hk => hk.2)), (by (with_reducible repeat (first | apply Kd.R_alloc | apply Kd.R_drewN | apply Kd.R_drew)); exact Kd.R_mono HO639.out (fun _ hk => hk.2)), (zq2 BK632.out), (zq2 BK633.out), (zq2 BK640.out), GW640.out, GE640.out, NB632_640.out, NB640_632.out, NB633_640.out, NB640_633.out, (zb3 GE632.out GE633.out GE640.out)⟩)
     ·skip
      refine box_step ?hg (N := 4) ?hd (cs := #[.bool false, .slice none 0 0, .slice none 0 0]) (t := 24) ?hr ?_; (case hd => rfl); (case hg => rfl); (case hr => exact zr)
      intro gb640 hg w29 hbox hb
      have n0_ := am (Kd.R_below (zq4 HO636.out) hb)
      have n1_ := am (blk_below (g := gb632) (o := .cells #[.bool a0_0, .slice A0_1 l0_1.length c0_1, .slice A0_2 l0_2.length c0_2] 41 (0, 0)) (zq2 BK632.out) hb)
      have n2_ := am (blk_below (g := gb633) (o := .cells #[.bool false, .slice none 0 0, .slice none 0 0] 24 (0, 0)) (zq2 BK633.out) hb)
      have n3_ := am (below_step (zb2 GE632.out GE633.out) hb)
      have n4_ := am (hbox)
      have n5_ := am ((by rw [hg]; exact (below_size (zb2 GE632.out GE633.out)) : w.heap.size ≤ gb640))
      have n6_ := am ((by rw [hg]; exact (below_size (zb2 GE632.out GE633.out)) : w.heap.size ≤ gb640))
      have n7_ := am ((by rw [hg]; exact Nat.ne_of_lt (blk_lt (g := gb632) (o := .cells #[.bool a0_0, .slice A0_1 l0_1.length c0_1, .slice A0_2 l0_2.length c0_2] 41 (0, 0)) (zq2 BK632.out)) : gb632 ≠ gb640))
      have n8_ := am ((by rw [hg]; exact Nat.ne_of_gt (blk_lt (g := gb632) (o := .cells #[.bool a0_0, .slice A0_1 l0_1.length c0_1, .slice A0_2 l0_2.length c0_2] 41 (0, 0)) (zq2 BK632.out)) : gb640 ≠ gb632))
      have n9_ := am ((by rw [hg]; exact Nat.ne_of_lt (blk_lt (g := gb633) (o := .cells #[.bool false, .slice none 0 0, .slice none 0 0] 24 (0, 0)) (zq2 BK633.out)) : gb633 ≠ gb640))
      have n10_ := am ((by rw [hg]; exact Nat.ne_of_gt (blk_lt (g := gb633) (o := .cells #[.bool false, .slice none 0 0, .slice none 0 0] 24 (0, 0)) (zq2 BK633.out)) : gb640 ≠ gb633))
      clear HO636 BK632 BK633 HB
      have HO636 := n0_
      have BK632 := n1_
      have BK633 := n2_
      have HB := n3_
      have BK640 := n4_
      have GW640 := n5_
      have GE640 := n6_
      have NB632_640 := n7_
      have NB640_632 := n8_
      have NB633_640 := n9_
      have NB640_633 := n10_
      clear n0_ n1_ n2_ n3_ n4_ n5_ n6_ n7_ n8_ n9_ n10_ hb hbox hg
      refine hK.out _ _ ⟨(blk_cell BK632.out 0).trans rfl, (blk_cell BK632.out 1).trans rfl, (blk_cell BK632.out 2).trans rfl⟩ (fun hHeld => ?_)
      clear hK K
      refine norm_ (a' := ?_) ?_ ?_
      rotate_left
      ·show Act.put _ (some 4) _ = _
       simp only [Act.put, List.setIfInBounds_toArray, List.set_cons_zero, List.set_cons_succ, i64_w, i32_w]
       rfl
      refine one_ (i := 7) (N := some 12) #[true, true, true, true, true, true, true, true, false, true, false] rfl rfl (one_of HT_.out (by kernel_rfl)) (by decide) (fun K hK => ?_)
      refine goes_ Tryd.func108 (by kernel_rfl) rfl #[.slice A0_2 l0_2.length c0_2] (by rfl) rfl rfl zq5 ?_
      with_reducible refine (rf_limbs.calls k _ _ l0_2 t637 _ ?side1 ?side2 A3.out).mono ?_
      (case side1 => exact zc (Kd.C_below HR0_2.out HB.out))
      (case side2 => exact HC0_2.out)
      rintro e w30 ⟨v638, rfl, ho0, hb⟩
      refine ⟨_, rfl, ?_⟩
      have n0_ := am (Kd.R_elder' (zq4 HO636.out) (Kd.R_base ho0) hb)
      have n1_ := am (Kd.R_lower (Kd.R_new' ho0 (Kd.R_lt (zq4 HO636.out))) (below_size (zb3 GE632.out GE633.out GE640.out)))
      have n2_ := am (blk_below (g := gb632) (o := .cells #[.bool a0_0, .slice A0_1 l0_1.length c0_1, .slice A0_2 l0_2.length c0_2] 41 (0, 0)) (zq2 BK632.out) hb)
      have n3_ := am (blk_below (g := gb633) (o := .cells #[.bool false, .slice none 0 0, .slice none 0 0] 24 (0, 0)) (zq2 BK633.out) hb)
      have n4_ := am (blk_below (g := gb640) (o := .cells #[.bool false, .slice none 0 0, .slice none 0 0] 24 (0, 0)) (zq2 BK640.out) hb)
      have n5_ := am (below_step (zb3 GE632.out GE633.out GE640.out) hb)
      clear HO636 BK632 BK633 BK640 HB
      have HO636 := n0_
      have HO639 := n1_
      have BK632 := n2_
      have BK633 := n3_
      have BK640 := n4_
      have HB := n5_
      clear n0_ n1_ n2_ n3_ n4_ n5_
      (try clear hb)
      (try clear hb2)
      (try clear hk)
      (try clear hi)
      (try clear ho0)
      obtain ⟨Ao31, co31, eo31⟩ := Kd.R_slice HO639.out
      (first | subst eo31 | (injection eo31 with f1_ f2_ f3_; have f4_ := f1_.symm; have f5_ := f3_.symm; clear f1_ f2_ f3_; subst f4_; subst f5_))
      obtain ⟨Ao32, co32, eo32⟩ := Kd.R_slice HO636.out
      (first | subst eo32 | (injection eo32 with f1_ f2_ f3_; have f4_ := f1_.symm; have f5_ := f3_.symm; clear f1_ f2_ f3_; subst f4_; subst f5_))
      refine hK.out _ _ ⟨(blk_cell BK632.out 0).trans rfl, (blk_cell BK632.out 1).trans rfl, (blk_cell BK632.out 2).trans rfl⟩ (fun hHeld => ?_)
      clear hK K
      refine norm_ (a' := ?_) ?_ ?_
      rotate_left
      ·show Act.put _ (some 12) _ = _
       simp only [Act.put, List.setIfInBounds_toArray, List.set_cons_zero, List.set_cons_succ, i64_w, i32_w]
       rfl
      refine pure_ (i := 8) (N := some 13) (v := ?_) (a' := ?_) #[true, true, true, true, true, true, true, true, true, true, false] rfl rfl (any_of HT_.out (by kernel_rfl)) (fun _ _ _ h => h) (Or.inl ⟨by rfl, ?_⟩) ?_ ?_
      rotate_left
      ·intro w'
       go_simp
       with_reducible rfl
      rotate_left
      ·simp only [Act.put, List.setIfInBounds_toArray, List.set_cons_zero, List.set_cons_succ, i64_w, i32_w]
       rfl
      exact norm_ (by simp only [putAll, Act.put, List.setIfInBounds_toArray, List.set_cons_zero, List.set_cons_succ]) (hCont (.slice Ao32 t634.length co32, .slice Ao31 t637.length co31, gb640) _ ⟨hHeld, (by (with_reducible repeat (first | apply Kd.R_alloc | apply Kd.R_drewN | apply Kd.R_drew)); exact Kd.R_mono HO636.out (fun _ hk => hk.2)), (by (with_reducible repeat (first | apply Kd.R_alloc | apply Kd.R_drewN | apply Kd.R_drew)); exact Kd.R_mono HO639.out (fun _ hk => hk.2)), (zq2 BK632.out), (zq2 BK633.out), (zq2 BK640.out), GW640.out, GE640.out, NB632_640.out, NB640_632.out, NB633_640.out, NB640_633.out, (zb3 GE632.out GE633.out GE640.out)⟩)
    ·skip
     refine box_step ?hg (N := 4) ?hd (cs := #[.bool false, .slice none 0 0, .slice none 0 0]) (t := 24) ?hr ?_; (case hd => rfl); (case hg => rfl); (case hr => exact zr)
     intro gb640 hg w28 hbox hb
     have n0_ := am (blk_below (g := gb632) (o := .cells #[.bool a0_0, .slice A0_1 l0_1.length c0_1, .slice A0_2 l0_2.length c0_2] 41 (0, 0)) (zq2 BK632.out) hb)
     have n1_ := am (blk_below (g := gb633) (o := .cells #[.bool false, .slice none 0 0, .slice none 0 0] 24 (0, 0)) (zq2 BK633.out) hb)
     have n2_ := am (below_step (zb2 GE632.out GE633.out) hb)
     have n3_ := am (hbox)
     have n4_ := am ((by rw [hg]; exact (below_size (zb2 GE632.out GE633.out)) : w.heap.size ≤ gb640))
     have n5_ := am ((by rw [hg]; exact (below_size (zb2 GE632.out GE633.out)) : w.heap.size ≤ gb640))
     have n6_ := am ((by rw [hg]; exact Nat.ne_of_lt (blk_lt (g := gb632) (o := .cells #[.bool a0_0, .slice A0_1 l0_1.length c0_1, .slice A0_2 l0_2.length c0_2] 41 (0, 0)) (zq2 BK632.out)) : gb632 ≠ gb640))
     have n7_ := am ((by rw [hg]; exact Nat.ne_of_gt (blk_lt (g := gb632) (o := .cells #[.bool a0_0, .slice A0_1 l0_1.length c0_1, .slice A0_2 l0_2.length c0_2] 41 (0, 0)) (zq2 BK632.out)) : gb640 ≠ gb632))
     have n8_ := am ((by rw [hg]; exact Nat.ne_of_lt (blk_lt (g := gb633) (o := .cells #[.bool false, .slice none 0 0, .slice none 0 0] 24 (0, 0)) (zq2 BK633.out)) : gb633 ≠ gb640))
     have n9_ := am ((by rw [hg]; exact Nat.ne_of_gt (blk_lt (g := gb633) (o := .cells #[.bool false, .slice none 0 0, .slice none 0 0] 24 (0, 0)) (zq2 BK633.out)) : gb640 ≠ gb633))
     clear BK632 BK633 HB
     have BK632 := n0_
     have BK633 := n1_
     have HB := n2_
     have BK640 := n3_
     have GW640 := n4_
     have GE640 := n5_
     have NB632_640 := n6_
     have NB640_632 := n7_
     have NB633_640 := n8_
     have NB640_633 := n9_
     clear n0_ n1_ n2_ n3_ n4_ n5_ n6_ n7_ n8_ n9_ hb hbox hg
     refine hK.out _ _ ⟨(blk_cell BK632.out 0).trans rfl, (blk_cell BK632.out 1).trans rfl, (blk_cell BK632.out 2).trans rfl⟩ (fun hHeld => ?_)
     clear hK K
     refine norm_ (a' := ?_) ?_ ?_
     rotate_left
     ·show Act.put _ (some 4) _ = _
      simp only [Act.put, List.setIfInBounds_toArray, List.set_cons_zero, List.set_cons_succ, i64_w, i32_w]
      rfl
     refine one_ (i := 4) (N := some 9) #[true, true, true, true, true, true, true, false, false, true, false] rfl rfl (one_of HT_.out (by kernel_rfl)) (by decide) (fun K hK => ?_)
     refine goes_ Tryd.func108 (by kernel_rfl) rfl #[.slice A0_1 l0_1.length c0_1] (by rfl) rfl rfl zq5 ?_
     with_reducible refine (rf_limbs.calls k _ _ l0_1 t634 _ ?side1 ?side2 A2.out).mono ?_
     (case side1 => exact zc (Kd.C_below HR0_1.out HB.out))
     (case side2 => exact HC0_1.out)
     rintro e w29 ⟨v635, rfl, ho0, hb⟩
     refine ⟨_, rfl, ?_⟩
     have n0_ := am (Kd.R_lower ho0 (below_size (zb3 GE632.out GE633.out GE640.out)))
     have n1_ := am (blk_below (g := gb632) (o := .cells #[.bool a0_0, .slice A0_1 l0_1.length c0_1, .slice A0_2 l0_2.length c0_2] 41 (0, 0)) (zq2 BK632.out) hb)
     have n2_ := am (blk_below (g := gb633) (o := .cells #[.bool false, .slice none 0 0, .slice none 0 0] 24 (0, 0)) (zq2 BK633.out) hb)
     have n3_ := am (blk_below (g := gb640) (o := .cells #[.bool false, .slice none 0 0, .slice none 0 0] 24 (0, 0)) (zq2 BK640.out) hb)
     have n4_ := am (below_step (zb3 GE632.out GE633.out GE640.out) hb)
     clear BK632 BK633 BK640 HB
     have HO636 := n0_
     have BK632 := n1_
     have BK633 := n2_
     have BK640 := n3_
     have HB := n4_
     clear n0_ n1_ n2_ n3_ n4_
     (try clear hb)
     (try clear hb2)
     (try clear hk)
     (try clear hi)
     (try clear ho0)
     refine hK.out _ _ ⟨(blk_cell BK632.out 0).trans rfl, (blk_cell BK632.out 1).trans rfl, (blk_cell BK632.out 2).trans rfl⟩ (fun hHeld => ?_)
     clear hK K
     refine norm_ (a' := ?_) ?_ ?_
     rotate_left
     ·show Act.put _ (some 9) _ = _
      simp only [Act.put, List.setIfInBounds_toArray, List.set_cons_zero, List.set_cons_succ, i64_w, i32_w]
      rfl
     refine one_ (i := 7) (N := some 12) #[true, true, true, true, true, true, true, true, false, true, false] rfl rfl (one_of HT_.out (by kernel_rfl)) (by decide) (fun K hK => ?_)
     refine goes_ Tryd.func108 (by kernel_rfl) rfl #[.slice A0_2 l0_2.length c0_2] (by rfl) rfl rfl zq5 ?_
     with_reducible refine (rf_limbs.calls k _ _ l0_2 t637 _ ?side1 ?side2 A3.out).mono ?_
     (case side1 => exact zc (Kd.C_below HR0_2.out HB.out))
     (case side2 => exact HC0_2.out)
     rintro e w30 ⟨v638, rfl, ho0, hb⟩
     refine ⟨_, rfl, ?_⟩
     have n0_ := am (Kd.R_elder' (zq4 HO636.out) (Kd.R_base ho0) hb)
     have n1_ := am (Kd.R_lower (Kd.R_new' ho0 (Kd.R_lt (zq4 HO636.out))) (below_size (zb3 GE632.out GE633.out GE640.out)))
     have n2_ := am (blk_below (g := gb632) (o := .cells #[.bool a0_0, .slice A0_1 l0_1.length c0_1, .slice A0_2 l0_2.length c0_2] 41 (0, 0)) (zq2 BK632.out) hb)
     have n3_ := am (blk_below (g := gb633) (o := .cells #[.bool false, .slice none 0 0, .slice none 0 0] 24 (0, 0)) (zq2 BK633.out) hb)
     have n4_ := am (blk_below (g := gb640) (o := .cells #[.bool false, .slice none 0 0, .slice none 0 0] 24 (0, 0)) (zq2 BK640.out) hb)
     have n5_ := am (below_step (zb3 GE632.out GE633.out GE640.out) hb)
     clear HO636 BK632 BK633 BK640 HB
     have HO636 := n0_
     have HO639 := n1_
     have BK632 := n2_
     have BK633 := n3_
     have BK640 := n4_
     have HB := n5_
     clear n0_ n1_ n2_ n3_ n4_ n5_
     (try clear hb)
     (try clear hb2)
     (try clear hk)
     (try clear hi)
     (try clear ho0)
     obtain ⟨Ao31, co31, eo31⟩ := Kd.R_slice HO639.out
     (first | subst eo31 | (injection eo31 with f1_ f2_ f3_; have f4_ := f1_.symm; have f5_ := f3_.symm; clear f1_ f2_ f3_; subst f4_; subst f5_))
     obtain ⟨Ao32, co32, eo32⟩ := Kd.R_slice HO636.out
     (first | subst eo32 | (injection eo32 with f1_ f2_ f3_; have f4_ := f1_.symm; have f5_ := f3_.symm; clear f1_ f2_ f3_; subst f4_; subst f5_))
     refine hK.out _ _ ⟨(blk_cell BK632.out 0).trans rfl, (blk_cell BK632.out 1).trans rfl, (blk_cell BK632.out 2).trans rfl⟩ (fun hHeld => ?_)
     clear hK K
     refine norm_ (a' := ?_) ?_ ?_
     rotate_left
     ·show Act.put _ (some 12) _ = _
      simp only [Act.put, List.setIfInBounds_toArray, List.set_cons_zero, List.set_cons_succ, i64_w, i32_w]
      rfl
     refine pure_ (i := 8) (N := some 13) (v := ?_) (a' := ?_) #[true, true, true, true, true, true, true, true, true, true, false] rfl rfl (any_of HT_.out (by kernel_rfl)) (fun _ _ _ h => h) (Or.inl ⟨by rfl, ?_⟩) ?_ ?_
     rotate_left
     ·intro w'
      go_simp
      with_reducible rfl
     rotate_left
     ·simp only [Act.put, List.setIfInBounds_toArray, List.set_cons_zero, List.set_cons_succ, i64_w, i32_w]
      rfl
     exact norm_ (by simp only [putAll, Act.put, List.setIfInBounds_toArray, List.set_cons_zero, List.set_cons_succ]) (hCont (.slice Ao32 t634.length co32, .slice Ao31 t637.length co31, gb640) _ ⟨hHeld, (by (with_reducible repeat (first | apply Kd.R_alloc | apply Kd.R_drewN | apply Kd.R_drew)); exact Kd.R_mono HO636.out (fun _ hk => hk.2)), (by (with_reducible repeat (first | apply Kd.R_alloc | apply Kd.R_drewN | apply Kd.R_drew)); exact Kd.R_mono HO639.out (fun _ hk => hk.2)), (zq2 BK632.out), (zq2 BK633.out), (zq2 BK640.out), GW640.out, GE640.out, NB632_640.out, NB640_632.out, NB633_640.out, NB640_633.out, (zb3 GE632.out GE633.out GE640.out)⟩)
   rintro ⟨v635, v638, gb640⟩ w33 ⟨hS_, h0_, h1_, h2_, h3_, h4_, h5_, h6_, h7_, h8_, h9_, h10_, h11_⟩
   have n0_ : Aside0 (Kd.R (Kd.int .u32) 55 w33 w.heap.size (fun k_ => some k_ ≠ (v638 : Value).ownBlock) v635 t634) := ⟨h0_⟩
   have n1_ : Aside0 (Kd.R (Kd.int .u32) 55 w33 w.heap.size (fun k_ => some k_ ≠ (v635 : Value).ownBlock) v638 t637) := ⟨h1_⟩
   have n2_ : Aside0 (w33.heap[gb632]? = some (.cells #[.bool a0_0, .slice A0_1 l0_1.length c0_1, .slice A0_2 l0_2.length c0_2] 41 (0, 0))) := ⟨h2_⟩
   have n3_ : Aside0 (w33.heap[gb633]? = some (.cells #[.bool false, .slice none 0 0, .slice none 0 0] 24 (0, 0))) := ⟨h3_⟩
   have n4_ : Aside0 (w33.heap[gb640]? = some (.cells #[.bool false, .slice none 0 0, .slice none 0 0] 24 (0, 0))) := ⟨h4_⟩
   have n5_ : Aside0 (w.heap.size ≤ gb640) := ⟨h5_⟩
   have n6_ : Aside0 (w.heap.size ≤ gb640) := ⟨h6_⟩
   have n7_ : Aside0 (gb632 ≠ gb640) := ⟨h7_⟩
   have n8_ : Aside0 (gb640 ≠ gb632) := ⟨h8_⟩
   have n9_ : Aside0 (gb633 ≠ gb640) := ⟨h9_⟩
   have n10_ : Aside0 (gb640 ≠ gb633) := ⟨h10_⟩
   have n11_ : Aside0 (Below w.heap.size w w33) := ⟨h11_⟩
   clear BK632 BK633 HB h0_ h1_ h2_ h3_ h4_ h5_ h6_ h7_ h8_ h9_ h10_ h11_
   have HO636 := n0_
   have HO639 := n1_
   have BK632 := n2_
   have BK633 := n3_
   have BK640 := n4_
   have GW640 := n5_
   have GE640 := n6_
   have NB632_640 := n7_
   have NB640_632 := n8_
   have NB633_640 := n9_
   have NB640_633 := n10_
   have HB := n11_
   clear n0_ n1_ n2_ n3_ n4_ n5_ n6_ n7_ n8_ n9_ n10_ n11_
   have hHeld : w33.cell? ⟨gb632, 0, none⟩ = some (.bool a0_0) ∧ w33.cell? ⟨gb632, 1, none⟩ = some (.slice A0_1 l0_1.length c0_1) ∧ w33.cell? ⟨gb632, 2, none⟩ = some (.slice A0_2 l0_2.length c0_2) := hS_
   obtain ⟨Ao34, co34, eo34⟩ := Kd.R_slice HO639.out
   (first | subst eo34 | (injection eo34 with f1_ f2_ f3_; have f4_ := f1_.symm; have f5_ := f3_.symm; clear f1_ f2_ f3_; subst f4_; subst f5_))
   obtain ⟨Ao35, co35, eo35⟩ := Kd.R_slice HO636.out
   (first | subst eo35 | (injection eo35 with f1_ f2_ f3_; have f4_ := f1_.symm; have f5_ := f3_.symm; clear f1_ f2_ f3_; subst f4_; subst f5_))
   refine norm_ (a' := ?_) ?_ ?_
   rotate_left
   ·simp only [putAll, Act.put, List.setIfInBounds_toArray, List.set_cons_zero, List.set_cons_succ]
    rfl
   refine one_ (i := 10) (N := none) #[true, true, true, true, true, true, true, true, true, true, true] rfl rfl (one_of HT_.out (by kernel_rfl)) (by decide) (fun K hK => ?_)
   have hs36 : w33.cell? ⟨gb640, 0, none⟩ = some (.bool false) := (blk_cell BK640.out 0).trans rfl
   have hfs36 := blk_frozen BK640.out 0
   have hns36_0 := NB632_640.out
   have hns36_1 := NB633_640.out
   have hms36_0 := NB640_632.out
   have hms36_1 := NB640_633.out
   have hs37 : w33.cell? ⟨gb640, 1, none⟩ = some (.slice none 0 0) := (blk_cell BK640.out 1).trans rfl
   have hfs37 := blk_frozen BK640.out 1
   have hns37_0 := NB632_640.out
   have hns37_1 := NB633_640.out
   have hms37_0 := NB640_632.out
   have hms37_1 := NB640_633.out
   have hs38 : w33.cell? ⟨gb640, 2, none⟩ = some (.slice none 0 0) := (blk_cell BK640.out 2).trans rfl
   have hfs38 := blk_frozen BK640.out 2
   have hns38_0 := NB632_640.out
   have hns38_1 := NB633_640.out
   have hms38_0 := NB640_632.out
   have hms38_1 := NB640_633.out
   refine skip_ (w1 := ?_) (by rfl) rfl ?_ ?_
   rotate_left
   ·go_simp
    rfl
   refine hK.out _ _ ⟨((cell_far (p := ⟨gb640, _, none⟩) NB632_640.out _).trans (((cell_far (p := ⟨gb640, _, none⟩) NB632_640.out _).trans (((cell_far (p := ⟨gb640, _, none⟩) NB632_640.out _).trans (hHeld.1)))))), ((cell_far (p := ⟨gb640, _, none⟩) NB632_640.out _).trans (((cell_far (p := ⟨gb640, _, none⟩) NB632_640.out _).trans (((cell_far (p := ⟨gb640, _, none⟩) NB632_640.out _).trans (hHeld.2.1)))))), ((cell_far (p := ⟨gb640, _, none⟩) NB632_640.out _).trans (((cell_far (p := ⟨gb640, _, none⟩) NB632_640.out _).trans (((cell_far (p := ⟨gb640, _, none⟩) NB632_640.out _).trans (hHeld.2.2))))))⟩ (fun hHeld => ?_)
   clear hK K
   refine done_ (done_of HT_.out (by kernel_rfl)) ?_
   have hnb39 := NB640_632.out
   have hnc39 := NB632_640.out
   have hnb40 := NB640_633.out
   have hnc40 := NB633_640.out
   have hcz41_0 : w33.cell? ⟨gb640, 0, none⟩ = some (.bool false) := (blk_cell BK640.out 0).trans rfl
   have hcz41_1 : w33.cell? ⟨gb640, 1, none⟩ = some (.slice none 0 0) := (blk_cell BK640.out 1).trans rfl
   have hcz41_2 : w33.cell? ⟨gb640, 2, none⟩ = some (.slice none 0 0) := (blk_cell BK640.out 2).trans rfl
   have hfz41_0 := blk_frozen BK640.out 0
   have hfz41_1 := blk_frozen BK640.out 1
   have hfz41_2 := blk_frozen BK640.out 2
   have hnb42 := NB633_632.out
   have hnc42 := NB632_633.out
   have hcz43_0 : w33.cell? ⟨gb633, 0, none⟩ = some (.bool false) := (blk_cell BK633.out 0).trans rfl
   have hcz43_1 : w33.cell? ⟨gb633, 1, none⟩ = some (.slice none 0 0) := (blk_cell BK633.out 1).trans rfl
   have hcz43_2 : w33.cell? ⟨gb633, 2, none⟩ = some (.slice none 0 0) := (blk_cell BK633.out 2).trans rfl
   have hfz43_0 := blk_frozen BK633.out 0
   have hfz43_1 := blk_frozen BK633.out 1
   have hfz43_2 := blk_frozen BK633.out 2
   try go_wp2
   refine bodyPost_ret (results_ct rfl _ _ gb633 24 #[.bool false, .slice none 0 0, .slice none 0 0] (0, 0) _ rfl (by (with_reducible repeat (first | refine blk_drewN ?_ _ | refine blk_drew ?_ | refine blk_alloc ?_ _)); refine blk_put (cs := #[.bool false, .slice none 0 0, .slice none 0 0]) ?_ 2 _ rfl; (with_reducible repeat (first | refine blk_drewN ?_ _ | refine blk_drew ?_ | refine blk_alloc ?_ _)); refine blk_put (cs := #[.bool false, .slice none 0 0, .slice none 0 0]) ?_ 1 _ rfl; (with_reducible repeat (first | refine blk_drewN ?_ _ | refine blk_drew ?_ | refine blk_alloc ?_ _)); refine blk_put (cs := #[.bool false, .slice none 0 0, .slice none 0 0]) ?_ 0 _ rfl; (with_reducible repeat (first | refine blk_drewN ?_ _ | refine blk_drew ?_ | refine blk_alloc ?_ _)); refine blk_far ?_ NB633_640.out _; (with_reducible repeat (first | refine blk_drewN ?_ _ | refine blk_drew ?_ | refine blk_alloc ?_ _)); refine blk_far ?_ NB633_640.out _; (with_reducible repeat (first | refine blk_drewN ?_ _ | refine blk_drew ?_ | refine blk_alloc ?_ _)); refine blk_far ?_ NB633_640.out _; (with_reducible repeat (first | refine blk_drewN ?_ _ | refine blk_drew ?_ | refine blk_alloc ?_ _)); exact BK633.out) Tryd.underlying24 rfl (by kernel_rfl)) rfl ?_
   exact ⟨_, _, zq9, by first | exact Kd.R_nil _ _ _ _ _ | exact Kd.N_nil _ _ _ _ _ | exact Kd.V_nil _ _ _ _ _ | exact Kd.Q_nil _ _ _ _ _ | exact Kd.S_nil _ _ _ _ _, by first | exact Kd.R_nil _ _ _ _ _ | exact Kd.N_nil _ _ _ _ _ | exact Kd.V_nil _ _ _ _ _ | exact Kd.Q_nil _ _ _ _ _ | exact Kd.S_nil _ _ _ _ _, zb3 GE632.out GE633.out GE640.out⟩
  ·rw [if_neg c24] at H
   have c24b0 : decide (128 < (t637.length : Int)) = false := decide_eq_false c24
   have c24b1 : decide (128 < t637.length) = false := decide_eq_false (by omega)
   clear c24
   simp only [Option.some.injEq, Prod.mk.injEq] at H
   obtain ⟨rfl, rfl, rfl, rfl⟩ := H
   go_enter Tryd.func59, Tryd.ntmps59
   try go_wp2_with (first | ((with_reducible refine gate_dst (N := 1) rfl ?_); (try (refine gate_guard (by rfl) ?_; dsimp only)); refine box_event ?hg (N := 1) ?hd (cs := #[.bool a0_0, .slice A0_1 l0_1.length c0_1, .slice A0_2 l0_2.length c0_2]) (t := 41) ?hr ?_; (case hd => rfl); (case hg => rfl); (case hr => exact zr); intro gb632 hg w44 hbox hb; have n0_ := am (below_step zq1 hb); have n1_ := am (hbox); have n2_ := am ((by rw [hg]; exact (below_size zq1) : w.heap.size ≤ gb632)); have n3_ := am ((by rw [hg]; exact (below_size zq1) : w.heap.size ≤ gb632)); clear HB; have HB := n0_; have BK632 := n1_; have GW632 := n2_; have GE632 := n3_; clear n0_ n1_ n2_ n3_; clear hb hbox hg) | ((with_reducible refine gate_dst (N := 2) rfl ?_); (try (refine gate_guard (by rfl) ?_; dsimp only)); refine box_event ?hg (N := 2) ?hd (cs := #[.bool false, .slice none 0 0, .slice none 0 0]) (t := 24) ?hr ?_; (case hd => rfl); (case hg => rfl); (case hr => exact zr); intro gb633 hg w45 hbox hb; have n0_ := am (blk_below (g := gb632) (o := .cells #[.bool a0_0, .slice A0_1 l0_1.length c0_1, .slice A0_2 l0_2.length c0_2] 41 (0, 0)) (zq2 BK632.out) hb); have n1_ := am (below_step (zb1 GE632.out) hb); have n2_ := am (hbox); have n3_ := am ((by rw [hg]; exact (below_size (zb1 GE632.out)) : w.heap.size ≤ gb633)); have n4_ := am ((by rw [hg]; exact (below_size (zb1 GE632.out)) : w.heap.size ≤ gb633)); have n5_ := am ((by rw [hg]; exact Nat.ne_of_lt (blk_lt (g := gb632) (o := .cells #[.bool a0_0, .slice A0_1 l0_1.length c0_1, .slice A0_2 l0_2.length c0_2] 41 (0, 0)) (zq2 BK632.out)) : gb632 ≠ gb633)); have n6_ := am ((by rw [hg]; exact Nat.ne_of_gt (blk_lt (g := gb632) (o := .cells #[.bool a0_0, .slice A0_1 l0_1.length c0_1, .slice A0_2 l0_2.length c0_2] 41 (0, 0)) (zq2 BK632.out)) : gb633 ≠ gb632)); clear BK632 HB; have BK632 := n0_; have HB := n1_; have BK633 := n2_; have GW633 := n3_; have GE633 := n4_; have NB632_633 := n5_; have NB633_632 := n6_; clear n0_ n1_ n2_ n3_ n4_ n5_ n6_; clear hb hbox hg))
   have n0_ := am (blk_drew BK632.out)
   have n1_ := am (blk_drew BK633.out)
   have n2_ := am (below_drew1 HB.out)
   clear BK632 BK633 HB
   have BK632 := n0_
   have BK633 := n1_
   have HB := n2_
   clear n0_ n1_ n2_
   refine start_ (n := 11) (S := fun w' => w'.cell? ⟨gb632, 0, none⟩ = some (.bool a0_0) ∧ w'.cell? ⟨gb632, 1, none⟩ = some (.slice A0_1 l0_1.length c0_1) ∧ w'.cell? ⟨gb632, 2, none⟩ = some (.slice A0_2 l0_2.length c0_2)) (ds := []) #[false, false, false, false, false, false, false, false, false, false, false] (by kernel_rfl) rfl rfl ⟨(blk_cell BK632.out 0).trans rfl, (blk_cell BK632.out 1).trans rfl, (blk_cell BK632.out 2).trans rfl⟩ (fun hHeld => ?_); refine with_tabW rf_Made.tab1 rf_Made.bits1 (fun HT_ HW_ => ?_)
   generalize w45.drew = w46 at BK632 BK633 HB hHeld ⊢
   refine pure_ (i := 0) (N := some 5) (v := ?_) (a' := ?_) #[true, false, false, false, false, false, false, false, false, false, false] rfl rfl (any_of HT_.out (by kernel_rfl)) (fun _ _ _ h => h) (Or.inl ⟨by rfl, ?_⟩) ?_ ?_
   rotate_left
   ·intro w'
    go_simp
    with_reducible rfl
   rotate_left
   ·simp only [Act.put, List.setIfInBounds_toArray, List.set_cons_zero, List.set_cons_succ, i64_w, i32_w]
    rfl
   refine pure_ (i := 2) (N := some 7) (v := ?_) (a' := ?_) #[true, false, true, false, false, false, false, false, false, false, false] rfl rfl (any_of HT_.out (by kernel_rfl)) (fun _ _ _ h => h) (Or.inl ⟨by rfl, ?_⟩) ?_ ?_
   rotate_left
   ·intro w'
    go_simp
    with_reducible rfl
   rotate_left
   ·simp only [Act.put, List.setIfInBounds_toArray, List.set_cons_zero, List.set_cons_succ, i64_w, i32_w]
    rfl
   refine pure_ (i := 5) (N := some 10) (v := ?_) (a' := ?_) #[true, false, true, false, false, true, false, false, false, false, false] rfl rfl (any_of HT_.out (by kernel_rfl)) (fun _ _ _ h => h) (Or.inl ⟨by rfl, ?_⟩) ?_ ?_
   rotate_left
   ·intro w'
    go_simp
    with_reducible rfl
   rotate_left
   ·simp only [Act.put, List.setIfInBounds_toArray, List.set_cons_zero, List.set_cons_succ, i64_w, i32_w]
    rfl
   refine take_ (i := 1) (N := some 6) (v := ?_) (a' := ?_) #[true, true, true, false, false, true, false, false, false, false, false] rfl rfl (take_ofW HT_.out HW_.out (by kernel_rfl)) (fun _ _ _ h => h) (Or.inl ⟨by rfl, ?_⟩) hHeld ?_ ?_
   rotate_left
   ·rintro w' ⟨s0, s1, s2⟩
    go_simp
    with_reducible rfl
   rotate_left
   ·simp only [Act.put, List.setIfInBounds_toArray, List.set_cons_zero, List.set_cons_succ, i64_w, i32_w]
    rfl
   refine take_ (i := 3) (N := some 8) (v := ?_) (a' := ?_) #[true, true, true, true, false, true, false, false, false, false, false] rfl rfl (take_ofW HT_.out HW_.out (by kernel_rfl)) (fun _ _ _ h => h) (Or.inl ⟨by rfl, ?_⟩) hHeld ?_ ?_
   rotate_left
   ·rintro w' ⟨s0, s1, s2⟩
    go_simp
    with_reducible rfl
   rotate_left
   ·simp only [Act.put, List.setIfInBounds_toArray, List.set_cons_zero, List.set_cons_succ, i64_w, i32_w]
    rfl
   refine take_ (i := 6) (N := some 11) (v := ?_) (a' := ?_) #[true, true, true, true, false, true, true, false, false, false, false] rfl rfl (take_ofW HT_.out HW_.out (by kernel_rfl)) (fun _ _ _ h => h) (Or.inl ⟨by rfl, ?_⟩) hHeld ?_ ?_
   rotate_left
   ·rintro w' ⟨s0, s1, s2⟩
    go_simp
    with_reducible rfl
   rotate_left
   ·simp only [Act.put, List.setIfInBounds_toArray, List.set_cons_zero, List.set_cons_succ, i64_w, i32_w]
    rfl
   refine join_ (σ := Value × Value × Nat) 1 #[true, true, true, true, true, true, true, true, true, true, false] (fun s_ => [(9, s_.1), (12, s_.2.1), (4, .pointer (some ⟨s_.2.2, 0, none⟩)), (13, .agg #[.bool a0_0, s_.1, s_.2.1])]) (fun s_ w' => (w'.cell? ⟨gb632, 0, none⟩ = some (.bool a0_0) ∧ w'.cell? ⟨gb632, 1, none⟩ = some (.slice A0_1 l0_1.length c0_1) ∧ w'.cell? ⟨gb632, 2, none⟩ = some (.slice A0_2 l0_2.length c0_2)) ∧ (Kd.R (Kd.int .u32) 55 w' w.heap.size (fun k_ => some k_ ≠ (s_.2.1 : Value).ownBlock) s_.1 t634) ∧ (Kd.R (Kd.int .u32) 55 w' w.heap.size (fun k_ => some k_ ≠ (s_.1 : Value).ownBlock) s_.2.1 t637) ∧ (w'.heap[gb632]? = some (.cells #[.bool a0_0, .slice A0_1 l0_1.length c0_1, .slice A0_2 l0_2.length c0_2] 41 (0, 0))) ∧ (w'.heap[gb633]? = some (.cells #[.bool false, .slice none 0 0, .slice none 0 0] 24 (0, 0))) ∧ (w'.heap[s_.2.2]? = some (.cells #[.bool false, .slice none 0 0, .slice none 0 0] 24 (0, 0))) ∧ (w.heap.size ≤ s_.2.2) ∧ (w.heap.size ≤ s_.2.2) ∧ (gb632 ≠ s_.2.2) ∧ (s_.2.2 ≠ gb632) ∧ (gb633 ≠ s_.2.2) ∧ (s_.2.2 ≠ gb633) ∧ (Below w.heap.size w w')) ?_ ?_
   rotate_left
   ·intro hCont
    refine two_ (i := 4) (j := 9) (Ni := some 9) (Nj := some 4) #[true, true, true, true, true, true, true, false, false, false, false] #[true, true, true, true, false, true, true, false, false, true, false] rfl rfl rfl rfl (two_of HT_.out (by kernel_rfl)) (by decide) (by decide) (fun K hK => ?_) (fun K hK => ?_)
    ·skip
     refine goes_ Tryd.func108 (by kernel_rfl) rfl #[.slice A0_1 l0_1.length c0_1] (by rfl) rfl rfl zq5 ?_
     with_reducible refine (rf_limbs.calls k _ _ l0_1 t634 _ ?side1 ?side2 A2.out).mono ?_
     (case side1 => exact zc (Kd.C_below HR0_1.out HB.out))
     (case side2 => exact HC0_1.out)
     rintro e w47 ⟨v635, rfl, ho0, hb⟩
     refine ⟨_, rfl, ?_⟩
     have n0_ := am (Kd.R_lower ho0 (below_size (zb2 GE632.out GE633.out)))
     have n1_ := am (blk_below (g := gb632) (o := .cells #[.bool a0_0, .slice A0_1 l0_1.length c0_1, .slice A0_2 l0_2.length c0_2] 41 (0, 0)) (zq2 BK632.out) hb)
     have n2_ := am (blk_below (g := gb633) (o := .cells #[.bool false, .slice none 0 0, .slice none 0 0] 24 (0, 0)) (zq2 BK633.out) hb)
     have n3_ := am (below_step (zb2 GE632.out GE633.out) hb)
     clear BK632 BK633 HB
     have HO636 := n0_
     have BK632 := n1_
     have BK633 := n2_
     have HB := n3_
     clear n0_ n1_ n2_ n3_
     (try clear hb)
     (try clear hb2)
     (try clear hk)
     (try clear hi)
     (try clear ho0)
     refine hK.out _ _ ⟨(blk_cell BK632.out 0).trans rfl, (blk_cell BK632.out 1).trans rfl, (blk_cell BK632.out 2).trans rfl⟩ (fun hHeld => ?_)
     clear hK K
     refine norm_ (a' := ?_) ?_ ?_
     rotate_left
     ·show Act.put _ (some 9) _ = _
      simp only [Act.put, List.setIfInBounds_toArray, List.set_cons_zero, List.set_cons_succ, i64_w, i32_w]
      rfl
     refine two_ (i := 7) (j := 9) (Ni := some 12) (Nj := some 4) #[true, true, true, true, true, true, true, true, false, false, false] #[true, true, true, true, true, true, true, false, false, true, false] rfl rfl rfl rfl (two_of HT_.out (by kernel_rfl)) (by decide) (by decide) (fun K hK => ?_) (fun K hK => ?_)
     ·skip
      refine goes_ Tryd.func108 (by kernel_rfl) rfl #[.slice A0_2 l0_2.length c0_2] (by rfl) rfl rfl zq5 ?_
      with_reducible refine (rf_limbs.calls k _ _ l0_2 t637 _ ?side1 ?side2 A3.out).mono ?_
      (case side1 => exact zc (Kd.C_below HR0_2.out HB.out))
      (case side2 => exact HC0_2.out)
      rintro e w48 ⟨v638, rfl, ho0, hb⟩
      refine ⟨_, rfl, ?_⟩
      have n0_ := am (Kd.R_elder' (zq4 HO636.out) (Kd.R_base ho0) hb)
      have n1_ := am (Kd.R_lower (Kd.R_new' ho0 (Kd.R_lt (zq4 HO636.out))) (below_size (zb2 GE632.out GE633.out)))
      have n2_ := am (blk_below (g := gb632) (o := .cells #[.bool a0_0, .slice A0_1 l0_1.length c0_1, .slice A0_2 l0_2.length c0_2] 41 (0, 0)) (zq2 BK632.out) hb)
      have n3_ := am (blk_below (g := gb633) (o := .cells #[.bool false, .slice none 0 0, .slice none 0 0] 24 (0, 0)) (zq2 BK633.out) hb)
      have n4_ := am (below_step (zb2 GE632.out GE633.out) hb)
      clear HO636 BK632 BK633 HB
      have HO636 := n0_
      have HO639 := n1_
      have BK632 := n2_
      have BK633 := n3_
      have HB := n4_
      clear n0_ n1_ n2_ n3_ n4_
      (try clear hb)
      (try clear hb2)
      (try clear hk)
      (try clear hi)
      (try clear ho0)
      obtain ⟨Ao49, co49, eo49⟩ := Kd.R_slice HO639.out
      (first | subst eo49 | (injection eo49 with f1_ f2_ f3_; have f4_ := f1_.symm; have f5_ := f3_.symm; clear f1_ f2_ f3_; subst f4_; subst f5_))
      obtain ⟨Ao50, co50, eo50⟩ := Kd.R_slice HO636.out
      (first | subst eo50 | (injection eo50 with f1_ f2_ f3_; have f4_ := f1_.symm; have f5_ := f3_.symm; clear f1_ f2_ f3_; subst f4_; subst f5_))
      refine hK.out _ _ ⟨(blk_cell BK632.out 0).trans rfl, (blk_cell BK632.out 1).trans rfl, (blk_cell BK632.out 2).trans rfl⟩ (fun hHeld => ?_)
      clear hK K
      refine norm_ (a' := ?_) ?_ ?_
      rotate_left
      ·show Act.put _ (some 12) _ = _
       simp only [Act.put, List.setIfInBounds_toArray, List.set_cons_zero, List.set_cons_succ, i64_w, i32_w]
       rfl
      refine pure_ (i := 8) (N := some 13) (v := ?_) (a' := ?_) #[true, true, true, true, true, true, true, true, true, false, false] rfl rfl (any_of HT_.out (by kernel_rfl)) (fun _ _ _ h => h) (Or.inl ⟨by rfl, ?_⟩) ?_ ?_
      rotate_left
      ·intro w'
       go_simp
       with_reducible rfl
      rotate_left
      ·simp only [Act.put, List.setIfInBounds_toArray, List.set_cons_zero, List.set_cons_succ, i64_w, i32_w]
       rfl
      refine one_ (i := 9) (N := some 4) #[true, true, true, true, true, true, true, true, true, true, false] rfl rfl (one_of HT_.out (by kernel_rfl)) (by decide) (fun K hK => ?_)
      refine box_step ?hg (N := 4) ?hd (cs := #[.bool false, .slice none 0 0, .slice none 0 0]) (t := 24) ?hr ?_; (case hd => rfl); (case hg => rfl); (case hr => exact zr)
      intro gb640 hg w51 hbox hb
      have n0_ := am (Kd.R_below (zq4 HO636.out) hb)
      have n1_ := am (Kd.R_below (zq4 HO639.out) hb)
      have n2_ := am (blk_below (g := gb632) (o := .cells #[.bool a0_0, .slice A0_1 l0_1.length c0_1, .slice A0_2 l0_2.length c0_2] 41 (0, 0)) (zq2 BK632.out) hb)
      have n3_ := am (blk_below (g := gb633) (o := .cells #[.bool false, .slice none 0 0, .slice none 0 0] 24 (0, 0)) (zq2 BK633.out) hb)
      have n4_ := am (below_step (zb2 GE632.out GE633.out) hb)
      have n5_ := am (hbox)
      have n6_ := am ((by rw [hg]; exact (below_size (zb2 GE632.out GE633.out)) : w.heap.size ≤ gb640))
      have n7_ := am ((by rw [hg]; exact (below_size (zb2 GE632.out GE633.out)) : w.heap.size ≤ gb640))
      have n8_ := am ((by rw [hg]; exact Nat.ne_of_lt (blk_lt (g := gb632) (o := .cells #[.bool a0_0, .slice A0_1 l0_1.length c0_1, .slice A0_2 l0_2.length c0_2] 41 (0, 0)) (zq2 BK632.out)) : gb632 ≠ gb640))
      have n9_ := am ((by rw [hg]; exact Nat.ne_of_gt (blk_lt (g := gb632) (o := .cells #[.bool a0_0, .slice A0_1 l0_1.length c0_1, .slice A0_2 l0_2.length c0_2] 41 (0, 0)) (zq2 BK632.out)) : gb640 ≠ gb632))
      have n10_ := am ((by rw [hg]; exact Nat.ne_of_lt (blk_lt (g := gb633) (o := .cells #[.bool false, .slice none 0 0, .slice none 0 0] 24 (0, 0)) (zq2 BK633.out)) : gb633 ≠ gb640))
      have n11_ := am ((by rw [hg]; exact Nat.ne_of_gt (blk_lt (g := gb633) (o := .cells #[.bool false, .slice none 0 0, .slice none 0 0] 24 (0, 0)) (zq2 BK633.out)) : gb640 ≠ gb633))
      clear HO636 HO639 BK632 BK633 HB
      have HO636 := n0_
      have HO639 := n1_
      have BK632 := n2_
      have BK633 := n3_
      have HB := n4_
      have BK640 := n5_
      have GW640 := n6_
      have GE640 := n7_
      have NB632_640 := n8_
      have NB640_632 := n9_
      have NB633_640 := n10_
      have NB640_633 := n11_
      clear n0_ n1_ n2_ n3_ n4_ n5_ n6_ n7_ n8_ n9_ n10_ n11_ hb hbox hg
      refine hK.out _ _ ⟨(blk_cell BK632.out 0).trans rfl, (blk_cell BK632.out 1).trans rfl, (blk_cell BK632.out 2).trans rfl⟩ (fun hHeld => ?_)
      clear hK K
      refine norm_ (a' := ?_) ?_ ?_
      rotate_left
      ·show Act.put _ (some 4) _ = _
       simp only [Act.put, List.setIfInBounds_toArray, List.set_cons_zero, List.set_cons_succ, i64_w, i32_w]
       rfl
      exact norm_ (by simp only [putAll, Act.put, List.setIfInBounds_toArray, List.set_cons_zero, List.set_cons_succ]) (hCont (.slice Ao50 t634.length co50, .slice Ao49 t637.length co49, gb640) _ ⟨hHeld, (by (with_reducible repeat (first | apply Kd.R_alloc | apply Kd.R_drewN | apply Kd.R_drew)); exact Kd.R_mono HO636.out (fun _ hk => hk.2)), (by (with_reducible repeat (first | apply Kd.R_alloc | apply Kd.R_drewN | apply Kd.R_drew)); exact Kd.R_mono HO639.out (fun _ hk => hk.2)), (zq2 BK632.out), (zq2 BK633.out), (zq2 BK640.out), GW640.out, GE640.out, NB632_640.out, NB640_632.out, NB633_640.out, NB640_633.out, (zb3 GE632.out GE633.out GE640.out)⟩)
     ·skip
      refine box_step ?hg (N := 4) ?hd (cs := #[.bool false, .slice none 0 0, .slice none 0 0]) (t := 24) ?hr ?_; (case hd => rfl); (case hg => rfl); (case hr => exact zr)
      intro gb640 hg w48 hbox hb
      have n0_ := am (Kd.R_below (zq4 HO636.out) hb)
      have n1_ := am (blk_below (g := gb632) (o := .cells #[.bool a0_0, .slice A0_1 l0_1.length c0_1, .slice A0_2 l0_2.length c0_2] 41 (0, 0)) (zq2 BK632.out) hb)
      have n2_ := am (blk_below (g := gb633) (o := .cells #[.bool false, .slice none 0 0, .slice none 0 0] 24 (0, 0)) (zq2 BK633.out) hb)
      have n3_ := am (below_step (zb2 GE632.out GE633.out) hb)
      have n4_ := am (hbox)
      have n5_ := am ((by rw [hg]; exact (below_size (zb2 GE632.out GE633.out)) : w.heap.size ≤ gb640))
      have n6_ := am ((by rw [hg]; exact (below_size (zb2 GE632.out GE633.out)) : w.heap.size ≤ gb640))
      have n7_ := am ((by rw [hg]; exact Nat.ne_of_lt (blk_lt (g := gb632) (o := .cells #[.bool a0_0, .slice A0_1 l0_1.length c0_1, .slice A0_2 l0_2.length c0_2] 41 (0, 0)) (zq2 BK632.out)) : gb632 ≠ gb640))
      have n8_ := am ((by rw [hg]; exact Nat.ne_of_gt (blk_lt (g := gb632) (o := .cells #[.bool a0_0, .slice A0_1 l0_1.length c0_1, .slice A0_2 l0_2.length c0_2] 41 (0, 0)) (zq2 BK632.out)) : gb640 ≠ gb632))
      have n9_ := am ((by rw [hg]; exact Nat.ne_of_lt (blk_lt (g := gb633) (o := .cells #[.bool false, .slice none 0 0, .slice none 0 0] 24 (0, 0)) (zq2 BK633.out)) : gb633 ≠ gb640))
      have n10_ := am ((by rw [hg]; exact Nat.ne_of_gt (blk_lt (g := gb633) (o := .cells #[.bool false, .slice none 0 0, .slice none 0 0] 24 (0, 0)) (zq2 BK633.out)) : gb640 ≠ gb633))
      clear HO636 BK632 BK633 HB
      have HO636 := n0_
      have BK632 := n1_
      have BK633 := n2_
      have HB := n3_
      have BK640 := n4_
      have GW640 := n5_
      have GE640 := n6_
      have NB632_640 := n7_
      have NB640_632 := n8_
      have NB633_640 := n9_
      have NB640_633 := n10_
      clear n0_ n1_ n2_ n3_ n4_ n5_ n6_ n7_ n8_ n9_ n10_ hb hbox hg
      refine hK.out _ _ ⟨(blk_cell BK632.out 0).trans rfl, (blk_cell BK632.out 1).trans rfl, (blk_cell BK632.out 2).trans rfl⟩ (fun hHeld => ?_)
      clear hK K
      refine norm_ (a' := ?_) ?_ ?_
      rotate_left
      ·show Act.put _ (some 4) _ = _
       simp only [Act.put, List.setIfInBounds_toArray, List.set_cons_zero, List.set_cons_succ, i64_w, i32_w]
       rfl
      refine one_ (i := 7) (N := some 12) #[true, true, true, true, true, true, true, true, false, true, false] rfl rfl (one_of HT_.out (by kernel_rfl)) (by decide) (fun K hK => ?_)
      refine goes_ Tryd.func108 (by kernel_rfl) rfl #[.slice A0_2 l0_2.length c0_2] (by rfl) rfl rfl zq5 ?_
      with_reducible refine (rf_limbs.calls k _ _ l0_2 t637 _ ?side1 ?side2 A3.out).mono ?_
      (case side1 => exact zc (Kd.C_below HR0_2.out HB.out))
      (case side2 => exact HC0_2.out)
      rintro e w49 ⟨v638, rfl, ho0, hb⟩
      refine ⟨_, rfl, ?_⟩
      have n0_ := am (Kd.R_elder' (zq4 HO636.out) (Kd.R_base ho0) hb)
      have n1_ := am (Kd.R_lower (Kd.R_new' ho0 (Kd.R_lt (zq4 HO636.out))) (below_size (zb3 GE632.out GE633.out GE640.out)))
      have n2_ := am (blk_below (g := gb632) (o := .cells #[.bool a0_0, .slice A0_1 l0_1.length c0_1, .slice A0_2 l0_2.length c0_2] 41 (0, 0)) (zq2 BK632.out) hb)
      have n3_ := am (blk_below (g := gb633) (o := .cells #[.bool false, .slice none 0 0, .slice none 0 0] 24 (0, 0)) (zq2 BK633.out) hb)
      have n4_ := am (blk_below (g := gb640) (o := .cells #[.bool false, .slice none 0 0, .slice none 0 0] 24 (0, 0)) (zq2 BK640.out) hb)
      have n5_ := am (below_step (zb3 GE632.out GE633.out GE640.out) hb)
      clear HO636 BK632 BK633 BK640 HB
      have HO636 := n0_
      have HO639 := n1_
      have BK632 := n2_
      have BK633 := n3_
      have BK640 := n4_
      have HB := n5_
      clear n0_ n1_ n2_ n3_ n4_ n5_
      (try clear hb)
      (try clear hb2)
      (try clear hk)
      (try clear hi)
      (try clear ho0)
      obtain ⟨Ao50, co50, eo50⟩ := Kd.R_slice HO639.out
      (first | subst eo50 | (injection eo50 with f1_ f2_ f3_; have f4_ := f1_.symm; have f5_ := f3_.symm; clear f1_ f2_ f3_; subst f4_; subst f5_))
      obtain ⟨Ao51, co51, eo51⟩ := Kd.R_slice HO636.out
      (first | subst eo51 | (injection eo51 with f1_ f2_ f3_; have f4_ := f1_.symm; have f5_ := f3_.symm; clear f1_ f2_ f3_; subst f4_; subst f5_))
      refine hK.out _ _ ⟨(blk_cell BK632.out 0).trans rfl, (blk_cell BK632.out 1).trans rfl, (blk_cell BK632.out 2).trans rfl⟩ (fun hHeld => ?_)
      clear hK K
      refine norm_ (a' := ?_) ?_ ?_
      rotate_left
      ·show Act.put _ (some 12) _ = _
       simp only [Act.put, List.setIfInBounds_toArray, List.set_cons_zero, List.set_cons_succ, i64_w, i32_w]
       rfl
      refine pure_ (i := 8) (N := some 13) (v := ?_) (a' := ?_) #[true, true, true, true, true, true, true, true, true, true, false] rfl rfl (any_of HT_.out (by kernel_rfl)) (fun _ _ _ h => h) (Or.inl ⟨by rfl, ?_⟩) ?_ ?_
      rotate_left
      ·intro w'
       go_simp
       with_reducible rfl
      rotate_left
      ·simp only [Act.put, List.setIfInBounds_toArray, List.set_cons_zero, List.set_cons_succ, i64_w, i32_w]
       rfl
      exact norm_ (by simp only [putAll, Act.put, List.setIfInBounds_toArray, List.set_cons_zero, List.set_cons_succ]) (hCont (.slice Ao51 t634.length co51, .slice Ao50 t637.length co50, gb640) _ ⟨hHeld, (by (with_reducible repeat (first | apply Kd.R_alloc | apply Kd.R_drewN | apply Kd.R_drew)); exact Kd.R_mono HO636.out (fun _ hk => hk.2)), (by (with_reducible repeat (first | apply Kd.R_alloc | apply Kd.R_drewN | apply Kd.R_drew)); exact Kd.R_mono HO639.out (fun _ hk => hk.2)), (zq2 BK632.out), (zq2 BK633.out), (zq2 BK640.out), GW640.out, GE640.out, NB632_640.out, NB640_632.out, NB633_640.out, NB640_633.out, (zb3 GE632.out GE633.out GE640.out)⟩)
    ·skip
     refine box_step ?hg (N := 4) ?hd (cs := #[.bool false, .slice none 0 0, .slice none 0 0]) (t := 24) ?hr ?_; (case hd => rfl); (case hg => rfl); (case hr => exact zr)
     intro gb640 hg w47 hbox hb
     have n0_ := am (blk_below (g := gb632) (o := .cells #[.bool a0_0, .slice A0_1 l0_1.length c0_1, .slice A0_2 l0_2.length c0_2] 41 (0, 0)) (zq2 BK632.out) hb)
     have n1_ := am (blk_below (g := gb633) (o := .cells #[.bool false, .slice none 0 0, .slice none 0 0] 24 (0, 0)) (zq2 BK633.out) hb)
     have n2_ := am (below_step (zb2 GE632.out GE633.out) hb)
     have n3_ := am (hbox)
     have n4_ := am ((by rw [hg]; exact (below_size (zb2 GE632.out GE633.out)) : w.heap.size ≤ gb640))
     have n5_ := am ((by rw [hg]; exact (below_size (zb2 GE632.out GE633.out)) : w.heap.size ≤ gb640))
     have n6_ := am ((by rw [hg]; exact Nat.ne_of_lt (blk_lt (g := gb632) (o := .cells #[.bool a0_0, .slice A0_1 l0_1.length c0_1, .slice A0_2 l0_2.length c0_2] 41 (0, 0)) (zq2 BK632.out)) : gb632 ≠ gb640))
     have n7_ := am ((by rw [hg]; exact Nat.ne_of_gt (blk_lt (g := gb632) (o := .cells #[.bool a0_0, .slice A0_1 l0_1.length c0_1, .slice A0_2 l0_2.length c0_2] 41 (0, 0)) (zq2 BK632.out)) : gb640 ≠ gb632))
     have n8_ := am ((by rw [hg]; exact Nat.ne_of_lt (blk_lt (g := gb633) (o := .cells #[.bool false, .slice none 0 0, .slice none 0 0] 24 (0, 0)) (zq2 BK633.out)) : gb633 ≠ gb640))
     have n9_ := am ((by rw [hg]; exact Nat.ne_of_gt (blk_lt (g := gb633) (o := .cells #[.bool false, .slice none 0 0, .slice none 0 0] 24 (0, 0)) (zq2 BK633.out)) : gb640 ≠ gb633))
     clear BK632 BK633 HB
     have BK632 := n0_
     have BK633 := n1_
     have HB := n2_
     have BK640 := n3_
     have GW640 := n4_
     have GE640 := n5_
     have NB632_640 := n6_
     have NB640_632 := n7_
     have NB633_640 := n8_
     have NB640_633 := n9_
     clear n0_ n1_ n2_ n3_ n4_ n5_ n6_ n7_ n8_ n9_ hb hbox hg
     refine hK.out _ _ ⟨(blk_cell BK632.out 0).trans rfl, (blk_cell BK632.out 1).trans rfl, (blk_cell BK632.out 2).trans rfl⟩ (fun hHeld => ?_)
     clear hK K
     refine norm_ (a' := ?_) ?_ ?_
     rotate_left
     ·show Act.put _ (some 4) _ = _
      simp only [Act.put, List.setIfInBounds_toArray, List.set_cons_zero, List.set_cons_succ, i64_w, i32_w]
      rfl
     refine one_ (i := 4) (N := some 9) #[true, true, true, true, true, true, true, false, false, true, false] rfl rfl (one_of HT_.out (by kernel_rfl)) (by decide) (fun K hK => ?_)
     refine goes_ Tryd.func108 (by kernel_rfl) rfl #[.slice A0_1 l0_1.length c0_1] (by rfl) rfl rfl zq5 ?_
     with_reducible refine (rf_limbs.calls k _ _ l0_1 t634 _ ?side1 ?side2 A2.out).mono ?_
     (case side1 => exact zc (Kd.C_below HR0_1.out HB.out))
     (case side2 => exact HC0_1.out)
     rintro e w48 ⟨v635, rfl, ho0, hb⟩
     refine ⟨_, rfl, ?_⟩
     have n0_ := am (Kd.R_lower ho0 (below_size (zb3 GE632.out GE633.out GE640.out)))
     have n1_ := am (blk_below (g := gb632) (o := .cells #[.bool a0_0, .slice A0_1 l0_1.length c0_1, .slice A0_2 l0_2.length c0_2] 41 (0, 0)) (zq2 BK632.out) hb)
     have n2_ := am (blk_below (g := gb633) (o := .cells #[.bool false, .slice none 0 0, .slice none 0 0] 24 (0, 0)) (zq2 BK633.out) hb)
     have n3_ := am (blk_below (g := gb640) (o := .cells #[.bool false, .slice none 0 0, .slice none 0 0] 24 (0, 0)) (zq2 BK640.out) hb)
     have n4_ := am (below_step (zb3 GE632.out GE633.out GE640.out) hb)
     clear BK632 BK633 BK640 HB
     have HO636 := n0_
     have BK632 := n1_
     have BK633 := n2_
     have BK640 := n3_
     have HB := n4_
     clear n0_ n1_ n2_ n3_ n4_
     (try clear hb)
     (try clear hb2)
     (try clear hk)
     (try clear hi)
     (try clear ho0)
     refine hK.out _ _ ⟨(blk_cell BK632.out 0).trans rfl, (blk_cell BK632.out 1).trans rfl, (blk_cell BK632.out 2).trans rfl⟩ (fun hHeld => ?_)
     clear hK K
     refine norm_ (a' := ?_) ?_ ?_
     rotate_left
     ·show Act.put _ (some 9) _ = _
      simp only [Act.put, List.setIfInBounds_toArray, List.set_cons_zero, List.set_cons_succ, i64_w, i32_w]
      rfl
     refine one_ (i := 7) (N := some 12) #[true, true, true, true, true, true, true, true, false, true, false] rfl rfl (one_of HT_.out (by kernel_rfl)) (by decide) (fun K hK => ?_)
     refine goes_ Tryd.func108 (by kernel_rfl) rfl #[.slice A0_2 l0_2.length c0_2] (by rfl) rfl rfl zq5 ?_
     with_reducible refine (rf_limbs.calls k _ _ l0_2 t637 _ ?side1 ?side2 A3.out).mono ?_
     (case side1 => exact zc (Kd.C_below HR0_2.out HB.out))
     (case side2 => exact HC0_2.out)
     rintro e w49 ⟨v638, rfl, ho0, hb⟩
     refine ⟨_, rfl, ?_⟩
     have n0_ := am (Kd.R_elder' (zq4 HO636.out) (Kd.R_base ho0) hb)
     have n1_ := am (Kd.R_lower (Kd.R_new' ho0 (Kd.R_lt (zq4 HO636.out))) (below_size (zb3 GE632.out GE633.out GE640.out)))
     have n2_ := am (blk_below (g := gb632) (o := .cells #[.bool a0_0, .slice A0_1 l0_1.length c0_1, .slice A0_2 l0_2.length c0_2] 41 (0, 0)) (zq2 BK632.out) hb)
     have n3_ := am (blk_below (g := gb633) (o := .cells #[.bool false, .slice none 0 0, .slice none 0 0] 24 (0, 0)) (zq2 BK633.out) hb)
     have n4_ := am (blk_below (g := gb640) (o := .cells #[.bool false, .slice none 0 0, .slice none 0 0] 24 (0, 0)) (zq2 BK640.out) hb)
     have n5_ := am (below_step (zb3 GE632.out GE633.out GE640.out) hb)
     clear HO636 BK632 BK633 BK640 HB
     have HO636 := n0_
     have HO639 := n1_
     have BK632 := n2_
     have BK633 := n3_
     have BK640 := n4_
     have HB := n5_
     clear n0_ n1_ n2_ n3_ n4_ n5_
     (try clear hb)
     (try clear hb2)
     (try clear hk)
     (try clear hi)
     (try clear ho0)
     obtain ⟨Ao50, co50, eo50⟩ := Kd.R_slice HO639.out
     (first | subst eo50 | (injection eo50 with f1_ f2_ f3_; have f4_ := f1_.symm; have f5_ := f3_.symm; clear f1_ f2_ f3_; subst f4_; subst f5_))
     obtain ⟨Ao51, co51, eo51⟩ := Kd.R_slice HO636.out
     (first | subst eo51 | (injection eo51 with f1_ f2_ f3_; have f4_ := f1_.symm; have f5_ := f3_.symm; clear f1_ f2_ f3_; subst f4_; subst f5_))
     refine hK.out _ _ ⟨(blk_cell BK632.out 0).trans rfl, (blk_cell BK632.out 1).trans rfl, (blk_cell BK632.out 2).trans rfl⟩ (fun hHeld => ?_)
     clear hK K
     refine norm_ (a' := ?_) ?_ ?_
     rotate_left
     ·show Act.put _ (some 12) _ = _
      simp only [Act.put, List.setIfInBounds_toArray, List.set_cons_zero, List.set_cons_succ, i64_w, i32_w]
      rfl
     refine pure_ (i := 8) (N := some 13) (v := ?_) (a' := ?_) #[true, true, true, true, true, true, true, true, true, true, false] rfl rfl (any_of HT_.out (by kernel_rfl)) (fun _ _ _ h => h) (Or.inl ⟨by rfl, ?_⟩) ?_ ?_
     rotate_left
     ·intro w'
      go_simp
      with_reducible rfl
     rotate_left
     ·simp only [Act.put, List.setIfInBounds_toArray, List.set_cons_zero, List.set_cons_succ, i64_w, i32_w]
      rfl
     exact norm_ (by simp only [putAll, Act.put, List.setIfInBounds_toArray, List.set_cons_zero, List.set_cons_succ]) (hCont (.slice Ao51 t634.length co51, .slice Ao50 t637.length co50, gb640) _ ⟨hHeld, (by (with_reducible repeat (first | apply Kd.R_alloc | apply Kd.R_drewN | apply Kd.R_drew)); exact Kd.R_mono HO636.out (fun _ hk => hk.2)), (by (with_reducible repeat (first | apply Kd.R_alloc | apply Kd.R_drewN | apply Kd.R_drew)); exact Kd.R_mono HO639.out (fun _ hk => hk.2)), (zq2 BK632.out), (zq2 BK633.out), (zq2 BK640.out), GW640.out, GE640.out, NB632_640.out, NB640_632.out, NB633_640.out, NB640_633.out, (zb3 GE632.out GE633.out GE640.out)⟩)
   rintro ⟨v635, v638, gb640⟩ w52 ⟨hS_, h0_, h1_, h2_, h3_, h4_, h5_, h6_, h7_, h8_, h9_, h10_, h11_⟩
   have n0_ : Aside0 (Kd.R (Kd.int .u32) 55 w52 w.heap.size (fun k_ => some k_ ≠ (v638 : Value).ownBlock) v635 t634) := ⟨h0_⟩
   have n1_ : Aside0 (Kd.R (Kd.int .u32) 55 w52 w.heap.size (fun k_ => some k_ ≠ (v635 : Value).ownBlock) v638 t637) := ⟨h1_⟩
   have n2_ : Aside0 (w52.heap[gb632]? = some (.cells #[.bool a0_0, .slice A0_1 l0_1.length c0_1, .slice A0_2 l0_2.length c0_2] 41 (0, 0))) := ⟨h2_⟩
   have n3_ : Aside0 (w52.heap[gb633]? = some (.cells #[.bool false, .slice none 0 0, .slice none 0 0] 24 (0, 0))) := ⟨h3_⟩
   have n4_ : Aside0 (w52.heap[gb640]? = some (.cells #[.bool false, .slice none 0 0, .slice none 0 0] 24 (0, 0))) := ⟨h4_⟩
   have n5_ : Aside0 (w.heap.size ≤ gb640) := ⟨h5_⟩
   have n6_ : Aside0 (w.heap.size ≤ gb640) := ⟨h6_⟩
   have n7_ : Aside0 (gb632 ≠ gb640) := ⟨h7_⟩
   have n8_ : Aside0 (gb640 ≠ gb632) := ⟨h8_⟩
   have n9_ : Aside0 (gb633 ≠ gb640) := ⟨h9_⟩
   have n10_ : Aside0 (gb640 ≠ gb633) := ⟨h10_⟩
   have n11_ : Aside0 (Below w.heap.size w w52) := ⟨h11_⟩
   clear BK632 BK633 HB h0_ h1_ h2_ h3_ h4_ h5_ h6_ h7_ h8_ h9_ h10_ h11_
   have HO636 := n0_
   have HO639 := n1_
   have BK632 := n2_
   have BK633 := n3_
   have BK640 := n4_
   have GW640 := n5_
   have GE640 := n6_
   have NB632_640 := n7_
   have NB640_632 := n8_
   have NB633_640 := n9_
   have NB640_633 := n10_
   have HB := n11_
   clear n0_ n1_ n2_ n3_ n4_ n5_ n6_ n7_ n8_ n9_ n10_ n11_
   have hHeld : w52.cell? ⟨gb632, 0, none⟩ = some (.bool a0_0) ∧ w52.cell? ⟨gb632, 1, none⟩ = some (.slice A0_1 l0_1.length c0_1) ∧ w52.cell? ⟨gb632, 2, none⟩ = some (.slice A0_2 l0_2.length c0_2) := hS_
   obtain ⟨Ao53, co53, eo53⟩ := Kd.R_slice HO639.out
   (first | subst eo53 | (injection eo53 with f1_ f2_ f3_; have f4_ := f1_.symm; have f5_ := f3_.symm; clear f1_ f2_ f3_; subst f4_; subst f5_))
   obtain ⟨Ao54, co54, eo54⟩ := Kd.R_slice HO636.out
   (first | subst eo54 | (injection eo54 with f1_ f2_ f3_; have f4_ := f1_.symm; have f5_ := f3_.symm; clear f1_ f2_ f3_; subst f4_; subst f5_))
   refine norm_ (a' := ?_) ?_ ?_
   rotate_left
   ·simp only [putAll, Act.put, List.setIfInBounds_toArray, List.set_cons_zero, List.set_cons_succ]
    rfl
   refine one_ (i := 10) (N := none) #[true, true, true, true, true, true, true, true, true, true, true] rfl rfl (one_of HT_.out (by kernel_rfl)) (by decide) (fun K hK => ?_)
   have hs55 : w52.cell? ⟨gb640, 0, none⟩ = some (.bool false) := (blk_cell BK640.out 0).trans rfl
   have hfs55 := blk_frozen BK640.out 0
   have hns55_0 := NB632_640.out
   have hns55_1 := NB633_640.out
   have hms55_0 := NB640_632.out
   have hms55_1 := NB640_633.out
   have hs56 : w52.cell? ⟨gb640, 1, none⟩ = some (.slice none 0 0) := (blk_cell BK640.out 1).trans rfl
   have hfs56 := blk_frozen BK640.out 1
   have hns56_0 := NB632_640.out
   have hns56_1 := NB633_640.out
   have hms56_0 := NB640_632.out
   have hms56_1 := NB640_633.out
   have hs57 : w52.cell? ⟨gb640, 2, none⟩ = some (.slice none 0 0) := (blk_cell BK640.out 2).trans rfl
   have hfs57 := blk_frozen BK640.out 2
   have hns57_0 := NB632_640.out
   have hns57_1 := NB633_640.out
   have hms57_0 := NB640_632.out
   have hms57_1 := NB640_633.out
   refine skip_ (w1 := ?_) (by rfl) rfl ?_ ?_
   rotate_left
   ·go_simp
    rfl
   refine hK.out _ _ ⟨((cell_far (p := ⟨gb640, _, none⟩) NB632_640.out _).trans (((cell_far (p := ⟨gb640, _, none⟩) NB632_640.out _).trans (((cell_far (p := ⟨gb640, _, none⟩) NB632_640.out _).trans (hHeld.1)))))), ((cell_far (p := ⟨gb640, _, none⟩) NB632_640.out _).trans (((cell_far (p := ⟨gb640, _, none⟩) NB632_640.out _).trans (((cell_far (p := ⟨gb640, _, none⟩) NB632_640.out _).trans (hHeld.2.1)))))), ((cell_far (p := ⟨gb640, _, none⟩) NB632_640.out _).trans (((cell_far (p := ⟨gb640, _, none⟩) NB632_640.out _).trans (((cell_far (p := ⟨gb640, _, none⟩) NB632_640.out _).trans (hHeld.2.2))))))⟩ (fun hHeld => ?_)
   clear hK K
   refine done_ (done_of HT_.out (by kernel_rfl)) ?_
   have hnb58 := NB640_632.out
   have hnc58 := NB632_640.out
   have hnb59 := NB640_633.out
   have hnc59 := NB633_640.out
   have hcz60_0 : w52.cell? ⟨gb640, 0, none⟩ = some (.bool false) := (blk_cell BK640.out 0).trans rfl
   have hcz60_1 : w52.cell? ⟨gb640, 1, none⟩ = some (.slice none 0 0) := (blk_cell BK640.out 1).trans rfl
   have hcz60_2 : w52.cell? ⟨gb640, 2, none⟩ = some (.slice none 0 0) := (blk_cell BK640.out 2).trans rfl
   have hfz60_0 := blk_frozen BK640.out 0
   have hfz60_1 := blk_frozen BK640.out 1
   have hfz60_2 := blk_frozen BK640.out 2
   have hnb61 := NB633_632.out
   have hnc61 := NB632_633.out
   have hcz62_0 : w52.cell? ⟨gb633, 0, none⟩ = some (.bool false) := (blk_cell BK633.out 0).trans rfl
   have hcz62_1 : w52.cell? ⟨gb633, 1, none⟩ = some (.slice none 0 0) := (blk_cell BK633.out 1).trans rfl
   have hcz62_2 : w52.cell? ⟨gb633, 2, none⟩ = some (.slice none 0 0) := (blk_cell BK633.out 2).trans rfl
   have hfz62_0 := blk_frozen BK633.out 0
   have hfz62_1 := blk_frozen BK633.out 1
   have hfz62_2 := blk_frozen BK633.out 2
   try go_wp2
   refine bodyPost_ret (results_ct rfl _ _ gb633 24 #[.bool a0_0, .slice Ao54 t634.length co54, .slice Ao53 t637.length co53] (0, 0) _ rfl (by (with_reducible repeat (first | refine blk_drewN ?_ _ | refine blk_drew ?_ | refine blk_alloc ?_ _)); refine blk_put (cs := #[.bool a0_0, .slice Ao54 t634.length co54, .slice none 0 0]) ?_ 2 _ rfl; (with_reducible repeat (first | refine blk_drewN ?_ _ | refine blk_drew ?_ | refine blk_alloc ?_ _)); refine blk_put (cs := #[.bool a0_0, .slice none 0 0, .slice none 0 0]) ?_ 1 _ rfl; (with_reducible repeat (first | refine blk_drewN ?_ _ | refine blk_drew ?_ | refine blk_alloc ?_ _)); refine blk_put (cs := #[.bool false, .slice none 0 0, .slice none 0 0]) ?_ 0 _ rfl; (with_reducible repeat (first | refine blk_drewN ?_ _ | refine blk_drew ?_ | refine blk_alloc ?_ _)); refine blk_far ?_ NB633_640.out _; (with_reducible repeat (first | refine blk_drewN ?_ _ | refine blk_drew ?_ | refine blk_alloc ?_ _)); refine blk_far ?_ NB633_640.out _; (with_reducible repeat (first | refine blk_drewN ?_ _ | refine blk_drew ?_ | refine blk_alloc ?_ _)); refine blk_far ?_ NB633_640.out _; (with_reducible repeat (first | refine blk_drewN ?_ _ | refine blk_drew ?_ | refine blk_alloc ?_ _)); exact BK633.out) Tryd.underlying24 rfl (by kernel_rfl)) rfl ?_
   exact ⟨_, _, zq9, by (with_reducible repeat (first | apply Kd.R_alloc | apply Kd.R_drewN | apply Kd.R_drew)); exact Kd.R_mono (Kd.R_far (p := ⟨gb633, 2, none⟩) (Kd.R_far (p := ⟨gb633, 1, none⟩) (Kd.R_far (p := ⟨gb633, 0, none⟩) (Kd.R_far (p := ⟨gb640, 2, none⟩) (Kd.R_far (p := ⟨gb640, 1, none⟩) (Kd.R_far (p := ⟨gb640, 0, none⟩) (Kd.R_types (Kd.R_types HO636.out BK640.out (by decide)) BK633.out (by decide)) (fun _ hk => hk.1.2) (.bool a0_0)) (fun _ hk => hk.1.2) (.slice Ao54 t634.length co54)) (fun _ hk => hk.1.2) (.slice Ao53 t637.length co53)) (fun _ hk => hk.2) (.bool a0_0)) (fun _ hk => hk.2) (.slice Ao54 t634.length co54)) (fun _ hk => hk.2) (.slice Ao53 t637.length co53)) (fun _ hk => hk.1.1), by (with_reducible repeat (first | apply Kd.R_alloc | apply Kd.R_drewN | apply Kd.R_drew)); exact Kd.R_mono (Kd.R_far (p := ⟨gb633, 2, none⟩) (Kd.R_far (p := ⟨gb633, 1, none⟩) (Kd.R_far (p := ⟨gb633, 0, none⟩) (Kd.R_far (p := ⟨gb640, 2, none⟩) (Kd.R_far (p := ⟨gb640, 1, none⟩) (Kd.R_far (p := ⟨gb640, 0, none⟩) (Kd.R_types (Kd.R_types HO639.out BK640.out (by decide)) BK633.out (by decide)) (fun _ hk => hk.1.2) (.bool a0_0)) (fun _ hk => hk.1.2) (.slice Ao54 t634.length co54)) (fun _ hk => hk.1.2) (.slice Ao53 t637.length co53)) (fun _ hk => hk.2) (.bool a0_0)) (fun _ hk => hk.2) (.slice Ao54 t634.length co54)) (fun _ hk => hk.2) (.slice Ao53 t637.length co53)) (fun _ hk => hk.1.1), zb3 GE632.out GE633.out GE640.out⟩
def rf_Whole.f (a0 : Bool) (l1 : List Int) : Option (Bool × List Int × List Int) := if a0 = true then (if (l1.length : Int) > 0 then (some (true, l1, (([1] : List Int)))) else (some (false, l1, (([1] : List Int))))) else (some (false, l1, (([1] : List Int))))
set_option maxHeartbeats 8000000 in
set_option maxRecDepth 100000 in
theorem rf_Whole.calls (a0 : Bool) (P1_ : Nat → Prop) (A1 : Option Addr) (c1 : Nat) (l1 : List Int) (r1 : Bool) (r2 : List Int) (r3 : List Int) (w : World) (hs1 : Kd.V (Kd.int .i64) 3 w w.heap.size (fun k_ => P1_ k_) (.slice A1 l1.length c1) l1) (h : rf_Whole.f a0 l1 = some (r1, r2, r3)) :
  Calls Tryd.prog 71 #[.bool a0, .slice A1 l1.length c1] w fun e w' => ∃ v1_ v2_ : Value, e = .returned (.agg #[.bool r1, v1_, v2_]) ∧ Kd.V (Kd.int .i64) 3 w' w.heap.size (fun k_ => (P1_ k_ ∨ w.heap.size ≤ k_) ∧ some k_ ≠ (v2_ : Value).ownBlock) v1_ r2 ∧ Kd.R (Kd.int .i64) 3 w' w.heap.size (fun k_ => (w.heap.size ≤ k_)) v2_ r3 ∧ Below w.heap.size w w' := by
 have hu41 := Tryd.underlying41
 have HO1 := am (show Kd.V (Kd.int .i64) 3 w w.heap.size (fun k_ => (P1_ k_ ∨ w.heap.size ≤ k_)) (.slice A1 l1.length c1) l1 from Kd.V_mono hs1 (fun k_ hk => .inl hk))
 have HB := am (Below.refl w.heap.size w)
 have H := h
 unfold rf_Whole.f at H
 clear h
 by_cases c3 : a0 = true
 ·subst c3
  have H1 : (if (l1.length : Int) > 0 then (some (true, l1, (([1] : List Int)))) else (some (false, l1, (([1] : List Int))))) = some (r1, r2, r3) := by rw [if_pos rfl] at H; exact H
  clear H
  have H := H1
  clear H1
  by_cases c4 : (l1.length : Int) > 0
  ·rw [if_pos c4] at H
   have c4b0 : decide (0 < (l1.length : Int)) = true := decide_eq_true c4
   have c4b1 : decide (0 < l1.length) = true := decide_eq_true (by omega)
   clear c4
   obtain ⟨y776, hy776⟩ : ∃ y_ : List Int, y_ = (([1] : List Int)) := ⟨_, rfl⟩
   try rw [← hy776] at H
   have Ny776 := am hy776
   clear hy776
   simp only [Option.some.injEq, Prod.mk.injEq] at H
   obtain ⟨rfl, rfl, rfl⟩ := H
   go_enter Tryd.func71, Tryd.ntmps71
   go_wp2_with (first | ((with_reducible refine gate_dst (N := 4) rfl ?_); (try (refine gate_guard (by rfl) ?_; dsimp only)); refine box_event ?hg (N := 4) ?hd (cs := #[.bool false, .slice none 0 0, .slice none 0 0]) (t := 41) ?hr ?_; (case hd => rfl); (case hg => rfl); (case hr => exact zr); intro gb775 hg w5 hbox hb; have n0_ := am (Kd.V_below (Kd.V_elderB (zq3 HO1.out) gb775 (Nat.le_of_eq hg.symm)) hb); have n1_ := am (below_step zq1 hb); have n2_ := am (hbox); have n3_ := am ((by rw [hg]; exact (below_size zq1) : w.heap.size ≤ gb775)); have n4_ := am ((by rw [hg]; exact (below_size zq1) : w.heap.size ≤ gb775)); clear HO1 HB; have HO1 := n0_; have HB := n1_; have BK775 := n2_; have GW775 := n3_; have GE775 := n4_; clear n0_ n1_ n2_ n3_ n4_; clear hb hbox hg) | ((with_reducible refine gate_dst (N := 12) rfl ?_); (try (refine gate_guard (by rfl) ?_; dsimp only)); refine Kd.R_lit (Kd.int .i64) _ 3 ?hg (N := 12) ?hd (xs := ([1] : List Int)) (inner := [.int .i64 1]) (ok := fun _ => True) (okp := fun _ => True) ?hr ?hp (fun _ hk => hk) trivial (Below.refl _ _) (Nat.le_refl _) (by simp) ?_; (case hd => rfl); (case hg => rfl); (case hr => exact zr); (case hp => exact (Reps.one (show Kd.M (Kd.int .i64) _ _ _ 1 [.int .i64 1] from rfl) (Reps.none _ _))); intro v777 w6 ho7 hb hg_ hnew_; clear hg_ hnew_; (first | rw [← Ny776.out] at ho7 | (simp only [Int.reduceToNat] at ho7; rw [← Ny776.out] at ho7)); have n0_ := am (Kd.V_elder' (zq3 HO1.out) (Kd.R_base ho7) hb); have n1_ := am (Kd.R_lower (Kd.R_newM (M := fun k_ => (w.heap.size ≤ k_)) ho7 (below_size (zb1 GE775.out)) (fun k_ h_ => h_)) (below_size (zb1 GE775.out))); have n2_ := am (blk_below (g := gb775) (o := .cells #[.bool false, .slice none 0 0, .slice none 0 0] 41 (0, 0)) (zq2 BK775.out) hb); have n3_ := am (below_step (zb1 GE775.out) hb); clear HO1 BK775 HB; have HO1 := n0_; have HO778 := n1_; have BK775 := n2_; have HB := n3_; clear n0_ n1_ n2_ n3_ hb ho7; obtain ⟨Ao8, co8, eo8⟩ := Kd.R_slice HO778.out; subst eo8; have hcz9_0 : w6.cell? ⟨gb775, 0, none⟩ = some (.bool false) := (blk_cell BK775.out 0).trans rfl; have hcz9_1 : w6.cell? ⟨gb775, 1, none⟩ = some (.slice none 0 0) := (blk_cell BK775.out 1).trans rfl; have hcz9_2 : w6.cell? ⟨gb775, 2, none⟩ = some (.slice none 0 0) := (blk_cell BK775.out 2).trans rfl; have hfz9_0 := blk_frozen BK775.out 0; have hfz9_1 := blk_frozen BK775.out 1; have hfz9_2 := blk_frozen BK775.out 2))
   refine bodyPost_ret (results_cell_row rfl _ _ gb775 41 #[.bool true, .slice A1 l1.length c1, .slice Ao8 y776.length co8] (0, 0) _ rfl (by (with_reducible repeat (first | refine blk_drewN ?_ _ | refine blk_drew ?_ | refine blk_alloc ?_ _)); refine blk_put (cs := #[.bool true, .slice A1 l1.length c1, .slice none 0 0]) ?_ 2 _ rfl; (with_reducible repeat (first | refine blk_drewN ?_ _ | refine blk_drew ?_ | refine blk_alloc ?_ _)); refine blk_put (cs := #[.bool true, .slice none 0 0, .slice none 0 0]) ?_ 1 _ rfl; (with_reducible repeat (first | refine blk_drewN ?_ _ | refine blk_drew ?_ | refine blk_alloc ?_ _)); refine blk_put (cs := #[.bool false, .slice none 0 0, .slice none 0 0]) ?_ 0 _ rfl; (with_reducible repeat (first | refine blk_drewN ?_ _ | refine blk_drew ?_ | refine blk_alloc ?_ _)); exact BK775.out) Tryd.underlying41 rfl (by kernel_rfl)) rfl ?_
   exact ⟨_, _, zq9, by (with_reducible repeat (first | apply Kd.V_alloc | apply Kd.V_drewN | apply Kd.V_drew)); exact Kd.V_mono (Kd.V_far (p := ⟨gb775, 2, none⟩) (Kd.V_far (p := ⟨gb775, 1, none⟩) (Kd.V_far (p := ⟨gb775, 0, none⟩) (Kd.V_mono HO1.out (fun k_ hk => (⟨hk, hk.1.2⟩ : _ ∧ k_ ≠ gb775))) (fun _ hk => hk.2) (.bool true)) (fun _ hk => hk.2) (.slice A1 l1.length c1)) (fun _ hk => hk.2) (.slice Ao8 y776.length co8)) (fun _ hk => ⟨hk.1.1.1, hk.1.2⟩), by (with_reducible repeat (first | apply Kd.R_alloc | apply Kd.R_drewN | apply Kd.R_drew)); exact Kd.R_mono (Kd.R_far (p := ⟨gb775, 2, none⟩) (Kd.R_far (p := ⟨gb775, 1, none⟩) (Kd.R_far (p := ⟨gb775, 0, none⟩) (Kd.R_types HO778.out BK775.out (by decide)) (fun _ hk => hk.2) (.bool true)) (fun _ hk => hk.2) (.slice A1 l1.length c1)) (fun _ hk => hk.2) (.slice Ao8 y776.length co8)) (fun _ hk => hk.1.1), zb1 GE775.out⟩
  ·rw [if_neg c4] at H
   have c4b0 : decide (0 < (l1.length : Int)) = false := decide_eq_false c4
   have c4b1 : decide (0 < l1.length) = false := decide_eq_false (by omega)
   clear c4
   obtain ⟨y779, hy779⟩ : ∃ y_ : List Int, y_ = (([1] : List Int)) := ⟨_, rfl⟩
   try rw [← hy779] at H
   have Ny779 := am hy779
   clear hy779
   simp only [Option.some.injEq, Prod.mk.injEq] at H
   obtain ⟨rfl, rfl, rfl⟩ := H
   go_enter Tryd.func71, Tryd.ntmps71
   go_wp2_with (first | ((with_reducible refine gate_dst (N := 4) rfl ?_); (try (refine gate_guard (by rfl) ?_; dsimp only)); refine box_event ?hg (N := 4) ?hd (cs := #[.bool false, .slice none 0 0, .slice none 0 0]) (t := 41) ?hr ?_; (case hd => rfl); (case hg => rfl); (case hr => exact zr); intro gb775 hg w10 hbox hb; have n0_ := am (Kd.V_below (Kd.V_elderB (zq3 HO1.out) gb775 (Nat.le_of_eq hg.symm)) hb); have n1_ := am (below_step zq1 hb); have n2_ := am (hbox); have n3_ := am ((by rw [hg]; exact (below_size zq1) : w.heap.size ≤ gb775)); have n4_ := am ((by rw [hg]; exact (below_size zq1) : w.heap.size ≤ gb775)); clear HO1 HB; have HO1 := n0_; have HB := n1_; have BK775 := n2_; have GW775 := n3_; have GE775 := n4_; clear n0_ n1_ n2_ n3_ n4_; clear hb hbox hg) | ((with_reducible refine gate_dst (N := 12) rfl ?_); (try (refine gate_guard (by rfl) ?_; dsimp only)); refine Kd.R_lit (Kd.int .i64) _ 3 ?hg (N := 12) ?hd (xs := ([1] : List Int)) (inner := [.int .i64 1]) (ok := fun _ => True) (okp := fun _ => True) ?hr ?hp (fun _ hk => hk) trivial (Below.refl _ _) (Nat.le_refl _) (by simp) ?_; (case hd => rfl); (case hg => rfl); (case hr => exact zr); (case hp => exact (Reps.one (show Kd.M (Kd.int .i64) _ _ _ 1 [.int .i64 1] from rfl) (Reps.none _ _))); intro v780 w11 ho12 hb hg_ hnew_; clear hg_ hnew_; (first | rw [← Ny779.out] at ho12 | (simp only [Int.reduceToNat] at ho12; rw [← Ny779.out] at ho12)); have n0_ := am (Kd.V_elder' (zq3 HO1.out) (Kd.R_base ho12) hb); have n1_ := am (Kd.R_lower (Kd.R_newM (M := fun k_ => (w.heap.size ≤ k_)) ho12 (below_size (zb1 GE775.out)) (fun k_ h_ => h_)) (below_size (zb1 GE775.out))); have n2_ := am (blk_below (g := gb775) (o := .cells #[.bool false, .slice none 0 0, .slice none 0 0] 41 (0, 0)) (zq2 BK775.out) hb); have n3_ := am (below_step (zb1 GE775.out) hb); clear HO1 BK775 HB; have HO1 := n0_; have HO781 := n1_; have BK775 := n2_; have HB := n3_; clear n0_ n1_ n2_ n3_ hb ho12; obtain ⟨Ao13, co13, eo13⟩ := Kd.R_slice HO781.out; subst eo13; have hcz14_0 : w11.cell? ⟨gb775, 0, none⟩ = some (.bool false) := (blk_cell BK775.out 0).trans rfl; have hcz14_1 : w11.cell? ⟨gb775, 1, none⟩ = some (.slice none 0 0) := (blk_cell BK775.out 1).trans rfl; have hcz14_2 : w11.cell? ⟨gb775, 2, none⟩ = some (.slice none 0 0) := (blk_cell BK775.out 2).trans rfl; have hfz14_0 := blk_frozen BK775.out 0; have hfz14_1 := blk_frozen BK775.out 1; have hfz14_2 := blk_frozen BK775.out 2))
   refine bodyPost_ret (results_cell_row rfl _ _ gb775 41 #[.bool false, .slice A1 l1.length c1, .slice Ao13 y779.length co13] (0, 0) _ rfl (by (with_reducible repeat (first | refine blk_drewN ?_ _ | refine blk_drew ?_ | refine blk_alloc ?_ _)); refine blk_put (cs := #[.bool false, .slice A1 l1.length c1, .slice none 0 0]) ?_ 2 _ rfl; (with_reducible repeat (first | refine blk_drewN ?_ _ | refine blk_drew ?_ | refine blk_alloc ?_ _)); refine blk_put (cs := #[.bool false, .slice none 0 0, .slice none 0 0]) ?_ 1 _ rfl; (with_reducible repeat (first | refine blk_drewN ?_ _ | refine blk_drew ?_ | refine blk_alloc ?_ _)); refine blk_put (cs := #[.bool false, .slice none 0 0, .slice none 0 0]) ?_ 0 _ rfl; (with_reducible repeat (first | refine blk_drewN ?_ _ | refine blk_drew ?_ | refine blk_alloc ?_ _)); exact BK775.out) Tryd.underlying41 rfl (by kernel_rfl)) rfl ?_
   exact ⟨_, _, zq9, by (with_reducible repeat (first | apply Kd.V_alloc | apply Kd.V_drewN | apply Kd.V_drew)); exact Kd.V_mono (Kd.V_far (p := ⟨gb775, 2, none⟩) (Kd.V_far (p := ⟨gb775, 1, none⟩) (Kd.V_far (p := ⟨gb775, 0, none⟩) (Kd.V_mono HO1.out (fun k_ hk => (⟨hk, hk.1.2⟩ : _ ∧ k_ ≠ gb775))) (fun _ hk => hk.2) (.bool false)) (fun _ hk => hk.2) (.slice A1 l1.length c1)) (fun _ hk => hk.2) (.slice Ao13 y779.length co13)) (fun _ hk => ⟨hk.1.1.1, hk.1.2⟩), by (with_reducible repeat (first | apply Kd.R_alloc | apply Kd.R_drewN | apply Kd.R_drew)); exact Kd.R_mono (Kd.R_far (p := ⟨gb775, 2, none⟩) (Kd.R_far (p := ⟨gb775, 1, none⟩) (Kd.R_far (p := ⟨gb775, 0, none⟩) (Kd.R_types HO781.out BK775.out (by decide)) (fun _ hk => hk.2) (.bool false)) (fun _ hk => hk.2) (.slice A1 l1.length c1)) (fun _ hk => hk.2) (.slice Ao13 y779.length co13)) (fun _ hk => hk.1.1), zb1 GE775.out⟩
 ·replace c3 := Bool.eq_false_iff.mpr c3
  subst c3
  have H1 : (some (false, l1, (([1] : List Int)))) = some (r1, r2, r3) := by rw [if_neg (show ¬ (false = true) by decide)] at H; exact H
  clear H
  have H := H1
  clear H1
  obtain ⟨y782, hy782⟩ : ∃ y_ : List Int, y_ = (([1] : List Int)) := ⟨_, rfl⟩
  try rw [← hy782] at H
  have Ny782 := am hy782
  clear hy782
  simp only [Option.some.injEq, Prod.mk.injEq] at H
  obtain ⟨rfl, rfl, rfl⟩ := H
  go_enter Tryd.func71, Tryd.ntmps71
  go_wp2_with (first | ((with_reducible refine gate_dst (N := 4) rfl ?_); (try (refine gate_guard (by rfl) ?_; dsimp only)); refine box_event ?hg (N := 4) ?hd (cs := #[.bool false, .slice none 0 0, .slice none 0 0]) (t := 41) ?hr ?_; (case hd => rfl); (case hg => rfl); (case hr => exact zr); intro gb775 hg w15 hbox hb; have n0_ := am (Kd.V_below (Kd.V_elderB (zq3 HO1.out) gb775 (Nat.le_of_eq hg.symm)) hb); have n1_ := am (below_step zq1 hb); have n2_ := am (hbox); have n3_ := am ((by rw [hg]; exact (below_size zq1) : w.heap.size ≤ gb775)); have n4_ := am ((by rw [hg]; exact (below_size zq1) : w.heap.size ≤ gb775)); clear HO1 HB; have HO1 := n0_; have HB := n1_; have BK775 := n2_; have GW775 := n3_; have GE775 := n4_; clear n0_ n1_ n2_ n3_ n4_; clear hb hbox hg) | ((with_reducible refine gate_dst (N := 12) rfl ?_); (try (refine gate_guard (by rfl) ?_; dsimp only)); refine Kd.R_lit (Kd.int .i64) _ 3 ?hg (N := 12) ?hd (xs := ([1] : List Int)) (inner := [.int .i64 1]) (ok := fun _ => True) (okp := fun _ => True) ?hr ?hp (fun _ hk => hk) trivial (Below.refl _ _) (Nat.le_refl _) (by simp) ?_; (case hd => rfl); (case hg => rfl); (case hr => exact zr); (case hp => exact (Reps.one (show Kd.M (Kd.int .i64) _ _ _ 1 [.int .i64 1] from rfl) (Reps.none _ _))); intro v783 w16 ho17 hb hg_ hnew_; clear hg_ hnew_; (first | rw [← Ny782.out] at ho17 | (simp only [Int.reduceToNat] at ho17; rw [← Ny782.out] at ho17)); have n0_ := am (Kd.V_elder' (zq3 HO1.out) (Kd.R_base ho17) hb); have n1_ := am (Kd.R_lower (Kd.R_newM (M := fun k_ => (w.heap.size ≤ k_)) ho17 (below_size (zb1 GE775.out)) (fun k_ h_ => h_)) (below_size (zb1 GE775.out))); have n2_ := am (blk_below (g := gb775) (o := .cells #[.bool false, .slice none 0 0, .slice none 0 0] 41 (0, 0)) (zq2 BK775.out) hb); have n3_ := am (below_step (zb1 GE775.out) hb); clear HO1 BK775 HB; have HO1 := n0_; have HO784 := n1_; have BK775 := n2_; have HB := n3_; clear n0_ n1_ n2_ n3_ hb ho17; obtain ⟨Ao18, co18, eo18⟩ := Kd.R_slice HO784.out; subst eo18; have hcz19_0 : w16.cell? ⟨gb775, 0, none⟩ = some (.bool false) := (blk_cell BK775.out 0).trans rfl; have hcz19_1 : w16.cell? ⟨gb775, 1, none⟩ = some (.slice none 0 0) := (blk_cell BK775.out 1).trans rfl; have hcz19_2 : w16.cell? ⟨gb775, 2, none⟩ = some (.slice none 0 0) := (blk_cell BK775.out 2).trans rfl; have hfz19_0 := blk_frozen BK775.out 0; have hfz19_1 := blk_frozen BK775.out 1; have hfz19_2 := blk_frozen BK775.out 2))
  refine bodyPost_ret (results_cell_row rfl _ _ gb775 41 #[.bool false, .slice A1 l1.length c1, .slice Ao18 y782.length co18] (0, 0) _ rfl (by (with_reducible repeat (first | refine blk_drewN ?_ _ | refine blk_drew ?_ | refine blk_alloc ?_ _)); refine blk_put (cs := #[.bool false, .slice A1 l1.length c1, .slice none 0 0]) ?_ 2 _ rfl; (with_reducible repeat (first | refine blk_drewN ?_ _ | refine blk_drew ?_ | refine blk_alloc ?_ _)); refine blk_put (cs := #[.bool false, .slice none 0 0, .slice none 0 0]) ?_ 1 _ rfl; (with_reducible repeat (first | refine blk_drewN ?_ _ | refine blk_drew ?_ | refine blk_alloc ?_ _)); refine blk_put (cs := #[.bool false, .slice none 0 0, .slice none 0 0]) ?_ 0 _ rfl; (with_reducible repeat (first | refine blk_drewN ?_ _ | refine blk_drew ?_ | refine blk_alloc ?_ _)); exact BK775.out) Tryd.underlying41 rfl (by kernel_rfl)) rfl ?_
  exact ⟨_, _, zq9, by (with_reducible repeat (first | apply Kd.V_alloc | apply Kd.V_drewN | apply Kd.V_drew)); exact Kd.V_mono (Kd.V_far (p := ⟨gb775, 2, none⟩) (Kd.V_far (p := ⟨gb775, 1, none⟩) (Kd.V_far (p := ⟨gb775, 0, none⟩) (Kd.V_mono HO1.out (fun k_ hk => (⟨hk, hk.1.2⟩ : _ ∧ k_ ≠ gb775))) (fun _ hk => hk.2) (.bool false)) (fun _ hk => hk.2) (.slice A1 l1.length c1)) (fun _ hk => hk.2) (.slice Ao18 y782.length co18)) (fun _ hk => ⟨hk.1.1.1, hk.1.2⟩), by (with_reducible repeat (first | apply Kd.R_alloc | apply Kd.R_drewN | apply Kd.R_drew)); exact Kd.R_mono (Kd.R_far (p := ⟨gb775, 2, none⟩) (Kd.R_far (p := ⟨gb775, 1, none⟩) (Kd.R_far (p := ⟨gb775, 0, none⟩) (Kd.R_types HO784.out BK775.out (by decide)) (fun _ hk => hk.2) (.bool false)) (fun _ hk => hk.2) (.slice A1 l1.length c1)) (fun _ hk => hk.2) (.slice Ao18 y782.length co18)) (fun _ hk => hk.1.1), zb1 GE775.out⟩
def rf_OfInt.l0 : Nat → Int → List Int → Option (List Int)
 | 0, _, _ => none
 | k + 1, x0, x3 => if x0 > 0 then (if x3.length < 17592186044416 then (rf_OfInt.l0 k (x0 / 65536) (x3 ++ [wrap64 (Go.bits .and .u64 x0 65535)])) else (none)) else (some x3)
def rf_OfInt.f (k : Nat) (a0 : Int) : Option (List Int) := rf_OfInt.l0 k a0 ([] : List Int)
theorem rf_OfInt.mono_l : ∀ k, (∀ y0 y1, LeO (rf_OfInt.l0 k y0 y1) (rf_OfInt.l0 (k + 1) y0 y1))
 | 0 => fun _ _ r h => by simp [rf_OfInt.l0] at h
 | k + 1 => by
  have ih0 := rf_OfInt.mono_l k
  ·intro y0 y1
   unfold rf_OfInt.l0
   have m0 := ih0
   exact zm
theorem rf_OfInt.mono : ∀ a0 k, LeO (rf_OfInt.f k a0) (rf_OfInt.f (k + 1) a0) := by
 intro a0 k
 have ih0 := rf_OfInt.mono_l k
 unfold rf_OfInt.f
 have m0 := ih0
 exact zm
set_option maxHeartbeats 8000000 in
set_option maxRecDepth 100000 in
theorem rf_OfInt.calls (k : Nat) (a0 : Int) (r : List Int) (w : World) (h : rf_OfInt.f k a0 = some r) :
  Calls Tryd.prog 81 #[.int .u64 a0] w fun e w' => ∃ v0_ : Value, e = .returned (v0_) ∧ Kd.R (Kd.int .i64) 3 w' w.heap.size (fun _ => True) v0_ r ∧ Below w.heap.size w w' := by
 have HB := am (Below.refl w.heap.size w)
 have H := h
 unfold rf_OfInt.f at H
 clear h
 have H' := am H
 clear H
 go_enter Tryd.func81, Tryd.ntmps81
 go_wp2
 go_loopg [0, 3] k (fun kq v0 v3 w' => ∃ (x0_1 : Int) (x3_1 : List Int), v0 = .int .u64 x0_1 ∧ Aside0 (rf_OfInt.l0 kq x0_1 x3_1 = some r) ∧ Aside0 (kq ≤ k) ∧ Aside0 (Kd.R (Kd.int .i64) 3 w' w.heap.size (fun _ => True) v3 x3_1) ∧ Aside0 (Below w.heap.size w w'))
 case atStart => exact ⟨(a0), (([] : List Int)), zq8, H', ⟨Nat.le_refl _⟩, ⟨by first | exact Kd.R_nil _ _ _ _ _ | exact Kd.N_nil _ _ _ _ _ | exact Kd.V_nil _ _ _ _ _ | exact Kd.Q_nil _ _ _ _ _ | exact Kd.S_nil _ _ _ _ _⟩, ⟨zq1⟩⟩
 case round =>
  clear H'
  obtain ⟨x0_1, x3_1, rfl, HA, HK1, HO_3, HB⟩ := hrel
  cases gk with
  | zero => exact absurd HA.out (by simp [rf_OfInt.l0])
  | succ k1 =>
   have H := HA.out
   clear HA
   simp only [rf_OfInt.l0] at H
   by_cases c2 : x0_1 > 0
   ·rw [if_pos c2] at H
    have c2b0 : decide (0 < x0_1) = true := decide_eq_true c2
    clear c2
    replace H := zn H
    obtain ⟨c3, H⟩ := H
    have LMc3 := am c3
    clear c3
    obtain ⟨y1698, hy1698⟩ : ∃ y_ : List Int, y_ = (x3_1 ++ [wrap64 (Go.bits .and .u64 x0_1 65535)]) := ⟨_, rfl⟩
    try rw [← hy1698] at H
    have Ny1698 := am hy1698
    clear hy1698
    have H' := am H
    clear H
    go_wp2_with (first | ((with_reducible refine gate_builtin (b := .append) (xs := #[.tmp 8, .tmp 12]) rfl ?_); at_builtin; refine Kd.R_append (Kd.int .i64) (w0 := w) w.heap.size rfl (.tmp 8) (.tmp 12) 39 3 (.int .i64 0) 8 rfl Tryd.underlying39 info3 rfl (by decide) (by omega) u3 x3_1 (wrap64 (Go.bits .and .u64 x0_1 65535)) [.int .i64 (wrap64 (Go.bits .and .u64 x0_1 65535))] (fun _ => True) (fun _ => False) rfl rfl ?aP (fun _ hk => hk.elim) ?aF ?aO ?aB ?aS ?aL ?_; (case aP => exact rfl); (case aB => exact zq1); (case aF => exact (fun _ _ => trivial)); (case aO => exact (zq4 HO_3.out)); (case aS => exact (below_size zq1)); (case aL => have := LMc3.out; omega); intro v1699 w4 ho hb hg hat; rw [← Ny1698.out] at ho; have n0_ := am (hb); have n1_ := am (ho); clear HB HO_3; have HB := n0_; have HO1700 := n1_; clear n0_ n1_; clear ho hb hg hat))
    go_roundg k1
    case measure => have := HK1.out; omega
    case rel => exact ⟨(x0_1 / 65536), (y1698), zq8, H', ⟨by have := HK1.out; omega⟩, ⟨zq4 HO1700.out⟩, ⟨zq1⟩⟩
   ·rw [if_neg c2] at H
    have c2b0 : decide (0 < x0_1) = false := decide_eq_false c2
    clear c2
    obtain rfl := Option.some.inj H
    go_wp2
    go_ret
    exact ⟨_, zq9, zq4 HO_3.out, zq1⟩
end Go.Proofs.YtemnjgkicndmjaaDoor.Q

namespace Go.Proofs.YtemnjgkicndmjaaDoor.Q
open Go.RowKit Go.Proofs.YtemnjgkicndmjaaDoorW.PrintWords Go.Proofs.YtemnjgkicndmjaaDoorW.PrintLast Go.Proofs.YtemnjgkicndmjaaDoorW.PrintMore
attribute [local go_sem] max2_int min2_int max_two min_two max_three min_three max_four min_four
set_option linter.unusedVariables false
set_option linter.unusedSimpArgs false
def rf_FromInt.f (k : Nat) (a0 : Int) : Option (Bool × List Int × List Int) := if a0 < 0 then ((rf_OfInt.f k (IntKind.u64.wrap (-(IntKind.u64.wrap (a0))))).bind fun t1702 => ((rf_Whole.f true t1702).bind fun bt1705 => ((rf_Made.f k bt1705.1 bt1705.2.1 bt1705.2.2).bind fun bt1712 => (some (bt1712.1, bt1712.2.1, bt1712.2.2.1))))) else ((rf_OfInt.f k (IntKind.u64.wrap (a0))).bind fun t1721 => ((rf_Whole.f false t1721).bind fun bt1724 => ((rf_Made.f k bt1724.1 bt1724.2.1 bt1724.2.2).bind fun bt1731 => (some (bt1731.1, bt1731.2.1, bt1731.2.2.1)))))
theorem rf_FromInt.mono : ∀ a0 k, LeO (rf_FromInt.f k a0) (rf_FromInt.f (k + 1) a0) := by
 intro a0 k
 unfold rf_FromInt.f
 have m0 := @rf_Made.mono
 have m1 := @rf_OfInt.mono
 exact zm
set_option maxHeartbeats 8000000 in
set_option maxRecDepth 100000 in
theorem rf_FromInt.calls (k : Nat) (a0 : Int) (r1 : Bool) (r2 : List Int) (r3 : List Int) (w : World) (h : rf_FromInt.f k a0 = some (r1, r2, r3)) :
  Calls Tryd.prog 33 #[.int .i64 a0] w fun e w' => ∃ v1_ v2_ : Value, e = .returned (.agg #[.bool r1, v1_, v2_]) ∧ Kd.R (Kd.int .u32) 55 w' w.heap.size (fun k_ => some k_ ≠ (v2_ : Value).ownBlock) v1_ r2 ∧ Kd.R (Kd.int .u32) 55 w' w.heap.size (fun k_ => some k_ ≠ (v1_ : Value).ownBlock) v2_ r3 ∧ Below w.heap.size w w' := by
 have hu24 := Tryd.underlying24
 have HB := am (Below.refl w.heap.size w)
 have H := h
 unfold rf_FromInt.f at H
 clear h
 by_cases c2 : a0 < 0
 ·rw [if_pos c2] at H
  have c2b0 := decide_eq_true c2
  clear c2
  replace H := zi H
  obtain ⟨t1702, A30, H⟩ := H
  have A3 := am A30
  clear A30
  replace H := zi H
  obtain ⟨⟨t1705, t1706, t1709⟩, A40, H⟩ := H
  try dsimp only at H
  have A4 := am A40
  clear A40
  replace H := zi H
  obtain ⟨⟨t1712, t1713, t1716, t1719⟩, A50, H⟩ := H
  try dsimp only at H
  have A5 := am A50
  clear A50
  simp only [Option.some.injEq, Prod.mk.injEq] at H
  obtain ⟨rfl, rfl, rfl⟩ := H
  go_enter Tryd.func33, Tryd.ntmps33
  go_wp2_with (first | ((with_reducible refine gate_dst (N := 2) rfl ?_); refine box_event ?hg (N := 2) ?hd (cs := #[.bool false, .slice none 0 0, .slice none 0 0]) (t := 24) ?hr ?_; (case hd => rfl); (case hg => rfl); (case hr => exact zr); intro gb1701 hg w6 hbox hb; have n0_ := am (below_step zq1 hb); have n1_ := am (hbox); have n2_ := am ((by rw [hg]; exact (below_size zq1) : w.heap.size ≤ gb1701)); have n3_ := am ((by rw [hg]; exact (below_size zq1) : w.heap.size ≤ gb1701)); clear HB; have HB := n0_; have BK1701 := n1_; have GW1701 := n2_; have GE1701 := n3_; clear n0_ n1_ n2_ n3_; clear hb hbox hg) | ((with_reducible refine gate_callee (f := 81) rfl ?_); refine goesL_ (some 16) rfl rfl Tryd.func81 (by kernel_rfl) rfl #[.int .u64 (IntKind.u64.wrap (-(IntKind.u64.wrap (a0))))] rfl zq5 ?_; (with_reducible refine (rf_OfInt.calls k (IntKind.u64.wrap (-(IntKind.u64.wrap (a0)))) t1702 _ A3.out).mono ?_); rintro e w7 ⟨v1703, rfl, ho0, hb⟩; refine ⟨_, rfl, ?_⟩; have n0_ := am (Kd.R_lower ho0 (below_size (zb1 GE1701.out))); have n1_ := am (blk_below (g := gb1701) (o := .cells #[.bool false, .slice none 0 0, .slice none 0 0] 24 (0, 0)) (zq2 BK1701.out) hb); have n2_ := am (below_step (zb1 GE1701.out) hb); clear BK1701 HB; have HO1704 := n0_; have BK1701 := n1_; have HB := n2_; clear n0_ n1_ n2_; obtain ⟨Ao8, co8, eo8⟩ := Kd.R_slice HO1704.out; subst eo8) | ((with_reducible refine gate_callee (f := 71) rfl ?_); refine goesL_ (some 17) rfl rfl Tryd.func71 (by kernel_rfl) rfl #[.bool true, .slice Ao8 t1702.length co8] rfl zq5 ?_; (with_reducible refine (rf_Whole.calls true (fun k_ => some k_ = (.slice Ao8 t1702.length co8 : Value).ownBlock) _ _ t1702 t1705 t1706 t1709 _ ?side1 A4.out).mono ?_); (case side1 => exact Kd.R_V (Kd.R_tight rfl (Kd.R_types (HO1704.out) BK1701.out (by decide)))); rintro e w9 ⟨v1707, v1710, rfl, ho0, ho1, hb⟩; refine ⟨_, rfl, ?_⟩; have n0_ := am (Kd.R_elder' (zq4 HO1704.out) (Kd.R_base ho1) hb); have n1_ := am (Kd.V_lower (Kd.V_mono (ok' := fun k_ => some k_ ≠ (v1710 : Value).ownBlock ∧ k_ ≠ gb1701) ho0 (fun k_ hk_ => ⟨hk_.2, Or.elim hk_.1 (fun hs_ => ((Kd.R_types (HO1704.out) BK1701.out (by decide)).1 k_ hs_.symm).2) (fun hn_ => (Kd.freshB (g := gb1701) (o := .cells #[.bool false, .slice none 0 0, .slice none 0 0] 24 (0, 0)) (zq2 BK1701.out) k_ hn_))⟩)) (below_size (zb1 GE1701.out))); have n2_ := am (Kd.R_lower (Kd.R_new' (Kd.R_mono (ok' := fun k_ => True) ho1 (fun _ hk_ => trivial)) (Kd.R_lt (zq4 HO1704.out))) (below_size (zb1 GE1701.out))); have n3_ := am (blk_below (g := gb1701) (o := .cells #[.bool false, .slice none 0 0, .slice none 0 0] 24 (0, 0)) (zq2 BK1701.out) hb); have n4_ := am (below_step (zb1 GE1701.out) hb); clear HO1704 BK1701 HB; have HO1704 := n0_; have HO1708 := n1_; have HO1711 := n2_; have BK1701 := n3_; have HB := n4_; clear n0_ n1_ n2_ n3_ n4_; (try clear ho1); obtain ⟨Ao10, co10, eo10⟩ := Kd.V_slice HO1708.out; subst eo10; obtain ⟨Ao11, co11, eo11⟩ := Kd.R_slice HO1711.out; subst eo11) | ((with_reducible refine gate_callee (f := 59) rfl ?_); refine goesL_ (some 18) rfl rfl Tryd.func59 (by kernel_rfl) rfl #[.agg #[.bool t1705, .slice Ao10 t1706.length co10, .slice Ao11 t1709.length co11]] rfl zq5 ?_; (with_reducible refine (rf_Made.calls k t1705 _ _ t1706 _ _ t1709 t1712 t1713 t1716 t1719 _ ?side1 ?side2 ?side3 ?side4 A5.out).mono ?_); (case side1 => exact zc ((Kd.V_reads' HO1708.out).2.2)); (case side2 => exact (Kd.V_reads' HO1708.out).2.1); (case side3 => exact zc ((Kd.R_reads' HO1711.out).2.2)); (case side4 => exact (Kd.R_reads' HO1711.out).2.1); rintro e w12 ⟨v1714, v1717, rfl, ho0, ho1, hb⟩; refine ⟨_, rfl, ?_⟩; have n0_ := am (Kd.R_below (zq4 HO1704.out) hb); have n1_ := am (Kd.V_mono (Kd.V_told (Kd.V_told (Kd.V_old (zq3 HO1708.out) hb) (Kd.R_base ho0)) (Kd.R_base ho1)) (fun _ h_ => h_.1)); have n2_ := am (Kd.R_below (zq4 HO1711.out) hb); have n3_ := am (Kd.R_lower ho0 (below_size (zb1 GE1701.out))); have n4_ := am (Kd.R_lower ho1 (below_size (zb1 GE1701.out))); have n5_ := am (blk_below (g := gb1701) (o := .cells #[.bool false, .slice none 0 0, .slice none 0 0] 24 (0, 0)) (zq2 BK1701.out) hb); have n6_ := am (below_step (zb1 GE1701.out) hb); clear HO1704 HO1708 HO1711 BK1701 HB; have HO1704 := n0_; have HO1708 := n1_; have HO1711 := n2_; have HO1715 := n3_; have HO1718 := n4_; have BK1701 := n5_; have HB := n6_; clear n0_ n1_ n2_ n3_ n4_ n5_ n6_; (try clear ho1)) | ((with_reducible refine gate_dst (N := 4) rfl ?_); refine box_event ?hg (N := 4) ?hd (cs := #[.bool false, .slice none 0 0, .slice none 0 0]) (t := 24) ?hr ?_; (case hd => rfl); (case hg => rfl); (case hr => exact zr); intro gb1720 hg w13 hbox hb; have n0_ := am (Kd.R_below (zq4 HO1704.out) hb); have n1_ := am (Kd.V_below (Kd.V_elderB (zq3 HO1708.out) gb1720 (Nat.le_of_eq hg.symm)) hb); have n2_ := am (Kd.R_below (zq4 HO1711.out) hb); have n3_ := am (Kd.R_below (zq4 HO1715.out) hb); have n4_ := am (Kd.R_below (zq4 HO1718.out) hb); have n5_ := am (blk_below (g := gb1701) (o := .cells #[.bool false, .slice none 0 0, .slice none 0 0] 24 (0, 0)) (zq2 BK1701.out) hb); have n6_ := am (below_step (zb1 GE1701.out) hb); have n7_ := am (hbox); have n8_ := am ((by rw [hg]; exact (below_size (zb1 GE1701.out)) : w.heap.size ≤ gb1720)); have n9_ := am ((by rw [hg]; exact (below_size (zb1 GE1701.out)) : w.heap.size ≤ gb1720)); have n10_ := am ((by rw [hg]; exact Nat.ne_of_lt (blk_lt (g := gb1701) (o := .cells #[.bool false, .slice none 0 0, .slice none 0 0] 24 (0, 0)) (zq2 BK1701.out)) : gb1701 ≠ gb1720)); have n11_ := am ((by rw [hg]; exact Nat.ne_of_gt (blk_lt (g := gb1701) (o := .cells #[.bool false, .slice none 0 0, .slice none 0 0] 24 (0, 0)) (zq2 BK1701.out)) : gb1720 ≠ gb1701)); clear HO1704 HO1708 HO1711 HO1715 HO1718 BK1701 HB; have HO1704 := n0_; have HO1708 := n1_; have HO1711 := n2_; have HO1715 := n3_; have HO1718 := n4_; have BK1701 := n5_; have HB := n6_; have BK1720 := n7_; have GW1720 := n8_; have GE1720 := n9_; have NB1701_1720 := n10_; have NB1720_1701 := n11_; clear n0_ n1_ n2_ n3_ n4_ n5_ n6_ n7_ n8_ n9_ n10_ n11_ hb hbox hg; have hnb14 := NB1720_1701.out; have hnc14 := NB1701_1720.out; have hcz15_0 : w13.cell? ⟨gb1720, 0, none⟩ = some (.bool false) := (blk_cell BK1720.out 0).trans rfl; have hcz15_1 : w13.cell? ⟨gb1720, 1, none⟩ = some (.slice none 0 0) := (blk_cell BK1720.out 1).trans rfl; have hcz15_2 : w13.cell? ⟨gb1720, 2, none⟩ = some (.slice none 0 0) := (blk_cell BK1720.out 2).trans rfl; have hfz15_0 := blk_frozen BK1720.out 0; have hfz15_1 := blk_frozen BK1720.out 1; have hfz15_2 := blk_frozen BK1720.out 2; obtain ⟨Ao16, co16, eo16⟩ := Kd.R_slice HO1715.out; subst eo16; obtain ⟨Ao17, co17, eo17⟩ := Kd.R_slice HO1718.out; subst eo17; have hcz18_0 : w13.cell? ⟨gb1701, 0, none⟩ = some (.bool false) := (blk_cell BK1701.out 0).trans rfl; have hcz18_1 : w13.cell? ⟨gb1701, 1, none⟩ = some (.slice none 0 0) := (blk_cell BK1701.out 1).trans rfl; have hcz18_2 : w13.cell? ⟨gb1701, 2, none⟩ = some (.slice none 0 0) := (blk_cell BK1701.out 2).trans rfl; have hfz18_0 := blk_frozen BK1701.out 0; have hfz18_1 := blk_frozen BK1701.out 1; have hfz18_2 := blk_frozen BK1701.out 2))
  refine bodyPost_ret (results_cell_row rfl _ _ gb1701 24 #[.bool t1712, .slice Ao16 t1713.length co16, .slice Ao17 t1716.length co17] (0, 0) _ rfl (by (with_reducible repeat (first | refine blk_drewN ?_ _ | refine blk_drew ?_ | refine blk_alloc ?_ _)); refine blk_put (cs := #[.bool t1712, .slice Ao16 t1713.length co16, .slice none 0 0]) ?_ 2 _ rfl; (with_reducible repeat (first | refine blk_drewN ?_ _ | refine blk_drew ?_ | refine blk_alloc ?_ _)); refine blk_put (cs := #[.bool t1712, .slice none 0 0, .slice none 0 0]) ?_ 1 _ rfl; (with_reducible repeat (first | refine blk_drewN ?_ _ | refine blk_drew ?_ | refine blk_alloc ?_ _)); refine blk_put (cs := #[.bool false, .slice none 0 0, .slice none 0 0]) ?_ 0 _ rfl; (with_reducible repeat (first | refine blk_drewN ?_ _ | refine blk_drew ?_ | refine blk_alloc ?_ _)); refine blk_far ?_ NB1701_1720.out _; (with_reducible repeat (first | refine blk_drewN ?_ _ | refine blk_drew ?_ | refine blk_alloc ?_ _)); refine blk_far ?_ NB1701_1720.out _; (with_reducible repeat (first | refine blk_drewN ?_ _ | refine blk_drew ?_ | refine blk_alloc ?_ _)); refine blk_far ?_ NB1701_1720.out _; (with_reducible repeat (first | refine blk_drewN ?_ _ | refine blk_drew ?_ | refine blk_alloc ?_ _)); exact BK1701.out) Tryd.underlying24 rfl (by kernel_rfl)) rfl ?_
  exact ⟨_, _, zq9, by (with_reducible repeat (first | apply Kd.R_alloc | apply Kd.R_drewN | apply Kd.R_drew)); exact Kd.R_mono (Kd.R_far (p := ⟨gb1701, 2, none⟩) (Kd.R_far (p := ⟨gb1701, 1, none⟩) (Kd.R_far (p := ⟨gb1701, 0, none⟩) (Kd.R_far (p := ⟨gb1720, 2, none⟩) (Kd.R_far (p := ⟨gb1720, 1, none⟩) (Kd.R_far (p := ⟨gb1720, 0, none⟩) (Kd.R_types (Kd.R_types HO1715.out BK1720.out (by decide)) BK1701.out (by decide)) (fun _ hk => hk.1.2) (.bool t1712)) (fun _ hk => hk.1.2) (.slice Ao16 t1713.length co16)) (fun _ hk => hk.1.2) (.slice Ao17 t1716.length co17)) (fun _ hk => hk.2) (.bool t1712)) (fun _ hk => hk.2) (.slice Ao16 t1713.length co16)) (fun _ hk => hk.2) (.slice Ao17 t1716.length co17)) (fun _ hk => hk.1.1), by (with_reducible repeat (first | apply Kd.R_alloc | apply Kd.R_drewN | apply Kd.R_drew)); exact Kd.R_mono (Kd.R_far (p := ⟨gb1701, 2, none⟩) (Kd.R_far (p := ⟨gb1701, 1, none⟩) (Kd.R_far (p := ⟨gb1701, 0, none⟩) (Kd.R_far (p := ⟨gb1720, 2, none⟩) (Kd.R_far (p := ⟨gb1720, 1, none⟩) (Kd.R_far (p := ⟨gb1720, 0, none⟩) (Kd.R_types (Kd.R_types HO1718.out BK1720.out (by decide)) BK1701.out (by decide)) (fun _ hk => hk.1.2) (.bool t1712)) (fun _ hk => hk.1.2) (.slice Ao16 t1713.length co16)) (fun _ hk => hk.1.2) (.slice Ao17 t1716.length co17)) (fun _ hk => hk.2) (.bool t1712)) (fun _ hk => hk.2) (.slice Ao16 t1713.length co16)) (fun _ hk => hk.2) (.slice Ao17 t1716.length co17)) (fun _ hk => hk.1.1), zb2 GE1701.out GE1720.out⟩
 ·rw [if_neg c2] at H
  have c2b0 := decide_eq_false c2
  clear c2
  replace H := zi H
  obtain ⟨t1721, A190, H⟩ := H
  have A19 := am A190
  clear A190
  replace H := zi H
  obtain ⟨⟨t1724, t1725, t1728⟩, A200, H⟩ := H
  try dsimp only at H
  have A20 := am A200
  clear A200
  replace H := zi H
  obtain ⟨⟨t1731, t1732, t1735, t1738⟩, A210, H⟩ := H
  try dsimp only at H
  have A21 := am A210
  clear A210
  simp only [Option.some.injEq, Prod.mk.injEq] at H
  obtain ⟨rfl, rfl, rfl⟩ := H
  go_enter Tryd.func33, Tryd.ntmps33
  go_wp2_with (first | ((with_reducible refine gate_dst (N := 2) rfl ?_); refine box_event ?hg (N := 2) ?hd (cs := #[.bool false, .slice none 0 0, .slice none 0 0]) (t := 24) ?hr ?_; (case hd => rfl); (case hg => rfl); (case hr => exact zr); intro gb1701 hg w22 hbox hb; have n0_ := am (below_step zq1 hb); have n1_ := am (hbox); have n2_ := am ((by rw [hg]; exact (below_size zq1) : w.heap.size ≤ gb1701)); have n3_ := am ((by rw [hg]; exact (below_size zq1) : w.heap.size ≤ gb1701)); clear HB; have HB := n0_; have BK1701 := n1_; have GW1701 := n2_; have GE1701 := n3_; clear n0_ n1_ n2_ n3_; clear hb hbox hg) | ((with_reducible refine gate_callee (f := 81) rfl ?_); refine goesL_ (some 16) rfl rfl Tryd.func81 (by kernel_rfl) rfl #[.int .u64 (IntKind.u64.wrap (a0))] rfl zq5 ?_; (with_reducible refine (rf_OfInt.calls k (IntKind.u64.wrap (a0)) t1721 _ A19.out).mono ?_); rintro e w23 ⟨v1722, rfl, ho0, hb⟩; refine ⟨_, rfl, ?_⟩; have n0_ := am (Kd.R_lower ho0 (below_size (zb1 GE1701.out))); have n1_ := am (blk_below (g := gb1701) (o := .cells #[.bool false, .slice none 0 0, .slice none 0 0] 24 (0, 0)) (zq2 BK1701.out) hb); have n2_ := am (below_step (zb1 GE1701.out) hb); clear BK1701 HB; have HO1723 := n0_; have BK1701 := n1_; have HB := n2_; clear n0_ n1_ n2_; obtain ⟨Ao24, co24, eo24⟩ := Kd.R_slice HO1723.out; subst eo24) | ((with_reducible refine gate_callee (f := 71) rfl ?_); refine goesL_ (some 17) rfl rfl Tryd.func71 (by kernel_rfl) rfl #[.bool false, .slice Ao24 t1721.length co24] rfl zq5 ?_; (with_reducible refine (rf_Whole.calls false (fun k_ => some k_ = (.slice Ao24 t1721.length co24 : Value).ownBlock) _ _ t1721 t1724 t1725 t1728 _ ?side1 A20.out).mono ?_); (case side1 => exact Kd.R_V (Kd.R_tight rfl (Kd.R_types (HO1723.out) BK1701.out (by decide)))); rintro e w25 ⟨v1726, v1729, rfl, ho0, ho1, hb⟩; refine ⟨_, rfl, ?_⟩; have n0_ := am (Kd.R_elder' (zq4 HO1723.out) (Kd.R_base ho1) hb); have n1_ := am (Kd.V_lower (Kd.V_mono (ok' := fun k_ => some k_ ≠ (v1729 : Value).ownBlock ∧ k_ ≠ gb1701) ho0 (fun k_ hk_ => ⟨hk_.2, Or.elim hk_.1 (fun hs_ => ((Kd.R_types (HO1723.out) BK1701.out (by decide)).1 k_ hs_.symm).2) (fun hn_ => (Kd.freshB (g := gb1701) (o := .cells #[.bool false, .slice none 0 0, .slice none 0 0] 24 (0, 0)) (zq2 BK1701.out) k_ hn_))⟩)) (below_size (zb1 GE1701.out))); have n2_ := am (Kd.R_lower (Kd.R_new' (Kd.R_mono (ok' := fun k_ => True) ho1 (fun _ hk_ => trivial)) (Kd.R_lt (zq4 HO1723.out))) (below_size (zb1 GE1701.out))); have n3_ := am (blk_below (g := gb1701) (o := .cells #[.bool false, .slice none 0 0, .slice none 0 0] 24 (0, 0)) (zq2 BK1701.out) hb); have n4_ := am (below_step (zb1 GE1701.out) hb); clear HO1723 BK1701 HB; have HO1723 := n0_; have HO1727 := n1_; have HO1730 := n2_; have BK1701 := n3_; have HB := n4_; clear n0_ n1_ n2_ n3_ n4_; (try clear ho1); obtain ⟨Ao26, co26, eo26⟩ := Kd.V_slice HO1727.out; subst eo26; obtain ⟨Ao27, co27, eo27⟩ := Kd.R_slice HO1730.out; subst eo27) | ((with_reducible refine gate_callee (f := 59) rfl ?_); refine goesL_ (some 18) rfl rfl Tryd.func59 (by kernel_rfl) rfl #[.agg #[.bool t1724, .slice Ao26 t1725.length co26, .slice Ao27 t1728.length co27]] rfl zq5 ?_; (with_reducible refine (rf_Made.calls k t1724 _ _ t1725 _ _ t1728 t1731 t1732 t1735 t1738 _ ?side1 ?side2 ?side3 ?side4 A21.out).mono ?_); (case side1 => exact zc ((Kd.V_reads' HO1727.out).2.2)); (case side2 => exact (Kd.V_reads' HO1727.out).2.1); (case side3 => exact zc ((Kd.R_reads' HO1730.out).2.2)); (case side4 => exact (Kd.R_reads' HO1730.out).2.1); rintro e w28 ⟨v1733, v1736, rfl, ho0, ho1, hb⟩; refine ⟨_, rfl, ?_⟩; have n0_ := am (Kd.R_below (zq4 HO1723.out) hb); have n1_ := am (Kd.V_mono (Kd.V_told (Kd.V_told (Kd.V_old (zq3 HO1727.out) hb) (Kd.R_base ho0)) (Kd.R_base ho1)) (fun _ h_ => h_.1)); have n2_ := am (Kd.R_below (zq4 HO1730.out) hb); have n3_ := am (Kd.R_lower ho0 (below_size (zb1 GE1701.out))); have n4_ := am (Kd.R_lower ho1 (below_size (zb1 GE1701.out))); have n5_ := am (blk_below (g := gb1701) (o := .cells #[.bool false, .slice none 0 0, .slice none 0 0] 24 (0, 0)) (zq2 BK1701.out) hb); have n6_ := am (below_step (zb1 GE1701.out) hb); clear HO1723 HO1727 HO1730 BK1701 HB; have HO1723 := n0_; have HO1727 := n1_; have HO1730 := n2_; have HO1734 := n3_; have HO1737 := n4_; have BK1701 := n5_; have HB := n6_; clear n0_ n1_ n2_ n3_ n4_ n5_ n6_; (try clear ho1)) | ((with_reducible refine gate_dst (N := 4) rfl ?_); refine box_event ?hg (N := 4) ?hd (cs := #[.bool false, .slice none 0 0, .slice none 0 0]) (t := 24) ?hr ?_; (case hd => rfl); (case hg => rfl); (case hr => exact zr); intro gb1739 hg w29 hbox hb; have n0_ := am (Kd.R_below (zq4 HO1723.out) hb); have n1_ := am (Kd.V_below (Kd.V_elderB (zq3 HO1727.out) gb1739 (Nat.le_of_eq hg.symm)) hb); have n2_ := am (Kd.R_below (zq4 HO1730.out) hb); have n3_ := am (Kd.R_below (zq4 HO1734.out) hb); have n4_ := am (Kd.R_below (zq4 HO1737.out) hb); have n5_ := am (blk_below (g := gb1701) (o := .cells #[.bool false, .slice none 0 0, .slice none 0 0] 24 (0, 0)) (zq2 BK1701.out) hb); have n6_ := am (below_step (zb1 GE1701.out) hb); have n7_ := am (hbox); have n8_ := am ((by rw [hg]; exact (below_size (zb1 GE1701.out)) : w.heap.size ≤ gb1739)); have n9_ := am ((by rw [hg]; exact (below_size (zb1 GE1701.out)) : w.heap.size ≤ gb1739)); have n10_ := am ((by rw [hg]; exact Nat.ne_of_lt (blk_lt (g := gb1701) (o := .cells #[.bool false, .slice none 0 0, .slice none 0 0] 24 (0, 0)) (zq2 BK1701.out)) : gb1701 ≠ gb1739)); have n11_ := am ((by rw [hg]; exact Nat.ne_of_gt (blk_lt (g := gb1701) (o := .cells #[.bool false, .slice none 0 0, .slice none 0 0] 24 (0, 0)) (zq2 BK1701.out)) : gb1739 ≠ gb1701)); clear HO1723 HO1727 HO1730 HO1734 HO1737 BK1701 HB; have HO1723 := n0_; have HO1727 := n1_; have HO1730 := n2_; have HO1734 := n3_; have HO1737 := n4_; have BK1701 := n5_; have HB := n6_; have BK1739 := n7_; have GW1739 := n8_; have GE1739 := n9_; have NB1701_1739 := n10_; have NB1739_1701 := n11_; clear n0_ n1_ n2_ n3_ n4_ n5_ n6_ n7_ n8_ n9_ n10_ n11_ hb hbox hg; have hnb30 := NB1739_1701.out; have hnc30 := NB1701_1739.out; have hcz31_0 : w29.cell? ⟨gb1739, 0, none⟩ = some (.bool false) := (blk_cell BK1739.out 0).trans rfl; have hcz31_1 : w29.cell? ⟨gb1739, 1, none⟩ = some (.slice none 0 0) := (blk_cell BK1739.out 1).trans rfl; have hcz31_2 : w29.cell? ⟨gb1739, 2, none⟩ = some (.slice none 0 0) := (blk_cell BK1739.out 2).trans rfl; have hfz31_0 := blk_frozen BK1739.out 0; have hfz31_1 := blk_frozen BK1739.out 1; have hfz31_2 := blk_frozen BK1739.out 2; obtain ⟨Ao32, co32, eo32⟩ := Kd.R_slice HO1734.out; subst eo32; obtain ⟨Ao33, co33, eo33⟩ := Kd.R_slice HO1737.out; subst eo33; have hcz34_0 : w29.cell? ⟨gb1701, 0, none⟩ = some (.bool false) := (blk_cell BK1701.out 0).trans rfl; have hcz34_1 : w29.cell? ⟨gb1701, 1, none⟩ = some (.slice none 0 0) := (blk_cell BK1701.out 1).trans rfl; have hcz34_2 : w29.cell? ⟨gb1701, 2, none⟩ = some (.slice none 0 0) := (blk_cell BK1701.out 2).trans rfl; have hfz34_0 := blk_frozen BK1701.out 0; have hfz34_1 := blk_frozen BK1701.out 1; have hfz34_2 := blk_frozen BK1701.out 2))
  refine bodyPost_ret (results_cell_row rfl _ _ gb1701 24 #[.bool t1731, .slice Ao32 t1732.length co32, .slice Ao33 t1735.length co33] (0, 0) _ rfl (by (with_reducible repeat (first | refine blk_drewN ?_ _ | refine blk_drew ?_ | refine blk_alloc ?_ _)); refine blk_put (cs := #[.bool t1731, .slice Ao32 t1732.length co32, .slice none 0 0]) ?_ 2 _ rfl; (with_reducible repeat (first | refine blk_drewN ?_ _ | refine blk_drew ?_ | refine blk_alloc ?_ _)); refine blk_put (cs := #[.bool t1731, .slice none 0 0, .slice none 0 0]) ?_ 1 _ rfl; (with_reducible repeat (first | refine blk_drewN ?_ _ | refine blk_drew ?_ | refine blk_alloc ?_ _)); refine blk_put (cs := #[.bool false, .slice none 0 0, .slice none 0 0]) ?_ 0 _ rfl; (with_reducible repeat (first | refine blk_drewN ?_ _ | refine blk_drew ?_ | refine blk_alloc ?_ _)); refine blk_far ?_ NB1701_1739.out _; (with_reducible repeat (first | refine blk_drewN ?_ _ | refine blk_drew ?_ | refine blk_alloc ?_ _)); refine blk_far ?_ NB1701_1739.out _; (with_reducible repeat (first | refine blk_drewN ?_ _ | refine blk_drew ?_ | refine blk_alloc ?_ _)); refine blk_far ?_ NB1701_1739.out _; (with_reducible repeat (first | refine blk_drewN ?_ _ | refine blk_drew ?_ | refine blk_alloc ?_ _)); exact BK1701.out) Tryd.underlying24 rfl (by kernel_rfl)) rfl ?_
  exact ⟨_, _, zq9, by (with_reducible repeat (first | apply Kd.R_alloc | apply Kd.R_drewN | apply Kd.R_drew)); exact Kd.R_mono (Kd.R_far (p := ⟨gb1701, 2, none⟩) (Kd.R_far (p := ⟨gb1701, 1, none⟩) (Kd.R_far (p := ⟨gb1701, 0, none⟩) (Kd.R_far (p := ⟨gb1739, 2, none⟩) (Kd.R_far (p := ⟨gb1739, 1, none⟩) (Kd.R_far (p := ⟨gb1739, 0, none⟩) (Kd.R_types (Kd.R_types HO1734.out BK1739.out (by decide)) BK1701.out (by decide)) (fun _ hk => hk.1.2) (.bool t1731)) (fun _ hk => hk.1.2) (.slice Ao32 t1732.length co32)) (fun _ hk => hk.1.2) (.slice Ao33 t1735.length co33)) (fun _ hk => hk.2) (.bool t1731)) (fun _ hk => hk.2) (.slice Ao32 t1732.length co32)) (fun _ hk => hk.2) (.slice Ao33 t1735.length co33)) (fun _ hk => hk.1.1), by (with_reducible repeat (first | apply Kd.R_alloc | apply Kd.R_drewN | apply Kd.R_drew)); exact Kd.R_mono (Kd.R_far (p := ⟨gb1701, 2, none⟩) (Kd.R_far (p := ⟨gb1701, 1, none⟩) (Kd.R_far (p := ⟨gb1701, 0, none⟩) (Kd.R_far (p := ⟨gb1739, 2, none⟩) (Kd.R_far (p := ⟨gb1739, 1, none⟩) (Kd.R_far (p := ⟨gb1739, 0, none⟩) (Kd.R_types (Kd.R_types HO1737.out BK1739.out (by decide)) BK1701.out (by decide)) (fun _ hk => hk.1.2) (.bool t1731)) (fun _ hk => hk.1.2) (.slice Ao32 t1732.length co32)) (fun _ hk => hk.1.2) (.slice Ao33 t1735.length co33)) (fun _ hk => hk.2) (.bool t1731)) (fun _ hk => hk.2) (.slice Ao32 t1732.length co32)) (fun _ hk => hk.2) (.slice Ao33 t1735.length co33)) (fun _ hk => hk.1.1), zb2 GE1701.out GE1739.out⟩
def lw_NumberIntsRoundTrip.f (k : Nat) (a0 : Int) : Option (Bool) := (number_FromInt.f k a0).bind fun bt1740 => ((number_ToInt.f k bt1740.1 bt1740.2.1 bt1740.2.2).bind fun bt1748 => ((rf_FromInt.f k a0).bind fun bt1750 => ((lw_same.f k bt1740.1 bt1740.2.1 bt1740.2.2 bt1750.1 bt1750.2.1 bt1750.2.2).bind fun t1757 => (if t1757 = true then ((number_Check.f k bt1740.1 bt1740.2.1 bt1740.2.2).bind fun t1758 => (if t1758 = 0 then (if bt1748.2 = 0 then (if bt1748.1 = a0 then ((lw_counted.f k).bind fun t1759 => (some t1759)) else (some false)) else (some false)) else (some false))) else (some false)))))
theorem lw_NumberIntsRoundTrip.mono : ∀ a0 k, LeO (lw_NumberIntsRoundTrip.f k a0) (lw_NumberIntsRoundTrip.f (k + 1) a0) := by
 intro a0 k
 unfold lw_NumberIntsRoundTrip.f
 have m0 := @lw_counted.mono
 have m1 := @lw_same.mono
 have m2 := @rf_FromInt.mono
 have m3 := @number_Check.mono
 have m4 := @number_FromInt.mono
 have m5 := @number_ToInt.mono
 exact zm
def lw_NumberIntsRoundTrip.T3 : Bool × List (List Nat × List Nat) := (true, [([], []), ([], []), ([1], [1]), ([0, 2, 2], [0, 2]), ([3, 3], [3]), ([4], [4]), ([5, 4, 4], [4, 5]), ([6, 4], [4, 6]), ([4, 7], [4, 7]), ([8, 6], [8]), ([9], [9]), ([10, 9], [9, 10]), ([9, 11], [9, 11]), ([12, 9], [12]), ([13], [13]), ([13], [13]), ([14, 15, 13], [13, 14, 15]), ([13, 16], [13, 16]), ([17, 13], [17]), ([18, 18], [18]), ([18, 19], [18, 19]), ([20, 19, 0, 1, 2, 3, 4, 5, 6, 7, 8, 9, 10, 11, 12, 13, 14, 15, 16, 17, 18, 19, 20], [20])])
def lw_NumberIntsRoundTrip.B3 : List Nat := [0, 0, 2, 7, 15, 31, 63, 127, 255, 511, 1023, 2047, 4095, 8191, 16383, 16383, 65535, 131071, 262143, 524287, 1048575, 2097151]
theorem lw_NumberIntsRoundTrip.tab3 : rtab .any (opsOf Tryd.f9 3) = lw_NumberIntsRoundTrip.T3 := by kernel_rfl
theorem lw_NumberIntsRoundTrip.bits3 : waitsOk lw_NumberIntsRoundTrip.T3.2 lw_NumberIntsRoundTrip.B3 = true := by kernel_rfl
set_option maxHeartbeats 8000000 in
set_option maxRecDepth 100000 in
theorem lw_NumberIntsRoundTrip.calls (k : Nat) (a0 : Int) (r : Bool) (w : World) (h : lw_NumberIntsRoundTrip.f k a0 = some r) (hr : r = true := by assumption) :
  Calls Tryd.prog 9 #[.int .i64 a0] w fun e w' => e = .returned (.bool r) ∧ Below w.heap.size w w' := by
 have hu24 := Tryd.underlying24
 have HB := am (Below.refl w.heap.size w)
 have H := h
 unfold lw_NumberIntsRoundTrip.f at H
 clear h
 replace H := zi H
 obtain ⟨⟨t1740, t1741, t1744⟩, A20, H⟩ := H
 try dsimp only at H
 have A2 := am A20
 clear A20
 replace H := zi H
 obtain ⟨⟨t1748, t1749⟩, A30, H⟩ := H
 try dsimp only at H
 have A3 := am A30
 clear A30
 replace H := zi H
 obtain ⟨⟨t1750, t1751, t1754⟩, A40, H⟩ := H
 try dsimp only at H
 have A4 := am A40
 clear A40
 replace H := zi H
 obtain ⟨t1757, A50, H⟩ := H
 have A5 := am A50
 clear A50
 by_cases c6 : t1757 = true
 ·subst c6
  have H1 : ((number_Check.f k t1740 t1741 t1744).bind fun t1758 => (if t1758 = 0 then (if t1749 = 0 then (if t1748 = a0 then ((lw_counted.f k).bind fun t1759 => (some t1759)) else (some false)) else (some false)) else (some false))) = some r := by rw [if_pos rfl] at H; exact H
  clear H
  have H := H1
  clear H1
  replace H := zi H
  obtain ⟨t1758, A70, H⟩ := H
  have A7 := am A70
  clear A70
  by_cases c8 : t1758 = 0
  ·rw [if_pos c8] at H
   have c8b0 : (t1758 == 0) = true := beq_iff_eq.mpr c8
   have c8b1 : (t1758 != 0) = false := bne_eq_false_iff_eq.mpr c8
   clear c8
   by_cases c9 : t1749 = 0
   ·rw [if_pos c9] at H
    have c9b0 : (t1749 == 0) = true := beq_iff_eq.mpr c9
    have c9b1 : (t1749 != 0) = false := bne_eq_false_iff_eq.mpr c9
    clear c9
    by_cases c10 : t1748 = a0
    ·rw [if_pos c10] at H
     have c10b0 : (t1748 == a0) = true := beq_iff_eq.mpr c10
     have c10b1 : (t1748 != a0) = false := bne_eq_false_iff_eq.mpr c10
     clear c10
     replace H := zi H
     obtain ⟨t1759, A110, H⟩ := H
     have A11 := am A110
     clear A110
     obtain rfl := Option.some.inj H
     go_enter Tryd.func9, Tryd.ntmps9
     try go_wp2_with (first | ((with_reducible refine gate_callee (f := 31) rfl ?_); refine goesL_ (some 7) rfl rfl Tryd.func31 (by kernel_rfl) rfl #[.int .i64 a0] rfl zq5 ?_; (with_reducible refine (number_FromInt.calls k a0 t1740 t1741 t1744 _ A2.out).mono ?_); rintro e w12 ⟨v1742, v1745, rfl, ho0, ho1, hb⟩; refine ⟨_, rfl, ?_⟩; have n0_ := am (Kd.R_lower ho0 (below_size zq1)); have n1_ := am (Kd.R_lower ho1 (below_size zq1)); have n2_ := am (below_step zq1 hb); clear HB; have HO1743 := n0_; have HO1746 := n1_; have HB := n2_; clear n0_ n1_ n2_; (try clear ho1)) | ((with_reducible refine gate_dst (N := 3) rfl ?_); refine box_event ?hg (N := 3) ?hd (cs := #[.bool false, .slice none 0 0, .slice none 0 0]) (t := 24) ?hr ?_; (case hd => rfl); (case hg => rfl); (case hr => exact zr); intro gb1747 hg w13 hbox hb; have n0_ := am (Kd.R_below (zq4 HO1743.out) hb); have n1_ := am (Kd.R_below (zq4 HO1746.out) hb); have n2_ := am (below_step zq1 hb); have n3_ := am (hbox); have n4_ := am ((by rw [hg]; exact (below_size zq1) : w.heap.size ≤ gb1747)); have n5_ := am ((by rw [hg]; exact (below_size zq1) : w.heap.size ≤ gb1747)); clear HO1743 HO1746 HB; have HO1743 := n0_; have HO1746 := n1_; have HB := n2_; have BK1747 := n3_; have GW1747 := n4_; have GE1747 := n5_; clear n0_ n1_ n2_ n3_ n4_ n5_ hb hbox hg; have hcz14_0 : w13.cell? ⟨gb1747, 0, none⟩ = some (.bool false) := (blk_cell BK1747.out 0).trans rfl; have hcz14_1 : w13.cell? ⟨gb1747, 1, none⟩ = some (.slice none 0 0) := (blk_cell BK1747.out 1).trans rfl; have hcz14_2 : w13.cell? ⟨gb1747, 2, none⟩ = some (.slice none 0 0) := (blk_cell BK1747.out 2).trans rfl; have hfz14_0 := blk_frozen BK1747.out 0; have hfz14_1 := blk_frozen BK1747.out 1; have hfz14_2 := blk_frozen BK1747.out 2; obtain ⟨Ao15, co15, eo15⟩ := Kd.R_slice HO1743.out; subst eo15; obtain ⟨Ao16, co16, eo16⟩ := Kd.R_slice HO1746.out; subst eo16) | ((with_reducible refine gate_store (t := 24) (p := 3) rfl ?_); refine store_event (t := 24) (p := 3) (v := ?vo_w17) (w1 := (((w13.setCell ⟨gb1747, 0, none⟩ (.bool t1740)).setCell ⟨gb1747, 1, none⟩ (.slice Ao15 t1741.length co15)).setCell ⟨gb1747, 2, none⟩ (.slice Ao16 t1744.length co16))) ?hg ?ho ?hn ?hr ?_; (case ho => rfl); (case hg => rfl); (case hn => rfl); (case hr => exact zr); intro w17 hw; have n0_ : Aside0 (Kd.R (Kd.int .u32) 55 w17 w.heap.size (fun k_ => some k_ ≠ (.slice Ao16 t1744.length co16 : Value).ownBlock) (.slice Ao15 t1741.length co15) t1741) := ⟨(by rw [hw]; exact (by (with_reducible repeat (first | apply Kd.R_alloc | apply Kd.R_drewN | apply Kd.R_drew)); exact Kd.R_mono (Kd.R_far (p := ⟨gb1747, 2, none⟩) (Kd.R_far (p := ⟨gb1747, 1, none⟩) (Kd.R_far (p := ⟨gb1747, 0, none⟩) (Kd.R_types HO1743.out BK1747.out (by decide)) (fun _ hk => hk.2) (.bool t1740)) (fun _ hk => hk.2) (.slice Ao15 t1741.length co15)) (fun _ hk => hk.2) (.slice Ao16 t1744.length co16)) (fun _ hk => hk.1)))⟩; have n1_ : Aside0 (Kd.R (Kd.int .u32) 55 w17 w.heap.size (fun k_ => some k_ ≠ (.slice Ao15 t1741.length co15 : Value).ownBlock) (.slice Ao16 t1744.length co16) t1744) := ⟨(by rw [hw]; exact (by (with_reducible repeat (first | apply Kd.R_alloc | apply Kd.R_drewN | apply Kd.R_drew)); exact Kd.R_mono (Kd.R_far (p := ⟨gb1747, 2, none⟩) (Kd.R_far (p := ⟨gb1747, 1, none⟩) (Kd.R_far (p := ⟨gb1747, 0, none⟩) (Kd.R_types HO1746.out BK1747.out (by decide)) (fun _ hk => hk.2) (.bool t1740)) (fun _ hk => hk.2) (.slice Ao15 t1741.length co15)) (fun _ hk => hk.2) (.slice Ao16 t1744.length co16)) (fun _ hk => hk.1)))⟩; have n2_ : Aside0 (w17.heap[gb1747]? = some (.cells #[.bool t1740, .slice Ao15 t1741.length co15, .slice Ao16 t1744.length co16] 24 (0, 0))) := ⟨(by rw [hw]; exact (by (with_reducible repeat (first | refine blk_drewN ?_ _ | refine blk_drew ?_ | refine blk_alloc ?_ _)); refine blk_put (cs := #[.bool t1740, .slice Ao15 t1741.length co15, .slice none 0 0]) ?_ 2 _ rfl; (with_reducible repeat (first | refine blk_drewN ?_ _ | refine blk_drew ?_ | refine blk_alloc ?_ _)); refine blk_put (cs := #[.bool t1740, .slice none 0 0, .slice none 0 0]) ?_ 1 _ rfl; (with_reducible repeat (first | refine blk_drewN ?_ _ | refine blk_drew ?_ | refine blk_alloc ?_ _)); refine blk_put (cs := #[.bool false, .slice none 0 0, .slice none 0 0]) ?_ 0 _ rfl; (with_reducible repeat (first | refine blk_drewN ?_ _ | refine blk_drew ?_ | refine blk_alloc ?_ _)); exact BK1747.out))⟩; have n3_ : Aside0 (Below w.heap.size w w17) := ⟨(by rw [hw]; exact (zb1 GE1747.out))⟩; clear hw HO1743 HO1746 BK1747 HB; have HO1743 := n0_; have HO1746 := n1_; have BK1747 := n2_; have HB := n3_; clear n0_ n1_ n2_ n3_; have hcz18_0 : w17.cell? ⟨gb1747, 0, none⟩ = some (.bool t1740) := (blk_cell BK1747.out 0).trans rfl; have hcz18_1 : w17.cell? ⟨gb1747, 1, none⟩ = some (.slice Ao15 t1741.length co15) := (blk_cell BK1747.out 1).trans rfl; have hcz18_2 : w17.cell? ⟨gb1747, 2, none⟩ = some (.slice Ao16 t1744.length co16) := (blk_cell BK1747.out 2).trans rfl; have hfz18_0 := blk_frozen BK1747.out 0; have hfz18_1 := blk_frozen BK1747.out 1; have hfz18_2 := blk_frozen BK1747.out 2) | ((with_reducible refine gate_callee (f := 32) rfl ?_); refine goesL_ (some 10) rfl rfl Tryd.func32 (by kernel_rfl) rfl #[.agg #[.bool t1740, .slice Ao15 t1741.length co15, .slice Ao16 t1744.length co16]] rfl zq5 ?_; (with_reducible refine (number_ToInt.calls k t1740 (fun k_ => some k_ = (.slice Ao15 t1741.length co15 : Value).ownBlock) _ _ t1741 (fun k_ => some k_ = (.slice Ao16 t1744.length co16 : Value).ownBlock) _ _ t1744 t1748 t1749 _ ?side1 ?side2 A3.out).mono ?_); (case side1 => exact Kd.R_V (Kd.R_tight rfl (Kd.R_types (HO1743.out) BK1747.out (by decide)))); (case side2 => exact Kd.R_V (Kd.R_tight rfl (Kd.R_types (HO1746.out) BK1747.out (by decide)))); rintro e w19 ⟨rfl, hb⟩; refine ⟨_, rfl, ?_⟩; have n0_ := am (Kd.R_below (zq4 HO1743.out) hb); have n1_ := am (Kd.R_below (zq4 HO1746.out) hb); have n2_ := am (blk_below (g := gb1747) (o := .cells #[.bool t1740, .slice Ao15 t1741.length co15, .slice Ao16 t1744.length co16] 24 (0, 0)) (zq2 BK1747.out) hb); have n3_ := am (below_step (zb1 GE1747.out) hb); clear HO1743 HO1746 BK1747 HB; have HO1743 := n0_; have HO1746 := n1_; have BK1747 := n2_; have HB := n3_; clear n0_ n1_ n2_ n3_; (try clear hb); (try clear hb2); (try clear hk); (try clear hi)))
     have n0_ := am (Kd.R_drew HO1743.out)
     have n1_ := am (Kd.R_drew HO1746.out)
     have n2_ := am (blk_drew BK1747.out)
     have n3_ := am (below_drew1 HB.out)
     clear HO1743 HO1746 BK1747 HB
     have HO1743 := n0_
     have HO1746 := n1_
     have BK1747 := n2_
     have HB := n3_
     clear n0_ n1_ n2_ n3_
     refine start_ (n := 22) (S := fun w' => w'.cell? ⟨gb1747, 0, none⟩ = some (.bool t1740) ∧ w'.cell? ⟨gb1747, 1, none⟩ = some (.slice Ao15 t1741.length co15) ∧ w'.cell? ⟨gb1747, 2, none⟩ = some (.slice Ao16 t1744.length co16)) (ds := []) #[false, false, false, false, false, false, false, false, false, false, false, false, false, false, false, false, false, false, false, false, false, false] (by kernel_rfl) rfl rfl ⟨(blk_cell BK1747.out 0).trans rfl, (blk_cell BK1747.out 1).trans rfl, (blk_cell BK1747.out 2).trans rfl⟩ (fun hHeld => ?_); refine with_tabW lw_NumberIntsRoundTrip.tab3 lw_NumberIntsRoundTrip.bits3 (fun HT_ HW_ => ?_)
     generalize w19.drew = w20 at HO1743 HO1746 BK1747 HB hHeld ⊢
     refine pure_ (i := 1) (N := some 14) (v := ?_) (a' := ?_) #[false, true, false, false, false, false, false, false, false, false, false, false, false, false, false, false, false, false, false, false, false, false] rfl rfl (any_of HT_.out (by kernel_rfl)) (fun _ _ _ h => h) (Or.inl ⟨by rfl, ?_⟩) ?_ ?_
     rotate_left
     ·intro w'
      go_simp
      with_reducible rfl
     rotate_left
     ·simp only [Act.put, List.setIfInBounds_toArray, List.set_cons_zero, List.set_cons_succ, i64_w, i32_w]
      rfl
     refine take_ (i := 0) (N := some 13) (v := ?_) (a' := ?_) #[true, true, false, false, false, false, false, false, false, false, false, false, false, false, false, false, false, false, false, false, false, false] rfl rfl (take_ofW HT_.out HW_.out (by kernel_rfl)) (fun _ _ _ h => h) (Or.inl ⟨by rfl, ?_⟩) hHeld ?_ ?_
     rotate_left
     ·rintro w' ⟨s0, s1, s2⟩
      go_simp
      with_reducible rfl
     rotate_left
     ·simp only [Act.put, List.setIfInBounds_toArray, List.set_cons_zero, List.set_cons_succ, i64_w, i32_w]
      rfl
     refine one_ (i := 2) (N := some 15) #[true, true, true, false, false, false, false, false, false, false, false, false, false, false, false, false, false, false, false, false, false, false] rfl rfl (one_of HT_.out (by kernel_rfl)) (by decide) (fun K hK => ?_)
     refine goes_ Tryd.func33 (by kernel_rfl) rfl #[.int .i64 a0] (by rfl) rfl rfl zq5 ?_
     with_reducible refine (rf_FromInt.calls k a0 t1750 t1751 t1754 _ A4.out).mono ?_
     rintro e w21 ⟨v1752, v1755, rfl, ho0, ho1, hb⟩
     refine ⟨_, rfl, ?_⟩
     have n0_ := am (Kd.R_mono (Kd.R_told (Kd.R_told (Kd.R_old (zq4 HO1743.out) hb) (Kd.R_base ho0)) (Kd.R_base ho1)) (fun _ h_ => h_.1))
     have n1_ := am (Kd.R_mono (Kd.R_told (Kd.R_told (Kd.R_old (zq4 HO1746.out) hb) (Kd.R_base ho0)) (Kd.R_base ho1)) (fun _ h_ => h_.1))
     have n2_ := am (Kd.R_lower (Kd.R_new' (Kd.R_new' ho0 (Kd.R_lt (zq4 HO1743.out))) (Kd.R_lt (zq4 HO1746.out))) (below_size (zb1 GE1747.out)))
     have n3_ := am (Kd.R_lower (Kd.R_new' (Kd.R_new' ho1 (Kd.R_lt (zq4 HO1743.out))) (Kd.R_lt (zq4 HO1746.out))) (below_size (zb1 GE1747.out)))
     have n4_ := am (blk_below (g := gb1747) (o := .cells #[.bool t1740, .slice Ao15 t1741.length co15, .slice Ao16 t1744.length co16] 24 (0, 0)) (zq2 BK1747.out) hb)
     have n5_ := am (below_step (zb1 GE1747.out) hb)
     clear HO1743 HO1746 BK1747 HB
     have HO1743 := n0_
     have HO1746 := n1_
     have HO1753 := n2_
     have HO1756 := n3_
     have BK1747 := n4_
     have HB := n5_
     clear n0_ n1_ n2_ n3_ n4_ n5_
     (try clear hb)
     (try clear hb2)
     (try clear hk)
     (try clear hi)
     (try clear ho0)
     (try clear ho1)
     obtain ⟨Ao22, co22, eo22⟩ := Kd.R_slice HO1753.out
     (first | subst eo22 | (injection eo22 with f1_ f2_ f3_; have f4_ := f1_.symm; have f5_ := f3_.symm; clear f1_ f2_ f3_; subst f4_; subst f5_))
     obtain ⟨Ao23, co23, eo23⟩ := Kd.R_slice HO1756.out
     (first | subst eo23 | (injection eo23 with f1_ f2_ f3_; have f4_ := f1_.symm; have f5_ := f3_.symm; clear f1_ f2_ f3_; subst f4_; subst f5_))
     refine hK.out _ _ ⟨(blk_cell BK1747.out 0).trans rfl, (blk_cell BK1747.out 1).trans rfl, (blk_cell BK1747.out 2).trans rfl⟩ (fun hHeld => ?_)
     clear hK K
     refine norm_ (a' := ?_) ?_ ?_
     rotate_left
     ·show Act.put _ (some 15) _ = _
      simp only [Act.put, List.setIfInBounds_toArray, List.set_cons_zero, List.set_cons_succ, i64_w, i32_w]
      rfl
     refine one_ (i := 3) (N := some 16) #[true, true, true, true, false, false, false, false, false, false, false, false, false, false, false, false, false, false, false, false, false, false] rfl rfl (one_of HT_.out (by kernel_rfl)) (by decide) (fun K hK => ?_)
     refine goes_ Tryd.func20 (by kernel_rfl) rfl #[.agg #[.bool t1740, .slice Ao15 t1741.length co15, .slice Ao16 t1744.length co16], .agg #[.bool t1750, .slice Ao22 t1751.length co22, .slice Ao23 t1754.length co23]] (by rfl) rfl rfl zq5 ?_
     with_reducible refine (lw_same.calls k t1740 _ _ t1741 _ _ t1744 t1750 _ _ t1751 _ _ t1754 true _ ?side1 ?side2 ?side3 ?side4 ?side5 ?side6 ?side7 ?side8 A5.out).mono ?_
     (case side1 => exact zc ((Kd.R_reads' HO1743.out).2.2))
     (case side2 => exact (Kd.R_reads' HO1743.out).2.1)
     (case side3 => exact zc ((Kd.R_reads' HO1746.out).2.2))
     (case side4 => exact (Kd.R_reads' HO1746.out).2.1)
     (case side5 => exact zc ((Kd.R_reads' HO1753.out).2.2))
     (case side6 => exact (Kd.R_reads' HO1753.out).2.1)
     (case side7 => exact zc ((Kd.R_reads' HO1756.out).2.2))
     (case side8 => exact (Kd.R_reads' HO1756.out).2.1)
     rintro e w24 ⟨rfl, hb⟩
     refine ⟨_, rfl, ?_⟩
     have n0_ := am (Kd.R_below (zq4 HO1743.out) hb)
     have n1_ := am (Kd.R_below (zq4 HO1746.out) hb)
     have n2_ := am (Kd.R_below (zq4 HO1753.out) hb)
     have n3_ := am (Kd.R_below (zq4 HO1756.out) hb)
     have n4_ := am (blk_below (g := gb1747) (o := .cells #[.bool t1740, .slice Ao15 t1741.length co15, .slice Ao16 t1744.length co16] 24 (0, 0)) (zq2 BK1747.out) hb)
     have n5_ := am (below_step (zb1 GE1747.out) hb)
     clear HO1743 HO1746 HO1753 HO1756 BK1747 HB
     have HO1743 := n0_
     have HO1746 := n1_
     have HO1753 := n2_
     have HO1756 := n3_
     have BK1747 := n4_
     have HB := n5_
     clear n0_ n1_ n2_ n3_ n4_ n5_
     (try clear hb)
     (try clear hb2)
     (try clear hk)
     (try clear hi)
     refine hK.out _ _ ⟨(blk_cell BK1747.out 0).trans rfl, (blk_cell BK1747.out 1).trans rfl, (blk_cell BK1747.out 2).trans rfl⟩ (fun hHeld => ?_)
     clear hK K
     refine norm_ (a' := ?_) ?_ ?_
     rotate_left
     ·show Act.put _ (some 16) _ = _
      simp only [Act.put, List.setIfInBounds_toArray, List.set_cons_zero, List.set_cons_succ, i64_w, i32_w]
      rfl
     refine pure_ (i := 4) (N := some 17) (v := ?_) (a' := ?_) #[true, true, true, true, true, false, false, false, false, false, false, false, false, false, false, false, false, false, false, false, false, false] rfl rfl (any_of HT_.out (by kernel_rfl)) (fun _ _ _ h => h) (Or.inl ⟨by rfl, ?_⟩) ?_ ?_
     rotate_left
     ·intro w'
      go_simp
      with_reducible rfl
     rotate_left
     ·simp only [Act.put, List.setIfInBounds_toArray, List.set_cons_zero, List.set_cons_succ, i64_w, i32_w]
      rfl
     refine take_ (i := 5) (N := some 18) (v := ?_) (a' := ?_) #[true, true, true, true, true, true, false, false, false, false, false, false, false, false, false, false, false, false, false, false, false, false] rfl rfl (take_ofW HT_.out HW_.out (by kernel_rfl)) (fun _ _ _ h => h) (Or.inl ⟨by rfl, ?_⟩) hHeld ?_ ?_
     rotate_left
     ·rintro w' ⟨s0, s1, s2⟩
      go_simp
      with_reducible rfl
     rotate_left
     ·simp only [Act.put, List.setIfInBounds_toArray, List.set_cons_zero, List.set_cons_succ, i64_w, i32_w]
      rfl
     refine one_ (i := 6) (N := some 19) #[true, true, true, true, true, true, true, false, false, false, false, false, false, false, false, false, false, false, false, false, false, false] rfl rfl (one_of HT_.out (by kernel_rfl)) (by decide) (fun K hK => ?_)
     refine goes_ Tryd.func14 (by kernel_rfl) rfl #[.agg #[.bool t1740, .slice Ao15 t1741.length co15, .slice Ao16 t1744.length co16]] (by rfl) rfl rfl zq5 ?_
     with_reducible refine (number_Check.calls k t1740 _ _ t1741 _ _ t1744 t1758 _ ?side1 ?side2 ?side3 ?side4 A7.out).mono ?_
     (case side1 => exact zc ((Kd.R_reads' HO1743.out).2.2))
     (case side2 => exact (Kd.R_reads' HO1743.out).2.1)
     (case side3 => exact zc ((Kd.R_reads' HO1746.out).2.2))
     (case side4 => exact (Kd.R_reads' HO1746.out).2.1)
     rintro e w25 ⟨rfl, hb⟩
     refine ⟨_, rfl, ?_⟩
     have n0_ := am (Kd.R_below (zq4 HO1743.out) hb)
     have n1_ := am (Kd.R_below (zq4 HO1746.out) hb)
     have n2_ := am (Kd.R_below (zq4 HO1753.out) hb)
     have n3_ := am (Kd.R_below (zq4 HO1756.out) hb)
     have n4_ := am (blk_below (g := gb1747) (o := .cells #[.bool t1740, .slice Ao15 t1741.length co15, .slice Ao16 t1744.length co16] 24 (0, 0)) (zq2 BK1747.out) hb)
     have n5_ := am (below_step (zb1 GE1747.out) hb)
     clear HO1743 HO1746 HO1753 HO1756 BK1747 HB
     have HO1743 := n0_
     have HO1746 := n1_
     have HO1753 := n2_
     have HO1756 := n3_
     have BK1747 := n4_
     have HB := n5_
     clear n0_ n1_ n2_ n3_ n4_ n5_
     (try clear hb)
     (try clear hb2)
     (try clear hk)
     (try clear hi)
     refine hK.out _ _ ⟨(blk_cell BK1747.out 0).trans rfl, (blk_cell BK1747.out 1).trans rfl, (blk_cell BK1747.out 2).trans rfl⟩ (fun hHeld => ?_)
     clear hK K
     refine norm_ (a' := ?_) ?_ ?_
     rotate_left
     ·show Act.put _ (some 19) _ = _
      simp only [Act.put, List.setIfInBounds_toArray, List.set_cons_zero, List.set_cons_succ, i64_w, i32_w]
      rfl
     refine pure_ (i := 7) (N := some 20) (v := ?_) (a' := ?_) #[true, true, true, true, true, true, true, true, false, false, false, false, false, false, false, false, false, false, false, false, false, false] rfl rfl (any_of HT_.out (by kernel_rfl)) (fun _ _ _ h => h) (Or.inl ⟨by rfl, ?_⟩) ?_ ?_
     rotate_left
     ·intro w'
      go_simp
      with_reducible rfl
     rotate_left
     ·simp only [Act.put, List.setIfInBounds_toArray, List.set_cons_zero, List.set_cons_succ, i64_w, i32_w]
      rfl
     refine pure_ (i := 8) (N := some 21) (v := ?_) (a' := ?_) #[true, true, true, true, true, true, true, true, true, false, false, false, false, false, false, false, false, false, false, false, false, false] rfl rfl (any_of HT_.out (by kernel_rfl)) (fun _ _ _ h => h) (Or.inl ⟨by rfl, ?_⟩) ?_ ?_
     rotate_left
     ·intro w'
      go_simp
      with_reducible rfl
     rotate_left
     ·simp only [Act.put, List.setIfInBounds_toArray, List.set_cons_zero, List.set_cons_succ, i64_w, i32_w]
      rfl
     refine pure_ (i := 9) (N := some 22) (v := ?_) (a' := ?_) #[true, true, true, true, true, true, true, true, true, true, false, false, false, false, false, false, false, false, false, false, false, false] rfl rfl (any_of HT_.out (by kernel_rfl)) (fun _ _ _ h => h) (Or.inl ⟨by rfl, ?_⟩) ?_ ?_
     rotate_left
     ·intro w'
      go_simp
      with_reducible rfl
     rotate_left
     ·simp only [Act.put, List.setIfInBounds_toArray, List.set_cons_zero, List.set_cons_succ, i64_w, i32_w]
      rfl
     refine pure_ (i := 10) (N := some 23) (v := ?_) (a' := ?_) #[true, true, true, true, true, true, true, true, true, true, true, false, false, false, false, false, false, false, false, false, false, false] rfl rfl (any_of HT_.out (by kernel_rfl)) (fun _ _ _ h => h) (Or.inl ⟨by rfl, ?_⟩) ?_ ?_
     rotate_left
     ·intro w'
      go_simp
      with_reducible rfl
     rotate_left
     ·simp only [Act.put, List.setIfInBounds_toArray, List.set_cons_zero, List.set_cons_succ, i64_w, i32_w]
      rfl
     refine pure_ (i := 11) (N := some 24) (v := ?_) (a' := ?_) #[true, true, true, true, true, true, true, true, true, true, true, true, false, false, false, false, false, false, false, false, false, false] rfl rfl (any_of HT_.out (by kernel_rfl)) (fun _ _ _ h => h) (Or.inl ⟨by rfl, ?_⟩) ?_ ?_
     rotate_left
     ·intro w'
      go_simp
      with_reducible rfl
     rotate_left
     ·simp only [Act.put, List.setIfInBounds_toArray, List.set_cons_zero, List.set_cons_succ, i64_w, i32_w]
      rfl
     refine pure_ (i := 12) (N := some 25) (v := ?_) (a' := ?_) #[true, true, true, true, true, true, true, true, true, true, true, true, true, false, false, false, false, false, false, false, false, false] rfl rfl (any_of HT_.out (by kernel_rfl)) (fun _ _ _ h => h) (Or.inl ⟨by rfl, ?_⟩) ?_ ?_
     rotate_left
     ·intro w'
      go_simp
      with_reducible rfl
     rotate_left
     ·simp only [Act.put, List.setIfInBounds_toArray, List.set_cons_zero, List.set_cons_succ, i64_w, i32_w]
      rfl
     refine pure_ (i := 13) (N := some 26) (v := ?_) (a' := ?_) #[true, true, true, true, true, true, true, true, true, true, true, true, true, true, false, false, false, false, false, false, false, false] rfl rfl (any_of HT_.out (by kernel_rfl)) (fun _ _ _ h => h) (Or.inl ⟨by rfl, ?_⟩) ?_ ?_
     rotate_left
     ·intro w'
      go_simp
      with_reducible rfl
     rotate_left
     ·simp only [Act.put, List.setIfInBounds_toArray, List.set_cons_zero, List.set_cons_succ, i64_w, i32_w]
      rfl
     refine pure_ (i := 14) (N := some 27) (v := ?_) (a' := ?_) #[true, true, true, true, true, true, true, true, true, true, true, true, true, true, true, false, false, false, false, false, false, false] rfl rfl (any_of HT_.out (by kernel_rfl)) (fun _ _ _ h => h) (Or.inl ⟨by rfl, ?_⟩) ?_ ?_
     rotate_left
     ·intro w'
      go_simp
      with_reducible rfl
     rotate_left
     ·simp only [Act.put, List.setIfInBounds_toArray, List.set_cons_zero, List.set_cons_succ, i64_w, i32_w]
      rfl
     refine pure_ (i := 15) (N := some 28) (v := ?_) (a' := ?_) #[true, true, true, true, true, true, true, true, true, true, true, true, true, true, true, true, false, false, false, false, false, false] rfl rfl (any_of HT_.out (by kernel_rfl)) (fun _ _ _ h => h) (Or.inl ⟨by rfl, ?_⟩) ?_ ?_
     rotate_left
     ·intro w'
      go_simp
      with_reducible rfl
     rotate_left
     ·simp only [Act.put, List.setIfInBounds_toArray, List.set_cons_zero, List.set_cons_succ, i64_w, i32_w]
      rfl
     refine pure_ (i := 16) (N := some 29) (v := ?_) (a' := ?_) #[true, true, true, true, true, true, true, true, true, true, true, true, true, true, true, true, true, false, false, false, false, false] rfl rfl (any_of HT_.out (by kernel_rfl)) (fun _ _ _ h => h) (Or.inl ⟨by rfl, ?_⟩) ?_ ?_
     rotate_left
     ·intro w'
      go_simp
      with_reducible rfl
     rotate_left
     ·simp only [Act.put, List.setIfInBounds_toArray, List.set_cons_zero, List.set_cons_succ, i64_w, i32_w]
      rfl
     refine pure_ (i := 17) (N := some 30) (v := ?_) (a' := ?_) #[true, true, true, true, true, true, true, true, true, true, true, true, true, true, true, true, true, true, false, false, false, false] rfl rfl (any_of HT_.out (by kernel_rfl)) (fun _ _ _ h => h) (Or.inl ⟨by rfl, ?_⟩) ?_ ?_
     rotate_left
     ·intro w'
      go_simp
      with_reducible rfl
     rotate_left
     ·simp only [Act.put, List.setIfInBounds_toArray, List.set_cons_zero, List.set_cons_succ, i64_w, i32_w]
      rfl
     refine pure_ (i := 18) (N := some 31) (v := ?_) (a' := ?_) #[true, true, true, true, true, true, true, true, true, true, true, true, true, true, true, true, true, true, true, false, false, false] rfl rfl (any_of HT_.out (by kernel_rfl)) (fun _ _ _ h => h) (Or.inl ⟨by rfl, ?_⟩) ?_ ?_
     rotate_left
     ·intro w'
      go_simp
      with_reducible rfl
     rotate_left
     ·simp only [Act.put, List.setIfInBounds_toArray, List.set_cons_zero, List.set_cons_succ, i64_w, i32_w]
      rfl
     refine one_ (i := 19) (N := some 32) #[true, true, true, true, true, true, true, true, true, true, true, true, true, true, true, true, true, true, true, true, false, false] rfl rfl (one_of HT_.out (by kernel_rfl)) (by decide) (fun K hK => ?_)
     refine goes_ Tryd.func16 (by kernel_rfl) rfl #[] (by rfl) rfl rfl zq5 ?_
     with_reducible refine (lw_counted.calls k  t1759 _ A11.out).mono ?_
     rintro e w26 ⟨rfl, hb⟩
     refine ⟨_, rfl, ?_⟩
     have n0_ := am (Kd.R_below (zq4 HO1743.out) hb)
     have n1_ := am (Kd.R_below (zq4 HO1746.out) hb)
     have n2_ := am (Kd.R_below (zq4 HO1753.out) hb)
     have n3_ := am (Kd.R_below (zq4 HO1756.out) hb)
     have n4_ := am (blk_below (g := gb1747) (o := .cells #[.bool t1740, .slice Ao15 t1741.length co15, .slice Ao16 t1744.length co16] 24 (0, 0)) (zq2 BK1747.out) hb)
     have n5_ := am (below_step (zb1 GE1747.out) hb)
     clear HO1743 HO1746 HO1753 HO1756 BK1747 HB
     have HO1743 := n0_
     have HO1746 := n1_
     have HO1753 := n2_
     have HO1756 := n3_
     have BK1747 := n4_
     have HB := n5_
     clear n0_ n1_ n2_ n3_ n4_ n5_
     (try clear hb)
     (try clear hb2)
     (try clear hk)
     (try clear hi)
     refine hK.out _ _ ⟨(blk_cell BK1747.out 0).trans rfl, (blk_cell BK1747.out 1).trans rfl, (blk_cell BK1747.out 2).trans rfl⟩ (fun hHeld => ?_)
     clear hK K
     refine norm_ (a' := ?_) ?_ ?_
     rotate_left
     ·show Act.put _ (some 32) _ = _
      simp only [Act.put, List.setIfInBounds_toArray, List.set_cons_zero, List.set_cons_succ, i64_w, i32_w]
      rfl
     refine pure_ (i := 20) (N := some 33) (v := ?_) (a' := ?_) #[true, true, true, true, true, true, true, true, true, true, true, true, true, true, true, true, true, true, true, true, true, false] rfl rfl (any_of HT_.out (by kernel_rfl)) (fun _ _ _ h => h) (Or.inl ⟨by rfl, ?_⟩) ?_ ?_
     rotate_left
     ·intro w'
      go_simp
      with_reducible rfl
     rotate_left
     ·simp only [Act.put, List.setIfInBounds_toArray, List.set_cons_zero, List.set_cons_succ, i64_w, i32_w]
      rfl
     refine pure_ (i := 21) (N := some 2) (v := ?_) (a' := ?_) #[true, true, true, true, true, true, true, true, true, true, true, true, true, true, true, true, true, true, true, true, true, true] rfl rfl (any_of HT_.out (by kernel_rfl)) (fun _ _ _ h => h) (Or.inl ⟨by rfl, ?_⟩) ?_ ?_
     rotate_left
     ·intro w'
      go_simp
      with_reducible rfl
     rotate_left
     ·simp only [Act.put, List.setIfInBounds_toArray, List.set_cons_zero, List.set_cons_succ, i64_w, i32_w]
      rfl
     refine done_ (done_of HT_.out (by kernel_rfl)) ?_
     try go_wp2
     go_ret
     exact ⟨zq9, zb1 GE1747.out⟩
    ·rw [if_neg c10] at H
     have c10b0 : (t1748 == a0) = false := beq_eq_false_iff_ne.mpr c10
     have c10b1 : (t1748 != a0) = true := bne_iff_ne.mpr c10
     obtain rfl := Option.some.inj H
     cases hr
   ·rw [if_neg c9] at H
    have c9b0 : (t1749 == 0) = false := beq_eq_false_iff_ne.mpr c9
    have c9b1 : (t1749 != 0) = true := bne_iff_ne.mpr c9
    obtain rfl := Option.some.inj H
    cases hr
  ·rw [if_neg c8] at H
   have c8b0 : (t1758 == 0) = false := beq_eq_false_iff_ne.mpr c8
   have c8b1 : (t1758 != 0) = true := bne_iff_ne.mpr c8
   obtain rfl := Option.some.inj H
   cases hr
 ·replace c6 := Bool.eq_false_iff.mpr c6
  subst c6
  have H1 : (some false) = some r := by rw [if_neg (show ¬ (false = true) by decide)] at H; exact H
  clear H
  have H := H1
  clear H1
  obtain rfl := Option.some.inj H
  cases hr
end Go.Proofs.YtemnjgkicndmjaaDoor.Q
namespace Go.Proofs.YtemnjgkicndmjaaDoor.Q
open Go.RowKit Go.Proofs.YtemnjgkicndmjaaDoorW.PrintWords Go.Proofs.YtemnjgkicndmjaaDoorW.PrintLast Go.Proofs.YtemnjgkicndmjaaDoorW.PrintMore
set_option linter.unusedVariables false
theorem ev_rounds {α : Type} {g : Nat → Option α} {r : α} (h : Ev g r) : ∃ k, g k = some r := by
  obtain ⟨K, hK⟩ := h
  exact ⟨K, hK K (Nat.le_refl _)⟩
theorem sameLimbs_loop (a b : List Int) (hl : a.length = b.length) (hL : a.length ≤ 1099511627776) : ∀ (d i : Nat), d + i = a.length → a.take i = b.take i → Ev (fun k => lw_sameLimbs.l0 k a b (i : Int)) (decide (a = b)) := by
  intro d
  induction d with
  | zero =>
    intro i hd h
    rw [List.take_of_length_le (by omega), List.take_of_length_le (by omega)] at h
    refine Ev.step (f := fun _ => some true) (fun k => ?_) (Ev.eq (Ev.now _) (by rw [decide_eq_true h]))
    simp only [lw_sameLimbs.l0]
    rw [if_neg (by omega)]
  | succ d ih =>
    intro i hd h
    have g1 : (i : Int) < (a.length : Int) := by omega
    have g2 : (0 : Int) ≤ (i : Int) := by omega
    have g3 : (i : Int) < (b.length : Int) := by omega
    have gw : ∀ _ : Unit, wrap64 ((i : Int) + 1) = ((i + 1 : Nat) : Int) := fun _ => by rw [w64 (by omega) (by omega)]; omega
    by_cases c : a.getD i 0 = b.getD i 0
    · refine Ev.step (f := fun k => lw_sameLimbs.l0 k a b ((i + 1 : Nat) : Int)) (fun k => ?_) (ih (i + 1) (by omega) (by rw [take_succ' _ _ (by omega), take_succ' _ _ (by omega), h, c]))
      simp only [lw_sameLimbs.l0]
      rw [if_pos g1, if_pos g2, if_pos g3, rd_getD, rd_getD, if_pos c, gw ()]
    · refine Ev.step (f := fun _ => some false) (fun k => ?_) (Ev.eq (Ev.now _) (by rw [decide_eq_false]; rintro rfl; exact c rfl))
      simp only [lw_sameLimbs.l0]
      rw [if_pos g1, if_pos g2, if_pos g3, rd_getD, rd_getD, if_neg c]
theorem sameLimbs_ev (a b : List Int) (hL : a.length ≤ 1099511627776) : Ev (fun k => lw_sameLimbs.f k a b) (decide (a = b)) := by
  by_cases hl : a.length = b.length
  · refine Ev.congr (fun k => ?_) (sameLimbs_loop a b hl hL a.length 0 (by omega) rfl)
    unfold lw_sameLimbs.f
    rw [if_pos (by omega)]; rfl
  · refine Ev.ret fun k => ?_
    unfold lw_sameLimbs.f
    rw [if_neg (by omega), decide_eq_false (fun h => hl (by rw [h]))]
theorem same_ev (m : Bool) (a b : List Int) (n : Bool) (c d : List Int) (hL : a.length ≤ 1099511627776) (hM : b.length ≤ 1099511627776) : Ev (fun k => lw_same.f k m a b n c d) (decide (m = n ∧ a = c ∧ b = d)) := by
  by_cases h : m = n
  · refine Ev.congr (f := fun k => (lw_sameLimbs.f k a c).bind fun t518 => (if t518 = true then ((lw_sameLimbs.f k b d).bind fun t519 => (some t519)) else (some false))) (fun k => by unfold lw_same.f; rw [if_pos (by simpa using h)]) ?_
    refine Ev.bind (f := fun k t518 => (if t518 = true then ((lw_sameLimbs.f k b d).bind fun t519 => (some t519)) else (some false))) (sameLimbs_ev a c hL) ?_
    by_cases h2 : a = c
    · refine Ev.congr (f := fun k => (lw_sameLimbs.f k b d).bind fun t519 => (some t519)) (fun k => by rw [if_pos (decide_eq_true h2)]) ?_
      refine Ev.bind (f := fun _ t519 => some t519) (sameLimbs_ev b d hM) (Ev.eq (Ev.now _) ?_)
      simp [h, h2]
    · exact Ev.ret fun k => by rw [if_neg (by simp [h2])]; simp [h2]
  · exact Ev.ret fun k => by unfold lw_same.f; rw [if_neg (by simpa using h)]; simp [h]
theorem small_len {B : Int} (hB : 1 < B) {xs : List Int} (h : Lim B xs) (hn : Nrm xs) {n : Nat} (hv : val B xs < B ^ n) : xs.length ≤ n := by
  rcases Nat.lt_or_ge n xs.length with c | c
  · have h0 : xs ≠ [] := by rintro rfl; simp at c
    have h1 := val_ge (by omega) h hn h0
    have h2 := pow_mono' (show 0 < B by omega) (show n ≤ xs.length - 1 by omega)
    omega
  · exact c
end Go.Proofs.YtemnjgkicndmjaaDoor.Q
namespace Go.Proofs.YtemnjgkicndmjaaDoor.Q
open Go.RowKit Go.Proofs.YtemnjgkicndmjaaDoorW.PrintWords Go.Proofs.YtemnjgkicndmjaaDoorW.PrintLast Go.Proofs.YtemnjgkicndmjaaDoorW.PrintMore
attribute [local go_sem] max2_int min2_int max_two min_two max_three min_three max_four min_four
set_option linter.unusedVariables false
set_option linter.unusedSimpArgs false
def rf_trim.l0 : Nat → List Int → Option (List Int)
 | 0, _ => none
 | k + 1, x0 => if (x0.length : Int) > 0 then (if 0 ≤ (wrap64 ((x0.length : Int) - 1)) then (if (wrap64 ((x0.length : Int) - 1)) < (x0.length : Int) then (if (rd x0 (wrap64 ((x0.length : Int) - 1))) = 0 then (if (wrap64 ((x0.length : Int) - 1)) ≤ (x0.length : Int) then (rf_trim.l0 k (x0.take ((wrap64 ((x0.length : Int) - 1)) : Int).toNat)) else (none)) else (some x0)) else (none)) else (none)) else (some x0)
def rf_trim.f (k : Nat) (l0 : List Int) : Option (List Int) := rf_trim.l0 k l0
theorem rf_trim.mono_l : ∀ k, (∀ y0, LeO (rf_trim.l0 k y0) (rf_trim.l0 (k + 1) y0))
 | 0 => fun _ r h => by simp [rf_trim.l0] at h
 | k + 1 => by
  have ih0 := rf_trim.mono_l k
  ·intro y0
   unfold rf_trim.l0
   have m0 := ih0
   exact zm
theorem rf_trim.mono : ∀ a0 k, LeO (rf_trim.f k a0) (rf_trim.f (k + 1) a0) := by
 intro a0 k
 have ih0 := rf_trim.mono_l k
 unfold rf_trim.f
 have m0 := ih0
 exact zm
set_option maxHeartbeats 8000000 in
set_option maxRecDepth 100000 in
theorem rf_trim.calls (k : Nat) (P0_ : Nat → Prop) (A0 : Option Addr) (c0 : Nat) (l0 : List Int) (r : List Int) (w : World) (hs0 : Kd.V (Kd.int .i64) 3 w w.heap.size (fun k_ => P0_ k_) (.slice A0 l0.length c0) l0) (h : rf_trim.f k l0 = some r) :
  Calls Tryd.prog 96 #[.slice A0 l0.length c0] w fun e w' => ∃ v0_ : Value, e = .returned (v0_) ∧ Kd.V (Kd.int .i64) 3 w' w.heap.size (fun k_ => (P0_ k_ ∨ w.heap.size ≤ k_)) v0_ r ∧ Below w.heap.size w w' := by
 have HO0 := am (show Kd.V (Kd.int .i64) 3 w w.heap.size (fun k_ => (P0_ k_ ∨ w.heap.size ≤ k_)) (.slice A0 l0.length c0) l0 from Kd.V_mono hs0 (fun k_ hk => .inl hk))
 have HB := am (Below.refl w.heap.size w)
 have H := h
 unfold rf_trim.f at H
 clear h
 have H' := am H
 clear H
 go_enter Tryd.func96, Tryd.ntmps96
 go_wp2
 go_loopg [0] k (fun kq v0 w' => ∃ (x0_1 : List Int), Aside0 (rf_trim.l0 kq x0_1 = some r) ∧ Aside0 (kq ≤ k) ∧ Aside0 (Kd.V (Kd.int .i64) 3 w' w.heap.size (fun k_ => (P0_ k_ ∨ w.heap.size ≤ k_)) v0 x0_1) ∧ Aside0 (Below w.heap.size w w'))
 case atStart => exact ⟨(l0), H', ⟨Nat.le_refl _⟩, ⟨zq3 HO0.out⟩, ⟨zq1⟩⟩
 case round =>
  clear H'
  obtain ⟨x0_1, HA, HK1, HO_0, HB⟩ := hrel
  cases gk with
  | zero => exact absurd HA.out (by simp [rf_trim.l0])
  | succ k1 =>
   have H := HA.out
   clear HA
   simp only [rf_trim.l0] at H
   by_cases c2 : (x0_1.length : Int) > 0
   ·rw [if_pos c2] at H
    have c2b0 : decide (0 < (x0_1.length : Int)) = true := decide_eq_true c2
    have c2b1 : decide (0 < x0_1.length) = true := decide_eq_true (by omega)
    clear c2
    obtain ⟨ji3, hji3⟩ : ∃ j_ : Int, (wrap64 ((x0_1.length : Int) - 1)) = j_ := ⟨_, rfl⟩
    replace H : (if 0 ≤ (ji3) then (if (ji3) < (x0_1.length : Int) then (if (rd x0_1 (ji3)) = 0 then (if (ji3) ≤ (x0_1.length : Int) then (rf_trim.l0 k1 (x0_1.take ((ji3) : Int).toNat)) else (none)) else (some x0_1)) else (none)) else (none)) = some r := by first | (rw [hji3] at H; exact H) | (simp only [hji3] at H ⊢; exact H)
    have hji3w : (IntKind.i64.wrap ((x0_1.length : Int) - 1)) = ji3 := (i64_w _).trans hji3
    replace H := zn H
    obtain ⟨c4, H⟩ := H
    have c4b0 := decide_eq_true c4
    clear c4
    replace H := zn H
    obtain ⟨c5, H⟩ := H
    have c5b0 := decide_eq_true c5
    clear c5
    by_cases c6 : (rd x0_1 (ji3)) = 0
    ·rw [if_pos c6] at H
     have c6b0 : ((rd x0_1 (ji3)) == 0) = true := beq_iff_eq.mpr c6
     have c6b1 : ((rd x0_1 (ji3)) != 0) = false := bne_eq_false_iff_eq.mpr c6
     clear c6
     have c7b0 := eq_true (zq6 : 0 ≤ (ji3))
     replace H := zn H
     obtain ⟨c8, H⟩ := H
     have c8b0 := eq_true c8
     have c8b1 := decide_eq_true c8
     clear c8
     obtain ⟨y521, hy521⟩ : ∃ y_ : List Int, y_ = (x0_1.take ((ji3) : Int).toNat) := ⟨_, rfl⟩
     try rw [← hy521] at H
     have Ny521 := am hy521
     clear hy521
     have H' := am H
     clear H
     obtain ⟨Ao9, co9, eo9⟩ := Kd.V_slice HO_0.out
     subst eo9
     have p520 : 0 ≤ ((ji3) : Int) := zq6
     have q520 : (ji3) < (x0_1.length : Int) := zq6
     obtain ⟨ad520, e520, hx520_0⟩ := Kd.at_int (Kd.V_reads' HO_0.out).2.2 (ji3) p520 q520
     cases e520
     replace p520 := eq_true p520
     replace q520 := eq_true q520
     have q10 : ((ji3) : Int) ≤ ((x0_1.length : Int) : Int) := zq6
     obtain ⟨i010, hi010, _, hsz10, _⟩ := info_parts info3
     have hroom10 : x0_1.length ≤ co9 := (Kd.V_reads' HO_0.out).2.1
     have hC10 : Kd.F (Kd.int .i64) _ _ (some ad520) x0_1.length x0_1 := (Kd.V_at (base := w.heap.size) HO_0.out).2.2
     have hcut10 := cut_to (P := Tryd.prog) 39 3 .i64 Tryd.underlying39 hi010 (some ad520) x0_1.length co9 (ji3) zq6 q10 hroom10
     have hr10 := Kd.F_take (m := ((ji3) : Int).toNat) hC10 (by omega)
     have hy10 : y521.length = ((ji3) : Int).toNat := (by rw [Ny521.out, List.length_take]; omega)
     rw [← Ny521.out] at hr10
     rw [← hy10] at hcut10
     have HO525 := am (show Kd.V (Kd.int .i64) 3 _ w.heap.size _ (.slice (some ad520) y521.length co9) y521 from Kd.V_mk (by omega) hr10)
     have HC525 := am (show y521.length ≤ co9 from by omega)
     clear hr10 hC10 hroom10 hi010 hsz10
     have KY10 := am hy10
     clear hy10
     replace q10 := eq_true q10
     go_wp2
     go_roundg k1
     case measure => have := HK1.out; omega
     case rel => exact ⟨(y521), (by first | exact H' | (rw [hji3]; exact H')), ⟨by have := HK1.out; omega⟩, ⟨zq3 HO525.out⟩, ⟨zq1⟩⟩
    ·rw [if_neg c6] at H
     have c6b0 : ((rd x0_1 (ji3)) == 0) = false := beq_eq_false_iff_ne.mpr c6
     have c6b1 : ((rd x0_1 (ji3)) != 0) = true := bne_iff_ne.mpr c6
     obtain rfl := Option.some.inj H
     obtain ⟨Ao11, co11, eo11⟩ := Kd.V_slice HO_0.out
     subst eo11
     have p520 : 0 ≤ ((ji3) : Int) := zq6
     have q520 : (ji3) < (x0_1.length : Int) := zq6
     obtain ⟨ad520, e520, hx520_0⟩ := Kd.at_int (Kd.V_reads' HO_0.out).2.2 (ji3) p520 q520
     cases e520
     replace p520 := eq_true p520
     replace q520 := eq_true q520
     go_wp2
     go_ret
     exact ⟨_, by first | rfl | (simp [errW_none, errW_some] <;> rfl) | (simp only [← hji3]; first | rfl | (simp [errW_none, errW_some] <;> rfl)) | (simp [*, errW_none, errW_some] <;> rfl), zq3 HO_0.out, zq1⟩
   ·rw [if_neg c2] at H
    have c2b0 : decide (0 < (x0_1.length : Int)) = false := decide_eq_false c2
    have c2b1 : decide (0 < x0_1.length) = false := decide_eq_false (by omega)
    clear c2
    obtain rfl := Option.some.inj H
    obtain ⟨Ao12, co12, eo12⟩ := Kd.V_slice HO_0.out
    subst eo12
    go_wp2
    go_ret
    exact ⟨_, zq9, zq3 HO_0.out, zq1⟩
end Go.Proofs.YtemnjgkicndmjaaDoor.Q
namespace Go.Proofs.YtemnjgkicndmjaaDoor.Q
open Go.RowKit Go.Proofs.YtemnjgkicndmjaaDoorW.PrintWords Go.Proofs.YtemnjgkicndmjaaDoorW.PrintLast Go.Proofs.YtemnjgkicndmjaaDoorW.PrintMore
set_option linter.unusedVariables false
theorem ofInt_64 (a : Nat) (ha : a < 18446744073709551616) : (BitVec.ofInt 64 (a : Int)).toNat = a := by
  rw [BitVec.ofInt_natCast, BitVec.toNat_ofNat]; exact Nat.mod_eq_of_lt (by omega)
theorem i64w (n : Int) (h0 : 0 ≤ n) (h1 : n < 9223372036854775808) : IntKind.i64.wrap n = n := by
  simp [IntKind.wrap, IntKind.bits, IntKind.signed]; omega
theorem i64_and (a b : Int) (h1 : 0 ≤ a) (h2 : a < 9223372036854775808) (h3 : 0 ≤ b) (h4 : b < 9223372036854775808) : Go.bits .and .i64 a b = ((a.toNat &&& b.toNat : Nat) : Int) := by
  obtain ⟨A, rfl⟩ := Int.eq_ofNat_of_zero_le h1
  obtain ⟨B, rfl⟩ := Int.eq_ofNat_of_zero_le h3
  have hx : A &&& B < 2 ^ 63 := Nat.and_lt_two_pow _ (by omega)
  show IntKind.i64.wrap ((BitVec.ofInt 64 (A : Int) &&& BitVec.ofInt 64 (B : Int)).toNat : Int) = _
  rw [BitVec.toNat_and, ofInt_64 A (by omega), ofInt_64 B (by omega), i64w _ (by omega) (by omega)]
  rfl
theorem i64_or (a b : Int) (h1 : 0 ≤ a) (h2 : a < 9223372036854775808) (h3 : 0 ≤ b) (h4 : b < 9223372036854775808) : Go.bits .or .i64 a b = ((a.toNat ||| b.toNat : Nat) : Int) := by
  obtain ⟨A, rfl⟩ := Int.eq_ofNat_of_zero_le h1
  obtain ⟨B, rfl⟩ := Int.eq_ofNat_of_zero_le h3
  have hx : A ||| B < 2 ^ 63 := Nat.or_lt_two_pow (by omega) (by omega)
  show IntKind.i64.wrap ((BitVec.ofInt 64 (A : Int) ||| BitVec.ofInt 64 (B : Int)).toNat : Int) = _
  rw [BitVec.toNat_or, ofInt_64 A (by omega), ofInt_64 B (by omega), i64w _ (by omega) (by omega)]
  rfl
theorem i64_and1 {x : Int} (h0 : 0 ≤ x) (h1 : x < 9223372036854775808) : Go.bits .and .i64 x 1 = x % 2 := by
  rw [i64_and _ _ h0 h1 (by omega) (by omega)]
  have : (1 : Int).toNat = 1 := rfl
  rw [this, Nat.and_one_is_mod]; omega
theorem rtrim_ev (xs : List Int) : xs.length ≤ 1099511627776 → Ev (fun k => rf_trim.f k xs) (trim xs) := by
  show xs.length ≤ 1099511627776 → Ev (fun k => rf_trim.l0 k xs) (trim xs)
  refine snoc_induction (P := fun xs => xs.length ≤ 1099511627776 → Ev (fun k => rf_trim.l0 k xs) (trim xs)) ?_ ?_ xs
  · intro _
    exact Ev.step (f := fun _ => some []) (fun k => by simp only [rf_trim.l0]; rfl) (Ev.now _)
  · intro xs x ih hl
    rw [List.length_append, List.length_singleton] at hl
    have h1 : ((xs ++ [x]).length : Int) > 0 := by rw [List.length_append, List.length_singleton]; omega
    have h2 : wrap64 (((xs ++ [x]).length : Int) - 1) = (xs.length : Int) := by rw [List.length_append, List.length_singleton, w64 (by omega) (by omega)]; omega
    have h3 : (xs.length : Int) < ((xs ++ [x]).length : Int) := by rw [List.length_append, List.length_singleton]; omega
    have h4 : rd (xs ++ [x]) (xs.length : Int) = x := by rw [rd_getD, List.getD_eq_getElem?_getD, List.getElem?_append_right (Nat.le_refl _)]; simp
    have h5 : (xs ++ [x]).take xs.length = xs := by rw [List.take_append_of_le_length (Nat.le_refl _), List.take_of_length_le (Nat.le_refl _)]
    have h0 : (0 : Int) ≤ (xs.length : Int) := by omega
    by_cases c : x = 0
    · subst c
      rw [trim_snoc_zero]
      refine Ev.step (f := fun k => rf_trim.l0 k xs) (fun k => ?_) (ih (by omega))
      simp only [rf_trim.l0]
      rw [if_pos h1, h2, if_pos h0, if_pos h3, h4, if_pos (by rfl), if_pos (Int.le_of_lt h3), Int.toNat_natCast, h5]
    · rw [trim_snoc _ c]
      refine Ev.step (f := fun _ => some (xs ++ [x])) (fun k => ?_) (Ev.now _)
      simp only [rf_trim.l0]
      rw [if_pos h1, h2, if_pos h0, if_pos h3, h4, if_neg c]
theorem rdigit (l : List Int) (i : Nat) : rf_digit.f l (i : Int) = some (l.getD i 0) := by
  unfold rf_digit.f
  by_cases h : i < l.length
  · rw [if_pos (by omega), if_pos (by omega), rd_getD]
  · rw [if_neg (by omega), List.getD_eq_getElem?_getD, List.getElem?_eq_none (by omega)]; rfl
end Go.Proofs.YtemnjgkicndmjaaDoor.Q
