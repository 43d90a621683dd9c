/- What this text proves: a part of the walk and of the plain laws of one card; no conditions. -/
import Derived.Test.YtemnjgkicndmjaaDoorBs3
import Derived.Laws.BytesArg
import Derived.Lib.IndexLaws
import Derived.Lib.SlTrimSet
import Derived.ChangeSame
import Derived.Stop.Joined
import Derived.SevenTiedAt
namespace Go.Proofs.YtemnjgkicndmjaaDoor.Q
open Go.RowKit Go.Proofs.YtemnjgkicndmjaaDoorW.PrintWords Go.Proofs.YtemnjgkicndmjaaDoorW.PrintLast Go.Proofs.YtemnjgkicndmjaaDoorW.PrintMore
attribute [local go_sem] max2_int min2_int max_two min_two max_three min_three max_four min_four
set_option linter.unusedVariables false
set_option linter.unusedSimpArgs false
def lw_sameLimbs.l0 : Nat → List Int → List Int → Int → Option (Bool)
 | 0, _, _, _ => none
 | k + 1, x0, x1, x5 => if x5 < (x0.length : Int) then (if 0 ≤ x5 then (if x5 < (x1.length : Int) then (if (rd x0 x5) = (rd x1 x5) then (lw_sameLimbs.l0 k x0 x1 (wrap64 (x5 + 1))) else (some false)) else (none)) else (none)) else (some true)
def lw_sameLimbs.f (k : Nat) (l0 : List Int) (l1 : List Int) : Option (Bool) := if (l0.length : Int) = (l1.length : Int) then (lw_sameLimbs.l0 k l0 l1 0) else (some false)
theorem lw_sameLimbs.mono_l : ∀ k, (∀ y0 y1 y2, LeO (lw_sameLimbs.l0 k y0 y1 y2) (lw_sameLimbs.l0 (k + 1) y0 y1 y2))
 | 0 => fun _ _ _ r h => by simp [lw_sameLimbs.l0] at h
 | k + 1 => by
  have ih0 := lw_sameLimbs.mono_l k
  ·intro y0 y1 y2
   unfold lw_sameLimbs.l0
   have m0 := ih0
   exact zm
theorem lw_sameLimbs.mono : ∀ a0 a1 k, LeO (lw_sameLimbs.f k a0 a1) (lw_sameLimbs.f (k + 1) a0 a1) := by
 intro a0 a1 k
 have ih0 := lw_sameLimbs.mono_l k
 unfold lw_sameLimbs.f
 have m0 := ih0
 exact zm
set_option maxHeartbeats 8000000 in
set_option maxRecDepth 100000 in
theorem lw_sameLimbs.calls (k : Nat) (A0 : Option Addr) (c0 : Nat) (l0 : List Int) (A1 : Option Addr) (c1 : Nat) (l1 : List Int) (r : Bool) (w : World) (hr0 : Kd.C (Kd.int .u32) w A0 l0.length l0) (hc0 : l0.length ≤ c0) (hr1 : Kd.C (Kd.int .u32) w A1 l1.length l1) (hc1 : l1.length ≤ c1) (h : lw_sameLimbs.f k l0 l1 = some r) :
  Calls Tryd.prog 55 #[.slice A0 l0.length c0, .slice A1 l1.length c1] w fun e w' => e = .returned (.bool r) ∧ Drawn0 w w' := by
 have HR0 := am hr0
 have HC0 := am hc0
 clear hr0 hc0
 have HR1 := am hr1
 have HC1 := am hc1
 clear hr1 hc1
 have H := h
 unfold lw_sameLimbs.f at H
 clear h
 by_cases c3 : (l0.length : Int) = (l1.length : Int)
 ·rw [if_pos c3] at H
  have c3b0 : ((l0.length : Int) == (l1.length : Int)) = true := beq_iff_eq.mpr c3
  have c3b1 : ((l0.length : Int) != (l1.length : Int)) = false := bne_eq_false_iff_eq.mpr c3
  have c3b2 : (l0.length == l1.length) = true := by first | simpa using c3 | (simp at c3 ⊢; omega)
  clear c3
  have H' := am H
  clear H
  go_enter Tryd.func55, Tryd.ntmps55
  go_wp2
  repeat (go_quiet (fail); try go_wp2)
  go_loopg [5] k (fun kq v5 w' => ∃ (x5_1 : Int), v5 = .int .i64 x5_1 ∧ Aside0 (lw_sameLimbs.l0 kq l0 l1 x5_1 = some r) ∧ Aside0 (kq ≤ k) ∧ Drawn0 w w')
  case atStart => exact ⟨(0), zq8, H', ⟨Nat.le_refl _⟩, by repeat (first | exact Drawn0.refl _ | apply Drawn0.step)⟩
  case round =>
   clear H'
   obtain ⟨x5_1, rfl, HA, HK1, ⟨m1, rfl⟩⟩ := hrel
   cases gk with
   | zero => exact absurd HA.out (by simp [lw_sameLimbs.l0])
   | succ k1 =>
    have H := HA.out
    clear HA
    simp only [lw_sameLimbs.l0] at H
    by_cases c4 : x5_1 < (l0.length : Int)
    ·rw [if_pos c4] at H
     have c4b0 := decide_eq_true c4
     clear c4
     replace H := zn H
     obtain ⟨c5, H⟩ := H
     have c5b0 := decide_eq_true c5
     clear c5
     replace H := zn H
     obtain ⟨c6, H⟩ := H
     have c6b0 := decide_eq_true c6
     clear c6
     by_cases c7 : (rd l0 x5_1) = (rd l1 x5_1)
     ·rw [if_pos c7] at H
      have c7b0 : ((rd l0 x5_1) == (rd l1 x5_1)) = true := beq_iff_eq.mpr c7
      have c7b1 : ((rd l0 x5_1) != (rd l1 x5_1)) = false := bne_eq_false_iff_eq.mpr c7
      clear c7
      have H' := am H
      clear H
      have p514 : 0 ≤ (x5_1 : Int) := zq6
      have q514 : x5_1 < (l0.length : Int) := zq6
      obtain ⟨ad514, e514, hx514_0⟩ := Kd.at_int HR0.out x5_1 p514 q514
      cases e514
      replace p514 := eq_true p514
      replace q514 := eq_true q514
      have p515 : 0 ≤ (x5_1 : Int) := zq6
      have q515 : x5_1 < (l1.length : Int) := zq6
      obtain ⟨ad515, e515, hx515_0⟩ := Kd.at_int HR1.out x5_1 p515 q515
      cases e515
      replace p515 := eq_true p515
      replace q515 := eq_true q515
      go_wp2
      repeat (go_quiet (fail); try go_wp2)
      go_roundg k1
      case measure => have := HK1.out; omega
      case rel => exact ⟨(wrap64 (x5_1 + 1)), zq8, H', ⟨by have := HK1.out; omega⟩, by repeat (first | exact Drawn0.refl _ | apply Drawn0.step)⟩
     ·rw [if_neg c7] at H
      have c7b0 : ((rd l0 x5_1) == (rd l1 x5_1)) = false := beq_eq_false_iff_ne.mpr c7
      have c7b1 : ((rd l0 x5_1) != (rd l1 x5_1)) = true := bne_iff_ne.mpr c7
      obtain rfl := Option.some.inj H
      have p514 : 0 ≤ (x5_1 : Int) := zq6
      have q514 : x5_1 < (l0.length : Int) := zq6
      obtain ⟨ad514, e514, hx514_0⟩ := Kd.at_int HR0.out x5_1 p514 q514
      cases e514
      replace p514 := eq_true p514
      replace q514 := eq_true q514
      have p515 : 0 ≤ (x5_1 : Int) := zq6
      have q515 : x5_1 < (l1.length : Int) := zq6
      obtain ⟨ad515, e515, hx515_0⟩ := Kd.at_int HR1.out x5_1 p515 q515
      cases e515
      replace p515 := eq_true p515
      replace q515 := eq_true q515
      go_wp2
      repeat (go_quiet (fail); try go_wp2)
      go_ret
      exact ⟨by first | rfl | (simp; done) | (simp [*]; done), by repeat (first | exact Drawn0.refl _ | apply Drawn0.step)⟩
    ·rw [if_neg c4] at H
     have c4b0 := decide_eq_false c4
     clear c4
     obtain rfl := Option.some.inj H
     go_wp2
     repeat (go_quiet (fail); try go_wp2)
     go_ret
     exact ⟨by first | rfl | (simp; done) | (simp [*]; done), by repeat (first | exact Drawn0.refl _ | apply Drawn0.step)⟩
 ·rw [if_neg c3] at H
  have c3b0 : ((l0.length : Int) == (l1.length : Int)) = false := beq_eq_false_iff_ne.mpr c3
  have c3b1 : ((l0.length : Int) != (l1.length : Int)) = true := bne_iff_ne.mpr c3
  have c3b2 : (l0.length == l1.length) = false := by first | simpa using c3 | (simp at c3 ⊢; omega)
  obtain rfl := Option.some.inj H
  go_enter Tryd.func55, Tryd.ntmps55
  go_wp2
  repeat (go_quiet (fail); try go_wp2)
  go_ret
  exact ⟨by first | rfl | (simp; done) | (simp [*]; done), by repeat (first | exact Drawn0.refl _ | apply Drawn0.step)⟩
def lw_same.f (k : Nat) (a0_0 : Bool) (l0_1 : List Int) (l0_2 : List Int) (a1_0 : Bool) (l1_1 : List Int) (l1_2 : List Int) : Option (Bool) := if (a0_0 == a1_0) = true then ((lw_sameLimbs.f k l0_1 l1_1).bind fun t518 => (if t518 = true then ((lw_sameLimbs.f k l0_2 l1_2).bind fun t519 => (some t519)) else (some false))) else (some false)
theorem lw_same.mono : ∀ a0 a1 a2 a3 a4 a5 k, LeO (lw_same.f k a0 a1 a2 a3 a4 a5) (lw_same.f (k + 1) a0 a1 a2 a3 a4 a5) := by
 intro a0 a1 a2 a3 a4 a5 k
 unfold lw_same.f
 have m0 := @lw_sameLimbs.mono
 exact zm
set_option maxHeartbeats 8000000 in
set_option maxRecDepth 100000 in
theorem lw_same.calls (k : Nat) (a0_0 : Bool) (A0_1 : Option Addr) (c0_1 : Nat) (l0_1 : List Int) (A0_2 : Option Addr) (c0_2 : Nat) (l0_2 : List Int) (a1_0 : Bool) (A1_1 : Option Addr) (c1_1 : Nat) (l1_1 : List Int) (A1_2 : Option Addr) (c1_2 : Nat) (l1_2 : List Int) (r : Bool) (w : World) (hr0_1 : Kd.C (Kd.int .u32) w A0_1 l0_1.length l0_1) (hc0_1 : l0_1.length ≤ c0_1) (hr0_2 : Kd.C (Kd.int .u32) w A0_2 l0_2.length l0_2) (hc0_2 : l0_2.length ≤ c0_2) (hr1_1 : Kd.C (Kd.int .u32) w A1_1 l1_1.length l1_1) (hc1_1 : l1_1.length ≤ c1_1) (hr1_2 : Kd.C (Kd.int .u32) w A1_2 l1_2.length l1_2) (hc1_2 : l1_2.length ≤ c1_2) (h : lw_same.f k a0_0 l0_1 l0_2 a1_0 l1_1 l1_2 = some r) :
  Calls Tryd.prog 20 #[.agg #[.bool a0_0, .slice A0_1 l0_1.length c0_1, .slice A0_2 l0_2.length c0_2], .agg #[.bool a1_0, .slice A1_1 l1_1.length c1_1, .slice A1_2 l1_2.length c1_2]] w fun e w' => e = .returned (.bool r) ∧ Below w.heap.size w w' := by
 have hu24 := Tryd.underlying24
 have HR0_1 := am hr0_1
 have HC0_1 := am hc0_1
 clear hr0_1 hc0_1
 have HR0_2 := am hr0_2
 have HC0_2 := am hc0_2
 clear hr0_2 hc0_2
 have HR1_1 := am hr1_1
 have HC1_1 := am hc1_1
 clear hr1_1 hc1_1
 have HR1_2 := am hr1_2
 have HC1_2 := am hc1_2
 clear hr1_2 hc1_2
 have HB := am (Below.refl w.heap.size w)
 have H := h
 unfold lw_same.f at H
 clear h
 by_cases c3 : (a0_0 == a1_0) = true
 ·rw [if_pos c3] at H
  have c3b0 : (a0_0 == a1_0) = true := c3
  (try (have c3b1 : decide (a0_0 = a1_0) = true := by simpa using c3))
  (try (have c3b2 : (a0_0 == a1_0) = true := by simpa using c3))
  clear c3
  replace H := zi H
  obtain ⟨t518, A40, H⟩ := H
  have A4 := am A40
  clear A40
  by_cases c5 : t518 = true
  ·subst c5
   have H1 : ((lw_sameLimbs.f k l0_2 l1_2).bind fun t519 => (some t519)) = some r := by rw [if_pos rfl] at H; exact H
   clear H
   have H := H1
   clear H1
   replace H := zi H
   obtain ⟨t519, A60, H⟩ := H
   have A6 := am A60
   clear A60
   obtain rfl := Option.some.inj H
   go_enter Tryd.func20, Tryd.ntmps20
   go_wp2_with (first | ((with_reducible refine gate_dst (N := 2) rfl ?_); refine box_event ?hg (N := 2) ?hd (cs := #[.bool a0_0, .slice A0_1 l0_1.length c0_1, .slice A0_2 l0_2.length c0_2]) (t := 24) ?hr ?_; (case hd => rfl); (case hg => rfl); (case hr => exact zr); intro gb516 hg w7 hbox hb; have n0_ := am (below_step zq1 hb); have n1_ := am (hbox); have n2_ := am ((by rw [hg]; exact (below_size zq1) : w.heap.size ≤ gb516)); have n3_ := am ((by rw [hg]; exact (below_size zq1) : w.heap.size ≤ gb516)); clear HB; have HB := n0_; have BK516 := n1_; have GW516 := n2_; have GE516 := n3_; clear n0_ n1_ n2_ n3_; clear hb hbox hg) | ((with_reducible refine gate_dst (N := 3) rfl ?_); refine box_event ?hg (N := 3) ?hd (cs := #[.bool a1_0, .slice A1_1 l1_1.length c1_1, .slice A1_2 l1_2.length c1_2]) (t := 24) ?hr ?_; (case hd => rfl); (case hg => rfl); (case hr => exact zr); intro gb517 hg w8 hbox hb; have n0_ := am (blk_below (g := gb516) (o := .cells #[.bool a0_0, .slice A0_1 l0_1.length c0_1, .slice A0_2 l0_2.length c0_2] 24 (0, 0)) (zq2 BK516.out) hb); have n1_ := am (below_step (zb1 GE516.out) hb); have n2_ := am (hbox); have n3_ := am ((by rw [hg]; exact (below_size (zb1 GE516.out)) : w.heap.size ≤ gb517)); have n4_ := am ((by rw [hg]; exact (below_size (zb1 GE516.out)) : w.heap.size ≤ gb517)); have n5_ := am ((by rw [hg]; exact Nat.ne_of_lt (blk_lt (g := gb516) (o := .cells #[.bool a0_0, .slice A0_1 l0_1.length c0_1, .slice A0_2 l0_2.length c0_2] 24 (0, 0)) (zq2 BK516.out)) : gb516 ≠ gb517)); have n6_ := am ((by rw [hg]; exact Nat.ne_of_gt (blk_lt (g := gb516) (o := .cells #[.bool a0_0, .slice A0_1 l0_1.length c0_1, .slice A0_2 l0_2.length c0_2] 24 (0, 0)) (zq2 BK516.out)) : gb517 ≠ gb516)); clear BK516 HB; have BK516 := n0_; have HB := n1_; have BK517 := n2_; have GW517 := n3_; have GE517 := n4_; have NB516_517 := n5_; have NB517_516 := n6_; clear n0_ n1_ n2_ n3_ n4_ n5_ n6_ hb hbox hg; have hnb9 := NB516_517.out; have hnc9 := NB517_516.out; have hcz10_0 : w8.cell? ⟨gb516, 0, none⟩ = some (.bool a0_0) := (blk_cell BK516.out 0).trans rfl; have hcz10_1 : w8.cell? ⟨gb516, 1, none⟩ = some (.slice A0_1 l0_1.length c0_1) := (blk_cell BK516.out 1).trans rfl; have hcz10_2 : w8.cell? ⟨gb516, 2, none⟩ = some (.slice A0_2 l0_2.length c0_2) := (blk_cell BK516.out 2).trans rfl; have hfz10_0 := blk_frozen BK516.out 0; have hfz10_1 := blk_frozen BK516.out 1; have hfz10_2 := blk_frozen BK516.out 2; have hcz11_0 : w8.cell? ⟨gb517, 0, none⟩ = some (.bool a1_0) := (blk_cell BK517.out 0).trans rfl; have hcz11_1 : w8.cell? ⟨gb517, 1, none⟩ = some (.slice A1_1 l1_1.length c1_1) := (blk_cell BK517.out 1).trans rfl; have hcz11_2 : w8.cell? ⟨gb517, 2, none⟩ = some (.slice A1_2 l1_2.length c1_2) := (blk_cell BK517.out 2).trans rfl; have hfz11_0 := blk_frozen BK517.out 0; have hfz11_1 := blk_frozen BK517.out 1; have hfz11_2 := blk_frozen BK517.out 2) | (go_at_call 55; (with_reducible refine (lw_sameLimbs.calls k _ _ l0_1 _ _ l1_1 true _ ?side1 ?side2 ?side3 ?side4 A4.out).mono ?_); (case side1 => exact zc (Kd.C_below HR0_1.out HB.out)); (case side2 => exact HC0_1.out); (case side3 => exact zc (Kd.C_below HR1_1.out HB.out)); (case side4 => exact HC1_1.out); rintro e w' ⟨rfl, ⟨nd, rfl⟩⟩) | (go_at_call 55; (with_reducible refine (lw_sameLimbs.calls k _ _ l0_2 _ _ l1_2 t519 _ ?side1 ?side2 ?side3 ?side4 A6.out).mono ?_); (case side1 => exact zc (Kd.C_below HR0_2.out (zb2 GE516.out GE517.out))); (case side2 => exact HC0_2.out); (case side3 => exact zc (Kd.C_below HR1_2.out (zb2 GE516.out GE517.out))); (case side4 => exact HC1_2.out); rintro e w' ⟨rfl, ⟨nd, rfl⟩⟩))
   go_ret
   exact ⟨zq9, zb2 GE516.out GE517.out⟩
  ·replace c5 := Bool.eq_false_iff.mpr c5
   subst c5
   have H1 : (some false) = some r := by rw [if_neg (show ¬ (false = true) by decide)] at H; exact H
   clear H
   have H := H1
   clear H1
   obtain rfl := Option.some.inj H
   go_enter Tryd.func20, Tryd.ntmps20
   go_wp2_with (first | ((with_reducible refine gate_dst (N := 2) rfl ?_); refine box_event ?hg (N := 2) ?hd (cs := #[.bool a0_0, .slice A0_1 l0_1.length c0_1, .slice A0_2 l0_2.length c0_2]) (t := 24) ?hr ?_; (case hd => rfl); (case hg => rfl); (case hr => exact zr); intro gb516 hg w12 hbox hb; have n0_ := am (below_step zq1 hb); have n1_ := am (hbox); have n2_ := am ((by rw [hg]; exact (below_size zq1) : w.heap.size ≤ gb516)); have n3_ := am ((by rw [hg]; exact (below_size zq1) : w.heap.size ≤ gb516)); clear HB; have HB := n0_; have BK516 := n1_; have GW516 := n2_; have GE516 := n3_; clear n0_ n1_ n2_ n3_; clear hb hbox hg) | ((with_reducible refine gate_dst (N := 3) rfl ?_); refine box_event ?hg (N := 3) ?hd (cs := #[.bool a1_0, .slice A1_1 l1_1.length c1_1, .slice A1_2 l1_2.length c1_2]) (t := 24) ?hr ?_; (case hd => rfl); (case hg => rfl); (case hr => exact zr); intro gb517 hg w13 hbox hb; have n0_ := am (blk_below (g := gb516) (o := .cells #[.bool a0_0, .slice A0_1 l0_1.length c0_1, .slice A0_2 l0_2.length c0_2] 24 (0, 0)) (zq2 BK516.out) hb); have n1_ := am (below_step (zb1 GE516.out) hb); have n2_ := am (hbox); have n3_ := am ((by rw [hg]; exact (below_size (zb1 GE516.out)) : w.heap.size ≤ gb517)); have n4_ := am ((by rw [hg]; exact (below_size (zb1 GE516.out)) : w.heap.size ≤ gb517)); have n5_ := am ((by rw [hg]; exact Nat.ne_of_lt (blk_lt (g := gb516) (o := .cells #[.bool a0_0, .slice A0_1 l0_1.length c0_1, .slice A0_2 l0_2.length c0_2] 24 (0, 0)) (zq2 BK516.out)) : gb516 ≠ gb517)); have n6_ := am ((by rw [hg]; exact Nat.ne_of_gt (blk_lt (g := gb516) (o := .cells #[.bool a0_0, .slice A0_1 l0_1.length c0_1, .slice A0_2 l0_2.length c0_2] 24 (0, 0)) (zq2 BK516.out)) : gb517 ≠ gb516)); clear BK516 HB; have BK516 := n0_; have HB := n1_; have BK517 := n2_; have GW517 := n3_; have GE517 := n4_; have NB516_517 := n5_; have NB517_516 := n6_; clear n0_ n1_ n2_ n3_ n4_ n5_ n6_ hb hbox hg; have hnb14 := NB516_517.out; have hnc14 := NB517_516.out; have hcz15_0 : w13.cell? ⟨gb516, 0, none⟩ = some (.bool a0_0) := (blk_cell BK516.out 0).trans rfl; have hcz15_1 : w13.cell? ⟨gb516, 1, none⟩ = some (.slice A0_1 l0_1.length c0_1) := (blk_cell BK516.out 1).trans rfl; have hcz15_2 : w13.cell? ⟨gb516, 2, none⟩ = some (.slice A0_2 l0_2.length c0_2) := (blk_cell BK516.out 2).trans rfl; have hfz15_0 := blk_frozen BK516.out 0; have hfz15_1 := blk_frozen BK516.out 1; have hfz15_2 := blk_frozen BK516.out 2; have hcz16_0 : w13.cell? ⟨gb517, 0, none⟩ = some (.bool a1_0) := (blk_cell BK517.out 0).trans rfl; have hcz16_1 : w13.cell? ⟨gb517, 1, none⟩ = some (.slice A1_1 l1_1.length c1_1) := (blk_cell BK517.out 1).trans rfl; have hcz16_2 : w13.cell? ⟨gb517, 2, none⟩ = some (.slice A1_2 l1_2.length c1_2) := (blk_cell BK517.out 2).trans rfl; have hfz16_0 := blk_frozen BK517.out 0; have hfz16_1 := blk_frozen BK517.out 1; have hfz16_2 := blk_frozen BK517.out 2) | (go_at_call 55; (with_reducible refine (lw_sameLimbs.calls k _ _ l0_1 _ _ l1_1 false _ ?side1 ?side2 ?side3 ?side4 A4.out).mono ?_); (case side1 => exact zc (Kd.C_below HR0_1.out HB.out)); (case side2 => exact HC0_1.out); (case side3 => exact zc (Kd.C_below HR1_1.out HB.out)); (case side4 => exact HC1_1.out); rintro e w' ⟨rfl, ⟨nd, rfl⟩⟩))
   go_ret
   exact ⟨zq9, zb2 GE516.out GE517.out⟩
 ·rw [if_neg c3] at H
  have c3b0 : (a0_0 == a1_0) = false := by simpa using c3
  (try (have c3b1 : decide (a0_0 = a1_0) = false := by simpa using c3))
  (try (have c3b2 : (a0_0 == a1_0) = false := by simpa using c3))
  (try (have c3b3 : ¬ (a0_0 = a1_0) := by simpa using c3))
  clear c3
  obtain rfl := Option.some.inj H
  go_enter Tryd.func20, Tryd.ntmps20
  go_wp2_with (first | ((with_reducible refine gate_dst (N := 2) rfl ?_); refine box_event ?hg (N := 2) ?hd (cs := #[.bool a0_0, .slice A0_1 l0_1.length c0_1, .slice A0_2 l0_2.length c0_2]) (t := 24) ?hr ?_; (case hd => rfl); (case hg => rfl); (case hr => exact zr); intro gb516 hg w17 hbox hb; have n0_ := am (below_step zq1 hb); have n1_ := am (hbox); have n2_ := am ((by rw [hg]; exact (below_size zq1) : w.heap.size ≤ gb516)); have n3_ := am ((by rw [hg]; exact (below_size zq1) : w.heap.size ≤ gb516)); clear HB; have HB := n0_; have BK516 := n1_; have GW516 := n2_; have GE516 := n3_; clear n0_ n1_ n2_ n3_; clear hb hbox hg) | ((with_reducible refine gate_dst (N := 3) rfl ?_); refine box_event ?hg (N := 3) ?hd (cs := #[.bool a1_0, .slice A1_1 l1_1.length c1_1, .slice A1_2 l1_2.length c1_2]) (t := 24) ?hr ?_; (case hd => rfl); (case hg => rfl); (case hr => exact zr); intro gb517 hg w18 hbox hb; have n0_ := am (blk_below (g := gb516) (o := .cells #[.bool a0_0, .slice A0_1 l0_1.length c0_1, .slice A0_2 l0_2.length c0_2] 24 (0, 0)) (zq2 BK516.out) hb); have n1_ := am (below_step (zb1 GE516.out) hb); have n2_ := am (hbox); have n3_ := am ((by rw [hg]; exact (below_size (zb1 GE516.out)) : w.heap.size ≤ gb517)); have n4_ := am ((by rw [hg]; exact (below_size (zb1 GE516.out)) : w.heap.size ≤ gb517)); have n5_ := am ((by rw [hg]; exact Nat.ne_of_lt (blk_lt (g := gb516) (o := .cells #[.bool a0_0, .slice A0_1 l0_1.length c0_1, .slice A0_2 l0_2.length c0_2] 24 (0, 0)) (zq2 BK516.out)) : gb516 ≠ gb517)); have n6_ := am ((by rw [hg]; exact Nat.ne_of_gt (blk_lt (g := gb516) (o := .cells #[.bool a0_0, .slice A0_1 l0_1.length c0_1, .slice A0_2 l0_2.length c0_2] 24 (0, 0)) (zq2 BK516.out)) : gb517 ≠ gb516)); clear BK516 HB; have BK516 := n0_; have HB := n1_; have BK517 := n2_; have GW517 := n3_; have GE517 := n4_; have NB516_517 := n5_; have NB517_516 := n6_; clear n0_ n1_ n2_ n3_ n4_ n5_ n6_ hb hbox hg; have hnb19 := NB516_517.out; have hnc19 := NB517_516.out; have hcz20_0 : w18.cell? ⟨gb516, 0, none⟩ = some (.bool a0_0) := (blk_cell BK516.out 0).trans rfl; have hcz20_1 : w18.cell? ⟨gb516, 1, none⟩ = some (.slice A0_1 l0_1.length c0_1) := (blk_cell BK516.out 1).trans rfl; have hcz20_2 : w18.cell? ⟨gb516, 2, none⟩ = some (.slice A0_2 l0_2.length c0_2) := (blk_cell BK516.out 2).trans rfl; have hfz20_0 := blk_frozen BK516.out 0; have hfz20_1 := blk_frozen BK516.out 1; have hfz20_2 := blk_frozen BK516.out 2; have hcz21_0 : w18.cell? ⟨gb517, 0, none⟩ = some (.bool a1_0) := (blk_cell BK517.out 0).trans rfl; have hcz21_1 : w18.cell? ⟨gb517, 1, none⟩ = some (.slice A1_1 l1_1.length c1_1) := (blk_cell BK517.out 1).trans rfl; have hcz21_2 : w18.cell? ⟨gb517, 2, none⟩ = some (.slice A1_2 l1_2.length c1_2) := (blk_cell BK517.out 2).trans rfl; have hfz21_0 := blk_frozen BK517.out 0; have hfz21_1 := blk_frozen BK517.out 1; have hfz21_2 := blk_frozen BK517.out 2))
  go_ret
  exact ⟨zq9, zb2 GE516.out GE517.out⟩
def rf_trim.l0 : Nat → List Int → Option (List Int)
 | 0, _ => none
 | k + 1, x0 => if (x0.length : Int) > 0 then (if 0 ≤ (wrap64 ((x0.length : Int) - 1)) then (if (wrap64 ((x0.length : Int) - 1)) < (x0.length : Int) then (if (rd x0 (wrap64 ((x0.length : Int) - 1))) = 0 then (if (wrap64 ((x0.length : Int) - 1)) ≤ (x0.length : Int) then (rf_trim.l0 k (x0.take ((wrap64 ((x0.length : Int) - 1)) : Int).toNat)) else (none)) else (some x0)) else (none)) else (none)) else (some x0)
def rf_trim.f (k : Nat) (l0 : List Int) : Option (List Int) := rf_trim.l0 k l0
theorem rf_trim.mono_l : ∀ k, (∀ y0, LeO (rf_trim.l0 k y0) (rf_trim.l0 (k + 1) y0))
 | 0 => fun _ r h => by simp [rf_trim.l0] at h
 | k + 1 => by
  have ih0 := rf_trim.mono_l k
  ·intro y0
   unfold rf_trim.l0
   have m0 := ih0
   exact zm
theorem rf_trim.mono : ∀ a0 k, LeO (rf_trim.f k a0) (rf_trim.f (k + 1) a0) := by
 intro a0 k
 have ih0 := rf_trim.mono_l k
 unfold rf_trim.f
 have m0 := ih0
 exact zm
set_option maxHeartbeats 8000000 in
set_option maxRecDepth 100000 in
theorem rf_trim.calls (k : Nat) (P0_ : Nat → Prop) (A0 : Option Addr) (c0 : Nat) (l0 : List Int) (r : List Int) (w : World) (hs0 : Kd.V (Kd.int .i64) 3 w w.heap.size (fun k_ => P0_ k_) (.slice A0 l0.length c0) l0) (h : rf_trim.f k l0 = some r) :
  Calls Tryd.prog 96 #[.slice A0 l0.length c0] w fun e w' => ∃ v0_ : Value, e = .returned (v0_) ∧ Kd.V (Kd.int .i64) 3 w' w.heap.size (fun k_ => (P0_ k_ ∨ w.heap.size ≤ k_)) v0_ r ∧ Below w.heap.size w w' := by
 have HO0 := am (show Kd.V (Kd.int .i64) 3 w w.heap.size (fun k_ => (P0_ k_ ∨ w.heap.size ≤ k_)) (.slice A0 l0.length c0) l0 from Kd.V_mono hs0 (fun k_ hk => .inl hk))
 have HB := am (Below.refl w.heap.size w)
 have H := h
 unfold rf_trim.f at H
 clear h
 have H' := am H
 clear H
 go_enter Tryd.func96, Tryd.ntmps96
 go_wp2
 go_loopg [0] k (fun kq v0 w' => ∃ (x0_1 : List Int), Aside0 (rf_trim.l0 kq x0_1 = some r) ∧ Aside0 (kq ≤ k) ∧ Aside0 (Kd.V (Kd.int .i64) 3 w' w.heap.size (fun k_ => (P0_ k_ ∨ w.heap.size ≤ k_)) v0 x0_1) ∧ Aside0 (Below w.heap.size w w'))
 case atStart => exact ⟨(l0), H', ⟨Nat.le_refl _⟩, ⟨zq3 HO0.out⟩, ⟨zq1⟩⟩
 case round =>
  clear H'
  obtain ⟨x0_1, HA, HK1, HO_0, HB⟩ := hrel
  cases gk with
  | zero => exact absurd HA.out (by simp [rf_trim.l0])
  | succ k1 =>
   have H := HA.out
   clear HA
   simp only [rf_trim.l0] at H
   by_cases c2 : (x0_1.length : Int) > 0
   ·rw [if_pos c2] at H
    have c2b0 : decide (0 < (x0_1.length : Int)) = true := decide_eq_true c2
    have c2b1 : decide (0 < x0_1.length) = true := decide_eq_true (by omega)
    clear c2
    obtain ⟨ji3, hji3⟩ : ∃ j_ : Int, (wrap64 ((x0_1.length : Int) - 1)) = j_ := ⟨_, rfl⟩
    replace H : (if 0 ≤ (ji3) then (if (ji3) < (x0_1.length : Int) then (if (rd x0_1 (ji3)) = 0 then (if (ji3) ≤ (x0_1.length : Int) then (rf_trim.l0 k1 (x0_1.take ((ji3) : Int).toNat)) else (none)) else (some x0_1)) else (none)) else (none)) = some r := by first | (rw [hji3] at H; exact H) | (simp only [hji3] at H ⊢; exact H)
    have hji3w : (IntKind.i64.wrap ((x0_1.length : Int) - 1)) = ji3 := (i64_w _).trans hji3
    replace H := zn H
    obtain ⟨c4, H⟩ := H
    have c4b0 := decide_eq_true c4
    clear c4
    replace H := zn H
    obtain ⟨c5, H⟩ := H
    have c5b0 := decide_eq_true c5
    clear c5
    by_cases c6 : (rd x0_1 (ji3)) = 0
    ·rw [if_pos c6] at H
     have c6b0 : ((rd x0_1 (ji3)) == 0) = true := beq_iff_eq.mpr c6
     have c6b1 : ((rd x0_1 (ji3)) != 0) = false := bne_eq_false_iff_eq.mpr c6
     clear c6
     have c7b0 := eq_true (zq6 : 0 ≤ (ji3))
     replace H := zn H
     obtain ⟨c8, H⟩ := H
     have c8b0 := eq_true c8
     have c8b1 := decide_eq_true c8
     clear c8
     obtain ⟨y521, hy521⟩ : ∃ y_ : List Int, y_ = (x0_1.take ((ji3) : Int).toNat) := ⟨_, rfl⟩
     try rw [← hy521] at H
     have Ny521 := am hy521
     clear hy521
     have H' := am H
     clear H
     obtain ⟨Ao9, co9, eo9⟩ := Kd.V_slice HO_0.out
     subst eo9
     have p520 : 0 ≤ ((ji3) : Int) := zq6
     have q520 : (ji3) < (x0_1.length : Int) := zq6
     obtain ⟨ad520, e520, hx520_0⟩ := Kd.at_int (Kd.V_reads' HO_0.out).2.2 (ji3) p520 q520
     cases e520
     replace p520 := eq_true p520
     replace q520 := eq_true q520
     have q10 : ((ji3) : Int) ≤ ((x0_1.length : Int) : Int) := zq6
     obtain ⟨i010, hi010, _, hsz10, _⟩ := info_parts info3
     have hroom10 : x0_1.length ≤ co9 := (Kd.V_reads' HO_0.out).2.1
     have hC10 : Kd.F (Kd.int .i64) _ _ (some ad520) x0_1.length x0_1 := (Kd.V_at (base := w.heap.size) HO_0.out).2.2
     have hcut10 := cut_to (P := Tryd.prog) 39 3 .i64 Tryd.underlying39 hi010 (some ad520) x0_1.length co9 (ji3) zq6 q10 hroom10
     have hr10 := Kd.F_take (m := ((ji3) : Int).toNat) hC10 (by omega)
     have hy10 : y521.length = ((ji3) : Int).toNat := (by rw [Ny521.out, List.length_take]; omega)
     rw [← Ny521.out] at hr10
     rw [← hy10] at hcut10
     have HO525 := am (show Kd.V (Kd.int .i64) 3 _ w.heap.size _ (.slice (some ad520) y521.length co9) y521 from Kd.V_mk (by omega) hr10)
     have HC525 := am (show y521.length ≤ co9 from by omega)
     clear hr10 hC10 hroom10 hi010 hsz10
     have KY10 := am hy10
     clear hy10
     replace q10 := eq_true q10
     go_wp2
     go_roundg k1
     case measure => have := HK1.out; omega
     case rel => exact ⟨(y521), (by first | exact H' | (rw [hji3]; exact H')), ⟨by have := HK1.out; omega⟩, ⟨zq3 HO525.out⟩, ⟨zq1⟩⟩
    ·rw [if_neg c6] at H
     have c6b0 : ((rd x0_1 (ji3)) == 0) = false := beq_eq_false_iff_ne.mpr c6
     have c6b1 : ((rd x0_1 (ji3)) != 0) = true := bne_iff_ne.mpr c6
     obtain rfl := Option.some.inj H
     obtain ⟨Ao11, co11, eo11⟩ := Kd.V_slice HO_0.out
     subst eo11
     have p520 : 0 ≤ ((ji3) : Int) := zq6
     have q520 : (ji3) < (x0_1.length : Int) := zq6
     obtain ⟨ad520, e520, hx520_0⟩ := Kd.at_int (Kd.V_reads' HO_0.out).2.2 (ji3) p520 q520
     cases e520
     replace p520 := eq_true p520
     replace q520 := eq_true q520
     go_wp2
     go_ret
     exact ⟨_, by first | rfl | (simp [errW_none, errW_some] <;> rfl) | (simp only [← hji3]; first | rfl | (simp [errW_none, errW_some] <;> rfl)) | (simp [*, errW_none, errW_some] <;> rfl), zq3 HO_0.out, zq1⟩
   ·rw [if_neg c2] at H
    have c2b0 : decide (0 < (x0_1.length : Int)) = false := decide_eq_false c2
    have c2b1 : decide (0 < x0_1.length) = false := decide_eq_false (by omega)
    clear c2
    obtain rfl := Option.some.inj H
    obtain ⟨Ao12, co12, eo12⟩ := Kd.V_slice HO_0.out
    subst eo12
    go_wp2
    go_ret
    exact ⟨_, zq9, zq3 HO_0.out, zq1⟩
def rf_natOf.l0 : Nat → List Int → List Int → Int → Int → Option (List Int)
 | 0, _, _, _, _ => none
 | k + 1, x3, x6, x7, x8 => if x8 < x7 then (if 0 ≤ x8 then (if x8 < (x6.length : Int) then ((some (([wrap64 (Go.bits .and .u32 (rd x6 x8) 65535), wrap64 ((rd x6 x8) / 65536)] : List Int) : List Int)).bind fun y527 => (if x3.length + y527.length < 17592186044416 then (rf_natOf.l0 k (x3 ++ y527) x6 x7 (wrap64 (x8 + 1))) else (none))) else (none)) else (none)) else ((rf_trim.f k x3).bind fun t533 => (some t533))
def rf_natOf.f (k : Nat) (l0 : List Int) : Option (List Int) := rf_natOf.l0 k ([] : List Int) l0 (l0.length : Int) 0
theorem rf_natOf.mono_l : ∀ k, (∀ y0 y1 y2 y3, LeO (rf_natOf.l0 k y0 y1 y2 y3) (rf_natOf.l0 (k + 1) y0 y1 y2 y3))
 | 0 => fun _ _ _ _ r h => by simp [rf_natOf.l0] at h
 | k + 1 => by
  have ih0 := rf_natOf.mono_l k
  ·intro y0 y1 y2 y3
   unfold rf_natOf.l0
   have m0 := ih0
   have m1 := @rf_trim.mono
   exact zm
theorem rf_natOf.mono : ∀ a0 k, LeO (rf_natOf.f k a0) (rf_natOf.f (k + 1) a0) := by
 intro a0 k
 have ih0 := rf_natOf.mono_l k
 unfold rf_natOf.f
 have m0 := ih0
 have m1 := @rf_trim.mono
 exact zm
set_option maxHeartbeats 8000000 in
set_option maxRecDepth 100000 in
theorem rf_natOf.calls (k : Nat) (A0 : Option Addr) (c0 : Nat) (l0 : List Int) (r : List Int) (w : World) (hr0 : Kd.C (Kd.int .u32) w A0 l0.length l0) (hc0 : l0.length ≤ c0) (h : rf_natOf.f k l0 = some r) :
  Calls Tryd.prog 45 #[.slice A0 l0.length c0] w fun e w' => ∃ v0_ : Value, e = .returned (v0_) ∧ Kd.V (Kd.int .i64) 3 w' w.heap.size (fun k_ => (w.heap.size ≤ k_)) v0_ r ∧ Below w.heap.size w w' := by
 have HR0 := am hr0
 have HC0 := am hc0
 clear hr0 hc0
 have HB := am (Below.refl w.heap.size w)
 have H := h
 unfold rf_natOf.f at H
 clear h
 have H' := am H
 clear H
 go_enter Tryd.func45, Tryd.ntmps45
 go_wp2
 go_loopg [3, 8] k (fun kq v3 v8 w' => ∃ (x3_1 : List Int) (x8_1 : Int), v8 = .int .i64 x8_1 ∧ Aside0 (rf_natOf.l0 kq x3_1 l0 (l0.length : Int) x8_1 = some r) ∧ Aside0 (kq ≤ k) ∧ Aside0 (Kd.R (Kd.int .i64) 3 w' w.heap.size (fun k_ => (w.heap.size ≤ k_)) v3 x3_1) ∧ Aside0 (Below w.heap.size w w'))
 case atStart => exact ⟨(([] : List Int)), (0), zq8, H', ⟨Nat.le_refl _⟩, ⟨by first | exact Kd.R_nil _ _ _ _ _ | exact Kd.N_nil _ _ _ _ _ | exact Kd.V_nil _ _ _ _ _ | exact Kd.Q_nil _ _ _ _ _ | exact Kd.S_nil _ _ _ _ _⟩, ⟨zq1⟩⟩
 case round =>
  clear H'
  obtain ⟨x3_1, x8_1, rfl, HA, HK1, HO_3, HB⟩ := hrel
  cases gk with
  | zero => exact absurd HA.out (by simp [rf_natOf.l0])
  | succ k1 =>
   have H := HA.out
   clear HA
   simp only [rf_natOf.l0] at H
   by_cases c2 : x8_1 < (l0.length : Int)
   ·rw [if_pos c2] at H
    have c2b0 := decide_eq_true c2
    clear c2
    replace H := zn H
    obtain ⟨c3, H⟩ := H
    have c3b0 := decide_eq_true c3
    clear c3
    replace H := zn H
    obtain ⟨c4, H⟩ := H
    have c4b0 := decide_eq_true c4
    clear c4
    obtain ⟨y527, hy527⟩ : ∃ y_ : List Int, y_ = (([wrap64 (Go.bits .and .u32 (rd l0 x8_1) 65535), wrap64 ((rd l0 x8_1) / 65536)] : List Int)) := ⟨_, rfl⟩
    try rw [← hy527] at H
    have Ny527 := am hy527
    clear hy527
    replace H := zn H
    obtain ⟨c5, H⟩ := H
    have LMc5 := am c5
    clear c5
    obtain ⟨y530, hy530⟩ : ∃ y_ : List Int, y_ = (x3_1 ++ y527) := ⟨_, rfl⟩
    try rw [← hy530] at H
    have Ny530 := am hy530
    clear hy530
    have H' := am H
    clear H
    have p526 : 0 ≤ (x8_1 : Int) := zq6
    have q526 : x8_1 < (l0.length : Int) := zq6
    obtain ⟨ad526, e526, hx526_0⟩ := Kd.at_int HR0.out x8_1 p526 q526
    cases e526
    replace hx526_0 := (HB.out.cell (World.block_lt_of_cell? w _ hx526_0)).trans hx526_0
    replace p526 := eq_true p526
    replace q526 := eq_true q526
    go_wp2_with (first | ((with_reducible refine gate_dst (N := 19) rfl ?_); refine Kd.R_lit (Kd.int .i64) _ 3 ?hg (N := 19) ?hd (xs := ([wrap64 (Go.bits .and .u32 (rd l0 x8_1) 65535), wrap64 ((rd l0 x8_1) / 65536)] : List Int)) (inner := [.int .i64 (wrap64 (Go.bits .and .u32 (rd l0 x8_1) 65535)), .int .i64 (wrap64 ((rd l0 x8_1) / 65536))]) (ok := fun _ => True) (okp := fun _ => True) ?hr ?hp (fun _ hk => hk) trivial (Below.refl _ _) (Nat.le_refl _) (by simp) ?_; (case hd => rfl); (case hg => rfl); (case hr => exact zr); (case hp => exact (Reps.one (show Kd.M (Kd.int .i64) _ _ _ (wrap64 (Go.bits .and .u32 (rd l0 x8_1) 65535)) [.int .i64 (wrap64 (Go.bits .and .u32 (rd l0 x8_1) 65535))] from rfl) (Reps.one (show Kd.M (Kd.int .i64) _ _ _ (wrap64 ((rd l0 x8_1) / 65536)) [.int .i64 (wrap64 ((rd l0 x8_1) / 65536))] from rfl) (Reps.none _ _)))); intro v528 w6 ho7 hb hg_ hnew_; clear hg_ hnew_; (first | rw [← Ny527.out] at ho7 | (simp only [Int.reduceToNat] at ho7; rw [← Ny527.out] at ho7)); have n0_ := am (Kd.R_elder' (zq4 HO_3.out) (Kd.R_base ho7) hb); have n1_ := am (Kd.R_lower (Kd.R_new' (Kd.R_newM (M := fun k_ => (w.heap.size ≤ k_)) ho7 (below_size zq1) (fun k_ h_ => h_)) (Kd.R_lt (zq4 HO_3.out))) (below_size zq1)); have n2_ := am (below_step zq1 hb); clear HO_3 HB; have HO_3 := n0_; have HO529 := n1_; have HB := n2_; clear n0_ n1_ n2_ hb ho7; obtain ⟨Ao9, co9, eo9⟩ := Kd.R_slice HO529.out; subst eo9) | ((with_reducible refine gate_builtin (b := .append) (xs := #[.tmp 12, .tmp 19]) rfl ?_); at_builtin; refine Kd.R_append_rows (Kd.int .i64) (w0 := w) w.heap.size rfl (.tmp 12) (.tmp 19) 39 3 (.int .i64 0) 8 rfl Tryd.underlying39 info3 rfl (by decide) (by omega) u3 x3_1 y527 _ _ _ (fun k_ => (w.heap.size ≤ k_) ∧ some k_ ≠ (.slice Ao9 y527.length co9 : Value).ownBlock) (fun _ => False) rfl rfl ?aO ?aR (fun _ _ h => h) (fun _ h => h.elim) ?aF ?aB ?aS ?aL ?_; (case aR => repeat (first | exact (Kd.R_reads' HO529.out).2.2 | (with_reducible refine Kd.C_alloc ?_ _) | (with_reducible refine Kd.C_drewN ?_ _) | (with_reducible refine Kd.C_drew ?_))); (case aB => exact zq1); (case aF => exact (fun k_ hk => ⟨(Nat.le_trans (below_size zq1) hk), Kd.fresh' (Kd.R_lt (zq4 HO529.out)) k_ hk⟩)); (case aO => exact (zq4 HO_3.out)); (case aS => exact (below_size zq1)); (case aL => have := LMc5.out; omega); intro v531 w8 ho hb hg hat; rw [← Ny530.out] at ho; have n0_ := am (Kd.R_after (ok := (fun k_ => (w.heap.size ≤ k_))) (by (with_reducible repeat (first | apply Kd.R_alloc | apply Kd.R_drewN | apply Kd.R_drew)); exact Kd.R_mono HO529.out (fun _ hk => ⟨hk.1.1, hk.2⟩)) hg hat); have n1_ := am (hb); have n2_ := am (ho); clear HO529 HB HO_3; have HO529 := n0_; have HB := n1_; have HO532 := n2_; clear n0_ n1_ n2_; clear ho hb hg hat))
    go_roundg k1
    case measure => have := HK1.out; omega
    case rel => exact ⟨(y530), (wrap64 (x8_1 + 1)), zq8, H', ⟨by have := HK1.out; omega⟩, ⟨by (with_reducible repeat (first | apply Kd.R_alloc | apply Kd.R_drewN | apply Kd.R_drew)); exact Kd.R_mono HO532.out (fun _ hk => hk.1)⟩, ⟨zq1⟩⟩
   ·rw [if_neg c2] at H
    have c2b0 := decide_eq_false c2
    clear c2
    replace H := zi H
    obtain ⟨t533, A100, H⟩ := H
    have A10 := am A100
    clear A100
    obtain rfl := Option.some.inj H
    obtain ⟨Ao11, co11, eo11⟩ := Kd.R_slice HO_3.out
    subst eo11
    go_wp2_with (first | ((with_reducible refine gate_callee (f := 96) rfl ?_); refine goesL_ (some 23) rfl rfl Tryd.func96 (by kernel_rfl) rfl #[.slice Ao11 x3_1.length co11] rfl zq5 ?_; (with_reducible refine (rf_trim.calls k1 (fun k_ => some k_ = (.slice Ao11 x3_1.length co11 : Value).ownBlock) _ _ x3_1 t533 _ ?side1 A10.out).mono ?_); (case side1 => exact Kd.R_V (Kd.R_tight rfl (HO_3.out))); rintro e w12 ⟨v534, rfl, ho0, hb⟩; refine ⟨_, rfl, ?_⟩; have n0_ := am (Kd.R_below (zq4 HO_3.out) hb); have n1_ := am (Kd.V_lower (Kd.V_mono (ok' := fun k_ => (w.heap.size ≤ k_)) ho0 (fun k_ hk_ => Or.elim hk_ (fun hs_ => ((HO_3.out).1 k_ hs_.symm)) (fun hn_ => (Nat.le_trans (below_size zq1) hn_)))) (below_size zq1)); have n2_ := am (below_step zq1 hb); clear HO_3 HB; have HO_3 := n0_; have HO535 := n1_; have HB := n2_; clear n0_ n1_ n2_))
    go_ret
    exact ⟨_, zq9, zq3 HO535.out, zq1⟩
def rf_digit.f (l0 : List Int) (a1 : Int) : Option (Int) := if a1 < (l0.length : Int) then (if 0 ≤ a1 then (some (rd l0 a1)) else (none)) else (some 0)
set_option maxHeartbeats 8000000 in
set_option maxRecDepth 100000 in
theorem rf_digit.calls (A0 : Option Addr) (c0 : Nat) (l0 : List Int) (a1 : Int) (r : Int) (w : World) (hr0 : Kd.C (Kd.int .i64) w A0 l0.length l0) (hc0 : l0.length ≤ c0) (h : rf_digit.f l0 a1 = some r) :
  Calls Tryd.prog 97 #[.slice A0 l0.length c0, .int .i64 a1] w fun e w' => e = .returned (.int .i64 r) ∧ Drawn0 w w' := by
 have HR0 := am hr0
 have HC0 := am hc0
 clear hr0 hc0
 have H := h
 unfold rf_digit.f at H
 clear h
 by_cases c3 : a1 < (l0.length : Int)
 ·rw [if_pos c3] at H
  have c3b0 := decide_eq_true c3
  clear c3
  replace H := zn H
  obtain ⟨c4, H⟩ := H
  have c4b0 := decide_eq_true c4
  clear c4
  obtain rfl := Option.some.inj H
  have p536 : 0 ≤ (a1 : Int) := zq6
  have q536 : a1 < (l0.length : Int) := zq6
  obtain ⟨ad536, e536, hx536_0⟩ := Kd.at_int HR0.out a1 p536 q536
  cases e536
  replace p536 := eq_true p536
  replace q536 := eq_true q536
  go_enter Tryd.func97, Tryd.ntmps97
  go_wp2
  go_ret
  exact ⟨by first | rfl | (simp; done) | (simp [*]; done), by repeat (first | exact Drawn0.refl _ | apply Drawn0.step)⟩
 ·rw [if_neg c3] at H
  have c3b0 := decide_eq_false c3
  clear c3
  obtain rfl := Option.some.inj H
  go_enter Tryd.func97, Tryd.ntmps97
  go_wp2
  go_ret
  exact ⟨by first | rfl | (simp; done) | (simp [*]; done), by repeat (first | exact Drawn0.refl _ | apply Drawn0.step)⟩
def rf_CmpNat.l0 : Nat → List Int → List Int → Int → Option (Int)
 | 0, _, _, _ => none
 | k + 1, x0, x1, x5 => if x5 ≥ 0 then ((rf_digit.f x0 x5).bind fun t537 => ((rf_digit.f x1 x5).bind fun t538 => (if t537 < t538 then (some (-1)) else (if t537 > t538 then (some 1) else (rf_CmpNat.l0 k x0 x1 (wrap64 (x5 - 1))))))) else (some 0)
def rf_CmpNat.f (k : Nat) (l0 : List Int) (l1 : List Int) : Option (Int) := rf_CmpNat.l0 k l0 l1 (wrap64 ((mx (l0.length : Int) (l1.length : Int)) - 1))
theorem rf_CmpNat.mono_l : ∀ k, (∀ y0 y1 y2, LeO (rf_CmpNat.l0 k y0 y1 y2) (rf_CmpNat.l0 (k + 1) y0 y1 y2))
 | 0 => fun _ _ _ r h => by simp [rf_CmpNat.l0] at h
 | k + 1 => by
  have ih0 := rf_CmpNat.mono_l k
  ·intro y0 y1 y2
   unfold rf_CmpNat.l0
   have m0 := ih0
   exact zm
theorem rf_CmpNat.mono : ∀ a0 a1 k, LeO (rf_CmpNat.f k a0 a1) (rf_CmpNat.f (k + 1) a0 a1) := by
 intro a0 a1 k
 have ih0 := rf_CmpNat.mono_l k
 unfold rf_CmpNat.f
 have m0 := ih0
 exact zm
set_option maxHeartbeats 8000000 in
set_option maxRecDepth 100000 in
theorem rf_CmpNat.calls (k : Nat) (A0 : Option Addr) (c0 : Nat) (l0 : List Int) (A1 : Option Addr) (c1 : Nat) (l1 : List Int) (r : Int) (w : World) (hr0 : Kd.C (Kd.int .i64) w A0 l0.length l0) (hc0 : l0.length ≤ c0) (hr1 : Kd.C (Kd.int .i64) w A1 l1.length l1) (hc1 : l1.length ≤ c1) (h : rf_CmpNat.f k l0 l1 = some r) :
  Calls Tryd.prog 46 #[.slice A0 l0.length c0, .slice A1 l1.length c1] w fun e w' => e = .returned (.int .i64 r) ∧ Below w.heap.size w w' := by
 have HR0 := am hr0
 have HC0 := am hc0
 clear hr0 hc0
 have HR1 := am hr1
 have HC1 := am hc1
 clear hr1 hc1
 have HB := am (Below.refl w.heap.size w)
 have H := h
 unfold rf_CmpNat.f at H
 clear h
 obtain ⟨ji3, hji3⟩ : ∃ j_ : Int, (mx (l0.length : Int) (l1.length : Int)) = j_ := ⟨_, rfl⟩
 replace H : (rf_CmpNat.l0 k l0 l1 (wrap64 ((ji3) - 1))) = some r := by first | (rw [hji3] at H; exact H) | (simp only [hji3] at H ⊢; exact H)
 (try (have hji3l : 0 ≤ ji3 := by (rw [← hji3]; unfold mx; (repeat' split) <;> omega)))
 (try (have hji3m : 0 ≤ ji3 := by omega))
 have hji3_ : (if (l0.length : Int) < (l1.length : Int) then (l1.length : Int) else (l0.length : Int)) = ji3 := hji3
 (try (have hji3__ : (if l0.length < l1.length then (l1.length : Int) else (l0.length : Int)) = ji3 := by rw [← hji3_]; simp only [Int.ofNat_lt]))
 have H' := am H
 clear H
 go_enter Tryd.func46, Tryd.ntmps46
 go_wp2
 go_loopg [5] k (fun kq v5 w' => ∃ (x5_1 : Int), v5 = .int .i64 x5_1 ∧ Aside0 (rf_CmpNat.l0 kq l0 l1 x5_1 = some r) ∧ Aside0 (kq ≤ k) ∧ Aside0 (Below w.heap.size w w'))
 case atStart => exact ⟨(wrap64 ((ji3) - 1)), (by first | rfl | (simp; done) | (simp only [← hji3] <;> (first | rfl | simp)) | (simp [*]; done)), H', ⟨Nat.le_refl _⟩, ⟨zq1⟩⟩
 case round =>
  clear H'
  obtain ⟨x5_1, rfl, HA, HK1, HB⟩ := hrel
  cases gk with
  | zero => exact absurd HA.out (by simp [rf_CmpNat.l0])
  | succ k1 =>
   have H := HA.out
   clear HA
   simp only [rf_CmpNat.l0] at H
   by_cases c4 : x5_1 ≥ 0
   ·rw [if_pos c4] at H
    have c4b0 : decide (0 ≤ x5_1) = true := decide_eq_true c4
    clear c4
    replace H := zi H
    obtain ⟨t537, A50, H⟩ := H
    have A5 := am A50
    clear A50
    replace H := zi H
    obtain ⟨t538, A60, H⟩ := H
    have A6 := am A60
    clear A60
    by_cases c7 : t537 < t538
    ·rw [if_pos c7] at H
     have c7b0 := decide_eq_true c7
     clear c7
     obtain rfl := Option.some.inj H
     go_wp2_with (first | ((with_reducible refine gate_callee (f := 97) rfl ?_); refine goesL_ (some 20) rfl rfl Tryd.func97 (by kernel_rfl) rfl #[.slice A0 l0.length c0, .int .i64 x5_1] rfl zq5 ?_; (with_reducible refine (rf_digit.calls _ _ l0 x5_1 t537 _ ?side1 ?side2 A5.out).mono ?_); (case side1 => exact zc (Kd.C_below HR0.out HB.out)); (case side2 => exact HC0.out); rintro e w' ⟨rfl, ⟨nd, rfl⟩⟩; refine ⟨_, rfl, ?_⟩) | ((with_reducible refine gate_callee (f := 97) rfl ?_); refine goesL_ (some 23) rfl rfl Tryd.func97 (by kernel_rfl) rfl #[.slice A1 l1.length c1, .int .i64 x5_1] rfl zq5 ?_; (with_reducible refine (rf_digit.calls _ _ l1 x5_1 t538 _ ?side1 ?side2 A6.out).mono ?_); (case side1 => exact zc (Kd.C_below HR1.out zq1)); (case side2 => exact HC1.out); rintro e w' ⟨rfl, ⟨nd, rfl⟩⟩; refine ⟨_, rfl, ?_⟩))
     go_ret
     exact ⟨by first | rfl | (simp [errW_none, errW_some] <;> rfl) | (simp only [← hji3]; first | rfl | (simp [errW_none, errW_some] <;> rfl)) | (simp [*, errW_none, errW_some] <;> rfl), zq1⟩
    ·rw [if_neg c7] at H
     have c7b0 := decide_eq_false c7
     clear c7
     by_cases c8 : t537 > t538
     ·rw [if_pos c8] at H
      have c8b0 : decide (t538 < t537) = true := decide_eq_true c8
      clear c8
      obtain rfl := Option.some.inj H
      go_wp2_with (first | ((with_reducible refine gate_callee (f := 97) rfl ?_); refine goesL_ (some 20) rfl rfl Tryd.func97 (by kernel_rfl) rfl #[.slice A0 l0.length c0, .int .i64 x5_1] rfl zq5 ?_; (with_reducible refine (rf_digit.calls _ _ l0 x5_1 t537 _ ?side1 ?side2 A5.out).mono ?_); (case side1 => exact zc (Kd.C_below HR0.out HB.out)); (case side2 => exact HC0.out); rintro e w' ⟨rfl, ⟨nd, rfl⟩⟩; refine ⟨_, rfl, ?_⟩) | ((with_reducible refine gate_callee (f := 97) rfl ?_); refine goesL_ (some 23) rfl rfl Tryd.func97 (by kernel_rfl) rfl #[.slice A1 l1.length c1, .int .i64 x5_1] rfl zq5 ?_; (with_reducible refine (rf_digit.calls _ _ l1 x5_1 t538 _ ?side1 ?side2 A6.out).mono ?_); (case side1 => exact zc (Kd.C_below HR1.out zq1)); (case side2 => exact HC1.out); rintro e w' ⟨rfl, ⟨nd, rfl⟩⟩; refine ⟨_, rfl, ?_⟩))
      go_ret
      exact ⟨by first | rfl | (simp [errW_none, errW_some] <;> rfl) | (simp only [← hji3]; first | rfl | (simp [errW_none, errW_some] <;> rfl)) | (simp [*, errW_none, errW_some] <;> rfl), zq1⟩
     ·rw [if_neg c8] at H
      have c8b0 : decide (t538 < t537) = false := decide_eq_false c8
      clear c8
      have H' := am H
      clear H
      go_wp2_with (first | ((with_reducible refine gate_callee (f := 97) rfl ?_); refine goesL_ (some 20) rfl rfl Tryd.func97 (by kernel_rfl) rfl #[.slice A0 l0.length c0, .int .i64 x5_1] rfl zq5 ?_; (with_reducible refine (rf_digit.calls _ _ l0 x5_1 t537 _ ?side1 ?side2 A5.out).mono ?_); (case side1 => exact zc (Kd.C_below HR0.out HB.out)); (case side2 => exact HC0.out); rintro e w' ⟨rfl, ⟨nd, rfl⟩⟩; refine ⟨_, rfl, ?_⟩) | ((with_reducible refine gate_callee (f := 97) rfl ?_); refine goesL_ (some 23) rfl rfl Tryd.func97 (by kernel_rfl) rfl #[.slice A1 l1.length c1, .int .i64 x5_1] rfl zq5 ?_; (with_reducible refine (rf_digit.calls _ _ l1 x5_1 t538 _ ?side1 ?side2 A6.out).mono ?_); (case side1 => exact zc (Kd.C_below HR1.out zq1)); (case side2 => exact HC1.out); rintro e w' ⟨rfl, ⟨nd, rfl⟩⟩; refine ⟨_, rfl, ?_⟩))
      go_roundg k1
      case measure => have := HK1.out; omega
      case rel => exact ⟨(wrap64 (x5_1 - 1)), zq8, (by first | exact H' | (rw [hji3]; exact H')), ⟨by have := HK1.out; omega⟩, ⟨zq1⟩⟩
   ·rw [if_neg c4] at H
    have c4b0 : decide (0 ≤ x5_1) = false := decide_eq_false c4
    clear c4
    obtain rfl := Option.some.inj H
    go_wp2
    go_ret
    exact ⟨by first | rfl | (simp [errW_none, errW_some] <;> rfl) | (simp only [← hji3]; first | rfl | (simp [errW_none, errW_some] <;> rfl)) | (simp [*, errW_none, errW_some] <;> rfl), zq1⟩
def rf_ShlNat.l0 : Nat → Int → List Int → Int → List Int → Int → Int → Option (List Int)
 | 0, _, _, _, _, _, _ => none
 | k + 1, x1, x5, x6, x16, x17, x18 => if x18 < x17 then (if 0 ≤ x18 then (if x18 < (x16.length : Int) then (if 0 ≤ (Int.tmod x1 16) then (if x5.length < 17592186044416 then (rf_ShlNat.l0 k x1 (x5 ++ [Int.tmod (Go.bits .or .i64 (shl .i64 (rd x16 x18) (Int.tmod x1 16)) x6) 65536]) (wrap64 (Int.tdiv (Go.bits .or .i64 (shl .i64 (rd x16 x18) (Int.tmod x1 16)) x6) 65536)) x16 x17 (wrap64 (x18 + 1))) else (none)) else (none)) else (none)) else (none)) else (if x5.length < 17592186044416 then ((rf_trim.f k (x5 ++ [x6])).bind fun t549 => (some t549)) else (none))
def rf_ShlNat.f (k : Nat) (l0 : List Int) (a1 : Int) : Option (List Int) := if (l0.length : Int) = 0 then (some ([] : List Int)) else (if 0 ≤ (wrap64 (Int.tdiv a1 16)) then (if (wrap64 (Int.tdiv a1 16) : Int).toNat ≤ 35184372088832 then (rf_ShlNat.l0 k a1 (List.replicate (wrap64 (Int.tdiv a1 16) : Int).toNat 0) 0 l0 (l0.length : Int) 0) else (none)) else (none))
theorem rf_ShlNat.mono_l : ∀ k, (∀ y0 y1 y2 y3 y4 y5, LeO (rf_ShlNat.l0 k y0 y1 y2 y3 y4 y5) (rf_ShlNat.l0 (k + 1) y0 y1 y2 y3 y4 y5))
 | 0 => fun _ _ _ _ _ _ r h => by simp [rf_ShlNat.l0] at h
 | k + 1 => by
  have ih0 := rf_ShlNat.mono_l k
  ·intro y0 y1 y2 y3 y4 y5
   unfold rf_ShlNat.l0
   have m0 := ih0
   have m1 := @rf_trim.mono
   exact zm
theorem rf_ShlNat.mono : ∀ a0 a1 k, LeO (rf_ShlNat.f k a0 a1) (rf_ShlNat.f (k + 1) a0 a1) := by
 intro a0 a1 k
 have ih0 := rf_ShlNat.mono_l k
 unfold rf_ShlNat.f
 have m0 := ih0
 have m1 := @rf_trim.mono
 exact zm
set_option maxHeartbeats 8000000 in
set_option maxRecDepth 100000 in
theorem rf_ShlNat.calls (k : Nat) (A0 : Option Addr) (c0 : Nat) (l0 : List Int) (a1 : Int) (r : List Int) (w : World) (hr0 : Kd.C (Kd.int .i64) w A0 l0.length l0) (hc0 : l0.length ≤ c0) (h : rf_ShlNat.f k l0 a1 = some r) :
  Calls Tryd.prog 82 #[.slice A0 l0.length c0, .int .i64 a1] w fun e w' => ∃ v0_ : Value, e = .returned (v0_) ∧ Kd.V (Kd.int .i64) 3 w' w.heap.size (fun k_ => (w.heap.size ≤ k_)) v0_ r ∧ Below w.heap.size w w' := by
 have HR0 := am hr0
 have HC0 := am hc0
 clear hr0 hc0
 have HB := am (Below.refl w.heap.size w)
 have H := h
 unfold rf_ShlNat.f at H
 clear h
 by_cases c3 : (l0.length : Int) = 0
 ·rw [if_pos c3] at H
  have c3b0 : ((l0.length : Int) == 0) = true := beq_iff_eq.mpr c3
  have c3b1 : ((l0.length : Int) != 0) = false := bne_eq_false_iff_eq.mpr c3
  clear c3
  obtain rfl := Option.some.inj H
  go_enter Tryd.func82, Tryd.ntmps82
  go_wp2
  go_ret
  exact ⟨_, zq9, Kd.V_nil _ _ _ _ _, zq1⟩
 ·rw [if_neg c3] at H
  have c3b0 : ((l0.length : Int) == 0) = false := beq_eq_false_iff_ne.mpr c3
  have c3b1 : ((l0.length : Int) != 0) = true := bne_iff_ne.mpr c3
  have c3b2 : ¬ (l0 = []) := fun h_ => c3 (by rw [h_]; rfl)
  obtain ⟨ji4, hji4⟩ : ∃ j_ : Int, (wrap64 (Int.tdiv a1 16)) = j_ := ⟨_, rfl⟩
  replace H : (if 0 ≤ (ji4) then (if (ji4 : Int).toNat ≤ 35184372088832 then (rf_ShlNat.l0 k a1 (List.replicate (ji4 : Int).toNat 0) 0 l0 (l0.length : Int) 0) else (none)) else (none)) = some r := by first | (rw [hji4] at H; exact H) | (simp only [hji4] at H ⊢; exact H)
  have hji4w : (IntKind.i64.wrap (Int.tdiv a1 16)) = ji4 := (i64_w _).trans hji4
  replace H := zn H
  obtain ⟨c5, H⟩ := H
  have c5b0 := eq_true c5
  have c5b1 := decide_eq_true c5
  clear c5
  replace H := zn H
  obtain ⟨c6, H⟩ := H
  have c6b0 := eq_true c6
  have c6b1 := decide_eq_true c6
  clear c6
  obtain ⟨y539, hy539⟩ : ∃ y_ : List Int, y_ = (List.replicate (ji4 : Int).toNat 0) := ⟨_, rfl⟩
  try rw [← hy539] at H
  have Ny539 := am hy539
  clear hy539
  have H' := am H
  clear H
  go_enter Tryd.func82, Tryd.ntmps82
  go_wp2_with (first | ((with_reducible refine gate_dst (N := 15) rfl ?_); refine Kd.R_make (Kd.int .i64) _ 3 rfl (N := 15) rfl 39 _ _ rfl ji4 rfl rfl Tryd.underlying39 (.int .i64 0) 8 info3 rfl (by decide) (by omega) 0 (ok := fun _ => True) (okp := fun _ => True) rfl (fun _ hk => hk) trivial zq6 (Nat.le_trans (Nat.mul_le_mul_right _ (zq6 : ji4.toNat ≤ 35184372088832)) (by omega)) (Below.refl _ _) (Nat.le_refl _) ?_; intro v540 w7 ho8 hb hg_ hnew_; clear hg_ hnew_; (first | rw [← Ny539.out] at ho8 | (simp only [Int.reduceToNat] at ho8; rw [← Ny539.out] at ho8)); have n0_ := am (Kd.R_lower (Kd.R_newM (M := fun k_ => (w.heap.size ≤ k_)) ho8 (below_size zq1) (fun k_ h_ => h_)) (below_size zq1)); have n1_ := am (below_step zq1 hb); clear HB; have HO541 := n0_; have HB := n1_; clear n0_ n1_; clear hb ho8))
  go_loopg [5, 6, 18] k (fun kq v5 v6 v18 w' => ∃ (x5_1 : List Int) (x6_1 : Int) (x18_1 : Int), v6 = .int .i64 x6_1 ∧ v18 = .int .i64 x18_1 ∧ Aside0 (rf_ShlNat.l0 kq a1 x5_1 x6_1 l0 (l0.length : Int) x18_1 = some r) ∧ Aside0 (kq ≤ k) ∧ Aside0 (Kd.R (Kd.int .i64) 3 w' w.heap.size (fun k_ => (w.heap.size ≤ k_)) v5 x5_1) ∧ Aside0 (Below w.heap.size w w'))
  case atStart => exact ⟨(y539), (0), (0), zq8, zq8, H', ⟨Nat.le_refl _⟩, ⟨by (with_reducible repeat (first | apply Kd.R_alloc | apply Kd.R_drewN | apply Kd.R_drew)); exact Kd.R_mono HO541.out (fun _ hk => hk.1)⟩, ⟨zq1⟩⟩
  case round =>
   clear H'
   obtain ⟨x5_1, x6_1, x18_1, rfl, rfl, HA, HK1, HO_5, HB⟩ := hrel
   cases gk with
   | zero => exact absurd HA.out (by simp [rf_ShlNat.l0])
   | succ k1 =>
    have H := HA.out
    clear HA
    simp only [rf_ShlNat.l0] at H
    by_cases c9 : x18_1 < (l0.length : Int)
    ·rw [if_pos c9] at H
     have c9b0 := decide_eq_true c9
     clear c9
     replace H := zn H
     obtain ⟨c10, H⟩ := H
     have c10b0 := decide_eq_true c10
     clear c10
     replace H := zn H
     obtain ⟨c11, H⟩ := H
     have c11b0 := decide_eq_true c11
     clear c11
     obtain ⟨ji12, hji12⟩ : ∃ j_ : Int, (Int.tmod a1 16) = j_ := ⟨_, rfl⟩
     replace H : (if 0 ≤ (ji12) then (if x5_1.length < 17592186044416 then (rf_ShlNat.l0 k1 a1 (x5_1 ++ [Int.tmod (Go.bits .or .i64 (shl .i64 (rd l0 x18_1) (ji12)) x6_1) 65536]) (wrap64 (Int.tdiv (Go.bits .or .i64 (shl .i64 (rd l0 x18_1) (ji12)) x6_1) 65536)) l0 (l0.length : Int) (wrap64 (x18_1 + 1))) else (none)) else (none)) = some r := by first | (rw [hji12] at H; exact H) | (simp only [hji12] at H ⊢; exact H)
     replace H := zn H
     obtain ⟨c13, H⟩ := H
     have c13b0 := eq_true c13
     have c13b1 := decide_eq_true c13
     clear c13
     obtain ⟨ji14, hji14⟩ : ∃ j_ : Int, (shl .i64 (rd l0 x18_1) (ji12)) = j_ := ⟨_, rfl⟩
     replace H : (if x5_1.length < 17592186044416 then (rf_ShlNat.l0 k1 a1 (x5_1 ++ [Int.tmod (Go.bits .or .i64 (ji14) x6_1) 65536]) (wrap64 (Int.tdiv (Go.bits .or .i64 (ji14) x6_1) 65536)) l0 (l0.length : Int) (wrap64 (x18_1 + 1))) else (none)) = some r := by first | (rw [hji14] at H; exact H) | (simp only [hji14] at H ⊢; exact H)
     have hji14_ : (IntKind.i64.wrap ((rd l0 x18_1) * 2 ^ min (ji12).toNat 64)) = ji14 := hji14
     have hji14z : (ji12) ≤ 64 → (IntKind.i64.wrap ((rd l0 x18_1) * 2 ^ (ji12).toNat)) = ji14 := shl_small hji14
     have hji14y : (wrap64 ((rd l0 x18_1) * 2 ^ min (ji12).toNat 64)) = ji14 := (i64_w _).symm.trans hji14_
     have hji14x : (ji12) ≤ 64 → (wrap64 ((rd l0 x18_1) * 2 ^ (ji12).toNat)) = ji14 := fun h_ => (i64_w _).symm.trans (hji14z h_)
     replace H := zn H
     obtain ⟨c15, H⟩ := H
     have LMc15 := am c15
     clear c15
     obtain ⟨y543, hy543⟩ : ∃ y_ : List Int, y_ = (x5_1 ++ [Int.tmod (Go.bits .or .i64 (ji14) x6_1) 65536]) := ⟨_, rfl⟩
     try rw [← hy543] at H
     have Ny543 := am hy543
     clear hy543
     have H' := am H
     clear H
     have p542 : 0 ≤ (x18_1 : Int) := zq6
     have q542 : x18_1 < (l0.length : Int) := zq6
     obtain ⟨ad542, e542, hx542_0⟩ := Kd.at_int HR0.out x18_1 p542 q542
     cases e542
     replace hx542_0 := (HB.out.cell (World.block_lt_of_cell? w _ hx542_0)).trans hx542_0
     replace p542 := eq_true p542
     replace q542 := eq_true q542
     go_wp2_with (first | ((with_reducible refine gate_builtin (b := .append) (xs := #[.tmp 28, .tmp 31]) rfl ?_); at_builtin; refine Kd.R_append (Kd.int .i64) (w0 := w) w.heap.size rfl (.tmp 28) (.tmp 31) 39 3 (.int .i64 0) 8 rfl Tryd.underlying39 info3 rfl (by decide) (by omega) u5 x5_1 (Int.tmod (Go.bits .or .i64 (ji14) x6_1) 65536) [.int .i64 (Int.tmod (Go.bits .or .i64 (ji14) x6_1) 65536)] (fun k_ => (w.heap.size ≤ k_)) (fun _ => False) rfl rfl ?aP (fun _ hk => hk.elim) ?aF ?aO ?aB ?aS ?aL ?_; (case aP => exact rfl); (case aB => exact zq1); (case aF => exact (fun k_ hk => (Nat.le_trans (below_size zq1) hk))); (case aO => exact (zq4 HO_5.out)); (case aS => exact (below_size zq1)); (case aL => have := LMc15.out; omega); intro v544 w16 ho hb hg hat; rw [← Ny543.out] at ho; have n0_ := am (hb); have n1_ := am (ho); clear HB HO_5; have HB := n0_; have HO545 := n1_; clear n0_ n1_; clear ho hb hg hat))
     go_roundg k1
     case measure => have := HK1.out; omega
     case rel => exact ⟨(y543), (wrap64 (Int.tdiv (Go.bits .or .i64 (ji14) x6_1) 65536)), (wrap64 (x18_1 + 1)), (by first | rfl | (simp; done) | (simp only [← hji14] <;> (first | rfl | simp)) | (simp [*]; done)), zq8, (by first | exact H' | (rw [hji4]; exact H') | (rw [hji12]; exact H') | (rw [hji14]; exact H')), ⟨by have := HK1.out; omega⟩, ⟨zq4 HO545.out⟩, ⟨zq1⟩⟩
    ·rw [if_neg c9] at H
     have c9b0 := decide_eq_false c9
     clear c9
     replace H := zn H
     obtain ⟨c17, H⟩ := H
     have LMc17 := am c17
     clear c17
     obtain ⟨y546, hy546⟩ : ∃ y_ : List Int, y_ = (x5_1 ++ [x6_1]) := ⟨_, rfl⟩
     try rw [← hy546] at H
     have Ny546 := am hy546
     clear hy546
     replace H := zi H
     obtain ⟨t549, A180, H⟩ := H
     have A18 := am A180
     clear A180
     obtain rfl := Option.some.inj H
     go_wp2_with (first | ((with_reducible refine gate_builtin (b := .append) (xs := #[.tmp 36, .tmp 38]) rfl ?_); at_builtin; refine Kd.R_append (Kd.int .i64) (w0 := w) w.heap.size rfl (.tmp 36) (.tmp 38) 39 3 (.int .i64 0) 8 rfl Tryd.underlying39 info3 rfl (by decide) (by omega) u5 x5_1 x6_1 [.int .i64 x6_1] (fun k_ => (w.heap.size ≤ k_)) (fun _ => False) rfl rfl ?aP (fun _ hk => hk.elim) ?aF ?aO ?aB ?aS ?aL ?_; (case aP => exact rfl); (case aB => exact zq1); (case aF => exact (fun k_ hk => (Nat.le_trans (below_size zq1) hk))); (case aO => exact (zq4 HO_5.out)); (case aS => exact (below_size zq1)); (case aL => have := LMc17.out; omega); intro v547 w19 ho hb hg hat; rw [← Ny546.out] at ho; have n0_ := am (hb); have n1_ := am (ho); clear HB HO_5; have HB := n0_; have HO548 := n1_; clear n0_ n1_ ho hb hg hat; obtain ⟨Ao20, co20, eo20⟩ := Kd.R_slice HO548.out; subst eo20) | ((with_reducible refine gate_callee (f := 96) rfl ?_); refine goesL_ (some 40) rfl rfl Tryd.func96 (by kernel_rfl) rfl #[.slice Ao20 y546.length co20] rfl zq5 ?_; (with_reducible refine (rf_trim.calls k1 (fun k_ => some k_ = (.slice Ao20 y546.length co20 : Value).ownBlock) _ _ y546 t549 _ ?side1 A18.out).mono ?_); (case side1 => exact Kd.R_V (Kd.R_tight rfl (HO548.out))); rintro e w21 ⟨v550, rfl, ho0, hb⟩; refine ⟨_, rfl, ?_⟩; have n0_ := am (Kd.R_below (zq4 HO548.out) hb); have n1_ := am (Kd.V_lower (Kd.V_mono (ok' := fun k_ => (w.heap.size ≤ k_)) ho0 (fun k_ hk_ => Or.elim hk_ (fun hs_ => ((HO548.out).1 k_ hs_.symm)) (fun hn_ => (Nat.le_trans (below_size zq1) hn_)))) (below_size zq1)); have n2_ := am (below_step zq1 hb); clear HO548 HB; have HO548 := n0_; have HO551 := n1_; have HB := n2_; clear n0_ n1_ n2_))
     go_ret
     exact ⟨_, by first | rfl | (simp [errW_none, errW_some] <;> rfl) | (simp only [← hji4]; first | rfl | (simp [errW_none, errW_some] <;> rfl)) | (simp [*, errW_none, errW_some] <;> rfl), zq3 HO551.out, zq1⟩
def rf_SubNat.l0 : Nat → List Int → List Int → List Int → Int → Int → Int → Option (List Int)
 | 0, _, _, _, _, _, _ => none
 | k + 1, x0, x1, x5, x6, x10, x11 => if x11 < x10 then (if 0 ≤ x11 then (if x11 < (x0.length : Int) then ((rf_digit.f x1 x11).bind fun t553 => (if (wrap64 ((wrap64 ((rd x0 x11) - t553)) - x6)) < 0 then (if x5.length < 17592186044416 then (rf_SubNat.l0 k x0 x1 (x5 ++ [wrap64 ((wrap64 ((wrap64 ((rd x0 x11) - t553)) - x6)) + 65536)]) 1 x10 (wrap64 (x11 + 1))) else (none)) else (if x5.length < 17592186044416 then (rf_SubNat.l0 k x0 x1 (x5 ++ [wrap64 ((wrap64 ((rd x0 x11) - t553)) - x6)]) 0 x10 (wrap64 (x11 + 1))) else (none)))) else (none)) else (none)) else ((rf_trim.f k x5).bind fun t560 => (some t560))
def rf_SubNat.f (k : Nat) (l0 : List Int) (l1 : List Int) : Option (List Int) := rf_SubNat.l0 k l0 l1 ([] : List Int) 0 (l0.length : Int) 0
theorem rf_SubNat.mono_l : ∀ k, (∀ y0 y1 y2 y3 y4 y5, LeO (rf_SubNat.l0 k y0 y1 y2 y3 y4 y5) (rf_SubNat.l0 (k + 1) y0 y1 y2 y3 y4 y5))
 | 0 => fun _ _ _ _ _ _ r h => by simp [rf_SubNat.l0] at h
 | k + 1 => by
  have ih0 := rf_SubNat.mono_l k
  ·intro y0 y1 y2 y3 y4 y5
   unfold rf_SubNat.l0
   have m0 := ih0
   have m1 := @rf_trim.mono
   exact zm
theorem rf_SubNat.mono : ∀ a0 a1 k, LeO (rf_SubNat.f k a0 a1) (rf_SubNat.f (k + 1) a0 a1) := by
 intro a0 a1 k
 have ih0 := rf_SubNat.mono_l k
 unfold rf_SubNat.f
 have m0 := ih0
 have m1 := @rf_trim.mono
 exact zm
set_option maxHeartbeats 8000000 in
set_option maxRecDepth 100000 in
theorem rf_SubNat.calls (k : Nat) (A0 : Option Addr) (c0 : Nat) (l0 : List Int) (A1 : Option Addr) (c1 : Nat) (l1 : List Int) (r : List Int) (w : World) (hr0 : Kd.C (Kd.int .i64) w A0 l0.length l0) (hc0 : l0.length ≤ c0) (hr1 : Kd.C (Kd.int .i64) w A1 l1.length l1) (hc1 : l1.length ≤ c1) (h : rf_SubNat.f k l0 l1 = some r) :
  Calls Tryd.prog 83 #[.slice A0 l0.length c0, .slice A1 l1.length c1] w fun e w' => ∃ v0_ : Value, e = .returned (v0_) ∧ Kd.V (Kd.int .i64) 3 w' w.heap.size (fun k_ => (w.heap.size ≤ k_)) v0_ r ∧ Below w.heap.size w w' := by
 have HR0 := am hr0
 have HC0 := am hc0
 clear hr0 hc0
 have HR1 := am hr1
 have HC1 := am hc1
 clear hr1 hc1
 have HB := am (Below.refl w.heap.size w)
 have H := h
 unfold rf_SubNat.f at H
 clear h
 have H' := am H
 clear H
 go_enter Tryd.func83, Tryd.ntmps83
 go_wp2
 repeat (go_quiet (fail); try go_wp2)
 go_loopg [5, 6, 11] k (fun kq v5 v6 v11 w' => ∃ (x5_1 : List Int) (x6_1 : Int) (x11_1 : Int), v6 = .int .i64 x6_1 ∧ v11 = .int .i64 x11_1 ∧ Aside0 (rf_SubNat.l0 kq l0 l1 x5_1 x6_1 (l0.length : Int) x11_1 = some r) ∧ Aside0 (kq ≤ k) ∧ Aside0 (Kd.R (Kd.int .i64) 3 w' w.heap.size (fun k_ => (w.heap.size ≤ k_)) v5 x5_1) ∧ Aside0 (Below w.heap.size w w'))
 case atStart => exact ⟨(([] : List Int)), (0), (0), zq8, zq8, H', ⟨Nat.le_refl _⟩, ⟨by first | exact Kd.R_nil _ _ _ _ _ | exact Kd.N_nil _ _ _ _ _ | exact Kd.V_nil _ _ _ _ _ | exact Kd.Q_nil _ _ _ _ _ | exact Kd.S_nil _ _ _ _ _⟩, ⟨zq1⟩⟩
 case round =>
  clear H'
  obtain ⟨x5_1, x6_1, x11_1, rfl, rfl, HA, HK1, HO_5, HB⟩ := hrel
  cases gk with
  | zero => exact absurd HA.out (by simp [rf_SubNat.l0])
  | succ k1 =>
   have H := HA.out
   clear HA
   simp only [rf_SubNat.l0] at H
   by_cases c3 : x11_1 < (l0.length : Int)
   ·rw [if_pos c3] at H
    have c3b0 := decide_eq_true c3
    clear c3
    replace H := zn H
    obtain ⟨c4, H⟩ := H
    have c4b0 := decide_eq_true c4
    clear c4
    replace H := zn H
    obtain ⟨c5, H⟩ := H
    have c5b0 := decide_eq_true c5
    clear c5
    replace H := zi H
    obtain ⟨t553, A60, H⟩ := H
    have A6 := am A60
    clear A60
    by_cases c7 : (wrap64 ((wrap64 ((rd l0 x11_1) - t553)) - x6_1)) < 0
    ·rw [if_pos c7] at H
     have c7b0 := decide_eq_true c7
     clear c7
     replace H := zn H
     obtain ⟨c8, H⟩ := H
     have LMc8 := am c8
     clear c8
     obtain ⟨y554, hy554⟩ : ∃ y_ : List Int, y_ = (x5_1 ++ [wrap64 ((wrap64 ((wrap64 ((rd l0 x11_1) - t553)) - x6_1)) + 65536)]) := ⟨_, rfl⟩
     try rw [← hy554] at H
     have Ny554 := am hy554
     clear hy554
     have H' := am H
     clear H
     have p552 : 0 ≤ (x11_1 : Int) := zq6
     have q552 : x11_1 < (l0.length : Int) := zq6
     obtain ⟨ad552, e552, hx552_0⟩ := Kd.at_int HR0.out x11_1 p552 q552
     cases e552
     replace hx552_0 := (HB.out.cell (World.block_lt_of_cell? w _ hx552_0)).trans hx552_0
     replace p552 := eq_true p552
     replace q552 := eq_true q552
     go_wp2_with (first | (go_at_call 97; (with_reducible refine (rf_digit.calls _ _ l1 x11_1 t553 _ ?side1 ?side2 A6.out).mono ?_); (case side1 => exact zc (Kd.C_below HR1.out HB.out)); (case side2 => exact HC1.out); rintro e w' ⟨rfl, ⟨nd, rfl⟩⟩; (try first | exact ⟨rfl, _, World.drewN_drewN _ _ _⟩ | exact ⟨rfl, _, Eq.trans (World.drewN_drewN _ _ _) (congrArg (World.drewN _) (Nat.add_assoc _ _ _))⟩)) | ((with_reducible refine gate_builtin (b := .append) (xs := #[.tmp 28, .tmp 30]) rfl ?_); at_builtin; refine Kd.R_append (Kd.int .i64) (w0 := w) w.heap.size rfl (.tmp 28) (.tmp 30) 39 3 (.int .i64 0) 8 rfl Tryd.underlying39 info3 rfl (by decide) (by omega) u5 x5_1 (wrap64 ((wrap64 ((wrap64 ((rd l0 x11_1) - t553)) - x6_1)) + 65536)) [.int .i64 (wrap64 ((wrap64 ((wrap64 ((rd l0 x11_1) - t553)) - x6_1)) + 65536))] (fun k_ => (w.heap.size ≤ k_)) (fun _ => False) rfl rfl ?aP (fun _ hk => hk.elim) ?aF ?aO ?aB ?aS ?aL ?_; (case aP => exact rfl); (case aB => exact zq1); (case aF => exact (fun k_ hk => (Nat.le_trans (below_size zq1) hk))); (case aO => exact (zq4 HO_5.out)); (case aS => exact (below_size zq1)); (case aL => have := LMc8.out; omega); intro v555 w9 ho hb hg hat; rw [← Ny554.out] at ho; have n0_ := am (hb); have n1_ := am (ho); clear HB HO_5; have HB := n0_; have HO556 := n1_; clear n0_ n1_; clear ho hb hg hat))
     repeat (go_quiet (first | (go_at_call 97; (with_reducible refine (rf_digit.calls _ _ l1 x11_1 t553 _ ?side1 ?side2 A6.out).mono ?_); (case side1 => exact zc (Kd.C_below HR1.out HB.out)); (case side2 => exact HC1.out); rintro e w' ⟨rfl, ⟨nd, rfl⟩⟩; (try first | exact ⟨rfl, _, World.drewN_drewN _ _ _⟩ | exact ⟨rfl, _, Eq.trans (World.drewN_drewN _ _ _) (congrArg (World.drewN _) (Nat.add_assoc _ _ _))⟩)) | ((with_reducible refine gate_builtin (b := .append) (xs := #[.tmp 28, .tmp 30]) rfl ?_); at_builtin; refine Kd.R_append (Kd.int .i64) (w0 := w) w.heap.size rfl (.tmp 28) (.tmp 30) 39 3 (.int .i64 0) 8 rfl Tryd.underlying39 info3 rfl (by decide) (by omega) u5 x5_1 (wrap64 ((wrap64 ((wrap64 ((rd l0 x11_1) - t553)) - x6_1)) + 65536)) [.int .i64 (wrap64 ((wrap64 ((wrap64 ((rd l0 x11_1) - t553)) - x6_1)) + 65536))] (fun k_ => (w.heap.size ≤ k_)) (fun _ => False) rfl rfl ?aP (fun _ hk => hk.elim) ?aF ?aO ?aB ?aS ?aL ?_; (case aP => exact rfl); (case aB => exact zq1); (case aF => exact (fun k_ hk => (Nat.le_trans (below_size zq1) hk))); (case aO => exact (zq4 HO_5.out)); (case aS => exact (below_size zq1)); (case aL => have := LMc8.out; omega); intro v555 w9 ho hb hg hat; rw [← Ny554.out] at ho; have n0_ := am (hb); have n1_ := am (ho); clear HB HO_5; have HB := n0_; have HO556 := n1_; clear n0_ n1_; clear ho hb hg hat)); try go_wp2_with (first | (go_at_call 97; (with_reducible refine (rf_digit.calls _ _ l1 x11_1 t553 _ ?side1 ?side2 A6.out).mono ?_); (case side1 => exact zc (Kd.C_below HR1.out HB.out)); (case side2 => exact HC1.out); rintro e w' ⟨rfl, ⟨nd, rfl⟩⟩; (try first | exact ⟨rfl, _, World.drewN_drewN _ _ _⟩ | exact ⟨rfl, _, Eq.trans (World.drewN_drewN _ _ _) (congrArg (World.drewN _) (Nat.add_assoc _ _ _))⟩)) | ((with_reducible refine gate_builtin (b := .append) (xs := #[.tmp 28, .tmp 30]) rfl ?_); at_builtin; refine Kd.R_append (Kd.int .i64) (w0 := w) w.heap.size rfl (.tmp 28) (.tmp 30) 39 3 (.int .i64 0) 8 rfl Tryd.underlying39 info3 rfl (by decide) (by omega) u5 x5_1 (wrap64 ((wrap64 ((wrap64 ((rd l0 x11_1) - t553)) - x6_1)) + 65536)) [.int .i64 (wrap64 ((wrap64 ((wrap64 ((rd l0 x11_1) - t553)) - x6_1)) + 65536))] (fun k_ => (w.heap.size ≤ k_)) (fun _ => False) rfl rfl ?aP (fun _ hk => hk.elim) ?aF ?aO ?aB ?aS ?aL ?_; (case aP => exact rfl); (case aB => exact zq1); (case aF => exact (fun k_ hk => (Nat.le_trans (below_size zq1) hk))); (case aO => exact (zq4 HO_5.out)); (case aS => exact (below_size zq1)); (case aL => have := LMc8.out; omega); intro v555 w9 ho hb hg hat; rw [← Ny554.out] at ho; have n0_ := am (hb); have n1_ := am (ho); clear HB HO_5; have HB := n0_; have HO556 := n1_; clear n0_ n1_; clear ho hb hg hat)))
     go_roundg k1
     case measure => have := HK1.out; omega
     case rel => exact ⟨(y554), (1), (wrap64 (x11_1 + 1)), zq8, zq8, H', ⟨by have := HK1.out; omega⟩, ⟨zq4 HO556.out⟩, ⟨zq1⟩⟩
    ·rw [if_neg c7] at H
     have c7b0 := decide_eq_false c7
     clear c7
     replace H := zn H
     obtain ⟨c10, H⟩ := H
     have LMc10 := am c10
     clear c10
     obtain ⟨y557, hy557⟩ : ∃ y_ : List Int, y_ = (x5_1 ++ [wrap64 ((wrap64 ((rd l0 x11_1) - t553)) - x6_1)]) := ⟨_, rfl⟩
     try rw [← hy557] at H
     have Ny557 := am hy557
     clear hy557
     have H' := am H
     clear H
     have p552 : 0 ≤ (x11_1 : Int) := zq6
     have q552 : x11_1 < (l0.length : Int) := zq6
     obtain ⟨ad552, e552, hx552_0⟩ := Kd.at_int HR0.out x11_1 p552 q552
     cases e552
     replace hx552_0 := (HB.out.cell (World.block_lt_of_cell? w _ hx552_0)).trans hx552_0
     replace p552 := eq_true p552
     replace q552 := eq_true q552
     go_wp2_with (first | (go_at_call 97; (with_reducible refine (rf_digit.calls _ _ l1 x11_1 t553 _ ?side1 ?side2 A6.out).mono ?_); (case side1 => exact zc (Kd.C_below HR1.out HB.out)); (case side2 => exact HC1.out); rintro e w' ⟨rfl, ⟨nd, rfl⟩⟩; (try first | exact ⟨rfl, _, World.drewN_drewN _ _ _⟩ | exact ⟨rfl, _, Eq.trans (World.drewN_drewN _ _ _) (congrArg (World.drewN _) (Nat.add_assoc _ _ _))⟩)) | ((with_reducible refine gate_builtin (b := .append) (xs := #[.tmp 28, .tmp 30]) rfl ?_); at_builtin; refine Kd.R_append (Kd.int .i64) (w0 := w) w.heap.size rfl (.tmp 28) (.tmp 30) 39 3 (.int .i64 0) 8 rfl Tryd.underlying39 info3 rfl (by decide) (by omega) u5 x5_1 (wrap64 ((wrap64 ((rd l0 x11_1) - t553)) - x6_1)) [.int .i64 (wrap64 ((wrap64 ((rd l0 x11_1) - t553)) - x6_1))] (fun k_ => (w.heap.size ≤ k_)) (fun _ => False) rfl rfl ?aP (fun _ hk => hk.elim) ?aF ?aO ?aB ?aS ?aL ?_; (case aP => exact rfl); (case aB => exact zq1); (case aF => exact (fun k_ hk => (Nat.le_trans (below_size zq1) hk))); (case aO => exact (zq4 HO_5.out)); (case aS => exact (below_size zq1)); (case aL => have := LMc10.out; omega); intro v558 w11 ho hb hg hat; rw [← Ny557.out] at ho; have n0_ := am (hb); have n1_ := am (ho); clear HB HO_5; have HB := n0_; have HO559 := n1_; clear n0_ n1_; clear ho hb hg hat))
     repeat (go_quiet (first | (go_at_call 97; (with_reducible refine (rf_digit.calls _ _ l1 x11_1 t553 _ ?side1 ?side2 A6.out).mono ?_); (case side1 => exact zc (Kd.C_below HR1.out HB.out)); (case side2 => exact HC1.out); rintro e w' ⟨rfl, ⟨nd, rfl⟩⟩; (try first | exact ⟨rfl, _, World.drewN_drewN _ _ _⟩ | exact ⟨rfl, _, Eq.trans (World.drewN_drewN _ _ _) (congrArg (World.drewN _) (Nat.add_assoc _ _ _))⟩)) | ((with_reducible refine gate_builtin (b := .append) (xs := #[.tmp 28, .tmp 30]) rfl ?_); at_builtin; refine Kd.R_append (Kd.int .i64) (w0 := w) w.heap.size rfl (.tmp 28) (.tmp 30) 39 3 (.int .i64 0) 8 rfl Tryd.underlying39 info3 rfl (by decide) (by omega) u5 x5_1 (wrap64 ((wrap64 ((rd l0 x11_1) - t553)) - x6_1)) [.int .i64 (wrap64 ((wrap64 ((rd l0 x11_1) - t553)) - x6_1))] (fun k_ => (w.heap.size ≤ k_)) (fun _ => False) rfl rfl ?aP (fun _ hk => hk.elim) ?aF ?aO ?aB ?aS ?aL ?_; (case aP => exact rfl); (case aB => exact zq1); (case aF => exact (fun k_ hk => (Nat.le_trans (below_size zq1) hk))); (case aO => exact (zq4 HO_5.out)); (case aS => exact (below_size zq1)); (case aL => have := LMc10.out; omega); intro v558 w11 ho hb hg hat; rw [← Ny557.out] at ho; have n0_ := am (hb); have n1_ := am (ho); clear HB HO_5; have HB := n0_; have HO559 := n1_; clear n0_ n1_; clear ho hb hg hat)); try go_wp2_with (first | (go_at_call 97; (with_reducible refine (rf_digit.calls _ _ l1 x11_1 t553 _ ?side1 ?side2 A6.out).mono ?_); (case side1 => exact zc (Kd.C_below HR1.out HB.out)); (case side2 => exact HC1.out); rintro e w' ⟨rfl, ⟨nd, rfl⟩⟩; (try first | exact ⟨rfl, _, World.drewN_drewN _ _ _⟩ | exact ⟨rfl, _, Eq.trans (World.drewN_drewN _ _ _) (congrArg (World.drewN _) (Nat.add_assoc _ _ _))⟩)) | ((with_reducible refine gate_builtin (b := .append) (xs := #[.tmp 28, .tmp 30]) rfl ?_); at_builtin; refine Kd.R_append (Kd.int .i64) (w0 := w) w.heap.size rfl (.tmp 28) (.tmp 30) 39 3 (.int .i64 0) 8 rfl Tryd.underlying39 info3 rfl (by decide) (by omega) u5 x5_1 (wrap64 ((wrap64 ((rd l0 x11_1) - t553)) - x6_1)) [.int .i64 (wrap64 ((wrap64 ((rd l0 x11_1) - t553)) - x6_1))] (fun k_ => (w.heap.size ≤ k_)) (fun _ => False) rfl rfl ?aP (fun _ hk => hk.elim) ?aF ?aO ?aB ?aS ?aL ?_; (case aP => exact rfl); (case aB => exact zq1); (case aF => exact (fun k_ hk => (Nat.le_trans (below_size zq1) hk))); (case aO => exact (zq4 HO_5.out)); (case aS => exact (below_size zq1)); (case aL => have := LMc10.out; omega); intro v558 w11 ho hb hg hat; rw [← Ny557.out] at ho; have n0_ := am (hb); have n1_ := am (ho); clear HB HO_5; have HB := n0_; have HO559 := n1_; clear n0_ n1_; clear ho hb hg hat)))
     go_roundg k1
     case measure => have := HK1.out; omega
     case rel => exact ⟨(y557), (0), (wrap64 (x11_1 + 1)), zq8, zq8, H', ⟨by have := HK1.out; omega⟩, ⟨zq4 HO559.out⟩, ⟨zq1⟩⟩
   ·rw [if_neg c3] at H
    have c3b0 := decide_eq_false c3
    clear c3
    replace H := zi H
    obtain ⟨t560, A120, H⟩ := H
    have A12 := am A120
    clear A120
    obtain rfl := Option.some.inj H
    obtain ⟨Ao13, co13, eo13⟩ := Kd.R_slice HO_5.out
    subst eo13
    go_wp2_with (first | (go_at_call 96; (with_reducible refine (rf_trim.calls k1 (fun k_ => some k_ = (.slice Ao13 x5_1.length co13 : Value).ownBlock) _ _ x5_1 t560 _ ?side1 A12.out).mono ?_); (case side1 => exact Kd.R_V (Kd.R_tight rfl (HO_5.out))); rintro e w14 ⟨v561, rfl, ho0, hb⟩; have n0_ := am (Kd.R_below (zq4 HO_5.out) hb); have n1_ := am (Kd.V_lower (Kd.V_mono (ok' := fun k_ => (w.heap.size ≤ k_)) ho0 (fun k_ hk_ => Or.elim hk_ (fun hs_ => ((HO_5.out).1 k_ hs_.symm)) (fun hn_ => (Nat.le_trans (below_size zq1) hn_)))) (below_size zq1)); have n2_ := am (below_step zq1 hb); clear HO_5 HB; have HO_5 := n0_; have HO562 := n1_; have HB := n2_; clear n0_ n1_ n2_))
    repeat (go_quiet (first | (go_at_call 96; (with_reducible refine (rf_trim.calls k1 (fun k_ => some k_ = (.slice Ao13 x5_1.length co13 : Value).ownBlock) _ _ x5_1 t560 _ ?side1 A12.out).mono ?_); (case side1 => exact Kd.R_V (Kd.R_tight rfl (HO_5.out))); rintro e w14 ⟨v561, rfl, ho0, hb⟩; have n0_ := am (Kd.R_below (zq4 HO_5.out) hb); have n1_ := am (Kd.V_lower (Kd.V_mono (ok' := fun k_ => (w.heap.size ≤ k_)) ho0 (fun k_ hk_ => Or.elim hk_ (fun hs_ => ((HO_5.out).1 k_ hs_.symm)) (fun hn_ => (Nat.le_trans (below_size zq1) hn_)))) (below_size zq1)); have n2_ := am (below_step zq1 hb); clear HO_5 HB; have HO_5 := n0_; have HO562 := n1_; have HB := n2_; clear n0_ n1_ n2_)); try go_wp2_with (first | (go_at_call 96; (with_reducible refine (rf_trim.calls k1 (fun k_ => some k_ = (.slice Ao13 x5_1.length co13 : Value).ownBlock) _ _ x5_1 t560 _ ?side1 A12.out).mono ?_); (case side1 => exact Kd.R_V (Kd.R_tight rfl (HO_5.out))); rintro e w14 ⟨v561, rfl, ho0, hb⟩; have n0_ := am (Kd.R_below (zq4 HO_5.out) hb); have n1_ := am (Kd.V_lower (Kd.V_mono (ok' := fun k_ => (w.heap.size ≤ k_)) ho0 (fun k_ hk_ => Or.elim hk_ (fun hs_ => ((HO_5.out).1 k_ hs_.symm)) (fun hn_ => (Nat.le_trans (below_size zq1) hn_)))) (below_size zq1)); have n2_ := am (below_step zq1 hb); clear HO_5 HB; have HO_5 := n0_; have HO562 := n1_; have HB := n2_; clear n0_ n1_ n2_)))
    go_ret
    exact ⟨_, zq9, zq3 HO562.out, zq1⟩
def rf_bit.f (l0 : List Int) (a1 : Int) : Option (Int) := (rf_digit.f l0 (wrap64 (Int.tdiv a1 16))).bind fun t563 => (if 0 ≤ (Int.tmod a1 16) then (some (Go.bits .and .i64 (shr .i64 t563 (Int.tmod a1 16)) 1)) else (none))
set_option maxHeartbeats 8000000 in
set_option maxRecDepth 100000 in
theorem rf_bit.calls (A0 : Option Addr) (c0 : Nat) (l0 : List Int) (a1 : Int) (r : Int) (w : World) (hr0 : Kd.C (Kd.int .i64) w A0 l0.length l0) (hc0 : l0.length ≤ c0) (h : rf_bit.f l0 a1 = some r) :
  Calls Tryd.prog 98 #[.slice A0 l0.length c0, .int .i64 a1] w fun e w' => e = .returned (.int .i64 r) ∧ Drawn0 w w' := by
 have HR0 := am hr0
 have HC0 := am hc0
 clear hr0 hc0
 have H := h
 unfold rf_bit.f at H
 clear h
 replace H := zi H
 obtain ⟨t563, A30, H⟩ := H
 have A3 := am A30
 clear A30
 obtain ⟨ji4, hji4⟩ : ∃ j_ : Int, (Int.tmod a1 16) = j_ := ⟨_, rfl⟩
 replace H : (if 0 ≤ (ji4) then (some (Go.bits .and .i64 (shr .i64 t563 (ji4)) 1)) else (none)) = some r := by first | (rw [hji4] at H; exact H) | (simp only [hji4] at H ⊢; exact H)
 (try rw [hji4] at A3)
 replace H := zn H
 obtain ⟨c5, H⟩ := H
 have c5b0 := eq_true c5
 have c5b1 := decide_eq_true c5
 clear c5
 obtain ⟨ji6, hji6⟩ : ∃ j_ : Int, (shr .i64 t563 (ji4)) = j_ := ⟨_, rfl⟩
 replace H : (some (Go.bits .and .i64 (ji6) 1)) = some r := by first | (rw [hji6] at H; exact H) | (simp only [hji6] at H ⊢; exact H)
 (try rw [hji6] at A3)
 have hji6_ : (t563 / 2 ^ min (ji4).toNat 64) = ji6 := hji6
 have hji6z : (ji4) ≤ 64 → (t563 / 2 ^ (ji4).toNat) = ji6 := shr_small hji6
 obtain rfl := Option.some.inj H
 go_enter Tryd.func98, Tryd.ntmps98
 go_wp2_with (first | ((with_reducible refine gate_callee (f := 97) rfl ?_); refine goesL_ (some 8) rfl rfl Tryd.func97 (by kernel_rfl) rfl #[.slice A0 l0.length c0, .int .i64 (wrap64 (Int.tdiv a1 16))] rfl zq5 ?_; (with_reducible refine (rf_digit.calls _ _ l0 (wrap64 (Int.tdiv a1 16)) t563 _ ?side1 ?side2 A3.out).mono ?_); (case side1 => exact zc (HR0.out)); (case side2 => exact HC0.out); rintro e w' ⟨rfl, ⟨nd, rfl⟩⟩; refine ⟨_, rfl, ?_⟩))
 go_ret
 exact ⟨by first | rfl | (simp; done) | (simp only [← hji4, ← hji6] <;> (first | rfl | simp)) | (simp [*]; done), by repeat (first | exact Drawn0.refl _ | apply Drawn0.step)⟩
def rf_half.l0 : Nat → List Int → List Int → Int → Int → Option (List Int)
 | 0, _, _, _, _ => none
 | k + 1, x0, x3, x9, x10 => if x10 < x9 then (if 0 ≤ x10 then (if x10 < (x0.length : Int) then ((rf_digit.f x0 (wrap64 (x10 + 1))).bind fun t568 => (if x10 < (x3.length : Int) then (rf_half.l0 k x0 (x3.set (x10 : Int).toNat (Go.bits .or .i64 ((rd x0 x10) / 2) (wrap64 ((Go.bits .and .i64 t568 1) * 32768)))) x9 (wrap64 (x10 + 1))) else (none))) else (none)) else (none)) else ((rf_trim.f k x3).bind fun t570 => (some t570))
def rf_half.f (k : Nat) (l0 : List Int) : Option (List Int) := if 0 ≤ (l0.length : Int) then (if ((l0.length : Int) : Int).toNat ≤ 35184372088832 then (rf_half.l0 k l0 (List.replicate ((l0.length : Int) : Int).toNat 0) (l0.length : Int) 0) else (none)) else (none)
theorem rf_half.mono_l : ∀ k, (∀ y0 y1 y2 y3, LeO (rf_half.l0 k y0 y1 y2 y3) (rf_half.l0 (k + 1) y0 y1 y2 y3))
 | 0 => fun _ _ _ _ r h => by simp [rf_half.l0] at h
 | k + 1 => by
  have ih0 := rf_half.mono_l k
  ·intro y0 y1 y2 y3
   unfold rf_half.l0
   have m0 := ih0
   have m1 := @rf_trim.mono
   exact zm
theorem rf_half.mono : ∀ a0 k, LeO (rf_half.f k a0) (rf_half.f (k + 1) a0) := by
 intro a0 k
 have ih0 := rf_half.mono_l k
 unfold rf_half.f
 have m0 := ih0
 have m1 := @rf_trim.mono
 exact zm
def rf_half.T5 : Bool × List (List Nat × List Nat) := (true, [([], []), ([], []), ([], []), ([], []), ([2, 3], [2, 3]), ([4], [4]), ([5], [5]), ([], []), ([], []), ([8], [8]), ([7, 9], [7, 9]), ([10], [10]), ([11], [11]), ([6, 12], [6, 12]), ([0, 1, 0, 1, 2, 3, 4, 5, 6, 7, 8, 9, 10, 11, 12, 13], [0, 1]), ([14, 13, 10, 0, 1, 2, 3, 4, 5, 6, 7, 8, 9, 10, 11, 12, 13], [13, 14])])
def rf_half.B5 : List Nat := [0, 0, 0, 0, 12, 28, 60, 0, 0, 256, 896, 1920, 3968, 8188, 16383, 32767]
theorem rf_half.tab5 : rtab .any (opsOf Tryd.f99 5) = rf_half.T5 := by kernel_rfl
theorem rf_half.bits5 : waitsOk rf_half.T5.2 rf_half.B5 = true := by kernel_rfl
set_option maxHeartbeats 8000000 in
set_option maxRecDepth 100000 in
theorem rf_half.calls (k : Nat) (A0 : Option Addr) (c0 : Nat) (l0 : List Int) (r : List Int) (w : World) (hr0 : Kd.C (Kd.int .i64) w A0 l0.length l0) (hc0 : l0.length ≤ c0) (h : rf_half.f k l0 = some r) :
  Calls Tryd.prog 99 #[.slice A0 l0.length c0] w fun e w' => ∃ v0_ : Value, e = .returned (v0_) ∧ Kd.V (Kd.int .i64) 3 w' w.heap.size (fun k_ => (w.heap.size ≤ k_)) v0_ r ∧ Below w.heap.size w w' := by
 have HR0 := am hr0
 have HC0 := am hc0
 clear hr0 hc0
 have HB := am (Below.refl w.heap.size w)
 have H := h
 unfold rf_half.f at H
 clear h
 replace H := zn H
 obtain ⟨c2, H⟩ := H
 have c2b0 := eq_true c2
 have c2b1 := decide_eq_true c2
 clear c2
 replace H := zn H
 obtain ⟨c3, H⟩ := H
 have c3b0 := eq_true c3
 have c3b1 := decide_eq_true c3
 clear c3
 obtain ⟨y564, hy564⟩ : ∃ y_ : List Int, y_ = (List.replicate ((l0.length : Int) : Int).toNat 0) := ⟨_, rfl⟩
 try rw [← hy564] at H
 have Ny564 := am hy564
 clear hy564
 have H' := am H
 clear H
 go_enter Tryd.func99, Tryd.ntmps99
 go_wp2_with (first | ((with_reducible refine gate_dst (N := 7) rfl ?_); refine Kd.R_make (Kd.int .i64) _ 3 rfl (N := 7) rfl 39 _ _ rfl (l0.length : Int) rfl rfl Tryd.underlying39 (.int .i64 0) 8 info3 rfl (by decide) (by omega) 0 (ok := fun _ => True) (okp := fun _ => True) rfl (fun _ hk => hk) trivial zq6 (Nat.le_trans (Nat.mul_le_mul_right _ (zq6 : (l0.length : Int).toNat ≤ 35184372088832)) (by omega)) (Below.refl _ _) (Nat.le_refl _) ?_; intro v565 w4 ho5 hb hg_ hnew_; clear hg_ hnew_; (first | rw [← Ny564.out] at ho5 | (simp only [Int.reduceToNat] at ho5; rw [← Ny564.out] at ho5)); have n0_ := am (Kd.R_lower (Kd.R_newM (M := fun k_ => (w.heap.size ≤ k_)) ho5 (below_size zq1) (fun k_ h_ => h_)) (below_size zq1)); have n1_ := am (below_step zq1 hb); clear HB; have HO566 := n0_; have HB := n1_; clear n0_ n1_; clear hb ho5))
 go_loopg [10] k (fun kq v10 w' => ∃ (x3_1 : List Int) (x10_1 : Int), v10 = .int .i64 x10_1 ∧ Aside0 (rf_half.l0 kq l0 x3_1 (l0.length : Int) x10_1 = some r) ∧ Aside0 (kq ≤ k) ∧ Aside0 (Kd.R (Kd.int .i64) 3 w' w.heap.size (fun k_ => (w.heap.size ≤ k_)) v565 x3_1) ∧ Aside0 (Below w.heap.size w w'))
 case atStart => exact ⟨(y564), (0), zq8, H', ⟨Nat.le_refl _⟩, ⟨by (with_reducible repeat (first | apply Kd.R_alloc | apply Kd.R_drewN | apply Kd.R_drew)); exact Kd.R_mono HO566.out (fun _ hk => hk.1)⟩, ⟨zq1⟩⟩
 case round =>
  clear H'
  obtain ⟨x3_1, x10_1, rfl, HA, HK1, HO_3, HB⟩ := hrel
  cases gk with
  | zero => exact absurd HA.out (by simp [rf_half.l0])
  | succ k1 =>
   have H := HA.out
   clear HA
   simp only [rf_half.l0] at H
   by_cases c6 : x10_1 < (l0.length : Int)
   ·rw [if_pos c6] at H
    have c6b0 := decide_eq_true c6
    clear c6
    replace H := zn H
    obtain ⟨c7, H⟩ := H
    have c7b0 := decide_eq_true c7
    clear c7
    replace H := zn H
    obtain ⟨c8, H⟩ := H
    have c8b0 := decide_eq_true c8
    clear c8
    replace H := zi H
    obtain ⟨t568, A90, H⟩ := H
    have A9 := am A90
    clear A90
    replace H := zn H
    obtain ⟨c10, H⟩ := H
    have c10b0 := decide_eq_true c10
    clear c10
    obtain ⟨y569, hy569⟩ : ∃ y_ : List Int, y_ = (x3_1.set (x10_1 : Int).toNat (Go.bits .or .i64 ((rd l0 x10_1) / 2) (wrap64 ((Go.bits .and .i64 t568 1) * 32768)))) := ⟨_, rfl⟩
    try rw [← hy569] at H
    have Ny569 := am hy569
    clear hy569
    have H' := am H
    clear H
    try go_wp2
    have n0_ := am (Kd.R_drew HO_3.out)
    have n1_ := am (below_drew1 HB.out)
    clear HO_3 HB
    have HO_3 := n0_
    have HB := n1_
    clear n0_ n1_
    have p567 : 0 ≤ (x10_1 : Int) := zq6
    have q567 : x10_1 < (l0.length : Int) := zq6
    obtain ⟨ad567, e567, hx567_0⟩ := Kd.at_int HR0.out x10_1 p567 q567
    have hw567_0 := hx567_0
    cases e567
    replace hx567_0 := (HB.out.cell (World.block_lt_of_cell? w _ hx567_0)).trans hx567_0
    replace p567 := eq_true p567
    replace q567 := eq_true q567
    refine start_ (n := 16) (S := fun w' => w'.cell? (ad567.add (x10_1).toNat) = some (.int .i64 (rd l0 x10_1))) (ds := [15]) #[false, false, false, false, false, false, false, false, false, false, false, false, false, false, false, false] (by kernel_rfl) rfl rfl (((HB.out.cell (World.block_lt_of_cell? w _ hw567_0)).trans hw567_0)) (fun hHeld => ?_); refine with_tabW rf_half.tab5 rf_half.bits5 (fun HT_ HW_ => ?_)
    generalize wr.drew = w12 at HO_3 HB hx567_0 hHeld ⊢
    refine pure_ (i := 0) (N := some 13) (v := ?_) (a' := ?_) #[true, false, false, false, false, false, false, false, false, false, false, false, false, false, false, false] rfl rfl (any_of HT_.out (by kernel_rfl)) (fun _ _ _ h => h) (Or.inl ⟨by rfl, ?_⟩) ?_ ?_
    rotate_left
    ·intro w'
     go_simp
     with_reducible rfl
    rotate_left
    ·simp only [Act.put, List.setIfInBounds_toArray, List.set_cons_zero, List.set_cons_succ, i64_w, i32_w]
     rfl
    refine pure_ (i := 1) (N := some 14) (v := ?_) (a' := ?_) #[true, true, false, false, false, false, false, false, false, false, false, false, false, false, false, false] rfl rfl (any_of HT_.out (by kernel_rfl)) (fun _ _ _ h => h) (Or.inl ⟨by rfl, ?_⟩) ?_ ?_
    rotate_left
    ·intro w'
     go_simp
     with_reducible rfl
    rotate_left
    ·simp only [Act.put, List.setIfInBounds_toArray, List.set_cons_zero, List.set_cons_succ, i64_w, i32_w]
     rfl
    refine pure_ (i := 2) (N := some 15) (v := ?_) (a' := ?_) #[true, true, true, false, false, false, false, false, false, false, false, false, false, false, false, false] rfl rfl (any_of HT_.out (by kernel_rfl)) (fun _ _ _ h => h) (Or.inl ⟨by rfl, ?_⟩) ?_ ?_
    rotate_left
    ·intro w'
     go_simp
     with_reducible rfl
    rotate_left
    ·simp only [Act.put, List.setIfInBounds_toArray, List.set_cons_zero, List.set_cons_succ, i64_w, i32_w]
     rfl
    refine pure_ (i := 3) (N := some 16) (v := ?_) (a' := ?_) #[true, true, true, true, false, false, false, false, false, false, false, false, false, false, false, false] rfl rfl (any_of HT_.out (by kernel_rfl)) (fun _ _ _ h => h) (Or.inl ⟨by rfl, ?_⟩) ?_ ?_
    rotate_left
    ·intro w'
     go_simp
     with_reducible rfl
    rotate_left
    ·simp only [Act.put, List.setIfInBounds_toArray, List.set_cons_zero, List.set_cons_succ, i64_w, i32_w]
     rfl
    refine pure_ (i := 4) (N := some 17) (v := ?_) (a' := ?_) #[true, true, true, true, true, false, false, false, false, false, false, false, false, false, false, false] rfl rfl (any_of HT_.out (by kernel_rfl)) (fun _ _ _ h => h) (Or.inl ⟨by rfl, ?_⟩) ?_ ?_
    rotate_left
    ·intro w'
     go_simp
     with_reducible rfl
    rotate_left
    ·simp only [Act.put, List.setIfInBounds_toArray, List.set_cons_zero, List.set_cons_succ, i64_w, i32_w]
     rfl
    refine pure_ (i := 7) (N := some 20) (v := ?_) (a' := ?_) #[true, true, true, true, true, false, false, true, false, false, false, false, false, false, false, false] rfl rfl (any_of HT_.out (by kernel_rfl)) (fun _ _ _ h => h) (Or.inl ⟨by rfl, ?_⟩) ?_ ?_
    rotate_left
    ·intro w'
     go_simp
     with_reducible rfl
    rotate_left
    ·simp only [Act.put, List.setIfInBounds_toArray, List.set_cons_zero, List.set_cons_succ, i64_w, i32_w]
     rfl
    refine pure_ (i := 8) (N := some 21) (v := ?_) (a' := ?_) #[true, true, true, true, true, false, false, true, true, false, false, false, false, false, false, false] rfl rfl (any_of HT_.out (by kernel_rfl)) (fun _ _ _ h => h) (Or.inl ⟨by rfl, ?_⟩) ?_ ?_
    rotate_left
    ·intro w'
     go_simp
     with_reducible rfl
    rotate_left
    ·simp only [Act.put, List.setIfInBounds_toArray, List.set_cons_zero, List.set_cons_succ, i64_w, i32_w]
     rfl
    refine pure_ (i := 9) (N := some 22) (v := ?_) (a' := ?_) #[true, true, true, true, true, false, false, true, true, true, false, false, false, false, false, false] rfl rfl (any_of HT_.out (by kernel_rfl)) (fun _ _ _ h => h) (Or.inl ⟨by rfl, ?_⟩) ?_ ?_
    rotate_left
    ·intro w'
     go_simp
     with_reducible rfl
    rotate_left
    ·simp only [Act.put, List.setIfInBounds_toArray, List.set_cons_zero, List.set_cons_succ, i64_w, i32_w]
     rfl
    refine take_ (i := 5) (N := some 18) (v := ?_) (a' := ?_) #[true, true, true, true, true, true, false, true, true, true, false, false, false, false, false, false] rfl rfl (take_ofW HT_.out HW_.out (by kernel_rfl)) (fun _ _ _ h => h) (Or.inl ⟨by rfl, ?_⟩) hHeld ?_ ?_
    rotate_left
    ·intro w' s0
     go_simp
     with_reducible rfl
    rotate_left
    ·simp only [Act.put, List.setIfInBounds_toArray, List.set_cons_zero, List.set_cons_succ, i64_w, i32_w]
     rfl
    refine pure_ (i := 6) (N := some 19) (v := ?_) (a' := ?_) #[true, true, true, true, true, true, true, true, true, true, false, false, false, false, false, false] rfl rfl (any_of HT_.out (by kernel_rfl)) (fun _ _ _ h => h) (Or.inl ⟨by rfl, ?_⟩) ?_ ?_
    rotate_left
    ·intro w'
     go_simp
     with_reducible rfl
    rotate_left
    ·simp only [Act.put, List.setIfInBounds_toArray, List.set_cons_zero, List.set_cons_succ, i64_w, i32_w]
     rfl
    refine one_ (i := 10) (N := some 23) #[true, true, true, true, true, true, true, true, true, true, true, false, false, false, false, false] rfl rfl (one_of HT_.out (by kernel_rfl)) (by decide) (fun K hK => ?_)
    refine goes_ Tryd.func97 (by kernel_rfl) rfl #[.slice (some ad567) l0.length c0, .int .i64 (wrap64 (x10_1 + 1))] (by rfl) rfl rfl zq5 ?_
    with_reducible refine (rf_digit.calls _ _ l0 (wrap64 (x10_1 + 1)) t568 _ ?side1 ?side2 A9.out).mono ?_
    (case side1 => exact zc (Kd.C_below HR0.out HB.out))
    (case side2 => exact HC0.out)
    rintro e w' ⟨rfl, ⟨nd, rfl⟩⟩
    refine ⟨_, rfl, ?_⟩
    have p11 : 0 ≤ (x10_1 : Int) := zq6
    have q11 : (x10_1 : Int) < ((x3_1.length : Int) : Int) := zq6
    obtain ⟨go11, co11, eo11, gb11, gl11, cl11, HG11⟩ := Kd.R_form HO_3.out (by omega)
    (first | cases eo11 | (injection eo11 with ea_ en_ ec_; (first | subst ea_ | (injection ea_ with ea_; subst ea_)); subst ec_; clear en_))
    have GB11 := am gb11
    have GG11 := am HG11
    clear gb11 gl11 HG11
    obtain ⟨hx11_0, hf11_0⟩ := Kd.R_celln 0 HO_3.out (x10_1 : Int) p11 q11
    replace p11 := eq_true p11
    replace q11 := eq_true q11
    have HP13 := Kd.R_putn HO_3.out (x10_1 : Int) (Go.bits .or .i64 ((rd l0 x10_1) / 2) (wrap64 ((Go.bits .and .i64 t568 1) * 32768)))
    rw [← Ny569.out] at HP13
    have HQ13 := am HP13
    clear HP13
    refine hK.out _ _ (((HB.out.cell (World.block_lt_of_cell? w _ hw567_0)).trans hw567_0)) (fun hHeld => ?_)
    clear hK K
    refine norm_ (a' := ?_) ?_ ?_
    rotate_left
    ·show Act.put _ (some 23) _ = _
     simp only [Act.put, List.setIfInBounds_toArray, List.set_cons_zero, List.set_cons_succ, i64_w, i32_w]
     rfl
    refine pure_ (i := 11) (N := some 24) (v := ?_) (a' := ?_) #[true, true, true, true, true, true, true, true, true, true, true, true, false, false, false, false] rfl rfl (any_of HT_.out (by kernel_rfl)) (fun _ _ _ h => h) (Or.inl ⟨by rfl, ?_⟩) ?_ ?_
    rotate_left
    ·intro w'
     go_simp
     with_reducible rfl
    rotate_left
    ·simp only [Act.put, List.setIfInBounds_toArray, List.set_cons_zero, List.set_cons_succ, i64_w, i32_w]
     rfl
    refine pure_ (i := 12) (N := some 25) (v := ?_) (a' := ?_) #[true, true, true, true, true, true, true, true, true, true, true, true, true, false, false, false] rfl rfl (any_of HT_.out (by kernel_rfl)) (fun _ _ _ h => h) (Or.inl ⟨by rfl, ?_⟩) ?_ ?_
    rotate_left
    ·intro w'
     go_simp
     with_reducible rfl
    rotate_left
    ·simp only [Act.put, List.setIfInBounds_toArray, List.set_cons_zero, List.set_cons_succ, i64_w, i32_w]
     rfl
    refine pure_ (i := 13) (N := some 26) (v := ?_) (a' := ?_) #[true, true, true, true, true, true, true, true, true, true, true, true, true, true, false, false] rfl rfl (any_of HT_.out (by kernel_rfl)) (fun _ _ _ h => h) (Or.inl ⟨by rfl, ?_⟩) ?_ ?_
    rotate_left
    ·intro w'
     go_simp
     with_reducible rfl
    rotate_left
    ·simp only [Act.put, List.setIfInBounds_toArray, List.set_cons_zero, List.set_cons_succ, i64_w, i32_w]
     rfl
    refine pure_ (i := 14) (N := some 27) (v := ?_) (a' := ?_) #[true, true, true, true, true, true, true, true, true, true, true, true, true, true, true, false] rfl rfl (any_of HT_.out (by kernel_rfl)) (fun _ _ _ h => h) (Or.inl ⟨by rfl, ?_⟩) ?_ ?_
    rotate_left
    ·intro w'
     go_simp
     with_reducible rfl
    rotate_left
    ·simp only [Act.put, List.setIfInBounds_toArray, List.set_cons_zero, List.set_cons_succ, i64_w, i32_w]
     rfl
    refine last_ (i := 15) (N := none) #[true, true, true, true, true, true, true, true, true, true, true, true, true, true, true, true] rfl rfl (one_of HT_.out (by kernel_rfl)) (by decide) (fun K hK => ?_)
    refine skip_ (w1 := ?_) (by rfl) rfl ?_ ?_
    rotate_left
    ·go_simp
     rfl
    refine hK.out _ _ ?_
    clear hK K
    refine done_ (done_of HT_.out (by kernel_rfl)) ?_
    try go_wp2
    go_roundg k1
    case measure => have := HK1.out; omega
    case rel => exact ⟨(y569), (wrap64 (x10_1 + 1)), zq8, H', ⟨by have := HK1.out; omega⟩, ⟨zq4 HQ13.out⟩, ⟨zb1 GB11.out⟩⟩
   ·rw [if_neg c6] at H
    have c6b0 := decide_eq_false c6
    clear c6
    replace H := zi H
    obtain ⟨t570, A140, H⟩ := H
    have A14 := am A140
    clear A140
    obtain rfl := Option.some.inj H
    obtain ⟨Ao15, co15, eo15⟩ := Kd.R_slice HO_3.out
    subst eo15
    go_wp2_with (first | ((with_reducible refine gate_callee (f := 96) rfl ?_); refine goesL_ (some 30) rfl rfl Tryd.func96 (by kernel_rfl) rfl #[.slice Ao15 x3_1.length co15] rfl zq5 ?_; (with_reducible refine (rf_trim.calls k1 (fun k_ => some k_ = (.slice Ao15 x3_1.length co15 : Value).ownBlock) _ _ x3_1 t570 _ ?side1 A14.out).mono ?_); (case side1 => exact Kd.R_V (Kd.R_tight rfl (HO_3.out))); rintro e w16 ⟨v571, rfl, ho0, hb⟩; refine ⟨_, rfl, ?_⟩; have n0_ := am (Kd.R_below (zq4 HO_3.out) hb); have n1_ := am (Kd.V_lower (Kd.V_mono (ok' := fun k_ => (w.heap.size ≤ k_)) ho0 (fun k_ hk_ => Or.elim hk_ (fun hs_ => ((HO_3.out).1 k_ hs_.symm)) (fun hn_ => (Nat.le_trans (below_size zq1) hn_)))) (below_size zq1)); have n2_ := am (below_step zq1 hb); clear HO_3 HB; have HO_3 := n0_; have HO572 := n1_; have HB := n2_; clear n0_ n1_ n2_))
    go_ret
    exact ⟨_, zq9, zq3 HO572.out, zq1⟩
mutual
def rf_GcdNat.l0 : Nat → List Int → List Int → Int → Option (List Int)
 | 0, _, _, _ => none
 | k + 1, x0, x1, x5 => (rf_bit.f x0 0).bind fun t573 => (if t573 = 0 then ((rf_bit.f x1 0).bind fun t574 => (rf_GcdNat.j1 k x0 x1 x5 (t574 == 0))) else (rf_GcdNat.j1 k x0 x1 x5 false))
def rf_GcdNat.j1 : Nat → List Int → List Int → Int → Bool → Option (List Int)
 | 0, _, _, _, _ => none
 | k + 1, x0, x1, x5, x22 => if x22 = true then ((rf_half.f k x0).bind fun t575 => ((rf_half.f k x1).bind fun t578 => (rf_GcdNat.l0 k t575 t578 (wrap64 (x5 + 1))))) else (rf_GcdNat.l1 k x0 x1 x5)
def rf_GcdNat.l1 : Nat → List Int → List Int → Int → Option (List Int)
 | 0, _, _, _ => none
 | k + 1, x0, x1, x5 => if (x0.length : Int) > 0 then (rf_GcdNat.l2 k x0 x1 x5) else ((rf_ShlNat.f k x1 x5).bind fun t581 => (some t581))
def rf_GcdNat.l2 : Nat → List Int → List Int → Int → Option (List Int)
 | 0, _, _, _ => none
 | k + 1, x0, x1, x5 => (rf_bit.f x0 0).bind fun t584 => (if t584 = 0 then ((rf_half.f k x0).bind fun t585 => (rf_GcdNat.l2 k t585 x1 x5)) else (rf_GcdNat.l3 k x0 x1 x5))
def rf_GcdNat.l3 : Nat → List Int → List Int → Int → Option (List Int)
 | 0, _, _, _ => none
 | k + 1, x0, x1, x5 => (rf_bit.f x1 0).bind fun t588 => (if t588 = 0 then ((rf_half.f k x1).bind fun t589 => (rf_GcdNat.l3 k x0 t589 x5)) else ((rf_CmpNat.f k x0 x1).bind fun t592 => (if t592 < 0 then ((rf_SubNat.f k x1 x0).bind fun t593 => (rf_GcdNat.l1 k t593 x0 x5)) else ((rf_SubNat.f k x0 x1).bind fun t596 => (rf_GcdNat.l1 k t596 x1 x5)))))
end
def rf_GcdNat.f (k : Nat) (l0 : List Int) (l1 : List Int) : Option (List Int) := if (l0.length : Int) = 0 then (some l1) else (if (l1.length : Int) = 0 then (some l0) else (rf_GcdNat.l0 k l0 l1 0))
theorem rf_GcdNat.mono_l : ∀ k, (∀ y0 y1 y2, LeO (rf_GcdNat.l0 k y0 y1 y2) (rf_GcdNat.l0 (k + 1) y0 y1 y2)) ∧ (∀ y0 y1 y2 y3, LeO (rf_GcdNat.j1 k y0 y1 y2 y3) (rf_GcdNat.j1 (k + 1) y0 y1 y2 y3)) ∧ (∀ y0 y1 y2, LeO (rf_GcdNat.l1 k y0 y1 y2) (rf_GcdNat.l1 (k + 1) y0 y1 y2)) ∧ (∀ y0 y1 y2, LeO (rf_GcdNat.l2 k y0 y1 y2) (rf_GcdNat.l2 (k + 1) y0 y1 y2)) ∧ (∀ y0 y1 y2, LeO (rf_GcdNat.l3 k y0 y1 y2) (rf_GcdNat.l3 (k + 1) y0 y1 y2))
 | 0 => ⟨fun _ _ _ r h => by simp [rf_GcdNat.l0] at h, fun _ _ _ _ r h => by simp [rf_GcdNat.j1] at h, fun _ _ _ r h => by simp [rf_GcdNat.l1] at h, fun _ _ _ r h => by simp [rf_GcdNat.l2] at h, fun _ _ _ r h => by simp [rf_GcdNat.l3] at h⟩
 | k + 1 => by
  obtain ⟨ih0, ih1, ih2, ih3, ih4⟩ := rf_GcdNat.mono_l k
  refine ⟨?_, ?_, ?_, ?_, ?_⟩
  ·intro y0 y1 y2
   unfold rf_GcdNat.l0
   repeat' first
   | (with_reducible exact ih0 _ _ _)
   | (with_reducible exact ih1 _ _ _ _)
   | (with_reducible exact ih2 _ _ _)
   | (with_reducible exact ih3 _ _ _)
   | (with_reducible exact ih4 _ _ _)
   | (with_reducible exact rf_CmpNat.mono _ _ _)
   | (with_reducible exact rf_ShlNat.mono _ _ _)
   | (with_reducible exact rf_SubNat.mono _ _ _)
   | (with_reducible exact rf_half.mono _ _)
   | (with_reducible exact LeO.refl _)
   | (with_reducible exact LeO.none _)
   | (with_reducible refine LeO.ite ?_ ?_)
   | (with_reducible refine LeO.bind ?_ (fun _ => ?_))
   | exact ih0 _ _ _
   | exact ih1 _ _ _ _
   | exact ih2 _ _ _
   | exact ih3 _ _ _
   | exact ih4 _ _ _
   | exact rf_CmpNat.mono _ _ _
   | exact rf_ShlNat.mono _ _ _
   | exact rf_SubNat.mono _ _ _
   | exact rf_half.mono _ _
   | exact LeO.none _
   | refine LeO.ite ?_ ?_
   | refine LeO.bind ?_ (fun _ => ?_)
  ·intro y0 y1 y2 y3
   unfold rf_GcdNat.j1
   repeat' first
   | (with_reducible exact ih0 _ _ _)
   | (with_reducible exact ih1 _ _ _ _)
   | (with_reducible exact ih2 _ _ _)
   | (with_reducible exact ih3 _ _ _)
   | (with_reducible exact ih4 _ _ _)
   | (with_reducible exact rf_CmpNat.mono _ _ _)
   | (with_reducible exact rf_ShlNat.mono _ _ _)
   | (with_reducible exact rf_SubNat.mono _ _ _)
   | (with_reducible exact rf_half.mono _ _)
   | (with_reducible exact LeO.refl _)
   | (with_reducible exact LeO.none _)
   | (with_reducible refine LeO.ite ?_ ?_)
   | (with_reducible refine LeO.bind ?_ (fun _ => ?_))
   | exact ih0 _ _ _
   | exact ih1 _ _ _ _
   | exact ih2 _ _ _
   | exact ih3 _ _ _
   | exact ih4 _ _ _
   | exact rf_CmpNat.mono _ _ _
   | exact rf_ShlNat.mono _ _ _
   | exact rf_SubNat.mono _ _ _
   | exact rf_half.mono _ _
   | exact LeO.none _
   | refine LeO.ite ?_ ?_
   | refine LeO.bind ?_ (fun _ => ?_)
  ·intro y0 y1 y2
   unfold rf_GcdNat.l1
   repeat' first
   | (with_reducible exact ih0 _ _ _)
   | (with_reducible exact ih1 _ _ _ _)
   | (with_reducible exact ih2 _ _ _)
   | (with_reducible exact ih3 _ _ _)
   | (with_reducible exact ih4 _ _ _)
   | (with_reducible exact rf_CmpNat.mono _ _ _)
   | (with_reducible exact rf_ShlNat.mono _ _ _)
   | (with_reducible exact rf_SubNat.mono _ _ _)
   | (with_reducible exact rf_half.mono _ _)
   | (with_reducible exact LeO.refl _)
   | (with_reducible exact LeO.none _)
   | (with_reducible refine LeO.ite ?_ ?_)
   | (with_reducible refine LeO.bind ?_ (fun _ => ?_))
   | exact ih0 _ _ _
   | exact ih1 _ _ _ _
   | exact ih2 _ _ _
   | exact ih3 _ _ _
   | exact ih4 _ _ _
   | exact rf_CmpNat.mono _ _ _
   | exact rf_ShlNat.mono _ _ _
   | exact rf_SubNat.mono _ _ _
   | exact rf_half.mono _ _
   | exact LeO.none _
   | refine LeO.ite ?_ ?_
   | refine LeO.bind ?_ (fun _ => ?_)
  ·intro y0 y1 y2
   unfold rf_GcdNat.l2
   repeat' first
   | (with_reducible exact ih0 _ _ _)
   | (with_reducible exact ih1 _ _ _ _)
   | (with_reducible exact ih2 _ _ _)
   | (with_reducible exact ih3 _ _ _)
   | (with_reducible exact ih4 _ _ _)
   | (with_reducible exact rf_CmpNat.mono _ _ _)
   | (with_reducible exact rf_ShlNat.mono _ _ _)
   | (with_reducible exact rf_SubNat.mono _ _ _)
   | (with_reducible exact rf_half.mono _ _)
   | (with_reducible exact LeO.refl _)
   | (with_reducible exact LeO.none _)
   | (with_reducible refine LeO.ite ?_ ?_)
   | (with_reducible refine LeO.bind ?_ (fun _ => ?_))
   | exact ih0 _ _ _
   | exact ih1 _ _ _ _
   | exact ih2 _ _ _
   | exact ih3 _ _ _
   | exact ih4 _ _ _
   | exact rf_CmpNat.mono _ _ _
   | exact rf_ShlNat.mono _ _ _
   | exact rf_SubNat.mono _ _ _
   | exact rf_half.mono _ _
   | exact LeO.none _
   | refine LeO.ite ?_ ?_
   | refine LeO.bind ?_ (fun _ => ?_)
  ·intro y0 y1 y2
   unfold rf_GcdNat.l3
   repeat' first
   | (with_reducible exact ih0 _ _ _)
   | (with_reducible exact ih1 _ _ _ _)
   | (with_reducible exact ih2 _ _ _)
   | (with_reducible exact ih3 _ _ _)
   | (with_reducible exact ih4 _ _ _)
   | (with_reducible exact rf_CmpNat.mono _ _ _)
   | (with_reducible exact rf_ShlNat.mono _ _ _)
   | (with_reducible exact rf_SubNat.mono _ _ _)
   | (with_reducible exact rf_half.mono _ _)
   | (with_reducible exact LeO.refl _)
   | (with_reducible exact LeO.none _)
   | (with_reducible refine LeO.ite ?_ ?_)
   | (with_reducible refine LeO.bind ?_ (fun _ => ?_))
   | exact ih0 _ _ _
   | exact ih1 _ _ _ _
   | exact ih2 _ _ _
   | exact ih3 _ _ _
   | exact ih4 _ _ _
   | exact rf_CmpNat.mono _ _ _
   | exact rf_ShlNat.mono _ _ _
   | exact rf_SubNat.mono _ _ _
   | exact rf_half.mono _ _
   | exact LeO.none _
   | refine LeO.ite ?_ ?_
   | refine LeO.bind ?_ (fun _ => ?_)
theorem rf_GcdNat.mono : ∀ a0 a1 k, LeO (rf_GcdNat.f k a0 a1) (rf_GcdNat.f (k + 1) a0 a1) := by
 intro a0 a1 k
 obtain ⟨ih0, ih1, ih2, ih3, ih4⟩ := rf_GcdNat.mono_l k
 unfold rf_GcdNat.f
 repeat' first
   | (with_reducible exact ih0 _ _ _)
   | (with_reducible exact ih1 _ _ _ _)
   | (with_reducible exact ih2 _ _ _)
   | (with_reducible exact ih3 _ _ _)
   | (with_reducible exact ih4 _ _ _)
   | (with_reducible exact rf_CmpNat.mono _ _ _)
   | (with_reducible exact rf_ShlNat.mono _ _ _)
   | (with_reducible exact rf_SubNat.mono _ _ _)
   | (with_reducible exact rf_half.mono _ _)
   | (with_reducible exact LeO.refl _)
   | (with_reducible exact LeO.none _)
   | (with_reducible refine LeO.ite ?_ ?_)
   | (with_reducible refine LeO.bind ?_ (fun _ => ?_))
   | exact ih0 _ _ _
   | exact ih1 _ _ _ _
   | exact ih2 _ _ _
   | exact ih3 _ _ _
   | exact ih4 _ _ _
   | exact rf_CmpNat.mono _ _ _
   | exact rf_ShlNat.mono _ _ _
   | exact rf_SubNat.mono _ _ _
   | exact rf_half.mono _ _
   | exact LeO.none _
   | refine LeO.ite ?_ ?_
   | refine LeO.bind ?_ (fun _ => ?_)
set_option maxHeartbeats 8000000 in
set_option maxRecDepth 100000 in
theorem rf_GcdNat.calls (k : Nat) (P0_ : Nat → Prop) (A0 : Option Addr) (c0 : Nat) (l0 : List Int) (P1_ : Nat → Prop) (A1 : Option Addr) (c1 : Nat) (l1 : List Int) (r : List Int) (w : World) (hs0 : Kd.V (Kd.int .i64) 3 w w.heap.size (fun k_ => P0_ k_) (.slice A0 l0.length c0) l0) (hs1 : Kd.V (Kd.int .i64) 3 w w.heap.size (fun k_ => P1_ k_) (.slice A1 l1.length c1) l1) (h : rf_GcdNat.f k l0 l1 = some r) :
  Calls Tryd.prog 47 #[.slice A0 l0.length c0, .slice A1 l1.length c1] w fun e w' => ∃ v0_ : Value, e = .returned (v0_) ∧ Kd.V (Kd.int .i64) 3 w' w.heap.size (fun k_ => ((P0_ k_ ∨ P1_ k_) ∨ w.heap.size ≤ k_)) v0_ r ∧ Below w.heap.size w w' := by
 have HO0 := am (show Kd.V (Kd.int .i64) 3 w w.heap.size (fun k_ => ((P0_ k_ ∨ P1_ k_) ∨ w.heap.size ≤ k_)) (.slice A0 l0.length c0) l0 from Kd.V_mono hs0 (fun k_ hk => .inl (.inl hk)))
 have HO1 := am (show Kd.V (Kd.int .i64) 3 w w.heap.size (fun k_ => ((P0_ k_ ∨ P1_ k_) ∨ w.heap.size ≤ k_)) (.slice A1 l1.length c1) l1 from Kd.V_mono hs1 (fun k_ hk => .inl (.inr hk)))
 have HB := am (Below.refl w.heap.size w)
 have H := h
 unfold rf_GcdNat.f at H
 clear h
 by_cases c3 : (l0.length : Int) = 0
 ·rw [if_pos c3] at H
  have c3b0 : ((l0.length : Int) == 0) = true := beq_iff_eq.mpr c3
  have c3b1 : ((l0.length : Int) != 0) = false := bne_eq_false_iff_eq.mpr c3
  clear c3
  obtain rfl := Option.some.inj H
  go_enter Tryd.func47, Tryd.ntmps47
  go_wp2
  go_ret
  exact ⟨_, zq9, zq3 HO1.out, zq1⟩
 ·rw [if_neg c3] at H
  have c3b0 : ((l0.length : Int) == 0) = false := beq_eq_false_iff_ne.mpr c3
  have c3b1 : ((l0.length : Int) != 0) = true := bne_iff_ne.mpr c3
  have c3b2 : ¬ (l0 = []) := fun h_ => c3 (by rw [h_]; rfl)
  by_cases c4 : (l1.length : Int) = 0
  ·rw [if_pos c4] at H
   have c4b0 : ((l1.length : Int) == 0) = true := beq_iff_eq.mpr c4
   have c4b1 : ((l1.length : Int) != 0) = false := bne_eq_false_iff_eq.mpr c4
   clear c4
   obtain rfl := Option.some.inj H
   go_enter Tryd.func47, Tryd.ntmps47
   go_wp2
   go_ret
   exact ⟨_, zq9, zq3 HO0.out, zq1⟩
  ·rw [if_neg c4] at H
   have c4b0 : ((l1.length : Int) == 0) = false := beq_eq_false_iff_ne.mpr c4
   have c4b1 : ((l1.length : Int) != 0) = true := bne_iff_ne.mpr c4
   have c4b2 : ¬ (l1 = []) := fun h_ => c4 (by rw [h_]; rfl)
   have H' := am H
   clear H
   go_enter Tryd.func47, Tryd.ntmps47
   go_wp2
   go_loopg [0, 1, 5] k (fun kq v0 v1 v5 w' => ∃ (x0_1 : List Int) (x1_1 : List Int) (x5_1 : Int), v5 = .int .i64 x5_1 ∧ Aside0 (rf_GcdNat.l0 kq x0_1 x1_1 x5_1 = some r) ∧ Aside0 (kq ≤ k) ∧ Aside0 (Kd.V (Kd.int .i64) 3 w' w.heap.size (fun k_ => ((P0_ k_ ∨ P1_ k_) ∨ w.heap.size ≤ k_)) v0 x0_1) ∧ Aside0 (Kd.V (Kd.int .i64) 3 w' w.heap.size (fun k_ => ((P0_ k_ ∨ P1_ k_) ∨ w.heap.size ≤ k_)) v1 x1_1) ∧ Aside0 (Below w.heap.size w w'))
   case atStart => exact ⟨(l0), (l1), (0), zq8, H', ⟨Nat.le_refl _⟩, ⟨zq3 HO0.out⟩, ⟨zq3 HO1.out⟩, ⟨zq1⟩⟩
   case round =>
    clear H'
    obtain ⟨x0_1, x1_1, x5_1, rfl, HA, HK1, HO_0, HO_1, HB⟩ := hrel
    cases gk with
    | zero => exact absurd HA.out (by simp [rf_GcdNat.l0])
    | succ k1 =>
     have H := HA.out
     clear HA
     simp only [rf_GcdNat.l0] at H
     have HC5 := am H
     clear H
     go_upto_region 6 with (fail)
     go_cut [22] (fun v22 wc => ∃ (kq : Nat) (x22_4 : Bool), v22 = .bool x22_4 ∧ Aside0 (rf_GcdNat.j1 kq x0_1 x1_1 x5_1 x22_4 = some r) ∧ Aside0 (kq ≤ k1) ∧ Aside0 (Kd.V (Kd.int .i64) 3 wc w.heap.size (fun k_ => ((P0_ k_ ∨ P1_ k_) ∨ w.heap.size ≤ k_)) u0 x0_1) ∧ Aside0 (Kd.V (Kd.int .i64) 3 wc w.heap.size (fun k_ => ((P0_ k_ ∨ P1_ k_) ∨ w.heap.size ≤ k_)) u1 x1_1) ∧ Aside0 (Below w.heap.size w wc))
     case first =>
      have H := HC5.out
      clear HC5
      replace H := zi H
      obtain ⟨t573, A60, H⟩ := H
      have A6 := am A60
      clear A60
      by_cases c7 : t573 = 0
      ·rw [if_pos c7] at H
       have c7b0 : (t573 == 0) = true := beq_iff_eq.mpr c7
       have c7b1 : (t573 != 0) = false := bne_eq_false_iff_eq.mpr c7
       clear c7
       (first | rw [c7b0] | (simp only [i64_w, i32_w]; rw [c7b0]) | skip)
       replace H := zi H
       obtain ⟨t574, A80, H⟩ := H
       have A8 := am A80
       clear A80
       have H' := am H
       clear H
       obtain ⟨Ao9, co9, eo9⟩ := Kd.V_slice HO_0.out
       subst eo9
       go_wp2_with (first | ((with_reducible refine gate_callee (f := 98) rfl ?_); refine goesL_ (some 16) rfl rfl Tryd.func98 (by kernel_rfl) rfl #[.slice Ao9 x0_1.length co9, .int .i64 0] rfl zq5 ?_; (with_reducible refine (rf_bit.calls _ _ x0_1 0 t573 _ ?side1 ?side2 A6.out).mono ?_); (case side1 => exact zc ((Kd.V_reads' HO_0.out).2.2)); (case side2 => exact (Kd.V_reads' HO_0.out).2.1); rintro e w' ⟨rfl, ⟨nd, rfl⟩⟩; refine ⟨_, rfl, ?_⟩; obtain ⟨Ao10, co10, eo10⟩ := Kd.V_slice HO_1.out; subst eo10) | (go_at_call 98; (with_reducible refine (rf_bit.calls _ _ x1_1 0 t574 _ ?side1 ?side2 A8.out).mono ?_); (case side1 => exact zc ((Kd.V_reads' HO_1.out).2.2)); (case side2 => exact (Kd.V_reads' HO_1.out).2.1); rintro e w' ⟨rfl, ⟨nd, rfl⟩⟩))
       go_meet
       case rel => exact ⟨_, ((t574 == 0)), zq8, H', ⟨by have := HK1.out; first | omega | exact Nat.le_refl _⟩, ⟨zq3 HO_0.out⟩, ⟨zq3 HO_1.out⟩, ⟨zq1⟩⟩
      ·rw [if_neg c7] at H
       have c7b0 : (t573 == 0) = false := beq_eq_false_iff_ne.mpr c7
       have c7b1 : (t573 != 0) = true := bne_iff_ne.mpr c7
       (first | rw [c7b0] | (simp only [i64_w, i32_w]; rw [c7b0]) | skip)
       have H' := am H
       clear H
       obtain ⟨Ao11, co11, eo11⟩ := Kd.V_slice HO_0.out
       subst eo11
       go_wp2_with (first | ((with_reducible refine gate_callee (f := 98) rfl ?_); refine goesL_ (some 16) rfl rfl Tryd.func98 (by kernel_rfl) rfl #[.slice Ao11 x0_1.length co11, .int .i64 0] rfl zq5 ?_; (with_reducible refine (rf_bit.calls _ _ x0_1 0 t573 _ ?side1 ?side2 A6.out).mono ?_); (case side1 => exact zc ((Kd.V_reads' HO_0.out).2.2)); (case side2 => exact (Kd.V_reads' HO_0.out).2.1); rintro e w' ⟨rfl, ⟨nd, rfl⟩⟩; refine ⟨_, rfl, ?_⟩))
       go_meet
       case rel => exact ⟨_, (false), zq8, H', ⟨by have := HK1.out; first | omega | exact Nat.le_refl _⟩, ⟨zq3 HO_0.out⟩, ⟨zq3 HO_1.out⟩, ⟨zq1⟩⟩
     case rest =>
      clear HC5
      obtain ⟨kq, x22_4, rfl, HA, HJ4, HO_0, HO_1, HB⟩ := hcut
      cases kq with
      | zero => exact absurd HA.out (by simp [rf_GcdNat.j1])
      | succ kj4 =>
       have H := HA.out
       clear HA
       simp only [rf_GcdNat.j1] at H
       by_cases c12 : x22_4 = true
       ·subst c12
        have H1 : ((rf_half.f kj4 x0_1).bind fun t575 => ((rf_half.f kj4 x1_1).bind fun t578 => (rf_GcdNat.l0 kj4 t575 t578 (wrap64 (x5_1 + 1))))) = some r := by rw [if_pos rfl] at H; exact H
        clear H
        have H := H1
        clear H1
        replace H := zi H
        obtain ⟨t575, A130, H⟩ := H
        have A13 := am A130
        clear A130
        replace H := zi H
        obtain ⟨t578, A140, H⟩ := H
        have A14 := am A140
        clear A140
        have H' := am H
        clear H
        obtain ⟨Ao15, co15, eo15⟩ := Kd.V_slice HO_0.out
        subst eo15
        go_wp2_with (first | ((with_reducible refine gate_callee (f := 99) rfl ?_); refine goesL_ (some 24) rfl rfl Tryd.func99 (by kernel_rfl) rfl #[.slice Ao15 x0_1.length co15] rfl zq5 ?_; (with_reducible refine (rf_half.calls kj4 _ _ x0_1 t575 _ ?side1 ?side2 A13.out).mono ?_); (case side1 => exact zc ((Kd.V_reads' HO_0.out).2.2)); (case side2 => exact (Kd.V_reads' HO_0.out).2.1); rintro e w16 ⟨v576, rfl, ho0, hb⟩; refine ⟨_, rfl, ?_⟩; have n0_ := am (Kd.V_below (zq3 HO_0.out) hb); have n1_ := am (Kd.V_below (zq3 HO_1.out) hb); have n2_ := am (Kd.V_lower (Kd.V_mono (ok' := fun k_ => ((P0_ k_ ∨ P1_ k_) ∨ w.heap.size ≤ k_)) ho0 (fun k_ hk_ => (.inr (Nat.le_trans (below_size zq1) hk_)))) (below_size zq1)); have n3_ := am (below_step zq1 hb); clear HO_0 HO_1 HB; have HO_0 := n0_; have HO_1 := n1_; have HO577 := n2_; have HB := n3_; clear n0_ n1_ n2_ n3_; obtain ⟨Ao17, co17, eo17⟩ := Kd.V_slice HO_1.out; subst eo17) | ((with_reducible refine gate_callee (f := 99) rfl ?_); refine goesL_ (some 26) rfl rfl Tryd.func99 (by kernel_rfl) rfl #[.slice Ao17 x1_1.length co17] rfl zq5 ?_; (with_reducible refine (rf_half.calls kj4 _ _ x1_1 t578 _ ?side1 ?side2 A14.out).mono ?_); (case side1 => exact zc ((Kd.V_reads' HO_1.out).2.2)); (case side2 => exact (Kd.V_reads' HO_1.out).2.1); rintro e w18 ⟨v579, rfl, ho0, hb⟩; refine ⟨_, rfl, ?_⟩; have n0_ := am (Kd.V_below (zq3 HO_0.out) hb); have n1_ := am (Kd.V_below (zq3 HO_1.out) hb); have n2_ := am (Kd.V_below (zq3 HO577.out) hb); have n3_ := am (Kd.V_lower (Kd.V_mono (ok' := fun k_ => ((P0_ k_ ∨ P1_ k_) ∨ w.heap.size ≤ k_)) ho0 (fun k_ hk_ => (.inr (Nat.le_trans (below_size zq1) hk_)))) (below_size zq1)); have n4_ := am (below_step zq1 hb); clear HO_0 HO_1 HO577 HB; have HO_0 := n0_; have HO_1 := n1_; have HO577 := n2_; have HO580 := n3_; have HB := n4_; clear n0_ n1_ n2_ n3_ n4_))
        go_roundg kj4
        case measure => have := HK1.out; have := HJ4.out; omega
        case rel => exact ⟨(t575), (t578), (wrap64 (x5_1 + 1)), zq8, H', ⟨by have := HK1.out; have := HJ4.out; omega⟩, ⟨zq3 HO577.out⟩, ⟨zq3 HO580.out⟩, ⟨zq1⟩⟩
       ·replace c12 := Bool.eq_false_iff.mpr c12
        subst c12
        have H1 : (rf_GcdNat.l1 kj4 x0_1 x1_1 x5_1) = some r := by rw [if_neg (show ¬ (false = true) by decide)] at H; exact H
        clear H
        have H := H1
        clear H1
        have H' := am H
        clear H
        go_wp2
        go_loopg [0, 1] kj4 (fun kq v0 v1 w' => ∃ (x0_3 : List Int) (x1_3 : List Int), Aside0 (rf_GcdNat.l1 kq x0_3 x1_3 x5_1 = some r) ∧ Aside0 (kq ≤ kj4) ∧ Aside0 (Kd.V (Kd.int .i64) 3 w' w.heap.size (fun k_ => ((P0_ k_ ∨ P1_ k_) ∨ w.heap.size ≤ k_)) v0 x0_3) ∧ Aside0 (Kd.V (Kd.int .i64) 3 w' w.heap.size (fun k_ => ((P0_ k_ ∨ P1_ k_) ∨ w.heap.size ≤ k_)) v1 x1_3) ∧ Aside0 (Below w.heap.size w w'))
        case atStart => exact ⟨(x0_1), (x1_1), H', ⟨Nat.le_refl _⟩, ⟨zq3 HO_0.out⟩, ⟨zq3 HO_1.out⟩, ⟨zq1⟩⟩
        case round =>
         clear H'
         obtain ⟨x0_3, x1_3, HA, HK3, HO_0, HO_1, HB⟩ := hrel
         cases gk with
         | zero => exact absurd HA.out (by simp [rf_GcdNat.l1])
         | succ k3 =>
          have H := HA.out
          clear HA
          simp only [rf_GcdNat.l1] at H
          by_cases c19 : (x0_3.length : Int) > 0
          ·rw [if_pos c19] at H
           have c19b0 : decide (0 < (x0_3.length : Int)) = true := decide_eq_true c19
           have c19b1 : decide (0 < x0_3.length) = true := decide_eq_true (by omega)
           clear c19
           have H' := am H
           clear H
           obtain ⟨Ao20, co20, eo20⟩ := Kd.V_slice HO_0.out
           subst eo20
           go_wp2
           go_loopg [0] k3 (fun kq v0 w' => ∃ (x0_4 : List Int), Aside0 (rf_GcdNat.l2 kq x0_4 x1_3 x5_1 = some r) ∧ Aside0 (kq ≤ k3) ∧ Aside0 (Kd.V (Kd.int .i64) 3 w' w.heap.size (fun k_ => ((P0_ k_ ∨ P1_ k_) ∨ w.heap.size ≤ k_)) v0 x0_4) ∧ Aside0 (Kd.V (Kd.int .i64) 3 w' w.heap.size (fun k_ => ((P0_ k_ ∨ P1_ k_) ∨ w.heap.size ≤ k_)) u1 x1_3) ∧ Aside0 (Below w.heap.size w w'))
           case atStart => exact ⟨(x0_3), H', ⟨Nat.le_refl _⟩, ⟨zq3 HO_0.out⟩, ⟨zq3 HO_1.out⟩, ⟨zq1⟩⟩
           case round =>
            clear H'
            obtain ⟨x0_4, HA, HK4, HO_0, HO_1, HB⟩ := hrel
            cases gk with
            | zero => exact absurd HA.out (by simp [rf_GcdNat.l2])
            | succ k4 =>
             have H := HA.out
             clear HA
             simp only [rf_GcdNat.l2] at H
             replace H := zi H
             obtain ⟨t584, A210, H⟩ := H
             have A21 := am A210
             clear A210
             by_cases c22 : t584 = 0
             ·rw [if_pos c22] at H
              have c22b0 : (t584 == 0) = true := beq_iff_eq.mpr c22
              have c22b1 : (t584 != 0) = false := bne_eq_false_iff_eq.mpr c22
              clear c22
              replace H := zi H
              obtain ⟨t585, A230, H⟩ := H
              have A23 := am A230
              clear A230
              have H' := am H
              clear H
              obtain ⟨Ao24, co24, eo24⟩ := Kd.V_slice HO_0.out
              subst eo24
              go_wp2_with (first | ((with_reducible refine gate_callee (f := 98) rfl ?_); refine goesL_ (some 33) rfl rfl Tryd.func98 (by kernel_rfl) rfl #[.slice Ao24 x0_4.length co24, .int .i64 0] rfl zq5 ?_; (with_reducible refine (rf_bit.calls _ _ x0_4 0 t584 _ ?side1 ?side2 A21.out).mono ?_); (case side1 => exact zc ((Kd.V_reads' HO_0.out).2.2)); (case side2 => exact (Kd.V_reads' HO_0.out).2.1); rintro e w' ⟨rfl, ⟨nd, rfl⟩⟩; refine ⟨_, rfl, ?_⟩) | ((with_reducible refine gate_callee (f := 99) rfl ?_); refine goesL_ (some 36) rfl rfl Tryd.func99 (by kernel_rfl) rfl #[.slice Ao24 x0_4.length co24] rfl zq5 ?_; (with_reducible refine (rf_half.calls k4 _ _ x0_4 t585 _ ?side1 ?side2 A23.out).mono ?_); (case side1 => exact zc ((Kd.V_reads' HO_0.out).2.2)); (case side2 => exact (Kd.V_reads' HO_0.out).2.1); rintro e w25 ⟨v586, rfl, ho0, hb⟩; refine ⟨_, rfl, ?_⟩; have n0_ := am (Kd.V_below (zq3 HO_0.out) hb); have n1_ := am (Kd.V_below (zq3 HO_1.out) hb); have n2_ := am (Kd.V_lower (Kd.V_mono (ok' := fun k_ => ((P0_ k_ ∨ P1_ k_) ∨ w.heap.size ≤ k_)) ho0 (fun k_ hk_ => (.inr (Nat.le_trans (below_size zq1) hk_)))) (below_size zq1)); have n3_ := am (below_step zq1 hb); clear HO_0 HO_1 HB; have HO_0 := n0_; have HO_1 := n1_; have HO587 := n2_; have HB := n3_; clear n0_ n1_ n2_ n3_))
              go_roundg k4
              case measure => have := HK1.out; have := HJ4.out; have := HK3.out; have := HK4.out; omega
              case rel => exact ⟨(t585), H', ⟨by have := HK1.out; have := HJ4.out; have := HK3.out; have := HK4.out; omega⟩, ⟨zq3 HO587.out⟩, ⟨zq3 HO_1.out⟩, ⟨zq1⟩⟩
             ·rw [if_neg c22] at H
              have c22b0 : (t584 == 0) = false := beq_eq_false_iff_ne.mpr c22
              have c22b1 : (t584 != 0) = true := bne_iff_ne.mpr c22
              have H' := am H
              clear H
              obtain ⟨Ao26, co26, eo26⟩ := Kd.V_slice HO_0.out
              subst eo26
              go_wp2_with (first | ((with_reducible refine gate_callee (f := 98) rfl ?_); refine goesL_ (some 33) rfl rfl Tryd.func98 (by kernel_rfl) rfl #[.slice Ao26 x0_4.length co26, .int .i64 0] rfl zq5 ?_; (with_reducible refine (rf_bit.calls _ _ x0_4 0 t584 _ ?side1 ?side2 A21.out).mono ?_); (case side1 => exact zc ((Kd.V_reads' HO_0.out).2.2)); (case side2 => exact (Kd.V_reads' HO_0.out).2.1); rintro e w' ⟨rfl, ⟨nd, rfl⟩⟩; refine ⟨_, rfl, ?_⟩))
              go_loopg [1] k4 (fun kq v1 w' => ∃ (x1_5 : List Int), Aside0 (rf_GcdNat.l3 kq x0_4 x1_5 x5_1 = some r) ∧ Aside0 (kq ≤ k4) ∧ Aside0 (Kd.V (Kd.int .i64) 3 w' w.heap.size (fun k_ => ((P0_ k_ ∨ P1_ k_) ∨ w.heap.size ≤ k_)) (.slice Ao26 x0_4.length co26) x0_4) ∧ Aside0 (Kd.V (Kd.int .i64) 3 w' w.heap.size (fun k_ => ((P0_ k_ ∨ P1_ k_) ∨ w.heap.size ≤ k_)) v1 x1_5) ∧ Aside0 (Below w.heap.size w w'))
              case atStart => exact ⟨(x1_3), H', ⟨Nat.le_refl _⟩, ⟨zq3 HO_0.out⟩, ⟨zq3 HO_1.out⟩, ⟨zq1⟩⟩
              case round =>
               clear H'
               obtain ⟨x1_5, HA, HK5, HO_0, HO_1, HB⟩ := hrel
               cases gk with
               | zero => exact absurd HA.out (by simp [rf_GcdNat.l3])
               | succ k5 =>
                have H := HA.out
                clear HA
                simp only [rf_GcdNat.l3] at H
                replace H := zi H
                obtain ⟨t588, A270, H⟩ := H
                have A27 := am A270
                clear A270
                by_cases c28 : t588 = 0
                ·rw [if_pos c28] at H
                 have c28b0 : (t588 == 0) = true := beq_iff_eq.mpr c28
                 have c28b1 : (t588 != 0) = false := bne_eq_false_iff_eq.mpr c28
                 clear c28
                 replace H := zi H
                 obtain ⟨t589, A290, H⟩ := H
                 have A29 := am A290
                 clear A290
                 have H' := am H
                 clear H
                 obtain ⟨Ao30, co30, eo30⟩ := Kd.V_slice HO_1.out
                 subst eo30
                 go_wp2_with (first | ((with_reducible refine gate_callee (f := 98) rfl ?_); refine goesL_ (some 38) rfl rfl Tryd.func98 (by kernel_rfl) rfl #[.slice Ao30 x1_5.length co30, .int .i64 0] rfl zq5 ?_; (with_reducible refine (rf_bit.calls _ _ x1_5 0 t588 _ ?side1 ?side2 A27.out).mono ?_); (case side1 => exact zc ((Kd.V_reads' HO_1.out).2.2)); (case side2 => exact (Kd.V_reads' HO_1.out).2.1); rintro e w' ⟨rfl, ⟨nd, rfl⟩⟩; refine ⟨_, rfl, ?_⟩) | ((with_reducible refine gate_callee (f := 99) rfl ?_); refine goesL_ (some 41) rfl rfl Tryd.func99 (by kernel_rfl) rfl #[.slice Ao30 x1_5.length co30] rfl zq5 ?_; (with_reducible refine (rf_half.calls k5 _ _ x1_5 t589 _ ?side1 ?side2 A29.out).mono ?_); (case side1 => exact zc ((Kd.V_reads' HO_1.out).2.2)); (case side2 => exact (Kd.V_reads' HO_1.out).2.1); rintro e w31 ⟨v590, rfl, ho0, hb⟩; refine ⟨_, rfl, ?_⟩; have n0_ := am (Kd.V_below (zq3 HO_0.out) hb); have n1_ := am (Kd.V_below (zq3 HO_1.out) hb); have n2_ := am (Kd.V_lower (Kd.V_mono (ok' := fun k_ => ((P0_ k_ ∨ P1_ k_) ∨ w.heap.size ≤ k_)) ho0 (fun k_ hk_ => (.inr (Nat.le_trans (below_size zq1) hk_)))) (below_size zq1)); have n3_ := am (below_step zq1 hb); clear HO_0 HO_1 HB; have HO_0 := n0_; have HO_1 := n1_; have HO591 := n2_; have HB := n3_; clear n0_ n1_ n2_ n3_))
                 go_roundg k5
                 case measure => have := HK1.out; have := HJ4.out; have := HK3.out; have := HK4.out; have := HK5.out; omega
                 case rel => exact ⟨(t589), H', ⟨by have := HK1.out; have := HJ4.out; have := HK3.out; have := HK4.out; have := HK5.out; omega⟩, ⟨zq3 HO_0.out⟩, ⟨zq3 HO591.out⟩, ⟨zq1⟩⟩
                ·rw [if_neg c28] at H
                 have c28b0 : (t588 == 0) = false := beq_eq_false_iff_ne.mpr c28
                 have c28b1 : (t588 != 0) = true := bne_iff_ne.mpr c28
                 replace H := zi H
                 obtain ⟨t592, A320, H⟩ := H
                 have A32 := am A320
                 clear A320
                 by_cases c33 : t592 < 0
                 ·rw [if_pos c33] at H
                  have c33b0 := decide_eq_true c33
                  clear c33
                  replace H := zi H
                  obtain ⟨t593, A340, H⟩ := H
                  have A34 := am A340
                  clear A340
                  have H' := am H
                  clear H
                  obtain ⟨Ao35, co35, eo35⟩ := Kd.V_slice HO_1.out
                  subst eo35
                  go_wp2_with (first | ((with_reducible refine gate_callee (f := 98) rfl ?_); refine goesL_ (some 38) rfl rfl Tryd.func98 (by kernel_rfl) rfl #[.slice Ao35 x1_5.length co35, .int .i64 0] rfl zq5 ?_; (with_reducible refine (rf_bit.calls _ _ x1_5 0 t588 _ ?side1 ?side2 A27.out).mono ?_); (case side1 => exact zc ((Kd.V_reads' HO_1.out).2.2)); (case side2 => exact (Kd.V_reads' HO_1.out).2.1); rintro e w' ⟨rfl, ⟨nd, rfl⟩⟩; refine ⟨_, rfl, ?_⟩) | ((with_reducible refine gate_callee (f := 46) rfl ?_); refine goesL_ (some 44) rfl rfl Tryd.func46 (by kernel_rfl) rfl #[.slice Ao26 x0_4.length co26, .slice Ao35 x1_5.length co35] rfl zq5 ?_; (with_reducible refine (rf_CmpNat.calls k5 _ _ x0_4 _ _ x1_5 t592 _ ?side1 ?side2 ?side3 ?side4 A32.out).mono ?_); (case side1 => exact zc ((Kd.V_reads' HO_0.out).2.2)); (case side2 => exact (Kd.V_reads' HO_0.out).2.1); (case side3 => exact zc ((Kd.V_reads' HO_1.out).2.2)); (case side4 => exact (Kd.V_reads' HO_1.out).2.1); rintro e w36 ⟨rfl, hb⟩; refine ⟨_, rfl, ?_⟩; have n0_ := am (Kd.V_below (zq3 HO_0.out) hb); have n1_ := am (Kd.V_below (zq3 HO_1.out) hb); have n2_ := am (below_step zq1 hb); clear HO_0 HO_1 HB; have HO_0 := n0_; have HO_1 := n1_; have HB := n2_; clear n0_ n1_ n2_; (try clear hb); (try clear hb2); (try clear hk); (try clear hi)) | ((with_reducible refine gate_callee (f := 83) rfl ?_); refine goesL_ (some 51) rfl rfl Tryd.func83 (by kernel_rfl) rfl #[.slice Ao35 x1_5.length co35, .slice Ao26 x0_4.length co26] rfl zq5 ?_; (with_reducible refine (rf_SubNat.calls k5 _ _ x1_5 _ _ x0_4 t593 _ ?side1 ?side2 ?side3 ?side4 A34.out).mono ?_); (case side1 => exact zc ((Kd.V_reads' HO_1.out).2.2)); (case side2 => exact (Kd.V_reads' HO_1.out).2.1); (case side3 => exact zc ((Kd.V_reads' HO_0.out).2.2)); (case side4 => exact (Kd.V_reads' HO_0.out).2.1); rintro e w37 ⟨v594, rfl, ho0, hb⟩; refine ⟨_, rfl, ?_⟩; have n0_ := am (Kd.V_below (zq3 HO_0.out) hb); have n1_ := am (Kd.V_below (zq3 HO_1.out) hb); have n2_ := am (Kd.V_lower (Kd.V_mono (ok' := fun k_ => ((P0_ k_ ∨ P1_ k_) ∨ w.heap.size ≤ k_)) ho0 (fun k_ hk_ => (.inr (Nat.le_trans (below_size zq1) hk_)))) (below_size zq1)); have n3_ := am (below_step zq1 hb); clear HO_0 HO_1 HB; have HO_0 := n0_; have HO_1 := n1_; have HO595 := n2_; have HB := n3_; clear n0_ n1_ n2_ n3_))
                  go_roundg k5
                  case measure => have := HK1.out; have := HJ4.out; have := HK3.out; have := HK4.out; have := HK5.out; omega
                  case rel => exact ⟨(t593), (x0_4), H', ⟨by have := HK1.out; have := HJ4.out; have := HK3.out; have := HK4.out; have := HK5.out; omega⟩, ⟨zq3 HO595.out⟩, ⟨zq3 HO_0.out⟩, ⟨zq1⟩⟩
                 ·rw [if_neg c33] at H
                  have c33b0 := decide_eq_false c33
                  clear c33
                  replace H := zi H
                  obtain ⟨t596, A380, H⟩ := H
                  have A38 := am A380
                  clear A380
                  have H' := am H
                  clear H
                  obtain ⟨Ao39, co39, eo39⟩ := Kd.V_slice HO_1.out
                  subst eo39
                  go_wp2_with (first | ((with_reducible refine gate_callee (f := 98) rfl ?_); refine goesL_ (some 38) rfl rfl Tryd.func98 (by kernel_rfl) rfl #[.slice Ao39 x1_5.length co39, .int .i64 0] rfl zq5 ?_; (with_reducible refine (rf_bit.calls _ _ x1_5 0 t588 _ ?side1 ?side2 A27.out).mono ?_); (case side1 => exact zc ((Kd.V_reads' HO_1.out).2.2)); (case side2 => exact (Kd.V_reads' HO_1.out).2.1); rintro e w' ⟨rfl, ⟨nd, rfl⟩⟩; refine ⟨_, rfl, ?_⟩) | ((with_reducible refine gate_callee (f := 46) rfl ?_); refine goesL_ (some 44) rfl rfl Tryd.func46 (by kernel_rfl) rfl #[.slice Ao26 x0_4.length co26, .slice Ao39 x1_5.length co39] rfl zq5 ?_; (with_reducible refine (rf_CmpNat.calls k5 _ _ x0_4 _ _ x1_5 t592 _ ?side1 ?side2 ?side3 ?side4 A32.out).mono ?_); (case side1 => exact zc ((Kd.V_reads' HO_0.out).2.2)); (case side2 => exact (Kd.V_reads' HO_0.out).2.1); (case side3 => exact zc ((Kd.V_reads' HO_1.out).2.2)); (case side4 => exact (Kd.V_reads' HO_1.out).2.1); rintro e w40 ⟨rfl, hb⟩; refine ⟨_, rfl, ?_⟩; have n0_ := am (Kd.V_below (zq3 HO_0.out) hb); have n1_ := am (Kd.V_below (zq3 HO_1.out) hb); have n2_ := am (below_step zq1 hb); clear HO_0 HO_1 HB; have HO_0 := n0_; have HO_1 := n1_; have HB := n2_; clear n0_ n1_ n2_; (try clear hb); (try clear hb2); (try clear hk); (try clear hi)) | ((with_reducible refine gate_callee (f := 83) rfl ?_); refine goesL_ (some 51) rfl rfl Tryd.func83 (by kernel_rfl) rfl #[.slice Ao26 x0_4.length co26, .slice Ao39 x1_5.length co39] rfl zq5 ?_; (with_reducible refine (rf_SubNat.calls k5 _ _ x0_4 _ _ x1_5 t596 _ ?side1 ?side2 ?side3 ?side4 A38.out).mono ?_); (case side1 => exact zc ((Kd.V_reads' HO_0.out).2.2)); (case side2 => exact (Kd.V_reads' HO_0.out).2.1); (case side3 => exact zc ((Kd.V_reads' HO_1.out).2.2)); (case side4 => exact (Kd.V_reads' HO_1.out).2.1); rintro e w41 ⟨v597, rfl, ho0, hb⟩; refine ⟨_, rfl, ?_⟩; have n0_ := am (Kd.V_below (zq3 HO_0.out) hb); have n1_ := am (Kd.V_below (zq3 HO_1.out) hb); have n2_ := am (Kd.V_lower (Kd.V_mono (ok' := fun k_ => ((P0_ k_ ∨ P1_ k_) ∨ w.heap.size ≤ k_)) ho0 (fun k_ hk_ => (.inr (Nat.le_trans (below_size zq1) hk_)))) (below_size zq1)); have n3_ := am (below_step zq1 hb); clear HO_0 HO_1 HB; have HO_0 := n0_; have HO_1 := n1_; have HO598 := n2_; have HB := n3_; clear n0_ n1_ n2_ n3_))
                  go_roundg k5
                  case measure => have := HK1.out; have := HJ4.out; have := HK3.out; have := HK4.out; have := HK5.out; omega
                  case rel => exact ⟨(t596), (x1_5), H', ⟨by have := HK1.out; have := HJ4.out; have := HK3.out; have := HK4.out; have := HK5.out; omega⟩, ⟨zq3 HO598.out⟩, ⟨zq3 HO_1.out⟩, ⟨zq1⟩⟩
          ·rw [if_neg c19] at H
           have c19b0 : decide (0 < (x0_3.length : Int)) = false := decide_eq_false c19
           have c19b1 : decide (0 < x0_3.length) = false := decide_eq_false (by omega)
           clear c19
           replace H := zi H
           obtain ⟨t581, A420, H⟩ := H
           have A42 := am A420
           clear A420
           obtain rfl := Option.some.inj H
           obtain ⟨Ao43, co43, eo43⟩ := Kd.V_slice HO_0.out
           subst eo43
           obtain ⟨Ao44, co44, eo44⟩ := Kd.V_slice HO_1.out
           subst eo44
           go_wp2_with (first | ((with_reducible refine gate_callee (f := 82) rfl ?_); refine goesL_ (some 54) rfl rfl Tryd.func82 (by kernel_rfl) rfl #[.slice Ao44 x1_3.length co44, .int .i64 x5_1] rfl zq5 ?_; (with_reducible refine (rf_ShlNat.calls k3 _ _ x1_3 x5_1 t581 _ ?side1 ?side2 A42.out).mono ?_); (case side1 => exact zc ((Kd.V_reads' HO_1.out).2.2)); (case side2 => exact (Kd.V_reads' HO_1.out).2.1); rintro e w45 ⟨v582, rfl, ho0, hb⟩; refine ⟨_, rfl, ?_⟩; have n0_ := am (Kd.V_below (zq3 HO_0.out) hb); have n1_ := am (Kd.V_below (zq3 HO_1.out) hb); have n2_ := am (Kd.V_lower (Kd.V_mono (ok' := fun k_ => ((P0_ k_ ∨ P1_ k_) ∨ w.heap.size ≤ k_)) ho0 (fun k_ hk_ => (.inr (Nat.le_trans (below_size zq1) hk_)))) (below_size zq1)); have n3_ := am (below_step zq1 hb); clear HO_0 HO_1 HB; have HO_0 := n0_; have HO_1 := n1_; have HO583 := n2_; have HB := n3_; clear n0_ n1_ n2_ n3_))
           go_ret
           exact ⟨_, zq9, zq3 HO583.out, zq1⟩
mutual
def rf_Fault.j0 : Nat → Bool → Bool → List Int → List Int → Option (Int)
 | 0, _, _, _, _ => none
 | k + 1, x14, x600000, x600001, x600002 => if x14 = true then (some 3) else (if (x600002.length : Int) = 0 then (rf_Fault.j1 k true x600000 x600001 x600002) else (if 0 ≤ (wrap64 ((x600002.length : Int) - 1)) then (if (wrap64 ((x600002.length : Int) - 1)) < (x600002.length : Int) then (if (rd x600002 (wrap64 ((x600002.length : Int) - 1))) = 0 then (rf_Fault.j1 k true x600000 x600001 x600002) else (if (x600001.length : Int) > 0 then (if 0 ≤ (wrap64 ((x600001.length : Int) - 1)) then (if (wrap64 ((x600001.length : Int) - 1)) < (x600001.length : Int) then (rf_Fault.j1 k ((rd x600001 (wrap64 ((x600001.length : Int) - 1))) == 0) x600000 x600001 x600002) else (none)) else (none)) else (rf_Fault.j1 k false x600000 x600001 x600002))) else (none)) else (none)))
def rf_Fault.j1 : Nat → Bool → Bool → List Int → List Int → Option (Int)
 | 0, _, _, _, _ => none
 | k + 1, x46, x600000, x600001, x600002 => if x46 = true then (some 2) else ((rf_natOf.f k x600001).bind fun t602 => ((rf_natOf.f k x600002).bind fun t605 => (if (t602.length : Int) = 0 then (if x600000 = true then (rf_Fault.j2 k t602 t605 true) else ((rf_CmpNat.f k t605 (([1] : List Int))).bind fun t611 => (rf_Fault.j2 k t602 t605 (t611 != 0)))) else (rf_Fault.j2 k t602 t605 false))))
def rf_Fault.j2 : Nat → List Int → List Int → Bool → Option (Int)
 | 0, _, _, _ => none
 | k + 1, x3, x4, x65 => if x65 = true then (some 2) else ((rf_GcdNat.f k x3 x4).bind fun t612 => ((rf_CmpNat.f k t612 (([1] : List Int))).bind fun t618 => (if t618 = 0 then (some 0) else (some 2))))
end
def rf_Fault.f (k : Nat) (a0_0 : Bool) (l0_1 : List Int) (l0_2 : List Int) : Option (Int) := if (l0_1.length : Int) > 128 then (rf_Fault.j0 k true a0_0 l0_1 l0_2) else (rf_Fault.j0 k (decide ((l0_2.length : Int) > 128)) a0_0 l0_1 l0_2)
theorem rf_Fault.mono_l : ∀ k, (∀ y0 y1 y2 y3, LeO (rf_Fault.j0 k y0 y1 y2 y3) (rf_Fault.j0 (k + 1) y0 y1 y2 y3)) ∧ (∀ y0 y1 y2 y3, LeO (rf_Fault.j1 k y0 y1 y2 y3) (rf_Fault.j1 (k + 1) y0 y1 y2 y3)) ∧ (∀ y0 y1 y2, LeO (rf_Fault.j2 k y0 y1 y2) (rf_Fault.j2 (k + 1) y0 y1 y2))
 | 0 => ⟨fun _ _ _ _ r h => by simp [rf_Fault.j0] at h, fun _ _ _ _ r h => by simp [rf_Fault.j1] at h, fun _ _ _ r h => by simp [rf_Fault.j2] at h⟩
 | k + 1 => by
  obtain ⟨ih0, ih1, ih2⟩ := rf_Fault.mono_l k
  refine ⟨?_, ?_, ?_⟩
  ·intro y0 y1 y2 y3
   unfold rf_Fault.j0
   have m0 := ih0
   have m1 := ih1
   have m2 := ih2
   have m3 := @rf_CmpNat.mono
   have m4 := @rf_GcdNat.mono
   have m5 := @rf_natOf.mono
   exact zm
  ·intro y0 y1 y2 y3
   unfold rf_Fault.j1
   have m0 := ih0
   have m1 := ih1
   have m2 := ih2
   have m3 := @rf_CmpNat.mono
   have m4 := @rf_GcdNat.mono
   have m5 := @rf_natOf.mono
   exact zm
  ·intro y0 y1 y2
   unfold rf_Fault.j2
   have m0 := ih0
   have m1 := ih1
   have m2 := ih2
   have m3 := @rf_CmpNat.mono
   have m4 := @rf_GcdNat.mono
   have m5 := @rf_natOf.mono
   exact zm
theorem rf_Fault.mono : ∀ a0 a1 a2 k, LeO (rf_Fault.f k a0 a1 a2) (rf_Fault.f (k + 1) a0 a1 a2) := by
 intro a0 a1 a2 k
 obtain ⟨ih0, ih1, ih2⟩ := rf_Fault.mono_l k
 unfold rf_Fault.f
 have m0 := ih0
 have m1 := ih1
 have m2 := ih2
 have m3 := @rf_CmpNat.mono
 have m4 := @rf_GcdNat.mono
 have m5 := @rf_natOf.mono
 exact zm
def rf_Fault.T5 : Bool × List (List Nat × List Nat) := (true, [([], []), ([0], [0]), ([1], [1]), ([], []), ([3], [3]), ([4, 2], [4]), ([2, 5, 0, 1, 2], [2]), ([5, 6, 0, 1, 2, 3, 4, 5, 6], [5])])
def rf_Fault.B5 : List Nat := [0, 1, 3, 0, 8, 31, 63, 127]
theorem rf_Fault.tab5 : rtab .any (opsOf Tryd.f15 5) = rf_Fault.T5 := by kernel_rfl
theorem rf_Fault.bits5 : waitsOk rf_Fault.T5.2 rf_Fault.B5 = true := by kernel_rfl
set_option maxHeartbeats 8000000 in
set_option maxRecDepth 100000 in
theorem rf_Fault.calls (k : Nat) (a0_0 : Bool) (A0_1 : Option Addr) (c0_1 : Nat) (l0_1 : List Int) (A0_2 : Option Addr) (c0_2 : Nat) (l0_2 : List Int) (r : Int) (w : World) (hr0_1 : Kd.C (Kd.int .u32) w A0_1 l0_1.length l0_1) (hc0_1 : l0_1.length ≤ c0_1) (hr0_2 : Kd.C (Kd.int .u32) w A0_2 l0_2.length l0_2) (hc0_2 : l0_2.length ≤ c0_2) (h : rf_Fault.f k a0_0 l0_1 l0_2 = some r) :
  Calls Tryd.prog 15 #[.agg #[.bool a0_0, .slice A0_1 l0_1.length c0_1, .slice A0_2 l0_2.length c0_2]] w fun e w' => e = .returned (.int .i64 r) ∧ Below w.heap.size w w' := by
 have hu24 := Tryd.underlying24
 have HR0_1 := am hr0_1
 have HC0_1 := am hc0_1
 clear hr0_1 hc0_1
 have HR0_2 := am hr0_2
 have HC0_2 := am hc0_2
 clear hr0_2 hc0_2
 have HB := am (Below.refl w.heap.size w)
 have H := h
 unfold rf_Fault.f at H
 clear h
 have HC2 := am H
 clear H
 go_enter Tryd.func15, Tryd.ntmps15
 go_upto_region 1 with (first | ((with_reducible refine gate_dst (N := 1) rfl ?_); (try (refine gate_guard (by rfl) ?_; dsimp only)); refine box_event ?hg (N := 1) ?hd (cs := #[.bool a0_0, .slice A0_1 l0_1.length c0_1, .slice A0_2 l0_2.length c0_2]) (t := 24) ?hr ?_; (case hd => rfl); (case hg => rfl); (case hr => exact zr); intro gb599 hg w3 hbox hb; have n0_ := am (below_step zq1 hb); have n1_ := am (hbox); have n2_ := am ((by rw [hg]; exact (below_size zq1) : w.heap.size ≤ gb599)); have n3_ := am ((by rw [hg]; exact (below_size zq1) : w.heap.size ≤ gb599)); clear HB; have HB := n0_; have BK599 := n1_; have GW599 := n2_; have GE599 := n3_; clear n0_ n1_ n2_ n3_; clear hb hbox hg))
 (try simp only [Act.put, List.setIfInBounds_toArray, List.set_cons_zero, List.set_cons_succ])
 go_cut [14] (fun v14 wc => ∃ (kq : Nat) (x14_1 : Bool), v14 = .bool x14_1 ∧ Aside0 (rf_Fault.j0 kq x14_1 a0_0 l0_1 l0_2 = some r) ∧ Aside0 (kq ≤ k) ∧ Aside0 (wc.heap[gb599]? = some (.cells #[.bool a0_0, (.slice A0_1 l0_1.length c0_1), (.slice A0_2 l0_2.length c0_2)] 24 (0, 0))) ∧ Aside0 (Below w.heap.size w wc))
 case first =>
  have H := HC2.out
  clear HC2
  by_cases c4 : (l0_1.length : Int) > 128
  ·rw [if_pos c4] at H
   have c4b0 : decide (128 < (l0_1.length : Int)) = true := decide_eq_true c4
   have c4b1 : decide (128 < l0_1.length) = true := decide_eq_true (by omega)
   clear c4
   (first | rw [c4b0] | (simp only [i64_w, i32_w]; rw [c4b0]) | skip)
   have H' := am H
   clear H
   have hcz5_0 : w3.cell? ⟨gb599, 0, none⟩ = some (.bool a0_0) := (blk_cell BK599.out 0).trans rfl
   have hcz5_1 : w3.cell? ⟨gb599, 1, none⟩ = some (.slice A0_1 l0_1.length c0_1) := (blk_cell BK599.out 1).trans rfl
   have hcz5_2 : w3.cell? ⟨gb599, 2, none⟩ = some (.slice A0_2 l0_2.length c0_2) := (blk_cell BK599.out 2).trans rfl
   have hfz5_0 := blk_frozen BK599.out 0
   have hfz5_1 := blk_frozen BK599.out 1
   have hfz5_2 := blk_frozen BK599.out 2
   go_wp2
   go_meet
   case rel => exact ⟨_, (true), zq8, H', ⟨by first | omega | exact Nat.le_refl _⟩, ⟨zq2 BK599.out⟩, ⟨zb1 GE599.out⟩⟩
  ·rw [if_neg c4] at H
   have c4b0 : decide (128 < (l0_1.length : Int)) = false := decide_eq_false c4
   have c4b1 : decide (128 < l0_1.length) = false := decide_eq_false (by omega)
   clear c4
   (first | rw [c4b0] | (simp only [i64_w, i32_w]; rw [c4b0]) | skip)
   have H' := am H
   clear H
   have hcz6_0 : w3.cell? ⟨gb599, 0, none⟩ = some (.bool a0_0) := (blk_cell BK599.out 0).trans rfl
   have hcz6_1 : w3.cell? ⟨gb599, 1, none⟩ = some (.slice A0_1 l0_1.length c0_1) := (blk_cell BK599.out 1).trans rfl
   have hcz6_2 : w3.cell? ⟨gb599, 2, none⟩ = some (.slice A0_2 l0_2.length c0_2) := (blk_cell BK599.out 2).trans rfl
   have hfz6_0 := blk_frozen BK599.out 0
   have hfz6_1 := blk_frozen BK599.out 1
   have hfz6_2 := blk_frozen BK599.out 2
   go_wp2
   go_meet
   case rel => exact ⟨_, (decide ((l0_2.length : Int) > 128)), zq8, H', ⟨by first | omega | exact Nat.le_refl _⟩, ⟨zq2 BK599.out⟩, ⟨zb1 GE599.out⟩⟩
 case rest =>
  clear HC2
  obtain ⟨kq, x14_1, rfl, HA, HJ1, BK599, HB⟩ := hcut
  cases kq with
  | zero => exact absurd HA.out (by simp [rf_Fault.j0])
  | succ kj1 =>
   have H := HA.out
   clear HA
   simp only [rf_Fault.j0] at H
   by_cases c7 : x14_1 = true
   ·subst c7
    have H1 : (some 3) = some r := by rw [if_pos rfl] at H; exact H
    clear H
    have H := H1
    clear H1
    obtain rfl := Option.some.inj H
    go_wp2
    go_ret
    exact ⟨zq9, zb1 GE599.out⟩
   ·replace c7 := Bool.eq_false_iff.mpr c7
    subst c7
    have H1 : (if (l0_2.length : Int) = 0 then (rf_Fault.j1 kj1 true a0_0 l0_1 l0_2) else (if 0 ≤ (wrap64 ((l0_2.length : Int) - 1)) then (if (wrap64 ((l0_2.length : Int) - 1)) < (l0_2.length : Int) then (if (rd l0_2 (wrap64 ((l0_2.length : Int) - 1))) = 0 then (rf_Fault.j1 kj1 true a0_0 l0_1 l0_2) else (if (l0_1.length : Int) > 0 then (if 0 ≤ (wrap64 ((l0_1.length : Int) - 1)) then (if (wrap64 ((l0_1.length : Int) - 1)) < (l0_1.length : Int) then (rf_Fault.j1 kj1 ((rd l0_1 (wrap64 ((l0_1.length : Int) - 1))) == 0) a0_0 l0_1 l0_2) else (none)) else (none)) else (rf_Fault.j1 kj1 false a0_0 l0_1 l0_2))) else (none)) else (none))) = some r := by rw [if_neg (show ¬ (false = true) by decide)] at H; exact H
    clear H
    have H := H1
    clear H1
    have HC8 := am H
    clear H
    go_upto_region 3 with (fail)
    go_cut [46] (fun v46 wc => ∃ (kq : Nat) (x46_7 : Bool), v46 = .bool x46_7 ∧ Aside0 (rf_Fault.j1 kq x46_7 a0_0 l0_1 l0_2 = some r) ∧ Aside0 (kq ≤ kj1) ∧ Aside0 (wc.heap[gb599]? = some (.cells #[.bool a0_0, (.slice A0_1 l0_1.length c0_1), (.slice A0_2 l0_2.length c0_2)] 24 (0, 0))) ∧ Aside0 (Below w.heap.size w wc))
    case first =>
     have H := HC8.out
     clear HC8
     by_cases c9 : (l0_2.length : Int) = 0
     ·rw [if_pos c9] at H
      have c9b0 : ((l0_2.length : Int) == 0) = true := beq_iff_eq.mpr c9
      have c9b1 : ((l0_2.length : Int) != 0) = false := bne_eq_false_iff_eq.mpr c9
      clear c9
      (first | rw [c9b0] | (simp only [i64_w, i32_w]; rw [c9b0]) | skip)
      have H' := am H
      clear H
      have hcz10_0 : wc.cell? ⟨gb599, 0, none⟩ = some (.bool a0_0) := (blk_cell BK599.out 0).trans rfl
      have hcz10_1 : wc.cell? ⟨gb599, 1, none⟩ = some (.slice A0_1 l0_1.length c0_1) := (blk_cell BK599.out 1).trans rfl
      have hcz10_2 : wc.cell? ⟨gb599, 2, none⟩ = some (.slice A0_2 l0_2.length c0_2) := (blk_cell BK599.out 2).trans rfl
      have hfz10_0 := blk_frozen BK599.out 0
      have hfz10_1 := blk_frozen BK599.out 1
      have hfz10_2 := blk_frozen BK599.out 2
      go_wp2
      go_meet
      case rel => exact ⟨_, (true), zq8, H', ⟨by have := HJ1.out; first | omega | exact Nat.le_refl _⟩, ⟨zq2 BK599.out⟩, ⟨zb1 GE599.out⟩⟩
     ·rw [if_neg c9] at H
      have c9b0 : ((l0_2.length : Int) == 0) = false := beq_eq_false_iff_ne.mpr c9
      have c9b1 : ((l0_2.length : Int) != 0) = true := bne_iff_ne.mpr c9
      have c9b2 : ¬ (l0_2 = []) := fun h_ => c9 (by rw [h_]; rfl)
      (first | rw [c9b0] | (simp only [i64_w, i32_w]; rw [c9b0]) | skip)
      obtain ⟨ji11, hji11⟩ : ∃ j_ : Int, (wrap64 ((l0_2.length : Int) - 1)) = j_ := ⟨_, rfl⟩
      replace H : (if 0 ≤ (ji11) then (if (ji11) < (l0_2.length : Int) then (if (rd l0_2 (ji11)) = 0 then (rf_Fault.j1 kj1 true a0_0 l0_1 l0_2) else (if (l0_1.length : Int) > 0 then (if 0 ≤ (wrap64 ((l0_1.length : Int) - 1)) then (if (wrap64 ((l0_1.length : Int) - 1)) < (l0_1.length : Int) then (rf_Fault.j1 kj1 ((rd l0_1 (wrap64 ((l0_1.length : Int) - 1))) == 0) a0_0 l0_1 l0_2) else (none)) else (none)) else (rf_Fault.j1 kj1 false a0_0 l0_1 l0_2))) else (none)) else (none)) = some r := by first | (rw [hji11] at H; exact H) | (simp only [hji11] at H ⊢; exact H)
      have hji11w : (IntKind.i64.wrap ((l0_2.length : Int) - 1)) = ji11 := (i64_w _).trans hji11
      replace H := zn H
      obtain ⟨c12, H⟩ := H
      have c12b0 := decide_eq_true c12
      clear c12
      replace H := zn H
      obtain ⟨c13, H⟩ := H
      have c13b0 := decide_eq_true c13
      clear c13
      by_cases c14 : (rd l0_2 (ji11)) = 0
      ·rw [if_pos c14] at H
       have c14b0 : ((rd l0_2 (ji11)) == 0) = true := beq_iff_eq.mpr c14
       have c14b1 : ((rd l0_2 (ji11)) != 0) = false := bne_eq_false_iff_eq.mpr c14
       clear c14
       have H' := am H
       clear H
       have hcz15_0 : wc.cell? ⟨gb599, 0, none⟩ = some (.bool a0_0) := (blk_cell BK599.out 0).trans rfl
       have hcz15_1 : wc.cell? ⟨gb599, 1, none⟩ = some (.slice A0_1 l0_1.length c0_1) := (blk_cell BK599.out 1).trans rfl
       have hcz15_2 : wc.cell? ⟨gb599, 2, none⟩ = some (.slice A0_2 l0_2.length c0_2) := (blk_cell BK599.out 2).trans rfl
       have hfz15_0 := blk_frozen BK599.out 0
       have hfz15_1 := blk_frozen BK599.out 1
       have hfz15_2 := blk_frozen BK599.out 2
       have p600 : 0 ≤ ((ji11) : Int) := zq6
       have q600 : (ji11) < (l0_2.length : Int) := zq6
       obtain ⟨ad600, e600, hx600_0⟩ := Kd.at_int HR0_2.out (ji11) p600 q600
       cases e600
       replace hx600_0 := (HB.out.cell (World.block_lt_of_cell? w _ hx600_0)).trans hx600_0
       replace p600 := eq_true p600
       replace q600 := eq_true q600
       go_wp2
       go_meet
       case rel => exact ⟨_, (true), zq8, (by first | exact H' | (rw [hji11]; exact H')), ⟨by have := HJ1.out; first | omega | exact Nat.le_refl _⟩, ⟨zq2 BK599.out⟩, ⟨zb1 GE599.out⟩⟩
      ·rw [if_neg c14] at H
       have c14b0 : ((rd l0_2 (ji11)) == 0) = false := beq_eq_false_iff_ne.mpr c14
       have c14b1 : ((rd l0_2 (ji11)) != 0) = true := bne_iff_ne.mpr c14
       by_cases c16 : (l0_1.length : Int) > 0
       ·rw [if_pos c16] at H
        have c16b0 : decide (0 < (l0_1.length : Int)) = true := decide_eq_true c16
        have c16b1 : decide (0 < l0_1.length) = true := decide_eq_true (by omega)
        clear c16
        obtain ⟨ji17, hji17⟩ : ∃ j_ : Int, (wrap64 ((l0_1.length : Int) - 1)) = j_ := ⟨_, rfl⟩
        replace H : (if 0 ≤ (ji17) then (if (ji17) < (l0_1.length : Int) then (rf_Fault.j1 kj1 ((rd l0_1 (ji17)) == 0) a0_0 l0_1 l0_2) else (none)) else (none)) = some r := by first | (rw [hji17] at H; exact H) | (simp only [hji17] at H ⊢; exact H)
        have hji17w : (IntKind.i64.wrap ((l0_1.length : Int) - 1)) = ji17 := (i64_w _).trans hji17
        replace H := zn H
        obtain ⟨c18, H⟩ := H
        have c18b0 := decide_eq_true c18
        clear c18
        replace H := zn H
        obtain ⟨c19, H⟩ := H
        have c19b0 := decide_eq_true c19
        clear c19
        have H' := am H
        clear H
        have hcz20_0 : wc.cell? ⟨gb599, 0, none⟩ = some (.bool a0_0) := (blk_cell BK599.out 0).trans rfl
        have hcz20_1 : wc.cell? ⟨gb599, 1, none⟩ = some (.slice A0_1 l0_1.length c0_1) := (blk_cell BK599.out 1).trans rfl
        have hcz20_2 : wc.cell? ⟨gb599, 2, none⟩ = some (.slice A0_2 l0_2.length c0_2) := (blk_cell BK599.out 2).trans rfl
        have hfz20_0 := blk_frozen BK599.out 0
        have hfz20_1 := blk_frozen BK599.out 1
        have hfz20_2 := blk_frozen BK599.out 2
        have p600 : 0 ≤ ((ji11) : Int) := zq6
        have q600 : (ji11) < (l0_2.length : Int) := zq6
        obtain ⟨ad600, e600, hx600_0⟩ := Kd.at_int HR0_2.out (ji11) p600 q600
        cases e600
        replace hx600_0 := (HB.out.cell (World.block_lt_of_cell? w _ hx600_0)).trans hx600_0
        replace p600 := eq_true p600
        replace q600 := eq_true q600
        have p601 : 0 ≤ ((ji17) : Int) := zq6
        have q601 : (ji17) < (l0_1.length : Int) := zq6
        obtain ⟨ad601, e601, hx601_0⟩ := Kd.at_int HR0_1.out (ji17) p601 q601
        cases e601
        replace hx601_0 := (HB.out.cell (World.block_lt_of_cell? w _ hx601_0)).trans hx601_0
        replace p601 := eq_true p601
        replace q601 := eq_true q601
        go_wp2
        go_meet
        case rel => exact ⟨_, (((rd l0_1 (ji17)) == 0)), (by first | rfl | (simp; done) | (simp only [← hji17] <;> (first | rfl | simp)) | (simp [*]; done)), (by first | exact H' | (rw [hji11]; exact H') | (rw [hji17]; exact H')), ⟨by have := HJ1.out; first | omega | exact Nat.le_refl _⟩, ⟨zq2 BK599.out⟩, ⟨zb1 GE599.out⟩⟩
       ·rw [if_neg c16] at H
        have c16b0 : decide (0 < (l0_1.length : Int)) = false := decide_eq_false c16
        have c16b1 : decide (0 < l0_1.length) = false := decide_eq_false (by omega)
        clear c16
        have H' := am H
        clear H
        have hcz21_0 : wc.cell? ⟨gb599, 0, none⟩ = some (.bool a0_0) := (blk_cell BK599.out 0).trans rfl
        have hcz21_1 : wc.cell? ⟨gb599, 1, none⟩ = some (.slice A0_1 l0_1.length c0_1) := (blk_cell BK599.out 1).trans rfl
        have hcz21_2 : wc.cell? ⟨gb599, 2, none⟩ = some (.slice A0_2 l0_2.length c0_2) := (blk_cell BK599.out 2).trans rfl
        have hfz21_0 := blk_frozen BK599.out 0
        have hfz21_1 := blk_frozen BK599.out 1
        have hfz21_2 := blk_frozen BK599.out 2
        have p600 : 0 ≤ ((ji11) : Int) := zq6
        have q600 : (ji11) < (l0_2.length : Int) := zq6
        obtain ⟨ad600, e600, hx600_0⟩ := Kd.at_int HR0_2.out (ji11) p600 q600
        cases e600
        replace hx600_0 := (HB.out.cell (World.block_lt_of_cell? w _ hx600_0)).trans hx600_0
        replace p600 := eq_true p600
        replace q600 := eq_true q600
        go_wp2
        go_meet
        case rel => exact ⟨_, (false), zq8, (by first | exact H' | (rw [hji11]; exact H')), ⟨by have := HJ1.out; first | omega | exact Nat.le_refl _⟩, ⟨zq2 BK599.out⟩, ⟨zb1 GE599.out⟩⟩
    case rest =>
     clear HC8
     obtain ⟨kq, x46_7, rfl, HA, HJ7, BK599, HB⟩ := hcut
     cases kq with
     | zero => exact absurd HA.out (by simp [rf_Fault.j1])
     | succ kj7 =>
      have H := HA.out
      clear HA
      simp only [rf_Fault.j1] at H
      by_cases c22 : x46_7 = true
      ·subst c22
       have H1 : (some 2) = some r := by rw [if_pos rfl] at H; exact H
       clear H
       have H := H1
       clear H1
       obtain rfl := Option.some.inj H
       go_wp2
       go_ret
       exact ⟨zq9, zb1 GE599.out⟩
      ·replace c22 := Bool.eq_false_iff.mpr c22
       subst c22
       have H1 : ((rf_natOf.f kj7 l0_1).bind fun t602 => ((rf_natOf.f kj7 l0_2).bind fun t605 => (if (t602.length : Int) = 0 then (if a0_0 = true then (rf_Fault.j2 kj7 t602 t605 true) else ((rf_CmpNat.f kj7 t605 (([1] : List Int))).bind fun t611 => (rf_Fault.j2 kj7 t602 t605 (t611 != 0)))) else (rf_Fault.j2 kj7 t602 t605 false)))) = some r := by rw [if_neg (show ¬ (false = true) by decide)] at H; exact H
       clear H
       have H := H1
       clear H1
       replace H := zi H
       obtain ⟨t602, A230, H⟩ := H
       have A23 := am A230
       clear A230
       replace H := zi H
       obtain ⟨t605, A240, H⟩ := H
       have A24 := am A240
       clear A240
       have HC25 := am H
       clear H
       try go_wp2
       have n0_ := am (blk_drew BK599.out)
       have n1_ := am (below_drew1 HB.out)
       clear BK599 HB
       have BK599 := n0_
       have HB := n1_
       clear n0_ n1_
       refine start_ (n := 8) (S := fun w' => w'.cell? ⟨gb599, 0, none⟩ = some (.bool a0_0) ∧ w'.cell? ⟨gb599, 1, none⟩ = some (.slice A0_1 l0_1.length c0_1) ∧ w'.cell? ⟨gb599, 2, none⟩ = some (.slice A0_2 l0_2.length c0_2)) (ds := []) #[false, false, false, false, false, false, false, false] (by kernel_rfl) rfl rfl ⟨(blk_cell BK599.out 0).trans rfl, (blk_cell BK599.out 1).trans rfl, (blk_cell BK599.out 2).trans rfl⟩ (fun hHeld => ?_); refine with_tabW rf_Fault.tab5 rf_Fault.bits5 (fun HT_ HW_ => ?_)
       generalize wc.drew = w26 at BK599 HB hHeld ⊢
       refine pure_ (i := 0) (N := some 47) (v := ?_) (a' := ?_) #[true, false, false, false, false, false, false, false] rfl rfl (any_of HT_.out (by kernel_rfl)) (fun _ _ _ h => h) (Or.inl ⟨by rfl, ?_⟩) ?_ ?_
       rotate_left
       ·intro w'
        go_simp
        with_reducible rfl
       rotate_left
       ·simp only [Act.put, List.setIfInBounds_toArray, List.set_cons_zero, List.set_cons_succ, i64_w, i32_w]
        rfl
       refine pure_ (i := 3) (N := some 50) (v := ?_) (a' := ?_) #[true, false, false, true, false, false, false, false] rfl rfl (any_of HT_.out (by kernel_rfl)) (fun _ _ _ h => h) (Or.inl ⟨by rfl, ?_⟩) ?_ ?_
       rotate_left
       ·intro w'
        go_simp
        with_reducible rfl
       rotate_left
       ·simp only [Act.put, List.setIfInBounds_toArray, List.set_cons_zero, List.set_cons_succ, i64_w, i32_w]
        rfl
       refine take_ (i := 1) (N := some 48) (v := ?_) (a' := ?_) #[true, true, false, true, false, false, false, false] rfl rfl (take_ofW HT_.out HW_.out (by kernel_rfl)) (fun _ _ _ h => h) (Or.inl ⟨by rfl, ?_⟩) hHeld ?_ ?_
       rotate_left
       ·rintro w' ⟨s0, s1, s2⟩
        go_simp
        with_reducible rfl
       rotate_left
       ·simp only [Act.put, List.setIfInBounds_toArray, List.set_cons_zero, List.set_cons_succ, i64_w, i32_w]
        rfl
       refine take_ (i := 4) (N := some 51) (v := ?_) (a' := ?_) #[true, true, false, true, true, false, false, false] rfl rfl (take_ofW HT_.out HW_.out (by kernel_rfl)) (fun _ _ _ h => h) (Or.inl ⟨by rfl, ?_⟩) hHeld ?_ ?_
       rotate_left
       ·rintro w' ⟨s0, s1, s2⟩
        go_simp
        with_reducible rfl
       rotate_left
       ·simp only [Act.put, List.setIfInBounds_toArray, List.set_cons_zero, List.set_cons_succ, i64_w, i32_w]
        rfl
       refine one_ (i := 2) (N := some 49) #[true, true, true, true, true, false, false, false] rfl rfl (one_of HT_.out (by kernel_rfl)) (by decide) (fun K hK => ?_)
       refine goes_ Tryd.func45 (by kernel_rfl) rfl #[.slice A0_1 l0_1.length c0_1] (by rfl) rfl rfl zq5 ?_
       with_reducible refine (rf_natOf.calls kj7 _ _ l0_1 t602 _ ?side1 ?side2 A23.out).mono ?_
       (case side1 => exact zc (Kd.C_below HR0_1.out HB.out))
       (case side2 => exact HC0_1.out)
       rintro e w27 ⟨v603, rfl, ho0, hb⟩
       refine ⟨_, rfl, ?_⟩
       have n0_ := am (Kd.V_lower (Kd.V_mono (ok' := fun k_ => k_ ≠ gb599) ho0 (fun k_ hk_ => (Kd.freshB (g := gb599) (o := .cells #[.bool a0_0, .slice A0_1 l0_1.length c0_1, .slice A0_2 l0_2.length c0_2] 24 (0, 0)) (zq2 BK599.out) k_ hk_))) (below_size (zb1 GE599.out)))
       have n1_ := am (blk_below (g := gb599) (o := .cells #[.bool a0_0, .slice A0_1 l0_1.length c0_1, .slice A0_2 l0_2.length c0_2] 24 (0, 0)) (zq2 BK599.out) hb)
       have n2_ := am (below_step (zb1 GE599.out) hb)
       clear BK599 HB
       have HO604 := n0_
       have BK599 := n1_
       have HB := n2_
       clear n0_ n1_ n2_
       (try clear hb)
       (try clear hb2)
       (try clear hk)
       (try clear hi)
       (try clear ho0)
       refine hK.out _ _ ⟨(blk_cell BK599.out 0).trans rfl, (blk_cell BK599.out 1).trans rfl, (blk_cell BK599.out 2).trans rfl⟩ (fun hHeld => ?_)
       clear hK K
       refine norm_ (a' := ?_) ?_ ?_
       rotate_left
       ·show Act.put _ (some 49) _ = _
        simp only [Act.put, List.setIfInBounds_toArray, List.set_cons_zero, List.set_cons_succ, i64_w, i32_w]
        rfl
       refine one_ (i := 5) (N := some 52) #[true, true, true, true, true, true, false, false] rfl rfl (one_of HT_.out (by kernel_rfl)) (by decide) (fun K hK => ?_)
       refine goes_ Tryd.func45 (by kernel_rfl) rfl #[.slice A0_2 l0_2.length c0_2] (by rfl) rfl rfl zq5 ?_
       with_reducible refine (rf_natOf.calls kj7 _ _ l0_2 t605 _ ?side1 ?side2 A24.out).mono ?_
       (case side1 => exact zc (Kd.C_below HR0_2.out HB.out))
       (case side2 => exact HC0_2.out)
       rintro e w28 ⟨v606, rfl, ho0, hb⟩
       refine ⟨_, rfl, ?_⟩
       have n0_ := am (Kd.V_below (zq3 HO604.out) hb)
       have n1_ := am (Kd.V_lower (Kd.V_mono (ok' := fun k_ => k_ ≠ gb599) ho0 (fun k_ hk_ => (Kd.freshB (g := gb599) (o := .cells #[.bool a0_0, .slice A0_1 l0_1.length c0_1, .slice A0_2 l0_2.length c0_2] 24 (0, 0)) (zq2 BK599.out) k_ hk_))) (below_size (zb1 GE599.out)))
       have n2_ := am (blk_below (g := gb599) (o := .cells #[.bool a0_0, .slice A0_1 l0_1.length c0_1, .slice A0_2 l0_2.length c0_2] 24 (0, 0)) (zq2 BK599.out) hb)
       have n3_ := am (below_step (zb1 GE599.out) hb)
       clear HO604 BK599 HB
       have HO604 := n0_
       have HO607 := n1_
       have BK599 := n2_
       have HB := n3_
       clear n0_ n1_ n2_ n3_
       (try clear hb)
       (try clear hb2)
       (try clear hk)
       (try clear hi)
       (try clear ho0)
       refine hK.out _ _ ⟨(blk_cell BK599.out 0).trans rfl, (blk_cell BK599.out 1).trans rfl, (blk_cell BK599.out 2).trans rfl⟩ (fun hHeld => ?_)
       clear hK K
       refine norm_ (a' := ?_) ?_ ?_
       rotate_left
       ·show Act.put _ (some 52) _ = _
        simp only [Act.put, List.setIfInBounds_toArray, List.set_cons_zero, List.set_cons_succ, i64_w, i32_w]
        rfl
       refine pure_ (i := 6) (N := some 3) (v := ?_) (a' := ?_) #[true, true, true, true, true, true, true, false] rfl rfl (any_of HT_.out (by kernel_rfl)) (fun _ _ _ h => h) (Or.inl ⟨by rfl, ?_⟩) ?_ ?_
       rotate_left
       ·intro w'
        go_simp
        with_reducible rfl
       rotate_left
       ·simp only [Act.put, List.setIfInBounds_toArray, List.set_cons_zero, List.set_cons_succ, i64_w, i32_w]
        rfl
       refine pure_ (i := 7) (N := some 4) (v := ?_) (a' := ?_) #[true, true, true, true, true, true, true, true] rfl rfl (any_of HT_.out (by kernel_rfl)) (fun _ _ _ h => h) (Or.inl ⟨by rfl, ?_⟩) ?_ ?_
       rotate_left
       ·intro w'
        go_simp
        with_reducible rfl
       rotate_left
       ·simp only [Act.put, List.setIfInBounds_toArray, List.set_cons_zero, List.set_cons_succ, i64_w, i32_w]
        rfl
       refine done_ (done_of HT_.out (by kernel_rfl)) ?_
       go_upto_region 6 with (fail)
       go_cut [65] (fun v65 wc => ∃ (kq : Nat) (x65_24 : Bool), v65 = .bool x65_24 ∧ Aside0 (rf_Fault.j2 kq t602 t605 x65_24 = some r) ∧ Aside0 (kq ≤ kj7) ∧ Aside0 (Kd.V (Kd.int .i64) 3 wc w.heap.size (fun k_ => k_ ≠ gb599) v603 t602) ∧ Aside0 (Kd.V (Kd.int .i64) 3 wc w.heap.size (fun k_ => k_ ≠ gb599) v606 t605) ∧ Aside0 (wc.heap[gb599]? = some (.cells #[.bool a0_0, (.slice A0_1 l0_1.length c0_1), (.slice A0_2 l0_2.length c0_2)] 24 (0, 0))) ∧ Aside0 (Below w.heap.size w wc))
       case first =>
        have H := HC25.out
        clear HC25
        by_cases c29 : (t602.length : Int) = 0
        ·rw [if_pos c29] at H
         have c29b0 : ((t602.length : Int) == 0) = true := beq_iff_eq.mpr c29
         have c29b1 : ((t602.length : Int) != 0) = false := bne_eq_false_iff_eq.mpr c29
         clear c29
         (first | rw [c29b0] | (simp only [i64_w, i32_w]; rw [c29b0]) | skip)
         by_cases c30 : a0_0 = true
         ·subst c30
          have H1 : (rf_Fault.j2 kj7 t602 t605 true) = some r := by rw [if_pos rfl] at H; exact H
          clear H
          have H := H1
          clear H1
          have H' := am H
          clear H
          obtain ⟨Ao31, co31, eo31⟩ := Kd.V_slice HO604.out
          subst eo31
          have hcz32_0 : w28.cell? ⟨gb599, 0, none⟩ = some (.bool true) := (blk_cell BK599.out 0).trans rfl
          have hcz32_1 : w28.cell? ⟨gb599, 1, none⟩ = some (.slice A0_1 l0_1.length c0_1) := (blk_cell BK599.out 1).trans rfl
          have hcz32_2 : w28.cell? ⟨gb599, 2, none⟩ = some (.slice A0_2 l0_2.length c0_2) := (blk_cell BK599.out 2).trans rfl
          have hfz32_0 := blk_frozen BK599.out 0
          have hfz32_1 := blk_frozen BK599.out 1
          have hfz32_2 := blk_frozen BK599.out 2
          go_wp2
          go_meet
          case rel => exact ⟨_, (true), zq8, H', ⟨by have := HJ1.out; have := HJ7.out; first | omega | exact Nat.le_refl _⟩, ⟨zq3 HO604.out⟩, ⟨zq3 HO607.out⟩, ⟨zq2 BK599.out⟩, ⟨zb1 GE599.out⟩⟩
         ·replace c30 := Bool.eq_false_iff.mpr c30
          subst c30
          have H1 : ((rf_CmpNat.f kj7 t605 (([1] : List Int))).bind fun t611 => (rf_Fault.j2 kj7 t602 t605 (t611 != 0))) = some r := by rw [if_neg (show ¬ (false = true) by decide)] at H; exact H
          clear H
          have H := H1
          clear H1
          obtain ⟨y608, hy608⟩ : ∃ y_ : List Int, y_ = (([1] : List Int)) := ⟨_, rfl⟩
          try rw [← hy608] at H
          have Ny608 := am hy608
          clear hy608
          replace H := zi H
          obtain ⟨t611, A330, H⟩ := H
          have A33 := am A330
          clear A330
          have H' := am H
          clear H
          obtain ⟨Ao34, co34, eo34⟩ := Kd.V_slice HO604.out
          subst eo34
          have hcz35_0 : w28.cell? ⟨gb599, 0, none⟩ = some (.bool false) := (blk_cell BK599.out 0).trans rfl
          have hcz35_1 : w28.cell? ⟨gb599, 1, none⟩ = some (.slice A0_1 l0_1.length c0_1) := (blk_cell BK599.out 1).trans rfl
          have hcz35_2 : w28.cell? ⟨gb599, 2, none⟩ = some (.slice A0_2 l0_2.length c0_2) := (blk_cell BK599.out 2).trans rfl
          have hfz35_0 := blk_frozen BK599.out 0
          have hfz35_1 := blk_frozen BK599.out 1
          have hfz35_2 := blk_frozen BK599.out 2
          go_wp2_with (first | ((with_reducible refine gate_dst (N := 61) rfl ?_); (try (refine gate_guard (by rfl) ?_; dsimp only)); refine Kd.R_lit (Kd.int .i64) _ 3 ?hg (N := 61) ?hd (xs := ([1] : List Int)) (inner := [.int .i64 1]) (ok := fun _ => True) (okp := fun _ => True) ?hr ?hp (fun _ hk => hk) trivial (Below.refl _ _) (Nat.le_refl _) (by simp) ?_; (case hd => rfl); (case hg => rfl); (case hr => exact zr); (case hp => exact (Reps.one (show Kd.M (Kd.int .i64) _ _ _ 1 [.int .i64 1] from rfl) (Reps.none _ _))); intro v609 w36 ho37 hb hg_ hnew_; clear hg_ hnew_; (first | rw [← Ny608.out] at ho37 | (simp only [Int.reduceToNat] at ho37; rw [← Ny608.out] at ho37)); have n0_ := am (Kd.V_elder' (zq3 HO604.out) (Kd.R_base ho37) hb); have n1_ := am (Kd.V_elder' (zq3 HO607.out) (Kd.R_base ho37) hb); have n2_ := am (Kd.R_lower ho37 (below_size (zb1 GE599.out))); have n3_ := am (blk_below (g := gb599) (o := .cells #[.bool false, .slice A0_1 l0_1.length c0_1, .slice A0_2 l0_2.length c0_2] 24 (0, 0)) (zq2 BK599.out) hb); have n4_ := am (below_step (zb1 GE599.out) hb); clear HO604 HO607 BK599 HB; have HO604 := n0_; have HO607 := n1_; have HO610 := n2_; have BK599 := n3_; have HB := n4_; clear n0_ n1_ n2_ n3_ n4_ hb ho37; obtain ⟨Ao38, co38, eo38⟩ := Kd.V_slice HO607.out; subst eo38; obtain ⟨Ao39, co39, eo39⟩ := Kd.R_slice HO610.out; subst eo39) | (go_at_call 46; (with_reducible refine (rf_CmpNat.calls kj7 _ _ t605 _ _ y608 t611 _ ?side1 ?side2 ?side3 ?side4 A33.out).mono ?_); (case side1 => exact zc ((Kd.V_reads' HO607.out).2.2)); (case side2 => exact (Kd.V_reads' HO607.out).2.1); (case side3 => exact zc ((Kd.R_reads' HO610.out).2.2)); (case side4 => exact (Kd.R_reads' HO610.out).2.1); rintro e w40 ⟨rfl, hb⟩; have n0_ := am (Kd.V_below (zq3 HO604.out) hb); have n1_ := am (Kd.V_below (zq3 HO607.out) hb); have n2_ := am (Kd.R_below (zq4 HO610.out) hb); have n3_ := am (blk_below (g := gb599) (o := .cells #[.bool false, .slice A0_1 l0_1.length c0_1, .slice A0_2 l0_2.length c0_2] 24 (0, 0)) (zq2 BK599.out) hb); have n4_ := am (below_step (zb1 GE599.out) hb); clear HO604 HO607 HO610 BK599 HB; have HO604 := n0_; have HO607 := n1_; have HO610 := n2_; have BK599 := n3_; have HB := n4_; clear n0_ n1_ n2_ n3_ n4_; (try clear hb); (try clear hb2); (try clear hk); (try clear hi)))
          go_meet
          case rel => exact ⟨_, ((t611 != 0)), zq8, H', ⟨by have := HJ1.out; have := HJ7.out; first | omega | exact Nat.le_refl _⟩, ⟨by (with_reducible repeat (first | apply Kd.V_alloc | apply Kd.V_drewN | apply Kd.V_drew)); exact Kd.V_mono HO604.out (fun _ hk => hk.1)⟩, ⟨by (with_reducible repeat (first | apply Kd.V_alloc | apply Kd.V_drewN | apply Kd.V_drew)); exact Kd.V_mono HO607.out (fun _ hk => hk.1)⟩, ⟨zq2 BK599.out⟩, ⟨zb1 GE599.out⟩⟩
        ·rw [if_neg c29] at H
         have c29b0 : ((t602.length : Int) == 0) = false := beq_eq_false_iff_ne.mpr c29
         have c29b1 : ((t602.length : Int) != 0) = true := bne_iff_ne.mpr c29
         have c29b2 : ¬ (t602 = []) := fun h_ => c29 (by rw [h_]; rfl)
         (first | rw [c29b0] | (simp only [i64_w, i32_w]; rw [c29b0]) | skip)
         have H' := am H
         clear H
         obtain ⟨Ao41, co41, eo41⟩ := Kd.V_slice HO604.out
         subst eo41
         go_wp2
         go_meet
         case rel => exact ⟨_, (false), zq8, H', ⟨by have := HJ1.out; have := HJ7.out; first | omega | exact Nat.le_refl _⟩, ⟨zq3 HO604.out⟩, ⟨zq3 HO607.out⟩, ⟨zq2 BK599.out⟩, ⟨zb1 GE599.out⟩⟩
       case rest =>
        clear HC25
        obtain ⟨kq, x65_24, rfl, HA, HJ24, HO_3, HO_4, BK599, HB⟩ := hcut
        cases kq with
        | zero => exact absurd HA.out (by simp [rf_Fault.j2])
        | succ kj24 =>
         have H := HA.out
         clear HA
         simp only [rf_Fault.j2] at H
         by_cases c42 : x65_24 = true
         ·subst c42
          have H1 : (some 2) = some r := by rw [if_pos rfl] at H; exact H
          clear H
          have H := H1
          clear H1
          obtain rfl := Option.some.inj H
          go_wp2
          go_ret
          exact ⟨zq9, zb1 GE599.out⟩
         ·replace c42 := Bool.eq_false_iff.mpr c42
          subst c42
          have H1 : ((rf_GcdNat.f kj24 t602 t605).bind fun t612 => ((rf_CmpNat.f kj24 t612 (([1] : List Int))).bind fun t618 => (if t618 = 0 then (some 0) else (some 2)))) = some r := by rw [if_neg (show ¬ (false = true) by decide)] at H; exact H
          clear H
          have H := H1
          clear H1
          replace H := zi H
          obtain ⟨t612, A430, H⟩ := H
          have A43 := am A430
          clear A430
          obtain ⟨y615, hy615⟩ : ∃ y_ : List Int, y_ = (([1] : List Int)) := ⟨_, rfl⟩
          try rw [← hy615] at H
          have Ny615 := am hy615
          clear hy615
          replace H := zi H
          obtain ⟨t618, A440, H⟩ := H
          have A44 := am A440
          clear A440
          by_cases c45 : t618 = 0
          ·rw [if_pos c45] at H
           have c45b0 : (t618 == 0) = true := beq_iff_eq.mpr c45
           have c45b1 : (t618 != 0) = false := bne_eq_false_iff_eq.mpr c45
           clear c45
           obtain rfl := Option.some.inj H
           obtain ⟨Ao46, co46, eo46⟩ := Kd.V_slice HO_3.out
           subst eo46
           obtain ⟨Ao47, co47, eo47⟩ := Kd.V_slice HO_4.out
           subst eo47
           go_wp2_with (first | ((with_reducible refine gate_callee (f := 47) rfl ?_); refine goesL_ (some 68) rfl rfl Tryd.func47 (by kernel_rfl) rfl #[.slice Ao46 t602.length co46, .slice Ao47 t605.length co47] rfl zq5 ?_; (with_reducible refine (rf_GcdNat.calls kj24 (fun k_ => k_ ≠ gb599) _ _ t602 (fun k_ => k_ ≠ gb599) _ _ t605 t612 _ ?side1 ?side2 A43.out).mono ?_); (case side1 => exact HO_3.out); (case side2 => exact HO_4.out); rintro e w48 ⟨v613, rfl, ho0, hb⟩; refine ⟨_, rfl, ?_⟩; have n0_ := am (Kd.V_below (zq3 HO_3.out) hb); have n1_ := am (Kd.V_below (zq3 HO_4.out) hb); have n2_ := am (Kd.V_lower (Kd.V_mono (ok' := fun k_ => k_ ≠ gb599) ho0 (fun k_ hk_ => Or.elim hk_ (fun hs_ => Or.elim hs_ (fun hs_ => hs_) (fun hs_ => hs_)) (fun hn_ => (Kd.freshB (g := gb599) (o := .cells #[.bool a0_0, .slice A0_1 l0_1.length c0_1, .slice A0_2 l0_2.length c0_2] 24 (0, 0)) (zq2 BK599.out) k_ hn_)))) (below_size (zb1 GE599.out))); have n3_ := am (blk_below (g := gb599) (o := .cells #[.bool a0_0, .slice A0_1 l0_1.length c0_1, .slice A0_2 l0_2.length c0_2] 24 (0, 0)) (zq2 BK599.out) hb); have n4_ := am (below_step (zb1 GE599.out) hb); clear HO_3 HO_4 BK599 HB; have HO_3 := n0_; have HO_4 := n1_; have HO614 := n2_; have BK599 := n3_; have HB := n4_; clear n0_ n1_ n2_ n3_ n4_) | ((with_reducible refine gate_dst (N := 69) rfl ?_); (try (refine gate_guard (by rfl) ?_; dsimp only)); refine Kd.R_lit (Kd.int .i64) _ 3 ?hg (N := 69) ?hd (xs := ([1] : List Int)) (inner := [.int .i64 1]) (ok := fun _ => True) (okp := fun _ => True) ?hr ?hp (fun _ hk => hk) trivial (Below.refl _ _) (Nat.le_refl _) (by simp) ?_; (case hd => rfl); (case hg => rfl); (case hr => exact zr); (case hp => exact (Reps.one (show Kd.M (Kd.int .i64) _ _ _ 1 [.int .i64 1] from rfl) (Reps.none _ _))); intro v616 w49 ho50 hb hg_ hnew_; clear hg_ hnew_; (first | rw [← Ny615.out] at ho50 | (simp only [Int.reduceToNat] at ho50; rw [← Ny615.out] at ho50)); have n0_ := am (Kd.V_elder' (zq3 HO_3.out) (Kd.R_base ho50) hb); have n1_ := am (Kd.V_elder' (zq3 HO_4.out) (Kd.R_base ho50) hb); have n2_ := am (Kd.V_elder' (zq3 HO614.out) (Kd.R_base ho50) hb); have n3_ := am (Kd.R_lower ho50 (below_size (zb1 GE599.out))); have n4_ := am (blk_below (g := gb599) (o := .cells #[.bool a0_0, .slice A0_1 l0_1.length c0_1, .slice A0_2 l0_2.length c0_2] 24 (0, 0)) (zq2 BK599.out) hb); have n5_ := am (below_step (zb1 GE599.out) hb); clear HO_3 HO_4 HO614 BK599 HB; have HO_3 := n0_; have HO_4 := n1_; have HO614 := n2_; have HO617 := n3_; have BK599 := n4_; have HB := n5_; clear n0_ n1_ n2_ n3_ n4_ n5_ hb ho50; obtain ⟨Ao51, co51, eo51⟩ := Kd.V_slice HO614.out; subst eo51; obtain ⟨Ao52, co52, eo52⟩ := Kd.R_slice HO617.out; subst eo52) | ((with_reducible refine gate_callee (f := 46) rfl ?_); refine goesL_ (some 70) rfl rfl Tryd.func46 (by kernel_rfl) rfl #[.slice Ao51 t612.length co51, .slice Ao52 y615.length co52] rfl zq5 ?_; (with_reducible refine (rf_CmpNat.calls kj24 _ _ t612 _ _ y615 t618 _ ?side1 ?side2 ?side3 ?side4 A44.out).mono ?_); (case side1 => exact zc ((Kd.V_reads' HO614.out).2.2)); (case side2 => exact (Kd.V_reads' HO614.out).2.1); (case side3 => exact zc ((Kd.R_reads' HO617.out).2.2)); (case side4 => exact (Kd.R_reads' HO617.out).2.1); rintro e w53 ⟨rfl, hb⟩; refine ⟨_, rfl, ?_⟩; have n0_ := am (Kd.V_below (zq3 HO_3.out) hb); have n1_ := am (Kd.V_below (zq3 HO_4.out) hb); have n2_ := am (Kd.V_below (zq3 HO614.out) hb); have n3_ := am (Kd.R_below (zq4 HO617.out) hb); have n4_ := am (blk_below (g := gb599) (o := .cells #[.bool a0_0, .slice A0_1 l0_1.length c0_1, .slice A0_2 l0_2.length c0_2] 24 (0, 0)) (zq2 BK599.out) hb); have n5_ := am (below_step (zb1 GE599.out) hb); clear HO_3 HO_4 HO614 HO617 BK599 HB; have HO_3 := n0_; have HO_4 := n1_; have HO614 := n2_; have HO617 := n3_; have BK599 := n4_; have HB := n5_; clear n0_ n1_ n2_ n3_ n4_ n5_; (try clear hb); (try clear hb2); (try clear hk); (try clear hi)))
           go_ret
           exact ⟨zq9, zb1 GE599.out⟩
          ·rw [if_neg c45] at H
           have c45b0 : (t618 == 0) = false := beq_eq_false_iff_ne.mpr c45
           have c45b1 : (t618 != 0) = true := bne_iff_ne.mpr c45
           obtain rfl := Option.some.inj H
           obtain ⟨Ao54, co54, eo54⟩ := Kd.V_slice HO_3.out
           subst eo54
           obtain ⟨Ao55, co55, eo55⟩ := Kd.V_slice HO_4.out
           subst eo55
           go_wp2_with (first | ((with_reducible refine gate_callee (f := 47) rfl ?_); refine goesL_ (some 68) rfl rfl Tryd.func47 (by kernel_rfl) rfl #[.slice Ao54 t602.length co54, .slice Ao55 t605.length co55] rfl zq5 ?_; (with_reducible refine (rf_GcdNat.calls kj24 (fun k_ => k_ ≠ gb599) _ _ t602 (fun k_ => k_ ≠ gb599) _ _ t605 t612 _ ?side1 ?side2 A43.out).mono ?_); (case side1 => exact HO_3.out); (case side2 => exact HO_4.out); rintro e w56 ⟨v613, rfl, ho0, hb⟩; refine ⟨_, rfl, ?_⟩; have n0_ := am (Kd.V_below (zq3 HO_3.out) hb); have n1_ := am (Kd.V_below (zq3 HO_4.out) hb); have n2_ := am (Kd.V_lower (Kd.V_mono (ok' := fun k_ => k_ ≠ gb599) ho0 (fun k_ hk_ => Or.elim hk_ (fun hs_ => Or.elim hs_ (fun hs_ => hs_) (fun hs_ => hs_)) (fun hn_ => (Kd.freshB (g := gb599) (o := .cells #[.bool a0_0, .slice A0_1 l0_1.length c0_1, .slice A0_2 l0_2.length c0_2] 24 (0, 0)) (zq2 BK599.out) k_ hn_)))) (below_size (zb1 GE599.out))); have n3_ := am (blk_below (g := gb599) (o := .cells #[.bool a0_0, .slice A0_1 l0_1.length c0_1, .slice A0_2 l0_2.length c0_2] 24 (0, 0)) (zq2 BK599.out) hb); have n4_ := am (below_step (zb1 GE599.out) hb); clear HO_3 HO_4 BK599 HB; have HO_3 := n0_; have HO_4 := n1_; have HO614 := n2_; have BK599 := n3_; have HB := n4_; clear n0_ n1_ n2_ n3_ n4_) | ((with_reducible refine gate_dst (N := 69) rfl ?_); (try (refine gate_guard (by rfl) ?_; dsimp only)); refine Kd.R_lit (Kd.int .i64) _ 3 ?hg (N := 69) ?hd (xs := ([1] : List Int)) (inner := [.int .i64 1]) (ok := fun _ => True) (okp := fun _ => True) ?hr ?hp (fun _ hk => hk) trivial (Below.refl _ _) (Nat.le_refl _) (by simp) ?_; (case hd => rfl); (case hg => rfl); (case hr => exact zr); (case hp => exact (Reps.one (show Kd.M (Kd.int .i64) _ _ _ 1 [.int .i64 1] from rfl) (Reps.none _ _))); intro v616 w57 ho58 hb hg_ hnew_; clear hg_ hnew_; (first | rw [← Ny615.out] at ho58 | (simp only [Int.reduceToNat] at ho58; rw [← Ny615.out] at ho58)); have n0_ := am (Kd.V_elder' (zq3 HO_3.out) (Kd.R_base ho58) hb); have n1_ := am (Kd.V_elder' (zq3 HO_4.out) (Kd.R_base ho58) hb); have n2_ := am (Kd.V_elder' (zq3 HO614.out) (Kd.R_base ho58) hb); have n3_ := am (Kd.R_lower ho58 (below_size (zb1 GE599.out))); have n4_ := am (blk_below (g := gb599) (o := .cells #[.bool a0_0, .slice A0_1 l0_1.length c0_1, .slice A0_2 l0_2.length c0_2] 24 (0, 0)) (zq2 BK599.out) hb); have n5_ := am (below_step (zb1 GE599.out) hb); clear HO_3 HO_4 HO614 BK599 HB; have HO_3 := n0_; have HO_4 := n1_; have HO614 := n2_; have HO617 := n3_; have BK599 := n4_; have HB := n5_; clear n0_ n1_ n2_ n3_ n4_ n5_ hb ho58; obtain ⟨Ao59, co59, eo59⟩ := Kd.V_slice HO614.out; subst eo59; obtain ⟨Ao60, co60, eo60⟩ := Kd.R_slice HO617.out; subst eo60) | ((with_reducible refine gate_callee (f := 46) rfl ?_); refine goesL_ (some 70) rfl rfl Tryd.func46 (by kernel_rfl) rfl #[.slice Ao59 t612.length co59, .slice Ao60 y615.length co60] rfl zq5 ?_; (with_reducible refine (rf_CmpNat.calls kj24 _ _ t612 _ _ y615 t618 _ ?side1 ?side2 ?side3 ?side4 A44.out).mono ?_); (case side1 => exact zc ((Kd.V_reads' HO614.out).2.2)); (case side2 => exact (Kd.V_reads' HO614.out).2.1); (case side3 => exact zc ((Kd.R_reads' HO617.out).2.2)); (case side4 => exact (Kd.R_reads' HO617.out).2.1); rintro e w61 ⟨rfl, hb⟩; refine ⟨_, rfl, ?_⟩; have n0_ := am (Kd.V_below (zq3 HO_3.out) hb); have n1_ := am (Kd.V_below (zq3 HO_4.out) hb); have n2_ := am (Kd.V_below (zq3 HO614.out) hb); have n3_ := am (Kd.R_below (zq4 HO617.out) hb); have n4_ := am (blk_below (g := gb599) (o := .cells #[.bool a0_0, .slice A0_1 l0_1.length c0_1, .slice A0_2 l0_2.length c0_2] 24 (0, 0)) (zq2 BK599.out) hb); have n5_ := am (below_step (zb1 GE599.out) hb); clear HO_3 HO_4 HO614 HO617 BK599 HB; have HO_3 := n0_; have HO_4 := n1_; have HO614 := n2_; have HO617 := n3_; have BK599 := n4_; have HB := n5_; clear n0_ n1_ n2_ n3_ n4_ n5_; (try clear hb); (try clear hb2); (try clear hk); (try clear hi)))
           go_ret
           exact ⟨zq9, zb1 GE599.out⟩
def rf_Of.f (k : Nat) (a0_0 : Bool) (l0_1 : List Int) (l0_2 : List Int) : Option (Bool × List Int × List Int) := (rf_natOf.f k l0_1).bind fun t621 => ((rf_natOf.f k l0_2).bind fun t624 => (some (a0_0, t621, t624)))
theorem rf_Of.mono : ∀ a0 a1 a2 k, LeO (rf_Of.f k a0 a1 a2) (rf_Of.f (k + 1) a0 a1 a2) := by
 intro a0 a1 a2 k
 unfold rf_Of.f
 have m0 := @rf_natOf.mono
 exact zm
def rf_Of.T1 : Bool × List (List Nat × List Nat) := (true, [([], []), ([0], [0]), ([], []), ([2], [2]), ([3], [3]), ([], []), ([5], [5]), ([6, 4], [6]), ([1, 4, 7], [1, 4, 7]), ([8, 7, 0, 1, 2, 3, 4, 5, 6, 7, 8], [8])])
def rf_Of.B1 : List Nat := [0, 1, 0, 4, 12, 0, 32, 124, 255, 511]
theorem rf_Of.tab1 : rtab .any (opsOf Tryd.f24 1) = rf_Of.T1 := by kernel_rfl
theorem rf_Of.bits1 : waitsOk rf_Of.T1.2 rf_Of.B1 = true := by kernel_rfl
set_option maxHeartbeats 8000000 in
set_option maxRecDepth 100000 in
theorem rf_Of.calls (k : Nat) (a0_0 : Bool) (A0_1 : Option Addr) (c0_1 : Nat) (l0_1 : List Int) (A0_2 : Option Addr) (c0_2 : Nat) (l0_2 : List Int) (r1 : Bool) (r2 : List Int) (r3 : List Int) (w : World) (hr0_1 : Kd.C (Kd.int .u32) w A0_1 l0_1.length l0_1) (hc0_1 : l0_1.length ≤ c0_1) (hr0_2 : Kd.C (Kd.int .u32) w A0_2 l0_2.length l0_2) (hc0_2 : l0_2.length ≤ c0_2) (h : rf_Of.f k a0_0 l0_1 l0_2 = some (r1, r2, r3)) :
  Calls Tryd.prog 24 #[.agg #[.bool a0_0, .slice A0_1 l0_1.length c0_1, .slice A0_2 l0_2.length c0_2]] w fun e w' => ∃ v1_ v2_ : Value, e = .returned (.agg #[.bool r1, v1_, v2_]) ∧ Kd.V (Kd.int .i64) 3 w' w.heap.size (fun k_ => (w.heap.size ≤ k_)) v1_ r2 ∧ Kd.V (Kd.int .i64) 3 w' w.heap.size (fun k_ => (w.heap.size ≤ k_)) v2_ r3 ∧ Below w.heap.size w w' := by
 have hu24 := Tryd.underlying24
 have hu41 := Tryd.underlying41
 have HR0_1 := am hr0_1
 have HC0_1 := am hc0_1
 clear hr0_1 hc0_1
 have HR0_2 := am hr0_2
 have HC0_2 := am hc0_2
 clear hr0_2 hc0_2
 have HB := am (Below.refl w.heap.size w)
 have H := h
 unfold rf_Of.f at H
 clear h
 replace H := zi H
 obtain ⟨t621, A20, H⟩ := H
 have A2 := am A20
 clear A20
 replace H := zi H
 obtain ⟨t624, A30, H⟩ := H
 have A3 := am A30
 clear A30
 simp only [Option.some.injEq, Prod.mk.injEq] at H
 obtain ⟨rfl, rfl, rfl⟩ := H
 go_enter Tryd.func24, Tryd.ntmps24
 try go_wp2_with (first | ((with_reducible refine gate_dst (N := 1) rfl ?_); refine box_event ?hg (N := 1) ?hd (cs := #[.bool a0_0, .slice A0_1 l0_1.length c0_1, .slice A0_2 l0_2.length c0_2]) (t := 24) ?hr ?_; (case hd => rfl); (case hg => rfl); (case hr => exact zr); intro gb619 hg w4 hbox hb; have n0_ := am (below_step zq1 hb); have n1_ := am (hbox); have n2_ := am ((by rw [hg]; exact (below_size zq1) : w.heap.size ≤ gb619)); have n3_ := am ((by rw [hg]; exact (below_size zq1) : w.heap.size ≤ gb619)); clear HB; have HB := n0_; have BK619 := n1_; have GW619 := n2_; have GE619 := n3_; clear n0_ n1_ n2_ n3_; clear hb hbox hg) | ((with_reducible refine gate_dst (N := 2) rfl ?_); refine box_event ?hg (N := 2) ?hd (cs := #[.bool false, .slice none 0 0, .slice none 0 0]) (t := 41) ?hr ?_; (case hd => rfl); (case hg => rfl); (case hr => exact zr); intro gb620 hg w5 hbox hb; have n0_ := am (blk_below (g := gb619) (o := .cells #[.bool a0_0, .slice A0_1 l0_1.length c0_1, .slice A0_2 l0_2.length c0_2] 24 (0, 0)) (zq2 BK619.out) hb); have n1_ := am (below_step (zb1 GE619.out) hb); have n2_ := am (hbox); have n3_ := am ((by rw [hg]; exact (below_size (zb1 GE619.out)) : w.heap.size ≤ gb620)); have n4_ := am ((by rw [hg]; exact (below_size (zb1 GE619.out)) : w.heap.size ≤ gb620)); have n5_ := am ((by rw [hg]; exact Nat.ne_of_lt (blk_lt (g := gb619) (o := .cells #[.bool a0_0, .slice A0_1 l0_1.length c0_1, .slice A0_2 l0_2.length c0_2] 24 (0, 0)) (zq2 BK619.out)) : gb619 ≠ gb620)); have n6_ := am ((by rw [hg]; exact Nat.ne_of_gt (blk_lt (g := gb619) (o := .cells #[.bool a0_0, .slice A0_1 l0_1.length c0_1, .slice A0_2 l0_2.length c0_2] 24 (0, 0)) (zq2 BK619.out)) : gb620 ≠ gb619)); clear BK619 HB; have BK619 := n0_; have HB := n1_; have BK620 := n2_; have GW620 := n3_; have GE620 := n4_; have NB619_620 := n5_; have NB620_619 := n6_; clear n0_ n1_ n2_ n3_ n4_ n5_ n6_; clear hb hbox hg))
 have n0_ := am (blk_drew BK619.out)
 have n1_ := am (blk_drew BK620.out)
 have n2_ := am (below_drew1 HB.out)
 clear BK619 BK620 HB
 have BK619 := n0_
 have BK620 := n1_
 have HB := n2_
 clear n0_ n1_ n2_
 refine start_ (n := 10) (S := fun w' => w'.cell? ⟨gb619, 0, none⟩ = some (.bool a0_0) ∧ w'.cell? ⟨gb619, 1, none⟩ = some (.slice A0_1 l0_1.length c0_1) ∧ w'.cell? ⟨gb619, 2, none⟩ = some (.slice A0_2 l0_2.length c0_2)) (ds := []) #[false, false, false, false, false, false, false, false, false, false] (by kernel_rfl) rfl rfl ⟨(blk_cell BK619.out 0).trans rfl, (blk_cell BK619.out 1).trans rfl, (blk_cell BK619.out 2).trans rfl⟩ (fun hHeld => ?_); refine with_tabW rf_Of.tab1 rf_Of.bits1 (fun HT_ HW_ => ?_)
 generalize w5.drew = w6 at BK619 BK620 HB hHeld ⊢
 refine pure_ (i := 0) (N := some 3) (v := ?_) (a' := ?_) #[true, false, false, false, false, false, false, false, false, false] rfl rfl (any_of HT_.out (by kernel_rfl)) (fun _ _ _ h => h) (Or.inl ⟨by rfl, ?_⟩) ?_ ?_
 rotate_left
 ·intro w'
  go_simp
  with_reducible rfl
 rotate_left
 ·simp only [Act.put, List.setIfInBounds_toArray, List.set_cons_zero, List.set_cons_succ, i64_w, i32_w]
  rfl
 refine pure_ (i := 2) (N := some 5) (v := ?_) (a' := ?_) #[true, false, true, false, false, false, false, false, false, false] rfl rfl (any_of HT_.out (by kernel_rfl)) (fun _ _ _ h => h) (Or.inl ⟨by rfl, ?_⟩) ?_ ?_
 rotate_left
 ·intro w'
  go_simp
  with_reducible rfl
 rotate_left
 ·simp only [Act.put, List.setIfInBounds_toArray, List.set_cons_zero, List.set_cons_succ, i64_w, i32_w]
  rfl
 refine pure_ (i := 5) (N := some 8) (v := ?_) (a' := ?_) #[true, false, true, false, false, true, false, false, false, false] rfl rfl (any_of HT_.out (by kernel_rfl)) (fun _ _ _ h => h) (Or.inl ⟨by rfl, ?_⟩) ?_ ?_
 rotate_left
 ·intro w'
  go_simp
  with_reducible rfl
 rotate_left
 ·simp only [Act.put, List.setIfInBounds_toArray, List.set_cons_zero, List.set_cons_succ, i64_w, i32_w]
  rfl
 refine take_ (i := 1) (N := some 4) (v := ?_) (a' := ?_) #[true, true, true, false, false, true, false, false, false, false] rfl rfl (take_ofW HT_.out HW_.out (by kernel_rfl)) (fun _ _ _ h => h) (Or.inl ⟨by rfl, ?_⟩) hHeld ?_ ?_
 rotate_left
 ·rintro w' ⟨s0, s1, s2⟩
  go_simp
  with_reducible rfl
 rotate_left
 ·simp only [Act.put, List.setIfInBounds_toArray, List.set_cons_zero, List.set_cons_succ, i64_w, i32_w]
  rfl
 refine take_ (i := 3) (N := some 6) (v := ?_) (a' := ?_) #[true, true, true, true, false, true, false, false, false, false] rfl rfl (take_ofW HT_.out HW_.out (by kernel_rfl)) (fun _ _ _ h => h) (Or.inl ⟨by rfl, ?_⟩) hHeld ?_ ?_
 rotate_left
 ·rintro w' ⟨s0, s1, s2⟩
  go_simp
  with_reducible rfl
 rotate_left
 ·simp only [Act.put, List.setIfInBounds_toArray, List.set_cons_zero, List.set_cons_succ, i64_w, i32_w]
  rfl
 refine take_ (i := 6) (N := some 9) (v := ?_) (a' := ?_) #[true, true, true, true, false, true, true, false, false, false] rfl rfl (take_ofW HT_.out HW_.out (by kernel_rfl)) (fun _ _ _ h => h) (Or.inl ⟨by rfl, ?_⟩) hHeld ?_ ?_
 rotate_left
 ·rintro w' ⟨s0, s1, s2⟩
  go_simp
  with_reducible rfl
 rotate_left
 ·simp only [Act.put, List.setIfInBounds_toArray, List.set_cons_zero, List.set_cons_succ, i64_w, i32_w]
  rfl
 refine one_ (i := 4) (N := some 7) #[true, true, true, true, true, true, true, false, false, false] rfl rfl (one_of HT_.out (by kernel_rfl)) (by decide) (fun K hK => ?_)
 refine goes_ Tryd.func45 (by kernel_rfl) rfl #[.slice A0_1 l0_1.length c0_1] (by rfl) rfl rfl zq5 ?_
 with_reducible refine (rf_natOf.calls k _ _ l0_1 t621 _ ?side1 ?side2 A2.out).mono ?_
 (case side1 => exact zc (Kd.C_below HR0_1.out HB.out))
 (case side2 => exact HC0_1.out)
 rintro e w7 ⟨v622, rfl, ho0, hb⟩
 refine ⟨_, rfl, ?_⟩
 have n0_ := am (Kd.V_lower (Kd.V_mono (ok' := fun k_ => (w.heap.size ≤ k_) ∧ k_ ≠ gb619 ∧ k_ ≠ gb620) ho0 (fun k_ hk_ => ⟨(Nat.le_trans (below_size (zb2 GE619.out GE620.out)) hk_), (Kd.freshB (g := gb619) (o := .cells #[.bool a0_0, .slice A0_1 l0_1.length c0_1, .slice A0_2 l0_2.length c0_2] 24 (0, 0)) (zq2 BK619.out) k_ hk_), (Kd.freshB (g := gb620) (o := .cells #[.bool false, .slice none 0 0, .slice none 0 0] 41 (0, 0)) (zq2 BK620.out) k_ hk_)⟩)) (below_size (zb2 GE619.out GE620.out)))
 have n1_ := am (blk_below (g := gb619) (o := .cells #[.bool a0_0, .slice A0_1 l0_1.length c0_1, .slice A0_2 l0_2.length c0_2] 24 (0, 0)) (zq2 BK619.out) hb)
 have n2_ := am (blk_below (g := gb620) (o := .cells #[.bool false, .slice none 0 0, .slice none 0 0] 41 (0, 0)) (zq2 BK620.out) hb)
 have n3_ := am (below_step (zb2 GE619.out GE620.out) hb)
 clear BK619 BK620 HB
 have HO623 := n0_
 have BK619 := n1_
 have BK620 := n2_
 have HB := n3_
 clear n0_ n1_ n2_ n3_
 (try clear hb)
 (try clear hb2)
 (try clear hk)
 (try clear hi)
 (try clear ho0)
 refine hK.out _ _ ⟨(blk_cell BK619.out 0).trans rfl, (blk_cell BK619.out 1).trans rfl, (blk_cell BK619.out 2).trans rfl⟩ (fun hHeld => ?_)
 clear hK K
 refine norm_ (a' := ?_) ?_ ?_
 rotate_left
 ·show Act.put _ (some 7) _ = _
  simp only [Act.put, List.setIfInBounds_toArray, List.set_cons_zero, List.set_cons_succ, i64_w, i32_w]
  rfl
 refine one_ (i := 7) (N := some 10) #[true, true, true, true, true, true, true, true, false, false] rfl rfl (one_of HT_.out (by kernel_rfl)) (by decide) (fun K hK => ?_)
 refine goes_ Tryd.func45 (by kernel_rfl) rfl #[.slice A0_2 l0_2.length c0_2] (by rfl) rfl rfl zq5 ?_
 with_reducible refine (rf_natOf.calls k _ _ l0_2 t624 _ ?side1 ?side2 A3.out).mono ?_
 (case side1 => exact zc (Kd.C_below HR0_2.out HB.out))
 (case side2 => exact HC0_2.out)
 rintro e w8 ⟨v625, rfl, ho0, hb⟩
 refine ⟨_, rfl, ?_⟩
 have n0_ := am (Kd.V_below (zq3 HO623.out) hb)
 have n1_ := am (Kd.V_lower (Kd.V_mono (ok' := fun k_ => (w.heap.size ≤ k_) ∧ k_ ≠ gb619 ∧ k_ ≠ gb620) ho0 (fun k_ hk_ => ⟨(Nat.le_trans (below_size (zb2 GE619.out GE620.out)) hk_), (Kd.freshB (g := gb619) (o := .cells #[.bool a0_0, .slice A0_1 l0_1.length c0_1, .slice A0_2 l0_2.length c0_2] 24 (0, 0)) (zq2 BK619.out) k_ hk_), (Kd.freshB (g := gb620) (o := .cells #[.bool false, .slice none 0 0, .slice none 0 0] 41 (0, 0)) (zq2 BK620.out) k_ hk_)⟩)) (below_size (zb2 GE619.out GE620.out)))
 have n2_ := am (blk_below (g := gb619) (o := .cells #[.bool a0_0, .slice A0_1 l0_1.length c0_1, .slice A0_2 l0_2.length c0_2] 24 (0, 0)) (zq2 BK619.out) hb)
 have n3_ := am (blk_below (g := gb620) (o := .cells #[.bool false, .slice none 0 0, .slice none 0 0] 41 (0, 0)) (zq2 BK620.out) hb)
 have n4_ := am (below_step (zb2 GE619.out GE620.out) hb)
 clear HO623 BK619 BK620 HB
 have HO623 := n0_
 have HO626 := n1_
 have BK619 := n2_
 have BK620 := n3_
 have HB := n4_
 clear n0_ n1_ n2_ n3_ n4_
 (try clear hb)
 (try clear hb2)
 (try clear hk)
 (try clear hi)
 (try clear ho0)
 obtain ⟨Ao9, co9, eo9⟩ := Kd.V_slice HO626.out
 (first | subst eo9 | (injection eo9 with f1_ f2_ f3_; have f4_ := f1_.symm; have f5_ := f3_.symm; clear f1_ f2_ f3_; subst f4_; subst f5_))
 obtain ⟨Ao10, co10, eo10⟩ := Kd.V_slice HO623.out
 (first | subst eo10 | (injection eo10 with f1_ f2_ f3_; have f4_ := f1_.symm; have f5_ := f3_.symm; clear f1_ f2_ f3_; subst f4_; subst f5_))
 refine hK.out _ _ ⟨(blk_cell BK619.out 0).trans rfl, (blk_cell BK619.out 1).trans rfl, (blk_cell BK619.out 2).trans rfl⟩ (fun hHeld => ?_)
 clear hK K
 refine norm_ (a' := ?_) ?_ ?_
 rotate_left
 ·show Act.put _ (some 10) _ = _
  simp only [Act.put, List.setIfInBounds_toArray, List.set_cons_zero, List.set_cons_succ, i64_w, i32_w]
  rfl
 refine pure_ (i := 8) (N := some 11) (v := ?_) (a' := ?_) #[true, true, true, true, true, true, true, true, true, false] rfl rfl (any_of HT_.out (by kernel_rfl)) (fun _ _ _ h => h) (Or.inl ⟨by rfl, ?_⟩) ?_ ?_
 rotate_left
 ·intro w'
  go_simp
  with_reducible rfl
 rotate_left
 ·simp only [Act.put, List.setIfInBounds_toArray, List.set_cons_zero, List.set_cons_succ, i64_w, i32_w]
  rfl
 refine one_ (i := 9) (N := none) #[true, true, true, true, true, true, true, true, true, true] rfl rfl (one_of HT_.out (by kernel_rfl)) (by decide) (fun K hK => ?_)
 have hs11 : w8.cell? ⟨gb620, 0, none⟩ = some (.bool false) := (blk_cell BK620.out 0).trans rfl
 have hfs11 := blk_frozen BK620.out 0
 have hns11_0 := NB619_620.out
 have hms11_0 := NB620_619.out
 have hs12 : w8.cell? ⟨gb620, 1, none⟩ = some (.slice none 0 0) := (blk_cell BK620.out 1).trans rfl
 have hfs12 := blk_frozen BK620.out 1
 have hns12_0 := NB619_620.out
 have hms12_0 := NB620_619.out
 have hs13 : w8.cell? ⟨gb620, 2, none⟩ = some (.slice none 0 0) := (blk_cell BK620.out 2).trans rfl
 have hfs13 := blk_frozen BK620.out 2
 have hns13_0 := NB619_620.out
 have hms13_0 := NB620_619.out
 refine skip_ (w1 := ?_) (by rfl) rfl ?_ ?_
 rotate_left
 ·go_simp
  rfl
 refine hK.out _ _ ⟨((cell_far (p := ⟨gb620, _, none⟩) NB619_620.out _).trans (((cell_far (p := ⟨gb620, _, none⟩) NB619_620.out _).trans (((cell_far (p := ⟨gb620, _, none⟩) NB619_620.out _).trans (hHeld.1)))))), ((cell_far (p := ⟨gb620, _, none⟩) NB619_620.out _).trans (((cell_far (p := ⟨gb620, _, none⟩) NB619_620.out _).trans (((cell_far (p := ⟨gb620, _, none⟩) NB619_620.out _).trans (hHeld.2.1)))))), ((cell_far (p := ⟨gb620, _, none⟩) NB619_620.out _).trans (((cell_far (p := ⟨gb620, _, none⟩) NB619_620.out _).trans (((cell_far (p := ⟨gb620, _, none⟩) NB619_620.out _).trans (hHeld.2.2))))))⟩ (fun hHeld => ?_)
 clear hK K
 refine done_ (done_of HT_.out (by kernel_rfl)) ?_
 try go_wp2
 refine bodyPost_ret (results_cell_row rfl _ _ gb620 41 #[.bool a0_0, .slice Ao10 t621.length co10, .slice Ao9 t624.length co9] (0, 0) _ rfl (by (with_reducible repeat (first | refine blk_drewN ?_ _ | refine blk_drew ?_ | refine blk_alloc ?_ _)); refine blk_put (cs := #[.bool a0_0, .slice Ao10 t621.length co10, .slice none 0 0]) ?_ 2 _ rfl; (with_reducible repeat (first | refine blk_drewN ?_ _ | refine blk_drew ?_ | refine blk_alloc ?_ _)); refine blk_put (cs := #[.bool a0_0, .slice none 0 0, .slice none 0 0]) ?_ 1 _ rfl; (with_reducible repeat (first | refine blk_drewN ?_ _ | refine blk_drew ?_ | refine blk_alloc ?_ _)); refine blk_put (cs := #[.bool false, .slice none 0 0, .slice none 0 0]) ?_ 0 _ rfl; (with_reducible repeat (first | refine blk_drewN ?_ _ | refine blk_drew ?_ | refine blk_alloc ?_ _)); exact BK620.out) Tryd.underlying41 rfl (by kernel_rfl)) rfl ?_
 exact ⟨_, _, zq9, by (with_reducible repeat (first | apply Kd.V_alloc | apply Kd.V_drewN | apply Kd.V_drew)); exact Kd.V_mono (Kd.V_far (p := ⟨gb620, 2, none⟩) (Kd.V_far (p := ⟨gb620, 1, none⟩) (Kd.V_far (p := ⟨gb620, 0, none⟩) (Kd.V_mono HO623.out (fun k_ hk => (⟨hk, hk.2.2⟩ : _ ∧ k_ ≠ gb620))) (fun _ hk => hk.2) (.bool a0_0)) (fun _ hk => hk.2) (.slice Ao10 t621.length co10)) (fun _ hk => hk.2) (.slice Ao9 t624.length co9)) (fun _ hk => hk.1.1), by (with_reducible repeat (first | apply Kd.V_alloc | apply Kd.V_drewN | apply Kd.V_drew)); exact Kd.V_mono (Kd.V_far (p := ⟨gb620, 2, none⟩) (Kd.V_far (p := ⟨gb620, 1, none⟩) (Kd.V_far (p := ⟨gb620, 0, none⟩) (Kd.V_mono HO626.out (fun k_ hk => (⟨hk, hk.2.2⟩ : _ ∧ k_ ≠ gb620))) (fun _ hk => hk.2) (.bool a0_0)) (fun _ hk => hk.2) (.slice Ao10 t621.length co10)) (fun _ hk => hk.2) (.slice Ao9 t624.length co9)) (fun _ hk => hk.1.1), zb2 GE619.out GE620.out⟩
def rf_IsInt.f (k : Nat) (a0_0 : Bool) (l0_1 : List Int) (l0_2 : List Int) : Option (Bool) := (rf_CmpNat.f k l0_2 (([1] : List Int))).bind fun t645 => (some (t645 == 0))
theorem rf_IsInt.mono : ∀ a0 a1 a2 k, LeO (rf_IsInt.f k a0 a1 a2) (rf_IsInt.f (k + 1) a0 a1 a2) := by
 intro a0 a1 a2 k
 unfold rf_IsInt.f
 have m0 := @rf_CmpNat.mono
 exact zm
set_option maxHeartbeats 8000000 in
set_option maxRecDepth 100000 in
theorem rf_IsInt.calls (k : Nat) (a0_0 : Bool) (A0_1 : Option Addr) (c0_1 : Nat) (l0_1 : List Int) (A0_2 : Option Addr) (c0_2 : Nat) (l0_2 : List Int) (r : Bool) (w : World) (hr0_1 : Kd.C (Kd.int .i64) w A0_1 l0_1.length l0_1) (hc0_1 : l0_1.length ≤ c0_1) (hr0_2 : Kd.C (Kd.int .i64) w A0_2 l0_2.length l0_2) (hc0_2 : l0_2.length ≤ c0_2) (h : rf_IsInt.f k a0_0 l0_1 l0_2 = some r) :
  Calls Tryd.prog 66 #[.agg #[.bool a0_0, .slice A0_1 l0_1.length c0_1, .slice A0_2 l0_2.length c0_2]] w fun e w' => e = .returned (.bool r) ∧ Below w.heap.size w w' := by
 have hu41 := Tryd.underlying41
 have HR0_1 := am hr0_1
 have HC0_1 := am hc0_1
 clear hr0_1 hc0_1
 have HR0_2 := am hr0_2
 have HC0_2 := am hc0_2
 clear hr0_2 hc0_2
 have HB := am (Below.refl w.heap.size w)
 have H := h
 unfold rf_IsInt.f at H
 clear h
 obtain ⟨y642, hy642⟩ : ∃ y_ : List Int, y_ = (([1] : List Int)) := ⟨_, rfl⟩
 try rw [← hy642] at H
 have Ny642 := am hy642
 clear hy642
 replace H := zi H
 obtain ⟨t645, A20, H⟩ := H
 have A2 := am A20
 clear A20
 obtain rfl := Option.some.inj H
 go_enter Tryd.func66, Tryd.ntmps66
 go_wp2_with (first | ((with_reducible refine gate_dst (N := 1) rfl ?_); refine box_event ?hg (N := 1) ?hd (cs := #[.bool a0_0, .slice A0_1 l0_1.length c0_1, .slice A0_2 l0_2.length c0_2]) (t := 41) ?hr ?_; (case hd => rfl); (case hg => rfl); (case hr => exact zr); intro gb641 hg w3 hbox hb; have n0_ := am (below_step zq1 hb); have n1_ := am (hbox); have n2_ := am ((by rw [hg]; exact (below_size zq1) : w.heap.size ≤ gb641)); have n3_ := am ((by rw [hg]; exact (below_size zq1) : w.heap.size ≤ gb641)); clear HB; have HB := n0_; have BK641 := n1_; have GW641 := n2_; have GE641 := n3_; clear n0_ n1_ n2_ n3_ hb hbox hg; have hcz4_0 : w3.cell? ⟨gb641, 0, none⟩ = some (.bool a0_0) := (blk_cell BK641.out 0).trans rfl; have hcz4_1 : w3.cell? ⟨gb641, 1, none⟩ = some (.slice A0_1 l0_1.length c0_1) := (blk_cell BK641.out 1).trans rfl; have hcz4_2 : w3.cell? ⟨gb641, 2, none⟩ = some (.slice A0_2 l0_2.length c0_2) := (blk_cell BK641.out 2).trans rfl; have hfz4_0 := blk_frozen BK641.out 0; have hfz4_1 := blk_frozen BK641.out 1; have hfz4_2 := blk_frozen BK641.out 2) | ((with_reducible refine gate_dst (N := 5) rfl ?_); refine Kd.R_lit (Kd.int .i64) _ 3 ?hg (N := 5) ?hd (xs := ([1] : List Int)) (inner := [.int .i64 1]) (ok := fun _ => True) (okp := fun _ => True) ?hr ?hp (fun _ hk => hk) trivial (Below.refl _ _) (Nat.le_refl _) (by simp) ?_; (case hd => rfl); (case hg => rfl); (case hr => exact zr); (case hp => exact (Reps.one (show Kd.M (Kd.int .i64) _ _ _ 1 [.int .i64 1] from rfl) (Reps.none _ _))); intro v643 w5 ho6 hb hg_ hnew_; clear hg_ hnew_; (first | rw [← Ny642.out] at ho6 | (simp only [Int.reduceToNat] at ho6; rw [← Ny642.out] at ho6)); have n0_ := am (Kd.R_lower ho6 (below_size (zb1 GE641.out))); have n1_ := am (blk_below (g := gb641) (o := .cells #[.bool a0_0, .slice A0_1 l0_1.length c0_1, .slice A0_2 l0_2.length c0_2] 41 (0, 0)) (zq2 BK641.out) hb); have n2_ := am (below_step (zb1 GE641.out) hb); clear BK641 HB; have HO644 := n0_; have BK641 := n1_; have HB := n2_; clear n0_ n1_ n2_ hb ho6; obtain ⟨Ao7, co7, eo7⟩ := Kd.R_slice HO644.out; subst eo7) | ((with_reducible refine gate_callee (f := 46) rfl ?_); refine goesL_ (some 6) rfl rfl Tryd.func46 (by kernel_rfl) rfl #[.slice A0_2 l0_2.length c0_2, .slice Ao7 y642.length co7] rfl zq5 ?_; (with_reducible refine (rf_CmpNat.calls k _ _ l0_2 _ _ y642 t645 _ ?side1 ?side2 ?side3 ?side4 A2.out).mono ?_); (case side1 => exact zc (Kd.C_below HR0_2.out HB.out)); (case side2 => exact HC0_2.out); (case side3 => exact zc ((Kd.R_reads' HO644.out).2.2)); (case side4 => exact (Kd.R_reads' HO644.out).2.1); rintro e w8 ⟨rfl, hb⟩; refine ⟨_, rfl, ?_⟩; have n0_ := am (Kd.R_below (zq4 HO644.out) hb); have n1_ := am (blk_below (g := gb641) (o := .cells #[.bool a0_0, .slice A0_1 l0_1.length c0_1, .slice A0_2 l0_2.length c0_2] 41 (0, 0)) (zq2 BK641.out) hb); have n2_ := am (below_step (zb1 GE641.out) hb); clear HO644 BK641 HB; have HO644 := n0_; have BK641 := n1_; have HB := n2_; clear n0_ n1_ n2_; (try clear hb); (try clear hb2); (try clear hk); (try clear hi)))
 go_ret
 exact ⟨zq9, zb1 GE641.out⟩
end Go.Proofs.YtemnjgkicndmjaaDoor.Q

namespace Go.Proofs.YtemnjgkicndmjaaDoor.Q
open Go.RowKit Go.Proofs.YtemnjgkicndmjaaDoorW.PrintWords Go.Proofs.YtemnjgkicndmjaaDoorW.PrintLast Go.Proofs.YtemnjgkicndmjaaDoorW.PrintMore
attribute [local go_sem] max2_int min2_int max_two min_two max_three min_three max_four min_four
set_option linter.unusedVariables false
set_option linter.unusedSimpArgs false
mutual
def rf_Decimal.l0 : Nat → List Int → List Int → Option (ByteArray)
 | 0, _, _ => none
 | k + 1, x0, x3 => if (x0.length : Int) > 0 then (if 0 ≤ (x0.length : Int) then (if ((x0.length : Int) : Int).toNat ≤ 35184372088832 then (rf_Decimal.l1 k x0 x3 0 (List.replicate ((x0.length : Int) : Int).toNat 0) (wrap64 ((x0.length : Int) - 1))) else (none)) else (none)) else (if 0 ≤ (x3.length : Int) then (if ((x3.length : Int) : Int).toNat ≤ 281474976710656 then (rf_Decimal.l2 k x3 (List.replicate ((x3.length : Int) : Int).toNat 0) x3 (x3.length : Int) 0) else (none)) else (none))
def rf_Decimal.l1 : Nat → List Int → List Int → Int → List Int → Int → Option (ByteArray)
 | 0, _, _, _, _, _ => none
 | k + 1, x0, x3, x4, x5, x6 => if x6 ≥ 0 then (if 0 ≤ x6 then (if x6 < (x0.length : Int) then (if x6 < (x5.length : Int) then (rf_Decimal.l1 k x0 x3 (Int.tmod (wrap64 ((wrap64 (x4 * 65536)) + (rd x0 x6))) 10) (x5.set (x6 : Int).toNat (wrap64 (Int.tdiv (wrap64 ((wrap64 (x4 * 65536)) + (rd x0 x6))) 10))) (wrap64 (x6 - 1))) else (none)) else (none)) else (none)) else (if x3.length < 140737488355328 then ((rf_trim.f k x5).bind fun t1626 => (rf_Decimal.l0 k t1626 (x3 ++ [(wrap64 (48 + x4)) % 256]))) else (none))
def rf_Decimal.l2 : Nat → List Int → List Int → List Int → Int → Int → Option (ByteArray)
 | 0, _, _, _, _, _ => none
 | k + 1, x3, x8, x52, x53, x54 => if x54 < x53 then (if 0 ≤ x54 then (if x54 < (x52.length : Int) then (if 0 ≤ (wrap64 ((wrap64 ((x3.length : Int) - 1)) - x54)) then (if (wrap64 ((wrap64 ((x3.length : Int) - 1)) - x54)) < (x8.length : Int) then (rf_Decimal.l2 k x3 (x8.set ((wrap64 ((wrap64 ((x3.length : Int) - 1)) - x54)) : Int).toNat (rd x52 x54)) x52 x53 (wrap64 (x54 + 1))) else (none)) else (none)) else (none)) else (none)) else (some (strOfNums x8))
end
def rf_Decimal.f (k : Nat) (l0 : List Int) : Option (ByteArray) := if (l0.length : Int) = 0 then (some (⟨#[48]⟩ : ByteArray)) else (rf_Decimal.l0 k l0 ([] : List Int))
theorem rf_Decimal.mono_l : ∀ k, (∀ y0 y1, LeO (rf_Decimal.l0 k y0 y1) (rf_Decimal.l0 (k + 1) y0 y1)) ∧ (∀ y0 y1 y2 y3 y4, LeO (rf_Decimal.l1 k y0 y1 y2 y3 y4) (rf_Decimal.l1 (k + 1) y0 y1 y2 y3 y4)) ∧ (∀ y0 y1 y2 y3 y4, LeO (rf_Decimal.l2 k y0 y1 y2 y3 y4) (rf_Decimal.l2 (k + 1) y0 y1 y2 y3 y4))
 | 0 => ⟨fun _ _ r h => by simp [rf_Decimal.l0] at h, fun _ _ _ _ _ r h => by simp [rf_Decimal.l1] at h, fun _ _ _ _ _ r h => by simp [rf_Decimal.l2] at h⟩
 | k + 1 => by
  obtain ⟨ih0, ih1, ih2⟩ := rf_Decimal.mono_l k
  refine ⟨?_, ?_, ?_⟩
  ·intro y0 y1
   unfold rf_Decimal.l0
   have m0 := ih0
   have m1 := ih1
   have m2 := ih2
   have m3 := @rf_trim.mono
   exact zm
  ·intro y0 y1 y2 y3 y4
   unfold rf_Decimal.l1
   have m0 := ih0
   have m1 := ih1
   have m2 := ih2
   have m3 := @rf_trim.mono
   exact zm
  ·intro y0 y1 y2 y3 y4
   unfold rf_Decimal.l2
   have m0 := ih0
   have m1 := ih1
   have m2 := ih2
   have m3 := @rf_trim.mono
   exact zm
theorem rf_Decimal.mono : ∀ a0 k, LeO (rf_Decimal.f k a0) (rf_Decimal.f (k + 1) a0) := by
 intro a0 k
 obtain ⟨ih0, ih1, ih2⟩ := rf_Decimal.mono_l k
 unfold rf_Decimal.f
 have m0 := ih0
 have m1 := ih1
 have m2 := ih2
 have m3 := @rf_trim.mono
 exact zm
set_option maxHeartbeats 8000000 in
set_option maxRecDepth 100000 in
theorem rf_Decimal.calls (k : Nat) (P0_ : Nat → Prop) (A0 : Option Addr) (c0 : Nat) (l0 : List Int) (r : ByteArray) (w : World) (hs0 : Kd.V (Kd.int .i64) 3 w w.heap.size (fun k_ => P0_ k_) (.slice A0 l0.length c0) l0) (h : rf_Decimal.f k l0 = some r) :
  Calls Tryd.prog 101 #[.slice A0 l0.length c0] w fun e w' => e = .returned (.string r) ∧ Below w.heap.size w w' := by
 have HO0 := am (show Kd.V (Kd.int .i64) 3 w w.heap.size (fun k_ => (P0_ k_ ∨ w.heap.size ≤ k_)) (.slice A0 l0.length c0) l0 from Kd.V_mono hs0 (fun k_ hk => .inl hk))
 have HB := am (Below.refl w.heap.size w)
 have H := h
 unfold rf_Decimal.f at H
 clear h
 by_cases c2 : (l0.length : Int) = 0
 ·rw [if_pos c2] at H
  have c2b0 : ((l0.length : Int) == 0) = true := beq_iff_eq.mpr c2
  have c2b1 : ((l0.length : Int) != 0) = false := bne_eq_false_iff_eq.mpr c2
  clear c2
  obtain rfl := Option.some.inj H
  go_enter Tryd.func101, Tryd.ntmps101
  go_wp2
  go_ret
  exact ⟨zq9, zq1⟩
 ·rw [if_neg c2] at H
  have c2b0 : ((l0.length : Int) == 0) = false := beq_eq_false_iff_ne.mpr c2
  have c2b1 : ((l0.length : Int) != 0) = true := bne_iff_ne.mpr c2
  have c2b2 : ¬ (l0 = []) := fun h_ => c2 (by rw [h_]; rfl)
  have H' := am H
  clear H
  go_enter Tryd.func101, Tryd.ntmps101
  go_wp2
  go_loopg [0, 3] k (fun kq v0 v3 w' => ∃ (x0_1 : List Int) (x3_1 : List Int), Aside0 (rf_Decimal.l0 kq x0_1 x3_1 = some r) ∧ Aside0 (kq ≤ k) ∧ Aside0 (Kd.V (Kd.int .i64) 3 w' w.heap.size (fun k_ => (P0_ k_ ∨ w.heap.size ≤ k_) ∧ some k_ ≠ (v3 : Value).ownBlock) v0 x0_1) ∧ Aside0 (Kd.R (Kd.int .u8) 5 w' w.heap.size (fun k_ => (w.heap.size ≤ k_)) v3 x3_1) ∧ Aside0 (Below w.heap.size w w'))
  case atStart => exact ⟨(l0), (([] : List Int)), H', ⟨Nat.le_refl _⟩, ⟨by (with_reducible repeat (first | apply Kd.V_alloc | apply Kd.V_drewN | apply Kd.V_drew)); exact Kd.V_mono HO0.out (fun _ hk => ⟨hk, (by simp [Value.ownBlock])⟩)⟩, ⟨by first | exact Kd.R_nil _ _ _ _ _ | exact Kd.N_nil _ _ _ _ _ | exact Kd.V_nil _ _ _ _ _ | exact Kd.Q_nil _ _ _ _ _ | exact Kd.S_nil _ _ _ _ _⟩, ⟨zq1⟩⟩
  case round =>
   clear H'
   obtain ⟨x0_1, x3_1, HA, HK1, HO_0, HO_3, HB⟩ := hrel
   cases gk with
   | zero => exact absurd HA.out (by simp [rf_Decimal.l0])
   | succ k1 =>
    have H := HA.out
    clear HA
    simp only [rf_Decimal.l0] at H
    by_cases c3 : (x0_1.length : Int) > 0
    ·rw [if_pos c3] at H
     have c3b0 : decide (0 < (x0_1.length : Int)) = true := decide_eq_true c3
     have c3b1 : decide (0 < x0_1.length) = true := decide_eq_true (by omega)
     clear c3
     replace H := zn H
     obtain ⟨c4, H⟩ := H
     have c4b0 := eq_true c4
     have c4b1 := decide_eq_true c4
     clear c4
     replace H := zn H
     obtain ⟨c5, H⟩ := H
     have c5b0 := eq_true c5
     have c5b1 := decide_eq_true c5
     clear c5
     obtain ⟨y1618, hy1618⟩ : ∃ y_ : List Int, y_ = (List.replicate ((x0_1.length : Int) : Int).toNat 0) := ⟨_, rfl⟩
     try rw [← hy1618] at H
     have Ny1618 := am hy1618
     clear hy1618
     have H' := am H
     clear H
     obtain ⟨Ao6, co6, eo6⟩ := Kd.V_slice HO_0.out
     subst eo6
     go_wp2_with (first | ((with_reducible refine gate_dst (N := 19) rfl ?_); refine Kd.R_make (Kd.int .i64) _ 3 rfl (N := 19) rfl 39 _ _ rfl (x0_1.length : Int) rfl rfl Tryd.underlying39 (.int .i64 0) 8 info3 rfl (by decide) (by omega) 0 (ok := fun _ => True) (okp := fun _ => True) rfl (fun _ hk => hk) trivial zq6 (Nat.le_trans (Nat.mul_le_mul_right _ (zq6 : (x0_1.length : Int).toNat ≤ 35184372088832)) (by omega)) (Below.refl _ _) (Nat.le_refl _) ?_; intro v1619 w7 ho8 hb hg_ hnew_; clear hg_ hnew_; (first | rw [← Ny1618.out] at ho8 | (simp only [Int.reduceToNat] at ho8; rw [← Ny1618.out] at ho8)); have n0_ := am (Kd.V_elder' (zq3 HO_0.out) (Kd.R_base ho8) hb); have n1_ := am (Kd.R_below (zq4 HO_3.out) hb); have n2_ := am (Kd.R_lower (Kd.R_newM (M := fun k_ => (w.heap.size ≤ k_)) ho8 (below_size zq1) (fun k_ h_ => h_)) (below_size zq1)); have n3_ := am (below_step zq1 hb); clear HO_0 HO_3 HB; have HO_0 := n0_; have HO_3 := n1_; have HO1620 := n2_; have HB := n3_; clear n0_ n1_ n2_ n3_; clear hb ho8))
     go_loopg [4, 6] k1 (fun kq v4 v6 w' => ∃ (x4_2 : Int) (x5_2 : List Int) (x6_2 : Int), v4 = .int .i64 x4_2 ∧ v6 = .int .i64 x6_2 ∧ Aside0 (rf_Decimal.l1 kq x0_1 x3_1 x4_2 x5_2 x6_2 = some r) ∧ Aside0 (kq ≤ k1) ∧ Aside0 (Kd.V (Kd.int .i64) 3 w' w.heap.size (fun k_ => (P0_ k_ ∨ w.heap.size ≤ k_) ∧ some k_ ≠ (u3 : Value).ownBlock ∧ some k_ ≠ (v1619 : Value).ownBlock) (.slice Ao6 x0_1.length co6) x0_1) ∧ Aside0 (Kd.R (Kd.int .u8) 5 w' w.heap.size (fun k_ => (w.heap.size ≤ k_)) u3 x3_1) ∧ Aside0 (Kd.R (Kd.int .i64) 3 w' w.heap.size (fun k_ => (w.heap.size ≤ k_)) v1619 x5_2) ∧ Aside0 (Below w.heap.size w w'))
     case atStart => exact ⟨(0), (y1618), (wrap64 ((x0_1.length : Int) - 1)), zq8, zq8, H', ⟨Nat.le_refl _⟩, ⟨by (with_reducible repeat (first | apply Kd.V_alloc | apply Kd.V_drewN | apply Kd.V_drew)); exact Kd.V_mono HO_0.out (fun _ hk => ⟨hk.1.1, ⟨hk.1.2, hk.2⟩⟩)⟩, ⟨zq4 HO_3.out⟩, ⟨by (with_reducible repeat (first | apply Kd.R_alloc | apply Kd.R_drewN | apply Kd.R_drew)); exact Kd.R_mono HO1620.out (fun _ hk => hk.1)⟩, ⟨zq1⟩⟩
     case round =>
      clear H'
      obtain ⟨x4_2, x5_2, x6_2, rfl, rfl, HA, HK2, HO_0, HO_3, HO_5, HB⟩ := hrel
      cases gk with
      | zero => exact absurd HA.out (by simp [rf_Decimal.l1])
      | succ k2 =>
       have H := HA.out
       clear HA
       simp only [rf_Decimal.l1] at H
       by_cases c9 : x6_2 ≥ 0
       ·rw [if_pos c9] at H
        have c9b0 : decide (0 ≤ x6_2) = true := decide_eq_true c9
        clear c9
        replace H := zn H
        obtain ⟨c10, H⟩ := H
        have c10b0 := decide_eq_true c10
        clear c10
        replace H := zn H
        obtain ⟨c11, H⟩ := H
        have c11b0 := decide_eq_true c11
        clear c11
        replace H := zn H
        obtain ⟨c12, H⟩ := H
        have c12b0 := decide_eq_true c12
        clear c12
        obtain ⟨y1622, hy1622⟩ : ∃ y_ : List Int, y_ = (x5_2.set (x6_2 : Int).toNat (wrap64 (Int.tdiv (wrap64 ((wrap64 (x4_2 * 65536)) + (rd x0_1 x6_2))) 10))) := ⟨_, rfl⟩
        try rw [← hy1622] at H
        have Ny1622 := am hy1622
        clear hy1622
        have H' := am H
        clear H
        have p1621 : 0 ≤ (x6_2 : Int) := zq6
        have q1621 : x6_2 < (x0_1.length : Int) := zq6
        obtain ⟨ad1621, e1621, hx1621_0⟩ := Kd.at_int (Kd.V_reads' HO_0.out).2.2 x6_2 p1621 q1621
        cases e1621
        replace p1621 := eq_true p1621
        replace q1621 := eq_true q1621
        have p13 : 0 ≤ (x6_2 : Int) := zq6
        have q13 : (x6_2 : Int) < ((x5_2.length : Int) : Int) := zq6
        obtain ⟨go13, co13, eo13, gb13, gl13, cl13, HG13⟩ := Kd.R_form HO_5.out (by omega)
        (first | cases eo13 | (injection eo13 with ea_ en_ ec_; (first | subst ea_ | (injection ea_ with ea_; subst ea_)); subst ec_; clear en_))
        have GB13 := am gb13
        have GG13 := am HG13
        clear gb13 gl13 HG13
        obtain ⟨hx13_0, hf13_0⟩ := Kd.R_celln 0 HO_5.out (x6_2 : Int) p13 q13
        replace p13 := eq_true p13
        replace q13 := eq_true q13
        have HP14 := Kd.R_putg HO_5.out (x6_2 : Int) (wrap64 (Int.tdiv (wrap64 ((wrap64 (x4_2 * 65536)) + (rd x0_1 x6_2))) 10))
        go_wp2_with (first | ((with_reducible refine gate_store (t := 3) (p := 38) rfl ?_); refine store_event (t := 3) (p := 38) (v := ?vo_w15) (w1 := (wr.setCell ⟨go13, (x6_2 : Int).toNat, none⟩ (.int .i64 (wrap64 (Int.tdiv (wrap64 ((wrap64 (x4_2 * 65536)) + (rd x0_1 x6_2))) 10))))) ?hg ?ho ?hn ?hr ?_; (case ho => rfl); (case hg => rfl); (case hn => rfl); (case hr => exact zr); intro w15 hw; have hg : wr.grownBy w15 (some go13) := (by rw [hw]; exact HP14.2); have hp_ : Kd.R (Kd.int .i64) 3 w15 w.heap.size (fun k_ => (w.heap.size ≤ k_)) (.slice (some ⟨go13, 0, none⟩) x5_2.length co13) y1622 := (by rw [hw, Ny1622.out]; exact HP14.1); clear HP14; have n0_ := am (Kd.V_afterv (v := (.slice (some ⟨go13, 0, none⟩) x5_2.length co13)) (v1 := (.slice (some ⟨go13, 0, none⟩) x5_2.length co13)) (ok := (fun k_ => (P0_ k_ ∨ w.heap.size ≤ k_) ∧ some k_ ≠ (u3 : Value).ownBlock)) (by (with_reducible repeat (first | apply Kd.V_alloc | apply Kd.V_drewN | apply Kd.V_drew)); exact Kd.V_mono HO_0.out (fun _ hk => ⟨⟨hk.1, hk.2.1⟩, hk.2.2⟩)) hg (.inl rfl)); have n1_ := am (Kd.R_over' (v := (.slice (some ⟨go13, 0, none⟩) x5_2.length co13)) (zq4 HO_3.out) (Kd.R_typed HO_5.out) (by decide) hg); have n2_ := am (hp_); have n3_ := am ((by rw [hw]; exact below_set (HB.out) GB13.out : Below w.heap.size w w15)); clear HO_0 HO_3 HO_5 HB; have HO_0 := n0_; have HO_3 := n1_; have HO_5 := n2_; have HB := n3_; clear n0_ n1_ n2_ n3_; clear hg hw hp_))
        go_roundg k2
        case measure => have := HK1.out; have := HK2.out; omega
        case rel => exact ⟨(Int.tmod (wrap64 ((wrap64 (x4_2 * 65536)) + (rd x0_1 x6_2))) 10), (y1622), (wrap64 (x6_2 - 1)), zq8, zq8, H', ⟨by have := HK1.out; have := HK2.out; omega⟩, ⟨by (with_reducible repeat (first | apply Kd.V_alloc | apply Kd.V_drewN | apply Kd.V_drew)); exact Kd.V_mono HO_0.out (fun _ hk => ⟨hk.1.1, ⟨hk.1.2, hk.2⟩⟩)⟩, ⟨zq4 HO_3.out⟩, ⟨zq4 HO_5.out⟩, ⟨zq1⟩⟩
       ·rw [if_neg c9] at H
        have c9b0 : decide (0 ≤ x6_2) = false := decide_eq_false c9
        clear c9
        replace H := zn H
        obtain ⟨c16, H⟩ := H
        have LMc16 := am c16
        clear c16
        obtain ⟨y1623, hy1623⟩ : ∃ y_ : List Int, y_ = (x3_1 ++ [(wrap64 (48 + x4_2)) % 256]) := ⟨_, rfl⟩
        try rw [← hy1623] at H
        have Ny1623 := am hy1623
        clear hy1623
        replace H := zi H
        obtain ⟨t1626, A170, H⟩ := H
        have A17 := am A170
        clear A170
        have H' := am H
        clear H
        go_wp2_with (first | ((with_reducible refine gate_builtin (b := .append) (xs := #[.tmp 41, .tmp 45]) rfl ?_); at_builtin; refine Kd.R_append (Kd.int .u8) (w0 := w) w.heap.size rfl (.tmp 41) (.tmp 45) 105 5 (.int .u8 0) 1 rfl Tryd.underlying105 info5 rfl (by decide) (by omega) u3 x3_1 ((wrap64 (48 + x4_2)) % 256) [.int .u8 ((wrap64 (48 + x4_2)) % 256)] (fun k_ => (w.heap.size ≤ k_)) (fun _ => False) rfl rfl ?aP (fun _ hk => hk.elim) ?aF ?aO ?aB ?aS ?aL ?_; (case aP => exact rfl); (case aB => exact zq1); (case aF => exact (fun k_ hk => (Nat.le_trans (below_size zq1) hk))); (case aO => exact (zq4 HO_3.out)); (case aS => exact (below_size zq1)); (case aL => have := LMc16.out; omega); intro v1624 w18 ho hb hg hat; rw [← Ny1623.out] at ho; have n0_ := am (Kd.V_afterv (ok := (fun k_ => (P0_ k_ ∨ w.heap.size ≤ k_) ∧ some k_ ≠ (v1619 : Value).ownBlock)) (by (with_reducible repeat (first | apply Kd.V_alloc | apply Kd.V_drewN | apply Kd.V_drew)); exact Kd.V_mono HO_0.out (fun _ hk => ⟨⟨hk.1, hk.2.2⟩, hk.2.1⟩)) hg hat); have n1_ := am (Kd.R_over' (zq4 HO_5.out) (Kd.R_typed (zq4 HO_3.out)) (by decide) hg); have n2_ := am (hb); have n3_ := am (ho); clear HO_0 HO_5 HB HO_3; have HO_0 := n0_; have HO_5 := n1_; have HB := n2_; have HO1625 := n3_; clear n0_ n1_ n2_ n3_ ho hb hg hat; obtain ⟨Ao19, co19, eo19⟩ := Kd.R_slice HO_5.out; subst eo19) | ((with_reducible refine gate_callee (f := 96) rfl ?_); refine goesL_ (some 48) rfl rfl Tryd.func96 (by kernel_rfl) rfl #[.slice Ao19 x5_2.length co19] rfl zq5 ?_; (with_reducible refine (rf_trim.calls k2 (fun k_ => some k_ = (.slice Ao19 x5_2.length co19 : Value).ownBlock) _ _ x5_2 t1626 _ ?side1 A17.out).mono ?_); (case side1 => exact Kd.R_V (Kd.R_tight rfl (Kd.R_apart' (HO_5.out) (Kd.R_typed HO1625.out) (by decide)))); rintro e w20 ⟨v1627, rfl, ho0, hb⟩; refine ⟨_, rfl, ?_⟩; have n0_ := am (Kd.V_below (zq3 HO_0.out) hb); have n1_ := am (Kd.R_below (zq4 HO_5.out) hb); have n2_ := am (Kd.R_below (zq4 HO1625.out) hb); have n3_ := am (Kd.V_lower (Kd.V_mono (ok' := fun k_ => (P0_ k_ ∨ w.heap.size ≤ k_) ∧ some k_ ≠ (v1624 : Value).ownBlock) ho0 (fun k_ hk_ => ⟨Or.elim hk_ (fun hs_ => (.inr (((Kd.R_apart' (HO_5.out) (Kd.R_typed HO1625.out) (by decide)).1 k_ hs_.symm).1))) (fun hn_ => (.inr (Nat.le_trans (below_size zq1) hn_))), Or.elim hk_ (fun hs_ => ((Kd.R_apart' (HO_5.out) (Kd.R_typed HO1625.out) (by decide)).1 k_ hs_.symm).2) (fun hn_ => (Kd.fresh' (Kd.R_lt (zq4 HO1625.out)) k_ hn_))⟩)) (below_size zq1)); have n4_ := am (below_step zq1 hb); clear HO_0 HO_5 HO1625 HB; have HO_0 := n0_; have HO_5 := n1_; have HO1625 := n2_; have HO1628 := n3_; have HB := n4_; clear n0_ n1_ n2_ n3_ n4_))
        go_roundg k2
        case measure => have := HK1.out; have := HK2.out; omega
        case rel => exact ⟨(t1626), (y1623), H', ⟨by have := HK1.out; have := HK2.out; omega⟩, ⟨zq3 HO1628.out⟩, ⟨zq4 HO1625.out⟩, ⟨zq1⟩⟩
    ·rw [if_neg c3] at H
     have c3b0 : decide (0 < (x0_1.length : Int)) = false := decide_eq_false c3
     have c3b1 : decide (0 < x0_1.length) = false := decide_eq_false (by omega)
     clear c3
     replace H := zn H
     obtain ⟨c21, H⟩ := H
     have c21b0 := eq_true c21
     have c21b1 := decide_eq_true c21
     clear c21
     replace H := zn H
     obtain ⟨c22, H⟩ := H
     have c22b0 := eq_true c22
     have c22b1 := decide_eq_true c22
     clear c22
     obtain ⟨y1629, hy1629⟩ : ∃ y_ : List Int, y_ = (List.replicate ((x3_1.length : Int) : Int).toNat 0) := ⟨_, rfl⟩
     try rw [← hy1629] at H
     have Ny1629 := am hy1629
     clear hy1629
     have H' := am H
     clear H
     obtain ⟨Ao23, co23, eo23⟩ := Kd.V_slice HO_0.out
     subst eo23
     obtain ⟨Ao24, co24, eo24⟩ := Kd.R_slice HO_3.out
     subst eo24
     go_wp2_with (first | ((with_reducible refine gate_dst (N := 51) rfl ?_); refine Kd.R_make (Kd.int .u8) _ 5 rfl (N := 51) rfl 105 _ _ rfl (x3_1.length : Int) rfl rfl Tryd.underlying105 (.int .u8 0) 1 info5 rfl (by decide) (by omega) 0 (ok := fun _ => True) (okp := fun _ => True) rfl (fun _ hk => hk) trivial zq6 (Nat.le_trans (Nat.mul_le_mul_right _ (zq6 : (x3_1.length : Int).toNat ≤ 281474976710656)) (by omega)) (Below.refl _ _) (Nat.le_refl _) ?_; intro v1630 w25 ho26 hb hg_ hnew_; clear hg_ hnew_; (first | rw [← Ny1629.out] at ho26 | (simp only [Int.reduceToNat] at ho26; rw [← Ny1629.out] at ho26)); have n0_ := am (Kd.V_elder' (zq3 HO_0.out) (Kd.R_base ho26) hb); have n1_ := am (Kd.R_elder' (zq4 HO_3.out) (Kd.R_base ho26) hb); have n2_ := am (Kd.R_lower (Kd.R_new' (Kd.R_newM (M := fun k_ => (w.heap.size ≤ k_)) ho26 (below_size zq1) (fun k_ h_ => h_)) (Kd.R_lt (zq4 HO_3.out))) (below_size zq1)); have n3_ := am (below_step zq1 hb); clear HO_0 HO_3 HB; have HO_0 := n0_; have HO_3 := n1_; have HO1631 := n2_; have HB := n3_; clear n0_ n1_ n2_ n3_; clear hb ho26))
     go_loopg [54] k1 (fun kq v54 w' => ∃ (x8_2 : List Int) (x54_2 : Int), v54 = .int .i64 x54_2 ∧ Aside0 (rf_Decimal.l2 kq x3_1 x8_2 x3_1 (x3_1.length : Int) x54_2 = some r) ∧ Aside0 (kq ≤ k1) ∧ Aside0 (Kd.R (Kd.int .u8) 5 w' w.heap.size (fun k_ => (w.heap.size ≤ k_) ∧ some k_ ≠ (v1630 : Value).ownBlock) (.slice Ao24 x3_1.length co24) x3_1) ∧ Aside0 (Kd.R (Kd.int .u8) 5 w' w.heap.size (fun k_ => (w.heap.size ≤ k_) ∧ some k_ ≠ ((.slice Ao24 x3_1.length co24) : Value).ownBlock ∧ some k_ ≠ ((.slice Ao24 x3_1.length co24) : Value).ownBlock) v1630 x8_2) ∧ Aside0 (Kd.R (Kd.int .u8) 5 w' w.heap.size (fun k_ => (w.heap.size ≤ k_) ∧ some k_ ≠ (v1630 : Value).ownBlock) (.slice Ao24 x3_1.length co24) x3_1) ∧ Aside0 (Below w.heap.size w w'))
     case atStart => exact ⟨(y1629), (0), zq8, H', ⟨Nat.le_refl _⟩, ⟨zq4 HO_3.out⟩, ⟨by (with_reducible repeat (first | apply Kd.R_alloc | apply Kd.R_drewN | apply Kd.R_drew)); exact Kd.R_mono HO1631.out (fun _ hk => ⟨hk.1.1, ⟨hk.2, hk.2⟩⟩)⟩, ⟨zq4 HO_3.out⟩, ⟨zq1⟩⟩
     case round =>
      clear H'
      obtain ⟨x8_2, x54_2, rfl, HA, HK2, HO_3, HO_8, HO_52, HB⟩ := hrel
      cases gk with
      | zero => exact absurd HA.out (by simp [rf_Decimal.l2])
      | succ k2 =>
       have H := HA.out
       clear HA
       simp only [rf_Decimal.l2] at H
       by_cases c27 : x54_2 < (x3_1.length : Int)
       ·rw [if_pos c27] at H
        have c27b0 := decide_eq_true c27
        clear c27
        replace H := zn H
        obtain ⟨c28, H⟩ := H
        have c28b0 := decide_eq_true c28
        clear c28
        replace H := zn H
        obtain ⟨c29, H⟩ := H
        have c29b0 := decide_eq_true c29
        clear c29
        obtain ⟨ji30, hji30⟩ : ∃ j_ : Int, (wrap64 ((wrap64 ((x3_1.length : Int) - 1)) - x54_2)) = j_ := ⟨_, rfl⟩
        replace H : (if 0 ≤ (ji30) then (if (ji30) < (x8_2.length : Int) then (rf_Decimal.l2 k2 x3_1 (x8_2.set ((ji30) : Int).toNat (rd x3_1 x54_2)) x3_1 (x3_1.length : Int) (wrap64 (x54_2 + 1))) else (none)) else (none)) = some r := by first | (rw [hji30] at H; exact H) | (simp only [hji30] at H ⊢; exact H)
        have hji30w : (IntKind.i64.wrap ((wrap64 ((x3_1.length : Int) - 1)) - x54_2)) = ji30 := (i64_w _).trans hji30
        replace H := zn H
        obtain ⟨c31, H⟩ := H
        have c31b0 := decide_eq_true c31
        clear c31
        replace H := zn H
        obtain ⟨c32, H⟩ := H
        have c32b0 := decide_eq_true c32
        clear c32
        obtain ⟨y1633, hy1633⟩ : ∃ y_ : List Int, y_ = (x8_2.set ((ji30) : Int).toNat (rd x3_1 x54_2)) := ⟨_, rfl⟩
        try rw [← hy1633] at H
        have Ny1633 := am hy1633
        clear hy1633
        have H' := am H
        clear H
        have p1632 : 0 ≤ (x54_2 : Int) := zq6
        have q1632 : x54_2 < (x3_1.length : Int) := zq6
        obtain ⟨ad1632, e1632, hx1632_0⟩ := Kd.at_int (Kd.R_reads' HO_52.out).2.2 x54_2 p1632 q1632
        cases e1632
        replace p1632 := eq_true p1632
        replace q1632 := eq_true q1632
        have p33 : 0 ≤ ((ji30) : Int) := zq6
        have q33 : ((ji30) : Int) < ((x8_2.length : Int) : Int) := zq6
        obtain ⟨go33, co33, eo33, gb33, gl33, cl33, HG33⟩ := Kd.R_form HO_8.out (by omega)
        (first | cases eo33 | (injection eo33 with ea_ en_ ec_; (first | subst ea_ | (injection ea_ with ea_; subst ea_)); subst ec_; clear en_))
        have GB33 := am gb33
        have GG33 := am HG33
        clear gb33 gl33 HG33
        obtain ⟨hx33_0, hf33_0⟩ := Kd.R_celln 0 HO_8.out ((ji30) : Int) p33 q33
        replace p33 := eq_true p33
        replace q33 := eq_true q33
        have HP34 := Kd.R_putg HO_8.out ((ji30) : Int) (rd x3_1 x54_2)
        go_wp2_with (first | ((with_reducible refine gate_store (t := 5) (p := 66) rfl ?_); refine store_event (t := 5) (p := 66) (v := ?vo_w35) (w1 := (wr.setCell ⟨go33, ((ji30) : Int).toNat, none⟩ (.int .u8 (rd x3_1 x54_2)))) ?hg ?ho ?hn ?hr ?_; (case ho => rfl); (case hg => rfl); (case hn => rfl); (case hr => exact zr); intro w35 hw; have hg : wr.grownBy w35 (some go33) := (by rw [hw]; exact HP34.2); have hp_ : Kd.R (Kd.int .u8) 5 w35 w.heap.size (fun k_ => (w.heap.size ≤ k_) ∧ some k_ ≠ (.slice (some ad1632) x3_1.length co24 : Value).ownBlock ∧ some k_ ≠ (.slice (some ad1632) x3_1.length co24 : Value).ownBlock) (.slice (some ⟨go33, 0, none⟩) x8_2.length co33) y1633 := (by rw [hw, Ny1633.out]; exact HP34.1); clear HP34; have n0_ := am (Kd.R_after (v := (.slice (some ⟨go33, 0, none⟩) x8_2.length co33)) (v1 := (.slice (some ⟨go33, 0, none⟩) x8_2.length co33)) (ok := (fun k_ => (w.heap.size ≤ k_))) (zq4 HO_3.out) hg (.inl rfl)); have n1_ := am (hp_); have n2_ := am (Kd.R_after (v := (.slice (some ⟨go33, 0, none⟩) x8_2.length co33)) (v1 := (.slice (some ⟨go33, 0, none⟩) x8_2.length co33)) (ok := (fun k_ => (w.heap.size ≤ k_))) (zq4 HO_52.out) hg (.inl rfl)); have n3_ := am ((by rw [hw]; exact below_set (HB.out) GB33.out : Below w.heap.size w w35)); clear HO_3 HO_8 HO_52 HB; have HO_3 := n0_; have HO_8 := n1_; have HO_52 := n2_; have HB := n3_; clear n0_ n1_ n2_ n3_; clear hg hw hp_))
        go_roundg k2
        case measure => have := HK1.out; have := HK2.out; omega
        case rel => exact ⟨(y1633), (wrap64 (x54_2 + 1)), zq8, (by first | exact H' | (rw [hji30]; exact H')), ⟨by have := HK1.out; have := HK2.out; omega⟩, ⟨zq4 HO_3.out⟩, ⟨zq4 HO_8.out⟩, ⟨zq4 HO_52.out⟩, ⟨zq1⟩⟩
       ·rw [if_neg c27] at H
        have c27b0 := decide_eq_false c27
        clear c27
        obtain rfl := Option.some.inj H
        have hcv36 := own_string (P := Tryd.prog) Tryd.underlying105 Tryd.underlying5 Tryd.underlying9 (Kd.own_of_R HO_8.out)
        go_wp2
        go_ret
        exact ⟨zq9, zq1⟩
def rf_Text.j0 : Nat → ByteArray → Bool → List Int → List Int → Option (ByteArray)
 | 0, _, _, _, _ => none
 | k + 1, x3, x1635000, x1635001, x1635002 => (rf_IsInt.f k x1635000 x1635001 x1635002).bind fun t1636 => (if t1636 = true then (some x3) else ((rf_Decimal.f k x1635002).bind fun t1637 => (if 1 + t1637.size ≤ 9223372036854775807 then (if x3.size + ((⟨#[114]⟩ : ByteArray) ++ t1637).size ≤ 9223372036854775807 then (some (x3 ++ ((⟨#[114]⟩ : ByteArray) ++ t1637))) else (none)) else (none))))
def rf_Text.f (k : Nat) (a0_0 : Bool) (l0_1 : List Int) (l0_2 : List Int) : Option (ByteArray) := (rf_Decimal.f k l0_1).bind fun t1635 => (if a0_0 = true then (if 1 + t1635.size ≤ 9223372036854775807 then (rf_Text.j0 k ((⟨#[45]⟩ : ByteArray) ++ t1635) a0_0 l0_1 l0_2) else (none)) else (rf_Text.j0 k t1635 a0_0 l0_1 l0_2))
theorem rf_Text.mono_l : ∀ k, (∀ y0 y1 y2 y3, LeO (rf_Text.j0 k y0 y1 y2 y3) (rf_Text.j0 (k + 1) y0 y1 y2 y3))
 | 0 => fun _ _ _ _ r h => by simp [rf_Text.j0] at h
 | k + 1 => by
  have ih0 := rf_Text.mono_l k
  ·intro y0 y1 y2 y3
   unfold rf_Text.j0
   have m0 := ih0
   have m1 := @rf_Decimal.mono
   have m2 := @rf_IsInt.mono
   exact zm
theorem rf_Text.mono : ∀ a0 a1 a2 k, LeO (rf_Text.f k a0 a1 a2) (rf_Text.f (k + 1) a0 a1 a2) := by
 intro a0 a1 a2 k
 have ih0 := rf_Text.mono_l k
 unfold rf_Text.f
 have m0 := ih0
 have m1 := @rf_Decimal.mono
 have m2 := @rf_IsInt.mono
 exact zm
set_option maxHeartbeats 8000000 in
set_option maxRecDepth 100000 in
theorem rf_Text.calls (k : Nat) (a0_0 : Bool) (A0_1 : Option Addr) (c0_1 : Nat) (l0_1 : List Int) (A0_2 : Option Addr) (c0_2 : Nat) (l0_2 : List Int) (r : ByteArray) (w : World) (hr0_1 : Kd.C (Kd.int .i64) w A0_1 l0_1.length l0_1) (hc0_1 : l0_1.length ≤ c0_1) (hr0_2 : Kd.C (Kd.int .i64) w A0_2 l0_2.length l0_2) (hc0_2 : l0_2.length ≤ c0_2) (h : rf_Text.f k a0_0 l0_1 l0_2 = some r) :
  Calls Tryd.prog 49 #[.agg #[.bool a0_0, .slice A0_1 l0_1.length c0_1, .slice A0_2 l0_2.length c0_2]] w fun e w' => e = .returned (.string r) ∧ Below w.heap.size w w' := by
 have hu41 := Tryd.underlying41
 have HR0_1 := am hr0_1
 have HC0_1 := am hc0_1
 clear hr0_1 hc0_1
 have HR0_2 := am hr0_2
 have HC0_2 := am hc0_2
 clear hr0_2 hc0_2
 have HB := am (Below.refl w.heap.size w)
 have H := h
 unfold rf_Text.f at H
 clear h
 replace H := zi H
 obtain ⟨t1635, A20, H⟩ := H
 have A2 := am A20
 clear A20
 have HC3 := am H
 clear H
 go_enter Tryd.func49, Tryd.ntmps49
 go_upto_if 8 with (first | ((with_reducible refine gate_dst (N := 1) rfl ?_); refine box_event ?hg (N := 1) ?hd (cs := #[.bool a0_0, .slice A0_1 l0_1.length c0_1, .slice A0_2 l0_2.length c0_2]) (t := 41) ?hr ?_; (case hd => rfl); (case hg => rfl); (case hr => exact zr); intro gb1634 hg w4 hbox hb; have n0_ := am (below_step zq1 hb); have n1_ := am (hbox); have n2_ := am ((by rw [hg]; exact (below_size zq1) : w.heap.size ≤ gb1634)); have n3_ := am ((by rw [hg]; exact (below_size zq1) : w.heap.size ≤ gb1634)); clear HB; have HB := n0_; have BK1634 := n1_; have GW1634 := n2_; have GE1634 := n3_; clear n0_ n1_ n2_ n3_ hb hbox hg; have hcz5_0 : w4.cell? ⟨gb1634, 0, none⟩ = some (.bool a0_0) := (blk_cell BK1634.out 0).trans rfl; have hcz5_1 : w4.cell? ⟨gb1634, 1, none⟩ = some (.slice A0_1 l0_1.length c0_1) := (blk_cell BK1634.out 1).trans rfl; have hcz5_2 : w4.cell? ⟨gb1634, 2, none⟩ = some (.slice A0_2 l0_2.length c0_2) := (blk_cell BK1634.out 2).trans rfl; have hfz5_0 := blk_frozen BK1634.out 0; have hfz5_1 := blk_frozen BK1634.out 1; have hfz5_2 := blk_frozen BK1634.out 2) | ((with_reducible refine gate_callee (f := 101) rfl ?_); refine goesL_ (some 6) rfl rfl Tryd.func101 (by kernel_rfl) rfl #[.slice A0_1 l0_1.length c0_1] rfl zq5 ?_; (with_reducible refine (rf_Decimal.calls k (fun k_ => k_ < w.heap.size) _ _ l0_1 t1635 _ ?side1 A2.out).mono ?_); (case side1 => exact Kd.V_mk HC0_1.out (Kd.F_below (Kd.C_F (Kd.heap_int .i64) HR0_1.out) (zb1 GE1634.out))); rintro e w6 ⟨rfl, hb⟩; refine ⟨_, rfl, ?_⟩; have n0_ := am (blk_below (g := gb1634) (o := .cells #[.bool a0_0, .slice A0_1 l0_1.length c0_1, .slice A0_2 l0_2.length c0_2] 41 (0, 0)) (zq2 BK1634.out) hb); have n1_ := am (below_step (zb1 GE1634.out) hb); clear BK1634 HB; have BK1634 := n0_; have HB := n1_; clear n0_ n1_; (try clear hb); (try clear hb2); (try clear hk); (try clear hi); have hcz7_0 : w6.cell? ⟨gb1634, 0, none⟩ = some (.bool a0_0) := (blk_cell BK1634.out 0).trans rfl; have hcz7_1 : w6.cell? ⟨gb1634, 1, none⟩ = some (.slice A0_1 l0_1.length c0_1) := (blk_cell BK1634.out 1).trans rfl; have hcz7_2 : w6.cell? ⟨gb1634, 2, none⟩ = some (.slice A0_2 l0_2.length c0_2) := (blk_cell BK1634.out 2).trans rfl; have hfz7_0 := blk_frozen BK1634.out 0; have hfz7_1 := blk_frozen BK1634.out 1; have hfz7_2 := blk_frozen BK1634.out 2))
 (try simp only [Act.put, List.setIfInBounds_toArray, List.set_cons_zero, List.set_cons_succ])
 go_cut [3] (fun v3 wc => ∃ (kq : Nat) (x3_2 : ByteArray), v3 = .string x3_2 ∧ Aside0 (rf_Text.j0 kq x3_2 a0_0 l0_1 l0_2 = some r) ∧ Aside0 (kq ≤ k) ∧ Aside0 (wc.heap[gb1634]? = some (.cells #[.bool a0_0, (.slice A0_1 l0_1.length c0_1), (.slice A0_2 l0_2.length c0_2)] 41 (0, 0))) ∧ Aside0 (Below w.heap.size w wc))
 case first =>
  have H := HC3.out
  clear HC3
  by_cases c8 : a0_0 = true
  ·subst c8
   have H1 : (if 1 + t1635.size ≤ 9223372036854775807 then (rf_Text.j0 k ((⟨#[45]⟩ : ByteArray) ++ t1635) true l0_1 l0_2) else (none)) = some r := by rw [if_pos rfl] at H; exact H
   clear H
   have H := H1
   clear H1
   replace H := zn H
   obtain ⟨c9, H⟩ := H
   have c9b0 := eq_true c9
   have c9b1 := decide_eq_true c9
   try have c9b2 : (9223372036854775807 < 1 + t1635.size) = False := eq_false (Nat.not_lt.2 c9)
   have H' := am H
   clear H
   go_wp2
   go_meet
   case rel => exact ⟨_, ((⟨#[45]⟩ : ByteArray) ++ t1635), zq8, H', ⟨by first | omega | exact Nat.le_refl _⟩, ⟨zq2 BK1634.out⟩, ⟨zb1 GE1634.out⟩⟩
  ·replace c8 := Bool.eq_false_iff.mpr c8
   subst c8
   have H1 : (rf_Text.j0 k t1635 false l0_1 l0_2) = some r := by rw [if_neg (show ¬ (false = true) by decide)] at H; exact H
   clear H
   have H := H1
   clear H1
   have H' := am H
   clear H
   go_wp2
   go_meet
   case rel => exact ⟨_, (t1635), zq8, H', ⟨by first | omega | exact Nat.le_refl _⟩, ⟨zq2 BK1634.out⟩, ⟨zb1 GE1634.out⟩⟩
 case rest =>
  clear HC3
  obtain ⟨kq, x3_2, rfl, HA, HJ2, BK1634, HB⟩ := hcut
  cases kq with
  | zero => exact absurd HA.out (by simp [rf_Text.j0])
  | succ kj2 =>
   have H := HA.out
   clear HA
   simp only [rf_Text.j0] at H
   replace H := zi H
   obtain ⟨t1636, A100, H⟩ := H
   have A10 := am A100
   clear A100
   by_cases c11 : t1636 = true
   ·subst c11
    have H1 : (some x3_2) = some r := by rw [if_pos rfl] at H; exact H
    clear H
    have H := H1
    clear H1
    obtain rfl := Option.some.inj H
    have hcz12_0 : wc.cell? ⟨gb1634, 0, none⟩ = some (.bool a0_0) := (blk_cell BK1634.out 0).trans rfl
    have hcz12_1 : wc.cell? ⟨gb1634, 1, none⟩ = some (.slice A0_1 l0_1.length c0_1) := (blk_cell BK1634.out 1).trans rfl
    have hcz12_2 : wc.cell? ⟨gb1634, 2, none⟩ = some (.slice A0_2 l0_2.length c0_2) := (blk_cell BK1634.out 2).trans rfl
    have hfz12_0 := blk_frozen BK1634.out 0
    have hfz12_1 := blk_frozen BK1634.out 1
    have hfz12_2 := blk_frozen BK1634.out 2
    go_wp2_with (first | ((with_reducible refine gate_callee (f := 66) rfl ?_); refine goesL_ (some 12) rfl rfl Tryd.func66 (by kernel_rfl) rfl #[.agg #[.bool a0_0, .slice A0_1 l0_1.length c0_1, .slice A0_2 l0_2.length c0_2]] rfl zq5 ?_; (with_reducible refine (rf_IsInt.calls kj2 a0_0 _ _ l0_1 _ _ l0_2 true _ ?side1 ?side2 ?side3 ?side4 A10.out).mono ?_); (case side1 => exact zc (Kd.C_below HR0_1.out HB.out)); (case side2 => exact HC0_1.out); (case side3 => exact zc (Kd.C_below HR0_2.out HB.out)); (case side4 => exact HC0_2.out); rintro e w13 ⟨rfl, hb⟩; refine ⟨_, rfl, ?_⟩; have n0_ := am (blk_below (g := gb1634) (o := .cells #[.bool a0_0, .slice A0_1 l0_1.length c0_1, .slice A0_2 l0_2.length c0_2] 41 (0, 0)) (zq2 BK1634.out) hb); have n1_ := am (below_step (zb1 GE1634.out) hb); clear BK1634 HB; have BK1634 := n0_; have HB := n1_; clear n0_ n1_; (try clear hb); (try clear hb2); (try clear hk); (try clear hi)))
    go_ret
    exact ⟨zq9, zb1 GE1634.out⟩
   ·replace c11 := Bool.eq_false_iff.mpr c11
    subst c11
    have H1 : ((rf_Decimal.f kj2 l0_2).bind fun t1637 => (if 1 + t1637.size ≤ 9223372036854775807 then (if x3_2.size + ((⟨#[114]⟩ : ByteArray) ++ t1637).size ≤ 9223372036854775807 then (some (x3_2 ++ ((⟨#[114]⟩ : ByteArray) ++ t1637))) else (none)) else (none))) = some r := by rw [if_neg (show ¬ (false = true) by decide)] at H; exact H
    clear H
    have H := H1
    clear H1
    replace H := zi H
    obtain ⟨t1637, A140, H⟩ := H
    have A14 := am A140
    clear A140
    replace H := zn H
    obtain ⟨c15, H⟩ := H
    have c15b0 := eq_true c15
    have c15b1 := decide_eq_true c15
    try have c15b2 : (9223372036854775807 < 1 + t1637.size) = False := eq_false (Nat.not_lt.2 c15)
    replace H := zn H
    obtain ⟨c16, H⟩ := H
    have c16b0 := eq_true c16
    have c16b1 := decide_eq_true c16
    try have c16b2 : (9223372036854775807 < x3_2.size + ((⟨#[114]⟩ : ByteArray) ++ t1637).size) = False := eq_false (Nat.not_lt.2 c16)
    obtain rfl := Option.some.inj H
    have hcz17_0 : wc.cell? ⟨gb1634, 0, none⟩ = some (.bool a0_0) := (blk_cell BK1634.out 0).trans rfl
    have hcz17_1 : wc.cell? ⟨gb1634, 1, none⟩ = some (.slice A0_1 l0_1.length c0_1) := (blk_cell BK1634.out 1).trans rfl
    have hcz17_2 : wc.cell? ⟨gb1634, 2, none⟩ = some (.slice A0_2 l0_2.length c0_2) := (blk_cell BK1634.out 2).trans rfl
    have hfz17_0 := blk_frozen BK1634.out 0
    have hfz17_1 := blk_frozen BK1634.out 1
    have hfz17_2 := blk_frozen BK1634.out 2
    go_wp2_with (first | ((with_reducible refine gate_callee (f := 66) rfl ?_); refine goesL_ (some 12) rfl rfl Tryd.func66 (by kernel_rfl) rfl #[.agg #[.bool a0_0, .slice A0_1 l0_1.length c0_1, .slice A0_2 l0_2.length c0_2]] rfl zq5 ?_; (with_reducible refine (rf_IsInt.calls kj2 a0_0 _ _ l0_1 _ _ l0_2 false _ ?side1 ?side2 ?side3 ?side4 A10.out).mono ?_); (case side1 => exact zc (Kd.C_below HR0_1.out HB.out)); (case side2 => exact HC0_1.out); (case side3 => exact zc (Kd.C_below HR0_2.out HB.out)); (case side4 => exact HC0_2.out); rintro e w18 ⟨rfl, hb⟩; refine ⟨_, rfl, ?_⟩; have n0_ := am (blk_below (g := gb1634) (o := .cells #[.bool a0_0, .slice A0_1 l0_1.length c0_1, .slice A0_2 l0_2.length c0_2] 41 (0, 0)) (zq2 BK1634.out) hb); have n1_ := am (below_step (zb1 GE1634.out) hb); clear BK1634 HB; have BK1634 := n0_; have HB := n1_; clear n0_ n1_; (try clear hb); (try clear hb2); (try clear hk); (try clear hi); have hcz19_0 : w18.cell? ⟨gb1634, 0, none⟩ = some (.bool a0_0) := (blk_cell BK1634.out 0).trans rfl; have hcz19_1 : w18.cell? ⟨gb1634, 1, none⟩ = some (.slice A0_1 l0_1.length c0_1) := (blk_cell BK1634.out 1).trans rfl; have hcz19_2 : w18.cell? ⟨gb1634, 2, none⟩ = some (.slice A0_2 l0_2.length c0_2) := (blk_cell BK1634.out 2).trans rfl; have hfz19_0 := blk_frozen BK1634.out 0; have hfz19_1 := blk_frozen BK1634.out 1; have hfz19_2 := blk_frozen BK1634.out 2) | ((with_reducible refine gate_callee (f := 101) rfl ?_); refine goesL_ (some 17) rfl rfl Tryd.func101 (by kernel_rfl) rfl #[.slice A0_2 l0_2.length c0_2] rfl zq5 ?_; (with_reducible refine (rf_Decimal.calls kj2 (fun k_ => k_ < w.heap.size) _ _ l0_2 t1637 _ ?side1 A14.out).mono ?_); (case side1 => exact Kd.V_mk HC0_2.out (Kd.F_below (Kd.C_F (Kd.heap_int .i64) HR0_2.out) (zb1 GE1634.out))); rintro e w20 ⟨rfl, hb⟩; refine ⟨_, rfl, ?_⟩; have n0_ := am (blk_below (g := gb1634) (o := .cells #[.bool a0_0, .slice A0_1 l0_1.length c0_1, .slice A0_2 l0_2.length c0_2] 41 (0, 0)) (zq2 BK1634.out) hb); have n1_ := am (below_step (zb1 GE1634.out) hb); clear BK1634 HB; have BK1634 := n0_; have HB := n1_; clear n0_ n1_; (try clear hb); (try clear hb2); (try clear hk); (try clear hi)))
    go_ret
    exact ⟨zq9, zb1 GE1634.out⟩
def rf_Format.f (k : Nat) (a0_0 : Bool) (l0_1 : List Int) (l0_2 : List Int) : Option (ByteArray × Int) := (rf_Fault.f k a0_0 l0_1 l0_2).bind fun t1639 => (if t1639 = 0 then ((rf_Of.f k a0_0 l0_1 l0_2).bind fun bt1640 => ((rf_Text.f k bt1640.1 bt1640.2.1 bt1640.2.2).bind fun t1647 => (some (t1647, 0)))) else (some ((⟨#[]⟩ : ByteArray), t1639)))
theorem rf_Format.mono : ∀ a0 a1 a2 k, LeO (rf_Format.f k a0 a1 a2) (rf_Format.f (k + 1) a0 a1 a2) := by
 intro a0 a1 a2 k
 unfold rf_Format.f
 have m0 := @rf_Fault.mono
 have m1 := @rf_Of.mono
 have m2 := @rf_Text.mono
 exact zm
set_option maxHeartbeats 8000000 in
set_option maxRecDepth 100000 in
theorem rf_Format.calls (k : Nat) (a0_0 : Bool) (A0_1 : Option Addr) (c0_1 : Nat) (l0_1 : List Int) (A0_2 : Option Addr) (c0_2 : Nat) (l0_2 : List Int) (r1 : ByteArray) (r2 : Int) (w : World) (hr0_1 : Kd.C (Kd.int .u32) w A0_1 l0_1.length l0_1) (hc0_1 : l0_1.length ≤ c0_1) (hr0_2 : Kd.C (Kd.int .u32) w A0_2 l0_2.length l0_2) (hc0_2 : l0_2.length ≤ c0_2) (h : rf_Format.f k a0_0 l0_1 l0_2 = some (r1, r2)) :
  Calls Tryd.prog 18 #[.agg #[.bool a0_0, .slice A0_1 l0_1.length c0_1, .slice A0_2 l0_2.length c0_2]] w fun e w' => e = .returned (.tuple #[.string r1, .int .i64 r2]) ∧ Below w.heap.size w w' := by
 have hu24 := Tryd.underlying24
 have HR0_1 := am hr0_1
 have HC0_1 := am hc0_1
 clear hr0_1 hc0_1
 have HR0_2 := am hr0_2
 have HC0_2 := am hc0_2
 clear hr0_2 hc0_2
 have HB := am (Below.refl w.heap.size w)
 have H := h
 unfold rf_Format.f at H
 clear h
 replace H := zi H
 obtain ⟨t1639, A20, H⟩ := H
 have A2 := am A20
 clear A20
 by_cases c3 : t1639 = 0
 ·rw [if_pos c3] at H
  have c3b0 : (t1639 == 0) = true := beq_iff_eq.mpr c3
  have c3b1 : (t1639 != 0) = false := bne_eq_false_iff_eq.mpr c3
  clear c3
  replace H := zi H
  obtain ⟨⟨t1640, t1641, t1644⟩, A40, H⟩ := H
  try dsimp only at H
  have A4 := am A40
  clear A40
  replace H := zi H
  obtain ⟨t1647, A50, H⟩ := H
  have A5 := am A50
  clear A50
  simp only [Option.some.injEq, Prod.mk.injEq] at H
  obtain ⟨rfl, rfl⟩ := H
  go_enter Tryd.func18, Tryd.ntmps18
  go_wp2_with (first | ((with_reducible refine gate_dst (N := 1) rfl ?_); refine box_event ?hg (N := 1) ?hd (cs := #[.bool a0_0, .slice A0_1 l0_1.length c0_1, .slice A0_2 l0_2.length c0_2]) (t := 24) ?hr ?_; (case hd => rfl); (case hg => rfl); (case hr => exact zr); intro gb1638 hg w6 hbox hb; have n0_ := am (below_step zq1 hb); have n1_ := am (hbox); have n2_ := am ((by rw [hg]; exact (below_size zq1) : w.heap.size ≤ gb1638)); have n3_ := am ((by rw [hg]; exact (below_size zq1) : w.heap.size ≤ gb1638)); clear HB; have HB := n0_; have BK1638 := n1_; have GW1638 := n2_; have GE1638 := n3_; clear n0_ n1_ n2_ n3_ hb hbox hg; have hcz7_0 : w6.cell? ⟨gb1638, 0, none⟩ = some (.bool a0_0) := (blk_cell BK1638.out 0).trans rfl; have hcz7_1 : w6.cell? ⟨gb1638, 1, none⟩ = some (.slice A0_1 l0_1.length c0_1) := (blk_cell BK1638.out 1).trans rfl; have hcz7_2 : w6.cell? ⟨gb1638, 2, none⟩ = some (.slice A0_2 l0_2.length c0_2) := (blk_cell BK1638.out 2).trans rfl; have hfz7_0 := blk_frozen BK1638.out 0; have hfz7_1 := blk_frozen BK1638.out 1; have hfz7_2 := blk_frozen BK1638.out 2) | ((with_reducible refine gate_callee (f := 15) rfl ?_); refine goesL_ (some 6) rfl rfl Tryd.func15 (by kernel_rfl) rfl #[.agg #[.bool a0_0, .slice A0_1 l0_1.length c0_1, .slice A0_2 l0_2.length c0_2]] rfl zq5 ?_; (with_reducible refine (rf_Fault.calls k a0_0 _ _ l0_1 _ _ l0_2 t1639 _ ?side1 ?side2 ?side3 ?side4 A2.out).mono ?_); (case side1 => exact zc (Kd.C_below HR0_1.out HB.out)); (case side2 => exact HC0_1.out); (case side3 => exact zc (Kd.C_below HR0_2.out HB.out)); (case side4 => exact HC0_2.out); rintro e w8 ⟨rfl, hb⟩; refine ⟨_, rfl, ?_⟩; have n0_ := am (blk_below (g := gb1638) (o := .cells #[.bool a0_0, .slice A0_1 l0_1.length c0_1, .slice A0_2 l0_2.length c0_2] 24 (0, 0)) (zq2 BK1638.out) hb); have n1_ := am (below_step (zb1 GE1638.out) hb); clear BK1638 HB; have BK1638 := n0_; have HB := n1_; clear n0_ n1_; (try clear hb); (try clear hb2); (try clear hk); (try clear hi); have hcz9_0 : w8.cell? ⟨gb1638, 0, none⟩ = some (.bool a0_0) := (blk_cell BK1638.out 0).trans rfl; have hcz9_1 : w8.cell? ⟨gb1638, 1, none⟩ = some (.slice A0_1 l0_1.length c0_1) := (blk_cell BK1638.out 1).trans rfl; have hcz9_2 : w8.cell? ⟨gb1638, 2, none⟩ = some (.slice A0_2 l0_2.length c0_2) := (blk_cell BK1638.out 2).trans rfl; have hfz9_0 := blk_frozen BK1638.out 0; have hfz9_1 := blk_frozen BK1638.out 1; have hfz9_2 := blk_frozen BK1638.out 2) | ((with_reducible refine gate_callee (f := 24) rfl ?_); refine goesL_ (some 11) rfl rfl Tryd.func24 (by kernel_rfl) rfl #[.agg #[.bool a0_0, .slice A0_1 l0_1.length c0_1, .slice A0_2 l0_2.length c0_2]] rfl zq5 ?_; (with_reducible refine (rf_Of.calls k a0_0 _ _ l0_1 _ _ l0_2 t1640 t1641 t1644 _ ?side1 ?side2 ?side3 ?side4 A4.out).mono ?_); (case side1 => exact zc (Kd.C_below HR0_1.out HB.out)); (case side2 => exact HC0_1.out); (case side3 => exact zc (Kd.C_below HR0_2.out HB.out)); (case side4 => exact HC0_2.out); rintro e w10 ⟨v1642, v1645, rfl, ho0, ho1, hb⟩; refine ⟨_, rfl, ?_⟩; have n0_ := am (Kd.V_lower (Kd.V_mono (ok' := fun k_ => k_ ≠ gb1638) ho0 (fun k_ hk_ => (Kd.freshB (g := gb1638) (o := .cells #[.bool a0_0, .slice A0_1 l0_1.length c0_1, .slice A0_2 l0_2.length c0_2] 24 (0, 0)) (zq2 BK1638.out) k_ hk_))) (below_size (zb1 GE1638.out))); have n1_ := am (Kd.V_lower (Kd.V_mono (ok' := fun k_ => k_ ≠ gb1638) ho1 (fun k_ hk_ => (Kd.freshB (g := gb1638) (o := .cells #[.bool a0_0, .slice A0_1 l0_1.length c0_1, .slice A0_2 l0_2.length c0_2] 24 (0, 0)) (zq2 BK1638.out) k_ hk_))) (below_size (zb1 GE1638.out))); have n2_ := am (blk_below (g := gb1638) (o := .cells #[.bool a0_0, .slice A0_1 l0_1.length c0_1, .slice A0_2 l0_2.length c0_2] 24 (0, 0)) (zq2 BK1638.out) hb); have n3_ := am (below_step (zb1 GE1638.out) hb); clear BK1638 HB; have HO1643 := n0_; have HO1646 := n1_; have BK1638 := n2_; have HB := n3_; clear n0_ n1_ n2_ n3_; (try clear ho1); obtain ⟨Ao11, co11, eo11⟩ := Kd.V_slice HO1643.out; subst eo11; obtain ⟨Ao12, co12, eo12⟩ := Kd.V_slice HO1646.out; subst eo12) | ((with_reducible refine gate_callee (f := 49) rfl ?_); refine goesL_ (some 12) rfl rfl Tryd.func49 (by kernel_rfl) rfl #[.agg #[.bool t1640, .slice Ao11 t1641.length co11, .slice Ao12 t1644.length co12]] rfl zq5 ?_; (with_reducible refine (rf_Text.calls k t1640 _ _ t1641 _ _ t1644 t1647 _ ?side1 ?side2 ?side3 ?side4 A5.out).mono ?_); (case side1 => exact zc ((Kd.V_reads' HO1643.out).2.2)); (case side2 => exact (Kd.V_reads' HO1643.out).2.1); (case side3 => exact zc ((Kd.V_reads' HO1646.out).2.2)); (case side4 => exact (Kd.V_reads' HO1646.out).2.1); rintro e w13 ⟨rfl, hb⟩; refine ⟨_, rfl, ?_⟩; have n0_ := am (Kd.V_below (zq3 HO1643.out) hb); have n1_ := am (Kd.V_below (zq3 HO1646.out) hb); have n2_ := am (blk_below (g := gb1638) (o := .cells #[.bool a0_0, .slice A0_1 l0_1.length c0_1, .slice A0_2 l0_2.length c0_2] 24 (0, 0)) (zq2 BK1638.out) hb); have n3_ := am (below_step (zb1 GE1638.out) hb); clear HO1643 HO1646 BK1638 HB; have HO1643 := n0_; have HO1646 := n1_; have BK1638 := n2_; have HB := n3_; clear n0_ n1_ n2_ n3_; (try clear hb); (try clear hb2); (try clear hk); (try clear hi)))
  go_ret2
  exact ⟨zq9, zb1 GE1638.out⟩
 ·rw [if_neg c3] at H
  have c3b0 : (t1639 == 0) = false := beq_eq_false_iff_ne.mpr c3
  have c3b1 : (t1639 != 0) = true := bne_iff_ne.mpr c3
  simp only [Option.some.injEq, Prod.mk.injEq] at H
  obtain ⟨rfl, rfl⟩ := H
  go_enter Tryd.func18, Tryd.ntmps18
  go_wp2_with (first | ((with_reducible refine gate_dst (N := 1) rfl ?_); refine box_event ?hg (N := 1) ?hd (cs := #[.bool a0_0, .slice A0_1 l0_1.length c0_1, .slice A0_2 l0_2.length c0_2]) (t := 24) ?hr ?_; (case hd => rfl); (case hg => rfl); (case hr => exact zr); intro gb1638 hg w14 hbox hb; have n0_ := am (below_step zq1 hb); have n1_ := am (hbox); have n2_ := am ((by rw [hg]; exact (below_size zq1) : w.heap.size ≤ gb1638)); have n3_ := am ((by rw [hg]; exact (below_size zq1) : w.heap.size ≤ gb1638)); clear HB; have HB := n0_; have BK1638 := n1_; have GW1638 := n2_; have GE1638 := n3_; clear n0_ n1_ n2_ n3_ hb hbox hg; have hcz15_0 : w14.cell? ⟨gb1638, 0, none⟩ = some (.bool a0_0) := (blk_cell BK1638.out 0).trans rfl; have hcz15_1 : w14.cell? ⟨gb1638, 1, none⟩ = some (.slice A0_1 l0_1.length c0_1) := (blk_cell BK1638.out 1).trans rfl; have hcz15_2 : w14.cell? ⟨gb1638, 2, none⟩ = some (.slice A0_2 l0_2.length c0_2) := (blk_cell BK1638.out 2).trans rfl; have hfz15_0 := blk_frozen BK1638.out 0; have hfz15_1 := blk_frozen BK1638.out 1; have hfz15_2 := blk_frozen BK1638.out 2) | ((with_reducible refine gate_callee (f := 15) rfl ?_); refine goesL_ (some 6) rfl rfl Tryd.func15 (by kernel_rfl) rfl #[.agg #[.bool a0_0, .slice A0_1 l0_1.length c0_1, .slice A0_2 l0_2.length c0_2]] rfl zq5 ?_; (with_reducible refine (rf_Fault.calls k a0_0 _ _ l0_1 _ _ l0_2 t1639 _ ?side1 ?side2 ?side3 ?side4 A2.out).mono ?_); (case side1 => exact zc (Kd.C_below HR0_1.out HB.out)); (case side2 => exact HC0_1.out); (case side3 => exact zc (Kd.C_below HR0_2.out HB.out)); (case side4 => exact HC0_2.out); rintro e w16 ⟨rfl, hb⟩; refine ⟨_, rfl, ?_⟩; have n0_ := am (blk_below (g := gb1638) (o := .cells #[.bool a0_0, .slice A0_1 l0_1.length c0_1, .slice A0_2 l0_2.length c0_2] 24 (0, 0)) (zq2 BK1638.out) hb); have n1_ := am (below_step (zb1 GE1638.out) hb); clear BK1638 HB; have BK1638 := n0_; have HB := n1_; clear n0_ n1_; (try clear hb); (try clear hb2); (try clear hk); (try clear hi)))
  go_ret2
  exact ⟨zq9, zb1 GE1638.out⟩
def lw_NumberFormatRoundTrip.j0 : Nat → ByteArray → Int → Bool → Bool → List Int → List Int → Option (Bool)
 | 0, _, _, _, _, _, _ => none
 | k + 1, x3, x4, x26, x1649000, x1649001, x1649002 => if x26 = true then (some false) else (if x4 = 0 then ((number_Parse.f k x3).bind fun bt1653 => (if bt1653.2.2.2 = 0 then ((lw_same.f k x1649000 x1649001 x1649002 bt1653.1 bt1653.2.1 bt1653.2.2.1).bind fun t1662 => (if t1662 = true then ((lw_counted.f k).bind fun t1663 => (some t1663)) else (some false))) else (some false))) else (if x3.toList = ([] : List UInt8) then ((lw_counted.f k).bind fun t1664 => (some t1664)) else (some false)))
def lw_NumberFormatRoundTrip.f (k : Nat) (a0_0 : Bool) (l0_1 : List Int) (l0_2 : List Int) : Option (Bool) := (number_Format.f k a0_0 l0_1 l0_2).bind fun bt1649 => ((rf_Format.f k a0_0 l0_1 l0_2).bind fun bt1651 => (if bt1649.2 = bt1651.2 then (lw_NumberFormatRoundTrip.j0 k bt1649.1 bt1649.2 (bt1649.1.toList != bt1651.1.toList) a0_0 l0_1 l0_2) else (lw_NumberFormatRoundTrip.j0 k bt1649.1 bt1649.2 true a0_0 l0_1 l0_2)))
theorem lw_NumberFormatRoundTrip.mono_l : ∀ k, (∀ y0 y1 y2 y3 y4 y5, LeO (lw_NumberFormatRoundTrip.j0 k y0 y1 y2 y3 y4 y5) (lw_NumberFormatRoundTrip.j0 (k + 1) y0 y1 y2 y3 y4 y5))
 | 0 => fun _ _ _ _ _ _ r h => by simp [lw_NumberFormatRoundTrip.j0] at h
 | k + 1 => by
  have ih0 := lw_NumberFormatRoundTrip.mono_l k
  ·intro y0 y1 y2 y3 y4 y5
   unfold lw_NumberFormatRoundTrip.j0
   have m0 := ih0
   have m1 := @lw_counted.mono
   have m2 := @lw_same.mono
   have m3 := @rf_Format.mono
   have m4 := @number_Format.mono
   have m5 := @number_Parse.mono
   exact zm
theorem lw_NumberFormatRoundTrip.mono : ∀ a0 a1 a2 k, LeO (lw_NumberFormatRoundTrip.f k a0 a1 a2) (lw_NumberFormatRoundTrip.f (k + 1) a0 a1 a2) := by
 intro a0 a1 a2 k
 have ih0 := lw_NumberFormatRoundTrip.mono_l k
 unfold lw_NumberFormatRoundTrip.f
 have m0 := ih0
 have m1 := @lw_counted.mono
 have m2 := @lw_same.mono
 have m3 := @rf_Format.mono
 have m4 := @number_Format.mono
 have m5 := @number_Parse.mono
 exact zm
set_option maxHeartbeats 8000000 in
set_option maxRecDepth 100000 in
theorem lw_NumberFormatRoundTrip.calls (k : Nat) (a0_0 : Bool) (A0_1 : Option Addr) (c0_1 : Nat) (l0_1 : List Int) (A0_2 : Option Addr) (c0_2 : Nat) (l0_2 : List Int) (r : Bool) (w : World) (hr0_1 : Kd.C (Kd.int .u32) w A0_1 l0_1.length l0_1) (hc0_1 : l0_1.length ≤ c0_1) (hr0_2 : Kd.C (Kd.int .u32) w A0_2 l0_2.length l0_2) (hc0_2 : l0_2.length ≤ c0_2) (h : lw_NumberFormatRoundTrip.f k a0_0 l0_1 l0_2 = some r) (hr : r = true := by assumption) :
  Calls Tryd.prog 4 #[.agg #[.bool a0_0, .slice A0_1 l0_1.length c0_1, .slice A0_2 l0_2.length c0_2]] w fun e w' => e = .returned (.bool r) ∧ Below w.heap.size w w' := by
 have hu24 := Tryd.underlying24
 have HR0_1 := am hr0_1
 have HC0_1 := am hc0_1
 clear hr0_1 hc0_1
 have HR0_2 := am hr0_2
 have HC0_2 := am hc0_2
 clear hr0_2 hc0_2
 have HB := am (Below.refl w.heap.size w)
 have H := h
 unfold lw_NumberFormatRoundTrip.f at H
 clear h
 replace H := zi H
 obtain ⟨⟨t1649, t1650⟩, A20, H⟩ := H
 try dsimp only at H
 have A2 := am A20
 clear A20
 replace H := zi H
 obtain ⟨⟨t1651, t1652⟩, A30, H⟩ := H
 try dsimp only at H
 have A3 := am A30
 clear A30
 have HC4 := am H
 clear H
 go_enter Tryd.func4, Tryd.ntmps4
 go_upto_region 3 with (first | ((with_reducible refine gate_dst (N := 1) rfl ?_); refine box_event ?hg (N := 1) ?hd (cs := #[.bool a0_0, .slice A0_1 l0_1.length c0_1, .slice A0_2 l0_2.length c0_2]) (t := 24) ?hr ?_; (case hd => rfl); (case hg => rfl); (case hr => exact zr); intro gb1648 hg w5 hbox hb; have n0_ := am (below_step zq1 hb); have n1_ := am (hbox); have n2_ := am ((by rw [hg]; exact (below_size zq1) : w.heap.size ≤ gb1648)); have n3_ := am ((by rw [hg]; exact (below_size zq1) : w.heap.size ≤ gb1648)); clear HB; have HB := n0_; have BK1648 := n1_; have GW1648 := n2_; have GE1648 := n3_; clear n0_ n1_ n2_ n3_ hb hbox hg; have hcz6_0 : w5.cell? ⟨gb1648, 0, none⟩ = some (.bool a0_0) := (blk_cell BK1648.out 0).trans rfl; have hcz6_1 : w5.cell? ⟨gb1648, 1, none⟩ = some (.slice A0_1 l0_1.length c0_1) := (blk_cell BK1648.out 1).trans rfl; have hcz6_2 : w5.cell? ⟨gb1648, 2, none⟩ = some (.slice A0_2 l0_2.length c0_2) := (blk_cell BK1648.out 2).trans rfl; have hfz6_0 := blk_frozen BK1648.out 0; have hfz6_1 := blk_frozen BK1648.out 1; have hfz6_2 := blk_frozen BK1648.out 2) | ((with_reducible refine gate_callee (f := 17) rfl ?_); refine goesL_ (some 11) rfl rfl Tryd.func17 (by kernel_rfl) rfl #[.agg #[.bool a0_0, .slice A0_1 l0_1.length c0_1, .slice A0_2 l0_2.length c0_2]] rfl zq5 ?_; (with_reducible refine (number_Format.calls k a0_0 _ _ l0_1 _ _ l0_2 t1649 t1650 _ ?side1 ?side2 ?side3 ?side4 A2.out).mono ?_); (case side1 => exact zc (Kd.C_below HR0_1.out HB.out)); (case side2 => exact HC0_1.out); (case side3 => exact zc (Kd.C_below HR0_2.out HB.out)); (case side4 => exact HC0_2.out); rintro e w7 ⟨rfl, hb⟩; refine ⟨_, rfl, ?_⟩; have n0_ := am (blk_below (g := gb1648) (o := .cells #[.bool a0_0, .slice A0_1 l0_1.length c0_1, .slice A0_2 l0_2.length c0_2] 24 (0, 0)) (zq2 BK1648.out) hb); have n1_ := am (below_step (zb1 GE1648.out) hb); clear BK1648 HB; have BK1648 := n0_; have HB := n1_; clear n0_ n1_; (try clear hb); (try clear hb2); (try clear hk); (try clear hi); have hcz8_0 : w7.cell? ⟨gb1648, 0, none⟩ = some (.bool a0_0) := (blk_cell BK1648.out 0).trans rfl; have hcz8_1 : w7.cell? ⟨gb1648, 1, none⟩ = some (.slice A0_1 l0_1.length c0_1) := (blk_cell BK1648.out 1).trans rfl; have hcz8_2 : w7.cell? ⟨gb1648, 2, none⟩ = some (.slice A0_2 l0_2.length c0_2) := (blk_cell BK1648.out 2).trans rfl; have hfz8_0 := blk_frozen BK1648.out 0; have hfz8_1 := blk_frozen BK1648.out 1; have hfz8_2 := blk_frozen BK1648.out 2) | ((with_reducible refine gate_callee (f := 18) rfl ?_); refine goesL_ (some 16) rfl rfl Tryd.func18 (by kernel_rfl) rfl #[.agg #[.bool a0_0, .slice A0_1 l0_1.length c0_1, .slice A0_2 l0_2.length c0_2]] rfl zq5 ?_; (with_reducible refine (rf_Format.calls k a0_0 _ _ l0_1 _ _ l0_2 t1651 t1652 _ ?side1 ?side2 ?side3 ?side4 A3.out).mono ?_); (case side1 => exact zc (Kd.C_below HR0_1.out HB.out)); (case side2 => exact HC0_1.out); (case side3 => exact zc (Kd.C_below HR0_2.out HB.out)); (case side4 => exact HC0_2.out); rintro e w9 ⟨rfl, hb⟩; refine ⟨_, rfl, ?_⟩; have n0_ := am (blk_below (g := gb1648) (o := .cells #[.bool a0_0, .slice A0_1 l0_1.length c0_1, .slice A0_2 l0_2.length c0_2] 24 (0, 0)) (zq2 BK1648.out) hb); have n1_ := am (below_step (zb1 GE1648.out) hb); clear BK1648 HB; have BK1648 := n0_; have HB := n1_; clear n0_ n1_; (try clear hb); (try clear hb2); (try clear hk); (try clear hi)))
 (try simp only [Act.put, List.setIfInBounds_toArray, List.set_cons_zero, List.set_cons_succ])
 go_cut [26] (fun v26 wc => ∃ (kq : Nat) (x26_3 : Bool), v26 = .bool x26_3 ∧ Aside0 (lw_NumberFormatRoundTrip.j0 kq t1649 t1650 x26_3 a0_0 l0_1 l0_2 = some r) ∧ Aside0 (kq ≤ k) ∧ Aside0 (wc.heap[gb1648]? = some (.cells #[.bool a0_0, (.slice A0_1 l0_1.length c0_1), (.slice A0_2 l0_2.length c0_2)] 24 (0, 0))) ∧ Aside0 (Below w.heap.size w wc))
 case first =>
  have H := HC4.out
  clear HC4
  by_cases c10 : t1650 = t1652
  ·rw [if_pos c10] at H
   have c10b0 : (t1650 == t1652) = true := beq_iff_eq.mpr c10
   have c10b1 : (t1650 != t1652) = false := bne_eq_false_iff_eq.mpr c10
   clear c10
   (first | rw [c10b0] | (simp only [i64_w, i32_w]; rw [c10b0]) | skip)
   have H' := am H
   clear H
   go_wp2
   go_meet
   case rel => exact ⟨_, ((t1649.toList != t1651.toList)), zq8, H', ⟨by first | omega | exact Nat.le_refl _⟩, ⟨zq2 BK1648.out⟩, ⟨zb1 GE1648.out⟩⟩
  ·rw [if_neg c10] at H
   have c10b0 : (t1650 == t1652) = false := beq_eq_false_iff_ne.mpr c10
   have c10b1 : (t1650 != t1652) = true := bne_iff_ne.mpr c10
   (first | rw [c10b0] | (simp only [i64_w, i32_w]; rw [c10b0]) | skip)
   have H' := am H
   clear H
   go_wp2
   go_meet
   case rel => exact ⟨_, (true), zq8, H', ⟨by first | omega | exact Nat.le_refl _⟩, ⟨zq2 BK1648.out⟩, ⟨zb1 GE1648.out⟩⟩
 case rest =>
  clear HC4
  obtain ⟨kq, x26_3, rfl, HA, HJ3, BK1648, HB⟩ := hcut
  cases kq with
  | zero => exact absurd HA.out (by simp [lw_NumberFormatRoundTrip.j0])
  | succ kj3 =>
   have H := HA.out
   clear HA
   simp only [lw_NumberFormatRoundTrip.j0] at H
   by_cases c11 : x26_3 = true
   ·subst c11
    have H1 : (some false) = some r := by rw [if_pos rfl] at H; exact H
    clear H
    have H := H1
    clear H1
    obtain rfl := Option.some.inj H
    cases hr
   ·replace c11 := Bool.eq_false_iff.mpr c11
    subst c11
    have H1 : (if t1650 = 0 then ((number_Parse.f kj3 t1649).bind fun bt1653 => (if bt1653.2.2.2 = 0 then ((lw_same.f kj3 a0_0 l0_1 l0_2 bt1653.1 bt1653.2.1 bt1653.2.2.1).bind fun t1662 => (if t1662 = true then ((lw_counted.f kj3).bind fun t1663 => (some t1663)) else (some false))) else (some false))) else (if t1649.toList = ([] : List UInt8) then ((lw_counted.f kj3).bind fun t1664 => (some t1664)) else (some false))) = some r := by rw [if_neg (show ¬ (false = true) by decide)] at H; exact H
    clear H
    have H := H1
    clear H1
    by_cases c12 : t1650 = 0
    ·rw [if_pos c12] at H
     have c12b0 : (t1650 == 0) = true := beq_iff_eq.mpr c12
     have c12b1 : (t1650 != 0) = false := bne_eq_false_iff_eq.mpr c12
     clear c12
     replace H := zi H
     obtain ⟨⟨t1653, t1654, t1657, t1660⟩, A130, H⟩ := H
     try dsimp only at H
     have A13 := am A130
     clear A130
     by_cases c14 : t1660 = 0
     ·rw [if_pos c14] at H
      have c14b0 : (t1660 == 0) = true := beq_iff_eq.mpr c14
      have c14b1 : (t1660 != 0) = false := bne_eq_false_iff_eq.mpr c14
      clear c14
      replace H := zi H
      obtain ⟨t1662, A150, H⟩ := H
      have A15 := am A150
      clear A150
      by_cases c16 : t1662 = true
      ·subst c16
       have H1 : ((lw_counted.f kj3).bind fun t1663 => (some t1663)) = some r := by rw [if_pos rfl] at H; exact H
       clear H
       have H := H1
       clear H1
       replace H := zi H
       obtain ⟨t1663, A170, H⟩ := H
       have A17 := am A170
       clear A170
       obtain rfl := Option.some.inj H
       go_wp2_with (first | ((with_reducible refine gate_callee (f := 19) rfl ?_); refine goesL_ (some 36) rfl rfl Tryd.func19 (by kernel_rfl) rfl #[.string t1649] rfl zq5 ?_; (with_reducible refine (number_Parse.calls kj3 t1649 t1653 t1654 t1657 t1660 _ A13.out).mono ?_); rintro e w18 ⟨v1655, v1658, rfl, ho0, ho1, hb⟩; refine ⟨_, rfl, ?_⟩; have n0_ := am (Kd.V_lower (Kd.V_mono (ok' := fun k_ => k_ ≠ gb1648) ho0 (fun k_ hk_ => (Kd.freshB (g := gb1648) (o := .cells #[.bool a0_0, .slice A0_1 l0_1.length c0_1, .slice A0_2 l0_2.length c0_2] 24 (0, 0)) (zq2 BK1648.out) k_ hk_))) (below_size (zb1 GE1648.out))); have n1_ := am (Kd.V_lower (Kd.V_mono (ok' := fun k_ => k_ ≠ gb1648) ho1 (fun k_ hk_ => (Kd.freshB (g := gb1648) (o := .cells #[.bool a0_0, .slice A0_1 l0_1.length c0_1, .slice A0_2 l0_2.length c0_2] 24 (0, 0)) (zq2 BK1648.out) k_ hk_))) (below_size (zb1 GE1648.out))); have n2_ := am (blk_below (g := gb1648) (o := .cells #[.bool a0_0, .slice A0_1 l0_1.length c0_1, .slice A0_2 l0_2.length c0_2] 24 (0, 0)) (zq2 BK1648.out) hb); have n3_ := am (below_step (zb1 GE1648.out) hb); clear BK1648 HB; have HO1656 := n0_; have HO1659 := n1_; have BK1648 := n2_; have HB := n3_; clear n0_ n1_ n2_ n3_; (try clear ho1)) | ((with_reducible refine gate_dst (N := 7) rfl ?_); refine box_event ?hg (N := 7) ?hd (cs := #[.bool false, .slice none 0 0, .slice none 0 0]) (t := 24) ?hr ?_; (case hd => rfl); (case hg => rfl); (case hr => exact zr); intro gb1661 hg w19 hbox hb; have n0_ := am (Kd.V_below (Kd.V_elderB (zq3 HO1656.out) gb1661 (Nat.le_of_eq hg.symm)) hb); have n1_ := am (Kd.V_below (Kd.V_elderB (zq3 HO1659.out) gb1661 (Nat.le_of_eq hg.symm)) hb); have n2_ := am (blk_below (g := gb1648) (o := .cells #[.bool a0_0, .slice A0_1 l0_1.length c0_1, .slice A0_2 l0_2.length c0_2] 24 (0, 0)) (zq2 BK1648.out) hb); have n3_ := am (below_step (zb1 GE1648.out) hb); have n4_ := am (hbox); have n5_ := am ((by rw [hg]; exact (below_size (zb1 GE1648.out)) : w.heap.size ≤ gb1661)); have n6_ := am ((by rw [hg]; exact (below_size (zb1 GE1648.out)) : w.heap.size ≤ gb1661)); have n7_ := am ((by rw [hg]; exact Nat.ne_of_lt (blk_lt (g := gb1648) (o := .cells #[.bool a0_0, .slice A0_1 l0_1.length c0_1, .slice A0_2 l0_2.length c0_2] 24 (0, 0)) (zq2 BK1648.out)) : gb1648 ≠ gb1661)); have n8_ := am ((by rw [hg]; exact Nat.ne_of_gt (blk_lt (g := gb1648) (o := .cells #[.bool a0_0, .slice A0_1 l0_1.length c0_1, .slice A0_2 l0_2.length c0_2] 24 (0, 0)) (zq2 BK1648.out)) : gb1661 ≠ gb1648)); clear HO1656 HO1659 BK1648 HB; have HO1656 := n0_; have HO1659 := n1_; have BK1648 := n2_; have HB := n3_; have BK1661 := n4_; have GW1661 := n5_; have GE1661 := n6_; have NB1648_1661 := n7_; have NB1661_1648 := n8_; clear n0_ n1_ n2_ n3_ n4_ n5_ n6_ n7_ n8_ hb hbox hg; have hnb20 := NB1661_1648.out; have hnc20 := NB1648_1661.out; have hcz21_0 : w19.cell? ⟨gb1661, 0, none⟩ = some (.bool false) := (blk_cell BK1661.out 0).trans rfl; have hcz21_1 : w19.cell? ⟨gb1661, 1, none⟩ = some (.slice none 0 0) := (blk_cell BK1661.out 1).trans rfl; have hcz21_2 : w19.cell? ⟨gb1661, 2, none⟩ = some (.slice none 0 0) := (blk_cell BK1661.out 2).trans rfl; have hfz21_0 := blk_frozen BK1661.out 0; have hfz21_1 := blk_frozen BK1661.out 1; have hfz21_2 := blk_frozen BK1661.out 2; obtain ⟨Ao22, co22, eo22⟩ := Kd.V_slice HO1656.out; subst eo22; obtain ⟨Ao23, co23, eo23⟩ := Kd.V_slice HO1659.out; subst eo23; have hcz24_0 : w19.cell? ⟨gb1648, 0, none⟩ = some (.bool a0_0) := (blk_cell BK1648.out 0).trans rfl; have hcz24_1 : w19.cell? ⟨gb1648, 1, none⟩ = some (.slice A0_1 l0_1.length c0_1) := (blk_cell BK1648.out 1).trans rfl; have hcz24_2 : w19.cell? ⟨gb1648, 2, none⟩ = some (.slice A0_2 l0_2.length c0_2) := (blk_cell BK1648.out 2).trans rfl; have hfz24_0 := blk_frozen BK1648.out 0; have hfz24_1 := blk_frozen BK1648.out 1; have hfz24_2 := blk_frozen BK1648.out 2) | (go_at_call 20; (with_reducible refine (lw_same.calls kj3 a0_0 _ _ l0_1 _ _ l0_2 t1653 _ _ t1654 _ _ t1657 true _ ?side1 ?side2 ?side3 ?side4 ?side5 ?side6 ?side7 ?side8 A15.out).mono ?_); (case side1 => exact Kd.C_below HR0_1.out (zb2 GE1648.out GE1661.out)); (case side2 => exact HC0_1.out); (case side3 => exact Kd.C_below HR0_2.out (zb2 GE1648.out GE1661.out)); (case side4 => exact HC0_2.out); (case side5 => refine (Kd.V_reads' (e := 55) (base := w.heap.size) (ok := fun k_ => (k_ ≠ gb1648 ∧ k_ ≠ gb1661)) (n := t1654.length) (c := co22) ?_).2.2; exact (by (with_reducible repeat (first | apply Kd.V_alloc | apply Kd.V_drewN | apply Kd.V_drew)); exact (Kd.V_mono (Kd.V_far (p := ⟨gb1661, 2, none⟩) (Kd.V_far (p := ⟨gb1661, 1, none⟩) (Kd.V_far (p := ⟨gb1661, 0, none⟩) (Kd.V_mono HO1656.out (fun k_ hk => (⟨hk, hk.2⟩ : _ ∧ k_ ≠ gb1661))) (fun _ hk => hk.2) (.bool t1653)) (fun _ hk => hk.2) (.slice Ao22 t1654.length co22)) (fun _ hk => hk.2) (.slice Ao23 t1657.length co23)) (fun _ h_ => h_.1)))); (case side6 => exact (Kd.V_reads' HO1656.out).2.1); (case side7 => refine (Kd.V_reads' (e := 55) (base := w.heap.size) (ok := fun k_ => (k_ ≠ gb1648 ∧ k_ ≠ gb1661)) (n := t1657.length) (c := co23) ?_).2.2; exact (by (with_reducible repeat (first | apply Kd.V_alloc | apply Kd.V_drewN | apply Kd.V_drew)); exact (Kd.V_mono (Kd.V_far (p := ⟨gb1661, 2, none⟩) (Kd.V_far (p := ⟨gb1661, 1, none⟩) (Kd.V_far (p := ⟨gb1661, 0, none⟩) (Kd.V_mono HO1659.out (fun k_ hk => (⟨hk, hk.2⟩ : _ ∧ k_ ≠ gb1661))) (fun _ hk => hk.2) (.bool t1653)) (fun _ hk => hk.2) (.slice Ao22 t1654.length co22)) (fun _ hk => hk.2) (.slice Ao23 t1657.length co23)) (fun _ h_ => h_.1)))); (case side8 => exact (Kd.V_reads' HO1659.out).2.1); rintro e w25 ⟨rfl, hb⟩; have n0_ := am (Kd.V_below (by (with_reducible repeat (first | apply Kd.V_alloc | apply Kd.V_drewN | apply Kd.V_drew)); exact (Kd.V_mono (Kd.V_far (p := ⟨gb1661, 2, none⟩) (Kd.V_far (p := ⟨gb1661, 1, none⟩) (Kd.V_far (p := ⟨gb1661, 0, none⟩) (Kd.V_mono HO1656.out (fun k_ hk => (⟨hk, hk.2⟩ : _ ∧ k_ ≠ gb1661))) (fun _ hk => hk.2) (.bool t1653)) (fun _ hk => hk.2) (.slice Ao22 t1654.length co22)) (fun _ hk => hk.2) (.slice Ao23 t1657.length co23)) (fun _ h_ => h_.1))) hb); have n1_ := am (Kd.V_below (by (with_reducible repeat (first | apply Kd.V_alloc | apply Kd.V_drewN | apply Kd.V_drew)); exact (Kd.V_mono (Kd.V_far (p := ⟨gb1661, 2, none⟩) (Kd.V_far (p := ⟨gb1661, 1, none⟩) (Kd.V_far (p := ⟨gb1661, 0, none⟩) (Kd.V_mono HO1659.out (fun k_ hk => (⟨hk, hk.2⟩ : _ ∧ k_ ≠ gb1661))) (fun _ hk => hk.2) (.bool t1653)) (fun _ hk => hk.2) (.slice Ao22 t1654.length co22)) (fun _ hk => hk.2) (.slice Ao23 t1657.length co23)) (fun _ h_ => h_.1))) hb); have n2_ := am (blk_below (g := gb1648) (o := .cells #[.bool a0_0, .slice A0_1 l0_1.length c0_1, .slice A0_2 l0_2.length c0_2] 24 (0, 0)) (by (with_reducible repeat (first | refine blk_drewN ?_ _ | refine blk_drew ?_ | refine blk_alloc ?_ _)); refine blk_far ?_ NB1648_1661.out _; (with_reducible repeat (first | refine blk_drewN ?_ _ | refine blk_drew ?_ | refine blk_alloc ?_ _)); refine blk_far ?_ NB1648_1661.out _; (with_reducible repeat (first | refine blk_drewN ?_ _ | refine blk_drew ?_ | refine blk_alloc ?_ _)); refine blk_far ?_ NB1648_1661.out _; (with_reducible repeat (first | refine blk_drewN ?_ _ | refine blk_drew ?_ | refine blk_alloc ?_ _)); exact BK1648.out) hb); have n3_ := am (blk_below (g := gb1661) (o := .cells #[.bool t1653, .slice Ao22 t1654.length co22, .slice Ao23 t1657.length co23] 24 (0, 0)) (by (with_reducible repeat (first | refine blk_drewN ?_ _ | refine blk_drew ?_ | refine blk_alloc ?_ _)); refine blk_put (cs := #[.bool t1653, .slice Ao22 t1654.length co22, .slice none 0 0]) ?_ 2 _ rfl; (with_reducible repeat (first | refine blk_drewN ?_ _ | refine blk_drew ?_ | refine blk_alloc ?_ _)); refine blk_put (cs := #[.bool t1653, .slice none 0 0, .slice none 0 0]) ?_ 1 _ rfl; (with_reducible repeat (first | refine blk_drewN ?_ _ | refine blk_drew ?_ | refine blk_alloc ?_ _)); refine blk_put (cs := #[.bool false, .slice none 0 0, .slice none 0 0]) ?_ 0 _ rfl; (with_reducible repeat (first | refine blk_drewN ?_ _ | refine blk_drew ?_ | refine blk_alloc ?_ _)); exact BK1661.out) hb); have n4_ := am (below_step (zb2 GE1648.out GE1661.out) hb); clear HO1656 HO1659 BK1648 BK1661 HB; have HO1656 := n0_; have HO1659 := n1_; have BK1648 := n2_; have BK1661 := n3_; have HB := n4_; clear n0_ n1_ n2_ n3_ n4_; (try clear hb); (try clear hb2); (try clear hk); (try clear hi)) | (go_at_call 16; (with_reducible refine (lw_counted.calls kj3  t1663 _ A17.out).mono ?_); rintro e w26 ⟨rfl, hb⟩; have n0_ := am (Kd.V_below (zq3 HO1656.out) hb); have n1_ := am (Kd.V_below (zq3 HO1659.out) hb); have n2_ := am (blk_below (g := gb1648) (o := .cells #[.bool a0_0, .slice A0_1 l0_1.length c0_1, .slice A0_2 l0_2.length c0_2] 24 (0, 0)) (zq2 BK1648.out) hb); have n3_ := am (blk_below (g := gb1661) (o := .cells #[.bool t1653, .slice Ao22 t1654.length co22, .slice Ao23 t1657.length co23] 24 (0, 0)) (zq2 BK1661.out) hb); have n4_ := am (below_step (zb2 GE1648.out GE1661.out) hb); clear HO1656 HO1659 BK1648 BK1661 HB; have HO1656 := n0_; have HO1659 := n1_; have BK1648 := n2_; have BK1661 := n3_; have HB := n4_; clear n0_ n1_ n2_ n3_ n4_; (try clear hb); (try clear hb2); (try clear hk); (try clear hi)))
       go_ret
       exact ⟨zq9, zb2 GE1648.out GE1661.out⟩
      ·replace c16 := Bool.eq_false_iff.mpr c16
       subst c16
       have H1 : (some false) = some r := by rw [if_neg (show ¬ (false = true) by decide)] at H; exact H
       clear H
       have H := H1
       clear H1
       obtain rfl := Option.some.inj H
       cases hr
     ·rw [if_neg c14] at H
      have c14b0 : (t1660 == 0) = false := beq_eq_false_iff_ne.mpr c14
      have c14b1 : (t1660 != 0) = true := bne_iff_ne.mpr c14
      obtain rfl := Option.some.inj H
      cases hr
    ·rw [if_neg c12] at H
     have c12b0 : (t1650 == 0) = false := beq_eq_false_iff_ne.mpr c12
     have c12b1 : (t1650 != 0) = true := bne_iff_ne.mpr c12
     by_cases c27 : t1649.toList = ([] : List UInt8)
     ·rw [if_pos c27] at H
      have c27b0 : (t1649.toList == ([] : List UInt8)) = true := beq_iff_eq.mpr c27
      have c27b1 : (t1649.toList != ([] : List UInt8)) = false := bne_eq_false_iff_eq.mpr c27
      clear c27
      replace H := zi H
      obtain ⟨t1664, A280, H⟩ := H
      have A28 := am A280
      clear A280
      obtain rfl := Option.some.inj H
      go_wp2_with (first | (go_at_call 16; (with_reducible refine (lw_counted.calls kj3  t1664 _ A28.out).mono ?_); rintro e w29 ⟨rfl, hb⟩; have n0_ := am (blk_below (g := gb1648) (o := .cells #[.bool a0_0, .slice A0_1 l0_1.length c0_1, .slice A0_2 l0_2.length c0_2] 24 (0, 0)) (zq2 BK1648.out) hb); have n1_ := am (below_step (zb1 GE1648.out) hb); clear BK1648 HB; have BK1648 := n0_; have HB := n1_; clear n0_ n1_; (try clear hb); (try clear hb2); (try clear hk); (try clear hi)))
      go_ret
      exact ⟨zq9, zb1 GE1648.out⟩
     ·rw [if_neg c27] at H
      have c27b0 : (t1649.toList == ([] : List UInt8)) = false := beq_eq_false_iff_ne.mpr c27
      have c27b1 : (t1649.toList != ([] : List UInt8)) = true := bne_iff_ne.mpr c27
      obtain rfl := Option.some.inj H
      cases hr
end Go.Proofs.YtemnjgkicndmjaaDoor.Q
namespace Go.Proofs.YtemnjgkicndmjaaDoor.Q
open Go.RowKit Go.Proofs.YtemnjgkicndmjaaDoorW.PrintWords Go.Proofs.YtemnjgkicndmjaaDoorW.PrintLast Go.Proofs.YtemnjgkicndmjaaDoorW.PrintMore
set_option linter.unusedVariables false
theorem ofInt_64 (a : Nat) (ha : a < 18446744073709551616) : (BitVec.ofInt 64 (a : Int)).toNat = a := by
  rw [BitVec.ofInt_natCast, BitVec.toNat_ofNat]; exact Nat.mod_eq_of_lt (by omega)
theorem i64w (n : Int) (h0 : 0 ≤ n) (h1 : n < 9223372036854775808) : IntKind.i64.wrap n = n := by
  simp [IntKind.wrap, IntKind.bits, IntKind.signed]; omega
theorem i64_and (a b : Int) (h1 : 0 ≤ a) (h2 : a < 9223372036854775808) (h3 : 0 ≤ b) (h4 : b < 9223372036854775808) : Go.bits .and .i64 a b = ((a.toNat &&& b.toNat : Nat) : Int) := by
  obtain ⟨A, rfl⟩ := Int.eq_ofNat_of_zero_le h1
  obtain ⟨B, rfl⟩ := Int.eq_ofNat_of_zero_le h3
  have hx : A &&& B < 2 ^ 63 := Nat.and_lt_two_pow _ (by omega)
  show IntKind.i64.wrap ((BitVec.ofInt 64 (A : Int) &&& BitVec.ofInt 64 (B : Int)).toNat : Int) = _
  rw [BitVec.toNat_and, ofInt_64 A (by omega), ofInt_64 B (by omega), i64w _ (by omega) (by omega)]
  rfl
theorem i64_or (a b : Int) (h1 : 0 ≤ a) (h2 : a < 9223372036854775808) (h3 : 0 ≤ b) (h4 : b < 9223372036854775808) : Go.bits .or .i64 a b = ((a.toNat ||| b.toNat : Nat) : Int) := by
  obtain ⟨A, rfl⟩ := Int.eq_ofNat_of_zero_le h1
  obtain ⟨B, rfl⟩ := Int.eq_ofNat_of_zero_le h3
  have hx : A ||| B < 2 ^ 63 := Nat.or_lt_two_pow (by omega) (by omega)
  show IntKind.i64.wrap ((BitVec.ofInt 64 (A : Int) ||| BitVec.ofInt 64 (B : Int)).toNat : Int) = _
  rw [BitVec.toNat_or, ofInt_64 A (by omega), ofInt_64 B (by omega), i64w _ (by omega) (by omega)]
  rfl
theorem i64_and1 {x : Int} (h0 : 0 ≤ x) (h1 : x < 9223372036854775808) : Go.bits .and .i64 x 1 = x % 2 := by
  rw [i64_and _ _ h0 h1 (by omega) (by omega)]
  have : (1 : Int).toNat = 1 := rfl
  rw [this, Nat.and_one_is_mod]; omega
theorem rtrim_ev (xs : List Int) : xs.length ≤ 1099511627776 → Ev (fun k => rf_trim.f k xs) (trim xs) := by
  show xs.length ≤ 1099511627776 → Ev (fun k => rf_trim.l0 k xs) (trim xs)
  refine snoc_induction (P := fun xs => xs.length ≤ 1099511627776 → Ev (fun k => rf_trim.l0 k xs) (trim xs)) ?_ ?_ xs
  · intro _
    exact Ev.step (f := fun _ => some []) (fun k => by simp only [rf_trim.l0]; rfl) (Ev.now _)
  · intro xs x ih hl
    rw [List.length_append, List.length_singleton] at hl
    have h1 : ((xs ++ [x]).length : Int) > 0 := by rw [List.length_append, List.length_singleton]; omega
    have h2 : wrap64 (((xs ++ [x]).length : Int) - 1) = (xs.length : Int) := by rw [List.length_append, List.length_singleton, w64 (by omega) (by omega)]; omega
    have h3 : (xs.length : Int) < ((xs ++ [x]).length : Int) := by rw [List.length_append, List.length_singleton]; omega
    have h4 : rd (xs ++ [x]) (xs.length : Int) = x := by rw [rd_getD, List.getD_eq_getElem?_getD, List.getElem?_append_right (Nat.le_refl _)]; simp
    have h5 : (xs ++ [x]).take xs.length = xs := by rw [List.take_append_of_le_length (Nat.le_refl _), List.take_of_length_le (Nat.le_refl _)]
    have h0 : (0 : Int) ≤ (xs.length : Int) := by omega
    by_cases c : x = 0
    · subst c
      rw [trim_snoc_zero]
      refine Ev.step (f := fun k => rf_trim.l0 k xs) (fun k => ?_) (ih (by omega))
      simp only [rf_trim.l0]
      rw [if_pos h1, h2, if_pos h0, if_pos h3, h4, if_pos (by rfl), if_pos (Int.le_of_lt h3), Int.toNat_natCast, h5]
    · rw [trim_snoc _ c]
      refine Ev.step (f := fun _ => some (xs ++ [x])) (fun k => ?_) (Ev.now _)
      simp only [rf_trim.l0]
      rw [if_pos h1, h2, if_pos h0, if_pos h3, h4, if_neg c]
theorem rdigit (l : List Int) (i : Nat) : rf_digit.f l (i : Int) = some (l.getD i 0) := by
  unfold rf_digit.f
  by_cases h : i < l.length
  · rw [if_pos (by omega), if_pos (by omega), rd_getD]
  · rw [if_neg (by omega), List.getD_eq_getElem?_getD, List.getElem?_eq_none (by omega)]; rfl
theorem rbit0 {l : List Int} (h : Lim 65536 l) : rf_bit.f l 0 = some (val 65536 l % 2) := by
  unfold rf_bit.f
  have e : wrap64 (Int.tdiv 0 16) = ((0 : Nat) : Int) := by decide +kernel
  have hx := h.getD (by decide) 0
  rw [e, rdigit, Option.bind_some, if_pos (by decide)]
  have e2 : shr .i64 (l.getD 0 0) (Int.tmod 0 16) = l.getD 0 0 := by
    unfold shr
    rw [show min (Int.tmod 0 16).toNat (IntKind.i64).bits = 0 by decide, Int.pow_zero, Int.ediv_one]
  rw [e2, i64_and1 hx.1 (by omega)]
  cases l with
  | nil => rfl
  | cons x xs => simp [val]; omega
theorem natOf_loop (xs : List Int) (hx : Lim 4294967296 xs) (hL : xs.length ≤ 137438953472) : ∀ (d i : Nat) (out : List Int), d + i = xs.length → out.length = 2 * i → Lim 65536 out → val 65536 out = val 4294967296 (xs.take i) →
    ∃ r, Ev (fun k => rf_natOf.l0 k out xs (xs.length : Int) (i : Int)) (trim r) ∧ r.length = 2 * xs.length ∧ Lim 65536 r ∧ val 65536 r = val 4294967296 xs := by
  have hB : (0 : Int) < 4294967296 := by decide
  intro d
  induction d with
  | zero =>
    intro i out hd hl ho hv
    refine ⟨out, Ev.step (f := fun k => (rf_trim.f k out).bind fun t => some t) (fun k => ?_) (Ev.bind (f := fun _ t => some t) (rtrim_ev out (by omega)) (Ev.now _)), by omega, ho, by rw [hv, List.take_of_length_le (by omega)]⟩
    simp only [rf_natOf.l0]
    rw [if_neg (by omega)]
  | succ d ih =>
    intro i out hd hl ho hv
    have g1 : (i : Int) < (xs.length : Int) := by omega
    have g2 : (0 : Int) ≤ (i : Int) := by omega
    have g3 : i < xs.length := by omega
    have g4 : ∀ z : List Int, z.length = 2 → out.length + z.length < 17592186044416 := fun z hz => by omega
    have g5 : d + (i + 1) = xs.length := by omega
    have g7 : ∀ _ : Unit, wrap64 ((i : Int) + 1) = ((i + 1 : Nat) : Int) := fun _ => by rw [w64 (by omega) (by omega)]; omega
    have hxi := hx.rd hB (i : Int)
    have hxg : rd xs (i : Int) = xs.getD i 0 := rd_getD xs i
    generalize rd xs (i : Int) = x at hxi hxg
    have e1 : wrap64 (Go.bits .and .u32 x 65535) = x % 65536 := by
      rw [u32_and _ _ hxi.1 hxi.2 (by omega) (by omega), show (65535 : Int).toNat = 2 ^ 16 - 1 from rfl, Nat.and_two_pow_sub_one_eq_mod, w64 (by omega) (by omega)]
      omega
    have e2 : wrap64 (x / 65536) = x / 65536 := w64 (by omega) (by omega)
    obtain ⟨r, hev, h⟩ := ih (i + 1) (out ++ [x % 65536, x / 65536]) g5 (by rw [List.length_append, hl]; simp; omega) (by
        have h1 := lim_nrm_snoc ho (x := x % 65536) ⟨by omega, by omega⟩
        have h2 := lim_nrm_snoc h1 (x := x / 65536) ⟨by omega, by omega⟩
        rw [List.append_assoc] at h2; exact h2) (by
        rw [val_append, hv, val_take_succ _ _ _ g3, ← hxg, hl, Int.pow_mul, show (65536 : Int) ^ 2 = 4294967296 from rfl]
        have h3 : val 65536 [x % 65536, x / 65536] = x := by simp [val]; omega
        rw [h3])
    refine ⟨r, Ev.step (f := fun k => rf_natOf.l0 k (out ++ [x % 65536, x / 65536]) xs (xs.length : Int) ((i + 1 : Nat) : Int)) (fun k => ?_) hev, h⟩
    simp only [rf_natOf.l0]
    rw [if_pos g1, if_pos g2, if_pos g1, rd_getD, ← hxg, e1, e2, Option.bind_some, if_pos (g4 _ rfl), g7 ()]
theorem natOf_ev (xs : List Int) (hx : Lim 4294967296 xs) (hL : xs.length ≤ 137438953472) :
    ∃ r, Ev (fun k => rf_natOf.f k xs) r ∧ Lim 65536 r ∧ Nrm r ∧ val 65536 r = val 4294967296 xs ∧ r.length ≤ 2 * xs.length := by
  obtain ⟨r, h1, h2, h3, h4⟩ := natOf_loop xs hx hL xs.length 0 [] (by omega) (by simp) (lim_nil _) (by simp [val])
  exact ⟨trim r, h1, lim_trim h3, nrm_trim _, by rw [val_trim, h4], by rw [← h2]; exact length_trim r⟩
theorem rcmp_loop (xs ys : List Int) (hx : Lim 65536 xs) (hy : Lim 65536 ys) (hLx : xs.length ≤ 1099511627776) (hLy : ys.length ≤ 1099511627776) : ∀ i : Nat, i ≤ 1099511627776 → val 65536 (xs.drop i) = val 65536 (ys.drop i) →
    Ev (fun k => rf_CmpNat.l0 k xs ys ((i : Int) - 1)) (cmpI (val 65536 xs) (val 65536 ys)) := by
  have hB : (0 : Int) < 65536 := by decide
  have hsp : ∀ (zs : List Int) (i : Nat), val 65536 zs = val 65536 (zs.take i) + 65536 ^ i * val 65536 (zs.drop i) := by
    intro zs i
    by_cases h : i ≤ zs.length
    · exact val_split _ zs i h
    · rw [List.take_of_length_le (by omega), List.drop_of_length_le (by omega)]; simp [val]
  have hdr : ∀ (zs : List Int) (i : Nat), val 65536 (zs.drop i) = zs.getD i 0 + 65536 * val 65536 (zs.drop (i + 1)) := by
    intro zs i
    by_cases h : i < zs.length
    · exact val_drop _ zs i h
    · rw [List.drop_of_length_le (by omega), List.drop_of_length_le (by omega), List.getD_eq_getElem?_getD, List.getElem?_eq_none (by omega)]; simp [val]
  have htk : ∀ (zs : List Int) (i : Nat), Lim 65536 zs → 0 ≤ val 65536 (zs.take i) ∧ val 65536 (zs.take i) < 65536 ^ i := by
    intro zs i hz
    refine ⟨val_nonneg hB (hz.take i), ?_⟩
    have h1 := val_lt hB (hz.take i)
    have h2 := pow_mono' hB (show (zs.take i).length ≤ i by rw [List.length_take]; omega)
    omega
  intro i
  induction i with
  | zero =>
    intro _ h
    rw [List.drop_zero, List.drop_zero] at h
    refine Ev.step (f := fun _ => some 0) (fun k => ?_) (Ev.eq (Ev.now _) ?_)
    · simp only [rf_CmpNat.l0]; rw [if_neg (by omega)]
    · rw [h]; unfold cmpI; rw [if_neg (by omega), if_neg (by omega)]
  | succ i ih =>
    intro hi h
    have e1 : (((i + 1 : Nat) : Int) - 1) = (i : Int) := by omega
    have e2 : ∀ _ : Unit, wrap64 ((i : Int) - 1) = (i : Int) - 1 := fun _ => w64 (by omega) (by omega)
    have g1 : (i : Int) ≥ 0 := by omega
    have hxi := hx.getD hB i
    have hyi := hy.getD hB i
    have dx := hdr xs i
    have dy := hdr ys i
    have sx := hsp xs i
    have sy := hsp ys i
    have tx := htk xs i hx
    have ty := htk ys i hy
    rw [h] at dx
    have hp : (0 : Int) < 65536 ^ i := Int.pow_pos (by decide)
    have key : ∀ a b : Int, a < b → ∀ s t : Int, 0 ≤ s → s < 65536 ^ i → 0 ≤ t → t < 65536 ^ i → s + 65536 ^ i * a < t + 65536 ^ i * b := by
      intro a b hab s t hs0 hs ht0 ht
      have : 65536 ^ i * (a + 1) ≤ 65536 ^ i * b := Int.mul_le_mul_of_nonneg_left (by omega) (by omega)
      rw [Int.mul_add, Int.mul_one] at this
      omega
    by_cases c1 : xs.getD i 0 < ys.getD i 0
    · refine Ev.step (f := fun _ => some (-1)) (fun k => ?_) (Ev.eq (Ev.now _) ?_)
      · simp only [rf_CmpNat.l0]
        rw [e1, if_pos g1, rdigit, rdigit, Option.bind_some, Option.bind_some, if_pos c1]
      · have := key (val 65536 (xs.drop i)) (val 65536 (ys.drop i)) (by omega) _ _ tx.1 tx.2 ty.1 ty.2
        unfold cmpI; rw [if_pos (by omega)]
    · by_cases c2 : xs.getD i 0 > ys.getD i 0
      · refine Ev.step (f := fun _ => some 1) (fun k => ?_) (Ev.eq (Ev.now _) ?_)
        · simp only [rf_CmpNat.l0]
          rw [e1, if_pos g1, rdigit, rdigit, Option.bind_some, Option.bind_some, if_neg c1, if_pos c2]
        · have := key (val 65536 (ys.drop i)) (val 65536 (xs.drop i)) (by omega) _ _ ty.1 ty.2 tx.1 tx.2
          unfold cmpI; rw [if_neg (by omega), if_pos (by omega)]
      · refine Ev.step (f := fun k => rf_CmpNat.l0 k xs ys ((i : Int) - 1)) (fun k => ?_) (ih (by omega) (by omega))
        simp only [rf_CmpNat.l0]
        rw [e1, if_pos g1, rdigit, rdigit, Option.bind_some, Option.bind_some, if_neg c1, if_neg c2, e2 ()]
theorem CmpNat_ev (xs ys : List Int) (hx : Lim 65536 xs) (hy : Lim 65536 ys) (hLx : xs.length ≤ 1099511627776) (hLy : ys.length ≤ 1099511627776) : Ev (fun k => rf_CmpNat.f k xs ys) (cmpI (val 65536 xs) (val 65536 ys)) := by
  have h := rcmp_loop xs ys hx hy hLx hLy (max xs.length ys.length) (by omega) (by rw [List.drop_of_length_le (by omega), List.drop_of_length_le (by omega)])
  refine Ev.congr (fun k => ?_) h
  unfold rf_CmpNat.f mx
  congr 1
  by_cases c : xs.length < ys.length
  · rw [if_pos (by omega), w64 (by omega) (by omega), Nat.max_eq_right (by omega)]
  · rw [if_neg (by omega), w64 (by omega) (by omega), Nat.max_eq_left (by omega)]
end Go.Proofs.YtemnjgkicndmjaaDoor.Q
