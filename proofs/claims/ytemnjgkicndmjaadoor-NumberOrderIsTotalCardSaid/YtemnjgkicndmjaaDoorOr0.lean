/- What this text proves: a part of the walk and of the plain laws of one card; no conditions. -/
import Derived.Test.YtemnjgkicndmjaaDoorBt3
namespace Go.Proofs.YtemnjgkicndmjaaDoor.Q
open Go.RowKit Go.Proofs.YtemnjgkicndmjaaDoorW.PrintWords Go.Proofs.YtemnjgkicndmjaaDoorW.PrintLast Go.Proofs.YtemnjgkicndmjaaDoorW.PrintMore
attribute [local go_sem] max2_int min2_int max_two min_two max_three min_three max_four min_four
set_option linter.unusedVariables false
set_option linter.unusedSimpArgs false
def lw_sameLimbs.l0 : Nat → List Int → List Int → Int → Option (Bool)
 | 0, _, _, _ => none
 | k + 1, x0, x1, x5 => if x5 < (x0.length : Int) then (if 0 ≤ x5 then (if x5 < (x1.length : Int) then (if (rd x0 x5) = (rd x1 x5) then (lw_sameLimbs.l0 k x0 x1 (wrap64 (x5 + 1))) else (some false)) else (none)) else (none)) else (some true)
def lw_sameLimbs.f (k : Nat) (l0 : List Int) (l1 : List Int) : Option (Bool) := if (l0.length : Int) = (l1.length : Int) then (lw_sameLimbs.l0 k l0 l1 0) else (some false)
theorem lw_sameLimbs.mono_l : ∀ k, (∀ y0 y1 y2, LeO (lw_sameLimbs.l0 k y0 y1 y2) (lw_sameLimbs.l0 (k + 1) y0 y1 y2))
 | 0 => fun _ _ _ r h => by simp [lw_sameLimbs.l0] at h
 | k + 1 => by
  have ih0 := lw_sameLimbs.mono_l k
  ·intro y0 y1 y2
   unfold lw_sameLimbs.l0
   have m0 := ih0
   exact zm
theorem lw_sameLimbs.mono : ∀ a0 a1 k, LeO (lw_sameLimbs.f k a0 a1) (lw_sameLimbs.f (k + 1) a0 a1) := by
 intro a0 a1 k
 have ih0 := lw_sameLimbs.mono_l k
 unfold lw_sameLimbs.f
 have m0 := ih0
 exact zm
set_option maxHeartbeats 8000000 in
set_option maxRecDepth 100000 in
theorem lw_sameLimbs.calls (k : Nat) (A0 : Option Addr) (c0 : Nat) (l0 : List Int) (A1 : Option Addr) (c1 : Nat) (l1 : List Int) (r : Bool) (w : World) (hr0 : Kd.C (Kd.int .u32) w A0 l0.length l0) (hc0 : l0.length ≤ c0) (hr1 : Kd.C (Kd.int .u32) w A1 l1.length l1) (hc1 : l1.length ≤ c1) (h : lw_sameLimbs.f k l0 l1 = some r) :
  Calls Tryd.prog 55 #[.slice A0 l0.length c0, .slice A1 l1.length c1] w fun e w' => e = .returned (.bool r) ∧ Drawn0 w w' := by
 have HR0 := am hr0
 have HC0 := am hc0
 clear hr0 hc0
 have HR1 := am hr1
 have HC1 := am hc1
 clear hr1 hc1
 have H := h
 unfold lw_sameLimbs.f at H
 clear h
 by_cases c3 : (l0.length : Int) = (l1.length : Int)
 ·rw [if_pos c3] at H
  have c3b0 : ((l0.length : Int) == (l1.length : Int)) = true := beq_iff_eq.mpr c3
  have c3b1 : ((l0.length : Int) != (l1.length : Int)) = false := bne_eq_false_iff_eq.mpr c3
  have c3b2 : (l0.length == l1.length) = true := by first | simpa using c3 | (simp at c3 ⊢; omega)
  clear c3
  have H' := am H
  clear H
  go_enter Tryd.func55, Tryd.ntmps55
  go_wp2
  repeat (go_quiet (fail); try go_wp2)
  go_loopg [5] k (fun kq v5 w' => ∃ (x5_1 : Int), v5 = .int .i64 x5_1 ∧ Aside0 (lw_sameLimbs.l0 kq l0 l1 x5_1 = some r) ∧ Aside0 (kq ≤ k) ∧ Drawn0 w w')
  case atStart => exact ⟨(0), zq8, H', ⟨Nat.le_refl _⟩, by repeat (first | exact Drawn0.refl _ | apply Drawn0.step)⟩
  case round =>
   clear H'
   obtain ⟨x5_1, rfl, HA, HK1, ⟨m1, rfl⟩⟩ := hrel
   cases gk with
   | zero => exact absurd HA.out (by simp [lw_sameLimbs.l0])
   | succ k1 =>
    have H := HA.out
    clear HA
    simp only [lw_sameLimbs.l0] at H
    by_cases c4 : x5_1 < (l0.length : Int)
    ·rw [if_pos c4] at H
     have c4b0 := decide_eq_true c4
     clear c4
     replace H := zn H
     obtain ⟨c5, H⟩ := H
     have c5b0 := decide_eq_true c5
     clear c5
     replace H := zn H
     obtain ⟨c6, H⟩ := H
     have c6b0 := decide_eq_true c6
     clear c6
     by_cases c7 : (rd l0 x5_1) = (rd l1 x5_1)
     ·rw [if_pos c7] at H
      have c7b0 : ((rd l0 x5_1) == (rd l1 x5_1)) = true := beq_iff_eq.mpr c7
      have c7b1 : ((rd l0 x5_1) != (rd l1 x5_1)) = false := bne_eq_false_iff_eq.mpr c7
      clear c7
      have H' := am H
      clear H
      have p514 : 0 ≤ (x5_1 : Int) := zq6
      have q514 : x5_1 < (l0.length : Int) := zq6
      obtain ⟨ad514, e514, hx514_0⟩ := Kd.at_int HR0.out x5_1 p514 q514
      cases e514
      replace p514 := eq_true p514
      replace q514 := eq_true q514
      have p515 : 0 ≤ (x5_1 : Int) := zq6
      have q515 : x5_1 < (l1.length : Int) := zq6
      obtain ⟨ad515, e515, hx515_0⟩ := Kd.at_int HR1.out x5_1 p515 q515
      cases e515
      replace p515 := eq_true p515
      replace q515 := eq_true q515
      go_wp2
      repeat (go_quiet (fail); try go_wp2)
      go_roundg k1
      case measure => have := HK1.out; omega
      case rel => exact ⟨(wrap64 (x5_1 + 1)), zq8, H', ⟨by have := HK1.out; omega⟩, by repeat (first | exact Drawn0.refl _ | apply Drawn0.step)⟩
     ·rw [if_neg c7] at H
      have c7b0 : ((rd l0 x5_1) == (rd l1 x5_1)) = false := beq_eq_false_iff_ne.mpr c7
      have c7b1 : ((rd l0 x5_1) != (rd l1 x5_1)) = true := bne_iff_ne.mpr c7
      obtain rfl := Option.some.inj H
      have p514 : 0 ≤ (x5_1 : Int) := zq6
      have q514 : x5_1 < (l0.length : Int) := zq6
      obtain ⟨ad514, e514, hx514_0⟩ := Kd.at_int HR0.out x5_1 p514 q514
      cases e514
      replace p514 := eq_true p514
      replace q514 := eq_true q514
      have p515 : 0 ≤ (x5_1 : Int) := zq6
      have q515 : x5_1 < (l1.length : Int) := zq6
      obtain ⟨ad515, e515, hx515_0⟩ := Kd.at_int HR1.out x5_1 p515 q515
      cases e515
      replace p515 := eq_true p515
      replace q515 := eq_true q515
      go_wp2
      repeat (go_quiet (fail); try go_wp2)
      go_ret
      exact ⟨by first | rfl | (simp; done) | (simp [*]; done), by repeat (first | exact Drawn0.refl _ | apply Drawn0.step)⟩
    ·rw [if_neg c4] at H
     have c4b0 := decide_eq_false c4
     clear c4
     obtain rfl := Option.some.inj H
     go_wp2
     repeat (go_quiet (fail); try go_wp2)
     go_ret
     exact ⟨by first | rfl | (simp; done) | (simp [*]; done), by repeat (first | exact Drawn0.refl _ | apply Drawn0.step)⟩
 ·rw [if_neg c3] at H
  have c3b0 : ((l0.length : Int) == (l1.length : Int)) = false := beq_eq_false_iff_ne.mpr c3
  have c3b1 : ((l0.length : Int) != (l1.length : Int)) = true := bne_iff_ne.mpr c3
  have c3b2 : (l0.length == l1.length) = false := by first | simpa using c3 | (simp at c3 ⊢; omega)
  obtain rfl := Option.some.inj H
  go_enter Tryd.func55, Tryd.ntmps55
  go_wp2
  repeat (go_quiet (fail); try go_wp2)
  go_ret
  exact ⟨by first | rfl | (simp; done) | (simp [*]; done), by repeat (first | exact Drawn0.refl _ | apply Drawn0.step)⟩
def lw_same.f (k : Nat) (a0_0 : Bool) (l0_1 : List Int) (l0_2 : List Int) (a1_0 : Bool) (l1_1 : List Int) (l1_2 : List Int) : Option (Bool) := if (a0_0 == a1_0) = true then ((lw_sameLimbs.f k l0_1 l1_1).bind fun t518 => (if t518 = true then ((lw_sameLimbs.f k l0_2 l1_2).bind fun t519 => (some t519)) else (some false))) else (some false)
theorem lw_same.mono : ∀ a0 a1 a2 a3 a4 a5 k, LeO (lw_same.f k a0 a1 a2 a3 a4 a5) (lw_same.f (k + 1) a0 a1 a2 a3 a4 a5) := by
 intro a0 a1 a2 a3 a4 a5 k
 unfold lw_same.f
 have m0 := @lw_sameLimbs.mono
 exact zm
set_option maxHeartbeats 8000000 in
set_option maxRecDepth 100000 in
theorem lw_same.calls (k : Nat) (a0_0 : Bool) (A0_1 : Option Addr) (c0_1 : Nat) (l0_1 : List Int) (A0_2 : Option Addr) (c0_2 : Nat) (l0_2 : List Int) (a1_0 : Bool) (A1_1 : Option Addr) (c1_1 : Nat) (l1_1 : List Int) (A1_2 : Option Addr) (c1_2 : Nat) (l1_2 : List Int) (r : Bool) (w : World) (hr0_1 : Kd.C (Kd.int .u32) w A0_1 l0_1.length l0_1) (hc0_1 : l0_1.length ≤ c0_1) (hr0_2 : Kd.C (Kd.int .u32) w A0_2 l0_2.length l0_2) (hc0_2 : l0_2.length ≤ c0_2) (hr1_1 : Kd.C (Kd.int .u32) w A1_1 l1_1.length l1_1) (hc1_1 : l1_1.length ≤ c1_1) (hr1_2 : Kd.C (Kd.int .u32) w A1_2 l1_2.length l1_2) (hc1_2 : l1_2.length ≤ c1_2) (h : lw_same.f k a0_0 l0_1 l0_2 a1_0 l1_1 l1_2 = some r) :
  Calls Tryd.prog 20 #[.agg #[.bool a0_0, .slice A0_1 l0_1.length c0_1, .slice A0_2 l0_2.length c0_2], .agg #[.bool a1_0, .slice A1_1 l1_1.length c1_1, .slice A1_2 l1_2.length c1_2]] w fun e w' => e = .returned (.bool r) ∧ Below w.heap.size w w' := by
 have hu24 := Tryd.underlying24
 have HR0_1 := am hr0_1
 have HC0_1 := am hc0_1
 clear hr0_1 hc0_1
 have HR0_2 := am hr0_2
 have HC0_2 := am hc0_2
 clear hr0_2 hc0_2
 have HR1_1 := am hr1_1
 have HC1_1 := am hc1_1
 clear hr1_1 hc1_1
 have HR1_2 := am hr1_2
 have HC1_2 := am hc1_2
 clear hr1_2 hc1_2
 have HB := am (Below.refl w.heap.size w)
 have H := h
 unfold lw_same.f at H
 clear h
 by_cases c3 : (a0_0 == a1_0) = true
 ·rw [if_pos c3] at H
  have c3b0 : (a0_0 == a1_0) = true := c3
  (try (have c3b1 : decide (a0_0 = a1_0) = true := by simpa using c3))
  (try (have c3b2 : (a0_0 == a1_0) = true := by simpa using c3))
  clear c3
  replace H := zj H
  obtain ⟨t518, A4, H⟩ := H
  by_cases c5 : t518 = true
  ·subst c5
   have H1 : ((lw_sameLimbs.f k l0_2 l1_2).bind fun t519 => (some t519)) = some r := by rw [if_pos rfl] at H; exact H
   clear H
   have H := H1
   clear H1
   replace H := zj H
   obtain ⟨t519, A6, H⟩ := H
   obtain rfl := Option.some.inj H
   go_enter Tryd.func20, Tryd.ntmps20
   go_wp2_with (first | ((with_reducible refine gate_dst (N := 2) rfl ?_); refine zbox (N := 2) (cs := #[.bool a0_0, .slice A0_1 l0_1.length c0_1, .slice A0_2 l0_2.length c0_2]) (t := 24) ?_; intro gb516 hg w7 hbox hb; have n0_ := am (below_step zq1 hb); have n1_ := am (hbox); have n2_ := am ((zs hg (below_size zq1) : w.heap.size ≤ gb516)); have n3_ := n2_; clear HB; have HB := n0_; have BK516 := n1_; have GW516 := n2_; have GE516 := n3_; clear n0_ n1_ n2_ n3_; clear hb hbox hg) | ((with_reducible refine gate_dst (N := 3) rfl ?_); refine zbox (N := 3) (cs := #[.bool a1_0, .slice A1_1 l1_1.length c1_1, .slice A1_2 l1_2.length c1_2]) (t := 24) ?_; intro gb517 hg w8 hbox hb; have n0_ := am (bb BK516.out hb); have n1_ := am (below_step (zb1 GE516.out) hb); have n2_ := am (hbox); have n3_ := am ((zs hg (below_size (zb1 GE516.out)) : w.heap.size ≤ gb517)); have n4_ := n3_; have n5_ := am ((by rw [hg]; exact Nat.ne_of_lt (bl BK516.out) : gb516 ≠ gb517)); have n6_ := am ((by rw [hg]; exact Nat.ne_of_gt (bl BK516.out) : gb517 ≠ gb516)); clear BK516 HB; have BK516 := n0_; have HB := n1_; have BK517 := n2_; have GW517 := n3_; have GE517 := n4_; have NB516_517 := n5_; have NB517_516 := n6_; clear n0_ n1_ n2_ n3_ n4_ n5_ n6_ hb hbox hg; have hnb9 := NB516_517.out; have hnc9 := NB517_516.out; have hcz10_0 := bc BK516.out 0 (.bool a0_0); have hcz10_1 := bc BK516.out 1 (.slice A0_1 l0_1.length c0_1); have hcz10_2 := bc BK516.out 2 (.slice A0_2 l0_2.length c0_2); have hfz10_0 := blk_frozen BK516.out 0; have hfz10_1 := blk_frozen BK516.out 1; have hfz10_2 := blk_frozen BK516.out 2; have hcz11_0 := bc BK517.out 0 (.bool a1_0); have hcz11_1 := bc BK517.out 1 (.slice A1_1 l1_1.length c1_1); have hcz11_2 := bc BK517.out 2 (.slice A1_2 l1_2.length c1_2); have hfz11_0 := blk_frozen BK517.out 0; have hfz11_1 := blk_frozen BK517.out 1; have hfz11_2 := blk_frozen BK517.out 2) | (go_at_call 55; (with_reducible refine (lw_sameLimbs.calls k _ _ l0_1 _ _ l1_1 true _ ?side1 ?side2 ?side3 ?side4 A4.out).mono ?_); (case side1 => exact zc (Kd.C_below HR0_1.out HB.out)); (case side2 => exact HC0_1.out); (case side3 => exact zc (Kd.C_below HR1_1.out HB.out)); (case side4 => exact HC1_1.out); rintro e w' ⟨rfl, ⟨nd, rfl⟩⟩) | (go_at_call 55; (with_reducible refine (lw_sameLimbs.calls k _ _ l0_2 _ _ l1_2 t519 _ ?side1 ?side2 ?side3 ?side4 A6.out).mono ?_); (case side1 => exact zc (Kd.C_below HR0_2.out (zb2 GE516.out GE517.out))); (case side2 => exact HC0_2.out); (case side3 => exact zc (Kd.C_below HR1_2.out (zb2 GE516.out GE517.out))); (case side4 => exact HC1_2.out); rintro e w' ⟨rfl, ⟨nd, rfl⟩⟩))
   go_ret
   exact ⟨zq9, zb2 GE516.out GE517.out⟩
  ·replace c5 := Bool.eq_false_iff.mpr c5
   subst c5
   have H1 : (some false) = some r := by rw [if_neg (show ¬ (false = true) by decide)] at H; exact H
   clear H
   have H := H1
   clear H1
   obtain rfl := Option.some.inj H
   go_enter Tryd.func20, Tryd.ntmps20
   go_wp2_with (first | ((with_reducible refine gate_dst (N := 2) rfl ?_); refine zbox (N := 2) (cs := #[.bool a0_0, .slice A0_1 l0_1.length c0_1, .slice A0_2 l0_2.length c0_2]) (t := 24) ?_; intro gb516 hg w12 hbox hb; have n0_ := am (below_step zq1 hb); have n1_ := am (hbox); have n2_ := am ((zs hg (below_size zq1) : w.heap.size ≤ gb516)); have n3_ := n2_; clear HB; have HB := n0_; have BK516 := n1_; have GW516 := n2_; have GE516 := n3_; clear n0_ n1_ n2_ n3_; clear hb hbox hg) | ((with_reducible refine gate_dst (N := 3) rfl ?_); refine zbox (N := 3) (cs := #[.bool a1_0, .slice A1_1 l1_1.length c1_1, .slice A1_2 l1_2.length c1_2]) (t := 24) ?_; intro gb517 hg w13 hbox hb; have n0_ := am (bb BK516.out hb); have n1_ := am (below_step (zb1 GE516.out) hb); have n2_ := am (hbox); have n3_ := am ((zs hg (below_size (zb1 GE516.out)) : w.heap.size ≤ gb517)); have n4_ := n3_; have n5_ := am ((by rw [hg]; exact Nat.ne_of_lt (bl BK516.out) : gb516 ≠ gb517)); have n6_ := am ((by rw [hg]; exact Nat.ne_of_gt (bl BK516.out) : gb517 ≠ gb516)); clear BK516 HB; have BK516 := n0_; have HB := n1_; have BK517 := n2_; have GW517 := n3_; have GE517 := n4_; have NB516_517 := n5_; have NB517_516 := n6_; clear n0_ n1_ n2_ n3_ n4_ n5_ n6_ hb hbox hg; have hnb14 := NB516_517.out; have hnc14 := NB517_516.out; have hcz15_0 := bc BK516.out 0 (.bool a0_0); have hcz15_1 := bc BK516.out 1 (.slice A0_1 l0_1.length c0_1); have hcz15_2 := bc BK516.out 2 (.slice A0_2 l0_2.length c0_2); have hfz15_0 := blk_frozen BK516.out 0; have hfz15_1 := blk_frozen BK516.out 1; have hfz15_2 := blk_frozen BK516.out 2; have hcz16_0 := bc BK517.out 0 (.bool a1_0); have hcz16_1 := bc BK517.out 1 (.slice A1_1 l1_1.length c1_1); have hcz16_2 := bc BK517.out 2 (.slice A1_2 l1_2.length c1_2); have hfz16_0 := blk_frozen BK517.out 0; have hfz16_1 := blk_frozen BK517.out 1; have hfz16_2 := blk_frozen BK517.out 2) | (go_at_call 55; (with_reducible refine (lw_sameLimbs.calls k _ _ l0_1 _ _ l1_1 false _ ?side1 ?side2 ?side3 ?side4 A4.out).mono ?_); (case side1 => exact zc (Kd.C_below HR0_1.out HB.out)); (case side2 => exact HC0_1.out); (case side3 => exact zc (Kd.C_below HR1_1.out HB.out)); (case side4 => exact HC1_1.out); rintro e w' ⟨rfl, ⟨nd, rfl⟩⟩))
   go_ret
   exact ⟨zq9, zb2 GE516.out GE517.out⟩
 ·rw [if_neg c3] at H
  have c3b0 : (a0_0 == a1_0) = false := by simpa using c3
  (try (have c3b1 : decide (a0_0 = a1_0) = false := by simpa using c3))
  (try (have c3b2 : (a0_0 == a1_0) = false := by simpa using c3))
  (try (have c3b3 : ¬ (a0_0 = a1_0) := by simpa using c3))
  clear c3
  obtain rfl := Option.some.inj H
  go_enter Tryd.func20, Tryd.ntmps20
  go_wp2_with (first | ((with_reducible refine gate_dst (N := 2) rfl ?_); refine zbox (N := 2) (cs := #[.bool a0_0, .slice A0_1 l0_1.length c0_1, .slice A0_2 l0_2.length c0_2]) (t := 24) ?_; intro gb516 hg w17 hbox hb; have n0_ := am (below_step zq1 hb); have n1_ := am (hbox); have n2_ := am ((zs hg (below_size zq1) : w.heap.size ≤ gb516)); have n3_ := n2_; clear HB; have HB := n0_; have BK516 := n1_; have GW516 := n2_; have GE516 := n3_; clear n0_ n1_ n2_ n3_; clear hb hbox hg) | ((with_reducible refine gate_dst (N := 3) rfl ?_); refine zbox (N := 3) (cs := #[.bool a1_0, .slice A1_1 l1_1.length c1_1, .slice A1_2 l1_2.length c1_2]) (t := 24) ?_; intro gb517 hg w18 hbox hb; have n0_ := am (bb BK516.out hb); have n1_ := am (below_step (zb1 GE516.out) hb); have n2_ := am (hbox); have n3_ := am ((zs hg (below_size (zb1 GE516.out)) : w.heap.size ≤ gb517)); have n4_ := n3_; have n5_ := am ((by rw [hg]; exact Nat.ne_of_lt (bl BK516.out) : gb516 ≠ gb517)); have n6_ := am ((by rw [hg]; exact Nat.ne_of_gt (bl BK516.out) : gb517 ≠ gb516)); clear BK516 HB; have BK516 := n0_; have HB := n1_; have BK517 := n2_; have GW517 := n3_; have GE517 := n4_; have NB516_517 := n5_; have NB517_516 := n6_; clear n0_ n1_ n2_ n3_ n4_ n5_ n6_ hb hbox hg; have hnb19 := NB516_517.out; have hnc19 := NB517_516.out; have hcz20_0 := bc BK516.out 0 (.bool a0_0); have hcz20_1 := bc BK516.out 1 (.slice A0_1 l0_1.length c0_1); have hcz20_2 := bc BK516.out 2 (.slice A0_2 l0_2.length c0_2); have hfz20_0 := blk_frozen BK516.out 0; have hfz20_1 := blk_frozen BK516.out 1; have hfz20_2 := blk_frozen BK516.out 2; have hcz21_0 := bc BK517.out 0 (.bool a1_0); have hcz21_1 := bc BK517.out 1 (.slice A1_1 l1_1.length c1_1); have hcz21_2 := bc BK517.out 2 (.slice A1_2 l1_2.length c1_2); have hfz21_0 := blk_frozen BK517.out 0; have hfz21_1 := blk_frozen BK517.out 1; have hfz21_2 := blk_frozen BK517.out 2))
  go_ret
  exact ⟨zq9, zb2 GE516.out GE517.out⟩
def rf_trim.l0 : Nat → List Int → Option (List Int)
 | 0, _ => none
 | k + 1, x0 => if (x0.length : Int) > 0 then (if 0 ≤ (wrap64 ((x0.length : Int) - 1)) then (if (wrap64 ((x0.length : Int) - 1)) < (x0.length : Int) then (if (rd x0 (wrap64 ((x0.length : Int) - 1))) = 0 then (if (wrap64 ((x0.length : Int) - 1)) ≤ (x0.length : Int) then (rf_trim.l0 k (x0.take ((wrap64 ((x0.length : Int) - 1)) : Int).toNat)) else (none)) else (some x0)) else (none)) else (none)) else (some x0)
def rf_trim.f (k : Nat) (l0 : List Int) : Option (List Int) := rf_trim.l0 k l0
theorem rf_trim.mono_l : ∀ k, (∀ y0, LeO (rf_trim.l0 k y0) (rf_trim.l0 (k + 1) y0))
 | 0 => fun _ r h => by simp [rf_trim.l0] at h
 | k + 1 => by
  have ih0 := rf_trim.mono_l k
  ·intro y0
   unfold rf_trim.l0
   have m0 := ih0
   exact zm
theorem rf_trim.mono : ∀ a0 k, LeO (rf_trim.f k a0) (rf_trim.f (k + 1) a0) := by
 intro a0 k
 have ih0 := rf_trim.mono_l k
 unfold rf_trim.f
 have m0 := ih0
 exact zm
set_option maxHeartbeats 8000000 in
set_option maxRecDepth 100000 in
theorem rf_trim.calls (k : Nat) (P0_ : Nat → Prop) (A0 : Option Addr) (c0 : Nat) (l0 : List Int) (r : List Int) (w : World) (hs0 : Kd.V (Kd.int .i64) 3 w w.heap.size (fun k_ => P0_ k_) (.slice A0 l0.length c0) l0) (h : rf_trim.f k l0 = some r) :
  Calls Tryd.prog 96 #[.slice A0 l0.length c0] w fun e w' => ∃ v0_ : Value, e = .returned (v0_) ∧ Kd.V (Kd.int .i64) 3 w' w.heap.size (fun k_ => (P0_ k_ ∨ w.heap.size ≤ k_)) v0_ r ∧ Below w.heap.size w w' := by
 have HO0 := am (show Kd.V (Kd.int .i64) 3 w w.heap.size (fun k_ => (P0_ k_ ∨ w.heap.size ≤ k_)) (.slice A0 l0.length c0) l0 from Kd.V_mono hs0 (fun k_ hk => .inl hk))
 have HB := am (Below.refl w.heap.size w)
 have H := h
 unfold rf_trim.f at H
 clear h
 have H' := am H
 clear H
 go_enter Tryd.func96, Tryd.ntmps96
 go_wp2
 go_loopg [0] k (fun kq v0 w' => ∃ (x0_1 : List Int), Aside0 (rf_trim.l0 kq x0_1 = some r) ∧ Aside0 (kq ≤ k) ∧ Aside0 (Kd.V (Kd.int .i64) 3 w' w.heap.size (fun k_ => (P0_ k_ ∨ w.heap.size ≤ k_)) v0 x0_1) ∧ Aside0 (Below w.heap.size w w'))
 case atStart => exact ⟨(l0), H', ⟨Nat.le_refl _⟩, ⟨zq3 HO0.out⟩, ⟨zq1⟩⟩
 case round =>
  clear H'
  obtain ⟨x0_1, HA, HK1, HO_0, HB⟩ := hrel
  cases gk with
  | zero => exact absurd HA.out (by simp [rf_trim.l0])
  | succ k1 =>
   have H := HA.out
   clear HA
   simp only [rf_trim.l0] at H
   by_cases c2 : (x0_1.length : Int) > 0
   ·rw [if_pos c2] at H
    have c2b0 : decide (0 < (x0_1.length : Int)) = true := decide_eq_true c2
    have c2b1 : decide (0 < x0_1.length) = true := decide_eq_true (by omega)
    clear c2
    obtain ⟨ji3, hji3⟩ : ∃ j_ : Int, (wrap64 ((x0_1.length : Int) - 1)) = j_ := ⟨_, rfl⟩
    replace H : (if 0 ≤ (ji3) then (if (ji3) < (x0_1.length : Int) then (if (rd x0_1 (ji3)) = 0 then (if (ji3) ≤ (x0_1.length : Int) then (rf_trim.l0 k1 (x0_1.take ((ji3) : Int).toNat)) else (none)) else (some x0_1)) else (none)) else (none)) = some r := by first | (rw [hji3] at H; exact H) | (simp only [hji3] at H ⊢; exact H)
    have hji3w : (IntKind.i64.wrap ((x0_1.length : Int) - 1)) = ji3 := (i64_w _).trans hji3
    replace H := zn H
    obtain ⟨c4, H⟩ := H
    have c4b0 := decide_eq_true c4
    clear c4
    replace H := zn H
    obtain ⟨c5, H⟩ := H
    have c5b0 := decide_eq_true c5
    clear c5
    by_cases c6 : (rd x0_1 (ji3)) = 0
    ·rw [if_pos c6] at H
     have c6b0 : ((rd x0_1 (ji3)) == 0) = true := beq_iff_eq.mpr c6
     have c6b1 : ((rd x0_1 (ji3)) != 0) = false := bne_eq_false_iff_eq.mpr c6
     clear c6
     have c7b0 := eq_true (zq6 : 0 ≤ (ji3))
     replace H := zn H
     obtain ⟨c8, H⟩ := H
     have c8b0 := eq_true c8
     have c8b1 := decide_eq_true c8
     clear c8
     obtain ⟨y521, hy521⟩ : ∃ y_ : List Int, y_ = (x0_1.take ((ji3) : Int).toNat) := ⟨_, rfl⟩
     try rw [← hy521] at H
     have Ny521 := am hy521
     clear hy521
     have H' := am H
     clear H
     obtain ⟨Ao9, co9, eo9⟩ := Kd.V_slice HO_0.out
     subst eo9
     have p520 : 0 ≤ ((ji3) : Int) := zq6
     have q520 : (ji3) < (x0_1.length : Int) := zq6
     obtain ⟨ad520, e520, hx520_0⟩ := Kd.at_int (Kd.V_reads' HO_0.out).2.2 (ji3) p520 q520
     cases e520
     replace p520 := eq_true p520
     replace q520 := eq_true q520
     have q10 : ((ji3) : Int) ≤ ((x0_1.length : Int) : Int) := zq6
     obtain ⟨i010, hi010, _, hsz10, _⟩ := info_parts info3
     have hroom10 : x0_1.length ≤ co9 := (Kd.V_reads' HO_0.out).2.1
     have hC10 : Kd.F (Kd.int .i64) _ _ (some ad520) x0_1.length x0_1 := (Kd.V_at (base := w.heap.size) HO_0.out).2.2
     have hcut10 := cut_to (P := Tryd.prog) 39 3 .i64 Tryd.underlying39 hi010 (some ad520) x0_1.length co9 (ji3) zq6 q10 hroom10
     have hr10 := Kd.F_take (m := ((ji3) : Int).toNat) hC10 (by omega)
     have hy10 : y521.length = ((ji3) : Int).toNat := (by rw [Ny521.out, List.length_take]; omega)
     rw [← Ny521.out] at hr10
     rw [← hy10] at hcut10
     have HO525 := am (show Kd.V (Kd.int .i64) 3 _ w.heap.size _ (.slice (some ad520) y521.length co9) y521 from Kd.V_mk (by omega) hr10)
     have HC525 := am (show y521.length ≤ co9 from by omega)
     clear hr10 hC10 hroom10 hi010 hsz10
     have KY10 := am hy10
     clear hy10
     replace q10 := eq_true q10
     go_wp2
     go_roundg k1
     case measure => have := HK1.out; omega
     case rel => exact ⟨(y521), (by first | exact H' | (rw [hji3]; exact H')), ⟨by have := HK1.out; omega⟩, ⟨zq3 HO525.out⟩, ⟨zq1⟩⟩
    ·rw [if_neg c6] at H
     have c6b0 : ((rd x0_1 (ji3)) == 0) = false := beq_eq_false_iff_ne.mpr c6
     have c6b1 : ((rd x0_1 (ji3)) != 0) = true := bne_iff_ne.mpr c6
     obtain rfl := Option.some.inj H
     obtain ⟨Ao11, co11, eo11⟩ := Kd.V_slice HO_0.out
     subst eo11
     have p520 : 0 ≤ ((ji3) : Int) := zq6
     have q520 : (ji3) < (x0_1.length : Int) := zq6
     obtain ⟨ad520, e520, hx520_0⟩ := Kd.at_int (Kd.V_reads' HO_0.out).2.2 (ji3) p520 q520
     cases e520
     replace p520 := eq_true p520
     replace q520 := eq_true q520
     go_wp2
     go_ret
     exact ⟨_, by first | rfl | (simp [errW_none, errW_some] <;> rfl) | (simp only [← hji3]; first | rfl | (simp [errW_none, errW_some] <;> rfl)) | (simp [*, errW_none, errW_some] <;> rfl), zq3 HO_0.out, zq1⟩
   ·rw [if_neg c2] at H
    have c2b0 : decide (0 < (x0_1.length : Int)) = false := decide_eq_false c2
    have c2b1 : decide (0 < x0_1.length) = false := decide_eq_false (by omega)
    clear c2
    obtain rfl := Option.some.inj H
    obtain ⟨Ao12, co12, eo12⟩ := Kd.V_slice HO_0.out
    subst eo12
    go_wp2
    go_ret
    exact ⟨_, zq9, zq3 HO_0.out, zq1⟩
def rf_natOf.l0 : Nat → List Int → List Int → Int → Int → Option (List Int)
 | 0, _, _, _, _ => none
 | k + 1, x3, x6, x7, x8 => if x8 < x7 then (if 0 ≤ x8 then (if x8 < (x6.length : Int) then ((some (([wrap64 (Go.bits .and .u32 (rd x6 x8) 65535), wrap64 ((rd x6 x8) / 65536)] : List Int) : List Int)).bind fun y527 => (if x3.length + y527.length < 17592186044416 then (rf_natOf.l0 k (x3 ++ y527) x6 x7 (wrap64 (x8 + 1))) else (none))) else (none)) else (none)) else ((rf_trim.f k x3).bind fun t533 => (some t533))
def rf_natOf.f (k : Nat) (l0 : List Int) : Option (List Int) := rf_natOf.l0 k ([] : List Int) l0 (l0.length : Int) 0
theorem rf_natOf.mono_l : ∀ k, (∀ y0 y1 y2 y3, LeO (rf_natOf.l0 k y0 y1 y2 y3) (rf_natOf.l0 (k + 1) y0 y1 y2 y3))
 | 0 => fun _ _ _ _ r h => by simp [rf_natOf.l0] at h
 | k + 1 => by
  have ih0 := rf_natOf.mono_l k
  ·intro y0 y1 y2 y3
   unfold rf_natOf.l0
   have m0 := ih0
   have m1 := @rf_trim.mono
   exact zm
theorem rf_natOf.mono : ∀ a0 k, LeO (rf_natOf.f k a0) (rf_natOf.f (k + 1) a0) := by
 intro a0 k
 have ih0 := rf_natOf.mono_l k
 unfold rf_natOf.f
 have m0 := ih0
 have m1 := @rf_trim.mono
 exact zm
set_option maxHeartbeats 8000000 in
set_option maxRecDepth 100000 in
theorem rf_natOf.calls (k : Nat) (A0 : Option Addr) (c0 : Nat) (l0 : List Int) (r : List Int) (w : World) (hr0 : Kd.C (Kd.int .u32) w A0 l0.length l0) (hc0 : l0.length ≤ c0) (h : rf_natOf.f k l0 = some r) :
  Calls Tryd.prog 45 #[.slice A0 l0.length c0] w fun e w' => ∃ v0_ : Value, e = .returned (v0_) ∧ Kd.V (Kd.int .i64) 3 w' w.heap.size (fun k_ => (w.heap.size ≤ k_)) v0_ r ∧ Below w.heap.size w w' := by
 have HR0 := am hr0
 have HC0 := am hc0
 clear hr0 hc0
 have HB := am (Below.refl w.heap.size w)
 have H := h
 unfold rf_natOf.f at H
 clear h
 have H' := am H
 clear H
 go_enter Tryd.func45, Tryd.ntmps45
 go_wp2
 go_loopg [3, 8] k (fun kq v3 v8 w' => ∃ (x3_1 : List Int) (x8_1 : Int), v8 = .int .i64 x8_1 ∧ Aside0 (rf_natOf.l0 kq x3_1 l0 (l0.length : Int) x8_1 = some r) ∧ Aside0 (kq ≤ k) ∧ Aside0 (Kd.R (Kd.int .i64) 3 w' w.heap.size (fun k_ => (w.heap.size ≤ k_)) v3 x3_1) ∧ Aside0 (Below w.heap.size w w'))
 case atStart => exact ⟨(([] : List Int)), (0), zq8, H', ⟨Nat.le_refl _⟩, ⟨by first | exact Kd.R_nil _ _ _ _ _ | exact Kd.N_nil _ _ _ _ _ | exact Kd.V_nil _ _ _ _ _ | exact Kd.Q_nil _ _ _ _ _ | exact Kd.S_nil _ _ _ _ _⟩, ⟨zq1⟩⟩
 case round =>
  clear H'
  obtain ⟨x3_1, x8_1, rfl, HA, HK1, HO_3, HB⟩ := hrel
  cases gk with
  | zero => exact absurd HA.out (by simp [rf_natOf.l0])
  | succ k1 =>
   have H := HA.out
   clear HA
   simp only [rf_natOf.l0] at H
   by_cases c2 : x8_1 < (l0.length : Int)
   ·rw [if_pos c2] at H
    have c2b0 := decide_eq_true c2
    clear c2
    replace H := zn H
    obtain ⟨c3, H⟩ := H
    have c3b0 := decide_eq_true c3
    clear c3
    replace H := zn H
    obtain ⟨c4, H⟩ := H
    have c4b0 := decide_eq_true c4
    clear c4
    obtain ⟨y527, hy527⟩ : ∃ y_ : List Int, y_ = (([wrap64 (Go.bits .and .u32 (rd l0 x8_1) 65535), wrap64 ((rd l0 x8_1) / 65536)] : List Int)) := ⟨_, rfl⟩
    try rw [← hy527] at H
    have Ny527 := am hy527
    clear hy527
    replace H := zn H
    obtain ⟨c5, H⟩ := H
    have LMc5 := am c5
    clear c5
    obtain ⟨y530, hy530⟩ : ∃ y_ : List Int, y_ = (x3_1 ++ y527) := ⟨_, rfl⟩
    try rw [← hy530] at H
    have Ny530 := am hy530
    clear hy530
    have H' := am H
    clear H
    have p526 : 0 ≤ (x8_1 : Int) := zq6
    have q526 : x8_1 < (l0.length : Int) := zq6
    obtain ⟨ad526, e526, hx526_0⟩ := Kd.at_int HR0.out x8_1 p526 q526
    cases e526
    replace hx526_0 := (HB.out.cell (World.block_lt_of_cell? w _ hx526_0)).trans hx526_0
    replace p526 := eq_true p526
    replace q526 := eq_true q526
    go_wp2_with (first | ((with_reducible refine gate_dst (N := 19) rfl ?_); refine Kd.R_lit (Kd.int .i64) _ 3 ?hg (N := 19) ?hd (xs := ([wrap64 (Go.bits .and .u32 (rd l0 x8_1) 65535), wrap64 ((rd l0 x8_1) / 65536)] : List Int)) (inner := [.int .i64 (wrap64 (Go.bits .and .u32 (rd l0 x8_1) 65535)), .int .i64 (wrap64 ((rd l0 x8_1) / 65536))]) (ok := fun _ => True) (okp := fun _ => True) ?hr ?hp (fun _ hk => hk) trivial (Below.refl _ _) (Nat.le_refl _) (by simp) ?_; (case hd => rfl); (case hg => rfl); (case hr => exact zr); (case hp => exact (Reps.one (show Kd.M (Kd.int .i64) _ _ _ (wrap64 (Go.bits .and .u32 (rd l0 x8_1) 65535)) [.int .i64 (wrap64 (Go.bits .and .u32 (rd l0 x8_1) 65535))] from rfl) (Reps.one (show Kd.M (Kd.int .i64) _ _ _ (wrap64 ((rd l0 x8_1) / 65536)) [.int .i64 (wrap64 ((rd l0 x8_1) / 65536))] from rfl) (Reps.none _ _)))); intro v528 w6 ho7 hb hg_ hnew_; clear hg_ hnew_; (first | rw [← Ny527.out] at ho7 | (simp only [Int.reduceToNat] at ho7; rw [← Ny527.out] at ho7)); have n0_ := am (Kd.R_elder' (zq4 HO_3.out) (Kd.R_base ho7) hb); have n1_ := am (Kd.R_lower (Kd.R_new' (Kd.R_newM (M := fun k_ => (w.heap.size ≤ k_)) ho7 (below_size zq1) (fun k_ h_ => h_)) (Kd.R_lt (zq4 HO_3.out))) (below_size zq1)); have n2_ := am (below_step zq1 hb); clear HO_3 HB; have HO_3 := n0_; have HO529 := n1_; have HB := n2_; clear n0_ n1_ n2_ hb ho7; obtain ⟨Ao9, co9, eo9⟩ := Kd.R_slice HO529.out; subst eo9) | ((with_reducible refine gate_builtin (b := .append) (xs := #[.tmp 12, .tmp 19]) rfl ?_); at_builtin; refine Kd.R_append_rows (Kd.int .i64) (w0 := w) w.heap.size rfl (.tmp 12) (.tmp 19) 39 3 (.int .i64 0) 8 rfl Tryd.underlying39 info3 rfl (by decide) (by omega) u3 x3_1 y527 _ _ _ (fun k_ => (w.heap.size ≤ k_) ∧ some k_ ≠ (.slice Ao9 y527.length co9 : Value).ownBlock) (fun _ => False) rfl rfl ?aO ?aR (fun _ _ h => h) (fun _ h => h.elim) ?aF ?aB ?aS ?aL ?_; (case aR => repeat (first | exact (Kd.R_reads' HO529.out).2.2 | (with_reducible refine Kd.C_alloc ?_ _) | (with_reducible refine Kd.C_drewN ?_ _) | (with_reducible refine Kd.C_drew ?_))); (case aB => exact zq1); (case aF => exact (fun k_ hk => ⟨(Nat.le_trans (below_size zq1) hk), Kd.fresh' (Kd.R_lt (zq4 HO529.out)) k_ hk⟩)); (case aO => exact (zq4 HO_3.out)); (case aS => exact (below_size zq1)); (case aL => have := LMc5.out; omega); intro v531 w8 ho hb hg hat; rw [← Ny530.out] at ho; have n0_ := am (Kd.R_after (ok := (fun k_ => (w.heap.size ≤ k_))) (by (with_reducible repeat (first | apply Kd.R_alloc | apply Kd.R_drewN | apply Kd.R_drew)); exact Kd.R_mono HO529.out (fun _ hk => ⟨hk.1.1, hk.2⟩)) hg hat); have n1_ := am (hb); have n2_ := am (ho); clear HO529 HB HO_3; have HO529 := n0_; have HB := n1_; have HO532 := n2_; clear n0_ n1_ n2_; clear ho hb hg hat))
    go_roundg k1
    case measure => have := HK1.out; omega
    case rel => exact ⟨(y530), (wrap64 (x8_1 + 1)), zq8, H', ⟨by have := HK1.out; omega⟩, ⟨by (with_reducible repeat (first | apply Kd.R_alloc | apply Kd.R_drewN | apply Kd.R_drew)); exact Kd.R_mono HO532.out (fun _ hk => hk.1)⟩, ⟨zq1⟩⟩
   ·rw [if_neg c2] at H
    have c2b0 := decide_eq_false c2
    clear c2
    replace H := zj H
    obtain ⟨t533, A10, H⟩ := H
    obtain rfl := Option.some.inj H
    obtain ⟨Ao11, co11, eo11⟩ := Kd.R_slice HO_3.out
    subst eo11
    go_wp2_with (first | ((with_reducible refine gate_callee (f := 96) rfl ?_); refine goesL_ (some 23) rfl rfl Tryd.func96 (by kernel_rfl) rfl #[.slice Ao11 x3_1.length co11] rfl zq5 ?_; (with_reducible refine (rf_trim.calls k1 (fun k_ => some k_ = (.slice Ao11 x3_1.length co11 : Value).ownBlock) _ _ x3_1 t533 _ ?side1 A10.out).mono ?_); (case side1 => exact Kd.R_V (Kd.R_tight rfl (HO_3.out))); rintro e w12 ⟨v534, rfl, ho0, hb⟩; refine ⟨_, rfl, ?_⟩; have n0_ := am (Kd.R_below (zq4 HO_3.out) hb); have n1_ := am (Kd.V_lower (Kd.V_mono (ok' := fun k_ => (w.heap.size ≤ k_)) ho0 (fun k_ hk_ => Or.elim hk_ (fun hs_ => ((HO_3.out).1 k_ hs_.symm)) (fun hn_ => (Nat.le_trans (below_size zq1) hn_)))) (below_size zq1)); have n2_ := am (below_step zq1 hb); clear HO_3 HB; have HO_3 := n0_; have HO535 := n1_; have HB := n2_; clear n0_ n1_ n2_))
    go_ret
    exact ⟨_, zq9, zq3 HO535.out, zq1⟩
def rf_digit.f (l0 : List Int) (a1 : Int) : Option (Int) := if a1 < (l0.length : Int) then (if 0 ≤ a1 then (some (rd l0 a1)) else (none)) else (some 0)
set_option maxHeartbeats 8000000 in
set_option maxRecDepth 100000 in
theorem rf_digit.calls (A0 : Option Addr) (c0 : Nat) (l0 : List Int) (a1 : Int) (r : Int) (w : World) (hr0 : Kd.C (Kd.int .i64) w A0 l0.length l0) (hc0 : l0.length ≤ c0) (h : rf_digit.f l0 a1 = some r) :
  Calls Tryd.prog 97 #[.slice A0 l0.length c0, .int .i64 a1] w fun e w' => e = .returned (.int .i64 r) ∧ Drawn0 w w' := by
 have HR0 := am hr0
 have HC0 := am hc0
 clear hr0 hc0
 have H := h
 unfold rf_digit.f at H
 clear h
 by_cases c3 : a1 < (l0.length : Int)
 ·rw [if_pos c3] at H
  have c3b0 := decide_eq_true c3
  clear c3
  replace H := zn H
  obtain ⟨c4, H⟩ := H
  have c4b0 := decide_eq_true c4
  clear c4
  obtain rfl := Option.some.inj H
  have p536 : 0 ≤ (a1 : Int) := zq6
  have q536 : a1 < (l0.length : Int) := zq6
  obtain ⟨ad536, e536, hx536_0⟩ := Kd.at_int HR0.out a1 p536 q536
  cases e536
  replace p536 := eq_true p536
  replace q536 := eq_true q536
  go_enter Tryd.func97, Tryd.ntmps97
  go_wp2
  go_ret
  exact ⟨by first | rfl | (simp; done) | (simp [*]; done), by repeat (first | exact Drawn0.refl _ | apply Drawn0.step)⟩
 ·rw [if_neg c3] at H
  have c3b0 := decide_eq_false c3
  clear c3
  obtain rfl := Option.some.inj H
  go_enter Tryd.func97, Tryd.ntmps97
  go_wp2
  go_ret
  exact ⟨by first | rfl | (simp; done) | (simp [*]; done), by repeat (first | exact Drawn0.refl _ | apply Drawn0.step)⟩
def rf_CmpNat.l0 : Nat → List Int → List Int → Int → Option (Int)
 | 0, _, _, _ => none
 | k + 1, x0, x1, x5 => if x5 ≥ 0 then ((rf_digit.f x0 x5).bind fun t537 => ((rf_digit.f x1 x5).bind fun t538 => (if t537 < t538 then (some (-1)) else (if t537 > t538 then (some 1) else (rf_CmpNat.l0 k x0 x1 (wrap64 (x5 - 1))))))) else (some 0)
def rf_CmpNat.f (k : Nat) (l0 : List Int) (l1 : List Int) : Option (Int) := rf_CmpNat.l0 k l0 l1 (wrap64 ((mx (l0.length : Int) (l1.length : Int)) - 1))
theorem rf_CmpNat.mono_l : ∀ k, (∀ y0 y1 y2, LeO (rf_CmpNat.l0 k y0 y1 y2) (rf_CmpNat.l0 (k + 1) y0 y1 y2))
 | 0 => fun _ _ _ r h => by simp [rf_CmpNat.l0] at h
 | k + 1 => by
  have ih0 := rf_CmpNat.mono_l k
  ·intro y0 y1 y2
   unfold rf_CmpNat.l0
   have m0 := ih0
   exact zm
theorem rf_CmpNat.mono : ∀ a0 a1 k, LeO (rf_CmpNat.f k a0 a1) (rf_CmpNat.f (k + 1) a0 a1) := by
 intro a0 a1 k
 have ih0 := rf_CmpNat.mono_l k
 unfold rf_CmpNat.f
 have m0 := ih0
 exact zm
set_option maxHeartbeats 8000000 in
set_option maxRecDepth 100000 in
theorem rf_CmpNat.calls (k : Nat) (A0 : Option Addr) (c0 : Nat) (l0 : List Int) (A1 : Option Addr) (c1 : Nat) (l1 : List Int) (r : Int) (w : World) (hr0 : Kd.C (Kd.int .i64) w A0 l0.length l0) (hc0 : l0.length ≤ c0) (hr1 : Kd.C (Kd.int .i64) w A1 l1.length l1) (hc1 : l1.length ≤ c1) (h : rf_CmpNat.f k l0 l1 = some r) :
  Calls Tryd.prog 46 #[.slice A0 l0.length c0, .slice A1 l1.length c1] w fun e w' => e = .returned (.int .i64 r) ∧ Below w.heap.size w w' := by
 have HR0 := am hr0
 have HC0 := am hc0
 clear hr0 hc0
 have HR1 := am hr1
 have HC1 := am hc1
 clear hr1 hc1
 have HB := am (Below.refl w.heap.size w)
 have H := h
 unfold rf_CmpNat.f at H
 clear h
 obtain ⟨ji3, hji3⟩ : ∃ j_ : Int, (mx (l0.length : Int) (l1.length : Int)) = j_ := ⟨_, rfl⟩
 replace H : (rf_CmpNat.l0 k l0 l1 (wrap64 ((ji3) - 1))) = some r := by first | (rw [hji3] at H; exact H) | (simp only [hji3] at H ⊢; exact H)
 (try (have hji3l : 0 ≤ ji3 := by (rw [← hji3]; unfold mx; (repeat' split) <;> omega)))
 (try (have hji3m : 0 ≤ ji3 := by omega))
 have hji3_ : (if (l0.length : Int) < (l1.length : Int) then (l1.length : Int) else (l0.length : Int)) = ji3 := hji3
 (try (have hji3__ : (if l0.length < l1.length then (l1.length : Int) else (l0.length : Int)) = ji3 := by rw [← hji3_]; simp only [Int.ofNat_lt]))
 have H' := am H
 clear H
 go_enter Tryd.func46, Tryd.ntmps46
 go_wp2
 go_loopg [5] k (fun kq v5 w' => ∃ (x5_1 : Int), v5 = .int .i64 x5_1 ∧ Aside0 (rf_CmpNat.l0 kq l0 l1 x5_1 = some r) ∧ Aside0 (kq ≤ k) ∧ Aside0 (Below w.heap.size w w'))
 case atStart => exact ⟨(wrap64 ((ji3) - 1)), (by first | rfl | (simp; done) | (simp only [← hji3] <;> (first | rfl | simp)) | (simp [*]; done)), H', ⟨Nat.le_refl _⟩, ⟨zq1⟩⟩
 case round =>
  clear H'
  obtain ⟨x5_1, rfl, HA, HK1, HB⟩ := hrel
  cases gk with
  | zero => exact absurd HA.out (by simp [rf_CmpNat.l0])
  | succ k1 =>
   have H := HA.out
   clear HA
   simp only [rf_CmpNat.l0] at H
   by_cases c4 : x5_1 ≥ 0
   ·rw [if_pos c4] at H
    have c4b0 : decide (0 ≤ x5_1) = true := decide_eq_true c4
    clear c4
    replace H := zj H
    obtain ⟨t537, A5, H⟩ := H
    replace H := zj H
    obtain ⟨t538, A6, H⟩ := H
    by_cases c7 : t537 < t538
    ·rw [if_pos c7] at H
     have c7b0 := decide_eq_true c7
     clear c7
     obtain rfl := Option.some.inj H
     go_wp2_with (first | ((with_reducible refine gate_callee (f := 97) rfl ?_); refine goesL_ (some 20) rfl rfl Tryd.func97 (by kernel_rfl) rfl #[.slice A0 l0.length c0, .int .i64 x5_1] rfl zq5 ?_; (with_reducible refine (rf_digit.calls _ _ l0 x5_1 t537 _ ?side1 ?side2 A5.out).mono ?_); (case side1 => exact zc (Kd.C_below HR0.out HB.out)); (case side2 => exact HC0.out); rintro e w' ⟨rfl, ⟨nd, rfl⟩⟩; refine ⟨_, rfl, ?_⟩) | ((with_reducible refine gate_callee (f := 97) rfl ?_); refine goesL_ (some 23) rfl rfl Tryd.func97 (by kernel_rfl) rfl #[.slice A1 l1.length c1, .int .i64 x5_1] rfl zq5 ?_; (with_reducible refine (rf_digit.calls _ _ l1 x5_1 t538 _ ?side1 ?side2 A6.out).mono ?_); (case side1 => exact zc (Kd.C_below HR1.out zq1)); (case side2 => exact HC1.out); rintro e w' ⟨rfl, ⟨nd, rfl⟩⟩; refine ⟨_, rfl, ?_⟩))
     go_ret
     exact ⟨by first | rfl | (simp [errW_none, errW_some] <;> rfl) | (simp only [← hji3]; first | rfl | (simp [errW_none, errW_some] <;> rfl)) | (simp [*, errW_none, errW_some] <;> rfl), zq1⟩
    ·rw [if_neg c7] at H
     have c7b0 := decide_eq_false c7
     clear c7
     by_cases c8 : t537 > t538
     ·rw [if_pos c8] at H
      have c8b0 : decide (t538 < t537) = true := decide_eq_true c8
      clear c8
      obtain rfl := Option.some.inj H
      go_wp2_with (first | ((with_reducible refine gate_callee (f := 97) rfl ?_); refine goesL_ (some 20) rfl rfl Tryd.func97 (by kernel_rfl) rfl #[.slice A0 l0.length c0, .int .i64 x5_1] rfl zq5 ?_; (with_reducible refine (rf_digit.calls _ _ l0 x5_1 t537 _ ?side1 ?side2 A5.out).mono ?_); (case side1 => exact zc (Kd.C_below HR0.out HB.out)); (case side2 => exact HC0.out); rintro e w' ⟨rfl, ⟨nd, rfl⟩⟩; refine ⟨_, rfl, ?_⟩) | ((with_reducible refine gate_callee (f := 97) rfl ?_); refine goesL_ (some 23) rfl rfl Tryd.func97 (by kernel_rfl) rfl #[.slice A1 l1.length c1, .int .i64 x5_1] rfl zq5 ?_; (with_reducible refine (rf_digit.calls _ _ l1 x5_1 t538 _ ?side1 ?side2 A6.out).mono ?_); (case side1 => exact zc (Kd.C_below HR1.out zq1)); (case side2 => exact HC1.out); rintro e w' ⟨rfl, ⟨nd, rfl⟩⟩; refine ⟨_, rfl, ?_⟩))
      go_ret
      exact ⟨by first | rfl | (simp [errW_none, errW_some] <;> rfl) | (simp only [← hji3]; first | rfl | (simp [errW_none, errW_some] <;> rfl)) | (simp [*, errW_none, errW_some] <;> rfl), zq1⟩
     ·rw [if_neg c8] at H
      have c8b0 : decide (t538 < t537) = false := decide_eq_false c8
      clear c8
      have H' := am H
      clear H
      go_wp2_with (first | ((with_reducible refine gate_callee (f := 97) rfl ?_); refine goesL_ (some 20) rfl rfl Tryd.func97 (by kernel_rfl) rfl #[.slice A0 l0.length c0, .int .i64 x5_1] rfl zq5 ?_; (with_reducible refine (rf_digit.calls _ _ l0 x5_1 t537 _ ?side1 ?side2 A5.out).mono ?_); (case side1 => exact zc (Kd.C_below HR0.out HB.out)); (case side2 => exact HC0.out); rintro e w' ⟨rfl, ⟨nd, rfl⟩⟩; refine ⟨_, rfl, ?_⟩) | ((with_reducible refine gate_callee (f := 97) rfl ?_); refine goesL_ (some 23) rfl rfl Tryd.func97 (by kernel_rfl) rfl #[.slice A1 l1.length c1, .int .i64 x5_1] rfl zq5 ?_; (with_reducible refine (rf_digit.calls _ _ l1 x5_1 t538 _ ?side1 ?side2 A6.out).mono ?_); (case side1 => exact zc (Kd.C_below HR1.out zq1)); (case side2 => exact HC1.out); rintro e w' ⟨rfl, ⟨nd, rfl⟩⟩; refine ⟨_, rfl, ?_⟩))
      go_roundg k1
      case measure => have := HK1.out; omega
      case rel => exact ⟨(wrap64 (x5_1 - 1)), zq8, (by first | exact H' | (rw [hji3]; exact H')), ⟨by have := HK1.out; omega⟩, ⟨zq1⟩⟩
   ·rw [if_neg c4] at H
    have c4b0 : decide (0 ≤ x5_1) = false := decide_eq_false c4
    clear c4
    obtain rfl := Option.some.inj H
    go_wp2
    go_ret
    exact ⟨by first | rfl | (simp [errW_none, errW_some] <;> rfl) | (simp only [← hji3]; first | rfl | (simp [errW_none, errW_some] <;> rfl)) | (simp [*, errW_none, errW_some] <;> rfl), zq1⟩
def rf_ShlNat.l0 : Nat → Int → List Int → Int → List Int → Int → Int → Option (List Int)
 | 0, _, _, _, _, _, _ => none
 | k + 1, x1, x5, x6, x16, x17, x18 => if x18 < x17 then (if 0 ≤ x18 then (if x18 < (x16.length : Int) then (if 0 ≤ (Int.tmod x1 16) then (if x5.length < 17592186044416 then (rf_ShlNat.l0 k x1 (x5 ++ [Int.tmod (Go.bits .or .i64 (shl .i64 (rd x16 x18) (Int.tmod x1 16)) x6) 65536]) (wrap64 (Int.tdiv (Go.bits .or .i64 (shl .i64 (rd x16 x18) (Int.tmod x1 16)) x6) 65536)) x16 x17 (wrap64 (x18 + 1))) else (none)) else (none)) else (none)) else (none)) else (if x5.length < 17592186044416 then ((rf_trim.f k (x5 ++ [x6])).bind fun t549 => (some t549)) else (none))
def rf_ShlNat.f (k : Nat) (l0 : List Int) (a1 : Int) : Option (List Int) := if (l0.length : Int) = 0 then (some ([] : List Int)) else (if 0 ≤ (wrap64 (Int.tdiv a1 16)) then (if (wrap64 (Int.tdiv a1 16) : Int).toNat ≤ 35184372088832 then (rf_ShlNat.l0 k a1 (List.replicate (wrap64 (Int.tdiv a1 16) : Int).toNat 0) 0 l0 (l0.length : Int) 0) else (none)) else (none))
theorem rf_ShlNat.mono_l : ∀ k, (∀ y0 y1 y2 y3 y4 y5, LeO (rf_ShlNat.l0 k y0 y1 y2 y3 y4 y5) (rf_ShlNat.l0 (k + 1) y0 y1 y2 y3 y4 y5))
 | 0 => fun _ _ _ _ _ _ r h => by simp [rf_ShlNat.l0] at h
 | k + 1 => by
  have ih0 := rf_ShlNat.mono_l k
  ·intro y0 y1 y2 y3 y4 y5
   unfold rf_ShlNat.l0
   have m0 := ih0
   have m1 := @rf_trim.mono
   exact zm
theorem rf_ShlNat.mono : ∀ a0 a1 k, LeO (rf_ShlNat.f k a0 a1) (rf_ShlNat.f (k + 1) a0 a1) := by
 intro a0 a1 k
 have ih0 := rf_ShlNat.mono_l k
 unfold rf_ShlNat.f
 have m0 := ih0
 have m1 := @rf_trim.mono
 exact zm
set_option maxHeartbeats 8000000 in
set_option maxRecDepth 100000 in
theorem rf_ShlNat.calls (k : Nat) (A0 : Option Addr) (c0 : Nat) (l0 : List Int) (a1 : Int) (r : List Int) (w : World) (hr0 : Kd.C (Kd.int .i64) w A0 l0.length l0) (hc0 : l0.length ≤ c0) (h : rf_ShlNat.f k l0 a1 = some r) :
  Calls Tryd.prog 82 #[.slice A0 l0.length c0, .int .i64 a1] w fun e w' => ∃ v0_ : Value, e = .returned (v0_) ∧ Kd.V (Kd.int .i64) 3 w' w.heap.size (fun k_ => (w.heap.size ≤ k_)) v0_ r ∧ Below w.heap.size w w' := by
 have HR0 := am hr0
 have HC0 := am hc0
 clear hr0 hc0
 have HB := am (Below.refl w.heap.size w)
 have H := h
 unfold rf_ShlNat.f at H
 clear h
 by_cases c3 : (l0.length : Int) = 0
 ·rw [if_pos c3] at H
  have c3b0 : ((l0.length : Int) == 0) = true := beq_iff_eq.mpr c3
  have c3b1 : ((l0.length : Int) != 0) = false := bne_eq_false_iff_eq.mpr c3
  clear c3
  obtain rfl := Option.some.inj H
  go_enter Tryd.func82, Tryd.ntmps82
  go_wp2
  go_ret
  exact ⟨_, zq9, Kd.V_nil _ _ _ _ _, zq1⟩
 ·rw [if_neg c3] at H
  have c3b0 : ((l0.length : Int) == 0) = false := beq_eq_false_iff_ne.mpr c3
  have c3b1 : ((l0.length : Int) != 0) = true := bne_iff_ne.mpr c3
  have c3b2 : ¬ (l0 = []) := fun h_ => c3 (by rw [h_]; rfl)
  obtain ⟨ji4, hji4⟩ : ∃ j_ : Int, (wrap64 (Int.tdiv a1 16)) = j_ := ⟨_, rfl⟩
  replace H : (if 0 ≤ (ji4) then (if (ji4 : Int).toNat ≤ 35184372088832 then (rf_ShlNat.l0 k a1 (List.replicate (ji4 : Int).toNat 0) 0 l0 (l0.length : Int) 0) else (none)) else (none)) = some r := by first | (rw [hji4] at H; exact H) | (simp only [hji4] at H ⊢; exact H)
  have hji4w : (IntKind.i64.wrap (Int.tdiv a1 16)) = ji4 := (i64_w _).trans hji4
  replace H := zn H
  obtain ⟨c5, H⟩ := H
  have c5b0 := eq_true c5
  have c5b1 := decide_eq_true c5
  clear c5
  replace H := zn H
  obtain ⟨c6, H⟩ := H
  have c6b0 := eq_true c6
  have c6b1 := decide_eq_true c6
  clear c6
  obtain ⟨y539, hy539⟩ : ∃ y_ : List Int, y_ = (List.replicate (ji4 : Int).toNat 0) := ⟨_, rfl⟩
  try rw [← hy539] at H
  have Ny539 := am hy539
  clear hy539
  have H' := am H
  clear H
  go_enter Tryd.func82, Tryd.ntmps82
  go_wp2_with (first | ((with_reducible refine gate_dst (N := 15) rfl ?_); refine Kd.R_make (Kd.int .i64) _ 3 rfl (N := 15) rfl 39 _ _ rfl ji4 rfl rfl Tryd.underlying39 (.int .i64 0) 8 info3 rfl (by decide) (by omega) 0 (ok := fun _ => True) (okp := fun _ => True) rfl (fun _ hk => hk) trivial zq6 (Nat.le_trans (Nat.mul_le_mul_right _ (zq6 : ji4.toNat ≤ 35184372088832)) (by omega)) (Below.refl _ _) (Nat.le_refl _) ?_; intro v540 w7 ho8 hb hg_ hnew_; clear hg_ hnew_; (first | rw [← Ny539.out] at ho8 | (simp only [Int.reduceToNat] at ho8; rw [← Ny539.out] at ho8)); have n0_ := am (Kd.R_lower (Kd.R_newM (M := fun k_ => (w.heap.size ≤ k_)) ho8 (below_size zq1) (fun k_ h_ => h_)) (below_size zq1)); have n1_ := am (below_step zq1 hb); clear HB; have HO541 := n0_; have HB := n1_; clear n0_ n1_; clear hb ho8))
  go_loopg [5, 6, 18] k (fun kq v5 v6 v18 w' => ∃ (x5_1 : List Int) (x6_1 : Int) (x18_1 : Int), v6 = .int .i64 x6_1 ∧ v18 = .int .i64 x18_1 ∧ Aside0 (rf_ShlNat.l0 kq a1 x5_1 x6_1 l0 (l0.length : Int) x18_1 = some r) ∧ Aside0 (kq ≤ k) ∧ Aside0 (Kd.R (Kd.int .i64) 3 w' w.heap.size (fun k_ => (w.heap.size ≤ k_)) v5 x5_1) ∧ Aside0 (Below w.heap.size w w'))
  case atStart => exact ⟨(y539), (0), (0), zq8, zq8, H', ⟨Nat.le_refl _⟩, ⟨by (with_reducible repeat (first | apply Kd.R_alloc | apply Kd.R_drewN | apply Kd.R_drew)); exact Kd.R_mono HO541.out (fun _ hk => hk.1)⟩, ⟨zq1⟩⟩
  case round =>
   clear H'
   obtain ⟨x5_1, x6_1, x18_1, rfl, rfl, HA, HK1, HO_5, HB⟩ := hrel
   cases gk with
   | zero => exact absurd HA.out (by simp [rf_ShlNat.l0])
   | succ k1 =>
    have H := HA.out
    clear HA
    simp only [rf_ShlNat.l0] at H
    by_cases c9 : x18_1 < (l0.length : Int)
    ·rw [if_pos c9] at H
     have c9b0 := decide_eq_true c9
     clear c9
     replace H := zn H
     obtain ⟨c10, H⟩ := H
     have c10b0 := decide_eq_true c10
     clear c10
     replace H := zn H
     obtain ⟨c11, H⟩ := H
     have c11b0 := decide_eq_true c11
     clear c11
     obtain ⟨ji12, hji12⟩ : ∃ j_ : Int, (Int.tmod a1 16) = j_ := ⟨_, rfl⟩
     replace H : (if 0 ≤ (ji12) then (if x5_1.length < 17592186044416 then (rf_ShlNat.l0 k1 a1 (x5_1 ++ [Int.tmod (Go.bits .or .i64 (shl .i64 (rd l0 x18_1) (ji12)) x6_1) 65536]) (wrap64 (Int.tdiv (Go.bits .or .i64 (shl .i64 (rd l0 x18_1) (ji12)) x6_1) 65536)) l0 (l0.length : Int) (wrap64 (x18_1 + 1))) else (none)) else (none)) = some r := by first | (rw [hji12] at H; exact H) | (simp only [hji12] at H ⊢; exact H)
     replace H := zn H
     obtain ⟨c13, H⟩ := H
     have c13b0 := eq_true c13
     have c13b1 := decide_eq_true c13
     clear c13
     obtain ⟨ji14, hji14⟩ : ∃ j_ : Int, (shl .i64 (rd l0 x18_1) (ji12)) = j_ := ⟨_, rfl⟩
     replace H : (if x5_1.length < 17592186044416 then (rf_ShlNat.l0 k1 a1 (x5_1 ++ [Int.tmod (Go.bits .or .i64 (ji14) x6_1) 65536]) (wrap64 (Int.tdiv (Go.bits .or .i64 (ji14) x6_1) 65536)) l0 (l0.length : Int) (wrap64 (x18_1 + 1))) else (none)) = some r := by first | (rw [hji14] at H; exact H) | (simp only [hji14] at H ⊢; exact H)
     have hji14_ : (IntKind.i64.wrap ((rd l0 x18_1) * 2 ^ min (ji12).toNat 64)) = ji14 := hji14
     have hji14z : (ji12) ≤ 64 → (IntKind.i64.wrap ((rd l0 x18_1) * 2 ^ (ji12).toNat)) = ji14 := shl_small hji14
     have hji14y : (wrap64 ((rd l0 x18_1) * 2 ^ min (ji12).toNat 64)) = ji14 := (i64_w _).symm.trans hji14_
     have hji14x : (ji12) ≤ 64 → (wrap64 ((rd l0 x18_1) * 2 ^ (ji12).toNat)) = ji14 := fun h_ => (i64_w _).symm.trans (hji14z h_)
     replace H := zn H
     obtain ⟨c15, H⟩ := H
     have LMc15 := am c15
     clear c15
     obtain ⟨y543, hy543⟩ : ∃ y_ : List Int, y_ = (x5_1 ++ [Int.tmod (Go.bits .or .i64 (ji14) x6_1) 65536]) := ⟨_, rfl⟩
     try rw [← hy543] at H
     have Ny543 := am hy543
     clear hy543
     have H' := am H
     clear H
     have p542 : 0 ≤ (x18_1 : Int) := zq6
     have q542 : x18_1 < (l0.length : Int) := zq6
     obtain ⟨ad542, e542, hx542_0⟩ := Kd.at_int HR0.out x18_1 p542 q542
     cases e542
     replace hx542_0 := (HB.out.cell (World.block_lt_of_cell? w _ hx542_0)).trans hx542_0
     replace p542 := eq_true p542
     replace q542 := eq_true q542
     go_wp2_with (first | ((with_reducible refine gate_builtin (b := .append) (xs := #[.tmp 28, .tmp 31]) rfl ?_); at_builtin; refine Kd.R_append (Kd.int .i64) (w0 := w) w.heap.size rfl (.tmp 28) (.tmp 31) 39 3 (.int .i64 0) 8 rfl Tryd.underlying39 info3 rfl (by decide) (by omega) u5 x5_1 (Int.tmod (Go.bits .or .i64 (ji14) x6_1) 65536) [.int .i64 (Int.tmod (Go.bits .or .i64 (ji14) x6_1) 65536)] (fun k_ => (w.heap.size ≤ k_)) (fun _ => False) rfl rfl ?aP (fun _ hk => hk.elim) ?aF ?aO ?aB ?aS ?aL ?_; (case aP => exact rfl); (case aB => exact zq1); (case aF => exact (fun k_ hk => (Nat.le_trans (below_size zq1) hk))); (case aO => exact (zq4 HO_5.out)); (case aS => exact (below_size zq1)); (case aL => have := LMc15.out; omega); intro v544 w16 ho hb hg hat; rw [← Ny543.out] at ho; have n0_ := am (hb); have n1_ := am (ho); clear HB HO_5; have HB := n0_; have HO545 := n1_; clear n0_ n1_; clear ho hb hg hat))
     go_roundg k1
     case measure => have := HK1.out; omega
     case rel => exact ⟨(y543), (wrap64 (Int.tdiv (Go.bits .or .i64 (ji14) x6_1) 65536)), (wrap64 (x18_1 + 1)), (by first | rfl | (simp; done) | (simp only [← hji14] <;> (first | rfl | simp)) | (simp [*]; done)), zq8, (by first | exact H' | (rw [hji4]; exact H') | (rw [hji12]; exact H') | (rw [hji14]; exact H')), ⟨by have := HK1.out; omega⟩, ⟨zq4 HO545.out⟩, ⟨zq1⟩⟩
    ·rw [if_neg c9] at H
     have c9b0 := decide_eq_false c9
     clear c9
     replace H := zn H
     obtain ⟨c17, H⟩ := H
     have LMc17 := am c17
     clear c17
     obtain ⟨y546, hy546⟩ : ∃ y_ : List Int, y_ = (x5_1 ++ [x6_1]) := ⟨_, rfl⟩
     try rw [← hy546] at H
     have Ny546 := am hy546
     clear hy546
     replace H := zj H
     obtain ⟨t549, A18, H⟩ := H
     obtain rfl := Option.some.inj H
     go_wp2_with (first | ((with_reducible refine gate_builtin (b := .append) (xs := #[.tmp 36, .tmp 38]) rfl ?_); at_builtin; refine Kd.R_append (Kd.int .i64) (w0 := w) w.heap.size rfl (.tmp 36) (.tmp 38) 39 3 (.int .i64 0) 8 rfl Tryd.underlying39 info3 rfl (by decide) (by omega) u5 x5_1 x6_1 [.int .i64 x6_1] (fun k_ => (w.heap.size ≤ k_)) (fun _ => False) rfl rfl ?aP (fun _ hk => hk.elim) ?aF ?aO ?aB ?aS ?aL ?_; (case aP => exact rfl); (case aB => exact zq1); (case aF => exact (fun k_ hk => (Nat.le_trans (below_size zq1) hk))); (case aO => exact (zq4 HO_5.out)); (case aS => exact (below_size zq1)); (case aL => have := LMc17.out; omega); intro v547 w19 ho hb hg hat; rw [← Ny546.out] at ho; have n0_ := am (hb); have n1_ := am (ho); clear HB HO_5; have HB := n0_; have HO548 := n1_; clear n0_ n1_ ho hb hg hat; obtain ⟨Ao20, co20, eo20⟩ := Kd.R_slice HO548.out; subst eo20) | ((with_reducible refine gate_callee (f := 96) rfl ?_); refine goesL_ (some 40) rfl rfl Tryd.func96 (by kernel_rfl) rfl #[.slice Ao20 y546.length co20] rfl zq5 ?_; (with_reducible refine (rf_trim.calls k1 (fun k_ => some k_ = (.slice Ao20 y546.length co20 : Value).ownBlock) _ _ y546 t549 _ ?side1 A18.out).mono ?_); (case side1 => exact Kd.R_V (Kd.R_tight rfl (HO548.out))); rintro e w21 ⟨v550, rfl, ho0, hb⟩; refine ⟨_, rfl, ?_⟩; have n0_ := am (Kd.R_below (zq4 HO548.out) hb); have n1_ := am (Kd.V_lower (Kd.V_mono (ok' := fun k_ => (w.heap.size ≤ k_)) ho0 (fun k_ hk_ => Or.elim hk_ (fun hs_ => ((HO548.out).1 k_ hs_.symm)) (fun hn_ => (Nat.le_trans (below_size zq1) hn_)))) (below_size zq1)); have n2_ := am (below_step zq1 hb); clear HO548 HB; have HO548 := n0_; have HO551 := n1_; have HB := n2_; clear n0_ n1_ n2_))
     go_ret
     exact ⟨_, by first | rfl | (simp [errW_none, errW_some] <;> rfl) | (simp only [← hji4]; first | rfl | (simp [errW_none, errW_some] <;> rfl)) | (simp [*, errW_none, errW_some] <;> rfl), zq3 HO551.out, zq1⟩
def rf_SubNat.l0 : Nat → List Int → List Int → List Int → Int → Int → Int → Option (List Int)
 | 0, _, _, _, _, _, _ => none
 | k + 1, x0, x1, x5, x6, x10, x11 => if x11 < x10 then (if 0 ≤ x11 then (if x11 < (x0.length : Int) then ((rf_digit.f x1 x11).bind fun t553 => (if (wrap64 ((wrap64 ((rd x0 x11) - t553)) - x6)) < 0 then (if x5.length < 17592186044416 then (rf_SubNat.l0 k x0 x1 (x5 ++ [wrap64 ((wrap64 ((wrap64 ((rd x0 x11) - t553)) - x6)) + 65536)]) 1 x10 (wrap64 (x11 + 1))) else (none)) else (if x5.length < 17592186044416 then (rf_SubNat.l0 k x0 x1 (x5 ++ [wrap64 ((wrap64 ((rd x0 x11) - t553)) - x6)]) 0 x10 (wrap64 (x11 + 1))) else (none)))) else (none)) else (none)) else ((rf_trim.f k x5).bind fun t560 => (some t560))
def rf_SubNat.f (k : Nat) (l0 : List Int) (l1 : List Int) : Option (List Int) := rf_SubNat.l0 k l0 l1 ([] : List Int) 0 (l0.length : Int) 0
theorem rf_SubNat.mono_l : ∀ k, (∀ y0 y1 y2 y3 y4 y5, LeO (rf_SubNat.l0 k y0 y1 y2 y3 y4 y5) (rf_SubNat.l0 (k + 1) y0 y1 y2 y3 y4 y5))
 | 0 => fun _ _ _ _ _ _ r h => by simp [rf_SubNat.l0] at h
 | k + 1 => by
  have ih0 := rf_SubNat.mono_l k
  ·intro y0 y1 y2 y3 y4 y5
   unfold rf_SubNat.l0
   have m0 := ih0
   have m1 := @rf_trim.mono
   exact zm
theorem rf_SubNat.mono : ∀ a0 a1 k, LeO (rf_SubNat.f k a0 a1) (rf_SubNat.f (k + 1) a0 a1) := by
 intro a0 a1 k
 have ih0 := rf_SubNat.mono_l k
 unfold rf_SubNat.f
 have m0 := ih0
 have m1 := @rf_trim.mono
 exact zm
set_option maxHeartbeats 8000000 in
set_option maxRecDepth 100000 in
theorem rf_SubNat.calls (k : Nat) (A0 : Option Addr) (c0 : Nat) (l0 : List Int) (A1 : Option Addr) (c1 : Nat) (l1 : List Int) (r : List Int) (w : World) (hr0 : Kd.C (Kd.int .i64) w A0 l0.length l0) (hc0 : l0.length ≤ c0) (hr1 : Kd.C (Kd.int .i64) w A1 l1.length l1) (hc1 : l1.length ≤ c1) (h : rf_SubNat.f k l0 l1 = some r) :
  Calls Tryd.prog 83 #[.slice A0 l0.length c0, .slice A1 l1.length c1] w fun e w' => ∃ v0_ : Value, e = .returned (v0_) ∧ Kd.V (Kd.int .i64) 3 w' w.heap.size (fun k_ => (w.heap.size ≤ k_)) v0_ r ∧ Below w.heap.size w w' := by
 have HR0 := am hr0
 have HC0 := am hc0
 clear hr0 hc0
 have HR1 := am hr1
 have HC1 := am hc1
 clear hr1 hc1
 have HB := am (Below.refl w.heap.size w)
 have H := h
 unfold rf_SubNat.f at H
 clear h
 have H' := am H
 clear H
 go_enter Tryd.func83, Tryd.ntmps83
 go_wp2
 repeat (go_quiet (fail); try go_wp2)
 go_loopg [5, 6, 11] k (fun kq v5 v6 v11 w' => ∃ (x5_1 : List Int) (x6_1 : Int) (x11_1 : Int), v6 = .int .i64 x6_1 ∧ v11 = .int .i64 x11_1 ∧ Aside0 (rf_SubNat.l0 kq l0 l1 x5_1 x6_1 (l0.length : Int) x11_1 = some r) ∧ Aside0 (kq ≤ k) ∧ Aside0 (Kd.R (Kd.int .i64) 3 w' w.heap.size (fun k_ => (w.heap.size ≤ k_)) v5 x5_1) ∧ Aside0 (Below w.heap.size w w'))
 case atStart => exact ⟨(([] : List Int)), (0), (0), zq8, zq8, H', ⟨Nat.le_refl _⟩, ⟨by first | exact Kd.R_nil _ _ _ _ _ | exact Kd.N_nil _ _ _ _ _ | exact Kd.V_nil _ _ _ _ _ | exact Kd.Q_nil _ _ _ _ _ | exact Kd.S_nil _ _ _ _ _⟩, ⟨zq1⟩⟩
 case round =>
  clear H'
  obtain ⟨x5_1, x6_1, x11_1, rfl, rfl, HA, HK1, HO_5, HB⟩ := hrel
  cases gk with
  | zero => exact absurd HA.out (by simp [rf_SubNat.l0])
  | succ k1 =>
   have H := HA.out
   clear HA
   simp only [rf_SubNat.l0] at H
   by_cases c3 : x11_1 < (l0.length : Int)
   ·rw [if_pos c3] at H
    have c3b0 := decide_eq_true c3
    clear c3
    replace H := zn H
    obtain ⟨c4, H⟩ := H
    have c4b0 := decide_eq_true c4
    clear c4
    replace H := zn H
    obtain ⟨c5, H⟩ := H
    have c5b0 := decide_eq_true c5
    clear c5
    replace H := zj H
    obtain ⟨t553, A6, H⟩ := H
    by_cases c7 : (wrap64 ((wrap64 ((rd l0 x11_1) - t553)) - x6_1)) < 0
    ·rw [if_pos c7] at H
     have c7b0 := decide_eq_true c7
     clear c7
     replace H := zn H
     obtain ⟨c8, H⟩ := H
     have LMc8 := am c8
     clear c8
     obtain ⟨y554, hy554⟩ : ∃ y_ : List Int, y_ = (x5_1 ++ [wrap64 ((wrap64 ((wrap64 ((rd l0 x11_1) - t553)) - x6_1)) + 65536)]) := ⟨_, rfl⟩
     try rw [← hy554] at H
     have Ny554 := am hy554
     clear hy554
     have H' := am H
     clear H
     have p552 : 0 ≤ (x11_1 : Int) := zq6
     have q552 : x11_1 < (l0.length : Int) := zq6
     obtain ⟨ad552, e552, hx552_0⟩ := Kd.at_int HR0.out x11_1 p552 q552
     cases e552
     replace hx552_0 := (HB.out.cell (World.block_lt_of_cell? w _ hx552_0)).trans hx552_0
     replace p552 := eq_true p552
     replace q552 := eq_true q552
     go_wp2_with (first | (go_at_call 97; (with_reducible refine (rf_digit.calls _ _ l1 x11_1 t553 _ ?side1 ?side2 A6.out).mono ?_); (case side1 => exact zc (Kd.C_below HR1.out HB.out)); (case side2 => exact HC1.out); rintro e w' ⟨rfl, ⟨nd, rfl⟩⟩; (try first | exact ⟨rfl, _, World.drewN_drewN _ _ _⟩ | exact ⟨rfl, _, Eq.trans (World.drewN_drewN _ _ _) (congrArg (World.drewN _) (Nat.add_assoc _ _ _))⟩)) | ((with_reducible refine gate_builtin (b := .append) (xs := #[.tmp 28, .tmp 30]) rfl ?_); at_builtin; refine Kd.R_append (Kd.int .i64) (w0 := w) w.heap.size rfl (.tmp 28) (.tmp 30) 39 3 (.int .i64 0) 8 rfl Tryd.underlying39 info3 rfl (by decide) (by omega) u5 x5_1 (wrap64 ((wrap64 ((wrap64 ((rd l0 x11_1) - t553)) - x6_1)) + 65536)) [.int .i64 (wrap64 ((wrap64 ((wrap64 ((rd l0 x11_1) - t553)) - x6_1)) + 65536))] (fun k_ => (w.heap.size ≤ k_)) (fun _ => False) rfl rfl ?aP (fun _ hk => hk.elim) ?aF ?aO ?aB ?aS ?aL ?_; (case aP => exact rfl); (case aB => exact zq1); (case aF => exact (fun k_ hk => (Nat.le_trans (below_size zq1) hk))); (case aO => exact (zq4 HO_5.out)); (case aS => exact (below_size zq1)); (case aL => have := LMc8.out; omega); intro v555 w9 ho hb hg hat; rw [← Ny554.out] at ho; have n0_ := am (hb); have n1_ := am (ho); clear HB HO_5; have HB := n0_; have HO556 := n1_; clear n0_ n1_; clear ho hb hg hat))
     repeat (go_quiet (first | (go_at_call 97; (with_reducible refine (rf_digit.calls _ _ l1 x11_1 t553 _ ?side1 ?side2 A6.out).mono ?_); (case side1 => exact zc (Kd.C_below HR1.out HB.out)); (case side2 => exact HC1.out); rintro e w' ⟨rfl, ⟨nd, rfl⟩⟩; (try first | exact ⟨rfl, _, World.drewN_drewN _ _ _⟩ | exact ⟨rfl, _, Eq.trans (World.drewN_drewN _ _ _) (congrArg (World.drewN _) (Nat.add_assoc _ _ _))⟩)) | ((with_reducible refine gate_builtin (b := .append) (xs := #[.tmp 28, .tmp 30]) rfl ?_); at_builtin; refine Kd.R_append (Kd.int .i64) (w0 := w) w.heap.size rfl (.tmp 28) (.tmp 30) 39 3 (.int .i64 0) 8 rfl Tryd.underlying39 info3 rfl (by decide) (by omega) u5 x5_1 (wrap64 ((wrap64 ((wrap64 ((rd l0 x11_1) - t553)) - x6_1)) + 65536)) [.int .i64 (wrap64 ((wrap64 ((wrap64 ((rd l0 x11_1) - t553)) - x6_1)) + 65536))] (fun k_ => (w.heap.size ≤ k_)) (fun _ => False) rfl rfl ?aP (fun _ hk => hk.elim) ?aF ?aO ?aB ?aS ?aL ?_; (case aP => exact rfl); (case aB => exact zq1); (case aF => exact (fun k_ hk => (Nat.le_trans (below_size zq1) hk))); (case aO => exact (zq4 HO_5.out)); (case aS => exact (below_size zq1)); (case aL => have := LMc8.out; omega); intro v555 w9 ho hb hg hat; rw [← Ny554.out] at ho; have n0_ := am (hb); have n1_ := am (ho); clear HB HO_5; have HB := n0_; have HO556 := n1_; clear n0_ n1_; clear ho hb hg hat)); try go_wp2_with (first | (go_at_call 97; (with_reducible refine (rf_digit.calls _ _ l1 x11_1 t553 _ ?side1 ?side2 A6.out).mono ?_); (case side1 => exact zc (Kd.C_below HR1.out HB.out)); (case side2 => exact HC1.out); rintro e w' ⟨rfl, ⟨nd, rfl⟩⟩; (try first | exact ⟨rfl, _, World.drewN_drewN _ _ _⟩ | exact ⟨rfl, _, Eq.trans (World.drewN_drewN _ _ _) (congrArg (World.drewN _) (Nat.add_assoc _ _ _))⟩)) | ((with_reducible refine gate_builtin (b := .append) (xs := #[.tmp 28, .tmp 30]) rfl ?_); at_builtin; refine Kd.R_append (Kd.int .i64) (w0 := w) w.heap.size rfl (.tmp 28) (.tmp 30) 39 3 (.int .i64 0) 8 rfl Tryd.underlying39 info3 rfl (by decide) (by omega) u5 x5_1 (wrap64 ((wrap64 ((wrap64 ((rd l0 x11_1) - t553)) - x6_1)) + 65536)) [.int .i64 (wrap64 ((wrap64 ((wrap64 ((rd l0 x11_1) - t553)) - x6_1)) + 65536))] (fun k_ => (w.heap.size ≤ k_)) (fun _ => False) rfl rfl ?aP (fun _ hk => hk.elim) ?aF ?aO ?aB ?aS ?aL ?_; (case aP => exact rfl); (case aB => exact zq1); (case aF => exact (fun k_ hk => (Nat.le_trans (below_size zq1) hk))); (case aO => exact (zq4 HO_5.out)); (case aS => exact (below_size zq1)); (case aL => have := LMc8.out; omega); intro v555 w9 ho hb hg hat; rw [← Ny554.out] at ho; have n0_ := am (hb); have n1_ := am (ho); clear HB HO_5; have HB := n0_; have HO556 := n1_; clear n0_ n1_; clear ho hb hg hat)))
     go_roundg k1
     case measure => have := HK1.out; omega
     case rel => exact ⟨(y554), (1), (wrap64 (x11_1 + 1)), zq8, zq8, H', ⟨by have := HK1.out; omega⟩, ⟨zq4 HO556.out⟩, ⟨zq1⟩⟩
    ·rw [if_neg c7] at H
     have c7b0 := decide_eq_false c7
     clear c7
     replace H := zn H
     obtain ⟨c10, H⟩ := H
     have LMc10 := am c10
     clear c10
     obtain ⟨y557, hy557⟩ : ∃ y_ : List Int, y_ = (x5_1 ++ [wrap64 ((wrap64 ((rd l0 x11_1) - t553)) - x6_1)]) := ⟨_, rfl⟩
     try rw [← hy557] at H
     have Ny557 := am hy557
     clear hy557
     have H' := am H
     clear H
     have p552 : 0 ≤ (x11_1 : Int) := zq6
     have q552 : x11_1 < (l0.length : Int) := zq6
     obtain ⟨ad552, e552, hx552_0⟩ := Kd.at_int HR0.out x11_1 p552 q552
     cases e552
     replace hx552_0 := (HB.out.cell (World.block_lt_of_cell? w _ hx552_0)).trans hx552_0
     replace p552 := eq_true p552
     replace q552 := eq_true q552
     go_wp2_with (first | (go_at_call 97; (with_reducible refine (rf_digit.calls _ _ l1 x11_1 t553 _ ?side1 ?side2 A6.out).mono ?_); (case side1 => exact zc (Kd.C_below HR1.out HB.out)); (case side2 => exact HC1.out); rintro e w' ⟨rfl, ⟨nd, rfl⟩⟩; (try first | exact ⟨rfl, _, World.drewN_drewN _ _ _⟩ | exact ⟨rfl, _, Eq.trans (World.drewN_drewN _ _ _) (congrArg (World.drewN _) (Nat.add_assoc _ _ _))⟩)) | ((with_reducible refine gate_builtin (b := .append) (xs := #[.tmp 28, .tmp 30]) rfl ?_); at_builtin; refine Kd.R_append (Kd.int .i64) (w0 := w) w.heap.size rfl (.tmp 28) (.tmp 30) 39 3 (.int .i64 0) 8 rfl Tryd.underlying39 info3 rfl (by decide) (by omega) u5 x5_1 (wrap64 ((wrap64 ((rd l0 x11_1) - t553)) - x6_1)) [.int .i64 (wrap64 ((wrap64 ((rd l0 x11_1) - t553)) - x6_1))] (fun k_ => (w.heap.size ≤ k_)) (fun _ => False) rfl rfl ?aP (fun _ hk => hk.elim) ?aF ?aO ?aB ?aS ?aL ?_; (case aP => exact rfl); (case aB => exact zq1); (case aF => exact (fun k_ hk => (Nat.le_trans (below_size zq1) hk))); (case aO => exact (zq4 HO_5.out)); (case aS => exact (below_size zq1)); (case aL => have := LMc10.out; omega); intro v558 w11 ho hb hg hat; rw [← Ny557.out] at ho; have n0_ := am (hb); have n1_ := am (ho); clear HB HO_5; have HB := n0_; have HO559 := n1_; clear n0_ n1_; clear ho hb hg hat))
     repeat (go_quiet (first | (go_at_call 97; (with_reducible refine (rf_digit.calls _ _ l1 x11_1 t553 _ ?side1 ?side2 A6.out).mono ?_); (case side1 => exact zc (Kd.C_below HR1.out HB.out)); (case side2 => exact HC1.out); rintro e w' ⟨rfl, ⟨nd, rfl⟩⟩; (try first | exact ⟨rfl, _, World.drewN_drewN _ _ _⟩ | exact ⟨rfl, _, Eq.trans (World.drewN_drewN _ _ _) (congrArg (World.drewN _) (Nat.add_assoc _ _ _))⟩)) | ((with_reducible refine gate_builtin (b := .append) (xs := #[.tmp 28, .tmp 30]) rfl ?_); at_builtin; refine Kd.R_append (Kd.int .i64) (w0 := w) w.heap.size rfl (.tmp 28) (.tmp 30) 39 3 (.int .i64 0) 8 rfl Tryd.underlying39 info3 rfl (by decide) (by omega) u5 x5_1 (wrap64 ((wrap64 ((rd l0 x11_1) - t553)) - x6_1)) [.int .i64 (wrap64 ((wrap64 ((rd l0 x11_1) - t553)) - x6_1))] (fun k_ => (w.heap.size ≤ k_)) (fun _ => False) rfl rfl ?aP (fun _ hk => hk.elim) ?aF ?aO ?aB ?aS ?aL ?_; (case aP => exact rfl); (case aB => exact zq1); (case aF => exact (fun k_ hk => (Nat.le_trans (below_size zq1) hk))); (case aO => exact (zq4 HO_5.out)); (case aS => exact (below_size zq1)); (case aL => have := LMc10.out; omega); intro v558 w11 ho hb hg hat; rw [← Ny557.out] at ho; have n0_ := am (hb); have n1_ := am (ho); clear HB HO_5; have HB := n0_; have HO559 := n1_; clear n0_ n1_; clear ho hb hg hat)); try go_wp2_with (first | (go_at_call 97; (with_reducible refine (rf_digit.calls _ _ l1 x11_1 t553 _ ?side1 ?side2 A6.out).mono ?_); (case side1 => exact zc (Kd.C_below HR1.out HB.out)); (case side2 => exact HC1.out); rintro e w' ⟨rfl, ⟨nd, rfl⟩⟩; (try first | exact ⟨rfl, _, World.drewN_drewN _ _ _⟩ | exact ⟨rfl, _, Eq.trans (World.drewN_drewN _ _ _) (congrArg (World.drewN _) (Nat.add_assoc _ _ _))⟩)) | ((with_reducible refine gate_builtin (b := .append) (xs := #[.tmp 28, .tmp 30]) rfl ?_); at_builtin; refine Kd.R_append (Kd.int .i64) (w0 := w) w.heap.size rfl (.tmp 28) (.tmp 30) 39 3 (.int .i64 0) 8 rfl Tryd.underlying39 info3 rfl (by decide) (by omega) u5 x5_1 (wrap64 ((wrap64 ((rd l0 x11_1) - t553)) - x6_1)) [.int .i64 (wrap64 ((wrap64 ((rd l0 x11_1) - t553)) - x6_1))] (fun k_ => (w.heap.size ≤ k_)) (fun _ => False) rfl rfl ?aP (fun _ hk => hk.elim) ?aF ?aO ?aB ?aS ?aL ?_; (case aP => exact rfl); (case aB => exact zq1); (case aF => exact (fun k_ hk => (Nat.le_trans (below_size zq1) hk))); (case aO => exact (zq4 HO_5.out)); (case aS => exact (below_size zq1)); (case aL => have := LMc10.out; omega); intro v558 w11 ho hb hg hat; rw [← Ny557.out] at ho; have n0_ := am (hb); have n1_ := am (ho); clear HB HO_5; have HB := n0_; have HO559 := n1_; clear n0_ n1_; clear ho hb hg hat)))
     go_roundg k1
     case measure => have := HK1.out; omega
     case rel => exact ⟨(y557), (0), (wrap64 (x11_1 + 1)), zq8, zq8, H', ⟨by have := HK1.out; omega⟩, ⟨zq4 HO559.out⟩, ⟨zq1⟩⟩
   ·rw [if_neg c3] at H
    have c3b0 := decide_eq_false c3
    clear c3
    replace H := zj H
    obtain ⟨t560, A12, H⟩ := H
    obtain rfl := Option.some.inj H
    obtain ⟨Ao13, co13, eo13⟩ := Kd.R_slice HO_5.out
    subst eo13
    go_wp2_with (first | (go_at_call 96; (with_reducible refine (rf_trim.calls k1 (fun k_ => some k_ = (.slice Ao13 x5_1.length co13 : Value).ownBlock) _ _ x5_1 t560 _ ?side1 A12.out).mono ?_); (case side1 => exact Kd.R_V (Kd.R_tight rfl (HO_5.out))); rintro e w14 ⟨v561, rfl, ho0, hb⟩; have n0_ := am (Kd.R_below (zq4 HO_5.out) hb); have n1_ := am (Kd.V_lower (Kd.V_mono (ok' := fun k_ => (w.heap.size ≤ k_)) ho0 (fun k_ hk_ => Or.elim hk_ (fun hs_ => ((HO_5.out).1 k_ hs_.symm)) (fun hn_ => (Nat.le_trans (below_size zq1) hn_)))) (below_size zq1)); have n2_ := am (below_step zq1 hb); clear HO_5 HB; have HO_5 := n0_; have HO562 := n1_; have HB := n2_; clear n0_ n1_ n2_))
    repeat (go_quiet (first | (go_at_call 96; (with_reducible refine (rf_trim.calls k1 (fun k_ => some k_ = (.slice Ao13 x5_1.length co13 : Value).ownBlock) _ _ x5_1 t560 _ ?side1 A12.out).mono ?_); (case side1 => exact Kd.R_V (Kd.R_tight rfl (HO_5.out))); rintro e w14 ⟨v561, rfl, ho0, hb⟩; have n0_ := am (Kd.R_below (zq4 HO_5.out) hb); have n1_ := am (Kd.V_lower (Kd.V_mono (ok' := fun k_ => (w.heap.size ≤ k_)) ho0 (fun k_ hk_ => Or.elim hk_ (fun hs_ => ((HO_5.out).1 k_ hs_.symm)) (fun hn_ => (Nat.le_trans (below_size zq1) hn_)))) (below_size zq1)); have n2_ := am (below_step zq1 hb); clear HO_5 HB; have HO_5 := n0_; have HO562 := n1_; have HB := n2_; clear n0_ n1_ n2_)); try go_wp2_with (first | (go_at_call 96; (with_reducible refine (rf_trim.calls k1 (fun k_ => some k_ = (.slice Ao13 x5_1.length co13 : Value).ownBlock) _ _ x5_1 t560 _ ?side1 A12.out).mono ?_); (case side1 => exact Kd.R_V (Kd.R_tight rfl (HO_5.out))); rintro e w14 ⟨v561, rfl, ho0, hb⟩; have n0_ := am (Kd.R_below (zq4 HO_5.out) hb); have n1_ := am (Kd.V_lower (Kd.V_mono (ok' := fun k_ => (w.heap.size ≤ k_)) ho0 (fun k_ hk_ => Or.elim hk_ (fun hs_ => ((HO_5.out).1 k_ hs_.symm)) (fun hn_ => (Nat.le_trans (below_size zq1) hn_)))) (below_size zq1)); have n2_ := am (below_step zq1 hb); clear HO_5 HB; have HO_5 := n0_; have HO562 := n1_; have HB := n2_; clear n0_ n1_ n2_)))
    go_ret
    exact ⟨_, zq9, zq3 HO562.out, zq1⟩
def rf_bit.f (l0 : List Int) (a1 : Int) : Option (Int) := (rf_digit.f l0 (wrap64 (Int.tdiv a1 16))).bind fun t563 => (if 0 ≤ (Int.tmod a1 16) then (some (Go.bits .and .i64 (shr .i64 t563 (Int.tmod a1 16)) 1)) else (none))
set_option maxHeartbeats 8000000 in
set_option maxRecDepth 100000 in
theorem rf_bit.calls (A0 : Option Addr) (c0 : Nat) (l0 : List Int) (a1 : Int) (r : Int) (w : World) (hr0 : Kd.C (Kd.int .i64) w A0 l0.length l0) (hc0 : l0.length ≤ c0) (h : rf_bit.f l0 a1 = some r) :
  Calls Tryd.prog 98 #[.slice A0 l0.length c0, .int .i64 a1] w fun e w' => e = .returned (.int .i64 r) ∧ Drawn0 w w' := by
 have HR0 := am hr0
 have HC0 := am hc0
 clear hr0 hc0
 have H := h
 unfold rf_bit.f at H
 clear h
 replace H := zj H
 obtain ⟨t563, A3, H⟩ := H
 obtain ⟨ji4, hji4⟩ : ∃ j_ : Int, (Int.tmod a1 16) = j_ := ⟨_, rfl⟩
 replace H : (if 0 ≤ (ji4) then (some (Go.bits .and .i64 (shr .i64 t563 (ji4)) 1)) else (none)) = some r := by first | (rw [hji4] at H; exact H) | (simp only [hji4] at H ⊢; exact H)
 (try rw [hji4] at A3)
 replace H := zn H
 obtain ⟨c5, H⟩ := H
 have c5b0 := eq_true c5
 have c5b1 := decide_eq_true c5
 clear c5
 obtain ⟨ji6, hji6⟩ : ∃ j_ : Int, (shr .i64 t563 (ji4)) = j_ := ⟨_, rfl⟩
 replace H : (some (Go.bits .and .i64 (ji6) 1)) = some r := by first | (rw [hji6] at H; exact H) | (simp only [hji6] at H ⊢; exact H)
 (try rw [hji6] at A3)
 have hji6_ : (t563 / 2 ^ min (ji4).toNat 64) = ji6 := hji6
 have hji6z : (ji4) ≤ 64 → (t563 / 2 ^ (ji4).toNat) = ji6 := shr_small hji6
 obtain rfl := Option.some.inj H
 go_enter Tryd.func98, Tryd.ntmps98
 go_wp2_with (first | ((with_reducible refine gate_callee (f := 97) rfl ?_); refine goesL_ (some 8) rfl rfl Tryd.func97 (by kernel_rfl) rfl #[.slice A0 l0.length c0, .int .i64 (wrap64 (Int.tdiv a1 16))] rfl zq5 ?_; (with_reducible refine (rf_digit.calls _ _ l0 (wrap64 (Int.tdiv a1 16)) t563 _ ?side1 ?side2 A3.out).mono ?_); (case side1 => exact zc (HR0.out)); (case side2 => exact HC0.out); rintro e w' ⟨rfl, ⟨nd, rfl⟩⟩; refine ⟨_, rfl, ?_⟩))
 go_ret
 exact ⟨by first | rfl | (simp; done) | (simp only [← hji4, ← hji6] <;> (first | rfl | simp)) | (simp [*]; done), by repeat (first | exact Drawn0.refl _ | apply Drawn0.step)⟩
def rf_half.l0 : Nat → List Int → List Int → Int → Int → Option (List Int)
 | 0, _, _, _, _ => none
 | k + 1, x0, x3, x9, x10 => if x10 < x9 then (if 0 ≤ x10 then (if x10 < (x0.length : Int) then ((rf_digit.f x0 (wrap64 (x10 + 1))).bind fun t568 => (if x10 < (x3.length : Int) then (rf_half.l0 k x0 (x3.set (x10 : Int).toNat (Go.bits .or .i64 ((rd x0 x10) / 2) (wrap64 ((Go.bits .and .i64 t568 1) * 32768)))) x9 (wrap64 (x10 + 1))) else (none))) else (none)) else (none)) else ((rf_trim.f k x3).bind fun t570 => (some t570))
def rf_half.f (k : Nat) (l0 : List Int) : Option (List Int) := if 0 ≤ (l0.length : Int) then (if ((l0.length : Int) : Int).toNat ≤ 35184372088832 then (rf_half.l0 k l0 (List.replicate ((l0.length : Int) : Int).toNat 0) (l0.length : Int) 0) else (none)) else (none)
theorem rf_half.mono_l : ∀ k, (∀ y0 y1 y2 y3, LeO (rf_half.l0 k y0 y1 y2 y3) (rf_half.l0 (k + 1) y0 y1 y2 y3))
 | 0 => fun _ _ _ _ r h => by simp [rf_half.l0] at h
 | k + 1 => by
  have ih0 := rf_half.mono_l k
  ·intro y0 y1 y2 y3
   unfold rf_half.l0
   have m0 := ih0
   have m1 := @rf_trim.mono
   exact zm
theorem rf_half.mono : ∀ a0 k, LeO (rf_half.f k a0) (rf_half.f (k + 1) a0) := by
 intro a0 k
 have ih0 := rf_half.mono_l k
 unfold rf_half.f
 have m0 := ih0
 have m1 := @rf_trim.mono
 exact zm
def rf_half.T5 : Bool × List (List Nat × List Nat) := (true, [([], []), ([], []), ([], []), ([], []), ([2, 3], [2, 3]), ([4], [4]), ([5], [5]), ([], []), ([], []), ([8], [8]), ([7, 9], [7, 9]), ([10], [10]), ([11], [11]), ([6, 12], [6, 12]), ([0, 1, 0, 1, 2, 3, 4, 5, 6, 7, 8, 9, 10, 11, 12, 13], [0, 1]), ([14, 13, 10, 0, 1, 2, 3, 4, 5, 6, 7, 8, 9, 10, 11, 12, 13], [13, 14])])
def rf_half.B5 : List Nat := [0, 0, 0, 0, 12, 28, 60, 0, 0, 256, 896, 1920, 3968, 8188, 16383, 32767]
theorem rf_half.tab5 : rtab .any (opsOf Tryd.f99 5) = rf_half.T5 := by kernel_rfl
theorem rf_half.bits5 : waitsOk rf_half.T5.2 rf_half.B5 = true := by kernel_rfl
set_option maxHeartbeats 8000000 in
set_option maxRecDepth 100000 in
theorem rf_half.calls (k : Nat) (A0 : Option Addr) (c0 : Nat) (l0 : List Int) (r : List Int) (w : World) (hr0 : Kd.C (Kd.int .i64) w A0 l0.length l0) (hc0 : l0.length ≤ c0) (h : rf_half.f k l0 = some r) :
  Calls Tryd.prog 99 #[.slice A0 l0.length c0] w fun e w' => ∃ v0_ : Value, e = .returned (v0_) ∧ Kd.V (Kd.int .i64) 3 w' w.heap.size (fun k_ => (w.heap.size ≤ k_)) v0_ r ∧ Below w.heap.size w w' := by
 have HR0 := am hr0
 have HC0 := am hc0
 clear hr0 hc0
 have HB := am (Below.refl w.heap.size w)
 have H := h
 unfold rf_half.f at H
 clear h
 replace H := zn H
 obtain ⟨c2, H⟩ := H
 have c2b0 := eq_true c2
 have c2b1 := decide_eq_true c2
 clear c2
 replace H := zn H
 obtain ⟨c3, H⟩ := H
 have c3b0 := eq_true c3
 have c3b1 := decide_eq_true c3
 clear c3
 obtain ⟨y564, hy564⟩ : ∃ y_ : List Int, y_ = (List.replicate ((l0.length : Int) : Int).toNat 0) := ⟨_, rfl⟩
 try rw [← hy564] at H
 have Ny564 := am hy564
 clear hy564
 have H' := am H
 clear H
 go_enter Tryd.func99, Tryd.ntmps99
 go_wp2_with (first | ((with_reducible refine gate_dst (N := 7) rfl ?_); refine Kd.R_make (Kd.int .i64) _ 3 rfl (N := 7) rfl 39 _ _ rfl (l0.length : Int) rfl rfl Tryd.underlying39 (.int .i64 0) 8 info3 rfl (by decide) (by omega) 0 (ok := fun _ => True) (okp := fun _ => True) rfl (fun _ hk => hk) trivial zq6 (Nat.le_trans (Nat.mul_le_mul_right _ (zq6 : (l0.length : Int).toNat ≤ 35184372088832)) (by omega)) (Below.refl _ _) (Nat.le_refl _) ?_; intro v565 w4 ho5 hb hg_ hnew_; clear hg_ hnew_; (first | rw [← Ny564.out] at ho5 | (simp only [Int.reduceToNat] at ho5; rw [← Ny564.out] at ho5)); have n0_ := am (Kd.R_lower (Kd.R_newM (M := fun k_ => (w.heap.size ≤ k_)) ho5 (below_size zq1) (fun k_ h_ => h_)) (below_size zq1)); have n1_ := am (below_step zq1 hb); clear HB; have HO566 := n0_; have HB := n1_; clear n0_ n1_; clear hb ho5))
 go_loopg [10] k (fun kq v10 w' => ∃ (x3_1 : List Int) (x10_1 : Int), v10 = .int .i64 x10_1 ∧ Aside0 (rf_half.l0 kq l0 x3_1 (l0.length : Int) x10_1 = some r) ∧ Aside0 (kq ≤ k) ∧ Aside0 (Kd.R (Kd.int .i64) 3 w' w.heap.size (fun k_ => (w.heap.size ≤ k_)) v565 x3_1) ∧ Aside0 (Below w.heap.size w w'))
 case atStart => exact ⟨(y564), (0), zq8, H', ⟨Nat.le_refl _⟩, ⟨by (with_reducible repeat (first | apply Kd.R_alloc | apply Kd.R_drewN | apply Kd.R_drew)); exact Kd.R_mono HO566.out (fun _ hk => hk.1)⟩, ⟨zq1⟩⟩
 case round =>
  clear H'
  obtain ⟨x3_1, x10_1, rfl, HA, HK1, HO_3, HB⟩ := hrel
  cases gk with
  | zero => exact absurd HA.out (by simp [rf_half.l0])
  | succ k1 =>
   have H := HA.out
   clear HA
   simp only [rf_half.l0] at H
   by_cases c6 : x10_1 < (l0.length : Int)
   ·rw [if_pos c6] at H
    have c6b0 := decide_eq_true c6
    clear c6
    replace H := zn H
    obtain ⟨c7, H⟩ := H
    have c7b0 := decide_eq_true c7
    clear c7
    replace H := zn H
    obtain ⟨c8, H⟩ := H
    have c8b0 := decide_eq_true c8
    clear c8
    replace H := zj H
    obtain ⟨t568, A9, H⟩ := H
    replace H := zn H
    obtain ⟨c10, H⟩ := H
    have c10b0 := decide_eq_true c10
    clear c10
    obtain ⟨y569, hy569⟩ : ∃ y_ : List Int, y_ = (x3_1.set (x10_1 : Int).toNat (Go.bits .or .i64 ((rd l0 x10_1) / 2) (wrap64 ((Go.bits .and .i64 t568 1) * 32768)))) := ⟨_, rfl⟩
    try rw [← hy569] at H
    have Ny569 := am hy569
    clear hy569
    have H' := am H
    clear H
    try go_wp2
    have n0_ := am (Kd.R_drew HO_3.out)
    have n1_ := am (below_drew1 HB.out)
    clear HO_3 HB
    have HO_3 := n0_
    have HB := n1_
    clear n0_ n1_
    have p567 : 0 ≤ (x10_1 : Int) := zq6
    have q567 : x10_1 < (l0.length : Int) := zq6
    obtain ⟨ad567, e567, hx567_0⟩ := Kd.at_int HR0.out x10_1 p567 q567
    have hw567_0 := hx567_0
    cases e567
    replace hx567_0 := (HB.out.cell (World.block_lt_of_cell? w _ hx567_0)).trans hx567_0
    replace p567 := eq_true p567
    replace q567 := eq_true q567
    refine start_ (n := 16) (S := fun w' => w'.cell? (ad567.add (x10_1).toNat) = some (.int .i64 (rd l0 x10_1))) (ds := [15]) #[false, false, false, false, false, false, false, false, false, false, false, false, false, false, false, false] (by kernel_rfl) rfl rfl (((HB.out.cell (World.block_lt_of_cell? w _ hw567_0)).trans hw567_0)) (fun hHeld => ?_); refine with_tabW rf_half.tab5 rf_half.bits5 (fun HT_ HW_ => ?_)
    generalize wr.drew = w12 at HO_3 HB hx567_0 hHeld ⊢
    refine pz_ (i := 0) (N := some 13) (zmt 16 [0]) ?_
    refine pz_ (i := 1) (N := some 14) (zmt 16 [0, 1]) ?_
    refine pz_ (i := 2) (N := some 15) (zmt 16 [0, 1, 2]) ?_
    refine pz_ (i := 3) (N := some 16) (zmt 16 [0, 1, 2, 3]) ?_
    refine pz_ (i := 4) (N := some 17) (zmt 16 [0, 1, 2, 3, 4]) ?_
    refine pz_ (i := 7) (N := some 20) (zmt 16 [0, 1, 2, 3, 4, 7]) ?_
    refine pz_ (i := 8) (N := some 21) (zmt 16 [0, 1, 2, 3, 4, 7, 8]) ?_
    refine pz_ (i := 9) (N := some 22) (zmt 16 [0, 1, 2, 3, 4, 7, 8, 9]) ?_
    refine tz1 (i := 5) (N := some 18) (zmf 16 [6, 10, 11, 12, 13, 14, 15]) ?_
    refine pz_ (i := 6) (N := some 19) (zmf 16 [10, 11, 12, 13, 14, 15]) ?_
    refine one_ (i := 10) (N := some 23) (zmf 16 [11, 12, 13, 14, 15]) rfl rfl (one_of HT_.out (by kernel_rfl)) (by decide) (fun K hK => ?_)
    refine goes_ Tryd.func97 (by kernel_rfl) rfl #[.slice (some ad567) l0.length c0, .int .i64 (wrap64 (x10_1 + 1))] (by rfl) rfl rfl zq5 ?_
    with_reducible refine (rf_digit.calls _ _ l0 (wrap64 (x10_1 + 1)) t568 _ ?side1 ?side2 A9.out).mono ?_
    (case side1 => exact zc (Kd.C_below HR0.out HB.out))
    (case side2 => exact HC0.out)
    rintro e w' ⟨rfl, ⟨nd, rfl⟩⟩
    refine ⟨_, rfl, ?_⟩
    have p11 : 0 ≤ (x10_1 : Int) := zq6
    have q11 : (x10_1 : Int) < ((x3_1.length : Int) : Int) := zq6
    obtain ⟨go11, co11, eo11, gb11, gl11, cl11, HG11⟩ := Kd.R_form HO_3.out (by omega)
    (first | cases eo11 | (injection eo11 with ea_ en_ ec_; (first | subst ea_ | (injection ea_ with ea_; subst ea_)); subst ec_; clear en_))
    have GB11 := am gb11
    have GG11 := am HG11
    clear gb11 gl11 HG11
    obtain ⟨hx11_0, hf11_0⟩ := Kd.R_celln 0 HO_3.out (x10_1 : Int) p11 q11
    replace p11 := eq_true p11
    replace q11 := eq_true q11
    have HP13 := Kd.R_putn HO_3.out (x10_1 : Int) (Go.bits .or .i64 ((rd l0 x10_1) / 2) (wrap64 ((Go.bits .and .i64 t568 1) * 32768)))
    rw [← Ny569.out] at HP13
    have HQ13 := am HP13
    clear HP13
    refine hK.out _ _ (((HB.out.cell (World.block_lt_of_cell? w _ hw567_0)).trans hw567_0)) (fun hHeld => ?_)
    clear hK K
    refine nz_ (N := (some 23)) ?_
    refine pz_ (i := 11) (N := some 24) (zmf 16 [12, 13, 14, 15]) ?_
    refine pz_ (i := 12) (N := some 25) (zmf 16 [13, 14, 15]) ?_
    refine pz_ (i := 13) (N := some 26) (zmf 16 [14, 15]) ?_
    refine pz_ (i := 14) (N := some 27) (zmf 16 [15]) ?_
    refine last_ (i := 15) (N := none) (zmf 16 []) rfl rfl (one_of HT_.out (by kernel_rfl)) (by decide) (fun K hK => ?_)
    refine skip_ (w1 := ?_) (by rfl) rfl ?_ ?_
    rotate_left
    ·go_simp
     rfl
    refine hK.out _ _ ?_
    clear hK K
    refine done_ (done_of HT_.out (by kernel_rfl)) ?_
    try go_wp2
    go_roundg k1
    case measure => have := HK1.out; omega
    case rel => exact ⟨(y569), (wrap64 (x10_1 + 1)), zq8, H', ⟨by have := HK1.out; omega⟩, ⟨zq4 HQ13.out⟩, ⟨zb1 GB11.out⟩⟩
   ·rw [if_neg c6] at H
    have c6b0 := decide_eq_false c6
    clear c6
    replace H := zj H
    obtain ⟨t570, A14, H⟩ := H
    obtain rfl := Option.some.inj H
    obtain ⟨Ao15, co15, eo15⟩ := Kd.R_slice HO_3.out
    subst eo15
    go_wp2_with (first | ((with_reducible refine gate_callee (f := 96) rfl ?_); refine goesL_ (some 30) rfl rfl Tryd.func96 (by kernel_rfl) rfl #[.slice Ao15 x3_1.length co15] rfl zq5 ?_; (with_reducible refine (rf_trim.calls k1 (fun k_ => some k_ = (.slice Ao15 x3_1.length co15 : Value).ownBlock) _ _ x3_1 t570 _ ?side1 A14.out).mono ?_); (case side1 => exact Kd.R_V (Kd.R_tight rfl (HO_3.out))); rintro e w16 ⟨v571, rfl, ho0, hb⟩; refine ⟨_, rfl, ?_⟩; have n0_ := am (Kd.R_below (zq4 HO_3.out) hb); have n1_ := am (Kd.V_lower (Kd.V_mono (ok' := fun k_ => (w.heap.size ≤ k_)) ho0 (fun k_ hk_ => Or.elim hk_ (fun hs_ => ((HO_3.out).1 k_ hs_.symm)) (fun hn_ => (Nat.le_trans (below_size zq1) hn_)))) (below_size zq1)); have n2_ := am (below_step zq1 hb); clear HO_3 HB; have HO_3 := n0_; have HO572 := n1_; have HB := n2_; clear n0_ n1_ n2_))
    go_ret
    exact ⟨_, zq9, zq3 HO572.out, zq1⟩
mutual
def rf_GcdNat.l0 : Nat → List Int → List Int → Int → Option (List Int)
 | 0, _, _, _ => none
 | k + 1, x0, x1, x5 => (rf_bit.f x0 0).bind fun t573 => (if t573 = 0 then ((rf_bit.f x1 0).bind fun t574 => (rf_GcdNat.j1 k x0 x1 x5 (t574 == 0))) else (rf_GcdNat.j1 k x0 x1 x5 false))
def rf_GcdNat.j1 : Nat → List Int → List Int → Int → Bool → Option (List Int)
 | 0, _, _, _, _ => none
 | k + 1, x0, x1, x5, x22 => if x22 = true then ((rf_half.f k x0).bind fun t575 => ((rf_half.f k x1).bind fun t578 => (rf_GcdNat.l0 k t575 t578 (wrap64 (x5 + 1))))) else (rf_GcdNat.l1 k x0 x1 x5)
def rf_GcdNat.l1 : Nat → List Int → List Int → Int → Option (List Int)
 | 0, _, _, _ => none
 | k + 1, x0, x1, x5 => if (x0.length : Int) > 0 then (rf_GcdNat.l2 k x0 x1 x5) else ((rf_ShlNat.f k x1 x5).bind fun t581 => (some t581))
def rf_GcdNat.l2 : Nat → List Int → List Int → Int → Option (List Int)
 | 0, _, _, _ => none
 | k + 1, x0, x1, x5 => (rf_bit.f x0 0).bind fun t584 => (if t584 = 0 then ((rf_half.f k x0).bind fun t585 => (rf_GcdNat.l2 k t585 x1 x5)) else (rf_GcdNat.l3 k x0 x1 x5))
def rf_GcdNat.l3 : Nat → List Int → List Int → Int → Option (List Int)
 | 0, _, _, _ => none
 | k + 1, x0, x1, x5 => (rf_bit.f x1 0).bind fun t588 => (if t588 = 0 then ((rf_half.f k x1).bind fun t589 => (rf_GcdNat.l3 k x0 t589 x5)) else ((rf_CmpNat.f k x0 x1).bind fun t592 => (if t592 < 0 then ((rf_SubNat.f k x1 x0).bind fun t593 => (rf_GcdNat.l1 k t593 x0 x5)) else ((rf_SubNat.f k x0 x1).bind fun t596 => (rf_GcdNat.l1 k t596 x1 x5)))))
end
def rf_GcdNat.f (k : Nat) (l0 : List Int) (l1 : List Int) : Option (List Int) := if (l0.length : Int) = 0 then (some l1) else (if (l1.length : Int) = 0 then (some l0) else (rf_GcdNat.l0 k l0 l1 0))
theorem rf_GcdNat.mono_l : ∀ k, (∀ y0 y1 y2, LeO (rf_GcdNat.l0 k y0 y1 y2) (rf_GcdNat.l0 (k + 1) y0 y1 y2)) ∧ (∀ y0 y1 y2 y3, LeO (rf_GcdNat.j1 k y0 y1 y2 y3) (rf_GcdNat.j1 (k + 1) y0 y1 y2 y3)) ∧ (∀ y0 y1 y2, LeO (rf_GcdNat.l1 k y0 y1 y2) (rf_GcdNat.l1 (k + 1) y0 y1 y2)) ∧ (∀ y0 y1 y2, LeO (rf_GcdNat.l2 k y0 y1 y2) (rf_GcdNat.l2 (k + 1) y0 y1 y2)) ∧ (∀ y0 y1 y2, LeO (rf_GcdNat.l3 k y0 y1 y2) (rf_GcdNat.l3 (k + 1) y0 y1 y2))
 | 0 => ⟨fun _ _ _ r h => by simp [rf_GcdNat.l0] at h, fun _ _ _ _ r h => by simp [rf_GcdNat.j1] at h, fun _ _ _ r h => by simp [rf_GcdNat.l1] at h, fun _ _ _ r h => by simp [rf_GcdNat.l2] at h, fun _ _ _ r h => by simp [rf_GcdNat.l3] at h⟩
 | k + 1 => by
  obtain ⟨ih0, ih1, ih2, ih3, ih4⟩ := rf_GcdNat.mono_l k
  refine ⟨?_, ?_, ?_, ?_, ?_⟩
  ·intro y0 y1 y2
   unfold rf_GcdNat.l0
   repeat' first
   | (with_reducible exact ih0 _ _ _)
   | (with_reducible exact ih1 _ _ _ _)
   | (with_reducible exact ih2 _ _ _)
   | (with_reducible exact ih3 _ _ _)
   | (with_reducible exact ih4 _ _ _)
   | (with_reducible exact rf_CmpNat.mono _ _ _)
   | (with_reducible exact rf_ShlNat.mono _ _ _)
   | (with_reducible exact rf_SubNat.mono _ _ _)
   | (with_reducible exact rf_half.mono _ _)
   | (with_reducible exact LeO.refl _)
   | (with_reducible exact LeO.none _)
   | (with_reducible refine LeO.ite ?_ ?_)
   | (with_reducible refine LeO.bind ?_ (fun _ => ?_))
   | exact ih0 _ _ _
   | exact ih1 _ _ _ _
   | exact ih2 _ _ _
   | exact ih3 _ _ _
   | exact ih4 _ _ _
   | exact rf_CmpNat.mono _ _ _
   | exact rf_ShlNat.mono _ _ _
   | exact rf_SubNat.mono _ _ _
   | exact rf_half.mono _ _
   | exact LeO.none _
   | refine LeO.ite ?_ ?_
   | refine LeO.bind ?_ (fun _ => ?_)
  ·intro y0 y1 y2 y3
   unfold rf_GcdNat.j1
   repeat' first
   | (with_reducible exact ih0 _ _ _)
   | (with_reducible exact ih1 _ _ _ _)
   | (with_reducible exact ih2 _ _ _)
   | (with_reducible exact ih3 _ _ _)
   | (with_reducible exact ih4 _ _ _)
   | (with_reducible exact rf_CmpNat.mono _ _ _)
   | (with_reducible exact rf_ShlNat.mono _ _ _)
   | (with_reducible exact rf_SubNat.mono _ _ _)
   | (with_reducible exact rf_half.mono _ _)
   | (with_reducible exact LeO.refl _)
   | (with_reducible exact LeO.none _)
   | (with_reducible refine LeO.ite ?_ ?_)
   | (with_reducible refine LeO.bind ?_ (fun _ => ?_))
   | exact ih0 _ _ _
   | exact ih1 _ _ _ _
   | exact ih2 _ _ _
   | exact ih3 _ _ _
   | exact ih4 _ _ _
   | exact rf_CmpNat.mono _ _ _
   | exact rf_ShlNat.mono _ _ _
   | exact rf_SubNat.mono _ _ _
   | exact rf_half.mono _ _
   | exact LeO.none _
   | refine LeO.ite ?_ ?_
   | refine LeO.bind ?_ (fun _ => ?_)
  ·intro y0 y1 y2
   unfold rf_GcdNat.l1
   repeat' first
   | (with_reducible exact ih0 _ _ _)
   | (with_reducible exact ih1 _ _ _ _)
   | (with_reducible exact ih2 _ _ _)
   | (with_reducible exact ih3 _ _ _)
   | (with_reducible exact ih4 _ _ _)
   | (with_reducible exact rf_CmpNat.mono _ _ _)
   | (with_reducible exact rf_ShlNat.mono _ _ _)
   | (with_reducible exact rf_SubNat.mono _ _ _)
   | (with_reducible exact rf_half.mono _ _)
   | (with_reducible exact LeO.refl _)
   | (with_reducible exact LeO.none _)
   | (with_reducible refine LeO.ite ?_ ?_)
   | (with_reducible refine LeO.bind ?_ (fun _ => ?_))
   | exact ih0 _ _ _
   | exact ih1 _ _ _ _
   | exact ih2 _ _ _
   | exact ih3 _ _ _
   | exact ih4 _ _ _
   | exact rf_CmpNat.mono _ _ _
   | exact rf_ShlNat.mono _ _ _
   | exact rf_SubNat.mono _ _ _
   | exact rf_half.mono _ _
   | exact LeO.none _
   | refine LeO.ite ?_ ?_
   | refine LeO.bind ?_ (fun _ => ?_)
  ·intro y0 y1 y2
   unfold rf_GcdNat.l2
   repeat' first
   | (with_reducible exact ih0 _ _ _)
   | (with_reducible exact ih1 _ _ _ _)
   | (with_reducible exact ih2 _ _ _)
   | (with_reducible exact ih3 _ _ _)
   | (with_reducible exact ih4 _ _ _)
   | (with_reducible exact rf_CmpNat.mono _ _ _)
   | (with_reducible exact rf_ShlNat.mono _ _ _)
   | (with_reducible exact rf_SubNat.mono _ _ _)
   | (with_reducible exact rf_half.mono _ _)
   | (with_reducible exact LeO.refl _)
   | (with_reducible exact LeO.none _)
   | (with_reducible refine LeO.ite ?_ ?_)
   | (with_reducible refine LeO.bind ?_ (fun _ => ?_))
   | exact ih0 _ _ _
   | exact ih1 _ _ _ _
   | exact ih2 _ _ _
   | exact ih3 _ _ _
   | exact ih4 _ _ _
   | exact rf_CmpNat.mono _ _ _
   | exact rf_ShlNat.mono _ _ _
   | exact rf_SubNat.mono _ _ _
   | exact rf_half.mono _ _
   | exact LeO.none _
   | refine LeO.ite ?_ ?_
   | refine LeO.bind ?_ (fun _ => ?_)
  ·intro y0 y1 y2
   unfold rf_GcdNat.l3
   repeat' first
   | (with_reducible exact ih0 _ _ _)
   | (with_reducible exact ih1 _ _ _ _)
   | (with_reducible exact ih2 _ _ _)
   | (with_reducible exact ih3 _ _ _)
   | (with_reducible exact ih4 _ _ _)
   | (with_reducible exact rf_CmpNat.mono _ _ _)
   | (with_reducible exact rf_ShlNat.mono _ _ _)
   | (with_reducible exact rf_SubNat.mono _ _ _)
   | (with_reducible exact rf_half.mono _ _)
   | (with_reducible exact LeO.refl _)
   | (with_reducible exact LeO.none _)
   | (with_reducible refine LeO.ite ?_ ?_)
   | (with_reducible refine LeO.bind ?_ (fun _ => ?_))
   | exact ih0 _ _ _
   | exact ih1 _ _ _ _
   | exact ih2 _ _ _
   | exact ih3 _ _ _
   | exact ih4 _ _ _
   | exact rf_CmpNat.mono _ _ _
   | exact rf_ShlNat.mono _ _ _
   | exact rf_SubNat.mono _ _ _
   | exact rf_half.mono _ _
   | exact LeO.none _
   | refine LeO.ite ?_ ?_
   | refine LeO.bind ?_ (fun _ => ?_)
theorem rf_GcdNat.mono : ∀ a0 a1 k, LeO (rf_GcdNat.f k a0 a1) (rf_GcdNat.f (k + 1) a0 a1) := by
 intro a0 a1 k
 obtain ⟨ih0, ih1, ih2, ih3, ih4⟩ := rf_GcdNat.mono_l k
 unfold rf_GcdNat.f
 repeat' first
   | (with_reducible exact ih0 _ _ _)
   | (with_reducible exact ih1 _ _ _ _)
   | (with_reducible exact ih2 _ _ _)
   | (with_reducible exact ih3 _ _ _)
   | (with_reducible exact ih4 _ _ _)
   | (with_reducible exact rf_CmpNat.mono _ _ _)
   | (with_reducible exact rf_ShlNat.mono _ _ _)
   | (with_reducible exact rf_SubNat.mono _ _ _)
   | (with_reducible exact rf_half.mono _ _)
   | (with_reducible exact LeO.refl _)
   | (with_reducible exact LeO.none _)
   | (with_reducible refine LeO.ite ?_ ?_)
   | (with_reducible refine LeO.bind ?_ (fun _ => ?_))
   | exact ih0 _ _ _
   | exact ih1 _ _ _ _
   | exact ih2 _ _ _
   | exact ih3 _ _ _
   | exact ih4 _ _ _
   | exact rf_CmpNat.mono _ _ _
   | exact rf_ShlNat.mono _ _ _
   | exact rf_SubNat.mono _ _ _
   | exact rf_half.mono _ _
   | exact LeO.none _
   | refine LeO.ite ?_ ?_
   | refine LeO.bind ?_ (fun _ => ?_)
set_option maxHeartbeats 8000000 in
set_option maxRecDepth 100000 in
theorem rf_GcdNat.calls (k : Nat) (P0_ : Nat → Prop) (A0 : Option Addr) (c0 : Nat) (l0 : List Int) (P1_ : Nat → Prop) (A1 : Option Addr) (c1 : Nat) (l1 : List Int) (r : List Int) (w : World) (hs0 : Kd.V (Kd.int .i64) 3 w w.heap.size (fun k_ => P0_ k_) (.slice A0 l0.length c0) l0) (hs1 : Kd.V (Kd.int .i64) 3 w w.heap.size (fun k_ => P1_ k_) (.slice A1 l1.length c1) l1) (h : rf_GcdNat.f k l0 l1 = some r) :
  Calls Tryd.prog 47 #[.slice A0 l0.length c0, .slice A1 l1.length c1] w fun e w' => ∃ v0_ : Value, e = .returned (v0_) ∧ Kd.V (Kd.int .i64) 3 w' w.heap.size (fun k_ => ((P0_ k_ ∨ P1_ k_) ∨ w.heap.size ≤ k_)) v0_ r ∧ Below w.heap.size w w' := by
 have HO0 := am (show Kd.V (Kd.int .i64) 3 w w.heap.size (fun k_ => ((P0_ k_ ∨ P1_ k_) ∨ w.heap.size ≤ k_)) (.slice A0 l0.length c0) l0 from Kd.V_mono hs0 (fun k_ hk => .inl (.inl hk)))
 have HO1 := am (show Kd.V (Kd.int .i64) 3 w w.heap.size (fun k_ => ((P0_ k_ ∨ P1_ k_) ∨ w.heap.size ≤ k_)) (.slice A1 l1.length c1) l1 from Kd.V_mono hs1 (fun k_ hk => .inl (.inr hk)))
 have HB := am (Below.refl w.heap.size w)
 have H := h
 unfold rf_GcdNat.f at H
 clear h
 by_cases c3 : (l0.length : Int) = 0
 ·rw [if_pos c3] at H
  have c3b0 : ((l0.length : Int) == 0) = true := beq_iff_eq.mpr c3
  have c3b1 : ((l0.length : Int) != 0) = false := bne_eq_false_iff_eq.mpr c3
  clear c3
  obtain rfl := Option.some.inj H
  go_enter Tryd.func47, Tryd.ntmps47
  go_wp2
  go_ret
  exact ⟨_, zq9, zq3 HO1.out, zq1⟩
 ·rw [if_neg c3] at H
  have c3b0 : ((l0.length : Int) == 0) = false := beq_eq_false_iff_ne.mpr c3
  have c3b1 : ((l0.length : Int) != 0) = true := bne_iff_ne.mpr c3
  have c3b2 : ¬ (l0 = []) := fun h_ => c3 (by rw [h_]; rfl)
  by_cases c4 : (l1.length : Int) = 0
  ·rw [if_pos c4] at H
   have c4b0 : ((l1.length : Int) == 0) = true := beq_iff_eq.mpr c4
   have c4b1 : ((l1.length : Int) != 0) = false := bne_eq_false_iff_eq.mpr c4
   clear c4
   obtain rfl := Option.some.inj H
   go_enter Tryd.func47, Tryd.ntmps47
   go_wp2
   go_ret
   exact ⟨_, zq9, zq3 HO0.out, zq1⟩
  ·rw [if_neg c4] at H
   have c4b0 : ((l1.length : Int) == 0) = false := beq_eq_false_iff_ne.mpr c4
   have c4b1 : ((l1.length : Int) != 0) = true := bne_iff_ne.mpr c4
   have c4b2 : ¬ (l1 = []) := fun h_ => c4 (by rw [h_]; rfl)
   have H' := am H
   clear H
   go_enter Tryd.func47, Tryd.ntmps47
   go_wp2
   go_loopg [0, 1, 5] k (fun kq v0 v1 v5 w' => ∃ (x0_1 : List Int) (x1_1 : List Int) (x5_1 : Int), v5 = .int .i64 x5_1 ∧ Aside0 (rf_GcdNat.l0 kq x0_1 x1_1 x5_1 = some r) ∧ Aside0 (kq ≤ k) ∧ Aside0 (Kd.V (Kd.int .i64) 3 w' w.heap.size (fun k_ => ((P0_ k_ ∨ P1_ k_) ∨ w.heap.size ≤ k_)) v0 x0_1) ∧ Aside0 (Kd.V (Kd.int .i64) 3 w' w.heap.size (fun k_ => ((P0_ k_ ∨ P1_ k_) ∨ w.heap.size ≤ k_)) v1 x1_1) ∧ Aside0 (Below w.heap.size w w'))
   case atStart => exact ⟨(l0), (l1), (0), zq8, H', ⟨Nat.le_refl _⟩, ⟨zq3 HO0.out⟩, ⟨zq3 HO1.out⟩, ⟨zq1⟩⟩
   case round =>
    clear H'
    obtain ⟨x0_1, x1_1, x5_1, rfl, HA, HK1, HO_0, HO_1, HB⟩ := hrel
    cases gk with
    | zero => exact absurd HA.out (by simp [rf_GcdNat.l0])
    | succ k1 =>
     have H := HA.out
     clear HA
     simp only [rf_GcdNat.l0] at H
     have HC5 := am H
     clear H
     go_upto_region 6 with (fail)
     go_cut [22] (fun v22 wc => ∃ (kq : Nat) (x22_4 : Bool), v22 = .bool x22_4 ∧ Aside0 (rf_GcdNat.j1 kq x0_1 x1_1 x5_1 x22_4 = some r) ∧ Aside0 (kq ≤ k1) ∧ Aside0 (Kd.V (Kd.int .i64) 3 wc w.heap.size (fun k_ => ((P0_ k_ ∨ P1_ k_) ∨ w.heap.size ≤ k_)) u0 x0_1) ∧ Aside0 (Kd.V (Kd.int .i64) 3 wc w.heap.size (fun k_ => ((P0_ k_ ∨ P1_ k_) ∨ w.heap.size ≤ k_)) u1 x1_1) ∧ Aside0 (Below w.heap.size w wc))
     case first =>
      have H := HC5.out
      clear HC5
      replace H := zj H
      obtain ⟨t573, A6, H⟩ := H
      by_cases c7 : t573 = 0
      ·rw [if_pos c7] at H
       have c7b0 : (t573 == 0) = true := beq_iff_eq.mpr c7
       have c7b1 : (t573 != 0) = false := bne_eq_false_iff_eq.mpr c7
       clear c7
       (first | rw [c7b0] | (simp only [i64_w, i32_w]; rw [c7b0]) | skip)
       replace H := zj H
       obtain ⟨t574, A8, H⟩ := H
       have H' := am H
       clear H
       obtain ⟨Ao9, co9, eo9⟩ := Kd.V_slice HO_0.out
       subst eo9
       go_wp2_with (first | ((with_reducible refine gate_callee (f := 98) rfl ?_); refine goesL_ (some 16) rfl rfl Tryd.func98 (by kernel_rfl) rfl #[.slice Ao9 x0_1.length co9, .int .i64 0] rfl zq5 ?_; (with_reducible refine (rf_bit.calls _ _ x0_1 0 t573 _ ?side1 ?side2 A6.out).mono ?_); (case side1 => exact zc ((Kd.V_reads' HO_0.out).2.2)); (case side2 => exact (Kd.V_reads' HO_0.out).2.1); rintro e w' ⟨rfl, ⟨nd, rfl⟩⟩; refine ⟨_, rfl, ?_⟩; obtain ⟨Ao10, co10, eo10⟩ := Kd.V_slice HO_1.out; subst eo10) | (go_at_call 98; (with_reducible refine (rf_bit.calls _ _ x1_1 0 t574 _ ?side1 ?side2 A8.out).mono ?_); (case side1 => exact zc ((Kd.V_reads' HO_1.out).2.2)); (case side2 => exact (Kd.V_reads' HO_1.out).2.1); rintro e w' ⟨rfl, ⟨nd, rfl⟩⟩))
       go_meet
       case rel => exact ⟨_, ((t574 == 0)), zq8, H', ⟨by have := HK1.out; first | omega | exact Nat.le_refl _⟩, ⟨zq3 HO_0.out⟩, ⟨zq3 HO_1.out⟩, ⟨zq1⟩⟩
      ·rw [if_neg c7] at H
       have c7b0 : (t573 == 0) = false := beq_eq_false_iff_ne.mpr c7
       have c7b1 : (t573 != 0) = true := bne_iff_ne.mpr c7
       (first | rw [c7b0] | (simp only [i64_w, i32_w]; rw [c7b0]) | skip)
       have H' := am H
       clear H
       obtain ⟨Ao11, co11, eo11⟩ := Kd.V_slice HO_0.out
       subst eo11
       go_wp2_with (first | ((with_reducible refine gate_callee (f := 98) rfl ?_); refine goesL_ (some 16) rfl rfl Tryd.func98 (by kernel_rfl) rfl #[.slice Ao11 x0_1.length co11, .int .i64 0] rfl zq5 ?_; (with_reducible refine (rf_bit.calls _ _ x0_1 0 t573 _ ?side1 ?side2 A6.out).mono ?_); (case side1 => exact zc ((Kd.V_reads' HO_0.out).2.2)); (case side2 => exact (Kd.V_reads' HO_0.out).2.1); rintro e w' ⟨rfl, ⟨nd, rfl⟩⟩; refine ⟨_, rfl, ?_⟩))
       go_meet
       case rel => exact ⟨_, (false), zq8, H', ⟨by have := HK1.out; first | omega | exact Nat.le_refl _⟩, ⟨zq3 HO_0.out⟩, ⟨zq3 HO_1.out⟩, ⟨zq1⟩⟩
     case rest =>
      clear HC5
      obtain ⟨kq, x22_4, rfl, HA, HJ4, HO_0, HO_1, HB⟩ := hcut
      cases kq with
      | zero => exact absurd HA.out (by simp [rf_GcdNat.j1])
      | succ kj4 =>
       have H := HA.out
       clear HA
       simp only [rf_GcdNat.j1] at H
       by_cases c12 : x22_4 = true
       ·subst c12
        have H1 : ((rf_half.f kj4 x0_1).bind fun t575 => ((rf_half.f kj4 x1_1).bind fun t578 => (rf_GcdNat.l0 kj4 t575 t578 (wrap64 (x5_1 + 1))))) = some r := by rw [if_pos rfl] at H; exact H
        clear H
        have H := H1
        clear H1
        replace H := zj H
        obtain ⟨t575, A13, H⟩ := H
        replace H := zj H
        obtain ⟨t578, A14, H⟩ := H
        have H' := am H
        clear H
        obtain ⟨Ao15, co15, eo15⟩ := Kd.V_slice HO_0.out
        subst eo15
        go_wp2_with (first | ((with_reducible refine gate_callee (f := 99) rfl ?_); refine goesL_ (some 24) rfl rfl Tryd.func99 (by kernel_rfl) rfl #[.slice Ao15 x0_1.length co15] rfl zq5 ?_; (with_reducible refine (rf_half.calls kj4 _ _ x0_1 t575 _ ?side1 ?side2 A13.out).mono ?_); (case side1 => exact zc ((Kd.V_reads' HO_0.out).2.2)); (case side2 => exact (Kd.V_reads' HO_0.out).2.1); rintro e w16 ⟨v576, rfl, ho0, hb⟩; refine ⟨_, rfl, ?_⟩; have n0_ := am (Kd.V_below (zq3 HO_0.out) hb); have n1_ := am (Kd.V_below (zq3 HO_1.out) hb); have n2_ := am (Kd.V_lower (Kd.V_mono (ok' := fun k_ => ((P0_ k_ ∨ P1_ k_) ∨ w.heap.size ≤ k_)) ho0 (fun k_ hk_ => (.inr (Nat.le_trans (below_size zq1) hk_)))) (below_size zq1)); have n3_ := am (below_step zq1 hb); clear HO_0 HO_1 HB; have HO_0 := n0_; have HO_1 := n1_; have HO577 := n2_; have HB := n3_; clear n0_ n1_ n2_ n3_; obtain ⟨Ao17, co17, eo17⟩ := Kd.V_slice HO_1.out; subst eo17) | ((with_reducible refine gate_callee (f := 99) rfl ?_); refine goesL_ (some 26) rfl rfl Tryd.func99 (by kernel_rfl) rfl #[.slice Ao17 x1_1.length co17] rfl zq5 ?_; (with_reducible refine (rf_half.calls kj4 _ _ x1_1 t578 _ ?side1 ?side2 A14.out).mono ?_); (case side1 => exact zc ((Kd.V_reads' HO_1.out).2.2)); (case side2 => exact (Kd.V_reads' HO_1.out).2.1); rintro e w18 ⟨v579, rfl, ho0, hb⟩; refine ⟨_, rfl, ?_⟩; have n0_ := am (Kd.V_below (zq3 HO_0.out) hb); have n1_ := am (Kd.V_below (zq3 HO_1.out) hb); have n2_ := am (Kd.V_below (zq3 HO577.out) hb); have n3_ := am (Kd.V_lower (Kd.V_mono (ok' := fun k_ => ((P0_ k_ ∨ P1_ k_) ∨ w.heap.size ≤ k_)) ho0 (fun k_ hk_ => (.inr (Nat.le_trans (below_size zq1) hk_)))) (below_size zq1)); have n4_ := am (below_step zq1 hb); clear HO_0 HO_1 HO577 HB; have HO_0 := n0_; have HO_1 := n1_; have HO577 := n2_; have HO580 := n3_; have HB := n4_; clear n0_ n1_ n2_ n3_ n4_))
        go_roundg kj4
        case measure => have := HK1.out; have := HJ4.out; omega
        case rel => exact ⟨(t575), (t578), (wrap64 (x5_1 + 1)), zq8, H', ⟨by have := HK1.out; have := HJ4.out; omega⟩, ⟨zq3 HO577.out⟩, ⟨zq3 HO580.out⟩, ⟨zq1⟩⟩
       ·replace c12 := Bool.eq_false_iff.mpr c12
        subst c12
        have H1 : (rf_GcdNat.l1 kj4 x0_1 x1_1 x5_1) = some r := by rw [if_neg (show ¬ (false = true) by decide)] at H; exact H
        clear H
        have H := H1
        clear H1
        have H' := am H
        clear H
        go_wp2
        go_loopg [0, 1] kj4 (fun kq v0 v1 w' => ∃ (x0_3 : List Int) (x1_3 : List Int), Aside0 (rf_GcdNat.l1 kq x0_3 x1_3 x5_1 = some r) ∧ Aside0 (kq ≤ kj4) ∧ Aside0 (Kd.V (Kd.int .i64) 3 w' w.heap.size (fun k_ => ((P0_ k_ ∨ P1_ k_) ∨ w.heap.size ≤ k_)) v0 x0_3) ∧ Aside0 (Kd.V (Kd.int .i64) 3 w' w.heap.size (fun k_ => ((P0_ k_ ∨ P1_ k_) ∨ w.heap.size ≤ k_)) v1 x1_3) ∧ Aside0 (Below w.heap.size w w'))
        case atStart => exact ⟨(x0_1), (x1_1), H', ⟨Nat.le_refl _⟩, ⟨zq3 HO_0.out⟩, ⟨zq3 HO_1.out⟩, ⟨zq1⟩⟩
        case round =>
         clear H'
         obtain ⟨x0_3, x1_3, HA, HK3, HO_0, HO_1, HB⟩ := hrel
         cases gk with
         | zero => exact absurd HA.out (by simp [rf_GcdNat.l1])
         | succ k3 =>
          have H := HA.out
          clear HA
          simp only [rf_GcdNat.l1] at H
          by_cases c19 : (x0_3.length : Int) > 0
          ·rw [if_pos c19] at H
           have c19b0 : decide (0 < (x0_3.length : Int)) = true := decide_eq_true c19
           have c19b1 : decide (0 < x0_3.length) = true := decide_eq_true (by omega)
           clear c19
           have H' := am H
           clear H
           obtain ⟨Ao20, co20, eo20⟩ := Kd.V_slice HO_0.out
           subst eo20
           go_wp2
           go_loopg [0] k3 (fun kq v0 w' => ∃ (x0_4 : List Int), Aside0 (rf_GcdNat.l2 kq x0_4 x1_3 x5_1 = some r) ∧ Aside0 (kq ≤ k3) ∧ Aside0 (Kd.V (Kd.int .i64) 3 w' w.heap.size (fun k_ => ((P0_ k_ ∨ P1_ k_) ∨ w.heap.size ≤ k_)) v0 x0_4) ∧ Aside0 (Kd.V (Kd.int .i64) 3 w' w.heap.size (fun k_ => ((P0_ k_ ∨ P1_ k_) ∨ w.heap.size ≤ k_)) u1 x1_3) ∧ Aside0 (Below w.heap.size w w'))
           case atStart => exact ⟨(x0_3), H', ⟨Nat.le_refl _⟩, ⟨zq3 HO_0.out⟩, ⟨zq3 HO_1.out⟩, ⟨zq1⟩⟩
           case round =>
            clear H'
            obtain ⟨x0_4, HA, HK4, HO_0, HO_1, HB⟩ := hrel
            cases gk with
            | zero => exact absurd HA.out (by simp [rf_GcdNat.l2])
            | succ k4 =>
             have H := HA.out
             clear HA
             simp only [rf_GcdNat.l2] at H
             replace H := zj H
             obtain ⟨t584, A21, H⟩ := H
             by_cases c22 : t584 = 0
             ·rw [if_pos c22] at H
              have c22b0 : (t584 == 0) = true := beq_iff_eq.mpr c22
              have c22b1 : (t584 != 0) = false := bne_eq_false_iff_eq.mpr c22
              clear c22
              replace H := zj H
              obtain ⟨t585, A23, H⟩ := H
              have H' := am H
              clear H
              obtain ⟨Ao24, co24, eo24⟩ := Kd.V_slice HO_0.out
              subst eo24
              go_wp2_with (first | ((with_reducible refine gate_callee (f := 98) rfl ?_); refine goesL_ (some 33) rfl rfl Tryd.func98 (by kernel_rfl) rfl #[.slice Ao24 x0_4.length co24, .int .i64 0] rfl zq5 ?_; (with_reducible refine (rf_bit.calls _ _ x0_4 0 t584 _ ?side1 ?side2 A21.out).mono ?_); (case side1 => exact zc ((Kd.V_reads' HO_0.out).2.2)); (case side2 => exact (Kd.V_reads' HO_0.out).2.1); rintro e w' ⟨rfl, ⟨nd, rfl⟩⟩; refine ⟨_, rfl, ?_⟩) | ((with_reducible refine gate_callee (f := 99) rfl ?_); refine goesL_ (some 36) rfl rfl Tryd.func99 (by kernel_rfl) rfl #[.slice Ao24 x0_4.length co24] rfl zq5 ?_; (with_reducible refine (rf_half.calls k4 _ _ x0_4 t585 _ ?side1 ?side2 A23.out).mono ?_); (case side1 => exact zc ((Kd.V_reads' HO_0.out).2.2)); (case side2 => exact (Kd.V_reads' HO_0.out).2.1); rintro e w25 ⟨v586, rfl, ho0, hb⟩; refine ⟨_, rfl, ?_⟩; have n0_ := am (Kd.V_below (zq3 HO_0.out) hb); have n1_ := am (Kd.V_below (zq3 HO_1.out) hb); have n2_ := am (Kd.V_lower (Kd.V_mono (ok' := fun k_ => ((P0_ k_ ∨ P1_ k_) ∨ w.heap.size ≤ k_)) ho0 (fun k_ hk_ => (.inr (Nat.le_trans (below_size zq1) hk_)))) (below_size zq1)); have n3_ := am (below_step zq1 hb); clear HO_0 HO_1 HB; have HO_0 := n0_; have HO_1 := n1_; have HO587 := n2_; have HB := n3_; clear n0_ n1_ n2_ n3_))
              go_roundg k4
              case measure => have := HK1.out; have := HJ4.out; have := HK3.out; have := HK4.out; omega
              case rel => exact ⟨(t585), H', ⟨by have := HK1.out; have := HJ4.out; have := HK3.out; have := HK4.out; omega⟩, ⟨zq3 HO587.out⟩, ⟨zq3 HO_1.out⟩, ⟨zq1⟩⟩
             ·rw [if_neg c22] at H
              have c22b0 : (t584 == 0) = false := beq_eq_false_iff_ne.mpr c22
              have c22b1 : (t584 != 0) = true := bne_iff_ne.mpr c22
              have H' := am H
              clear H
              obtain ⟨Ao26, co26, eo26⟩ := Kd.V_slice HO_0.out
              subst eo26
              go_wp2_with (first | ((with_reducible refine gate_callee (f := 98) rfl ?_); refine goesL_ (some 33) rfl rfl Tryd.func98 (by kernel_rfl) rfl #[.slice Ao26 x0_4.length co26, .int .i64 0] rfl zq5 ?_; (with_reducible refine (rf_bit.calls _ _ x0_4 0 t584 _ ?side1 ?side2 A21.out).mono ?_); (case side1 => exact zc ((Kd.V_reads' HO_0.out).2.2)); (case side2 => exact (Kd.V_reads' HO_0.out).2.1); rintro e w' ⟨rfl, ⟨nd, rfl⟩⟩; refine ⟨_, rfl, ?_⟩))
              go_loopg [1] k4 (fun kq v1 w' => ∃ (x1_5 : List Int), Aside0 (rf_GcdNat.l3 kq x0_4 x1_5 x5_1 = some r) ∧ Aside0 (kq ≤ k4) ∧ Aside0 (Kd.V (Kd.int .i64) 3 w' w.heap.size (fun k_ => ((P0_ k_ ∨ P1_ k_) ∨ w.heap.size ≤ k_)) (.slice Ao26 x0_4.length co26) x0_4) ∧ Aside0 (Kd.V (Kd.int .i64) 3 w' w.heap.size (fun k_ => ((P0_ k_ ∨ P1_ k_) ∨ w.heap.size ≤ k_)) v1 x1_5) ∧ Aside0 (Below w.heap.size w w'))
              case atStart => exact ⟨(x1_3), H', ⟨Nat.le_refl _⟩, ⟨zq3 HO_0.out⟩, ⟨zq3 HO_1.out⟩, ⟨zq1⟩⟩
              case round =>
               clear H'
               obtain ⟨x1_5, HA, HK5, HO_0, HO_1, HB⟩ := hrel
               cases gk with
               | zero => exact absurd HA.out (by simp [rf_GcdNat.l3])
               | succ k5 =>
                have H := HA.out
                clear HA
                simp only [rf_GcdNat.l3] at H
                replace H := zj H
                obtain ⟨t588, A27, H⟩ := H
                by_cases c28 : t588 = 0
                ·rw [if_pos c28] at H
                 have c28b0 : (t588 == 0) = true := beq_iff_eq.mpr c28
                 have c28b1 : (t588 != 0) = false := bne_eq_false_iff_eq.mpr c28
                 clear c28
                 replace H := zj H
                 obtain ⟨t589, A29, H⟩ := H
                 have H' := am H
                 clear H
                 obtain ⟨Ao30, co30, eo30⟩ := Kd.V_slice HO_1.out
                 subst eo30
                 go_wp2_with (first | ((with_reducible refine gate_callee (f := 98) rfl ?_); refine goesL_ (some 38) rfl rfl Tryd.func98 (by kernel_rfl) rfl #[.slice Ao30 x1_5.length co30, .int .i64 0] rfl zq5 ?_; (with_reducible refine (rf_bit.calls _ _ x1_5 0 t588 _ ?side1 ?side2 A27.out).mono ?_); (case side1 => exact zc ((Kd.V_reads' HO_1.out).2.2)); (case side2 => exact (Kd.V_reads' HO_1.out).2.1); rintro e w' ⟨rfl, ⟨nd, rfl⟩⟩; refine ⟨_, rfl, ?_⟩) | ((with_reducible refine gate_callee (f := 99) rfl ?_); refine goesL_ (some 41) rfl rfl Tryd.func99 (by kernel_rfl) rfl #[.slice Ao30 x1_5.length co30] rfl zq5 ?_; (with_reducible refine (rf_half.calls k5 _ _ x1_5 t589 _ ?side1 ?side2 A29.out).mono ?_); (case side1 => exact zc ((Kd.V_reads' HO_1.out).2.2)); (case side2 => exact (Kd.V_reads' HO_1.out).2.1); rintro e w31 ⟨v590, rfl, ho0, hb⟩; refine ⟨_, rfl, ?_⟩; have n0_ := am (Kd.V_below (zq3 HO_0.out) hb); have n1_ := am (Kd.V_below (zq3 HO_1.out) hb); have n2_ := am (Kd.V_lower (Kd.V_mono (ok' := fun k_ => ((P0_ k_ ∨ P1_ k_) ∨ w.heap.size ≤ k_)) ho0 (fun k_ hk_ => (.inr (Nat.le_trans (below_size zq1) hk_)))) (below_size zq1)); have n3_ := am (below_step zq1 hb); clear HO_0 HO_1 HB; have HO_0 := n0_; have HO_1 := n1_; have HO591 := n2_; have HB := n3_; clear n0_ n1_ n2_ n3_))
                 go_roundg k5
                 case measure => have := HK1.out; have := HJ4.out; have := HK3.out; have := HK4.out; have := HK5.out; omega
                 case rel => exact ⟨(t589), H', ⟨by have := HK1.out; have := HJ4.out; have := HK3.out; have := HK4.out; have := HK5.out; omega⟩, ⟨zq3 HO_0.out⟩, ⟨zq3 HO591.out⟩, ⟨zq1⟩⟩
                ·rw [if_neg c28] at H
                 have c28b0 : (t588 == 0) = false := beq_eq_false_iff_ne.mpr c28
                 have c28b1 : (t588 != 0) = true := bne_iff_ne.mpr c28
                 replace H := zj H
                 obtain ⟨t592, A32, H⟩ := H
                 by_cases c33 : t592 < 0
                 ·rw [if_pos c33] at H
                  have c33b0 := decide_eq_true c33
                  clear c33
                  replace H := zj H
                  obtain ⟨t593, A34, H⟩ := H
                  have H' := am H
                  clear H
                  obtain ⟨Ao35, co35, eo35⟩ := Kd.V_slice HO_1.out
                  subst eo35
                  go_wp2_with (first | ((with_reducible refine gate_callee (f := 98) rfl ?_); refine goesL_ (some 38) rfl rfl Tryd.func98 (by kernel_rfl) rfl #[.slice Ao35 x1_5.length co35, .int .i64 0] rfl zq5 ?_; (with_reducible refine (rf_bit.calls _ _ x1_5 0 t588 _ ?side1 ?side2 A27.out).mono ?_); (case side1 => exact zc ((Kd.V_reads' HO_1.out).2.2)); (case side2 => exact (Kd.V_reads' HO_1.out).2.1); rintro e w' ⟨rfl, ⟨nd, rfl⟩⟩; refine ⟨_, rfl, ?_⟩) | ((with_reducible refine gate_callee (f := 46) rfl ?_); refine goesL_ (some 44) rfl rfl Tryd.func46 (by kernel_rfl) rfl #[.slice Ao26 x0_4.length co26, .slice Ao35 x1_5.length co35] rfl zq5 ?_; (with_reducible refine (rf_CmpNat.calls k5 _ _ x0_4 _ _ x1_5 t592 _ ?side1 ?side2 ?side3 ?side4 A32.out).mono ?_); (case side1 => exact zc ((Kd.V_reads' HO_0.out).2.2)); (case side2 => exact (Kd.V_reads' HO_0.out).2.1); (case side3 => exact zc ((Kd.V_reads' HO_1.out).2.2)); (case side4 => exact (Kd.V_reads' HO_1.out).2.1); rintro e w36 ⟨rfl, hb⟩; refine ⟨_, rfl, ?_⟩; have n0_ := am (Kd.V_below (zq3 HO_0.out) hb); have n1_ := am (Kd.V_below (zq3 HO_1.out) hb); have n2_ := am (below_step zq1 hb); clear HO_0 HO_1 HB; have HO_0 := n0_; have HO_1 := n1_; have HB := n2_; clear n0_ n1_ n2_; (try clear hb); (try clear hb2); (try clear hk); (try clear hi)) | ((with_reducible refine gate_callee (f := 83) rfl ?_); refine goesL_ (some 51) rfl rfl Tryd.func83 (by kernel_rfl) rfl #[.slice Ao35 x1_5.length co35, .slice Ao26 x0_4.length co26] rfl zq5 ?_; (with_reducible refine (rf_SubNat.calls k5 _ _ x1_5 _ _ x0_4 t593 _ ?side1 ?side2 ?side3 ?side4 A34.out).mono ?_); (case side1 => exact zc ((Kd.V_reads' HO_1.out).2.2)); (case side2 => exact (Kd.V_reads' HO_1.out).2.1); (case side3 => exact zc ((Kd.V_reads' HO_0.out).2.2)); (case side4 => exact (Kd.V_reads' HO_0.out).2.1); rintro e w37 ⟨v594, rfl, ho0, hb⟩; refine ⟨_, rfl, ?_⟩; have n0_ := am (Kd.V_below (zq3 HO_0.out) hb); have n1_ := am (Kd.V_below (zq3 HO_1.out) hb); have n2_ := am (Kd.V_lower (Kd.V_mono (ok' := fun k_ => ((P0_ k_ ∨ P1_ k_) ∨ w.heap.size ≤ k_)) ho0 (fun k_ hk_ => (.inr (Nat.le_trans (below_size zq1) hk_)))) (below_size zq1)); have n3_ := am (below_step zq1 hb); clear HO_0 HO_1 HB; have HO_0 := n0_; have HO_1 := n1_; have HO595 := n2_; have HB := n3_; clear n0_ n1_ n2_ n3_))
                  go_roundg k5
                  case measure => have := HK1.out; have := HJ4.out; have := HK3.out; have := HK4.out; have := HK5.out; omega
                  case rel => exact ⟨(t593), (x0_4), H', ⟨by have := HK1.out; have := HJ4.out; have := HK3.out; have := HK4.out; have := HK5.out; omega⟩, ⟨zq3 HO595.out⟩, ⟨zq3 HO_0.out⟩, ⟨zq1⟩⟩
                 ·rw [if_neg c33] at H
                  have c33b0 := decide_eq_false c33
                  clear c33
                  replace H := zj H
                  obtain ⟨t596, A38, H⟩ := H
                  have H' := am H
                  clear H
                  obtain ⟨Ao39, co39, eo39⟩ := Kd.V_slice HO_1.out
                  subst eo39
                  go_wp2_with (first | ((with_reducible refine gate_callee (f := 98) rfl ?_); refine goesL_ (some 38) rfl rfl Tryd.func98 (by kernel_rfl) rfl #[.slice Ao39 x1_5.length co39, .int .i64 0] rfl zq5 ?_; (with_reducible refine (rf_bit.calls _ _ x1_5 0 t588 _ ?side1 ?side2 A27.out).mono ?_); (case side1 => exact zc ((Kd.V_reads' HO_1.out).2.2)); (case side2 => exact (Kd.V_reads' HO_1.out).2.1); rintro e w' ⟨rfl, ⟨nd, rfl⟩⟩; refine ⟨_, rfl, ?_⟩) | ((with_reducible refine gate_callee (f := 46) rfl ?_); refine goesL_ (some 44) rfl rfl Tryd.func46 (by kernel_rfl) rfl #[.slice Ao26 x0_4.length co26, .slice Ao39 x1_5.length co39] rfl zq5 ?_; (with_reducible refine (rf_CmpNat.calls k5 _ _ x0_4 _ _ x1_5 t592 _ ?side1 ?side2 ?side3 ?side4 A32.out).mono ?_); (case side1 => exact zc ((Kd.V_reads' HO_0.out).2.2)); (case side2 => exact (Kd.V_reads' HO_0.out).2.1); (case side3 => exact zc ((Kd.V_reads' HO_1.out).2.2)); (case side4 => exact (Kd.V_reads' HO_1.out).2.1); rintro e w40 ⟨rfl, hb⟩; refine ⟨_, rfl, ?_⟩; have n0_ := am (Kd.V_below (zq3 HO_0.out) hb); have n1_ := am (Kd.V_below (zq3 HO_1.out) hb); have n2_ := am (below_step zq1 hb); clear HO_0 HO_1 HB; have HO_0 := n0_; have HO_1 := n1_; have HB := n2_; clear n0_ n1_ n2_; (try clear hb); (try clear hb2); (try clear hk); (try clear hi)) | ((with_reducible refine gate_callee (f := 83) rfl ?_); refine goesL_ (some 51) rfl rfl Tryd.func83 (by kernel_rfl) rfl #[.slice Ao26 x0_4.length co26, .slice Ao39 x1_5.length co39] rfl zq5 ?_; (with_reducible refine (rf_SubNat.calls k5 _ _ x0_4 _ _ x1_5 t596 _ ?side1 ?side2 ?side3 ?side4 A38.out).mono ?_); (case side1 => exact zc ((Kd.V_reads' HO_0.out).2.2)); (case side2 => exact (Kd.V_reads' HO_0.out).2.1); (case side3 => exact zc ((Kd.V_reads' HO_1.out).2.2)); (case side4 => exact (Kd.V_reads' HO_1.out).2.1); rintro e w41 ⟨v597, rfl, ho0, hb⟩; refine ⟨_, rfl, ?_⟩; have n0_ := am (Kd.V_below (zq3 HO_0.out) hb); have n1_ := am (Kd.V_below (zq3 HO_1.out) hb); have n2_ := am (Kd.V_lower (Kd.V_mono (ok' := fun k_ => ((P0_ k_ ∨ P1_ k_) ∨ w.heap.size ≤ k_)) ho0 (fun k_ hk_ => (.inr (Nat.le_trans (below_size zq1) hk_)))) (below_size zq1)); have n3_ := am (below_step zq1 hb); clear HO_0 HO_1 HB; have HO_0 := n0_; have HO_1 := n1_; have HO598 := n2_; have HB := n3_; clear n0_ n1_ n2_ n3_))
                  go_roundg k5
                  case measure => have := HK1.out; have := HJ4.out; have := HK3.out; have := HK4.out; have := HK5.out; omega
                  case rel => exact ⟨(t596), (x1_5), H', ⟨by have := HK1.out; have := HJ4.out; have := HK3.out; have := HK4.out; have := HK5.out; omega⟩, ⟨zq3 HO598.out⟩, ⟨zq3 HO_1.out⟩, ⟨zq1⟩⟩
          ·rw [if_neg c19] at H
           have c19b0 : decide (0 < (x0_3.length : Int)) = false := decide_eq_false c19
           have c19b1 : decide (0 < x0_3.length) = false := decide_eq_false (by omega)
           clear c19
           replace H := zj H
           obtain ⟨t581, A42, H⟩ := H
           obtain rfl := Option.some.inj H
           obtain ⟨Ao43, co43, eo43⟩ := Kd.V_slice HO_0.out
           subst eo43
           obtain ⟨Ao44, co44, eo44⟩ := Kd.V_slice HO_1.out
           subst eo44
           go_wp2_with (first | ((with_reducible refine gate_callee (f := 82) rfl ?_); refine goesL_ (some 54) rfl rfl Tryd.func82 (by kernel_rfl) rfl #[.slice Ao44 x1_3.length co44, .int .i64 x5_1] rfl zq5 ?_; (with_reducible refine (rf_ShlNat.calls k3 _ _ x1_3 x5_1 t581 _ ?side1 ?side2 A42.out).mono ?_); (case side1 => exact zc ((Kd.V_reads' HO_1.out).2.2)); (case side2 => exact (Kd.V_reads' HO_1.out).2.1); rintro e w45 ⟨v582, rfl, ho0, hb⟩; refine ⟨_, rfl, ?_⟩; have n0_ := am (Kd.V_below (zq3 HO_0.out) hb); have n1_ := am (Kd.V_below (zq3 HO_1.out) hb); have n2_ := am (Kd.V_lower (Kd.V_mono (ok' := fun k_ => ((P0_ k_ ∨ P1_ k_) ∨ w.heap.size ≤ k_)) ho0 (fun k_ hk_ => (.inr (Nat.le_trans (below_size zq1) hk_)))) (below_size zq1)); have n3_ := am (below_step zq1 hb); clear HO_0 HO_1 HB; have HO_0 := n0_; have HO_1 := n1_; have HO583 := n2_; have HB := n3_; clear n0_ n1_ n2_ n3_))
           go_ret
           exact ⟨_, zq9, zq3 HO583.out, zq1⟩
mutual
def rf_Fault.j0 : Nat → Bool → Bool → List Int → List Int → Option (Int)
 | 0, _, _, _, _ => none
 | k + 1, x14, x600000, x600001, x600002 => if x14 = true then (some 3) else (if (x600002.length : Int) = 0 then (rf_Fault.j1 k true x600000 x600001 x600002) else (if 0 ≤ (wrap64 ((x600002.length : Int) - 1)) then (if (wrap64 ((x600002.length : Int) - 1)) < (x600002.length : Int) then (if (rd x600002 (wrap64 ((x600002.length : Int) - 1))) = 0 then (rf_Fault.j1 k true x600000 x600001 x600002) else (if (x600001.length : Int) > 0 then (if 0 ≤ (wrap64 ((x600001.length : Int) - 1)) then (if (wrap64 ((x600001.length : Int) - 1)) < (x600001.length : Int) then (rf_Fault.j1 k ((rd x600001 (wrap64 ((x600001.length : Int) - 1))) == 0) x600000 x600001 x600002) else (none)) else (none)) else (rf_Fault.j1 k false x600000 x600001 x600002))) else (none)) else (none)))
def rf_Fault.j1 : Nat → Bool → Bool → List Int → List Int → Option (Int)
 | 0, _, _, _, _ => none
 | k + 1, x46, x600000, x600001, x600002 => if x46 = true then (some 2) else ((rf_natOf.f k x600001).bind fun t602 => ((rf_natOf.f k x600002).bind fun t605 => (if (t602.length : Int) = 0 then (if x600000 = true then (rf_Fault.j2 k t602 t605 true) else ((rf_CmpNat.f k t605 (([1] : List Int))).bind fun t611 => (rf_Fault.j2 k t602 t605 (t611 != 0)))) else (rf_Fault.j2 k t602 t605 false))))
def rf_Fault.j2 : Nat → List Int → List Int → Bool → Option (Int)
 | 0, _, _, _ => none
 | k + 1, x3, x4, x65 => if x65 = true then (some 2) else ((rf_GcdNat.f k x3 x4).bind fun t612 => ((rf_CmpNat.f k t612 (([1] : List Int))).bind fun t618 => (if t618 = 0 then (some 0) else (some 2))))
end
def rf_Fault.f (k : Nat) (a0_0 : Bool) (l0_1 : List Int) (l0_2 : List Int) : Option (Int) := if (l0_1.length : Int) > 128 then (rf_Fault.j0 k true a0_0 l0_1 l0_2) else (rf_Fault.j0 k (decide ((l0_2.length : Int) > 128)) a0_0 l0_1 l0_2)
theorem rf_Fault.mono_l : ∀ k, (∀ y0 y1 y2 y3, LeO (rf_Fault.j0 k y0 y1 y2 y3) (rf_Fault.j0 (k + 1) y0 y1 y2 y3)) ∧ (∀ y0 y1 y2 y3, LeO (rf_Fault.j1 k y0 y1 y2 y3) (rf_Fault.j1 (k + 1) y0 y1 y2 y3)) ∧ (∀ y0 y1 y2, LeO (rf_Fault.j2 k y0 y1 y2) (rf_Fault.j2 (k + 1) y0 y1 y2))
 | 0 => ⟨fun _ _ _ _ r h => by simp [rf_Fault.j0] at h, fun _ _ _ _ r h => by simp [rf_Fault.j1] at h, fun _ _ _ r h => by simp [rf_Fault.j2] at h⟩
 | k + 1 => by
  obtain ⟨ih0, ih1, ih2⟩ := rf_Fault.mono_l k
  refine ⟨?_, ?_, ?_⟩
  ·intro y0 y1 y2 y3
   unfold rf_Fault.j0
   have m0 := ih0
   have m1 := ih1
   have m2 := ih2
   have m3 := @rf_CmpNat.mono
   have m4 := @rf_GcdNat.mono
   have m5 := @rf_natOf.mono
   exact zm
  ·intro y0 y1 y2 y3
   unfold rf_Fault.j1
   have m0 := ih0
   have m1 := ih1
   have m2 := ih2
   have m3 := @rf_CmpNat.mono
   have m4 := @rf_GcdNat.mono
   have m5 := @rf_natOf.mono
   exact zm
  ·intro y0 y1 y2
   unfold rf_Fault.j2
   have m0 := ih0
   have m1 := ih1
   have m2 := ih2
   have m3 := @rf_CmpNat.mono
   have m4 := @rf_GcdNat.mono
   have m5 := @rf_natOf.mono
   exact zm
theorem rf_Fault.mono : ∀ a0 a1 a2 k, LeO (rf_Fault.f k a0 a1 a2) (rf_Fault.f (k + 1) a0 a1 a2) := by
 intro a0 a1 a2 k
 obtain ⟨ih0, ih1, ih2⟩ := rf_Fault.mono_l k
 unfold rf_Fault.f
 have m0 := ih0
 have m1 := ih1
 have m2 := ih2
 have m3 := @rf_CmpNat.mono
 have m4 := @rf_GcdNat.mono
 have m5 := @rf_natOf.mono
 exact zm
def rf_Fault.T5 : Bool × List (List Nat × List Nat) := (true, [([], []), ([0], [0]), ([1], [1]), ([], []), ([3], [3]), ([4, 2], [4]), ([2, 5, 0, 1, 2], [2]), ([5, 6, 0, 1, 2, 3, 4, 5, 6], [5])])
def rf_Fault.B5 : List Nat := [0, 1, 3, 0, 8, 31, 63, 127]
theorem rf_Fault.tab5 : rtab .any (opsOf Tryd.f15 5) = rf_Fault.T5 := by kernel_rfl
theorem rf_Fault.bits5 : waitsOk rf_Fault.T5.2 rf_Fault.B5 = true := by kernel_rfl
set_option maxHeartbeats 8000000 in
set_option maxRecDepth 100000 in
theorem rf_Fault.calls (k : Nat) (a0_0 : Bool) (A0_1 : Option Addr) (c0_1 : Nat) (l0_1 : List Int) (A0_2 : Option Addr) (c0_2 : Nat) (l0_2 : List Int) (r : Int) (w : World) (hr0_1 : Kd.C (Kd.int .u32) w A0_1 l0_1.length l0_1) (hc0_1 : l0_1.length ≤ c0_1) (hr0_2 : Kd.C (Kd.int .u32) w A0_2 l0_2.length l0_2) (hc0_2 : l0_2.length ≤ c0_2) (h : rf_Fault.f k a0_0 l0_1 l0_2 = some r) :
  Calls Tryd.prog 15 #[.agg #[.bool a0_0, .slice A0_1 l0_1.length c0_1, .slice A0_2 l0_2.length c0_2]] w fun e w' => e = .returned (.int .i64 r) ∧ Below w.heap.size w w' := by
 have hu24 := Tryd.underlying24
 have HR0_1 := am hr0_1
 have HC0_1 := am hc0_1
 clear hr0_1 hc0_1
 have HR0_2 := am hr0_2
 have HC0_2 := am hc0_2
 clear hr0_2 hc0_2
 have HB := am (Below.refl w.heap.size w)
 have H := h
 unfold rf_Fault.f at H
 clear h
 have HC2 := am H
 clear H
 go_enter Tryd.func15, Tryd.ntmps15
 go_upto_region 1 with (first | ((with_reducible refine gate_dst (N := 1) rfl ?_); (try (refine gate_guard (by rfl) ?_; dsimp only)); refine zbox (N := 1) (cs := #[.bool a0_0, .slice A0_1 l0_1.length c0_1, .slice A0_2 l0_2.length c0_2]) (t := 24) ?_; intro gb599 hg w3 hbox hb; have n0_ := am (below_step zq1 hb); have n1_ := am (hbox); have n2_ := am ((zs hg (below_size zq1) : w.heap.size ≤ gb599)); have n3_ := n2_; clear HB; have HB := n0_; have BK599 := n1_; have GW599 := n2_; have GE599 := n3_; clear n0_ n1_ n2_ n3_; clear hb hbox hg))
 (try simp only [Act.put, List.setIfInBounds_toArray, List.set_cons_zero, List.set_cons_succ])
 go_cut [14] (fun v14 wc => ∃ (kq : Nat) (x14_1 : Bool), v14 = .bool x14_1 ∧ Aside0 (rf_Fault.j0 kq x14_1 a0_0 l0_1 l0_2 = some r) ∧ Aside0 (kq ≤ k) ∧ Aside0 (wc.heap[gb599]? = some (.cells #[.bool a0_0, (.slice A0_1 l0_1.length c0_1), (.slice A0_2 l0_2.length c0_2)] 24 (0, 0))) ∧ Aside0 (Below w.heap.size w wc))
 case first =>
  have H := HC2.out
  clear HC2
  by_cases c4 : (l0_1.length : Int) > 128
  ·rw [if_pos c4] at H
   have c4b0 : decide (128 < (l0_1.length : Int)) = true := decide_eq_true c4
   have c4b1 : decide (128 < l0_1.length) = true := decide_eq_true (by omega)
   clear c4
   (first | rw [c4b0] | (simp only [i64_w, i32_w]; rw [c4b0]) | skip)
   have H' := am H
   clear H
   have hcz5_0 := bc BK599.out 0 (.bool a0_0)
   have hcz5_1 := bc BK599.out 1 (.slice A0_1 l0_1.length c0_1)
   have hcz5_2 := bc BK599.out 2 (.slice A0_2 l0_2.length c0_2)
   have hfz5_0 := blk_frozen BK599.out 0
   have hfz5_1 := blk_frozen BK599.out 1
   have hfz5_2 := blk_frozen BK599.out 2
   go_wp2
   go_meet
   case rel => exact ⟨_, (true), zq8, H', ⟨by first | omega | exact Nat.le_refl _⟩, ⟨zq2 BK599.out⟩, ⟨zb1 GE599.out⟩⟩
  ·rw [if_neg c4] at H
   have c4b0 : decide (128 < (l0_1.length : Int)) = false := decide_eq_false c4
   have c4b1 : decide (128 < l0_1.length) = false := decide_eq_false (by omega)
   clear c4
   (first | rw [c4b0] | (simp only [i64_w, i32_w]; rw [c4b0]) | skip)
   have H' := am H
   clear H
   have hcz6_0 := bc BK599.out 0 (.bool a0_0)
   have hcz6_1 := bc BK599.out 1 (.slice A0_1 l0_1.length c0_1)
   have hcz6_2 := bc BK599.out 2 (.slice A0_2 l0_2.length c0_2)
   have hfz6_0 := blk_frozen BK599.out 0
   have hfz6_1 := blk_frozen BK599.out 1
   have hfz6_2 := blk_frozen BK599.out 2
   go_wp2
   go_meet
   case rel => exact ⟨_, (decide ((l0_2.length : Int) > 128)), zq8, H', ⟨by first | omega | exact Nat.le_refl _⟩, ⟨zq2 BK599.out⟩, ⟨zb1 GE599.out⟩⟩
 case rest =>
  clear HC2
  obtain ⟨kq, x14_1, rfl, HA, HJ1, BK599, HB⟩ := hcut
  cases kq with
  | zero => exact absurd HA.out (by simp [rf_Fault.j0])
  | succ kj1 =>
   have H := HA.out
   clear HA
   simp only [rf_Fault.j0] at H
   by_cases c7 : x14_1 = true
   ·subst c7
    have H1 : (some 3) = some r := by rw [if_pos rfl] at H; exact H
    clear H
    have H := H1
    clear H1
    obtain rfl := Option.some.inj H
    go_wp2
    go_ret
    exact ⟨zq9, zb1 GE599.out⟩
   ·replace c7 := Bool.eq_false_iff.mpr c7
    subst c7
    have H1 : (if (l0_2.length : Int) = 0 then (rf_Fault.j1 kj1 true a0_0 l0_1 l0_2) else (if 0 ≤ (wrap64 ((l0_2.length : Int) - 1)) then (if (wrap64 ((l0_2.length : Int) - 1)) < (l0_2.length : Int) then (if (rd l0_2 (wrap64 ((l0_2.length : Int) - 1))) = 0 then (rf_Fault.j1 kj1 true a0_0 l0_1 l0_2) else (if (l0_1.length : Int) > 0 then (if 0 ≤ (wrap64 ((l0_1.length : Int) - 1)) then (if (wrap64 ((l0_1.length : Int) - 1)) < (l0_1.length : Int) then (rf_Fault.j1 kj1 ((rd l0_1 (wrap64 ((l0_1.length : Int) - 1))) == 0) a0_0 l0_1 l0_2) else (none)) else (none)) else (rf_Fault.j1 kj1 false a0_0 l0_1 l0_2))) else (none)) else (none))) = some r := by rw [if_neg (show ¬ (false = true) by decide)] at H; exact H
    clear H
    have H := H1
    clear H1
    have HC8 := am H
    clear H
    go_upto_region 3 with (fail)
    go_cut [46] (fun v46 wc => ∃ (kq : Nat) (x46_7 : Bool), v46 = .bool x46_7 ∧ Aside0 (rf_Fault.j1 kq x46_7 a0_0 l0_1 l0_2 = some r) ∧ Aside0 (kq ≤ kj1) ∧ Aside0 (wc.heap[gb599]? = some (.cells #[.bool a0_0, (.slice A0_1 l0_1.length c0_1), (.slice A0_2 l0_2.length c0_2)] 24 (0, 0))) ∧ Aside0 (Below w.heap.size w wc))
    case first =>
     have H := HC8.out
     clear HC8
     by_cases c9 : (l0_2.length : Int) = 0
     ·rw [if_pos c9] at H
      have c9b0 : ((l0_2.length : Int) == 0) = true := beq_iff_eq.mpr c9
      have c9b1 : ((l0_2.length : Int) != 0) = false := bne_eq_false_iff_eq.mpr c9
      clear c9
      (first | rw [c9b0] | (simp only [i64_w, i32_w]; rw [c9b0]) | skip)
      have H' := am H
      clear H
      have hcz10_0 := bc BK599.out 0 (.bool a0_0)
      have hcz10_1 := bc BK599.out 1 (.slice A0_1 l0_1.length c0_1)
      have hcz10_2 := bc BK599.out 2 (.slice A0_2 l0_2.length c0_2)
      have hfz10_0 := blk_frozen BK599.out 0
      have hfz10_1 := blk_frozen BK599.out 1
      have hfz10_2 := blk_frozen BK599.out 2
      go_wp2
      go_meet
      case rel => exact ⟨_, (true), zq8, H', ⟨by have := HJ1.out; first | omega | exact Nat.le_refl _⟩, ⟨zq2 BK599.out⟩, ⟨zb1 GE599.out⟩⟩
     ·rw [if_neg c9] at H
      have c9b0 : ((l0_2.length : Int) == 0) = false := beq_eq_false_iff_ne.mpr c9
      have c9b1 : ((l0_2.length : Int) != 0) = true := bne_iff_ne.mpr c9
      have c9b2 : ¬ (l0_2 = []) := fun h_ => c9 (by rw [h_]; rfl)
      (first | rw [c9b0] | (simp only [i64_w, i32_w]; rw [c9b0]) | skip)
      obtain ⟨ji11, hji11⟩ : ∃ j_ : Int, (wrap64 ((l0_2.length : Int) - 1)) = j_ := ⟨_, rfl⟩
      replace H : (if 0 ≤ (ji11) then (if (ji11) < (l0_2.length : Int) then (if (rd l0_2 (ji11)) = 0 then (rf_Fault.j1 kj1 true a0_0 l0_1 l0_2) else (if (l0_1.length : Int) > 0 then (if 0 ≤ (wrap64 ((l0_1.length : Int) - 1)) then (if (wrap64 ((l0_1.length : Int) - 1)) < (l0_1.length : Int) then (rf_Fault.j1 kj1 ((rd l0_1 (wrap64 ((l0_1.length : Int) - 1))) == 0) a0_0 l0_1 l0_2) else (none)) else (none)) else (rf_Fault.j1 kj1 false a0_0 l0_1 l0_2))) else (none)) else (none)) = some r := by first | (rw [hji11] at H; exact H) | (simp only [hji11] at H ⊢; exact H)
      have hji11w : (IntKind.i64.wrap ((l0_2.length : Int) - 1)) = ji11 := (i64_w _).trans hji11
      replace H := zn H
      obtain ⟨c12, H⟩ := H
      have c12b0 := decide_eq_true c12
      clear c12
      replace H := zn H
      obtain ⟨c13, H⟩ := H
      have c13b0 := decide_eq_true c13
      clear c13
      by_cases c14 : (rd l0_2 (ji11)) = 0
      ·rw [if_pos c14] at H
       have c14b0 : ((rd l0_2 (ji11)) == 0) = true := beq_iff_eq.mpr c14
       have c14b1 : ((rd l0_2 (ji11)) != 0) = false := bne_eq_false_iff_eq.mpr c14
       clear c14
       have H' := am H
       clear H
       have hcz15_0 := bc BK599.out 0 (.bool a0_0)
       have hcz15_1 := bc BK599.out 1 (.slice A0_1 l0_1.length c0_1)
       have hcz15_2 := bc BK599.out 2 (.slice A0_2 l0_2.length c0_2)
       have hfz15_0 := blk_frozen BK599.out 0
       have hfz15_1 := blk_frozen BK599.out 1
       have hfz15_2 := blk_frozen BK599.out 2
       have p600 : 0 ≤ ((ji11) : Int) := zq6
       have q600 : (ji11) < (l0_2.length : Int) := zq6
       obtain ⟨ad600, e600, hx600_0⟩ := Kd.at_int HR0_2.out (ji11) p600 q600
       cases e600
       replace hx600_0 := (HB.out.cell (World.block_lt_of_cell? w _ hx600_0)).trans hx600_0
       replace p600 := eq_true p600
       replace q600 := eq_true q600
       go_wp2
       go_meet
       case rel => exact ⟨_, (true), zq8, (by first | exact H' | (rw [hji11]; exact H')), ⟨by have := HJ1.out; first | omega | exact Nat.le_refl _⟩, ⟨zq2 BK599.out⟩, ⟨zb1 GE599.out⟩⟩
      ·rw [if_neg c14] at H
       have c14b0 : ((rd l0_2 (ji11)) == 0) = false := beq_eq_false_iff_ne.mpr c14
       have c14b1 : ((rd l0_2 (ji11)) != 0) = true := bne_iff_ne.mpr c14
       by_cases c16 : (l0_1.length : Int) > 0
       ·rw [if_pos c16] at H
        have c16b0 : decide (0 < (l0_1.length : Int)) = true := decide_eq_true c16
        have c16b1 : decide (0 < l0_1.length) = true := decide_eq_true (by omega)
        clear c16
        obtain ⟨ji17, hji17⟩ : ∃ j_ : Int, (wrap64 ((l0_1.length : Int) - 1)) = j_ := ⟨_, rfl⟩
        replace H : (if 0 ≤ (ji17) then (if (ji17) < (l0_1.length : Int) then (rf_Fault.j1 kj1 ((rd l0_1 (ji17)) == 0) a0_0 l0_1 l0_2) else (none)) else (none)) = some r := by first | (rw [hji17] at H; exact H) | (simp only [hji17] at H ⊢; exact H)
        have hji17w : (IntKind.i64.wrap ((l0_1.length : Int) - 1)) = ji17 := (i64_w _).trans hji17
        replace H := zn H
        obtain ⟨c18, H⟩ := H
        have c18b0 := decide_eq_true c18
        clear c18
        replace H := zn H
        obtain ⟨c19, H⟩ := H
        have c19b0 := decide_eq_true c19
        clear c19
        have H' := am H
        clear H
        have hcz20_0 := bc BK599.out 0 (.bool a0_0)
        have hcz20_1 := bc BK599.out 1 (.slice A0_1 l0_1.length c0_1)
        have hcz20_2 := bc BK599.out 2 (.slice A0_2 l0_2.length c0_2)
        have hfz20_0 := blk_frozen BK599.out 0
        have hfz20_1 := blk_frozen BK599.out 1
        have hfz20_2 := blk_frozen BK599.out 2
        have p600 : 0 ≤ ((ji11) : Int) := zq6
        have q600 : (ji11) < (l0_2.length : Int) := zq6
        obtain ⟨ad600, e600, hx600_0⟩ := Kd.at_int HR0_2.out (ji11) p600 q600
        cases e600
        replace hx600_0 := (HB.out.cell (World.block_lt_of_cell? w _ hx600_0)).trans hx600_0
        replace p600 := eq_true p600
        replace q600 := eq_true q600
        have p601 : 0 ≤ ((ji17) : Int) := zq6
        have q601 : (ji17) < (l0_1.length : Int) := zq6
        obtain ⟨ad601, e601, hx601_0⟩ := Kd.at_int HR0_1.out (ji17) p601 q601
        cases e601
        replace hx601_0 := (HB.out.cell (World.block_lt_of_cell? w _ hx601_0)).trans hx601_0
        replace p601 := eq_true p601
        replace q601 := eq_true q601
        go_wp2
        go_meet
        case rel => exact ⟨_, (((rd l0_1 (ji17)) == 0)), (by first | rfl | (simp; done) | (simp only [← hji17] <;> (first | rfl | simp)) | (simp [*]; done)), (by first | exact H' | (rw [hji11]; exact H') | (rw [hji17]; exact H')), ⟨by have := HJ1.out; first | omega | exact Nat.le_refl _⟩, ⟨zq2 BK599.out⟩, ⟨zb1 GE599.out⟩⟩
       ·rw [if_neg c16] at H
        have c16b0 : decide (0 < (l0_1.length : Int)) = false := decide_eq_false c16
        have c16b1 : decide (0 < l0_1.length) = false := decide_eq_false (by omega)
        clear c16
        have H' := am H
        clear H
        have hcz21_0 := bc BK599.out 0 (.bool a0_0)
        have hcz21_1 := bc BK599.out 1 (.slice A0_1 l0_1.length c0_1)
        have hcz21_2 := bc BK599.out 2 (.slice A0_2 l0_2.length c0_2)
        have hfz21_0 := blk_frozen BK599.out 0
        have hfz21_1 := blk_frozen BK599.out 1
        have hfz21_2 := blk_frozen BK599.out 2
        have p600 : 0 ≤ ((ji11) : Int) := zq6
        have q600 : (ji11) < (l0_2.length : Int) := zq6
        obtain ⟨ad600, e600, hx600_0⟩ := Kd.at_int HR0_2.out (ji11) p600 q600
        cases e600
        replace hx600_0 := (HB.out.cell (World.block_lt_of_cell? w _ hx600_0)).trans hx600_0
        replace p600 := eq_true p600
        replace q600 := eq_true q600
        go_wp2
        go_meet
        case rel => exact ⟨_, (false), zq8, (by first | exact H' | (rw [hji11]; exact H')), ⟨by have := HJ1.out; first | omega | exact Nat.le_refl _⟩, ⟨zq2 BK599.out⟩, ⟨zb1 GE599.out⟩⟩
    case rest =>
     clear HC8
     obtain ⟨kq, x46_7, rfl, HA, HJ7, BK599, HB⟩ := hcut
     cases kq with
     | zero => exact absurd HA.out (by simp [rf_Fault.j1])
     | succ kj7 =>
      have H := HA.out
      clear HA
      simp only [rf_Fault.j1] at H
      by_cases c22 : x46_7 = true
      ·subst c22
       have H1 : (some 2) = some r := by rw [if_pos rfl] at H; exact H
       clear H
       have H := H1
       clear H1
       obtain rfl := Option.some.inj H
       go_wp2
       go_ret
       exact ⟨zq9, zb1 GE599.out⟩
      ·replace c22 := Bool.eq_false_iff.mpr c22
       subst c22
       have H1 : ((rf_natOf.f kj7 l0_1).bind fun t602 => ((rf_natOf.f kj7 l0_2).bind fun t605 => (if (t602.length : Int) = 0 then (if a0_0 = true then (rf_Fault.j2 kj7 t602 t605 true) else ((rf_CmpNat.f kj7 t605 (([1] : List Int))).bind fun t611 => (rf_Fault.j2 kj7 t602 t605 (t611 != 0)))) else (rf_Fault.j2 kj7 t602 t605 false)))) = some r := by rw [if_neg (show ¬ (false = true) by decide)] at H; exact H
       clear H
       have H := H1
       clear H1
       replace H := zj H
       obtain ⟨t602, A23, H⟩ := H
       replace H := zj H
       obtain ⟨t605, A24, H⟩ := H
       have HC25 := am H
       clear H
       try go_wp2
       have n0_ := am (blk_drew BK599.out)
       have n1_ := am (below_drew1 HB.out)
       clear BK599 HB
       have BK599 := n0_
       have HB := n1_
       clear n0_ n1_
       refine start_ (n := 8) (S := fun w' => w'.cell? ⟨gb599, 0, none⟩ = some (.bool a0_0) ∧ w'.cell? ⟨gb599, 1, none⟩ = some (.slice A0_1 l0_1.length c0_1) ∧ w'.cell? ⟨gb599, 2, none⟩ = some (.slice A0_2 l0_2.length c0_2)) (ds := []) #[false, false, false, false, false, false, false, false] (by kernel_rfl) rfl rfl ⟨(blk_cell BK599.out 0).trans rfl, (blk_cell BK599.out 1).trans rfl, (blk_cell BK599.out 2).trans rfl⟩ (fun hHeld => ?_); refine with_tabW rf_Fault.tab5 rf_Fault.bits5 (fun HT_ HW_ => ?_)
       generalize wc.drew = w26 at BK599 HB hHeld ⊢
       refine pz_ (i := 0) (N := some 47) (zmt 8 [0]) ?_
       refine pz_ (i := 3) (N := some 50) (zmt 8 [0, 3]) ?_
       refine tz3 (i := 1) (N := some 48) (zmt 8 [0, 1, 3]) ?_
       refine tz3 (i := 4) (N := some 51) (zmt 8 [0, 1, 3, 4]) ?_
       refine one_ (i := 2) (N := some 49) (zmf 8 [5, 6, 7]) rfl rfl (one_of HT_.out (by kernel_rfl)) (by decide) (fun K hK => ?_)
       refine goes_ Tryd.func45 (by kernel_rfl) rfl #[.slice A0_1 l0_1.length c0_1] (by rfl) rfl rfl zq5 ?_
       with_reducible refine (rf_natOf.calls kj7 _ _ l0_1 t602 _ ?side1 ?side2 A23.out).mono ?_
       (case side1 => exact zc (Kd.C_below HR0_1.out HB.out))
       (case side2 => exact HC0_1.out)
       rintro e w27 ⟨v603, rfl, ho0, hb⟩
       refine ⟨_, rfl, ?_⟩
       have n0_ := am (Kd.V_lower (Kd.V_mono (ok' := fun k_ => k_ ≠ gb599) ho0 (fun k_ hk_ => (Kd.freshB (g := gb599) (o := .cells #[.bool a0_0, .slice A0_1 l0_1.length c0_1, .slice A0_2 l0_2.length c0_2] 24 (0, 0)) (zq2 BK599.out) k_ hk_))) (below_size (zb1 GE599.out)))
       have n1_ := am (bb BK599.out hb)
       have n2_ := am (below_step (zb1 GE599.out) hb)
       clear BK599 HB
       have HO604 := n0_
       have BK599 := n1_
       have HB := n2_
       clear n0_ n1_ n2_
       (try clear hb)
       (try clear hb2)
       (try clear hk)
       (try clear hi)
       (try clear ho0)
       refine hK.out _ _ ⟨(blk_cell BK599.out 0).trans rfl, (blk_cell BK599.out 1).trans rfl, (blk_cell BK599.out 2).trans rfl⟩ (fun hHeld => ?_)
       clear hK K
       refine nz_ (N := (some 49)) ?_
       refine one_ (i := 5) (N := some 52) (zmf 8 [6, 7]) rfl rfl (one_of HT_.out (by kernel_rfl)) (by decide) (fun K hK => ?_)
       refine goes_ Tryd.func45 (by kernel_rfl) rfl #[.slice A0_2 l0_2.length c0_2] (by rfl) rfl rfl zq5 ?_
       with_reducible refine (rf_natOf.calls kj7 _ _ l0_2 t605 _ ?side1 ?side2 A24.out).mono ?_
       (case side1 => exact zc (Kd.C_below HR0_2.out HB.out))
       (case side2 => exact HC0_2.out)
       rintro e w28 ⟨v606, rfl, ho0, hb⟩
       refine ⟨_, rfl, ?_⟩
       have n0_ := am (Kd.V_below (zq3 HO604.out) hb)
       have n1_ := am (Kd.V_lower (Kd.V_mono (ok' := fun k_ => k_ ≠ gb599) ho0 (fun k_ hk_ => (Kd.freshB (g := gb599) (o := .cells #[.bool a0_0, .slice A0_1 l0_1.length c0_1, .slice A0_2 l0_2.length c0_2] 24 (0, 0)) (zq2 BK599.out) k_ hk_))) (below_size (zb1 GE599.out)))
       have n2_ := am (bb BK599.out hb)
       have n3_ := am (below_step (zb1 GE599.out) hb)
       clear HO604 BK599 HB
       have HO604 := n0_
       have HO607 := n1_
       have BK599 := n2_
       have HB := n3_
       clear n0_ n1_ n2_ n3_
       (try clear hb)
       (try clear hb2)
       (try clear hk)
       (try clear hi)
       (try clear ho0)
       refine hK.out _ _ ⟨(blk_cell BK599.out 0).trans rfl, (blk_cell BK599.out 1).trans rfl, (blk_cell BK599.out 2).trans rfl⟩ (fun hHeld => ?_)
       clear hK K
       refine nz_ (N := (some 52)) ?_
       refine pz_ (i := 6) (N := some 3) (zmf 8 [7]) ?_
       refine pz_ (i := 7) (N := some 4) (zmf 8 []) ?_
       refine done_ (done_of HT_.out (by kernel_rfl)) ?_
       go_upto_region 6 with (fail)
       go_cut [65] (fun v65 wc => ∃ (kq : Nat) (x65_24 : Bool), v65 = .bool x65_24 ∧ Aside0 (rf_Fault.j2 kq t602 t605 x65_24 = some r) ∧ Aside0 (kq ≤ kj7) ∧ Aside0 (Kd.V (Kd.int .i64) 3 wc w.heap.size (fun k_ => k_ ≠ gb599) v603 t602) ∧ Aside0 (Kd.V (Kd.int .i64) 3 wc w.heap.size (fun k_ => k_ ≠ gb599) v606 t605) ∧ Aside0 (wc.heap[gb599]? = some (.cells #[.bool a0_0, (.slice A0_1 l0_1.length c0_1), (.slice A0_2 l0_2.length c0_2)] 24 (0, 0))) ∧ Aside0 (Below w.heap.size w wc))
       case first =>
        have H := HC25.out
        clear HC25
        by_cases c29 : (t602.length : Int) = 0
        ·rw [if_pos c29] at H
         have c29b0 : ((t602.length : Int) == 0) = true := beq_iff_eq.mpr c29
         have c29b1 : ((t602.length : Int) != 0) = false := bne_eq_false_iff_eq.mpr c29
         clear c29
         (first | rw [c29b0] | (simp only [i64_w, i32_w]; rw [c29b0]) | skip)
         by_cases c30 : a0_0 = true
         ·subst c30
          have H1 : (rf_Fault.j2 kj7 t602 t605 true) = some r := by rw [if_pos rfl] at H; exact H
          clear H
          have H := H1
          clear H1
          have H' := am H
          clear H
          obtain ⟨Ao31, co31, eo31⟩ := Kd.V_slice HO604.out
          subst eo31
          have hcz32_0 := bc BK599.out 0 (.bool true)
          have hcz32_1 := bc BK599.out 1 (.slice A0_1 l0_1.length c0_1)
          have hcz32_2 := bc BK599.out 2 (.slice A0_2 l0_2.length c0_2)
          have hfz32_0 := blk_frozen BK599.out 0
          have hfz32_1 := blk_frozen BK599.out 1
          have hfz32_2 := blk_frozen BK599.out 2
          go_wp2
          go_meet
          case rel => exact ⟨_, (true), zq8, H', ⟨by have := HJ1.out; have := HJ7.out; first | omega | exact Nat.le_refl _⟩, ⟨zq3 HO604.out⟩, ⟨zq3 HO607.out⟩, ⟨zq2 BK599.out⟩, ⟨zb1 GE599.out⟩⟩
         ·replace c30 := Bool.eq_false_iff.mpr c30
          subst c30
          have H1 : ((rf_CmpNat.f kj7 t605 (([1] : List Int))).bind fun t611 => (rf_Fault.j2 kj7 t602 t605 (t611 != 0))) = some r := by rw [if_neg (show ¬ (false = true) by decide)] at H; exact H
          clear H
          have H := H1
          clear H1
          obtain ⟨y608, hy608⟩ : ∃ y_ : List Int, y_ = (([1] : List Int)) := ⟨_, rfl⟩
          try rw [← hy608] at H
          have Ny608 := am hy608
          clear hy608
          replace H := zj H
          obtain ⟨t611, A33, H⟩ := H
          have H' := am H
          clear H
          obtain ⟨Ao34, co34, eo34⟩ := Kd.V_slice HO604.out
          subst eo34
          have hcz35_0 := bc BK599.out 0 (.bool false)
          have hcz35_1 := bc BK599.out 1 (.slice A0_1 l0_1.length c0_1)
          have hcz35_2 := bc BK599.out 2 (.slice A0_2 l0_2.length c0_2)
          have hfz35_0 := blk_frozen BK599.out 0
          have hfz35_1 := blk_frozen BK599.out 1
          have hfz35_2 := blk_frozen BK599.out 2
          go_wp2_with (first | ((with_reducible refine gate_dst (N := 61) rfl ?_); (try (refine gate_guard (by rfl) ?_; dsimp only)); refine Kd.R_lit (Kd.int .i64) _ 3 ?hg (N := 61) ?hd (xs := ([1] : List Int)) (inner := [.int .i64 1]) (ok := fun _ => True) (okp := fun _ => True) ?hr ?hp (fun _ hk => hk) trivial (Below.refl _ _) (Nat.le_refl _) (by simp) ?_; (case hd => rfl); (case hg => rfl); (case hr => exact zr); (case hp => exact (Reps.one (show Kd.M (Kd.int .i64) _ _ _ 1 [.int .i64 1] from rfl) (Reps.none _ _))); intro v609 w36 ho37 hb hg_ hnew_; clear hg_ hnew_; (first | rw [← Ny608.out] at ho37 | (simp only [Int.reduceToNat] at ho37; rw [← Ny608.out] at ho37)); have n0_ := am (Kd.V_elder' (zq3 HO604.out) (Kd.R_base ho37) hb); have n1_ := am (Kd.V_elder' (zq3 HO607.out) (Kd.R_base ho37) hb); have n2_ := am (Kd.R_lower ho37 (below_size (zb1 GE599.out))); have n3_ := am (bb BK599.out hb); have n4_ := am (below_step (zb1 GE599.out) hb); clear HO604 HO607 BK599 HB; have HO604 := n0_; have HO607 := n1_; have HO610 := n2_; have BK599 := n3_; have HB := n4_; clear n0_ n1_ n2_ n3_ n4_ hb ho37; obtain ⟨Ao38, co38, eo38⟩ := Kd.V_slice HO607.out; subst eo38; obtain ⟨Ao39, co39, eo39⟩ := Kd.R_slice HO610.out; subst eo39) | (go_at_call 46; (with_reducible refine (rf_CmpNat.calls kj7 _ _ t605 _ _ y608 t611 _ ?side1 ?side2 ?side3 ?side4 A33.out).mono ?_); (case side1 => exact zc ((Kd.V_reads' HO607.out).2.2)); (case side2 => exact (Kd.V_reads' HO607.out).2.1); (case side3 => exact zc ((Kd.R_reads' HO610.out).2.2)); (case side4 => exact (Kd.R_reads' HO610.out).2.1); rintro e w40 ⟨rfl, hb⟩; have n0_ := am (Kd.V_below (zq3 HO604.out) hb); have n1_ := am (Kd.V_below (zq3 HO607.out) hb); have n2_ := am (Kd.R_below (zq4 HO610.out) hb); have n3_ := am (bb BK599.out hb); have n4_ := am (below_step (zb1 GE599.out) hb); clear HO604 HO607 HO610 BK599 HB; have HO604 := n0_; have HO607 := n1_; have HO610 := n2_; have BK599 := n3_; have HB := n4_; clear n0_ n1_ n2_ n3_ n4_; (try clear hb); (try clear hb2); (try clear hk); (try clear hi)))
          go_meet
          case rel => exact ⟨_, ((t611 != 0)), zq8, H', ⟨by have := HJ1.out; have := HJ7.out; first | omega | exact Nat.le_refl _⟩, ⟨by (with_reducible repeat (first | apply Kd.V_alloc | apply Kd.V_drewN | apply Kd.V_drew)); exact Kd.V_mono HO604.out (fun _ hk => hk.1)⟩, ⟨by (with_reducible repeat (first | apply Kd.V_alloc | apply Kd.V_drewN | apply Kd.V_drew)); exact Kd.V_mono HO607.out (fun _ hk => hk.1)⟩, ⟨zq2 BK599.out⟩, ⟨zb1 GE599.out⟩⟩
        ·rw [if_neg c29] at H
         have c29b0 : ((t602.length : Int) == 0) = false := beq_eq_false_iff_ne.mpr c29
         have c29b1 : ((t602.length : Int) != 0) = true := bne_iff_ne.mpr c29
         have c29b2 : ¬ (t602 = []) := fun h_ => c29 (by rw [h_]; rfl)
         (first | rw [c29b0] | (simp only [i64_w, i32_w]; rw [c29b0]) | skip)
         have H' := am H
         clear H
         obtain ⟨Ao41, co41, eo41⟩ := Kd.V_slice HO604.out
         subst eo41
         go_wp2
         go_meet
         case rel => exact ⟨_, (false), zq8, H', ⟨by have := HJ1.out; have := HJ7.out; first | omega | exact Nat.le_refl _⟩, ⟨zq3 HO604.out⟩, ⟨zq3 HO607.out⟩, ⟨zq2 BK599.out⟩, ⟨zb1 GE599.out⟩⟩
       case rest =>
        clear HC25
        obtain ⟨kq, x65_24, rfl, HA, HJ24, HO_3, HO_4, BK599, HB⟩ := hcut
        cases kq with
        | zero => exact absurd HA.out (by simp [rf_Fault.j2])
        | succ kj24 =>
         have H := HA.out
         clear HA
         simp only [rf_Fault.j2] at H
         by_cases c42 : x65_24 = true
         ·subst c42
          have H1 : (some 2) = some r := by rw [if_pos rfl] at H; exact H
          clear H
          have H := H1
          clear H1
          obtain rfl := Option.some.inj H
          go_wp2
          go_ret
          exact ⟨zq9, zb1 GE599.out⟩
         ·replace c42 := Bool.eq_false_iff.mpr c42
          subst c42
          have H1 : ((rf_GcdNat.f kj24 t602 t605).bind fun t612 => ((rf_CmpNat.f kj24 t612 (([1] : List Int))).bind fun t618 => (if t618 = 0 then (some 0) else (some 2)))) = some r := by rw [if_neg (show ¬ (false = true) by decide)] at H; exact H
          clear H
          have H := H1
          clear H1
          replace H := zj H
          obtain ⟨t612, A43, H⟩ := H
          obtain ⟨y615, hy615⟩ : ∃ y_ : List Int, y_ = (([1] : List Int)) := ⟨_, rfl⟩
          try rw [← hy615] at H
          have Ny615 := am hy615
          clear hy615
          replace H := zj H
          obtain ⟨t618, A44, H⟩ := H
          by_cases c45 : t618 = 0
          ·rw [if_pos c45] at H
           have c45b0 : (t618 == 0) = true := beq_iff_eq.mpr c45
           have c45b1 : (t618 != 0) = false := bne_eq_false_iff_eq.mpr c45
           clear c45
           obtain rfl := Option.some.inj H
           obtain ⟨Ao46, co46, eo46⟩ := Kd.V_slice HO_3.out
           subst eo46
           obtain ⟨Ao47, co47, eo47⟩ := Kd.V_slice HO_4.out
           subst eo47
           go_wp2_with (first | ((with_reducible refine gate_callee (f := 47) rfl ?_); refine goesL_ (some 68) rfl rfl Tryd.func47 (by kernel_rfl) rfl #[.slice Ao46 t602.length co46, .slice Ao47 t605.length co47] rfl zq5 ?_; (with_reducible refine (rf_GcdNat.calls kj24 (fun k_ => k_ ≠ gb599) _ _ t602 (fun k_ => k_ ≠ gb599) _ _ t605 t612 _ ?side1 ?side2 A43.out).mono ?_); (case side1 => exact HO_3.out); (case side2 => exact HO_4.out); rintro e w48 ⟨v613, rfl, ho0, hb⟩; refine ⟨_, rfl, ?_⟩; have n0_ := am (Kd.V_below (zq3 HO_3.out) hb); have n1_ := am (Kd.V_below (zq3 HO_4.out) hb); have n2_ := am (Kd.V_lower (Kd.V_mono (ok' := fun k_ => k_ ≠ gb599) ho0 (fun k_ hk_ => Or.elim hk_ (fun hs_ => Or.elim hs_ (fun hs_ => hs_) (fun hs_ => hs_)) (fun hn_ => (Kd.freshB (g := gb599) (o := .cells #[.bool a0_0, .slice A0_1 l0_1.length c0_1, .slice A0_2 l0_2.length c0_2] 24 (0, 0)) (zq2 BK599.out) k_ hn_)))) (below_size (zb1 GE599.out))); have n3_ := am (bb BK599.out hb); have n4_ := am (below_step (zb1 GE599.out) hb); clear HO_3 HO_4 BK599 HB; have HO_3 := n0_; have HO_4 := n1_; have HO614 := n2_; have BK599 := n3_; have HB := n4_; clear n0_ n1_ n2_ n3_ n4_) | ((with_reducible refine gate_dst (N := 69) rfl ?_); (try (refine gate_guard (by rfl) ?_; dsimp only)); refine Kd.R_lit (Kd.int .i64) _ 3 ?hg (N := 69) ?hd (xs := ([1] : List Int)) (inner := [.int .i64 1]) (ok := fun _ => True) (okp := fun _ => True) ?hr ?hp (fun _ hk => hk) trivial (Below.refl _ _) (Nat.le_refl _) (by simp) ?_; (case hd => rfl); (case hg => rfl); (case hr => exact zr); (case hp => exact (Reps.one (show Kd.M (Kd.int .i64) _ _ _ 1 [.int .i64 1] from rfl) (Reps.none _ _))); intro v616 w49 ho50 hb hg_ hnew_; clear hg_ hnew_; (first | rw [← Ny615.out] at ho50 | (simp only [Int.reduceToNat] at ho50; rw [← Ny615.out] at ho50)); have n0_ := am (Kd.V_elder' (zq3 HO_3.out) (Kd.R_base ho50) hb); have n1_ := am (Kd.V_elder' (zq3 HO_4.out) (Kd.R_base ho50) hb); have n2_ := am (Kd.V_elder' (zq3 HO614.out) (Kd.R_base ho50) hb); have n3_ := am (Kd.R_lower ho50 (below_size (zb1 GE599.out))); have n4_ := am (bb BK599.out hb); have n5_ := am (below_step (zb1 GE599.out) hb); clear HO_3 HO_4 HO614 BK599 HB; have HO_3 := n0_; have HO_4 := n1_; have HO614 := n2_; have HO617 := n3_; have BK599 := n4_; have HB := n5_; clear n0_ n1_ n2_ n3_ n4_ n5_ hb ho50; obtain ⟨Ao51, co51, eo51⟩ := Kd.V_slice HO614.out; subst eo51; obtain ⟨Ao52, co52, eo52⟩ := Kd.R_slice HO617.out; subst eo52) | ((with_reducible refine gate_callee (f := 46) rfl ?_); refine goesL_ (some 70) rfl rfl Tryd.func46 (by kernel_rfl) rfl #[.slice Ao51 t612.length co51, .slice Ao52 y615.length co52] rfl zq5 ?_; (with_reducible refine (rf_CmpNat.calls kj24 _ _ t612 _ _ y615 t618 _ ?side1 ?side2 ?side3 ?side4 A44.out).mono ?_); (case side1 => exact zc ((Kd.V_reads' HO614.out).2.2)); (case side2 => exact (Kd.V_reads' HO614.out).2.1); (case side3 => exact zc ((Kd.R_reads' HO617.out).2.2)); (case side4 => exact (Kd.R_reads' HO617.out).2.1); rintro e w53 ⟨rfl, hb⟩; refine ⟨_, rfl, ?_⟩; have n0_ := am (Kd.V_below (zq3 HO_3.out) hb); have n1_ := am (Kd.V_below (zq3 HO_4.out) hb); have n2_ := am (Kd.V_below (zq3 HO614.out) hb); have n3_ := am (Kd.R_below (zq4 HO617.out) hb); have n4_ := am (bb BK599.out hb); have n5_ := am (below_step (zb1 GE599.out) hb); clear HO_3 HO_4 HO614 HO617 BK599 HB; have HO_3 := n0_; have HO_4 := n1_; have HO614 := n2_; have HO617 := n3_; have BK599 := n4_; have HB := n5_; clear n0_ n1_ n2_ n3_ n4_ n5_; (try clear hb); (try clear hb2); (try clear hk); (try clear hi)))
           go_ret
           exact ⟨zq9, zb1 GE599.out⟩
          ·rw [if_neg c45] at H
           have c45b0 : (t618 == 0) = false := beq_eq_false_iff_ne.mpr c45
           have c45b1 : (t618 != 0) = true := bne_iff_ne.mpr c45
           obtain rfl := Option.some.inj H
           obtain ⟨Ao54, co54, eo54⟩ := Kd.V_slice HO_3.out
           subst eo54
           obtain ⟨Ao55, co55, eo55⟩ := Kd.V_slice HO_4.out
           subst eo55
           go_wp2_with (first | ((with_reducible refine gate_callee (f := 47) rfl ?_); refine goesL_ (some 68) rfl rfl Tryd.func47 (by kernel_rfl) rfl #[.slice Ao54 t602.length co54, .slice Ao55 t605.length co55] rfl zq5 ?_; (with_reducible refine (rf_GcdNat.calls kj24 (fun k_ => k_ ≠ gb599) _ _ t602 (fun k_ => k_ ≠ gb599) _ _ t605 t612 _ ?side1 ?side2 A43.out).mono ?_); (case side1 => exact HO_3.out); (case side2 => exact HO_4.out); rintro e w56 ⟨v613, rfl, ho0, hb⟩; refine ⟨_, rfl, ?_⟩; have n0_ := am (Kd.V_below (zq3 HO_3.out) hb); have n1_ := am (Kd.V_below (zq3 HO_4.out) hb); have n2_ := am (Kd.V_lower (Kd.V_mono (ok' := fun k_ => k_ ≠ gb599) ho0 (fun k_ hk_ => Or.elim hk_ (fun hs_ => Or.elim hs_ (fun hs_ => hs_) (fun hs_ => hs_)) (fun hn_ => (Kd.freshB (g := gb599) (o := .cells #[.bool a0_0, .slice A0_1 l0_1.length c0_1, .slice A0_2 l0_2.length c0_2] 24 (0, 0)) (zq2 BK599.out) k_ hn_)))) (below_size (zb1 GE599.out))); have n3_ := am (bb BK599.out hb); have n4_ := am (below_step (zb1 GE599.out) hb); clear HO_3 HO_4 BK599 HB; have HO_3 := n0_; have HO_4 := n1_; have HO614 := n2_; have BK599 := n3_; have HB := n4_; clear n0_ n1_ n2_ n3_ n4_) | ((with_reducible refine gate_dst (N := 69) rfl ?_); (try (refine gate_guard (by rfl) ?_; dsimp only)); refine Kd.R_lit (Kd.int .i64) _ 3 ?hg (N := 69) ?hd (xs := ([1] : List Int)) (inner := [.int .i64 1]) (ok := fun _ => True) (okp := fun _ => True) ?hr ?hp (fun _ hk => hk) trivial (Below.refl _ _) (Nat.le_refl _) (by simp) ?_; (case hd => rfl); (case hg => rfl); (case hr => exact zr); (case hp => exact (Reps.one (show Kd.M (Kd.int .i64) _ _ _ 1 [.int .i64 1] from rfl) (Reps.none _ _))); intro v616 w57 ho58 hb hg_ hnew_; clear hg_ hnew_; (first | rw [← Ny615.out] at ho58 | (simp only [Int.reduceToNat] at ho58; rw [← Ny615.out] at ho58)); have n0_ := am (Kd.V_elder' (zq3 HO_3.out) (Kd.R_base ho58) hb); have n1_ := am (Kd.V_elder' (zq3 HO_4.out) (Kd.R_base ho58) hb); have n2_ := am (Kd.V_elder' (zq3 HO614.out) (Kd.R_base ho58) hb); have n3_ := am (Kd.R_lower ho58 (below_size (zb1 GE599.out))); have n4_ := am (bb BK599.out hb); have n5_ := am (below_step (zb1 GE599.out) hb); clear HO_3 HO_4 HO614 BK599 HB; have HO_3 := n0_; have HO_4 := n1_; have HO614 := n2_; have HO617 := n3_; have BK599 := n4_; have HB := n5_; clear n0_ n1_ n2_ n3_ n4_ n5_ hb ho58; obtain ⟨Ao59, co59, eo59⟩ := Kd.V_slice HO614.out; subst eo59; obtain ⟨Ao60, co60, eo60⟩ := Kd.R_slice HO617.out; subst eo60) | ((with_reducible refine gate_callee (f := 46) rfl ?_); refine goesL_ (some 70) rfl rfl Tryd.func46 (by kernel_rfl) rfl #[.slice Ao59 t612.length co59, .slice Ao60 y615.length co60] rfl zq5 ?_; (with_reducible refine (rf_CmpNat.calls kj24 _ _ t612 _ _ y615 t618 _ ?side1 ?side2 ?side3 ?side4 A44.out).mono ?_); (case side1 => exact zc ((Kd.V_reads' HO614.out).2.2)); (case side2 => exact (Kd.V_reads' HO614.out).2.1); (case side3 => exact zc ((Kd.R_reads' HO617.out).2.2)); (case side4 => exact (Kd.R_reads' HO617.out).2.1); rintro e w61 ⟨rfl, hb⟩; refine ⟨_, rfl, ?_⟩; have n0_ := am (Kd.V_below (zq3 HO_3.out) hb); have n1_ := am (Kd.V_below (zq3 HO_4.out) hb); have n2_ := am (Kd.V_below (zq3 HO614.out) hb); have n3_ := am (Kd.R_below (zq4 HO617.out) hb); have n4_ := am (bb BK599.out hb); have n5_ := am (below_step (zb1 GE599.out) hb); clear HO_3 HO_4 HO614 HO617 BK599 HB; have HO_3 := n0_; have HO_4 := n1_; have HO614 := n2_; have HO617 := n3_; have BK599 := n4_; have HB := n5_; clear n0_ n1_ n2_ n3_ n4_ n5_; (try clear hb); (try clear hb2); (try clear hk); (try clear hi)))
           go_ret
           exact ⟨zq9, zb1 GE599.out⟩
def rf_Of.f (k : Nat) (a0_0 : Bool) (l0_1 : List Int) (l0_2 : List Int) : Option (Bool × List Int × List Int) := (rf_natOf.f k l0_1).bind fun t621 => ((rf_natOf.f k l0_2).bind fun t624 => (some (a0_0, t621, t624)))
theorem rf_Of.mono : ∀ a0 a1 a2 k, LeO (rf_Of.f k a0 a1 a2) (rf_Of.f (k + 1) a0 a1 a2) := by
 intro a0 a1 a2 k
 unfold rf_Of.f
 have m0 := @rf_natOf.mono
 exact zm
def rf_Of.T1 : Bool × List (List Nat × List Nat) := (true, [([], []), ([0], [0]), ([], []), ([2], [2]), ([3], [3]), ([], []), ([5], [5]), ([6, 4], [6]), ([1, 4, 7], [1, 4, 7]), ([8, 7, 0, 1, 2, 3, 4, 5, 6, 7, 8], [8])])
def rf_Of.B1 : List Nat := [0, 1, 0, 4, 12, 0, 32, 124, 255, 511]
theorem rf_Of.tab1 : rtab .any (opsOf Tryd.f24 1) = rf_Of.T1 := by kernel_rfl
theorem rf_Of.bits1 : waitsOk rf_Of.T1.2 rf_Of.B1 = true := by kernel_rfl
set_option maxHeartbeats 8000000 in
set_option maxRecDepth 100000 in
theorem rf_Of.calls (k : Nat) (a0_0 : Bool) (A0_1 : Option Addr) (c0_1 : Nat) (l0_1 : List Int) (A0_2 : Option Addr) (c0_2 : Nat) (l0_2 : List Int) (r1 : Bool) (r2 : List Int) (r3 : List Int) (w : World) (hr0_1 : Kd.C (Kd.int .u32) w A0_1 l0_1.length l0_1) (hc0_1 : l0_1.length ≤ c0_1) (hr0_2 : Kd.C (Kd.int .u32) w A0_2 l0_2.length l0_2) (hc0_2 : l0_2.length ≤ c0_2) (h : rf_Of.f k a0_0 l0_1 l0_2 = some (r1, r2, r3)) :
  Calls Tryd.prog 24 #[.agg #[.bool a0_0, .slice A0_1 l0_1.length c0_1, .slice A0_2 l0_2.length c0_2]] w fun e w' => ∃ v1_ v2_ : Value, e = .returned (.agg #[.bool r1, v1_, v2_]) ∧ Kd.V (Kd.int .i64) 3 w' w.heap.size (fun k_ => (w.heap.size ≤ k_)) v1_ r2 ∧ Kd.V (Kd.int .i64) 3 w' w.heap.size (fun k_ => (w.heap.size ≤ k_)) v2_ r3 ∧ Below w.heap.size w w' := by
 have hu24 := Tryd.underlying24
 have hu41 := Tryd.underlying41
 have HR0_1 := am hr0_1
 have HC0_1 := am hc0_1
 clear hr0_1 hc0_1
 have HR0_2 := am hr0_2
 have HC0_2 := am hc0_2
 clear hr0_2 hc0_2
 have HB := am (Below.refl w.heap.size w)
 have H := h
 unfold rf_Of.f at H
 clear h
 replace H := zj H
 obtain ⟨t621, A2, H⟩ := H
 replace H := zj H
 obtain ⟨t624, A3, H⟩ := H
 simp only [Option.some.injEq, Prod.mk.injEq] at H
 obtain ⟨rfl, rfl, rfl⟩ := H
 go_enter Tryd.func24, Tryd.ntmps24
 try go_wp2_with (first | ((with_reducible refine gate_dst (N := 1) rfl ?_); refine zbox (N := 1) (cs := #[.bool a0_0, .slice A0_1 l0_1.length c0_1, .slice A0_2 l0_2.length c0_2]) (t := 24) ?_; intro gb619 hg w4 hbox hb; have n0_ := am (below_step zq1 hb); have n1_ := am (hbox); have n2_ := am ((zs hg (below_size zq1) : w.heap.size ≤ gb619)); have n3_ := n2_; clear HB; have HB := n0_; have BK619 := n1_; have GW619 := n2_; have GE619 := n3_; clear n0_ n1_ n2_ n3_; clear hb hbox hg) | ((with_reducible refine gate_dst (N := 2) rfl ?_); refine zbox (N := 2) (cs := #[.bool false, .slice none 0 0, .slice none 0 0]) (t := 41) ?_; intro gb620 hg w5 hbox hb; have n0_ := am (bb BK619.out hb); have n1_ := am (below_step (zb1 GE619.out) hb); have n2_ := am (hbox); have n3_ := am ((zs hg (below_size (zb1 GE619.out)) : w.heap.size ≤ gb620)); have n4_ := n3_; have n5_ := am ((by rw [hg]; exact Nat.ne_of_lt (bl BK619.out) : gb619 ≠ gb620)); have n6_ := am ((by rw [hg]; exact Nat.ne_of_gt (bl BK619.out) : gb620 ≠ gb619)); clear BK619 HB; have BK619 := n0_; have HB := n1_; have BK620 := n2_; have GW620 := n3_; have GE620 := n4_; have NB619_620 := n5_; have NB620_619 := n6_; clear n0_ n1_ n2_ n3_ n4_ n5_ n6_; clear hb hbox hg))
 have n0_ := am (blk_drew BK619.out)
 have n1_ := am (blk_drew BK620.out)
 have n2_ := am (below_drew1 HB.out)
 clear BK619 BK620 HB
 have BK619 := n0_
 have BK620 := n1_
 have HB := n2_
 clear n0_ n1_ n2_
 refine start_ (n := 10) (S := fun w' => w'.cell? ⟨gb619, 0, none⟩ = some (.bool a0_0) ∧ w'.cell? ⟨gb619, 1, none⟩ = some (.slice A0_1 l0_1.length c0_1) ∧ w'.cell? ⟨gb619, 2, none⟩ = some (.slice A0_2 l0_2.length c0_2)) (ds := []) #[false, false, false, false, false, false, false, false, false, false] (by kernel_rfl) rfl rfl ⟨(blk_cell BK619.out 0).trans rfl, (blk_cell BK619.out 1).trans rfl, (blk_cell BK619.out 2).trans rfl⟩ (fun hHeld => ?_); refine with_tabW rf_Of.tab1 rf_Of.bits1 (fun HT_ HW_ => ?_)
 generalize w5.drew = w6 at BK619 BK620 HB hHeld ⊢
 refine pz_ (i := 0) (N := some 3) (zmt 10 [0]) ?_
 refine pz_ (i := 2) (N := some 5) (zmt 10 [0, 2]) ?_
 refine pz_ (i := 5) (N := some 8) (zmt 10 [0, 2, 5]) ?_
 refine tz3 (i := 1) (N := some 4) (zmt 10 [0, 1, 2, 5]) ?_
 refine tz3 (i := 3) (N := some 6) (zmt 10 [0, 1, 2, 3, 5]) ?_
 refine tz3 (i := 6) (N := some 9) (zmf 10 [4, 7, 8, 9]) ?_
 refine one_ (i := 4) (N := some 7) (zmf 10 [7, 8, 9]) rfl rfl (one_of HT_.out (by kernel_rfl)) (by decide) (fun K hK => ?_)
 refine goes_ Tryd.func45 (by kernel_rfl) rfl #[.slice A0_1 l0_1.length c0_1] (by rfl) rfl rfl zq5 ?_
 with_reducible refine (rf_natOf.calls k _ _ l0_1 t621 _ ?side1 ?side2 A2.out).mono ?_
 (case side1 => exact zc (Kd.C_below HR0_1.out HB.out))
 (case side2 => exact HC0_1.out)
 rintro e w7 ⟨v622, rfl, ho0, hb⟩
 refine ⟨_, rfl, ?_⟩
 have n0_ := am (Kd.V_lower (Kd.V_mono (ok' := fun k_ => (w.heap.size ≤ k_) ∧ k_ ≠ gb619 ∧ k_ ≠ gb620) ho0 (fun k_ hk_ => ⟨(Nat.le_trans (below_size (zb2 GE619.out GE620.out)) hk_), (Kd.freshB (g := gb619) (o := .cells #[.bool a0_0, .slice A0_1 l0_1.length c0_1, .slice A0_2 l0_2.length c0_2] 24 (0, 0)) (zq2 BK619.out) k_ hk_), (Kd.freshB (g := gb620) (o := .cells #[.bool false, .slice none 0 0, .slice none 0 0] 41 (0, 0)) (zq2 BK620.out) k_ hk_)⟩)) (below_size (zb2 GE619.out GE620.out)))
 have n1_ := am (bb BK619.out hb)
 have n2_ := am (bb BK620.out hb)
 have n3_ := am (below_step (zb2 GE619.out GE620.out) hb)
 clear BK619 BK620 HB
 have HO623 := n0_
 have BK619 := n1_
 have BK620 := n2_
 have HB := n3_
 clear n0_ n1_ n2_ n3_
 (try clear hb)
 (try clear hb2)
 (try clear hk)
 (try clear hi)
 (try clear ho0)
 refine hK.out _ _ ⟨(blk_cell BK619.out 0).trans rfl, (blk_cell BK619.out 1).trans rfl, (blk_cell BK619.out 2).trans rfl⟩ (fun hHeld => ?_)
 clear hK K
 refine nz_ (N := (some 7)) ?_
 refine one_ (i := 7) (N := some 10) (zmf 10 [8, 9]) rfl rfl (one_of HT_.out (by kernel_rfl)) (by decide) (fun K hK => ?_)
 refine goes_ Tryd.func45 (by kernel_rfl) rfl #[.slice A0_2 l0_2.length c0_2] (by rfl) rfl rfl zq5 ?_
 with_reducible refine (rf_natOf.calls k _ _ l0_2 t624 _ ?side1 ?side2 A3.out).mono ?_
 (case side1 => exact zc (Kd.C_below HR0_2.out HB.out))
 (case side2 => exact HC0_2.out)
 rintro e w8 ⟨v625, rfl, ho0, hb⟩
 refine ⟨_, rfl, ?_⟩
 have n0_ := am (Kd.V_below (zq3 HO623.out) hb)
 have n1_ := am (Kd.V_lower (Kd.V_mono (ok' := fun k_ => (w.heap.size ≤ k_) ∧ k_ ≠ gb619 ∧ k_ ≠ gb620) ho0 (fun k_ hk_ => ⟨(Nat.le_trans (below_size (zb2 GE619.out GE620.out)) hk_), (Kd.freshB (g := gb619) (o := .cells #[.bool a0_0, .slice A0_1 l0_1.length c0_1, .slice A0_2 l0_2.length c0_2] 24 (0, 0)) (zq2 BK619.out) k_ hk_), (Kd.freshB (g := gb620) (o := .cells #[.bool false, .slice none 0 0, .slice none 0 0] 41 (0, 0)) (zq2 BK620.out) k_ hk_)⟩)) (below_size (zb2 GE619.out GE620.out)))
 have n2_ := am (bb BK619.out hb)
 have n3_ := am (bb BK620.out hb)
 have n4_ := am (below_step (zb2 GE619.out GE620.out) hb)
 clear HO623 BK619 BK620 HB
 have HO623 := n0_
 have HO626 := n1_
 have BK619 := n2_
 have BK620 := n3_
 have HB := n4_
 clear n0_ n1_ n2_ n3_ n4_
 (try clear hb)
 (try clear hb2)
 (try clear hk)
 (try clear hi)
 (try clear ho0)
 obtain ⟨Ao9, co9, eo9⟩ := Kd.V_slice HO626.out
 (first | subst eo9 | (injection eo9 with f1_ f2_ f3_; have f4_ := f1_.symm; have f5_ := f3_.symm; clear f1_ f2_ f3_; subst f4_; subst f5_))
 obtain ⟨Ao10, co10, eo10⟩ := Kd.V_slice HO623.out
 (first | subst eo10 | (injection eo10 with f1_ f2_ f3_; have f4_ := f1_.symm; have f5_ := f3_.symm; clear f1_ f2_ f3_; subst f4_; subst f5_))
 refine hK.out _ _ ⟨(blk_cell BK619.out 0).trans rfl, (blk_cell BK619.out 1).trans rfl, (blk_cell BK619.out 2).trans rfl⟩ (fun hHeld => ?_)
 clear hK K
 refine nz_ (N := (some 10)) ?_
 refine pz_ (i := 8) (N := some 11) (zmf 10 [9]) ?_
 refine one_ (i := 9) (N := none) (zmf 10 []) rfl rfl (one_of HT_.out (by kernel_rfl)) (by decide) (fun K hK => ?_)
 have hs11 : w8.cell? ⟨gb620, 0, none⟩ = some (.bool false) := (blk_cell BK620.out 0).trans rfl
 have hfs11 := blk_frozen BK620.out 0
 have hns11_0 := NB619_620.out
 have hms11_0 := NB620_619.out
 have hs12 : w8.cell? ⟨gb620, 1, none⟩ = some (.slice none 0 0) := (blk_cell BK620.out 1).trans rfl
 have hfs12 := blk_frozen BK620.out 1
 have hns12_0 := NB619_620.out
 have hms12_0 := NB620_619.out
 have hs13 : w8.cell? ⟨gb620, 2, none⟩ = some (.slice none 0 0) := (blk_cell BK620.out 2).trans rfl
 have hfs13 := blk_frozen BK620.out 2
 have hns13_0 := NB619_620.out
 have hms13_0 := NB620_619.out
 refine skip_ (w1 := ?_) (by rfl) rfl ?_ ?_
 rotate_left
 ·go_simp
  rfl
 refine hK.out _ _ ⟨((cell_far (p := ⟨gb620, _, none⟩) NB619_620.out _).trans (((cell_far (p := ⟨gb620, _, none⟩) NB619_620.out _).trans (((cell_far (p := ⟨gb620, _, none⟩) NB619_620.out _).trans (hHeld.1)))))), ((cell_far (p := ⟨gb620, _, none⟩) NB619_620.out _).trans (((cell_far (p := ⟨gb620, _, none⟩) NB619_620.out _).trans (((cell_far (p := ⟨gb620, _, none⟩) NB619_620.out _).trans (hHeld.2.1)))))), ((cell_far (p := ⟨gb620, _, none⟩) NB619_620.out _).trans (((cell_far (p := ⟨gb620, _, none⟩) NB619_620.out _).trans (((cell_far (p := ⟨gb620, _, none⟩) NB619_620.out _).trans (hHeld.2.2))))))⟩ (fun hHeld => ?_)
 clear hK K
 refine done_ (done_of HT_.out (by kernel_rfl)) ?_
 try go_wp2
 refine bodyPost_ret (results_cell_row rfl _ _ gb620 41 #[.bool a0_0, .slice Ao10 t621.length co10, .slice Ao9 t624.length co9] (0, 0) _ rfl (by (with_reducible repeat (first | refine blk_drewN ?_ _ | refine blk_drew ?_ | refine blk_alloc ?_ _)); refine blk_put (cs := #[.bool a0_0, .slice Ao10 t621.length co10, .slice none 0 0]) ?_ 2 _ rfl; (with_reducible repeat (first | refine blk_drewN ?_ _ | refine blk_drew ?_ | refine blk_alloc ?_ _)); refine blk_put (cs := #[.bool a0_0, .slice none 0 0, .slice none 0 0]) ?_ 1 _ rfl; (with_reducible repeat (first | refine blk_drewN ?_ _ | refine blk_drew ?_ | refine blk_alloc ?_ _)); refine blk_put (cs := #[.bool false, .slice none 0 0, .slice none 0 0]) ?_ 0 _ rfl; (with_reducible repeat (first | refine blk_drewN ?_ _ | refine blk_drew ?_ | refine blk_alloc ?_ _)); exact BK620.out) Tryd.underlying41 rfl (by kernel_rfl)) rfl ?_
 exact ⟨_, _, zq9, by (with_reducible repeat (first | apply Kd.V_alloc | apply Kd.V_drewN | apply Kd.V_drew)); exact Kd.V_mono (Kd.V_far (p := ⟨gb620, 2, none⟩) (Kd.V_far (p := ⟨gb620, 1, none⟩) (Kd.V_far (p := ⟨gb620, 0, none⟩) (Kd.V_mono HO623.out (fun k_ hk => (⟨hk, hk.2.2⟩ : _ ∧ k_ ≠ gb620))) (fun _ hk => hk.2) (.bool a0_0)) (fun _ hk => hk.2) (.slice Ao10 t621.length co10)) (fun _ hk => hk.2) (.slice Ao9 t624.length co9)) (fun _ hk => hk.1.1), by (with_reducible repeat (first | apply Kd.V_alloc | apply Kd.V_drewN | apply Kd.V_drew)); exact Kd.V_mono (Kd.V_far (p := ⟨gb620, 2, none⟩) (Kd.V_far (p := ⟨gb620, 1, none⟩) (Kd.V_far (p := ⟨gb620, 0, none⟩) (Kd.V_mono HO626.out (fun k_ hk => (⟨hk, hk.2.2⟩ : _ ∧ k_ ≠ gb620))) (fun _ hk => hk.2) (.bool a0_0)) (fun _ hk => hk.2) (.slice Ao10 t621.length co10)) (fun _ hk => hk.2) (.slice Ao9 t624.length co9)) (fun _ hk => hk.1.1), zb2 GE619.out GE620.out⟩
end Go.Proofs.YtemnjgkicndmjaaDoor.Q

namespace Go.Proofs.YtemnjgkicndmjaaDoor.Q
open Go.RowKit Go.Proofs.YtemnjgkicndmjaaDoorW.PrintWords Go.Proofs.YtemnjgkicndmjaaDoorW.PrintLast Go.Proofs.YtemnjgkicndmjaaDoorW.PrintMore
attribute [local go_sem] max2_int min2_int max_two min_two max_three min_three max_four min_four
set_option linter.unusedVariables false
set_option linter.unusedSimpArgs false
def number_compare.f (k : Nat) (a0_0 : Bool) (l0_1 : List Int) (l0_2 : List Int) (a1_0 : Bool) (l1_1 : List Int) (l1_2 : List Int) : Option (Int) := if (a0_0 != a1_0) = true then (if a0_0 = true then (some (-1)) else (some 1)) else ((nat_Mul.f k l0_1 l1_2).bind fun t1762 => ((nat_Mul.f k l1_1 l0_2).bind fun t1765 => ((nat_Compare.f k t1762 t1765).bind fun t1768 => (if a0_0 = true then (some (wrap64 (-t1768))) else (some t1768)))))
theorem number_compare.mono : ∀ a0 a1 a2 a3 a4 a5 k, LeO (number_compare.f k a0 a1 a2 a3 a4 a5) (number_compare.f (k + 1) a0 a1 a2 a3 a4 a5) := by
 intro a0 a1 a2 a3 a4 a5 k
 unfold number_compare.f
 have m0 := @nat_Compare.mono
 have m1 := @nat_Mul.mono
 exact zm
def number_compare.T5 : Bool × List (List Nat × List Nat) := (true, [([], []), ([0], [0]), ([], []), ([2], [2]), ([1, 3], [1, 3]), ([], []), ([5], [5]), ([], []), ([7], [7]), ([6, 8, 4], [6, 8]), ([4, 9, 9], [4, 9]), ([10, 10, 0, 1, 2, 3, 4, 5, 6, 7, 8, 9, 10], [10])])
def number_compare.B5 : List Nat := [0, 1, 0, 4, 15, 0, 32, 0, 128, 511, 1023, 2047]
theorem number_compare.tab5 : rtab .any (opsOf Tryd.f62 5) = number_compare.T5 := by kernel_rfl
theorem number_compare.bits5 : waitsOk number_compare.T5.2 number_compare.B5 = true := by kernel_rfl
set_option maxHeartbeats 8000000 in
set_option maxRecDepth 100000 in
theorem number_compare.calls (k : Nat) (a0_0 : Bool) (A0_1 : Option Addr) (c0_1 : Nat) (l0_1 : List Int) (A0_2 : Option Addr) (c0_2 : Nat) (l0_2 : List Int) (a1_0 : Bool) (A1_1 : Option Addr) (c1_1 : Nat) (l1_1 : List Int) (A1_2 : Option Addr) (c1_2 : Nat) (l1_2 : List Int) (r : Int) (w : World) (hr0_1 : Kd.C (Kd.int .u32) w A0_1 l0_1.length l0_1) (hc0_1 : l0_1.length ≤ c0_1) (hr0_2 : Kd.C (Kd.int .u32) w A0_2 l0_2.length l0_2) (hc0_2 : l0_2.length ≤ c0_2) (hr1_1 : Kd.C (Kd.int .u32) w A1_1 l1_1.length l1_1) (hc1_1 : l1_1.length ≤ c1_1) (hr1_2 : Kd.C (Kd.int .u32) w A1_2 l1_2.length l1_2) (hc1_2 : l1_2.length ≤ c1_2) (h : number_compare.f k a0_0 l0_1 l0_2 a1_0 l1_1 l1_2 = some r) :
  Calls Tryd.prog 62 #[.agg #[.bool a0_0, .slice A0_1 l0_1.length c0_1, .slice A0_2 l0_2.length c0_2], .agg #[.bool a1_0, .slice A1_1 l1_1.length c1_1, .slice A1_2 l1_2.length c1_2]] w fun e w' => e = .returned (.int .i64 r) ∧ Below w.heap.size w w' := by
 have hu24 := Tryd.underlying24
 have HR0_1 := am hr0_1
 have HC0_1 := am hc0_1
 clear hr0_1 hc0_1
 have HR0_2 := am hr0_2
 have HC0_2 := am hc0_2
 clear hr0_2 hc0_2
 have HR1_1 := am hr1_1
 have HC1_1 := am hc1_1
 clear hr1_1 hc1_1
 have HR1_2 := am hr1_2
 have HC1_2 := am hc1_2
 clear hr1_2 hc1_2
 have HB := am (Below.refl w.heap.size w)
 have H := h
 unfold number_compare.f at H
 clear h
 by_cases c3 : (a0_0 != a1_0) = true
 ·rw [if_pos c3] at H
  have c3b0 : (a0_0 != a1_0) = true := c3
  (try (have c3b1 : decide (a0_0 = a1_0) = false := by simpa using c3))
  (try (have c3b2 : (a0_0 == a1_0) = false := by simpa using c3))
  (try (have c3b3 : ¬ (a0_0 = a1_0) := by simpa using c3))
  clear c3
  by_cases c4 : a0_0 = true
  ·subst c4
   have H1 : (some (-1)) = some r := by rw [if_pos rfl] at H; exact H
   clear H
   have H := H1
   clear H1
   obtain rfl := Option.some.inj H
   go_enter Tryd.func62, Tryd.ntmps62
   go_wp2_with (first | ((with_reducible refine gate_dst (N := 2) rfl ?_); refine zbox (N := 2) (cs := #[.bool true, .slice A0_1 l0_1.length c0_1, .slice A0_2 l0_2.length c0_2]) (t := 24) ?_; intro gb1760 hg w5 hbox hb; have n0_ := am (below_step zq1 hb); have n1_ := am (hbox); have n2_ := am ((zs hg (below_size zq1) : w.heap.size ≤ gb1760)); have n3_ := n2_; clear HB; have HB := n0_; have BK1760 := n1_; have GW1760 := n2_; have GE1760 := n3_; clear n0_ n1_ n2_ n3_; clear hb hbox hg) | ((with_reducible refine gate_dst (N := 3) rfl ?_); refine zbox (N := 3) (cs := #[.bool a1_0, .slice A1_1 l1_1.length c1_1, .slice A1_2 l1_2.length c1_2]) (t := 24) ?_; intro gb1761 hg w6 hbox hb; have n0_ := am (bb BK1760.out hb); have n1_ := am (below_step (zb1 GE1760.out) hb); have n2_ := am (hbox); have n3_ := am ((zs hg (below_size (zb1 GE1760.out)) : w.heap.size ≤ gb1761)); have n4_ := n3_; have n5_ := am ((by rw [hg]; exact Nat.ne_of_lt (bl BK1760.out) : gb1760 ≠ gb1761)); have n6_ := am ((by rw [hg]; exact Nat.ne_of_gt (bl BK1760.out) : gb1761 ≠ gb1760)); clear BK1760 HB; have BK1760 := n0_; have HB := n1_; have BK1761 := n2_; have GW1761 := n3_; have GE1761 := n4_; have NB1760_1761 := n5_; have NB1761_1760 := n6_; clear n0_ n1_ n2_ n3_ n4_ n5_ n6_ hb hbox hg; have hnb7 := NB1760_1761.out; have hnc7 := NB1761_1760.out; have hcz8_0 := bc BK1760.out 0 (.bool true); have hcz8_1 := bc BK1760.out 1 (.slice A0_1 l0_1.length c0_1); have hcz8_2 := bc BK1760.out 2 (.slice A0_2 l0_2.length c0_2); have hfz8_0 := blk_frozen BK1760.out 0; have hfz8_1 := blk_frozen BK1760.out 1; have hfz8_2 := blk_frozen BK1760.out 2; have hcz9_0 := bc BK1761.out 0 (.bool a1_0); have hcz9_1 := bc BK1761.out 1 (.slice A1_1 l1_1.length c1_1); have hcz9_2 := bc BK1761.out 2 (.slice A1_2 l1_2.length c1_2); have hfz9_0 := blk_frozen BK1761.out 0; have hfz9_1 := blk_frozen BK1761.out 1; have hfz9_2 := blk_frozen BK1761.out 2))
   go_ret
   exact ⟨zq9, zb2 GE1760.out GE1761.out⟩
  ·replace c4 := Bool.eq_false_iff.mpr c4
   subst c4
   have H1 : (some 1) = some r := by rw [if_neg (show ¬ (false = true) by decide)] at H; exact H
   clear H
   have H := H1
   clear H1
   obtain rfl := Option.some.inj H
   go_enter Tryd.func62, Tryd.ntmps62
   go_wp2_with (first | ((with_reducible refine gate_dst (N := 2) rfl ?_); refine zbox (N := 2) (cs := #[.bool false, .slice A0_1 l0_1.length c0_1, .slice A0_2 l0_2.length c0_2]) (t := 24) ?_; intro gb1760 hg w10 hbox hb; have n0_ := am (below_step zq1 hb); have n1_ := am (hbox); have n2_ := am ((zs hg (below_size zq1) : w.heap.size ≤ gb1760)); have n3_ := n2_; clear HB; have HB := n0_; have BK1760 := n1_; have GW1760 := n2_; have GE1760 := n3_; clear n0_ n1_ n2_ n3_; clear hb hbox hg) | ((with_reducible refine gate_dst (N := 3) rfl ?_); refine zbox (N := 3) (cs := #[.bool a1_0, .slice A1_1 l1_1.length c1_1, .slice A1_2 l1_2.length c1_2]) (t := 24) ?_; intro gb1761 hg w11 hbox hb; have n0_ := am (bb BK1760.out hb); have n1_ := am (below_step (zb1 GE1760.out) hb); have n2_ := am (hbox); have n3_ := am ((zs hg (below_size (zb1 GE1760.out)) : w.heap.size ≤ gb1761)); have n4_ := n3_; have n5_ := am ((by rw [hg]; exact Nat.ne_of_lt (bl BK1760.out) : gb1760 ≠ gb1761)); have n6_ := am ((by rw [hg]; exact Nat.ne_of_gt (bl BK1760.out) : gb1761 ≠ gb1760)); clear BK1760 HB; have BK1760 := n0_; have HB := n1_; have BK1761 := n2_; have GW1761 := n3_; have GE1761 := n4_; have NB1760_1761 := n5_; have NB1761_1760 := n6_; clear n0_ n1_ n2_ n3_ n4_ n5_ n6_ hb hbox hg; have hnb12 := NB1760_1761.out; have hnc12 := NB1761_1760.out; have hcz13_0 := bc BK1760.out 0 (.bool false); have hcz13_1 := bc BK1760.out 1 (.slice A0_1 l0_1.length c0_1); have hcz13_2 := bc BK1760.out 2 (.slice A0_2 l0_2.length c0_2); have hfz13_0 := blk_frozen BK1760.out 0; have hfz13_1 := blk_frozen BK1760.out 1; have hfz13_2 := blk_frozen BK1760.out 2; have hcz14_0 := bc BK1761.out 0 (.bool a1_0); have hcz14_1 := bc BK1761.out 1 (.slice A1_1 l1_1.length c1_1); have hcz14_2 := bc BK1761.out 2 (.slice A1_2 l1_2.length c1_2); have hfz14_0 := blk_frozen BK1761.out 0; have hfz14_1 := blk_frozen BK1761.out 1; have hfz14_2 := blk_frozen BK1761.out 2))
   go_ret
   exact ⟨zq9, zb2 GE1760.out GE1761.out⟩
 ·rw [if_neg c3] at H
  have c3b0 : (a0_0 != a1_0) = false := by simpa using c3
  (try (have c3b1 : decide (a0_0 = a1_0) = true := by simpa using c3))
  (try (have c3b2 : (a0_0 == a1_0) = true := by simpa using c3))
  clear c3
  replace H := zj H
  obtain ⟨t1762, A15, H⟩ := H
  replace H := zj H
  obtain ⟨t1765, A16, H⟩ := H
  replace H := zj H
  obtain ⟨t1768, A17, H⟩ := H
  by_cases c18 : a0_0 = true
  ·subst c18
   have H1 : (some (wrap64 (-t1768))) = some r := by rw [if_pos rfl] at H; exact H
   clear H
   have H := H1
   clear H1
   obtain rfl := Option.some.inj H
   go_enter Tryd.func62, Tryd.ntmps62
   try go_wp2_with (first | ((with_reducible refine gate_dst (N := 2) rfl ?_); refine zbox (N := 2) (cs := #[.bool true, .slice A0_1 l0_1.length c0_1, .slice A0_2 l0_2.length c0_2]) (t := 24) ?_; intro gb1760 hg w19 hbox hb; have n0_ := am (below_step zq1 hb); have n1_ := am (hbox); have n2_ := am ((zs hg (below_size zq1) : w.heap.size ≤ gb1760)); have n3_ := n2_; clear HB; have HB := n0_; have BK1760 := n1_; have GW1760 := n2_; have GE1760 := n3_; clear n0_ n1_ n2_ n3_; clear hb hbox hg) | ((with_reducible refine gate_dst (N := 3) rfl ?_); refine zbox (N := 3) (cs := #[.bool a1_0, .slice A1_1 l1_1.length c1_1, .slice A1_2 l1_2.length c1_2]) (t := 24) ?_; intro gb1761 hg w20 hbox hb; have n0_ := am (bb BK1760.out hb); have n1_ := am (below_step (zb1 GE1760.out) hb); have n2_ := am (hbox); have n3_ := am ((zs hg (below_size (zb1 GE1760.out)) : w.heap.size ≤ gb1761)); have n4_ := n3_; have n5_ := am ((by rw [hg]; exact Nat.ne_of_lt (bl BK1760.out) : gb1760 ≠ gb1761)); have n6_ := am ((by rw [hg]; exact Nat.ne_of_gt (bl BK1760.out) : gb1761 ≠ gb1760)); clear BK1760 HB; have BK1760 := n0_; have HB := n1_; have BK1761 := n2_; have GW1761 := n3_; have GE1761 := n4_; have NB1760_1761 := n5_; have NB1761_1760 := n6_; clear n0_ n1_ n2_ n3_ n4_ n5_ n6_ hb hbox hg; have hnb21 := NB1760_1761.out; have hnc21 := NB1761_1760.out; have hcz22_0 := bc BK1760.out 0 (.bool true); have hcz22_1 := bc BK1760.out 1 (.slice A0_1 l0_1.length c0_1); have hcz22_2 := bc BK1760.out 2 (.slice A0_2 l0_2.length c0_2); have hfz22_0 := blk_frozen BK1760.out 0; have hfz22_1 := blk_frozen BK1760.out 1; have hfz22_2 := blk_frozen BK1760.out 2; have hcz23_0 := bc BK1761.out 0 (.bool a1_0); have hcz23_1 := bc BK1761.out 1 (.slice A1_1 l1_1.length c1_1); have hcz23_2 := bc BK1761.out 2 (.slice A1_2 l1_2.length c1_2); have hfz23_0 := blk_frozen BK1761.out 0; have hfz23_1 := blk_frozen BK1761.out 1; have hfz23_2 := blk_frozen BK1761.out 2))
   have n0_ := am (blk_drew BK1760.out)
   have n1_ := am (blk_drew BK1761.out)
   have n2_ := am (below_drew1 HB.out)
   clear BK1760 BK1761 HB
   have BK1760 := n0_
   have BK1761 := n1_
   have HB := n2_
   clear n0_ n1_ n2_
   refine start_ (n := 12) (S := fun w' => w'.cell? ⟨gb1760, 0, none⟩ = some (.bool true) ∧ w'.cell? ⟨gb1760, 1, none⟩ = some (.slice A0_1 l0_1.length c0_1) ∧ w'.cell? ⟨gb1760, 2, none⟩ = some (.slice A0_2 l0_2.length c0_2) ∧ w'.cell? ⟨gb1761, 0, none⟩ = some (.bool a1_0) ∧ w'.cell? ⟨gb1761, 1, none⟩ = some (.slice A1_1 l1_1.length c1_1) ∧ w'.cell? ⟨gb1761, 2, none⟩ = some (.slice A1_2 l1_2.length c1_2)) (ds := []) #[false, false, false, false, false, false, false, false, false, false, false, false] (by kernel_rfl) rfl rfl ⟨(blk_cell BK1760.out 0).trans rfl, (blk_cell BK1760.out 1).trans rfl, (blk_cell BK1760.out 2).trans rfl, (blk_cell BK1761.out 0).trans rfl, (blk_cell BK1761.out 1).trans rfl, (blk_cell BK1761.out 2).trans rfl⟩ (fun hHeld => ?_); refine with_tabW number_compare.tab5 number_compare.bits5 (fun HT_ HW_ => ?_)
   generalize w20.drew = w24 at BK1760 BK1761 HB hHeld ⊢
   refine pz_ (i := 0) (N := some 13) (zmt 12 [0]) ?_
   refine pz_ (i := 2) (N := some 15) (zmt 12 [0, 2]) ?_
   refine pz_ (i := 5) (N := some 18) (zmt 12 [0, 2, 5]) ?_
   refine pz_ (i := 7) (N := some 20) (zmt 12 [0, 2, 5, 7]) ?_
   refine take_ (i := 1) (N := some 14) (v := ?_) (a' := ?_) #[true, true, true, false, false, true, false, true, false, false, false, false] rfl rfl (take_ofW HT_.out HW_.out (by kernel_rfl)) (fun _ _ _ h => h) (Or.inl ⟨by rfl, ?_⟩) hHeld ?_ ?_
   rotate_left
   ·rintro w' ⟨s0, s1, s2, s3, s4, s5⟩
    go_simp
    with_reducible rfl
   rotate_left
   ·simp only [Act.put, List.setIfInBounds_toArray, List.set_cons_zero, List.set_cons_succ, i64_w, i32_w]
    rfl
   refine take_ (i := 3) (N := some 16) (v := ?_) (a' := ?_) #[true, true, true, true, false, true, false, true, false, false, false, false] rfl rfl (take_ofW HT_.out HW_.out (by kernel_rfl)) (fun _ _ _ h => h) (Or.inl ⟨by rfl, ?_⟩) hHeld ?_ ?_
   rotate_left
   ·rintro w' ⟨s0, s1, s2, s3, s4, s5⟩
    go_simp
    with_reducible rfl
   rotate_left
   ·simp only [Act.put, List.setIfInBounds_toArray, List.set_cons_zero, List.set_cons_succ, i64_w, i32_w]
    rfl
   refine take_ (i := 6) (N := some 19) (v := ?_) (a' := ?_) #[true, true, true, true, false, true, true, true, false, false, false, false] rfl rfl (take_ofW HT_.out HW_.out (by kernel_rfl)) (fun _ _ _ h => h) (Or.inl ⟨by rfl, ?_⟩) hHeld ?_ ?_
   rotate_left
   ·rintro w' ⟨s0, s1, s2, s3, s4, s5⟩
    go_simp
    with_reducible rfl
   rotate_left
   ·simp only [Act.put, List.setIfInBounds_toArray, List.set_cons_zero, List.set_cons_succ, i64_w, i32_w]
    rfl
   refine take_ (i := 8) (N := some 21) (v := ?_) (a' := ?_) #[true, true, true, true, false, true, true, true, true, false, false, false] rfl rfl (take_ofW HT_.out HW_.out (by kernel_rfl)) (fun _ _ _ h => h) (Or.inl ⟨by rfl, ?_⟩) hHeld ?_ ?_
   rotate_left
   ·rintro w' ⟨s0, s1, s2, s3, s4, s5⟩
    go_simp
    with_reducible rfl
   rotate_left
   ·simp only [Act.put, List.setIfInBounds_toArray, List.set_cons_zero, List.set_cons_succ, i64_w, i32_w]
    rfl
   refine one_ (i := 4) (N := some 17) (zmf 12 [9, 10, 11]) rfl rfl (one_of HT_.out (by kernel_rfl)) (by decide) (fun K hK => ?_)
   refine goes_ Tryd.func77 (by kernel_rfl) rfl #[.slice A0_1 l0_1.length c0_1, .slice A1_2 l1_2.length c1_2] (by rfl) rfl rfl zq5 ?_
   with_reducible refine (nat_Mul.calls k _ _ l0_1 _ _ l1_2 t1762 _ ?side1 ?side2 ?side3 ?side4 A15.out).mono ?_
   (case side1 => exact zc (Kd.C_below HR0_1.out HB.out))
   (case side2 => exact HC0_1.out)
   (case side3 => exact zc (Kd.C_below HR1_2.out HB.out))
   (case side4 => exact HC1_2.out)
   rintro e w25 ⟨v1763, rfl, ho0, hb⟩
   refine ⟨_, rfl, ?_⟩
   have n0_ := am (Kd.V_lower (Kd.V_mono (ok' := fun k_ => k_ ≠ gb1760 ∧ k_ ≠ gb1761) ho0 (fun k_ hk_ => ⟨(Kd.freshB (g := gb1760) (o := .cells #[.bool true, .slice A0_1 l0_1.length c0_1, .slice A0_2 l0_2.length c0_2] 24 (0, 0)) (zq2 BK1760.out) k_ hk_), (Kd.freshB (g := gb1761) (o := .cells #[.bool a1_0, .slice A1_1 l1_1.length c1_1, .slice A1_2 l1_2.length c1_2] 24 (0, 0)) (zq2 BK1761.out) k_ hk_)⟩)) (below_size (zb2 GE1760.out GE1761.out)))
   have n1_ := am (bb BK1760.out hb)
   have n2_ := am (bb BK1761.out hb)
   have n3_ := am (below_step (zb2 GE1760.out GE1761.out) hb)
   clear BK1760 BK1761 HB
   have HO1764 := n0_
   have BK1760 := n1_
   have BK1761 := n2_
   have HB := n3_
   clear n0_ n1_ n2_ n3_
   (try clear hb)
   (try clear hb2)
   (try clear hk)
   (try clear hi)
   (try clear ho0)
   refine hK.out _ _ ⟨(blk_cell BK1760.out 0).trans rfl, (blk_cell BK1760.out 1).trans rfl, (blk_cell BK1760.out 2).trans rfl, (blk_cell BK1761.out 0).trans rfl, (blk_cell BK1761.out 1).trans rfl, (blk_cell BK1761.out 2).trans rfl⟩ (fun hHeld => ?_)
   clear hK K
   refine nz_ (N := (some 17)) ?_
   refine one_ (i := 9) (N := some 22) (zmf 12 [10, 11]) rfl rfl (one_of HT_.out (by kernel_rfl)) (by decide) (fun K hK => ?_)
   refine goes_ Tryd.func77 (by kernel_rfl) rfl #[.slice A1_1 l1_1.length c1_1, .slice A0_2 l0_2.length c0_2] (by rfl) rfl rfl zq5 ?_
   with_reducible refine (nat_Mul.calls k _ _ l1_1 _ _ l0_2 t1765 _ ?side1 ?side2 ?side3 ?side4 A16.out).mono ?_
   (case side1 => exact zc (Kd.C_below HR1_1.out HB.out))
   (case side2 => exact HC1_1.out)
   (case side3 => exact zc (Kd.C_below HR0_2.out HB.out))
   (case side4 => exact HC0_2.out)
   rintro e w26 ⟨v1766, rfl, ho0, hb⟩
   refine ⟨_, rfl, ?_⟩
   have n0_ := am (Kd.V_below (zq3 HO1764.out) hb)
   have n1_ := am (Kd.V_lower (Kd.V_mono (ok' := fun k_ => k_ ≠ gb1760 ∧ k_ ≠ gb1761) ho0 (fun k_ hk_ => ⟨(Kd.freshB (g := gb1760) (o := .cells #[.bool true, .slice A0_1 l0_1.length c0_1, .slice A0_2 l0_2.length c0_2] 24 (0, 0)) (zq2 BK1760.out) k_ hk_), (Kd.freshB (g := gb1761) (o := .cells #[.bool a1_0, .slice A1_1 l1_1.length c1_1, .slice A1_2 l1_2.length c1_2] 24 (0, 0)) (zq2 BK1761.out) k_ hk_)⟩)) (below_size (zb2 GE1760.out GE1761.out)))
   have n2_ := am (bb BK1760.out hb)
   have n3_ := am (bb BK1761.out hb)
   have n4_ := am (below_step (zb2 GE1760.out GE1761.out) hb)
   clear HO1764 BK1760 BK1761 HB
   have HO1764 := n0_
   have HO1767 := n1_
   have BK1760 := n2_
   have BK1761 := n3_
   have HB := n4_
   clear n0_ n1_ n2_ n3_ n4_
   (try clear hb)
   (try clear hb2)
   (try clear hk)
   (try clear hi)
   (try clear ho0)
   obtain ⟨Ao27, co27, eo27⟩ := Kd.V_slice HO1764.out
   (first | subst eo27 | (injection eo27 with f1_ f2_ f3_; have f4_ := f1_.symm; have f5_ := f3_.symm; clear f1_ f2_ f3_; subst f4_; subst f5_))
   obtain ⟨Ao28, co28, eo28⟩ := Kd.V_slice HO1767.out
   (first | subst eo28 | (injection eo28 with f1_ f2_ f3_; have f4_ := f1_.symm; have f5_ := f3_.symm; clear f1_ f2_ f3_; subst f4_; subst f5_))
   refine hK.out _ _ ⟨(blk_cell BK1760.out 0).trans rfl, (blk_cell BK1760.out 1).trans rfl, (blk_cell BK1760.out 2).trans rfl, (blk_cell BK1761.out 0).trans rfl, (blk_cell BK1761.out 1).trans rfl, (blk_cell BK1761.out 2).trans rfl⟩ (fun hHeld => ?_)
   clear hK K
   refine nz_ (N := (some 22)) ?_
   refine one_ (i := 10) (N := some 23) (zmf 12 [11]) rfl rfl (one_of HT_.out (by kernel_rfl)) (by decide) (fun K hK => ?_)
   refine goes_ Tryd.func109 (by kernel_rfl) rfl #[.slice Ao27 t1762.length co27, .slice Ao28 t1765.length co28] (by rfl) rfl rfl zq5 ?_
   with_reducible refine (nat_Compare.calls k _ _ t1762 _ _ t1765 t1768 _ ?side1 ?side2 ?side3 ?side4 A17.out).mono ?_
   (case side1 => exact zc ((Kd.V_reads' HO1764.out).2.2))
   (case side2 => exact (Kd.V_reads' HO1764.out).2.1)
   (case side3 => exact zc ((Kd.V_reads' HO1767.out).2.2))
   (case side4 => exact (Kd.V_reads' HO1767.out).2.1)
   rintro e w' ⟨rfl, ⟨nd, rfl⟩⟩
   refine ⟨_, rfl, ?_⟩
   refine hK.out _ _ ⟨(blk_cell BK1760.out 0).trans rfl, (blk_cell BK1760.out 1).trans rfl, (blk_cell BK1760.out 2).trans rfl, (blk_cell BK1761.out 0).trans rfl, (blk_cell BK1761.out 1).trans rfl, (blk_cell BK1761.out 2).trans rfl⟩ (fun hHeld => ?_)
   clear hK K
   refine nz_ (N := (some 23)) ?_
   refine pz_ (i := 11) (N := some 5) (zmf 12 []) ?_
   refine done_ (done_of HT_.out (by kernel_rfl)) ?_
   have hcz29_0 := bc BK1760.out 0 (.bool true)
   have hcz29_1 := bc BK1760.out 1 (.slice A0_1 l0_1.length c0_1)
   have hcz29_2 := bc BK1760.out 2 (.slice A0_2 l0_2.length c0_2)
   have hfz29_0 := blk_frozen BK1760.out 0
   have hfz29_1 := blk_frozen BK1760.out 1
   have hfz29_2 := blk_frozen BK1760.out 2
   try go_wp2
   go_ret
   exact ⟨zq9, zb2 GE1760.out GE1761.out⟩
  ·replace c18 := Bool.eq_false_iff.mpr c18
   subst c18
   have H1 : (some t1768) = some r := by rw [if_neg (show ¬ (false = true) by decide)] at H; exact H
   clear H
   have H := H1
   clear H1
   obtain rfl := Option.some.inj H
   go_enter Tryd.func62, Tryd.ntmps62
   try go_wp2_with (first | ((with_reducible refine gate_dst (N := 2) rfl ?_); refine zbox (N := 2) (cs := #[.bool false, .slice A0_1 l0_1.length c0_1, .slice A0_2 l0_2.length c0_2]) (t := 24) ?_; intro gb1760 hg w30 hbox hb; have n0_ := am (below_step zq1 hb); have n1_ := am (hbox); have n2_ := am ((zs hg (below_size zq1) : w.heap.size ≤ gb1760)); have n3_ := n2_; clear HB; have HB := n0_; have BK1760 := n1_; have GW1760 := n2_; have GE1760 := n3_; clear n0_ n1_ n2_ n3_; clear hb hbox hg) | ((with_reducible refine gate_dst (N := 3) rfl ?_); refine zbox (N := 3) (cs := #[.bool a1_0, .slice A1_1 l1_1.length c1_1, .slice A1_2 l1_2.length c1_2]) (t := 24) ?_; intro gb1761 hg w31 hbox hb; have n0_ := am (bb BK1760.out hb); have n1_ := am (below_step (zb1 GE1760.out) hb); have n2_ := am (hbox); have n3_ := am ((zs hg (below_size (zb1 GE1760.out)) : w.heap.size ≤ gb1761)); have n4_ := n3_; have n5_ := am ((by rw [hg]; exact Nat.ne_of_lt (bl BK1760.out) : gb1760 ≠ gb1761)); have n6_ := am ((by rw [hg]; exact Nat.ne_of_gt (bl BK1760.out) : gb1761 ≠ gb1760)); clear BK1760 HB; have BK1760 := n0_; have HB := n1_; have BK1761 := n2_; have GW1761 := n3_; have GE1761 := n4_; have NB1760_1761 := n5_; have NB1761_1760 := n6_; clear n0_ n1_ n2_ n3_ n4_ n5_ n6_ hb hbox hg; have hnb32 := NB1760_1761.out; have hnc32 := NB1761_1760.out; have hcz33_0 := bc BK1760.out 0 (.bool false); have hcz33_1 := bc BK1760.out 1 (.slice A0_1 l0_1.length c0_1); have hcz33_2 := bc BK1760.out 2 (.slice A0_2 l0_2.length c0_2); have hfz33_0 := blk_frozen BK1760.out 0; have hfz33_1 := blk_frozen BK1760.out 1; have hfz33_2 := blk_frozen BK1760.out 2; have hcz34_0 := bc BK1761.out 0 (.bool a1_0); have hcz34_1 := bc BK1761.out 1 (.slice A1_1 l1_1.length c1_1); have hcz34_2 := bc BK1761.out 2 (.slice A1_2 l1_2.length c1_2); have hfz34_0 := blk_frozen BK1761.out 0; have hfz34_1 := blk_frozen BK1761.out 1; have hfz34_2 := blk_frozen BK1761.out 2))
   have n0_ := am (blk_drew BK1760.out)
   have n1_ := am (blk_drew BK1761.out)
   have n2_ := am (below_drew1 HB.out)
   clear BK1760 BK1761 HB
   have BK1760 := n0_
   have BK1761 := n1_
   have HB := n2_
   clear n0_ n1_ n2_
   refine start_ (n := 12) (S := fun w' => w'.cell? ⟨gb1760, 0, none⟩ = some (.bool false) ∧ w'.cell? ⟨gb1760, 1, none⟩ = some (.slice A0_1 l0_1.length c0_1) ∧ w'.cell? ⟨gb1760, 2, none⟩ = some (.slice A0_2 l0_2.length c0_2) ∧ w'.cell? ⟨gb1761, 0, none⟩ = some (.bool a1_0) ∧ w'.cell? ⟨gb1761, 1, none⟩ = some (.slice A1_1 l1_1.length c1_1) ∧ w'.cell? ⟨gb1761, 2, none⟩ = some (.slice A1_2 l1_2.length c1_2)) (ds := []) #[false, false, false, false, false, false, false, false, false, false, false, false] (by kernel_rfl) rfl rfl ⟨(blk_cell BK1760.out 0).trans rfl, (blk_cell BK1760.out 1).trans rfl, (blk_cell BK1760.out 2).trans rfl, (blk_cell BK1761.out 0).trans rfl, (blk_cell BK1761.out 1).trans rfl, (blk_cell BK1761.out 2).trans rfl⟩ (fun hHeld => ?_); refine with_tabW number_compare.tab5 number_compare.bits5 (fun HT_ HW_ => ?_)
   generalize w31.drew = w35 at BK1760 BK1761 HB hHeld ⊢
   refine pz_ (i := 0) (N := some 13) (zmt 12 [0]) ?_
   refine pz_ (i := 2) (N := some 15) (zmt 12 [0, 2]) ?_
   refine pz_ (i := 5) (N := some 18) (zmt 12 [0, 2, 5]) ?_
   refine pz_ (i := 7) (N := some 20) (zmt 12 [0, 2, 5, 7]) ?_
   refine take_ (i := 1) (N := some 14) (v := ?_) (a' := ?_) #[true, true, true, false, false, true, false, true, false, false, false, false] rfl rfl (take_ofW HT_.out HW_.out (by kernel_rfl)) (fun _ _ _ h => h) (Or.inl ⟨by rfl, ?_⟩) hHeld ?_ ?_
   rotate_left
   ·rintro w' ⟨s0, s1, s2, s3, s4, s5⟩
    go_simp
    with_reducible rfl
   rotate_left
   ·simp only [Act.put, List.setIfInBounds_toArray, List.set_cons_zero, List.set_cons_succ, i64_w, i32_w]
    rfl
   refine take_ (i := 3) (N := some 16) (v := ?_) (a' := ?_) #[true, true, true, true, false, true, false, true, false, false, false, false] rfl rfl (take_ofW HT_.out HW_.out (by kernel_rfl)) (fun _ _ _ h => h) (Or.inl ⟨by rfl, ?_⟩) hHeld ?_ ?_
   rotate_left
   ·rintro w' ⟨s0, s1, s2, s3, s4, s5⟩
    go_simp
    with_reducible rfl
   rotate_left
   ·simp only [Act.put, List.setIfInBounds_toArray, List.set_cons_zero, List.set_cons_succ, i64_w, i32_w]
    rfl
   refine take_ (i := 6) (N := some 19) (v := ?_) (a' := ?_) #[true, true, true, true, false, true, true, true, false, false, false, false] rfl rfl (take_ofW HT_.out HW_.out (by kernel_rfl)) (fun _ _ _ h => h) (Or.inl ⟨by rfl, ?_⟩) hHeld ?_ ?_
   rotate_left
   ·rintro w' ⟨s0, s1, s2, s3, s4, s5⟩
    go_simp
    with_reducible rfl
   rotate_left
   ·simp only [Act.put, List.setIfInBounds_toArray, List.set_cons_zero, List.set_cons_succ, i64_w, i32_w]
    rfl
   refine take_ (i := 8) (N := some 21) (v := ?_) (a' := ?_) #[true, true, true, true, false, true, true, true, true, false, false, false] rfl rfl (take_ofW HT_.out HW_.out (by kernel_rfl)) (fun _ _ _ h => h) (Or.inl ⟨by rfl, ?_⟩) hHeld ?_ ?_
   rotate_left
   ·rintro w' ⟨s0, s1, s2, s3, s4, s5⟩
    go_simp
    with_reducible rfl
   rotate_left
   ·simp only [Act.put, List.setIfInBounds_toArray, List.set_cons_zero, List.set_cons_succ, i64_w, i32_w]
    rfl
   refine one_ (i := 4) (N := some 17) (zmf 12 [9, 10, 11]) rfl rfl (one_of HT_.out (by kernel_rfl)) (by decide) (fun K hK => ?_)
   refine goes_ Tryd.func77 (by kernel_rfl) rfl #[.slice A0_1 l0_1.length c0_1, .slice A1_2 l1_2.length c1_2] (by rfl) rfl rfl zq5 ?_
   with_reducible refine (nat_Mul.calls k _ _ l0_1 _ _ l1_2 t1762 _ ?side1 ?side2 ?side3 ?side4 A15.out).mono ?_
   (case side1 => exact zc (Kd.C_below HR0_1.out HB.out))
   (case side2 => exact HC0_1.out)
   (case side3 => exact zc (Kd.C_below HR1_2.out HB.out))
   (case side4 => exact HC1_2.out)
   rintro e w36 ⟨v1763, rfl, ho0, hb⟩
   refine ⟨_, rfl, ?_⟩
   have n0_ := am (Kd.V_lower (Kd.V_mono (ok' := fun k_ => k_ ≠ gb1760 ∧ k_ ≠ gb1761) ho0 (fun k_ hk_ => ⟨(Kd.freshB (g := gb1760) (o := .cells #[.bool false, .slice A0_1 l0_1.length c0_1, .slice A0_2 l0_2.length c0_2] 24 (0, 0)) (zq2 BK1760.out) k_ hk_), (Kd.freshB (g := gb1761) (o := .cells #[.bool a1_0, .slice A1_1 l1_1.length c1_1, .slice A1_2 l1_2.length c1_2] 24 (0, 0)) (zq2 BK1761.out) k_ hk_)⟩)) (below_size (zb2 GE1760.out GE1761.out)))
   have n1_ := am (bb BK1760.out hb)
   have n2_ := am (bb BK1761.out hb)
   have n3_ := am (below_step (zb2 GE1760.out GE1761.out) hb)
   clear BK1760 BK1761 HB
   have HO1764 := n0_
   have BK1760 := n1_
   have BK1761 := n2_
   have HB := n3_
   clear n0_ n1_ n2_ n3_
   (try clear hb)
   (try clear hb2)
   (try clear hk)
   (try clear hi)
   (try clear ho0)
   refine hK.out _ _ ⟨(blk_cell BK1760.out 0).trans rfl, (blk_cell BK1760.out 1).trans rfl, (blk_cell BK1760.out 2).trans rfl, (blk_cell BK1761.out 0).trans rfl, (blk_cell BK1761.out 1).trans rfl, (blk_cell BK1761.out 2).trans rfl⟩ (fun hHeld => ?_)
   clear hK K
   refine nz_ (N := (some 17)) ?_
   refine one_ (i := 9) (N := some 22) (zmf 12 [10, 11]) rfl rfl (one_of HT_.out (by kernel_rfl)) (by decide) (fun K hK => ?_)
   refine goes_ Tryd.func77 (by kernel_rfl) rfl #[.slice A1_1 l1_1.length c1_1, .slice A0_2 l0_2.length c0_2] (by rfl) rfl rfl zq5 ?_
   with_reducible refine (nat_Mul.calls k _ _ l1_1 _ _ l0_2 t1765 _ ?side1 ?side2 ?side3 ?side4 A16.out).mono ?_
   (case side1 => exact zc (Kd.C_below HR1_1.out HB.out))
   (case side2 => exact HC1_1.out)
   (case side3 => exact zc (Kd.C_below HR0_2.out HB.out))
   (case side4 => exact HC0_2.out)
   rintro e w37 ⟨v1766, rfl, ho0, hb⟩
   refine ⟨_, rfl, ?_⟩
   have n0_ := am (Kd.V_below (zq3 HO1764.out) hb)
   have n1_ := am (Kd.V_lower (Kd.V_mono (ok' := fun k_ => k_ ≠ gb1760 ∧ k_ ≠ gb1761) ho0 (fun k_ hk_ => ⟨(Kd.freshB (g := gb1760) (o := .cells #[.bool false, .slice A0_1 l0_1.length c0_1, .slice A0_2 l0_2.length c0_2] 24 (0, 0)) (zq2 BK1760.out) k_ hk_), (Kd.freshB (g := gb1761) (o := .cells #[.bool a1_0, .slice A1_1 l1_1.length c1_1, .slice A1_2 l1_2.length c1_2] 24 (0, 0)) (zq2 BK1761.out) k_ hk_)⟩)) (below_size (zb2 GE1760.out GE1761.out)))
   have n2_ := am (bb BK1760.out hb)
   have n3_ := am (bb BK1761.out hb)
   have n4_ := am (below_step (zb2 GE1760.out GE1761.out) hb)
   clear HO1764 BK1760 BK1761 HB
   have HO1764 := n0_
   have HO1767 := n1_
   have BK1760 := n2_
   have BK1761 := n3_
   have HB := n4_
   clear n0_ n1_ n2_ n3_ n4_
   (try clear hb)
   (try clear hb2)
   (try clear hk)
   (try clear hi)
   (try clear ho0)
   obtain ⟨Ao38, co38, eo38⟩ := Kd.V_slice HO1764.out
   (first | subst eo38 | (injection eo38 with f1_ f2_ f3_; have f4_ := f1_.symm; have f5_ := f3_.symm; clear f1_ f2_ f3_; subst f4_; subst f5_))
   obtain ⟨Ao39, co39, eo39⟩ := Kd.V_slice HO1767.out
   (first | subst eo39 | (injection eo39 with f1_ f2_ f3_; have f4_ := f1_.symm; have f5_ := f3_.symm; clear f1_ f2_ f3_; subst f4_; subst f5_))
   refine hK.out _ _ ⟨(blk_cell BK1760.out 0).trans rfl, (blk_cell BK1760.out 1).trans rfl, (blk_cell BK1760.out 2).trans rfl, (blk_cell BK1761.out 0).trans rfl, (blk_cell BK1761.out 1).trans rfl, (blk_cell BK1761.out 2).trans rfl⟩ (fun hHeld => ?_)
   clear hK K
   refine nz_ (N := (some 22)) ?_
   refine one_ (i := 10) (N := some 23) (zmf 12 [11]) rfl rfl (one_of HT_.out (by kernel_rfl)) (by decide) (fun K hK => ?_)
   refine goes_ Tryd.func109 (by kernel_rfl) rfl #[.slice Ao38 t1762.length co38, .slice Ao39 t1765.length co39] (by rfl) rfl rfl zq5 ?_
   with_reducible refine (nat_Compare.calls k _ _ t1762 _ _ t1765 t1768 _ ?side1 ?side2 ?side3 ?side4 A17.out).mono ?_
   (case side1 => exact zc ((Kd.V_reads' HO1764.out).2.2))
   (case side2 => exact (Kd.V_reads' HO1764.out).2.1)
   (case side3 => exact zc ((Kd.V_reads' HO1767.out).2.2))
   (case side4 => exact (Kd.V_reads' HO1767.out).2.1)
   rintro e w' ⟨rfl, ⟨nd, rfl⟩⟩
   refine ⟨_, rfl, ?_⟩
   refine hK.out _ _ ⟨(blk_cell BK1760.out 0).trans rfl, (blk_cell BK1760.out 1).trans rfl, (blk_cell BK1760.out 2).trans rfl, (blk_cell BK1761.out 0).trans rfl, (blk_cell BK1761.out 1).trans rfl, (blk_cell BK1761.out 2).trans rfl⟩ (fun hHeld => ?_)
   clear hK K
   refine nz_ (N := (some 23)) ?_
   refine pz_ (i := 11) (N := some 5) (zmf 12 []) ?_
   refine done_ (done_of HT_.out (by kernel_rfl)) ?_
   have hcz40_0 := bc BK1760.out 0 (.bool false)
   have hcz40_1 := bc BK1760.out 1 (.slice A0_1 l0_1.length c0_1)
   have hcz40_2 := bc BK1760.out 2 (.slice A0_2 l0_2.length c0_2)
   have hfz40_0 := blk_frozen BK1760.out 0
   have hfz40_1 := blk_frozen BK1760.out 1
   have hfz40_2 := blk_frozen BK1760.out 2
   try go_wp2
   go_ret
   exact ⟨zq9, zb2 GE1760.out GE1761.out⟩
def number_Compare.f (k : Nat) (a0_0 : Bool) (l0_1 : List Int) (l0_2 : List Int) (a1_0 : Bool) (l1_1 : List Int) (l1_2 : List Int) : Option (Int × Int) := (number_check.f k (([(⟨a0_0, l0_1, l0_2⟩ : S24), (⟨a1_0, l1_1, l1_2⟩ : S24)] : List (S24)))).bind fun t1774 => (if t1774 = 0 then ((number_compare.f k a0_0 l0_1 l0_2 a1_0 l1_1 l1_2).bind fun t1775 => (some (t1775, 0))) else (some (0, t1774)))
theorem number_Compare.mono : ∀ a0 a1 a2 a3 a4 a5 k, LeO (number_Compare.f k a0 a1 a2 a3 a4 a5) (number_Compare.f (k + 1) a0 a1 a2 a3 a4 a5) := by
 intro a0 a1 a2 a3 a4 a5 k
 unfold number_Compare.f
 have m0 := @number_check.mono
 have m1 := @number_compare.mono
 exact zm
set_option maxHeartbeats 8000000 in
set_option maxRecDepth 100000 in
theorem number_Compare.calls (k : Nat) (a0_0 : Bool) (P0_1_ : Nat → Prop) (A0_1 : Option Addr) (c0_1 : Nat) (l0_1 : List Int) (P0_2_ : Nat → Prop) (A0_2 : Option Addr) (c0_2 : Nat) (l0_2 : List Int) (a1_0 : Bool) (P1_1_ : Nat → Prop) (A1_1 : Option Addr) (c1_1 : Nat) (l1_1 : List Int) (P1_2_ : Nat → Prop) (A1_2 : Option Addr) (c1_2 : Nat) (l1_2 : List Int) (r1 : Int) (r2 : Int) (w : World) (hs0_1 : Kd.V (Kd.int .u32) 55 w w.heap.size (fun k_ => P0_1_ k_) (.slice A0_1 l0_1.length c0_1) l0_1) (hs0_2 : Kd.V (Kd.int .u32) 55 w w.heap.size (fun k_ => P0_2_ k_) (.slice A0_2 l0_2.length c0_2) l0_2) (hs1_1 : Kd.V (Kd.int .u32) 55 w w.heap.size (fun k_ => P1_1_ k_) (.slice A1_1 l1_1.length c1_1) l1_1) (hs1_2 : Kd.V (Kd.int .u32) 55 w w.heap.size (fun k_ => P1_2_ k_) (.slice A1_2 l1_2.length c1_2) l1_2) (h : number_Compare.f k a0_0 l0_1 l0_2 a1_0 l1_1 l1_2 = some (r1, r2)) :
  Calls Tryd.prog 22 #[.agg #[.bool a0_0, .slice A0_1 l0_1.length c0_1, .slice A0_2 l0_2.length c0_2], .agg #[.bool a1_0, .slice A1_1 l1_1.length c1_1, .slice A1_2 l1_2.length c1_2]] w fun e w' => e = .returned (.tuple #[.int .i64 r1, .int .i64 r2]) ∧ Below w.heap.size w w' := by
 have hu24 := Tryd.underlying24
 have HO0_1 := am (show Kd.V (Kd.int .u32) 55 w w.heap.size (fun k_ => ((P0_1_ k_ ∨ P0_2_ k_ ∨ P1_1_ k_ ∨ P1_2_ k_) ∨ w.heap.size ≤ k_)) (.slice A0_1 l0_1.length c0_1) l0_1 from Kd.V_mono hs0_1 (fun k_ hk => .inl (.inl hk)))
 have HO0_2 := am (show Kd.V (Kd.int .u32) 55 w w.heap.size (fun k_ => ((P0_1_ k_ ∨ P0_2_ k_ ∨ P1_1_ k_ ∨ P1_2_ k_) ∨ w.heap.size ≤ k_)) (.slice A0_2 l0_2.length c0_2) l0_2 from Kd.V_mono hs0_2 (fun k_ hk => .inl (.inr (.inl hk))))
 have HO1_1 := am (show Kd.V (Kd.int .u32) 55 w w.heap.size (fun k_ => ((P0_1_ k_ ∨ P0_2_ k_ ∨ P1_1_ k_ ∨ P1_2_ k_) ∨ w.heap.size ≤ k_)) (.slice A1_1 l1_1.length c1_1) l1_1 from Kd.V_mono hs1_1 (fun k_ hk => .inl (.inr (.inr (.inl hk)))))
 have HO1_2 := am (show Kd.V (Kd.int .u32) 55 w w.heap.size (fun k_ => ((P0_1_ k_ ∨ P0_2_ k_ ∨ P1_1_ k_ ∨ P1_2_ k_) ∨ w.heap.size ≤ k_)) (.slice A1_2 l1_2.length c1_2) l1_2 from Kd.V_mono hs1_2 (fun k_ hk => .inl (.inr (.inr (.inr hk)))))
 have HB := am (Below.refl w.heap.size w)
 have H := h
 unfold number_Compare.f at H
 clear h
 obtain ⟨y1771, hy1771⟩ : ∃ y_ : List (S24), y_ = (([(⟨a0_0, l0_1, l0_2⟩ : S24), (⟨a1_0, l1_1, l1_2⟩ : S24)] : List (S24))) := ⟨_, rfl⟩
 try rw [← hy1771] at H
 have Ny1771 := am hy1771
 clear hy1771
 replace H := zj H
 obtain ⟨t1774, A3, H⟩ := H
 by_cases c4 : t1774 = 0
 ·rw [if_pos c4] at H
  have c4b0 : (t1774 == 0) = true := beq_iff_eq.mpr c4
  have c4b1 : (t1774 != 0) = false := bne_eq_false_iff_eq.mpr c4
  clear c4
  replace H := zj H
  obtain ⟨t1775, A5, H⟩ := H
  simp only [Option.some.injEq, Prod.mk.injEq] at H
  obtain ⟨rfl, rfl⟩ := H
  go_enter Tryd.func22, Tryd.ntmps22
  go_wp2_with (first | ((with_reducible refine gate_dst (N := 2) rfl ?_); refine zbox (N := 2) (cs := #[.bool a0_0, .slice A0_1 l0_1.length c0_1, .slice A0_2 l0_2.length c0_2]) (t := 24) ?_; intro gb1769 hg w6 hbox hb; have n0_ := am (Kd.V_below (Kd.V_elderB (zq3 HO0_1.out) gb1769 (Nat.le_of_eq hg.symm)) hb); have n1_ := am (Kd.V_below (Kd.V_elderB (zq3 HO0_2.out) gb1769 (Nat.le_of_eq hg.symm)) hb); have n2_ := am (Kd.V_below (Kd.V_elderB (zq3 HO1_1.out) gb1769 (Nat.le_of_eq hg.symm)) hb); have n3_ := am (Kd.V_below (Kd.V_elderB (zq3 HO1_2.out) gb1769 (Nat.le_of_eq hg.symm)) hb); have n4_ := am (below_step zq1 hb); have n5_ := am (hbox); have n6_ := am ((zs hg (below_size zq1) : w.heap.size ≤ gb1769)); have n7_ := n6_; clear HO0_1 HO0_2 HO1_1 HO1_2 HB; have HO0_1 := n0_; have HO0_2 := n1_; have HO1_1 := n2_; have HO1_2 := n3_; have HB := n4_; have BK1769 := n5_; have GW1769 := n6_; have GE1769 := n7_; clear n0_ n1_ n2_ n3_ n4_ n5_ n6_ n7_; clear hb hbox hg) | ((with_reducible refine gate_dst (N := 3) rfl ?_); refine zbox (N := 3) (cs := #[.bool a1_0, .slice A1_1 l1_1.length c1_1, .slice A1_2 l1_2.length c1_2]) (t := 24) ?_; intro gb1770 hg w7 hbox hb; have n0_ := am (Kd.V_below (Kd.V_elderB (zq3 HO0_1.out) gb1770 (Nat.le_of_eq hg.symm)) hb); have n1_ := am (Kd.V_below (Kd.V_elderB (zq3 HO0_2.out) gb1770 (Nat.le_of_eq hg.symm)) hb); have n2_ := am (Kd.V_below (Kd.V_elderB (zq3 HO1_1.out) gb1770 (Nat.le_of_eq hg.symm)) hb); have n3_ := am (Kd.V_below (Kd.V_elderB (zq3 HO1_2.out) gb1770 (Nat.le_of_eq hg.symm)) hb); have n4_ := am (bb BK1769.out hb); have n5_ := am (below_step (zb1 GE1769.out) hb); have n6_ := am (hbox); have n7_ := am ((zs hg (below_size (zb1 GE1769.out)) : w.heap.size ≤ gb1770)); have n8_ := n7_; have n9_ := am ((by rw [hg]; exact Nat.ne_of_lt (bl BK1769.out) : gb1769 ≠ gb1770)); have n10_ := am ((by rw [hg]; exact Nat.ne_of_gt (bl BK1769.out) : gb1770 ≠ gb1769)); clear HO0_1 HO0_2 HO1_1 HO1_2 BK1769 HB; have HO0_1 := n0_; have HO0_2 := n1_; have HO1_1 := n2_; have HO1_2 := n3_; have BK1769 := n4_; have HB := n5_; have BK1770 := n6_; have GW1770 := n7_; have GE1770 := n8_; have NB1769_1770 := n9_; have NB1770_1769 := n10_; clear n0_ n1_ n2_ n3_ n4_ n5_ n6_ n7_ n8_ n9_ n10_ hb hbox hg; have hnb8 := NB1769_1770.out; have hnc8 := NB1770_1769.out; have hcz9_0 := bc BK1769.out 0 (.bool a0_0); have hcz9_1 := bc BK1769.out 1 (.slice A0_1 l0_1.length c0_1); have hcz9_2 := bc BK1769.out 2 (.slice A0_2 l0_2.length c0_2); have hfz9_0 := blk_frozen BK1769.out 0; have hfz9_1 := blk_frozen BK1769.out 1; have hfz9_2 := blk_frozen BK1769.out 2; have hcz10_0 := bc BK1770.out 0 (.bool a1_0); have hcz10_1 := bc BK1770.out 1 (.slice A1_1 l1_1.length c1_1); have hcz10_2 := bc BK1770.out 2 (.slice A1_2 l1_2.length c1_2); have hfz10_0 := blk_frozen BK1770.out 0; have hfz10_1 := blk_frozen BK1770.out 1; have hfz10_2 := blk_frozen BK1770.out 2) | ((with_reducible refine gate_dst (N := 9) rfl ?_); refine Kd.N_lit k24 _ 24 ?hg (N' := 9) ?hd (xs := ([(⟨a0_0, l0_1, l0_2⟩ : S24), (⟨a1_0, l1_1, l1_2⟩ : S24)] : List (S24))) (inner := [.bool a0_0, .slice A0_1 l0_1.length c0_1, .slice A0_2 l0_2.length c0_2, .bool a1_0, .slice A1_1 l1_1.length c1_1, .slice A1_2 l1_2.length c1_2]) (ok := (fun k_ => ((P0_1_ k_ ∨ P0_2_ k_ ∨ P1_1_ k_ ∨ P1_2_ k_) ∨ w.heap.size ≤ k_) ∧ k_ ≠ gb1769 ∧ k_ ≠ gb1770)) (okp := (fun k_ => ((P0_1_ k_ ∨ P0_2_ k_ ∨ P1_1_ k_ ∨ P1_2_ k_) ∨ w.heap.size ≤ k_) ∧ k_ ≠ gb1769 ∧ k_ ≠ gb1770)) ?hr ?hp (fun _ hk => hk) ((show ∀ k_, w7.heap.size ≤ k_ → (fun k_ => ((P0_1_ k_ ∨ P0_2_ k_ ∨ P1_1_ k_ ∨ P1_2_ k_) ∨ w.heap.size ≤ k_) ∧ k_ ≠ gb1769 ∧ k_ ≠ gb1770) k_ from fun k_ hk => ⟨(.inr (Nat.le_trans (below_size (zb2 GE1769.out GE1770.out)) hk)), Kd.freshB (g := gb1769) (o := .cells #[.bool a0_0, .slice A0_1 l0_1.length c0_1, .slice A0_2 l0_2.length c0_2] 24 (0, 0)) (zq2 BK1769.out) k_ hk, Kd.freshB (g := gb1770) (o := .cells #[.bool a1_0, .slice A1_1 l1_1.length c1_1, .slice A1_2 l1_2.length c1_2] 24 (0, 0)) (zq2 BK1770.out) k_ hk⟩) _ (Nat.le_refl _)) (Below.refl _ _) (Nat.le_refl _) (by simp) ?_; (case hd => rfl); (case hg => rfl); (case hr => exact zr); (case hp => exact (Reps.c3 (show Kd.FK k24 _ _ (⟨a0_0, l0_1, l0_2⟩ : S24) [.bool a0_0, .slice A0_1 l0_1.length c0_1, .slice A0_2 l0_2.length c0_2] from (k24_mkF _ _ (⟨a0_0, l0_1, l0_2⟩ : S24) (Kd.V_reads' (Kd.V_mono (ok' := (fun k_ => ((P0_1_ k_ ∨ P0_2_ k_ ∨ P1_1_ k_ ∨ P1_2_ k_) ∨ w.heap.size ≤ k_) ∧ k_ ≠ gb1769 ∧ k_ ≠ gb1770)) (HO0_1.out) (fun k_ hk => ⟨hk.1.1, ⟨hk.1.2, hk.2⟩⟩))).2.1 (Kd.V_F (Kd.V_mono (ok' := (fun k_ => ((P0_1_ k_ ∨ P0_2_ k_ ∨ P1_1_ k_ ∨ P1_2_ k_) ∨ w.heap.size ≤ k_) ∧ k_ ≠ gb1769 ∧ k_ ≠ gb1770)) (HO0_1.out) (fun k_ hk => ⟨hk.1.1, ⟨hk.1.2, hk.2⟩⟩))) (Kd.V_reads' (Kd.V_mono (ok' := (fun k_ => ((P0_1_ k_ ∨ P0_2_ k_ ∨ P1_1_ k_ ∨ P1_2_ k_) ∨ w.heap.size ≤ k_) ∧ k_ ≠ gb1769 ∧ k_ ≠ gb1770)) (HO0_2.out) (fun k_ hk => ⟨hk.1.1, ⟨hk.1.2, hk.2⟩⟩))).2.1 (Kd.V_F (Kd.V_mono (ok' := (fun k_ => ((P0_1_ k_ ∨ P0_2_ k_ ∨ P1_1_ k_ ∨ P1_2_ k_) ∨ w.heap.size ≤ k_) ∧ k_ ≠ gb1769 ∧ k_ ≠ gb1770)) (HO0_2.out) (fun k_ hk => ⟨hk.1.1, ⟨hk.1.2, hk.2⟩⟩))))) (Reps.c3 (show Kd.FK k24 _ _ (⟨a1_0, l1_1, l1_2⟩ : S24) [.bool a1_0, .slice A1_1 l1_1.length c1_1, .slice A1_2 l1_2.length c1_2] from (k24_mkF _ _ (⟨a1_0, l1_1, l1_2⟩ : S24) (Kd.V_reads' (Kd.V_mono (ok' := (fun k_ => ((P0_1_ k_ ∨ P0_2_ k_ ∨ P1_1_ k_ ∨ P1_2_ k_) ∨ w.heap.size ≤ k_) ∧ k_ ≠ gb1769 ∧ k_ ≠ gb1770)) (HO1_1.out) (fun k_ hk => ⟨hk.1.1, ⟨hk.1.2, hk.2⟩⟩))).2.1 (Kd.V_F (Kd.V_mono (ok' := (fun k_ => ((P0_1_ k_ ∨ P0_2_ k_ ∨ P1_1_ k_ ∨ P1_2_ k_) ∨ w.heap.size ≤ k_) ∧ k_ ≠ gb1769 ∧ k_ ≠ gb1770)) (HO1_1.out) (fun k_ hk => ⟨hk.1.1, ⟨hk.1.2, hk.2⟩⟩))) (Kd.V_reads' (Kd.V_mono (ok' := (fun k_ => ((P0_1_ k_ ∨ P0_2_ k_ ∨ P1_1_ k_ ∨ P1_2_ k_) ∨ w.heap.size ≤ k_) ∧ k_ ≠ gb1769 ∧ k_ ≠ gb1770)) (HO1_2.out) (fun k_ hk => ⟨hk.1.1, ⟨hk.1.2, hk.2⟩⟩))).2.1 (Kd.V_F (Kd.V_mono (ok' := (fun k_ => ((P0_1_ k_ ∨ P0_2_ k_ ∨ P1_1_ k_ ∨ P1_2_ k_) ∨ w.heap.size ≤ k_) ∧ k_ ≠ gb1769 ∧ k_ ≠ gb1770)) (HO1_2.out) (fun k_ hk => ⟨hk.1.1, ⟨hk.1.2, hk.2⟩⟩))))) (Reps.none _ _)))); intro v1772 w11 ho12 hb hg_ hnew_; clear hg_ hnew_; (first | rw [← Ny1771.out] at ho12 | (simp only [Int.reduceToNat] at ho12; rw [← Ny1771.out] at ho12)); have n0_ := am (Kd.V_elder' (zq3 HO0_1.out) (Kd.N_base ho12) hb); have n1_ := am (Kd.V_elder' (zq3 HO0_2.out) (Kd.N_base ho12) hb); have n2_ := am (Kd.V_elder' (zq3 HO1_1.out) (Kd.N_base ho12) hb); have n3_ := am (Kd.V_elder' (zq3 HO1_2.out) (Kd.N_base ho12) hb); have n4_ := am (Kd.N_lower ho12 (below_size (zb2 GE1769.out GE1770.out))); have n5_ := am (bb BK1769.out hb); have n6_ := am (bb BK1770.out hb); have n7_ := am (below_step (zb2 GE1769.out GE1770.out) hb); clear HO0_1 HO0_2 HO1_1 HO1_2 BK1769 BK1770 HB; have HO0_1 := n0_; have HO0_2 := n1_; have HO1_1 := n2_; have HO1_2 := n3_; have HO1773 := n4_; have BK1769 := n5_; have BK1770 := n6_; have HB := n7_; clear n0_ n1_ n2_ n3_ n4_ n5_ n6_ n7_ hb ho12; obtain ⟨Ao13, co13, eo13⟩ := Kd.N_slice HO1773.out; subst eo13) | ((with_reducible refine gate_callee (f := 61) rfl ?_); refine goesL_ (some 10) rfl rfl Tryd.func61 (by kernel_rfl) rfl #[.slice Ao13 y1771.length co13] rfl zq5 ?_; (with_reducible refine (number_check.calls k _ _ y1771 t1774 _ ?side1 ?side2 A3.out).mono ?_); (case side1 => exact zc ((Kd.N_reads' HO1773.out).2.2)); (case side2 => exact (Kd.N_reads' HO1773.out).2.1); rintro e w14 ⟨rfl, hb⟩; refine ⟨_, rfl, ?_⟩; have n0_ := am (Kd.V_below (zq3 HO0_1.out) hb); have n1_ := am (Kd.V_below (zq3 HO0_2.out) hb); have n2_ := am (Kd.V_below (zq3 HO1_1.out) hb); have n3_ := am (Kd.V_below (zq3 HO1_2.out) hb); have n4_ := am (Kd.N_below (by (with_reducible repeat (first | apply Kd.N_alloc | apply Kd.N_drewN | apply Kd.N_drew)); exact HO1773.out) hb); have n5_ := am (bb BK1769.out hb); have n6_ := am (bb BK1770.out hb); have n7_ := am (below_step (zb2 GE1769.out GE1770.out) hb); clear HO0_1 HO0_2 HO1_1 HO1_2 HO1773 BK1769 BK1770 HB; have HO0_1 := n0_; have HO0_2 := n1_; have HO1_1 := n2_; have HO1_2 := n3_; have HO1773 := n4_; have BK1769 := n5_; have BK1770 := n6_; have HB := n7_; clear n0_ n1_ n2_ n3_ n4_ n5_ n6_ n7_; (try clear hb); (try clear hb2); (try clear hk); (try clear hi); have hcz15_0 := bc BK1769.out 0 (.bool a0_0); have hcz15_1 := bc BK1769.out 1 (.slice A0_1 l0_1.length c0_1); have hcz15_2 := bc BK1769.out 2 (.slice A0_2 l0_2.length c0_2); have hfz15_0 := blk_frozen BK1769.out 0; have hfz15_1 := blk_frozen BK1769.out 1; have hfz15_2 := blk_frozen BK1769.out 2; have hcz16_0 := bc BK1770.out 0 (.bool a1_0); have hcz16_1 := bc BK1770.out 1 (.slice A1_1 l1_1.length c1_1); have hcz16_2 := bc BK1770.out 2 (.slice A1_2 l1_2.length c1_2); have hfz16_0 := blk_frozen BK1770.out 0; have hfz16_1 := blk_frozen BK1770.out 1; have hfz16_2 := blk_frozen BK1770.out 2) | ((with_reducible refine gate_callee (f := 62) rfl ?_); refine goesL_ (some 16) rfl rfl Tryd.func62 (by kernel_rfl) rfl #[.agg #[.bool a0_0, .slice A0_1 l0_1.length c0_1, .slice A0_2 l0_2.length c0_2], .agg #[.bool a1_0, .slice A1_1 l1_1.length c1_1, .slice A1_2 l1_2.length c1_2]] rfl zq5 ?_; (with_reducible refine (number_compare.calls k a0_0 _ _ l0_1 _ _ l0_2 a1_0 _ _ l1_1 _ _ l1_2 t1775 _ ?side1 ?side2 ?side3 ?side4 ?side5 ?side6 ?side7 ?side8 A5.out).mono ?_); (case side1 => exact zc ((Kd.V_reads' HO0_1.out).2.2)); (case side2 => exact (Kd.V_reads' HO0_1.out).2.1); (case side3 => exact zc ((Kd.V_reads' HO0_2.out).2.2)); (case side4 => exact (Kd.V_reads' HO0_2.out).2.1); (case side5 => exact zc ((Kd.V_reads' HO1_1.out).2.2)); (case side6 => exact (Kd.V_reads' HO1_1.out).2.1); (case side7 => exact zc ((Kd.V_reads' HO1_2.out).2.2)); (case side8 => exact (Kd.V_reads' HO1_2.out).2.1); rintro e w17 ⟨rfl, hb⟩; refine ⟨_, rfl, ?_⟩; have n0_ := am (Kd.V_below (zq3 HO0_1.out) hb); have n1_ := am (Kd.V_below (zq3 HO0_2.out) hb); have n2_ := am (Kd.V_below (zq3 HO1_1.out) hb); have n3_ := am (Kd.V_below (zq3 HO1_2.out) hb); have n4_ := am (Kd.N_below (by (with_reducible repeat (first | apply Kd.N_alloc | apply Kd.N_drewN | apply Kd.N_drew)); exact HO1773.out) hb); have n5_ := am (bb BK1769.out hb); have n6_ := am (bb BK1770.out hb); have n7_ := am (below_step (zb2 GE1769.out GE1770.out) hb); clear HO0_1 HO0_2 HO1_1 HO1_2 HO1773 BK1769 BK1770 HB; have HO0_1 := n0_; have HO0_2 := n1_; have HO1_1 := n2_; have HO1_2 := n3_; have HO1773 := n4_; have BK1769 := n5_; have BK1770 := n6_; have HB := n7_; clear n0_ n1_ n2_ n3_ n4_ n5_ n6_ n7_; (try clear hb); (try clear hb2); (try clear hk); (try clear hi)))
  go_ret2
  exact ⟨zq9, zb2 GE1769.out GE1770.out⟩
 ·rw [if_neg c4] at H
  have c4b0 : (t1774 == 0) = false := beq_eq_false_iff_ne.mpr c4
  have c4b1 : (t1774 != 0) = true := bne_iff_ne.mpr c4
  simp only [Option.some.injEq, Prod.mk.injEq] at H
  obtain ⟨rfl, rfl⟩ := H
  go_enter Tryd.func22, Tryd.ntmps22
  go_wp2_with (first | ((with_reducible refine gate_dst (N := 2) rfl ?_); refine zbox (N := 2) (cs := #[.bool a0_0, .slice A0_1 l0_1.length c0_1, .slice A0_2 l0_2.length c0_2]) (t := 24) ?_; intro gb1769 hg w18 hbox hb; have n0_ := am (Kd.V_below (Kd.V_elderB (zq3 HO0_1.out) gb1769 (Nat.le_of_eq hg.symm)) hb); have n1_ := am (Kd.V_below (Kd.V_elderB (zq3 HO0_2.out) gb1769 (Nat.le_of_eq hg.symm)) hb); have n2_ := am (Kd.V_below (Kd.V_elderB (zq3 HO1_1.out) gb1769 (Nat.le_of_eq hg.symm)) hb); have n3_ := am (Kd.V_below (Kd.V_elderB (zq3 HO1_2.out) gb1769 (Nat.le_of_eq hg.symm)) hb); have n4_ := am (below_step zq1 hb); have n5_ := am (hbox); have n6_ := am ((zs hg (below_size zq1) : w.heap.size ≤ gb1769)); have n7_ := n6_; clear HO0_1 HO0_2 HO1_1 HO1_2 HB; have HO0_1 := n0_; have HO0_2 := n1_; have HO1_1 := n2_; have HO1_2 := n3_; have HB := n4_; have BK1769 := n5_; have GW1769 := n6_; have GE1769 := n7_; clear n0_ n1_ n2_ n3_ n4_ n5_ n6_ n7_; clear hb hbox hg) | ((with_reducible refine gate_dst (N := 3) rfl ?_); refine zbox (N := 3) (cs := #[.bool a1_0, .slice A1_1 l1_1.length c1_1, .slice A1_2 l1_2.length c1_2]) (t := 24) ?_; intro gb1770 hg w19 hbox hb; have n0_ := am (Kd.V_below (Kd.V_elderB (zq3 HO0_1.out) gb1770 (Nat.le_of_eq hg.symm)) hb); have n1_ := am (Kd.V_below (Kd.V_elderB (zq3 HO0_2.out) gb1770 (Nat.le_of_eq hg.symm)) hb); have n2_ := am (Kd.V_below (Kd.V_elderB (zq3 HO1_1.out) gb1770 (Nat.le_of_eq hg.symm)) hb); have n3_ := am (Kd.V_below (Kd.V_elderB (zq3 HO1_2.out) gb1770 (Nat.le_of_eq hg.symm)) hb); have n4_ := am (bb BK1769.out hb); have n5_ := am (below_step (zb1 GE1769.out) hb); have n6_ := am (hbox); have n7_ := am ((zs hg (below_size (zb1 GE1769.out)) : w.heap.size ≤ gb1770)); have n8_ := n7_; have n9_ := am ((by rw [hg]; exact Nat.ne_of_lt (bl BK1769.out) : gb1769 ≠ gb1770)); have n10_ := am ((by rw [hg]; exact Nat.ne_of_gt (bl BK1769.out) : gb1770 ≠ gb1769)); clear HO0_1 HO0_2 HO1_1 HO1_2 BK1769 HB; have HO0_1 := n0_; have HO0_2 := n1_; have HO1_1 := n2_; have HO1_2 := n3_; have BK1769 := n4_; have HB := n5_; have BK1770 := n6_; have GW1770 := n7_; have GE1770 := n8_; have NB1769_1770 := n9_; have NB1770_1769 := n10_; clear n0_ n1_ n2_ n3_ n4_ n5_ n6_ n7_ n8_ n9_ n10_ hb hbox hg; have hnb20 := NB1769_1770.out; have hnc20 := NB1770_1769.out; have hcz21_0 := bc BK1769.out 0 (.bool a0_0); have hcz21_1 := bc BK1769.out 1 (.slice A0_1 l0_1.length c0_1); have hcz21_2 := bc BK1769.out 2 (.slice A0_2 l0_2.length c0_2); have hfz21_0 := blk_frozen BK1769.out 0; have hfz21_1 := blk_frozen BK1769.out 1; have hfz21_2 := blk_frozen BK1769.out 2; have hcz22_0 := bc BK1770.out 0 (.bool a1_0); have hcz22_1 := bc BK1770.out 1 (.slice A1_1 l1_1.length c1_1); have hcz22_2 := bc BK1770.out 2 (.slice A1_2 l1_2.length c1_2); have hfz22_0 := blk_frozen BK1770.out 0; have hfz22_1 := blk_frozen BK1770.out 1; have hfz22_2 := blk_frozen BK1770.out 2) | ((with_reducible refine gate_dst (N := 9) rfl ?_); refine Kd.N_lit k24 _ 24 ?hg (N' := 9) ?hd (xs := ([(⟨a0_0, l0_1, l0_2⟩ : S24), (⟨a1_0, l1_1, l1_2⟩ : S24)] : List (S24))) (inner := [.bool a0_0, .slice A0_1 l0_1.length c0_1, .slice A0_2 l0_2.length c0_2, .bool a1_0, .slice A1_1 l1_1.length c1_1, .slice A1_2 l1_2.length c1_2]) (ok := (fun k_ => ((P0_1_ k_ ∨ P0_2_ k_ ∨ P1_1_ k_ ∨ P1_2_ k_) ∨ w.heap.size ≤ k_) ∧ k_ ≠ gb1769 ∧ k_ ≠ gb1770)) (okp := (fun k_ => ((P0_1_ k_ ∨ P0_2_ k_ ∨ P1_1_ k_ ∨ P1_2_ k_) ∨ w.heap.size ≤ k_) ∧ k_ ≠ gb1769 ∧ k_ ≠ gb1770)) ?hr ?hp (fun _ hk => hk) ((show ∀ k_, w19.heap.size ≤ k_ → (fun k_ => ((P0_1_ k_ ∨ P0_2_ k_ ∨ P1_1_ k_ ∨ P1_2_ k_) ∨ w.heap.size ≤ k_) ∧ k_ ≠ gb1769 ∧ k_ ≠ gb1770) k_ from fun k_ hk => ⟨(.inr (Nat.le_trans (below_size (zb2 GE1769.out GE1770.out)) hk)), Kd.freshB (g := gb1769) (o := .cells #[.bool a0_0, .slice A0_1 l0_1.length c0_1, .slice A0_2 l0_2.length c0_2] 24 (0, 0)) (zq2 BK1769.out) k_ hk, Kd.freshB (g := gb1770) (o := .cells #[.bool a1_0, .slice A1_1 l1_1.length c1_1, .slice A1_2 l1_2.length c1_2] 24 (0, 0)) (zq2 BK1770.out) k_ hk⟩) _ (Nat.le_refl _)) (Below.refl _ _) (Nat.le_refl _) (by simp) ?_; (case hd => rfl); (case hg => rfl); (case hr => exact zr); (case hp => exact (Reps.c3 (show Kd.FK k24 _ _ (⟨a0_0, l0_1, l0_2⟩ : S24) [.bool a0_0, .slice A0_1 l0_1.length c0_1, .slice A0_2 l0_2.length c0_2] from (k24_mkF _ _ (⟨a0_0, l0_1, l0_2⟩ : S24) (Kd.V_reads' (Kd.V_mono (ok' := (fun k_ => ((P0_1_ k_ ∨ P0_2_ k_ ∨ P1_1_ k_ ∨ P1_2_ k_) ∨ w.heap.size ≤ k_) ∧ k_ ≠ gb1769 ∧ k_ ≠ gb1770)) (HO0_1.out) (fun k_ hk => ⟨hk.1.1, ⟨hk.1.2, hk.2⟩⟩))).2.1 (Kd.V_F (Kd.V_mono (ok' := (fun k_ => ((P0_1_ k_ ∨ P0_2_ k_ ∨ P1_1_ k_ ∨ P1_2_ k_) ∨ w.heap.size ≤ k_) ∧ k_ ≠ gb1769 ∧ k_ ≠ gb1770)) (HO0_1.out) (fun k_ hk => ⟨hk.1.1, ⟨hk.1.2, hk.2⟩⟩))) (Kd.V_reads' (Kd.V_mono (ok' := (fun k_ => ((P0_1_ k_ ∨ P0_2_ k_ ∨ P1_1_ k_ ∨ P1_2_ k_) ∨ w.heap.size ≤ k_) ∧ k_ ≠ gb1769 ∧ k_ ≠ gb1770)) (HO0_2.out) (fun k_ hk => ⟨hk.1.1, ⟨hk.1.2, hk.2⟩⟩))).2.1 (Kd.V_F (Kd.V_mono (ok' := (fun k_ => ((P0_1_ k_ ∨ P0_2_ k_ ∨ P1_1_ k_ ∨ P1_2_ k_) ∨ w.heap.size ≤ k_) ∧ k_ ≠ gb1769 ∧ k_ ≠ gb1770)) (HO0_2.out) (fun k_ hk => ⟨hk.1.1, ⟨hk.1.2, hk.2⟩⟩))))) (Reps.c3 (show Kd.FK k24 _ _ (⟨a1_0, l1_1, l1_2⟩ : S24) [.bool a1_0, .slice A1_1 l1_1.length c1_1, .slice A1_2 l1_2.length c1_2] from (k24_mkF _ _ (⟨a1_0, l1_1, l1_2⟩ : S24) (Kd.V_reads' (Kd.V_mono (ok' := (fun k_ => ((P0_1_ k_ ∨ P0_2_ k_ ∨ P1_1_ k_ ∨ P1_2_ k_) ∨ w.heap.size ≤ k_) ∧ k_ ≠ gb1769 ∧ k_ ≠ gb1770)) (HO1_1.out) (fun k_ hk => ⟨hk.1.1, ⟨hk.1.2, hk.2⟩⟩))).2.1 (Kd.V_F (Kd.V_mono (ok' := (fun k_ => ((P0_1_ k_ ∨ P0_2_ k_ ∨ P1_1_ k_ ∨ P1_2_ k_) ∨ w.heap.size ≤ k_) ∧ k_ ≠ gb1769 ∧ k_ ≠ gb1770)) (HO1_1.out) (fun k_ hk => ⟨hk.1.1, ⟨hk.1.2, hk.2⟩⟩))) (Kd.V_reads' (Kd.V_mono (ok' := (fun k_ => ((P0_1_ k_ ∨ P0_2_ k_ ∨ P1_1_ k_ ∨ P1_2_ k_) ∨ w.heap.size ≤ k_) ∧ k_ ≠ gb1769 ∧ k_ ≠ gb1770)) (HO1_2.out) (fun k_ hk => ⟨hk.1.1, ⟨hk.1.2, hk.2⟩⟩))).2.1 (Kd.V_F (Kd.V_mono (ok' := (fun k_ => ((P0_1_ k_ ∨ P0_2_ k_ ∨ P1_1_ k_ ∨ P1_2_ k_) ∨ w.heap.size ≤ k_) ∧ k_ ≠ gb1769 ∧ k_ ≠ gb1770)) (HO1_2.out) (fun k_ hk => ⟨hk.1.1, ⟨hk.1.2, hk.2⟩⟩))))) (Reps.none _ _)))); intro v1772 w23 ho24 hb hg_ hnew_; clear hg_ hnew_; (first | rw [← Ny1771.out] at ho24 | (simp only [Int.reduceToNat] at ho24; rw [← Ny1771.out] at ho24)); have n0_ := am (Kd.V_elder' (zq3 HO0_1.out) (Kd.N_base ho24) hb); have n1_ := am (Kd.V_elder' (zq3 HO0_2.out) (Kd.N_base ho24) hb); have n2_ := am (Kd.V_elder' (zq3 HO1_1.out) (Kd.N_base ho24) hb); have n3_ := am (Kd.V_elder' (zq3 HO1_2.out) (Kd.N_base ho24) hb); have n4_ := am (Kd.N_lower ho24 (below_size (zb2 GE1769.out GE1770.out))); have n5_ := am (bb BK1769.out hb); have n6_ := am (bb BK1770.out hb); have n7_ := am (below_step (zb2 GE1769.out GE1770.out) hb); clear HO0_1 HO0_2 HO1_1 HO1_2 BK1769 BK1770 HB; have HO0_1 := n0_; have HO0_2 := n1_; have HO1_1 := n2_; have HO1_2 := n3_; have HO1773 := n4_; have BK1769 := n5_; have BK1770 := n6_; have HB := n7_; clear n0_ n1_ n2_ n3_ n4_ n5_ n6_ n7_ hb ho24; obtain ⟨Ao25, co25, eo25⟩ := Kd.N_slice HO1773.out; subst eo25) | ((with_reducible refine gate_callee (f := 61) rfl ?_); refine goesL_ (some 10) rfl rfl Tryd.func61 (by kernel_rfl) rfl #[.slice Ao25 y1771.length co25] rfl zq5 ?_; (with_reducible refine (number_check.calls k _ _ y1771 t1774 _ ?side1 ?side2 A3.out).mono ?_); (case side1 => exact zc ((Kd.N_reads' HO1773.out).2.2)); (case side2 => exact (Kd.N_reads' HO1773.out).2.1); rintro e w26 ⟨rfl, hb⟩; refine ⟨_, rfl, ?_⟩; have n0_ := am (Kd.V_below (zq3 HO0_1.out) hb); have n1_ := am (Kd.V_below (zq3 HO0_2.out) hb); have n2_ := am (Kd.V_below (zq3 HO1_1.out) hb); have n3_ := am (Kd.V_below (zq3 HO1_2.out) hb); have n4_ := am (Kd.N_below (by (with_reducible repeat (first | apply Kd.N_alloc | apply Kd.N_drewN | apply Kd.N_drew)); exact HO1773.out) hb); have n5_ := am (bb BK1769.out hb); have n6_ := am (bb BK1770.out hb); have n7_ := am (below_step (zb2 GE1769.out GE1770.out) hb); clear HO0_1 HO0_2 HO1_1 HO1_2 HO1773 BK1769 BK1770 HB; have HO0_1 := n0_; have HO0_2 := n1_; have HO1_1 := n2_; have HO1_2 := n3_; have HO1773 := n4_; have BK1769 := n5_; have BK1770 := n6_; have HB := n7_; clear n0_ n1_ n2_ n3_ n4_ n5_ n6_ n7_; (try clear hb); (try clear hb2); (try clear hk); (try clear hi)))
  go_ret2
  exact ⟨zq9, zb2 GE1769.out GE1770.out⟩
mutual
def rf_MulNat.l0 : Nat → List Int → List Int → List Int → Int → Int → Option (List Int)
 | 0, _, _, _, _, _ => none
 | k + 1, x0, x1, x5, x18, x19 => if x19 < x18 then (rf_MulNat.l1 k x0 x1 x5 x19 0 0 x18 x19) else ((rf_trim.f k x5).bind fun t701 => (some t701))
def rf_MulNat.l1 : Nat → List Int → List Int → List Int → Int → Int → Int → Int → Int → Option (List Int)
 | 0, _, _, _, _, _, _, _, _ => none
 | k + 1, x0, x1, x5, x6, x7, x8, x18, x19 => if x8 < (x1.length : Int) then (if 0 ≤ (wrap64 (x6 + x8)) then (if (wrap64 (x6 + x8)) < (x5.length : Int) then (if 0 ≤ x6 then (if x6 < (x0.length : Int) then ((rf_digit.f x1 x8).bind fun t706 => (rf_MulNat.l1 k x0 x1 (x5.set ((wrap64 (x6 + x8)) : Int).toNat (Int.tmod (wrap64 ((wrap64 ((rd x5 (wrap64 (x6 + x8))) + (wrap64 ((rd x0 x6) * t706)))) + x7)) 65536)) x6 (wrap64 (Int.tdiv (wrap64 ((wrap64 ((rd x5 (wrap64 (x6 + x8))) + (wrap64 ((rd x0 x6) * t706)))) + x7)) 65536)) (wrap64 (x8 + 1)) x18 x19)) else (none)) else (none)) else (none)) else (none)) else (if x7 > 0 then (if 0 ≤ (wrap64 (x6 + x8)) then (if (wrap64 (x6 + x8)) < (x5.length : Int) then (if 0 ≤ x6 then (if x6 < (x0.length : Int) then ((rf_digit.f x1 x8).bind fun t710 => (rf_MulNat.l1 k x0 x1 (x5.set ((wrap64 (x6 + x8)) : Int).toNat (Int.tmod (wrap64 ((wrap64 ((rd x5 (wrap64 (x6 + x8))) + (wrap64 ((rd x0 x6) * t710)))) + x7)) 65536)) x6 (wrap64 (Int.tdiv (wrap64 ((wrap64 ((rd x5 (wrap64 (x6 + x8))) + (wrap64 ((rd x0 x6) * t710)))) + x7)) 65536)) (wrap64 (x8 + 1)) x18 x19)) else (none)) else (none)) else (none)) else (none)) else (rf_MulNat.l0 k x0 x1 x5 x18 (wrap64 (x19 + 1))))
end
def rf_MulNat.f (k : Nat) (l0 : List Int) (l1 : List Int) : Option (List Int) := if 0 ≤ (wrap64 ((wrap64 ((l0.length : Int) + (l1.length : Int))) + 1)) then (if (wrap64 ((wrap64 ((l0.length : Int) + (l1.length : Int))) + 1) : Int).toNat ≤ 35184372088832 then (rf_MulNat.l0 k l0 l1 (List.replicate (wrap64 ((wrap64 ((l0.length : Int) + (l1.length : Int))) + 1) : Int).toNat 0) (l0.length : Int) 0) else (none)) else (none)
theorem rf_MulNat.mono_l : ∀ k, (∀ y0 y1 y2 y3 y4, LeO (rf_MulNat.l0 k y0 y1 y2 y3 y4) (rf_MulNat.l0 (k + 1) y0 y1 y2 y3 y4)) ∧ (∀ y0 y1 y2 y3 y4 y5 y6 y7, LeO (rf_MulNat.l1 k y0 y1 y2 y3 y4 y5 y6 y7) (rf_MulNat.l1 (k + 1) y0 y1 y2 y3 y4 y5 y6 y7))
 | 0 => ⟨fun _ _ _ _ _ r h => by simp [rf_MulNat.l0] at h, fun _ _ _ _ _ _ _ _ r h => by simp [rf_MulNat.l1] at h⟩
 | k + 1 => by
  obtain ⟨ih0, ih1⟩ := rf_MulNat.mono_l k
  refine ⟨?_, ?_⟩
  ·intro y0 y1 y2 y3 y4
   unfold rf_MulNat.l0
   have m0 := ih0
   have m1 := ih1
   have m2 := @rf_trim.mono
   exact zm
  ·intro y0 y1 y2 y3 y4 y5 y6 y7
   unfold rf_MulNat.l1
   have m0 := ih0
   have m1 := ih1
   have m2 := @rf_trim.mono
   exact zm
theorem rf_MulNat.mono : ∀ a0 a1 k, LeO (rf_MulNat.f k a0 a1) (rf_MulNat.f (k + 1) a0 a1) := by
 intro a0 a1 k
 obtain ⟨ih0, ih1⟩ := rf_MulNat.mono_l k
 unfold rf_MulNat.f
 have m0 := ih0
 have m1 := ih1
 have m2 := @rf_trim.mono
 exact zm
set_option maxHeartbeats 8000000 in
set_option maxRecDepth 100000 in
theorem rf_MulNat.calls (k : Nat) (A0 : Option Addr) (c0 : Nat) (l0 : List Int) (A1 : Option Addr) (c1 : Nat) (l1 : List Int) (r : List Int) (w : World) (hr0 : Kd.C (Kd.int .i64) w A0 l0.length l0) (hc0 : l0.length ≤ c0) (hr1 : Kd.C (Kd.int .i64) w A1 l1.length l1) (hc1 : l1.length ≤ c1) (h : rf_MulNat.f k l0 l1 = some r) :
  Calls Tryd.prog 63 #[.slice A0 l0.length c0, .slice A1 l1.length c1] w fun e w' => ∃ v0_ : Value, e = .returned (v0_) ∧ Kd.V (Kd.int .i64) 3 w' w.heap.size (fun k_ => (w.heap.size ≤ k_)) v0_ r ∧ Below w.heap.size w w' := by
 have HR0 := am hr0
 have HC0 := am hc0
 clear hr0 hc0
 have HR1 := am hr1
 have HC1 := am hc1
 clear hr1 hc1
 have HB := am (Below.refl w.heap.size w)
 have H := h
 unfold rf_MulNat.f at H
 clear h
 obtain ⟨ji3, hji3⟩ : ∃ j_ : Int, (wrap64 ((wrap64 ((l0.length : Int) + (l1.length : Int))) + 1)) = j_ := ⟨_, rfl⟩
 replace H : (if 0 ≤ (ji3) then (if (ji3 : Int).toNat ≤ 35184372088832 then (rf_MulNat.l0 k l0 l1 (List.replicate (ji3 : Int).toNat 0) (l0.length : Int) 0) else (none)) else (none)) = some r := by first | (rw [hji3] at H; exact H) | (simp only [hji3] at H ⊢; exact H)
 have hji3w : (IntKind.i64.wrap ((wrap64 ((l0.length : Int) + (l1.length : Int))) + 1)) = ji3 := (i64_w _).trans hji3
 replace H := zn H
 obtain ⟨c4, H⟩ := H
 have c4b0 := eq_true c4
 have c4b1 := decide_eq_true c4
 clear c4
 replace H := zn H
 obtain ⟨c5, H⟩ := H
 have c5b0 := eq_true c5
 have c5b1 := decide_eq_true c5
 clear c5
 obtain ⟨y698, hy698⟩ : ∃ y_ : List Int, y_ = (List.replicate (ji3 : Int).toNat 0) := ⟨_, rfl⟩
 try rw [← hy698] at H
 have Ny698 := am hy698
 clear hy698
 have H' := am H
 clear H
 go_enter Tryd.func63, Tryd.ntmps63
 go_wp2_with (first | ((with_reducible refine gate_dst (N := 16) rfl ?_); refine Kd.R_make (Kd.int .i64) _ 3 rfl (N := 16) rfl 39 _ _ rfl ji3 rfl rfl Tryd.underlying39 (.int .i64 0) 8 info3 rfl (by decide) (by omega) 0 (ok := fun _ => True) (okp := fun _ => True) rfl (fun _ hk => hk) trivial zq6 (Nat.le_trans (Nat.mul_le_mul_right _ (zq6 : ji3.toNat ≤ 35184372088832)) (by omega)) (Below.refl _ _) (Nat.le_refl _) ?_; intro v699 w6 ho7 hb hg_ hnew_; clear hg_ hnew_; (first | rw [← Ny698.out] at ho7 | (simp only [Int.reduceToNat] at ho7; rw [← Ny698.out] at ho7)); have n0_ := am (Kd.R_lower (Kd.R_newM (M := fun k_ => (w.heap.size ≤ k_)) ho7 (below_size zq1) (fun k_ h_ => h_)) (below_size zq1)); have n1_ := am (below_step zq1 hb); clear HB; have HO700 := n0_; have HB := n1_; clear n0_ n1_; clear hb ho7))
 repeat (go_quiet (first | ((with_reducible refine gate_dst (N := 16) rfl ?_); refine Kd.R_make (Kd.int .i64) _ 3 rfl (N := 16) rfl 39 _ _ rfl ji3 rfl rfl Tryd.underlying39 (.int .i64 0) 8 info3 rfl (by decide) (by omega) 0 (ok := fun _ => True) (okp := fun _ => True) rfl (fun _ hk => hk) trivial zq6 (Nat.le_trans (Nat.mul_le_mul_right _ (zq6 : ji3.toNat ≤ 35184372088832)) (by omega)) (Below.refl _ _) (Nat.le_refl _) ?_; intro v699 w6 ho7 hb hg_ hnew_; clear hg_ hnew_; (first | rw [← Ny698.out] at ho7 | (simp only [Int.reduceToNat] at ho7; rw [← Ny698.out] at ho7)); have n0_ := am (Kd.R_lower (Kd.R_newM (M := fun k_ => (w.heap.size ≤ k_)) ho7 (below_size zq1) (fun k_ h_ => h_)) (below_size zq1)); have n1_ := am (below_step zq1 hb); clear HB; have HO700 := n0_; have HB := n1_; clear n0_ n1_; clear hb ho7)); try go_wp2_with (first | ((with_reducible refine gate_dst (N := 16) rfl ?_); refine Kd.R_make (Kd.int .i64) _ 3 rfl (N := 16) rfl 39 _ _ rfl ji3 rfl rfl Tryd.underlying39 (.int .i64 0) 8 info3 rfl (by decide) (by omega) 0 (ok := fun _ => True) (okp := fun _ => True) rfl (fun _ hk => hk) trivial zq6 (Nat.le_trans (Nat.mul_le_mul_right _ (zq6 : ji3.toNat ≤ 35184372088832)) (by omega)) (Below.refl _ _) (Nat.le_refl _) ?_; intro v699 w6 ho7 hb hg_ hnew_; clear hg_ hnew_; (first | rw [← Ny698.out] at ho7 | (simp only [Int.reduceToNat] at ho7; rw [← Ny698.out] at ho7)); have n0_ := am (Kd.R_lower (Kd.R_newM (M := fun k_ => (w.heap.size ≤ k_)) ho7 (below_size zq1) (fun k_ h_ => h_)) (below_size zq1)); have n1_ := am (below_step zq1 hb); clear HB; have HO700 := n0_; have HB := n1_; clear n0_ n1_; clear hb ho7)))
 go_loopg [19] k (fun kq v19 w' => ∃ (x5_1 : List Int) (x19_1 : Int), v19 = .int .i64 x19_1 ∧ Aside0 (rf_MulNat.l0 kq l0 l1 x5_1 (l0.length : Int) x19_1 = some r) ∧ Aside0 (kq ≤ k) ∧ Aside0 (Kd.R (Kd.int .i64) 3 w' w.heap.size (fun k_ => (w.heap.size ≤ k_)) v699 x5_1) ∧ Aside0 (Below w.heap.size w w'))
 case atStart => exact ⟨(y698), (0), zq8, H', ⟨Nat.le_refl _⟩, ⟨by (with_reducible repeat (first | apply Kd.R_alloc | apply Kd.R_drewN | apply Kd.R_drew)); exact Kd.R_mono HO700.out (fun _ hk => hk.1)⟩, ⟨zq1⟩⟩
 case round =>
  clear H'
  obtain ⟨x5_1, x19_1, rfl, HA, HK1, HO_5, HB⟩ := hrel
  cases gk with
  | zero => exact absurd HA.out (by simp [rf_MulNat.l0])
  | succ k1 =>
   have H := HA.out
   clear HA
   simp only [rf_MulNat.l0] at H
   by_cases c8 : x19_1 < (l0.length : Int)
   ·rw [if_pos c8] at H
    have c8b0 := decide_eq_true c8
    clear c8
    have H' := am H
    clear H
    go_wp2
    repeat (go_quiet (fail); try go_wp2)
    go_loopg [7, 8] k1 (fun kq v7 v8 w' => ∃ (x5_2 : List Int) (x7_2 : Int) (x8_2 : Int), v7 = .int .i64 x7_2 ∧ v8 = .int .i64 x8_2 ∧ Aside0 (rf_MulNat.l1 kq l0 l1 x5_2 x19_1 x7_2 x8_2 (l0.length : Int) x19_1 = some r) ∧ Aside0 (kq ≤ k1) ∧ Aside0 (Kd.R (Kd.int .i64) 3 w' w.heap.size (fun k_ => (w.heap.size ≤ k_)) v699 x5_2) ∧ Aside0 (Below w.heap.size w w'))
    case atStart => exact ⟨(x5_1), (0), (0), zq8, zq8, H', ⟨Nat.le_refl _⟩, ⟨zq4 HO_5.out⟩, ⟨zq1⟩⟩
    case round =>
     clear H'
     obtain ⟨x5_2, x7_2, x8_2, rfl, rfl, HA, HK2, HO_5, HB⟩ := hrel
     cases gk with
     | zero => exact absurd HA.out (by simp [rf_MulNat.l1])
     | succ k2 =>
      have H := HA.out
      clear HA
      simp only [rf_MulNat.l1] at H
      by_cases c9 : x8_2 < (l1.length : Int)
      ·rw [if_pos c9] at H
       have c9b0 := decide_eq_true c9
       clear c9
       obtain ⟨ji10, hji10⟩ : ∃ j_ : Int, (wrap64 (x19_1 + x8_2)) = j_ := ⟨_, rfl⟩
       replace H : (if 0 ≤ (ji10) then (if (ji10) < (x5_2.length : Int) then (if 0 ≤ x19_1 then (if x19_1 < (l0.length : Int) then ((rf_digit.f l1 x8_2).bind fun t706 => (rf_MulNat.l1 k2 l0 l1 (x5_2.set ((ji10) : Int).toNat (Int.tmod (wrap64 ((wrap64 ((rd x5_2 (ji10)) + (wrap64 ((rd l0 x19_1) * t706)))) + x7_2)) 65536)) x19_1 (wrap64 (Int.tdiv (wrap64 ((wrap64 ((rd x5_2 (ji10)) + (wrap64 ((rd l0 x19_1) * t706)))) + x7_2)) 65536)) (wrap64 (x8_2 + 1)) (l0.length : Int) x19_1)) else (none)) else (none)) else (none)) else (none)) = some r := by first | (rw [hji10] at H; exact H) | (simp only [hji10] at H ⊢; exact H)
       have hji10w : (IntKind.i64.wrap (x19_1 + x8_2)) = ji10 := (i64_w _).trans hji10
       replace H := zn H
       obtain ⟨c11, H⟩ := H
       have c11b0 := decide_eq_true c11
       clear c11
       replace H := zn H
       obtain ⟨c12, H⟩ := H
       have c12b0 := decide_eq_true c12
       clear c12
       replace H := zn H
       obtain ⟨c13, H⟩ := H
       have c13b0 := decide_eq_true c13
       clear c13
       replace H := zn H
       obtain ⟨c14, H⟩ := H
       have c14b0 := decide_eq_true c14
       clear c14
       replace H := zj H
       obtain ⟨t706, A15, H⟩ := H
       obtain ⟨y707, hy707⟩ : ∃ y_ : List Int, y_ = (x5_2.set ((ji10) : Int).toNat (Int.tmod (wrap64 ((wrap64 ((rd x5_2 (ji10)) + (wrap64 ((rd l0 x19_1) * t706)))) + x7_2)) 65536)) := ⟨_, rfl⟩
       try rw [← hy707] at H
       have Ny707 := am hy707
       clear hy707
       have H' := am H
       clear H
       obtain ⟨Ao17, co17, eo17⟩ := Kd.R_slice HO_5.out
       subst eo17
       have p704 : 0 ≤ ((ji10) : Int) := zq6
       have q704 : (ji10) < (x5_2.length : Int) := zq6
       obtain ⟨ad704, e704, hx704_0⟩ := Kd.at_int (Kd.R_reads' HO_5.out).2.2 (ji10) p704 q704
       cases e704
       replace p704 := eq_true p704
       replace q704 := eq_true q704
       have p705 : 0 ≤ (x19_1 : Int) := zq6
       have q705 : x19_1 < (l0.length : Int) := zq6
       obtain ⟨ad705, e705, hx705_0⟩ := Kd.at_int HR0.out x19_1 p705 q705
       cases e705
       replace hx705_0 := (HB.out.cell (World.block_lt_of_cell? w _ hx705_0)).trans hx705_0
       replace p705 := eq_true p705
       replace q705 := eq_true q705
       go_wp2_with (first | (go_at_call 97; (with_reducible refine (rf_digit.calls _ _ l1 x8_2 t706 _ ?side1 ?side2 A15.out).mono ?_); (case side1 => exact zc (Kd.C_below HR1.out HB.out)); (case side2 => exact HC1.out); rintro e w' ⟨rfl, ⟨nd, rfl⟩⟩; (try first | exact ⟨rfl, _, World.drewN_drewN _ _ _⟩ | exact ⟨rfl, _, Eq.trans (World.drewN_drewN _ _ _) (congrArg (World.drewN _) (Nat.add_assoc _ _ _))⟩); have p16 : 0 ≤ ((ji10) : Int) := zq6; have q16 : ((ji10) : Int) < ((x5_2.length : Int) : Int) := zq6; obtain ⟨go16, co16, eo16, gb16, gl16, cl16, HG16⟩ := Kd.R_form HO_5.out (by omega); (first | cases eo16 | (injection eo16 with ea_ en_ ec_; (first | subst ea_ | (injection ea_ with ea_; subst ea_)); subst ec_; clear en_)); have GB16 := am gb16; have GG16 := am HG16; clear gb16 gl16 HG16; (first | simp only [add_plain] at hx704_0 | skip); obtain ⟨hx16_0, hf16_0⟩ := Kd.R_celln 0 HO_5.out ((ji10) : Int) p16 q16; replace p16 := eq_true p16; replace q16 := eq_true q16; obtain ⟨hy18_, hz18_⟩ := Kd.R_celln 0 HO_5.out ((ji10) : Int) zq6 zq6; have HP18 := Kd.R_putg HO_5.out ((ji10) : Int) (Int.tmod (wrap64 ((wrap64 ((rd x5_2 (ji10)) + (wrap64 ((rd l0 x19_1) * t706)))) + x7_2)) 65536)) | ((with_reducible refine gate_store (t := 3) (p := 55) rfl ?_); (try (rw [drewN_self wr]; generalize hq_ : World.drewN wr _ = wr; have n0_ := am (Kd.R_at hq_ HO_5.out); have n1_ := am (below_at hq_ HB.out); clear hq_ HO_5 HB; have HO_5 := n0_; have HB := n1_; clear n0_ n1_; (try (obtain ⟨hy18_, hz18_⟩ := Kd.R_celln 0 HO_5.out ((ji10) : Int) zq6 zq6)); (try (have HP18 := Kd.R_putg HO_5.out ((ji10) : Int) (Int.tmod (wrap64 ((wrap64 ((rd x5_2 (ji10)) + (wrap64 ((rd l0 x19_1) * t706)))) + x7_2)) 65536))))); refine zstore (t := 3) (p := 55) (w1 := (wr.setCell ⟨go16, ((ji10) : Int).toNat, none⟩ (.int .i64 (Int.tmod (wrap64 ((wrap64 ((rd x5_2 (ji10)) + (wrap64 ((rd l0 x19_1) * t706)))) + x7_2)) 65536)))) ?_; intro w19 hw; have hg : wr.grownBy w19 (some go16) := (by rw [hw]; exact HP18.2); have hp_ : Kd.R (Kd.int .i64) 3 w19 w.heap.size (fun k_ => (w.heap.size ≤ k_)) (.slice (some ⟨go16, 0, none⟩) x5_2.length co17) y707 := (by rw [hw, Ny707.out]; exact HP18.1); clear HP18; have n0_ := am (hp_); have n1_ := am ((by rw [hw]; exact below_set (HB.out) GB16.out : Below w.heap.size w w19)); clear HO_5 HB; have HO_5 := n0_; have HB := n1_; clear n0_ n1_; clear hg hw hp_))
       repeat (go_quiet (first | (go_at_call 97; (with_reducible refine (rf_digit.calls _ _ l1 x8_2 t706 _ ?side1 ?side2 A15.out).mono ?_); (case side1 => exact zc (Kd.C_below HR1.out HB.out)); (case side2 => exact HC1.out); rintro e w' ⟨rfl, ⟨nd, rfl⟩⟩; (try first | exact ⟨rfl, _, World.drewN_drewN _ _ _⟩ | exact ⟨rfl, _, Eq.trans (World.drewN_drewN _ _ _) (congrArg (World.drewN _) (Nat.add_assoc _ _ _))⟩); have p16 : 0 ≤ ((ji10) : Int) := zq6; have q16 : ((ji10) : Int) < ((x5_2.length : Int) : Int) := zq6; obtain ⟨go16, co16, eo16, gb16, gl16, cl16, HG16⟩ := Kd.R_form HO_5.out (by omega); (first | cases eo16 | (injection eo16 with ea_ en_ ec_; (first | subst ea_ | (injection ea_ with ea_; subst ea_)); subst ec_; clear en_)); have GB16 := am gb16; have GG16 := am HG16; clear gb16 gl16 HG16; (first | simp only [add_plain] at hx704_0 | skip); obtain ⟨hx16_0, hf16_0⟩ := Kd.R_celln 0 HO_5.out ((ji10) : Int) p16 q16; replace p16 := eq_true p16; replace q16 := eq_true q16; obtain ⟨hy18_, hz18_⟩ := Kd.R_celln 0 HO_5.out ((ji10) : Int) zq6 zq6; have HP18 := Kd.R_putg HO_5.out ((ji10) : Int) (Int.tmod (wrap64 ((wrap64 ((rd x5_2 (ji10)) + (wrap64 ((rd l0 x19_1) * t706)))) + x7_2)) 65536)) | ((with_reducible refine gate_store (t := 3) (p := 55) rfl ?_); (try (rw [drewN_self wr]; generalize hq_ : World.drewN wr _ = wr; have n0_ := am (Kd.R_at hq_ HO_5.out); have n1_ := am (below_at hq_ HB.out); clear hq_ HO_5 HB; have HO_5 := n0_; have HB := n1_; clear n0_ n1_; (try (obtain ⟨hy18_, hz18_⟩ := Kd.R_celln 0 HO_5.out ((ji10) : Int) zq6 zq6)); (try (have HP18 := Kd.R_putg HO_5.out ((ji10) : Int) (Int.tmod (wrap64 ((wrap64 ((rd x5_2 (ji10)) + (wrap64 ((rd l0 x19_1) * t706)))) + x7_2)) 65536))))); refine zstore (t := 3) (p := 55) (w1 := (wr.setCell ⟨go16, ((ji10) : Int).toNat, none⟩ (.int .i64 (Int.tmod (wrap64 ((wrap64 ((rd x5_2 (ji10)) + (wrap64 ((rd l0 x19_1) * t706)))) + x7_2)) 65536)))) ?_; intro w19 hw; have hg : wr.grownBy w19 (some go16) := (by rw [hw]; exact HP18.2); have hp_ : Kd.R (Kd.int .i64) 3 w19 w.heap.size (fun k_ => (w.heap.size ≤ k_)) (.slice (some ⟨go16, 0, none⟩) x5_2.length co17) y707 := (by rw [hw, Ny707.out]; exact HP18.1); clear HP18; have n0_ := am (hp_); have n1_ := am ((by rw [hw]; exact below_set (HB.out) GB16.out : Below w.heap.size w w19)); clear HO_5 HB; have HO_5 := n0_; have HB := n1_; clear n0_ n1_; clear hg hw hp_)); try go_wp2_with (first | (go_at_call 97; (with_reducible refine (rf_digit.calls _ _ l1 x8_2 t706 _ ?side1 ?side2 A15.out).mono ?_); (case side1 => exact zc (Kd.C_below HR1.out HB.out)); (case side2 => exact HC1.out); rintro e w' ⟨rfl, ⟨nd, rfl⟩⟩; (try first | exact ⟨rfl, _, World.drewN_drewN _ _ _⟩ | exact ⟨rfl, _, Eq.trans (World.drewN_drewN _ _ _) (congrArg (World.drewN _) (Nat.add_assoc _ _ _))⟩); have p16 : 0 ≤ ((ji10) : Int) := zq6; have q16 : ((ji10) : Int) < ((x5_2.length : Int) : Int) := zq6; obtain ⟨go16, co16, eo16, gb16, gl16, cl16, HG16⟩ := Kd.R_form HO_5.out (by omega); (first | cases eo16 | (injection eo16 with ea_ en_ ec_; (first | subst ea_ | (injection ea_ with ea_; subst ea_)); subst ec_; clear en_)); have GB16 := am gb16; have GG16 := am HG16; clear gb16 gl16 HG16; (first | simp only [add_plain] at hx704_0 | skip); obtain ⟨hx16_0, hf16_0⟩ := Kd.R_celln 0 HO_5.out ((ji10) : Int) p16 q16; replace p16 := eq_true p16; replace q16 := eq_true q16; obtain ⟨hy18_, hz18_⟩ := Kd.R_celln 0 HO_5.out ((ji10) : Int) zq6 zq6; have HP18 := Kd.R_putg HO_5.out ((ji10) : Int) (Int.tmod (wrap64 ((wrap64 ((rd x5_2 (ji10)) + (wrap64 ((rd l0 x19_1) * t706)))) + x7_2)) 65536)) | ((with_reducible refine gate_store (t := 3) (p := 55) rfl ?_); (try (rw [drewN_self wr]; generalize hq_ : World.drewN wr _ = wr; have n0_ := am (Kd.R_at hq_ HO_5.out); have n1_ := am (below_at hq_ HB.out); clear hq_ HO_5 HB; have HO_5 := n0_; have HB := n1_; clear n0_ n1_; (try (obtain ⟨hy18_, hz18_⟩ := Kd.R_celln 0 HO_5.out ((ji10) : Int) zq6 zq6)); (try (have HP18 := Kd.R_putg HO_5.out ((ji10) : Int) (Int.tmod (wrap64 ((wrap64 ((rd x5_2 (ji10)) + (wrap64 ((rd l0 x19_1) * t706)))) + x7_2)) 65536))))); refine zstore (t := 3) (p := 55) (w1 := (wr.setCell ⟨go16, ((ji10) : Int).toNat, none⟩ (.int .i64 (Int.tmod (wrap64 ((wrap64 ((rd x5_2 (ji10)) + (wrap64 ((rd l0 x19_1) * t706)))) + x7_2)) 65536)))) ?_; intro w19 hw; have hg : wr.grownBy w19 (some go16) := (by rw [hw]; exact HP18.2); have hp_ : Kd.R (Kd.int .i64) 3 w19 w.heap.size (fun k_ => (w.heap.size ≤ k_)) (.slice (some ⟨go16, 0, none⟩) x5_2.length co17) y707 := (by rw [hw, Ny707.out]; exact HP18.1); clear HP18; have n0_ := am (hp_); have n1_ := am ((by rw [hw]; exact below_set (HB.out) GB16.out : Below w.heap.size w w19)); clear HO_5 HB; have HO_5 := n0_; have HB := n1_; clear n0_ n1_; clear hg hw hp_)))
       go_roundg k2
       case measure => have := HK1.out; have := HK2.out; omega
       case rel => exact ⟨(y707), (wrap64 (Int.tdiv (wrap64 ((wrap64 ((rd x5_2 (ji10)) + (wrap64 ((rd l0 x19_1) * t706)))) + x7_2)) 65536)), (wrap64 (x8_2 + 1)), (by first | rfl | (simp; done) | (simp only [← hji10] <;> (first | rfl | simp)) | (simp [*]; done)), zq8, (by first | exact H' | (rw [hji3]; exact H') | (rw [hji10]; exact H')), ⟨by have := HK1.out; have := HK2.out; omega⟩, ⟨zq4 HO_5.out⟩, ⟨zq1⟩⟩
      ·rw [if_neg c9] at H
       have c9b0 := decide_eq_false c9
       clear c9
       by_cases c20 : x7_2 > 0
       ·rw [if_pos c20] at H
        have c20b0 : decide (0 < x7_2) = true := decide_eq_true c20
        clear c20
        obtain ⟨ji21, hji21⟩ : ∃ j_ : Int, (wrap64 (x19_1 + x8_2)) = j_ := ⟨_, rfl⟩
        replace H : (if 0 ≤ (ji21) then (if (ji21) < (x5_2.length : Int) then (if 0 ≤ x19_1 then (if x19_1 < (l0.length : Int) then ((rf_digit.f l1 x8_2).bind fun t710 => (rf_MulNat.l1 k2 l0 l1 (x5_2.set ((ji21) : Int).toNat (Int.tmod (wrap64 ((wrap64 ((rd x5_2 (ji21)) + (wrap64 ((rd l0 x19_1) * t710)))) + x7_2)) 65536)) x19_1 (wrap64 (Int.tdiv (wrap64 ((wrap64 ((rd x5_2 (ji21)) + (wrap64 ((rd l0 x19_1) * t710)))) + x7_2)) 65536)) (wrap64 (x8_2 + 1)) (l0.length : Int) x19_1)) else (none)) else (none)) else (none)) else (none)) = some r := by first | (rw [hji21] at H; exact H) | (simp only [hji21] at H ⊢; exact H)
        have hji21w : (IntKind.i64.wrap (x19_1 + x8_2)) = ji21 := (i64_w _).trans hji21
        replace H := zn H
        obtain ⟨c22, H⟩ := H
        have c22b0 := decide_eq_true c22
        clear c22
        replace H := zn H
        obtain ⟨c23, H⟩ := H
        have c23b0 := decide_eq_true c23
        clear c23
        replace H := zn H
        obtain ⟨c24, H⟩ := H
        have c24b0 := decide_eq_true c24
        clear c24
        replace H := zn H
        obtain ⟨c25, H⟩ := H
        have c25b0 := decide_eq_true c25
        clear c25
        replace H := zj H
        obtain ⟨t710, A26, H⟩ := H
        obtain ⟨y711, hy711⟩ : ∃ y_ : List Int, y_ = (x5_2.set ((ji21) : Int).toNat (Int.tmod (wrap64 ((wrap64 ((rd x5_2 (ji21)) + (wrap64 ((rd l0 x19_1) * t710)))) + x7_2)) 65536)) := ⟨_, rfl⟩
        try rw [← hy711] at H
        have Ny711 := am hy711
        clear hy711
        have H' := am H
        clear H
        obtain ⟨Ao28, co28, eo28⟩ := Kd.R_slice HO_5.out
        subst eo28
        have p708 : 0 ≤ ((ji21) : Int) := zq6
        have q708 : (ji21) < (x5_2.length : Int) := zq6
        obtain ⟨ad708, e708, hx708_0⟩ := Kd.at_int (Kd.R_reads' HO_5.out).2.2 (ji21) p708 q708
        cases e708
        replace p708 := eq_true p708
        replace q708 := eq_true q708
        have p709 : 0 ≤ (x19_1 : Int) := zq6
        have q709 : x19_1 < (l0.length : Int) := zq6
        obtain ⟨ad709, e709, hx709_0⟩ := Kd.at_int HR0.out x19_1 p709 q709
        cases e709
        replace hx709_0 := (HB.out.cell (World.block_lt_of_cell? w _ hx709_0)).trans hx709_0
        replace p709 := eq_true p709
        replace q709 := eq_true q709
        go_wp2_with (first | (go_at_call 97; (with_reducible refine (rf_digit.calls _ _ l1 x8_2 t710 _ ?side1 ?side2 A26.out).mono ?_); (case side1 => exact zc (Kd.C_below HR1.out HB.out)); (case side2 => exact HC1.out); rintro e w' ⟨rfl, ⟨nd, rfl⟩⟩; (try first | exact ⟨rfl, _, World.drewN_drewN _ _ _⟩ | exact ⟨rfl, _, Eq.trans (World.drewN_drewN _ _ _) (congrArg (World.drewN _) (Nat.add_assoc _ _ _))⟩); have p27 : 0 ≤ ((ji21) : Int) := zq6; have q27 : ((ji21) : Int) < ((x5_2.length : Int) : Int) := zq6; obtain ⟨go27, co27, eo27, gb27, gl27, cl27, HG27⟩ := Kd.R_form HO_5.out (by omega); (first | cases eo27 | (injection eo27 with ea_ en_ ec_; (first | subst ea_ | (injection ea_ with ea_; subst ea_)); subst ec_; clear en_)); have GB27 := am gb27; have GG27 := am HG27; clear gb27 gl27 HG27; (first | simp only [add_plain] at hx708_0 | skip); obtain ⟨hx27_0, hf27_0⟩ := Kd.R_celln 0 HO_5.out ((ji21) : Int) p27 q27; replace p27 := eq_true p27; replace q27 := eq_true q27; obtain ⟨hy29_, hz29_⟩ := Kd.R_celln 0 HO_5.out ((ji21) : Int) zq6 zq6; have HP29 := Kd.R_putg HO_5.out ((ji21) : Int) (Int.tmod (wrap64 ((wrap64 ((rd x5_2 (ji21)) + (wrap64 ((rd l0 x19_1) * t710)))) + x7_2)) 65536)) | ((with_reducible refine gate_store (t := 3) (p := 55) rfl ?_); (try (rw [drewN_self wr]; generalize hq_ : World.drewN wr _ = wr; have n0_ := am (Kd.R_at hq_ HO_5.out); have n1_ := am (below_at hq_ HB.out); clear hq_ HO_5 HB; have HO_5 := n0_; have HB := n1_; clear n0_ n1_; (try (obtain ⟨hy29_, hz29_⟩ := Kd.R_celln 0 HO_5.out ((ji21) : Int) zq6 zq6)); (try (have HP29 := Kd.R_putg HO_5.out ((ji21) : Int) (Int.tmod (wrap64 ((wrap64 ((rd x5_2 (ji21)) + (wrap64 ((rd l0 x19_1) * t710)))) + x7_2)) 65536))))); refine zstore (t := 3) (p := 55) (w1 := (wr.setCell ⟨go27, ((ji21) : Int).toNat, none⟩ (.int .i64 (Int.tmod (wrap64 ((wrap64 ((rd x5_2 (ji21)) + (wrap64 ((rd l0 x19_1) * t710)))) + x7_2)) 65536)))) ?_; intro w30 hw; have hg : wr.grownBy w30 (some go27) := (by rw [hw]; exact HP29.2); have hp_ : Kd.R (Kd.int .i64) 3 w30 w.heap.size (fun k_ => (w.heap.size ≤ k_)) (.slice (some ⟨go27, 0, none⟩) x5_2.length co28) y711 := (by rw [hw, Ny711.out]; exact HP29.1); clear HP29; have n0_ := am (hp_); have n1_ := am ((by rw [hw]; exact below_set (HB.out) GB27.out : Below w.heap.size w w30)); clear HO_5 HB; have HO_5 := n0_; have HB := n1_; clear n0_ n1_; clear hg hw hp_))
        repeat (go_quiet (first | (go_at_call 97; (with_reducible refine (rf_digit.calls _ _ l1 x8_2 t710 _ ?side1 ?side2 A26.out).mono ?_); (case side1 => exact zc (Kd.C_below HR1.out HB.out)); (case side2 => exact HC1.out); rintro e w' ⟨rfl, ⟨nd, rfl⟩⟩; (try first | exact ⟨rfl, _, World.drewN_drewN _ _ _⟩ | exact ⟨rfl, _, Eq.trans (World.drewN_drewN _ _ _) (congrArg (World.drewN _) (Nat.add_assoc _ _ _))⟩); have p27 : 0 ≤ ((ji21) : Int) := zq6; have q27 : ((ji21) : Int) < ((x5_2.length : Int) : Int) := zq6; obtain ⟨go27, co27, eo27, gb27, gl27, cl27, HG27⟩ := Kd.R_form HO_5.out (by omega); (first | cases eo27 | (injection eo27 with ea_ en_ ec_; (first | subst ea_ | (injection ea_ with ea_; subst ea_)); subst ec_; clear en_)); have GB27 := am gb27; have GG27 := am HG27; clear gb27 gl27 HG27; (first | simp only [add_plain] at hx708_0 | skip); obtain ⟨hx27_0, hf27_0⟩ := Kd.R_celln 0 HO_5.out ((ji21) : Int) p27 q27; replace p27 := eq_true p27; replace q27 := eq_true q27; obtain ⟨hy29_, hz29_⟩ := Kd.R_celln 0 HO_5.out ((ji21) : Int) zq6 zq6; have HP29 := Kd.R_putg HO_5.out ((ji21) : Int) (Int.tmod (wrap64 ((wrap64 ((rd x5_2 (ji21)) + (wrap64 ((rd l0 x19_1) * t710)))) + x7_2)) 65536)) | ((with_reducible refine gate_store (t := 3) (p := 55) rfl ?_); (try (rw [drewN_self wr]; generalize hq_ : World.drewN wr _ = wr; have n0_ := am (Kd.R_at hq_ HO_5.out); have n1_ := am (below_at hq_ HB.out); clear hq_ HO_5 HB; have HO_5 := n0_; have HB := n1_; clear n0_ n1_; (try (obtain ⟨hy29_, hz29_⟩ := Kd.R_celln 0 HO_5.out ((ji21) : Int) zq6 zq6)); (try (have HP29 := Kd.R_putg HO_5.out ((ji21) : Int) (Int.tmod (wrap64 ((wrap64 ((rd x5_2 (ji21)) + (wrap64 ((rd l0 x19_1) * t710)))) + x7_2)) 65536))))); refine zstore (t := 3) (p := 55) (w1 := (wr.setCell ⟨go27, ((ji21) : Int).toNat, none⟩ (.int .i64 (Int.tmod (wrap64 ((wrap64 ((rd x5_2 (ji21)) + (wrap64 ((rd l0 x19_1) * t710)))) + x7_2)) 65536)))) ?_; intro w30 hw; have hg : wr.grownBy w30 (some go27) := (by rw [hw]; exact HP29.2); have hp_ : Kd.R (Kd.int .i64) 3 w30 w.heap.size (fun k_ => (w.heap.size ≤ k_)) (.slice (some ⟨go27, 0, none⟩) x5_2.length co28) y711 := (by rw [hw, Ny711.out]; exact HP29.1); clear HP29; have n0_ := am (hp_); have n1_ := am ((by rw [hw]; exact below_set (HB.out) GB27.out : Below w.heap.size w w30)); clear HO_5 HB; have HO_5 := n0_; have HB := n1_; clear n0_ n1_; clear hg hw hp_)); try go_wp2_with (first | (go_at_call 97; (with_reducible refine (rf_digit.calls _ _ l1 x8_2 t710 _ ?side1 ?side2 A26.out).mono ?_); (case side1 => exact zc (Kd.C_below HR1.out HB.out)); (case side2 => exact HC1.out); rintro e w' ⟨rfl, ⟨nd, rfl⟩⟩; (try first | exact ⟨rfl, _, World.drewN_drewN _ _ _⟩ | exact ⟨rfl, _, Eq.trans (World.drewN_drewN _ _ _) (congrArg (World.drewN _) (Nat.add_assoc _ _ _))⟩); have p27 : 0 ≤ ((ji21) : Int) := zq6; have q27 : ((ji21) : Int) < ((x5_2.length : Int) : Int) := zq6; obtain ⟨go27, co27, eo27, gb27, gl27, cl27, HG27⟩ := Kd.R_form HO_5.out (by omega); (first | cases eo27 | (injection eo27 with ea_ en_ ec_; (first | subst ea_ | (injection ea_ with ea_; subst ea_)); subst ec_; clear en_)); have GB27 := am gb27; have GG27 := am HG27; clear gb27 gl27 HG27; (first | simp only [add_plain] at hx708_0 | skip); obtain ⟨hx27_0, hf27_0⟩ := Kd.R_celln 0 HO_5.out ((ji21) : Int) p27 q27; replace p27 := eq_true p27; replace q27 := eq_true q27; obtain ⟨hy29_, hz29_⟩ := Kd.R_celln 0 HO_5.out ((ji21) : Int) zq6 zq6; have HP29 := Kd.R_putg HO_5.out ((ji21) : Int) (Int.tmod (wrap64 ((wrap64 ((rd x5_2 (ji21)) + (wrap64 ((rd l0 x19_1) * t710)))) + x7_2)) 65536)) | ((with_reducible refine gate_store (t := 3) (p := 55) rfl ?_); (try (rw [drewN_self wr]; generalize hq_ : World.drewN wr _ = wr; have n0_ := am (Kd.R_at hq_ HO_5.out); have n1_ := am (below_at hq_ HB.out); clear hq_ HO_5 HB; have HO_5 := n0_; have HB := n1_; clear n0_ n1_; (try (obtain ⟨hy29_, hz29_⟩ := Kd.R_celln 0 HO_5.out ((ji21) : Int) zq6 zq6)); (try (have HP29 := Kd.R_putg HO_5.out ((ji21) : Int) (Int.tmod (wrap64 ((wrap64 ((rd x5_2 (ji21)) + (wrap64 ((rd l0 x19_1) * t710)))) + x7_2)) 65536))))); refine zstore (t := 3) (p := 55) (w1 := (wr.setCell ⟨go27, ((ji21) : Int).toNat, none⟩ (.int .i64 (Int.tmod (wrap64 ((wrap64 ((rd x5_2 (ji21)) + (wrap64 ((rd l0 x19_1) * t710)))) + x7_2)) 65536)))) ?_; intro w30 hw; have hg : wr.grownBy w30 (some go27) := (by rw [hw]; exact HP29.2); have hp_ : Kd.R (Kd.int .i64) 3 w30 w.heap.size (fun k_ => (w.heap.size ≤ k_)) (.slice (some ⟨go27, 0, none⟩) x5_2.length co28) y711 := (by rw [hw, Ny711.out]; exact HP29.1); clear HP29; have n0_ := am (hp_); have n1_ := am ((by rw [hw]; exact below_set (HB.out) GB27.out : Below w.heap.size w w30)); clear HO_5 HB; have HO_5 := n0_; have HB := n1_; clear n0_ n1_; clear hg hw hp_)))
        go_roundg k2
        case measure => have := HK1.out; have := HK2.out; omega
        case rel => exact ⟨(y711), (wrap64 (Int.tdiv (wrap64 ((wrap64 ((rd x5_2 (ji21)) + (wrap64 ((rd l0 x19_1) * t710)))) + x7_2)) 65536)), (wrap64 (x8_2 + 1)), (by first | rfl | (simp; done) | (simp only [← hji21] <;> (first | rfl | simp)) | (simp [*]; done)), zq8, (by first | exact H' | (rw [hji3]; exact H') | (rw [hji21]; exact H')), ⟨by have := HK1.out; have := HK2.out; omega⟩, ⟨zq4 HO_5.out⟩, ⟨zq1⟩⟩
       ·rw [if_neg c20] at H
        have c20b0 : decide (0 < x7_2) = false := decide_eq_false c20
        clear c20
        have H' := am H
        clear H
        go_wp2
        repeat (go_quiet (fail); try go_wp2)
        go_roundg k2
        case measure => have := HK1.out; have := HK2.out; omega
        case rel => exact ⟨(x5_2), (wrap64 (x19_1 + 1)), zq8, (by first | exact H' | (rw [hji3]; exact H')), ⟨by have := HK1.out; have := HK2.out; omega⟩, ⟨zq4 HO_5.out⟩, ⟨zq1⟩⟩
   ·rw [if_neg c8] at H
    have c8b0 := decide_eq_false c8
    clear c8
    replace H := zj H
    obtain ⟨t701, A31, H⟩ := H
    obtain rfl := Option.some.inj H
    obtain ⟨Ao32, co32, eo32⟩ := Kd.R_slice HO_5.out
    subst eo32
    go_wp2_with (first | (go_at_call 96; (with_reducible refine (rf_trim.calls k1 (fun k_ => some k_ = (.slice Ao32 x5_1.length co32 : Value).ownBlock) _ _ x5_1 t701 _ ?side1 A31.out).mono ?_); (case side1 => exact Kd.R_V (Kd.R_tight rfl (HO_5.out))); rintro e w33 ⟨v702, rfl, ho0, hb⟩; have n0_ := am (Kd.R_below (zq4 HO_5.out) hb); have n1_ := am (Kd.V_lower (Kd.V_mono (ok' := fun k_ => (w.heap.size ≤ k_)) ho0 (fun k_ hk_ => Or.elim hk_ (fun hs_ => ((HO_5.out).1 k_ hs_.symm)) (fun hn_ => (Nat.le_trans (below_size zq1) hn_)))) (below_size zq1)); have n2_ := am (below_step zq1 hb); clear HO_5 HB; have HO_5 := n0_; have HO703 := n1_; have HB := n2_; clear n0_ n1_ n2_))
    repeat (go_quiet (first | (go_at_call 96; (with_reducible refine (rf_trim.calls k1 (fun k_ => some k_ = (.slice Ao32 x5_1.length co32 : Value).ownBlock) _ _ x5_1 t701 _ ?side1 A31.out).mono ?_); (case side1 => exact Kd.R_V (Kd.R_tight rfl (HO_5.out))); rintro e w33 ⟨v702, rfl, ho0, hb⟩; have n0_ := am (Kd.R_below (zq4 HO_5.out) hb); have n1_ := am (Kd.V_lower (Kd.V_mono (ok' := fun k_ => (w.heap.size ≤ k_)) ho0 (fun k_ hk_ => Or.elim hk_ (fun hs_ => ((HO_5.out).1 k_ hs_.symm)) (fun hn_ => (Nat.le_trans (below_size zq1) hn_)))) (below_size zq1)); have n2_ := am (below_step zq1 hb); clear HO_5 HB; have HO_5 := n0_; have HO703 := n1_; have HB := n2_; clear n0_ n1_ n2_)); try go_wp2_with (first | (go_at_call 96; (with_reducible refine (rf_trim.calls k1 (fun k_ => some k_ = (.slice Ao32 x5_1.length co32 : Value).ownBlock) _ _ x5_1 t701 _ ?side1 A31.out).mono ?_); (case side1 => exact Kd.R_V (Kd.R_tight rfl (HO_5.out))); rintro e w33 ⟨v702, rfl, ho0, hb⟩; have n0_ := am (Kd.R_below (zq4 HO_5.out) hb); have n1_ := am (Kd.V_lower (Kd.V_mono (ok' := fun k_ => (w.heap.size ≤ k_)) ho0 (fun k_ hk_ => Or.elim hk_ (fun hs_ => ((HO_5.out).1 k_ hs_.symm)) (fun hn_ => (Nat.le_trans (below_size zq1) hn_)))) (below_size zq1)); have n2_ := am (below_step zq1 hb); clear HO_5 HB; have HO_5 := n0_; have HO703 := n1_; have HB := n2_; clear n0_ n1_ n2_)))
    go_ret
    exact ⟨_, by first | rfl | (simp [errW_none, errW_some] <;> rfl) | (simp only [← hji3]; first | rfl | (simp [errW_none, errW_some] <;> rfl)) | (simp [*, errW_none, errW_some] <;> rfl), zq3 HO703.out, zq1⟩
mutual
def rf_Cmp.j0 : Nat → List Int → List Int → Bool → Bool → List Int → List Int → Bool → List Int → List Int → Option (Int)
 | 0, _, _, _, _, _, _, _, _, _ => none
 | k + 1, x5, x6, x17, x1777000, x1777001, x1777002, x1778000, x1778001, x1778002 => if x17 = true then (some (-1)) else (if x1777000 = true then (rf_Cmp.j1 k x5 x6 false x1777000 x1777001 x1777002) else (rf_Cmp.j1 k x5 x6 x1778000 x1777000 x1777001 x1777002))
def rf_Cmp.j1 : Nat → List Int → List Int → Bool → Bool → List Int → List Int → Option (Int)
 | 0, _, _, _, _, _, _ => none
 | k + 1, x5, x6, x25, x1777000, x1777001, x1777002 => if x25 = true then (some 1) else (if x1777000 = true then ((rf_CmpNat.f k x6 x5).bind fun t1784 => (some t1784)) else ((rf_CmpNat.f k x5 x6).bind fun t1785 => (some t1785)))
end
def rf_Cmp.f (k : Nat) (a0_0 : Bool) (l0_1 : List Int) (l0_2 : List Int) (a1_0 : Bool) (l1_1 : List Int) (l1_2 : List Int) : Option (Int) := (rf_MulNat.f k l0_1 l1_2).bind fun t1778 => ((rf_MulNat.f k l1_1 l0_2).bind fun t1781 => (if a0_0 = true then (rf_Cmp.j0 k t1778 t1781 (!a1_0) a0_0 l0_1 l0_2 a1_0 l1_1 l1_2) else (rf_Cmp.j0 k t1778 t1781 false a0_0 l0_1 l0_2 a1_0 l1_1 l1_2)))
theorem rf_Cmp.mono_l : ∀ k, (∀ y0 y1 y2 y3 y4 y5 y6 y7 y8, LeO (rf_Cmp.j0 k y0 y1 y2 y3 y4 y5 y6 y7 y8) (rf_Cmp.j0 (k + 1) y0 y1 y2 y3 y4 y5 y6 y7 y8)) ∧ (∀ y0 y1 y2 y3 y4 y5, LeO (rf_Cmp.j1 k y0 y1 y2 y3 y4 y5) (rf_Cmp.j1 (k + 1) y0 y1 y2 y3 y4 y5))
 | 0 => ⟨fun _ _ _ _ _ _ _ _ _ r h => by simp [rf_Cmp.j0] at h, fun _ _ _ _ _ _ r h => by simp [rf_Cmp.j1] at h⟩
 | k + 1 => by
  obtain ⟨ih0, ih1⟩ := rf_Cmp.mono_l k
  refine ⟨?_, ?_⟩
  ·intro y0 y1 y2 y3 y4 y5 y6 y7 y8
   unfold rf_Cmp.j0
   have m0 := ih0
   have m1 := ih1
   have m2 := @rf_CmpNat.mono
   have m3 := @rf_MulNat.mono
   exact zm
  ·intro y0 y1 y2 y3 y4 y5
   unfold rf_Cmp.j1
   have m0 := ih0
   have m1 := ih1
   have m2 := @rf_CmpNat.mono
   have m3 := @rf_MulNat.mono
   exact zm
theorem rf_Cmp.mono : ∀ a0 a1 a2 a3 a4 a5 k, LeO (rf_Cmp.f k a0 a1 a2 a3 a4 a5) (rf_Cmp.f (k + 1) a0 a1 a2 a3 a4 a5) := by
 intro a0 a1 a2 a3 a4 a5 k
 obtain ⟨ih0, ih1⟩ := rf_Cmp.mono_l k
 unfold rf_Cmp.f
 have m0 := ih0
 have m1 := ih1
 have m2 := @rf_CmpNat.mono
 have m3 := @rf_MulNat.mono
 exact zm
def rf_Cmp.T1 : Bool × List (List Nat × List Nat) := (true, [([], []), ([0], [0]), ([], []), ([2], [2]), ([1, 3], [1, 3]), ([], []), ([5], [5]), ([], []), ([7], [7]), ([6, 8, 4], [6, 8]), ([4, 9, 0, 1, 2, 3, 4], [4]), ([9, 10, 0, 1, 2, 3, 4, 5, 6, 7, 8, 9, 10], [9])])
def rf_Cmp.B1 : List Nat := [0, 1, 0, 4, 15, 0, 32, 0, 128, 511, 1023, 2047]
theorem rf_Cmp.tab1 : rtab .any (opsOf Tryd.f23 1) = rf_Cmp.T1 := by kernel_rfl
theorem rf_Cmp.bits1 : waitsOk rf_Cmp.T1.2 rf_Cmp.B1 = true := by kernel_rfl
set_option maxHeartbeats 8000000 in
set_option maxRecDepth 100000 in
theorem rf_Cmp.calls (k : Nat) (a0_0 : Bool) (A0_1 : Option Addr) (c0_1 : Nat) (l0_1 : List Int) (A0_2 : Option Addr) (c0_2 : Nat) (l0_2 : List Int) (a1_0 : Bool) (A1_1 : Option Addr) (c1_1 : Nat) (l1_1 : List Int) (A1_2 : Option Addr) (c1_2 : Nat) (l1_2 : List Int) (r : Int) (w : World) (hr0_1 : Kd.C (Kd.int .i64) w A0_1 l0_1.length l0_1) (hc0_1 : l0_1.length ≤ c0_1) (hr0_2 : Kd.C (Kd.int .i64) w A0_2 l0_2.length l0_2) (hc0_2 : l0_2.length ≤ c0_2) (hr1_1 : Kd.C (Kd.int .i64) w A1_1 l1_1.length l1_1) (hc1_1 : l1_1.length ≤ c1_1) (hr1_2 : Kd.C (Kd.int .i64) w A1_2 l1_2.length l1_2) (hc1_2 : l1_2.length ≤ c1_2) (h : rf_Cmp.f k a0_0 l0_1 l0_2 a1_0 l1_1 l1_2 = some r) :
  Calls Tryd.prog 23 #[.agg #[.bool a0_0, .slice A0_1 l0_1.length c0_1, .slice A0_2 l0_2.length c0_2], .agg #[.bool a1_0, .slice A1_1 l1_1.length c1_1, .slice A1_2 l1_2.length c1_2]] w fun e w' => e = .returned (.int .i64 r) ∧ Below w.heap.size w w' := by
 have hu41 := Tryd.underlying41
 have HR0_1 := am hr0_1
 have HC0_1 := am hc0_1
 clear hr0_1 hc0_1
 have HR0_2 := am hr0_2
 have HC0_2 := am hc0_2
 clear hr0_2 hc0_2
 have HR1_1 := am hr1_1
 have HC1_1 := am hc1_1
 clear hr1_1 hc1_1
 have HR1_2 := am hr1_2
 have HC1_2 := am hc1_2
 clear hr1_2 hc1_2
 have HB := am (Below.refl w.heap.size w)
 have H := h
 unfold rf_Cmp.f at H
 clear h
 replace H := zj H
 obtain ⟨t1778, A3, H⟩ := H
 replace H := zj H
 obtain ⟨t1781, A4, H⟩ := H
 have HC5 := am H
 clear H
 go_enter Tryd.func23, Tryd.ntmps23
 try go_wp2_with (first | ((with_reducible refine gate_dst (N := 2) rfl ?_); refine zbox (N := 2) (cs := #[.bool a0_0, .slice A0_1 l0_1.length c0_1, .slice A0_2 l0_2.length c0_2]) (t := 41) ?_; intro gb1776 hg w6 hbox hb; have n0_ := am (below_step zq1 hb); have n1_ := am (hbox); have n2_ := am ((zs hg (below_size zq1) : w.heap.size ≤ gb1776)); have n3_ := n2_; clear HB; have HB := n0_; have BK1776 := n1_; have GW1776 := n2_; have GE1776 := n3_; clear n0_ n1_ n2_ n3_; clear hb hbox hg) | ((with_reducible refine gate_dst (N := 3) rfl ?_); refine zbox (N := 3) (cs := #[.bool a1_0, .slice A1_1 l1_1.length c1_1, .slice A1_2 l1_2.length c1_2]) (t := 41) ?_; intro gb1777 hg w7 hbox hb; have n0_ := am (bb BK1776.out hb); have n1_ := am (below_step (zb1 GE1776.out) hb); have n2_ := am (hbox); have n3_ := am ((zs hg (below_size (zb1 GE1776.out)) : w.heap.size ≤ gb1777)); have n4_ := n3_; have n5_ := am ((by rw [hg]; exact Nat.ne_of_lt (bl BK1776.out) : gb1776 ≠ gb1777)); have n6_ := am ((by rw [hg]; exact Nat.ne_of_gt (bl BK1776.out) : gb1777 ≠ gb1776)); clear BK1776 HB; have BK1776 := n0_; have HB := n1_; have BK1777 := n2_; have GW1777 := n3_; have GE1777 := n4_; have NB1776_1777 := n5_; have NB1777_1776 := n6_; clear n0_ n1_ n2_ n3_ n4_ n5_ n6_; clear hb hbox hg))
 have n0_ := am (blk_drew BK1776.out)
 have n1_ := am (blk_drew BK1777.out)
 have n2_ := am (below_drew1 HB.out)
 clear BK1776 BK1777 HB
 have BK1776 := n0_
 have BK1777 := n1_
 have HB := n2_
 clear n0_ n1_ n2_
 refine start_ (n := 12) (S := fun w' => w'.cell? ⟨gb1776, 0, none⟩ = some (.bool a0_0) ∧ w'.cell? ⟨gb1776, 1, none⟩ = some (.slice A0_1 l0_1.length c0_1) ∧ w'.cell? ⟨gb1776, 2, none⟩ = some (.slice A0_2 l0_2.length c0_2) ∧ w'.cell? ⟨gb1777, 0, none⟩ = some (.bool a1_0) ∧ w'.cell? ⟨gb1777, 1, none⟩ = some (.slice A1_1 l1_1.length c1_1) ∧ w'.cell? ⟨gb1777, 2, none⟩ = some (.slice A1_2 l1_2.length c1_2)) (ds := []) #[false, false, false, false, false, false, false, false, false, false, false, false] (by kernel_rfl) rfl rfl ⟨(blk_cell BK1776.out 0).trans rfl, (blk_cell BK1776.out 1).trans rfl, (blk_cell BK1776.out 2).trans rfl, (blk_cell BK1777.out 0).trans rfl, (blk_cell BK1777.out 1).trans rfl, (blk_cell BK1777.out 2).trans rfl⟩ (fun hHeld => ?_); refine with_tabW rf_Cmp.tab1 rf_Cmp.bits1 (fun HT_ HW_ => ?_)
 generalize w7.drew = w8 at BK1776 BK1777 HB hHeld ⊢
 refine pz_ (i := 0) (N := some 7) (zmt 12 [0]) ?_
 refine pz_ (i := 2) (N := some 9) (zmt 12 [0, 2]) ?_
 refine pz_ (i := 5) (N := some 12) (zmt 12 [0, 2, 5]) ?_
 refine pz_ (i := 7) (N := some 14) (zmt 12 [0, 2, 5, 7]) ?_
 refine take_ (i := 1) (N := some 8) (v := ?_) (a' := ?_) #[true, true, true, false, false, true, false, true, false, false, false, false] rfl rfl (take_ofW HT_.out HW_.out (by kernel_rfl)) (fun _ _ _ h => h) (Or.inl ⟨by rfl, ?_⟩) hHeld ?_ ?_
 rotate_left
 ·rintro w' ⟨s0, s1, s2, s3, s4, s5⟩
  go_simp
  with_reducible rfl
 rotate_left
 ·simp only [Act.put, List.setIfInBounds_toArray, List.set_cons_zero, List.set_cons_succ, i64_w, i32_w]
  rfl
 refine take_ (i := 3) (N := some 10) (v := ?_) (a' := ?_) #[true, true, true, true, false, true, false, true, false, false, false, false] rfl rfl (take_ofW HT_.out HW_.out (by kernel_rfl)) (fun _ _ _ h => h) (Or.inl ⟨by rfl, ?_⟩) hHeld ?_ ?_
 rotate_left
 ·rintro w' ⟨s0, s1, s2, s3, s4, s5⟩
  go_simp
  with_reducible rfl
 rotate_left
 ·simp only [Act.put, List.setIfInBounds_toArray, List.set_cons_zero, List.set_cons_succ, i64_w, i32_w]
  rfl
 refine take_ (i := 6) (N := some 13) (v := ?_) (a' := ?_) #[true, true, true, true, false, true, true, true, false, false, false, false] rfl rfl (take_ofW HT_.out HW_.out (by kernel_rfl)) (fun _ _ _ h => h) (Or.inl ⟨by rfl, ?_⟩) hHeld ?_ ?_
 rotate_left
 ·rintro w' ⟨s0, s1, s2, s3, s4, s5⟩
  go_simp
  with_reducible rfl
 rotate_left
 ·simp only [Act.put, List.setIfInBounds_toArray, List.set_cons_zero, List.set_cons_succ, i64_w, i32_w]
  rfl
 refine take_ (i := 8) (N := some 15) (v := ?_) (a' := ?_) #[true, true, true, true, false, true, true, true, true, false, false, false] rfl rfl (take_ofW HT_.out HW_.out (by kernel_rfl)) (fun _ _ _ h => h) (Or.inl ⟨by rfl, ?_⟩) hHeld ?_ ?_
 rotate_left
 ·rintro w' ⟨s0, s1, s2, s3, s4, s5⟩
  go_simp
  with_reducible rfl
 rotate_left
 ·simp only [Act.put, List.setIfInBounds_toArray, List.set_cons_zero, List.set_cons_succ, i64_w, i32_w]
  rfl
 refine one_ (i := 4) (N := some 11) (zmf 12 [9, 10, 11]) rfl rfl (one_of HT_.out (by kernel_rfl)) (by decide) (fun K hK => ?_)
 refine goes_ Tryd.func63 (by kernel_rfl) rfl #[.slice A0_1 l0_1.length c0_1, .slice A1_2 l1_2.length c1_2] (by rfl) rfl rfl zq5 ?_
 with_reducible refine (rf_MulNat.calls k _ _ l0_1 _ _ l1_2 t1778 _ ?side1 ?side2 ?side3 ?side4 A3.out).mono ?_
 (case side1 => exact zc (Kd.C_below HR0_1.out HB.out))
 (case side2 => exact HC0_1.out)
 (case side3 => exact zc (Kd.C_below HR1_2.out HB.out))
 (case side4 => exact HC1_2.out)
 rintro e w9 ⟨v1779, rfl, ho0, hb⟩
 refine ⟨_, rfl, ?_⟩
 have n0_ := am (Kd.V_lower (Kd.V_mono (ok' := fun k_ => k_ ≠ gb1776 ∧ k_ ≠ gb1777) ho0 (fun k_ hk_ => ⟨(Kd.freshB (g := gb1776) (o := .cells #[.bool a0_0, .slice A0_1 l0_1.length c0_1, .slice A0_2 l0_2.length c0_2] 41 (0, 0)) (zq2 BK1776.out) k_ hk_), (Kd.freshB (g := gb1777) (o := .cells #[.bool a1_0, .slice A1_1 l1_1.length c1_1, .slice A1_2 l1_2.length c1_2] 41 (0, 0)) (zq2 BK1777.out) k_ hk_)⟩)) (below_size (zb2 GE1776.out GE1777.out)))
 have n1_ := am (bb BK1776.out hb)
 have n2_ := am (bb BK1777.out hb)
 have n3_ := am (below_step (zb2 GE1776.out GE1777.out) hb)
 clear BK1776 BK1777 HB
 have HO1780 := n0_
 have BK1776 := n1_
 have BK1777 := n2_
 have HB := n3_
 clear n0_ n1_ n2_ n3_
 (try clear hb)
 (try clear hb2)
 (try clear hk)
 (try clear hi)
 (try clear ho0)
 refine hK.out _ _ ⟨(blk_cell BK1776.out 0).trans rfl, (blk_cell BK1776.out 1).trans rfl, (blk_cell BK1776.out 2).trans rfl, (blk_cell BK1777.out 0).trans rfl, (blk_cell BK1777.out 1).trans rfl, (blk_cell BK1777.out 2).trans rfl⟩ (fun hHeld => ?_)
 clear hK K
 refine nz_ (N := (some 11)) ?_
 refine one_ (i := 9) (N := some 16) (zmf 12 [10, 11]) rfl rfl (one_of HT_.out (by kernel_rfl)) (by decide) (fun K hK => ?_)
 refine goes_ Tryd.func63 (by kernel_rfl) rfl #[.slice A1_1 l1_1.length c1_1, .slice A0_2 l0_2.length c0_2] (by rfl) rfl rfl zq5 ?_
 with_reducible refine (rf_MulNat.calls k _ _ l1_1 _ _ l0_2 t1781 _ ?side1 ?side2 ?side3 ?side4 A4.out).mono ?_
 (case side1 => exact zc (Kd.C_below HR1_1.out HB.out))
 (case side2 => exact HC1_1.out)
 (case side3 => exact zc (Kd.C_below HR0_2.out HB.out))
 (case side4 => exact HC0_2.out)
 rintro e w10 ⟨v1782, rfl, ho0, hb⟩
 refine ⟨_, rfl, ?_⟩
 have n0_ := am (Kd.V_below (zq3 HO1780.out) hb)
 have n1_ := am (Kd.V_lower (Kd.V_mono (ok' := fun k_ => k_ ≠ gb1776 ∧ k_ ≠ gb1777) ho0 (fun k_ hk_ => ⟨(Kd.freshB (g := gb1776) (o := .cells #[.bool a0_0, .slice A0_1 l0_1.length c0_1, .slice A0_2 l0_2.length c0_2] 41 (0, 0)) (zq2 BK1776.out) k_ hk_), (Kd.freshB (g := gb1777) (o := .cells #[.bool a1_0, .slice A1_1 l1_1.length c1_1, .slice A1_2 l1_2.length c1_2] 41 (0, 0)) (zq2 BK1777.out) k_ hk_)⟩)) (below_size (zb2 GE1776.out GE1777.out)))
 have n2_ := am (bb BK1776.out hb)
 have n3_ := am (bb BK1777.out hb)
 have n4_ := am (below_step (zb2 GE1776.out GE1777.out) hb)
 clear HO1780 BK1776 BK1777 HB
 have HO1780 := n0_
 have HO1783 := n1_
 have BK1776 := n2_
 have BK1777 := n3_
 have HB := n4_
 clear n0_ n1_ n2_ n3_ n4_
 (try clear hb)
 (try clear hb2)
 (try clear hk)
 (try clear hi)
 (try clear ho0)
 refine hK.out _ _ ⟨(blk_cell BK1776.out 0).trans rfl, (blk_cell BK1776.out 1).trans rfl, (blk_cell BK1776.out 2).trans rfl, (blk_cell BK1777.out 0).trans rfl, (blk_cell BK1777.out 1).trans rfl, (blk_cell BK1777.out 2).trans rfl⟩ (fun hHeld => ?_)
 clear hK K
 refine nz_ (N := (some 16)) ?_
 refine pz_ (i := 10) (N := some 5) (zmf 12 [11]) ?_
 refine pz_ (i := 11) (N := some 6) (zmf 12 []) ?_
 refine done_ (done_of HT_.out (by kernel_rfl)) ?_
 go_upto_region 2 with (fail)
 go_cut [17] (fun v17 wc => ∃ (kq : Nat) (x17_4 : Bool), v17 = .bool x17_4 ∧ Aside0 (rf_Cmp.j0 kq t1778 t1781 x17_4 a0_0 l0_1 l0_2 a1_0 l1_1 l1_2 = some r) ∧ Aside0 (kq ≤ k) ∧ Aside0 (Kd.V (Kd.int .i64) 3 wc w.heap.size (fun k_ => k_ ≠ gb1776 ∧ k_ ≠ gb1777) v1779 t1778) ∧ Aside0 (Kd.V (Kd.int .i64) 3 wc w.heap.size (fun k_ => k_ ≠ gb1776 ∧ k_ ≠ gb1777) v1782 t1781) ∧ Aside0 (wc.heap[gb1776]? = some (.cells #[.bool a0_0, (.slice A0_1 l0_1.length c0_1), (.slice A0_2 l0_2.length c0_2)] 41 (0, 0))) ∧ Aside0 (wc.heap[gb1777]? = some (.cells #[.bool a1_0, (.slice A1_1 l1_1.length c1_1), (.slice A1_2 l1_2.length c1_2)] 41 (0, 0))) ∧ Aside0 (Below w.heap.size w wc))
 case first =>
  have H := HC5.out
  clear HC5
  by_cases c11 : a0_0 = true
  ·subst c11
   have H1 : (rf_Cmp.j0 k t1778 t1781 (!a1_0) true l0_1 l0_2 a1_0 l1_1 l1_2) = some r := by rw [if_pos rfl] at H; exact H
   clear H
   have H := H1
   clear H1
   have H' := am H
   clear H
   have hnb12 := NB1776_1777.out
   have hnc12 := NB1777_1776.out
   have hcz13_0 := bc BK1776.out 0 (.bool true)
   have hcz13_1 := bc BK1776.out 1 (.slice A0_1 l0_1.length c0_1)
   have hcz13_2 := bc BK1776.out 2 (.slice A0_2 l0_2.length c0_2)
   have hfz13_0 := blk_frozen BK1776.out 0
   have hfz13_1 := blk_frozen BK1776.out 1
   have hfz13_2 := blk_frozen BK1776.out 2
   have hcz14_0 := bc BK1777.out 0 (.bool a1_0)
   have hcz14_1 := bc BK1777.out 1 (.slice A1_1 l1_1.length c1_1)
   have hcz14_2 := bc BK1777.out 2 (.slice A1_2 l1_2.length c1_2)
   have hfz14_0 := blk_frozen BK1777.out 0
   have hfz14_1 := blk_frozen BK1777.out 1
   have hfz14_2 := blk_frozen BK1777.out 2
   go_wp2
   go_meet
   case rel => exact ⟨_, (!a1_0), zq8, H', ⟨by first | omega | exact Nat.le_refl _⟩, ⟨zq3 HO1780.out⟩, ⟨zq3 HO1783.out⟩, ⟨zq2 BK1776.out⟩, ⟨zq2 BK1777.out⟩, ⟨zb2 GE1776.out GE1777.out⟩⟩
  ·replace c11 := Bool.eq_false_iff.mpr c11
   subst c11
   have H1 : (rf_Cmp.j0 k t1778 t1781 false false l0_1 l0_2 a1_0 l1_1 l1_2) = some r := by rw [if_neg (show ¬ (false = true) by decide)] at H; exact H
   clear H
   have H := H1
   clear H1
   have H' := am H
   clear H
   have hnb15 := NB1776_1777.out
   have hnc15 := NB1777_1776.out
   have hcz16_0 := bc BK1776.out 0 (.bool false)
   have hcz16_1 := bc BK1776.out 1 (.slice A0_1 l0_1.length c0_1)
   have hcz16_2 := bc BK1776.out 2 (.slice A0_2 l0_2.length c0_2)
   have hfz16_0 := blk_frozen BK1776.out 0
   have hfz16_1 := blk_frozen BK1776.out 1
   have hfz16_2 := blk_frozen BK1776.out 2
   go_wp2
   go_meet
   case rel => exact ⟨_, (false), zq8, H', ⟨by first | omega | exact Nat.le_refl _⟩, ⟨zq3 HO1780.out⟩, ⟨zq3 HO1783.out⟩, ⟨zq2 BK1776.out⟩, ⟨zq2 BK1777.out⟩, ⟨zb2 GE1776.out GE1777.out⟩⟩
 case rest =>
  clear HC5
  obtain ⟨kq, x17_4, rfl, HA, HJ4, HO_5, HO_6, BK1776, BK1777, HB⟩ := hcut
  cases kq with
  | zero => exact absurd HA.out (by simp [rf_Cmp.j0])
  | succ kj4 =>
   have H := HA.out
   clear HA
   simp only [rf_Cmp.j0] at H
   by_cases c17 : x17_4 = true
   ·subst c17
    have H1 : (some (-1)) = some r := by rw [if_pos rfl] at H; exact H
    clear H
    have H := H1
    clear H1
    obtain rfl := Option.some.inj H
    go_wp2
    go_ret
    exact ⟨zq9, zb2 GE1776.out GE1777.out⟩
   ·replace c17 := Bool.eq_false_iff.mpr c17
    subst c17
    have H1 : (if a0_0 = true then (rf_Cmp.j1 kj4 t1778 t1781 false a0_0 l0_1 l0_2) else (rf_Cmp.j1 kj4 t1778 t1781 a1_0 a0_0 l0_1 l0_2)) = some r := by rw [if_neg (show ¬ (false = true) by decide)] at H; exact H
    clear H
    have H := H1
    clear H1
    have HC18 := am H
    clear H
    go_upto_region 4 with (fail)
    go_cut [25] (fun v25 wc => ∃ (kq : Nat) (x25_17 : Bool), v25 = .bool x25_17 ∧ Aside0 (rf_Cmp.j1 kq t1778 t1781 x25_17 a0_0 l0_1 l0_2 = some r) ∧ Aside0 (kq ≤ kj4) ∧ Aside0 (Kd.V (Kd.int .i64) 3 wc w.heap.size (fun k_ => k_ ≠ gb1776 ∧ k_ ≠ gb1777) v1779 t1778) ∧ Aside0 (Kd.V (Kd.int .i64) 3 wc w.heap.size (fun k_ => k_ ≠ gb1776 ∧ k_ ≠ gb1777) v1782 t1781) ∧ Aside0 (wc.heap[gb1776]? = some (.cells #[.bool a0_0, (.slice A0_1 l0_1.length c0_1), (.slice A0_2 l0_2.length c0_2)] 41 (0, 0))) ∧ Aside0 (wc.heap[gb1777]? = some (.cells #[.bool a1_0, (.slice A1_1 l1_1.length c1_1), (.slice A1_2 l1_2.length c1_2)] 41 (0, 0))) ∧ Aside0 (Below w.heap.size w wc))
    case first =>
     have H := HC18.out
     clear HC18
     by_cases c19 : a0_0 = true
     ·subst c19
      have H1 : (rf_Cmp.j1 kj4 t1778 t1781 false true l0_1 l0_2) = some r := by rw [if_pos rfl] at H; exact H
      clear H
      have H := H1
      clear H1
      have H' := am H
      clear H
      have hnb20 := NB1776_1777.out
      have hnc20 := NB1777_1776.out
      have hcz21_0 := bc BK1776.out 0 (.bool true)
      have hcz21_1 := bc BK1776.out 1 (.slice A0_1 l0_1.length c0_1)
      have hcz21_2 := bc BK1776.out 2 (.slice A0_2 l0_2.length c0_2)
      have hfz21_0 := blk_frozen BK1776.out 0
      have hfz21_1 := blk_frozen BK1776.out 1
      have hfz21_2 := blk_frozen BK1776.out 2
      go_wp2
      go_meet
      case rel => exact ⟨_, (false), zq8, H', ⟨by have := HJ4.out; first | omega | exact Nat.le_refl _⟩, ⟨zq3 HO_5.out⟩, ⟨zq3 HO_6.out⟩, ⟨zq2 BK1776.out⟩, ⟨zq2 BK1777.out⟩, ⟨zb2 GE1776.out GE1777.out⟩⟩
     ·replace c19 := Bool.eq_false_iff.mpr c19
      subst c19
      have H1 : (rf_Cmp.j1 kj4 t1778 t1781 a1_0 false l0_1 l0_2) = some r := by rw [if_neg (show ¬ (false = true) by decide)] at H; exact H
      clear H
      have H := H1
      clear H1
      have H' := am H
      clear H
      have hnb22 := NB1776_1777.out
      have hnc22 := NB1777_1776.out
      have hcz23_0 := bc BK1776.out 0 (.bool false)
      have hcz23_1 := bc BK1776.out 1 (.slice A0_1 l0_1.length c0_1)
      have hcz23_2 := bc BK1776.out 2 (.slice A0_2 l0_2.length c0_2)
      have hfz23_0 := blk_frozen BK1776.out 0
      have hfz23_1 := blk_frozen BK1776.out 1
      have hfz23_2 := blk_frozen BK1776.out 2
      have hcz24_0 := bc BK1777.out 0 (.bool a1_0)
      have hcz24_1 := bc BK1777.out 1 (.slice A1_1 l1_1.length c1_1)
      have hcz24_2 := bc BK1777.out 2 (.slice A1_2 l1_2.length c1_2)
      have hfz24_0 := blk_frozen BK1777.out 0
      have hfz24_1 := blk_frozen BK1777.out 1
      have hfz24_2 := blk_frozen BK1777.out 2
      go_wp2
      go_meet
      case rel => exact ⟨_, (a1_0), zq8, H', ⟨by have := HJ4.out; first | omega | exact Nat.le_refl _⟩, ⟨zq3 HO_5.out⟩, ⟨zq3 HO_6.out⟩, ⟨zq2 BK1776.out⟩, ⟨zq2 BK1777.out⟩, ⟨zb2 GE1776.out GE1777.out⟩⟩
    case rest =>
     clear HC18
     obtain ⟨kq, x25_17, rfl, HA, HJ17, HO_5, HO_6, BK1776, BK1777, HB⟩ := hcut
     cases kq with
     | zero => exact absurd HA.out (by simp [rf_Cmp.j1])
     | succ kj17 =>
      have H := HA.out
      clear HA
      simp only [rf_Cmp.j1] at H
      by_cases c25 : x25_17 = true
      ·subst c25
       have H1 : (some 1) = some r := by rw [if_pos rfl] at H; exact H
       clear H
       have H := H1
       clear H1
       obtain rfl := Option.some.inj H
       go_wp2
       go_ret
       exact ⟨zq9, zb2 GE1776.out GE1777.out⟩
      ·replace c25 := Bool.eq_false_iff.mpr c25
       subst c25
       have H1 : (if a0_0 = true then ((rf_CmpNat.f kj17 t1781 t1778).bind fun t1784 => (some t1784)) else ((rf_CmpNat.f kj17 t1778 t1781).bind fun t1785 => (some t1785))) = some r := by rw [if_neg (show ¬ (false = true) by decide)] at H; exact H
       clear H
       have H := H1
       clear H1
       by_cases c26 : a0_0 = true
       ·subst c26
        have H1 : ((rf_CmpNat.f kj17 t1781 t1778).bind fun t1784 => (some t1784)) = some r := by rw [if_pos rfl] at H; exact H
        clear H
        have H := H1
        clear H1
        replace H := zj H
        obtain ⟨t1784, A27, H⟩ := H
        obtain rfl := Option.some.inj H
        have hnb28 := NB1776_1777.out
        have hnc28 := NB1777_1776.out
        have hcz29_0 := bc BK1776.out 0 (.bool true)
        have hcz29_1 := bc BK1776.out 1 (.slice A0_1 l0_1.length c0_1)
        have hcz29_2 := bc BK1776.out 2 (.slice A0_2 l0_2.length c0_2)
        have hfz29_0 := blk_frozen BK1776.out 0
        have hfz29_1 := blk_frozen BK1776.out 1
        have hfz29_2 := blk_frozen BK1776.out 2
        obtain ⟨Ao30, co30, eo30⟩ := Kd.V_slice HO_6.out
        subst eo30
        obtain ⟨Ao31, co31, eo31⟩ := Kd.V_slice HO_5.out
        subst eo31
        go_wp2_with (first | ((with_reducible refine gate_callee (f := 46) rfl ?_); refine goesL_ (some 38) rfl rfl Tryd.func46 (by kernel_rfl) rfl #[.slice Ao30 t1781.length co30, .slice Ao31 t1778.length co31] rfl zq5 ?_; (with_reducible refine (rf_CmpNat.calls kj17 _ _ t1781 _ _ t1778 t1784 _ ?side1 ?side2 ?side3 ?side4 A27.out).mono ?_); (case side1 => exact zc ((Kd.V_reads' HO_6.out).2.2)); (case side2 => exact (Kd.V_reads' HO_6.out).2.1); (case side3 => exact zc ((Kd.V_reads' HO_5.out).2.2)); (case side4 => exact (Kd.V_reads' HO_5.out).2.1); rintro e w32 ⟨rfl, hb⟩; refine ⟨_, rfl, ?_⟩; have n0_ := am (Kd.V_below (zq3 HO_5.out) hb); have n1_ := am (Kd.V_below (zq3 HO_6.out) hb); have n2_ := am (bb BK1776.out hb); have n3_ := am (bb BK1777.out hb); have n4_ := am (below_step (zb2 GE1776.out GE1777.out) hb); clear HO_5 HO_6 BK1776 BK1777 HB; have HO_5 := n0_; have HO_6 := n1_; have BK1776 := n2_; have BK1777 := n3_; have HB := n4_; clear n0_ n1_ n2_ n3_ n4_; (try clear hb); (try clear hb2); (try clear hk); (try clear hi)))
        go_ret
        exact ⟨zq9, zb2 GE1776.out GE1777.out⟩
       ·replace c26 := Bool.eq_false_iff.mpr c26
        subst c26
        have H1 : ((rf_CmpNat.f kj17 t1778 t1781).bind fun t1785 => (some t1785)) = some r := by rw [if_neg (show ¬ (false = true) by decide)] at H; exact H
        clear H
        have H := H1
        clear H1
        replace H := zj H
        obtain ⟨t1785, A33, H⟩ := H
        obtain rfl := Option.some.inj H
        have hnb34 := NB1776_1777.out
        have hnc34 := NB1777_1776.out
        have hcz35_0 := bc BK1776.out 0 (.bool false)
        have hcz35_1 := bc BK1776.out 1 (.slice A0_1 l0_1.length c0_1)
        have hcz35_2 := bc BK1776.out 2 (.slice A0_2 l0_2.length c0_2)
        have hfz35_0 := blk_frozen BK1776.out 0
        have hfz35_1 := blk_frozen BK1776.out 1
        have hfz35_2 := blk_frozen BK1776.out 2
        obtain ⟨Ao36, co36, eo36⟩ := Kd.V_slice HO_5.out
        subst eo36
        obtain ⟨Ao37, co37, eo37⟩ := Kd.V_slice HO_6.out
        subst eo37
        go_wp2_with (first | ((with_reducible refine gate_callee (f := 46) rfl ?_); refine goesL_ (some 41) rfl rfl Tryd.func46 (by kernel_rfl) rfl #[.slice Ao36 t1778.length co36, .slice Ao37 t1781.length co37] rfl zq5 ?_; (with_reducible refine (rf_CmpNat.calls kj17 _ _ t1778 _ _ t1781 t1785 _ ?side1 ?side2 ?side3 ?side4 A33.out).mono ?_); (case side1 => exact zc ((Kd.V_reads' HO_5.out).2.2)); (case side2 => exact (Kd.V_reads' HO_5.out).2.1); (case side3 => exact zc ((Kd.V_reads' HO_6.out).2.2)); (case side4 => exact (Kd.V_reads' HO_6.out).2.1); rintro e w38 ⟨rfl, hb⟩; refine ⟨_, rfl, ?_⟩; have n0_ := am (Kd.V_below (zq3 HO_5.out) hb); have n1_ := am (Kd.V_below (zq3 HO_6.out) hb); have n2_ := am (bb BK1776.out hb); have n3_ := am (bb BK1777.out hb); have n4_ := am (below_step (zb2 GE1776.out GE1777.out) hb); clear HO_5 HO_6 BK1776 BK1777 HB; have HO_5 := n0_; have HO_6 := n1_; have BK1776 := n2_; have BK1777 := n3_; have HB := n4_; clear n0_ n1_ n2_ n3_ n4_; (try clear hb); (try clear hb2); (try clear hk); (try clear hi)))
        go_ret
        exact ⟨zq9, zb2 GE1776.out GE1777.out⟩
end Go.Proofs.YtemnjgkicndmjaaDoor.Q

