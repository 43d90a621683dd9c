/- What this text proves: a part of the walk and of the plain laws of one card; no conditions. -/
import Derived.Test.YtemnjgkicndmjaaDoorOr0
import Derived.ChangeSame
import Derived.Stop.Joined
import Derived.SevenTiedAt
namespace Go.Proofs.YtemnjgkicndmjaaDoor.Q
open Go.RowKit Go.Proofs.YtemnjgkicndmjaaDoorW.PrintWords Go.Proofs.YtemnjgkicndmjaaDoorW.PrintLast Go.Proofs.YtemnjgkicndmjaaDoorW.PrintMore
attribute [local go_sem] max2_int min2_int max_two min_two max_three min_three max_four min_four
set_option linter.unusedVariables false
set_option linter.unusedSimpArgs false
mutual
def lw_NumberOrderIsTotal.j0 : Nat → Bool → Bool → List Int → List Int → Bool → List Int → List Int → Bool → List Int → List Int → Option (Bool)
 | 0, _, _, _, _, _, _, _, _, _, _ => none
 | k + 1, x30, x1787000, x1787001, x1787002, x1788000, x1788001, x1788002, x1789000, x1789001, x1789002 => if x30 = true then ((number_Compare.f k x1787000 x1787001 x1787002 x1788000 x1788001 x1788002).bind fun bt1792 => ((rf_Fault.f k x1787000 x1787001 x1787002).bind fun t1794 => (if t1794 = 0 then ((rf_Fault.f k x1788000 x1788001 x1788002).bind fun t1795 => (if bt1792.2 = t1795 then ((lw_counted.f k).bind fun t1796 => (some t1796)) else (some false))) else (if bt1792.2 = t1794 then ((lw_counted.f k).bind fun t1797 => (some t1797)) else (some false))))) else ((number_Compare.f k x1787000 x1787001 x1787002 x1788000 x1788001 x1788002).bind fun bt1798 => ((number_Compare.f k x1788000 x1788001 x1788002 x1787000 x1787001 x1787002).bind fun bt1800 => ((number_Compare.f k x1788000 x1788001 x1788002 x1789000 x1789001 x1789002).bind fun bt1802 => ((number_Compare.f k x1787000 x1787001 x1787002 x1789000 x1789001 x1789002).bind fun bt1804 => (if bt1798.2 = 0 then (if bt1800.2 = 0 then (if bt1802.2 = 0 then (if bt1804.2 = 0 then (if bt1798.1 = (wrap64 (-bt1800.1)) then ((lw_same.f k x1787000 x1787001 x1787002 x1788000 x1788001 x1788002).bind fun t1806 => (if ((bt1798.1 == 0) != t1806) = true then (lw_NumberOrderIsTotal.j1 k bt1798.1 bt1802.1 bt1804.1 true x1787000 x1787001 x1787002 x1788000 x1788001 x1788002) else (if bt1798.1 < (-1) then (lw_NumberOrderIsTotal.j1 k bt1798.1 bt1802.1 bt1804.1 true x1787000 x1787001 x1787002 x1788000 x1788001 x1788002) else (lw_NumberOrderIsTotal.j1 k bt1798.1 bt1802.1 bt1804.1 (decide (bt1798.1 > 1)) x1787000 x1787001 x1787002 x1788000 x1788001 x1788002)))) else (lw_NumberOrderIsTotal.j1 k bt1798.1 bt1802.1 bt1804.1 true x1787000 x1787001 x1787002 x1788000 x1788001 x1788002)) else (lw_NumberOrderIsTotal.j1 k bt1798.1 bt1802.1 bt1804.1 true x1787000 x1787001 x1787002 x1788000 x1788001 x1788002)) else (lw_NumberOrderIsTotal.j1 k bt1798.1 bt1802.1 bt1804.1 true x1787000 x1787001 x1787002 x1788000 x1788001 x1788002)) else (lw_NumberOrderIsTotal.j1 k bt1798.1 bt1802.1 bt1804.1 true x1787000 x1787001 x1787002 x1788000 x1788001 x1788002)) else (lw_NumberOrderIsTotal.j1 k bt1798.1 bt1802.1 bt1804.1 true x1787000 x1787001 x1787002 x1788000 x1788001 x1788002))))))
def lw_NumberOrderIsTotal.j1 : Nat → Int → Int → Int → Bool → Bool → List Int → List Int → Bool → List Int → List Int → Option (Bool)
 | 0, _, _, _, _, _, _, _, _, _, _ => none
 | k + 1, x10, x14, x16, x108, x1787000, x1787001, x1787002, x1788000, x1788001, x1788002 => if x108 = true then (some false) else (if x10 ≤ 0 then (if x14 ≤ 0 then (if x16 > 0 then (lw_NumberOrderIsTotal.j2 k x10 true x1787000 x1787001 x1787002 x1788000 x1788001 x1788002) else (if x10 < 0 then (if x14 < 0 then (lw_NumberOrderIsTotal.j2 k x10 (x16 != (-1)) x1787000 x1787001 x1787002 x1788000 x1788001 x1788002) else (lw_NumberOrderIsTotal.j2 k x10 false x1787000 x1787001 x1787002 x1788000 x1788001 x1788002)) else (lw_NumberOrderIsTotal.j2 k x10 false x1787000 x1787001 x1787002 x1788000 x1788001 x1788002))) else (if x10 < 0 then (if x14 < 0 then (lw_NumberOrderIsTotal.j2 k x10 (x16 != (-1)) x1787000 x1787001 x1787002 x1788000 x1788001 x1788002) else (lw_NumberOrderIsTotal.j2 k x10 false x1787000 x1787001 x1787002 x1788000 x1788001 x1788002)) else (lw_NumberOrderIsTotal.j2 k x10 false x1787000 x1787001 x1787002 x1788000 x1788001 x1788002))) else (if x10 < 0 then (if x14 < 0 then (lw_NumberOrderIsTotal.j2 k x10 (x16 != (-1)) x1787000 x1787001 x1787002 x1788000 x1788001 x1788002) else (lw_NumberOrderIsTotal.j2 k x10 false x1787000 x1787001 x1787002 x1788000 x1788001 x1788002)) else (lw_NumberOrderIsTotal.j2 k x10 false x1787000 x1787001 x1787002 x1788000 x1788001 x1788002)))
def lw_NumberOrderIsTotal.j2 : Nat → Int → Bool → Bool → List Int → List Int → Bool → List Int → List Int → Option (Bool)
 | 0, _, _, _, _, _, _, _, _ => none
 | k + 1, x10, x130, x1787000, x1787001, x1787002, x1788000, x1788001, x1788002 => if x130 = true then (some false) else ((rf_Of.f k x1787000 x1787001 x1787002).bind fun bt1807 => ((rf_Of.f k x1788000 x1788001 x1788002).bind fun bt1814 => ((rf_Cmp.f k bt1807.1 bt1807.2.1 bt1807.2.2 bt1814.1 bt1814.2.1 bt1814.2.2).bind fun t1821 => (if x10 = t1821 then ((lw_counted.f k).bind fun t1822 => (some t1822)) else (some false)))))
end
def lw_NumberOrderIsTotal.f (k : Nat) (a0_0 : Bool) (l0_1 : List Int) (l0_2 : List Int) (a1_0 : Bool) (l1_1 : List Int) (l1_2 : List Int) (a2_0 : Bool) (l2_1 : List Int) (l2_2 : List Int) : Option (Bool) := (rf_Fault.f k a0_0 l0_1 l0_2).bind fun t1789 => (if t1789 = 0 then ((rf_Fault.f k a1_0 l1_1 l1_2).bind fun t1790 => (if t1790 = 0 then ((rf_Fault.f k a2_0 l2_1 l2_2).bind fun t1791 => (lw_NumberOrderIsTotal.j0 k (t1791 != 0) a0_0 l0_1 l0_2 a1_0 l1_1 l1_2 a2_0 l2_1 l2_2)) else (lw_NumberOrderIsTotal.j0 k true a0_0 l0_1 l0_2 a1_0 l1_1 l1_2 a2_0 l2_1 l2_2))) else (lw_NumberOrderIsTotal.j0 k true a0_0 l0_1 l0_2 a1_0 l1_1 l1_2 a2_0 l2_1 l2_2))
theorem lw_NumberOrderIsTotal.mono_l : ∀ k, (∀ y0 y1 y2 y3 y4 y5 y6 y7 y8 y9, LeO (lw_NumberOrderIsTotal.j0 k y0 y1 y2 y3 y4 y5 y6 y7 y8 y9) (lw_NumberOrderIsTotal.j0 (k + 1) y0 y1 y2 y3 y4 y5 y6 y7 y8 y9)) ∧ (∀ y0 y1 y2 y3 y4 y5 y6 y7 y8 y9, LeO (lw_NumberOrderIsTotal.j1 k y0 y1 y2 y3 y4 y5 y6 y7 y8 y9) (lw_NumberOrderIsTotal.j1 (k + 1) y0 y1 y2 y3 y4 y5 y6 y7 y8 y9)) ∧ (∀ y0 y1 y2 y3 y4 y5 y6 y7, LeO (lw_NumberOrderIsTotal.j2 k y0 y1 y2 y3 y4 y5 y6 y7) (lw_NumberOrderIsTotal.j2 (k + 1) y0 y1 y2 y3 y4 y5 y6 y7))
 | 0 => ⟨fun _ _ _ _ _ _ _ _ _ _ r h => by simp [lw_NumberOrderIsTotal.j0] at h, fun _ _ _ _ _ _ _ _ _ _ r h => by simp [lw_NumberOrderIsTotal.j1] at h, fun _ _ _ _ _ _ _ _ r h => by simp [lw_NumberOrderIsTotal.j2] at h⟩
 | k + 1 => by
  obtain ⟨ih0, ih1, ih2⟩ := lw_NumberOrderIsTotal.mono_l k
  refine ⟨?_, ?_, ?_⟩
  ·intro y0 y1 y2 y3 y4 y5 y6 y7 y8 y9
   unfold lw_NumberOrderIsTotal.j0
   repeat' first
   | (with_reducible exact ih0 _ _ _ _ _ _ _ _ _ _)
   | (with_reducible exact ih1 _ _ _ _ _ _ _ _ _ _)
   | (with_reducible exact ih2 _ _ _ _ _ _ _ _)
   | (with_reducible exact lw_counted.mono _)
   | (with_reducible exact lw_same.mono _ _ _ _ _ _ _)
   | (with_reducible exact rf_Cmp.mono _ _ _ _ _ _ _)
   | (with_reducible exact rf_Fault.mono _ _ _ _)
   | (with_reducible exact rf_Of.mono _ _ _ _)
   | (with_reducible exact number_Compare.mono _ _ _ _ _ _ _)
   | (with_reducible exact LeO.refl _)
   | (with_reducible exact LeO.none _)
   | (with_reducible refine LeO.ite ?_ ?_)
   | (with_reducible refine LeO.bind ?_ (fun _ => ?_))
   | exact ih0 _ _ _ _ _ _ _ _ _ _
   | exact ih1 _ _ _ _ _ _ _ _ _ _
   | exact ih2 _ _ _ _ _ _ _ _
   | exact lw_counted.mono _
   | exact lw_same.mono _ _ _ _ _ _ _
   | exact rf_Cmp.mono _ _ _ _ _ _ _
   | exact rf_Fault.mono _ _ _ _
   | exact rf_Of.mono _ _ _ _
   | exact number_Compare.mono _ _ _ _ _ _ _
   | exact LeO.none _
   | refine LeO.ite ?_ ?_
   | refine LeO.bind ?_ (fun _ => ?_)
  ·intro y0 y1 y2 y3 y4 y5 y6 y7 y8 y9
   unfold lw_NumberOrderIsTotal.j1
   repeat' first
   | (with_reducible exact ih0 _ _ _ _ _ _ _ _ _ _)
   | (with_reducible exact ih1 _ _ _ _ _ _ _ _ _ _)
   | (with_reducible exact ih2 _ _ _ _ _ _ _ _)
   | (with_reducible exact lw_counted.mono _)
   | (with_reducible exact lw_same.mono _ _ _ _ _ _ _)
   | (with_reducible exact rf_Cmp.mono _ _ _ _ _ _ _)
   | (with_reducible exact rf_Fault.mono _ _ _ _)
   | (with_reducible exact rf_Of.mono _ _ _ _)
   | (with_reducible exact number_Compare.mono _ _ _ _ _ _ _)
   | (with_reducible exact LeO.refl _)
   | (with_reducible exact LeO.none _)
   | (with_reducible refine LeO.ite ?_ ?_)
   | (with_reducible refine LeO.bind ?_ (fun _ => ?_))
   | exact ih0 _ _ _ _ _ _ _ _ _ _
   | exact ih1 _ _ _ _ _ _ _ _ _ _
   | exact ih2 _ _ _ _ _ _ _ _
   | exact lw_counted.mono _
   | exact lw_same.mono _ _ _ _ _ _ _
   | exact rf_Cmp.mono _ _ _ _ _ _ _
   | exact rf_Fault.mono _ _ _ _
   | exact rf_Of.mono _ _ _ _
   | exact number_Compare.mono _ _ _ _ _ _ _
   | exact LeO.none _
   | refine LeO.ite ?_ ?_
   | refine LeO.bind ?_ (fun _ => ?_)
  ·intro y0 y1 y2 y3 y4 y5 y6 y7
   unfold lw_NumberOrderIsTotal.j2
   repeat' first
   | (with_reducible exact ih0 _ _ _ _ _ _ _ _ _ _)
   | (with_reducible exact ih1 _ _ _ _ _ _ _ _ _ _)
   | (with_reducible exact ih2 _ _ _ _ _ _ _ _)
   | (with_reducible exact lw_counted.mono _)
   | (with_reducible exact lw_same.mono _ _ _ _ _ _ _)
   | (with_reducible exact rf_Cmp.mono _ _ _ _ _ _ _)
   | (with_reducible exact rf_Fault.mono _ _ _ _)
   | (with_reducible exact rf_Of.mono _ _ _ _)
   | (with_reducible exact number_Compare.mono _ _ _ _ _ _ _)
   | (with_reducible exact LeO.refl _)
   | (with_reducible exact LeO.none _)
   | (with_reducible refine LeO.ite ?_ ?_)
   | (with_reducible refine LeO.bind ?_ (fun _ => ?_))
   | exact ih0 _ _ _ _ _ _ _ _ _ _
   | exact ih1 _ _ _ _ _ _ _ _ _ _
   | exact ih2 _ _ _ _ _ _ _ _
   | exact lw_counted.mono _
   | exact lw_same.mono _ _ _ _ _ _ _
   | exact rf_Cmp.mono _ _ _ _ _ _ _
   | exact rf_Fault.mono _ _ _ _
   | exact rf_Of.mono _ _ _ _
   | exact number_Compare.mono _ _ _ _ _ _ _
   | exact LeO.none _
   | refine LeO.ite ?_ ?_
   | refine LeO.bind ?_ (fun _ => ?_)
theorem lw_NumberOrderIsTotal.mono : ∀ a0 a1 a2 a3 a4 a5 a6 a7 a8 k, LeO (lw_NumberOrderIsTotal.f k a0 a1 a2 a3 a4 a5 a6 a7 a8) (lw_NumberOrderIsTotal.f (k + 1) a0 a1 a2 a3 a4 a5 a6 a7 a8) := by
 intro a0 a1 a2 a3 a4 a5 a6 a7 a8 k
 obtain ⟨ih0, ih1, ih2⟩ := lw_NumberOrderIsTotal.mono_l k
 unfold lw_NumberOrderIsTotal.f
 repeat' first
   | (with_reducible exact ih0 _ _ _ _ _ _ _ _ _ _)
   | (with_reducible exact ih1 _ _ _ _ _ _ _ _ _ _)
   | (with_reducible exact ih2 _ _ _ _ _ _ _ _)
   | (with_reducible exact lw_counted.mono _)
   | (with_reducible exact lw_same.mono _ _ _ _ _ _ _)
   | (with_reducible exact rf_Cmp.mono _ _ _ _ _ _ _)
   | (with_reducible exact rf_Fault.mono _ _ _ _)
   | (with_reducible exact rf_Of.mono _ _ _ _)
   | (with_reducible exact number_Compare.mono _ _ _ _ _ _ _)
   | (with_reducible exact LeO.refl _)
   | (with_reducible exact LeO.none _)
   | (with_reducible refine LeO.ite ?_ ?_)
   | (with_reducible refine LeO.bind ?_ (fun _ => ?_))
   | exact ih0 _ _ _ _ _ _ _ _ _ _
   | exact ih1 _ _ _ _ _ _ _ _ _ _
   | exact ih2 _ _ _ _ _ _ _ _
   | exact lw_counted.mono _
   | exact lw_same.mono _ _ _ _ _ _ _
   | exact rf_Cmp.mono _ _ _ _ _ _ _
   | exact rf_Fault.mono _ _ _ _
   | exact rf_Of.mono _ _ _ _
   | exact number_Compare.mono _ _ _ _ _ _ _
   | exact LeO.none _
   | refine LeO.ite ?_ ?_
   | refine LeO.bind ?_ (fun _ => ?_)
def lw_NumberOrderIsTotal.T15 : Bool × List (List Nat × List Nat) := (true, [([], []), ([], []), ([1], [1]), ([], []), ([3, 2], [3]), ([2, 4, 4], [2, 4]), ([0, 5], [0, 5]), ([6, 5], [6]), ([7, 7], [7]), ([7, 8], [7, 8]), ([9, 8, 0, 1, 2, 3, 4, 5, 6, 7, 8, 9], [9])])
def lw_NumberOrderIsTotal.B15 : List Nat := [0, 0, 2, 0, 14, 30, 63, 127, 255, 511, 1023]
theorem lw_NumberOrderIsTotal.tab15 : rtab .any (opsOf Tryd.f6 15) = lw_NumberOrderIsTotal.T15 := by kernel_rfl
theorem lw_NumberOrderIsTotal.bits15 : waitsOk lw_NumberOrderIsTotal.T15.2 lw_NumberOrderIsTotal.B15 = true := by kernel_rfl
set_option maxHeartbeats 8000000 in
set_option maxRecDepth 100000 in
theorem lw_NumberOrderIsTotal.calls (k : Nat) (a0_0 : Bool) (A0_1 : Option Addr) (c0_1 : Nat) (l0_1 : List Int) (A0_2 : Option Addr) (c0_2 : Nat) (l0_2 : List Int) (a1_0 : Bool) (A1_1 : Option Addr) (c1_1 : Nat) (l1_1 : List Int) (A1_2 : Option Addr) (c1_2 : Nat) (l1_2 : List Int) (a2_0 : Bool) (A2_1 : Option Addr) (c2_1 : Nat) (l2_1 : List Int) (A2_2 : Option Addr) (c2_2 : Nat) (l2_2 : List Int) (r : Bool) (w : World) (hr0_1 : Kd.C (Kd.int .u32) w A0_1 l0_1.length l0_1) (hc0_1 : l0_1.length ≤ c0_1) (hr0_2 : Kd.C (Kd.int .u32) w A0_2 l0_2.length l0_2) (hc0_2 : l0_2.length ≤ c0_2) (hr1_1 : Kd.C (Kd.int .u32) w A1_1 l1_1.length l1_1) (hc1_1 : l1_1.length ≤ c1_1) (hr1_2 : Kd.C (Kd.int .u32) w A1_2 l1_2.length l1_2) (hc1_2 : l1_2.length ≤ c1_2) (hr2_1 : Kd.C (Kd.int .u32) w A2_1 l2_1.length l2_1) (hc2_1 : l2_1.length ≤ c2_1) (hr2_2 : Kd.C (Kd.int .u32) w A2_2 l2_2.length l2_2) (hc2_2 : l2_2.length ≤ c2_2) (h : lw_NumberOrderIsTotal.f k a0_0 l0_1 l0_2 a1_0 l1_1 l1_2 a2_0 l2_1 l2_2 = some r) (hr : r = true := by assumption) :
  Calls Tryd.prog 6 #[.agg #[.bool a0_0, .slice A0_1 l0_1.length c0_1, .slice A0_2 l0_2.length c0_2], .agg #[.bool a1_0, .slice A1_1 l1_1.length c1_1, .slice A1_2 l1_2.length c1_2], .agg #[.bool a2_0, .slice A2_1 l2_1.length c2_1, .slice A2_2 l2_2.length c2_2]] w fun e w' => e = .returned (.bool r) ∧ Below w.heap.size w w' := by
 have hu24 := Tryd.underlying24
 have HR0_1 := am hr0_1
 have HC0_1 := am hc0_1
 clear hr0_1 hc0_1
 have HR0_2 := am hr0_2
 have HC0_2 := am hc0_2
 clear hr0_2 hc0_2
 have HR1_1 := am hr1_1
 have HC1_1 := am hc1_1
 clear hr1_1 hc1_1
 have HR1_2 := am hr1_2
 have HC1_2 := am hc1_2
 clear hr1_2 hc1_2
 have HR2_1 := am hr2_1
 have HC2_1 := am hc2_1
 clear hr2_1 hc2_1
 have HR2_2 := am hr2_2
 have HC2_2 := am hc2_2
 clear hr2_2 hc2_2
 have HB := am (Below.refl w.heap.size w)
 have H := h
 unfold lw_NumberOrderIsTotal.f at H
 clear h
 have HC4 := am H
 clear H
 go_enter Tryd.func6, Tryd.ntmps6
 go_upto_region 1 with (first | ((with_reducible refine gate_dst (N := 3) rfl ?_); refine zbox (N := 3) (cs := #[.bool a0_0, .slice A0_1 l0_1.length c0_1, .slice A0_2 l0_2.length c0_2]) (t := 24) ?_; intro gb1786 hg w5 hbox hb; have n0_ := am (below_step zq1 hb); have n1_ := am (hbox); have n2_ := am ((zs hg (below_size zq1) : w.heap.size ≤ gb1786)); have n3_ := n2_; clear HB; have HB := n0_; have BK1786 := n1_; have GW1786 := n2_; have GE1786 := n3_; clear n0_ n1_ n2_ n3_; clear hb hbox hg) | ((with_reducible refine gate_dst (N := 4) rfl ?_); refine zbox (N := 4) (cs := #[.bool a1_0, .slice A1_1 l1_1.length c1_1, .slice A1_2 l1_2.length c1_2]) (t := 24) ?_; intro gb1787 hg w6 hbox hb; have n0_ := am (bb BK1786.out hb); have n1_ := am (below_step (zb1 GE1786.out) hb); have n2_ := am (hbox); have n3_ := am ((zs hg (below_size (zb1 GE1786.out)) : w.heap.size ≤ gb1787)); have n4_ := n3_; have n5_ := am ((by rw [hg]; exact Nat.ne_of_lt (bl BK1786.out) : gb1786 ≠ gb1787)); have n6_ := am ((by rw [hg]; exact Nat.ne_of_gt (bl BK1786.out) : gb1787 ≠ gb1786)); clear BK1786 HB; have BK1786 := n0_; have HB := n1_; have BK1787 := n2_; have GW1787 := n3_; have GE1787 := n4_; have NB1786_1787 := n5_; have NB1787_1786 := n6_; clear n0_ n1_ n2_ n3_ n4_ n5_ n6_; clear hb hbox hg) | ((with_reducible refine gate_dst (N := 5) rfl ?_); refine zbox (N := 5) (cs := #[.bool a2_0, .slice A2_1 l2_1.length c2_1, .slice A2_2 l2_2.length c2_2]) (t := 24) ?_; intro gb1788 hg w7 hbox hb; have n0_ := am (bb BK1786.out hb); have n1_ := am (bb BK1787.out hb); have n2_ := am (below_step (zb2 GE1786.out GE1787.out) hb); have n3_ := am (hbox); have n4_ := am ((zs hg (below_size (zb2 GE1786.out GE1787.out)) : w.heap.size ≤ gb1788)); have n5_ := n4_; have n6_ := am ((by rw [hg]; exact Nat.ne_of_lt (bl BK1786.out) : gb1786 ≠ gb1788)); have n7_ := am ((by rw [hg]; exact Nat.ne_of_gt (bl BK1786.out) : gb1788 ≠ gb1786)); have n8_ := am ((by rw [hg]; exact Nat.ne_of_lt (bl BK1787.out) : gb1787 ≠ gb1788)); have n9_ := am ((by rw [hg]; exact Nat.ne_of_gt (bl BK1787.out) : gb1788 ≠ gb1787)); clear BK1786 BK1787 HB; have BK1786 := n0_; have BK1787 := n1_; have HB := n2_; have BK1788 := n3_; have GW1788 := n4_; have GE1788 := n5_; have NB1786_1788 := n6_; have NB1788_1786 := n7_; have NB1787_1788 := n8_; have NB1788_1787 := n9_; clear n0_ n1_ n2_ n3_ n4_ n5_ n6_ n7_ n8_ n9_; clear hb hbox hg))
 (try simp only [Act.put, List.setIfInBounds_toArray, List.set_cons_zero, List.set_cons_succ])
 go_cut [30] (fun v30 wc => ∃ (kq : Nat) (x30_3 : Bool), v30 = .bool x30_3 ∧ Aside0 (lw_NumberOrderIsTotal.j0 kq x30_3 a0_0 l0_1 l0_2 a1_0 l1_1 l1_2 a2_0 l2_1 l2_2 = some r) ∧ Aside0 (kq ≤ k) ∧ Aside0 (wc.heap[gb1786]? = some (.cells #[.bool a0_0, (.slice A0_1 l0_1.length c0_1), (.slice A0_2 l0_2.length c0_2)] 24 (0, 0))) ∧ Aside0 (wc.heap[gb1787]? = some (.cells #[.bool a1_0, (.slice A1_1 l1_1.length c1_1), (.slice A1_2 l1_2.length c1_2)] 24 (0, 0))) ∧ Aside0 (wc.heap[gb1788]? = some (.cells #[.bool a2_0, (.slice A2_1 l2_1.length c2_1), (.slice A2_2 l2_2.length c2_2)] 24 (0, 0))) ∧ Aside0 (Below w.heap.size w wc))
 case first =>
  have H := HC4.out
  clear HC4
  replace H := zj H
  obtain ⟨t1789, A8, H⟩ := H
  by_cases c9 : t1789 = 0
  ·rw [if_pos c9] at H
   have c9b0 : (t1789 == 0) = true := beq_iff_eq.mpr c9
   have c9b1 : (t1789 != 0) = false := bne_eq_false_iff_eq.mpr c9
   clear c9
   (first | rw [c9b0] | (simp only [i64_w, i32_w]; rw [c9b0]) | skip)
   replace H := zj H
   obtain ⟨t1790, A10, H⟩ := H
   by_cases c11 : t1790 = 0
   ·rw [if_pos c11] at H
    have c11b0 : (t1790 == 0) = true := beq_iff_eq.mpr c11
    have c11b1 : (t1790 != 0) = false := bne_eq_false_iff_eq.mpr c11
    clear c11
    replace H := zj H
    obtain ⟨t1791, A12, H⟩ := H
    have H' := am H
    clear H
    have hnb13 := NB1786_1787.out
    have hnc13 := NB1787_1786.out
    have hnb14 := NB1786_1788.out
    have hnc14 := NB1788_1786.out
    have hcz15_0 := bc BK1786.out 0 (.bool a0_0)
    have hcz15_1 := bc BK1786.out 1 (.slice A0_1 l0_1.length c0_1)
    have hcz15_2 := bc BK1786.out 2 (.slice A0_2 l0_2.length c0_2)
    have hfz15_0 := blk_frozen BK1786.out 0
    have hfz15_1 := blk_frozen BK1786.out 1
    have hfz15_2 := blk_frozen BK1786.out 2
    go_wp2_with (first | ((with_reducible refine gate_callee (f := 15) rfl ?_); refine goesL_ (some 19) rfl rfl Tryd.func15 (by kernel_rfl) rfl #[.agg #[.bool a0_0, .slice A0_1 l0_1.length c0_1, .slice A0_2 l0_2.length c0_2]] rfl zq5 ?_; (with_reducible refine (rf_Fault.calls k a0_0 _ _ l0_1 _ _ l0_2 t1789 _ ?side1 ?side2 ?side3 ?side4 A8.out).mono ?_); (case side1 => exact zc (Kd.C_below HR0_1.out HB.out)); (case side2 => exact HC0_1.out); (case side3 => exact zc (Kd.C_below HR0_2.out HB.out)); (case side4 => exact HC0_2.out); rintro e w16 ⟨rfl, hb⟩; refine ⟨_, rfl, ?_⟩; have n0_ := am (bb BK1786.out hb); have n1_ := am (bb BK1787.out hb); have n2_ := am (bb BK1788.out hb); have n3_ := am (below_step (zb3 GE1786.out GE1787.out GE1788.out) hb); clear BK1786 BK1787 BK1788 HB; have BK1786 := n0_; have BK1787 := n1_; have BK1788 := n2_; have HB := n3_; clear n0_ n1_ n2_ n3_; (try clear hb); (try clear hb2); (try clear hk); (try clear hi); have hnb17 := NB1787_1788.out; have hnc17 := NB1788_1787.out; have hcz18_0 := bc BK1787.out 0 (.bool a1_0); have hcz18_1 := bc BK1787.out 1 (.slice A1_1 l1_1.length c1_1); have hcz18_2 := bc BK1787.out 2 (.slice A1_2 l1_2.length c1_2); have hfz18_0 := blk_frozen BK1787.out 0; have hfz18_1 := blk_frozen BK1787.out 1; have hfz18_2 := blk_frozen BK1787.out 2) | (go_at_call 15; (with_reducible refine (rf_Fault.calls k a1_0 _ _ l1_1 _ _ l1_2 t1790 _ ?side1 ?side2 ?side3 ?side4 A10.out).mono ?_); (case side1 => exact zc (Kd.C_below HR1_1.out HB.out)); (case side2 => exact HC1_1.out); (case side3 => exact zc (Kd.C_below HR1_2.out HB.out)); (case side4 => exact HC1_2.out); rintro e w19 ⟨rfl, hb⟩; have n0_ := am (bb BK1786.out hb); have n1_ := am (bb BK1787.out hb); have n2_ := am (bb BK1788.out hb); have n3_ := am (below_step (zb3 GE1786.out GE1787.out GE1788.out) hb); clear BK1786 BK1787 BK1788 HB; have BK1786 := n0_; have BK1787 := n1_; have BK1788 := n2_; have HB := n3_; clear n0_ n1_ n2_ n3_; (try clear hb); (try clear hb2); (try clear hk); (try clear hi); have hcz20_0 := bc BK1788.out 0 (.bool a2_0); have hcz20_1 := bc BK1788.out 1 (.slice A2_1 l2_1.length c2_1); have hcz20_2 := bc BK1788.out 2 (.slice A2_2 l2_2.length c2_2); have hfz20_0 := blk_frozen BK1788.out 0; have hfz20_1 := blk_frozen BK1788.out 1; have hfz20_2 := blk_frozen BK1788.out 2) | (go_at_call 15; (with_reducible refine (rf_Fault.calls k a2_0 _ _ l2_1 _ _ l2_2 t1791 _ ?side1 ?side2 ?side3 ?side4 A12.out).mono ?_); (case side1 => exact zc (Kd.C_below HR2_1.out HB.out)); (case side2 => exact HC2_1.out); (case side3 => exact zc (Kd.C_below HR2_2.out HB.out)); (case side4 => exact HC2_2.out); rintro e w21 ⟨rfl, hb⟩; have n0_ := am (bb BK1786.out hb); have n1_ := am (bb BK1787.out hb); have n2_ := am (bb BK1788.out hb); have n3_ := am (below_step (zb3 GE1786.out GE1787.out GE1788.out) hb); clear BK1786 BK1787 BK1788 HB; have BK1786 := n0_; have BK1787 := n1_; have BK1788 := n2_; have HB := n3_; clear n0_ n1_ n2_ n3_; (try clear hb); (try clear hb2); (try clear hk); (try clear hi)))
    go_meet
    case rel => exact ⟨_, ((t1791 != 0)), zq8, H', ⟨by first | omega | exact Nat.le_refl _⟩, ⟨zq2 BK1786.out⟩, ⟨zq2 BK1787.out⟩, ⟨zq2 BK1788.out⟩, ⟨zb3 GE1786.out GE1787.out GE1788.out⟩⟩
   ·rw [if_neg c11] at H
    have c11b0 : (t1790 == 0) = false := beq_eq_false_iff_ne.mpr c11
    have c11b1 : (t1790 != 0) = true := bne_iff_ne.mpr c11
    have H' := am H
    clear H
    have hnb22 := NB1786_1787.out
    have hnc22 := NB1787_1786.out
    have hnb23 := NB1786_1788.out
    have hnc23 := NB1788_1786.out
    have hcz24_0 := bc BK1786.out 0 (.bool a0_0)
    have hcz24_1 := bc BK1786.out 1 (.slice A0_1 l0_1.length c0_1)
    have hcz24_2 := bc BK1786.out 2 (.slice A0_2 l0_2.length c0_2)
    have hfz24_0 := blk_frozen BK1786.out 0
    have hfz24_1 := blk_frozen BK1786.out 1
    have hfz24_2 := blk_frozen BK1786.out 2
    go_wp2_with (first | ((with_reducible refine gate_callee (f := 15) rfl ?_); refine goesL_ (some 19) rfl rfl Tryd.func15 (by kernel_rfl) rfl #[.agg #[.bool a0_0, .slice A0_1 l0_1.length c0_1, .slice A0_2 l0_2.length c0_2]] rfl zq5 ?_; (with_reducible refine (rf_Fault.calls k a0_0 _ _ l0_1 _ _ l0_2 t1789 _ ?side1 ?side2 ?side3 ?side4 A8.out).mono ?_); (case side1 => exact zc (Kd.C_below HR0_1.out HB.out)); (case side2 => exact HC0_1.out); (case side3 => exact zc (Kd.C_below HR0_2.out HB.out)); (case side4 => exact HC0_2.out); rintro e w25 ⟨rfl, hb⟩; refine ⟨_, rfl, ?_⟩; have n0_ := am (bb BK1786.out hb); have n1_ := am (bb BK1787.out hb); have n2_ := am (bb BK1788.out hb); have n3_ := am (below_step (zb3 GE1786.out GE1787.out GE1788.out) hb); clear BK1786 BK1787 BK1788 HB; have BK1786 := n0_; have BK1787 := n1_; have BK1788 := n2_; have HB := n3_; clear n0_ n1_ n2_ n3_; (try clear hb); (try clear hb2); (try clear hk); (try clear hi); have hnb26 := NB1787_1788.out; have hnc26 := NB1788_1787.out; have hcz27_0 := bc BK1787.out 0 (.bool a1_0); have hcz27_1 := bc BK1787.out 1 (.slice A1_1 l1_1.length c1_1); have hcz27_2 := bc BK1787.out 2 (.slice A1_2 l1_2.length c1_2); have hfz27_0 := blk_frozen BK1787.out 0; have hfz27_1 := blk_frozen BK1787.out 1; have hfz27_2 := blk_frozen BK1787.out 2) | (go_at_call 15; (with_reducible refine (rf_Fault.calls k a1_0 _ _ l1_1 _ _ l1_2 t1790 _ ?side1 ?side2 ?side3 ?side4 A10.out).mono ?_); (case side1 => exact zc (Kd.C_below HR1_1.out HB.out)); (case side2 => exact HC1_1.out); (case side3 => exact zc (Kd.C_below HR1_2.out HB.out)); (case side4 => exact HC1_2.out); rintro e w28 ⟨rfl, hb⟩; have n0_ := am (bb BK1786.out hb); have n1_ := am (bb BK1787.out hb); have n2_ := am (bb BK1788.out hb); have n3_ := am (below_step (zb3 GE1786.out GE1787.out GE1788.out) hb); clear BK1786 BK1787 BK1788 HB; have BK1786 := n0_; have BK1787 := n1_; have BK1788 := n2_; have HB := n3_; clear n0_ n1_ n2_ n3_; (try clear hb); (try clear hb2); (try clear hk); (try clear hi)))
    go_meet
    case rel => exact ⟨_, (true), zq8, H', ⟨by first | omega | exact Nat.le_refl _⟩, ⟨zq2 BK1786.out⟩, ⟨zq2 BK1787.out⟩, ⟨zq2 BK1788.out⟩, ⟨zb3 GE1786.out GE1787.out GE1788.out⟩⟩
  ·rw [if_neg c9] at H
   have c9b0 : (t1789 == 0) = false := beq_eq_false_iff_ne.mpr c9
   have c9b1 : (t1789 != 0) = true := bne_iff_ne.mpr c9
   (first | rw [c9b0] | (simp only [i64_w, i32_w]; rw [c9b0]) | skip)
   have H' := am H
   clear H
   have hnb29 := NB1786_1787.out
   have hnc29 := NB1787_1786.out
   have hnb30 := NB1786_1788.out
   have hnc30 := NB1788_1786.out
   have hcz31_0 := bc BK1786.out 0 (.bool a0_0)
   have hcz31_1 := bc BK1786.out 1 (.slice A0_1 l0_1.length c0_1)
   have hcz31_2 := bc BK1786.out 2 (.slice A0_2 l0_2.length c0_2)
   have hfz31_0 := blk_frozen BK1786.out 0
   have hfz31_1 := blk_frozen BK1786.out 1
   have hfz31_2 := blk_frozen BK1786.out 2
   go_wp2_with (first | ((with_reducible refine gate_callee (f := 15) rfl ?_); refine goesL_ (some 19) rfl rfl Tryd.func15 (by kernel_rfl) rfl #[.agg #[.bool a0_0, .slice A0_1 l0_1.length c0_1, .slice A0_2 l0_2.length c0_2]] rfl zq5 ?_; (with_reducible refine (rf_Fault.calls k a0_0 _ _ l0_1 _ _ l0_2 t1789 _ ?side1 ?side2 ?side3 ?side4 A8.out).mono ?_); (case side1 => exact zc (Kd.C_below HR0_1.out HB.out)); (case side2 => exact HC0_1.out); (case side3 => exact zc (Kd.C_below HR0_2.out HB.out)); (case side4 => exact HC0_2.out); rintro e w32 ⟨rfl, hb⟩; refine ⟨_, rfl, ?_⟩; have n0_ := am (bb BK1786.out hb); have n1_ := am (bb BK1787.out hb); have n2_ := am (bb BK1788.out hb); have n3_ := am (below_step (zb3 GE1786.out GE1787.out GE1788.out) hb); clear BK1786 BK1787 BK1788 HB; have BK1786 := n0_; have BK1787 := n1_; have BK1788 := n2_; have HB := n3_; clear n0_ n1_ n2_ n3_; (try clear hb); (try clear hb2); (try clear hk); (try clear hi)))
   go_meet
   case rel => exact ⟨_, (true), zq8, H', ⟨by first | omega | exact Nat.le_refl _⟩, ⟨zq2 BK1786.out⟩, ⟨zq2 BK1787.out⟩, ⟨zq2 BK1788.out⟩, ⟨zb3 GE1786.out GE1787.out GE1788.out⟩⟩
 case rest =>
  clear HC4
  obtain ⟨kq, x30_3, rfl, HA, HJ3, BK1786, BK1787, BK1788, HB⟩ := hcut
  cases kq with
  | zero => exact absurd HA.out (by simp [lw_NumberOrderIsTotal.j0])
  | succ kj3 =>
   have H := HA.out
   clear HA
   simp only [lw_NumberOrderIsTotal.j0] at H
   by_cases c33 : x30_3 = true
   ·subst c33
    have H1 : ((number_Compare.f kj3 a0_0 l0_1 l0_2 a1_0 l1_1 l1_2).bind fun bt1792 => ((rf_Fault.f kj3 a0_0 l0_1 l0_2).bind fun t1794 => (if t1794 = 0 then ((rf_Fault.f kj3 a1_0 l1_1 l1_2).bind fun t1795 => (if bt1792.2 = t1795 then ((lw_counted.f kj3).bind fun t1796 => (some t1796)) else (some false))) else (if bt1792.2 = t1794 then ((lw_counted.f kj3).bind fun t1797 => (some t1797)) else (some false))))) = some r := by rw [if_pos rfl] at H; exact H
    clear H
    have H := H1
    clear H1
    replace H := zj H
    obtain ⟨⟨t1792, t1793⟩, A34, H⟩ := H
    try dsimp only at H
    replace H := zj H
    obtain ⟨t1794, A35, H⟩ := H
    by_cases c36 : t1794 = 0
    ·rw [if_pos c36] at H
     have c36b0 : (t1794 == 0) = true := beq_iff_eq.mpr c36
     have c36b1 : (t1794 != 0) = false := bne_eq_false_iff_eq.mpr c36
     clear c36
     replace H := zj H
     obtain ⟨t1795, A37, H⟩ := H
     by_cases c38 : t1793 = t1795
     ·rw [if_pos c38] at H
      have c38b0 : (t1793 == t1795) = true := beq_iff_eq.mpr c38
      have c38b1 : (t1793 != t1795) = false := bne_eq_false_iff_eq.mpr c38
      clear c38
      replace H := zj H
      obtain ⟨t1796, A39, H⟩ := H
      obtain rfl := Option.some.inj H
      have hnb40 := NB1786_1787.out
      have hnc40 := NB1787_1786.out
      have hnb41 := NB1786_1788.out
      have hnc41 := NB1788_1786.out
      have hcz42_0 := bc BK1786.out 0 (.bool a0_0)
      have hcz42_1 := bc BK1786.out 1 (.slice A0_1 l0_1.length c0_1)
      have hcz42_2 := bc BK1786.out 2 (.slice A0_2 l0_2.length c0_2)
      have hfz42_0 := blk_frozen BK1786.out 0
      have hfz42_1 := blk_frozen BK1786.out 1
      have hfz42_2 := blk_frozen BK1786.out 2
      have hnb43 := NB1787_1788.out
      have hnc43 := NB1788_1787.out
      have hcz44_0 := bc BK1787.out 0 (.bool a1_0)
      have hcz44_1 := bc BK1787.out 1 (.slice A1_1 l1_1.length c1_1)
      have hcz44_2 := bc BK1787.out 2 (.slice A1_2 l1_2.length c1_2)
      have hfz44_0 := blk_frozen BK1787.out 0
      have hfz44_1 := blk_frozen BK1787.out 1
      have hfz44_2 := blk_frozen BK1787.out 2
      go_wp2_with (first | ((with_reducible refine gate_callee (f := 22) rfl ?_); refine goesL_ (some 34) rfl rfl Tryd.func22 (by kernel_rfl) rfl #[.agg #[.bool a0_0, .slice A0_1 l0_1.length c0_1, .slice A0_2 l0_2.length c0_2], .agg #[.bool a1_0, .slice A1_1 l1_1.length c1_1, .slice A1_2 l1_2.length c1_2]] rfl zq5 ?_; (with_reducible refine (number_Compare.calls kj3 a0_0 (fun k_ => k_ < w.heap.size) _ _ l0_1 (fun k_ => k_ < w.heap.size) _ _ l0_2 a1_0 (fun k_ => k_ < w.heap.size) _ _ l1_1 (fun k_ => k_ < w.heap.size) _ _ l1_2 t1792 t1793 _ ?side1 ?side2 ?side3 ?side4 A34.out).mono ?_); (case side1 => exact Kd.V_mk HC0_1.out (Kd.F_below (Kd.C_F (Kd.heap_int .u32) HR0_1.out) (zb3 GE1786.out GE1787.out GE1788.out))); (case side2 => exact Kd.V_mk HC0_2.out (Kd.F_below (Kd.C_F (Kd.heap_int .u32) HR0_2.out) (zb3 GE1786.out GE1787.out GE1788.out))); (case side3 => exact Kd.V_mk HC1_1.out (Kd.F_below (Kd.C_F (Kd.heap_int .u32) HR1_1.out) (zb3 GE1786.out GE1787.out GE1788.out))); (case side4 => exact Kd.V_mk HC1_2.out (Kd.F_below (Kd.C_F (Kd.heap_int .u32) HR1_2.out) (zb3 GE1786.out GE1787.out GE1788.out))); rintro e w45 ⟨rfl, hb⟩; refine ⟨_, rfl, ?_⟩; have n0_ := am (bb BK1786.out hb); have n1_ := am (bb BK1787.out hb); have n2_ := am (bb BK1788.out hb); have n3_ := am (below_step (zb3 GE1786.out GE1787.out GE1788.out) hb); clear BK1786 BK1787 BK1788 HB; have BK1786 := n0_; have BK1787 := n1_; have BK1788 := n2_; have HB := n3_; clear n0_ n1_ n2_ n3_; (try clear hb); (try clear hb2); (try clear hk); (try clear hi); have hcz46_0 := bc BK1786.out 0 (.bool a0_0); have hcz46_1 := bc BK1786.out 1 (.slice A0_1 l0_1.length c0_1); have hcz46_2 := bc BK1786.out 2 (.slice A0_2 l0_2.length c0_2); have hfz46_0 := blk_frozen BK1786.out 0; have hfz46_1 := blk_frozen BK1786.out 1; have hfz46_2 := blk_frozen BK1786.out 2) | ((with_reducible refine gate_callee (f := 15) rfl ?_); refine goesL_ (some 38) rfl rfl Tryd.func15 (by kernel_rfl) rfl #[.agg #[.bool a0_0, .slice A0_1 l0_1.length c0_1, .slice A0_2 l0_2.length c0_2]] rfl zq5 ?_; (with_reducible refine (rf_Fault.calls kj3 a0_0 _ _ l0_1 _ _ l0_2 t1794 _ ?side1 ?side2 ?side3 ?side4 A35.out).mono ?_); (case side1 => exact zc (Kd.C_below HR0_1.out HB.out)); (case side2 => exact HC0_1.out); (case side3 => exact zc (Kd.C_below HR0_2.out HB.out)); (case side4 => exact HC0_2.out); rintro e w47 ⟨rfl, hb⟩; refine ⟨_, rfl, ?_⟩; have n0_ := am (bb BK1786.out hb); have n1_ := am (bb BK1787.out hb); have n2_ := am (bb BK1788.out hb); have n3_ := am (below_step (zb3 GE1786.out GE1787.out GE1788.out) hb); clear BK1786 BK1787 BK1788 HB; have BK1786 := n0_; have BK1787 := n1_; have BK1788 := n2_; have HB := n3_; clear n0_ n1_ n2_ n3_; (try clear hb); (try clear hb2); (try clear hk); (try clear hi); have hcz48_0 := bc BK1787.out 0 (.bool a1_0); have hcz48_1 := bc BK1787.out 1 (.slice A1_1 l1_1.length c1_1); have hcz48_2 := bc BK1787.out 2 (.slice A1_2 l1_2.length c1_2); have hfz48_0 := blk_frozen BK1787.out 0; have hfz48_1 := blk_frozen BK1787.out 1; have hfz48_2 := blk_frozen BK1787.out 2) | ((with_reducible refine gate_callee (f := 15) rfl ?_); refine goesL_ (some 42) rfl rfl Tryd.func15 (by kernel_rfl) rfl #[.agg #[.bool a1_0, .slice A1_1 l1_1.length c1_1, .slice A1_2 l1_2.length c1_2]] rfl zq5 ?_; (with_reducible refine (rf_Fault.calls kj3 a1_0 _ _ l1_1 _ _ l1_2 t1795 _ ?side1 ?side2 ?side3 ?side4 A37.out).mono ?_); (case side1 => exact zc (Kd.C_below HR1_1.out HB.out)); (case side2 => exact HC1_1.out); (case side3 => exact zc (Kd.C_below HR1_2.out HB.out)); (case side4 => exact HC1_2.out); rintro e w49 ⟨rfl, hb⟩; refine ⟨_, rfl, ?_⟩; have n0_ := am (bb BK1786.out hb); have n1_ := am (bb BK1787.out hb); have n2_ := am (bb BK1788.out hb); have n3_ := am (below_step (zb3 GE1786.out GE1787.out GE1788.out) hb); clear BK1786 BK1787 BK1788 HB; have BK1786 := n0_; have BK1787 := n1_; have BK1788 := n2_; have HB := n3_; clear n0_ n1_ n2_ n3_; (try clear hb); (try clear hb2); (try clear hk); (try clear hi)) | (go_at_call 16; (with_reducible refine (lw_counted.calls kj3  t1796 _ A39.out).mono ?_); rintro e w50 ⟨rfl, hb⟩; have n0_ := am (bb BK1786.out hb); have n1_ := am (bb BK1787.out hb); have n2_ := am (bb BK1788.out hb); have n3_ := am (below_step (zb3 GE1786.out GE1787.out GE1788.out) hb); clear BK1786 BK1787 BK1788 HB; have BK1786 := n0_; have BK1787 := n1_; have BK1788 := n2_; have HB := n3_; clear n0_ n1_ n2_ n3_; (try clear hb); (try clear hb2); (try clear hk); (try clear hi)))
      go_ret
      exact ⟨zq9, zb3 GE1786.out GE1787.out GE1788.out⟩
     ·rw [if_neg c38] at H
      have c38b0 : (t1793 == t1795) = false := beq_eq_false_iff_ne.mpr c38
      have c38b1 : (t1793 != t1795) = true := bne_iff_ne.mpr c38
      obtain rfl := Option.some.inj H
      cases hr
    ·rw [if_neg c36] at H
     have c36b0 : (t1794 == 0) = false := beq_eq_false_iff_ne.mpr c36
     have c36b1 : (t1794 != 0) = true := bne_iff_ne.mpr c36
     by_cases c51 : t1793 = t1794
     ·rw [if_pos c51] at H
      have c51b0 : (t1793 == t1794) = true := beq_iff_eq.mpr c51
      have c51b1 : (t1793 != t1794) = false := bne_eq_false_iff_eq.mpr c51
      clear c51
      replace H := zj H
      obtain ⟨t1797, A52, H⟩ := H
      obtain rfl := Option.some.inj H
      have hnb53 := NB1786_1787.out
      have hnc53 := NB1787_1786.out
      have hnb54 := NB1786_1788.out
      have hnc54 := NB1788_1786.out
      have hcz55_0 := bc BK1786.out 0 (.bool a0_0)
      have hcz55_1 := bc BK1786.out 1 (.slice A0_1 l0_1.length c0_1)
      have hcz55_2 := bc BK1786.out 2 (.slice A0_2 l0_2.length c0_2)
      have hfz55_0 := blk_frozen BK1786.out 0
      have hfz55_1 := blk_frozen BK1786.out 1
      have hfz55_2 := blk_frozen BK1786.out 2
      have hnb56 := NB1787_1788.out
      have hnc56 := NB1788_1787.out
      have hcz57_0 := bc BK1787.out 0 (.bool a1_0)
      have hcz57_1 := bc BK1787.out 1 (.slice A1_1 l1_1.length c1_1)
      have hcz57_2 := bc BK1787.out 2 (.slice A1_2 l1_2.length c1_2)
      have hfz57_0 := blk_frozen BK1787.out 0
      have hfz57_1 := blk_frozen BK1787.out 1
      have hfz57_2 := blk_frozen BK1787.out 2
      go_wp2_with (first | ((with_reducible refine gate_callee (f := 22) rfl ?_); refine goesL_ (some 34) rfl rfl Tryd.func22 (by kernel_rfl) rfl #[.agg #[.bool a0_0, .slice A0_1 l0_1.length c0_1, .slice A0_2 l0_2.length c0_2], .agg #[.bool a1_0, .slice A1_1 l1_1.length c1_1, .slice A1_2 l1_2.length c1_2]] rfl zq5 ?_; (with_reducible refine (number_Compare.calls kj3 a0_0 (fun k_ => k_ < w.heap.size) _ _ l0_1 (fun k_ => k_ < w.heap.size) _ _ l0_2 a1_0 (fun k_ => k_ < w.heap.size) _ _ l1_1 (fun k_ => k_ < w.heap.size) _ _ l1_2 t1792 t1793 _ ?side1 ?side2 ?side3 ?side4 A34.out).mono ?_); (case side1 => exact Kd.V_mk HC0_1.out (Kd.F_below (Kd.C_F (Kd.heap_int .u32) HR0_1.out) (zb3 GE1786.out GE1787.out GE1788.out))); (case side2 => exact Kd.V_mk HC0_2.out (Kd.F_below (Kd.C_F (Kd.heap_int .u32) HR0_2.out) (zb3 GE1786.out GE1787.out GE1788.out))); (case side3 => exact Kd.V_mk HC1_1.out (Kd.F_below (Kd.C_F (Kd.heap_int .u32) HR1_1.out) (zb3 GE1786.out GE1787.out GE1788.out))); (case side4 => exact Kd.V_mk HC1_2.out (Kd.F_below (Kd.C_F (Kd.heap_int .u32) HR1_2.out) (zb3 GE1786.out GE1787.out GE1788.out))); rintro e w58 ⟨rfl, hb⟩; refine ⟨_, rfl, ?_⟩; have n0_ := am (bb BK1786.out hb); have n1_ := am (bb BK1787.out hb); have n2_ := am (bb BK1788.out hb); have n3_ := am (below_step (zb3 GE1786.out GE1787.out GE1788.out) hb); clear BK1786 BK1787 BK1788 HB; have BK1786 := n0_; have BK1787 := n1_; have BK1788 := n2_; have HB := n3_; clear n0_ n1_ n2_ n3_; (try clear hb); (try clear hb2); (try clear hk); (try clear hi); have hcz59_0 := bc BK1786.out 0 (.bool a0_0); have hcz59_1 := bc BK1786.out 1 (.slice A0_1 l0_1.length c0_1); have hcz59_2 := bc BK1786.out 2 (.slice A0_2 l0_2.length c0_2); have hfz59_0 := blk_frozen BK1786.out 0; have hfz59_1 := blk_frozen BK1786.out 1; have hfz59_2 := blk_frozen BK1786.out 2) | ((with_reducible refine gate_callee (f := 15) rfl ?_); refine goesL_ (some 38) rfl rfl Tryd.func15 (by kernel_rfl) rfl #[.agg #[.bool a0_0, .slice A0_1 l0_1.length c0_1, .slice A0_2 l0_2.length c0_2]] rfl zq5 ?_; (with_reducible refine (rf_Fault.calls kj3 a0_0 _ _ l0_1 _ _ l0_2 t1794 _ ?side1 ?side2 ?side3 ?side4 A35.out).mono ?_); (case side1 => exact zc (Kd.C_below HR0_1.out HB.out)); (case side2 => exact HC0_1.out); (case side3 => exact zc (Kd.C_below HR0_2.out HB.out)); (case side4 => exact HC0_2.out); rintro e w60 ⟨rfl, hb⟩; refine ⟨_, rfl, ?_⟩; have n0_ := am (bb BK1786.out hb); have n1_ := am (bb BK1787.out hb); have n2_ := am (bb BK1788.out hb); have n3_ := am (below_step (zb3 GE1786.out GE1787.out GE1788.out) hb); clear BK1786 BK1787 BK1788 HB; have BK1786 := n0_; have BK1787 := n1_; have BK1788 := n2_; have HB := n3_; clear n0_ n1_ n2_ n3_; (try clear hb); (try clear hb2); (try clear hk); (try clear hi)) | (go_at_call 16; (with_reducible refine (lw_counted.calls kj3  t1797 _ A52.out).mono ?_); rintro e w61 ⟨rfl, hb⟩; have n0_ := am (bb BK1786.out hb); have n1_ := am (bb BK1787.out hb); have n2_ := am (bb BK1788.out hb); have n3_ := am (below_step (zb3 GE1786.out GE1787.out GE1788.out) hb); clear BK1786 BK1787 BK1788 HB; have BK1786 := n0_; have BK1787 := n1_; have BK1788 := n2_; have HB := n3_; clear n0_ n1_ n2_ n3_; (try clear hb); (try clear hb2); (try clear hk); (try clear hi)))
      go_ret
      exact ⟨zq9, zb3 GE1786.out GE1787.out GE1788.out⟩
     ·rw [if_neg c51] at H
      have c51b0 : (t1793 == t1794) = false := beq_eq_false_iff_ne.mpr c51
      have c51b1 : (t1793 != t1794) = true := bne_iff_ne.mpr c51
      obtain rfl := Option.some.inj H
      cases hr
   ·replace c33 := Bool.eq_false_iff.mpr c33
    subst c33
    have H1 : ((number_Compare.f kj3 a0_0 l0_1 l0_2 a1_0 l1_1 l1_2).bind fun bt1798 => ((number_Compare.f kj3 a1_0 l1_1 l1_2 a0_0 l0_1 l0_2).bind fun bt1800 => ((number_Compare.f kj3 a1_0 l1_1 l1_2 a2_0 l2_1 l2_2).bind fun bt1802 => ((number_Compare.f kj3 a0_0 l0_1 l0_2 a2_0 l2_1 l2_2).bind fun bt1804 => (if bt1798.2 = 0 then (if bt1800.2 = 0 then (if bt1802.2 = 0 then (if bt1804.2 = 0 then (if bt1798.1 = (wrap64 (-bt1800.1)) then ((lw_same.f kj3 a0_0 l0_1 l0_2 a1_0 l1_1 l1_2).bind fun t1806 => (if ((bt1798.1 == 0) != t1806) = true then (lw_NumberOrderIsTotal.j1 kj3 bt1798.1 bt1802.1 bt1804.1 true a0_0 l0_1 l0_2 a1_0 l1_1 l1_2) else (if bt1798.1 < (-1) then (lw_NumberOrderIsTotal.j1 kj3 bt1798.1 bt1802.1 bt1804.1 true a0_0 l0_1 l0_2 a1_0 l1_1 l1_2) else (lw_NumberOrderIsTotal.j1 kj3 bt1798.1 bt1802.1 bt1804.1 (decide (bt1798.1 > 1)) a0_0 l0_1 l0_2 a1_0 l1_1 l1_2)))) else (lw_NumberOrderIsTotal.j1 kj3 bt1798.1 bt1802.1 bt1804.1 true a0_0 l0_1 l0_2 a1_0 l1_1 l1_2)) else (lw_NumberOrderIsTotal.j1 kj3 bt1798.1 bt1802.1 bt1804.1 true a0_0 l0_1 l0_2 a1_0 l1_1 l1_2)) else (lw_NumberOrderIsTotal.j1 kj3 bt1798.1 bt1802.1 bt1804.1 true a0_0 l0_1 l0_2 a1_0 l1_1 l1_2)) else (lw_NumberOrderIsTotal.j1 kj3 bt1798.1 bt1802.1 bt1804.1 true a0_0 l0_1 l0_2 a1_0 l1_1 l1_2)) else (lw_NumberOrderIsTotal.j1 kj3 bt1798.1 bt1802.1 bt1804.1 true a0_0 l0_1 l0_2 a1_0 l1_1 l1_2)))))) = some r := by rw [if_neg (show ¬ (false = true) by decide)] at H; exact H
    clear H
    have H := H1
    clear H1
    replace H := zj H
    obtain ⟨⟨t1798, t1799⟩, A62, H⟩ := H
    try dsimp only at H
    replace H := zj H
    obtain ⟨⟨t1800, t1801⟩, A63, H⟩ := H
    try dsimp only at H
    replace H := zj H
    obtain ⟨⟨t1802, t1803⟩, A64, H⟩ := H
    try dsimp only at H
    replace H := zj H
    obtain ⟨⟨t1804, t1805⟩, A65, H⟩ := H
    try dsimp only at H
    have HC66 := am H
    clear H
    have hnb67 := NB1786_1787.out
    have hnc67 := NB1787_1786.out
    have hnb68 := NB1786_1788.out
    have hnc68 := NB1788_1786.out
    have hcz69_0 := bc BK1786.out 0 (.bool a0_0)
    have hcz69_1 := bc BK1786.out 1 (.slice A0_1 l0_1.length c0_1)
    have hcz69_2 := bc BK1786.out 2 (.slice A0_2 l0_2.length c0_2)
    have hfz69_0 := blk_frozen BK1786.out 0
    have hfz69_1 := blk_frozen BK1786.out 1
    have hfz69_2 := blk_frozen BK1786.out 2
    have hnb70 := NB1787_1788.out
    have hnc70 := NB1788_1787.out
    have hcz71_0 := bc BK1787.out 0 (.bool a1_0)
    have hcz71_1 := bc BK1787.out 1 (.slice A1_1 l1_1.length c1_1)
    have hcz71_2 := bc BK1787.out 2 (.slice A1_2 l1_2.length c1_2)
    have hfz71_0 := blk_frozen BK1787.out 0
    have hfz71_1 := blk_frozen BK1787.out 1
    have hfz71_2 := blk_frozen BK1787.out 2
    go_upto_region 11 with (first | ((with_reducible refine gate_callee (f := 22) rfl ?_); refine goesL_ (some 52) rfl rfl Tryd.func22 (by kernel_rfl) rfl #[.agg #[.bool a0_0, .slice A0_1 l0_1.length c0_1, .slice A0_2 l0_2.length c0_2], .agg #[.bool a1_0, .slice A1_1 l1_1.length c1_1, .slice A1_2 l1_2.length c1_2]] rfl zq5 ?_; (with_reducible refine (number_Compare.calls kj3 a0_0 (fun k_ => k_ < w.heap.size) _ _ l0_1 (fun k_ => k_ < w.heap.size) _ _ l0_2 a1_0 (fun k_ => k_ < w.heap.size) _ _ l1_1 (fun k_ => k_ < w.heap.size) _ _ l1_2 t1798 t1799 _ ?side1 ?side2 ?side3 ?side4 A62.out).mono ?_); (case side1 => exact Kd.V_mk HC0_1.out (Kd.F_below (Kd.C_F (Kd.heap_int .u32) HR0_1.out) (zb3 GE1786.out GE1787.out GE1788.out))); (case side2 => exact Kd.V_mk HC0_2.out (Kd.F_below (Kd.C_F (Kd.heap_int .u32) HR0_2.out) (zb3 GE1786.out GE1787.out GE1788.out))); (case side3 => exact Kd.V_mk HC1_1.out (Kd.F_below (Kd.C_F (Kd.heap_int .u32) HR1_1.out) (zb3 GE1786.out GE1787.out GE1788.out))); (case side4 => exact Kd.V_mk HC1_2.out (Kd.F_below (Kd.C_F (Kd.heap_int .u32) HR1_2.out) (zb3 GE1786.out GE1787.out GE1788.out))); rintro e w72 ⟨rfl, hb⟩; refine ⟨_, rfl, ?_⟩; have n0_ := am (bb BK1786.out hb); have n1_ := am (bb BK1787.out hb); have n2_ := am (bb BK1788.out hb); have n3_ := am (below_step (zb3 GE1786.out GE1787.out GE1788.out) hb); clear BK1786 BK1787 BK1788 HB; have BK1786 := n0_; have BK1787 := n1_; have BK1788 := n2_; have HB := n3_; clear n0_ n1_ n2_ n3_; (try clear hb); (try clear hb2); (try clear hk); (try clear hi); have hcz73_0 := bc BK1787.out 0 (.bool a1_0); have hcz73_1 := bc BK1787.out 1 (.slice A1_1 l1_1.length c1_1); have hcz73_2 := bc BK1787.out 2 (.slice A1_2 l1_2.length c1_2); have hfz73_0 := blk_frozen BK1787.out 0; have hfz73_1 := blk_frozen BK1787.out 1; have hfz73_2 := blk_frozen BK1787.out 2; have hcz74_0 := bc BK1786.out 0 (.bool a0_0); have hcz74_1 := bc BK1786.out 1 (.slice A0_1 l0_1.length c0_1); have hcz74_2 := bc BK1786.out 2 (.slice A0_2 l0_2.length c0_2); have hfz74_0 := blk_frozen BK1786.out 0; have hfz74_1 := blk_frozen BK1786.out 1; have hfz74_2 := blk_frozen BK1786.out 2) | ((with_reducible refine gate_callee (f := 22) rfl ?_); refine goesL_ (some 58) rfl rfl Tryd.func22 (by kernel_rfl) rfl #[.agg #[.bool a1_0, .slice A1_1 l1_1.length c1_1, .slice A1_2 l1_2.length c1_2], .agg #[.bool a0_0, .slice A0_1 l0_1.length c0_1, .slice A0_2 l0_2.length c0_2]] rfl zq5 ?_; (with_reducible refine (number_Compare.calls kj3 a1_0 (fun k_ => k_ < w.heap.size) _ _ l1_1 (fun k_ => k_ < w.heap.size) _ _ l1_2 a0_0 (fun k_ => k_ < w.heap.size) _ _ l0_1 (fun k_ => k_ < w.heap.size) _ _ l0_2 t1800 t1801 _ ?side1 ?side2 ?side3 ?side4 A63.out).mono ?_); (case side1 => exact Kd.V_mk HC1_1.out (Kd.F_below (Kd.C_F (Kd.heap_int .u32) HR1_1.out) (zb3 GE1786.out GE1787.out GE1788.out))); (case side2 => exact Kd.V_mk HC1_2.out (Kd.F_below (Kd.C_F (Kd.heap_int .u32) HR1_2.out) (zb3 GE1786.out GE1787.out GE1788.out))); (case side3 => exact Kd.V_mk HC0_1.out (Kd.F_below (Kd.C_F (Kd.heap_int .u32) HR0_1.out) (zb3 GE1786.out GE1787.out GE1788.out))); (case side4 => exact Kd.V_mk HC0_2.out (Kd.F_below (Kd.C_F (Kd.heap_int .u32) HR0_2.out) (zb3 GE1786.out GE1787.out GE1788.out))); rintro e w75 ⟨rfl, hb⟩; refine ⟨_, rfl, ?_⟩; have n0_ := am (bb BK1786.out hb); have n1_ := am (bb BK1787.out hb); have n2_ := am (bb BK1788.out hb); have n3_ := am (below_step (zb3 GE1786.out GE1787.out GE1788.out) hb); clear BK1786 BK1787 BK1788 HB; have BK1786 := n0_; have BK1787 := n1_; have BK1788 := n2_; have HB := n3_; clear n0_ n1_ n2_ n3_; (try clear hb); (try clear hb2); (try clear hk); (try clear hi); have hcz76_0 := bc BK1787.out 0 (.bool a1_0); have hcz76_1 := bc BK1787.out 1 (.slice A1_1 l1_1.length c1_1); have hcz76_2 := bc BK1787.out 2 (.slice A1_2 l1_2.length c1_2); have hfz76_0 := blk_frozen BK1787.out 0; have hfz76_1 := blk_frozen BK1787.out 1; have hfz76_2 := blk_frozen BK1787.out 2; have hcz77_0 := bc BK1788.out 0 (.bool a2_0); have hcz77_1 := bc BK1788.out 1 (.slice A2_1 l2_1.length c2_1); have hcz77_2 := bc BK1788.out 2 (.slice A2_2 l2_2.length c2_2); have hfz77_0 := blk_frozen BK1788.out 0; have hfz77_1 := blk_frozen BK1788.out 1; have hfz77_2 := blk_frozen BK1788.out 2) | ((with_reducible refine gate_callee (f := 22) rfl ?_); refine goesL_ (some 64) rfl rfl Tryd.func22 (by kernel_rfl) rfl #[.agg #[.bool a1_0, .slice A1_1 l1_1.length c1_1, .slice A1_2 l1_2.length c1_2], .agg #[.bool a2_0, .slice A2_1 l2_1.length c2_1, .slice A2_2 l2_2.length c2_2]] rfl zq5 ?_; (with_reducible refine (number_Compare.calls kj3 a1_0 (fun k_ => k_ < w.heap.size) _ _ l1_1 (fun k_ => k_ < w.heap.size) _ _ l1_2 a2_0 (fun k_ => k_ < w.heap.size) _ _ l2_1 (fun k_ => k_ < w.heap.size) _ _ l2_2 t1802 t1803 _ ?side1 ?side2 ?side3 ?side4 A64.out).mono ?_); (case side1 => exact Kd.V_mk HC1_1.out (Kd.F_below (Kd.C_F (Kd.heap_int .u32) HR1_1.out) (zb3 GE1786.out GE1787.out GE1788.out))); (case side2 => exact Kd.V_mk HC1_2.out (Kd.F_below (Kd.C_F (Kd.heap_int .u32) HR1_2.out) (zb3 GE1786.out GE1787.out GE1788.out))); (case side3 => exact Kd.V_mk HC2_1.out (Kd.F_below (Kd.C_F (Kd.heap_int .u32) HR2_1.out) (zb3 GE1786.out GE1787.out GE1788.out))); (case side4 => exact Kd.V_mk HC2_2.out (Kd.F_below (Kd.C_F (Kd.heap_int .u32) HR2_2.out) (zb3 GE1786.out GE1787.out GE1788.out))); rintro e w78 ⟨rfl, hb⟩; refine ⟨_, rfl, ?_⟩; have n0_ := am (bb BK1786.out hb); have n1_ := am (bb BK1787.out hb); have n2_ := am (bb BK1788.out hb); have n3_ := am (below_step (zb3 GE1786.out GE1787.out GE1788.out) hb); clear BK1786 BK1787 BK1788 HB; have BK1786 := n0_; have BK1787 := n1_; have BK1788 := n2_; have HB := n3_; clear n0_ n1_ n2_ n3_; (try clear hb); (try clear hb2); (try clear hk); (try clear hi); have hcz79_0 := bc BK1786.out 0 (.bool a0_0); have hcz79_1 := bc BK1786.out 1 (.slice A0_1 l0_1.length c0_1); have hcz79_2 := bc BK1786.out 2 (.slice A0_2 l0_2.length c0_2); have hfz79_0 := blk_frozen BK1786.out 0; have hfz79_1 := blk_frozen BK1786.out 1; have hfz79_2 := blk_frozen BK1786.out 2; have hcz80_0 := bc BK1788.out 0 (.bool a2_0); have hcz80_1 := bc BK1788.out 1 (.slice A2_1 l2_1.length c2_1); have hcz80_2 := bc BK1788.out 2 (.slice A2_2 l2_2.length c2_2); have hfz80_0 := blk_frozen BK1788.out 0; have hfz80_1 := blk_frozen BK1788.out 1; have hfz80_2 := blk_frozen BK1788.out 2) | ((with_reducible refine gate_callee (f := 22) rfl ?_); refine goesL_ (some 70) rfl rfl Tryd.func22 (by kernel_rfl) rfl #[.agg #[.bool a0_0, .slice A0_1 l0_1.length c0_1, .slice A0_2 l0_2.length c0_2], .agg #[.bool a2_0, .slice A2_1 l2_1.length c2_1, .slice A2_2 l2_2.length c2_2]] rfl zq5 ?_; (with_reducible refine (number_Compare.calls kj3 a0_0 (fun k_ => k_ < w.heap.size) _ _ l0_1 (fun k_ => k_ < w.heap.size) _ _ l0_2 a2_0 (fun k_ => k_ < w.heap.size) _ _ l2_1 (fun k_ => k_ < w.heap.size) _ _ l2_2 t1804 t1805 _ ?side1 ?side2 ?side3 ?side4 A65.out).mono ?_); (case side1 => exact Kd.V_mk HC0_1.out (Kd.F_below (Kd.C_F (Kd.heap_int .u32) HR0_1.out) (zb3 GE1786.out GE1787.out GE1788.out))); (case side2 => exact Kd.V_mk HC0_2.out (Kd.F_below (Kd.C_F (Kd.heap_int .u32) HR0_2.out) (zb3 GE1786.out GE1787.out GE1788.out))); (case side3 => exact Kd.V_mk HC2_1.out (Kd.F_below (Kd.C_F (Kd.heap_int .u32) HR2_1.out) (zb3 GE1786.out GE1787.out GE1788.out))); (case side4 => exact Kd.V_mk HC2_2.out (Kd.F_below (Kd.C_F (Kd.heap_int .u32) HR2_2.out) (zb3 GE1786.out GE1787.out GE1788.out))); rintro e w81 ⟨rfl, hb⟩; refine ⟨_, rfl, ?_⟩; have n0_ := am (bb BK1786.out hb); have n1_ := am (bb BK1787.out hb); have n2_ := am (bb BK1788.out hb); have n3_ := am (below_step (zb3 GE1786.out GE1787.out GE1788.out) hb); clear BK1786 BK1787 BK1788 HB; have BK1786 := n0_; have BK1787 := n1_; have BK1788 := n2_; have HB := n3_; clear n0_ n1_ n2_ n3_; (try clear hb); (try clear hb2); (try clear hk); (try clear hi)))
    (try simp only [Act.put, List.setIfInBounds_toArray, List.set_cons_zero, List.set_cons_succ])
    go_cut [108] (fun v108 wc => ∃ (kq : Nat) (x108_65 : Bool), v108 = .bool x108_65 ∧ Aside0 (lw_NumberOrderIsTotal.j1 kq t1798 t1802 t1804 x108_65 a0_0 l0_1 l0_2 a1_0 l1_1 l1_2 = some r) ∧ Aside0 (kq ≤ kj3) ∧ Aside0 (wc.heap[gb1786]? = some (.cells #[.bool a0_0, (.slice A0_1 l0_1.length c0_1), (.slice A0_2 l0_2.length c0_2)] 24 (0, 0))) ∧ Aside0 (wc.heap[gb1787]? = some (.cells #[.bool a1_0, (.slice A1_1 l1_1.length c1_1), (.slice A1_2 l1_2.length c1_2)] 24 (0, 0))) ∧ Aside0 (wc.heap[gb1788]? = some (.cells #[.bool a2_0, (.slice A2_1 l2_1.length c2_1), (.slice A2_2 l2_2.length c2_2)] 24 (0, 0))) ∧ Aside0 (Below w.heap.size w wc))
    case first =>
     have H := HC66.out
     clear HC66
     by_cases c82 : t1799 = 0
     ·rw [if_pos c82] at H
      have c82b0 : (t1799 == 0) = true := beq_iff_eq.mpr c82
      have c82b1 : (t1799 != 0) = false := bne_eq_false_iff_eq.mpr c82
      clear c82
      (first | rw [c82b0] | (simp only [i64_w, i32_w]; rw [c82b0]) | skip)
      by_cases c83 : t1801 = 0
      ·rw [if_pos c83] at H
       have c83b0 : (t1801 == 0) = true := beq_iff_eq.mpr c83
       have c83b1 : (t1801 != 0) = false := bne_eq_false_iff_eq.mpr c83
       clear c83
       by_cases c84 : t1803 = 0
       ·rw [if_pos c84] at H
        have c84b0 : (t1803 == 0) = true := beq_iff_eq.mpr c84
        have c84b1 : (t1803 != 0) = false := bne_eq_false_iff_eq.mpr c84
        clear c84
        by_cases c85 : t1805 = 0
        ·rw [if_pos c85] at H
         have c85b0 : (t1805 == 0) = true := beq_iff_eq.mpr c85
         have c85b1 : (t1805 != 0) = false := bne_eq_false_iff_eq.mpr c85
         clear c85
         by_cases c86 : t1798 = (wrap64 (-t1800))
         ·rw [if_pos c86] at H
          have c86b0 : (t1798 == (wrap64 (-t1800))) = true := beq_iff_eq.mpr c86
          have c86b1 : (t1798 != (wrap64 (-t1800))) = false := bne_eq_false_iff_eq.mpr c86
          clear c86
          replace H := zj H
          obtain ⟨t1806, A87, H⟩ := H
          by_cases c88 : ((t1798 == 0) != t1806) = true
          ·rw [if_pos c88] at H
           have c88b0 : ((t1798 == 0) != t1806) = true := c88
           (try (have c88b1 : decide ((t1798 == 0) = t1806) = false := by simpa using c88))
           (try (have c88b2 : ((t1798 == 0) == t1806) = false := by simpa using c88))
           (try (have c88b3 : ¬ ((t1798 == 0) = t1806) := by simpa using c88))
           clear c88
           have H' := am H
           clear H
           have hnb89 := NB1786_1787.out
           have hnc89 := NB1787_1786.out
           have hnb90 := NB1786_1788.out
           have hnc90 := NB1788_1786.out
           have hcz91_0 := bc BK1786.out 0 (.bool a0_0)
           have hcz91_1 := bc BK1786.out 1 (.slice A0_1 l0_1.length c0_1)
           have hcz91_2 := bc BK1786.out 2 (.slice A0_2 l0_2.length c0_2)
           have hfz91_0 := blk_frozen BK1786.out 0
           have hfz91_1 := blk_frozen BK1786.out 1
           have hfz91_2 := blk_frozen BK1786.out 2
           have hnb92 := NB1787_1788.out
           have hnc92 := NB1788_1787.out
           have hcz93_0 := bc BK1787.out 0 (.bool a1_0)
           have hcz93_1 := bc BK1787.out 1 (.slice A1_1 l1_1.length c1_1)
           have hcz93_2 := bc BK1787.out 2 (.slice A1_2 l1_2.length c1_2)
           have hfz93_0 := blk_frozen BK1787.out 0
           have hfz93_1 := blk_frozen BK1787.out 1
           have hfz93_2 := blk_frozen BK1787.out 2
           go_wp2_with (first | (go_at_call 20; (with_reducible refine (lw_same.calls kj3 a0_0 _ _ l0_1 _ _ l0_2 a1_0 _ _ l1_1 _ _ l1_2 t1806 _ ?side1 ?side2 ?side3 ?side4 ?side5 ?side6 ?side7 ?side8 A87.out).mono ?_); (case side1 => exact zc (Kd.C_below HR0_1.out HB.out)); (case side2 => exact HC0_1.out); (case side3 => exact zc (Kd.C_below HR0_2.out HB.out)); (case side4 => exact HC0_2.out); (case side5 => exact zc (Kd.C_below HR1_1.out HB.out)); (case side6 => exact HC1_1.out); (case side7 => exact zc (Kd.C_below HR1_2.out HB.out)); (case side8 => exact HC1_2.out); rintro e w94 ⟨rfl, hb⟩; have n0_ := am (bb BK1786.out hb); have n1_ := am (bb BK1787.out hb); have n2_ := am (bb BK1788.out hb); have n3_ := am (below_step (zb3 GE1786.out GE1787.out GE1788.out) hb); clear BK1786 BK1787 BK1788 HB; have BK1786 := n0_; have BK1787 := n1_; have BK1788 := n2_; have HB := n3_; clear n0_ n1_ n2_ n3_; (try clear hb); (try clear hb2); (try clear hk); (try clear hi)))
           go_meet
           case rel => exact ⟨_, (true), zq8, H', ⟨by have := HJ3.out; first | omega | exact Nat.le_refl _⟩, ⟨zq2 BK1786.out⟩, ⟨zq2 BK1787.out⟩, ⟨zq2 BK1788.out⟩, ⟨zb3 GE1786.out GE1787.out GE1788.out⟩⟩
          ·rw [if_neg c88] at H
           have c88b0 : ((t1798 == 0) != t1806) = false := by simpa using c88
           (try (have c88b1 : decide ((t1798 == 0) = t1806) = true := by simpa using c88))
           (try (have c88b2 : ((t1798 == 0) == t1806) = true := by simpa using c88))
           clear c88
           by_cases c95 : t1798 < (-1)
           ·rw [if_pos c95] at H
            have c95b0 := decide_eq_true c95
            clear c95
            have H' := am H
            clear H
            have hnb96 := NB1786_1787.out
            have hnc96 := NB1787_1786.out
            have hnb97 := NB1786_1788.out
            have hnc97 := NB1788_1786.out
            have hcz98_0 := bc BK1786.out 0 (.bool a0_0)
            have hcz98_1 := bc BK1786.out 1 (.slice A0_1 l0_1.length c0_1)
            have hcz98_2 := bc BK1786.out 2 (.slice A0_2 l0_2.length c0_2)
            have hfz98_0 := blk_frozen BK1786.out 0
            have hfz98_1 := blk_frozen BK1786.out 1
            have hfz98_2 := blk_frozen BK1786.out 2
            have hnb99 := NB1787_1788.out
            have hnc99 := NB1788_1787.out
            have hcz100_0 := bc BK1787.out 0 (.bool a1_0)
            have hcz100_1 := bc BK1787.out 1 (.slice A1_1 l1_1.length c1_1)
            have hcz100_2 := bc BK1787.out 2 (.slice A1_2 l1_2.length c1_2)
            have hfz100_0 := blk_frozen BK1787.out 0
            have hfz100_1 := blk_frozen BK1787.out 1
            have hfz100_2 := blk_frozen BK1787.out 2
            go_wp2_with (first | (go_at_call 20; (with_reducible refine (lw_same.calls kj3 a0_0 _ _ l0_1 _ _ l0_2 a1_0 _ _ l1_1 _ _ l1_2 t1806 _ ?side1 ?side2 ?side3 ?side4 ?side5 ?side6 ?side7 ?side8 A87.out).mono ?_); (case side1 => exact zc (Kd.C_below HR0_1.out HB.out)); (case side2 => exact HC0_1.out); (case side3 => exact zc (Kd.C_below HR0_2.out HB.out)); (case side4 => exact HC0_2.out); (case side5 => exact zc (Kd.C_below HR1_1.out HB.out)); (case side6 => exact HC1_1.out); (case side7 => exact zc (Kd.C_below HR1_2.out HB.out)); (case side8 => exact HC1_2.out); rintro e w101 ⟨rfl, hb⟩; have n0_ := am (bb BK1786.out hb); have n1_ := am (bb BK1787.out hb); have n2_ := am (bb BK1788.out hb); have n3_ := am (below_step (zb3 GE1786.out GE1787.out GE1788.out) hb); clear BK1786 BK1787 BK1788 HB; have BK1786 := n0_; have BK1787 := n1_; have BK1788 := n2_; have HB := n3_; clear n0_ n1_ n2_ n3_; (try clear hb); (try clear hb2); (try clear hk); (try clear hi)))
            go_meet
            case rel => exact ⟨_, (true), zq8, H', ⟨by have := HJ3.out; first | omega | exact Nat.le_refl _⟩, ⟨zq2 BK1786.out⟩, ⟨zq2 BK1787.out⟩, ⟨zq2 BK1788.out⟩, ⟨zb3 GE1786.out GE1787.out GE1788.out⟩⟩
           ·rw [if_neg c95] at H
            have c95b0 := decide_eq_false c95
            clear c95
            have H' := am H
            clear H
            have hnb102 := NB1786_1787.out
            have hnc102 := NB1787_1786.out
            have hnb103 := NB1786_1788.out
            have hnc103 := NB1788_1786.out
            have hcz104_0 := bc BK1786.out 0 (.bool a0_0)
            have hcz104_1 := bc BK1786.out 1 (.slice A0_1 l0_1.length c0_1)
            have hcz104_2 := bc BK1786.out 2 (.slice A0_2 l0_2.length c0_2)
            have hfz104_0 := blk_frozen BK1786.out 0
            have hfz104_1 := blk_frozen BK1786.out 1
            have hfz104_2 := blk_frozen BK1786.out 2
            have hnb105 := NB1787_1788.out
            have hnc105 := NB1788_1787.out
            have hcz106_0 := bc BK1787.out 0 (.bool a1_0)
            have hcz106_1 := bc BK1787.out 1 (.slice A1_1 l1_1.length c1_1)
            have hcz106_2 := bc BK1787.out 2 (.slice A1_2 l1_2.length c1_2)
            have hfz106_0 := blk_frozen BK1787.out 0
            have hfz106_1 := blk_frozen BK1787.out 1
            have hfz106_2 := blk_frozen BK1787.out 2
            go_wp2_with (first | (go_at_call 20; (with_reducible refine (lw_same.calls kj3 a0_0 _ _ l0_1 _ _ l0_2 a1_0 _ _ l1_1 _ _ l1_2 t1806 _ ?side1 ?side2 ?side3 ?side4 ?side5 ?side6 ?side7 ?side8 A87.out).mono ?_); (case side1 => exact zc (Kd.C_below HR0_1.out HB.out)); (case side2 => exact HC0_1.out); (case side3 => exact zc (Kd.C_below HR0_2.out HB.out)); (case side4 => exact HC0_2.out); (case side5 => exact zc (Kd.C_below HR1_1.out HB.out)); (case side6 => exact HC1_1.out); (case side7 => exact zc (Kd.C_below HR1_2.out HB.out)); (case side8 => exact HC1_2.out); rintro e w107 ⟨rfl, hb⟩; have n0_ := am (bb BK1786.out hb); have n1_ := am (bb BK1787.out hb); have n2_ := am (bb BK1788.out hb); have n3_ := am (below_step (zb3 GE1786.out GE1787.out GE1788.out) hb); clear BK1786 BK1787 BK1788 HB; have BK1786 := n0_; have BK1787 := n1_; have BK1788 := n2_; have HB := n3_; clear n0_ n1_ n2_ n3_; (try clear hb); (try clear hb2); (try clear hk); (try clear hi)))
            go_meet
            case rel => exact ⟨_, (decide (t1798 > 1)), zq8, H', ⟨by have := HJ3.out; first | omega | exact Nat.le_refl _⟩, ⟨zq2 BK1786.out⟩, ⟨zq2 BK1787.out⟩, ⟨zq2 BK1788.out⟩, ⟨zb3 GE1786.out GE1787.out GE1788.out⟩⟩
         ·rw [if_neg c86] at H
          have c86b0 : (t1798 == (wrap64 (-t1800))) = false := beq_eq_false_iff_ne.mpr c86
          have c86b1 : (t1798 != (wrap64 (-t1800))) = true := bne_iff_ne.mpr c86
          have H' := am H
          clear H
          go_wp2
          go_meet
          case rel => exact ⟨_, (true), zq8, H', ⟨by have := HJ3.out; first | omega | exact Nat.le_refl _⟩, ⟨zq2 BK1786.out⟩, ⟨zq2 BK1787.out⟩, ⟨zq2 BK1788.out⟩, ⟨zb3 GE1786.out GE1787.out GE1788.out⟩⟩
        ·rw [if_neg c85] at H
         have c85b0 : (t1805 == 0) = false := beq_eq_false_iff_ne.mpr c85
         have c85b1 : (t1805 != 0) = true := bne_iff_ne.mpr c85
         have H' := am H
         clear H
         go_wp2
         go_meet
         case rel => exact ⟨_, (true), zq8, H', ⟨by have := HJ3.out; first | omega | exact Nat.le_refl _⟩, ⟨zq2 BK1786.out⟩, ⟨zq2 BK1787.out⟩, ⟨zq2 BK1788.out⟩, ⟨zb3 GE1786.out GE1787.out GE1788.out⟩⟩
       ·rw [if_neg c84] at H
        have c84b0 : (t1803 == 0) = false := beq_eq_false_iff_ne.mpr c84
        have c84b1 : (t1803 != 0) = true := bne_iff_ne.mpr c84
        have H' := am H
        clear H
        go_wp2
        go_meet
        case rel => exact ⟨_, (true), zq8, H', ⟨by have := HJ3.out; first | omega | exact Nat.le_refl _⟩, ⟨zq2 BK1786.out⟩, ⟨zq2 BK1787.out⟩, ⟨zq2 BK1788.out⟩, ⟨zb3 GE1786.out GE1787.out GE1788.out⟩⟩
      ·rw [if_neg c83] at H
       have c83b0 : (t1801 == 0) = false := beq_eq_false_iff_ne.mpr c83
       have c83b1 : (t1801 != 0) = true := bne_iff_ne.mpr c83
       have H' := am H
       clear H
       go_wp2
       go_meet
       case rel => exact ⟨_, (true), zq8, H', ⟨by have := HJ3.out; first | omega | exact Nat.le_refl _⟩, ⟨zq2 BK1786.out⟩, ⟨zq2 BK1787.out⟩, ⟨zq2 BK1788.out⟩, ⟨zb3 GE1786.out GE1787.out GE1788.out⟩⟩
     ·rw [if_neg c82] at H
      have c82b0 : (t1799 == 0) = false := beq_eq_false_iff_ne.mpr c82
      have c82b1 : (t1799 != 0) = true := bne_iff_ne.mpr c82
      (first | rw [c82b0] | (simp only [i64_w, i32_w]; rw [c82b0]) | skip)
      have H' := am H
      clear H
      go_wp2
      go_meet
      case rel => exact ⟨_, (true), zq8, H', ⟨by have := HJ3.out; first | omega | exact Nat.le_refl _⟩, ⟨zq2 BK1786.out⟩, ⟨zq2 BK1787.out⟩, ⟨zq2 BK1788.out⟩, ⟨zb3 GE1786.out GE1787.out GE1788.out⟩⟩
    case rest =>
     clear HC66
     obtain ⟨kq, x108_65, rfl, HA, HJ65, BK1786, BK1787, BK1788, HB⟩ := hcut
     cases kq with
     | zero => exact absurd HA.out (by simp [lw_NumberOrderIsTotal.j1])
     | succ kj65 =>
      have H := HA.out
      clear HA
      simp only [lw_NumberOrderIsTotal.j1] at H
      by_cases c108 : x108_65 = true
      ·subst c108
       have H1 : (some false) = some r := by rw [if_pos rfl] at H; exact H
       clear H
       have H := H1
       clear H1
       obtain rfl := Option.some.inj H
       cases hr
      ·replace c108 := Bool.eq_false_iff.mpr c108
       subst c108
       have H1 : (if t1798 ≤ 0 then (if t1802 ≤ 0 then (if t1804 > 0 then (lw_NumberOrderIsTotal.j2 kj65 t1798 true a0_0 l0_1 l0_2 a1_0 l1_1 l1_2) else (if t1798 < 0 then (if t1802 < 0 then (lw_NumberOrderIsTotal.j2 kj65 t1798 (t1804 != (-1)) a0_0 l0_1 l0_2 a1_0 l1_1 l1_2) else (lw_NumberOrderIsTotal.j2 kj65 t1798 false a0_0 l0_1 l0_2 a1_0 l1_1 l1_2)) else (lw_NumberOrderIsTotal.j2 kj65 t1798 false a0_0 l0_1 l0_2 a1_0 l1_1 l1_2))) else (if t1798 < 0 then (if t1802 < 0 then (lw_NumberOrderIsTotal.j2 kj65 t1798 (t1804 != (-1)) a0_0 l0_1 l0_2 a1_0 l1_1 l1_2) else (lw_NumberOrderIsTotal.j2 kj65 t1798 false a0_0 l0_1 l0_2 a1_0 l1_1 l1_2)) else (lw_NumberOrderIsTotal.j2 kj65 t1798 false a0_0 l0_1 l0_2 a1_0 l1_1 l1_2))) else (if t1798 < 0 then (if t1802 < 0 then (lw_NumberOrderIsTotal.j2 kj65 t1798 (t1804 != (-1)) a0_0 l0_1 l0_2 a1_0 l1_1 l1_2) else (lw_NumberOrderIsTotal.j2 kj65 t1798 false a0_0 l0_1 l0_2 a1_0 l1_1 l1_2)) else (lw_NumberOrderIsTotal.j2 kj65 t1798 false a0_0 l0_1 l0_2 a1_0 l1_1 l1_2))) = some r := by rw [if_neg (show ¬ (false = true) by decide)] at H; exact H
       clear H
       have H := H1
       clear H1
       have HC109 := am H
       clear H
       go_upto_region 13 with (fail)
       go_cut [130] (fun v130 wc => ∃ (kq : Nat) (x130_108 : Bool), v130 = .bool x130_108 ∧ Aside0 (lw_NumberOrderIsTotal.j2 kq t1798 x130_108 a0_0 l0_1 l0_2 a1_0 l1_1 l1_2 = some r) ∧ Aside0 (kq ≤ kj65) ∧ Aside0 (wc.heap[gb1786]? = some (.cells #[.bool a0_0, (.slice A0_1 l0_1.length c0_1), (.slice A0_2 l0_2.length c0_2)] 24 (0, 0))) ∧ Aside0 (wc.heap[gb1787]? = some (.cells #[.bool a1_0, (.slice A1_1 l1_1.length c1_1), (.slice A1_2 l1_2.length c1_2)] 24 (0, 0))) ∧ Aside0 (wc.heap[gb1788]? = some (.cells #[.bool a2_0, (.slice A2_1 l2_1.length c2_1), (.slice A2_2 l2_2.length c2_2)] 24 (0, 0))) ∧ Aside0 (Below w.heap.size w wc))
       case first =>
        have H := HC109.out
        clear HC109
        by_cases c110 : t1798 ≤ 0
        ·rw [if_pos c110] at H
         have c110b0 := decide_eq_true c110
         clear c110
         (first | rw [c110b0] | (simp only [i64_w, i32_w]; rw [c110b0]) | skip)
         by_cases c111 : t1802 ≤ 0
         ·rw [if_pos c111] at H
          have c111b0 := decide_eq_true c111
          clear c111
          by_cases c112 : t1804 > 0
          ·rw [if_pos c112] at H
           have c112b0 : decide (0 < t1804) = true := decide_eq_true c112
           clear c112
           have H' := am H
           clear H
           go_wp2
           go_meet
           case rel => exact ⟨_, (true), zq8, H', ⟨by have := HJ3.out; have := HJ65.out; first | omega | exact Nat.le_refl _⟩, ⟨zq2 BK1786.out⟩, ⟨zq2 BK1787.out⟩, ⟨zq2 BK1788.out⟩, ⟨zb3 GE1786.out GE1787.out GE1788.out⟩⟩
          ·rw [if_neg c112] at H
           have c112b0 : decide (0 < t1804) = false := decide_eq_false c112
           clear c112
           by_cases c113 : t1798 < 0
           ·rw [if_pos c113] at H
            have c113b0 := decide_eq_true c113
            clear c113
            by_cases c114 : t1802 < 0
            ·rw [if_pos c114] at H
             have c114b0 := decide_eq_true c114
             clear c114
             have H' := am H
             clear H
             go_wp2
             go_meet
             case rel => exact ⟨_, ((t1804 != (-1))), zq8, H', ⟨by have := HJ3.out; have := HJ65.out; first | omega | exact Nat.le_refl _⟩, ⟨zq2 BK1786.out⟩, ⟨zq2 BK1787.out⟩, ⟨zq2 BK1788.out⟩, ⟨zb3 GE1786.out GE1787.out GE1788.out⟩⟩
            ·rw [if_neg c114] at H
             have c114b0 := decide_eq_false c114
             clear c114
             have H' := am H
             clear H
             go_wp2
             go_meet
             case rel => exact ⟨_, (false), zq8, H', ⟨by have := HJ3.out; have := HJ65.out; first | omega | exact Nat.le_refl _⟩, ⟨zq2 BK1786.out⟩, ⟨zq2 BK1787.out⟩, ⟨zq2 BK1788.out⟩, ⟨zb3 GE1786.out GE1787.out GE1788.out⟩⟩
           ·rw [if_neg c113] at H
            have c113b0 := decide_eq_false c113
            clear c113
            have H' := am H
            clear H
            go_wp2
            go_meet
            case rel => exact ⟨_, (false), zq8, H', ⟨by have := HJ3.out; have := HJ65.out; first | omega | exact Nat.le_refl _⟩, ⟨zq2 BK1786.out⟩, ⟨zq2 BK1787.out⟩, ⟨zq2 BK1788.out⟩, ⟨zb3 GE1786.out GE1787.out GE1788.out⟩⟩
         ·rw [if_neg c111] at H
          have c111b0 := decide_eq_false c111
          clear c111
          by_cases c115 : t1798 < 0
          ·rw [if_pos c115] at H
           have c115b0 := decide_eq_true c115
           clear c115
           by_cases c116 : t1802 < 0
           ·rw [if_pos c116] at H
            have c116b0 := decide_eq_true c116
            clear c116
            have H' := am H
            clear H
            go_wp2
            go_meet
            case rel => exact ⟨_, ((t1804 != (-1))), zq8, H', ⟨by have := HJ3.out; have := HJ65.out; first | omega | exact Nat.le_refl _⟩, ⟨zq2 BK1786.out⟩, ⟨zq2 BK1787.out⟩, ⟨zq2 BK1788.out⟩, ⟨zb3 GE1786.out GE1787.out GE1788.out⟩⟩
           ·rw [if_neg c116] at H
            have c116b0 := decide_eq_false c116
            clear c116
            have H' := am H
            clear H
            go_wp2
            go_meet
            case rel => exact ⟨_, (false), zq8, H', ⟨by have := HJ3.out; have := HJ65.out; first | omega | exact Nat.le_refl _⟩, ⟨zq2 BK1786.out⟩, ⟨zq2 BK1787.out⟩, ⟨zq2 BK1788.out⟩, ⟨zb3 GE1786.out GE1787.out GE1788.out⟩⟩
          ·rw [if_neg c115] at H
           have c115b0 := decide_eq_false c115
           clear c115
           have H' := am H
           clear H
           go_wp2
           go_meet
           case rel => exact ⟨_, (false), zq8, H', ⟨by have := HJ3.out; have := HJ65.out; first | omega | exact Nat.le_refl _⟩, ⟨zq2 BK1786.out⟩, ⟨zq2 BK1787.out⟩, ⟨zq2 BK1788.out⟩, ⟨zb3 GE1786.out GE1787.out GE1788.out⟩⟩
        ·rw [if_neg c110] at H
         have c110b0 := decide_eq_false c110
         clear c110
         (first | rw [c110b0] | (simp only [i64_w, i32_w]; rw [c110b0]) | skip)
         by_cases c117 : t1798 < 0
         ·rw [if_pos c117] at H
          have c117b0 := decide_eq_true c117
          clear c117
          by_cases c118 : t1802 < 0
          ·rw [if_pos c118] at H
           have c118b0 := decide_eq_true c118
           clear c118
           have H' := am H
           clear H
           go_wp2
           go_meet
           case rel => exact ⟨_, ((t1804 != (-1))), zq8, H', ⟨by have := HJ3.out; have := HJ65.out; first | omega | exact Nat.le_refl _⟩, ⟨zq2 BK1786.out⟩, ⟨zq2 BK1787.out⟩, ⟨zq2 BK1788.out⟩, ⟨zb3 GE1786.out GE1787.out GE1788.out⟩⟩
          ·rw [if_neg c118] at H
           have c118b0 := decide_eq_false c118
           clear c118
           have H' := am H
           clear H
           go_wp2
           go_meet
           case rel => exact ⟨_, (false), zq8, H', ⟨by have := HJ3.out; have := HJ65.out; first | omega | exact Nat.le_refl _⟩, ⟨zq2 BK1786.out⟩, ⟨zq2 BK1787.out⟩, ⟨zq2 BK1788.out⟩, ⟨zb3 GE1786.out GE1787.out GE1788.out⟩⟩
         ·rw [if_neg c117] at H
          have c117b0 := decide_eq_false c117
          clear c117
          have H' := am H
          clear H
          go_wp2
          go_meet
          case rel => exact ⟨_, (false), zq8, H', ⟨by have := HJ3.out; have := HJ65.out; first | omega | exact Nat.le_refl _⟩, ⟨zq2 BK1786.out⟩, ⟨zq2 BK1787.out⟩, ⟨zq2 BK1788.out⟩, ⟨zb3 GE1786.out GE1787.out GE1788.out⟩⟩
       case rest =>
        clear HC109
        obtain ⟨kq, x130_108, rfl, HA, HJ108, BK1786, BK1787, BK1788, HB⟩ := hcut
        cases kq with
        | zero => exact absurd HA.out (by simp [lw_NumberOrderIsTotal.j2])
        | succ kj108 =>
         have H := HA.out
         clear HA
         simp only [lw_NumberOrderIsTotal.j2] at H
         by_cases c119 : x130_108 = true
         ·subst c119
          have H1 : (some false) = some r := by rw [if_pos rfl] at H; exact H
          clear H
          have H := H1
          clear H1
          obtain rfl := Option.some.inj H
          cases hr
         ·replace c119 := Bool.eq_false_iff.mpr c119
          subst c119
          have H1 : ((rf_Of.f kj108 a0_0 l0_1 l0_2).bind fun bt1807 => ((rf_Of.f kj108 a1_0 l1_1 l1_2).bind fun bt1814 => ((rf_Cmp.f kj108 bt1807.1 bt1807.2.1 bt1807.2.2 bt1814.1 bt1814.2.1 bt1814.2.2).bind fun t1821 => (if t1798 = t1821 then ((lw_counted.f kj108).bind fun t1822 => (some t1822)) else (some false))))) = some r := by rw [if_neg (show ¬ (false = true) by decide)] at H; exact H
          clear H
          have H := H1
          clear H1
          replace H := zj H
          obtain ⟨⟨t1807, t1808, t1811⟩, A120, H⟩ := H
          try dsimp only at H
          replace H := zj H
          obtain ⟨⟨t1814, t1815, t1818⟩, A121, H⟩ := H
          try dsimp only at H
          replace H := zj H
          obtain ⟨t1821, A122, H⟩ := H
          by_cases c123 : t1798 = t1821
          ·rw [if_pos c123] at H
           have c123b0 : (t1798 == t1821) = true := beq_iff_eq.mpr c123
           have c123b1 : (t1798 != t1821) = false := bne_eq_false_iff_eq.mpr c123
           clear c123
           replace H := zj H
           obtain ⟨t1822, A124, H⟩ := H
           obtain rfl := Option.some.inj H
           try go_wp2
           have n0_ := am (blk_drew BK1786.out)
           have n1_ := am (blk_drew BK1787.out)
           have n2_ := am (blk_drew BK1788.out)
           have n3_ := am (below_drew1 HB.out)
           clear BK1786 BK1787 BK1788 HB
           have BK1786 := n0_
           have BK1787 := n1_
           have BK1788 := n2_
           have HB := n3_
           clear n0_ n1_ n2_ n3_
           refine start_ (n := 11) (S := fun w' => w'.cell? ⟨gb1786, 0, none⟩ = some (.bool a0_0) ∧ w'.cell? ⟨gb1786, 1, none⟩ = some (.slice A0_1 l0_1.length c0_1) ∧ w'.cell? ⟨gb1786, 2, none⟩ = some (.slice A0_2 l0_2.length c0_2) ∧ w'.cell? ⟨gb1787, 0, none⟩ = some (.bool a1_0) ∧ w'.cell? ⟨gb1787, 1, none⟩ = some (.slice A1_1 l1_1.length c1_1) ∧ w'.cell? ⟨gb1787, 2, none⟩ = some (.slice A1_2 l1_2.length c1_2)) (ds := []) #[false, false, false, false, false, false, false, false, false, false, false] (by kernel_rfl) rfl rfl ⟨(blk_cell BK1786.out 0).trans rfl, (blk_cell BK1786.out 1).trans rfl, (blk_cell BK1786.out 2).trans rfl, (blk_cell BK1787.out 0).trans rfl, (blk_cell BK1787.out 1).trans rfl, (blk_cell BK1787.out 2).trans rfl⟩ (fun hHeld => ?_); refine with_tabW lw_NumberOrderIsTotal.tab15 lw_NumberOrderIsTotal.bits15 (fun HT_ HW_ => ?_)
           generalize wc.drew = w125 at BK1786 BK1787 BK1788 HB hHeld ⊢
           refine pz_ (i := 0) (N := some 131) (zmt 11 [0]) ?_
           refine take_ (i := 1) (N := some 132) (v := ?_) (a' := ?_) #[true, true, false, false, false, false, false, false, false, false, false] rfl rfl (take_ofW HT_.out HW_.out (by kernel_rfl)) (fun _ _ _ h => h) (Or.inl ⟨by rfl, ?_⟩) hHeld ?_ ?_
           rotate_left
           ·rintro w' ⟨s0, s1, s2, s3, s4, s5⟩
            go_simp
            with_reducible rfl
           rotate_left
           ·simp only [Act.put, List.setIfInBounds_toArray, List.set_cons_zero, List.set_cons_succ, i64_w, i32_w]
            rfl
           refine take_ (i := 3) (N := some 134) (v := ?_) (a' := ?_) #[true, true, false, true, false, false, false, false, false, false, false] rfl rfl (take_ofW HT_.out HW_.out (by kernel_rfl)) (fun _ _ _ h => h) (Or.inl ⟨by rfl, ?_⟩) hHeld ?_ ?_
           rotate_left
           ·rintro w' ⟨s0, s1, s2, s3, s4, s5⟩
            go_simp
            with_reducible rfl
           rotate_left
           ·simp only [Act.put, List.setIfInBounds_toArray, List.set_cons_zero, List.set_cons_succ, i64_w, i32_w]
            rfl
           refine one_ (i := 2) (N := some 133) (zmt 11 [0, 1, 2, 3]) rfl rfl (one_of HT_.out (by kernel_rfl)) (by decide) (fun K hK => ?_)
           refine goes_ Tryd.func24 (by kernel_rfl) rfl #[.agg #[.bool a0_0, .slice A0_1 l0_1.length c0_1, .slice A0_2 l0_2.length c0_2]] (by rfl) rfl rfl zq5 ?_
           with_reducible refine (rf_Of.calls kj108 a0_0 _ _ l0_1 _ _ l0_2 t1807 t1808 t1811 _ ?side1 ?side2 ?side3 ?side4 A120.out).mono ?_
           (case side1 => exact zc (Kd.C_below HR0_1.out HB.out))
           (case side2 => exact HC0_1.out)
           (case side3 => exact zc (Kd.C_below HR0_2.out HB.out))
           (case side4 => exact HC0_2.out)
           rintro e w126 ⟨v1809, v1812, rfl, ho0, ho1, hb⟩
           refine ⟨_, rfl, ?_⟩
           have n0_ := am (Kd.V_lower (Kd.V_mono (ok' := fun k_ => k_ ≠ gb1786 ∧ k_ ≠ gb1787 ∧ k_ ≠ gb1788) ho0 (fun k_ hk_ => ⟨(Kd.freshB (g := gb1786) (o := .cells #[.bool a0_0, .slice A0_1 l0_1.length c0_1, .slice A0_2 l0_2.length c0_2] 24 (0, 0)) (zq2 BK1786.out) k_ hk_), (Kd.freshB (g := gb1787) (o := .cells #[.bool a1_0, .slice A1_1 l1_1.length c1_1, .slice A1_2 l1_2.length c1_2] 24 (0, 0)) (zq2 BK1787.out) k_ hk_), (Kd.freshB (g := gb1788) (o := .cells #[.bool a2_0, .slice A2_1 l2_1.length c2_1, .slice A2_2 l2_2.length c2_2] 24 (0, 0)) (zq2 BK1788.out) k_ hk_)⟩)) (below_size (zb3 GE1786.out GE1787.out GE1788.out)))
           have n1_ := am (Kd.V_lower (Kd.V_mono (ok' := fun k_ => k_ ≠ gb1786 ∧ k_ ≠ gb1787 ∧ k_ ≠ gb1788) ho1 (fun k_ hk_ => ⟨(Kd.freshB (g := gb1786) (o := .cells #[.bool a0_0, .slice A0_1 l0_1.length c0_1, .slice A0_2 l0_2.length c0_2] 24 (0, 0)) (zq2 BK1786.out) k_ hk_), (Kd.freshB (g := gb1787) (o := .cells #[.bool a1_0, .slice A1_1 l1_1.length c1_1, .slice A1_2 l1_2.length c1_2] 24 (0, 0)) (zq2 BK1787.out) k_ hk_), (Kd.freshB (g := gb1788) (o := .cells #[.bool a2_0, .slice A2_1 l2_1.length c2_1, .slice A2_2 l2_2.length c2_2] 24 (0, 0)) (zq2 BK1788.out) k_ hk_)⟩)) (below_size (zb3 GE1786.out GE1787.out GE1788.out)))
           have n2_ := am (bb BK1786.out hb)
           have n3_ := am (bb BK1787.out hb)
           have n4_ := am (bb BK1788.out hb)
           have n5_ := am (below_step (zb3 GE1786.out GE1787.out GE1788.out) hb)
           clear BK1786 BK1787 BK1788 HB
           have HO1810 := n0_
           have HO1813 := n1_
           have BK1786 := n2_
           have BK1787 := n3_
           have BK1788 := n4_
           have HB := n5_
           clear n0_ n1_ n2_ n3_ n4_ n5_
           (try clear hb)
           (try clear hb2)
           (try clear hk)
           (try clear hi)
           (try clear ho0)
           (try clear ho1)
           refine hK.out _ _ ⟨(blk_cell BK1786.out 0).trans rfl, (blk_cell BK1786.out 1).trans rfl, (blk_cell BK1786.out 2).trans rfl, (blk_cell BK1787.out 0).trans rfl, (blk_cell BK1787.out 1).trans rfl, (blk_cell BK1787.out 2).trans rfl⟩ (fun hHeld => ?_)
           clear hK K
           refine nz_ (N := (some 133)) ?_
           refine one_ (i := 4) (N := some 135) (zmt 11 [0, 1, 2, 3, 4]) rfl rfl (one_of HT_.out (by kernel_rfl)) (by decide) (fun K hK => ?_)
           refine goes_ Tryd.func24 (by kernel_rfl) rfl #[.agg #[.bool a1_0, .slice A1_1 l1_1.length c1_1, .slice A1_2 l1_2.length c1_2]] (by rfl) rfl rfl zq5 ?_
           with_reducible refine (rf_Of.calls kj108 a1_0 _ _ l1_1 _ _ l1_2 t1814 t1815 t1818 _ ?side1 ?side2 ?side3 ?side4 A121.out).mono ?_
           (case side1 => exact zc (Kd.C_below HR1_1.out HB.out))
           (case side2 => exact HC1_1.out)
           (case side3 => exact zc (Kd.C_below HR1_2.out HB.out))
           (case side4 => exact HC1_2.out)
           rintro e w127 ⟨v1816, v1819, rfl, ho0, ho1, hb⟩
           refine ⟨_, rfl, ?_⟩
           have n0_ := am (Kd.V_below (zq3 HO1810.out) hb)
           have n1_ := am (Kd.V_below (zq3 HO1813.out) hb)
           have n2_ := am (Kd.V_lower (Kd.V_mono (ok' := fun k_ => k_ ≠ gb1786 ∧ k_ ≠ gb1787 ∧ k_ ≠ gb1788) ho0 (fun k_ hk_ => ⟨(Kd.freshB (g := gb1786) (o := .cells #[.bool a0_0, .slice A0_1 l0_1.length c0_1, .slice A0_2 l0_2.length c0_2] 24 (0, 0)) (zq2 BK1786.out) k_ hk_), (Kd.freshB (g := gb1787) (o := .cells #[.bool a1_0, .slice A1_1 l1_1.length c1_1, .slice A1_2 l1_2.length c1_2] 24 (0, 0)) (zq2 BK1787.out) k_ hk_), (Kd.freshB (g := gb1788) (o := .cells #[.bool a2_0, .slice A2_1 l2_1.length c2_1, .slice A2_2 l2_2.length c2_2] 24 (0, 0)) (zq2 BK1788.out) k_ hk_)⟩)) (below_size (zb3 GE1786.out GE1787.out GE1788.out)))
           have n3_ := am (Kd.V_lower (Kd.V_mono (ok' := fun k_ => k_ ≠ gb1786 ∧ k_ ≠ gb1787 ∧ k_ ≠ gb1788) ho1 (fun k_ hk_ => ⟨(Kd.freshB (g := gb1786) (o := .cells #[.bool a0_0, .slice A0_1 l0_1.length c0_1, .slice A0_2 l0_2.length c0_2] 24 (0, 0)) (zq2 BK1786.out) k_ hk_), (Kd.freshB (g := gb1787) (o := .cells #[.bool a1_0, .slice A1_1 l1_1.length c1_1, .slice A1_2 l1_2.length c1_2] 24 (0, 0)) (zq2 BK1787.out) k_ hk_), (Kd.freshB (g := gb1788) (o := .cells #[.bool a2_0, .slice A2_1 l2_1.length c2_1, .slice A2_2 l2_2.length c2_2] 24 (0, 0)) (zq2 BK1788.out) k_ hk_)⟩)) (below_size (zb3 GE1786.out GE1787.out GE1788.out)))
           have n4_ := am (bb BK1786.out hb)
           have n5_ := am (bb BK1787.out hb)
           have n6_ := am (bb BK1788.out hb)
           have n7_ := am (below_step (zb3 GE1786.out GE1787.out GE1788.out) hb)
           clear HO1810 HO1813 BK1786 BK1787 BK1788 HB
           have HO1810 := n0_
           have HO1813 := n1_
           have HO1817 := n2_
           have HO1820 := n3_
           have BK1786 := n4_
           have BK1787 := n5_
           have BK1788 := n6_
           have HB := n7_
           clear n0_ n1_ n2_ n3_ n4_ n5_ n6_ n7_
           (try clear hb)
           (try clear hb2)
           (try clear hk)
           (try clear hi)
           (try clear ho0)
           (try clear ho1)
           obtain ⟨Ao128, co128, eo128⟩ := Kd.V_slice HO1810.out
           (first | subst eo128 | (injection eo128 with f1_ f2_ f3_; have f4_ := f1_.symm; have f5_ := f3_.symm; clear f1_ f2_ f3_; subst f4_; subst f5_))
           obtain ⟨Ao129, co129, eo129⟩ := Kd.V_slice HO1813.out
           (first | subst eo129 | (injection eo129 with f1_ f2_ f3_; have f4_ := f1_.symm; have f5_ := f3_.symm; clear f1_ f2_ f3_; subst f4_; subst f5_))
           obtain ⟨Ao130, co130, eo130⟩ := Kd.V_slice HO1817.out
           (first | subst eo130 | (injection eo130 with f1_ f2_ f3_; have f4_ := f1_.symm; have f5_ := f3_.symm; clear f1_ f2_ f3_; subst f4_; subst f5_))
           obtain ⟨Ao131, co131, eo131⟩ := Kd.V_slice HO1820.out
           (first | subst eo131 | (injection eo131 with f1_ f2_ f3_; have f4_ := f1_.symm; have f5_ := f3_.symm; clear f1_ f2_ f3_; subst f4_; subst f5_))
           refine hK.out _ _ ⟨(blk_cell BK1786.out 0).trans rfl, (blk_cell BK1786.out 1).trans rfl, (blk_cell BK1786.out 2).trans rfl, (blk_cell BK1787.out 0).trans rfl, (blk_cell BK1787.out 1).trans rfl, (blk_cell BK1787.out 2).trans rfl⟩ (fun hHeld => ?_)
           clear hK K
           refine nz_ (N := (some 135)) ?_
           refine one_ (i := 5) (N := some 136) (zmf 11 [6, 7, 8, 9, 10]) rfl rfl (one_of HT_.out (by kernel_rfl)) (by decide) (fun K hK => ?_)
           refine goes_ Tryd.func23 (by kernel_rfl) rfl #[.agg #[.bool t1807, .slice Ao128 t1808.length co128, .slice Ao129 t1811.length co129], .agg #[.bool t1814, .slice Ao130 t1815.length co130, .slice Ao131 t1818.length co131]] (by rfl) rfl rfl zq5 ?_
           with_reducible refine (rf_Cmp.calls kj108 t1807 _ _ t1808 _ _ t1811 t1814 _ _ t1815 _ _ t1818 t1821 _ ?side1 ?side2 ?side3 ?side4 ?side5 ?side6 ?side7 ?side8 A122.out).mono ?_
           (case side1 => exact zc ((Kd.V_reads' HO1810.out).2.2))
           (case side2 => exact (Kd.V_reads' HO1810.out).2.1)
           (case side3 => exact zc ((Kd.V_reads' HO1813.out).2.2))
           (case side4 => exact (Kd.V_reads' HO1813.out).2.1)
           (case side5 => exact zc ((Kd.V_reads' HO1817.out).2.2))
           (case side6 => exact (Kd.V_reads' HO1817.out).2.1)
           (case side7 => exact zc ((Kd.V_reads' HO1820.out).2.2))
           (case side8 => exact (Kd.V_reads' HO1820.out).2.1)
           rintro e w132 ⟨rfl, hb⟩
           refine ⟨_, rfl, ?_⟩
           have n0_ := am (Kd.V_below (zq3 HO1810.out) hb)
           have n1_ := am (Kd.V_below (zq3 HO1813.out) hb)
           have n2_ := am (Kd.V_below (zq3 HO1817.out) hb)
           have n3_ := am (Kd.V_below (zq3 HO1820.out) hb)
           have n4_ := am (bb BK1786.out hb)
           have n5_ := am (bb BK1787.out hb)
           have n6_ := am (bb BK1788.out hb)
           have n7_ := am (below_step (zb3 GE1786.out GE1787.out GE1788.out) hb)
           clear HO1810 HO1813 HO1817 HO1820 BK1786 BK1787 BK1788 HB
           have HO1810 := n0_
           have HO1813 := n1_
           have HO1817 := n2_
           have HO1820 := n3_
           have BK1786 := n4_
           have BK1787 := n5_
           have BK1788 := n6_
           have HB := n7_
           clear n0_ n1_ n2_ n3_ n4_ n5_ n6_ n7_
           (try clear hb)
           (try clear hb2)
           (try clear hk)
           (try clear hi)
           refine hK.out _ _ ⟨(blk_cell BK1786.out 0).trans rfl, (blk_cell BK1786.out 1).trans rfl, (blk_cell BK1786.out 2).trans rfl, (blk_cell BK1787.out 0).trans rfl, (blk_cell BK1787.out 1).trans rfl, (blk_cell BK1787.out 2).trans rfl⟩ (fun hHeld => ?_)
           clear hK K
           refine nz_ (N := (some 136)) ?_
           refine pz_ (i := 6) (N := some 137) (zmf 11 [7, 8, 9, 10]) ?_
           refine pz_ (i := 7) (N := some 138) (zmf 11 [8, 9, 10]) ?_
           refine one_ (i := 8) (N := some 139) (zmf 11 [9, 10]) rfl rfl (one_of HT_.out (by kernel_rfl)) (by decide) (fun K hK => ?_)
           refine goes_ Tryd.func16 (by kernel_rfl) rfl #[] (by rfl) rfl rfl zq5 ?_
           with_reducible refine (lw_counted.calls kj108  t1822 _ A124.out).mono ?_
           rintro e w133 ⟨rfl, hb⟩
           refine ⟨_, rfl, ?_⟩
           have n0_ := am (Kd.V_below (zq3 HO1810.out) hb)
           have n1_ := am (Kd.V_below (zq3 HO1813.out) hb)
           have n2_ := am (Kd.V_below (zq3 HO1817.out) hb)
           have n3_ := am (Kd.V_below (zq3 HO1820.out) hb)
           have n4_ := am (bb BK1786.out hb)
           have n5_ := am (bb BK1787.out hb)
           have n6_ := am (bb BK1788.out hb)
           have n7_ := am (below_step (zb3 GE1786.out GE1787.out GE1788.out) hb)
           clear HO1810 HO1813 HO1817 HO1820 BK1786 BK1787 BK1788 HB
           have HO1810 := n0_
           have HO1813 := n1_
           have HO1817 := n2_
           have HO1820 := n3_
           have BK1786 := n4_
           have BK1787 := n5_
           have BK1788 := n6_
           have HB := n7_
           clear n0_ n1_ n2_ n3_ n4_ n5_ n6_ n7_
           (try clear hb)
           (try clear hb2)
           (try clear hk)
           (try clear hi)
           refine hK.out _ _ ⟨(blk_cell BK1786.out 0).trans rfl, (blk_cell BK1786.out 1).trans rfl, (blk_cell BK1786.out 2).trans rfl, (blk_cell BK1787.out 0).trans rfl, (blk_cell BK1787.out 1).trans rfl, (blk_cell BK1787.out 2).trans rfl⟩ (fun hHeld => ?_)
           clear hK K
           refine nz_ (N := (some 139)) ?_
           refine pz_ (i := 9) (N := some 140) (zmf 11 [10]) ?_
           refine pz_ (i := 10) (N := some 6) (zmf 11 []) ?_
           refine done_ (done_of HT_.out (by kernel_rfl)) ?_
           try go_wp2
           go_ret
           exact ⟨zq9, zb3 GE1786.out GE1787.out GE1788.out⟩
          ·rw [if_neg c123] at H
           have c123b0 : (t1798 == t1821) = false := beq_eq_false_iff_ne.mpr c123
           have c123b1 : (t1798 != t1821) = true := bne_iff_ne.mpr c123
           obtain rfl := Option.some.inj H
           cases hr
end Go.Proofs.YtemnjgkicndmjaaDoor.Q
namespace Go.Proofs.YtemnjgkicndmjaaDoor.Q
open Go.RowKit Go.Proofs.YtemnjgkicndmjaaDoorW.PrintWords Go.Proofs.YtemnjgkicndmjaaDoorW.PrintLast Go.Proofs.YtemnjgkicndmjaaDoorW.PrintMore
set_option linter.unusedVariables false
theorem ev_rounds {α : Type} {g : Nat → Option α} {r : α} (h : Ev g r) : ∃ k, g k = some r := by
  obtain ⟨K, hK⟩ := h
  exact ⟨K, hK K (Nat.le_refl _)⟩
theorem sameLimbs_loop (a b : List Int) (hl : a.length = b.length) (hL : a.length ≤ 1099511627776) : ∀ (d i : Nat), d + i = a.length → a.take i = b.take i → Ev (fun k => lw_sameLimbs.l0 k a b (i : Int)) (decide (a = b)) := by
  intro d
  induction d with
  | zero =>
    intro i hd h
    rw [List.take_of_length_le (by omega), List.take_of_length_le (by omega)] at h
    refine Ev.step (f := fun _ => some true) (fun k => ?_) (Ev.eq (Ev.now _) (by rw [decide_eq_true h]))
    simp only [lw_sameLimbs.l0]
    rw [if_neg (by omega)]
  | succ d ih =>
    intro i hd h
    have g1 : (i : Int) < (a.length : Int) := by omega
    have g2 : (0 : Int) ≤ (i : Int) := by omega
    have g3 : (i : Int) < (b.length : Int) := by omega
    have gw : ∀ _ : Unit, wrap64 ((i : Int) + 1) = ((i + 1 : Nat) : Int) := fun _ => by rw [w64 (by omega) (by omega)]; omega
    by_cases c : a.getD i 0 = b.getD i 0
    · refine Ev.step (f := fun k => lw_sameLimbs.l0 k a b ((i + 1 : Nat) : Int)) (fun k => ?_) (ih (i + 1) (by omega) (by rw [take_succ' _ _ (by omega), take_succ' _ _ (by omega), h, c]))
      simp only [lw_sameLimbs.l0]
      rw [if_pos g1, if_pos g2, if_pos g3, rd_getD, rd_getD, if_pos c, gw ()]
    · refine Ev.step (f := fun _ => some false) (fun k => ?_) (Ev.eq (Ev.now _) (by rw [decide_eq_false]; rintro rfl; exact c rfl))
      simp only [lw_sameLimbs.l0]
      rw [if_pos g1, if_pos g2, if_pos g3, rd_getD, rd_getD, if_neg c]
theorem sameLimbs_ev (a b : List Int) (hL : a.length ≤ 1099511627776) : Ev (fun k => lw_sameLimbs.f k a b) (decide (a = b)) := by
  by_cases hl : a.length = b.length
  · refine Ev.congr (fun k => ?_) (sameLimbs_loop a b hl hL a.length 0 (by omega) rfl)
    unfold lw_sameLimbs.f
    rw [if_pos (by omega)]; rfl
  · refine Ev.ret fun k => ?_
    unfold lw_sameLimbs.f
    rw [if_neg (by omega), decide_eq_false (fun h => hl (by rw [h]))]
theorem same_ev (m : Bool) (a b : List Int) (n : Bool) (c d : List Int) (hL : a.length ≤ 1099511627776) (hM : b.length ≤ 1099511627776) : Ev (fun k => lw_same.f k m a b n c d) (decide (m = n ∧ a = c ∧ b = d)) := by
  by_cases h : m = n
  · refine Ev.congr (f := fun k => (lw_sameLimbs.f k a c).bind fun t518 => (if t518 = true then ((lw_sameLimbs.f k b d).bind fun t519 => (some t519)) else (some false))) (fun k => by unfold lw_same.f; rw [if_pos (by simpa using h)]) ?_
    refine Ev.bind (f := fun k t518 => (if t518 = true then ((lw_sameLimbs.f k b d).bind fun t519 => (some t519)) else (some false))) (sameLimbs_ev a c hL) ?_
    by_cases h2 : a = c
    · refine Ev.congr (f := fun k => (lw_sameLimbs.f k b d).bind fun t519 => (some t519)) (fun k => by rw [if_pos (decide_eq_true h2)]) ?_
      refine Ev.bind (f := fun _ t519 => some t519) (sameLimbs_ev b d hM) (Ev.eq (Ev.now _) ?_)
      simp [h, h2]
    · exact Ev.ret fun k => by rw [if_neg (by simp [h2])]; simp [h2]
  · exact Ev.ret fun k => by unfold lw_same.f; rw [if_neg (by simpa using h)]; simp [h]
theorem small_len {B : Int} (hB : 1 < B) {xs : List Int} (h : Lim B xs) (hn : Nrm xs) {n : Nat} (hv : val B xs < B ^ n) : xs.length ≤ n := by
  rcases Nat.lt_or_ge n xs.length with c | c
  · have h0 : xs ≠ [] := by rintro rfl; simp at c
    have h1 := val_ge (by omega) h hn h0
    have h2 := pow_mono' (show 0 < B by omega) (show n ≤ xs.length - 1 by omega)
    omega
  · exact c
theorem ofInt_64 (a : Nat) (ha : a < 18446744073709551616) : (BitVec.ofInt 64 (a : Int)).toNat = a := by
  rw [BitVec.ofInt_natCast, BitVec.toNat_ofNat]; exact Nat.mod_eq_of_lt (by omega)
theorem i64w (n : Int) (h0 : 0 ≤ n) (h1 : n < 9223372036854775808) : IntKind.i64.wrap n = n := by
  simp [IntKind.wrap, IntKind.bits, IntKind.signed]; omega
theorem i64_and (a b : Int) (h1 : 0 ≤ a) (h2 : a < 9223372036854775808) (h3 : 0 ≤ b) (h4 : b < 9223372036854775808) : Go.bits .and .i64 a b = ((a.toNat &&& b.toNat : Nat) : Int) := by
  obtain ⟨A, rfl⟩ := Int.eq_ofNat_of_zero_le h1
  obtain ⟨B, rfl⟩ := Int.eq_ofNat_of_zero_le h3
  have hx : A &&& B < 2 ^ 63 := Nat.and_lt_two_pow _ (by omega)
  show IntKind.i64.wrap ((BitVec.ofInt 64 (A : Int) &&& BitVec.ofInt 64 (B : Int)).toNat : Int) = _
  rw [BitVec.toNat_and, ofInt_64 A (by omega), ofInt_64 B (by omega), i64w _ (by omega) (by omega)]
  rfl
theorem i64_or (a b : Int) (h1 : 0 ≤ a) (h2 : a < 9223372036854775808) (h3 : 0 ≤ b) (h4 : b < 9223372036854775808) : Go.bits .or .i64 a b = ((a.toNat ||| b.toNat : Nat) : Int) := by
  obtain ⟨A, rfl⟩ := Int.eq_ofNat_of_zero_le h1
  obtain ⟨B, rfl⟩ := Int.eq_ofNat_of_zero_le h3
  have hx : A ||| B < 2 ^ 63 := Nat.or_lt_two_pow (by omega) (by omega)
  show IntKind.i64.wrap ((BitVec.ofInt 64 (A : Int) ||| BitVec.ofInt 64 (B : Int)).toNat : Int) = _
  rw [BitVec.toNat_or, ofInt_64 A (by omega), ofInt_64 B (by omega), i64w _ (by omega) (by omega)]
  rfl
theorem i64_and1 {x : Int} (h0 : 0 ≤ x) (h1 : x < 9223372036854775808) : Go.bits .and .i64 x 1 = x % 2 := by
  rw [i64_and _ _ h0 h1 (by omega) (by omega)]
  have : (1 : Int).toNat = 1 := rfl
  rw [this, Nat.and_one_is_mod]; omega
theorem rtrim_ev (xs : List Int) : xs.length ≤ 1099511627776 → Ev (fun k => rf_trim.f k xs) (trim xs) := by
  show xs.length ≤ 1099511627776 → Ev (fun k => rf_trim.l0 k xs) (trim xs)
  refine snoc_induction (P := fun xs => xs.length ≤ 1099511627776 → Ev (fun k => rf_trim.l0 k xs) (trim xs)) ?_ ?_ xs
  · intro _
    exact Ev.step (f := fun _ => some []) (fun k => by simp only [rf_trim.l0]; rfl) (Ev.now _)
  · intro xs x ih hl
    rw [List.length_append, List.length_singleton] at hl
    have h1 : ((xs ++ [x]).length : Int) > 0 := by rw [List.length_append, List.length_singleton]; omega
    have h2 : wrap64 (((xs ++ [x]).length : Int) - 1) = (xs.length : Int) := by rw [List.length_append, List.length_singleton, w64 (by omega) (by omega)]; omega
    have h3 : (xs.length : Int) < ((xs ++ [x]).length : Int) := by rw [List.length_append, List.length_singleton]; omega
    have h4 : rd (xs ++ [x]) (xs.length : Int) = x := by rw [rd_getD, List.getD_eq_getElem?_getD, List.getElem?_append_right (Nat.le_refl _)]; simp
    have h5 : (xs ++ [x]).take xs.length = xs := by rw [List.take_append_of_le_length (Nat.le_refl _), List.take_of_length_le (Nat.le_refl _)]
    have h0 : (0 : Int) ≤ (xs.length : Int) := by omega
    by_cases c : x = 0
    · subst c
      rw [trim_snoc_zero]
      refine Ev.step (f := fun k => rf_trim.l0 k xs) (fun k => ?_) (ih (by omega))
      simp only [rf_trim.l0]
      rw [if_pos h1, h2, if_pos h0, if_pos h3, h4, if_pos (by rfl), if_pos (Int.le_of_lt h3), Int.toNat_natCast, h5]
    · rw [trim_snoc _ c]
      refine Ev.step (f := fun _ => some (xs ++ [x])) (fun k => ?_) (Ev.now _)
      simp only [rf_trim.l0]
      rw [if_pos h1, h2, if_pos h0, if_pos h3, h4, if_neg c]
theorem rdigit (l : List Int) (i : Nat) : rf_digit.f l (i : Int) = some (l.getD i 0) := by
  unfold rf_digit.f
  by_cases h : i < l.length
  · rw [if_pos (by omega), if_pos (by omega), rd_getD]
  · rw [if_neg (by omega), List.getD_eq_getElem?_getD, List.getElem?_eq_none (by omega)]; rfl
theorem rbit0 {l : List Int} (h : Lim 65536 l) : rf_bit.f l 0 = some (val 65536 l % 2) := by
  unfold rf_bit.f
  have e : wrap64 (Int.tdiv 0 16) = ((0 : Nat) : Int) := by decide +kernel
  have hx := h.getD (by decide) 0
  rw [e, rdigit, Option.bind_some, if_pos (by decide)]
  have e2 : shr .i64 (l.getD 0 0) (Int.tmod 0 16) = l.getD 0 0 := by
    unfold shr
    rw [show min (Int.tmod 0 16).toNat (IntKind.i64).bits = 0 by decide, Int.pow_zero, Int.ediv_one]
  rw [e2, i64_and1 hx.1 (by omega)]
  cases l with
  | nil => rfl
  | cons x xs => simp [val]; omega
theorem natOf_loop (xs : List Int) (hx : Lim 4294967296 xs) (hL : xs.length ≤ 137438953472) : ∀ (d i : Nat) (out : List Int), d + i = xs.length → out.length = 2 * i → Lim 65536 out → val 65536 out = val 4294967296 (xs.take i) →
    ∃ r, Ev (fun k => rf_natOf.l0 k out xs (xs.length : Int) (i : Int)) (trim r) ∧ r.length = 2 * xs.length ∧ Lim 65536 r ∧ val 65536 r = val 4294967296 xs := by
  have hB : (0 : Int) < 4294967296 := by decide
  intro d
  induction d with
  | zero =>
    intro i out hd hl ho hv
    refine ⟨out, Ev.step (f := fun k => (rf_trim.f k out).bind fun t => some t) (fun k => ?_) (Ev.bind (f := fun _ t => some t) (rtrim_ev out (by omega)) (Ev.now _)), by omega, ho, by rw [hv, List.take_of_length_le (by omega)]⟩
    simp only [rf_natOf.l0]
    rw [if_neg (by omega)]
  | succ d ih =>
    intro i out hd hl ho hv
    have g1 : (i : Int) < (xs.length : Int) := by omega
    have g2 : (0 : Int) ≤ (i : Int) := by omega
    have g3 : i < xs.length := by omega
    have g4 : ∀ z : List Int, z.length = 2 → out.length + z.length < 17592186044416 := fun z hz => by omega
    have g5 : d + (i + 1) = xs.length := by omega
    have g7 : ∀ _ : Unit, wrap64 ((i : Int) + 1) = ((i + 1 : Nat) : Int) := fun _ => by rw [w64 (by omega) (by omega)]; omega
    have hxi := hx.rd hB (i : Int)
    have hxg : rd xs (i : Int) = xs.getD i 0 := rd_getD xs i
    generalize rd xs (i : Int) = x at hxi hxg
    have e1 : wrap64 (Go.bits .and .u32 x 65535) = x % 65536 := by
      rw [u32_and _ _ hxi.1 hxi.2 (by omega) (by omega), show (65535 : Int).toNat = 2 ^ 16 - 1 from rfl, Nat.and_two_pow_sub_one_eq_mod, w64 (by omega) (by omega)]
      omega
    have e2 : wrap64 (x / 65536) = x / 65536 := w64 (by omega) (by omega)
    obtain ⟨r, hev, h⟩ := ih (i + 1) (out ++ [x % 65536, x / 65536]) g5 (by rw [List.length_append, hl]; simp; omega) (by
        have h1 := lim_nrm_snoc ho (x := x % 65536) ⟨by omega, by omega⟩
        have h2 := lim_nrm_snoc h1 (x := x / 65536) ⟨by omega, by omega⟩
        rw [List.append_assoc] at h2; exact h2) (by
        rw [val_append, hv, val_take_succ _ _ _ g3, ← hxg, hl, Int.pow_mul, show (65536 : Int) ^ 2 = 4294967296 from rfl]
        have h3 : val 65536 [x % 65536, x / 65536] = x := by simp [val]; omega
        rw [h3])
    refine ⟨r, Ev.step (f := fun k => rf_natOf.l0 k (out ++ [x % 65536, x / 65536]) xs (xs.length : Int) ((i + 1 : Nat) : Int)) (fun k => ?_) hev, h⟩
    simp only [rf_natOf.l0]
    rw [if_pos g1, if_pos g2, if_pos g1, rd_getD, ← hxg, e1, e2, Option.bind_some, if_pos (g4 _ rfl), g7 ()]
theorem natOf_ev (xs : List Int) (hx : Lim 4294967296 xs) (hL : xs.length ≤ 137438953472) :
    ∃ r, Ev (fun k => rf_natOf.f k xs) r ∧ Lim 65536 r ∧ Nrm r ∧ val 65536 r = val 4294967296 xs ∧ r.length ≤ 2 * xs.length := by
  obtain ⟨r, h1, h2, h3, h4⟩ := natOf_loop xs hx hL xs.length 0 [] (by omega) (by simp) (lim_nil _) (by simp [val])
  exact ⟨trim r, h1, lim_trim h3, nrm_trim _, by rw [val_trim, h4], by rw [← h2]; exact length_trim r⟩
theorem rcmp_loop (xs ys : List Int) (hx : Lim 65536 xs) (hy : Lim 65536 ys) (hLx : xs.length ≤ 1099511627776) (hLy : ys.length ≤ 1099511627776) : ∀ i : Nat, i ≤ 1099511627776 → val 65536 (xs.drop i) = val 65536 (ys.drop i) →
    Ev (fun k => rf_CmpNat.l0 k xs ys ((i : Int) - 1)) (cmpI (val 65536 xs) (val 65536 ys)) := by
  have hB : (0 : Int) < 65536 := by decide
  have hsp : ∀ (zs : List Int) (i : Nat), val 65536 zs = val 65536 (zs.take i) + 65536 ^ i * val 65536 (zs.drop i) := by
    intro zs i
    by_cases h : i ≤ zs.length
    · exact val_split _ zs i h
    · rw [List.take_of_length_le (by omega), List.drop_of_length_le (by omega)]; simp [val]
  have hdr : ∀ (zs : List Int) (i : Nat), val 65536 (zs.drop i) = zs.getD i 0 + 65536 * val 65536 (zs.drop (i + 1)) := by
    intro zs i
    by_cases h : i < zs.length
    · exact val_drop _ zs i h
    · rw [List.drop_of_length_le (by omega), List.drop_of_length_le (by omega), List.getD_eq_getElem?_getD, List.getElem?_eq_none (by omega)]; simp [val]
  have htk : ∀ (zs : List Int) (i : Nat), Lim 65536 zs → 0 ≤ val 65536 (zs.take i) ∧ val 65536 (zs.take i) < 65536 ^ i := by
    intro zs i hz
    refine ⟨val_nonneg hB (hz.take i), ?_⟩
    have h1 := val_lt hB (hz.take i)
    have h2 := pow_mono' hB (show (zs.take i).length ≤ i by rw [List.length_take]; omega)
    omega
  intro i
  induction i with
  | zero =>
    intro _ h
    rw [List.drop_zero, List.drop_zero] at h
    refine Ev.step (f := fun _ => some 0) (fun k => ?_) (Ev.eq (Ev.now _) ?_)
    · simp only [rf_CmpNat.l0]; rw [if_neg (by omega)]
    · rw [h]; unfold cmpI; rw [if_neg (by omega), if_neg (by omega)]
  | succ i ih =>
    intro hi h
    have e1 : (((i + 1 : Nat) : Int) - 1) = (i : Int) := by omega
    have e2 : ∀ _ : Unit, wrap64 ((i : Int) - 1) = (i : Int) - 1 := fun _ => w64 (by omega) (by omega)
    have g1 : (i : Int) ≥ 0 := by omega
    have hxi := hx.getD hB i
    have hyi := hy.getD hB i
    have dx := hdr xs i
    have dy := hdr ys i
    have sx := hsp xs i
    have sy := hsp ys i
    have tx := htk xs i hx
    have ty := htk ys i hy
    rw [h] at dx
    have hp : (0 : Int) < 65536 ^ i := Int.pow_pos (by decide)
    have key : ∀ a b : Int, a < b → ∀ s t : Int, 0 ≤ s → s < 65536 ^ i → 0 ≤ t → t < 65536 ^ i → s + 65536 ^ i * a < t + 65536 ^ i * b := by
      intro a b hab s t hs0 hs ht0 ht
      have : 65536 ^ i * (a + 1) ≤ 65536 ^ i * b := Int.mul_le_mul_of_nonneg_left (by omega) (by omega)
      rw [Int.mul_add, Int.mul_one] at this
      omega
    by_cases c1 : xs.getD i 0 < ys.getD i 0
    · refine Ev.step (f := fun _ => some (-1)) (fun k => ?_) (Ev.eq (Ev.now _) ?_)
      · simp only [rf_CmpNat.l0]
        rw [e1, if_pos g1, rdigit, rdigit, Option.bind_some, Option.bind_some, if_pos c1]
      · have := key (val 65536 (xs.drop i)) (val 65536 (ys.drop i)) (by omega) _ _ tx.1 tx.2 ty.1 ty.2
        unfold cmpI; rw [if_pos (by omega)]
    · by_cases c2 : xs.getD i 0 > ys.getD i 0
      · refine Ev.step (f := fun _ => some 1) (fun k => ?_) (Ev.eq (Ev.now _) ?_)
        · simp only [rf_CmpNat.l0]
          rw [e1, if_pos g1, rdigit, rdigit, Option.bind_some, Option.bind_some, if_neg c1, if_pos c2]
        · have := key (val 65536 (ys.drop i)) (val 65536 (xs.drop i)) (by omega) _ _ ty.1 ty.2 tx.1 tx.2
          unfold cmpI; rw [if_neg (by omega), if_pos (by omega)]
      · refine Ev.step (f := fun k => rf_CmpNat.l0 k xs ys ((i : Int) - 1)) (fun k => ?_) (ih (by omega) (by omega))
        simp only [rf_CmpNat.l0]
        rw [e1, if_pos g1, rdigit, rdigit, Option.bind_some, Option.bind_some, if_neg c1, if_neg c2, e2 ()]
theorem CmpNat_ev (xs ys : List Int) (hx : Lim 65536 xs) (hy : Lim 65536 ys) (hLx : xs.length ≤ 1099511627776) (hLy : ys.length ≤ 1099511627776) : Ev (fun k => rf_CmpNat.f k xs ys) (cmpI (val 65536 xs) (val 65536 ys)) := by
  have h := rcmp_loop xs ys hx hy hLx hLy (max xs.length ys.length) (by omega) (by rw [List.drop_of_length_le (by omega), List.drop_of_length_le (by omega)])
  refine Ev.congr (fun k => ?_) h
  unfold rf_CmpNat.f mx
  congr 1
  by_cases c : xs.length < ys.length
  · rw [if_pos (by omega), w64 (by omega) (by omega), Nat.max_eq_right (by omega)]
  · rw [if_neg (by omega), w64 (by omega) (by omega), Nat.max_eq_left (by omega)]
theorem rsub_loop (xs ys : List Int) (hx : Lim 65536 xs) (hy : Lim 65536 ys) (hge : val 65536 ys ≤ val 65536 xs) (hL : xs.length ≤ 1099511627776) : ∀ (d i : Nat) (out : List Int) (b : Int), d + i = xs.length → out.length = i → Lim 65536 out → 0 ≤ b → b ≤ 1 →
    val 65536 out - 65536 ^ i * b = val 65536 (xs.take i) - val 65536 (ys.take i) →
    ∃ r, Ev (fun k => rf_SubNat.l0 k xs ys out b (xs.length : Int) (i : Int)) (trim r) ∧ r.length = xs.length ∧ Lim 65536 r ∧ val 65536 r = val 65536 xs - val 65536 ys := by
  have hB : (0 : Int) < 65536 := by decide
  intro d
  induction d with
  | zero =>
    intro i out b hd hl ho hb0 hb hv
    refine ⟨out, Ev.step (f := fun k => (rf_trim.f k out).bind fun t => some t) (fun k => ?_) (Ev.bind (f := fun _ t => some t) (rtrim_ev out (by omega)) (Ev.now _)), by omega, ho, ?_⟩
    · simp only [rf_SubNat.l0]
      rw [if_neg (by omega)]
    · have h1 := val_lt hB hx
      have h2 := val_split' 65536 ys i
      have h3 := val_nonneg hB (hy.take i)
      have h4 := val_nonneg hB (hy.drop i)
      have h5 := val_lt hB ho
      have h6 := val_nonneg hB ho
      rw [List.take_of_length_le (by omega)] at hv
      rw [show xs.length = i by omega] at h1
      rw [hl] at h5
      have hp : (0 : Int) < 65536 ^ i := Int.pow_pos (by decide)
      generalize val 65536 (ys.drop i) = z at *
      have hz : z = 0 := by
        rcases Int.lt_or_le 0 z with h | h
        · have : 65536 ^ i * 1 ≤ 65536 ^ i * z := Int.mul_le_mul_of_nonneg_left (by omega) (by omega)
          omega
        · omega
      have hb1 : b = 0 := by
        rcases Int.lt_or_le 0 b with h | h
        · have e : b = 1 := by omega
          rw [e, Int.mul_one] at hv
          rw [hz, Int.mul_zero] at h2
          omega
        · omega
      rw [hb1, Int.mul_zero] at hv
      rw [hz, Int.mul_zero] at h2
      omega
  | succ d ih =>
    intro i out b hd hl ho hb0 hb hv
    have g1 : (i : Int) < (xs.length : Int) := by omega
    have g2 : (0 : Int) ≤ (i : Int) := by omega
    have g4 : out.length < 17592186044416 := by omega
    have g5 : d + (i + 1) = xs.length := by omega
    have g7 : ∀ _ : Unit, wrap64 ((i : Int) + 1) = ((i + 1 : Nat) : Int) := fun _ => by rw [w64 (by omega) (by omega)]; omega
    have hxi := hx.getD hB i
    have hyi := hy.getD hB i
    have tx := val_take_succ' 65536 xs i
    have ty := val_take_succ' 65536 ys i
    have hrd : rd xs (i : Int) = xs.getD i 0 := rd_getD xs i
    have hdg : rf_digit.f ys (i : Int) = some (ys.getD i 0) := rdigit ys i
    generalize xs.getD i 0 = x at *
    generalize ys.getD i 0 = y at *
    have e1 : ∀ _ : Unit, wrap64 (wrap64 (x - y) - b) = x - y - b := fun _ => by rw [w64 (x := x - y) (by omega) (by omega), w64 (by omega) (by omega)]
    have e2 : ∀ _ : Unit, wrap64 (x - y - b + 65536) = x - y - b + 65536 := fun _ => w64 (by omega) (by omega)
    by_cases c : x - y - b < 0
    · obtain ⟨r, hev, h⟩ := ih (i + 1) (out ++ [x - y - b + 65536]) 1 g5 (by rw [List.length_append, List.length_singleton, hl]) (lim_nrm_snoc ho ⟨by omega, by omega⟩) (by decide) (by decide) (by
        rw [val_snoc, hl, tx, ty, Int.pow_succ]
        grind)
      refine ⟨r, Ev.step (f := fun k => rf_SubNat.l0 k xs ys (out ++ [x - y - b + 65536]) 1 (xs.length : Int) ((i + 1 : Nat) : Int)) (fun k => ?_) hev, h⟩
      simp only [rf_SubNat.l0]
      rw [if_pos g1, if_pos g2, if_pos g1, hdg, Option.bind_some, hrd, e1 (), if_pos c, if_pos g4, e2 (), g7 ()]
    · obtain ⟨r, hev, h⟩ := ih (i + 1) (out ++ [x - y - b]) 0 g5 (by rw [List.length_append, List.length_singleton, hl]) (lim_nrm_snoc ho ⟨by omega, by omega⟩) (by decide) (by decide) (by
        rw [val_snoc, hl, tx, ty, Int.pow_succ]
        grind)
      refine ⟨r, Ev.step (f := fun k => rf_SubNat.l0 k xs ys (out ++ [x - y - b]) 0 (xs.length : Int) ((i + 1 : Nat) : Int)) (fun k => ?_) hev, h⟩
      simp only [rf_SubNat.l0]
      rw [if_pos g1, if_pos g2, if_pos g1, hdg, Option.bind_some, hrd, e1 (), if_neg c, if_pos g4, g7 ()]
theorem SubNat_ev (xs ys : List Int) (hx : Lim 65536 xs) (hy : Lim 65536 ys) (hge : val 65536 ys ≤ val 65536 xs) (hL : xs.length ≤ 1099511627776) :
    ∃ r, Ev (fun k => rf_SubNat.f k xs ys) r ∧ Lim 65536 r ∧ Nrm r ∧ val 65536 r = val 65536 xs - val 65536 ys ∧ r.length ≤ xs.length := by
  obtain ⟨r, h1, h2, h3, h4⟩ := rsub_loop xs ys hx hy hge hL xs.length 0 [] 0 (by omega) rfl (lim_nil _) (by decide) (by decide) (by simp [val])
  exact ⟨trim r, h1, lim_trim h3, nrm_trim _, by rw [val_trim, h4], by rw [← h2]; exact length_trim r⟩
theorem rhalf_loop (xs : List Int) (hx : Lim 65536 xs) (hL : xs.length ≤ 1099511627776) : ∀ (d i : Nat) (out : List Int), d + i = xs.length → out.length = xs.length → Lim 65536 out →
    val 65536 (out.take i) + 65536 ^ i * (val 65536 (xs.drop i) / 2) = val 65536 xs / 2 →
    ∃ r, Ev (fun k => rf_half.l0 k xs out (xs.length : Int) (i : Int)) (trim r) ∧ r.length = xs.length ∧ Lim 65536 r ∧ val 65536 r = val 65536 xs / 2 := by
  have hB : (0 : Int) < 65536 := by decide
  intro d
  induction d with
  | zero =>
    intro i out hd hl ho hv
    refine ⟨out, Ev.step (f := fun k => (rf_trim.f k out).bind fun t => some t) (fun k => ?_) (Ev.bind (f := fun _ t => some t) (rtrim_ev out (by omega)) (Ev.now _)), by omega, ho, ?_⟩
    · simp only [rf_half.l0]
      rw [if_neg (by omega)]
    · rw [List.take_of_length_le (by omega), List.drop_of_length_le (by omega)] at hv
      simp only [val, Int.zero_ediv, Int.mul_zero, Int.add_zero] at hv
      exact hv
  | succ d ih =>
    intro i out hd hl ho hv
    have g1 : (i : Int) < (xs.length : Int) := by omega
    have g2 : (0 : Int) ≤ (i : Int) := by omega
    have g3 : (i : Int) < (out.length : Int) := by omega
    have g4 : i < out.length := by omega
    have g5 : d + (i + 1) = xs.length := by omega
    have g7 : ∀ _ : Unit, wrap64 ((i : Int) + 1) = ((i + 1 : Nat) : Int) := fun _ => by rw [w64 (by omega) (by omega)]; omega
    have hxi := hx.getD hB i
    have hyi := hx.getD hB (i + 1)
    have d0 := val_drop' 65536 xs i
    have d1 := val_drop' 65536 xs (i + 1)
    have hrd : rd xs (i : Int) = xs.getD i 0 := rd_getD xs i
    have hsd := shr_digit (P := 2) (P' := 32768) (B := 65536) (D0 := xs.getD i 0) (D1 := xs.getD (i + 1) 0) (t := val 65536 (xs.drop (i + 1 + 1))) (by decide) (by decide) (by decide) hxi.1 hxi.2
    rw [← d1, ← d0] at hsd
    have hdg : xs.getD i 0 / 2 + xs.getD (i + 1) 0 % 2 * 32768 = ((xs.getD i 0 + 65536 * xs.getD (i + 1) 0) / 2) % 65536 := by
      generalize xs.getD i 0 = x at *
      generalize xs.getD (i + 1) 0 = y at *
      clear d0 d1 hsd hrd hv
      omega
    have hor : Go.bits .or .i64 (xs.getD i 0 / 2) (wrap64 (Go.bits .and .i64 (xs.getD (i + 1) 0) 1 * 32768)) = xs.getD i 0 / 2 + xs.getD (i + 1) 0 % 2 * 32768 := by
      generalize xs.getD i 0 = x at *
      generalize xs.getD (i + 1) 0 = y at *
      clear d0 d1 hsd hrd hv hdg
      rw [i64_and1 hyi.1 (by omega), w64 (by omega) (by omega), i64_or _ _ (by omega) (by omega) (by omega) (by omega), Nat.or_comm, nat_join 15]
      · omega
      · omega
      · omega
    have hlim : 0 ≤ xs.getD i 0 / 2 + xs.getD (i + 1) 0 % 2 * 32768 ∧ xs.getD i 0 / 2 + xs.getD (i + 1) 0 % 2 * 32768 < 65536 := by
      generalize xs.getD i 0 = x at *
      generalize xs.getD (i + 1) 0 = y at *
      clear d0 d1 hsd hrd hv hdg hor
      omega
    obtain ⟨r, hev, h⟩ := ih (i + 1) (out.set i (xs.getD i 0 / 2 + xs.getD (i + 1) 0 % 2 * 32768)) g5 (by rw [List.length_set, hl]) (ho.set _ hlim) (by
      rw [take_set_succ g4, val_snoc, List.length_take, Nat.min_eq_left (Nat.le_of_lt g4), hdg, ← hv, ← hsd, Int.pow_succ]
      grind)
    refine ⟨r, Ev.step (f := fun k => rf_half.l0 k xs (out.set i (xs.getD i 0 / 2 + xs.getD (i + 1) 0 % 2 * 32768)) (xs.length : Int) ((i + 1 : Nat) : Int)) (fun k => ?_) hev, h⟩
    simp only [rf_half.l0]
    rw [if_pos g1, if_pos g2, if_pos g1, g7 (), rdigit, Option.bind_some, if_pos g3, hrd, hor, Int.toNat_natCast]
theorem half_ev (xs : List Int) (hx : Lim 65536 xs) (hL : xs.length ≤ 1099511627776) :
    ∃ r, Ev (fun k => rf_half.f k xs) r ∧ Lim 65536 r ∧ Nrm r ∧ val 65536 r = val 65536 xs / 2 ∧ r.length ≤ xs.length := by
  obtain ⟨r, h1, h2, h3, h4⟩ := rhalf_loop xs hx hL xs.length 0 (List.replicate xs.length 0) (by omega) (by simp) (lim_replicate (by decide) _) (by simp [val])
  refine ⟨trim r, Ev.congr (fun k => ?_) h1, lim_trim h3, nrm_trim _, by rw [val_trim, h4], by rw [← h2]; exact length_trim r⟩
  unfold rf_half.f
  rw [if_pos (by omega), if_pos (by omega), Int.toNat_natCast]
  rfl
theorem rshl_loop (xs : List Int) (w b : Nat) (hx : Lim 65536 xs) (hb : b < 16) (hL : xs.length + w ≤ 549755813888) : ∀ (d i : Nat) (out : List Int) (c : Int), d + i = xs.length → out.length = w + i → Lim 65536 out → 0 ≤ c → c < 2 ^ b →
    val 65536 out + 65536 ^ (w + i) * c = 65536 ^ w * 2 ^ b * val 65536 (xs.take i) →
    ∃ r, Ev (fun k => rf_ShlNat.l0 k ((16 * w + b : Nat) : Int) out c xs (xs.length : Int) (i : Int)) (trim r) ∧ r.length = xs.length + w + 1 ∧ Lim 65536 r ∧ val 65536 r = 65536 ^ w * 2 ^ b * val 65536 xs := by
  have hB : (0 : Int) < 65536 := by decide
  have hp : (2 : Int) ^ b ≤ 32768 := by
    have := pow_mono' (B := 2) (by decide) (show b ≤ 15 by omega)
    exact this
  have hp0 : (0 : Int) < 2 ^ b := Int.pow_pos (by decide)
  have e1 : ∀ _ : Unit, Int.tmod ((16 * w + b : Nat) : Int) 16 = b := fun _ => by rw [Int.tmod_eq_emod_of_nonneg (by omega)]; omega
  intro d
  induction d with
  | zero =>
    intro i out c hd hl ho hc0 hc hv
    have hl2 : Lim 65536 (out ++ [c]) := lim_nrm_snoc ho ⟨hc0, by omega⟩
    refine ⟨out ++ [c], Ev.step (f := fun k => (rf_trim.f k (out ++ [c])).bind fun t => some t) (fun k => ?_) (Ev.bind (f := fun _ t => some t) (rtrim_ev (out ++ [c]) (by rw [List.length_append, List.length_singleton]; omega)) (Ev.now _)), by rw [List.length_append, List.length_singleton]; omega, hl2, ?_⟩
    · have g4 : out.length < 17592186044416 := by omega
      simp only [rf_ShlNat.l0]
      rw [if_neg (by omega), if_pos g4]
    · rw [val_snoc, hl, hv, List.take_of_length_le (by omega)]
  | succ d ih =>
    intro i out c hd hl ho hc0 hc hv
    have g1 : (i : Int) < (xs.length : Int) := by omega
    have g2 : (0 : Int) ≤ (i : Int) := by omega
    have g4 : out.length < 17592186044416 := by omega
    have g5 : d + (i + 1) = xs.length := by omega
    have g7 : ∀ _ : Unit, wrap64 ((i : Int) + 1) = ((i + 1 : Nat) : Int) := fun _ => by rw [w64 (by omega) (by omega)]; omega
    have g8 : (0 : Int) ≤ (b : Int) := by omega
    have hxi := hx.getD hB i
    have tx := val_take_succ' 65536 xs i
    have hrd : rd xs (i : Int) = xs.getD i 0 := rd_getD xs i
    generalize xs.getD i 0 = x at *
    have hx2 : 0 ≤ x * 2 ^ b := Int.mul_nonneg hxi.1 (by omega)
    have hx3 : x * 2 ^ b ≤ 65535 * 2 ^ b := Int.mul_le_mul_of_nonneg_right (by omega) (by omega)
    have hsh : shl .i64 x (b : Int) = x * 2 ^ b := by
      unfold shl
      rw [Int.toNat_natCast, Nat.min_eq_left (by simp [IntKind.bits]; omega), i64w _ hx2 (by omega)]
    have hor : Go.bits .or .i64 (x * 2 ^ b) c = x * 2 ^ b + c := by
      rw [i64_or _ _ hx2 (by omega) hc0 (by omega), nat_join b]
      · omega
      · have : (((x * 2 ^ b).toNat % 2 ^ b : Nat) : Int) = 0 := by
          rw [Int.natCast_emod, Int.toNat_of_nonneg hx2, Int.natCast_pow]
          exact Int.mul_emod_left _ _
        omega
      · have : ((c.toNat : Nat) : Int) < ((2 ^ b : Nat) : Int) := by
          rw [Int.toNat_of_nonneg hc0, Int.natCast_pow]; exact hc
        omega
    have hq : (x * 2 ^ b + c) / 65536 < 2 ^ b := Int.ediv_lt_of_lt_mul (by decide) (by omega)
    generalize hz : x * 2 ^ b + c = z at *
    have hz0 : 0 ≤ z := by omega
    have e3 : Int.tmod z 65536 = z % 65536 := Int.tmod_eq_emod_of_nonneg hz0
    have e4 : ∀ _ : Unit, wrap64 (Int.tdiv z 65536) = z / 65536 := fun _ => by rw [Int.tdiv_eq_ediv_of_nonneg hz0, w64 (by omega) (by omega)]
    have hz1 : 0 ≤ z / 65536 := by omega
    have hz2 : 0 ≤ z % 65536 ∧ z % 65536 < 65536 := by omega
    have hdm := Int.mul_ediv_add_emod z 65536
    generalize hzq : z / 65536 = q at *
    generalize hzr : z % 65536 = y at *
    obtain ⟨r, hev, h⟩ := ih (i + 1) (out ++ [y]) q g5 (by rw [List.length_append, List.length_singleton, hl, Nat.add_assoc]) (lim_nrm_snoc ho hz2) hz1 hq (by
      rw [val_snoc, hl, tx, ← Nat.add_assoc, Int.pow_succ]
      have e5 : (65536 : Int) ^ (w + i) = 65536 ^ w * 65536 ^ i := Int.pow_add _ _ _
      rw [e5] at hv ⊢
      clear hx3 hx2 hp hp0 hq hz0 hz1 hz2 hor hsh hrd
      grind)
    refine ⟨r, Ev.step (f := fun k => rf_ShlNat.l0 k ((16 * w + b : Nat) : Int) (out ++ [y]) q xs (xs.length : Int) ((i + 1 : Nat) : Int)) (fun k => ?_) hev, h⟩
    simp only [rf_ShlNat.l0]
    rw [if_pos g1, if_pos g2, if_pos g1, e1 (), if_pos g8, if_pos g4, hrd, hsh, hor, e3, e4 (), g7 ()]
theorem ShlNat_ev (xs : List Int) (n : Nat) (hx : Lim 65536 xs) (hL : xs.length + n / 16 ≤ 549755813888) :
    ∃ r, Ev (fun k => rf_ShlNat.f k xs (n : Int)) r ∧ Lim 65536 r ∧ Nrm r ∧ val 65536 r = val 65536 xs * 2 ^ n ∧ r.length ≤ xs.length + n / 16 + 1 := by
  have hB : (0 : Int) < 65536 := by decide
  by_cases hn : xs = []
  · subst hn
    exact ⟨[], Ev.const (by rfl), lim_nil _, nrm_nil, by simp [val], by simp⟩
  · obtain ⟨r, h1, h2, h3, h4⟩ := rshl_loop xs (n / 16) (n % 16) hx (by omega) hL xs.length 0 (List.replicate (n / 16) 0) 0 (by omega) (by simp) (lim_replicate hB _) (by decide) (Int.pow_pos (by decide))
      (by rw [val_replicate, List.take_zero]; simp [val])
    refine ⟨trim r, ?_, lim_trim h3, nrm_trim _, ?_, Nat.le_trans (length_trim _) (by omega)⟩
    · refine Ev.congr (fun k => ?_) h1
      unfold rf_ShlNat.f
      have hne : ¬ (xs.length : Int) = 0 := fun h => hn (List.length_eq_zero_iff.1 (by omega))
      have b1 : (0 : Int) ≤ ((n / 16 : Nat) : Int) := by omega
      have b2 : n / 16 ≤ 35184372088832 := by omega
      have en : 16 * (n / 16) + n % 16 = n := by omega
      have e : wrap64 (Int.tdiv (n : Int) 16) = ((n / 16 : Nat) : Int) := by
        rw [Int.tdiv_eq_ediv_of_nonneg (by omega), w64 (by omega) (by omega)]; omega
      rw [if_neg hne, e, if_pos b1, Int.toNat_natCast, if_pos b2, en]
      rfl
    · rw [val_trim, h4, show (65536 : Int) = 2 ^ 16 from rfl, ← Int.pow_mul, ← Int.pow_add, show 16 * (n / 16) + n % 16 = n by omega, Int.mul_comm]
theorem gcd_odd_half {a b : Nat} (h : Nat.gcd (2 * a) b % 2 = 1) : Nat.gcd (2 * a) b = Nat.gcd a b := by
  refine Nat.dvd_antisymm ?_ ?_
  · refine Nat.dvd_gcd ?_ (Nat.gcd_dvd_right _ _)
    have hc : Nat.Coprime (Nat.gcd (2 * a) b) 2 := by
      rw [Nat.coprime_comm]
      unfold Nat.Coprime
      rw [Nat.gcd_rec, h]
      decide
    exact hc.dvd_of_dvd_mul_left (Nat.gcd_dvd_left (2 * a) b)
  · exact Nat.dvd_gcd (Nat.dvd_trans (Nat.gcd_dvd_left a b) ⟨2, Nat.mul_comm 2 a⟩) (Nat.gcd_dvd_right a b)
structure GS (g N : Nat) (A B : List Int) (a b : Nat) : Prop where
  la : Lim 65536 A
  lb : Lim 65536 B
  na : Nrm A
  nb : Nrm B
  va : val 65536 A = a
  vb : val 65536 B = b
  sa : A.length ≤ N
  sb : B.length ≤ N
  gg : Nat.gcd a b = g
theorem gcdnat_loops (g N s : Nat) (hg : g % 2 = 1) (hN : N ≤ 4294967296) (hs : s ≤ 16 * N) : ∀ (m a b : Nat) (A B : List Int), a + b ≤ m → 0 < b → GS g N A B a b →
    (∃ r, Ev (fun k => rf_GcdNat.l1 k A B (s : Int)) r ∧ Lim 65536 r ∧ Nrm r ∧ val 65536 r = (g : Int) * 2 ^ s) ∧
    (0 < a → ∃ r, Ev (fun k => rf_GcdNat.l2 k A B (s : Int)) r ∧ Lim 65536 r ∧ Nrm r ∧ val 65536 r = (g : Int) * 2 ^ s) ∧
    (a % 2 = 1 → ∃ r, Ev (fun k => rf_GcdNat.l3 k A B (s : Int)) r ∧ Lim 65536 r ∧ Nrm r ∧ val 65536 r = (g : Int) * 2 ^ s) := by
  have hB : (0 : Int) < 65536 := by decide
  intro m
  induction m with
  | zero => intro a b A B hm hb0; omega
  | succ m ih =>
    intro a b A B hm hb0 H
    have h3 : a % 2 = 1 → ∃ r, Ev (fun k => rf_GcdNat.l3 k A B (s : Int)) r ∧ Lim 65536 r ∧ Nrm r ∧ val 65536 r = (g : Int) * 2 ^ s := by
      intro ha
      by_cases c : b % 2 = 0
      · obtain ⟨r, r1, r2, r3, r4, r5⟩ := half_ev B H.lb (by have := H.sb; omega)
        have hb2 : b = 2 * (b / 2) := by omega
        have hr4 : val 65536 r = ((b / 2 : Nat) : Int) := by rw [r4, H.vb]; omega
        have hgg : Nat.gcd a (b / 2) = g := by
          have h5 := H.gg
          rw [hb2, Nat.gcd_comm] at h5
          rw [Nat.gcd_comm, ← gcd_odd_half (by rw [h5]; exact hg), h5]
        obtain ⟨z, hz⟩ := (ih a (b / 2) A r (by omega) (by omega) ⟨H.la, r2, H.na, r3, H.va, hr4, H.sa, Nat.le_trans r5 H.sb, hgg⟩).2.2 ha
        refine ⟨z, Ev.step (f := fun k => (rf_half.f k B).bind fun t589 => rf_GcdNat.l3 k A t589 (s : Int)) (fun k => ?_) (Ev.bind (f := fun k t589 => rf_GcdNat.l3 k A t589 (s : Int)) r1 hz.1), hz.2⟩
        simp only [rf_GcdNat.l3]
        rw [rbit0 H.lb, Option.bind_some, H.vb, if_pos (by omega)]
      · have hbit : ∀ k, rf_GcdNat.l3 (k + 1) A B (s : Int) = ((rf_CmpNat.f k A B).bind fun t592 => (if t592 < 0 then ((rf_SubNat.f k B A).bind fun t593 => (rf_GcdNat.l1 k t593 A (s : Int))) else ((rf_SubNat.f k A B).bind fun t596 => (rf_GcdNat.l1 k t596 B (s : Int))))) := by
          intro k
          simp only [rf_GcdNat.l3]
          rw [rbit0 H.lb, Option.bind_some, H.vb, if_neg (by omega)]
        have hcmp := CmpNat_ev A B H.la H.lb (by have := H.sa; omega) (by have := H.sb; omega)
        rw [H.va, H.vb] at hcmp
        by_cases c2 : a < b
        · obtain ⟨r, r1, r2, r3, r4, r5⟩ := SubNat_ev B A H.lb H.la (by rw [H.va, H.vb]; omega) (by have := H.sb; omega)
          have hr4 : val 65536 r = ((b - a : Nat) : Int) := by rw [r4, H.va, H.vb]; omega
          have hgg : Nat.gcd (b - a) a = g := by
            rw [← H.gg, Nat.gcd_comm a b]
            exact Nat.gcd_sub_self_left (by omega)
          obtain ⟨z, hz⟩ := (ih (b - a) a r A (by omega) (by omega) ⟨r2, H.la, r3, H.na, hr4, H.va, Nat.le_trans r5 H.sb, H.sa, hgg⟩).1
          refine ⟨z, Ev.step hbit (Ev.bind (f := fun k t592 => (if t592 < 0 then ((rf_SubNat.f k B A).bind fun t593 => (rf_GcdNat.l1 k t593 A (s : Int))) else ((rf_SubNat.f k A B).bind fun t596 => (rf_GcdNat.l1 k t596 B (s : Int))))) hcmp ?_), hz.2⟩
          have e : cmpI (a : Int) (b : Int) = -1 := by unfold cmpI; rw [if_pos (by omega)]
          rw [e]
          exact Ev.congr (fun k => by rw [if_pos (by decide)]) (Ev.bind (f := fun k t593 => rf_GcdNat.l1 k t593 A (s : Int)) r1 hz.1)
        · obtain ⟨r, r1, r2, r3, r4, r5⟩ := SubNat_ev A B H.la H.lb (by rw [H.va, H.vb]; omega) (by have := H.sa; omega)
          have hr4 : val 65536 r = ((a - b : Nat) : Int) := by rw [r4, H.va, H.vb]; omega
          have hgg : Nat.gcd (a - b) b = g := by
            rw [← H.gg]
            exact Nat.gcd_sub_self_left (by omega)
          obtain ⟨z, hz⟩ := (ih (a - b) b r B (by omega) (by omega) ⟨r2, H.lb, r3, H.nb, hr4, H.vb, Nat.le_trans r5 H.sa, H.sb, hgg⟩).1
          refine ⟨z, Ev.step hbit (Ev.bind (f := fun k t592 => (if t592 < 0 then ((rf_SubNat.f k B A).bind fun t593 => (rf_GcdNat.l1 k t593 A (s : Int))) else ((rf_SubNat.f k A B).bind fun t596 => (rf_GcdNat.l1 k t596 B (s : Int))))) hcmp ?_), hz.2⟩
          have e : ¬ cmpI (a : Int) (b : Int) < 0 := by unfold cmpI; rw [if_neg (by omega)]; split <;> decide
          exact Ev.congr (fun k => by rw [if_neg e]) (Ev.bind (f := fun k t596 => rf_GcdNat.l1 k t596 B (s : Int)) r1 hz.1)
    have h2 : 0 < a → ∃ r, Ev (fun k => rf_GcdNat.l2 k A B (s : Int)) r ∧ Lim 65536 r ∧ Nrm r ∧ val 65536 r = (g : Int) * 2 ^ s := by
      intro ha0
      by_cases c : a % 2 = 0
      · obtain ⟨r, r1, r2, r3, r4, r5⟩ := half_ev A H.la (by have := H.sa; omega)
        have ha2 : a = 2 * (a / 2) := by omega
        have hr4 : val 65536 r = ((a / 2 : Nat) : Int) := by rw [r4, H.va]; omega
        have hgg : Nat.gcd (a / 2) b = g := by
          have h5 := H.gg
          rw [ha2] at h5
          rw [← gcd_odd_half (by rw [h5]; exact hg), h5]
        obtain ⟨z, hz⟩ := (ih (a / 2) b r B (by omega) hb0 ⟨r2, H.lb, r3, H.nb, hr4, H.vb, Nat.le_trans r5 H.sa, H.sb, hgg⟩).2.1 (by omega)
        refine ⟨z, Ev.step (f := fun k => (rf_half.f k A).bind fun t585 => rf_GcdNat.l2 k t585 B (s : Int)) (fun k => ?_) (Ev.bind (f := fun k t585 => rf_GcdNat.l2 k t585 B (s : Int)) r1 hz.1), hz.2⟩
        simp only [rf_GcdNat.l2]
        rw [rbit0 H.la, Option.bind_some, H.va, if_pos (by omega)]
      · obtain ⟨z, hz⟩ := h3 (by omega)
        refine ⟨z, Ev.step (f := fun k => rf_GcdNat.l3 k A B (s : Int)) (fun k => ?_) hz.1, hz.2⟩
        simp only [rf_GcdNat.l2]
        rw [rbit0 H.la, Option.bind_some, H.va, if_neg (by omega)]
    refine ⟨?_, h2, h3⟩
    by_cases c : a = 0
    · have hA : A = [] := (val_eq_zero hB H.la H.na).1 (by rw [H.va]; omega)
      have hbg : b = g := by
        have := H.gg
        rw [c, Nat.gcd_zero_left] at this
        exact this
      obtain ⟨r, r1, r2, r3, r4, r5⟩ := ShlNat_ev B s H.lb (by have := H.sb; omega)
      refine ⟨r, Ev.step (f := fun k => (rf_ShlNat.f k B (s : Int)).bind fun t => some t) (fun k => ?_) (Ev.bind (f := fun _ t => some t) r1 (Ev.now _)), r2, r3, by rw [r4, H.vb, hbg]⟩
      simp only [rf_GcdNat.l1]
      rw [hA, if_neg (by decide)]
    · obtain ⟨z, hz⟩ := h2 (by omega)
      have hA : A ≠ [] := by
        rintro rfl
        have h9 := H.va
        simp only [val] at h9
        clear ih h2 h3 hz
        exact c (by omega)
      have hAl : A.length ≠ 0 := fun h => hA (List.length_eq_zero_iff.1 h)
      refine ⟨z, Ev.step (f := fun k => rf_GcdNat.l2 k A B (s : Int)) (fun k => ?_) hz.1, hz.2⟩
      simp only [rf_GcdNat.l1]
      rw [if_pos (by omega)]
theorem gcdnat_l0 (N : Nat) (hN : N ≤ 4294967296) (G : Nat) : ∀ (m a b s : Nat) (A B : List Int), a + b ≤ m → 0 < a → 0 < b → GS (Nat.gcd a b) N A B a b → Nat.gcd a b * 2 ^ s = G → a * 2 ^ s < 2 ^ (16 * N) →
    ∃ r, Ev (fun k => rf_GcdNat.l0 k A B (s : Int)) r ∧ Lim 65536 r ∧ Nrm r ∧ val 65536 r = (G : Int) := by
  intro m
  induction m with
  | zero => intro a b s A B hm ha0; omega
  | succ m ih =>
    intro a b s A B hm ha0 hb0 H hG hs
    have hsN : s < 16 * N := by
      have h1 : 1 * 2 ^ s ≤ a * 2 ^ s := Nat.mul_le_mul_right _ (by omega)
      rw [Nat.one_mul] at h1
      exact (Nat.pow_lt_pow_iff_right (by omega : 1 < 2)).1 (Nat.lt_of_le_of_lt h1 hs)
    have hfin : Nat.gcd a b % 2 = 1 → ∃ r, Ev (fun k => rf_GcdNat.j1 k A B (s : Int) false) r ∧ Lim 65536 r ∧ Nrm r ∧ val 65536 r = (G : Int) := by
      intro hodd
      obtain ⟨r, r1, r2, r3, r4⟩ := (gcdnat_loops (Nat.gcd a b) N s hodd hN (by omega) (a + b) a b A B (Nat.le_refl _) hb0 H).1
      refine ⟨r, Ev.step (f := fun k => rf_GcdNat.l1 k A B (s : Int)) (fun k => ?_) r1, r2, r3, ?_⟩
      · simp only [rf_GcdNat.j1]
        rw [if_neg (by decide)]
      · rw [r4, ← hG, Int.natCast_mul, Int.natCast_pow]; rfl
    have hg2 : (a % 2 = 0 → b % 2 = 0 → False) → Nat.gcd a b % 2 = 1 := by
      intro h
      have h1 : ¬ 2 ∣ Nat.gcd a b := by
        intro hd
        exact h (Nat.mod_eq_zero_of_dvd (Nat.dvd_trans hd (Nat.gcd_dvd_left a b))) (Nat.mod_eq_zero_of_dvd (Nat.dvd_trans hd (Nat.gcd_dvd_right a b)))
      omega
    by_cases c : a % 2 = 0
    · by_cases c2 : b % 2 = 0
      · obtain ⟨r, r1, r2, r3, r4, r5⟩ := half_ev A H.la (by have := H.sa; omega)
        obtain ⟨t, t1, t2, t3, t4, t5⟩ := half_ev B H.lb (by have := H.sb; omega)
        have ha2 : a = 2 * (a / 2) := by omega
        have hb2 : b = 2 * (b / 2) := by omega
        have hr4 : val 65536 r = ((a / 2 : Nat) : Int) := by rw [r4, H.va]; omega
        have ht4 : val 65536 t = ((b / 2 : Nat) : Int) := by rw [t4, H.vb]; omega
        have hgg : Nat.gcd a b = 2 * Nat.gcd (a / 2) (b / 2) := by
          rw [← Nat.gcd_mul_left, ← ha2, ← hb2]
        obtain ⟨z, hz⟩ := ih (a / 2) (b / 2) (s + 1) r t (by omega) (by omega) (by omega) ⟨r2, t2, r3, t3, hr4, ht4, Nat.le_trans r5 H.sa, Nat.le_trans t5 H.sb, rfl⟩ (by
          rw [← hG, hgg, Nat.pow_succ]
          grind) (by
          rw [Nat.pow_succ]
          have : a / 2 * (2 ^ s * 2) = a * 2 ^ s := by
            conv => rhs; rw [ha2]
            grind
          omega)
        refine ⟨z, Ev.step (f := fun k => rf_GcdNat.j1 k A B (s : Int) true) (fun k => ?_) (Ev.step (f := fun k => (rf_half.f k A).bind fun t575 => (rf_half.f k B).bind fun t578 => rf_GcdNat.l0 k t575 t578 (((s + 1 : Nat)) : Int)) (fun k => ?_) (Ev.bind (f := fun k t575 => (rf_half.f k B).bind fun t578 => rf_GcdNat.l0 k t575 t578 (((s + 1 : Nat)) : Int)) r1 (Ev.bind (f := fun k t578 => rf_GcdNat.l0 k r t578 (((s + 1 : Nat)) : Int)) t1 hz.1))), hz.2⟩
        · simp only [rf_GcdNat.l0]
          rw [rbit0 H.la, Option.bind_some, H.va, if_pos (by omega), rbit0 H.lb, Option.bind_some, H.vb]
          have : ((b : Int) % 2 == 0) = true := by rw [beq_iff_eq]; omega
          rw [this]
        · have e : wrap64 ((s : Int) + 1) = ((s + 1 : Nat) : Int) := by rw [w64 (by omega) (by omega)]; omega
          simp only [rf_GcdNat.j1]
          rw [if_pos trivial, e]
      · obtain ⟨z, hz⟩ := hfin (hg2 (fun _ h => c2 h))
        refine ⟨z, Ev.step (f := fun k => rf_GcdNat.j1 k A B (s : Int) false) (fun k => ?_) hz.1, hz.2⟩
        simp only [rf_GcdNat.l0]
        rw [rbit0 H.la, Option.bind_some, H.va, if_pos (by omega), rbit0 H.lb, Option.bind_some, H.vb]
        have : ((b : Int) % 2 == 0) = false := by rw [beq_eq_false_iff_ne]; omega
        rw [this]
    · obtain ⟨z, hz⟩ := hfin (hg2 (fun h _ => c h))
      refine ⟨z, Ev.step (f := fun k => rf_GcdNat.j1 k A B (s : Int) false) (fun k => ?_) hz.1, hz.2⟩
      simp only [rf_GcdNat.l0]
      rw [rbit0 H.la, Option.bind_some, H.va, if_neg (by omega)]
theorem GcdNat_ev (A B : List Int) (hA : Lim 65536 A) (hB : Lim 65536 B) (nA : Nrm A) (nB : Nrm B) (sA : A.length ≤ 4294967296) (sB : B.length ≤ 4294967296) :
    ∃ r, Ev (fun k => rf_GcdNat.f k A B) r ∧ Lim 65536 r ∧ Nrm r ∧ val 65536 r = (Nat.gcd (val 65536 A).toNat (val 65536 B).toNat : Nat) := by
  have h0 : (0 : Int) < 65536 := by decide
  have a0 := val_nonneg h0 hA
  have b0 := val_nonneg h0 hB
  by_cases c : A = []
  · subst c
    refine ⟨B, Ev.congr (fun k => ?_) (Ev.now _), hB, nB, ?_⟩
    · unfold rf_GcdNat.f; rw [if_pos (by rfl)]
    · simp only [val, Int.toNat_zero, Nat.gcd_zero_left]; omega
  · by_cases c2 : B = []
    · subst c2
      refine ⟨A, Ev.congr (fun k => ?_) (Ev.now _), hA, nA, ?_⟩
      · have hl : A.length ≠ 0 := fun h => c (List.length_eq_zero_iff.1 h)
        unfold rf_GcdNat.f; rw [if_neg (by omega), if_pos (by rfl)]
      · simp only [val, Int.toNat_zero, Nat.gcd_zero_right]; omega
    · have a1 := val_pos h0 hA nA c
      have b1 := val_pos h0 hB nB c2
      have alt := val_lt h0 hA
      have hlA : A.length ≠ 0 := fun h => c (List.length_eq_zero_iff.1 h)
      have hlB : B.length ≠ 0 := fun h => c2 (List.length_eq_zero_iff.1 h)
      obtain ⟨r, r1, r2⟩ := gcdnat_l0 (max A.length B.length) (by omega) (Nat.gcd (val 65536 A).toNat (val 65536 B).toNat) ((val 65536 A).toNat + (val 65536 B).toNat) (val 65536 A).toNat (val 65536 B).toNat 0 A B (Nat.le_refl _) (by omega) (by omega)
        ⟨hA, hB, nA, nB, by omega, by omega, by omega, by omega, rfl⟩ (by rw [Nat.pow_zero, Nat.mul_one]) (by
          have h1 : (65536 : Int) ^ A.length ≤ 65536 ^ max A.length B.length := pow_mono' h0 (by omega)
          rw [Nat.pow_zero, Nat.mul_one, Nat.pow_mul]
          have h2 : (((2 ^ 16) ^ max A.length B.length : Nat) : Int) = (65536 : Int) ^ max A.length B.length := by rw [Int.natCast_pow]; rfl
          omega)
      refine ⟨r, Ev.congr (fun k => ?_) r1, r2⟩
      unfold rf_GcdNat.f
      rw [if_neg (by omega), if_neg (by omega)]
      rfl
theorem Fault_ev (neg : Bool) (num den : List Int) (hn : Lim 4294967296 num) (hd : Lim 4294967296 den) : Ev (fun k => rf_Fault.f k neg num den) (fault neg num den) := by
  have hB : (0 : Int) < 4294967296 := by decide
  by_cases s1 : num.length > 128
  · rw [fault_size (Or.inl s1)]
    refine Ev.congr (f := fun k => rf_Fault.j0 k true neg num den) (fun k => ?_) (Ev.step (f := fun _ => some 3) (fun k => ?_) (Ev.now _))
    · unfold rf_Fault.f; rw [if_pos (by omega)]
    · simp only [rf_Fault.j0]; rw [if_pos trivial]
  · by_cases s2 : den.length > 128
    · rw [fault_size (Or.inr s2)]
      refine Ev.congr (f := fun k => rf_Fault.j0 k true neg num den) (fun k => ?_) (Ev.step (f := fun _ => some 3) (fun k => ?_) (Ev.now _))
      · unfold rf_Fault.f; rw [if_neg (by omega), decide_eq_true (by omega)]
      · simp only [rf_Fault.j0]; rw [if_pos trivial]
    · have hj0 : ∀ r, Ev (fun k => rf_Fault.j0 k false neg num den) r → Ev (fun k => rf_Fault.f k neg num den) r := fun r h =>
        Ev.congr (fun k => by unfold rf_Fault.f; rw [if_neg (by omega), decide_eq_false (by omega)]) h
      have hbad : Ev (fun k => rf_Fault.j1 k true neg num den) 2 := Ev.step (f := fun _ => some 2) (fun k => by simp only [rf_Fault.j1]; rw [if_pos trivial]) (Ev.now _)
      by_cases c3 : den = []
      · rw [fault_bad (by omega) (by omega) (fun h => h.d0 c3)]
        refine hj0 _ (Ev.step (fun k => ?_) hbad)
        simp only [rf_Fault.j0]
        rw [if_neg (by decide), c3, if_pos (by rfl)]
      · have hdl : den.length ≠ 0 := fun h' => c3 (List.length_eq_zero_iff.1 h')
        by_cases c2 : Nrm den
        · have hs0 : ∀ k, rf_Fault.j0 (k + 1) false neg num den = (if (num.length : Int) > 0 then (if 0 ≤ (wrap64 ((num.length : Int) - 1)) then (if (wrap64 ((num.length : Int) - 1)) < (num.length : Int) then (rf_Fault.j1 k ((rd num (wrap64 ((num.length : Int) - 1))) == 0) neg num den) else (none)) else (none)) else (rf_Fault.j1 k false neg num den)) := by
            intro k
            simp only [rf_Fault.j0]
            rw [if_neg (by decide), if_neg (by omega), last_at c3 (by omega), if_pos (by omega), if_pos (by omega), rd_getD, if_neg ((nrm_last c3).1 c2)]
          by_cases c1 : Nrm num
          · have hs1 : ∀ k, rf_Fault.j0 (k + 1) false neg num den = rf_Fault.j1 k false neg num den := by
              intro k
              rw [hs0]
              by_cases c4 : num = []
              · rw [c4, if_neg (by decide)]
              · have hnl : num.length ≠ 0 := fun h' => c4 (List.length_eq_zero_iff.1 h')
                have hz : (num.getD (num.length - 1) 0 == 0) = false := by rw [beq_eq_false_iff_ne]; exact (nrm_last c4).1 c1
                rw [if_pos (by omega), last_at c4 (by omega), if_pos (by omega), if_pos (by omega), rd_getD, hz]
            refine hj0 _ (Ev.step hs1 ?_)
            obtain ⟨a, a1, a2, a3, a4, a5⟩ := natOf_ev num hn (by omega)
            obtain ⟨b, b1, b2, b3, b4, b5⟩ := natOf_ev den hd (by omega)
            have haz : a = [] ↔ num = [] := by rw [← val_eq_zero (by decide) a2 a3, a4, val_eq_zero hB hn c1]
            obtain ⟨g, g1, g2, g3, g4⟩ := GcdNat_ev a b a2 b2 a3 b3 (by omega) (by omega)
            rw [a4, b4] at g4
            have hdp := val_pos hB hd c2 c3
            have hgl : g.length ≤ b.length := by
              rcases Nat.lt_or_ge b.length g.length with h | h
              · have h5 := len_lt_val (B := 65536) (by decide) b2 g2 g3 h
                rw [g4, b4] at h5
                have h6 := Nat.gcd_le_right (val 4294967296 num).toNat (show 0 < (val 4294967296 den).toNat by omega)
                omega
              · exact h
            have hcg := CmpNat_ev g [1] g2 (one_lim (by decide)) (by omega) (by decide)
            rw [val_one, g4] at hcg
            have hcb := CmpNat_ev b [1] b2 (one_lim (by decide)) (by omega) (by decide)
            rw [val_one, b4] at hcb
            have hj2s : ∀ r : Int, (if cmpI ((Nat.gcd (val 4294967296 num).toNat (val 4294967296 den).toNat : Nat) : Int) 1 = 0 then (some 0 : Option Int) else some 2) = some r → Ev (fun k => rf_Fault.j2 k a b false) r := by
              intro r hr
              refine Ev.step (f := fun k => ((rf_GcdNat.f k a b).bind fun t612 => ((rf_CmpNat.f k t612 (([1] : List Int))).bind fun t618 => (if t618 = 0 then (some 0) else (some 2))))) (fun k => ?_) (Ev.bind (f := fun k t612 => ((rf_CmpNat.f k t612 (([1] : List Int))).bind fun t618 => (if t618 = 0 then (some 0) else (some 2)))) g1 (Ev.bind (f := fun _ t618 => (if t618 = 0 then (some 0) else (some 2))) hcg (Ev.const hr)))
              simp only [rf_Fault.j2]; rw [if_neg (by decide)]
            have hcz : cmpI ((Nat.gcd (val 4294967296 num).toNat (val 4294967296 den).toNat : Nat) : Int) 1 = 0 ↔ Nat.gcd (val 4294967296 num).toNat (val 4294967296 den).toNat = 1 := by
              unfold cmpI
              generalize Nat.gcd (val 4294967296 num).toNat (val 4294967296 den).toNat = z
              by_cases h2 : (z : Int) < 1
              · rw [if_pos h2]; omega
              · rw [if_neg h2]
                by_cases h3 : (z : Int) > 1
                · rw [if_pos h3]; omega
                · rw [if_neg h3]; omega
            have hj2a : Nat.gcd (val 4294967296 num).toNat (val 4294967296 den).toNat = 1 → Ev (fun k => rf_Fault.j2 k a b false) 0 := fun h => hj2s 0 (by rw [if_pos (hcz.2 h)])
            have hj2b : ¬ Nat.gcd (val 4294967296 num).toNat (val 4294967296 den).toNat = 1 → Ev (fun k => rf_Fault.j2 k a b false) 2 := fun h => hj2s 2 (by rw [if_neg (fun h' => h (hcz.1 h'))])
            have hj2t : Ev (fun k => rf_Fault.j2 k a b true) 2 := Ev.step (f := fun _ => some 2) (fun k => by simp only [rf_Fault.j2]; rw [if_pos trivial]) (Ev.now _)
            refine Ev.step (f := fun k => ((rf_natOf.f k num).bind fun t602 => ((rf_natOf.f k den).bind fun t605 => (if (t602.length : Int) = 0 then (if neg = true then (rf_Fault.j2 k t602 t605 true) else ((rf_CmpNat.f k t605 (([1] : List Int))).bind fun t611 => (rf_Fault.j2 k t602 t605 (t611 != 0)))) else (rf_Fault.j2 k t602 t605 false))))) (fun k => by simp only [rf_Fault.j1]; rw [if_neg (by decide)]) ?_
            refine Ev.bind (f := fun k t602 => ((rf_natOf.f k den).bind fun t605 => (if (List.length t602 : Int) = 0 then (if neg = true then (rf_Fault.j2 k t602 t605 true) else ((rf_CmpNat.f k t605 (([1] : List Int))).bind fun t611 => (rf_Fault.j2 k t602 t605 (t611 != 0)))) else (rf_Fault.j2 k t602 t605 false)))) a1 ?_
            refine Ev.bind (f := fun k t605 => (if (a.length : Int) = 0 then (if neg = true then (rf_Fault.j2 k a t605 true) else ((rf_CmpNat.f k t605 (([1] : List Int))).bind fun t611 => (rf_Fault.j2 k a t605 (t611 != 0)))) else (rf_Fault.j2 k a t605 false))) b1 ?_
            by_cases c4 : num = []
            · have ha0 : a = [] := haz.2 c4
              have hv0 : val 4294967296 num = 0 := by rw [c4]; rfl
              have hvd := val_nonneg hB hd
              have hl0 : (a.length : Int) = 0 := by rw [ha0]; rfl
              by_cases c5 : neg = true
              · rw [fault_bad (by omega) (by omega) (fun h => by have := h.ng c4; rw [c5] at this; cases this)]
                exact Ev.congr (fun k => by rw [if_pos hl0, if_pos c5]) hj2t
              · refine Ev.congr (fun k => by rw [if_pos hl0, if_neg c5]) (Ev.bind (f := fun k t611 => (rf_Fault.j2 k a b (t611 != 0))) hcb ?_)
                by_cases c6 : val 4294967296 den = 1
                · have hg1 : Nat.gcd (val 4294967296 num).toNat (val 4294967296 den).toNat = 1 := by rw [hv0, c6]; rfl
                  rw [fault_can ⟨by omega, by omega, c1, c2, c3, fun _ => by cases neg <;> simp_all, hg1⟩]
                  have e : (cmpI (val 4294967296 den) 1 != 0) = false := by rw [c6]; rfl
                  rw [e]
                  exact hj2a hg1
                · rw [fault_bad (by omega) (by omega) (fun h => c6 (by have := h.gc; rw [hv0, Int.toNat_zero, Nat.gcd_zero_left] at this; omega))]
                  have e : (cmpI (val 4294967296 den) 1 != 0) = true := by
                    unfold cmpI
                    by_cases h2 : val 4294967296 den < 1
                    · rw [if_pos h2]; rfl
                    · rw [if_neg h2, if_pos (by omega)]; rfl
                  rw [e]
                  exact hj2t
            · have ha0 : a ≠ [] := fun h => c4 (haz.1 h)
              have hl0 : ¬ (a.length : Int) = 0 := fun h => ha0 (List.length_eq_zero_iff.1 (by omega))
              refine Ev.congr (f := fun k => rf_Fault.j2 k a b false) (fun k => by rw [if_neg hl0]) ?_
              by_cases c6 : Nat.gcd (val 4294967296 num).toNat (val 4294967296 den).toNat = 1
              · rw [fault_can ⟨by omega, by omega, c1, c2, c3, fun h => absurd h c4, c6⟩]
                exact hj2a c6
              · rw [fault_bad (by omega) (by omega) (fun h => c6 h.gc)]
                exact hj2b c6
          · rw [fault_bad (by omega) (by omega) (fun h => c1 h.nn)]
            refine hj0 _ (Ev.step (fun k => ?_) hbad)
            rw [hs0]
            have c4 : num ≠ [] := fun h => c1 (by rw [h]; exact nrm_nil)
            have hnl : num.length ≠ 0 := fun h' => c4 (List.length_eq_zero_iff.1 h')
            have hz : (num.getD (num.length - 1) 0 == 0) = true := by
              rw [beq_iff_eq]; exact Decidable.not_not.1 (fun h => c1 ((nrm_last c4).2 h))
            rw [if_pos (by omega), last_at c4 (by omega), if_pos (by omega), if_pos (by omega), rd_getD, hz]
        · rw [fault_bad (by omega) (by omega) (fun h => c2 h.nd)]
          refine hj0 _ (Ev.step (fun k => ?_) hbad)
          simp only [rf_Fault.j0]
          rw [if_neg (by decide), if_neg (by omega), last_at c3 (by omega), if_pos (by omega), if_pos (by omega), rd_getD, if_pos (Decidable.not_not.1 (fun h => c2 ((nrm_last c3).2 h)))]
theorem plus_same : ∀ (k : Nat) (b x : List Int) (c n i : Int), nat_plus.l1000 k b x c n i = nat_plus.l0 k b x c n i := by
  intro k
  induction k with
  | zero => intros; rfl
  | succ k ih => intro b x c n i; simp only [nat_plus.l1000, nat_plus.l0, ih]
theorem plus_loop (b : List Int) (hb : Lim 4294967296 b) (N : Nat) (hN : N ≤ 549755813888) (hbN : b.length ≤ N) (T : Int) (hT : T < 4294967296 ^ N) : ∀ (d i : Nat) (x : List Int) (c : Int), d + i = N → x.length = N → Lim 4294967296 x → 0 ≤ c → c ≤ 1 →
    val 4294967296 x + 4294967296 ^ i * c + (val 4294967296 b - val 4294967296 (b.take i)) = T →
    ∃ r, Ev (fun k => nat_plus.l0 k b x c (N : Int) (i : Int)) (trim r) ∧ r.length = N ∧ Lim 4294967296 r ∧ val 4294967296 r = T := by
  have hB : (0 : Int) < 4294967296 := by decide
  intro d
  induction d with
  | zero =>
    intro i x c hd hl hx hc0 hc hv
    have hi : i = N := by omega
    subst hi
    refine ⟨x, Ev.step (f := fun k => (nat_Trim.f k x).bind fun t => some t) (fun k => ?_) (Ev.bind (f := fun _ t => some t) (Trim_ev x (by omega)) (Ev.now _)), hl, hx, ?_⟩
    · simp only [nat_plus.l0]; rw [if_neg (by omega)]
    · rw [List.take_of_length_le (by omega), Int.sub_self, Int.add_zero] at hv
      have h1 := val_nonneg hB hx
      by_cases h : c = 0
      · rw [h, Int.mul_zero] at hv; omega
      · have e : c = 1 := by omega
        rw [e, Int.mul_one] at hv
        generalize (4294967296 : Int) ^ i = p at *
        omega
  | succ d ih =>
    intro i x c hd hl hx hc0 hc hv
    have g1 : (i : Int) < (N : Int) := by omega
    have g2 : (0 : Int) ≤ (i : Int) := by omega
    have g3 : i < x.length := by omega
    have g4 : (i : Int) < (x.length : Int) := by omega
    have g5 : d + (i + 1) = N := by omega
    have gw : ∀ _ : Unit, wrap64 ((i : Int) + 1) = ((i + 1 : Nat) : Int) := fun _ => by rw [w64 (by omega) (by omega)]; omega
    have hxi := hx.rd hB (i : Int)
    have hxg : rd x (i : Int) = x.getD i 0 := rd_getD x i
    generalize rd x (i : Int) = a at hxi hxg
    have key : ∀ y : Int, 0 ≤ y → y < 4294967296 → b.getD i 0 = y → ∃ r, Ev (fun k => nat_plus.l0 k b (x.set i ((c + a + y) % 4294967296)) ((c + a + y) / 4294967296) (N : Int) ((i + 1 : Nat) : Int)) (trim r) ∧ r.length = N ∧ Lim 4294967296 r ∧ val 4294967296 r = T := by
      intro y hy0 hy hyb
      refine ih (i + 1) _ _ g5 (by rw [List.length_set, hl]) (hx.set i ⟨by omega, by omega⟩) (by omega) (by omega) ?_
      rw [val_set _ _ _ _ g3, ← hxg, val_take_succ', hyb, Int.pow_succ]
      have e : (c + a + y) % 4294967296 = c + a + y - 4294967296 * ((c + a + y) / 4294967296) := by omega
      rw [e]
      generalize (c + a + y) / 4294967296 = q
      generalize (4294967296 : Int) ^ i = p at *
      grind
    by_cases hi : i < b.length
    · have hb1 := hb.rd hB (i : Int)
      have hbg : rd b (i : Int) = b.getD i 0 := rd_getD b i
      have g6 : (i : Int) < (b.length : Int) := by omega
      generalize rd b (i : Int) = y at hb1 hbg
      obtain ⟨r, hr, h⟩ := key y hb1.1 hb1.2 hbg.symm
      have e : IntKind.u64.wrap (IntKind.u64.wrap (c + IntKind.u64.wrap a) + IntKind.u64.wrap y) = c + a + y := by
        rw [u64_id hxi.1 (by omega), u64_id hb1.1 (by omega), u64_id (x := c + a) (by omega) (by omega), u64_id (by omega) (by omega)]
      refine ⟨r, Ev.step (f := fun k => nat_plus.l0 k b (x.set i ((c + a + y) % 4294967296)) ((c + a + y) / 4294967296) (N : Int) ((i + 1 : Nat) : Int)) (fun k => ?_) hr, h⟩
      simp only [nat_plus.l0]
      rw [if_pos g1, if_pos g2, if_pos g4, if_pos g6, rd_getD x i, rd_getD b i, ← hxg, ← hbg, e, gw (), Int.toNat_natCast]
    · have g6 : ¬ (i : Int) < (b.length : Int) := by omega
      obtain ⟨r, hr, h⟩ := key 0 (by omega) (by omega) (by rw [List.getD_eq_getElem?_getD, List.getElem?_eq_none (by omega)]; rfl)
      have e : IntKind.u64.wrap (c + IntKind.u64.wrap a) = c + a + 0 := by
        rw [u64_id hxi.1 (by omega), u64_id (x := c + a) (by omega) (by omega), Int.add_zero]
      refine ⟨r, Ev.step (f := fun k => nat_plus.l0 k b (x.set i ((c + a + 0) % 4294967296)) ((c + a + 0) / 4294967296) (N : Int) ((i + 1 : Nat) : Int)) (fun k => ?_) hr, h⟩
      simp only [nat_plus.l0]
      rw [if_pos g1, if_pos g2, if_pos g4, if_neg g6, rd_getD x i, ← hxg, e, gw (), Int.toNat_natCast]
theorem plus_half (a b : List Int) (ha : Lim 4294967296 a) (hb : Lim 4294967296 b) (hL : a.length ≤ 274877906944) (hab : b.length ≤ a.length) :
    ∃ r, Ev (fun k => if (0 : Int) ≤ wrap64 ((a.length : Int) + 1) then (if (wrap64 ((a.length : Int) + 1) : Int).toNat ≤ 70368744177664 then ((some (List.replicate (wrap64 ((a.length : Int) + 1) : Int).toNat 0 : List Int)).bind fun y => ((copy_e55.f y a).bind fun bt => nat_plus.l0 k b bt.2 0 (y.length : Int) 0)) else none) else none) r ∧ Lim 4294967296 r ∧ Nrm r ∧ val 4294967296 r = val 4294967296 a + val 4294967296 b ∧ r.length ≤ a.length + 1 := by
  have hB : (0 : Int) < 4294967296 := by decide
  have e1 : wrap64 ((a.length : Int) + 1) = ((a.length + 1 : Nat) : Int) := by rw [w64 (by omega) (by omega)]; omega
  have va := val_lt hB ha
  have vb := val_lt hB hb
  have pm := pow_mono' hB hab
  have e0 : a ++ (List.replicate (a.length + 1) (0 : Int)).drop a.length = a ++ [0] := by
    rw [List.drop_replicate, Nat.add_sub_cancel_left]; rfl
  obtain ⟨r, h1, h2, h3, h4⟩ := plus_loop b hb (a.length + 1) (by omega) (by omega) (val 4294967296 a + val 4294967296 b) (by
      rw [Int.pow_succ]
      have pp := pow_pos' hB a.length
      generalize (4294967296 : Int) ^ a.length = p at *
      omega) (a.length + 1) 0 (a ++ [0]) 0 (by omega) (by simp) (lim_nrm_snoc ha ⟨by decide, by decide⟩) (by decide) (by decide) (by rw [val_snoc]; simp [val])
  refine ⟨trim r, Ev.congr (fun k => ?_) h1, lim_trim h3, nrm_trim _, by rw [val_trim, h4], by rw [← h2]; exact length_trim r⟩
  rw [e1, if_pos (by omega), if_pos (by omega), Int.toNat_natCast, Option.bind_some]
  unfold copy_e55.f
  simp only [Option.bind_some, List.length_replicate]
  rw [List.take_of_length_le (by omega), e0]; rfl
theorem plus_ev (a b : List Int) (ha : Lim 4294967296 a) (hb : Lim 4294967296 b) (hL : a.length ≤ 274877906944) (hM : b.length ≤ 274877906944) :
    ∃ r, Ev (fun k => nat_plus.f k a b) r ∧ Lim 4294967296 r ∧ Nrm r ∧ val 4294967296 r = val 4294967296 a + val 4294967296 b ∧ r.length ≤ max a.length b.length + 1 := by
  by_cases c : a.length < b.length
  · obtain ⟨r, h1, h2, h3, h4, h5⟩ := plus_half b a hb ha hM (by omega)
    refine ⟨r, Ev.congr (fun k => ?_) h1, h2, h3, by rw [h4, Int.add_comm], by omega⟩
    unfold nat_plus.f
    rw [if_pos (by omega)]
  · obtain ⟨r, h1, h2, h3, h4, h5⟩ := plus_half a b ha hb hL (by omega)
    refine ⟨r, Ev.congr (fun k => ?_) h1, h2, h3, h4, by omega⟩
    unfold nat_plus.f
    rw [if_neg (by omega)]
    simp only [plus_same]
theorem sub_loop (b : List Int) (hb : Lim 4294967296 b) (N : Nat) (hN : N ≤ 549755813888) (hbN : b.length ≤ N) (T : Int) (hT : 0 ≤ T) : ∀ (d i : Nat) (x : List Int) (c : Int), d + i = N → x.length = N → Lim 4294967296 x → 0 ≤ c → c ≤ 1 →
    val 4294967296 x - 4294967296 ^ i * c - (val 4294967296 b - val 4294967296 (b.take i)) = T →
    ∃ r, Ev (fun k => nat_Sub.l0 k b x c (N : Int) (i : Int)) (trim r) ∧ r.length = N ∧ Lim 4294967296 r ∧ val 4294967296 r = T := by
  have hB : (0 : Int) < 4294967296 := by decide
  intro d
  induction d with
  | zero =>
    intro i x c hd hl hx hc0 hc hv
    have hi : i = N := by omega
    subst hi
    refine ⟨x, Ev.step (f := fun k => (nat_Trim.f k x).bind fun t => some t) (fun k => ?_) (Ev.bind (f := fun _ t => some t) (Trim_ev x (by omega)) (Ev.now _)), hl, hx, ?_⟩
    · simp only [nat_Sub.l0]; rw [if_neg (by omega)]
    · rw [List.take_of_length_le (by omega), Int.sub_self, Int.sub_zero] at hv
      have h1 := val_lt hB hx
      rw [hl] at h1
      by_cases h : c = 0
      · rw [h, Int.mul_zero] at hv; omega
      · have e : c = 1 := by omega
        rw [e, Int.mul_one] at hv
        generalize (4294967296 : Int) ^ i = p at *
        omega
  | succ d ih =>
    intro i x c hd hl hx hc0 hc hv
    have g1 : (i : Int) < (N : Int) := by omega
    have g2 : (0 : Int) ≤ (i : Int) := by omega
    have g3 : i < x.length := by omega
    have g4 : (i : Int) < (x.length : Int) := by omega
    have g5 : d + (i + 1) = N := by omega
    have gw : ∀ _ : Unit, wrap64 ((i : Int) + 1) = ((i + 1 : Nat) : Int) := fun _ => by rw [w64 (by omega) (by omega)]; omega
    have hxi := hx.rd hB (i : Int)
    have hxg : rd x (i : Int) = x.getD i 0 := rd_getD x i
    generalize rd x (i : Int) = a at hxi hxg
    have key : ∀ y dd b' : Int, 0 ≤ dd → dd < 4294967296 → 0 ≤ b' → b' ≤ 1 → dd - 4294967296 * b' = a - c - y → b.getD i 0 = y → ∃ r, Ev (fun k => nat_Sub.l0 k b (x.set i dd) b' (N : Int) ((i + 1 : Nat) : Int)) (trim r) ∧ r.length = N ∧ Lim 4294967296 r ∧ val 4294967296 r = T := by
      intro y dd b' hd0 hd1 hb0 hb1 he hyb
      refine ih (i + 1) _ _ g5 (by rw [List.length_set, hl]) (hx.set i ⟨hd0, hd1⟩) hb0 hb1 ?_
      rw [val_set _ _ _ _ g3, ← hxg, val_take_succ', hyb, Int.pow_succ]
      have e : dd = a - c - y + 4294967296 * b' := by omega
      rw [e]
      generalize (4294967296 : Int) ^ i = p at *
      grind
    by_cases hi : i < b.length
    · have hb1 := hb.rd hB (i : Int)
      have hbg : rd b (i : Int) = b.getD i 0 := rd_getD b i
      have g6 : (i : Int) < (b.length : Int) := by omega
      generalize rd b (i : Int) = y at hb1 hbg
      obtain ⟨dd, b', e1, e2, p1, p2, p3, p4, p5⟩ : ∃ dd b' : Int, IntKind.u64.wrap (IntKind.u64.wrap (IntKind.u64.wrap a - c) - IntKind.u64.wrap y) % 4294967296 = dd ∧ Go.bits .and .u64 (IntKind.u64.wrap (IntKind.u64.wrap (IntKind.u64.wrap a - c) - IntKind.u64.wrap y) / 4294967296) 1 = b' ∧ 0 ≤ dd ∧ dd < 4294967296 ∧ 0 ≤ b' ∧ b' ≤ 1 ∧ dd - 4294967296 * b' = a - c - y := by
        rw [u64_id hxi.1 (by omega), u64_id hb1.1 (by omega), u64w, u64w]
        by_cases h : a - c - y < 0
        · have e : ((a - c) % 18446744073709551616 - y) % 18446744073709551616 = a - c - y + 18446744073709551616 := by omega
          rw [e, bits_and_one (by omega) (by omega)]
          exact ⟨_, _, rfl, rfl, by omega, by omega, by omega, by omega, by omega⟩
        · have e : ((a - c) % 18446744073709551616 - y) % 18446744073709551616 = a - c - y := by omega
          rw [e, bits_and_one (by omega) (by omega)]
          exact ⟨_, _, rfl, rfl, by omega, by omega, by omega, by omega, by omega⟩
      obtain ⟨r, hr, h⟩ := key y dd b' p1 p2 p3 p4 p5 hbg.symm
      refine ⟨r, Ev.step (f := fun k => nat_Sub.l0 k b (x.set i dd) b' (N : Int) ((i + 1 : Nat) : Int)) (fun k => ?_) hr, h⟩
      simp only [nat_Sub.l0]
      rw [if_pos g1, if_pos g2, if_pos g4, if_pos g6, rd_getD x i, rd_getD b i, ← hxg, ← hbg, e1, e2, gw (), Int.toNat_natCast]
    · have g6 : ¬ (i : Int) < (b.length : Int) := by omega
      obtain ⟨dd, b', e1, e2, p1, p2, p3, p4, p5⟩ : ∃ dd b' : Int, IntKind.u64.wrap (IntKind.u64.wrap a - c) % 4294967296 = dd ∧ Go.bits .and .u64 (IntKind.u64.wrap (IntKind.u64.wrap a - c) / 4294967296) 1 = b' ∧ 0 ≤ dd ∧ dd < 4294967296 ∧ 0 ≤ b' ∧ b' ≤ 1 ∧ dd - 4294967296 * b' = a - c - 0 := by
        rw [u64_id hxi.1 (by omega), u64w]
        by_cases h : a - c < 0
        · have e : (a - c) % 18446744073709551616 = a - c + 18446744073709551616 := by omega
          rw [e, bits_and_one (by omega) (by omega)]
          exact ⟨_, _, rfl, rfl, by omega, by omega, by omega, by omega, by omega⟩
        · have e : (a - c) % 18446744073709551616 = a - c := by omega
          rw [e, bits_and_one (by omega) (by omega)]
          exact ⟨_, _, rfl, rfl, by omega, by omega, by omega, by omega, by omega⟩
      obtain ⟨r, hr, h⟩ := key 0 dd b' p1 p2 p3 p4 p5 (by rw [List.getD_eq_getElem?_getD, List.getElem?_eq_none (by omega)]; rfl)
      refine ⟨r, Ev.step (f := fun k => nat_Sub.l0 k b (x.set i dd) b' (N : Int) ((i + 1 : Nat) : Int)) (fun k => ?_) hr, h⟩
      simp only [nat_Sub.l0]
      rw [if_pos g1, if_pos g2, if_pos g4, if_neg g6, rd_getD x i, ← hxg, e1, e2, gw (), Int.toNat_natCast]
theorem Sub_ev (a b : List Int) (ha : Lim 4294967296 a) (hb : Lim 4294967296 b) (hL : a.length ≤ 274877906944) (hab : b.length ≤ a.length) (hv : val 4294967296 b ≤ val 4294967296 a) :
    ∃ r, Ev (fun k => nat_Sub.f k a b) r ∧ Lim 4294967296 r ∧ Nrm r ∧ val 4294967296 r = val 4294967296 a - val 4294967296 b ∧ r.length ≤ a.length := by
  obtain ⟨r, h1, h2, h3, h4⟩ := sub_loop b hb a.length (by omega) hab (val 4294967296 a - val 4294967296 b) (by omega) a.length 0 a 0 (by omega) rfl ha (by decide) (by decide) (by simp [val])
  refine ⟨trim r, Ev.congr (fun k => ?_) h1, lim_trim h3, nrm_trim _, by rw [val_trim, h4], by rw [← h2]; exact length_trim r⟩
  unfold nat_Sub.f slices_Clone_uint32_uint32.f
  rw [if_pos (by omega)]; rfl
theorem mul_inner (a b : List Int) (hb : Lim 4294967296 b) (L i : Nat) (ai : Int) (h0 : 0 ≤ ai) (h1 : ai < 4294967296) (hL : L ≤ 549755813888) (hi : i + b.length < L) :
    ∀ (d j : Nat) (out : List Int) (c : Int), d + j = b.length → out.length = L → Lim 4294967296 out → 0 ≤ c → c < 4294967296 → out.getD (i + b.length) 0 = 0 →
    ∃ r, r.length = L ∧ Lim 4294967296 r ∧ val 4294967296 r = val 4294967296 out + 4294967296 ^ (i + j) * (c + ai * val 4294967296 (b.drop j)) ∧ (∀ p, i + b.length < p → r.getD p 0 = out.getD p 0) ∧
      ∀ (R : List Int), Ev (fun k => nat_Mul.l0 k b r a (a.length : Int) ((i + 1 : Nat) : Int)) R → Ev (fun k => nat_Mul.l1 k b out (i : Int) ai c a (a.length : Int) (i : Int) b (b.length : Int) (j : Int)) R := by
  have hB : (0 : Int) < 4294967296 := by decide
  intro d
  induction d with
  | zero =>
    intro j out c hd hl ho hc0 hc hz
    have hj : j = b.length := by omega
    subst hj
    have g1 : ∀ _ : Unit, wrap64 ((i : Int) + (b.length : Int)) = ((i + b.length : Nat) : Int) := fun _ => by rw [w64 (by omega) (by omega)]; omega
    have g2 : ∀ _ : Unit, wrap64 ((i : Int) + 1) = ((i + 1 : Nat) : Int) := fun _ => by rw [w64 (by omega) (by omega)]; omega
    have g3 : (0 : Int) ≤ ((i + b.length : Nat) : Int) := by omega
    have g4 : ((i + b.length : Nat) : Int) < (out.length : Int) := by omega
    have g5 : c % 4294967296 = c := by omega
    refine ⟨out.set (i + b.length) c, by rw [List.length_set, hl], ho.set _ ⟨hc0, hc⟩, ?_, ?_, fun R hR => ?_⟩
    · rw [val_set _ _ _ _ (by omega), hz, List.drop_length]
      simp [val]
    · intro p hp
      rw [List.getD_eq_getElem?_getD, List.getD_eq_getElem?_getD, List.getElem?_set_ne (by omega)]
    · refine Ev.step (f := fun k => nat_Mul.l0 k b (out.set (i + b.length) c) a (a.length : Int) ((i + 1 : Nat) : Int)) (fun k => ?_) hR
      simp only [nat_Mul.l1]
      rw [if_neg (by omega), g1 (), if_pos g3, if_pos g4, g2 (), g5, Int.toNat_natCast]
  | succ d ih =>
    intro j out c hd hl ho hc0 hc hz
    have g0 : d + (j + 1) = b.length := by omega
    have g1 : (j : Int) < (b.length : Int) := by omega
    have g2 : (0 : Int) ≤ (j : Int) := by omega
    have gj : j < b.length := by omega
    have g3 : i + j < out.length := by omega
    have g4 : ((i + j : Nat) : Int) < (out.length : Int) := by omega
    have g5 : (0 : Int) ≤ ((i + j : Nat) : Int) := by omega
    have g6 : i + j ≠ i + b.length := by omega
    have gw : ∀ _ : Unit, wrap64 ((j : Int) + 1) = ((j + 1 : Nat) : Int) := fun _ => by rw [w64 (by omega) (by omega)]; omega
    have gv : ∀ _ : Unit, wrap64 ((i : Int) + (j : Int)) = ((i + j : Nat) : Int) := fun _ => by rw [w64 (by omega) (by omega)]; omega
    have hb1 := hb.rd hB (j : Int)
    have hbg : rd b (j : Int) = b.getD j 0 := rd_getD b j
    generalize rd b (j : Int) = y at hb1 hbg
    have ho1 := ho.rd hB ((i + j : Nat) : Int)
    have hog : rd out ((i + j : Nat) : Int) = out.getD (i + j) 0 := rd_getD out (i + j)
    generalize rd out ((i + j : Nat) : Int) = o at ho1 hog
    obtain ⟨m1, m2⟩ := mul_lim h0 h1 hb1.1 hb1.2
    have e : IntKind.u64.wrap (c + IntKind.u64.wrap (IntKind.u64.wrap (IntKind.u64.wrap ai * IntKind.u64.wrap y) + IntKind.u64.wrap o)) = c + ai * y + o := by
      rw [u64_id h0 (by omega), u64_id hb1.1 (by omega), u64_id m1 (by omega), u64_id ho1.1 (by omega), u64_id (x := ai * y + o) (by omega) (by omega), u64_id (by omega) (by omega), Int.add_assoc]
    obtain ⟨q, t, hq, ht, q1, q2, q3, q4, q5⟩ : ∃ q t : Int, (c + ai * y + o) % 4294967296 = t ∧ (c + ai * y + o) / 4294967296 = q ∧ 0 ≤ t ∧ t < 4294967296 ∧ 0 ≤ q ∧ q < 4294967296 ∧ t = c + ai * y + o - 4294967296 * q := by
      generalize ai * y = p at m1 m2
      exact ⟨_, _, rfl, rfl, by omega, by omega, by omega, by omega, by omega⟩
    obtain ⟨r, r1, r2, r3, r4, r5⟩ := ih (j + 1) (out.set (i + j) t) q g0 (by rw [List.length_set, hl]) (ho.set _ ⟨q1, q2⟩) q3 q4 (by
      rw [List.getD_eq_getElem?_getD, List.getElem?_set_ne g6, ← List.getD_eq_getElem?_getD, hz])
    refine ⟨r, r1, r2, ?_, ?_, fun R hR => ?_⟩
    · rw [r3, val_set _ _ _ _ g3, ← hog, val_drop _ b j gj, ← hbg, q5, ← Nat.add_assoc, Int.pow_succ]
      generalize val 4294967296 (b.drop (j + 1)) = v
      generalize (4294967296 : Int) ^ (i + j) = p
      clear q5 ht hq e m1 m2 r3 r5 r4
      grind
    · intro p hp
      rw [r4 p hp, List.getD_eq_getElem?_getD, List.getD_eq_getElem?_getD, List.getElem?_set_ne (by omega)]
    · refine Ev.step (f := fun k => nat_Mul.l1 k b (out.set (i + j) t) (i : Int) ai q a (a.length : Int) (i : Int) b (b.length : Int) ((j + 1 : Nat) : Int)) (fun k => ?_) (r5 R hR)
      simp only [nat_Mul.l1]
      rw [if_pos g1, if_pos g2, if_pos g1, gv (), if_pos g5, if_pos g4, rd_getD b j, ← hbg, rd_getD out (i + j), ← hog, e, hq, ht, gw (), Int.toNat_natCast]
theorem mul_outer (a b : List Int) (ha : Lim 4294967296 a) (hb : Lim 4294967296 b) (hL : a.length + b.length ≤ 549755813888) :
    ∀ (d i : Nat) (out : List Int), d + i = a.length → out.length = a.length + b.length → Lim 4294967296 out → (∀ p, i + b.length ≤ p → out.getD p 0 = 0) →
    ∃ r, Ev (fun k => nat_Mul.l0 k b out a (a.length : Int) (i : Int)) (trim r) ∧ r.length = a.length + b.length ∧ Lim 4294967296 r ∧ val 4294967296 r = val 4294967296 out + 4294967296 ^ i * (val 4294967296 (a.drop i) * val 4294967296 b) := by
  have hB : (0 : Int) < 4294967296 := by decide
  intro d
  induction d with
  | zero =>
    intro i out hd hl ho hz
    have hi : i = a.length := by omega
    subst hi
    refine ⟨out, Ev.step (f := fun k => (nat_Trim.f k out).bind fun t => some t) (fun k => ?_) (Ev.bind (f := fun _ t => some t) (Trim_ev out (by omega)) (Ev.now _)), hl, ho, ?_⟩
    · simp only [nat_Mul.l0]; rw [if_neg (by omega)]
    · rw [List.drop_length]; simp [val]
  | succ d ih =>
    intro i out hd hl ho hz
    have g0 : d + (i + 1) = a.length := by omega
    have g1 : (i : Int) < (a.length : Int) := by omega
    have g2 : (0 : Int) ≤ (i : Int) := by omega
    have gi : i < a.length := by omega
    have ha1 := ha.rd hB (i : Int)
    have hag : rd a (i : Int) = a.getD i 0 := rd_getD a i
    obtain ⟨r, r1, r2, r3, r4, r5⟩ := mul_inner a b hb (a.length + b.length) i (rd a (i : Int)) ha1.1 ha1.2 hL (by omega) b.length 0 out 0 (by omega) hl ho (by decide) (by decide) (hz _ (Nat.le_refl _))
    obtain ⟨s, s1, s2, s3, s4⟩ := ih (i + 1) r g0 r1 r2 (by
      intro p hp
      rw [r4 p (by omega)]
      exact hz p (by omega))
    refine ⟨s, Ev.step (f := fun k => nat_Mul.l1 k b out (i : Int) (rd a (i : Int)) 0 a (a.length : Int) (i : Int) b (b.length : Int) 0) (fun k => ?_) (r5 _ s1), s2, s3, ?_⟩
    · simp only [nat_Mul.l0]
      rw [if_pos g1, if_pos g2, if_pos g1]
    · rw [s4, r3, val_drop _ a i gi, ← hag, List.drop_zero, Nat.add_zero, Int.pow_succ]
      generalize val 4294967296 (a.drop (i + 1)) = v
      generalize val 4294967296 b = u
      generalize (4294967296 : Int) ^ i = p
      clear s4 r3 r5 r4 s1
      grind
theorem Mul_ev (a b : List Int) (ha : Lim 4294967296 a) (hb : Lim 4294967296 b) (hL : a.length + b.length ≤ 549755813888) :
    ∃ r, Ev (fun k => nat_Mul.f k a b) r ∧ Lim 4294967296 r ∧ Nrm r ∧ val 4294967296 r = val 4294967296 a * val 4294967296 b ∧ r.length ≤ a.length + b.length := by
  have e1 : wrap64 ((a.length : Int) + (b.length : Int)) = ((a.length + b.length : Nat) : Int) := by rw [w64 (by omega) (by omega)]; omega
  obtain ⟨r, h1, h2, h3, h4⟩ := mul_outer a b ha hb hL a.length 0 (List.replicate (a.length + b.length) 0) (by omega) (by simp) (lim_replicate (by decide) _) (fun p _ => by
    rw [List.getD_eq_getElem?_getD]
    rcases Nat.lt_or_ge p (a.length + b.length) with h | h
    · rw [List.getElem?_replicate_of_lt h]; rfl
    · rw [List.getElem?_eq_none (by simpa using h)]; rfl)
  refine ⟨trim r, Ev.congr (fun k => ?_) h1, lim_trim h3, nrm_trim _, by rw [val_trim, h4, val_replicate, List.drop_zero]; simp, by rw [← h2]; exact length_trim r⟩
  unfold nat_Mul.f
  rw [e1, if_pos (by omega), if_pos (by omega), Int.toNat_natCast]
  rfl
theorem rmul_step {o x y c : Int} (o0 : 0 ≤ o) (o1 : o < 65536) (x0 : 0 ≤ x) (x1 : x < 65536) (y0 : 0 ≤ y) (y1 : y < 65536) (c0 : 0 ≤ c) (c1 : c < 65536) :
    ∃ t q : Int, Int.tmod (wrap64 (wrap64 (o + wrap64 (x * y)) + c)) 65536 = t ∧ wrap64 (Int.tdiv (wrap64 (wrap64 (o + wrap64 (x * y)) + c)) 65536) = q ∧ 0 ≤ t ∧ t < 65536 ∧ 0 ≤ q ∧ q < 65536 ∧ t = o + x * y + c - 65536 * q := by
  have h1 : 0 ≤ x * y := Int.mul_nonneg x0 y0
  have h2 : x * y ≤ x * 65535 := Int.mul_le_mul_of_nonneg_left (by omega) x0
  generalize x * y = p at *
  have e1 : wrap64 p = p := w64 (by omega) (by omega)
  have e2 : wrap64 (o + p) = o + p := w64 (by omega) (by omega)
  have e3 : wrap64 (o + p + c) = o + p + c := w64 (by omega) (by omega)
  rw [e1, e2, e3, Int.tmod_eq_emod_of_nonneg (by omega), Int.tdiv_eq_ediv_of_nonneg (by omega), w64 (by omega) (by omega)]
  exact ⟨_, _, rfl, rfl, by omega, by omega, by omega, by omega, by omega⟩
theorem rmul_inner (a b : List Int) (ha : Lim 65536 a) (hb : Lim 65536 b) (L i : Nat) (hia : i < a.length) (hL : L ≤ 549755813888) (hi : i + b.length < L) :
    ∀ (d j : Nat) (out : List Int) (c : Int), d + j = b.length → out.length = L → Lim 65536 out → 0 ≤ c → c < 65536 → out.getD (i + b.length) 0 = 0 →
    ∃ r, r.length = L ∧ Lim 65536 r ∧ val 65536 r = val 65536 out + 65536 ^ (i + j) * (c + a.getD i 0 * val 65536 (b.drop j)) ∧ (∀ p, i + b.length < p → r.getD p 0 = out.getD p 0) ∧
      ∀ (R : List Int), Ev (fun k => rf_MulNat.l0 k a b r (a.length : Int) ((i + 1 : Nat) : Int)) R → Ev (fun k => rf_MulNat.l1 k a b out (i : Int) c (j : Int) (a.length : Int) (i : Int)) R := by
  have hB : (0 : Int) < 65536 := by decide
  have hai := ha.getD hB i
  have gi0 : (0 : Int) ≤ (i : Int) := by omega
  have gi1 : (i : Int) < (a.length : Int) := by omega
  have gi2 : ∀ _ : Unit, wrap64 ((i : Int) + 1) = ((i + 1 : Nat) : Int) := fun _ => by rw [w64 (by omega) (by omega)]; omega
  intro d
  induction d with
  | zero =>
    intro j out c hd hl ho hc0 hc hz
    have hj : j = b.length := by omega
    subst hj
    have gv : ∀ _ : Unit, wrap64 ((i : Int) + (b.length : Int)) = ((i + b.length : Nat) : Int) := fun _ => by rw [w64 (by omega) (by omega)]; omega
    have g3 : (0 : Int) ≤ ((i + b.length : Nat) : Int) := by omega
    have g4 : ((i + b.length : Nat) : Int) < (out.length : Int) := by omega
    have g5 : i + b.length < out.length := by omega
    by_cases cz : c = 0
    · subst cz
      refine ⟨out, hl, ho, by rw [List.drop_length]; simp [val], fun p hp => rfl, fun R hR => ?_⟩
      refine Ev.step (f := fun k => rf_MulNat.l0 k a b out (a.length : Int) ((i + 1 : Nat) : Int)) (fun k => ?_) hR
      simp only [rf_MulNat.l1]
      rw [if_neg (by omega), if_neg (by omega), gi2 ()]
    · have gb : b.getD b.length 0 = 0 := by rw [List.getD_eq_getElem?_getD, List.getElem?_eq_none (Nat.le_refl _)]; rfl
      obtain ⟨t, q, ht, hq, q1, q2, q3, q4, q5⟩ := rmul_step (o := 0) (x := a.getD i 0) (y := 0) (c := c) (by decide) (by decide) hai.1 hai.2 (by decide) (by decide) hc0 hc
      rw [Int.mul_zero] at q5
      have eq0 : q = 0 := by omega
      have et : t = c := by omega
      have gw : ∀ _ : Unit, wrap64 ((b.length : Int) + 1) = ((b.length + 1 : Nat) : Int) := fun _ => by rw [w64 (by omega) (by omega)]; omega
      refine ⟨out.set (i + b.length) c, by rw [List.length_set, hl], ho.set _ ⟨hc0, hc⟩, ?_, ?_, fun R hR => ?_⟩
      · rw [val_set _ _ _ _ g5, hz, List.drop_length]
        simp [val]
      · intro p hp
        rw [List.getD_eq_getElem?_getD, List.getD_eq_getElem?_getD, List.getElem?_set_ne (by omega)]
      · refine Ev.step (f := fun k => rf_MulNat.l1 k a b (out.set (i + b.length) c) (i : Int) 0 ((b.length + 1 : Nat) : Int) (a.length : Int) (i : Int)) (fun k => ?_) (Ev.step (f := fun k => rf_MulNat.l0 k a b (out.set (i + b.length) c) (a.length : Int) ((i + 1 : Nat) : Int)) (fun k => ?_) hR)
        · simp only [rf_MulNat.l1]
          rw [if_neg (by omega), if_pos (by omega), gv (), if_pos g3, if_pos g4, if_pos gi0, if_pos gi1, rdigit, Option.bind_some, gb, rd_getD out, hz, rd_getD a, ht, hq, gw (), et, eq0, Int.toNat_natCast]
        · simp only [rf_MulNat.l1]
          rw [if_neg (by omega), if_neg (by decide), gi2 ()]
  | succ d ih =>
    intro j out c hd hl ho hc0 hc hz
    have g0 : d + (j + 1) = b.length := by omega
    have g1 : (j : Int) < (b.length : Int) := by omega
    have gj : j < b.length := by omega
    have g3 : i + j < out.length := by omega
    have g4 : ((i + j : Nat) : Int) < (out.length : Int) := by omega
    have g5 : (0 : Int) ≤ ((i + j : Nat) : Int) := by omega
    have g6 : i + j ≠ i + b.length := by omega
    have gw : ∀ _ : Unit, wrap64 ((j : Int) + 1) = ((j + 1 : Nat) : Int) := fun _ => by rw [w64 (by omega) (by omega)]; omega
    have gv : ∀ _ : Unit, wrap64 ((i : Int) + (j : Int)) = ((i + j : Nat) : Int) := fun _ => by rw [w64 (by omega) (by omega)]; omega
    have hb1 := hb.getD hB j
    have ho1 := ho.getD hB (i + j)
    obtain ⟨t, q, ht, hq, q1, q2, q3, q4, q5⟩ := rmul_step ho1.1 ho1.2 hai.1 hai.2 hb1.1 hb1.2 hc0 hc
    obtain ⟨r, r1, r2, r3, r4, r5⟩ := ih (j + 1) (out.set (i + j) t) q g0 (by rw [List.length_set, hl]) (ho.set _ ⟨q1, q2⟩) q3 q4 (by
      rw [List.getD_eq_getElem?_getD, List.getElem?_set_ne g6, ← List.getD_eq_getElem?_getD, hz])
    refine ⟨r, r1, r2, ?_, ?_, fun R hR => ?_⟩
    · rw [r3, val_set _ _ _ _ g3, val_drop _ b j gj, q5, ← Nat.add_assoc, Int.pow_succ]
      generalize val 65536 (b.drop (j + 1)) = v
      generalize (65536 : Int) ^ (i + j) = p
      clear q5 ht hq r3 r5 r4
      grind
    · intro p hp
      rw [r4 p hp, List.getD_eq_getElem?_getD, List.getD_eq_getElem?_getD, List.getElem?_set_ne (by omega)]
    · refine Ev.step (f := fun k => rf_MulNat.l1 k a b (out.set (i + j) t) (i : Int) q ((j + 1 : Nat) : Int) (a.length : Int) (i : Int)) (fun k => ?_) (r5 R hR)
      simp only [rf_MulNat.l1]
      rw [if_pos g1, gv (), if_pos g5, if_pos g4, if_pos gi0, if_pos gi1, rdigit, Option.bind_some, rd_getD out, rd_getD a, ht, hq, gw (), Int.toNat_natCast]
theorem rmul_outer (a b : List Int) (ha : Lim 65536 a) (hb : Lim 65536 b) (hL : a.length + b.length + 1 ≤ 549755813888) :
    ∀ (d i : Nat) (out : List Int), d + i = a.length → out.length = a.length + b.length + 1 → Lim 65536 out → (∀ p, i + b.length ≤ p → out.getD p 0 = 0) →
    ∃ r, Ev (fun k => rf_MulNat.l0 k a b out (a.length : Int) (i : Int)) (trim r) ∧ r.length = a.length + b.length + 1 ∧ Lim 65536 r ∧ val 65536 r = val 65536 out + 65536 ^ i * (val 65536 (a.drop i) * val 65536 b) := by
  have hB : (0 : Int) < 65536 := by decide
  intro d
  induction d with
  | zero =>
    intro i out hd hl ho hz
    have hi : i = a.length := by omega
    subst hi
    refine ⟨out, Ev.step (f := fun k => (rf_trim.f k out).bind fun t => some t) (fun k => ?_) (Ev.bind (f := fun _ t => some t) (rtrim_ev out (by omega)) (Ev.now _)), hl, ho, ?_⟩
    · simp only [rf_MulNat.l0]; rw [if_neg (by omega)]
    · rw [List.drop_length]; simp [val]
  | succ d ih =>
    intro i out hd hl ho hz
    have g1 : (i : Int) < (a.length : Int) := by omega
    have gi : i < a.length := by omega
    obtain ⟨r, r1, r2, r3, r4, r5⟩ := rmul_inner a b ha hb (a.length + b.length + 1) i gi hL (by omega) b.length 0 out 0 (by omega) hl ho (by decide) (by decide) (hz _ (Nat.le_refl _))
    obtain ⟨s, s1, s2, s3, s4⟩ := ih (i + 1) r (by omega) r1 r2 (by
      intro p hp
      rw [r4 p (by omega)]
      exact hz p (by omega))
    refine ⟨s, Ev.step (f := fun k => rf_MulNat.l1 k a b out (i : Int) 0 0 (a.length : Int) (i : Int)) (fun k => ?_) (r5 _ s1), s2, s3, ?_⟩
    · simp only [rf_MulNat.l0]
      rw [if_pos g1]
    · rw [s4, r3, val_drop _ a i gi, List.drop_zero, Nat.add_zero, Int.pow_succ]
      generalize val 65536 (a.drop (i + 1)) = v
      generalize val 65536 b = u
      generalize (65536 : Int) ^ i = p
      clear s4 r3 r5 r4 s1
      grind
theorem MulNat_ev (a b : List Int) (ha : Lim 65536 a) (hb : Lim 65536 b) (hL : a.length + b.length + 1 ≤ 1099511627) :
    ∃ r, Ev (fun k => rf_MulNat.f k a b) r ∧ Lim 65536 r ∧ Nrm r ∧ val 65536 r = val 65536 a * val 65536 b ∧ r.length ≤ a.length + b.length + 1 := by
  have e1 : wrap64 ((a.length : Int) + (b.length : Int)) = ((a.length + b.length : Nat) : Int) := by rw [w64 (by omega) (by omega)]; omega
  have e2 : wrap64 (((a.length + b.length : Nat) : Int) + 1) = ((a.length + b.length + 1 : Nat) : Int) := by rw [w64 (by omega) (by omega)]; omega
  obtain ⟨r, h1, h2, h3, h4⟩ := rmul_outer a b ha hb (by omega) a.length 0 (List.replicate (a.length + b.length + 1) 0) (by omega) (by simp) (lim_replicate (by decide) _) (fun p _ => by
    rw [List.getD_eq_getElem?_getD]
    rcases Nat.lt_or_ge p (a.length + b.length + 1) with h | h
    · rw [List.getElem?_replicate_of_lt h]; rfl
    · rw [List.getElem?_eq_none (by simpa using h)]; rfl)
  refine ⟨trim r, Ev.congr (fun k => ?_) h1, lim_trim h3, nrm_trim _, by rw [val_trim, h4, val_replicate, List.drop_zero]; simp, by rw [← h2]; exact length_trim r⟩
  unfold rf_MulNat.f
  rw [e1, e2, if_pos (by omega), if_pos (by omega), Int.toNat_natCast]
  rfl
theorem can_of_fault' {neg : Bool} {num den : List Int} (h : fault neg num den = 0) : Can neg num den := by
  unfold fault at h
  by_cases c : num.length > 128 ∨ den.length > 128
  · rw [if_pos c] at h; omega
  · rw [if_neg c] at h
    by_cases d : Can neg num den
    · exact d
    · rw [if_neg d] at h; omega
theorem cmpI_neg (x y : Int) : cmpI (-x) (-y) = -cmpI x y := by
  unfold cmpI
  by_cases h : x < y
  · rw [if_neg (by omega), if_pos (by omega), if_pos h]; rfl
  · by_cases h2 : x > y
    · rw [if_pos (by omega), if_neg h, if_pos h2]
    · rw [if_neg (by omega), if_neg (by omega), if_neg h, if_neg h2]; rfl
theorem cmpI_swap (x y : Int) : cmpI y x = -cmpI x y := by
  unfold cmpI
  by_cases h : x < y
  · rw [if_neg (by omega), if_pos (by omega), if_pos h]; rfl
  · by_cases h2 : x > y
    · rw [if_pos (by omega), if_neg h, if_pos h2]
    · rw [if_neg (by omega), if_neg (by omega), if_neg h, if_neg h2]; rfl
theorem cmpI_range (x y : Int) : -1 ≤ cmpI x y ∧ cmpI x y ≤ 1 := by unfold cmpI; split <;> (try split) <;> omega
theorem cmpI_lt {x y : Int} : cmpI x y < 0 ↔ x < y := by unfold cmpI; split <;> (try split) <;> omega
theorem cmpI_le {x y : Int} : cmpI x y ≤ 0 ↔ x ≤ y := by unfold cmpI; split <;> (try split) <;> omega
theorem cmpI_eq {x y : Int} : cmpI x y = 0 ↔ x = y := by unfold cmpI; split <;> (try split) <;> omega
theorem cmpI_of_lt {x y : Int} (h : x < y) : cmpI x y = -1 := if_pos h
theorem cmpI_of_gt {x y : Int} (h : y < x) : cmpI x y = 1 := by unfold cmpI; rw [if_neg (by omega), if_pos h]
def sgn (n : Bool) (v : Int) : Int := if n = true then -v else v
def ordI (na : Bool) (va da : Int) (nb : Bool) (vb db : Int) : Int := cmpI (sgn na va * db) (sgn nb vb * da)
theorem ordI_diff {na nb : Bool} {va da vb db : Int} (h : na ≠ nb) (a0 : 0 ≤ va) (b0 : 0 ≤ vb) (ha : na = true → 0 < va) (hb : nb = true → 0 < vb) (pa : 0 < da) (pb : 0 < db) : ordI na va da nb vb db = if na = true then -1 else 1 := by
  unfold ordI sgn
  cases na with
  | true =>
    cases nb with
    | true => exact absurd rfl h
    | false =>
      rw [if_pos rfl, if_pos rfl, if_neg (by decide)]
      refine cmpI_of_lt ?_
      have h1 : 0 < va * db := Int.mul_pos (ha rfl) pb
      have h2 : 0 ≤ vb * da := Int.mul_nonneg b0 (by omega)
      rw [Int.neg_mul]; omega
  | false =>
    cases nb with
    | false => exact absurd rfl h
    | true =>
      show cmpI (va * db) (-vb * da) = 1
      refine cmpI_of_gt ?_
      have h1 : 0 < vb * da := Int.mul_pos (hb rfl) pa
      have h2 : 0 ≤ va * db := Int.mul_nonneg a0 (by omega)
      rw [Int.neg_mul]; omega
theorem ordI_same (n : Bool) (va da vb db : Int) : ordI n va da n vb db = if n = true then -cmpI (va * db) (vb * da) else cmpI (va * db) (vb * da) := by
  unfold ordI sgn
  cases n with
  | true => rw [if_pos rfl, if_pos rfl, if_pos rfl, Int.neg_mul, Int.neg_mul, cmpI_neg]
  | false => rw [if_neg (by decide), if_neg (by decide), if_neg (by decide)]
theorem Can.pos {neg : Bool} {num den : List Int} (h : Can neg num den) (hd : Lim 4294967296 den) : 0 < val 4294967296 den := val_pos (by decide) hd h.nd h.d0
theorem Can.neg_pos {neg : Bool} {num den : List Int} (h : Can neg num den) (hn : Lim 4294967296 num) (e : neg = true) : 0 < val 4294967296 num :=
  val_pos (by decide) hn h.nn (fun h0 => by rw [h.ng h0] at e; cases e)
theorem compare_ev (na : Bool) (a da : List Int) (nb : Bool) (b db : List Int) (ha : Lim 4294967296 a) (hda : Lim 4294967296 da) (hb : Lim 4294967296 b) (hdb : Lim 4294967296 db) (ca : Can na a da) (cb : Can nb b db) :
    Ev (fun k => number_compare.f k na a da nb b db) (ordI na (val 4294967296 a) (val 4294967296 da) nb (val 4294967296 b) (val 4294967296 db)) := by
  have l1 := ca.ln
  have l2 := ca.ld
  have l3 := cb.ln
  have l4 := cb.ld
  by_cases h : na = nb
  · subst h
    obtain ⟨p, p1, p2, p3, p4, p5⟩ := Mul_ev a db ha hdb (by omega)
    obtain ⟨q, q1, q2, q3, q4, q5⟩ := Mul_ev b da hb hda (by omega)
    refine Ev.congr (f := fun k => (nat_Mul.f k a db).bind fun t1762 => ((nat_Mul.f k b da).bind fun t1765 => ((nat_Compare.f k t1762 t1765).bind fun t1768 => (if na = true then (some (wrap64 (-t1768))) else (some t1768))))) (fun k => by unfold number_compare.f; rw [if_neg (by simp)]) ?_
    refine Ev.bind (f := fun k t1762 => ((nat_Mul.f k b da).bind fun t1765 => ((nat_Compare.f k t1762 t1765).bind fun t1768 => (if na = true then (some (wrap64 (-t1768))) else (some t1768))))) p1 ?_
    refine Ev.bind (f := fun k t1765 => ((nat_Compare.f k p t1765).bind fun t1768 => (if na = true then (some (wrap64 (-t1768))) else (some t1768)))) q1 ?_
    refine Ev.bind (f := fun k t1768 => (if na = true then (some (wrap64 (-t1768))) else (some t1768))) (Compare_ev p q p2 q2 p3 q3 (by omega) (by omega)) ?_
    rw [p4, q4, ordI_same]
    have hr := cmpI_range (val 4294967296 a * val 4294967296 db) (val 4294967296 b * val 4294967296 da)
    by_cases hn : na = true
    · rw [if_pos hn]
      exact Ev.ret fun k => by rw [if_pos hn, w64 (by omega) (by omega)]
    · rw [if_neg hn]
      exact Ev.ret fun k => by rw [if_neg hn]
  · rw [ordI_diff h (val_nonneg (by decide) ha) (val_nonneg (by decide) hb) (ca.neg_pos ha) (cb.neg_pos hb) (ca.pos hda) (cb.pos hdb)]
    refine Ev.ret fun k => ?_
    unfold number_compare.f
    rw [if_pos (by simpa using h)]
    by_cases hn : na = true
    · rw [if_pos hn, if_pos hn]
    · rw [if_neg hn, if_neg hn]
theorem w11 : wrap64 (1 + 1) = 2 := by decide +kernel
theorem wr01 : wrap64 (0 + 1) = 1 := by decide +kernel
theorem check2_ev (na : Bool) (a da : List Int) (nb : Bool) (b db : List Int) (ha : Lim 4294967296 a) (hda : Lim 4294967296 da) (hb : Lim 4294967296 b) (hdb : Lim 4294967296 db) :
    Ev (fun k => number_check.f k [⟨na, a, da⟩, ⟨nb, b, db⟩]) (if fault na a da = 0 then fault nb b db else fault na a da) := by
  show Ev (fun k => number_check.l0 k [⟨na, a, da⟩, ⟨nb, b, db⟩] 2 0) _
  refine Ev.step (f := fun k => (number_Check.f k na a da).bind fun t418 => (if t418 = 0 then (number_check.l0 k [⟨na, a, da⟩, ⟨nb, b, db⟩] 2 1) else (some t418))) (fun k => ?_) ?_
  · simp only [number_check.l0]
    rw [if_pos (by decide), if_pos (by decide), if_pos (by simp), wr01]; rfl
  · refine Ev.bind (f := fun k t418 => (if t418 = 0 then (number_check.l0 k [⟨na, a, da⟩, ⟨nb, b, db⟩] 2 1) else (some t418))) (Check_ev na a da ha hda) ?_
    by_cases h : fault na a da = 0
    · rw [if_pos h]
      refine Ev.congr (f := fun k => number_check.l0 k [⟨na, a, da⟩, ⟨nb, b, db⟩] 2 1) (fun k => if_pos h) ?_
      refine Ev.step (f := fun k => (number_Check.f k nb b db).bind fun t418 => (if t418 = 0 then (number_check.l0 k [⟨na, a, da⟩, ⟨nb, b, db⟩] 2 2) else (some t418))) (fun k => ?_) ?_
      · simp only [number_check.l0]
        rw [if_pos (by decide), if_pos (by decide), if_pos (by simp), w11]; rfl
      · refine Ev.bind (f := fun k t418 => (if t418 = 0 then (number_check.l0 k [⟨na, a, da⟩, ⟨nb, b, db⟩] 2 2) else (some t418))) (Check_ev nb b db hb hdb) ?_
        by_cases h2 : fault nb b db = 0
        · refine Ev.congr (f := fun k => number_check.l0 k [⟨na, a, da⟩, ⟨nb, b, db⟩] 2 2) (fun k => if_pos h2) (Ev.step (f := fun _ => some 0) (fun k => ?_) (Ev.eq (Ev.now _) h2.symm))
          simp only [number_check.l0]
          rw [if_neg (by decide)]
        · exact Ev.ret fun k => if_neg h2
    · rw [if_neg h]
      exact Ev.ret fun k => if_neg h
theorem NCompare_ok (na : Bool) (a da : List Int) (nb : Bool) (b db : List Int) (ha : Lim 4294967296 a) (hda : Lim 4294967296 da) (hb : Lim 4294967296 b) (hdb : Lim 4294967296 db) (ca : Can na a da) (cb : Can nb b db) :
    Ev (fun k => number_Compare.f k na a da nb b db) (ordI na (val 4294967296 a) (val 4294967296 da) nb (val 4294967296 b) (val 4294967296 db), 0) := by
  refine Ev.bind (f := fun k t1774 => (if t1774 = 0 then ((number_compare.f k na a da nb b db).bind fun t1775 => (some (t1775, 0))) else (some (0, t1774)))) (check2_ev na a da nb b db ha hda hb hdb) ?_
  rw [fault_can ca, fault_can cb, if_pos rfl]
  refine Ev.congr (f := fun k => (number_compare.f k na a da nb b db).bind fun t1775 => (some (t1775, 0))) (fun k => if_pos rfl) ?_
  exact Ev.bind (f := fun _ t1775 => some (t1775, (0 : Int))) (compare_ev na a da nb b db ha hda hb hdb ca cb) (Ev.now _)
theorem RCmp_ev (na : Bool) (a da : List Int) (nb : Bool) (b db : List Int) (ha : Lim 65536 a) (hda : Lim 65536 da) (hb : Lim 65536 b) (hdb : Lim 65536 db) (l1 : a.length ≤ 1048576) (l2 : da.length ≤ 1048576) (l3 : b.length ≤ 1048576) (l4 : db.length ≤ 1048576)
    (pa : na = true → 0 < val 65536 a) (pb : nb = true → 0 < val 65536 b) (qa : 0 < val 65536 da) (qb : 0 < val 65536 db) : Ev (fun k => rf_Cmp.f k na a da nb b db) (ordI na (val 65536 a) (val 65536 da) nb (val 65536 b) (val 65536 db)) := by
  obtain ⟨p, p1, p2, p3, p4, p5⟩ := MulNat_ev a db ha hdb (by omega)
  obtain ⟨q, q1, q2, q3, q4, q5⟩ := MulNat_ev b da hb hda (by omega)
  have e1 := CmpNat_ev p q p2 q2 (by omega) (by omega)
  have e2 := CmpNat_ev q p q2 p2 (by omega) (by omega)
  rw [p4, q4] at e1 e2
  rw [cmpI_swap] at e2
  refine Ev.bind (f := fun k t1778 => ((rf_MulNat.f k b da).bind fun t1781 => (if na = true then (rf_Cmp.j0 k t1778 t1781 (!nb) na a da nb b db) else (rf_Cmp.j0 k t1778 t1781 false na a da nb b db)))) p1 ?_
  refine Ev.bind (f := fun k t1781 => (if na = true then (rf_Cmp.j0 k p t1781 (!nb) na a da nb b db) else (rf_Cmp.j0 k p t1781 false na a da nb b db))) q1 ?_
  have j1 : ∀ m : Bool, Ev (fun k => rf_Cmp.j1 k p q false m a da) (if m = true then -cmpI (val 65536 a * val 65536 db) (val 65536 b * val 65536 da) else cmpI (val 65536 a * val 65536 db) (val 65536 b * val 65536 da)) := by
    intro m
    by_cases hm : m = true
    · rw [if_pos hm]
      refine Ev.step (f := fun k => (rf_CmpNat.f k q p).bind fun t => some t) (fun k => ?_) (Ev.bind (f := fun _ t => some t) e2 (Ev.now _))
      simp only [rf_Cmp.j1]
      rw [if_neg (by decide), if_pos hm]
    · rw [if_neg hm]
      refine Ev.step (f := fun k => (rf_CmpNat.f k p q).bind fun t => some t) (fun k => ?_) (Ev.bind (f := fun _ t => some t) e1 (Ev.now _))
      simp only [rf_Cmp.j1]
      rw [if_neg (by decide), if_neg hm]
  by_cases h : na = nb
  · subst h
    rw [ordI_same]
    refine Ev.congr (f := fun k => rf_Cmp.j0 k p q false na a da na b db) (fun k => ?_) (Ev.step (f := fun k => rf_Cmp.j1 k p q false na a da) (fun k => ?_) (j1 na))
    · cases na <;> rfl
    · simp only [rf_Cmp.j0]
      cases na <;> rfl
  · rw [ordI_diff h (val_nonneg (by decide) ha) (val_nonneg (by decide) hb) pa pb qa qb]
    cases na with
    | true =>
      have hb2 : nb = false := by cases nb with
        | true => exact absurd rfl h
        | false => rfl
      subst hb2
      refine Ev.congr (f := fun k => rf_Cmp.j0 k p q true true a da false b db) (fun k => by rw [if_pos rfl]; rfl) (Ev.step (f := fun _ => some (-1)) (fun k => ?_) (Ev.eq (Ev.now _) (by rw [if_pos rfl])))
      simp only [rf_Cmp.j0]
      rw [if_pos trivial]
    | false =>
      have hb2 : nb = true := by cases nb with
        | true => rfl
        | false => exact absurd rfl h
      subst hb2
      refine Ev.congr (f := fun k => rf_Cmp.j0 k p q false false a da true b db) (fun k => by rw [if_neg (by decide)]) (Ev.step (f := fun k => rf_Cmp.j1 k p q true false a da) (fun k => ?_) (Ev.step (f := fun _ => some 1) (fun k => ?_) (Ev.eq (Ev.now _) (by rw [if_neg (by decide)]))))
      · simp only [rf_Cmp.j0]
        rw [if_neg (by decide), if_neg (by decide)]
      · simp only [rf_Cmp.j1]
        rw [if_pos trivial]
theorem Of_can (neg : Bool) (num den : List Int) (hn : Lim 4294967296 num) (hd : Lim 4294967296 den) (h : Can neg num den) :
    ∃ p q, Ev (fun k => rf_Of.f k neg num den) (neg, p, q) ∧ Lim 65536 p ∧ Nrm p ∧ val 65536 p = val 4294967296 num ∧ p.length ≤ 256 ∧ Lim 65536 q ∧ Nrm q ∧ val 65536 q = val 4294967296 den ∧ q.length ≤ 256 := by
  have l1 := h.ln
  have l2 := h.ld
  obtain ⟨p, p1, p2, p3, p4, p5⟩ := natOf_ev num hn (by omega)
  obtain ⟨q, q1, q2, q3, q4, q5⟩ := natOf_ev den hd (by omega)
  refine ⟨p, q, ?_, p2, p3, p4, by omega, q2, q3, q4, by omega⟩
  refine Ev.bind (f := fun k t621 => ((rf_natOf.f k den).bind fun t624 => (some (neg, t621, t624)))) p1 ?_
  exact Ev.bind (f := fun _ t624 => some (neg, p, t624)) q1 (Ev.now _)
theorem RCmp_can (na : Bool) (a da : List Int) (nb : Bool) (b db : List Int) (ha : Lim 4294967296 a) (hda : Lim 4294967296 da) (hb : Lim 4294967296 b) (hdb : Lim 4294967296 db) (ca : Can na a da) (cb : Can nb b db) :
    ∃ p q s t, Ev (fun k => rf_Of.f k na a da) (na, p, q) ∧ Ev (fun k => rf_Of.f k nb b db) (nb, s, t) ∧ Ev (fun k => rf_Cmp.f k na p q nb s t) (ordI na (val 4294967296 a) (val 4294967296 da) nb (val 4294967296 b) (val 4294967296 db)) := by
  obtain ⟨p, q, h1, p1, p2, p3, p4, q1, q2, q3, q4⟩ := Of_can na a da ha hda ca
  obtain ⟨s, t, h2, s1, s2, s3, s4, t1, t2, t3, t4⟩ := Of_can nb b db hb hdb cb
  refine ⟨p, q, s, t, h1, h2, ?_⟩
  have e := RCmp_ev na p q nb s t p1 q1 s1 t1 (by omega) (by omega) (by omega) (by omega) (by rw [p3]; exact ca.neg_pos ha) (by rw [s3]; exact cb.neg_pos hb) (by rw [q3]; exact ca.pos hda) (by rw [t3]; exact cb.pos hdb)
  rw [p3, q3, s3, t3] at e
  exact e
theorem frac_trans {A B C x y z : Int} (hx : 0 < x) (hy : 0 < y) (hz : 0 < z) (h1 : A * y ≤ B * x) (h2 : B * z ≤ C * y) : A * z ≤ C * x := by
  have a1 := Int.mul_le_mul_of_nonneg_right h1 (Int.le_of_lt hz)
  have a2 := Int.mul_le_mul_of_nonneg_right h2 (Int.le_of_lt hx)
  have a3 : (A * z) * y ≤ (C * x) * y := by grind
  exact Int.le_of_mul_le_mul_right a3 hy
theorem frac_trans_lt {A B C x y z : Int} (hx : 0 < x) (hy : 0 < y) (hz : 0 < z) (h1 : A * y < B * x) (h2 : B * z < C * y) : A * z < C * x := by
  have a1 := Int.mul_lt_mul_of_pos_right h1 hz
  have a2 := Int.mul_lt_mul_of_pos_right h2 hx
  have a3 : (A * z) * y < (C * x) * y := by grind
  exact Int.lt_of_mul_lt_mul_right a3 (Int.le_of_lt hy)
theorem nat_frac {p q r s : Nat} (h1 : Nat.gcd p q = 1) (h2 : Nat.gcd r s = 1) (hq : 0 < q) (hs : 0 < s) (h : p * s = r * q) : p = r ∧ q = s := by
  have d1 : q ∣ s := (Nat.Coprime.dvd_of_dvd_mul_left (show Nat.Coprime q p by rw [Nat.Coprime, Nat.gcd_comm]; exact h1) ⟨r, by rw [h, Nat.mul_comm]⟩)
  have d2 : s ∣ q := (Nat.Coprime.dvd_of_dvd_mul_left (show Nat.Coprime s r by rw [Nat.Coprime, Nat.gcd_comm]; exact h2) ⟨p, by rw [← h, Nat.mul_comm]⟩)
  have e : q = s := Nat.dvd_antisymm d1 d2
  subst e
  exact ⟨Nat.eq_of_mul_eq_mul_right hq h, rfl⟩
theorem ord_zero {na : Bool} {a da : List Int} {nb : Bool} {b db : List Int} (ha : Lim 4294967296 a) (hda : Lim 4294967296 da) (hb : Lim 4294967296 b) (hdb : Lim 4294967296 db) (ca : Can na a da) (cb : Can nb b db) :
    ordI na (val 4294967296 a) (val 4294967296 da) nb (val 4294967296 b) (val 4294967296 db) = 0 ↔ (na = nb ∧ a = b ∧ da = db) := by
  have a0 := val_nonneg (by decide) ha
  have b0 := val_nonneg (by decide) hb
  have pa := ca.pos hda
  have pb := cb.pos hdb
  constructor
  · intro h
    by_cases c : na = nb
    · subst c
      have h1 : val 4294967296 a * val 4294967296 db = val 4294967296 b * val 4294967296 da := by
        rw [ordI_same] at h
        refine cmpI_eq.1 ?_
        by_cases hn : na = true
        · rw [if_pos hn] at h; omega
        · rw [if_neg hn] at h; exact h
      have h2 : (val 4294967296 a).toNat * (val 4294967296 db).toNat = (val 4294967296 b).toNat * (val 4294967296 da).toNat := by
        rw [← Int.toNat_mul a0 (by omega), ← Int.toNat_mul b0 (by omega), h1]
      obtain ⟨h3, h4⟩ := nat_frac ca.gc cb.gc (by omega) (by omega) h2
      exact ⟨rfl, val_inj (by decide) ha hb ca.nn cb.nn (by omega), val_inj (by decide) hda hdb ca.nd cb.nd (by omega)⟩
    · rw [ordI_diff c a0 b0 (ca.neg_pos ha) (cb.neg_pos hb) pa pb] at h
      split at h <;> omega
  · rintro ⟨rfl, rfl, rfl⟩
    unfold ordI
    exact cmpI_eq.2 rfl
theorem NCompare_bad (na : Bool) (a da : List Int) (nb : Bool) (b db : List Int) (ha : Lim 4294967296 a) (hda : Lim 4294967296 da) (hb : Lim 4294967296 b) (hdb : Lim 4294967296 db) :
    ∃ x, Ev (fun k => number_Compare.f k na a da nb b db) (x, if fault na a da = 0 then fault nb b db else fault na a da) := by
  by_cases h1 : fault na a da = 0
  · by_cases h2 : fault nb b db = 0
    · rw [if_pos h1, h2]
      exact ⟨_, NCompare_ok na a da nb b db ha hda hb hdb (can_of_fault' h1) (can_of_fault' h2)⟩
    · refine ⟨0, Ev.bind (f := fun k t1774 => (if t1774 = 0 then ((number_compare.f k na a da nb b db).bind fun t1775 => (some (t1775, 0))) else (some (0, t1774)))) (check2_ev na a da nb b db ha hda hb hdb) (Ev.ret fun k => ?_)⟩
      rw [if_pos h1, if_neg h2]
  · refine ⟨0, Ev.bind (f := fun k t1774 => (if t1774 = 0 then ((number_compare.f k na a da nb b db).bind fun t1775 => (some (t1775, 0))) else (some (0, t1774)))) (check2_ev na a da nb b db ha hda hb hdb) (Ev.ret fun k => ?_)⟩
    rw [if_neg h1, if_neg h1]
theorem order_j0_true (na : Bool) (a da : List Int) (nb : Bool) (b db : List Int) (nc : Bool) (c dc : List Int) (ha : Lim 4294967296 a) (hda : Lim 4294967296 da) (hb : Lim 4294967296 b) (hdb : Lim 4294967296 db) :
    Ev (fun k => lw_NumberOrderIsTotal.j0 k true na a da nb b db nc c dc) true := by
  have hcnt : Ev (fun k => (lw_counted.f k).bind fun t => some t) true := Ev.bind (f := fun _ t => some t) counted_ev (Ev.now _)
  obtain ⟨x, hx⟩ := NCompare_bad na a da nb b db ha hda hb hdb
  refine Ev.step (f := fun k => (number_Compare.f k na a da nb b db).bind fun bt1792 => ((rf_Fault.f k na a da).bind fun t1794 => (if t1794 = 0 then ((rf_Fault.f k nb b db).bind fun t1795 => (if bt1792.2 = t1795 then ((lw_counted.f k).bind fun t1796 => (some t1796)) else (some false))) else (if bt1792.2 = t1794 then ((lw_counted.f k).bind fun t1797 => (some t1797)) else (some false))))) (fun k => by simp only [lw_NumberOrderIsTotal.j0]; rw [if_pos trivial]) ?_
  refine Ev.bind (f := fun k bt1792 => ((rf_Fault.f k na a da).bind fun t1794 => (if t1794 = 0 then ((rf_Fault.f k nb b db).bind fun t1795 => (if bt1792.2 = t1795 then ((lw_counted.f k).bind fun t1796 => (some t1796)) else (some false))) else (if bt1792.2 = t1794 then ((lw_counted.f k).bind fun t1797 => (some t1797)) else (some false))))) hx ?_
  refine Ev.bind (f := fun k t1794 => (if t1794 = 0 then ((rf_Fault.f k nb b db).bind fun t1795 => (if (if fault na a da = 0 then fault nb b db else fault na a da) = t1795 then ((lw_counted.f k).bind fun t1796 => (some t1796)) else (some false))) else (if (if fault na a da = 0 then fault nb b db else fault na a da) = t1794 then ((lw_counted.f k).bind fun t1797 => (some t1797)) else (some false)))) (Fault_ev na a da ha hda) ?_
  by_cases h : fault na a da = 0
  · refine Ev.congr (f := fun k => (rf_Fault.f k nb b db).bind fun t1795 => (if (if fault na a da = 0 then fault nb b db else fault na a da) = t1795 then ((lw_counted.f k).bind fun t1796 => (some t1796)) else (some false))) (fun k => if_pos h) ?_
    refine Ev.bind (f := fun k t1795 => (if (if fault na a da = 0 then fault nb b db else fault na a da) = t1795 then ((lw_counted.f k).bind fun t1796 => (some t1796)) else (some false))) (Fault_ev nb b db hb hdb) ?_
    exact Ev.congr (fun k => if_pos (if_pos h)) hcnt
  · refine Ev.congr (f := fun k => (lw_counted.f k).bind fun t => some t) (fun k => ?_) hcnt
    rw [if_neg h, if_pos (if_neg h)]
theorem order_j0_eq (k : Nat) (na : Bool) (a da : List Int) (nb : Bool) (b db : List Int) (nc : Bool) (c dc : List Int) : lw_NumberOrderIsTotal.j0 (k + 1) false na a da nb b db nc c dc = ((number_Compare.f k na a da nb b db).bind fun bt1798 => ((number_Compare.f k nb b db na a da).bind fun bt1800 => ((number_Compare.f k nb b db nc c dc).bind fun bt1802 => ((number_Compare.f k na a da nc c dc).bind fun bt1804 => (if bt1798.2 = 0 then (if bt1800.2 = 0 then (if bt1802.2 = 0 then (if bt1804.2 = 0 then (if bt1798.1 = (wrap64 (-bt1800.1)) then ((lw_same.f k na a da nb b db).bind fun t1806 => (if ((bt1798.1 == 0) != t1806) = true then (lw_NumberOrderIsTotal.j1 k bt1798.1 bt1802.1 bt1804.1 true na a da nb b db) else (if bt1798.1 < (-1) then (lw_NumberOrderIsTotal.j1 k bt1798.1 bt1802.1 bt1804.1 true na a da nb b db) else (lw_NumberOrderIsTotal.j1 k bt1798.1 bt1802.1 bt1804.1 (decide (bt1798.1 > 1)) na a da nb b db)))) else (lw_NumberOrderIsTotal.j1 k bt1798.1 bt1802.1 bt1804.1 true na a da nb b db)) else (lw_NumberOrderIsTotal.j1 k bt1798.1 bt1802.1 bt1804.1 true na a da nb b db)) else (lw_NumberOrderIsTotal.j1 k bt1798.1 bt1802.1 bt1804.1 true na a da nb b db)) else (lw_NumberOrderIsTotal.j1 k bt1798.1 bt1802.1 bt1804.1 true na a da nb b db)) else (lw_NumberOrderIsTotal.j1 k bt1798.1 bt1802.1 bt1804.1 true na a da nb b db)))))) := by
  rw [lw_NumberOrderIsTotal.j0]
  exact if_neg (by decide)
set_option maxHeartbeats 4000000 in
theorem order_j0_false (na : Bool) (a da : List Int) (nb : Bool) (b db : List Int) (nc : Bool) (c dc : List Int) (ha : Lim 4294967296 a) (hda : Lim 4294967296 da) (hb : Lim 4294967296 b) (hdb : Lim 4294967296 db) (hc : Lim 4294967296 c) (hdc : Lim 4294967296 dc) (ca : Can na a da) (cb : Can nb b db) (cc : Can nc c dc) :
    Ev (fun k => lw_NumberOrderIsTotal.j0 k false na a da nb b db nc c dc) true := by
  have hcnt : Ev (fun k => (lw_counted.f k).bind fun t => some t) true := Ev.bind (f := fun _ t => some t) counted_ev (Ev.now _)
  have e1 := NCompare_ok na a da nb b db ha hda hb hdb ca cb
  have e2 := NCompare_ok nb b db na a da hb hdb ha hda cb ca
  have e3 := NCompare_ok nb b db nc c dc hb hdb hc hdc cb cc
  have e4 := NCompare_ok na a da nc c dc ha hda hc hdc ca cc
  have z := ord_zero ha hda hb hdb ca cb
  have pa := ca.pos hda
  have pb := cb.pos hdb
  have pc := cc.pos hdc
  obtain ⟨X, hX⟩ : ∃ X, X = ordI na (val 4294967296 a) (val 4294967296 da) nb (val 4294967296 b) (val 4294967296 db) := ⟨_, rfl⟩
  obtain ⟨Z, hZ⟩ : ∃ Z, Z = ordI nb (val 4294967296 b) (val 4294967296 db) nc (val 4294967296 c) (val 4294967296 dc) := ⟨_, rfl⟩
  obtain ⟨W, hW⟩ : ∃ W, W = ordI na (val 4294967296 a) (val 4294967296 da) nc (val 4294967296 c) (val 4294967296 dc) := ⟨_, rfl⟩
  have hY : ordI nb (val 4294967296 b) (val 4294967296 db) na (val 4294967296 a) (val 4294967296 da) = -X := by rw [hX]; unfold ordI; exact cmpI_swap _ _
  have rX : -1 ≤ X ∧ X ≤ 1 := by rw [hX]; exact cmpI_range _ _
  have t1 : X ≤ 0 → Z ≤ 0 → W ≤ 0 := by
    rw [hX, hZ, hW]
    exact fun h1 h2 => cmpI_le.2 (frac_trans pa pb pc (cmpI_le.1 h1) (cmpI_le.1 h2))
  have t2 : X < 0 → Z < 0 → W = -1 := by
    rw [hX, hZ, hW]
    exact fun h1 h2 => cmpI_of_lt (frac_trans_lt pa pb pc (cmpI_lt.1 h1) (cmpI_lt.1 h2))
  obtain ⟨p, q, s, t, f1, f2, f3⟩ := RCmp_can na a da nb b db ha hda hb hdb ca cb
  rw [hY] at e2
  rw [← hX] at e1 z f3
  rw [← hZ] at e3
  rw [← hW] at e4
  clear hX hZ hW hY
  have j2 : Ev (fun k => lw_NumberOrderIsTotal.j2 k X false na a da nb b db) true := by
    refine Ev.step (f := fun k => (rf_Of.f k na a da).bind fun bt1807 => ((rf_Of.f k nb b db).bind fun bt1814 => ((rf_Cmp.f k bt1807.1 bt1807.2.1 bt1807.2.2 bt1814.1 bt1814.2.1 bt1814.2.2).bind fun t1821 => (if X = t1821 then ((lw_counted.f k).bind fun t1822 => (some t1822)) else (some false))))) (fun k => by simp only [lw_NumberOrderIsTotal.j2]; rw [if_neg (by decide)]) ?_
    refine Ev.bind (f := fun k bt1807 => ((rf_Of.f k nb b db).bind fun bt1814 => ((rf_Cmp.f k bt1807.1 bt1807.2.1 bt1807.2.2 bt1814.1 bt1814.2.1 bt1814.2.2).bind fun t1821 => (if X = t1821 then ((lw_counted.f k).bind fun t1822 => (some t1822)) else (some false))))) f1 ?_
    refine Ev.bind (f := fun k bt1814 => ((rf_Cmp.f k na p q bt1814.1 bt1814.2.1 bt1814.2.2).bind fun t1821 => (if X = t1821 then ((lw_counted.f k).bind fun t1822 => (some t1822)) else (some false)))) f2 ?_
    refine Ev.bind (f := fun k t1821 => (if X = t1821 then ((lw_counted.f k).bind fun t1822 => (some t1822)) else (some false))) f3 ?_
    exact Ev.congr (fun k => if_pos rfl) hcnt
  have j1 : Ev (fun k => lw_NumberOrderIsTotal.j1 k X Z W false na a da nb b db) true := by
    refine Ev.step (f := fun k => lw_NumberOrderIsTotal.j2 k X false na a da nb b db) (fun k => ?_) j2
    simp only [lw_NumberOrderIsTotal.j1]
    rw [if_neg (by decide)]
    have hin : (if X < 0 then (if Z < 0 then lw_NumberOrderIsTotal.j2 k X (W != -1) na a da nb b db else lw_NumberOrderIsTotal.j2 k X false na a da nb b db) else lw_NumberOrderIsTotal.j2 k X false na a da nb b db) = lw_NumberOrderIsTotal.j2 k X false na a da nb b db := by
      by_cases x0 : X < 0
      · rw [if_pos x0]
        by_cases z0 : Z < 0
        · rw [if_pos z0, t2 x0 z0]; rfl
        · rw [if_neg z0]
      · rw [if_neg x0]
    rw [hin]
    by_cases x0 : X ≤ 0
    · rw [if_pos x0]
      by_cases z0 : Z ≤ 0
      · have := t1 x0 z0
        rw [if_pos z0, if_neg (by omega)]
      · rw [if_neg z0]
    · rw [if_neg x0]
  refine Ev.step (f := fun k => (number_Compare.f k na a da nb b db).bind fun bt1798 => ((number_Compare.f k nb b db na a da).bind fun bt1800 => ((number_Compare.f k nb b db nc c dc).bind fun bt1802 => ((number_Compare.f k na a da nc c dc).bind fun bt1804 => (if bt1798.2 = 0 then (if bt1800.2 = 0 then (if bt1802.2 = 0 then (if bt1804.2 = 0 then (if bt1798.1 = (wrap64 (-bt1800.1)) then ((lw_same.f k na a da nb b db).bind fun t1806 => (if ((bt1798.1 == 0) != t1806) = true then (lw_NumberOrderIsTotal.j1 k bt1798.1 bt1802.1 bt1804.1 true na a da nb b db) else (if bt1798.1 < (-1) then (lw_NumberOrderIsTotal.j1 k bt1798.1 bt1802.1 bt1804.1 true na a da nb b db) else (lw_NumberOrderIsTotal.j1 k bt1798.1 bt1802.1 bt1804.1 (decide (bt1798.1 > 1)) na a da nb b db)))) else (lw_NumberOrderIsTotal.j1 k bt1798.1 bt1802.1 bt1804.1 true na a da nb b db)) else (lw_NumberOrderIsTotal.j1 k bt1798.1 bt1802.1 bt1804.1 true na a da nb b db)) else (lw_NumberOrderIsTotal.j1 k bt1798.1 bt1802.1 bt1804.1 true na a da nb b db)) else (lw_NumberOrderIsTotal.j1 k bt1798.1 bt1802.1 bt1804.1 true na a da nb b db)) else (lw_NumberOrderIsTotal.j1 k bt1798.1 bt1802.1 bt1804.1 true na a da nb b db)))))) (fun k => order_j0_eq k na a da nb b db nc c dc) ?_
  refine Ev.bind (f := fun k bt1798 => ((number_Compare.f k nb b db na a da).bind fun bt1800 => ((number_Compare.f k nb b db nc c dc).bind fun bt1802 => ((number_Compare.f k na a da nc c dc).bind fun bt1804 => (if bt1798.2 = 0 then (if bt1800.2 = 0 then (if bt1802.2 = 0 then (if bt1804.2 = 0 then (if bt1798.1 = (wrap64 (-bt1800.1)) then ((lw_same.f k na a da nb b db).bind fun t1806 => (if ((bt1798.1 == 0) != t1806) = true then (lw_NumberOrderIsTotal.j1 k bt1798.1 bt1802.1 bt1804.1 true na a da nb b db) else (if bt1798.1 < (-1) then (lw_NumberOrderIsTotal.j1 k bt1798.1 bt1802.1 bt1804.1 true na a da nb b db) else (lw_NumberOrderIsTotal.j1 k bt1798.1 bt1802.1 bt1804.1 (decide (bt1798.1 > 1)) na a da nb b db)))) else (lw_NumberOrderIsTotal.j1 k bt1798.1 bt1802.1 bt1804.1 true na a da nb b db)) else (lw_NumberOrderIsTotal.j1 k bt1798.1 bt1802.1 bt1804.1 true na a da nb b db)) else (lw_NumberOrderIsTotal.j1 k bt1798.1 bt1802.1 bt1804.1 true na a da nb b db)) else (lw_NumberOrderIsTotal.j1 k bt1798.1 bt1802.1 bt1804.1 true na a da nb b db)) else (lw_NumberOrderIsTotal.j1 k bt1798.1 bt1802.1 bt1804.1 true na a da nb b db)))))) e1 ?_
  refine Ev.bind (f := fun k bt1800 => ((number_Compare.f k nb b db nc c dc).bind fun bt1802 => ((number_Compare.f k na a da nc c dc).bind fun bt1804 => (if (0 : Int) = 0 then (if bt1800.2 = 0 then (if bt1802.2 = 0 then (if bt1804.2 = 0 then (if X = (wrap64 (-bt1800.1)) then ((lw_same.f k na a da nb b db).bind fun t1806 => (if ((X == 0) != t1806) = true then (lw_NumberOrderIsTotal.j1 k X bt1802.1 bt1804.1 true na a da nb b db) else (if X < (-1) then (lw_NumberOrderIsTotal.j1 k X bt1802.1 bt1804.1 true na a da nb b db) else (lw_NumberOrderIsTotal.j1 k X bt1802.1 bt1804.1 (decide (X > 1)) na a da nb b db)))) else (lw_NumberOrderIsTotal.j1 k X bt1802.1 bt1804.1 true na a da nb b db)) else (lw_NumberOrderIsTotal.j1 k X bt1802.1 bt1804.1 true na a da nb b db)) else (lw_NumberOrderIsTotal.j1 k X bt1802.1 bt1804.1 true na a da nb b db)) else (lw_NumberOrderIsTotal.j1 k X bt1802.1 bt1804.1 true na a da nb b db)) else (lw_NumberOrderIsTotal.j1 k X bt1802.1 bt1804.1 true na a da nb b db))))) e2 ?_
  refine Ev.bind (f := fun k bt1802 => ((number_Compare.f k na a da nc c dc).bind fun bt1804 => (if (0 : Int) = 0 then (if (0 : Int) = 0 then (if bt1802.2 = 0 then (if bt1804.2 = 0 then (if X = (wrap64 (-(-X))) then ((lw_same.f k na a da nb b db).bind fun t1806 => (if ((X == 0) != t1806) = true then (lw_NumberOrderIsTotal.j1 k X bt1802.1 bt1804.1 true na a da nb b db) else (if X < (-1) then (lw_NumberOrderIsTotal.j1 k X bt1802.1 bt1804.1 true na a da nb b db) else (lw_NumberOrderIsTotal.j1 k X bt1802.1 bt1804.1 (decide (X > 1)) na a da nb b db)))) else (lw_NumberOrderIsTotal.j1 k X bt1802.1 bt1804.1 true na a da nb b db)) else (lw_NumberOrderIsTotal.j1 k X bt1802.1 bt1804.1 true na a da nb b db)) else (lw_NumberOrderIsTotal.j1 k X bt1802.1 bt1804.1 true na a da nb b db)) else (lw_NumberOrderIsTotal.j1 k X bt1802.1 bt1804.1 true na a da nb b db)) else (lw_NumberOrderIsTotal.j1 k X bt1802.1 bt1804.1 true na a da nb b db)))) e3 ?_
  refine Ev.bind (f := fun k bt1804 => (if (0 : Int) = 0 then (if (0 : Int) = 0 then (if (0 : Int) = 0 then (if bt1804.2 = 0 then (if X = (wrap64 (-(-X))) then ((lw_same.f k na a da nb b db).bind fun t1806 => (if ((X == 0) != t1806) = true then (lw_NumberOrderIsTotal.j1 k X Z bt1804.1 true na a da nb b db) else (if X < (-1) then (lw_NumberOrderIsTotal.j1 k X Z bt1804.1 true na a da nb b db) else (lw_NumberOrderIsTotal.j1 k X Z bt1804.1 (decide (X > 1)) na a da nb b db)))) else (lw_NumberOrderIsTotal.j1 k X Z bt1804.1 true na a da nb b db)) else (lw_NumberOrderIsTotal.j1 k X Z bt1804.1 true na a da nb b db)) else (lw_NumberOrderIsTotal.j1 k X Z bt1804.1 true na a da nb b db)) else (lw_NumberOrderIsTotal.j1 k X Z bt1804.1 true na a da nb b db)) else (lw_NumberOrderIsTotal.j1 k X Z bt1804.1 true na a da nb b db))) e4 ?_
  have hw : wrap64 (-(-X)) = X := by rw [w64 (by omega) (by omega)]; omega
  refine Ev.congr (f := fun k => (lw_same.f k na a da nb b db).bind fun t1806 => (if ((X == 0) != t1806) = true then (lw_NumberOrderIsTotal.j1 k X Z W true na a da nb b db) else (if X < (-1) then (lw_NumberOrderIsTotal.j1 k X Z W true na a da nb b db) else (lw_NumberOrderIsTotal.j1 k X Z W (decide (X > 1)) na a da nb b db)))) (fun k => ?_) ?_
  · show (if (0 : Int) = 0 then (if (0 : Int) = 0 then (if (0 : Int) = 0 then (if (0 : Int) = 0 then (if X = wrap64 (-(-X)) then _ else _) else _) else _) else _) else _) = _
    rw [if_pos rfl, if_pos rfl, if_pos rfl, if_pos rfl, if_pos hw.symm]
  · have l1 := ca.ln
    have l2 := ca.ld
    refine Ev.bind (f := fun k t1806 => (if ((X == 0) != t1806) = true then (lw_NumberOrderIsTotal.j1 k X Z W true na a da nb b db) else (if X < (-1) then (lw_NumberOrderIsTotal.j1 k X Z W true na a da nb b db) else (lw_NumberOrderIsTotal.j1 k X Z W (decide (X > 1)) na a da nb b db)))) (same_ev na a da nb b db (by omega) (by omega)) ?_
    have hs : ((X == 0) != decide (na = nb ∧ a = b ∧ da = db)) = false := by
      by_cases x0 : X = 0
      · rw [decide_eq_true (z.1 x0), x0]; rfl
      · rw [decide_eq_false (fun h => x0 (z.2 h))]
        simp [x0]
    have hx : decide (X > 1) = false := decide_eq_false (by omega)
    refine Ev.congr (f := fun k => lw_NumberOrderIsTotal.j1 k X Z W false na a da nb b db) (fun k => ?_) j1
    rw [hs, if_neg (by decide), if_neg (by omega), hx]
theorem order_pure (na : Bool) (a da : List Int) (nb : Bool) (b db : List Int) (nc : Bool) (c dc : List Int) (ha : Lim 4294967296 a) (hda : Lim 4294967296 da) (hb : Lim 4294967296 b) (hdb : Lim 4294967296 db) (hc : Lim 4294967296 c) (hdc : Lim 4294967296 dc) :
    ∃ k, lw_NumberOrderIsTotal.f k na a da nb b db nc c dc = some true := by
  refine ev_rounds (g := fun k => lw_NumberOrderIsTotal.f k na a da nb b db nc c dc) ?_
  have jt := order_j0_true na a da nb b db nc c dc ha hda hb hdb
  refine Ev.bind (f := fun k t1789 => (if t1789 = 0 then ((rf_Fault.f k nb b db).bind fun t1790 => (if t1790 = 0 then ((rf_Fault.f k nc c dc).bind fun t1791 => (lw_NumberOrderIsTotal.j0 k (t1791 != 0) na a da nb b db nc c dc)) else (lw_NumberOrderIsTotal.j0 k true na a da nb b db nc c dc))) else (lw_NumberOrderIsTotal.j0 k true na a da nb b db nc c dc))) (Fault_ev na a da ha hda) ?_
  by_cases h1 : fault na a da = 0
  · refine Ev.congr (f := fun k => (rf_Fault.f k nb b db).bind fun t1790 => (if t1790 = 0 then ((rf_Fault.f k nc c dc).bind fun t1791 => (lw_NumberOrderIsTotal.j0 k (t1791 != 0) na a da nb b db nc c dc)) else (lw_NumberOrderIsTotal.j0 k true na a da nb b db nc c dc))) (fun k => if_pos h1) ?_
    refine Ev.bind (f := fun k t1790 => (if t1790 = 0 then ((rf_Fault.f k nc c dc).bind fun t1791 => (lw_NumberOrderIsTotal.j0 k (t1791 != 0) na a da nb b db nc c dc)) else (lw_NumberOrderIsTotal.j0 k true na a da nb b db nc c dc))) (Fault_ev nb b db hb hdb) ?_
    by_cases h2 : fault nb b db = 0
    · refine Ev.congr (f := fun k => (rf_Fault.f k nc c dc).bind fun t1791 => (lw_NumberOrderIsTotal.j0 k (t1791 != 0) na a da nb b db nc c dc)) (fun k => if_pos h2) ?_
      refine Ev.bind (f := fun k t1791 => (lw_NumberOrderIsTotal.j0 k (t1791 != 0) na a da nb b db nc c dc)) (Fault_ev nc c dc hc hdc) ?_
      by_cases h3 : fault nc c dc = 0
      · rw [h3]
        exact order_j0_false na a da nb b db nc c dc ha hda hb hdb hc hdc (can_of_fault' h1) (can_of_fault' h2) (can_of_fault' h3)
      · have e : (fault nc c dc != 0) = true := by simpa using h3
        rw [e]; exact jt
    · exact Ev.congr (fun k => if_neg h2) jt
  · exact Ev.congr (fun k => if_neg h1) jt
end Go.Proofs.YtemnjgkicndmjaaDoor.Q
namespace Go.Proofs.YtemnjgkicndmjaaDoor.Q
open Go.ChangeShapes Go.WideShapes Go.ChangeAt Go.RowKit Go.Joins Go.Proofs.YtemnjgkicndmjaaDoorW.PrintWords Go.Proofs.YtemnjgkicndmjaaDoorW.PrintLast Go.Proofs.YtemnjgkicndmjaaDoorW.PrintMore
set_option linter.unusedVariables false
namespace OrderLaw
set_option maxRecDepth 100000 in
theorem contract (H : Type) (enc : TypeId × Value → H) (W : World) (base : Nat) (args : Array Value) (ds gs : List (DataW H)) (before : List MemPlace)
    (hval : ∀ (j : Nat) t v, Tryd.f6.params[j]? = some t → args[j]? = some v → Value.okWide Tryd.prog W .any base t v)
    (hW : DataW.Whole enc Tryd.prog Tryd.f6.params.toList Rows.numberOrderIsTotalSpec.vars false W args.toList ds gs before) :
    Calls Tryd.prog 6 args W fun e W' => ∃ v, e = .returned v ∧ Rows.numberOrderIsTotalSpec.post enc Tryd.prog Tryd.f6 false true false false W args v W' := by
  have hW' := hW
  obtain ⟨p, q, hA0, hV, rfl, hfz, hnd⟩ := hW
  have hA : DataW.TrodAll enc Tryd.prog W 0 (fun _ => true) true Tryd.f6.params.toList args.toList ds p := hA0
  rw [Tryd.params6] at hA hval
  obtain ⟨v0, vs0, d0, ds0, p0, q0, hargs, rfl, rfl, h0, r0⟩ := trodAll_cons hA
  obtain ⟨v1, vs1, d1, ds1, p1, q1, rfl, rfl, rfl, h1, r1⟩ := trodAll_cons r0
  obtain ⟨v2, vs2, d2, ds2, p2, q2, rfl, rfl, rfl, h2, r2⟩ := trodAll_cons r1
  obtain ⟨rfl, rfl, rfl⟩ := trodAll_nil r2
  obtain rfl : args = #[v0, v1, v2] := by cases args; simp_all
  obtain ⟨rfl, rfl⟩ := trodVars_none hV
  have k0 := h0
  have lt0 : ∀ x ∈ p0, x.block < W.heap.size := by obtain ⟨m, hm⟩ := k0; exact DataW.trod_lt m _ _ _ hm
  have k1 := h1
  have lt1 : ∀ x ∈ p1, x.block < W.heap.size := by obtain ⟨m, hm⟩ := k1; exact DataW.trod_lt m _ _ _ hm
  have k2 := h2
  have lt2 : ∀ x ∈ p2, x.block < W.heap.size := by obtain ⟨m, hm⟩ := k2; exact DataW.trod_lt m _ _ _ hm
  obtain ⟨na, A1, c1, a, A2, c2, da, rfl, i1, m1, n1, i2, m2, n2⟩ := open_number (hval 0 24 v0 rfl rfl) h0
  obtain ⟨nb, A3, c3, b, A4, c4, db, rfl, i3, m3, n3, i4, m4, n4⟩ := open_number (hval 1 24 v1 rfl rfl) h1
  obtain ⟨nc, A5, c5, c, A6, c6, dc, rfl, i5, m5, n5, i6, m6, n6⟩ := open_number (hval 2 24 v2 rfl rfl) h2
  clear hA0
  simp only [List.append_nil] at hW'
  obtain ⟨k, hk⟩ := order_pure na a da nb b db nc c dc n1 n2 n3 n4 n5 n6
  refine (lw_NumberOrderIsTotal.calls k na A1 c1 a A2 c2 da nb A3 c3 b A4 c4 db nc A5 c5 c A6 c6 dc true W m1 i1 m2 i2 m3 i3 m4 i4 m5 i5 m6 i6 hk rfl).mono fun e W' ⟨he, bel⟩ => ?_
  subst he
  exact ⟨_, rfl, _, _, _, [], _, [], hW', trodAll_mk1 (shut_bool Tryd.underlying4 _), (trodAll_cons_mk (Below.trod laidOut (by kernel_rfl) (of_decide_eq_true (by kernel_rfl)) k0 bel lt0) (trodAll_cons_mk (Below.trod laidOut (by kernel_rfl) (of_decide_eq_true (by kernel_rfl)) k1 bel lt1) (trodAll_cons_mk (Below.trod laidOut (by kernel_rfl) (of_decide_eq_true (by kernel_rfl)) k2 bel lt2) trodAll_mk0))), rfl, bel.frame _, fun h => by cases h⟩
theorem reads (os : Os) {H : Type} (enc : TypeId × Value → H) : ∃ places, DataW.whole enc Tryd.prog ((laidWorld os).forCall (fun _ _ => 0) ⟨#[], #[.agg #[.bool false, .slice none 0 0, .slice none 0 0], .agg #[.bool false, .slice none 0 0, .slice none 0 0], .agg #[.bool false, .slice none 0 0, .slice none 0 0]], []⟩).memory Tryd.f6.params.toList Rows.numberOrderIsTotalSpec.vars false #[Value.agg #[.bool false, .slice none 0 0, .slice none 0 0], .agg #[.bool false, .slice none 0 0, .slice none 0 0], .agg #[.bool false, .slice none 0 0, .slice none 0 0]].toList 8 = some ([.agg [.lit (.bool false), .nil, .nil], .agg [.lit (.bool false), .nil, .nil], .agg [.lit (.bool false), .nil, .nil]], [], places) :=
  ⟨[], by kernel_rfl⟩
set_option maxRecDepth 100000 in
theorem lifted (os : Os) (started : os.Started) (H : Type) (enc : TypeId × Value → H) (F : Stop.Interp) :
    ReturnsInHanded {} Tryd.checked os 6 .any ((OpenSpec.ofChange Rows.numberOrderIsTotalSpec).preRow enc Tryd.prog Tryd.f6 Rows.numberOrderIsTotalRow.domain false Rows.numberOrderIsTotalRow.laid) (((OpenSpec.ofChange Rows.numberOrderIsTotalSpec).at F).post enc Tryd.prog Tryd.f6 false true false false) := by
  obtain ⟨places, hx⟩ := reads os enc
  refine returnsInHanded_of_row (C := Tryd.checked) (s := OpenSpec.ofChange Rows.numberOrderIsTotalSpec) own started (by kernel_rfl) Tryd.func6
    (witness_row_at (enc := enc) (C := Tryd.checked) false (laidWorld os) #[.agg #[.bool false, .slice none 0 0, .slice none 0 0], .agg #[.bool false, .slice none 0 0, .slice none 0 0], .agg #[.bool false, .slice none 0 0, .slice none 0 0]] rfl (by kernel_rfl) (by kernel_rfl) (by kernel_rfl)
      (OpenSpec.preRow_of_cond 8 hx (by kernel_rfl) (fun k hk => by cases hk) (by kernel_rfl) (laid_met os _))) ?_
  intro W base args ds gs before hval hW _ _ _ hL _ _
  exact contract H enc W base args ds gs before hval hW
theorem said : Rows.NumberOrderIsTotalSaid :=
  OpenClaim.holds_of_cond 6 Tryd.f6 rfl rfl rfl rfl rfl rfl rfl ⟨rfl, rfl, rfl, rfl, rfl⟩ rfl rfl rfl rfl rfl (by kernel_rfl) Tryd.func6 (by kernel_rfl)
    (of_decide_eq_true (by kernel_rfl)) (by unfold Func.isWrapper; first | (rw [if_pos (by decide +kernel)]; kernel_rfl) | (rw [if_neg (by decide +kernel)]; exact ⟨rfl, rfl⟩))
    (fun os started H enc _ F => by rw [OpenClaim.pre_eq_preRow]; exact lifted os started H enc F)
theorem plain (f : FuncId) (fn : Func) (hf : Tryd.pinned.checked.prog.funcNamed "fetterlock/fetterlocklaw1.NumberOrderIsTotal" = some f) (hfn : Tryd.pinned.checked.prog.funcs[f]? = some fn) :
    false = Tryd.pinned.checked.prog.looks [] ∧ ∀ (j : Nat) t, fn.params[j]? = some t → Tryd.pinned.checked.prog.wantsStandIn t = false := by
  obtain rfl : f = 6 := Option.some.inj ((show Tryd.prog.funcNamed "fetterlock/fetterlocklaw1.NumberOrderIsTotal" = some 6 by kernel_rfl).symm.trans hf) |>.symm
  obtain rfl : fn = Tryd.f6 := (Option.some.inj (Tryd.func6.symm.trans hfn)).symm
  refine ⟨by kernel_rfl, fun j t ht => ?_⟩
  rw [Tryd.params6] at ht
  obtain rfl : t = 24 := by simpa using Array.mem_of_getElem? ht
  exact (show Tryd.prog.wantsStandIn 24 = false by kernel_rfl)
theorem card : Rows.NumberOrderIsTotalCardSaid :=
  Claim7.holds_tied_plain_at .later [] _ _ _ _ said (fun _ h => by cases h) (by kernel_rfl) (fun _ h => by cases h) numberOrderIsTotal_row_tie rfl ⟨rfl, rfl⟩ (by kernel_rfl) rfl plain (by kernel_rfl)
end OrderLaw
end Go.Proofs.YtemnjgkicndmjaaDoor.Q
namespace Go.Proofs.YtemnjgkicndmjaaDoor
theorem numberOrderIsTotal_holds : Rows.NumberOrderIsTotalCardSaid := Q.OrderLaw.card
end Go.Proofs.YtemnjgkicndmjaaDoor

