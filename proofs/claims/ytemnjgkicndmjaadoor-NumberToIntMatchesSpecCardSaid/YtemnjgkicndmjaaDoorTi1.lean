/- What this text proves: a part of the walk and of the plain laws of one card; no conditions. -/
import Derived.Test.YtemnjgkicndmjaaDoorTi0
import Derived.ChangeSame
import Derived.Stop.Joined
import Derived.SevenTiedAt
namespace Go.Proofs.YtemnjgkicndmjaaDoor.Q
open Go.RowKit Go.Proofs.YtemnjgkicndmjaaDoorW.PrintWords Go.Proofs.YtemnjgkicndmjaaDoorW.PrintLast Go.Proofs.YtemnjgkicndmjaaDoorW.PrintMore
attribute [local go_sem] max2_int min2_int max_two min_two max_three min_three max_four min_four
set_option linter.unusedVariables false
set_option linter.unusedSimpArgs false
mutual
def rf_Cmp.j0 : Nat → List Int → List Int → Bool → Bool → List Int → List Int → Bool → List Int → List Int → Option (Int)
 | 0, _, _, _, _, _, _, _, _, _ => none
 | k + 1, x5, x6, x17, x1777000, x1777001, x1777002, x1778000, x1778001, x1778002 => if x17 = true then (some (-1)) else (if x1777000 = true then (rf_Cmp.j1 k x5 x6 false x1777000 x1777001 x1777002) else (rf_Cmp.j1 k x5 x6 x1778000 x1777000 x1777001 x1777002))
def rf_Cmp.j1 : Nat → List Int → List Int → Bool → Bool → List Int → List Int → Option (Int)
 | 0, _, _, _, _, _, _ => none
 | k + 1, x5, x6, x25, x1777000, x1777001, x1777002 => if x25 = true then (some 1) else (if x1777000 = true then ((rf_CmpNat.f k x6 x5).bind fun t1784 => (some t1784)) else ((rf_CmpNat.f k x5 x6).bind fun t1785 => (some t1785)))
end
def rf_Cmp.f (k : Nat) (a0_0 : Bool) (l0_1 : List Int) (l0_2 : List Int) (a1_0 : Bool) (l1_1 : List Int) (l1_2 : List Int) : Option (Int) := (rf_MulNat.f k l0_1 l1_2).bind fun t1778 => ((rf_MulNat.f k l1_1 l0_2).bind fun t1781 => (if a0_0 = true then (rf_Cmp.j0 k t1778 t1781 (!a1_0) a0_0 l0_1 l0_2 a1_0 l1_1 l1_2) else (rf_Cmp.j0 k t1778 t1781 false a0_0 l0_1 l0_2 a1_0 l1_1 l1_2)))
theorem rf_Cmp.mono_l : ∀ k, (∀ y0 y1 y2 y3 y4 y5 y6 y7 y8, LeO (rf_Cmp.j0 k y0 y1 y2 y3 y4 y5 y6 y7 y8) (rf_Cmp.j0 (k + 1) y0 y1 y2 y3 y4 y5 y6 y7 y8)) ∧ (∀ y0 y1 y2 y3 y4 y5, LeO (rf_Cmp.j1 k y0 y1 y2 y3 y4 y5) (rf_Cmp.j1 (k + 1) y0 y1 y2 y3 y4 y5))
 | 0 => ⟨fun _ _ _ _ _ _ _ _ _ r h => by simp [rf_Cmp.j0] at h, fun _ _ _ _ _ _ r h => by simp [rf_Cmp.j1] at h⟩
 | k + 1 => by
  obtain ⟨ih0, ih1⟩ := rf_Cmp.mono_l k
  refine ⟨?_, ?_⟩
  ·intro y0 y1 y2 y3 y4 y5 y6 y7 y8
   unfold rf_Cmp.j0
   have m0 := ih0
   have m1 := ih1
   have m2 := @rf_CmpNat.mono
   have m3 := @rf_MulNat.mono
   exact zm
  ·intro y0 y1 y2 y3 y4 y5
   unfold rf_Cmp.j1
   have m0 := ih0
   have m1 := ih1
   have m2 := @rf_CmpNat.mono
   have m3 := @rf_MulNat.mono
   exact zm
theorem rf_Cmp.mono : ∀ a0 a1 a2 a3 a4 a5 k, LeO (rf_Cmp.f k a0 a1 a2 a3 a4 a5) (rf_Cmp.f (k + 1) a0 a1 a2 a3 a4 a5) := by
 intro a0 a1 a2 a3 a4 a5 k
 obtain ⟨ih0, ih1⟩ := rf_Cmp.mono_l k
 unfold rf_Cmp.f
 have m0 := ih0
 have m1 := ih1
 have m2 := @rf_CmpNat.mono
 have m3 := @rf_MulNat.mono
 exact zm
def rf_Cmp.T1 : Bool × List (List Nat × List Nat) := (true, [([], []), ([0], [0]), ([], []), ([2], [2]), ([1, 3], [1, 3]), ([], []), ([5], [5]), ([], []), ([7], [7]), ([6, 8, 4], [6, 8]), ([4, 9, 0, 1, 2, 3, 4], [4]), ([9, 10, 0, 1, 2, 3, 4, 5, 6, 7, 8, 9, 10], [9])])
def rf_Cmp.B1 : List Nat := [0, 1, 0, 4, 15, 0, 32, 0, 128, 511, 1023, 2047]
theorem rf_Cmp.tab1 : rtab .any (opsOf Tryd.f23 1) = rf_Cmp.T1 := by kernel_rfl
theorem rf_Cmp.bits1 : waitsOk rf_Cmp.T1.2 rf_Cmp.B1 = true := by kernel_rfl
set_option maxHeartbeats 8000000 in
set_option maxRecDepth 100000 in
theorem rf_Cmp.calls (k : Nat) (a0_0 : Bool) (A0_1 : Option Addr) (c0_1 : Nat) (l0_1 : List Int) (A0_2 : Option Addr) (c0_2 : Nat) (l0_2 : List Int) (a1_0 : Bool) (A1_1 : Option Addr) (c1_1 : Nat) (l1_1 : List Int) (A1_2 : Option Addr) (c1_2 : Nat) (l1_2 : List Int) (r : Int) (w : World) (hr0_1 : Kd.C (Kd.int .i64) w A0_1 l0_1.length l0_1) (hc0_1 : l0_1.length ≤ c0_1) (hr0_2 : Kd.C (Kd.int .i64) w A0_2 l0_2.length l0_2) (hc0_2 : l0_2.length ≤ c0_2) (hr1_1 : Kd.C (Kd.int .i64) w A1_1 l1_1.length l1_1) (hc1_1 : l1_1.length ≤ c1_1) (hr1_2 : Kd.C (Kd.int .i64) w A1_2 l1_2.length l1_2) (hc1_2 : l1_2.length ≤ c1_2) (h : rf_Cmp.f k a0_0 l0_1 l0_2 a1_0 l1_1 l1_2 = some r) :
  Calls Tryd.prog 23 #[.agg #[.bool a0_0, .slice A0_1 l0_1.length c0_1, .slice A0_2 l0_2.length c0_2], .agg #[.bool a1_0, .slice A1_1 l1_1.length c1_1, .slice A1_2 l1_2.length c1_2]] w fun e w' => e = .returned (.int .i64 r) ∧ Below w.heap.size w w' := by
 have hu41 := Tryd.underlying41
 have HR0_1 := am hr0_1
 have HC0_1 := am hc0_1
 clear hr0_1 hc0_1
 have HR0_2 := am hr0_2
 have HC0_2 := am hc0_2
 clear hr0_2 hc0_2
 have HR1_1 := am hr1_1
 have HC1_1 := am hc1_1
 clear hr1_1 hc1_1
 have HR1_2 := am hr1_2
 have HC1_2 := am hc1_2
 clear hr1_2 hc1_2
 have HB := am (Below.refl w.heap.size w)
 have H := h
 unfold rf_Cmp.f at H
 clear h
 replace H := zj H
 obtain ⟨t1778, A3, H⟩ := H
 replace H := zj H
 obtain ⟨t1781, A4, H⟩ := H
 have HC5 := am H
 clear H
 go_enter Tryd.func23, Tryd.ntmps23
 try go_wp2_with (first | ((with_reducible refine gate_dst (N := 2) rfl ?_); refine zbox (N := 2) (cs := #[.bool a0_0, .slice A0_1 l0_1.length c0_1, .slice A0_2 l0_2.length c0_2]) (t := 41) ?_; intro gb1776 hg w6 hbox hb; refine zt3 (below_step zq1 hb) (hbox) ((zs hg (below_size zq1) : w.heap.size ≤ gb1776)) ?_; clear HB; intro HB BK1776 GW1776; have GE1776 := GW1776; clear hb hbox hg) | ((with_reducible refine gate_dst (N := 3) rfl ?_); refine zbox (N := 3) (cs := #[.bool a1_0, .slice A1_1 l1_1.length c1_1, .slice A1_2 l1_2.length c1_2]) (t := 41) ?_; intro gb1777 hg w7 hbox hb; refine zt6 (bb BK1776.out hb) (below_step (zb1 GE1776.out) hb) (hbox) ((zs hg (below_size (zb1 GE1776.out)) : w.heap.size ≤ gb1777)) ((by rw [hg]; exact Nat.ne_of_lt (bl BK1776.out) : gb1776 ≠ gb1777)) ((by rw [hg]; exact Nat.ne_of_gt (bl BK1776.out) : gb1777 ≠ gb1776)) ?_; clear BK1776 HB; intro BK1776 HB BK1777 GW1777 NB1776_1777 NB1777_1776; have GE1777 := GW1777; clear hb hbox hg))
 refine zt3 (blk_drew BK1776.out) (blk_drew BK1777.out) (below_drew1 HB.out) ?_
 clear BK1776 BK1777 HB
 intro BK1776 BK1777 HB
 refine start_ (n := 12) (S := fun w' => w'.cell? ⟨gb1776, 0, none⟩ = some (.bool a0_0) ∧ w'.cell? ⟨gb1776, 1, none⟩ = some (.slice A0_1 l0_1.length c0_1) ∧ w'.cell? ⟨gb1776, 2, none⟩ = some (.slice A0_2 l0_2.length c0_2) ∧ w'.cell? ⟨gb1777, 0, none⟩ = some (.bool a1_0) ∧ w'.cell? ⟨gb1777, 1, none⟩ = some (.slice A1_1 l1_1.length c1_1) ∧ w'.cell? ⟨gb1777, 2, none⟩ = some (.slice A1_2 l1_2.length c1_2)) (ds := []) #[false, false, false, false, false, false, false, false, false, false, false, false] (by kernel_rfl) rfl rfl ⟨(blk_cell BK1776.out 0).trans rfl, (blk_cell BK1776.out 1).trans rfl, (blk_cell BK1776.out 2).trans rfl, (blk_cell BK1777.out 0).trans rfl, (blk_cell BK1777.out 1).trans rfl, (blk_cell BK1777.out 2).trans rfl⟩ (fun hHeld => ?_); refine with_tabW rf_Cmp.tab1 rf_Cmp.bits1 (fun HT_ HW_ => ?_)
 generalize w7.drew = w8 at BK1776 BK1777 HB hHeld ⊢
 refine pz_ (i := 0) (N := some 7) (zmt 12 [0]) ?_
 refine pz_ (i := 2) (N := some 9) (zmt 12 [0, 2]) ?_
 refine pz_ (i := 5) (N := some 12) (zmt 12 [0, 2, 5]) ?_
 refine pz_ (i := 7) (N := some 14) (zmt 12 [0, 2, 5, 7]) ?_
 refine take_ (i := 1) (N := some 8) (v := ?_) (a' := ?_) #[true, true, true, false, false, true, false, true, false, false, false, false] rfl rfl (take_ofW HT_.out HW_.out (by kernel_rfl)) (fun _ _ _ h => h) (Or.inl ⟨by rfl, ?_⟩) hHeld ?_ ?_
 rotate_left
 ·rintro w' ⟨s0, s1, s2, s3, s4, s5⟩
  go_simp
  with_reducible rfl
 rotate_left
 ·simp only [Act.put, List.setIfInBounds_toArray, List.set_cons_zero, List.set_cons_succ, i64_w, i32_w]
  rfl
 refine take_ (i := 3) (N := some 10) (v := ?_) (a' := ?_) #[true, true, true, true, false, true, false, true, false, false, false, false] rfl rfl (take_ofW HT_.out HW_.out (by kernel_rfl)) (fun _ _ _ h => h) (Or.inl ⟨by rfl, ?_⟩) hHeld ?_ ?_
 rotate_left
 ·rintro w' ⟨s0, s1, s2, s3, s4, s5⟩
  go_simp
  with_reducible rfl
 rotate_left
 ·simp only [Act.put, List.setIfInBounds_toArray, List.set_cons_zero, List.set_cons_succ, i64_w, i32_w]
  rfl
 refine take_ (i := 6) (N := some 13) (v := ?_) (a' := ?_) #[true, true, true, true, false, true, true, true, false, false, false, false] rfl rfl (take_ofW HT_.out HW_.out (by kernel_rfl)) (fun _ _ _ h => h) (Or.inl ⟨by rfl, ?_⟩) hHeld ?_ ?_
 rotate_left
 ·rintro w' ⟨s0, s1, s2, s3, s4, s5⟩
  go_simp
  with_reducible rfl
 rotate_left
 ·simp only [Act.put, List.setIfInBounds_toArray, List.set_cons_zero, List.set_cons_succ, i64_w, i32_w]
  rfl
 refine take_ (i := 8) (N := some 15) (v := ?_) (a' := ?_) #[true, true, true, true, false, true, true, true, true, false, false, false] rfl rfl (take_ofW HT_.out HW_.out (by kernel_rfl)) (fun _ _ _ h => h) (Or.inl ⟨by rfl, ?_⟩) hHeld ?_ ?_
 rotate_left
 ·rintro w' ⟨s0, s1, s2, s3, s4, s5⟩
  go_simp
  with_reducible rfl
 rotate_left
 ·simp only [Act.put, List.setIfInBounds_toArray, List.set_cons_zero, List.set_cons_succ, i64_w, i32_w]
  rfl
 refine one_ (i := 4) (N := some 11) (zmf 12 [9, 10, 11]) rfl rfl (one_of HT_.out (by kernel_rfl)) (by decide) (fun K hK => ?_)
 refine goes_ Tryd.func63 (by kernel_rfl) rfl #[.slice A0_1 l0_1.length c0_1, .slice A1_2 l1_2.length c1_2] (by rfl) rfl rfl zq5 ?_
 with_reducible refine (rf_MulNat.calls k _ _ l0_1 _ _ l1_2 t1778 _ ?side1 ?side2 ?side3 ?side4 A3.out).mono ?_
 (case side1 => exact zc (Kd.C_below HR0_1.out HB.out))
 (case side2 => exact HC0_1.out)
 (case side3 => exact zc (Kd.C_below HR1_2.out HB.out))
 (case side4 => exact HC1_2.out)
 rintro e w9 ⟨v1779, rfl, ho0, hb⟩
 refine ⟨_, rfl, ?_⟩
 refine zt4 (Kd.V_lower (Kd.V_mono (ok' := fun k_ => k_ ≠ gb1776 ∧ k_ ≠ gb1777) ho0 (fun k_ hk_ => ⟨(Kd.freshB (g := gb1776) (o := .cells #[.bool a0_0, .slice A0_1 l0_1.length c0_1, .slice A0_2 l0_2.length c0_2] 41 (0, 0)) (zq2 BK1776.out) k_ hk_), (Kd.freshB (g := gb1777) (o := .cells #[.bool a1_0, .slice A1_1 l1_1.length c1_1, .slice A1_2 l1_2.length c1_2] 41 (0, 0)) (zq2 BK1777.out) k_ hk_)⟩)) (below_size (zb2 GE1776.out GE1777.out))) (bb BK1776.out hb) (bb BK1777.out hb) (below_step (zb2 GE1776.out GE1777.out) hb) ?_
 clear BK1776 BK1777 HB
 intro HO1780 BK1776 BK1777 HB
 refine hK.out _ _ ⟨(blk_cell BK1776.out 0).trans rfl, (blk_cell BK1776.out 1).trans rfl, (blk_cell BK1776.out 2).trans rfl, (blk_cell BK1777.out 0).trans rfl, (blk_cell BK1777.out 1).trans rfl, (blk_cell BK1777.out 2).trans rfl⟩ (fun hHeld => ?_)
 clear hK K
 refine nz_ (N := (some 11)) ?_
 refine one_ (i := 9) (N := some 16) (zmf 12 [10, 11]) rfl rfl (one_of HT_.out (by kernel_rfl)) (by decide) (fun K hK => ?_)
 refine goes_ Tryd.func63 (by kernel_rfl) rfl #[.slice A1_1 l1_1.length c1_1, .slice A0_2 l0_2.length c0_2] (by rfl) rfl rfl zq5 ?_
 with_reducible refine (rf_MulNat.calls k _ _ l1_1 _ _ l0_2 t1781 _ ?side1 ?side2 ?side3 ?side4 A4.out).mono ?_
 (case side1 => exact zc (Kd.C_below HR1_1.out HB.out))
 (case side2 => exact HC1_1.out)
 (case side3 => exact zc (Kd.C_below HR0_2.out HB.out))
 (case side4 => exact HC0_2.out)
 rintro e w10 ⟨v1782, rfl, ho0, hb⟩
 refine ⟨_, rfl, ?_⟩
 refine zt5 (vb HO1780 hb) (Kd.V_lower (Kd.V_mono (ok' := fun k_ => k_ ≠ gb1776 ∧ k_ ≠ gb1777) ho0 (fun k_ hk_ => ⟨(Kd.freshB (g := gb1776) (o := .cells #[.bool a0_0, .slice A0_1 l0_1.length c0_1, .slice A0_2 l0_2.length c0_2] 41 (0, 0)) (zq2 BK1776.out) k_ hk_), (Kd.freshB (g := gb1777) (o := .cells #[.bool a1_0, .slice A1_1 l1_1.length c1_1, .slice A1_2 l1_2.length c1_2] 41 (0, 0)) (zq2 BK1777.out) k_ hk_)⟩)) (below_size (zb2 GE1776.out GE1777.out))) (bb BK1776.out hb) (bb BK1777.out hb) (below_step (zb2 GE1776.out GE1777.out) hb) ?_
 clear HO1780 BK1776 BK1777 HB
 intro HO1780 HO1783 BK1776 BK1777 HB
 refine hK.out _ _ ⟨(blk_cell BK1776.out 0).trans rfl, (blk_cell BK1776.out 1).trans rfl, (blk_cell BK1776.out 2).trans rfl, (blk_cell BK1777.out 0).trans rfl, (blk_cell BK1777.out 1).trans rfl, (blk_cell BK1777.out 2).trans rfl⟩ (fun hHeld => ?_)
 clear hK K
 refine nz_ (N := (some 16)) ?_
 refine pz_ (i := 10) (N := some 5) (zmf 12 [11]) ?_
 refine pz_ (i := 11) (N := some 6) (zmf 12 []) ?_
 refine done_ (done_of HT_.out (by kernel_rfl)) ?_
 go_upto_region 2 with (fail)
 go_cut [17] (fun v17 wc => ∃ (kq : Nat) (x17_4 : Bool), v17 = .bool x17_4 ∧ Aside0 (rf_Cmp.j0 kq t1778 t1781 x17_4 a0_0 l0_1 l0_2 a1_0 l1_1 l1_2 = some r) ∧ Aside0 (kq ≤ k) ∧ Aside0 (Kd.V (Kd.int .i64) 3 wc w.heap.size (fun k_ => k_ ≠ gb1776 ∧ k_ ≠ gb1777) v1779 t1778) ∧ Aside0 (Kd.V (Kd.int .i64) 3 wc w.heap.size (fun k_ => k_ ≠ gb1776 ∧ k_ ≠ gb1777) v1782 t1781) ∧ Aside0 (wc.heap[gb1776]? = some (.cells #[.bool a0_0, (.slice A0_1 l0_1.length c0_1), (.slice A0_2 l0_2.length c0_2)] 41 (0, 0))) ∧ Aside0 (wc.heap[gb1777]? = some (.cells #[.bool a1_0, (.slice A1_1 l1_1.length c1_1), (.slice A1_2 l1_2.length c1_2)] 41 (0, 0))) ∧ Aside0 (Below w.heap.size w wc))
 case first =>
  have H := HC5.out
  clear HC5
  by_cases c11 : a0_0 = true
  ·subst c11
   have H1 : (rf_Cmp.j0 k t1778 t1781 (!a1_0) true l0_1 l0_2 a1_0 l1_1 l1_2) = some r := by rw [if_pos rfl] at H; exact H
   clear H
   have H := H1
   clear H1
   have H' := am H
   clear H
   have hnb12 := NB1776_1777.out
   have hnc12 := NB1777_1776.out
   have hcz13_0 := bc BK1776.out 0 (.bool true)
   have hcz13_1 := bc BK1776.out 1 (.slice A0_1 l0_1.length c0_1)
   have hcz13_2 := bc BK1776.out 2 (.slice A0_2 l0_2.length c0_2)
   have hfz13_0 := blk_frozen BK1776.out 0
   have hfz13_1 := blk_frozen BK1776.out 1
   have hfz13_2 := blk_frozen BK1776.out 2
   have hcz14_0 := bc BK1777.out 0 (.bool a1_0)
   have hcz14_1 := bc BK1777.out 1 (.slice A1_1 l1_1.length c1_1)
   have hcz14_2 := bc BK1777.out 2 (.slice A1_2 l1_2.length c1_2)
   have hfz14_0 := blk_frozen BK1777.out 0
   have hfz14_1 := blk_frozen BK1777.out 1
   have hfz14_2 := blk_frozen BK1777.out 2
   go_wp2
   go_meet
   case rel => exact ⟨_, (!a1_0), zq8, H', ⟨by first | omega | exact Nat.le_refl _⟩, ⟨zq3 HO1780.out⟩, ⟨zq3 HO1783.out⟩, ⟨zq2 BK1776.out⟩, ⟨zq2 BK1777.out⟩, ⟨zb2 GE1776.out GE1777.out⟩⟩
  ·replace c11 := Bool.eq_false_iff.mpr c11
   subst c11
   have H1 : (rf_Cmp.j0 k t1778 t1781 false false l0_1 l0_2 a1_0 l1_1 l1_2) = some r := by rw [if_neg (show ¬ (false = true) by decide)] at H; exact H
   clear H
   have H := H1
   clear H1
   have H' := am H
   clear H
   have hnb15 := NB1776_1777.out
   have hnc15 := NB1777_1776.out
   have hcz16_0 := bc BK1776.out 0 (.bool false)
   have hcz16_1 := bc BK1776.out 1 (.slice A0_1 l0_1.length c0_1)
   have hcz16_2 := bc BK1776.out 2 (.slice A0_2 l0_2.length c0_2)
   have hfz16_0 := blk_frozen BK1776.out 0
   have hfz16_1 := blk_frozen BK1776.out 1
   have hfz16_2 := blk_frozen BK1776.out 2
   go_wp2
   go_meet
   case rel => exact ⟨_, (false), zq8, H', ⟨by first | omega | exact Nat.le_refl _⟩, ⟨zq3 HO1780.out⟩, ⟨zq3 HO1783.out⟩, ⟨zq2 BK1776.out⟩, ⟨zq2 BK1777.out⟩, ⟨zb2 GE1776.out GE1777.out⟩⟩
 case rest =>
  clear HC5
  obtain ⟨kq, x17_4, rfl, HA, HJ4, HO_5, HO_6, BK1776, BK1777, HB⟩ := hcut
  cases kq with
  | zero => exact absurd HA.out (by simp [rf_Cmp.j0])
  | succ kj4 =>
   have H := HA.out
   clear HA
   simp only [rf_Cmp.j0] at H
   by_cases c17 : x17_4 = true
   ·subst c17
    have H1 : (some (-1)) = some r := by rw [if_pos rfl] at H; exact H
    clear H
    have H := H1
    clear H1
    obtain rfl := Option.some.inj H
    go_wp2
    go_ret
    exact ⟨zq9, zb2 GE1776.out GE1777.out⟩
   ·replace c17 := Bool.eq_false_iff.mpr c17
    subst c17
    have H1 : (if a0_0 = true then (rf_Cmp.j1 kj4 t1778 t1781 false a0_0 l0_1 l0_2) else (rf_Cmp.j1 kj4 t1778 t1781 a1_0 a0_0 l0_1 l0_2)) = some r := by rw [if_neg (show ¬ (false = true) by decide)] at H; exact H
    clear H
    have H := H1
    clear H1
    have HC18 := am H
    clear H
    go_upto_region 4 with (fail)
    go_cut [25] (fun v25 wc => ∃ (kq : Nat) (x25_17 : Bool), v25 = .bool x25_17 ∧ Aside0 (rf_Cmp.j1 kq t1778 t1781 x25_17 a0_0 l0_1 l0_2 = some r) ∧ Aside0 (kq ≤ kj4) ∧ Aside0 (Kd.V (Kd.int .i64) 3 wc w.heap.size (fun k_ => k_ ≠ gb1776 ∧ k_ ≠ gb1777) v1779 t1778) ∧ Aside0 (Kd.V (Kd.int .i64) 3 wc w.heap.size (fun k_ => k_ ≠ gb1776 ∧ k_ ≠ gb1777) v1782 t1781) ∧ Aside0 (wc.heap[gb1776]? = some (.cells #[.bool a0_0, (.slice A0_1 l0_1.length c0_1), (.slice A0_2 l0_2.length c0_2)] 41 (0, 0))) ∧ Aside0 (wc.heap[gb1777]? = some (.cells #[.bool a1_0, (.slice A1_1 l1_1.length c1_1), (.slice A1_2 l1_2.length c1_2)] 41 (0, 0))) ∧ Aside0 (Below w.heap.size w wc))
    case first =>
     have H := HC18.out
     clear HC18
     by_cases c19 : a0_0 = true
     ·subst c19
      have H1 : (rf_Cmp.j1 kj4 t1778 t1781 false true l0_1 l0_2) = some r := by rw [if_pos rfl] at H; exact H
      clear H
      have H := H1
      clear H1
      have H' := am H
      clear H
      have hnb20 := NB1776_1777.out
      have hnc20 := NB1777_1776.out
      have hcz21_0 := bc BK1776.out 0 (.bool true)
      have hcz21_1 := bc BK1776.out 1 (.slice A0_1 l0_1.length c0_1)
      have hcz21_2 := bc BK1776.out 2 (.slice A0_2 l0_2.length c0_2)
      have hfz21_0 := blk_frozen BK1776.out 0
      have hfz21_1 := blk_frozen BK1776.out 1
      have hfz21_2 := blk_frozen BK1776.out 2
      go_wp2
      go_meet
      case rel => exact ⟨_, (false), zq8, H', ⟨by have := HJ4.out; first | omega | exact Nat.le_refl _⟩, ⟨zq3 HO_5.out⟩, ⟨zq3 HO_6.out⟩, ⟨zq2 BK1776.out⟩, ⟨zq2 BK1777.out⟩, ⟨zb2 GE1776.out GE1777.out⟩⟩
     ·replace c19 := Bool.eq_false_iff.mpr c19
      subst c19
      have H1 : (rf_Cmp.j1 kj4 t1778 t1781 a1_0 false l0_1 l0_2) = some r := by rw [if_neg (show ¬ (false = true) by decide)] at H; exact H
      clear H
      have H := H1
      clear H1
      have H' := am H
      clear H
      have hnb22 := NB1776_1777.out
      have hnc22 := NB1777_1776.out
      have hcz23_0 := bc BK1776.out 0 (.bool false)
      have hcz23_1 := bc BK1776.out 1 (.slice A0_1 l0_1.length c0_1)
      have hcz23_2 := bc BK1776.out 2 (.slice A0_2 l0_2.length c0_2)
      have hfz23_0 := blk_frozen BK1776.out 0
      have hfz23_1 := blk_frozen BK1776.out 1
      have hfz23_2 := blk_frozen BK1776.out 2
      have hcz24_0 := bc BK1777.out 0 (.bool a1_0)
      have hcz24_1 := bc BK1777.out 1 (.slice A1_1 l1_1.length c1_1)
      have hcz24_2 := bc BK1777.out 2 (.slice A1_2 l1_2.length c1_2)
      have hfz24_0 := blk_frozen BK1777.out 0
      have hfz24_1 := blk_frozen BK1777.out 1
      have hfz24_2 := blk_frozen BK1777.out 2
      go_wp2
      go_meet
      case rel => exact ⟨_, (a1_0), zq8, H', ⟨by have := HJ4.out; first | omega | exact Nat.le_refl _⟩, ⟨zq3 HO_5.out⟩, ⟨zq3 HO_6.out⟩, ⟨zq2 BK1776.out⟩, ⟨zq2 BK1777.out⟩, ⟨zb2 GE1776.out GE1777.out⟩⟩
    case rest =>
     clear HC18
     obtain ⟨kq, x25_17, rfl, HA, HJ17, HO_5, HO_6, BK1776, BK1777, HB⟩ := hcut
     cases kq with
     | zero => exact absurd HA.out (by simp [rf_Cmp.j1])
     | succ kj17 =>
      have H := HA.out
      clear HA
      simp only [rf_Cmp.j1] at H
      by_cases c25 : x25_17 = true
      ·subst c25
       have H1 : (some 1) = some r := by rw [if_pos rfl] at H; exact H
       clear H
       have H := H1
       clear H1
       obtain rfl := Option.some.inj H
       go_wp2
       go_ret
       exact ⟨zq9, zb2 GE1776.out GE1777.out⟩
      ·replace c25 := Bool.eq_false_iff.mpr c25
       subst c25
       have H1 : (if a0_0 = true then ((rf_CmpNat.f kj17 t1781 t1778).bind fun t1784 => (some t1784)) else ((rf_CmpNat.f kj17 t1778 t1781).bind fun t1785 => (some t1785))) = some r := by rw [if_neg (show ¬ (false = true) by decide)] at H; exact H
       clear H
       have H := H1
       clear H1
       by_cases c26 : a0_0 = true
       ·subst c26
        have H1 : ((rf_CmpNat.f kj17 t1781 t1778).bind fun t1784 => (some t1784)) = some r := by rw [if_pos rfl] at H; exact H
        clear H
        have H := H1
        clear H1
        replace H := zj H
        obtain ⟨t1784, A27, H⟩ := H
        obtain rfl := Option.some.inj H
        have hnb28 := NB1776_1777.out
        have hnc28 := NB1777_1776.out
        have hcz29_0 := bc BK1776.out 0 (.bool true)
        have hcz29_1 := bc BK1776.out 1 (.slice A0_1 l0_1.length c0_1)
        have hcz29_2 := bc BK1776.out 2 (.slice A0_2 l0_2.length c0_2)
        have hfz29_0 := blk_frozen BK1776.out 0
        have hfz29_1 := blk_frozen BK1776.out 1
        have hfz29_2 := blk_frozen BK1776.out 2
        obtain ⟨Ao30, co30, eo30⟩ := Kd.V_slice HO_6.out
        subst eo30
        obtain ⟨Ao31, co31, eo31⟩ := Kd.V_slice HO_5.out
        subst eo31
        go_wp2_with (first | ((with_reducible refine gate_callee (f := 46) rfl ?_); refine goesL_ (some 38) rfl rfl Tryd.func46 (by kernel_rfl) rfl #[.slice Ao30 t1781.length co30, .slice Ao31 t1778.length co31] rfl zq5 ?_; (with_reducible refine (rf_CmpNat.calls kj17 _ _ t1781 _ _ t1778 t1784 _ ?side1 ?side2 ?side3 ?side4 A27.out).mono ?_); (case side1 => exact zc ((Kd.V_reads' HO_6.out).2.2)); (case side2 => exact (Kd.V_reads' HO_6.out).2.1); (case side3 => exact zc ((Kd.V_reads' HO_5.out).2.2)); (case side4 => exact (Kd.V_reads' HO_5.out).2.1); rintro e w32 ⟨rfl, hb⟩; refine ⟨_, rfl, ?_⟩; refine zt5 (vb HO_5 hb) (vb HO_6 hb) (bb BK1776.out hb) (bb BK1777.out hb) (below_step (zb2 GE1776.out GE1777.out) hb) ?_; clear HO_5 HO_6 BK1776 BK1777 HB; intro HO_5 HO_6 BK1776 BK1777 HB; (try clear hb); (try clear hb2); (try clear hk); (try clear hi)))
        go_ret
        exact ⟨zq9, zb2 GE1776.out GE1777.out⟩
       ·replace c26 := Bool.eq_false_iff.mpr c26
        subst c26
        have H1 : ((rf_CmpNat.f kj17 t1778 t1781).bind fun t1785 => (some t1785)) = some r := by rw [if_neg (show ¬ (false = true) by decide)] at H; exact H
        clear H
        have H := H1
        clear H1
        replace H := zj H
        obtain ⟨t1785, A33, H⟩ := H
        obtain rfl := Option.some.inj H
        have hnb34 := NB1776_1777.out
        have hnc34 := NB1777_1776.out
        have hcz35_0 := bc BK1776.out 0 (.bool false)
        have hcz35_1 := bc BK1776.out 1 (.slice A0_1 l0_1.length c0_1)
        have hcz35_2 := bc BK1776.out 2 (.slice A0_2 l0_2.length c0_2)
        have hfz35_0 := blk_frozen BK1776.out 0
        have hfz35_1 := blk_frozen BK1776.out 1
        have hfz35_2 := blk_frozen BK1776.out 2
        obtain ⟨Ao36, co36, eo36⟩ := Kd.V_slice HO_5.out
        subst eo36
        obtain ⟨Ao37, co37, eo37⟩ := Kd.V_slice HO_6.out
        subst eo37
        go_wp2_with (first | ((with_reducible refine gate_callee (f := 46) rfl ?_); refine goesL_ (some 41) rfl rfl Tryd.func46 (by kernel_rfl) rfl #[.slice Ao36 t1778.length co36, .slice Ao37 t1781.length co37] rfl zq5 ?_; (with_reducible refine (rf_CmpNat.calls kj17 _ _ t1778 _ _ t1781 t1785 _ ?side1 ?side2 ?side3 ?side4 A33.out).mono ?_); (case side1 => exact zc ((Kd.V_reads' HO_5.out).2.2)); (case side2 => exact (Kd.V_reads' HO_5.out).2.1); (case side3 => exact zc ((Kd.V_reads' HO_6.out).2.2)); (case side4 => exact (Kd.V_reads' HO_6.out).2.1); rintro e w38 ⟨rfl, hb⟩; refine ⟨_, rfl, ?_⟩; refine zt5 (vb HO_5 hb) (vb HO_6 hb) (bb BK1776.out hb) (bb BK1777.out hb) (below_step (zb2 GE1776.out GE1777.out) hb) ?_; clear HO_5 HO_6 BK1776 BK1777 HB; intro HO_5 HO_6 BK1776 BK1777 HB; (try clear hb); (try clear hb2); (try clear hk); (try clear hi)))
        go_ret
        exact ⟨zq9, zb2 GE1776.out GE1777.out⟩
def rf_IsInt.f (k : Nat) (a0_0 : Bool) (l0_1 : List Int) (l0_2 : List Int) : Option (Bool) := (rf_CmpNat.f k l0_2 (([1] : List Int))).bind fun t645 => (some (t645 == 0))
theorem rf_IsInt.mono : ∀ a0 a1 a2 k, LeO (rf_IsInt.f k a0 a1 a2) (rf_IsInt.f (k + 1) a0 a1 a2) := by
 intro a0 a1 a2 k
 unfold rf_IsInt.f
 have m0 := @rf_CmpNat.mono
 exact zm
set_option maxHeartbeats 8000000 in
set_option maxRecDepth 100000 in
theorem rf_IsInt.calls (k : Nat) (a0_0 : Bool) (A0_1 : Option Addr) (c0_1 : Nat) (l0_1 : List Int) (A0_2 : Option Addr) (c0_2 : Nat) (l0_2 : List Int) (r : Bool) (w : World) (hr0_1 : Kd.C (Kd.int .i64) w A0_1 l0_1.length l0_1) (hc0_1 : l0_1.length ≤ c0_1) (hr0_2 : Kd.C (Kd.int .i64) w A0_2 l0_2.length l0_2) (hc0_2 : l0_2.length ≤ c0_2) (h : rf_IsInt.f k a0_0 l0_1 l0_2 = some r) :
  Calls Tryd.prog 66 #[.agg #[.bool a0_0, .slice A0_1 l0_1.length c0_1, .slice A0_2 l0_2.length c0_2]] w fun e w' => e = .returned (.bool r) ∧ Below w.heap.size w w' := by
 have hu41 := Tryd.underlying41
 have HR0_1 := am hr0_1
 have HC0_1 := am hc0_1
 clear hr0_1 hc0_1
 have HR0_2 := am hr0_2
 have HC0_2 := am hc0_2
 clear hr0_2 hc0_2
 have HB := am (Below.refl w.heap.size w)
 have H := h
 unfold rf_IsInt.f at H
 clear h
 obtain ⟨y642, hy642⟩ : ∃ y_ : List Int, y_ = (([1] : List Int)) := ⟨_, rfl⟩
 try rw [← hy642] at H
 have Ny642 := am hy642
 clear hy642
 replace H := zj H
 obtain ⟨t645, A2, H⟩ := H
 obtain rfl := Option.some.inj H
 go_enter Tryd.func66, Tryd.ntmps66
 go_wp2_with (first | ((with_reducible refine gate_dst (N := 1) rfl ?_); refine zbox (N := 1) (cs := #[.bool a0_0, .slice A0_1 l0_1.length c0_1, .slice A0_2 l0_2.length c0_2]) (t := 41) ?_; intro gb641 hg w3 hbox hb; refine zt3 (below_step zq1 hb) (hbox) ((zs hg (below_size zq1) : w.heap.size ≤ gb641)) ?_; clear HB; intro HB BK641 GW641; have GE641 := GW641; clear hb hbox hg; have hcz4_0 := bc BK641.out 0 (.bool a0_0); have hcz4_1 := bc BK641.out 1 (.slice A0_1 l0_1.length c0_1); have hcz4_2 := bc BK641.out 2 (.slice A0_2 l0_2.length c0_2); have hfz4_0 := blk_frozen BK641.out 0; have hfz4_1 := blk_frozen BK641.out 1; have hfz4_2 := blk_frozen BK641.out 2) | ((with_reducible refine gate_dst (N := 5) rfl ?_); refine Kd.R_lit (Kd.int .i64) _ 3 ?hg (N := 5) ?hd (xs := ([1] : List Int)) (inner := [.int .i64 1]) (ok := fun _ => True) (okp := fun _ => True) ?hr ?hp (fun _ hk => hk) trivial (Below.refl _ _) (Nat.le_refl _) (by simp) ?_; (case hd => rfl); (case hg => rfl); (case hr => exact zr); (case hp => exact (Reps.one (show Kd.M (Kd.int .i64) _ _ _ 1 [.int .i64 1] from rfl) (Reps.none _ _))); intro v643 w5 ho6 hb hg_ hnew_; clear hg_ hnew_; (first | rw [← Ny642.out] at ho6 | (simp only [Int.reduceToNat] at ho6; rw [← Ny642.out] at ho6)); refine zt3 (Kd.R_lower ho6 (below_size (zb1 GE641.out))) (bb BK641.out hb) (below_step (zb1 GE641.out) hb) ?_; clear BK641 HB; intro HO644 BK641 HB; clear hb ho6; obtain ⟨Ao7, co7, eo7⟩ := Kd.R_slice HO644.out; subst eo7) | ((with_reducible refine gate_callee (f := 46) rfl ?_); refine goesL_ (some 6) rfl rfl Tryd.func46 (by kernel_rfl) rfl #[.slice A0_2 l0_2.length c0_2, .slice Ao7 y642.length co7] rfl zq5 ?_; (with_reducible refine (rf_CmpNat.calls k _ _ l0_2 _ _ y642 t645 _ ?side1 ?side2 ?side3 ?side4 A2.out).mono ?_); (case side1 => exact zc (Kd.C_below HR0_2.out HB.out)); (case side2 => exact HC0_2.out); (case side3 => exact zc ((Kd.R_reads' HO644.out).2.2)); (case side4 => exact (Kd.R_reads' HO644.out).2.1); rintro e w8 ⟨rfl, hb⟩; refine ⟨_, rfl, ?_⟩; refine zt3 (rb HO644 hb) (bb BK641.out hb) (below_step (zb1 GE641.out) hb) ?_; clear HO644 BK641 HB; intro HO644 BK641 HB; (try clear hb); (try clear hb2); (try clear hk); (try clear hi)))
 go_ret
 exact ⟨zq9, zb1 GE641.out⟩
mutual
def rf_ToInt.j0 : Nat → Bool → Bool → List Int → List Int → Option (Int × Int)
 | 0, _, _, _, _ => none
 | k + 1, x37, x2439000, x2439001, x2439002 => if x37 = true then (some (0, 3)) else (rf_ToInt.l0 k 0 (wrap64 ((x2439001.length : Int) - 1)) x2439000 x2439001 x2439002)
def rf_ToInt.l0 : Nat → Int → Int → Bool → List Int → List Int → Option (Int × Int)
 | 0, _, _, _, _, _ => none
 | k + 1, x8, x9, x2439000, x2439001, x2439002 => if x9 ≥ 0 then (if 0 ≤ x9 then (if x9 < (x2439001.length : Int) then (rf_ToInt.l0 k (Go.bits .or .u64 (IntKind.u64.wrap (x8 * 65536)) (IntKind.u64.wrap (rd x2439001 x9))) (wrap64 (x9 - 1)) x2439000 x2439001 x2439002) else (none)) else (none)) else (if x2439000 = true then (some (wrap64 (IntKind.u64.wrap (-x8)), 0)) else (some (wrap64 (x8), 0)))
end
def rf_ToInt.f (k : Nat) (a0_0 : Bool) (l0_1 : List Int) (l0_2 : List Int) : Option (Int × Int) := (rf_Fault.f k a0_0 l0_1 l0_2).bind fun t2430 => (if t2430 = 0 then ((rf_Of.f k a0_0 l0_1 l0_2).bind fun bt2431 => ((rf_IsInt.f k bt2431.1 bt2431.2.1 bt2431.2.2).bind fun t2439 => (if t2439 = true then ((rf_ShlNat.f k (([1] : List Int)) 63).bind fun t2443 => ((rf_Whole.f true t2443).bind fun bt2446 => ((rf_ShlNat.f k (([1] : List Int)) 63).bind fun t2457 => ((rf_SubNat.f k t2457 (([1] : List Int))).bind fun t2463 => ((rf_Whole.f false t2463).bind fun bt2466 => ((rf_Cmp.f k bt2431.1 bt2431.2.1 bt2431.2.2 bt2446.1 bt2446.2.1 bt2446.2.2).bind fun t2474 => (if t2474 < 0 then (rf_ToInt.j0 k true bt2431.1 bt2431.2.1 bt2431.2.2) else ((rf_Cmp.f k bt2431.1 bt2431.2.1 bt2431.2.2 bt2466.1 bt2466.2.1 bt2466.2.2).bind fun t2475 => (rf_ToInt.j0 k (decide (t2475 > 0)) bt2431.1 bt2431.2.1 bt2431.2.2))))))))) else (some (0, 7))))) else (some (0, t2430)))
theorem rf_ToInt.mono_l : ∀ k, (∀ y0 y1 y2 y3, LeO (rf_ToInt.j0 k y0 y1 y2 y3) (rf_ToInt.j0 (k + 1) y0 y1 y2 y3)) ∧ (∀ y0 y1 y2 y3 y4, LeO (rf_ToInt.l0 k y0 y1 y2 y3 y4) (rf_ToInt.l0 (k + 1) y0 y1 y2 y3 y4))
 | 0 => ⟨fun _ _ _ _ r h => by simp [rf_ToInt.j0] at h, fun _ _ _ _ _ r h => by simp [rf_ToInt.l0] at h⟩
 | k + 1 => by
  obtain ⟨ih0, ih1⟩ := rf_ToInt.mono_l k
  refine ⟨?_, ?_⟩
  ·intro y0 y1 y2 y3
   unfold rf_ToInt.j0
   have m0 := ih0
   have m1 := ih1
   have m2 := @rf_Cmp.mono
   have m3 := @rf_Fault.mono
   have m4 := @rf_IsInt.mono
   have m5 := @rf_Of.mono
   have m6 := @rf_ShlNat.mono
   have m7 := @rf_SubNat.mono
   exact zm
  ·intro y0 y1 y2 y3 y4
   unfold rf_ToInt.l0
   have m0 := ih0
   have m1 := ih1
   have m2 := @rf_Cmp.mono
   have m3 := @rf_Fault.mono
   have m4 := @rf_IsInt.mono
   have m5 := @rf_Of.mono
   have m6 := @rf_ShlNat.mono
   have m7 := @rf_SubNat.mono
   exact zm
theorem rf_ToInt.mono : ∀ a0 a1 a2 k, LeO (rf_ToInt.f k a0 a1 a2) (rf_ToInt.f (k + 1) a0 a1 a2) := by
 intro a0 a1 a2 k
 obtain ⟨ih0, ih1⟩ := rf_ToInt.mono_l k
 unfold rf_ToInt.f
 have m0 := ih0
 have m1 := ih1
 have m2 := @rf_Cmp.mono
 have m3 := @rf_Fault.mono
 have m4 := @rf_IsInt.mono
 have m5 := @rf_Of.mono
 have m6 := @rf_ShlNat.mono
 have m7 := @rf_SubNat.mono
 exact zm
set_option maxHeartbeats 8000000 in
set_option maxRecDepth 100000 in
theorem rf_ToInt.calls (k : Nat) (a0_0 : Bool) (A0_1 : Option Addr) (c0_1 : Nat) (l0_1 : List Int) (A0_2 : Option Addr) (c0_2 : Nat) (l0_2 : List Int) (r1 : Int) (r2 : Int) (w : World) (hr0_1 : Kd.C (Kd.int .u32) w A0_1 l0_1.length l0_1) (hc0_1 : l0_1.length ≤ c0_1) (hr0_2 : Kd.C (Kd.int .u32) w A0_2 l0_2.length l0_2) (hc0_2 : l0_2.length ≤ c0_2) (h : rf_ToInt.f k a0_0 l0_1 l0_2 = some (r1, r2)) :
  Calls Tryd.prog 34 #[.agg #[.bool a0_0, .slice A0_1 l0_1.length c0_1, .slice A0_2 l0_2.length c0_2]] w fun e w' => e = .returned (.tuple #[.int .i64 r1, .int .i64 r2]) ∧ Below w.heap.size w w' := by
 have hu24 := Tryd.underlying24
 have hu41 := Tryd.underlying41
 have HR0_1 := am hr0_1
 have HC0_1 := am hc0_1
 clear hr0_1 hc0_1
 have HR0_2 := am hr0_2
 have HC0_2 := am hc0_2
 clear hr0_2 hc0_2
 have HB := am (Below.refl w.heap.size w)
 have H := h
 unfold rf_ToInt.f at H
 clear h
 replace H := zj H
 obtain ⟨t2430, A2, H⟩ := H
 replace H : (if t2430 = 0 then ((rf_Of.f k a0_0 l0_1 l0_2).bind fun bt2431 => ((rf_IsInt.f k bt2431.1 bt2431.2.1 bt2431.2.2).bind fun t2439 => (if t2439 = true then ((rf_ShlNat.f k (([1] : List Int)) 63).bind fun t2443 => ((rf_Whole.f true t2443).bind fun bt2446 => ((rf_ShlNat.f k (([1] : List Int)) 63).bind fun t2457 => ((rf_SubNat.f k t2457 (([1] : List Int))).bind fun t2463 => ((rf_Whole.f false t2463).bind fun bt2466 => ((rf_Cmp.f k bt2431.1 bt2431.2.1 bt2431.2.2 bt2446.1 bt2446.2.1 bt2446.2.2).bind fun t2474 => (if t2474 < 0 then (rf_ToInt.j0 k true bt2431.1 bt2431.2.1 bt2431.2.2) else ((rf_Cmp.f k bt2431.1 bt2431.2.1 bt2431.2.2 bt2466.1 bt2466.2.1 bt2466.2.2).bind fun t2475 => (rf_ToInt.j0 k (decide (t2475 > 0)) bt2431.1 bt2431.2.1 bt2431.2.2))))))))) else (some (0, 7))))) else (some (0, t2430))) = some (r1, r2) := H
 by_cases c3 : t2430 = 0
 ·rw [if_pos c3] at H
  have c3b0 : (t2430 == 0) = true := beq_iff_eq.mpr c3
  have c3b1 : (t2430 != 0) = false := bne_eq_false_iff_eq.mpr c3
  clear c3
  replace H := zj H
  obtain ⟨⟨t2431, t2432, t2435⟩, A4, H⟩ := H
  replace H : ((rf_IsInt.f k t2431 t2432 t2435).bind fun t2439 => (if t2439 = true then ((rf_ShlNat.f k (([1] : List Int)) 63).bind fun t2443 => ((rf_Whole.f true t2443).bind fun bt2446 => ((rf_ShlNat.f k (([1] : List Int)) 63).bind fun t2457 => ((rf_SubNat.f k t2457 (([1] : List Int))).bind fun t2463 => ((rf_Whole.f false t2463).bind fun bt2466 => ((rf_Cmp.f k t2431 t2432 t2435 bt2446.1 bt2446.2.1 bt2446.2.2).bind fun t2474 => (if t2474 < 0 then (rf_ToInt.j0 k true t2431 t2432 t2435) else ((rf_Cmp.f k t2431 t2432 t2435 bt2466.1 bt2466.2.1 bt2466.2.2).bind fun t2475 => (rf_ToInt.j0 k (decide (t2475 > 0)) t2431 t2432 t2435))))))))) else (some (0, 7)))) = some (r1, r2) := H
  replace H := zj H
  obtain ⟨t2439, A5, H⟩ := H
  replace H : (if t2439 = true then ((rf_ShlNat.f k (([1] : List Int)) 63).bind fun t2443 => ((rf_Whole.f true t2443).bind fun bt2446 => ((rf_ShlNat.f k (([1] : List Int)) 63).bind fun t2457 => ((rf_SubNat.f k t2457 (([1] : List Int))).bind fun t2463 => ((rf_Whole.f false t2463).bind fun bt2466 => ((rf_Cmp.f k t2431 t2432 t2435 bt2446.1 bt2446.2.1 bt2446.2.2).bind fun t2474 => (if t2474 < 0 then (rf_ToInt.j0 k true t2431 t2432 t2435) else ((rf_Cmp.f k t2431 t2432 t2435 bt2466.1 bt2466.2.1 bt2466.2.2).bind fun t2475 => (rf_ToInt.j0 k (decide (t2475 > 0)) t2431 t2432 t2435))))))))) else (some (0, 7))) = some (r1, r2) := H
  by_cases c6 : t2439 = true
  ·subst c6
   have H1 : ((rf_ShlNat.f k (([1] : List Int)) 63).bind fun t2443 => ((rf_Whole.f true t2443).bind fun bt2446 => ((rf_ShlNat.f k (([1] : List Int)) 63).bind fun t2457 => ((rf_SubNat.f k t2457 (([1] : List Int))).bind fun t2463 => ((rf_Whole.f false t2463).bind fun bt2466 => ((rf_Cmp.f k t2431 t2432 t2435 bt2446.1 bt2446.2.1 bt2446.2.2).bind fun t2474 => (if t2474 < 0 then (rf_ToInt.j0 k true t2431 t2432 t2435) else ((rf_Cmp.f k t2431 t2432 t2435 bt2466.1 bt2466.2.1 bt2466.2.2).bind fun t2475 => (rf_ToInt.j0 k (decide (t2475 > 0)) t2431 t2432 t2435))))))))) = some (r1, r2) := by rw [if_pos rfl] at H; exact H
   clear H
   have H := H1
   clear H1
   obtain ⟨y2440, hy2440⟩ : ∃ y_ : List Int, y_ = (([1] : List Int)) := ⟨_, rfl⟩
   replace H : ((rf_ShlNat.f k y2440 63).bind fun t2443 => ((rf_Whole.f true t2443).bind fun bt2446 => ((rf_ShlNat.f k (([1] : List Int)) 63).bind fun t2457 => ((rf_SubNat.f k t2457 (([1] : List Int))).bind fun t2463 => ((rf_Whole.f false t2463).bind fun bt2466 => ((rf_Cmp.f k t2431 t2432 t2435 bt2446.1 bt2446.2.1 bt2446.2.2).bind fun t2474 => (if t2474 < 0 then (rf_ToInt.j0 k true t2431 t2432 t2435) else ((rf_Cmp.f k t2431 t2432 t2435 bt2466.1 bt2466.2.1 bt2466.2.2).bind fun t2475 => (rf_ToInt.j0 k (decide (t2475 > 0)) t2431 t2432 t2435))))))))) = some (r1, r2) := by first | (rw [hy2440]; with_reducible exact H) | (have H2_ := (Option.bind_some _ _).symm.trans H; rw [hy2440]; with_reducible exact H2_) | (have H2_ := (Option.bind_some _ _).symm.trans H; with_reducible exact H2_) | with_reducible exact H | (rw [hy2440]; exact H) | exact H
   have Ny2440 := am hy2440
   clear hy2440
   replace H := zj H
   obtain ⟨t2443, A7, H⟩ := H
   replace H : ((rf_Whole.f true t2443).bind fun bt2446 => ((rf_ShlNat.f k (([1] : List Int)) 63).bind fun t2457 => ((rf_SubNat.f k t2457 (([1] : List Int))).bind fun t2463 => ((rf_Whole.f false t2463).bind fun bt2466 => ((rf_Cmp.f k t2431 t2432 t2435 bt2446.1 bt2446.2.1 bt2446.2.2).bind fun t2474 => (if t2474 < 0 then (rf_ToInt.j0 k true t2431 t2432 t2435) else ((rf_Cmp.f k t2431 t2432 t2435 bt2466.1 bt2466.2.1 bt2466.2.2).bind fun t2475 => (rf_ToInt.j0 k (decide (t2475 > 0)) t2431 t2432 t2435)))))))) = some (r1, r2) := H
   replace H := zj H
   obtain ⟨⟨t2446, t2447, t2450⟩, A8, H⟩ := H
   replace H : ((rf_ShlNat.f k (([1] : List Int)) 63).bind fun t2457 => ((rf_SubNat.f k t2457 (([1] : List Int))).bind fun t2463 => ((rf_Whole.f false t2463).bind fun bt2466 => ((rf_Cmp.f k t2431 t2432 t2435 t2446 t2447 t2450).bind fun t2474 => (if t2474 < 0 then (rf_ToInt.j0 k true t2431 t2432 t2435) else ((rf_Cmp.f k t2431 t2432 t2435 bt2466.1 bt2466.2.1 bt2466.2.2).bind fun t2475 => (rf_ToInt.j0 k (decide (t2475 > 0)) t2431 t2432 t2435))))))) = some (r1, r2) := H
   obtain ⟨y2454, hy2454⟩ : ∃ y_ : List Int, y_ = (([1] : List Int)) := ⟨_, rfl⟩
   replace H : ((rf_ShlNat.f k y2454 63).bind fun t2457 => ((rf_SubNat.f k t2457 (([1] : List Int))).bind fun t2463 => ((rf_Whole.f false t2463).bind fun bt2466 => ((rf_Cmp.f k t2431 t2432 t2435 t2446 t2447 t2450).bind fun t2474 => (if t2474 < 0 then (rf_ToInt.j0 k true t2431 t2432 t2435) else ((rf_Cmp.f k t2431 t2432 t2435 bt2466.1 bt2466.2.1 bt2466.2.2).bind fun t2475 => (rf_ToInt.j0 k (decide (t2475 > 0)) t2431 t2432 t2435))))))) = some (r1, r2) := by first | (rw [hy2454]; with_reducible exact H) | (have H2_ := (Option.bind_some _ _).symm.trans H; rw [hy2454]; with_reducible exact H2_) | (have H2_ := (Option.bind_some _ _).symm.trans H; with_reducible exact H2_) | with_reducible exact H | (rw [hy2454]; exact H) | exact H
   have Ny2454 := am hy2454
   clear hy2454
   replace H := zj H
   obtain ⟨t2457, A9, H⟩ := H
   replace H : ((rf_SubNat.f k t2457 (([1] : List Int))).bind fun t2463 => ((rf_Whole.f false t2463).bind fun bt2466 => ((rf_Cmp.f k t2431 t2432 t2435 t2446 t2447 t2450).bind fun t2474 => (if t2474 < 0 then (rf_ToInt.j0 k true t2431 t2432 t2435) else ((rf_Cmp.f k t2431 t2432 t2435 bt2466.1 bt2466.2.1 bt2466.2.2).bind fun t2475 => (rf_ToInt.j0 k (decide (t2475 > 0)) t2431 t2432 t2435)))))) = some (r1, r2) := H
   obtain ⟨y2460, hy2460⟩ : ∃ y_ : List Int, y_ = (([1] : List Int)) := ⟨_, rfl⟩
   replace H : ((rf_SubNat.f k t2457 y2460).bind fun t2463 => ((rf_Whole.f false t2463).bind fun bt2466 => ((rf_Cmp.f k t2431 t2432 t2435 t2446 t2447 t2450).bind fun t2474 => (if t2474 < 0 then (rf_ToInt.j0 k true t2431 t2432 t2435) else ((rf_Cmp.f k t2431 t2432 t2435 bt2466.1 bt2466.2.1 bt2466.2.2).bind fun t2475 => (rf_ToInt.j0 k (decide (t2475 > 0)) t2431 t2432 t2435)))))) = some (r1, r2) := by first | (rw [hy2460]; with_reducible exact H) | (have H2_ := (Option.bind_some _ _).symm.trans H; rw [hy2460]; with_reducible exact H2_) | (have H2_ := (Option.bind_some _ _).symm.trans H; with_reducible exact H2_) | with_reducible exact H | (rw [hy2460]; exact H) | exact H
   have Ny2460 := am hy2460
   clear hy2460
   replace H := zj H
   obtain ⟨t2463, A10, H⟩ := H
   replace H : ((rf_Whole.f false t2463).bind fun bt2466 => ((rf_Cmp.f k t2431 t2432 t2435 t2446 t2447 t2450).bind fun t2474 => (if t2474 < 0 then (rf_ToInt.j0 k true t2431 t2432 t2435) else ((rf_Cmp.f k t2431 t2432 t2435 bt2466.1 bt2466.2.1 bt2466.2.2).bind fun t2475 => (rf_ToInt.j0 k (decide (t2475 > 0)) t2431 t2432 t2435))))) = some (r1, r2) := H
   replace H := zj H
   obtain ⟨⟨t2466, t2467, t2470⟩, A11, H⟩ := H
   replace H : ((rf_Cmp.f k t2431 t2432 t2435 t2446 t2447 t2450).bind fun t2474 => (if t2474 < 0 then (rf_ToInt.j0 k true t2431 t2432 t2435) else ((rf_Cmp.f k t2431 t2432 t2435 t2466 t2467 t2470).bind fun t2475 => (rf_ToInt.j0 k (decide (t2475 > 0)) t2431 t2432 t2435)))) = some (r1, r2) := H
   have HC12 := am H
   clear H
   go_enter Tryd.func34, Tryd.ntmps34
   go_upto_region 9 with (first | ((with_reducible refine gate_dst (N := 1) rfl ?_); refine zbox (N := 1) (cs := #[.bool a0_0, .slice A0_1 l0_1.length c0_1, .slice A0_2 l0_2.length c0_2]) (t := 24) ?_; intro gb2429 hg w13 hbox hb; refine zt3 (below_step zq1 hb) (hbox) ((zs hg (below_size zq1) : w.heap.size ≤ gb2429)) ?_; clear HB; intro HB BK2429 GW2429; have GE2429 := GW2429; clear hb hbox hg; have hcz14_0 := bc BK2429.out 0 (.bool a0_0); have hcz14_1 := bc BK2429.out 1 (.slice A0_1 l0_1.length c0_1); have hcz14_2 := bc BK2429.out 2 (.slice A0_2 l0_2.length c0_2); have hfz14_0 := blk_frozen BK2429.out 0; have hfz14_1 := blk_frozen BK2429.out 1; have hfz14_2 := blk_frozen BK2429.out 2) | ((with_reducible refine gate_callee (f := 15) rfl ?_); refine goesL_ (some 11) rfl rfl Tryd.func15 (by kernel_rfl) rfl #[.agg #[.bool a0_0, .slice A0_1 l0_1.length c0_1, .slice A0_2 l0_2.length c0_2]] rfl zq5 ?_; (with_reducible refine (rf_Fault.calls k a0_0 _ _ l0_1 _ _ l0_2 t2430 _ ?side1 ?side2 ?side3 ?side4 A2.out).mono ?_); (case side1 => exact zc (Kd.C_below HR0_1.out HB.out)); (case side2 => exact HC0_1.out); (case side3 => exact zc (Kd.C_below HR0_2.out HB.out)); (case side4 => exact HC0_2.out); rintro e w15 ⟨rfl, hb⟩; refine ⟨_, rfl, ?_⟩; refine zt2 (bb BK2429.out hb) (below_step (zb1 GE2429.out) hb) ?_; clear BK2429 HB; intro BK2429 HB; (try clear hb); (try clear hb2); (try clear hk); (try clear hi); have hcz16_0 := bc BK2429.out 0 (.bool a0_0); have hcz16_1 := bc BK2429.out 1 (.slice A0_1 l0_1.length c0_1); have hcz16_2 := bc BK2429.out 2 (.slice A0_2 l0_2.length c0_2); have hfz16_0 := blk_frozen BK2429.out 0; have hfz16_1 := blk_frozen BK2429.out 1; have hfz16_2 := blk_frozen BK2429.out 2) | ((with_reducible refine gate_callee (f := 24) rfl ?_); refine goesL_ (some 16) rfl rfl Tryd.func24 (by kernel_rfl) rfl #[.agg #[.bool a0_0, .slice A0_1 l0_1.length c0_1, .slice A0_2 l0_2.length c0_2]] rfl zq5 ?_; (with_reducible refine (rf_Of.calls k a0_0 _ _ l0_1 _ _ l0_2 t2431 t2432 t2435 _ ?side1 ?side2 ?side3 ?side4 A4.out).mono ?_); (case side1 => exact zc (Kd.C_below HR0_1.out HB.out)); (case side2 => exact HC0_1.out); (case side3 => exact zc (Kd.C_below HR0_2.out HB.out)); (case side4 => exact HC0_2.out); rintro e w17 ⟨v2433, v2436, rfl, ho0, ho1, hb⟩; refine ⟨_, rfl, ?_⟩; refine zt4 (Kd.V_lower (Kd.V_mono (ok' := fun k_ => k_ ≠ gb2429) ho0 (fun k_ hk_ => (Kd.freshB (g := gb2429) (o := .cells #[.bool a0_0, .slice A0_1 l0_1.length c0_1, .slice A0_2 l0_2.length c0_2] 24 (0, 0)) (zq2 BK2429.out) k_ hk_))) (below_size (zb1 GE2429.out))) (Kd.V_lower (Kd.V_mono (ok' := fun k_ => k_ ≠ gb2429) ho1 (fun k_ hk_ => (Kd.freshB (g := gb2429) (o := .cells #[.bool a0_0, .slice A0_1 l0_1.length c0_1, .slice A0_2 l0_2.length c0_2] 24 (0, 0)) (zq2 BK2429.out) k_ hk_))) (below_size (zb1 GE2429.out))) (bb BK2429.out hb) (below_step (zb1 GE2429.out) hb) ?_; clear BK2429 HB; intro HO2434 HO2437 BK2429 HB; (try clear ho1)) | ((with_reducible refine gate_dst (N := 5) rfl ?_); refine zbox (N := 5) (cs := #[.bool false, .slice none 0 0, .slice none 0 0]) (t := 41) ?_; intro gb2438 hg w18 hbox hb; refine zt8 (ve HO2434 hg hb) (ve HO2437 hg hb) (bb BK2429.out hb) (below_step (zb1 GE2429.out) hb) (hbox) ((zs hg (below_size (zb1 GE2429.out)) : w.heap.size ≤ gb2438)) ((by rw [hg]; exact Nat.ne_of_lt (bl BK2429.out) : gb2429 ≠ gb2438)) ((by rw [hg]; exact Nat.ne_of_gt (bl BK2429.out) : gb2438 ≠ gb2429)) ?_; clear HO2434 HO2437 BK2429 HB; intro HO2434 HO2437 BK2429 HB BK2438 GW2438 NB2429_2438 NB2438_2429; have GE2438 := GW2438; clear hb hbox hg; have hnb19 := NB2438_2429.out; have hnc19 := NB2429_2438.out; have hcz20_0 := bc BK2438.out 0 (.bool false); have hcz20_1 := bc BK2438.out 1 (.slice none 0 0); have hcz20_2 := bc BK2438.out 2 (.slice none 0 0); have hfz20_0 := blk_frozen BK2438.out 0; have hfz20_1 := blk_frozen BK2438.out 1; have hfz20_2 := blk_frozen BK2438.out 2; obtain ⟨Ao21, co21, eo21⟩ := Kd.V_slice HO2434.out; subst eo21; obtain ⟨Ao22, co22, eo22⟩ := Kd.V_slice HO2437.out; subst eo22) | ((with_reducible refine gate_callee (f := 66) rfl ?_); refine goesL_ (some 18) rfl rfl Tryd.func66 (by kernel_rfl) rfl #[.agg #[.bool t2431, .slice Ao21 t2432.length co21, .slice Ao22 t2435.length co22]] rfl zq5 ?_; (with_reducible refine (rf_IsInt.calls k t2431 _ _ t2432 _ _ t2435 true _ ?side1 ?side2 ?side3 ?side4 A5.out).mono ?_); (case side1 => refine (Kd.V_reads' (e := 3) (base := w.heap.size) (ok := fun k_ => (k_ ≠ gb2429 ∧ k_ ≠ gb2438)) (n := t2432.length) (c := co21) ?_).2.2; exact (by (with_reducible repeat (first | apply Kd.V_alloc | apply Kd.V_drewN | apply Kd.V_drew)); exact (Kd.V_mono (zv3 gb2438 (.bool t2431) (.slice Ao21 t2432.length co21) (.slice Ao22 t2435.length co22) HO2434.out (fun _ hk => hk.2)) (fun _ h_ => h_.1)))); (case side2 => exact (Kd.V_reads' HO2434.out).2.1); (case side3 => refine (Kd.V_reads' (e := 3) (base := w.heap.size) (ok := fun k_ => (k_ ≠ gb2429 ∧ k_ ≠ gb2438)) (n := t2435.length) (c := co22) ?_).2.2; exact (by (with_reducible repeat (first | apply Kd.V_alloc | apply Kd.V_drewN | apply Kd.V_drew)); exact (Kd.V_mono (zv3 gb2438 (.bool t2431) (.slice Ao21 t2432.length co21) (.slice Ao22 t2435.length co22) HO2437.out (fun _ hk => hk.2)) (fun _ h_ => h_.1)))); (case side4 => exact (Kd.V_reads' HO2437.out).2.1); rintro e w23 ⟨rfl, hb⟩; refine ⟨_, rfl, ?_⟩; refine zt5 (Kd.V_below (by (with_reducible repeat (first | apply Kd.V_alloc | apply Kd.V_drewN | apply Kd.V_drew)); exact (Kd.V_mono (zv3 gb2438 (.bool t2431) (.slice Ao21 t2432.length co21) (.slice Ao22 t2435.length co22) HO2434.out (fun _ hk => hk.2)) (fun _ h_ => h_.1))) hb) (Kd.V_below (by (with_reducible repeat (first | apply Kd.V_alloc | apply Kd.V_drewN | apply Kd.V_drew)); exact (Kd.V_mono (zv3 gb2438 (.bool t2431) (.slice Ao21 t2432.length co21) (.slice Ao22 t2435.length co22) HO2437.out (fun _ hk => hk.2)) (fun _ h_ => h_.1))) hb) (blk_below (g := gb2429) (o := .cells #[.bool a0_0, .slice A0_1 l0_1.length c0_1, .slice A0_2 l0_2.length c0_2] 24 (0, 0)) (by (with_reducible repeat (first | refine blk_drewN ?_ _ | refine blk_drew ?_ | refine blk_alloc ?_ _)); refine blk_far ?_ NB2429_2438.out _; (with_reducible repeat (first | refine blk_drewN ?_ _ | refine blk_drew ?_ | refine blk_alloc ?_ _)); refine blk_far ?_ NB2429_2438.out _; (with_reducible repeat (first | refine blk_drewN ?_ _ | refine blk_drew ?_ | refine blk_alloc ?_ _)); refine blk_far ?_ NB2429_2438.out _; (with_reducible repeat (first | refine blk_drewN ?_ _ | refine blk_drew ?_ | refine blk_alloc ?_ _)); exact BK2429.out) hb) (blk_below (g := gb2438) (o := .cells #[.bool t2431, .slice Ao21 t2432.length co21, .slice Ao22 t2435.length co22] 41 (0, 0)) (by (with_reducible repeat (first | refine blk_drewN ?_ _ | refine blk_drew ?_ | refine blk_alloc ?_ _)); refine blk_put (cs := #[.bool t2431, .slice Ao21 t2432.length co21, .slice none 0 0]) ?_ 2 _ rfl; (with_reducible repeat (first | refine blk_drewN ?_ _ | refine blk_drew ?_ | refine blk_alloc ?_ _)); refine blk_put (cs := #[.bool t2431, .slice none 0 0, .slice none 0 0]) ?_ 1 _ rfl; (with_reducible repeat (first | refine blk_drewN ?_ _ | refine blk_drew ?_ | refine blk_alloc ?_ _)); refine blk_put (cs := #[.bool false, .slice none 0 0, .slice none 0 0]) ?_ 0 _ rfl; (with_reducible repeat (first | refine blk_drewN ?_ _ | refine blk_drew ?_ | refine blk_alloc ?_ _)); exact BK2438.out) hb) (below_step (zb2 GE2429.out GE2438.out) hb) ?_; clear HO2434 HO2437 BK2429 BK2438 HB; intro HO2434 HO2437 BK2429 BK2438 HB; (try clear hb); (try clear hb2); (try clear hk); (try clear hi)) | ((with_reducible refine gate_dst (N := 20) rfl ?_); refine Kd.R_lit (Kd.int .i64) _ 3 ?hg (N := 20) ?hd (xs := ([1] : List Int)) (inner := [.int .i64 1]) (ok := fun _ => True) (okp := fun _ => True) ?hr ?hp (fun _ hk => hk) trivial (Below.refl _ _) (Nat.le_refl _) (by simp) ?_; (case hd => rfl); (case hg => rfl); (case hr => exact zr); (case hp => exact (Reps.one (show Kd.M (Kd.int .i64) _ _ _ 1 [.int .i64 1] from rfl) (Reps.none _ _))); intro v2441 w24 ho25 hb hg_ hnew_; clear hg_ hnew_; (first | rw [← Ny2440.out] at ho25 | (simp only [Int.reduceToNat] at ho25; rw [← Ny2440.out] at ho25)); refine zt6 (Kd.V_elder' (zq3 HO2434.out) (Kd.R_base ho25) hb) (Kd.V_elder' (zq3 HO2437.out) (Kd.R_base ho25) hb) (Kd.R_lower ho25 (below_size (zb2 GE2429.out GE2438.out))) (bb BK2429.out hb) (bb BK2438.out hb) (below_step (zb2 GE2429.out GE2438.out) hb) ?_; clear HO2434 HO2437 BK2429 BK2438 HB; intro HO2434 HO2437 HO2442 BK2429 BK2438 HB; clear hb ho25; obtain ⟨Ao26, co26, eo26⟩ := Kd.R_slice HO2442.out; subst eo26) | ((with_reducible refine gate_callee (f := 82) rfl ?_); refine goesL_ (some 21) rfl rfl Tryd.func82 (by kernel_rfl) rfl #[.slice Ao26 y2440.length co26, .int .i64 63] rfl zq5 ?_; (with_reducible refine (rf_ShlNat.calls k _ _ y2440 63 t2443 _ ?side1 ?side2 A7.out).mono ?_); (case side1 => exact zc ((Kd.R_reads' HO2442.out).2.2)); (case side2 => exact (Kd.R_reads' HO2442.out).2.1); rintro e w27 ⟨v2444, rfl, ho0, hb⟩; refine ⟨_, rfl, ?_⟩; refine zt7 (vb HO2434 hb) (vb HO2437 hb) (rb HO2442 hb) (Kd.V_lower (Kd.V_mono (ok' := fun k_ => some k_ ≠ (.slice Ao26 y2440.length co26 : Value).ownBlock ∧ k_ ≠ gb2429 ∧ k_ ≠ gb2438) ho0 (fun k_ hk_ => ⟨(Kd.fresh' (Kd.R_lt (zq4 HO2442.out)) k_ hk_), (Kd.freshB (g := gb2429) (o := .cells #[.bool a0_0, .slice A0_1 l0_1.length c0_1, .slice A0_2 l0_2.length c0_2] 24 (0, 0)) (zq2 BK2429.out) k_ hk_), (Kd.freshB (g := gb2438) (o := .cells #[.bool t2431, .slice Ao21 t2432.length co21, .slice Ao22 t2435.length co22] 41 (0, 0)) (zq2 BK2438.out) k_ hk_)⟩)) (below_size (zb2 GE2429.out GE2438.out))) (bb BK2429.out hb) (bb BK2438.out hb) (below_step (zb2 GE2429.out GE2438.out) hb) ?_; clear HO2434 HO2437 HO2442 BK2429 BK2438 HB; intro HO2434 HO2437 HO2442 HO2445 BK2429 BK2438 HB; obtain ⟨Ao28, co28, eo28⟩ := Kd.V_slice HO2445.out; subst eo28) | ((with_reducible refine gate_callee (f := 71) rfl ?_); refine goesL_ (some 22) rfl rfl Tryd.func71 (by kernel_rfl) rfl #[.bool true, .slice Ao28 t2443.length co28] rfl zq5 ?_; (with_reducible refine (rf_Whole.calls true (fun k_ => (some k_ ≠ (.slice Ao26 y2440.length co26 : Value).ownBlock ∧ (k_ ≠ gb2429 ∧ k_ ≠ gb2438))) _ _ t2443 t2446 t2447 t2450 _ ?side1 A8.out).mono ?_); (case side1 => exact HO2445.out); rintro e w29 ⟨v2448, v2451, rfl, ho0, ho1, hb⟩; refine ⟨_, rfl, ?_⟩; refine zt9 (Kd.V_elder' (zq3 HO2434.out) (Kd.R_base ho1) hb) (Kd.V_elder' (zq3 HO2437.out) (Kd.R_base ho1) hb) (Kd.R_elder' (zq4 HO2442.out) (Kd.R_base ho1) hb) (Kd.V_elder' (zq3 HO2445.out) (Kd.R_base ho1) hb) (Kd.V_lower (Kd.V_mono (ok' := fun k_ => some k_ ≠ (v2451 : Value).ownBlock ∧ some k_ ≠ (.slice Ao26 y2440.length co26 : Value).ownBlock ∧ k_ ≠ gb2429 ∧ k_ ≠ gb2438) ho0 (fun k_ hk_ => ⟨hk_.2, Or.elim hk_.1 (fun hs_ => hs_.1) (fun hn_ => (Kd.fresh' (Kd.R_lt (zq4 HO2442.out)) k_ hn_)), Or.elim hk_.1 (fun hs_ => hs_.2.1) (fun hn_ => (Kd.freshB (g := gb2429) (o := .cells #[.bool a0_0, .slice A0_1 l0_1.length c0_1, .slice A0_2 l0_2.length c0_2] 24 (0, 0)) (zq2 BK2429.out) k_ hn_)), Or.elim hk_.1 (fun hs_ => hs_.2.2) (fun hn_ => (Kd.freshB (g := gb2438) (o := .cells #[.bool t2431, .slice Ao21 t2432.length co21, .slice Ao22 t2435.length co22] 41 (0, 0)) (zq2 BK2438.out) k_ hn_))⟩)) (below_size (zb2 GE2429.out GE2438.out))) (Kd.R_lower (Kd.R_new' (Kd.R_mono (ok' := fun k_ => True) ho1 (fun _ hk_ => trivial)) (Kd.R_lt (zq4 HO2442.out))) (below_size (zb2 GE2429.out GE2438.out))) (bb BK2429.out hb) (bb BK2438.out hb) (below_step (zb2 GE2429.out GE2438.out) hb) ?_; clear HO2434 HO2437 HO2442 HO2445 BK2429 BK2438 HB; intro HO2434 HO2437 HO2442 HO2445 HO2449 HO2452 BK2429 BK2438 HB; (try clear ho1)) | ((with_reducible refine gate_dst (N := 6) rfl ?_); refine zbox (N := 6) (cs := #[.bool false, .slice none 0 0, .slice none 0 0]) (t := 41) ?_; intro gb2453 hg w30 hbox hb; refine zt15 (ve HO2434 hg hb) (ve HO2437 hg hb) (rb HO2442 hb) (ve HO2445 hg hb) (ve HO2449 hg hb) (rb HO2452 hb) (bb BK2429.out hb) (bb BK2438.out hb) (below_step (zb2 GE2429.out GE2438.out) hb) (hbox) ((zs hg (below_size (zb2 GE2429.out GE2438.out)) : w.heap.size ≤ gb2453)) ((by rw [hg]; exact Nat.ne_of_lt (bl BK2429.out) : gb2429 ≠ gb2453)) ((by rw [hg]; exact Nat.ne_of_gt (bl BK2429.out) : gb2453 ≠ gb2429)) ((by rw [hg]; exact Nat.ne_of_lt (bl BK2438.out) : gb2438 ≠ gb2453)) ((by rw [hg]; exact Nat.ne_of_gt (bl BK2438.out) : gb2453 ≠ gb2438)) ?_; clear HO2434 HO2437 HO2442 HO2445 HO2449 HO2452 BK2429 BK2438 HB; intro HO2434 HO2437 HO2442 HO2445 HO2449 HO2452 BK2429 BK2438 HB BK2453 GW2453 NB2429_2453 NB2453_2429 NB2438_2453 NB2453_2438; have GE2453 := GW2453; clear hb hbox hg; have hnb31 := NB2453_2429.out; have hnc31 := NB2429_2453.out; have hnb32 := NB2453_2438.out; have hnc32 := NB2438_2453.out; have hcz33_0 := bc BK2453.out 0 (.bool false); have hcz33_1 := bc BK2453.out 1 (.slice none 0 0); have hcz33_2 := bc BK2453.out 2 (.slice none 0 0); have hfz33_0 := blk_frozen BK2453.out 0; have hfz33_1 := blk_frozen BK2453.out 1; have hfz33_2 := blk_frozen BK2453.out 2; obtain ⟨Ao34, co34, eo34⟩ := Kd.V_slice HO2449.out; subst eo34; obtain ⟨Ao35, co35, eo35⟩ := Kd.R_slice HO2452.out; subst eo35) | ((with_reducible refine gate_dst (N := 23) rfl ?_); refine Kd.R_lit (Kd.int .i64) _ 3 ?hg (N := 23) ?hd (xs := ([1] : List Int)) (inner := [.int .i64 1]) (ok := fun _ => True) (okp := fun _ => True) ?hr ?hp (fun _ hk => hk) trivial (Below.refl _ _) (Nat.le_refl _) (by simp) ?_; (case hd => rfl); (case hg => rfl); (case hr => exact zr); (case hp => exact (Reps.one (show Kd.M (Kd.int .i64) _ _ _ 1 [.int .i64 1] from rfl) (Reps.none _ _))); intro v2455 w36 ho37 hb hg_ hnew_; clear hg_ hnew_; (first | rw [← Ny2454.out] at ho37 | (simp only [Int.reduceToNat] at ho37; rw [← Ny2454.out] at ho37)); refine zt11 (Kd.V_elder' (by (with_reducible repeat (first | apply Kd.V_alloc | apply Kd.V_drewN | apply Kd.V_drew)); exact (Kd.V_mono (zv3 gb2453 (.bool t2446) (.slice Ao34 t2447.length co34) (.slice Ao35 t2450.length co35) HO2434.out (fun _ hk => hk.2)) (fun _ h_ => h_.1))) (Kd.R_base ho37) hb) (Kd.V_elder' (by (with_reducible repeat (first | apply Kd.V_alloc | apply Kd.V_drewN | apply Kd.V_drew)); exact (Kd.V_mono (zv3 gb2453 (.bool t2446) (.slice Ao34 t2447.length co34) (.slice Ao35 t2450.length co35) HO2437.out (fun _ hk => hk.2)) (fun _ h_ => h_.1))) (Kd.R_base ho37) hb) (Kd.R_elder' (by (with_reducible repeat (first | apply Kd.R_alloc | apply Kd.R_drewN | apply Kd.R_drew)); exact (Kd.R_mono (Kd.R_far (p := ⟨gb2453, 2, none⟩) (Kd.R_far (p := ⟨gb2453, 1, none⟩) (Kd.R_far (p := ⟨gb2453, 0, none⟩) (Kd.R_types HO2442.out BK2453.out (by decide)) (fun _ hk => hk.2) (.bool t2446)) (fun _ hk => hk.2) (.slice Ao34 t2447.length co34)) (fun _ hk => hk.2) (.slice Ao35 t2450.length co35)) (fun _ h_ => h_.1))) (Kd.R_base ho37) hb) (Kd.V_elder' (by (with_reducible repeat (first | apply Kd.V_alloc | apply Kd.V_drewN | apply Kd.V_drew)); exact (Kd.V_mono (zv3 gb2453 (.bool t2446) (.slice Ao34 t2447.length co34) (.slice Ao35 t2450.length co35) HO2445.out (fun _ hk => hk.2)) (fun _ h_ => h_.1))) (Kd.R_base ho37) hb) (Kd.V_elder' (by (with_reducible repeat (first | apply Kd.V_alloc | apply Kd.V_drewN | apply Kd.V_drew)); exact (Kd.V_mono (zv3 gb2453 (.bool t2446) (.slice Ao34 t2447.length co34) (.slice Ao35 t2450.length co35) HO2449.out (fun _ hk => hk.2)) (fun _ h_ => h_.1))) (Kd.R_base ho37) hb) (Kd.R_elder' (by (with_reducible repeat (first | apply Kd.R_alloc | apply Kd.R_drewN | apply Kd.R_drew)); exact (Kd.R_mono (Kd.R_far (p := ⟨gb2453, 2, none⟩) (Kd.R_far (p := ⟨gb2453, 1, none⟩) (Kd.R_far (p := ⟨gb2453, 0, none⟩) (Kd.R_types HO2452.out BK2453.out (by decide)) (fun _ hk => hk.2) (.bool t2446)) (fun _ hk => hk.2) (.slice Ao34 t2447.length co34)) (fun _ hk => hk.2) (.slice Ao35 t2450.length co35)) (fun _ h_ => h_.1))) (Kd.R_base ho37) hb) (Kd.R_lower (Kd.R_new' (Kd.R_new' ho37 (Kd.R_lt (by (with_reducible repeat (first | apply Kd.R_alloc | apply Kd.R_drewN | apply Kd.R_drew)); exact (Kd.R_mono (Kd.R_far (p := ⟨gb2453, 2, none⟩) (Kd.R_far (p := ⟨gb2453, 1, none⟩) (Kd.R_far (p := ⟨gb2453, 0, none⟩) (Kd.R_types HO2442.out BK2453.out (by decide)) (fun _ hk => hk.2) (.bool t2446)) (fun _ hk => hk.2) (.slice Ao34 t2447.length co34)) (fun _ hk => hk.2) (.slice Ao35 t2450.length co35)) (fun _ h_ => h_.1))))) (Kd.R_lt (by (with_reducible repeat (first | apply Kd.R_alloc | apply Kd.R_drewN | apply Kd.R_drew)); exact (Kd.R_mono (Kd.R_far (p := ⟨gb2453, 2, none⟩) (Kd.R_far (p := ⟨gb2453, 1, none⟩) (Kd.R_far (p := ⟨gb2453, 0, none⟩) (Kd.R_types HO2452.out BK2453.out (by decide)) (fun _ hk => hk.2) (.bool t2446)) (fun _ hk => hk.2) (.slice Ao34 t2447.length co34)) (fun _ hk => hk.2) (.slice Ao35 t2450.length co35)) (fun _ h_ => h_.1))))) (below_size (zb3 GE2429.out GE2438.out GE2453.out))) (blk_below (g := gb2429) (o := .cells #[.bool a0_0, .slice A0_1 l0_1.length c0_1, .slice A0_2 l0_2.length c0_2] 24 (0, 0)) (by (with_reducible repeat (first | refine blk_drewN ?_ _ | refine blk_drew ?_ | refine blk_alloc ?_ _)); refine blk_far ?_ NB2429_2453.out _; (with_reducible repeat (first | refine blk_drewN ?_ _ | refine blk_drew ?_ | refine blk_alloc ?_ _)); refine blk_far ?_ NB2429_2453.out _; (with_reducible repeat (first | refine blk_drewN ?_ _ | refine blk_drew ?_ | refine blk_alloc ?_ _)); refine blk_far ?_ NB2429_2453.out _; (with_reducible repeat (first | refine blk_drewN ?_ _ | refine blk_drew ?_ | refine blk_alloc ?_ _)); exact BK2429.out) hb) (blk_below (g := gb2438) (o := .cells #[.bool t2431, .slice Ao21 t2432.length co21, .slice Ao22 t2435.length co22] 41 (0, 0)) (by (with_reducible repeat (first | refine blk_drewN ?_ _ | refine blk_drew ?_ | refine blk_alloc ?_ _)); refine blk_far ?_ NB2438_2453.out _; (with_reducible repeat (first | refine blk_drewN ?_ _ | refine blk_drew ?_ | refine blk_alloc ?_ _)); refine blk_far ?_ NB2438_2453.out _; (with_reducible repeat (first | refine blk_drewN ?_ _ | refine blk_drew ?_ | refine blk_alloc ?_ _)); refine blk_far ?_ NB2438_2453.out _; (with_reducible repeat (first | refine blk_drewN ?_ _ | refine blk_drew ?_ | refine blk_alloc ?_ _)); exact BK2438.out) hb) (blk_below (g := gb2453) (o := .cells #[.bool t2446, .slice Ao34 t2447.length co34, .slice Ao35 t2450.length co35] 41 (0, 0)) (by (with_reducible repeat (first | refine blk_drewN ?_ _ | refine blk_drew ?_ | refine blk_alloc ?_ _)); refine blk_put (cs := #[.bool t2446, .slice Ao34 t2447.length co34, .slice none 0 0]) ?_ 2 _ rfl; (with_reducible repeat (first | refine blk_drewN ?_ _ | refine blk_drew ?_ | refine blk_alloc ?_ _)); refine blk_put (cs := #[.bool t2446, .slice none 0 0, .slice none 0 0]) ?_ 1 _ rfl; (with_reducible repeat (first | refine blk_drewN ?_ _ | refine blk_drew ?_ | refine blk_alloc ?_ _)); refine blk_put (cs := #[.bool false, .slice none 0 0, .slice none 0 0]) ?_ 0 _ rfl; (with_reducible repeat (first | refine blk_drewN ?_ _ | refine blk_drew ?_ | refine blk_alloc ?_ _)); exact BK2453.out) hb) (below_step (zb3 GE2429.out GE2438.out GE2453.out) hb) ?_; clear HO2434 HO2437 HO2442 HO2445 HO2449 HO2452 BK2429 BK2438 BK2453 HB; intro HO2434 HO2437 HO2442 HO2445 HO2449 HO2452 HO2456 BK2429 BK2438 BK2453 HB; clear hb ho37; obtain ⟨Ao38, co38, eo38⟩ := Kd.R_slice HO2456.out; subst eo38) | ((with_reducible refine gate_callee (f := 82) rfl ?_); refine goesL_ (some 24) rfl rfl Tryd.func82 (by kernel_rfl) rfl #[.slice Ao38 y2454.length co38, .int .i64 63] rfl zq5 ?_; (with_reducible refine (rf_ShlNat.calls k _ _ y2454 63 t2457 _ ?side1 ?side2 A9.out).mono ?_); (case side1 => exact zc ((Kd.R_reads' HO2456.out).2.2)); (case side2 => exact (Kd.R_reads' HO2456.out).2.1); rintro e w39 ⟨v2458, rfl, ho0, hb⟩; refine ⟨_, rfl, ?_⟩; refine zt12 (vb HO2434 hb) (vb HO2437 hb) (rb HO2442 hb) (vb HO2445 hb) (vb HO2449 hb) (rb HO2452 hb) (rb HO2456 hb) (Kd.V_lower (Kd.V_mono (ok' := fun k_ => some k_ ≠ (.slice Ao26 y2440.length co26 : Value).ownBlock ∧ some k_ ≠ (.slice Ao35 t2450.length co35 : Value).ownBlock ∧ some k_ ≠ (.slice Ao38 y2454.length co38 : Value).ownBlock ∧ k_ ≠ gb2429 ∧ k_ ≠ gb2438 ∧ k_ ≠ gb2453) ho0 (fun k_ hk_ => ⟨(Kd.fresh' (Kd.R_lt (zq4 HO2442.out)) k_ hk_), (Kd.fresh' (Kd.R_lt (zq4 HO2452.out)) k_ hk_), (Kd.fresh' (Kd.R_lt (zq4 HO2456.out)) k_ hk_), (Kd.freshB (g := gb2429) (o := .cells #[.bool a0_0, .slice A0_1 l0_1.length c0_1, .slice A0_2 l0_2.length c0_2] 24 (0, 0)) (zq2 BK2429.out) k_ hk_), (Kd.freshB (g := gb2438) (o := .cells #[.bool t2431, .slice Ao21 t2432.length co21, .slice Ao22 t2435.length co22] 41 (0, 0)) (zq2 BK2438.out) k_ hk_), (Kd.freshB (g := gb2453) (o := .cells #[.bool t2446, .slice Ao34 t2447.length co34, .slice Ao35 t2450.length co35] 41 (0, 0)) (zq2 BK2453.out) k_ hk_)⟩)) (below_size (zb3 GE2429.out GE2438.out GE2453.out))) (bb BK2429.out hb) (bb BK2438.out hb) (bb BK2453.out hb) (below_step (zb3 GE2429.out GE2438.out GE2453.out) hb) ?_; clear HO2434 HO2437 HO2442 HO2445 HO2449 HO2452 HO2456 BK2429 BK2438 BK2453 HB; intro HO2434 HO2437 HO2442 HO2445 HO2449 HO2452 HO2456 HO2459 BK2429 BK2438 BK2453 HB) | ((with_reducible refine gate_dst (N := 25) rfl ?_); refine Kd.R_lit (Kd.int .i64) _ 3 ?hg (N := 25) ?hd (xs := ([1] : List Int)) (inner := [.int .i64 1]) (ok := fun _ => True) (okp := fun _ => True) ?hr ?hp (fun _ hk => hk) trivial (Below.refl _ _) (Nat.le_refl _) (by simp) ?_; (case hd => rfl); (case hg => rfl); (case hr => exact zr); (case hp => exact (Reps.one (show Kd.M (Kd.int .i64) _ _ _ 1 [.int .i64 1] from rfl) (Reps.none _ _))); intro v2461 w40 ho41 hb hg_ hnew_; clear hg_ hnew_; (first | rw [← Ny2460.out] at ho41 | (simp only [Int.reduceToNat] at ho41; rw [← Ny2460.out] at ho41)); refine zt13 (Kd.V_elder' (zq3 HO2434.out) (Kd.R_base ho41) hb) (Kd.V_elder' (zq3 HO2437.out) (Kd.R_base ho41) hb) (Kd.R_elder' (zq4 HO2442.out) (Kd.R_base ho41) hb) (Kd.V_elder' (zq3 HO2445.out) (Kd.R_base ho41) hb) (Kd.V_elder' (zq3 HO2449.out) (Kd.R_base ho41) hb) (Kd.R_elder' (zq4 HO2452.out) (Kd.R_base ho41) hb) (Kd.R_elder' (zq4 HO2456.out) (Kd.R_base ho41) hb) (Kd.V_elder' (zq3 HO2459.out) (Kd.R_base ho41) hb) (Kd.R_lower (Kd.R_new' (Kd.R_new' (Kd.R_new' ho41 (Kd.R_lt (zq4 HO2442.out))) (Kd.R_lt (zq4 HO2452.out))) (Kd.R_lt (zq4 HO2456.out))) (below_size (zb3 GE2429.out GE2438.out GE2453.out))) (bb BK2429.out hb) (bb BK2438.out hb) (bb BK2453.out hb) (below_step (zb3 GE2429.out GE2438.out GE2453.out) hb) ?_; clear HO2434 HO2437 HO2442 HO2445 HO2449 HO2452 HO2456 HO2459 BK2429 BK2438 BK2453 HB; intro HO2434 HO2437 HO2442 HO2445 HO2449 HO2452 HO2456 HO2459 HO2462 BK2429 BK2438 BK2453 HB; clear hb ho41; obtain ⟨Ao42, co42, eo42⟩ := Kd.V_slice HO2459.out; subst eo42; obtain ⟨Ao43, co43, eo43⟩ := Kd.R_slice HO2462.out; subst eo43) | ((with_reducible refine gate_callee (f := 83) rfl ?_); refine goesL_ (some 26) rfl rfl Tryd.func83 (by kernel_rfl) rfl #[.slice Ao42 t2457.length co42, .slice Ao43 y2460.length co43] rfl zq5 ?_; (with_reducible refine (rf_SubNat.calls k _ _ t2457 _ _ y2460 t2463 _ ?side1 ?side2 ?side3 ?side4 A10.out).mono ?_); (case side1 => exact zc ((Kd.V_reads' HO2459.out).2.2)); (case side2 => exact (Kd.V_reads' HO2459.out).2.1); (case side3 => exact zc ((Kd.R_reads' HO2462.out).2.2)); (case side4 => exact (Kd.R_reads' HO2462.out).2.1); rintro e w44 ⟨v2464, rfl, ho0, hb⟩; refine ⟨_, rfl, ?_⟩; refine zt14 (vb HO2434 hb) (vb HO2437 hb) (rb HO2442 hb) (vb HO2445 hb) (vb HO2449 hb) (rb HO2452 hb) (rb HO2456 hb) (vb HO2459 hb) (rb HO2462 hb) (Kd.V_lower (Kd.V_mono (ok' := fun k_ => some k_ ≠ (.slice Ao26 y2440.length co26 : Value).ownBlock ∧ some k_ ≠ (.slice Ao35 t2450.length co35 : Value).ownBlock ∧ some k_ ≠ (.slice Ao38 y2454.length co38 : Value).ownBlock ∧ some k_ ≠ (.slice Ao43 y2460.length co43 : Value).ownBlock ∧ k_ ≠ gb2429 ∧ k_ ≠ gb2438 ∧ k_ ≠ gb2453) ho0 (fun k_ hk_ => ⟨(Kd.fresh' (Kd.R_lt (zq4 HO2442.out)) k_ hk_), (Kd.fresh' (Kd.R_lt (zq4 HO2452.out)) k_ hk_), (Kd.fresh' (Kd.R_lt (zq4 HO2456.out)) k_ hk_), (Kd.fresh' (Kd.R_lt (zq4 HO2462.out)) k_ hk_), (Kd.freshB (g := gb2429) (o := .cells #[.bool a0_0, .slice A0_1 l0_1.length c0_1, .slice A0_2 l0_2.length c0_2] 24 (0, 0)) (zq2 BK2429.out) k_ hk_), (Kd.freshB (g := gb2438) (o := .cells #[.bool t2431, .slice Ao21 t2432.length co21, .slice Ao22 t2435.length co22] 41 (0, 0)) (zq2 BK2438.out) k_ hk_), (Kd.freshB (g := gb2453) (o := .cells #[.bool t2446, .slice Ao34 t2447.length co34, .slice Ao35 t2450.length co35] 41 (0, 0)) (zq2 BK2453.out) k_ hk_)⟩)) (below_size (zb3 GE2429.out GE2438.out GE2453.out))) (bb BK2429.out hb) (bb BK2438.out hb) (bb BK2453.out hb) (below_step (zb3 GE2429.out GE2438.out GE2453.out) hb) ?_; clear HO2434 HO2437 HO2442 HO2445 HO2449 HO2452 HO2456 HO2459 HO2462 BK2429 BK2438 BK2453 HB; intro HO2434 HO2437 HO2442 HO2445 HO2449 HO2452 HO2456 HO2459 HO2462 HO2465 BK2429 BK2438 BK2453 HB; obtain ⟨Ao45, co45, eo45⟩ := Kd.V_slice HO2465.out; subst eo45) | ((with_reducible refine gate_callee (f := 71) rfl ?_); refine goesL_ (some 27) rfl rfl Tryd.func71 (by kernel_rfl) rfl #[.bool false, .slice Ao45 t2463.length co45] rfl zq5 ?_; (with_reducible refine (rf_Whole.calls false (fun k_ => (some k_ ≠ (.slice Ao26 y2440.length co26 : Value).ownBlock ∧ (some k_ ≠ (.slice Ao35 t2450.length co35 : Value).ownBlock ∧ (some k_ ≠ (.slice Ao38 y2454.length co38 : Value).ownBlock ∧ (some k_ ≠ (.slice Ao43 y2460.length co43 : Value).ownBlock ∧ (k_ ≠ gb2429 ∧ (k_ ≠ gb2438 ∧ k_ ≠ gb2453))))))) _ _ t2463 t2466 t2467 t2470 _ ?side1 A11.out).mono ?_); (case side1 => exact HO2465.out); rintro e w46 ⟨v2468, v2471, rfl, ho0, ho1, hb⟩; refine ⟨_, rfl, ?_⟩; refine zt16 (Kd.V_elder' (zq3 HO2434.out) (Kd.R_base ho1) hb) (Kd.V_elder' (zq3 HO2437.out) (Kd.R_base ho1) hb) (Kd.R_elder' (zq4 HO2442.out) (Kd.R_base ho1) hb) (Kd.V_elder' (zq3 HO2445.out) (Kd.R_base ho1) hb) (Kd.V_elder' (zq3 HO2449.out) (Kd.R_base ho1) hb) (Kd.R_elder' (zq4 HO2452.out) (Kd.R_base ho1) hb) (Kd.R_elder' (zq4 HO2456.out) (Kd.R_base ho1) hb) (Kd.V_elder' (zq3 HO2459.out) (Kd.R_base ho1) hb) (Kd.R_elder' (zq4 HO2462.out) (Kd.R_base ho1) hb) (Kd.V_elder' (zq3 HO2465.out) (Kd.R_base ho1) hb) (Kd.V_lower (Kd.V_mono (ok' := fun k_ => some k_ ≠ (v2471 : Value).ownBlock ∧ some k_ ≠ (.slice Ao26 y2440.length co26 : Value).ownBlock ∧ some k_ ≠ (.slice Ao35 t2450.length co35 : Value).ownBlock ∧ some k_ ≠ (.slice Ao38 y2454.length co38 : Value).ownBlock ∧ some k_ ≠ (.slice Ao43 y2460.length co43 : Value).ownBlock ∧ k_ ≠ gb2429 ∧ k_ ≠ gb2438 ∧ k_ ≠ gb2453) ho0 (fun k_ hk_ => ⟨hk_.2, Or.elim hk_.1 (fun hs_ => hs_.1) (fun hn_ => (Kd.fresh' (Kd.R_lt (zq4 HO2442.out)) k_ hn_)), Or.elim hk_.1 (fun hs_ => hs_.2.1) (fun hn_ => (Kd.fresh' (Kd.R_lt (zq4 HO2452.out)) k_ hn_)), Or.elim hk_.1 (fun hs_ => hs_.2.2.1) (fun hn_ => (Kd.fresh' (Kd.R_lt (zq4 HO2456.out)) k_ hn_)), Or.elim hk_.1 (fun hs_ => hs_.2.2.2.1) (fun hn_ => (Kd.fresh' (Kd.R_lt (zq4 HO2462.out)) k_ hn_)), Or.elim hk_.1 (fun hs_ => hs_.2.2.2.2.1) (fun hn_ => (Kd.freshB (g := gb2429) (o := .cells #[.bool a0_0, .slice A0_1 l0_1.length c0_1, .slice A0_2 l0_2.length c0_2] 24 (0, 0)) (zq2 BK2429.out) k_ hn_)), Or.elim hk_.1 (fun hs_ => hs_.2.2.2.2.2.1) (fun hn_ => (Kd.freshB (g := gb2438) (o := .cells #[.bool t2431, .slice Ao21 t2432.length co21, .slice Ao22 t2435.length co22] 41 (0, 0)) (zq2 BK2438.out) k_ hn_)), Or.elim hk_.1 (fun hs_ => hs_.2.2.2.2.2.2) (fun hn_ => (Kd.freshB (g := gb2453) (o := .cells #[.bool t2446, .slice Ao34 t2447.length co34, .slice Ao35 t2450.length co35] 41 (0, 0)) (zq2 BK2453.out) k_ hn_))⟩)) (below_size (zb3 GE2429.out GE2438.out GE2453.out))) (Kd.R_lower (Kd.R_new' (Kd.R_new' (Kd.R_new' (Kd.R_new' (Kd.R_mono (ok' := fun k_ => True) ho1 (fun _ hk_ => trivial)) (Kd.R_lt (zq4 HO2442.out))) (Kd.R_lt (zq4 HO2452.out))) (Kd.R_lt (zq4 HO2456.out))) (Kd.R_lt (zq4 HO2462.out))) (below_size (zb3 GE2429.out GE2438.out GE2453.out))) (bb BK2429.out hb) (bb BK2438.out hb) (bb BK2453.out hb) (below_step (zb3 GE2429.out GE2438.out GE2453.out) hb) ?_; clear HO2434 HO2437 HO2442 HO2445 HO2449 HO2452 HO2456 HO2459 HO2462 HO2465 BK2429 BK2438 BK2453 HB; intro HO2434 HO2437 HO2442 HO2445 HO2449 HO2452 HO2456 HO2459 HO2462 HO2465 HO2469 HO2472 BK2429 BK2438 BK2453 HB; (try clear ho1)) | ((with_reducible refine gate_dst (N := 7) rfl ?_); refine zbox (N := 7) (cs := #[.bool false, .slice none 0 0, .slice none 0 0]) (t := 41) ?_; intro gb2473 hg w47 hbox hb; refine zt24 (ve HO2434 hg hb) (ve HO2437 hg hb) (rb HO2442 hb) (ve HO2445 hg hb) (ve HO2449 hg hb) (rb HO2452 hb) (rb HO2456 hb) (ve HO2459 hg hb) (rb HO2462 hb) (ve HO2465 hg hb) (ve HO2469 hg hb) (rb HO2472 hb) (bb BK2429.out hb) (bb BK2438.out hb) (bb BK2453.out hb) (below_step (zb3 GE2429.out GE2438.out GE2453.out) hb) (hbox) ((zs hg (below_size (zb3 GE2429.out GE2438.out GE2453.out)) : w.heap.size ≤ gb2473)) ((by rw [hg]; exact Nat.ne_of_lt (bl BK2429.out) : gb2429 ≠ gb2473)) ((by rw [hg]; exact Nat.ne_of_gt (bl BK2429.out) : gb2473 ≠ gb2429)) ((by rw [hg]; exact Nat.ne_of_lt (bl BK2438.out) : gb2438 ≠ gb2473)) ((by rw [hg]; exact Nat.ne_of_gt (bl BK2438.out) : gb2473 ≠ gb2438)) ((by rw [hg]; exact Nat.ne_of_lt (bl BK2453.out) : gb2453 ≠ gb2473)) ((by rw [hg]; exact Nat.ne_of_gt (bl BK2453.out) : gb2473 ≠ gb2453)) ?_; clear HO2434 HO2437 HO2442 HO2445 HO2449 HO2452 HO2456 HO2459 HO2462 HO2465 HO2469 HO2472 BK2429 BK2438 BK2453 HB; intro HO2434 HO2437 HO2442 HO2445 HO2449 HO2452 HO2456 HO2459 HO2462 HO2465 HO2469 HO2472 BK2429 BK2438 BK2453 HB BK2473 GW2473 NB2429_2473 NB2473_2429 NB2438_2473 NB2473_2438 NB2453_2473 NB2473_2453; have GE2473 := GW2473; clear hb hbox hg; have hnb48 := NB2473_2429.out; have hnc48 := NB2429_2473.out; have hnb49 := NB2473_2438.out; have hnc49 := NB2438_2473.out; have hnb50 := NB2473_2453.out; have hnc50 := NB2453_2473.out; have hcz51_0 := bc BK2473.out 0 (.bool false); have hcz51_1 := bc BK2473.out 1 (.slice none 0 0); have hcz51_2 := bc BK2473.out 2 (.slice none 0 0); have hfz51_0 := blk_frozen BK2473.out 0; have hfz51_1 := blk_frozen BK2473.out 1; have hfz51_2 := blk_frozen BK2473.out 2; obtain ⟨Ao52, co52, eo52⟩ := Kd.V_slice HO2469.out; subst eo52; obtain ⟨Ao53, co53, eo53⟩ := Kd.R_slice HO2472.out; subst eo53))
   (try simp only [Act.put, List.setIfInBounds_toArray, List.set_cons_zero, List.set_cons_succ])
   go_cut [37] (fun v37 wc => ∃ (kq : Nat) (x37_11 : Bool), v37 = .bool x37_11 ∧ Aside0 (rf_ToInt.j0 kq x37_11 t2431 t2432 t2435 = some (r1, r2)) ∧ Aside0 (kq ≤ k) ∧ Aside0 (Kd.V (Kd.int .i64) 3 wc w.heap.size (fun k_ => some k_ ≠ ((.slice Ao35 t2450.length co35) : Value).ownBlock ∧ some k_ ≠ ((.slice Ao53 t2470.length co53) : Value).ownBlock ∧ k_ ≠ gb2429 ∧ k_ ≠ gb2438 ∧ k_ ≠ gb2453 ∧ k_ ≠ gb2473) (.slice Ao21 t2432.length co21) t2432) ∧ Aside0 (Kd.V (Kd.int .i64) 3 wc w.heap.size (fun k_ => some k_ ≠ ((.slice Ao35 t2450.length co35) : Value).ownBlock ∧ some k_ ≠ ((.slice Ao53 t2470.length co53) : Value).ownBlock ∧ k_ ≠ gb2429 ∧ k_ ≠ gb2438 ∧ k_ ≠ gb2453 ∧ k_ ≠ gb2473) (.slice Ao22 t2435.length co22) t2435) ∧ Aside0 (Kd.V (Kd.int .i64) 3 wc w.heap.size (fun k_ => some k_ ≠ ((.slice Ao35 t2450.length co35) : Value).ownBlock ∧ some k_ ≠ ((.slice Ao53 t2470.length co53) : Value).ownBlock ∧ k_ ≠ gb2429 ∧ k_ ≠ gb2438 ∧ k_ ≠ gb2453 ∧ k_ ≠ gb2473) (.slice Ao34 t2447.length co34) t2447) ∧ Aside0 (Kd.R (Kd.int .i64) 3 wc w.heap.size (fun k_ => some k_ ≠ ((.slice Ao53 t2470.length co53) : Value).ownBlock) (.slice Ao35 t2450.length co35) t2450) ∧ Aside0 (Kd.V (Kd.int .i64) 3 wc w.heap.size (fun k_ => some k_ ≠ ((.slice Ao35 t2450.length co35) : Value).ownBlock ∧ some k_ ≠ ((.slice Ao53 t2470.length co53) : Value).ownBlock ∧ k_ ≠ gb2429 ∧ k_ ≠ gb2438 ∧ k_ ≠ gb2453 ∧ k_ ≠ gb2473) (.slice Ao52 t2467.length co52) t2467) ∧ Aside0 (Kd.R (Kd.int .i64) 3 wc w.heap.size (fun k_ => some k_ ≠ ((.slice Ao35 t2450.length co35) : Value).ownBlock) (.slice Ao53 t2470.length co53) t2470) ∧ Aside0 (wc.heap[gb2429]? = some (.cells #[.bool a0_0, (.slice A0_1 l0_1.length c0_1), (.slice A0_2 l0_2.length c0_2)] 24 (0, 0))) ∧ Aside0 (wc.heap[gb2438]? = some (.cells #[.bool t2431, (.slice Ao21 t2432.length co21), (.slice Ao22 t2435.length co22)] 41 (0, 0))) ∧ Aside0 (wc.heap[gb2453]? = some (.cells #[.bool t2446, (.slice Ao34 t2447.length co34), (.slice Ao35 t2450.length co35)] 41 (0, 0))) ∧ Aside0 (wc.heap[gb2473]? = some (.cells #[.bool t2466, (.slice Ao52 t2467.length co52), (.slice Ao53 t2470.length co53)] 41 (0, 0))) ∧ Aside0 (Below w.heap.size w wc))
   case first =>
    have H := HC12.out
    clear HC12
    replace H := zj H
    obtain ⟨t2474, A54, H⟩ := H
    replace H : (if t2474 < 0 then (rf_ToInt.j0 k true t2431 t2432 t2435) else ((rf_Cmp.f k t2431 t2432 t2435 t2466 t2467 t2470).bind fun t2475 => (rf_ToInt.j0 k (decide (t2475 > 0)) t2431 t2432 t2435))) = some (r1, r2) := H
    by_cases c55 : t2474 < 0
    ·rw [if_pos c55] at H
     have c55b0 := decide_eq_true c55
     clear c55
     (first | rw [c55b0] | (simp only [i64_w, i32_w]; rw [c55b0]) | skip)
     have H' := am H
     clear H
     have hnb56 := NB2438_2429.out
     have hnc56 := NB2429_2438.out
     have hnb57 := NB2438_2453.out
     have hnc57 := NB2453_2438.out
     have hnb58 := NB2438_2473.out
     have hnc58 := NB2473_2438.out
     have hcz59_0 := bc BK2438.out 0 (.bool t2431)
     have hcz59_1 := bc BK2438.out 1 (.slice Ao21 t2432.length co21)
     have hcz59_2 := bc BK2438.out 2 (.slice Ao22 t2435.length co22)
     have hfz59_0 := blk_frozen BK2438.out 0
     have hfz59_1 := blk_frozen BK2438.out 1
     have hfz59_2 := blk_frozen BK2438.out 2
     have hnb60 := NB2453_2429.out
     have hnc60 := NB2429_2453.out
     have hnb61 := NB2453_2473.out
     have hnc61 := NB2473_2453.out
     have hcz62_0 := bc BK2453.out 0 (.bool t2446)
     have hcz62_1 := bc BK2453.out 1 (.slice Ao34 t2447.length co34)
     have hcz62_2 := bc BK2453.out 2 (.slice Ao35 t2450.length co35)
     have hfz62_0 := blk_frozen BK2453.out 0
     have hfz62_1 := blk_frozen BK2453.out 1
     have hfz62_2 := blk_frozen BK2453.out 2
     go_wp2_with (first | ((with_reducible refine gate_callee (f := 23) rfl ?_); refine goesL_ (some 30) rfl rfl Tryd.func23 (by kernel_rfl) rfl #[.agg #[.bool t2431, .slice Ao21 t2432.length co21, .slice Ao22 t2435.length co22], .agg #[.bool t2446, .slice Ao34 t2447.length co34, .slice Ao35 t2450.length co35]] rfl zq5 ?_; (with_reducible refine (rf_Cmp.calls k t2431 _ _ t2432 _ _ t2435 t2446 _ _ t2447 _ _ t2450 t2474 _ ?side1 ?side2 ?side3 ?side4 ?side5 ?side6 ?side7 ?side8 A54.out).mono ?_); (case side1 => refine (Kd.V_reads' (e := 3) (base := w.heap.size) (ok := fun k_ => ((((((((k_ ≠ gb2429 ∧ k_ ≠ gb2438) ∧ some k_ ≠ (.slice Ao26 y2440.length co26 : Value).ownBlock) ∧ some k_ ≠ (.slice Ao35 t2450.length co35 : Value).ownBlock) ∧ k_ ≠ gb2453) ∧ some k_ ≠ (.slice Ao38 y2454.length co38 : Value).ownBlock) ∧ some k_ ≠ (.slice Ao43 y2460.length co43 : Value).ownBlock) ∧ some k_ ≠ (.slice Ao53 t2470.length co53 : Value).ownBlock) ∧ k_ ≠ gb2473)) (n := t2432.length) (c := co21) ?_).2.2; exact (by (with_reducible repeat (first | apply Kd.V_alloc | apply Kd.V_drewN | apply Kd.V_drew)); exact (Kd.V_mono (zv3 gb2473 (.bool t2466) (.slice Ao52 t2467.length co52) (.slice Ao53 t2470.length co53) HO2434.out (fun _ hk => hk.2)) (fun _ h_ => h_.1)))); (case side2 => exact (Kd.V_reads' HO2434.out).2.1); (case side3 => refine (Kd.V_reads' (e := 3) (base := w.heap.size) (ok := fun k_ => ((((((((k_ ≠ gb2429 ∧ k_ ≠ gb2438) ∧ some k_ ≠ (.slice Ao26 y2440.length co26 : Value).ownBlock) ∧ some k_ ≠ (.slice Ao35 t2450.length co35 : Value).ownBlock) ∧ k_ ≠ gb2453) ∧ some k_ ≠ (.slice Ao38 y2454.length co38 : Value).ownBlock) ∧ some k_ ≠ (.slice Ao43 y2460.length co43 : Value).ownBlock) ∧ some k_ ≠ (.slice Ao53 t2470.length co53 : Value).ownBlock) ∧ k_ ≠ gb2473)) (n := t2435.length) (c := co22) ?_).2.2; exact (by (with_reducible repeat (first | apply Kd.V_alloc | apply Kd.V_drewN | apply Kd.V_drew)); exact (Kd.V_mono (zv3 gb2473 (.bool t2466) (.slice Ao52 t2467.length co52) (.slice Ao53 t2470.length co53) HO2437.out (fun _ hk => hk.2)) (fun _ h_ => h_.1)))); (case side4 => exact (Kd.V_reads' HO2437.out).2.1); (case side5 => refine (Kd.V_reads' (e := 3) (base := w.heap.size) (ok := fun k_ => ((((((some k_ ≠ (.slice Ao35 t2450.length co35 : Value).ownBlock ∧ (some k_ ≠ (.slice Ao26 y2440.length co26 : Value).ownBlock ∧ (k_ ≠ gb2429 ∧ k_ ≠ gb2438))) ∧ k_ ≠ gb2453) ∧ some k_ ≠ (.slice Ao38 y2454.length co38 : Value).ownBlock) ∧ some k_ ≠ (.slice Ao43 y2460.length co43 : Value).ownBlock) ∧ some k_ ≠ (.slice Ao53 t2470.length co53 : Value).ownBlock) ∧ k_ ≠ gb2473)) (n := t2447.length) (c := co34) ?_).2.2; exact (by (with_reducible repeat (first | apply Kd.V_alloc | apply Kd.V_drewN | apply Kd.V_drew)); exact (Kd.V_mono (zv3 gb2473 (.bool t2466) (.slice Ao52 t2467.length co52) (.slice Ao53 t2470.length co53) HO2449.out (fun _ hk => hk.2)) (fun _ h_ => h_.1)))); (case side6 => exact (Kd.V_reads' HO2449.out).2.1); (case side7 => refine (Kd.R_reads' (e := 3) (base := w.heap.size) (ok := fun k_ => ((((True ∧ some k_ ≠ (.slice Ao26 y2440.length co26 : Value).ownBlock) ∧ some k_ ≠ (.slice Ao38 y2454.length co38 : Value).ownBlock) ∧ some k_ ≠ (.slice Ao43 y2460.length co43 : Value).ownBlock) ∧ some k_ ≠ (.slice Ao53 t2470.length co53 : Value).ownBlock)) (n := t2450.length) (c := co35) ?_).2.2; exact (by (with_reducible repeat (first | apply Kd.R_alloc | apply Kd.R_drewN | apply Kd.R_drew)); exact (Kd.R_mono (Kd.R_far (p := ⟨gb2473, 2, none⟩) (Kd.R_far (p := ⟨gb2473, 1, none⟩) (Kd.R_far (p := ⟨gb2473, 0, none⟩) (Kd.R_types HO2452.out BK2473.out (by decide)) (fun _ hk => hk.2) (.bool t2466)) (fun _ hk => hk.2) (.slice Ao52 t2467.length co52)) (fun _ hk => hk.2) (.slice Ao53 t2470.length co53)) (fun _ h_ => h_.1)))); (case side8 => exact (Kd.R_reads' HO2452.out).2.1); rintro e w63 ⟨rfl, hb⟩; refine ⟨_, rfl, ?_⟩; refine zt17 (Kd.V_below (by (with_reducible repeat (first | apply Kd.V_alloc | apply Kd.V_drewN | apply Kd.V_drew)); exact (Kd.V_mono (zv3 gb2473 (.bool t2466) (.slice Ao52 t2467.length co52) (.slice Ao53 t2470.length co53) HO2434.out (fun _ hk => hk.2)) (fun _ h_ => h_.1))) hb) (Kd.V_below (by (with_reducible repeat (first | apply Kd.V_alloc | apply Kd.V_drewN | apply Kd.V_drew)); exact (Kd.V_mono (zv3 gb2473 (.bool t2466) (.slice Ao52 t2467.length co52) (.slice Ao53 t2470.length co53) HO2437.out (fun _ hk => hk.2)) (fun _ h_ => h_.1))) hb) (Kd.R_below (by (with_reducible repeat (first | apply Kd.R_alloc | apply Kd.R_drewN | apply Kd.R_drew)); exact (Kd.R_mono (Kd.R_far (p := ⟨gb2473, 2, none⟩) (Kd.R_far (p := ⟨gb2473, 1, none⟩) (Kd.R_far (p := ⟨gb2473, 0, none⟩) (Kd.R_types HO2442.out BK2473.out (by decide)) (fun _ hk => hk.2) (.bool t2466)) (fun _ hk => hk.2) (.slice Ao52 t2467.length co52)) (fun _ hk => hk.2) (.slice Ao53 t2470.length co53)) (fun _ h_ => h_.1))) hb) (Kd.V_below (by (with_reducible repeat (first | apply Kd.V_alloc | apply Kd.V_drewN | apply Kd.V_drew)); exact (Kd.V_mono (zv3 gb2473 (.bool t2466) (.slice Ao52 t2467.length co52) (.slice Ao53 t2470.length co53) HO2445.out (fun _ hk => hk.2)) (fun _ h_ => h_.1))) hb) (Kd.V_below (by (with_reducible repeat (first | apply Kd.V_alloc | apply Kd.V_drewN | apply Kd.V_drew)); exact (Kd.V_mono (zv3 gb2473 (.bool t2466) (.slice Ao52 t2467.length co52) (.slice Ao53 t2470.length co53) HO2449.out (fun _ hk => hk.2)) (fun _ h_ => h_.1))) hb) (Kd.R_below (by (with_reducible repeat (first | apply Kd.R_alloc | apply Kd.R_drewN | apply Kd.R_drew)); exact (Kd.R_mono (Kd.R_far (p := ⟨gb2473, 2, none⟩) (Kd.R_far (p := ⟨gb2473, 1, none⟩) (Kd.R_far (p := ⟨gb2473, 0, none⟩) (Kd.R_types HO2452.out BK2473.out (by decide)) (fun _ hk => hk.2) (.bool t2466)) (fun _ hk => hk.2) (.slice Ao52 t2467.length co52)) (fun _ hk => hk.2) (.slice Ao53 t2470.length co53)) (fun _ h_ => h_.1))) hb) (Kd.R_below (by (with_reducible repeat (first | apply Kd.R_alloc | apply Kd.R_drewN | apply Kd.R_drew)); exact (Kd.R_mono (Kd.R_far (p := ⟨gb2473, 2, none⟩) (Kd.R_far (p := ⟨gb2473, 1, none⟩) (Kd.R_far (p := ⟨gb2473, 0, none⟩) (Kd.R_types HO2456.out BK2473.out (by decide)) (fun _ hk => hk.2) (.bool t2466)) (fun _ hk => hk.2) (.slice Ao52 t2467.length co52)) (fun _ hk => hk.2) (.slice Ao53 t2470.length co53)) (fun _ h_ => h_.1))) hb) (Kd.V_below (by (with_reducible repeat (first | apply Kd.V_alloc | apply Kd.V_drewN | apply Kd.V_drew)); exact (Kd.V_mono (zv3 gb2473 (.bool t2466) (.slice Ao52 t2467.length co52) (.slice Ao53 t2470.length co53) HO2459.out (fun _ hk => hk.2)) (fun _ h_ => h_.1))) hb) (Kd.R_below (by (with_reducible repeat (first | apply Kd.R_alloc | apply Kd.R_drewN | apply Kd.R_drew)); exact (Kd.R_mono (Kd.R_far (p := ⟨gb2473, 2, none⟩) (Kd.R_far (p := ⟨gb2473, 1, none⟩) (Kd.R_far (p := ⟨gb2473, 0, none⟩) (Kd.R_types HO2462.out BK2473.out (by decide)) (fun _ hk => hk.2) (.bool t2466)) (fun _ hk => hk.2) (.slice Ao52 t2467.length co52)) (fun _ hk => hk.2) (.slice Ao53 t2470.length co53)) (fun _ h_ => h_.1))) hb) (Kd.V_below (by (with_reducible repeat (first | apply Kd.V_alloc | apply Kd.V_drewN | apply Kd.V_drew)); exact (Kd.V_mono (zv3 gb2473 (.bool t2466) (.slice Ao52 t2467.length co52) (.slice Ao53 t2470.length co53) HO2465.out (fun _ hk => hk.2)) (fun _ h_ => h_.1))) hb) (Kd.V_below (by (with_reducible repeat (first | apply Kd.V_alloc | apply Kd.V_drewN | apply Kd.V_drew)); exact (Kd.V_mono (zv3 gb2473 (.bool t2466) (.slice Ao52 t2467.length co52) (.slice Ao53 t2470.length co53) HO2469.out (fun _ hk => hk.2)) (fun _ h_ => h_.1))) hb) (Kd.R_below (by (with_reducible repeat (first | apply Kd.R_alloc | apply Kd.R_drewN | apply Kd.R_drew)); exact (Kd.R_mono (Kd.R_far (p := ⟨gb2473, 2, none⟩) (Kd.R_far (p := ⟨gb2473, 1, none⟩) (Kd.R_far (p := ⟨gb2473, 0, none⟩) (Kd.R_types HO2472.out BK2473.out (by decide)) (fun _ hk => hk.2) (.bool t2466)) (fun _ hk => hk.2) (.slice Ao52 t2467.length co52)) (fun _ hk => hk.2) (.slice Ao53 t2470.length co53)) (fun _ h_ => h_.1))) hb) (blk_below (g := gb2429) (o := .cells #[.bool a0_0, .slice A0_1 l0_1.length c0_1, .slice A0_2 l0_2.length c0_2] 24 (0, 0)) (by (with_reducible repeat (first | refine blk_drewN ?_ _ | refine blk_drew ?_ | refine blk_alloc ?_ _)); refine blk_far ?_ NB2429_2473.out _; (with_reducible repeat (first | refine blk_drewN ?_ _ | refine blk_drew ?_ | refine blk_alloc ?_ _)); refine blk_far ?_ NB2429_2473.out _; (with_reducible repeat (first | refine blk_drewN ?_ _ | refine blk_drew ?_ | refine blk_alloc ?_ _)); refine blk_far ?_ NB2429_2473.out _; (with_reducible repeat (first | refine blk_drewN ?_ _ | refine blk_drew ?_ | refine blk_alloc ?_ _)); exact BK2429.out) hb) (blk_below (g := gb2438) (o := .cells #[.bool t2431, .slice Ao21 t2432.length co21, .slice Ao22 t2435.length co22] 41 (0, 0)) (by (with_reducible repeat (first | refine blk_drewN ?_ _ | refine blk_drew ?_ | refine blk_alloc ?_ _)); refine blk_far ?_ NB2438_2473.out _; (with_reducible repeat (first | refine blk_drewN ?_ _ | refine blk_drew ?_ | refine blk_alloc ?_ _)); refine blk_far ?_ NB2438_2473.out _; (with_reducible repeat (first | refine blk_drewN ?_ _ | refine blk_drew ?_ | refine blk_alloc ?_ _)); refine blk_far ?_ NB2438_2473.out _; (with_reducible repeat (first | refine blk_drewN ?_ _ | refine blk_drew ?_ | refine blk_alloc ?_ _)); exact BK2438.out) hb) (blk_below (g := gb2453) (o := .cells #[.bool t2446, .slice Ao34 t2447.length co34, .slice Ao35 t2450.length co35] 41 (0, 0)) (by (with_reducible repeat (first | refine blk_drewN ?_ _ | refine blk_drew ?_ | refine blk_alloc ?_ _)); refine blk_far ?_ NB2453_2473.out _; (with_reducible repeat (first | refine blk_drewN ?_ _ | refine blk_drew ?_ | refine blk_alloc ?_ _)); refine blk_far ?_ NB2453_2473.out _; (with_reducible repeat (first | refine blk_drewN ?_ _ | refine blk_drew ?_ | refine blk_alloc ?_ _)); refine blk_far ?_ NB2453_2473.out _; (with_reducible repeat (first | refine blk_drewN ?_ _ | refine blk_drew ?_ | refine blk_alloc ?_ _)); exact BK2453.out) hb) (blk_below (g := gb2473) (o := .cells #[.bool t2466, .slice Ao52 t2467.length co52, .slice Ao53 t2470.length co53] 41 (0, 0)) (by (with_reducible repeat (first | refine blk_drewN ?_ _ | refine blk_drew ?_ | refine blk_alloc ?_ _)); refine blk_put (cs := #[.bool t2466, .slice Ao52 t2467.length co52, .slice none 0 0]) ?_ 2 _ rfl; (with_reducible repeat (first | refine blk_drewN ?_ _ | refine blk_drew ?_ | refine blk_alloc ?_ _)); refine blk_put (cs := #[.bool t2466, .slice none 0 0, .slice none 0 0]) ?_ 1 _ rfl; (with_reducible repeat (first | refine blk_drewN ?_ _ | refine blk_drew ?_ | refine blk_alloc ?_ _)); refine blk_put (cs := #[.bool false, .slice none 0 0, .slice none 0 0]) ?_ 0 _ rfl; (with_reducible repeat (first | refine blk_drewN ?_ _ | refine blk_drew ?_ | refine blk_alloc ?_ _)); exact BK2473.out) hb) (below_step (by repeat (first | (with_reducible first | exact HB.out | apply below_alloc | apply pw_below_drewN | apply below_drew1 | refine below_set ?_ GE2429.out | refine below_set ?_ GE2438.out | refine below_set ?_ GE2453.out | refine below_set ?_ GE2473.out) | exact HB.out)) hb) ?_; clear HO2434 HO2437 HO2442 HO2445 HO2449 HO2452 HO2456 HO2459 HO2462 HO2465 HO2469 HO2472 BK2429 BK2438 BK2453 BK2473 HB; intro HO2434 HO2437 HO2442 HO2445 HO2449 HO2452 HO2456 HO2459 HO2462 HO2465 HO2469 HO2472 BK2429 BK2438 BK2453 BK2473 HB; (try clear hb); (try clear hb2); (try clear hk); (try clear hi)))
     go_meet
     case rel => exact ⟨_, (true), zq8, H', ⟨by first | omega | exact Nat.le_refl _⟩, ⟨zwV (h := by exact Kd.V_mono HO2434.out (fun _ hk => ⟨hk.1.1.1.1.1.2, ⟨hk.1.2, ⟨hk.1.1.1.1.1.1.1.1, ⟨hk.1.1.1.1.1.1.1.2, ⟨hk.1.1.1.1.2, hk.2⟩⟩⟩⟩⟩))⟩, ⟨zwV (h := by exact Kd.V_mono HO2437.out (fun _ hk => ⟨hk.1.1.1.1.1.2, ⟨hk.1.2, ⟨hk.1.1.1.1.1.1.1.1, ⟨hk.1.1.1.1.1.1.1.2, ⟨hk.1.1.1.1.2, hk.2⟩⟩⟩⟩⟩))⟩, ⟨zwV (h := by exact Kd.V_mono HO2449.out (fun _ hk => ⟨hk.1.1.1.1.1.1, ⟨hk.1.2, ⟨hk.1.1.1.1.1.2.2.1, ⟨hk.1.1.1.1.1.2.2.2, ⟨hk.1.1.1.1.2, hk.2⟩⟩⟩⟩⟩))⟩, ⟨zwR (h := by exact Kd.R_mono HO2452.out (fun _ hk => hk.2))⟩, ⟨zwV (h := by exact Kd.V_mono HO2469.out (fun _ hk => ⟨hk.1.2.2.1, ⟨hk.1.1, ⟨hk.1.2.2.2.2.2.1, ⟨hk.1.2.2.2.2.2.2.1, ⟨hk.1.2.2.2.2.2.2.2, hk.2⟩⟩⟩⟩⟩))⟩, ⟨zwR (h := by exact Kd.R_mono HO2472.out (fun _ hk => hk.1.1.2))⟩, ⟨zq2 BK2429.out⟩, ⟨zq2 BK2438.out⟩, ⟨zq2 BK2453.out⟩, ⟨zq2 BK2473.out⟩, ⟨by repeat (first | (with_reducible first | exact HB.out | apply below_alloc | apply pw_below_drewN | apply below_drew1 | refine below_set ?_ GE2429.out | refine below_set ?_ GE2438.out | refine below_set ?_ GE2453.out | refine below_set ?_ GE2473.out) | exact HB.out)⟩⟩
    ·rw [if_neg c55] at H
     have c55b0 := decide_eq_false c55
     clear c55
     (first | rw [c55b0] | (simp only [i64_w, i32_w]; rw [c55b0]) | skip)
     replace H := zj H
     obtain ⟨t2475, A64, H⟩ := H
     replace H : (rf_ToInt.j0 k (decide (t2475 > 0)) t2431 t2432 t2435) = some (r1, r2) := H
     have H' := am H
     clear H
     have hnb65 := NB2438_2429.out
     have hnc65 := NB2429_2438.out
     have hnb66 := NB2438_2453.out
     have hnc66 := NB2453_2438.out
     have hnb67 := NB2438_2473.out
     have hnc67 := NB2473_2438.out
     have hcz68_0 := bc BK2438.out 0 (.bool t2431)
     have hcz68_1 := bc BK2438.out 1 (.slice Ao21 t2432.length co21)
     have hcz68_2 := bc BK2438.out 2 (.slice Ao22 t2435.length co22)
     have hfz68_0 := blk_frozen BK2438.out 0
     have hfz68_1 := blk_frozen BK2438.out 1
     have hfz68_2 := blk_frozen BK2438.out 2
     have hnb69 := NB2453_2429.out
     have hnc69 := NB2429_2453.out
     have hnb70 := NB2453_2473.out
     have hnc70 := NB2473_2453.out
     have hcz71_0 := bc BK2453.out 0 (.bool t2446)
     have hcz71_1 := bc BK2453.out 1 (.slice Ao34 t2447.length co34)
     have hcz71_2 := bc BK2453.out 2 (.slice Ao35 t2450.length co35)
     have hfz71_0 := blk_frozen BK2453.out 0
     have hfz71_1 := blk_frozen BK2453.out 1
     have hfz71_2 := blk_frozen BK2453.out 2
     go_wp2_with (first | ((with_reducible refine gate_callee (f := 23) rfl ?_); refine goesL_ (some 30) rfl rfl Tryd.func23 (by kernel_rfl) rfl #[.agg #[.bool t2431, .slice Ao21 t2432.length co21, .slice Ao22 t2435.length co22], .agg #[.bool t2446, .slice Ao34 t2447.length co34, .slice Ao35 t2450.length co35]] rfl zq5 ?_; (with_reducible refine (rf_Cmp.calls k t2431 _ _ t2432 _ _ t2435 t2446 _ _ t2447 _ _ t2450 t2474 _ ?side1 ?side2 ?side3 ?side4 ?side5 ?side6 ?side7 ?side8 A54.out).mono ?_); (case side1 => refine (Kd.V_reads' (e := 3) (base := w.heap.size) (ok := fun k_ => ((((((((k_ ≠ gb2429 ∧ k_ ≠ gb2438) ∧ some k_ ≠ (.slice Ao26 y2440.length co26 : Value).ownBlock) ∧ some k_ ≠ (.slice Ao35 t2450.length co35 : Value).ownBlock) ∧ k_ ≠ gb2453) ∧ some k_ ≠ (.slice Ao38 y2454.length co38 : Value).ownBlock) ∧ some k_ ≠ (.slice Ao43 y2460.length co43 : Value).ownBlock) ∧ some k_ ≠ (.slice Ao53 t2470.length co53 : Value).ownBlock) ∧ k_ ≠ gb2473)) (n := t2432.length) (c := co21) ?_).2.2; exact (by (with_reducible repeat (first | apply Kd.V_alloc | apply Kd.V_drewN | apply Kd.V_drew)); exact (Kd.V_mono (zv3 gb2473 (.bool t2466) (.slice Ao52 t2467.length co52) (.slice Ao53 t2470.length co53) HO2434.out (fun _ hk => hk.2)) (fun _ h_ => h_.1)))); (case side2 => exact (Kd.V_reads' HO2434.out).2.1); (case side3 => refine (Kd.V_reads' (e := 3) (base := w.heap.size) (ok := fun k_ => ((((((((k_ ≠ gb2429 ∧ k_ ≠ gb2438) ∧ some k_ ≠ (.slice Ao26 y2440.length co26 : Value).ownBlock) ∧ some k_ ≠ (.slice Ao35 t2450.length co35 : Value).ownBlock) ∧ k_ ≠ gb2453) ∧ some k_ ≠ (.slice Ao38 y2454.length co38 : Value).ownBlock) ∧ some k_ ≠ (.slice Ao43 y2460.length co43 : Value).ownBlock) ∧ some k_ ≠ (.slice Ao53 t2470.length co53 : Value).ownBlock) ∧ k_ ≠ gb2473)) (n := t2435.length) (c := co22) ?_).2.2; exact (by (with_reducible repeat (first | apply Kd.V_alloc | apply Kd.V_drewN | apply Kd.V_drew)); exact (Kd.V_mono (zv3 gb2473 (.bool t2466) (.slice Ao52 t2467.length co52) (.slice Ao53 t2470.length co53) HO2437.out (fun _ hk => hk.2)) (fun _ h_ => h_.1)))); (case side4 => exact (Kd.V_reads' HO2437.out).2.1); (case side5 => refine (Kd.V_reads' (e := 3) (base := w.heap.size) (ok := fun k_ => ((((((some k_ ≠ (.slice Ao35 t2450.length co35 : Value).ownBlock ∧ (some k_ ≠ (.slice Ao26 y2440.length co26 : Value).ownBlock ∧ (k_ ≠ gb2429 ∧ k_ ≠ gb2438))) ∧ k_ ≠ gb2453) ∧ some k_ ≠ (.slice Ao38 y2454.length co38 : Value).ownBlock) ∧ some k_ ≠ (.slice Ao43 y2460.length co43 : Value).ownBlock) ∧ some k_ ≠ (.slice Ao53 t2470.length co53 : Value).ownBlock) ∧ k_ ≠ gb2473)) (n := t2447.length) (c := co34) ?_).2.2; exact (by (with_reducible repeat (first | apply Kd.V_alloc | apply Kd.V_drewN | apply Kd.V_drew)); exact (Kd.V_mono (zv3 gb2473 (.bool t2466) (.slice Ao52 t2467.length co52) (.slice Ao53 t2470.length co53) HO2449.out (fun _ hk => hk.2)) (fun _ h_ => h_.1)))); (case side6 => exact (Kd.V_reads' HO2449.out).2.1); (case side7 => refine (Kd.R_reads' (e := 3) (base := w.heap.size) (ok := fun k_ => ((((True ∧ some k_ ≠ (.slice Ao26 y2440.length co26 : Value).ownBlock) ∧ some k_ ≠ (.slice Ao38 y2454.length co38 : Value).ownBlock) ∧ some k_ ≠ (.slice Ao43 y2460.length co43 : Value).ownBlock) ∧ some k_ ≠ (.slice Ao53 t2470.length co53 : Value).ownBlock)) (n := t2450.length) (c := co35) ?_).2.2; exact (by (with_reducible repeat (first | apply Kd.R_alloc | apply Kd.R_drewN | apply Kd.R_drew)); exact (Kd.R_mono (Kd.R_far (p := ⟨gb2473, 2, none⟩) (Kd.R_far (p := ⟨gb2473, 1, none⟩) (Kd.R_far (p := ⟨gb2473, 0, none⟩) (Kd.R_types HO2452.out BK2473.out (by decide)) (fun _ hk => hk.2) (.bool t2466)) (fun _ hk => hk.2) (.slice Ao52 t2467.length co52)) (fun _ hk => hk.2) (.slice Ao53 t2470.length co53)) (fun _ h_ => h_.1)))); (case side8 => exact (Kd.R_reads' HO2452.out).2.1); rintro e w72 ⟨rfl, hb⟩; refine ⟨_, rfl, ?_⟩; refine zt17 (Kd.V_below (by (with_reducible repeat (first | apply Kd.V_alloc | apply Kd.V_drewN | apply Kd.V_drew)); exact (Kd.V_mono (zv3 gb2473 (.bool t2466) (.slice Ao52 t2467.length co52) (.slice Ao53 t2470.length co53) HO2434.out (fun _ hk => hk.2)) (fun _ h_ => h_.1))) hb) (Kd.V_below (by (with_reducible repeat (first | apply Kd.V_alloc | apply Kd.V_drewN | apply Kd.V_drew)); exact (Kd.V_mono (zv3 gb2473 (.bool t2466) (.slice Ao52 t2467.length co52) (.slice Ao53 t2470.length co53) HO2437.out (fun _ hk => hk.2)) (fun _ h_ => h_.1))) hb) (Kd.R_below (by (with_reducible repeat (first | apply Kd.R_alloc | apply Kd.R_drewN | apply Kd.R_drew)); exact (Kd.R_mono (Kd.R_far (p := ⟨gb2473, 2, none⟩) (Kd.R_far (p := ⟨gb2473, 1, none⟩) (Kd.R_far (p := ⟨gb2473, 0, none⟩) (Kd.R_types HO2442.out BK2473.out (by decide)) (fun _ hk => hk.2) (.bool t2466)) (fun _ hk => hk.2) (.slice Ao52 t2467.length co52)) (fun _ hk => hk.2) (.slice Ao53 t2470.length co53)) (fun _ h_ => h_.1))) hb) (Kd.V_below (by (with_reducible repeat (first | apply Kd.V_alloc | apply Kd.V_drewN | apply Kd.V_drew)); exact (Kd.V_mono (zv3 gb2473 (.bool t2466) (.slice Ao52 t2467.length co52) (.slice Ao53 t2470.length co53) HO2445.out (fun _ hk => hk.2)) (fun _ h_ => h_.1))) hb) (Kd.V_below (by (with_reducible repeat (first | apply Kd.V_alloc | apply Kd.V_drewN | apply Kd.V_drew)); exact (Kd.V_mono (zv3 gb2473 (.bool t2466) (.slice Ao52 t2467.length co52) (.slice Ao53 t2470.length co53) HO2449.out (fun _ hk => hk.2)) (fun _ h_ => h_.1))) hb) (Kd.R_below (by (with_reducible repeat (first | apply Kd.R_alloc | apply Kd.R_drewN | apply Kd.R_drew)); exact (Kd.R_mono (Kd.R_far (p := ⟨gb2473, 2, none⟩) (Kd.R_far (p := ⟨gb2473, 1, none⟩) (Kd.R_far (p := ⟨gb2473, 0, none⟩) (Kd.R_types HO2452.out BK2473.out (by decide)) (fun _ hk => hk.2) (.bool t2466)) (fun _ hk => hk.2) (.slice Ao52 t2467.length co52)) (fun _ hk => hk.2) (.slice Ao53 t2470.length co53)) (fun _ h_ => h_.1))) hb) (Kd.R_below (by (with_reducible repeat (first | apply Kd.R_alloc | apply Kd.R_drewN | apply Kd.R_drew)); exact (Kd.R_mono (Kd.R_far (p := ⟨gb2473, 2, none⟩) (Kd.R_far (p := ⟨gb2473, 1, none⟩) (Kd.R_far (p := ⟨gb2473, 0, none⟩) (Kd.R_types HO2456.out BK2473.out (by decide)) (fun _ hk => hk.2) (.bool t2466)) (fun _ hk => hk.2) (.slice Ao52 t2467.length co52)) (fun _ hk => hk.2) (.slice Ao53 t2470.length co53)) (fun _ h_ => h_.1))) hb) (Kd.V_below (by (with_reducible repeat (first | apply Kd.V_alloc | apply Kd.V_drewN | apply Kd.V_drew)); exact (Kd.V_mono (zv3 gb2473 (.bool t2466) (.slice Ao52 t2467.length co52) (.slice Ao53 t2470.length co53) HO2459.out (fun _ hk => hk.2)) (fun _ h_ => h_.1))) hb) (Kd.R_below (by (with_reducible repeat (first | apply Kd.R_alloc | apply Kd.R_drewN | apply Kd.R_drew)); exact (Kd.R_mono (Kd.R_far (p := ⟨gb2473, 2, none⟩) (Kd.R_far (p := ⟨gb2473, 1, none⟩) (Kd.R_far (p := ⟨gb2473, 0, none⟩) (Kd.R_types HO2462.out BK2473.out (by decide)) (fun _ hk => hk.2) (.bool t2466)) (fun _ hk => hk.2) (.slice Ao52 t2467.length co52)) (fun _ hk => hk.2) (.slice Ao53 t2470.length co53)) (fun _ h_ => h_.1))) hb) (Kd.V_below (by (with_reducible repeat (first | apply Kd.V_alloc | apply Kd.V_drewN | apply Kd.V_drew)); exact (Kd.V_mono (zv3 gb2473 (.bool t2466) (.slice Ao52 t2467.length co52) (.slice Ao53 t2470.length co53) HO2465.out (fun _ hk => hk.2)) (fun _ h_ => h_.1))) hb) (Kd.V_below (by (with_reducible repeat (first | apply Kd.V_alloc | apply Kd.V_drewN | apply Kd.V_drew)); exact (Kd.V_mono (zv3 gb2473 (.bool t2466) (.slice Ao52 t2467.length co52) (.slice Ao53 t2470.length co53) HO2469.out (fun _ hk => hk.2)) (fun _ h_ => h_.1))) hb) (Kd.R_below (by (with_reducible repeat (first | apply Kd.R_alloc | apply Kd.R_drewN | apply Kd.R_drew)); exact (Kd.R_mono (Kd.R_far (p := ⟨gb2473, 2, none⟩) (Kd.R_far (p := ⟨gb2473, 1, none⟩) (Kd.R_far (p := ⟨gb2473, 0, none⟩) (Kd.R_types HO2472.out BK2473.out (by decide)) (fun _ hk => hk.2) (.bool t2466)) (fun _ hk => hk.2) (.slice Ao52 t2467.length co52)) (fun _ hk => hk.2) (.slice Ao53 t2470.length co53)) (fun _ h_ => h_.1))) hb) (blk_below (g := gb2429) (o := .cells #[.bool a0_0, .slice A0_1 l0_1.length c0_1, .slice A0_2 l0_2.length c0_2] 24 (0, 0)) (by (with_reducible repeat (first | refine blk_drewN ?_ _ | refine blk_drew ?_ | refine blk_alloc ?_ _)); refine blk_far ?_ NB2429_2473.out _; (with_reducible repeat (first | refine blk_drewN ?_ _ | refine blk_drew ?_ | refine blk_alloc ?_ _)); refine blk_far ?_ NB2429_2473.out _; (with_reducible repeat (first | refine blk_drewN ?_ _ | refine blk_drew ?_ | refine blk_alloc ?_ _)); refine blk_far ?_ NB2429_2473.out _; (with_reducible repeat (first | refine blk_drewN ?_ _ | refine blk_drew ?_ | refine blk_alloc ?_ _)); exact BK2429.out) hb) (blk_below (g := gb2438) (o := .cells #[.bool t2431, .slice Ao21 t2432.length co21, .slice Ao22 t2435.length co22] 41 (0, 0)) (by (with_reducible repeat (first | refine blk_drewN ?_ _ | refine blk_drew ?_ | refine blk_alloc ?_ _)); refine blk_far ?_ NB2438_2473.out _; (with_reducible repeat (first | refine blk_drewN ?_ _ | refine blk_drew ?_ | refine blk_alloc ?_ _)); refine blk_far ?_ NB2438_2473.out _; (with_reducible repeat (first | refine blk_drewN ?_ _ | refine blk_drew ?_ | refine blk_alloc ?_ _)); refine blk_far ?_ NB2438_2473.out _; (with_reducible repeat (first | refine blk_drewN ?_ _ | refine blk_drew ?_ | refine blk_alloc ?_ _)); exact BK2438.out) hb) (blk_below (g := gb2453) (o := .cells #[.bool t2446, .slice Ao34 t2447.length co34, .slice Ao35 t2450.length co35] 41 (0, 0)) (by (with_reducible repeat (first | refine blk_drewN ?_ _ | refine blk_drew ?_ | refine blk_alloc ?_ _)); refine blk_far ?_ NB2453_2473.out _; (with_reducible repeat (first | refine blk_drewN ?_ _ | refine blk_drew ?_ | refine blk_alloc ?_ _)); refine blk_far ?_ NB2453_2473.out _; (with_reducible repeat (first | refine blk_drewN ?_ _ | refine blk_drew ?_ | refine blk_alloc ?_ _)); refine blk_far ?_ NB2453_2473.out _; (with_reducible repeat (first | refine blk_drewN ?_ _ | refine blk_drew ?_ | refine blk_alloc ?_ _)); exact BK2453.out) hb) (blk_below (g := gb2473) (o := .cells #[.bool t2466, .slice Ao52 t2467.length co52, .slice Ao53 t2470.length co53] 41 (0, 0)) (by (with_reducible repeat (first | refine blk_drewN ?_ _ | refine blk_drew ?_ | refine blk_alloc ?_ _)); refine blk_put (cs := #[.bool t2466, .slice Ao52 t2467.length co52, .slice none 0 0]) ?_ 2 _ rfl; (with_reducible repeat (first | refine blk_drewN ?_ _ | refine blk_drew ?_ | refine blk_alloc ?_ _)); refine blk_put (cs := #[.bool t2466, .slice none 0 0, .slice none 0 0]) ?_ 1 _ rfl; (with_reducible repeat (first | refine blk_drewN ?_ _ | refine blk_drew ?_ | refine blk_alloc ?_ _)); refine blk_put (cs := #[.bool false, .slice none 0 0, .slice none 0 0]) ?_ 0 _ rfl; (with_reducible repeat (first | refine blk_drewN ?_ _ | refine blk_drew ?_ | refine blk_alloc ?_ _)); exact BK2473.out) hb) (below_step (by repeat (first | (with_reducible first | exact HB.out | apply below_alloc | apply pw_below_drewN | apply below_drew1 | refine below_set ?_ GE2429.out | refine below_set ?_ GE2438.out | refine below_set ?_ GE2453.out | refine below_set ?_ GE2473.out) | exact HB.out)) hb) ?_; clear HO2434 HO2437 HO2442 HO2445 HO2449 HO2452 HO2456 HO2459 HO2462 HO2465 HO2469 HO2472 BK2429 BK2438 BK2453 BK2473 HB; intro HO2434 HO2437 HO2442 HO2445 HO2449 HO2452 HO2456 HO2459 HO2462 HO2465 HO2469 HO2472 BK2429 BK2438 BK2453 BK2473 HB; (try clear hb); (try clear hb2); (try clear hk); (try clear hi); have hcz73_0 := bc BK2438.out 0 (.bool t2431); have hcz73_1 := bc BK2438.out 1 (.slice Ao21 t2432.length co21); have hcz73_2 := bc BK2438.out 2 (.slice Ao22 t2435.length co22); have hfz73_0 := blk_frozen BK2438.out 0; have hfz73_1 := blk_frozen BK2438.out 1; have hfz73_2 := blk_frozen BK2438.out 2; have hnb74 := NB2473_2429.out; have hnc74 := NB2429_2473.out; have hcz75_0 := bc BK2473.out 0 (.bool t2466); have hcz75_1 := bc BK2473.out 1 (.slice Ao52 t2467.length co52); have hcz75_2 := bc BK2473.out 2 (.slice Ao53 t2470.length co53); have hfz75_0 := blk_frozen BK2473.out 0; have hfz75_1 := blk_frozen BK2473.out 1; have hfz75_2 := blk_frozen BK2473.out 2) | (go_at_call 23; (with_reducible refine (rf_Cmp.calls k t2431 _ _ t2432 _ _ t2435 t2466 _ _ t2467 _ _ t2470 t2475 _ ?side1 ?side2 ?side3 ?side4 ?side5 ?side6 ?side7 ?side8 A64.out).mono ?_); (case side1 => exact zc ((Kd.V_reads' HO2434.out).2.2)); (case side2 => exact (Kd.V_reads' HO2434.out).2.1); (case side3 => exact zc ((Kd.V_reads' HO2437.out).2.2)); (case side4 => exact (Kd.V_reads' HO2437.out).2.1); (case side5 => exact zc ((Kd.V_reads' HO2469.out).2.2)); (case side6 => exact (Kd.V_reads' HO2469.out).2.1); (case side7 => exact zc ((Kd.R_reads' HO2472.out).2.2)); (case side8 => exact (Kd.R_reads' HO2472.out).2.1); rintro e w76 ⟨rfl, hb⟩; refine zt17 (vb HO2434 hb) (vb HO2437 hb) (rb HO2442 hb) (vb HO2445 hb) (vb HO2449 hb) (rb HO2452 hb) (rb HO2456 hb) (vb HO2459 hb) (rb HO2462 hb) (vb HO2465 hb) (vb HO2469 hb) (rb HO2472 hb) (bb BK2429.out hb) (bb BK2438.out hb) (bb BK2453.out hb) (bb BK2473.out hb) (below_step (by repeat (first | (with_reducible first | exact HB.out | apply below_alloc | apply pw_below_drewN | apply below_drew1 | refine below_set ?_ GE2429.out | refine below_set ?_ GE2438.out | refine below_set ?_ GE2453.out | refine below_set ?_ GE2473.out) | exact HB.out)) hb) ?_; clear HO2434 HO2437 HO2442 HO2445 HO2449 HO2452 HO2456 HO2459 HO2462 HO2465 HO2469 HO2472 BK2429 BK2438 BK2453 BK2473 HB; intro HO2434 HO2437 HO2442 HO2445 HO2449 HO2452 HO2456 HO2459 HO2462 HO2465 HO2469 HO2472 BK2429 BK2438 BK2453 BK2473 HB; (try clear hb); (try clear hb2); (try clear hk); (try clear hi)))
     go_meet
     case rel => exact ⟨_, (decide (t2475 > 0)), zq8, H', ⟨by first | omega | exact Nat.le_refl _⟩, ⟨zwV (h := by exact Kd.V_mono HO2434.out (fun _ hk => ⟨hk.1.1.1.1.1.2, ⟨hk.1.2, ⟨hk.1.1.1.1.1.1.1.1, ⟨hk.1.1.1.1.1.1.1.2, ⟨hk.1.1.1.1.2, hk.2⟩⟩⟩⟩⟩))⟩, ⟨zwV (h := by exact Kd.V_mono HO2437.out (fun _ hk => ⟨hk.1.1.1.1.1.2, ⟨hk.1.2, ⟨hk.1.1.1.1.1.1.1.1, ⟨hk.1.1.1.1.1.1.1.2, ⟨hk.1.1.1.1.2, hk.2⟩⟩⟩⟩⟩))⟩, ⟨zwV (h := by exact Kd.V_mono HO2449.out (fun _ hk => ⟨hk.1.1.1.1.1.1, ⟨hk.1.2, ⟨hk.1.1.1.1.1.2.2.1, ⟨hk.1.1.1.1.1.2.2.2, ⟨hk.1.1.1.1.2, hk.2⟩⟩⟩⟩⟩))⟩, ⟨zwR (h := by exact Kd.R_mono HO2452.out (fun _ hk => hk.2))⟩, ⟨zwV (h := by exact Kd.V_mono HO2469.out (fun _ hk => ⟨hk.1.2.2.1, ⟨hk.1.1, ⟨hk.1.2.2.2.2.2.1, ⟨hk.1.2.2.2.2.2.2.1, ⟨hk.1.2.2.2.2.2.2.2, hk.2⟩⟩⟩⟩⟩))⟩, ⟨zwR (h := by exact Kd.R_mono HO2472.out (fun _ hk => hk.1.1.2))⟩, ⟨zq2 BK2429.out⟩, ⟨zq2 BK2438.out⟩, ⟨zq2 BK2453.out⟩, ⟨zq2 BK2473.out⟩, ⟨by repeat (first | (with_reducible first | exact HB.out | apply below_alloc | apply pw_below_drewN | apply below_drew1 | refine below_set ?_ GE2429.out | refine below_set ?_ GE2438.out | refine below_set ?_ GE2453.out | refine below_set ?_ GE2473.out) | exact HB.out)⟩⟩
   case rest =>
    clear HC12
    obtain ⟨kq, x37_11, rfl, HA, HJ11, HO_2439001, HO_2439002, HO_2454001, HO_2454002, HO_2474001, HO_2474002, BK2429, BK2438, BK2453, BK2473, HB⟩ := hcut
    cases kq with
    | zero => exact absurd HA.out (by simp [rf_ToInt.j0])
    | succ kj11 =>
     have H := HA.out
     clear HA
     simp only [rf_ToInt.j0] at H
     by_cases c77 : x37_11 = true
     ·subst c77
      have H1 : (some (0, 3)) = some (r1, r2) := by rw [if_pos rfl] at H; exact H
      clear H
      have H := H1
      clear H1
      simp only [Option.some.injEq, Prod.mk.injEq] at H
      obtain ⟨rfl, rfl⟩ := H
      go_wp2
      go_ret2
      exact ⟨zq9, by repeat (first | (with_reducible first | exact HB.out | apply below_alloc | apply pw_below_drewN | apply below_drew1 | refine below_set ?_ GE2429.out | refine below_set ?_ GE2438.out | refine below_set ?_ GE2453.out | refine below_set ?_ GE2473.out) | exact HB.out)⟩
     ·replace c77 := Bool.eq_false_iff.mpr c77
      subst c77
      have H1 : (rf_ToInt.l0 kj11 0 (wrap64 ((t2432.length : Int) - 1)) t2431 t2432 t2435) = some (r1, r2) := by rw [if_neg (show ¬ (false = true) by decide)] at H; exact H
      clear H
      have H := H1
      clear H1
      have H' := am H
      clear H
      have hnb78 := NB2438_2429.out
      have hnc78 := NB2429_2438.out
      have hnb79 := NB2438_2453.out
      have hnc79 := NB2453_2438.out
      have hnb80 := NB2438_2473.out
      have hnc80 := NB2473_2438.out
      have hcz81_0 := bc BK2438.out 0 (.bool t2431)
      have hcz81_1 := bc BK2438.out 1 (.slice Ao21 t2432.length co21)
      have hcz81_2 := bc BK2438.out 2 (.slice Ao22 t2435.length co22)
      have hfz81_0 := blk_frozen BK2438.out 0
      have hfz81_1 := blk_frozen BK2438.out 1
      have hfz81_2 := blk_frozen BK2438.out 2
      go_wp2
      go_loopg [8, 9] kj11 (fun kq v8 v9 w' => ∃ (x8_2 : Int) (x9_2 : Int), v8 = .int .u64 x8_2 ∧ v9 = .int .i64 x9_2 ∧ Aside0 (rf_ToInt.l0 kq x8_2 x9_2 t2431 t2432 t2435 = some (r1, r2)) ∧ Aside0 (kq ≤ kj11) ∧ Aside0 (Kd.V (Kd.int .i64) 3 w' w.heap.size (fun k_ => some k_ ≠ ((.slice Ao35 t2450.length co35) : Value).ownBlock ∧ some k_ ≠ ((.slice Ao53 t2470.length co53) : Value).ownBlock ∧ k_ ≠ gb2429 ∧ k_ ≠ gb2438 ∧ k_ ≠ gb2453 ∧ k_ ≠ gb2473) (.slice Ao21 t2432.length co21) t2432) ∧ Aside0 (Kd.V (Kd.int .i64) 3 w' w.heap.size (fun k_ => some k_ ≠ ((.slice Ao35 t2450.length co35) : Value).ownBlock ∧ some k_ ≠ ((.slice Ao53 t2470.length co53) : Value).ownBlock ∧ k_ ≠ gb2429 ∧ k_ ≠ gb2438 ∧ k_ ≠ gb2453 ∧ k_ ≠ gb2473) (.slice Ao22 t2435.length co22) t2435) ∧ Aside0 (Kd.V (Kd.int .i64) 3 w' w.heap.size (fun k_ => some k_ ≠ ((.slice Ao35 t2450.length co35) : Value).ownBlock ∧ some k_ ≠ ((.slice Ao53 t2470.length co53) : Value).ownBlock ∧ k_ ≠ gb2429 ∧ k_ ≠ gb2438 ∧ k_ ≠ gb2453 ∧ k_ ≠ gb2473) (.slice Ao34 t2447.length co34) t2447) ∧ Aside0 (Kd.R (Kd.int .i64) 3 w' w.heap.size (fun k_ => some k_ ≠ ((.slice Ao53 t2470.length co53) : Value).ownBlock) (.slice Ao35 t2450.length co35) t2450) ∧ Aside0 (Kd.V (Kd.int .i64) 3 w' w.heap.size (fun k_ => some k_ ≠ ((.slice Ao35 t2450.length co35) : Value).ownBlock ∧ some k_ ≠ ((.slice Ao53 t2470.length co53) : Value).ownBlock ∧ k_ ≠ gb2429 ∧ k_ ≠ gb2438 ∧ k_ ≠ gb2453 ∧ k_ ≠ gb2473) (.slice Ao52 t2467.length co52) t2467) ∧ Aside0 (Kd.R (Kd.int .i64) 3 w' w.heap.size (fun k_ => some k_ ≠ ((.slice Ao35 t2450.length co35) : Value).ownBlock) (.slice Ao53 t2470.length co53) t2470) ∧ Aside0 (w'.heap[gb2429]? = some (.cells #[.bool a0_0, (.slice A0_1 l0_1.length c0_1), (.slice A0_2 l0_2.length c0_2)] 24 (0, 0))) ∧ Aside0 (w'.heap[gb2438]? = some (.cells #[.bool t2431, (.slice Ao21 t2432.length co21), (.slice Ao22 t2435.length co22)] 41 (0, 0))) ∧ Aside0 (w'.heap[gb2453]? = some (.cells #[.bool t2446, (.slice Ao34 t2447.length co34), (.slice Ao35 t2450.length co35)] 41 (0, 0))) ∧ Aside0 (w'.heap[gb2473]? = some (.cells #[.bool t2466, (.slice Ao52 t2467.length co52), (.slice Ao53 t2470.length co53)] 41 (0, 0))) ∧ Aside0 (Below w.heap.size w w'))
      case atStart => exact ⟨(0), (wrap64 ((t2432.length : Int) - 1)), zq8, zq8, H', ⟨Nat.le_refl _⟩, ⟨zq3 HO_2439001.out⟩, ⟨zq3 HO_2439002.out⟩, ⟨zq3 HO_2454001.out⟩, ⟨zq4 HO_2454002.out⟩, ⟨zq3 HO_2474001.out⟩, ⟨zq4 HO_2474002.out⟩, ⟨zq2 BK2429.out⟩, ⟨zq2 BK2438.out⟩, ⟨zq2 BK2453.out⟩, ⟨zq2 BK2473.out⟩, ⟨by repeat (first | (with_reducible first | exact HB.out | apply below_alloc | apply pw_below_drewN | apply below_drew1 | refine below_set ?_ GE2429.out | refine below_set ?_ GE2438.out | refine below_set ?_ GE2453.out | refine below_set ?_ GE2473.out) | exact HB.out)⟩⟩
      case round =>
       clear H'
       obtain ⟨x8_2, x9_2, rfl, rfl, HA, HK2, HO_2439001, HO_2439002, HO_2454001, HO_2454002, HO_2474001, HO_2474002, BK2429, BK2438, BK2453, BK2473, HB⟩ := hrel
       cases gk with
       | zero => exact absurd HA.out (by simp [rf_ToInt.l0])
       | succ k2 =>
        have H := HA.out
        clear HA
        simp only [rf_ToInt.l0] at H
        by_cases c82 : x9_2 ≥ 0
        ·rw [if_pos c82] at H
         have c82b0 : decide (0 ≤ x9_2) = true := decide_eq_true c82
         clear c82
         replace H := zn H
         obtain ⟨c83, H⟩ := H
         have c83b0 := decide_eq_true c83
         clear c83
         replace H := zn H
         obtain ⟨c84, H⟩ := H
         have c84b0 := decide_eq_true c84
         clear c84
         have H' := am H
         clear H
         have hnb85 := NB2438_2429.out
         have hnc85 := NB2429_2438.out
         have hnb86 := NB2438_2453.out
         have hnc86 := NB2453_2438.out
         have hnb87 := NB2438_2473.out
         have hnc87 := NB2473_2438.out
         have hcz88_0 := bc BK2438.out 0 (.bool t2431)
         have hcz88_1 := bc BK2438.out 1 (.slice Ao21 t2432.length co21)
         have hcz88_2 := bc BK2438.out 2 (.slice Ao22 t2435.length co22)
         have hfz88_0 := blk_frozen BK2438.out 0
         have hfz88_1 := blk_frozen BK2438.out 1
         have hfz88_2 := blk_frozen BK2438.out 2
         have p2476 : 0 ≤ (x9_2 : Int) := zq6
         have q2476 : x9_2 < (t2432.length : Int) := zq6
         obtain ⟨ad2476, e2476, hx2476_0⟩ := Kd.at_int (Kd.V_reads' HO_2439001.out).2.2 x9_2 p2476 q2476
         cases e2476
         replace p2476 := eq_true p2476
         replace q2476 := eq_true q2476
         go_wp2
         go_roundg k2
         case measure => have := HJ11.out; have := HK2.out; omega
         case rel => exact ⟨(Go.bits .or .u64 (IntKind.u64.wrap (x8_2 * 65536)) (IntKind.u64.wrap (rd t2432 x9_2))), (wrap64 (x9_2 - 1)), zq8, zq8, H', ⟨by have := HJ11.out; have := HK2.out; omega⟩, ⟨zq3 HO_2439001.out⟩, ⟨zq3 HO_2439002.out⟩, ⟨zq3 HO_2454001.out⟩, ⟨zq4 HO_2454002.out⟩, ⟨zq3 HO_2474001.out⟩, ⟨zq4 HO_2474002.out⟩, ⟨zq2 BK2429.out⟩, ⟨zq2 BK2438.out⟩, ⟨zq2 BK2453.out⟩, ⟨zq2 BK2473.out⟩, ⟨by repeat (first | (with_reducible first | exact HB.out | apply below_alloc | apply pw_below_drewN | apply below_drew1 | refine below_set ?_ GE2429.out | refine below_set ?_ GE2438.out | refine below_set ?_ GE2453.out | refine below_set ?_ GE2473.out) | exact HB.out)⟩⟩
        ·rw [if_neg c82] at H
         have c82b0 : decide (0 ≤ x9_2) = false := decide_eq_false c82
         clear c82
         by_cases c89 : t2431 = true
         ·subst c89
          have H1 : (some (wrap64 (IntKind.u64.wrap (-x8_2)), 0)) = some (r1, r2) := by rw [if_pos rfl] at H; exact H
          clear H
          have H := H1
          clear H1
          simp only [Option.some.injEq, Prod.mk.injEq] at H
          obtain ⟨rfl, rfl⟩ := H
          have hnb90 := NB2438_2429.out
          have hnc90 := NB2429_2438.out
          have hnb91 := NB2438_2453.out
          have hnc91 := NB2453_2438.out
          have hnb92 := NB2438_2473.out
          have hnc92 := NB2473_2438.out
          have hcz93_0 := bc BK2438.out 0 (.bool true)
          have hcz93_1 := bc BK2438.out 1 (.slice Ao21 t2432.length co21)
          have hcz93_2 := bc BK2438.out 2 (.slice Ao22 t2435.length co22)
          have hfz93_0 := blk_frozen BK2438.out 0
          have hfz93_1 := blk_frozen BK2438.out 1
          have hfz93_2 := blk_frozen BK2438.out 2
          go_wp2
          go_ret2
          exact ⟨zq9, by repeat (first | (with_reducible first | exact HB.out | apply below_alloc | apply pw_below_drewN | apply below_drew1 | refine below_set ?_ GE2429.out | refine below_set ?_ GE2438.out | refine below_set ?_ GE2453.out | refine below_set ?_ GE2473.out) | exact HB.out)⟩
         ·replace c89 := Bool.eq_false_iff.mpr c89
          subst c89
          have H1 : (some (wrap64 (x8_2), 0)) = some (r1, r2) := by rw [if_neg (show ¬ (false = true) by decide)] at H; exact H
          clear H
          have H := H1
          clear H1
          simp only [Option.some.injEq, Prod.mk.injEq] at H
          obtain ⟨rfl, rfl⟩ := H
          have hnb94 := NB2438_2429.out
          have hnc94 := NB2429_2438.out
          have hnb95 := NB2438_2453.out
          have hnc95 := NB2453_2438.out
          have hnb96 := NB2438_2473.out
          have hnc96 := NB2473_2438.out
          have hcz97_0 := bc BK2438.out 0 (.bool false)
          have hcz97_1 := bc BK2438.out 1 (.slice Ao21 t2432.length co21)
          have hcz97_2 := bc BK2438.out 2 (.slice Ao22 t2435.length co22)
          have hfz97_0 := blk_frozen BK2438.out 0
          have hfz97_1 := blk_frozen BK2438.out 1
          have hfz97_2 := blk_frozen BK2438.out 2
          go_wp2
          go_ret2
          exact ⟨zq9, by repeat (first | (with_reducible first | exact HB.out | apply below_alloc | apply pw_below_drewN | apply below_drew1 | refine below_set ?_ GE2429.out | refine below_set ?_ GE2438.out | refine below_set ?_ GE2453.out | refine below_set ?_ GE2473.out) | exact HB.out)⟩
  ·replace c6 := Bool.eq_false_iff.mpr c6
   subst c6
   have H1 : (some (0, 7)) = some (r1, r2) := by rw [if_neg (show ¬ (false = true) by decide)] at H; exact H
   clear H
   have H := H1
   clear H1
   simp only [Option.some.injEq, Prod.mk.injEq] at H
   obtain ⟨rfl, rfl⟩ := H
   go_enter Tryd.func34, Tryd.ntmps34
   go_wp2_with (first | ((with_reducible refine gate_dst (N := 1) rfl ?_); refine zbox (N := 1) (cs := #[.bool a0_0, .slice A0_1 l0_1.length c0_1, .slice A0_2 l0_2.length c0_2]) (t := 24) ?_; intro gb2429 hg w98 hbox hb; refine zt3 (below_step zq1 hb) (hbox) ((zs hg (below_size zq1) : w.heap.size ≤ gb2429)) ?_; clear HB; intro HB BK2429 GW2429; have GE2429 := GW2429; clear hb hbox hg; have hcz99_0 := bc BK2429.out 0 (.bool a0_0); have hcz99_1 := bc BK2429.out 1 (.slice A0_1 l0_1.length c0_1); have hcz99_2 := bc BK2429.out 2 (.slice A0_2 l0_2.length c0_2); have hfz99_0 := blk_frozen BK2429.out 0; have hfz99_1 := blk_frozen BK2429.out 1; have hfz99_2 := blk_frozen BK2429.out 2) | ((with_reducible refine gate_callee (f := 15) rfl ?_); refine goesL_ (some 11) rfl rfl Tryd.func15 (by kernel_rfl) rfl #[.agg #[.bool a0_0, .slice A0_1 l0_1.length c0_1, .slice A0_2 l0_2.length c0_2]] rfl zq5 ?_; (with_reducible refine (rf_Fault.calls k a0_0 _ _ l0_1 _ _ l0_2 t2430 _ ?side1 ?side2 ?side3 ?side4 A2.out).mono ?_); (case side1 => exact zc (Kd.C_below HR0_1.out HB.out)); (case side2 => exact HC0_1.out); (case side3 => exact zc (Kd.C_below HR0_2.out HB.out)); (case side4 => exact HC0_2.out); rintro e w100 ⟨rfl, hb⟩; refine ⟨_, rfl, ?_⟩; refine zt2 (bb BK2429.out hb) (below_step (zb1 GE2429.out) hb) ?_; clear BK2429 HB; intro BK2429 HB; (try clear hb); (try clear hb2); (try clear hk); (try clear hi); have hcz101_0 := bc BK2429.out 0 (.bool a0_0); have hcz101_1 := bc BK2429.out 1 (.slice A0_1 l0_1.length c0_1); have hcz101_2 := bc BK2429.out 2 (.slice A0_2 l0_2.length c0_2); have hfz101_0 := blk_frozen BK2429.out 0; have hfz101_1 := blk_frozen BK2429.out 1; have hfz101_2 := blk_frozen BK2429.out 2) | ((with_reducible refine gate_callee (f := 24) rfl ?_); refine goesL_ (some 16) rfl rfl Tryd.func24 (by kernel_rfl) rfl #[.agg #[.bool a0_0, .slice A0_1 l0_1.length c0_1, .slice A0_2 l0_2.length c0_2]] rfl zq5 ?_; (with_reducible refine (rf_Of.calls k a0_0 _ _ l0_1 _ _ l0_2 t2431 t2432 t2435 _ ?side1 ?side2 ?side3 ?side4 A4.out).mono ?_); (case side1 => exact zc (Kd.C_below HR0_1.out HB.out)); (case side2 => exact HC0_1.out); (case side3 => exact zc (Kd.C_below HR0_2.out HB.out)); (case side4 => exact HC0_2.out); rintro e w102 ⟨v2433, v2436, rfl, ho0, ho1, hb⟩; refine ⟨_, rfl, ?_⟩; refine zt4 (Kd.V_lower (Kd.V_mono (ok' := fun k_ => k_ ≠ gb2429) ho0 (fun k_ hk_ => (Kd.freshB (g := gb2429) (o := .cells #[.bool a0_0, .slice A0_1 l0_1.length c0_1, .slice A0_2 l0_2.length c0_2] 24 (0, 0)) (zq2 BK2429.out) k_ hk_))) (below_size (zb1 GE2429.out))) (Kd.V_lower (Kd.V_mono (ok' := fun k_ => k_ ≠ gb2429) ho1 (fun k_ hk_ => (Kd.freshB (g := gb2429) (o := .cells #[.bool a0_0, .slice A0_1 l0_1.length c0_1, .slice A0_2 l0_2.length c0_2] 24 (0, 0)) (zq2 BK2429.out) k_ hk_))) (below_size (zb1 GE2429.out))) (bb BK2429.out hb) (below_step (zb1 GE2429.out) hb) ?_; clear BK2429 HB; intro HO2434 HO2437 BK2429 HB; (try clear ho1)) | ((with_reducible refine gate_dst (N := 5) rfl ?_); refine zbox (N := 5) (cs := #[.bool false, .slice none 0 0, .slice none 0 0]) (t := 41) ?_; intro gb2438 hg w103 hbox hb; refine zt8 (ve HO2434 hg hb) (ve HO2437 hg hb) (bb BK2429.out hb) (below_step (zb1 GE2429.out) hb) (hbox) ((zs hg (below_size (zb1 GE2429.out)) : w.heap.size ≤ gb2438)) ((by rw [hg]; exact Nat.ne_of_lt (bl BK2429.out) : gb2429 ≠ gb2438)) ((by rw [hg]; exact Nat.ne_of_gt (bl BK2429.out) : gb2438 ≠ gb2429)) ?_; clear HO2434 HO2437 BK2429 HB; intro HO2434 HO2437 BK2429 HB BK2438 GW2438 NB2429_2438 NB2438_2429; have GE2438 := GW2438; clear hb hbox hg; have hnb104 := NB2438_2429.out; have hnc104 := NB2429_2438.out; have hcz105_0 := bc BK2438.out 0 (.bool false); have hcz105_1 := bc BK2438.out 1 (.slice none 0 0); have hcz105_2 := bc BK2438.out 2 (.slice none 0 0); have hfz105_0 := blk_frozen BK2438.out 0; have hfz105_1 := blk_frozen BK2438.out 1; have hfz105_2 := blk_frozen BK2438.out 2; obtain ⟨Ao106, co106, eo106⟩ := Kd.V_slice HO2434.out; subst eo106; obtain ⟨Ao107, co107, eo107⟩ := Kd.V_slice HO2437.out; subst eo107) | ((with_reducible refine gate_callee (f := 66) rfl ?_); refine goesL_ (some 18) rfl rfl Tryd.func66 (by kernel_rfl) rfl #[.agg #[.bool t2431, .slice Ao106 t2432.length co106, .slice Ao107 t2435.length co107]] rfl zq5 ?_; (with_reducible refine (rf_IsInt.calls k t2431 _ _ t2432 _ _ t2435 false _ ?side1 ?side2 ?side3 ?side4 A5.out).mono ?_); (case side1 => refine (Kd.V_reads' (e := 3) (base := w.heap.size) (ok := fun k_ => (k_ ≠ gb2429 ∧ k_ ≠ gb2438)) (n := t2432.length) (c := co106) ?_).2.2; exact (by (with_reducible repeat (first | apply Kd.V_alloc | apply Kd.V_drewN | apply Kd.V_drew)); exact (Kd.V_mono (zv3 gb2438 (.bool t2431) (.slice Ao106 t2432.length co106) (.slice Ao107 t2435.length co107) HO2434.out (fun _ hk => hk.2)) (fun _ h_ => h_.1)))); (case side2 => exact (Kd.V_reads' HO2434.out).2.1); (case side3 => refine (Kd.V_reads' (e := 3) (base := w.heap.size) (ok := fun k_ => (k_ ≠ gb2429 ∧ k_ ≠ gb2438)) (n := t2435.length) (c := co107) ?_).2.2; exact (by (with_reducible repeat (first | apply Kd.V_alloc | apply Kd.V_drewN | apply Kd.V_drew)); exact (Kd.V_mono (zv3 gb2438 (.bool t2431) (.slice Ao106 t2432.length co106) (.slice Ao107 t2435.length co107) HO2437.out (fun _ hk => hk.2)) (fun _ h_ => h_.1)))); (case side4 => exact (Kd.V_reads' HO2437.out).2.1); rintro e w108 ⟨rfl, hb⟩; refine ⟨_, rfl, ?_⟩; refine zt5 (Kd.V_below (by (with_reducible repeat (first | apply Kd.V_alloc | apply Kd.V_drewN | apply Kd.V_drew)); exact (Kd.V_mono (zv3 gb2438 (.bool t2431) (.slice Ao106 t2432.length co106) (.slice Ao107 t2435.length co107) HO2434.out (fun _ hk => hk.2)) (fun _ h_ => h_.1))) hb) (Kd.V_below (by (with_reducible repeat (first | apply Kd.V_alloc | apply Kd.V_drewN | apply Kd.V_drew)); exact (Kd.V_mono (zv3 gb2438 (.bool t2431) (.slice Ao106 t2432.length co106) (.slice Ao107 t2435.length co107) HO2437.out (fun _ hk => hk.2)) (fun _ h_ => h_.1))) hb) (blk_below (g := gb2429) (o := .cells #[.bool a0_0, .slice A0_1 l0_1.length c0_1, .slice A0_2 l0_2.length c0_2] 24 (0, 0)) (by (with_reducible repeat (first | refine blk_drewN ?_ _ | refine blk_drew ?_ | refine blk_alloc ?_ _)); refine blk_far ?_ NB2429_2438.out _; (with_reducible repeat (first | refine blk_drewN ?_ _ | refine blk_drew ?_ | refine blk_alloc ?_ _)); refine blk_far ?_ NB2429_2438.out _; (with_reducible repeat (first | refine blk_drewN ?_ _ | refine blk_drew ?_ | refine blk_alloc ?_ _)); refine blk_far ?_ NB2429_2438.out _; (with_reducible repeat (first | refine blk_drewN ?_ _ | refine blk_drew ?_ | refine blk_alloc ?_ _)); exact BK2429.out) hb) (blk_below (g := gb2438) (o := .cells #[.bool t2431, .slice Ao106 t2432.length co106, .slice Ao107 t2435.length co107] 41 (0, 0)) (by (with_reducible repeat (first | refine blk_drewN ?_ _ | refine blk_drew ?_ | refine blk_alloc ?_ _)); refine blk_put (cs := #[.bool t2431, .slice Ao106 t2432.length co106, .slice none 0 0]) ?_ 2 _ rfl; (with_reducible repeat (first | refine blk_drewN ?_ _ | refine blk_drew ?_ | refine blk_alloc ?_ _)); refine blk_put (cs := #[.bool t2431, .slice none 0 0, .slice none 0 0]) ?_ 1 _ rfl; (with_reducible repeat (first | refine blk_drewN ?_ _ | refine blk_drew ?_ | refine blk_alloc ?_ _)); refine blk_put (cs := #[.bool false, .slice none 0 0, .slice none 0 0]) ?_ 0 _ rfl; (with_reducible repeat (first | refine blk_drewN ?_ _ | refine blk_drew ?_ | refine blk_alloc ?_ _)); exact BK2438.out) hb) (below_step (zb2 GE2429.out GE2438.out) hb) ?_; clear HO2434 HO2437 BK2429 BK2438 HB; intro HO2434 HO2437 BK2429 BK2438 HB; (try clear hb); (try clear hb2); (try clear hk); (try clear hi)))
   go_ret2
   exact ⟨zq9, zb2 GE2429.out GE2438.out⟩
 ·rw [if_neg c3] at H
  have c3b0 : (t2430 == 0) = false := beq_eq_false_iff_ne.mpr c3
  have c3b1 : (t2430 != 0) = true := bne_iff_ne.mpr c3
  simp only [Option.some.injEq, Prod.mk.injEq] at H
  obtain ⟨rfl, rfl⟩ := H
  go_enter Tryd.func34, Tryd.ntmps34
  go_wp2_with (first | ((with_reducible refine gate_dst (N := 1) rfl ?_); refine zbox (N := 1) (cs := #[.bool a0_0, .slice A0_1 l0_1.length c0_1, .slice A0_2 l0_2.length c0_2]) (t := 24) ?_; intro gb2429 hg w109 hbox hb; refine zt3 (below_step zq1 hb) (hbox) ((zs hg (below_size zq1) : w.heap.size ≤ gb2429)) ?_; clear HB; intro HB BK2429 GW2429; have GE2429 := GW2429; clear hb hbox hg; have hcz110_0 := bc BK2429.out 0 (.bool a0_0); have hcz110_1 := bc BK2429.out 1 (.slice A0_1 l0_1.length c0_1); have hcz110_2 := bc BK2429.out 2 (.slice A0_2 l0_2.length c0_2); have hfz110_0 := blk_frozen BK2429.out 0; have hfz110_1 := blk_frozen BK2429.out 1; have hfz110_2 := blk_frozen BK2429.out 2) | ((with_reducible refine gate_callee (f := 15) rfl ?_); refine goesL_ (some 11) rfl rfl Tryd.func15 (by kernel_rfl) rfl #[.agg #[.bool a0_0, .slice A0_1 l0_1.length c0_1, .slice A0_2 l0_2.length c0_2]] rfl zq5 ?_; (with_reducible refine (rf_Fault.calls k a0_0 _ _ l0_1 _ _ l0_2 t2430 _ ?side1 ?side2 ?side3 ?side4 A2.out).mono ?_); (case side1 => exact zc (Kd.C_below HR0_1.out HB.out)); (case side2 => exact HC0_1.out); (case side3 => exact zc (Kd.C_below HR0_2.out HB.out)); (case side4 => exact HC0_2.out); rintro e w111 ⟨rfl, hb⟩; refine ⟨_, rfl, ?_⟩; refine zt2 (bb BK2429.out hb) (below_step (zb1 GE2429.out) hb) ?_; clear BK2429 HB; intro BK2429 HB; (try clear hb); (try clear hb2); (try clear hk); (try clear hi)))
  go_ret2
  exact ⟨zq9, zb1 GE2429.out⟩
mutual
def lw_NumberToIntMatchesSpec.j0 : Nat → Bool → Bool → List Int → List Int → Option (Bool)
 | 0, _, _, _, _ => none
 | k + 1, x25, x2478000, x2478001, x2478002 => if x25 = true then (some false) else ((number_Sign.f k x2478000 x2478001 x2478002).bind fun bt2482 => ((rf_Fault.f k x2478000 x2478001 x2478002).bind fun t2484 => (if bt2482.2 = t2484 then (lw_NumberToIntMatchesSpec.j1 k bt2482.2 t2484 bt2482.1 (t2484 != 0) x2478000 x2478001 x2478002) else (lw_NumberToIntMatchesSpec.j1 k bt2482.2 t2484 bt2482.1 true x2478000 x2478001 x2478002))))
def lw_NumberToIntMatchesSpec.j1 : Nat → Int → Int → Int → Bool → Bool → List Int → List Int → Option (Bool)
 | 0, _, _, _, _, _, _, _ => none
 | k + 1, x4, x6, x7, x39, x2478000, x2478001, x2478002 => if x39 = true then (if x4 = x6 then (if x7 = 0 then ((lw_counted.f k).bind fun t2485 => (some t2485)) else (some false)) else (some false)) else ((rf_Of.f k x2478000 x2478001 x2478002).bind fun bt2486 => ((rf_FromInt.f k 0).bind fun bt2493 => ((rf_Of.f k bt2493.1 bt2493.2.1 bt2493.2.2).bind fun bt2500 => ((rf_Cmp.f k bt2486.1 bt2486.2.1 bt2486.2.2 bt2500.1 bt2500.2.1 bt2500.2.2).bind fun t2507 => (if x7 = t2507 then ((lw_counted.f k).bind fun t2508 => (some t2508)) else (some false))))))
end
def lw_NumberToIntMatchesSpec.f (k : Nat) (a0_0 : Bool) (l0_1 : List Int) (l0_2 : List Int) : Option (Bool) := (number_ToInt.f k a0_0 l0_1 l0_2).bind fun bt2478 => ((rf_ToInt.f k a0_0 l0_1 l0_2).bind fun bt2480 => (if bt2478.1 = bt2480.1 then (lw_NumberToIntMatchesSpec.j0 k (bt2478.2 != bt2480.2) a0_0 l0_1 l0_2) else (lw_NumberToIntMatchesSpec.j0 k true a0_0 l0_1 l0_2)))
theorem lw_NumberToIntMatchesSpec.mono_l : ∀ k, (∀ y0 y1 y2 y3, LeO (lw_NumberToIntMatchesSpec.j0 k y0 y1 y2 y3) (lw_NumberToIntMatchesSpec.j0 (k + 1) y0 y1 y2 y3)) ∧ (∀ y0 y1 y2 y3 y4 y5 y6, LeO (lw_NumberToIntMatchesSpec.j1 k y0 y1 y2 y3 y4 y5 y6) (lw_NumberToIntMatchesSpec.j1 (k + 1) y0 y1 y2 y3 y4 y5 y6))
 | 0 => ⟨fun _ _ _ _ r h => by simp [lw_NumberToIntMatchesSpec.j0] at h, fun _ _ _ _ _ _ _ r h => by simp [lw_NumberToIntMatchesSpec.j1] at h⟩
 | k + 1 => by
  obtain ⟨ih0, ih1⟩ := lw_NumberToIntMatchesSpec.mono_l k
  refine ⟨?_, ?_⟩
  ·intro y0 y1 y2 y3
   unfold lw_NumberToIntMatchesSpec.j0
   repeat' first
   | (with_reducible exact ih0 _ _ _ _)
   | (with_reducible exact ih1 _ _ _ _ _ _ _)
   | (with_reducible exact lw_counted.mono _)
   | (with_reducible exact rf_Cmp.mono _ _ _ _ _ _ _)
   | (with_reducible exact rf_Fault.mono _ _ _ _)
   | (with_reducible exact rf_FromInt.mono _ _)
   | (with_reducible exact rf_Of.mono _ _ _ _)
   | (with_reducible exact rf_ToInt.mono _ _ _ _)
   | (with_reducible exact number_Sign.mono _ _ _ _)
   | (with_reducible exact number_ToInt.mono _ _ _ _)
   | (with_reducible exact LeO.refl _)
   | (with_reducible exact LeO.none _)
   | (with_reducible refine LeO.ite ?_ ?_)
   | (with_reducible refine LeO.bind ?_ (fun _ => ?_))
   | exact ih0 _ _ _ _
   | exact ih1 _ _ _ _ _ _ _
   | exact lw_counted.mono _
   | exact rf_Cmp.mono _ _ _ _ _ _ _
   | exact rf_Fault.mono _ _ _ _
   | exact rf_FromInt.mono _ _
   | exact rf_Of.mono _ _ _ _
   | exact rf_ToInt.mono _ _ _ _
   | exact number_Sign.mono _ _ _ _
   | exact number_ToInt.mono _ _ _ _
   | exact LeO.none _
   | refine LeO.ite ?_ ?_
   | refine LeO.bind ?_ (fun _ => ?_)
  ·intro y0 y1 y2 y3 y4 y5 y6
   unfold lw_NumberToIntMatchesSpec.j1
   repeat' first
   | (with_reducible exact ih0 _ _ _ _)
   | (with_reducible exact ih1 _ _ _ _ _ _ _)
   | (with_reducible exact lw_counted.mono _)
   | (with_reducible exact rf_Cmp.mono _ _ _ _ _ _ _)
   | (with_reducible exact rf_Fault.mono _ _ _ _)
   | (with_reducible exact rf_FromInt.mono _ _)
   | (with_reducible exact rf_Of.mono _ _ _ _)
   | (with_reducible exact rf_ToInt.mono _ _ _ _)
   | (with_reducible exact number_Sign.mono _ _ _ _)
   | (with_reducible exact number_ToInt.mono _ _ _ _)
   | (with_reducible exact LeO.refl _)
   | (with_reducible exact LeO.none _)
   | (with_reducible refine LeO.ite ?_ ?_)
   | (with_reducible refine LeO.bind ?_ (fun _ => ?_))
   | exact ih0 _ _ _ _
   | exact ih1 _ _ _ _ _ _ _
   | exact lw_counted.mono _
   | exact rf_Cmp.mono _ _ _ _ _ _ _
   | exact rf_Fault.mono _ _ _ _
   | exact rf_FromInt.mono _ _
   | exact rf_Of.mono _ _ _ _
   | exact rf_ToInt.mono _ _ _ _
   | exact number_Sign.mono _ _ _ _
   | exact number_ToInt.mono _ _ _ _
   | exact LeO.none _
   | refine LeO.ite ?_ ?_
   | refine LeO.bind ?_ (fun _ => ?_)
theorem lw_NumberToIntMatchesSpec.mono : ∀ a0 a1 a2 k, LeO (lw_NumberToIntMatchesSpec.f k a0 a1 a2) (lw_NumberToIntMatchesSpec.f (k + 1) a0 a1 a2) := by
 intro a0 a1 a2 k
 obtain ⟨ih0, ih1⟩ := lw_NumberToIntMatchesSpec.mono_l k
 unfold lw_NumberToIntMatchesSpec.f
 repeat' first
   | (with_reducible exact ih0 _ _ _ _)
   | (with_reducible exact ih1 _ _ _ _ _ _ _)
   | (with_reducible exact lw_counted.mono _)
   | (with_reducible exact rf_Cmp.mono _ _ _ _ _ _ _)
   | (with_reducible exact rf_Fault.mono _ _ _ _)
   | (with_reducible exact rf_FromInt.mono _ _)
   | (with_reducible exact rf_Of.mono _ _ _ _)
   | (with_reducible exact rf_ToInt.mono _ _ _ _)
   | (with_reducible exact number_Sign.mono _ _ _ _)
   | (with_reducible exact number_ToInt.mono _ _ _ _)
   | (with_reducible exact LeO.refl _)
   | (with_reducible exact LeO.none _)
   | (with_reducible refine LeO.ite ?_ ?_)
   | (with_reducible refine LeO.bind ?_ (fun _ => ?_))
   | exact ih0 _ _ _ _
   | exact ih1 _ _ _ _ _ _ _
   | exact lw_counted.mono _
   | exact rf_Cmp.mono _ _ _ _ _ _ _
   | exact rf_Fault.mono _ _ _ _
   | exact rf_FromInt.mono _ _
   | exact rf_Of.mono _ _ _ _
   | exact rf_ToInt.mono _ _ _ _
   | exact number_Sign.mono _ _ _ _
   | exact number_ToInt.mono _ _ _ _
   | exact LeO.none _
   | refine LeO.ite ?_ ?_
   | refine LeO.bind ?_ (fun _ => ?_)
set_option maxHeartbeats 8000000 in
set_option maxRecDepth 100000 in
theorem lw_NumberToIntMatchesSpec.calls (k : Nat) (a0_0 : Bool) (A0_1 : Option Addr) (c0_1 : Nat) (l0_1 : List Int) (A0_2 : Option Addr) (c0_2 : Nat) (l0_2 : List Int) (r : Bool) (w : World) (hr0_1 : Kd.C (Kd.int .u32) w A0_1 l0_1.length l0_1) (hc0_1 : l0_1.length ≤ c0_1) (hr0_2 : Kd.C (Kd.int .u32) w A0_2 l0_2.length l0_2) (hc0_2 : l0_2.length ≤ c0_2) (h : lw_NumberToIntMatchesSpec.f k a0_0 l0_1 l0_2 = some r) (hr : r = true := by assumption) :
  Calls Tryd.prog 10 #[.agg #[.bool a0_0, .slice A0_1 l0_1.length c0_1, .slice A0_2 l0_2.length c0_2]] w fun e w' => e = .returned (.bool r) ∧ Below w.heap.size w w' := by
 have hu24 := Tryd.underlying24
 have HR0_1 := am hr0_1
 have HC0_1 := am hc0_1
 clear hr0_1 hc0_1
 have HR0_2 := am hr0_2
 have HC0_2 := am hc0_2
 clear hr0_2 hc0_2
 have HB := am (Below.refl w.heap.size w)
 have H := h
 unfold lw_NumberToIntMatchesSpec.f at H
 clear h
 replace H := zj H
 obtain ⟨⟨t2478, t2479⟩, A2, H⟩ := H
 try dsimp only at H
 replace H := zj H
 obtain ⟨⟨t2480, t2481⟩, A3, H⟩ := H
 try dsimp only at H
 have HC4 := am H
 clear H
 go_enter Tryd.func10, Tryd.ntmps10
 go_upto_region 3 with (first | ((with_reducible refine gate_dst (N := 1) rfl ?_); refine zbox (N := 1) (cs := #[.bool a0_0, .slice A0_1 l0_1.length c0_1, .slice A0_2 l0_2.length c0_2]) (t := 24) ?_; intro gb2477 hg w5 hbox hb; refine zt3 (below_step zq1 hb) (hbox) ((zs hg (below_size zq1) : w.heap.size ≤ gb2477)) ?_; clear HB; intro HB BK2477 GW2477; have GE2477 := GW2477; clear hb hbox hg; have hcz6_0 := bc BK2477.out 0 (.bool a0_0); have hcz6_1 := bc BK2477.out 1 (.slice A0_1 l0_1.length c0_1); have hcz6_2 := bc BK2477.out 2 (.slice A0_2 l0_2.length c0_2); have hfz6_0 := blk_frozen BK2477.out 0; have hfz6_1 := blk_frozen BK2477.out 1; have hfz6_2 := blk_frozen BK2477.out 2) | ((with_reducible refine gate_callee (f := 32) rfl ?_); refine goesL_ (some 10) rfl rfl Tryd.func32 (by kernel_rfl) rfl #[.agg #[.bool a0_0, .slice A0_1 l0_1.length c0_1, .slice A0_2 l0_2.length c0_2]] rfl zq5 ?_; (with_reducible refine (number_ToInt.calls k a0_0 (fun k_ => k_ < w.heap.size) _ _ l0_1 (fun k_ => k_ < w.heap.size) _ _ l0_2 t2478 t2479 _ ?side1 ?side2 A2.out).mono ?_); (case side1 => exact Kd.V_mk HC0_1.out (Kd.F_below (Kd.C_F (Kd.heap_int .u32) HR0_1.out) (zb1 GE2477.out))); (case side2 => exact Kd.V_mk HC0_2.out (Kd.F_below (Kd.C_F (Kd.heap_int .u32) HR0_2.out) (zb1 GE2477.out))); rintro e w7 ⟨rfl, hb⟩; refine ⟨_, rfl, ?_⟩; refine zt2 (bb BK2477.out hb) (below_step (zb1 GE2477.out) hb) ?_; clear BK2477 HB; intro BK2477 HB; (try clear hb); (try clear hb2); (try clear hk); (try clear hi); have hcz8_0 := bc BK2477.out 0 (.bool a0_0); have hcz8_1 := bc BK2477.out 1 (.slice A0_1 l0_1.length c0_1); have hcz8_2 := bc BK2477.out 2 (.slice A0_2 l0_2.length c0_2); have hfz8_0 := blk_frozen BK2477.out 0; have hfz8_1 := blk_frozen BK2477.out 1; have hfz8_2 := blk_frozen BK2477.out 2) | ((with_reducible refine gate_callee (f := 34) rfl ?_); refine goesL_ (some 15) rfl rfl Tryd.func34 (by kernel_rfl) rfl #[.agg #[.bool a0_0, .slice A0_1 l0_1.length c0_1, .slice A0_2 l0_2.length c0_2]] rfl zq5 ?_; (with_reducible refine (rf_ToInt.calls k a0_0 _ _ l0_1 _ _ l0_2 t2480 t2481 _ ?side1 ?side2 ?side3 ?side4 A3.out).mono ?_); (case side1 => exact zc (Kd.C_below HR0_1.out HB.out)); (case side2 => exact HC0_1.out); (case side3 => exact zc (Kd.C_below HR0_2.out HB.out)); (case side4 => exact HC0_2.out); rintro e w9 ⟨rfl, hb⟩; refine ⟨_, rfl, ?_⟩; refine zt2 (bb BK2477.out hb) (below_step (zb1 GE2477.out) hb) ?_; clear BK2477 HB; intro BK2477 HB; (try clear hb); (try clear hb2); (try clear hk); (try clear hi)))
 (try simp only [Act.put, List.setIfInBounds_toArray, List.set_cons_zero, List.set_cons_succ])
 go_cut [25] (fun v25 wc => ∃ (kq : Nat) (x25_3 : Bool), v25 = .bool x25_3 ∧ Aside0 (lw_NumberToIntMatchesSpec.j0 kq x25_3 a0_0 l0_1 l0_2 = some r) ∧ Aside0 (kq ≤ k) ∧ Aside0 (wc.heap[gb2477]? = some (.cells #[.bool a0_0, (.slice A0_1 l0_1.length c0_1), (.slice A0_2 l0_2.length c0_2)] 24 (0, 0))) ∧ Aside0 (Below w.heap.size w wc))
 case first =>
  have H := HC4.out
  clear HC4
  by_cases c10 : t2478 = t2480
  ·rw [if_pos c10] at H
   have c10b0 : (t2478 == t2480) = true := beq_iff_eq.mpr c10
   have c10b1 : (t2478 != t2480) = false := bne_eq_false_iff_eq.mpr c10
   clear c10
   (first | rw [c10b0] | (simp only [i64_w, i32_w]; rw [c10b0]) | skip)
   have H' := am H
   clear H
   go_wp2
   go_meet
   case rel => exact ⟨_, ((t2479 != t2481)), zq8, H', ⟨by first | omega | exact Nat.le_refl _⟩, ⟨zq2 BK2477.out⟩, ⟨zb1 GE2477.out⟩⟩
  ·rw [if_neg c10] at H
   have c10b0 : (t2478 == t2480) = false := beq_eq_false_iff_ne.mpr c10
   have c10b1 : (t2478 != t2480) = true := bne_iff_ne.mpr c10
   (first | rw [c10b0] | (simp only [i64_w, i32_w]; rw [c10b0]) | skip)
   have H' := am H
   clear H
   go_wp2
   go_meet
   case rel => exact ⟨_, (true), zq8, H', ⟨by first | omega | exact Nat.le_refl _⟩, ⟨zq2 BK2477.out⟩, ⟨zb1 GE2477.out⟩⟩
 case rest =>
  clear HC4
  obtain ⟨kq, x25_3, rfl, HA, HJ3, BK2477, HB⟩ := hcut
  cases kq with
  | zero => exact absurd HA.out (by simp [lw_NumberToIntMatchesSpec.j0])
  | succ kj3 =>
   have H := HA.out
   clear HA
   simp only [lw_NumberToIntMatchesSpec.j0] at H
   by_cases c11 : x25_3 = true
   ·subst c11
    have H1 : (some false) = some r := by rw [if_pos rfl] at H; exact H
    clear H
    have H := H1
    clear H1
    obtain rfl := Option.some.inj H
    cases hr
   ·replace c11 := Bool.eq_false_iff.mpr c11
    subst c11
    have H1 : ((number_Sign.f kj3 a0_0 l0_1 l0_2).bind fun bt2482 => ((rf_Fault.f kj3 a0_0 l0_1 l0_2).bind fun t2484 => (if bt2482.2 = t2484 then (lw_NumberToIntMatchesSpec.j1 kj3 bt2482.2 t2484 bt2482.1 (t2484 != 0) a0_0 l0_1 l0_2) else (lw_NumberToIntMatchesSpec.j1 kj3 bt2482.2 t2484 bt2482.1 true a0_0 l0_1 l0_2)))) = some r := by rw [if_neg (show ¬ (false = true) by decide)] at H; exact H
    clear H
    have H := H1
    clear H1
    replace H := zj H
    obtain ⟨⟨t2482, t2483⟩, A12, H⟩ := H
    try dsimp only at H
    replace H := zj H
    obtain ⟨t2484, A13, H⟩ := H
    have HC14 := am H
    clear H
    have hcz15_0 := bc BK2477.out 0 (.bool a0_0)
    have hcz15_1 := bc BK2477.out 1 (.slice A0_1 l0_1.length c0_1)
    have hcz15_2 := bc BK2477.out 2 (.slice A0_2 l0_2.length c0_2)
    have hfz15_0 := blk_frozen BK2477.out 0
    have hfz15_1 := blk_frozen BK2477.out 1
    have hfz15_2 := blk_frozen BK2477.out 2
    go_upto_region 7 with (first | ((with_reducible refine gate_callee (f := 30) rfl ?_); refine goesL_ (some 28) rfl rfl Tryd.func30 (by kernel_rfl) rfl #[.agg #[.bool a0_0, .slice A0_1 l0_1.length c0_1, .slice A0_2 l0_2.length c0_2]] rfl zq5 ?_; (with_reducible refine (number_Sign.calls kj3 a0_0 _ _ l0_1 _ _ l0_2 t2482 t2483 _ ?side1 ?side2 ?side3 ?side4 A12.out).mono ?_); (case side1 => exact zc (Kd.C_below HR0_1.out HB.out)); (case side2 => exact HC0_1.out); (case side3 => exact zc (Kd.C_below HR0_2.out HB.out)); (case side4 => exact HC0_2.out); rintro e w16 ⟨rfl, hb⟩; refine ⟨_, rfl, ?_⟩; refine zt2 (bb BK2477.out hb) (below_step (zb1 GE2477.out) hb) ?_; clear BK2477 HB; intro BK2477 HB; (try clear hb); (try clear hb2); (try clear hk); (try clear hi); have hcz17_0 := bc BK2477.out 0 (.bool a0_0); have hcz17_1 := bc BK2477.out 1 (.slice A0_1 l0_1.length c0_1); have hcz17_2 := bc BK2477.out 2 (.slice A0_2 l0_2.length c0_2); have hfz17_0 := blk_frozen BK2477.out 0; have hfz17_1 := blk_frozen BK2477.out 1; have hfz17_2 := blk_frozen BK2477.out 2) | ((with_reducible refine gate_callee (f := 15) rfl ?_); refine goesL_ (some 32) rfl rfl Tryd.func15 (by kernel_rfl) rfl #[.agg #[.bool a0_0, .slice A0_1 l0_1.length c0_1, .slice A0_2 l0_2.length c0_2]] rfl zq5 ?_; (with_reducible refine (rf_Fault.calls kj3 a0_0 _ _ l0_1 _ _ l0_2 t2484 _ ?side1 ?side2 ?side3 ?side4 A13.out).mono ?_); (case side1 => exact zc (Kd.C_below HR0_1.out HB.out)); (case side2 => exact HC0_1.out); (case side3 => exact zc (Kd.C_below HR0_2.out HB.out)); (case side4 => exact HC0_2.out); rintro e w18 ⟨rfl, hb⟩; refine ⟨_, rfl, ?_⟩; refine zt2 (bb BK2477.out hb) (below_step (zb1 GE2477.out) hb) ?_; clear BK2477 HB; intro BK2477 HB; (try clear hb); (try clear hb2); (try clear hk); (try clear hi)))
    (try simp only [Act.put, List.setIfInBounds_toArray, List.set_cons_zero, List.set_cons_succ])
    go_cut [39] (fun v39 wc => ∃ (kq : Nat) (x39_13 : Bool), v39 = .bool x39_13 ∧ Aside0 (lw_NumberToIntMatchesSpec.j1 kq t2483 t2484 t2482 x39_13 a0_0 l0_1 l0_2 = some r) ∧ Aside0 (kq ≤ kj3) ∧ Aside0 (wc.heap[gb2477]? = some (.cells #[.bool a0_0, (.slice A0_1 l0_1.length c0_1), (.slice A0_2 l0_2.length c0_2)] 24 (0, 0))) ∧ Aside0 (Below w.heap.size w wc))
    case first =>
     have H := HC14.out
     clear HC14
     by_cases c19 : t2483 = t2484
     ·rw [if_pos c19] at H
      have c19b0 : (t2483 == t2484) = true := beq_iff_eq.mpr c19
      have c19b1 : (t2483 != t2484) = false := bne_eq_false_iff_eq.mpr c19
      clear c19
      (first | rw [c19b0] | (simp only [i64_w, i32_w]; rw [c19b0]) | skip)
      have H' := am H
      clear H
      go_wp2
      go_meet
      case rel => exact ⟨_, ((t2484 != 0)), zq8, H', ⟨by have := HJ3.out; first | omega | exact Nat.le_refl _⟩, ⟨zq2 BK2477.out⟩, ⟨zb1 GE2477.out⟩⟩
     ·rw [if_neg c19] at H
      have c19b0 : (t2483 == t2484) = false := beq_eq_false_iff_ne.mpr c19
      have c19b1 : (t2483 != t2484) = true := bne_iff_ne.mpr c19
      (first | rw [c19b0] | (simp only [i64_w, i32_w]; rw [c19b0]) | skip)
      have H' := am H
      clear H
      go_wp2
      go_meet
      case rel => exact ⟨_, (true), zq8, H', ⟨by have := HJ3.out; first | omega | exact Nat.le_refl _⟩, ⟨zq2 BK2477.out⟩, ⟨zb1 GE2477.out⟩⟩
    case rest =>
     clear HC14
     obtain ⟨kq, x39_13, rfl, HA, HJ13, BK2477, HB⟩ := hcut
     cases kq with
     | zero => exact absurd HA.out (by simp [lw_NumberToIntMatchesSpec.j1])
     | succ kj13 =>
      have H := HA.out
      clear HA
      simp only [lw_NumberToIntMatchesSpec.j1] at H
      by_cases c20 : x39_13 = true
      ·subst c20
       have H1 : (if t2483 = t2484 then (if t2482 = 0 then ((lw_counted.f kj13).bind fun t2485 => (some t2485)) else (some false)) else (some false)) = some r := by rw [if_pos rfl] at H; exact H
       clear H
       have H := H1
       clear H1
       by_cases c21 : t2483 = t2484
       ·rw [if_pos c21] at H
        have c21b0 : (t2483 == t2484) = true := beq_iff_eq.mpr c21
        have c21b1 : (t2483 != t2484) = false := bne_eq_false_iff_eq.mpr c21
        clear c21
        by_cases c22 : t2482 = 0
        ·rw [if_pos c22] at H
         have c22b0 : (t2482 == 0) = true := beq_iff_eq.mpr c22
         have c22b1 : (t2482 != 0) = false := bne_eq_false_iff_eq.mpr c22
         clear c22
         replace H := zj H
         obtain ⟨t2485, A23, H⟩ := H
         obtain rfl := Option.some.inj H
         go_wp2_with (first | (go_at_call 16; (with_reducible refine (lw_counted.calls kj13  t2485 _ A23.out).mono ?_); rintro e w24 ⟨rfl, hb⟩; refine zt2 (bb BK2477.out hb) (below_step (zb1 GE2477.out) hb) ?_; clear BK2477 HB; intro BK2477 HB; (try clear hb); (try clear hb2); (try clear hk); (try clear hi)))
         go_ret
         exact ⟨zq9, zb1 GE2477.out⟩
        ·rw [if_neg c22] at H
         have c22b0 : (t2482 == 0) = false := beq_eq_false_iff_ne.mpr c22
         have c22b1 : (t2482 != 0) = true := bne_iff_ne.mpr c22
         obtain rfl := Option.some.inj H
         cases hr
       ·rw [if_neg c21] at H
        have c21b0 : (t2483 == t2484) = false := beq_eq_false_iff_ne.mpr c21
        have c21b1 : (t2483 != t2484) = true := bne_iff_ne.mpr c21
        obtain rfl := Option.some.inj H
        cases hr
      ·replace c20 := Bool.eq_false_iff.mpr c20
       subst c20
       have H1 : ((rf_Of.f kj13 a0_0 l0_1 l0_2).bind fun bt2486 => ((rf_FromInt.f kj13 0).bind fun bt2493 => ((rf_Of.f kj13 bt2493.1 bt2493.2.1 bt2493.2.2).bind fun bt2500 => ((rf_Cmp.f kj13 bt2486.1 bt2486.2.1 bt2486.2.2 bt2500.1 bt2500.2.1 bt2500.2.2).bind fun t2507 => (if t2482 = t2507 then ((lw_counted.f kj13).bind fun t2508 => (some t2508)) else (some false)))))) = some r := by rw [if_neg (show ¬ (false = true) by decide)] at H; exact H
       clear H
       have H := H1
       clear H1
       replace H := zj H
       obtain ⟨⟨t2486, t2487, t2490⟩, A25, H⟩ := H
       try dsimp only at H
       replace H := zj H
       obtain ⟨⟨t2493, t2494, t2497⟩, A26, H⟩ := H
       try dsimp only at H
       replace H := zj H
       obtain ⟨⟨t2500, t2501, t2504⟩, A27, H⟩ := H
       try dsimp only at H
       replace H := zj H
       obtain ⟨t2507, A28, H⟩ := H
       by_cases c29 : t2482 = t2507
       ·rw [if_pos c29] at H
        have c29b0 : (t2482 == t2507) = true := beq_iff_eq.mpr c29
        have c29b1 : (t2482 != t2507) = false := bne_eq_false_iff_eq.mpr c29
        clear c29
        replace H := zj H
        obtain ⟨t2508, A30, H⟩ := H
        obtain rfl := Option.some.inj H
        have hcz31_0 := bc BK2477.out 0 (.bool a0_0)
        have hcz31_1 := bc BK2477.out 1 (.slice A0_1 l0_1.length c0_1)
        have hcz31_2 := bc BK2477.out 2 (.slice A0_2 l0_2.length c0_2)
        have hfz31_0 := blk_frozen BK2477.out 0
        have hfz31_1 := blk_frozen BK2477.out 1
        have hfz31_2 := blk_frozen BK2477.out 2
        go_wp2_with (first | ((with_reducible refine gate_callee (f := 24) rfl ?_); refine goesL_ (some 52) rfl rfl Tryd.func24 (by kernel_rfl) rfl #[.agg #[.bool a0_0, .slice A0_1 l0_1.length c0_1, .slice A0_2 l0_2.length c0_2]] rfl zq5 ?_; (with_reducible refine (rf_Of.calls kj13 a0_0 _ _ l0_1 _ _ l0_2 t2486 t2487 t2490 _ ?side1 ?side2 ?side3 ?side4 A25.out).mono ?_); (case side1 => exact zc (Kd.C_below HR0_1.out HB.out)); (case side2 => exact HC0_1.out); (case side3 => exact zc (Kd.C_below HR0_2.out HB.out)); (case side4 => exact HC0_2.out); rintro e w32 ⟨v2488, v2491, rfl, ho0, ho1, hb⟩; refine ⟨_, rfl, ?_⟩; refine zt4 (Kd.V_lower (Kd.V_mono (ok' := fun k_ => k_ ≠ gb2477) ho0 (fun k_ hk_ => (Kd.freshB (g := gb2477) (o := .cells #[.bool a0_0, .slice A0_1 l0_1.length c0_1, .slice A0_2 l0_2.length c0_2] 24 (0, 0)) (zq2 BK2477.out) k_ hk_))) (below_size (zb1 GE2477.out))) (Kd.V_lower (Kd.V_mono (ok' := fun k_ => k_ ≠ gb2477) ho1 (fun k_ hk_ => (Kd.freshB (g := gb2477) (o := .cells #[.bool a0_0, .slice A0_1 l0_1.length c0_1, .slice A0_2 l0_2.length c0_2] 24 (0, 0)) (zq2 BK2477.out) k_ hk_))) (below_size (zb1 GE2477.out))) (bb BK2477.out hb) (below_step (zb1 GE2477.out) hb) ?_; clear BK2477 HB; intro HO2489 HO2492 BK2477 HB; (try clear ho1)) | ((with_reducible refine gate_callee (f := 33) rfl ?_); refine goesL_ (some 53) rfl rfl Tryd.func33 (by kernel_rfl) rfl #[.int .i64 0] rfl zq5 ?_; (with_reducible refine (rf_FromInt.calls kj13 0 t2493 t2494 t2497 _ A26.out).mono ?_); rintro e w33 ⟨v2495, v2498, rfl, ho0, ho1, hb⟩; refine ⟨_, rfl, ?_⟩; refine zt6 (Kd.V_mono (Kd.V_told (Kd.V_told (Kd.V_old (zq3 HO2489.out) hb) (Kd.R_base ho0)) (Kd.R_base ho1)) (fun _ h_ => h_.1)) (Kd.V_mono (Kd.V_told (Kd.V_told (Kd.V_old (zq3 HO2492.out) hb) (Kd.R_base ho0)) (Kd.R_base ho1)) (fun _ h_ => h_.1)) (Kd.R_lower ho0 (below_size (zb1 GE2477.out))) (Kd.R_lower ho1 (below_size (zb1 GE2477.out))) (bb BK2477.out hb) (below_step (zb1 GE2477.out) hb) ?_; clear HO2489 HO2492 BK2477 HB; intro HO2489 HO2492 HO2496 HO2499 BK2477 HB; (try clear ho1); obtain ⟨Ao34, co34, eo34⟩ := Kd.R_slice HO2496.out; subst eo34; obtain ⟨Ao35, co35, eo35⟩ := Kd.R_slice HO2499.out; subst eo35) | ((with_reducible refine gate_callee (f := 24) rfl ?_); refine goesL_ (some 54) rfl rfl Tryd.func24 (by kernel_rfl) rfl #[.agg #[.bool t2493, .slice Ao34 t2494.length co34, .slice Ao35 t2497.length co35]] rfl zq5 ?_; (with_reducible refine (rf_Of.calls kj13 t2493 _ _ t2494 _ _ t2497 t2500 t2501 t2504 _ ?side1 ?side2 ?side3 ?side4 A27.out).mono ?_); (case side1 => exact zc ((Kd.R_reads' HO2496.out).2.2)); (case side2 => exact (Kd.R_reads' HO2496.out).2.1); (case side3 => exact zc ((Kd.R_reads' HO2499.out).2.2)); (case side4 => exact (Kd.R_reads' HO2499.out).2.1); rintro e w36 ⟨v2502, v2505, rfl, ho0, ho1, hb⟩; refine ⟨_, rfl, ?_⟩; refine zt8 (vb HO2489 hb) (vb HO2492 hb) (rb HO2496 hb) (rb HO2499 hb) (Kd.V_lower (Kd.V_mono (ok' := fun k_ => some k_ ≠ (.slice Ao34 t2494.length co34 : Value).ownBlock ∧ some k_ ≠ (.slice Ao35 t2497.length co35 : Value).ownBlock ∧ k_ ≠ gb2477) ho0 (fun k_ hk_ => ⟨(Kd.fresh' (Kd.R_lt (zq4 HO2496.out)) k_ hk_), (Kd.fresh' (Kd.R_lt (zq4 HO2499.out)) k_ hk_), (Kd.freshB (g := gb2477) (o := .cells #[.bool a0_0, .slice A0_1 l0_1.length c0_1, .slice A0_2 l0_2.length c0_2] 24 (0, 0)) (zq2 BK2477.out) k_ hk_)⟩)) (below_size (zb1 GE2477.out))) (Kd.V_lower (Kd.V_mono (ok' := fun k_ => some k_ ≠ (.slice Ao34 t2494.length co34 : Value).ownBlock ∧ some k_ ≠ (.slice Ao35 t2497.length co35 : Value).ownBlock ∧ k_ ≠ gb2477) ho1 (fun k_ hk_ => ⟨(Kd.fresh' (Kd.R_lt (zq4 HO2496.out)) k_ hk_), (Kd.fresh' (Kd.R_lt (zq4 HO2499.out)) k_ hk_), (Kd.freshB (g := gb2477) (o := .cells #[.bool a0_0, .slice A0_1 l0_1.length c0_1, .slice A0_2 l0_2.length c0_2] 24 (0, 0)) (zq2 BK2477.out) k_ hk_)⟩)) (below_size (zb1 GE2477.out))) (bb BK2477.out hb) (below_step (zb1 GE2477.out) hb) ?_; clear HO2489 HO2492 HO2496 HO2499 BK2477 HB; intro HO2489 HO2492 HO2496 HO2499 HO2503 HO2506 BK2477 HB; (try clear ho1); obtain ⟨Ao37, co37, eo37⟩ := Kd.V_slice HO2489.out; subst eo37; obtain ⟨Ao38, co38, eo38⟩ := Kd.V_slice HO2492.out; subst eo38; obtain ⟨Ao39, co39, eo39⟩ := Kd.V_slice HO2503.out; subst eo39; obtain ⟨Ao40, co40, eo40⟩ := Kd.V_slice HO2506.out; subst eo40) | ((with_reducible refine gate_callee (f := 23) rfl ?_); refine goesL_ (some 55) rfl rfl Tryd.func23 (by kernel_rfl) rfl #[.agg #[.bool t2486, .slice Ao37 t2487.length co37, .slice Ao38 t2490.length co38], .agg #[.bool t2500, .slice Ao39 t2501.length co39, .slice Ao40 t2504.length co40]] rfl zq5 ?_; (with_reducible refine (rf_Cmp.calls kj13 t2486 _ _ t2487 _ _ t2490 t2500 _ _ t2501 _ _ t2504 t2507 _ ?side1 ?side2 ?side3 ?side4 ?side5 ?side6 ?side7 ?side8 A28.out).mono ?_); (case side1 => exact zc ((Kd.V_reads' HO2489.out).2.2)); (case side2 => exact (Kd.V_reads' HO2489.out).2.1); (case side3 => exact zc ((Kd.V_reads' HO2492.out).2.2)); (case side4 => exact (Kd.V_reads' HO2492.out).2.1); (case side5 => exact zc ((Kd.V_reads' HO2503.out).2.2)); (case side6 => exact (Kd.V_reads' HO2503.out).2.1); (case side7 => exact zc ((Kd.V_reads' HO2506.out).2.2)); (case side8 => exact (Kd.V_reads' HO2506.out).2.1); rintro e w41 ⟨rfl, hb⟩; refine ⟨_, rfl, ?_⟩; refine zt8 (vb HO2489 hb) (vb HO2492 hb) (rb HO2496 hb) (rb HO2499 hb) (vb HO2503 hb) (vb HO2506 hb) (bb BK2477.out hb) (below_step (zb1 GE2477.out) hb) ?_; clear HO2489 HO2492 HO2496 HO2499 HO2503 HO2506 BK2477 HB; intro HO2489 HO2492 HO2496 HO2499 HO2503 HO2506 BK2477 HB; (try clear hb); (try clear hb2); (try clear hk); (try clear hi)) | (go_at_call 16; (with_reducible refine (lw_counted.calls kj13  t2508 _ A30.out).mono ?_); rintro e w42 ⟨rfl, hb⟩; refine zt8 (vb HO2489 hb) (vb HO2492 hb) (rb HO2496 hb) (rb HO2499 hb) (vb HO2503 hb) (vb HO2506 hb) (bb BK2477.out hb) (below_step (zb1 GE2477.out) hb) ?_; clear HO2489 HO2492 HO2496 HO2499 HO2503 HO2506 BK2477 HB; intro HO2489 HO2492 HO2496 HO2499 HO2503 HO2506 BK2477 HB; (try clear hb); (try clear hb2); (try clear hk); (try clear hi)))
        go_ret
        exact ⟨zq9, zb1 GE2477.out⟩
       ·rw [if_neg c29] at H
        have c29b0 : (t2482 == t2507) = false := beq_eq_false_iff_ne.mpr c29
        have c29b1 : (t2482 != t2507) = true := bne_iff_ne.mpr c29
        obtain rfl := Option.some.inj H
        cases hr
end Go.Proofs.YtemnjgkicndmjaaDoor.Q
namespace Go.Proofs.YtemnjgkicndmjaaDoor.Q
open Go.RowKit Go.Proofs.YtemnjgkicndmjaaDoorW.PrintWords Go.Proofs.YtemnjgkicndmjaaDoorW.PrintLast Go.Proofs.YtemnjgkicndmjaaDoorW.PrintMore
set_option linter.unusedVariables false
theorem ev_rounds {α : Type} {g : Nat → Option α} {r : α} (h : Ev g r) : ∃ k, g k = some r := by
  obtain ⟨K, hK⟩ := h
  exact ⟨K, hK K (Nat.le_refl _)⟩
theorem small_len {B : Int} (hB : 1 < B) {xs : List Int} (h : Lim B xs) (hn : Nrm xs) {n : Nat} (hv : val B xs < B ^ n) : xs.length ≤ n := by
  rcases Nat.lt_or_ge n xs.length with c | c
  · have h0 : xs ≠ [] := by rintro rfl; simp at c
    have h1 := val_ge (by omega) h hn h0
    have h2 := pow_mono' (show 0 < B by omega) (show n ≤ xs.length - 1 by omega)
    omega
  · exact c
theorem absu (i : Int) (h0 : -9223372036854775808 ≤ i) (h1 : i < 9223372036854775808) (h : i < 0) : IntKind.u64.wrap (-(IntKind.u64.wrap i)) = -i := by rw [u64w, u64w]; omega
theorem w01 : wrap64 (0 + 1) = 1 := by decide +kernel
theorem check1_ev (neg : Bool) (num den : List Int) (hn : Lim 4294967296 num) (hd : Lim 4294967296 den) : Ev (fun k => number_check.f k [⟨neg, num, den⟩]) (fault neg num den) := by
  show Ev (fun k => number_check.l0 k [⟨neg, num, den⟩] 1 0) (fault neg num den)
  refine Ev.step (f := fun k => (number_Check.f k neg num den).bind fun t418 => (if t418 = 0 then (number_check.l0 k [⟨neg, num, den⟩] 1 1) else (some t418))) (fun k => ?_) ?_
  · simp only [number_check.l0]
    rw [if_pos (by decide), if_pos (by decide), if_pos (by simp), w01]; rfl
  · refine Ev.bind (f := fun k t418 => (if t418 = 0 then (number_check.l0 k [⟨neg, num, den⟩] 1 1) else (some t418))) (Check_ev neg num den hn hd) ?_
    by_cases h : fault neg num den = 0
    · refine Ev.congr (f := fun k => number_check.l0 k [⟨neg, num, den⟩] 1 1) (fun k => by rw [if_pos h]) (Ev.step (f := fun _ => some 0) (fun k => ?_) (Ev.eq (Ev.now _) h.symm))
      simp only [number_check.l0]
      rw [if_neg (by decide)]
    · exact Ev.ret fun k => if_neg h
theorem integers1_ev (neg : Bool) (num den : List Int) (hn : Lim 4294967296 num) (hd : Lim 4294967296 den) : Ev (fun k => number_integers.f k [⟨neg, num, den⟩]) (if fault neg num den = 0 then (if den = [1] then 0 else 7) else fault neg num den) := by
  refine Ev.bind (f := fun k t1398 => (if t1398 = 0 then (number_integers.l0 k [⟨neg, num, den⟩] 1 0) else (some t1398))) (check1_ev neg num den hn hd) ?_
  by_cases h : fault neg num den = 0
  · rw [if_pos h]
    refine Ev.congr (f := fun k => number_integers.l0 k [⟨neg, num, den⟩] 1 0) (fun k => by rw [if_pos h]) ?_
    by_cases c : den = [1]
    · rw [if_pos c]
      refine Ev.step (f := fun k => number_integers.l0 k [⟨neg, num, den⟩] 1 1) (fun k => ?_) (Ev.step (f := fun _ => some 0) (fun k => ?_) (Ev.now _))
      · simp only [number_integers.l0]
        rw [if_pos (by decide), if_pos (by decide), if_pos (by simp)]
        show (nat_IsOne.f den).bind _ = _
        rw [IsOne_eq, Option.bind_some, if_pos (decide_eq_true c), w01]
      · simp only [number_integers.l0]
        rw [if_neg (by decide)]
    · rw [if_neg c]
      refine Ev.step (f := fun _ => some 7) (fun k => ?_) (Ev.now _)
      simp only [number_integers.l0]
      rw [if_pos (by decide), if_pos (by decide), if_pos (by simp)]
      show (nat_IsOne.f den).bind _ = _
      rw [IsOne_eq, Option.bind_some, if_neg (by simp [c])]
  · rw [if_neg h]
    exact Ev.ret fun k => if_neg h
def toInt (neg : Bool) (u : Int) : Int × Int := if neg = true then (if u ≤ 9223372036854775808 then (-u, 0) else (0, 3)) else (if u ≤ 9223372036854775807 then (u, 0) else (0, 3))
theorem toInt_end (neg : Bool) (u : Int) (num den : List Int) (n : Int) (h0 : 0 ≤ u) (h1 : u < 18446744073709551616) (x : List Int) (i : Int) (hi : ¬ i < n) : Ev (fun k => number_ToInt.l0 k u x n i neg num den) (toInt neg u) := by
  unfold toInt
  cases neg with
  | true =>
    rw [if_pos rfl]
    refine Ev.step (f := fun k => number_ToInt.j1 k u (decide (u ≤ 9223372036854775808)) true num den) (fun k => by simp only [number_ToInt.l0]; rw [if_neg hi, if_pos trivial]) ?_
    by_cases c : u ≤ 9223372036854775808
    · rw [if_pos c]
      refine Ev.step (f := fun _ => some (-u, 0)) (fun k => ?_) (Ev.now _)
      simp only [number_ToInt.j1]
      rw [if_pos (decide_eq_true c)]
      have e : wrap64 (IntKind.u64.wrap (-u)) = -u := by rw [u64w]; unfold wrap64; omega
      rw [e]
    · rw [if_neg c]
      refine Ev.step (f := fun _ => some (0, 3)) (fun k => ?_) (Ev.now _)
      simp only [number_ToInt.j1]
      rw [if_neg (by simpa using c), if_pos trivial]
  | false =>
    rw [if_neg (by decide)]
    refine Ev.step (f := fun k => number_ToInt.j1 k u false false num den) (fun k => by simp only [number_ToInt.l0]; rw [if_neg hi, if_neg (by decide)]) ?_
    by_cases c : u ≤ 9223372036854775807
    · rw [if_pos c]
      refine Ev.step (f := fun _ => some (u, 0)) (fun k => ?_) (Ev.now _)
      simp only [number_ToInt.j1]
      rw [if_neg (by decide), if_neg (by decide), if_pos c, w64 (by omega) c]
    · rw [if_neg c]
      refine Ev.step (f := fun _ => some (0, 3)) (fun k => ?_) (Ev.now _)
      simp only [number_ToInt.j1]
      rw [if_neg (by decide), if_neg (by decide), if_neg c]
theorem toInt_word0 (x : Int) (h0 : 0 ≤ x) (h1 : x < 4294967296) : Go.bits .or .u64 0 (shl .u64 (IntKind.u64.wrap x) (wrap64 (32 * 0))) = x := by
  have e : shl .u64 (IntKind.u64.wrap x) (wrap64 (32 * 0)) = x := by
    rw [u64_id h0 (by omega), show wrap64 (32 * 0) = 0 by decide +kernel]
    unfold shl
    simp [IntKind.bits, u64w]
    omega
  rw [e, u64_or _ _ (by omega) (by omega) h0 (by omega)]
  simp; omega
theorem toInt_word1 (x y : Int) (h0 : 0 ≤ x) (h1 : x < 4294967296) (g0 : 0 ≤ y) (g1 : y < 4294967296) : Go.bits .or .u64 x (shl .u64 (IntKind.u64.wrap y) (wrap64 (32 * 1))) = x + 4294967296 * y := by
  have e : shl .u64 (IntKind.u64.wrap y) (wrap64 (32 * 1)) = y * 4294967296 := by
    rw [u64_id g0 (by omega), show wrap64 (32 * 1) = 32 by decide +kernel]
    unfold shl
    simp [IntKind.bits, u64w]
    omega
  rw [e, bits_or_shift' g0 g1 h0 h1]; omega
theorem toInt_ev (neg : Bool) (num den : List Int) (hn : Lim 4294967296 num) (hl : num.length ≤ 2) : Ev (fun k => number_ToInt.l0 k 0 num (num.length : Int) 0 neg num den) (toInt neg (val 4294967296 num)) := by
  match num, hl with
  | [], _ => exact toInt_end neg 0 [] den 0 (by decide) (by decide) [] 0 (by decide)
  | [x], _ =>
    have h1 := (lim_cons.1 hn).1
    refine Ev.step (f := fun k => number_ToInt.l0 k x [x] 1 1 neg [x] den) (fun k => ?_) (Ev.eq (toInt_end neg x [x] den 1 h1.1 (by omega) [x] 1 (by decide)) (by simp [val]))
    simp only [number_ToInt.l0]
    rw [if_pos (by simp), if_pos (by decide), if_pos (by simp), if_pos (by decide +kernel)]
    have e : rd [x] 0 = x := rfl
    rw [e, toInt_word0 x h1.1 h1.2, show wrap64 (0 + 1) = 1 by decide +kernel]; rfl
  | [x, y], _ =>
    have h1 := (lim_cons.1 hn).1
    have h2 := (lim_cons.1 (lim_cons.1 hn).2).1
    refine Ev.step (f := fun k => number_ToInt.l0 k x [x, y] 2 1 neg [x, y] den) (fun k => ?_) (Ev.step (f := fun k => number_ToInt.l0 k (x + 4294967296 * y) [x, y] 2 2 neg [x, y] den) (fun k => ?_) (Ev.eq (toInt_end neg (x + 4294967296 * y) [x, y] den 2 (by omega) (by omega) [x, y] 2 (by decide)) (by simp [val])))
    · simp only [number_ToInt.l0]
      rw [if_pos (by simp), if_pos (by decide), if_pos (by simp), if_pos (by decide +kernel)]
      have e : rd [x, y] 0 = x := rfl
      rw [e, toInt_word0 x h1.1 h1.2, show wrap64 (0 + 1) = 1 by decide +kernel]; rfl
    · simp only [number_ToInt.l0]
      rw [if_pos (by decide), if_pos (by decide), if_pos (by simp), if_pos (by decide +kernel)]
      have e : rd [x, y] 1 = y := rfl
      rw [e, toInt_word1 x y h1.1 h1.2 h2.1 h2.2, show wrap64 (1 + 1) = 2 by decide +kernel]
theorem ToInt_ev (neg : Bool) (num den : List Int) (hn : Lim 4294967296 num) (hd : Lim 4294967296 den) :
    Ev (fun k => number_ToInt.f k neg num den) (if fault neg num den = 0 then (if den = [1] then (if num.length > 2 then (0, 3) else toInt neg (val 4294967296 num)) else (0, 7)) else (0, fault neg num den)) := by
  refine Ev.bind (f := fun k t1696 => (if t1696 = 0 then (if (num.length : Int) > 2 then (some (0, 3)) else (number_ToInt.l0 k 0 num (num.length : Int) 0 neg num den)) else (some (0, t1696)))) (integers1_ev neg num den hn hd) ?_
  by_cases h : fault neg num den = 0
  · rw [if_pos h, if_pos h]
    by_cases c : den = [1]
    · rw [if_pos c, if_pos c]
      by_cases l : num.length > 2
      · rw [if_pos l]
        exact Ev.ret fun k => by rw [if_pos rfl, if_pos (by omega)]
      · rw [if_neg l]
        exact Ev.congr (fun k => by rw [if_pos rfl, if_neg (by omega)]) (toInt_ev neg num den hn (by omega))
    · rw [if_neg c, if_neg c]
      exact Ev.ret fun k => if_neg (by decide)
  · rw [if_neg h, if_neg h]
    exact Ev.ret fun k => if_neg h
theorem ofInt_64 (a : Nat) (ha : a < 18446744073709551616) : (BitVec.ofInt 64 (a : Int)).toNat = a := by
  rw [BitVec.ofInt_natCast, BitVec.toNat_ofNat]; exact Nat.mod_eq_of_lt (by omega)
theorem i64w (n : Int) (h0 : 0 ≤ n) (h1 : n < 9223372036854775808) : IntKind.i64.wrap n = n := by
  simp [IntKind.wrap, IntKind.bits, IntKind.signed]; omega
theorem i64_and (a b : Int) (h1 : 0 ≤ a) (h2 : a < 9223372036854775808) (h3 : 0 ≤ b) (h4 : b < 9223372036854775808) : Go.bits .and .i64 a b = ((a.toNat &&& b.toNat : Nat) : Int) := by
  obtain ⟨A, rfl⟩ := Int.eq_ofNat_of_zero_le h1
  obtain ⟨B, rfl⟩ := Int.eq_ofNat_of_zero_le h3
  have hx : A &&& B < 2 ^ 63 := Nat.and_lt_two_pow _ (by omega)
  show IntKind.i64.wrap ((BitVec.ofInt 64 (A : Int) &&& BitVec.ofInt 64 (B : Int)).toNat : Int) = _
  rw [BitVec.toNat_and, ofInt_64 A (by omega), ofInt_64 B (by omega), i64w _ (by omega) (by omega)]
  rfl
theorem i64_or (a b : Int) (h1 : 0 ≤ a) (h2 : a < 9223372036854775808) (h3 : 0 ≤ b) (h4 : b < 9223372036854775808) : Go.bits .or .i64 a b = ((a.toNat ||| b.toNat : Nat) : Int) := by
  obtain ⟨A, rfl⟩ := Int.eq_ofNat_of_zero_le h1
  obtain ⟨B, rfl⟩ := Int.eq_ofNat_of_zero_le h3
  have hx : A ||| B < 2 ^ 63 := Nat.or_lt_two_pow (by omega) (by omega)
  show IntKind.i64.wrap ((BitVec.ofInt 64 (A : Int) ||| BitVec.ofInt 64 (B : Int)).toNat : Int) = _
  rw [BitVec.toNat_or, ofInt_64 A (by omega), ofInt_64 B (by omega), i64w _ (by omega) (by omega)]
  rfl
theorem i64_and1 {x : Int} (h0 : 0 ≤ x) (h1 : x < 9223372036854775808) : Go.bits .and .i64 x 1 = x % 2 := by
  rw [i64_and _ _ h0 h1 (by omega) (by omega)]
  have : (1 : Int).toNat = 1 := rfl
  rw [this, Nat.and_one_is_mod]; omega
theorem rtrim_ev (xs : List Int) : xs.length ≤ 1099511627776 → Ev (fun k => rf_trim.f k xs) (trim xs) := by
  show xs.length ≤ 1099511627776 → Ev (fun k => rf_trim.l0 k xs) (trim xs)
  refine snoc_induction (P := fun xs => xs.length ≤ 1099511627776 → Ev (fun k => rf_trim.l0 k xs) (trim xs)) ?_ ?_ xs
  · intro _
    exact Ev.step (f := fun _ => some []) (fun k => by simp only [rf_trim.l0]; rfl) (Ev.now _)
  · intro xs x ih hl
    rw [List.length_append, List.length_singleton] at hl
    have h1 : ((xs ++ [x]).length : Int) > 0 := by rw [List.length_append, List.length_singleton]; omega
    have h2 : wrap64 (((xs ++ [x]).length : Int) - 1) = (xs.length : Int) := by rw [List.length_append, List.length_singleton, w64 (by omega) (by omega)]; omega
    have h3 : (xs.length : Int) < ((xs ++ [x]).length : Int) := by rw [List.length_append, List.length_singleton]; omega
    have h4 : rd (xs ++ [x]) (xs.length : Int) = x := by rw [rd_getD, List.getD_eq_getElem?_getD, List.getElem?_append_right (Nat.le_refl _)]; simp
    have h5 : (xs ++ [x]).take xs.length = xs := by rw [List.take_append_of_le_length (Nat.le_refl _), List.take_of_length_le (Nat.le_refl _)]
    have h0 : (0 : Int) ≤ (xs.length : Int) := by omega
    by_cases c : x = 0
    · subst c
      rw [trim_snoc_zero]
      refine Ev.step (f := fun k => rf_trim.l0 k xs) (fun k => ?_) (ih (by omega))
      simp only [rf_trim.l0]
      rw [if_pos h1, h2, if_pos h0, if_pos h3, h4, if_pos (by rfl), if_pos (Int.le_of_lt h3), Int.toNat_natCast, h5]
    · rw [trim_snoc _ c]
      refine Ev.step (f := fun _ => some (xs ++ [x])) (fun k => ?_) (Ev.now _)
      simp only [rf_trim.l0]
      rw [if_pos h1, h2, if_pos h0, if_pos h3, h4, if_neg c]
theorem rdigit (l : List Int) (i : Nat) : rf_digit.f l (i : Int) = some (l.getD i 0) := by
  unfold rf_digit.f
  by_cases h : i < l.length
  · rw [if_pos (by omega), if_pos (by omega), rd_getD]
  · rw [if_neg (by omega), List.getD_eq_getElem?_getD, List.getElem?_eq_none (by omega)]; rfl
theorem u32_pair {a b : Int} (ha0 : 0 ≤ a) (ha : a < 65536) (hb0 : 0 ≤ b) (hb : b < 65536) : Go.bits .or .u32 (a % 4294967296) ((b % 4294967296 * 65536) % 4294967296) = a + 65536 * b := by
  have e1 : a % 4294967296 = a := by omega
  have e2 : (b % 4294967296 * 65536) % 4294967296 = b * 65536 := by omega
  rw [e1, e2, u32_or _ _ ha0 (by omega) (by omega) (by omega), Nat.or_comm, nat_join 16 _ _ (by omega) (by omega)]
  omega
theorem nrm_of_val {B : Int} (hB : 0 < B) {xs : List Int} (h : Lim B xs) (hv : xs ≠ [] → B ^ (xs.length - 1) ≤ val B xs) : Nrm xs := by
  by_cases e : xs = []
  · rw [e]; exact nrm_nil
  · have h1 := hv e
    rw [← List.dropLast_concat_getLast e] at h h1 ⊢
    rw [nrm_snoc]
    intro h2
    have h3 := val_lt hB (lim_append.1 h).1
    rw [val_snoc, h2, Int.mul_zero, Int.add_zero, List.length_append, List.length_singleton, Nat.add_sub_cancel] at h1
    omega
theorem limbs_loop (x : List Int) (hx : Lim 65536 x) (hL : x.length ≤ 137438953472) : ∀ (d i : Nat) (out : List Int), x.length ≤ 2 * i + 2 * d → (0 < d → 2 * i + 2 * d < x.length + 2) → out.length = i → Lim 4294967296 out → val 4294967296 out = val 65536 (x.take (2 * i)) →
    ∃ r, Ev (fun k => rf_limbs.l0 k x out ((2 * i : Nat) : Int)) r ∧ r.length = i + d ∧ Lim 4294967296 r ∧ val 4294967296 r = val 65536 x := by
  have hB : (0 : Int) < 65536 := by decide
  intro d
  induction d with
  | zero =>
    intro i out h1 h2 hl ho hv
    refine ⟨out, Ev.step (f := fun _ => some out) (fun k => ?_) (Ev.now _), by omega, ho, by rw [hv, List.take_of_length_le (by omega)]⟩
    simp only [rf_limbs.l0]
    rw [if_neg (by omega)]
  | succ d ih =>
    intro i out h1 h2 hl ho hv
    have h2' := h2 (by omega)
    have g1 : ((2 * i : Nat) : Int) < (x.length : Int) := by omega
    have g2 : (0 : Int) ≤ ((2 * i : Nat) : Int) := by omega
    have g3 : out.length < 35184372088832 := by omega
    have g4 : x.length ≤ 2 * (i + 1) + 2 * d := by omega
    have g5 : 0 < d → 2 * (i + 1) + 2 * d < x.length + 2 := by omega
    have e1 : ∀ _ : Unit, wrap64 (((2 * i : Nat) : Int) + 1) = ((2 * i + 1 : Nat) : Int) := fun _ => by rw [w64 (by omega) (by omega)]; omega
    have e2 : ∀ _ : Unit, wrap64 (((2 * i : Nat) : Int) + 2) = ((2 * (i + 1) : Nat) : Int) := fun _ => by rw [w64 (by omega) (by omega)]; omega
    have ha := hx.getD hB (2 * i)
    have hb := hx.getD hB (2 * i + 1)
    have hv2 : val 65536 (x.take (2 * (i + 1))) = val 65536 (x.take (2 * i)) + 65536 ^ (2 * i) * (x.getD (2 * i) 0 + 65536 * x.getD (2 * i + 1) 0) := by
      have : 2 * (i + 1) = 2 * i + 1 + 1 := by omega
      rw [this, val_take_succ', val_take_succ', Int.pow_succ]
      generalize (65536 : Int) ^ (2 * i) = p
      grind
    obtain ⟨r, hr, r1, r2, r3⟩ := ih (i + 1) (out ++ [x.getD (2 * i) 0 + 65536 * x.getD (2 * i + 1) 0]) g4 g5 (by rw [List.length_append, List.length_singleton, hl]) (lim_nrm_snoc ho ⟨by omega, by omega⟩) (by
      rw [val_snoc, hv, hv2, hl, Int.pow_mul, show (65536 : Int) ^ 2 = 4294967296 from rfl])
    refine ⟨r, Ev.step (f := fun k => rf_limbs.l0 k x (out ++ [x.getD (2 * i) 0 + 65536 * x.getD (2 * i + 1) 0]) ((2 * (i + 1) : Nat) : Int)) (fun k => ?_) hr, by omega, r2, r3⟩
    simp only [rf_limbs.l0]
    rw [if_pos g1, if_pos g2, e1 (), rdigit, Option.bind_some, if_pos g3, rd_getD, u32_pair ha.1 ha.2 hb.1 hb.2, e2 ()]
theorem limbs_ev (x : List Int) (hx : Lim 65536 x) (nx : Nrm x) (hL : x.length ≤ 137438953472) :
    ∃ r, Ev (fun k => rf_limbs.f k x) r ∧ Lim 4294967296 r ∧ Nrm r ∧ val 4294967296 r = val 65536 x ∧ r.length = (x.length + 1) / 2 := by
  obtain ⟨r, h1, h2, h3, h4⟩ := limbs_loop x hx hL ((x.length + 1) / 2) 0 [] (by omega) (by omega) rfl (lim_nil _) (by simp [val])
  refine ⟨r, h1, h3, nrm_of_val (by decide) h3 (fun hr => ?_), h4, by omega⟩
  have hx0 : x ≠ [] := by
    rintro rfl
    exact hr (List.length_eq_zero_iff.1 (by rw [h2]; rfl))
  have h5 := val_ge (by decide) hx nx hx0
  have hl : x.length ≠ 0 := fun h' => hx0 (List.length_eq_zero_iff.1 h')
  have h6 : (4294967296 : Int) ^ (r.length - 1) = 65536 ^ (2 * (r.length - 1)) := by rw [Int.pow_mul]; rfl
  have h7 := pow_mono' (B := 65536) (by decide) (show 2 * (r.length - 1) ≤ x.length - 1 by omega)
  rw [h4, h6]
  omega
theorem Made_ev (neg : Bool) (a b : List Int) (ha : Lim 65536 a) (hb : Lim 65536 b) (na : Nrm a) (nb : Nrm b) (La : a.length ≤ 137438953472) (Lb : b.length ≤ 137438953472) :
    ∃ p q, Lim 4294967296 p ∧ Nrm p ∧ val 4294967296 p = val 65536 a ∧ Lim 4294967296 q ∧ Nrm q ∧ val 4294967296 q = val 65536 b ∧
      (p.length > 128 ∨ q.length > 128 → Ev (fun k => rf_Made.f k neg a b) (false, [], [], 3)) ∧ (p.length ≤ 128 → q.length ≤ 128 → Ev (fun k => rf_Made.f k neg a b) (neg, p, q, 0)) := by
  obtain ⟨p, p1, p2, p3, p4, p5⟩ := limbs_ev a ha na La
  obtain ⟨q, q1, q2, q3, q4, q5⟩ := limbs_ev b hb nb Lb
  have key : ∀ R, Ev (fun _ => if (p.length : Int) > 128 then (some (false, ([] : List Int), ([] : List Int), (3 : Int))) else (if (q.length : Int) > 128 then (some (false, ([] : List Int), ([] : List Int), 3)) else (some (neg, p, q, 0)))) R → Ev (fun k => rf_Made.f k neg a b) R := by
    intro R hR
    refine Ev.bind (f := fun k t634 => ((rf_limbs.f k b).bind fun t637 => (if (t634.length : Int) > 128 then (some (false, ([] : List Int), ([] : List Int), (3 : Int))) else (if (t637.length : Int) > 128 then (some (false, ([] : List Int), ([] : List Int), 3)) else (some (neg, t634, t637, 0)))))) p1 ?_
    exact Ev.bind (f := fun _ t637 => (if (p.length : Int) > 128 then (some (false, ([] : List Int), ([] : List Int), (3 : Int))) else (if (t637.length : Int) > 128 then (some (false, ([] : List Int), ([] : List Int), 3)) else (some (neg, p, t637, 0))))) q1 hR
  refine ⟨p, q, p2, p3, p4, q2, q3, q4, fun h => key _ ?_, fun h1 h2 => key _ ?_⟩
  · by_cases c : p.length > 128
    · exact Ev.const (if_pos (by omega))
    · exact Ev.const (by rw [if_neg (by omega), if_pos (by omega)])
  · exact Ev.const (by rw [if_neg (by omega), if_neg (by omega)])
theorem limbs_one : Lim 65536 [1] ∧ Nrm [1] ∧ val 65536 [1] = 1 := ⟨one_lim (by decide), one_nrm, val_one _⟩
theorem u64_low {x : Int} (h0 : 0 ≤ x) (h1 : x < 18446744073709551616) : wrap64 (Go.bits .and .u64 x 65535) = x % 65536 := by
  rw [u64_and _ _ h0 h1 (by omega) (by omega), show (65535 : Int).toNat = 2 ^ 16 - 1 from rfl, Nat.and_two_pow_sub_one_eq_mod, w64 (by omega) (by omega)]
  omega
theorem OfInt_loop : ∀ (d : Nat) (x : Int) (out : List Int), 0 ≤ x → x < 65536 ^ d → x < 18446744073709551616 → out.length + d ≤ 4 → Lim 65536 out → (x = 0 → Nrm out) →
    ∃ r, Ev (fun k => rf_OfInt.l0 k x out) r ∧ Lim 65536 r ∧ Nrm r ∧ val 65536 r = val 65536 out + 65536 ^ out.length * x ∧ r.length ≤ 4 := by
  have hend : ∀ out : List Int, out.length ≤ 4 → Lim 65536 out → Nrm out → ∃ r, Ev (fun k => rf_OfInt.l0 k 0 out) r ∧ Lim 65536 r ∧ Nrm r ∧ val 65536 r = val 65536 out + 65536 ^ out.length * 0 ∧ r.length ≤ 4 := by
    intro out hl ho hn
    refine ⟨out, Ev.step (f := fun _ => some out) (fun k => ?_) (Ev.now _), ho, hn, by simp, hl⟩
    simp only [rf_OfInt.l0]
    rw [if_neg (by decide)]
  intro d
  induction d with
  | zero =>
    intro x out h0 h1 h2 hl ho hn
    have e : x = 0 := by simp at h1; omega
    subst e
    exact hend out (by omega) ho (hn rfl)
  | succ d ih =>
    intro x out h0 h1 h2 hl ho hn
    by_cases e : x = 0
    · subst e
      exact hend out (by omega) ho (hn rfl)
    · have g1 : out.length < 17592186044416 := by omega
      have h3 : x / 65536 < 65536 ^ d := by
        rw [Int.pow_succ] at h1
        exact Int.ediv_lt_of_lt_mul (by decide) h1
      obtain ⟨r, r1, r2, r3, r4, r5⟩ := ih (x / 65536) (out ++ [x % 65536]) (by omega) h3 (by omega) (by rw [List.length_append, List.length_singleton]; omega) (lim_nrm_snoc ho ⟨by omega, by omega⟩) (fun hz => nrm_snoc.2 (by omega))
      refine ⟨r, Ev.step (f := fun k => rf_OfInt.l0 k (x / 65536) (out ++ [x % 65536])) (fun k => ?_) r1, r2, r3, ?_, r5⟩
      · simp only [rf_OfInt.l0]
        rw [if_pos (by omega), if_pos g1, u64_low h0 h2]
      · rw [r4, val_snoc, List.length_append, List.length_singleton, Int.pow_succ]
        have e2 : x = x % 65536 + 65536 * (x / 65536) := by omega
        generalize x / 65536 = q at *
        generalize x % 65536 = m at *
        subst e2
        generalize (65536 : Int) ^ out.length = p
        clear r1 h3 ih
        grind
theorem OfInt_ev (x : Int) (h0 : 0 ≤ x) (h1 : x < 18446744073709551616) : ∃ r, Ev (fun k => rf_OfInt.f k x) r ∧ Lim 65536 r ∧ Nrm r ∧ val 65536 r = x ∧ r.length ≤ 4 := by
  obtain ⟨r, r1, r2, r3, r4, r5⟩ := OfInt_loop 4 x [] h0 h1 h1 (by decide) (lim_nil _) (fun _ => nrm_nil)
  exact ⟨r, r1, r2, r3, by rw [r4]; simp [val], r5⟩
theorem Whole_eq (neg : Bool) (a : List Int) : rf_Whole.f neg a = some (neg && decide (a ≠ []), a, [1]) := by
  unfold rf_Whole.f
  cases neg with
  | false => rfl
  | true =>
    rw [if_pos rfl]
    cases a with
    | nil => rfl
    | cons x xs => rw [if_pos (by simp only [List.length_cons]; omega)]; simp
theorem RFromInt_ev (i : Int) (h0 : -9223372036854775808 ≤ i) (h1 : i < 9223372036854775808) (l : List Int) (hl : Lim 4294967296 l) (nl : Nrm l) (vl : val 4294967296 l = (i.natAbs : Int)) :
    Ev (fun k => rf_FromInt.f k i) (decide (i < 0), l, [1]) := by
  have main : ∀ (neg : Bool) (x : Int), 0 ≤ x → x < 18446744073709551616 → val 4294967296 l = x → (neg && decide (x ≠ 0)) = decide (i < 0) →
      Ev (fun k => (rf_OfInt.f k x).bind fun t1702 => ((rf_Whole.f neg t1702).bind fun bt1705 => ((rf_Made.f k bt1705.1 bt1705.2.1 bt1705.2.2).bind fun bt1712 => (some (bt1712.1, bt1712.2.1, bt1712.2.2.1))))) (decide (i < 0), l, [1]) := by
    intro neg x x0 x1 hx hneg
    obtain ⟨r, r1, r2, r3, r4, r5⟩ := OfInt_ev x x0 x1
    refine Ev.bind (f := fun k t1702 => ((rf_Whole.f neg t1702).bind fun bt1705 => ((rf_Made.f k bt1705.1 bt1705.2.1 bt1705.2.2).bind fun bt1712 => (some (bt1712.1, bt1712.2.1, bt1712.2.2.1))))) r1 ?_
    refine Ev.congr (f := fun k => (rf_Made.f k (neg && decide (r ≠ [])) r [1]).bind fun bt1712 => (some (bt1712.1, bt1712.2.1, bt1712.2.2.1))) (fun k => by rw [Whole_eq, Option.bind_some]) ?_
    obtain ⟨p, q, p1, p2, p3, q1, q2, q3, _, hm⟩ := Made_ev (neg && decide (r ≠ [])) r [1] r2 limbs_one.1 r3 limbs_one.2.1 (by omega) (by decide)
    have ep : p = l := val_inj (by decide) p1 hl p2 nl (by rw [p3, r4, hx])
    have eq : q = [1] := (eq_one (by decide) q1 q2).1 (by rw [q3]; exact val_one _)
    subst ep
    subst eq
    have lp : p.length ≤ 2 := small_len (by decide) p1 p2 (by rw [hx]; exact x1)
    have hr : decide (r ≠ []) = decide (x ≠ 0) := by
      have := val_eq_zero (by decide) r2 r3
      rw [r4] at this
      simp [this]
    refine Ev.bind (f := fun _ bt1712 => (some (bt1712.1, bt1712.2.1, bt1712.2.2.1))) (hm (by omega) (by decide)) (Ev.eq (Ev.now _) ?_)
    rw [hr, hneg]
  by_cases h : i < 0
  · refine Ev.congr (fun k => ?_) (main true (-i) (by omega) (by omega) (by omega) (by simp [h]; omega))
    unfold rf_FromInt.f
    rw [if_pos h, absu i h0 h1 h]
  · refine Ev.congr (fun k => ?_) (main false i (by omega) (by omega) (by omega) (by simp [h]))
    unfold rf_FromInt.f
    rw [if_neg h, u64_id (by omega) (by omega)]
theorem can_int (i : Int) (l : List Int) (hl : Lim 4294967296 l) (nl : Nrm l) (vl : val 4294967296 l = (i.natAbs : Int)) (h2 : l.length ≤ 128) : Can (decide (i < 0)) l [1] where
  ln := h2
  ld := by decide
  nn := nl
  nd := one_nrm
  d0 := by decide
  ng := by rintro rfl; simp [val] at vl; simp; omega
  gc := by rw [val_one]; exact Nat.gcd_one_right _
theorem rbit0 {l : List Int} (h : Lim 65536 l) : rf_bit.f l 0 = some (val 65536 l % 2) := by
  unfold rf_bit.f
  have e : wrap64 (Int.tdiv 0 16) = ((0 : Nat) : Int) := by decide +kernel
  have hx := h.getD (by decide) 0
  rw [e, rdigit, Option.bind_some, if_pos (by decide)]
  have e2 : shr .i64 (l.getD 0 0) (Int.tmod 0 16) = l.getD 0 0 := by
    unfold shr
    rw [show min (Int.tmod 0 16).toNat (IntKind.i64).bits = 0 by decide, Int.pow_zero, Int.ediv_one]
  rw [e2, i64_and1 hx.1 (by omega)]
  cases l with
  | nil => rfl
  | cons x xs => simp [val]; omega
theorem natOf_loop (xs : List Int) (hx : Lim 4294967296 xs) (hL : xs.length ≤ 137438953472) : ∀ (d i : Nat) (out : List Int), d + i = xs.length → out.length = 2 * i → Lim 65536 out → val 65536 out = val 4294967296 (xs.take i) →
    ∃ r, Ev (fun k => rf_natOf.l0 k out xs (xs.length : Int) (i : Int)) (trim r) ∧ r.length = 2 * xs.length ∧ Lim 65536 r ∧ val 65536 r = val 4294967296 xs := by
  have hB : (0 : Int) < 4294967296 := by decide
  intro d
  induction d with
  | zero =>
    intro i out hd hl ho hv
    refine ⟨out, Ev.step (f := fun k => (rf_trim.f k out).bind fun t => some t) (fun k => ?_) (Ev.bind (f := fun _ t => some t) (rtrim_ev out (by omega)) (Ev.now _)), by omega, ho, by rw [hv, List.take_of_length_le (by omega)]⟩
    simp only [rf_natOf.l0]
    rw [if_neg (by omega)]
  | succ d ih =>
    intro i out hd hl ho hv
    have g1 : (i : Int) < (xs.length : Int) := by omega
    have g2 : (0 : Int) ≤ (i : Int) := by omega
    have g3 : i < xs.length := by omega
    have g4 : ∀ z : List Int, z.length = 2 → out.length + z.length < 17592186044416 := fun z hz => by omega
    have g5 : d + (i + 1) = xs.length := by omega
    have g7 : ∀ _ : Unit, wrap64 ((i : Int) + 1) = ((i + 1 : Nat) : Int) := fun _ => by rw [w64 (by omega) (by omega)]; omega
    have hxi := hx.rd hB (i : Int)
    have hxg : rd xs (i : Int) = xs.getD i 0 := rd_getD xs i
    generalize rd xs (i : Int) = x at hxi hxg
    have e1 : wrap64 (Go.bits .and .u32 x 65535) = x % 65536 := by
      rw [u32_and _ _ hxi.1 hxi.2 (by omega) (by omega), show (65535 : Int).toNat = 2 ^ 16 - 1 from rfl, Nat.and_two_pow_sub_one_eq_mod, w64 (by omega) (by omega)]
      omega
    have e2 : wrap64 (x / 65536) = x / 65536 := w64 (by omega) (by omega)
    obtain ⟨r, hev, h⟩ := ih (i + 1) (out ++ [x % 65536, x / 65536]) g5 (by rw [List.length_append, hl]; simp; omega) (by
        have h1 := lim_nrm_snoc ho (x := x % 65536) ⟨by omega, by omega⟩
        have h2 := lim_nrm_snoc h1 (x := x / 65536) ⟨by omega, by omega⟩
        rw [List.append_assoc] at h2; exact h2) (by
        rw [val_append, hv, val_take_succ _ _ _ g3, ← hxg, hl, Int.pow_mul, show (65536 : Int) ^ 2 = 4294967296 from rfl]
        have h3 : val 65536 [x % 65536, x / 65536] = x := by simp [val]; omega
        rw [h3])
    refine ⟨r, Ev.step (f := fun k => rf_natOf.l0 k (out ++ [x % 65536, x / 65536]) xs (xs.length : Int) ((i + 1 : Nat) : Int)) (fun k => ?_) hev, h⟩
    simp only [rf_natOf.l0]
    rw [if_pos g1, if_pos g2, if_pos g1, rd_getD, ← hxg, e1, e2, Option.bind_some, if_pos (g4 _ rfl), g7 ()]
theorem natOf_ev (xs : List Int) (hx : Lim 4294967296 xs) (hL : xs.length ≤ 137438953472) :
    ∃ r, Ev (fun k => rf_natOf.f k xs) r ∧ Lim 65536 r ∧ Nrm r ∧ val 65536 r = val 4294967296 xs ∧ r.length ≤ 2 * xs.length := by
  obtain ⟨r, h1, h2, h3, h4⟩ := natOf_loop xs hx hL xs.length 0 [] (by omega) (by simp) (lim_nil _) (by simp [val])
  exact ⟨trim r, h1, lim_trim h3, nrm_trim _, by rw [val_trim, h4], by rw [← h2]; exact length_trim r⟩
theorem rcmp_loop (xs ys : List Int) (hx : Lim 65536 xs) (hy : Lim 65536 ys) (hLx : xs.length ≤ 1099511627776) (hLy : ys.length ≤ 1099511627776) : ∀ i : Nat, i ≤ 1099511627776 → val 65536 (xs.drop i) = val 65536 (ys.drop i) →
    Ev (fun k => rf_CmpNat.l0 k xs ys ((i : Int) - 1)) (cmpI (val 65536 xs) (val 65536 ys)) := by
  have hB : (0 : Int) < 65536 := by decide
  have hsp : ∀ (zs : List Int) (i : Nat), val 65536 zs = val 65536 (zs.take i) + 65536 ^ i * val 65536 (zs.drop i) := by
    intro zs i
    by_cases h : i ≤ zs.length
    · exact val_split _ zs i h
    · rw [List.take_of_length_le (by omega), List.drop_of_length_le (by omega)]; simp [val]
  have hdr : ∀ (zs : List Int) (i : Nat), val 65536 (zs.drop i) = zs.getD i 0 + 65536 * val 65536 (zs.drop (i + 1)) := by
    intro zs i
    by_cases h : i < zs.length
    · exact val_drop _ zs i h
    · rw [List.drop_of_length_le (by omega), List.drop_of_length_le (by omega), List.getD_eq_getElem?_getD, List.getElem?_eq_none (by omega)]; simp [val]
  have htk : ∀ (zs : List Int) (i : Nat), Lim 65536 zs → 0 ≤ val 65536 (zs.take i) ∧ val 65536 (zs.take i) < 65536 ^ i := by
    intro zs i hz
    refine ⟨val_nonneg hB (hz.take i), ?_⟩
    have h1 := val_lt hB (hz.take i)
    have h2 := pow_mono' hB (show (zs.take i).length ≤ i by rw [List.length_take]; omega)
    omega
  intro i
  induction i with
  | zero =>
    intro _ h
    rw [List.drop_zero, List.drop_zero] at h
    refine Ev.step (f := fun _ => some 0) (fun k => ?_) (Ev.eq (Ev.now _) ?_)
    · simp only [rf_CmpNat.l0]; rw [if_neg (by omega)]
    · rw [h]; unfold cmpI; rw [if_neg (by omega), if_neg (by omega)]
  | succ i ih =>
    intro hi h
    have e1 : (((i + 1 : Nat) : Int) - 1) = (i : Int) := by omega
    have e2 : ∀ _ : Unit, wrap64 ((i : Int) - 1) = (i : Int) - 1 := fun _ => w64 (by omega) (by omega)
    have g1 : (i : Int) ≥ 0 := by omega
    have hxi := hx.getD hB i
    have hyi := hy.getD hB i
    have dx := hdr xs i
    have dy := hdr ys i
    have sx := hsp xs i
    have sy := hsp ys i
    have tx := htk xs i hx
    have ty := htk ys i hy
    rw [h] at dx
    have hp : (0 : Int) < 65536 ^ i := Int.pow_pos (by decide)
    have key : ∀ a b : Int, a < b → ∀ s t : Int, 0 ≤ s → s < 65536 ^ i → 0 ≤ t → t < 65536 ^ i → s + 65536 ^ i * a < t + 65536 ^ i * b := by
      intro a b hab s t hs0 hs ht0 ht
      have : 65536 ^ i * (a + 1) ≤ 65536 ^ i * b := Int.mul_le_mul_of_nonneg_left (by omega) (by omega)
      rw [Int.mul_add, Int.mul_one] at this
      omega
    by_cases c1 : xs.getD i 0 < ys.getD i 0
    · refine Ev.step (f := fun _ => some (-1)) (fun k => ?_) (Ev.eq (Ev.now _) ?_)
      · simp only [rf_CmpNat.l0]
        rw [e1, if_pos g1, rdigit, rdigit, Option.bind_some, Option.bind_some, if_pos c1]
      · have := key (val 65536 (xs.drop i)) (val 65536 (ys.drop i)) (by omega) _ _ tx.1 tx.2 ty.1 ty.2
        unfold cmpI; rw [if_pos (by omega)]
    · by_cases c2 : xs.getD i 0 > ys.getD i 0
      · refine Ev.step (f := fun _ => some 1) (fun k => ?_) (Ev.eq (Ev.now _) ?_)
        · simp only [rf_CmpNat.l0]
          rw [e1, if_pos g1, rdigit, rdigit, Option.bind_some, Option.bind_some, if_neg c1, if_pos c2]
        · have := key (val 65536 (ys.drop i)) (val 65536 (xs.drop i)) (by omega) _ _ ty.1 ty.2 tx.1 tx.2
          unfold cmpI; rw [if_neg (by omega), if_pos (by omega)]
      · refine Ev.step (f := fun k => rf_CmpNat.l0 k xs ys ((i : Int) - 1)) (fun k => ?_) (ih (by omega) (by omega))
        simp only [rf_CmpNat.l0]
        rw [e1, if_pos g1, rdigit, rdigit, Option.bind_some, Option.bind_some, if_neg c1, if_neg c2, e2 ()]
theorem CmpNat_ev (xs ys : List Int) (hx : Lim 65536 xs) (hy : Lim 65536 ys) (hLx : xs.length ≤ 1099511627776) (hLy : ys.length ≤ 1099511627776) : Ev (fun k => rf_CmpNat.f k xs ys) (cmpI (val 65536 xs) (val 65536 ys)) := by
  have h := rcmp_loop xs ys hx hy hLx hLy (max xs.length ys.length) (by omega) (by rw [List.drop_of_length_le (by omega), List.drop_of_length_le (by omega)])
  refine Ev.congr (fun k => ?_) h
  unfold rf_CmpNat.f mx
  congr 1
  by_cases c : xs.length < ys.length
  · rw [if_pos (by omega), w64 (by omega) (by omega), Nat.max_eq_right (by omega)]
  · rw [if_neg (by omega), w64 (by omega) (by omega), Nat.max_eq_left (by omega)]
end Go.Proofs.YtemnjgkicndmjaaDoor.Q

namespace Go.Proofs.YtemnjgkicndmjaaDoor.Q
open Go.RowKit Go.Proofs.YtemnjgkicndmjaaDoorW.PrintWords Go.Proofs.YtemnjgkicndmjaaDoorW.PrintLast Go.Proofs.YtemnjgkicndmjaaDoorW.PrintMore
set_option linter.unusedVariables false
theorem rsub_loop (xs ys : List Int) (hx : Lim 65536 xs) (hy : Lim 65536 ys) (hge : val 65536 ys ≤ val 65536 xs) (hL : xs.length ≤ 1099511627776) : ∀ (d i : Nat) (out : List Int) (b : Int), d + i = xs.length → out.length = i → Lim 65536 out → 0 ≤ b → b ≤ 1 →
    val 65536 out - 65536 ^ i * b = val 65536 (xs.take i) - val 65536 (ys.take i) →
    ∃ r, Ev (fun k => rf_SubNat.l0 k xs ys out b (xs.length : Int) (i : Int)) (trim r) ∧ r.length = xs.length ∧ Lim 65536 r ∧ val 65536 r = val 65536 xs - val 65536 ys := by
  have hB : (0 : Int) < 65536 := by decide
  intro d
  induction d with
  | zero =>
    intro i out b hd hl ho hb0 hb hv
    refine ⟨out, Ev.step (f := fun k => (rf_trim.f k out).bind fun t => some t) (fun k => ?_) (Ev.bind (f := fun _ t => some t) (rtrim_ev out (by omega)) (Ev.now _)), by omega, ho, ?_⟩
    · simp only [rf_SubNat.l0]
      rw [if_neg (by omega)]
    · have h1 := val_lt hB hx
      have h2 := val_split' 65536 ys i
      have h3 := val_nonneg hB (hy.take i)
      have h4 := val_nonneg hB (hy.drop i)
      have h5 := val_lt hB ho
      have h6 := val_nonneg hB ho
      rw [List.take_of_length_le (by omega)] at hv
      rw [show xs.length = i by omega] at h1
      rw [hl] at h5
      have hp : (0 : Int) < 65536 ^ i := Int.pow_pos (by decide)
      generalize val 65536 (ys.drop i) = z at *
      have hz : z = 0 := by
        rcases Int.lt_or_le 0 z with h | h
        · have : 65536 ^ i * 1 ≤ 65536 ^ i * z := Int.mul_le_mul_of_nonneg_left (by omega) (by omega)
          omega
        · omega
      have hb1 : b = 0 := by
        rcases Int.lt_or_le 0 b with h | h
        · have e : b = 1 := by omega
          rw [e, Int.mul_one] at hv
          rw [hz, Int.mul_zero] at h2
          omega
        · omega
      rw [hb1, Int.mul_zero] at hv
      rw [hz, Int.mul_zero] at h2
      omega
  | succ d ih =>
    intro i out b hd hl ho hb0 hb hv
    have g1 : (i : Int) < (xs.length : Int) := by omega
    have g2 : (0 : Int) ≤ (i : Int) := by omega
    have g4 : out.length < 17592186044416 := by omega
    have g5 : d + (i + 1) = xs.length := by omega
    have g7 : ∀ _ : Unit, wrap64 ((i : Int) + 1) = ((i + 1 : Nat) : Int) := fun _ => by rw [w64 (by omega) (by omega)]; omega
    have hxi := hx.getD hB i
    have hyi := hy.getD hB i
    have tx := val_take_succ' 65536 xs i
    have ty := val_take_succ' 65536 ys i
    have hrd : rd xs (i : Int) = xs.getD i 0 := rd_getD xs i
    have hdg : rf_digit.f ys (i : Int) = some (ys.getD i 0) := rdigit ys i
    generalize xs.getD i 0 = x at *
    generalize ys.getD i 0 = y at *
    have e1 : ∀ _ : Unit, wrap64 (wrap64 (x - y) - b) = x - y - b := fun _ => by rw [w64 (x := x - y) (by omega) (by omega), w64 (by omega) (by omega)]
    have e2 : ∀ _ : Unit, wrap64 (x - y - b + 65536) = x - y - b + 65536 := fun _ => w64 (by omega) (by omega)
    by_cases c : x - y - b < 0
    · obtain ⟨r, hev, h⟩ := ih (i + 1) (out ++ [x - y - b + 65536]) 1 g5 (by rw [List.length_append, List.length_singleton, hl]) (lim_nrm_snoc ho ⟨by omega, by omega⟩) (by decide) (by decide) (by
        rw [val_snoc, hl, tx, ty, Int.pow_succ]
        grind)
      refine ⟨r, Ev.step (f := fun k => rf_SubNat.l0 k xs ys (out ++ [x - y - b + 65536]) 1 (xs.length : Int) ((i + 1 : Nat) : Int)) (fun k => ?_) hev, h⟩
      simp only [rf_SubNat.l0]
      rw [if_pos g1, if_pos g2, if_pos g1, hdg, Option.bind_some, hrd, e1 (), if_pos c, if_pos g4, e2 (), g7 ()]
    · obtain ⟨r, hev, h⟩ := ih (i + 1) (out ++ [x - y - b]) 0 g5 (by rw [List.length_append, List.length_singleton, hl]) (lim_nrm_snoc ho ⟨by omega, by omega⟩) (by decide) (by decide) (by
        rw [val_snoc, hl, tx, ty, Int.pow_succ]
        grind)
      refine ⟨r, Ev.step (f := fun k => rf_SubNat.l0 k xs ys (out ++ [x - y - b]) 0 (xs.length : Int) ((i + 1 : Nat) : Int)) (fun k => ?_) hev, h⟩
      simp only [rf_SubNat.l0]
      rw [if_pos g1, if_pos g2, if_pos g1, hdg, Option.bind_some, hrd, e1 (), if_neg c, if_pos g4, g7 ()]
theorem SubNat_ev (xs ys : List Int) (hx : Lim 65536 xs) (hy : Lim 65536 ys) (hge : val 65536 ys ≤ val 65536 xs) (hL : xs.length ≤ 1099511627776) :
    ∃ r, Ev (fun k => rf_SubNat.f k xs ys) r ∧ Lim 65536 r ∧ Nrm r ∧ val 65536 r = val 65536 xs - val 65536 ys ∧ r.length ≤ xs.length := by
  obtain ⟨r, h1, h2, h3, h4⟩ := rsub_loop xs ys hx hy hge hL xs.length 0 [] 0 (by omega) rfl (lim_nil _) (by decide) (by decide) (by simp [val])
  exact ⟨trim r, h1, lim_trim h3, nrm_trim _, by rw [val_trim, h4], by rw [← h2]; exact length_trim r⟩
theorem rhalf_loop (xs : List Int) (hx : Lim 65536 xs) (hL : xs.length ≤ 1099511627776) : ∀ (d i : Nat) (out : List Int), d + i = xs.length → out.length = xs.length → Lim 65536 out →
    val 65536 (out.take i) + 65536 ^ i * (val 65536 (xs.drop i) / 2) = val 65536 xs / 2 →
    ∃ r, Ev (fun k => rf_half.l0 k xs out (xs.length : Int) (i : Int)) (trim r) ∧ r.length = xs.length ∧ Lim 65536 r ∧ val 65536 r = val 65536 xs / 2 := by
  have hB : (0 : Int) < 65536 := by decide
  intro d
  induction d with
  | zero =>
    intro i out hd hl ho hv
    refine ⟨out, Ev.step (f := fun k => (rf_trim.f k out).bind fun t => some t) (fun k => ?_) (Ev.bind (f := fun _ t => some t) (rtrim_ev out (by omega)) (Ev.now _)), by omega, ho, ?_⟩
    · simp only [rf_half.l0]
      rw [if_neg (by omega)]
    · rw [List.take_of_length_le (by omega), List.drop_of_length_le (by omega)] at hv
      simp only [val, Int.zero_ediv, Int.mul_zero, Int.add_zero] at hv
      exact hv
  | succ d ih =>
    intro i out hd hl ho hv
    have g1 : (i : Int) < (xs.length : Int) := by omega
    have g2 : (0 : Int) ≤ (i : Int) := by omega
    have g3 : (i : Int) < (out.length : Int) := by omega
    have g4 : i < out.length := by omega
    have g5 : d + (i + 1) = xs.length := by omega
    have g7 : ∀ _ : Unit, wrap64 ((i : Int) + 1) = ((i + 1 : Nat) : Int) := fun _ => by rw [w64 (by omega) (by omega)]; omega
    have hxi := hx.getD hB i
    have hyi := hx.getD hB (i + 1)
    have d0 := val_drop' 65536 xs i
    have d1 := val_drop' 65536 xs (i + 1)
    have hrd : rd xs (i : Int) = xs.getD i 0 := rd_getD xs i
    have hsd := shr_digit (P := 2) (P' := 32768) (B := 65536) (D0 := xs.getD i 0) (D1 := xs.getD (i + 1) 0) (t := val 65536 (xs.drop (i + 1 + 1))) (by decide) (by decide) (by decide) hxi.1 hxi.2
    rw [← d1, ← d0] at hsd
    have hdg : xs.getD i 0 / 2 + xs.getD (i + 1) 0 % 2 * 32768 = ((xs.getD i 0 + 65536 * xs.getD (i + 1) 0) / 2) % 65536 := by
      generalize xs.getD i 0 = x at *
      generalize xs.getD (i + 1) 0 = y at *
      clear d0 d1 hsd hrd hv
      omega
    have hor : Go.bits .or .i64 (xs.getD i 0 / 2) (wrap64 (Go.bits .and .i64 (xs.getD (i + 1) 0) 1 * 32768)) = xs.getD i 0 / 2 + xs.getD (i + 1) 0 % 2 * 32768 := by
      generalize xs.getD i 0 = x at *
      generalize xs.getD (i + 1) 0 = y at *
      clear d0 d1 hsd hrd hv hdg
      rw [i64_and1 hyi.1 (by omega), w64 (by omega) (by omega), i64_or _ _ (by omega) (by omega) (by omega) (by omega), Nat.or_comm, nat_join 15]
      · omega
      · omega
      · omega
    have hlim : 0 ≤ xs.getD i 0 / 2 + xs.getD (i + 1) 0 % 2 * 32768 ∧ xs.getD i 0 / 2 + xs.getD (i + 1) 0 % 2 * 32768 < 65536 := by
      generalize xs.getD i 0 = x at *
      generalize xs.getD (i + 1) 0 = y at *
      clear d0 d1 hsd hrd hv hdg hor
      omega
    obtain ⟨r, hev, h⟩ := ih (i + 1) (out.set i (xs.getD i 0 / 2 + xs.getD (i + 1) 0 % 2 * 32768)) g5 (by rw [List.length_set, hl]) (ho.set _ hlim) (by
      rw [take_set_succ g4, val_snoc, List.length_take, Nat.min_eq_left (Nat.le_of_lt g4), hdg, ← hv, ← hsd, Int.pow_succ]
      grind)
    refine ⟨r, Ev.step (f := fun k => rf_half.l0 k xs (out.set i (xs.getD i 0 / 2 + xs.getD (i + 1) 0 % 2 * 32768)) (xs.length : Int) ((i + 1 : Nat) : Int)) (fun k => ?_) hev, h⟩
    simp only [rf_half.l0]
    rw [if_pos g1, if_pos g2, if_pos g1, g7 (), rdigit, Option.bind_some, if_pos g3, hrd, hor, Int.toNat_natCast]
theorem half_ev (xs : List Int) (hx : Lim 65536 xs) (hL : xs.length ≤ 1099511627776) :
    ∃ r, Ev (fun k => rf_half.f k xs) r ∧ Lim 65536 r ∧ Nrm r ∧ val 65536 r = val 65536 xs / 2 ∧ r.length ≤ xs.length := by
  obtain ⟨r, h1, h2, h3, h4⟩ := rhalf_loop xs hx hL xs.length 0 (List.replicate xs.length 0) (by omega) (by simp) (lim_replicate (by decide) _) (by simp [val])
  refine ⟨trim r, Ev.congr (fun k => ?_) h1, lim_trim h3, nrm_trim _, by rw [val_trim, h4], by rw [← h2]; exact length_trim r⟩
  unfold rf_half.f
  rw [if_pos (by omega), if_pos (by omega), Int.toNat_natCast]
  rfl
theorem rshl_loop (xs : List Int) (w b : Nat) (hx : Lim 65536 xs) (hb : b < 16) (hL : xs.length + w ≤ 549755813888) : ∀ (d i : Nat) (out : List Int) (c : Int), d + i = xs.length → out.length = w + i → Lim 65536 out → 0 ≤ c → c < 2 ^ b →
    val 65536 out + 65536 ^ (w + i) * c = 65536 ^ w * 2 ^ b * val 65536 (xs.take i) →
    ∃ r, Ev (fun k => rf_ShlNat.l0 k ((16 * w + b : Nat) : Int) out c xs (xs.length : Int) (i : Int)) (trim r) ∧ r.length = xs.length + w + 1 ∧ Lim 65536 r ∧ val 65536 r = 65536 ^ w * 2 ^ b * val 65536 xs := by
  have hB : (0 : Int) < 65536 := by decide
  have hp : (2 : Int) ^ b ≤ 32768 := by
    have := pow_mono' (B := 2) (by decide) (show b ≤ 15 by omega)
    exact this
  have hp0 : (0 : Int) < 2 ^ b := Int.pow_pos (by decide)
  have e1 : ∀ _ : Unit, Int.tmod ((16 * w + b : Nat) : Int) 16 = b := fun _ => by rw [Int.tmod_eq_emod_of_nonneg (by omega)]; omega
  intro d
  induction d with
  | zero =>
    intro i out c hd hl ho hc0 hc hv
    have hl2 : Lim 65536 (out ++ [c]) := lim_nrm_snoc ho ⟨hc0, by omega⟩
    refine ⟨out ++ [c], Ev.step (f := fun k => (rf_trim.f k (out ++ [c])).bind fun t => some t) (fun k => ?_) (Ev.bind (f := fun _ t => some t) (rtrim_ev (out ++ [c]) (by rw [List.length_append, List.length_singleton]; omega)) (Ev.now _)), by rw [List.length_append, List.length_singleton]; omega, hl2, ?_⟩
    · have g4 : out.length < 17592186044416 := by omega
      simp only [rf_ShlNat.l0]
      rw [if_neg (by omega), if_pos g4]
    · rw [val_snoc, hl, hv, List.take_of_length_le (by omega)]
  | succ d ih =>
    intro i out c hd hl ho hc0 hc hv
    have g1 : (i : Int) < (xs.length : Int) := by omega
    have g2 : (0 : Int) ≤ (i : Int) := by omega
    have g4 : out.length < 17592186044416 := by omega
    have g5 : d + (i + 1) = xs.length := by omega
    have g7 : ∀ _ : Unit, wrap64 ((i : Int) + 1) = ((i + 1 : Nat) : Int) := fun _ => by rw [w64 (by omega) (by omega)]; omega
    have g8 : (0 : Int) ≤ (b : Int) := by omega
    have hxi := hx.getD hB i
    have tx := val_take_succ' 65536 xs i
    have hrd : rd xs (i : Int) = xs.getD i 0 := rd_getD xs i
    generalize xs.getD i 0 = x at *
    have hx2 : 0 ≤ x * 2 ^ b := Int.mul_nonneg hxi.1 (by omega)
    have hx3 : x * 2 ^ b ≤ 65535 * 2 ^ b := Int.mul_le_mul_of_nonneg_right (by omega) (by omega)
    have hsh : shl .i64 x (b : Int) = x * 2 ^ b := by
      unfold shl
      rw [Int.toNat_natCast, Nat.min_eq_left (by simp [IntKind.bits]; omega), i64w _ hx2 (by omega)]
    have hor : Go.bits .or .i64 (x * 2 ^ b) c = x * 2 ^ b + c := by
      rw [i64_or _ _ hx2 (by omega) hc0 (by omega), nat_join b]
      · omega
      · have : (((x * 2 ^ b).toNat % 2 ^ b : Nat) : Int) = 0 := by
          rw [Int.natCast_emod, Int.toNat_of_nonneg hx2, Int.natCast_pow]
          exact Int.mul_emod_left _ _
        omega
      · have : ((c.toNat : Nat) : Int) < ((2 ^ b : Nat) : Int) := by
          rw [Int.toNat_of_nonneg hc0, Int.natCast_pow]; exact hc
        omega
    have hq : (x * 2 ^ b + c) / 65536 < 2 ^ b := Int.ediv_lt_of_lt_mul (by decide) (by omega)
    generalize hz : x * 2 ^ b + c = z at *
    have hz0 : 0 ≤ z := by omega
    have e3 : Int.tmod z 65536 = z % 65536 := Int.tmod_eq_emod_of_nonneg hz0
    have e4 : ∀ _ : Unit, wrap64 (Int.tdiv z 65536) = z / 65536 := fun _ => by rw [Int.tdiv_eq_ediv_of_nonneg hz0, w64 (by omega) (by omega)]
    have hz1 : 0 ≤ z / 65536 := by omega
    have hz2 : 0 ≤ z % 65536 ∧ z % 65536 < 65536 := by omega
    have hdm := Int.mul_ediv_add_emod z 65536
    generalize hzq : z / 65536 = q at *
    generalize hzr : z % 65536 = y at *
    obtain ⟨r, hev, h⟩ := ih (i + 1) (out ++ [y]) q g5 (by rw [List.length_append, List.length_singleton, hl, Nat.add_assoc]) (lim_nrm_snoc ho hz2) hz1 hq (by
      rw [val_snoc, hl, tx, ← Nat.add_assoc, Int.pow_succ]
      have e5 : (65536 : Int) ^ (w + i) = 65536 ^ w * 65536 ^ i := Int.pow_add _ _ _
      rw [e5] at hv ⊢
      clear hx3 hx2 hp hp0 hq hz0 hz1 hz2 hor hsh hrd
      grind)
    refine ⟨r, Ev.step (f := fun k => rf_ShlNat.l0 k ((16 * w + b : Nat) : Int) (out ++ [y]) q xs (xs.length : Int) ((i + 1 : Nat) : Int)) (fun k => ?_) hev, h⟩
    simp only [rf_ShlNat.l0]
    rw [if_pos g1, if_pos g2, if_pos g1, e1 (), if_pos g8, if_pos g4, hrd, hsh, hor, e3, e4 (), g7 ()]
theorem ShlNat_ev (xs : List Int) (n : Nat) (hx : Lim 65536 xs) (hL : xs.length + n / 16 ≤ 549755813888) :
    ∃ r, Ev (fun k => rf_ShlNat.f k xs (n : Int)) r ∧ Lim 65536 r ∧ Nrm r ∧ val 65536 r = val 65536 xs * 2 ^ n ∧ r.length ≤ xs.length + n / 16 + 1 := by
  have hB : (0 : Int) < 65536 := by decide
  by_cases hn : xs = []
  · subst hn
    exact ⟨[], Ev.const (by rfl), lim_nil _, nrm_nil, by simp [val], by simp⟩
  · obtain ⟨r, h1, h2, h3, h4⟩ := rshl_loop xs (n / 16) (n % 16) hx (by omega) hL xs.length 0 (List.replicate (n / 16) 0) 0 (by omega) (by simp) (lim_replicate hB _) (by decide) (Int.pow_pos (by decide))
      (by rw [val_replicate, List.take_zero]; simp [val])
    refine ⟨trim r, ?_, lim_trim h3, nrm_trim _, ?_, Nat.le_trans (length_trim _) (by omega)⟩
    · refine Ev.congr (fun k => ?_) h1
      unfold rf_ShlNat.f
      have hne : ¬ (xs.length : Int) = 0 := fun h => hn (List.length_eq_zero_iff.1 (by omega))
      have b1 : (0 : Int) ≤ ((n / 16 : Nat) : Int) := by omega
      have b2 : n / 16 ≤ 35184372088832 := by omega
      have en : 16 * (n / 16) + n % 16 = n := by omega
      have e : wrap64 (Int.tdiv (n : Int) 16) = ((n / 16 : Nat) : Int) := by
        rw [Int.tdiv_eq_ediv_of_nonneg (by omega), w64 (by omega) (by omega)]; omega
      rw [if_neg hne, e, if_pos b1, Int.toNat_natCast, if_pos b2, en]
      rfl
    · rw [val_trim, h4, show (65536 : Int) = 2 ^ 16 from rfl, ← Int.pow_mul, ← Int.pow_add, show 16 * (n / 16) + n % 16 = n by omega, Int.mul_comm]
theorem gcd_odd_half {a b : Nat} (h : Nat.gcd (2 * a) b % 2 = 1) : Nat.gcd (2 * a) b = Nat.gcd a b := by
  refine Nat.dvd_antisymm ?_ ?_
  · refine Nat.dvd_gcd ?_ (Nat.gcd_dvd_right _ _)
    have hc : Nat.Coprime (Nat.gcd (2 * a) b) 2 := by
      rw [Nat.coprime_comm]
      unfold Nat.Coprime
      rw [Nat.gcd_rec, h]
      decide
    exact hc.dvd_of_dvd_mul_left (Nat.gcd_dvd_left (2 * a) b)
  · exact Nat.dvd_gcd (Nat.dvd_trans (Nat.gcd_dvd_left a b) ⟨2, Nat.mul_comm 2 a⟩) (Nat.gcd_dvd_right a b)
structure GS (g N : Nat) (A B : List Int) (a b : Nat) : Prop where
  la : Lim 65536 A
  lb : Lim 65536 B
  na : Nrm A
  nb : Nrm B
  va : val 65536 A = a
  vb : val 65536 B = b
  sa : A.length ≤ N
  sb : B.length ≤ N
  gg : Nat.gcd a b = g
theorem gcdnat_loops (g N s : Nat) (hg : g % 2 = 1) (hN : N ≤ 4294967296) (hs : s ≤ 16 * N) : ∀ (m a b : Nat) (A B : List Int), a + b ≤ m → 0 < b → GS g N A B a b →
    (∃ r, Ev (fun k => rf_GcdNat.l1 k A B (s : Int)) r ∧ Lim 65536 r ∧ Nrm r ∧ val 65536 r = (g : Int) * 2 ^ s) ∧
    (0 < a → ∃ r, Ev (fun k => rf_GcdNat.l2 k A B (s : Int)) r ∧ Lim 65536 r ∧ Nrm r ∧ val 65536 r = (g : Int) * 2 ^ s) ∧
    (a % 2 = 1 → ∃ r, Ev (fun k => rf_GcdNat.l3 k A B (s : Int)) r ∧ Lim 65536 r ∧ Nrm r ∧ val 65536 r = (g : Int) * 2 ^ s) := by
  have hB : (0 : Int) < 65536 := by decide
  intro m
  induction m with
  | zero => intro a b A B hm hb0; omega
  | succ m ih =>
    intro a b A B hm hb0 H
    have h3 : a % 2 = 1 → ∃ r, Ev (fun k => rf_GcdNat.l3 k A B (s : Int)) r ∧ Lim 65536 r ∧ Nrm r ∧ val 65536 r = (g : Int) * 2 ^ s := by
      intro ha
      by_cases c : b % 2 = 0
      · obtain ⟨r, r1, r2, r3, r4, r5⟩ := half_ev B H.lb (by have := H.sb; omega)
        have hb2 : b = 2 * (b / 2) := by omega
        have hr4 : val 65536 r = ((b / 2 : Nat) : Int) := by rw [r4, H.vb]; omega
        have hgg : Nat.gcd a (b / 2) = g := by
          have h5 := H.gg
          rw [hb2, Nat.gcd_comm] at h5
          rw [Nat.gcd_comm, ← gcd_odd_half (by rw [h5]; exact hg), h5]
        obtain ⟨z, hz⟩ := (ih a (b / 2) A r (by omega) (by omega) ⟨H.la, r2, H.na, r3, H.va, hr4, H.sa, Nat.le_trans r5 H.sb, hgg⟩).2.2 ha
        refine ⟨z, Ev.step (f := fun k => (rf_half.f k B).bind fun t589 => rf_GcdNat.l3 k A t589 (s : Int)) (fun k => ?_) (Ev.bind (f := fun k t589 => rf_GcdNat.l3 k A t589 (s : Int)) r1 hz.1), hz.2⟩
        simp only [rf_GcdNat.l3]
        rw [rbit0 H.lb, Option.bind_some, H.vb, if_pos (by omega)]
      · have hbit : ∀ k, rf_GcdNat.l3 (k + 1) A B (s : Int) = ((rf_CmpNat.f k A B).bind fun t592 => (if t592 < 0 then ((rf_SubNat.f k B A).bind fun t593 => (rf_GcdNat.l1 k t593 A (s : Int))) else ((rf_SubNat.f k A B).bind fun t596 => (rf_GcdNat.l1 k t596 B (s : Int))))) := by
          intro k
          simp only [rf_GcdNat.l3]
          rw [rbit0 H.lb, Option.bind_some, H.vb, if_neg (by omega)]
        have hcmp := CmpNat_ev A B H.la H.lb (by have := H.sa; omega) (by have := H.sb; omega)
        rw [H.va, H.vb] at hcmp
        by_cases c2 : a < b
        · obtain ⟨r, r1, r2, r3, r4, r5⟩ := SubNat_ev B A H.lb H.la (by rw [H.va, H.vb]; omega) (by have := H.sb; omega)
          have hr4 : val 65536 r = ((b - a : Nat) : Int) := by rw [r4, H.va, H.vb]; omega
          have hgg : Nat.gcd (b - a) a = g := by
            rw [← H.gg, Nat.gcd_comm a b]
            exact Nat.gcd_sub_self_left (by omega)
          obtain ⟨z, hz⟩ := (ih (b - a) a r A (by omega) (by omega) ⟨r2, H.la, r3, H.na, hr4, H.va, Nat.le_trans r5 H.sb, H.sa, hgg⟩).1
          refine ⟨z, Ev.step hbit (Ev.bind (f := fun k t592 => (if t592 < 0 then ((rf_SubNat.f k B A).bind fun t593 => (rf_GcdNat.l1 k t593 A (s : Int))) else ((rf_SubNat.f k A B).bind fun t596 => (rf_GcdNat.l1 k t596 B (s : Int))))) hcmp ?_), hz.2⟩
          have e : cmpI (a : Int) (b : Int) = -1 := by unfold cmpI; rw [if_pos (by omega)]
          rw [e]
          exact Ev.congr (fun k => by rw [if_pos (by decide)]) (Ev.bind (f := fun k t593 => rf_GcdNat.l1 k t593 A (s : Int)) r1 hz.1)
        · obtain ⟨r, r1, r2, r3, r4, r5⟩ := SubNat_ev A B H.la H.lb (by rw [H.va, H.vb]; omega) (by have := H.sa; omega)
          have hr4 : val 65536 r = ((a - b : Nat) : Int) := by rw [r4, H.va, H.vb]; omega
          have hgg : Nat.gcd (a - b) b = g := by
            rw [← H.gg]
            exact Nat.gcd_sub_self_left (by omega)
          obtain ⟨z, hz⟩ := (ih (a - b) b r B (by omega) (by omega) ⟨r2, H.lb, r3, H.nb, hr4, H.vb, Nat.le_trans r5 H.sa, H.sb, hgg⟩).1
          refine ⟨z, Ev.step hbit (Ev.bind (f := fun k t592 => (if t592 < 0 then ((rf_SubNat.f k B A).bind fun t593 => (rf_GcdNat.l1 k t593 A (s : Int))) else ((rf_SubNat.f k A B).bind fun t596 => (rf_GcdNat.l1 k t596 B (s : Int))))) hcmp ?_), hz.2⟩
          have e : ¬ cmpI (a : Int) (b : Int) < 0 := by unfold cmpI; rw [if_neg (by omega)]; split <;> decide
          exact Ev.congr (fun k => by rw [if_neg e]) (Ev.bind (f := fun k t596 => rf_GcdNat.l1 k t596 B (s : Int)) r1 hz.1)
    have h2 : 0 < a → ∃ r, Ev (fun k => rf_GcdNat.l2 k A B (s : Int)) r ∧ Lim 65536 r ∧ Nrm r ∧ val 65536 r = (g : Int) * 2 ^ s := by
      intro ha0
      by_cases c : a % 2 = 0
      · obtain ⟨r, r1, r2, r3, r4, r5⟩ := half_ev A H.la (by have := H.sa; omega)
        have ha2 : a = 2 * (a / 2) := by omega
        have hr4 : val 65536 r = ((a / 2 : Nat) : Int) := by rw [r4, H.va]; omega
        have hgg : Nat.gcd (a / 2) b = g := by
          have h5 := H.gg
          rw [ha2] at h5
          rw [← gcd_odd_half (by rw [h5]; exact hg), h5]
        obtain ⟨z, hz⟩ := (ih (a / 2) b r B (by omega) hb0 ⟨r2, H.lb, r3, H.nb, hr4, H.vb, Nat.le_trans r5 H.sa, H.sb, hgg⟩).2.1 (by omega)
        refine ⟨z, Ev.step (f := fun k => (rf_half.f k A).bind fun t585 => rf_GcdNat.l2 k t585 B (s : Int)) (fun k => ?_) (Ev.bind (f := fun k t585 => rf_GcdNat.l2 k t585 B (s : Int)) r1 hz.1), hz.2⟩
        simp only [rf_GcdNat.l2]
        rw [rbit0 H.la, Option.bind_some, H.va, if_pos (by omega)]
      · obtain ⟨z, hz⟩ := h3 (by omega)
        refine ⟨z, Ev.step (f := fun k => rf_GcdNat.l3 k A B (s : Int)) (fun k => ?_) hz.1, hz.2⟩
        simp only [rf_GcdNat.l2]
        rw [rbit0 H.la, Option.bind_some, H.va, if_neg (by omega)]
    refine ⟨?_, h2, h3⟩
    by_cases c : a = 0
    · have hA : A = [] := (val_eq_zero hB H.la H.na).1 (by rw [H.va]; omega)
      have hbg : b = g := by
        have := H.gg
        rw [c, Nat.gcd_zero_left] at this
        exact this
      obtain ⟨r, r1, r2, r3, r4, r5⟩ := ShlNat_ev B s H.lb (by have := H.sb; omega)
      refine ⟨r, Ev.step (f := fun k => (rf_ShlNat.f k B (s : Int)).bind fun t => some t) (fun k => ?_) (Ev.bind (f := fun _ t => some t) r1 (Ev.now _)), r2, r3, by rw [r4, H.vb, hbg]⟩
      simp only [rf_GcdNat.l1]
      rw [hA, if_neg (by decide)]
    · obtain ⟨z, hz⟩ := h2 (by omega)
      have hA : A ≠ [] := by
        rintro rfl
        have h9 := H.va
        simp only [val] at h9
        clear ih h2 h3 hz
        exact c (by omega)
      have hAl : A.length ≠ 0 := fun h => hA (List.length_eq_zero_iff.1 h)
      refine ⟨z, Ev.step (f := fun k => rf_GcdNat.l2 k A B (s : Int)) (fun k => ?_) hz.1, hz.2⟩
      simp only [rf_GcdNat.l1]
      rw [if_pos (by omega)]
theorem gcdnat_l0 (N : Nat) (hN : N ≤ 4294967296) (G : Nat) : ∀ (m a b s : Nat) (A B : List Int), a + b ≤ m → 0 < a → 0 < b → GS (Nat.gcd a b) N A B a b → Nat.gcd a b * 2 ^ s = G → a * 2 ^ s < 2 ^ (16 * N) →
    ∃ r, Ev (fun k => rf_GcdNat.l0 k A B (s : Int)) r ∧ Lim 65536 r ∧ Nrm r ∧ val 65536 r = (G : Int) := by
  intro m
  induction m with
  | zero => intro a b s A B hm ha0; omega
  | succ m ih =>
    intro a b s A B hm ha0 hb0 H hG hs
    have hsN : s < 16 * N := by
      have h1 : 1 * 2 ^ s ≤ a * 2 ^ s := Nat.mul_le_mul_right _ (by omega)
      rw [Nat.one_mul] at h1
      exact (Nat.pow_lt_pow_iff_right (by omega : 1 < 2)).1 (Nat.lt_of_le_of_lt h1 hs)
    have hfin : Nat.gcd a b % 2 = 1 → ∃ r, Ev (fun k => rf_GcdNat.j1 k A B (s : Int) false) r ∧ Lim 65536 r ∧ Nrm r ∧ val 65536 r = (G : Int) := by
      intro hodd
      obtain ⟨r, r1, r2, r3, r4⟩ := (gcdnat_loops (Nat.gcd a b) N s hodd hN (by omega) (a + b) a b A B (Nat.le_refl _) hb0 H).1
      refine ⟨r, Ev.step (f := fun k => rf_GcdNat.l1 k A B (s : Int)) (fun k => ?_) r1, r2, r3, ?_⟩
      · simp only [rf_GcdNat.j1]
        rw [if_neg (by decide)]
      · rw [r4, ← hG, Int.natCast_mul, Int.natCast_pow]; rfl
    have hg2 : (a % 2 = 0 → b % 2 = 0 → False) → Nat.gcd a b % 2 = 1 := by
      intro h
      have h1 : ¬ 2 ∣ Nat.gcd a b := by
        intro hd
        exact h (Nat.mod_eq_zero_of_dvd (Nat.dvd_trans hd (Nat.gcd_dvd_left a b))) (Nat.mod_eq_zero_of_dvd (Nat.dvd_trans hd (Nat.gcd_dvd_right a b)))
      omega
    by_cases c : a % 2 = 0
    · by_cases c2 : b % 2 = 0
      · obtain ⟨r, r1, r2, r3, r4, r5⟩ := half_ev A H.la (by have := H.sa; omega)
        obtain ⟨t, t1, t2, t3, t4, t5⟩ := half_ev B H.lb (by have := H.sb; omega)
        have ha2 : a = 2 * (a / 2) := by omega
        have hb2 : b = 2 * (b / 2) := by omega
        have hr4 : val 65536 r = ((a / 2 : Nat) : Int) := by rw [r4, H.va]; omega
        have ht4 : val 65536 t = ((b / 2 : Nat) : Int) := by rw [t4, H.vb]; omega
        have hgg : Nat.gcd a b = 2 * Nat.gcd (a / 2) (b / 2) := by
          rw [← Nat.gcd_mul_left, ← ha2, ← hb2]
        obtain ⟨z, hz⟩ := ih (a / 2) (b / 2) (s + 1) r t (by omega) (by omega) (by omega) ⟨r2, t2, r3, t3, hr4, ht4, Nat.le_trans r5 H.sa, Nat.le_trans t5 H.sb, rfl⟩ (by
          rw [← hG, hgg, Nat.pow_succ]
          grind) (by
          rw [Nat.pow_succ]
          have : a / 2 * (2 ^ s * 2) = a * 2 ^ s := by
            conv => rhs; rw [ha2]
            grind
          omega)
        refine ⟨z, Ev.step (f := fun k => rf_GcdNat.j1 k A B (s : Int) true) (fun k => ?_) (Ev.step (f := fun k => (rf_half.f k A).bind fun t575 => (rf_half.f k B).bind fun t578 => rf_GcdNat.l0 k t575 t578 (((s + 1 : Nat)) : Int)) (fun k => ?_) (Ev.bind (f := fun k t575 => (rf_half.f k B).bind fun t578 => rf_GcdNat.l0 k t575 t578 (((s + 1 : Nat)) : Int)) r1 (Ev.bind (f := fun k t578 => rf_GcdNat.l0 k r t578 (((s + 1 : Nat)) : Int)) t1 hz.1))), hz.2⟩
        · simp only [rf_GcdNat.l0]
          rw [rbit0 H.la, Option.bind_some, H.va, if_pos (by omega), rbit0 H.lb, Option.bind_some, H.vb]
          have : ((b : Int) % 2 == 0) = true := by rw [beq_iff_eq]; omega
          rw [this]
        · have e : wrap64 ((s : Int) + 1) = ((s + 1 : Nat) : Int) := by rw [w64 (by omega) (by omega)]; omega
          simp only [rf_GcdNat.j1]
          rw [if_pos trivial, e]
      · obtain ⟨z, hz⟩ := hfin (hg2 (fun _ h => c2 h))
        refine ⟨z, Ev.step (f := fun k => rf_GcdNat.j1 k A B (s : Int) false) (fun k => ?_) hz.1, hz.2⟩
        simp only [rf_GcdNat.l0]
        rw [rbit0 H.la, Option.bind_some, H.va, if_pos (by omega), rbit0 H.lb, Option.bind_some, H.vb]
        have : ((b : Int) % 2 == 0) = false := by rw [beq_eq_false_iff_ne]; omega
        rw [this]
    · obtain ⟨z, hz⟩ := hfin (hg2 (fun h _ => c h))
      refine ⟨z, Ev.step (f := fun k => rf_GcdNat.j1 k A B (s : Int) false) (fun k => ?_) hz.1, hz.2⟩
      simp only [rf_GcdNat.l0]
      rw [rbit0 H.la, Option.bind_some, H.va, if_neg (by omega)]
theorem GcdNat_ev (A B : List Int) (hA : Lim 65536 A) (hB : Lim 65536 B) (nA : Nrm A) (nB : Nrm B) (sA : A.length ≤ 4294967296) (sB : B.length ≤ 4294967296) :
    ∃ r, Ev (fun k => rf_GcdNat.f k A B) r ∧ Lim 65536 r ∧ Nrm r ∧ val 65536 r = (Nat.gcd (val 65536 A).toNat (val 65536 B).toNat : Nat) := by
  have h0 : (0 : Int) < 65536 := by decide
  have a0 := val_nonneg h0 hA
  have b0 := val_nonneg h0 hB
  by_cases c : A = []
  · subst c
    refine ⟨B, Ev.congr (fun k => ?_) (Ev.now _), hB, nB, ?_⟩
    · unfold rf_GcdNat.f; rw [if_pos (by rfl)]
    · simp only [val, Int.toNat_zero, Nat.gcd_zero_left]; omega
  · by_cases c2 : B = []
    · subst c2
      refine ⟨A, Ev.congr (fun k => ?_) (Ev.now _), hA, nA, ?_⟩
      · have hl : A.length ≠ 0 := fun h => c (List.length_eq_zero_iff.1 h)
        unfold rf_GcdNat.f; rw [if_neg (by omega), if_pos (by rfl)]
      · simp only [val, Int.toNat_zero, Nat.gcd_zero_right]; omega
    · have a1 := val_pos h0 hA nA c
      have b1 := val_pos h0 hB nB c2
      have alt := val_lt h0 hA
      have hlA : A.length ≠ 0 := fun h => c (List.length_eq_zero_iff.1 h)
      have hlB : B.length ≠ 0 := fun h => c2 (List.length_eq_zero_iff.1 h)
      obtain ⟨r, r1, r2⟩ := gcdnat_l0 (max A.length B.length) (by omega) (Nat.gcd (val 65536 A).toNat (val 65536 B).toNat) ((val 65536 A).toNat + (val 65536 B).toNat) (val 65536 A).toNat (val 65536 B).toNat 0 A B (Nat.le_refl _) (by omega) (by omega)
        ⟨hA, hB, nA, nB, by omega, by omega, by omega, by omega, rfl⟩ (by rw [Nat.pow_zero, Nat.mul_one]) (by
          have h1 : (65536 : Int) ^ A.length ≤ 65536 ^ max A.length B.length := pow_mono' h0 (by omega)
          rw [Nat.pow_zero, Nat.mul_one, Nat.pow_mul]
          have h2 : (((2 ^ 16) ^ max A.length B.length : Nat) : Int) = (65536 : Int) ^ max A.length B.length := by rw [Int.natCast_pow]; rfl
          omega)
      refine ⟨r, Ev.congr (fun k => ?_) r1, r2⟩
      unfold rf_GcdNat.f
      rw [if_neg (by omega), if_neg (by omega)]
      rfl
theorem Fault_ev (neg : Bool) (num den : List Int) (hn : Lim 4294967296 num) (hd : Lim 4294967296 den) : Ev (fun k => rf_Fault.f k neg num den) (fault neg num den) := by
  have hB : (0 : Int) < 4294967296 := by decide
  by_cases s1 : num.length > 128
  · rw [fault_size (Or.inl s1)]
    refine Ev.congr (f := fun k => rf_Fault.j0 k true neg num den) (fun k => ?_) (Ev.step (f := fun _ => some 3) (fun k => ?_) (Ev.now _))
    · unfold rf_Fault.f; rw [if_pos (by omega)]
    · simp only [rf_Fault.j0]; rw [if_pos trivial]
  · by_cases s2 : den.length > 128
    · rw [fault_size (Or.inr s2)]
      refine Ev.congr (f := fun k => rf_Fault.j0 k true neg num den) (fun k => ?_) (Ev.step (f := fun _ => some 3) (fun k => ?_) (Ev.now _))
      · unfold rf_Fault.f; rw [if_neg (by omega), decide_eq_true (by omega)]
      · simp only [rf_Fault.j0]; rw [if_pos trivial]
    · have hj0 : ∀ r, Ev (fun k => rf_Fault.j0 k false neg num den) r → Ev (fun k => rf_Fault.f k neg num den) r := fun r h =>
        Ev.congr (fun k => by unfold rf_Fault.f; rw [if_neg (by omega), decide_eq_false (by omega)]) h
      have hbad : Ev (fun k => rf_Fault.j1 k true neg num den) 2 := Ev.step (f := fun _ => some 2) (fun k => by simp only [rf_Fault.j1]; rw [if_pos trivial]) (Ev.now _)
      by_cases c3 : den = []
      · rw [fault_bad (by omega) (by omega) (fun h => h.d0 c3)]
        refine hj0 _ (Ev.step (fun k => ?_) hbad)
        simp only [rf_Fault.j0]
        rw [if_neg (by decide), c3, if_pos (by rfl)]
      · have hdl : den.length ≠ 0 := fun h' => c3 (List.length_eq_zero_iff.1 h')
        by_cases c2 : Nrm den
        · have hs0 : ∀ k, rf_Fault.j0 (k + 1) false neg num den = (if (num.length : Int) > 0 then (if 0 ≤ (wrap64 ((num.length : Int) - 1)) then (if (wrap64 ((num.length : Int) - 1)) < (num.length : Int) then (rf_Fault.j1 k ((rd num (wrap64 ((num.length : Int) - 1))) == 0) neg num den) else (none)) else (none)) else (rf_Fault.j1 k false neg num den)) := by
            intro k
            simp only [rf_Fault.j0]
            rw [if_neg (by decide), if_neg (by omega), last_at c3 (by omega), if_pos (by omega), if_pos (by omega), rd_getD, if_neg ((nrm_last c3).1 c2)]
          by_cases c1 : Nrm num
          · have hs1 : ∀ k, rf_Fault.j0 (k + 1) false neg num den = rf_Fault.j1 k false neg num den := by
              intro k
              rw [hs0]
              by_cases c4 : num = []
              · rw [c4, if_neg (by decide)]
              · have hnl : num.length ≠ 0 := fun h' => c4 (List.length_eq_zero_iff.1 h')
                have hz : (num.getD (num.length - 1) 0 == 0) = false := by rw [beq_eq_false_iff_ne]; exact (nrm_last c4).1 c1
                rw [if_pos (by omega), last_at c4 (by omega), if_pos (by omega), if_pos (by omega), rd_getD, hz]
            refine hj0 _ (Ev.step hs1 ?_)
            obtain ⟨a, a1, a2, a3, a4, a5⟩ := natOf_ev num hn (by omega)
            obtain ⟨b, b1, b2, b3, b4, b5⟩ := natOf_ev den hd (by omega)
            have haz : a = [] ↔ num = [] := by rw [← val_eq_zero (by decide) a2 a3, a4, val_eq_zero hB hn c1]
            obtain ⟨g, g1, g2, g3, g4⟩ := GcdNat_ev a b a2 b2 a3 b3 (by omega) (by omega)
            rw [a4, b4] at g4
            have hdp := val_pos hB hd c2 c3
            have hgl : g.length ≤ b.length := by
              rcases Nat.lt_or_ge b.length g.length with h | h
              · have h5 := len_lt_val (B := 65536) (by decide) b2 g2 g3 h
                rw [g4, b4] at h5
                have h6 := Nat.gcd_le_right (val 4294967296 num).toNat (show 0 < (val 4294967296 den).toNat by omega)
                omega
              · exact h
            have hcg := CmpNat_ev g [1] g2 (one_lim (by decide)) (by omega) (by decide)
            rw [val_one, g4] at hcg
            have hcb := CmpNat_ev b [1] b2 (one_lim (by decide)) (by omega) (by decide)
            rw [val_one, b4] at hcb
            have hj2s : ∀ r : Int, (if cmpI ((Nat.gcd (val 4294967296 num).toNat (val 4294967296 den).toNat : Nat) : Int) 1 = 0 then (some 0 : Option Int) else some 2) = some r → Ev (fun k => rf_Fault.j2 k a b false) r := by
              intro r hr
              refine Ev.step (f := fun k => ((rf_GcdNat.f k a b).bind fun t612 => ((rf_CmpNat.f k t612 (([1] : List Int))).bind fun t618 => (if t618 = 0 then (some 0) else (some 2))))) (fun k => ?_) (Ev.bind (f := fun k t612 => ((rf_CmpNat.f k t612 (([1] : List Int))).bind fun t618 => (if t618 = 0 then (some 0) else (some 2)))) g1 (Ev.bind (f := fun _ t618 => (if t618 = 0 then (some 0) else (some 2))) hcg (Ev.const hr)))
              simp only [rf_Fault.j2]; rw [if_neg (by decide)]
            have hcz : cmpI ((Nat.gcd (val 4294967296 num).toNat (val 4294967296 den).toNat : Nat) : Int) 1 = 0 ↔ Nat.gcd (val 4294967296 num).toNat (val 4294967296 den).toNat = 1 := by
              unfold cmpI
              generalize Nat.gcd (val 4294967296 num).toNat (val 4294967296 den).toNat = z
              by_cases h2 : (z : Int) < 1
              · rw [if_pos h2]; omega
              · rw [if_neg h2]
                by_cases h3 : (z : Int) > 1
                · rw [if_pos h3]; omega
                · rw [if_neg h3]; omega
            have hj2a : Nat.gcd (val 4294967296 num).toNat (val 4294967296 den).toNat = 1 → Ev (fun k => rf_Fault.j2 k a b false) 0 := fun h => hj2s 0 (by rw [if_pos (hcz.2 h)])
            have hj2b : ¬ Nat.gcd (val 4294967296 num).toNat (val 4294967296 den).toNat = 1 → Ev (fun k => rf_Fault.j2 k a b false) 2 := fun h => hj2s 2 (by rw [if_neg (fun h' => h (hcz.1 h'))])
            have hj2t : Ev (fun k => rf_Fault.j2 k a b true) 2 := Ev.step (f := fun _ => some 2) (fun k => by simp only [rf_Fault.j2]; rw [if_pos trivial]) (Ev.now _)
            refine Ev.step (f := fun k => ((rf_natOf.f k num).bind fun t602 => ((rf_natOf.f k den).bind fun t605 => (if (t602.length : Int) = 0 then (if neg = true then (rf_Fault.j2 k t602 t605 true) else ((rf_CmpNat.f k t605 (([1] : List Int))).bind fun t611 => (rf_Fault.j2 k t602 t605 (t611 != 0)))) else (rf_Fault.j2 k t602 t605 false))))) (fun k => by simp only [rf_Fault.j1]; rw [if_neg (by decide)]) ?_
            refine Ev.bind (f := fun k t602 => ((rf_natOf.f k den).bind fun t605 => (if (List.length t602 : Int) = 0 then (if neg = true then (rf_Fault.j2 k t602 t605 true) else ((rf_CmpNat.f k t605 (([1] : List Int))).bind fun t611 => (rf_Fault.j2 k t602 t605 (t611 != 0)))) else (rf_Fault.j2 k t602 t605 false)))) a1 ?_
            refine Ev.bind (f := fun k t605 => (if (a.length : Int) = 0 then (if neg = true then (rf_Fault.j2 k a t605 true) else ((rf_CmpNat.f k t605 (([1] : List Int))).bind fun t611 => (rf_Fault.j2 k a t605 (t611 != 0)))) else (rf_Fault.j2 k a t605 false))) b1 ?_
            by_cases c4 : num = []
            · have ha0 : a = [] := haz.2 c4
              have hv0 : val 4294967296 num = 0 := by rw [c4]; rfl
              have hvd := val_nonneg hB hd
              have hl0 : (a.length : Int) = 0 := by rw [ha0]; rfl
              by_cases c5 : neg = true
              · rw [fault_bad (by omega) (by omega) (fun h => by have := h.ng c4; rw [c5] at this; cases this)]
                exact Ev.congr (fun k => by rw [if_pos hl0, if_pos c5]) hj2t
              · refine Ev.congr (fun k => by rw [if_pos hl0, if_neg c5]) (Ev.bind (f := fun k t611 => (rf_Fault.j2 k a b (t611 != 0))) hcb ?_)
                by_cases c6 : val 4294967296 den = 1
                · have hg1 : Nat.gcd (val 4294967296 num).toNat (val 4294967296 den).toNat = 1 := by rw [hv0, c6]; rfl
                  rw [fault_can ⟨by omega, by omega, c1, c2, c3, fun _ => by cases neg <;> simp_all, hg1⟩]
                  have e : (cmpI (val 4294967296 den) 1 != 0) = false := by rw [c6]; rfl
                  rw [e]
                  exact hj2a hg1
                · rw [fault_bad (by omega) (by omega) (fun h => c6 (by have := h.gc; rw [hv0, Int.toNat_zero, Nat.gcd_zero_left] at this; omega))]
                  have e : (cmpI (val 4294967296 den) 1 != 0) = true := by
                    unfold cmpI
                    by_cases h2 : val 4294967296 den < 1
                    · rw [if_pos h2]; rfl
                    · rw [if_neg h2, if_pos (by omega)]; rfl
                  rw [e]
                  exact hj2t
            · have ha0 : a ≠ [] := fun h => c4 (haz.1 h)
              have hl0 : ¬ (a.length : Int) = 0 := fun h => ha0 (List.length_eq_zero_iff.1 (by omega))
              refine Ev.congr (f := fun k => rf_Fault.j2 k a b false) (fun k => by rw [if_neg hl0]) ?_
              by_cases c6 : Nat.gcd (val 4294967296 num).toNat (val 4294967296 den).toNat = 1
              · rw [fault_can ⟨by omega, by omega, c1, c2, c3, fun h => absurd h c4, c6⟩]
                exact hj2a c6
              · rw [fault_bad (by omega) (by omega) (fun h => c6 h.gc)]
                exact hj2b c6
          · rw [fault_bad (by omega) (by omega) (fun h => c1 h.nn)]
            refine hj0 _ (Ev.step (fun k => ?_) hbad)
            rw [hs0]
            have c4 : num ≠ [] := fun h => c1 (by rw [h]; exact nrm_nil)
            have hnl : num.length ≠ 0 := fun h' => c4 (List.length_eq_zero_iff.1 h')
            have hz : (num.getD (num.length - 1) 0 == 0) = true := by
              rw [beq_iff_eq]; exact Decidable.not_not.1 (fun h => c1 ((nrm_last c4).2 h))
            rw [if_pos (by omega), last_at c4 (by omega), if_pos (by omega), if_pos (by omega), rd_getD, hz]
        · rw [fault_bad (by omega) (by omega) (fun h => c2 h.nd)]
          refine hj0 _ (Ev.step (fun k => ?_) hbad)
          simp only [rf_Fault.j0]
          rw [if_neg (by decide), if_neg (by omega), last_at c3 (by omega), if_pos (by omega), if_pos (by omega), rd_getD, if_pos (Decidable.not_not.1 (fun h => c2 ((nrm_last c3).2 h)))]
theorem rmul_step {o x y c : Int} (o0 : 0 ≤ o) (o1 : o < 65536) (x0 : 0 ≤ x) (x1 : x < 65536) (y0 : 0 ≤ y) (y1 : y < 65536) (c0 : 0 ≤ c) (c1 : c < 65536) :
    ∃ t q : Int, Int.tmod (wrap64 (wrap64 (o + wrap64 (x * y)) + c)) 65536 = t ∧ wrap64 (Int.tdiv (wrap64 (wrap64 (o + wrap64 (x * y)) + c)) 65536) = q ∧ 0 ≤ t ∧ t < 65536 ∧ 0 ≤ q ∧ q < 65536 ∧ t = o + x * y + c - 65536 * q := by
  have h1 : 0 ≤ x * y := Int.mul_nonneg x0 y0
  have h2 : x * y ≤ x * 65535 := Int.mul_le_mul_of_nonneg_left (by omega) x0
  generalize x * y = p at *
  have e1 : wrap64 p = p := w64 (by omega) (by omega)
  have e2 : wrap64 (o + p) = o + p := w64 (by omega) (by omega)
  have e3 : wrap64 (o + p + c) = o + p + c := w64 (by omega) (by omega)
  rw [e1, e2, e3, Int.tmod_eq_emod_of_nonneg (by omega), Int.tdiv_eq_ediv_of_nonneg (by omega), w64 (by omega) (by omega)]
  exact ⟨_, _, rfl, rfl, by omega, by omega, by omega, by omega, by omega⟩
theorem rmul_inner (a b : List Int) (ha : Lim 65536 a) (hb : Lim 65536 b) (L i : Nat) (hia : i < a.length) (hL : L ≤ 549755813888) (hi : i + b.length < L) :
    ∀ (d j : Nat) (out : List Int) (c : Int), d + j = b.length → out.length = L → Lim 65536 out → 0 ≤ c → c < 65536 → out.getD (i + b.length) 0 = 0 →
    ∃ r, r.length = L ∧ Lim 65536 r ∧ val 65536 r = val 65536 out + 65536 ^ (i + j) * (c + a.getD i 0 * val 65536 (b.drop j)) ∧ (∀ p, i + b.length < p → r.getD p 0 = out.getD p 0) ∧
      ∀ (R : List Int), Ev (fun k => rf_MulNat.l0 k a b r (a.length : Int) ((i + 1 : Nat) : Int)) R → Ev (fun k => rf_MulNat.l1 k a b out (i : Int) c (j : Int) (a.length : Int) (i : Int)) R := by
  have hB : (0 : Int) < 65536 := by decide
  have hai := ha.getD hB i
  have gi0 : (0 : Int) ≤ (i : Int) := by omega
  have gi1 : (i : Int) < (a.length : Int) := by omega
  have gi2 : ∀ _ : Unit, wrap64 ((i : Int) + 1) = ((i + 1 : Nat) : Int) := fun _ => by rw [w64 (by omega) (by omega)]; omega
  intro d
  induction d with
  | zero =>
    intro j out c hd hl ho hc0 hc hz
    have hj : j = b.length := by omega
    subst hj
    have gv : ∀ _ : Unit, wrap64 ((i : Int) + (b.length : Int)) = ((i + b.length : Nat) : Int) := fun _ => by rw [w64 (by omega) (by omega)]; omega
    have g3 : (0 : Int) ≤ ((i + b.length : Nat) : Int) := by omega
    have g4 : ((i + b.length : Nat) : Int) < (out.length : Int) := by omega
    have g5 : i + b.length < out.length := by omega
    by_cases cz : c = 0
    · subst cz
      refine ⟨out, hl, ho, by rw [List.drop_length]; simp [val], fun p hp => rfl, fun R hR => ?_⟩
      refine Ev.step (f := fun k => rf_MulNat.l0 k a b out (a.length : Int) ((i + 1 : Nat) : Int)) (fun k => ?_) hR
      simp only [rf_MulNat.l1]
      rw [if_neg (by omega), if_neg (by omega), gi2 ()]
    · have gb : b.getD b.length 0 = 0 := by rw [List.getD_eq_getElem?_getD, List.getElem?_eq_none (Nat.le_refl _)]; rfl
      obtain ⟨t, q, ht, hq, q1, q2, q3, q4, q5⟩ := rmul_step (o := 0) (x := a.getD i 0) (y := 0) (c := c) (by decide) (by decide) hai.1 hai.2 (by decide) (by decide) hc0 hc
      rw [Int.mul_zero] at q5
      have eq0 : q = 0 := by omega
      have et : t = c := by omega
      have gw : ∀ _ : Unit, wrap64 ((b.length : Int) + 1) = ((b.length + 1 : Nat) : Int) := fun _ => by rw [w64 (by omega) (by omega)]; omega
      refine ⟨out.set (i + b.length) c, by rw [List.length_set, hl], ho.set _ ⟨hc0, hc⟩, ?_, ?_, fun R hR => ?_⟩
      · rw [val_set _ _ _ _ g5, hz, List.drop_length]
        simp [val]
      · intro p hp
        rw [List.getD_eq_getElem?_getD, List.getD_eq_getElem?_getD, List.getElem?_set_ne (by omega)]
      · refine Ev.step (f := fun k => rf_MulNat.l1 k a b (out.set (i + b.length) c) (i : Int) 0 ((b.length + 1 : Nat) : Int) (a.length : Int) (i : Int)) (fun k => ?_) (Ev.step (f := fun k => rf_MulNat.l0 k a b (out.set (i + b.length) c) (a.length : Int) ((i + 1 : Nat) : Int)) (fun k => ?_) hR)
        · simp only [rf_MulNat.l1]
          rw [if_neg (by omega), if_pos (by omega), gv (), if_pos g3, if_pos g4, if_pos gi0, if_pos gi1, rdigit, Option.bind_some, gb, rd_getD out, hz, rd_getD a, ht, hq, gw (), et, eq0, Int.toNat_natCast]
        · simp only [rf_MulNat.l1]
          rw [if_neg (by omega), if_neg (by decide), gi2 ()]
  | succ d ih =>
    intro j out c hd hl ho hc0 hc hz
    have g0 : d + (j + 1) = b.length := by omega
    have g1 : (j : Int) < (b.length : Int) := by omega
    have gj : j < b.length := by omega
    have g3 : i + j < out.length := by omega
    have g4 : ((i + j : Nat) : Int) < (out.length : Int) := by omega
    have g5 : (0 : Int) ≤ ((i + j : Nat) : Int) := by omega
    have g6 : i + j ≠ i + b.length := by omega
    have gw : ∀ _ : Unit, wrap64 ((j : Int) + 1) = ((j + 1 : Nat) : Int) := fun _ => by rw [w64 (by omega) (by omega)]; omega
    have gv : ∀ _ : Unit, wrap64 ((i : Int) + (j : Int)) = ((i + j : Nat) : Int) := fun _ => by rw [w64 (by omega) (by omega)]; omega
    have hb1 := hb.getD hB j
    have ho1 := ho.getD hB (i + j)
    obtain ⟨t, q, ht, hq, q1, q2, q3, q4, q5⟩ := rmul_step ho1.1 ho1.2 hai.1 hai.2 hb1.1 hb1.2 hc0 hc
    obtain ⟨r, r1, r2, r3, r4, r5⟩ := ih (j + 1) (out.set (i + j) t) q g0 (by rw [List.length_set, hl]) (ho.set _ ⟨q1, q2⟩) q3 q4 (by
      rw [List.getD_eq_getElem?_getD, List.getElem?_set_ne g6, ← List.getD_eq_getElem?_getD, hz])
    refine ⟨r, r1, r2, ?_, ?_, fun R hR => ?_⟩
    · rw [r3, val_set _ _ _ _ g3, val_drop _ b j gj, q5, ← Nat.add_assoc, Int.pow_succ]
      generalize val 65536 (b.drop (j + 1)) = v
      generalize (65536 : Int) ^ (i + j) = p
      clear q5 ht hq r3 r5 r4
      grind
    · intro p hp
      rw [r4 p hp, List.getD_eq_getElem?_getD, List.getD_eq_getElem?_getD, List.getElem?_set_ne (by omega)]
    · refine Ev.step (f := fun k => rf_MulNat.l1 k a b (out.set (i + j) t) (i : Int) q ((j + 1 : Nat) : Int) (a.length : Int) (i : Int)) (fun k => ?_) (r5 R hR)
      simp only [rf_MulNat.l1]
      rw [if_pos g1, gv (), if_pos g5, if_pos g4, if_pos gi0, if_pos gi1, rdigit, Option.bind_some, rd_getD out, rd_getD a, ht, hq, gw (), Int.toNat_natCast]
theorem rmul_outer (a b : List Int) (ha : Lim 65536 a) (hb : Lim 65536 b) (hL : a.length + b.length + 1 ≤ 549755813888) :
    ∀ (d i : Nat) (out : List Int), d + i = a.length → out.length = a.length + b.length + 1 → Lim 65536 out → (∀ p, i + b.length ≤ p → out.getD p 0 = 0) →
    ∃ r, Ev (fun k => rf_MulNat.l0 k a b out (a.length : Int) (i : Int)) (trim r) ∧ r.length = a.length + b.length + 1 ∧ Lim 65536 r ∧ val 65536 r = val 65536 out + 65536 ^ i * (val 65536 (a.drop i) * val 65536 b) := by
  have hB : (0 : Int) < 65536 := by decide
  intro d
  induction d with
  | zero =>
    intro i out hd hl ho hz
    have hi : i = a.length := by omega
    subst hi
    refine ⟨out, Ev.step (f := fun k => (rf_trim.f k out).bind fun t => some t) (fun k => ?_) (Ev.bind (f := fun _ t => some t) (rtrim_ev out (by omega)) (Ev.now _)), hl, ho, ?_⟩
    · simp only [rf_MulNat.l0]; rw [if_neg (by omega)]
    · rw [List.drop_length]; simp [val]
  | succ d ih =>
    intro i out hd hl ho hz
    have g1 : (i : Int) < (a.length : Int) := by omega
    have gi : i < a.length := by omega
    obtain ⟨r, r1, r2, r3, r4, r5⟩ := rmul_inner a b ha hb (a.length + b.length + 1) i gi hL (by omega) b.length 0 out 0 (by omega) hl ho (by decide) (by decide) (hz _ (Nat.le_refl _))
    obtain ⟨s, s1, s2, s3, s4⟩ := ih (i + 1) r (by omega) r1 r2 (by
      intro p hp
      rw [r4 p (by omega)]
      exact hz p (by omega))
    refine ⟨s, Ev.step (f := fun k => rf_MulNat.l1 k a b out (i : Int) 0 0 (a.length : Int) (i : Int)) (fun k => ?_) (r5 _ s1), s2, s3, ?_⟩
    · simp only [rf_MulNat.l0]
      rw [if_pos g1]
    · rw [s4, r3, val_drop _ a i gi, List.drop_zero, Nat.add_zero, Int.pow_succ]
      generalize val 65536 (a.drop (i + 1)) = v
      generalize val 65536 b = u
      generalize (65536 : Int) ^ i = p
      clear s4 r3 r5 r4 s1
      grind
theorem MulNat_ev (a b : List Int) (ha : Lim 65536 a) (hb : Lim 65536 b) (hL : a.length + b.length + 1 ≤ 1099511627) :
    ∃ r, Ev (fun k => rf_MulNat.f k a b) r ∧ Lim 65536 r ∧ Nrm r ∧ val 65536 r = val 65536 a * val 65536 b ∧ r.length ≤ a.length + b.length + 1 := by
  have e1 : wrap64 ((a.length : Int) + (b.length : Int)) = ((a.length + b.length : Nat) : Int) := by rw [w64 (by omega) (by omega)]; omega
  have e2 : wrap64 (((a.length + b.length : Nat) : Int) + 1) = ((a.length + b.length + 1 : Nat) : Int) := by rw [w64 (by omega) (by omega)]; omega
  obtain ⟨r, h1, h2, h3, h4⟩ := rmul_outer a b ha hb (by omega) a.length 0 (List.replicate (a.length + b.length + 1) 0) (by omega) (by simp) (lim_replicate (by decide) _) (fun p _ => by
    rw [List.getD_eq_getElem?_getD]
    rcases Nat.lt_or_ge p (a.length + b.length + 1) with h | h
    · rw [List.getElem?_replicate_of_lt h]; rfl
    · rw [List.getElem?_eq_none (by simpa using h)]; rfl)
  refine ⟨trim r, Ev.congr (fun k => ?_) h1, lim_trim h3, nrm_trim _, by rw [val_trim, h4, val_replicate, List.drop_zero]; simp, by rw [← h2]; exact length_trim r⟩
  unfold rf_MulNat.f
  rw [e1, e2, if_pos (by omega), if_pos (by omega), Int.toNat_natCast]
  rfl
theorem can_of_fault' {neg : Bool} {num den : List Int} (h : fault neg num den = 0) : Can neg num den := by
  unfold fault at h
  by_cases c : num.length > 128 ∨ den.length > 128
  · rw [if_pos c] at h; omega
  · rw [if_neg c] at h
    by_cases d : Can neg num den
    · exact d
    · rw [if_neg d] at h; omega
theorem cmpI_neg (x y : Int) : cmpI (-x) (-y) = -cmpI x y := by
  unfold cmpI
  by_cases h : x < y
  · rw [if_neg (by omega), if_pos (by omega), if_pos h]; rfl
  · by_cases h2 : x > y
    · rw [if_pos (by omega), if_neg h, if_pos h2]
    · rw [if_neg (by omega), if_neg (by omega), if_neg h, if_neg h2]; rfl
theorem cmpI_swap (x y : Int) : cmpI y x = -cmpI x y := by
  unfold cmpI
  by_cases h : x < y
  · rw [if_neg (by omega), if_pos (by omega), if_pos h]; rfl
  · by_cases h2 : x > y
    · rw [if_pos (by omega), if_neg h, if_pos h2]
    · rw [if_neg (by omega), if_neg (by omega), if_neg h, if_neg h2]; rfl
theorem cmpI_lt {x y : Int} : cmpI x y < 0 ↔ x < y := by unfold cmpI; split <;> (try split) <;> omega
theorem cmpI_le {x y : Int} : cmpI x y ≤ 0 ↔ x ≤ y := by unfold cmpI; split <;> (try split) <;> omega
theorem cmpI_of_lt {x y : Int} (h : x < y) : cmpI x y = -1 := if_pos h
theorem cmpI_of_gt {x y : Int} (h : y < x) : cmpI x y = 1 := by unfold cmpI; rw [if_neg (by omega), if_pos h]
def sgn (n : Bool) (v : Int) : Int := if n = true then -v else v
def ordI (na : Bool) (va da : Int) (nb : Bool) (vb db : Int) : Int := cmpI (sgn na va * db) (sgn nb vb * da)
theorem ordI_diff {na nb : Bool} {va da vb db : Int} (h : na ≠ nb) (a0 : 0 ≤ va) (b0 : 0 ≤ vb) (ha : na = true → 0 < va) (hb : nb = true → 0 < vb) (pa : 0 < da) (pb : 0 < db) : ordI na va da nb vb db = if na = true then -1 else 1 := by
  unfold ordI sgn
  cases na with
  | true =>
    cases nb with
    | true => exact absurd rfl h
    | false =>
      rw [if_pos rfl, if_pos rfl, if_neg (by decide)]
      refine cmpI_of_lt ?_
      have h1 : 0 < va * db := Int.mul_pos (ha rfl) pb
      have h2 : 0 ≤ vb * da := Int.mul_nonneg b0 (by omega)
      rw [Int.neg_mul]; omega
  | false =>
    cases nb with
    | false => exact absurd rfl h
    | true =>
      show cmpI (va * db) (-vb * da) = 1
      refine cmpI_of_gt ?_
      have h1 : 0 < vb * da := Int.mul_pos (hb rfl) pa
      have h2 : 0 ≤ va * db := Int.mul_nonneg a0 (by omega)
      rw [Int.neg_mul]; omega
theorem ordI_same (n : Bool) (va da vb db : Int) : ordI n va da n vb db = if n = true then -cmpI (va * db) (vb * da) else cmpI (va * db) (vb * da) := by
  unfold ordI sgn
  cases n with
  | true => rw [if_pos rfl, if_pos rfl, if_pos rfl, Int.neg_mul, Int.neg_mul, cmpI_neg]
  | false => rw [if_neg (by decide), if_neg (by decide), if_neg (by decide)]
theorem Can.pos {neg : Bool} {num den : List Int} (h : Can neg num den) (hd : Lim 4294967296 den) : 0 < val 4294967296 den := val_pos (by decide) hd h.nd h.d0
theorem Can.neg_pos {neg : Bool} {num den : List Int} (h : Can neg num den) (hn : Lim 4294967296 num) (e : neg = true) : 0 < val 4294967296 num :=
  val_pos (by decide) hn h.nn (fun h0 => by rw [h.ng h0] at e; cases e)
theorem w11 : wrap64 (1 + 1) = 2 := by decide +kernel
theorem RCmp_ev (na : Bool) (a da : List Int) (nb : Bool) (b db : List Int) (ha : Lim 65536 a) (hda : Lim 65536 da) (hb : Lim 65536 b) (hdb : Lim 65536 db) (l1 : a.length ≤ 1048576) (l2 : da.length ≤ 1048576) (l3 : b.length ≤ 1048576) (l4 : db.length ≤ 1048576)
    (pa : na = true → 0 < val 65536 a) (pb : nb = true → 0 < val 65536 b) (qa : 0 < val 65536 da) (qb : 0 < val 65536 db) : Ev (fun k => rf_Cmp.f k na a da nb b db) (ordI na (val 65536 a) (val 65536 da) nb (val 65536 b) (val 65536 db)) := by
  obtain ⟨p, p1, p2, p3, p4, p5⟩ := MulNat_ev a db ha hdb (by omega)
  obtain ⟨q, q1, q2, q3, q4, q5⟩ := MulNat_ev b da hb hda (by omega)
  have e1 := CmpNat_ev p q p2 q2 (by omega) (by omega)
  have e2 := CmpNat_ev q p q2 p2 (by omega) (by omega)
  rw [p4, q4] at e1 e2
  rw [cmpI_swap] at e2
  refine Ev.bind (f := fun k t1778 => ((rf_MulNat.f k b da).bind fun t1781 => (if na = true then (rf_Cmp.j0 k t1778 t1781 (!nb) na a da nb b db) else (rf_Cmp.j0 k t1778 t1781 false na a da nb b db)))) p1 ?_
  refine Ev.bind (f := fun k t1781 => (if na = true then (rf_Cmp.j0 k p t1781 (!nb) na a da nb b db) else (rf_Cmp.j0 k p t1781 false na a da nb b db))) q1 ?_
  have j1 : ∀ m : Bool, Ev (fun k => rf_Cmp.j1 k p q false m a da) (if m = true then -cmpI (val 65536 a * val 65536 db) (val 65536 b * val 65536 da) else cmpI (val 65536 a * val 65536 db) (val 65536 b * val 65536 da)) := by
    intro m
    by_cases hm : m = true
    · rw [if_pos hm]
      refine Ev.step (f := fun k => (rf_CmpNat.f k q p).bind fun t => some t) (fun k => ?_) (Ev.bind (f := fun _ t => some t) e2 (Ev.now _))
      simp only [rf_Cmp.j1]
      rw [if_neg (by decide), if_pos hm]
    · rw [if_neg hm]
      refine Ev.step (f := fun k => (rf_CmpNat.f k p q).bind fun t => some t) (fun k => ?_) (Ev.bind (f := fun _ t => some t) e1 (Ev.now _))
      simp only [rf_Cmp.j1]
      rw [if_neg (by decide), if_neg hm]
  by_cases h : na = nb
  · subst h
    rw [ordI_same]
    refine Ev.congr (f := fun k => rf_Cmp.j0 k p q false na a da na b db) (fun k => ?_) (Ev.step (f := fun k => rf_Cmp.j1 k p q false na a da) (fun k => ?_) (j1 na))
    · cases na <;> rfl
    · simp only [rf_Cmp.j0]
      cases na <;> rfl
  · rw [ordI_diff h (val_nonneg (by decide) ha) (val_nonneg (by decide) hb) pa pb qa qb]
    cases na with
    | true =>
      have hb2 : nb = false := by cases nb with
        | true => exact absurd rfl h
        | false => rfl
      subst hb2
      refine Ev.congr (f := fun k => rf_Cmp.j0 k p q true true a da false b db) (fun k => by rw [if_pos rfl]; rfl) (Ev.step (f := fun _ => some (-1)) (fun k => ?_) (Ev.eq (Ev.now _) (by rw [if_pos rfl])))
      simp only [rf_Cmp.j0]
      rw [if_pos trivial]
    | false =>
      have hb2 : nb = true := by cases nb with
        | true => rfl
        | false => exact absurd rfl h
      subst hb2
      refine Ev.congr (f := fun k => rf_Cmp.j0 k p q false false a da true b db) (fun k => by rw [if_neg (by decide)]) (Ev.step (f := fun k => rf_Cmp.j1 k p q true false a da) (fun k => ?_) (Ev.step (f := fun _ => some 1) (fun k => ?_) (Ev.eq (Ev.now _) (by rw [if_neg (by decide)]))))
      · simp only [rf_Cmp.j0]
        rw [if_neg (by decide), if_neg (by decide)]
      · simp only [rf_Cmp.j1]
        rw [if_pos trivial]
theorem Of_can (neg : Bool) (num den : List Int) (hn : Lim 4294967296 num) (hd : Lim 4294967296 den) (h : Can neg num den) :
    ∃ p q, Ev (fun k => rf_Of.f k neg num den) (neg, p, q) ∧ Lim 65536 p ∧ Nrm p ∧ val 65536 p = val 4294967296 num ∧ p.length ≤ 256 ∧ Lim 65536 q ∧ Nrm q ∧ val 65536 q = val 4294967296 den ∧ q.length ≤ 256 := by
  have l1 := h.ln
  have l2 := h.ld
  obtain ⟨p, p1, p2, p3, p4, p5⟩ := natOf_ev num hn (by omega)
  obtain ⟨q, q1, q2, q3, q4, q5⟩ := natOf_ev den hd (by omega)
  refine ⟨p, q, ?_, p2, p3, p4, by omega, q2, q3, q4, by omega⟩
  refine Ev.bind (f := fun k t621 => ((rf_natOf.f k den).bind fun t624 => (some (neg, t621, t624)))) p1 ?_
  exact Ev.bind (f := fun _ t624 => some (neg, p, t624)) q1 (Ev.now _)
theorem RCmp_can (na : Bool) (a da : List Int) (nb : Bool) (b db : List Int) (ha : Lim 4294967296 a) (hda : Lim 4294967296 da) (hb : Lim 4294967296 b) (hdb : Lim 4294967296 db) (ca : Can na a da) (cb : Can nb b db) :
    ∃ p q s t, Ev (fun k => rf_Of.f k na a da) (na, p, q) ∧ Ev (fun k => rf_Of.f k nb b db) (nb, s, t) ∧ Ev (fun k => rf_Cmp.f k na p q nb s t) (ordI na (val 4294967296 a) (val 4294967296 da) nb (val 4294967296 b) (val 4294967296 db)) := by
  obtain ⟨p, q, h1, p1, p2, p3, p4, q1, q2, q3, q4⟩ := Of_can na a da ha hda ca
  obtain ⟨s, t, h2, s1, s2, s3, s4, t1, t2, t3, t4⟩ := Of_can nb b db hb hdb cb
  refine ⟨p, q, s, t, h1, h2, ?_⟩
  have e := RCmp_ev na p q nb s t p1 q1 s1 t1 (by omega) (by omega) (by omega) (by omega) (by rw [p3]; exact ca.neg_pos ha) (by rw [s3]; exact cb.neg_pos hb) (by rw [q3]; exact ca.pos hda) (by rw [t3]; exact cb.pos hdb)
  rw [p3, q3, s3, t3] at e
  exact e
theorem isInt_ev (neg : Bool) (a b : List Int) (hb : Lim 65536 b) (nb : Nrm b) (lb : b.length ≤ 1048576) : Ev (fun k => rf_IsInt.f k neg a b) (decide (val 65536 b = 1)) := by
  refine Ev.bind (f := fun _ t645 => some (t645 == 0)) (CmpNat_ev b [1] hb (one_lim (by decide)) (by omega) (by decide)) (Ev.eq (Ev.now _) ?_)
  rw [val_one]
  unfold cmpI
  by_cases h : val 65536 b = 1
  · rw [h]; rfl
  · by_cases h2 : val 65536 b < 1
    · rw [if_pos h2, decide_eq_false h]; rfl
    · rw [if_neg h2, if_pos (by omega), decide_eq_false h]; rfl
theorem Sign_ev (neg : Bool) (num den : List Int) (hn : Lim 4294967296 num) (hd : Lim 4294967296 den) :
    Ev (fun k => number_Sign.f k neg num den) (if fault neg num den = 0 then cmpI (sgn neg (val 4294967296 num)) 0 else 0, fault neg num den) := by
  refine Ev.bind (f := fun k t1543 => (if t1543 = 0 then (number_Sign.j0 k t1543 ((num.length : Int) == 0) neg num den) else (number_Sign.j0 k t1543 true neg num den))) (Check_ev neg num den hn hd) ?_
  by_cases h : fault neg num den = 0
  · have hc := can_of_fault' h
    rw [if_pos h]
    refine Ev.congr (f := fun k => number_Sign.j0 k 0 ((num.length : Int) == 0) neg num den) (fun k => by rw [if_pos h, h]) ?_
    rw [h]
    by_cases c : num = []
    · have e : ((num.length : Int) == 0) = true := by rw [c]; rfl
      have e2 : sgn neg (val 4294967296 num) = 0 := by rw [c]; unfold sgn; cases neg <;> rfl
      rw [e, e2]
      refine Ev.step (f := fun _ => some (0, 0)) (fun k => ?_) (Ev.now _)
      simp only [number_Sign.j0]
      rw [if_pos trivial]
    · have e : ((num.length : Int) == 0) = false := by
        have : num.length ≠ 0 := fun h' => c (List.length_eq_zero_iff.1 h')
        simp [this]
      have hp := val_pos (by decide) hn hc.nn c
      rw [e]
      cases neg with
      | true =>
        have e2 : cmpI (sgn true (val 4294967296 num)) 0 = -1 := cmpI_of_lt (by unfold sgn; rw [if_pos rfl]; omega)
        rw [e2]
        refine Ev.step (f := fun _ => some (-1, 0)) (fun k => ?_) (Ev.now _)
        simp only [number_Sign.j0]
        rw [if_neg (by decide), if_pos trivial]
      | false =>
        have e2 : cmpI (sgn false (val 4294967296 num)) 0 = 1 := cmpI_of_gt (by unfold sgn; rw [if_neg (by decide)]; omega)
        rw [e2]
        refine Ev.step (f := fun _ => some (1, 0)) (fun k => ?_) (Ev.now _)
        simp only [number_Sign.j0]
        rw [if_neg (by decide), if_neg (by decide)]
  · rw [if_neg h]
    refine Ev.congr (f := fun k => number_Sign.j0 k (fault neg num den) true neg num den) (fun k => if_neg h) (Ev.step (f := fun _ => some (0, fault neg num den)) (fun k => ?_) (Ev.now _))
    simp only [number_Sign.j0]
    rw [if_pos trivial]
theorem word16 {u x : Int} (u0 : 0 ≤ u) (u1 : u * 65536 + x < 18446744073709551616) (x0 : 0 ≤ x) (x1 : x < 65536) : Go.bits .or .u64 (IntKind.u64.wrap (u * 65536)) (IntKind.u64.wrap x) = x + 65536 * u := by
  rw [u64_id (by omega) (by omega), u64_id (by omega) (by omega), u64_or _ _ (by omega) (by omega) (by omega) (by omega), nat_join 16 _ _ (by omega) (by omega)]
  omega
theorem rtoInt_l0 (neg : Bool) (p q : List Int) (hp : Lim 65536 p) (hl : p.length ≤ 1048576) (hu : val 65536 p < 18446744073709551616) : ∀ (i : Nat), i ≤ p.length →
    Ev (fun k => rf_ToInt.l0 k (val 65536 (p.drop i)) ((i : Int) - 1) neg p q) (if neg = true then (wrap64 (IntKind.u64.wrap (-(val 65536 p))), 0) else (wrap64 (val 65536 p), 0)) := by
  intro i
  induction i with
  | zero =>
    intro _
    refine Ev.step (f := fun _ => some (if neg = true then (wrap64 (IntKind.u64.wrap (-(val 65536 p))), 0) else (wrap64 (val 65536 p), 0))) (fun k => ?_) (Ev.now _)
    simp only [rf_ToInt.l0]
    rw [if_neg (by decide), List.drop_zero]
    cases neg <;> rfl
  | succ i ih =>
    intro hi
    have e1 : (((i + 1 : Nat) : Int) - 1) = (i : Int) := by omega
    have g1 : (i : Int) ≥ 0 := by omega
    have g2 : (i : Int) < (p.length : Int) := by omega
    have gw : wrap64 ((i : Int) - 1) = (i : Int) - 1 := w64 (by omega) (by omega)
    have hx := hp.getD (by decide) i
    have hd := val_drop' 65536 p i
    have d0 := val_nonneg (B := 65536) (by decide) (hp.drop (i + 1))
    have hs := val_split' 65536 p i
    have t0 := val_nonneg (B := 65536) (by decide) (hp.take i)
    have hle : val 65536 (p.drop i) ≤ val 65536 p := by
      have pp : (1 : Int) ≤ 65536 ^ i := by
        have := Int.pow_pos (n := 65536) (m := i) (by decide)
        omega
      have dd := val_nonneg (B := 65536) (by decide) (hp.drop i)
      have := Int.mul_le_mul_of_nonneg_right pp dd
      omega
    refine Ev.step (f := fun k => rf_ToInt.l0 k (val 65536 (p.drop i)) ((i : Int) - 1) neg p q) (fun k => ?_) (ih (by omega))
    simp only [rf_ToInt.l0]
    rw [e1, if_pos g1, if_pos g1, if_pos g2, rd_getD, word16 d0 (by omega) hx.1 hx.2, gw, hd]
def rtA (k : Nat) (neg : Bool) (p q : List Int) : Option (Int × Int) := (rf_ShlNat.f k (([1] : List Int)) 63).bind fun t2443 => ((rf_Whole.f true t2443).bind fun bt2446 => ((rf_ShlNat.f k (([1] : List Int)) 63).bind fun t2457 => ((rf_SubNat.f k t2457 (([1] : List Int))).bind fun t2463 => ((rf_Whole.f false t2463).bind fun bt2466 => ((rf_Cmp.f k neg p q bt2446.1 bt2446.2.1 bt2446.2.2).bind fun t2474 => (if t2474 < 0 then (rf_ToInt.j0 k true neg p q) else ((rf_Cmp.f k neg p q bt2466.1 bt2466.2.1 bt2466.2.2).bind fun t2475 => (rf_ToInt.j0 k (decide (t2475 > 0)) neg p q))))))))
def rtB (k : Nat) (neg : Bool) (p q s : List Int) (n : Bool) (g o : List Int) : Option (Int × Int) := (rf_Cmp.f k neg p q true s [1]).bind fun t2474 => (if t2474 < 0 then (rf_ToInt.j0 k true neg p q) else ((rf_Cmp.f k neg p q n g o).bind fun t2475 => (rf_ToInt.j0 k (decide (t2475 > 0)) neg p q)))
set_option maxHeartbeats 4000000 in
theorem rtoInt_ev (neg : Bool) (num den : List Int) (hn : Lim 4294967296 num) (hd : Lim 4294967296 den) :
    Ev (fun k => rf_ToInt.f k neg num den) (if fault neg num den = 0 then (if den = [1] then (if num.length > 2 then (0, 3) else toInt neg (val 4294967296 num)) else (0, 7)) else (0, fault neg num den)) := by
  refine Ev.bind (f := fun k t2430 => (if t2430 = 0 then ((rf_Of.f k neg num den).bind fun bt2431 => ((rf_IsInt.f k bt2431.1 bt2431.2.1 bt2431.2.2).bind fun t2439 => (if t2439 = true then (rtA k bt2431.1 bt2431.2.1 bt2431.2.2) else (some (0, 7))))) else (some (0, t2430)))) (Fault_ev neg num den hn hd) ?_
  by_cases h : fault neg num den = 0
  · have hc := can_of_fault' h
    obtain ⟨p, q, h1, p1, p2, p3, p4, q1, q2, q3, q4⟩ := Of_can neg num den hn hd hc
    rw [if_pos h]
    refine Ev.congr (f := fun k => (rf_Of.f k neg num den).bind fun bt2431 => ((rf_IsInt.f k bt2431.1 bt2431.2.1 bt2431.2.2).bind fun t2439 => (if t2439 = true then (rtA k bt2431.1 bt2431.2.1 bt2431.2.2) else (some (0, 7))))) (fun k => if_pos h) ?_
    refine Ev.bind (f := fun k bt2431 => ((rf_IsInt.f k bt2431.1 bt2431.2.1 bt2431.2.2).bind fun t2439 => (if t2439 = true then (rtA k bt2431.1 bt2431.2.1 bt2431.2.2) else (some (0, 7))))) h1 ?_
    refine Ev.bind (f := fun k t2439 => (if t2439 = true then (rtA k neg p q) else (some (0, 7)))) (isInt_ev neg p q q1 q2 (by omega)) ?_
    have hone : decide (val 65536 q = 1) = decide (den = [1]) := by
      rw [q3]
      congr 1
      exact propext (eq_one (by decide) hd hc.nd)
    rw [hone]
    by_cases c : den = [1]
    · rw [if_pos c]
      refine Ev.congr (f := fun k => rtA k neg p q) (fun k => if_pos (decide_eq_true c)) ?_
      obtain ⟨s, s1, s2, s3, s4, s5⟩ := ShlNat_ev [1] 63 limbs_one.1 (by decide)
      rw [val_one, Int.one_mul] at s4
      have hs63 : val 65536 s = 9223372036854775808 := s4
      have s0 : s ≠ [] := by rintro rfl; simp [val] at hs63
      obtain ⟨g, g1, g2, g3, g4, g5⟩ := SubNat_ev s [1] s2 limbs_one.1 (by rw [hs63, val_one]; decide) (by simp only [List.length_singleton] at s5; omega)
      have hg63 : val 65536 g = 9223372036854775807 := by rw [g4, hs63, val_one]; rfl
      refine Ev.bind (f := fun k t2443 => ((rf_Whole.f true t2443).bind fun bt2446 => ((rf_ShlNat.f k (([1] : List Int)) 63).bind fun t2457 => ((rf_SubNat.f k t2457 (([1] : List Int))).bind fun t2463 => ((rf_Whole.f false t2463).bind fun bt2466 => ((rf_Cmp.f k neg p q bt2446.1 bt2446.2.1 bt2446.2.2).bind fun t2474 => (if t2474 < 0 then (rf_ToInt.j0 k true neg p q) else ((rf_Cmp.f k neg p q bt2466.1 bt2466.2.1 bt2466.2.2).bind fun t2475 => (rf_ToInt.j0 k (decide (t2475 > 0)) neg p q))))))))) s1 ?_
      have w1 : rf_Whole.f true s = some (true, s, [1]) := by rw [Whole_eq]; simp [s0]
      have w2 : rf_Whole.f false g = some (false, g, [1]) := by rw [Whole_eq]; rfl
      refine Ev.congr (f := fun k => (rf_ShlNat.f k (([1] : List Int)) 63).bind fun t2457 => ((rf_SubNat.f k t2457 (([1] : List Int))).bind fun t2463 => ((rf_Whole.f false t2463).bind fun bt2466 => (rtB k neg p q s bt2466.1 bt2466.2.1 bt2466.2.2)))) (fun k => by rw [w1, Option.bind_some]; rfl) ?_
      refine Ev.bind (f := fun k t2457 => ((rf_SubNat.f k t2457 (([1] : List Int))).bind fun t2463 => ((rf_Whole.f false t2463).bind fun bt2466 => (rtB k neg p q s bt2466.1 bt2466.2.1 bt2466.2.2)))) s1 ?_
      refine Ev.bind (f := fun k t2463 => ((rf_Whole.f false t2463).bind fun bt2466 => (rtB k neg p q s bt2466.1 bt2466.2.1 bt2466.2.2))) g1 ?_
      refine Ev.congr (f := fun k => (rf_Cmp.f k neg p q true s [1]).bind fun t2474 => (if t2474 < 0 then (rf_ToInt.j0 k true neg p q) else ((rf_Cmp.f k neg p q false g [1]).bind fun t2475 => (rf_ToInt.j0 k (decide (t2475 > 0)) neg p q)))) (fun k => by rw [w2, Option.bind_some]; rfl) ?_
      have hq1 : val 65536 q = 1 := by rw [q3, c, val_one]
      have pn : neg = true → 0 < val 65536 p := by rw [p3]; exact hc.neg_pos hn
      have r1 := RCmp_ev neg p q true s [1] p1 q1 s2 limbs_one.1 (by omega) (by omega) (by simp only [List.length_singleton] at s5; omega) (by decide) pn (fun _ => by omega) (by omega) (by rw [val_one]; decide)
      have r2 := RCmp_ev neg p q false g [1] p1 q1 g2 limbs_one.1 (by omega) (by omega) (by simp only [List.length_singleton] at s5; omega) (by decide) pn (fun h => by cases h) (by omega) (by rw [val_one]; decide)
      have o1 : ordI neg (val 65536 p) (val 65536 q) true (val 65536 s) (val 65536 [1]) = cmpI (sgn neg (val 4294967296 num)) (-9223372036854775808) := by
        unfold ordI
        rw [hq1, val_one, hs63, p3, Int.mul_one, Int.mul_one]; rfl
      have o2 : ordI neg (val 65536 p) (val 65536 q) false (val 65536 g) (val 65536 [1]) = cmpI (sgn neg (val 4294967296 num)) 9223372036854775807 := by
        unfold ordI
        rw [hq1, val_one, hg63, p3, Int.mul_one, Int.mul_one]; rfl
      rw [o1] at r1
      rw [o2] at r2
      have u0 := val_nonneg (B := 4294967296) (by decide) hn
      have too : Ev (fun k => rf_ToInt.j0 k true neg p q) (0, 3) := Ev.step (f := fun _ => some (0, 3)) (fun k => by simp only [rf_ToInt.j0]; rw [if_pos trivial]) (Ev.now _)
      have okk : val 4294967296 num < 18446744073709551616 → Ev (fun k => rf_ToInt.j0 k false neg p q) (if neg = true then (wrap64 (IntKind.u64.wrap (-(val 4294967296 num))), 0) else (wrap64 (val 4294967296 num), 0)) := by
        intro hu
        have hl := rtoInt_l0 neg p q p1 (by omega) (by rw [p3]; exact hu) p.length (Nat.le_refl _)
        rw [List.drop_length, p3] at hl
        refine Ev.step (f := fun k => rf_ToInt.l0 k 0 ((p.length : Int) - 1) neg p q) (fun k => ?_) hl
        simp only [rf_ToInt.j0]
        rw [if_neg (by decide), w64 (by omega) (by omega)]
      refine Ev.bind (f := fun k t2474 => (if t2474 < 0 then (rf_ToInt.j0 k true neg p q) else ((rf_Cmp.f k neg p q false g [1]).bind fun t2475 => (rf_ToInt.j0 k (decide (t2475 > 0)) neg p q)))) r1 ?_
      have hlen : num.length > 2 → 18446744073709551616 ≤ val 4294967296 num := by
        intro hl
        have h1 := val_ge (by decide) hn hc.nn (by rintro rfl; simp at hl)
        have h2 := pow_mono' (B := 4294967296) (by decide) (show 2 ≤ num.length - 1 by omega)
        have h3 : (4294967296 : Int) ^ 2 = 18446744073709551616 := by decide
        omega
      have hlen2 : ¬ num.length > 2 → val 4294967296 num < 18446744073709551616 := by
        intro hl
        have h1 := val_lt (by decide) hn
        have h2 := pow_mono' (B := 4294967296) (by decide) (show num.length ≤ 2 by omega)
        have h3 : (4294967296 : Int) ^ 2 = 18446744073709551616 := by decide
        omega
      by_cases k1 : cmpI (sgn neg (val 4294967296 num)) (-9223372036854775808) < 0
      · refine Ev.congr (fun k => if_pos k1) (Ev.eq too ?_)
        have k2 := cmpI_lt.1 k1
        by_cases hl : num.length > 2
        · rw [if_pos hl]
        · rw [if_neg hl]
          unfold toInt
          cases neg with
          | true => unfold sgn at k2; rw [if_pos rfl] at k2; rw [if_pos rfl, if_neg (by omega)]
          | false => unfold sgn at k2; rw [if_neg (by decide)] at k2; omega
      · refine Ev.congr (f := fun k => (rf_Cmp.f k neg p q false g [1]).bind fun t2475 => (rf_ToInt.j0 k (decide (t2475 > 0)) neg p q)) (fun k => if_neg k1) ?_
        refine Ev.bind (f := fun k t2475 => (rf_ToInt.j0 k (decide (t2475 > 0)) neg p q)) r2 ?_
        have k2 : -9223372036854775808 ≤ sgn neg (val 4294967296 num) := Int.not_lt.1 (fun h => k1 (cmpI_lt.2 h))
        by_cases k3 : cmpI (sgn neg (val 4294967296 num)) 9223372036854775807 > 0
        · rw [decide_eq_true k3]
          refine Ev.eq too ?_
          have k4 : 9223372036854775807 < sgn neg (val 4294967296 num) := by
            unfold cmpI at k3
            split at k3
            · omega
            · split at k3 <;> omega
          by_cases hl : num.length > 2
          · rw [if_pos hl]
          · rw [if_neg hl]
            unfold toInt
            cases neg with
            | true => unfold sgn at k4; rw [if_pos rfl] at k4; omega
            | false => unfold sgn at k4; rw [if_neg (by decide)] at k4; rw [if_neg (by decide), if_neg (by omega)]
        · rw [decide_eq_false k3]
          have k4 : sgn neg (val 4294967296 num) ≤ 9223372036854775807 := cmpI_le.1 (by omega)
          have hl : ¬ num.length > 2 := by
            intro hl
            have := hlen hl
            cases neg with
            | true => unfold sgn at k2; rw [if_pos rfl] at k2; omega
            | false => unfold sgn at k4; rw [if_neg (by decide)] at k4; omega
          rw [if_neg hl]
          refine Ev.eq (okk (hlen2 hl)) ?_
          unfold toInt
          cases neg with
          | true =>
            unfold sgn at k2
            rw [if_pos rfl] at k2
            have e : wrap64 (IntKind.u64.wrap (-(val 4294967296 num))) = -(val 4294967296 num) := by rw [u64w]; unfold wrap64; omega
            rw [if_pos rfl, if_pos rfl, if_pos (by omega), e]
          | false =>
            unfold sgn at k4
            rw [if_neg (by decide)] at k4
            rw [if_neg (by decide), if_neg (by decide), if_pos k4, w64 (by omega) (by omega)]
    · rw [if_neg c]
      exact Ev.ret fun k => if_neg (by simp [c])
  · rw [if_neg h]
    exact Ev.ret fun k => if_neg h
set_option maxHeartbeats 4000000 in
theorem toint_pure (neg : Bool) (num den : List Int) (hn : Lim 4294967296 num) (hd : Lim 4294967296 den) : ∃ k, lw_NumberToIntMatchesSpec.f k neg num den = some true := by
  refine ev_rounds (g := fun k => lw_NumberToIntMatchesSpec.f k neg num den) ?_
  have hcnt : Ev (fun k => (lw_counted.f k).bind fun t => some t) true := Ev.bind (f := fun _ t => some t) counted_ev (Ev.now _)
  have t1 := ToInt_ev neg num den hn hd
  have t2 := rtoInt_ev neg num den hn hd
  generalize (if fault neg num den = 0 then (if den = [1] then (if num.length > 2 then ((0 : Int), (3 : Int)) else toInt neg (val 4294967296 num)) else (0, 7)) else (0, fault neg num den)) = X at t1 t2
  refine Ev.bind (f := fun k bt2478 => ((rf_ToInt.f k neg num den).bind fun bt2480 => (if bt2478.1 = bt2480.1 then (lw_NumberToIntMatchesSpec.j0 k (bt2478.2 != bt2480.2) neg num den) else (lw_NumberToIntMatchesSpec.j0 k true neg num den)))) t1 ?_
  refine Ev.bind (f := fun k bt2480 => (if X.1 = bt2480.1 then (lw_NumberToIntMatchesSpec.j0 k (X.2 != bt2480.2) neg num den) else (lw_NumberToIntMatchesSpec.j0 k true neg num den))) t2 ?_
  refine Ev.congr (f := fun k => lw_NumberToIntMatchesSpec.j0 k false neg num den) (fun k => by rw [if_pos rfl]; simp) ?_
  refine Ev.step (f := fun k => (number_Sign.f k neg num den).bind fun bt2482 => ((rf_Fault.f k neg num den).bind fun t2484 => (if bt2482.2 = t2484 then (lw_NumberToIntMatchesSpec.j1 k bt2482.2 t2484 bt2482.1 (t2484 != 0) neg num den) else (lw_NumberToIntMatchesSpec.j1 k bt2482.2 t2484 bt2482.1 true neg num den)))) (fun k => by simp only [lw_NumberToIntMatchesSpec.j0]; rw [if_neg (by decide)]) ?_
  refine Ev.bind (f := fun k bt2482 => ((rf_Fault.f k neg num den).bind fun t2484 => (if bt2482.2 = t2484 then (lw_NumberToIntMatchesSpec.j1 k bt2482.2 t2484 bt2482.1 (t2484 != 0) neg num den) else (lw_NumberToIntMatchesSpec.j1 k bt2482.2 t2484 bt2482.1 true neg num den)))) (Sign_ev neg num den hn hd) ?_
  obtain ⟨S, hS⟩ : ∃ S, S = (if fault neg num den = 0 then cmpI (sgn neg (val 4294967296 num)) 0 else 0) := ⟨_, rfl⟩
  rw [← hS]
  refine Ev.bind (f := fun k t2484 => (if fault neg num den = t2484 then (lw_NumberToIntMatchesSpec.j1 k (fault neg num den) t2484 S (t2484 != 0) neg num den) else (lw_NumberToIntMatchesSpec.j1 k (fault neg num den) t2484 S true neg num den))) (Fault_ev neg num den hn hd) ?_
  refine Ev.congr (f := fun k => lw_NumberToIntMatchesSpec.j1 k (fault neg num den) (fault neg num den) S (fault neg num den != 0) neg num den) (fun k => if_pos rfl) ?_
  by_cases h : fault neg num den = 0
  · have hc := can_of_fault' h
    rw [if_pos h] at hS
    have e : (fault neg num den != 0) = false := by rw [h]; rfl
    rw [e]
    have c0 : Can false [] [1] := can_int 0 [] (lim_nil _) nrm_nil rfl (by decide)
    obtain ⟨p, q, s, t, f1, f2, f3⟩ := RCmp_can neg num den false [] [1] hn hd (lim_nil _) (one_lim (by decide)) hc c0
    have e2 : ordI neg (val 4294967296 num) (val 4294967296 den) false (val 4294967296 []) (val 4294967296 [1]) = S := by
      rw [hS]
      unfold ordI
      rw [val_one, Int.mul_one]
      have : sgn false (val 4294967296 []) * val 4294967296 den = 0 := by
        show (0 : Int) * _ = 0
        exact Int.zero_mul _
      rw [this]
    rw [e2] at f3
    have r0 := RFromInt_ev 0 (by decide) (by decide) [] (lim_nil _) nrm_nil rfl
    refine Ev.step (f := fun k => (rf_Of.f k neg num den).bind fun bt2486 => ((rf_FromInt.f k 0).bind fun bt2493 => ((rf_Of.f k bt2493.1 bt2493.2.1 bt2493.2.2).bind fun bt2500 => ((rf_Cmp.f k bt2486.1 bt2486.2.1 bt2486.2.2 bt2500.1 bt2500.2.1 bt2500.2.2).bind fun t2507 => (if S = t2507 then ((lw_counted.f k).bind fun t2508 => (some t2508)) else (some false)))))) (fun k => by simp only [lw_NumberToIntMatchesSpec.j1]; rw [if_neg (by decide)]) ?_
    refine Ev.bind (f := fun k bt2486 => ((rf_FromInt.f k 0).bind fun bt2493 => ((rf_Of.f k bt2493.1 bt2493.2.1 bt2493.2.2).bind fun bt2500 => ((rf_Cmp.f k bt2486.1 bt2486.2.1 bt2486.2.2 bt2500.1 bt2500.2.1 bt2500.2.2).bind fun t2507 => (if S = t2507 then ((lw_counted.f k).bind fun t2508 => (some t2508)) else (some false)))))) f1 ?_
    refine Ev.bind (f := fun k bt2493 => ((rf_Of.f k bt2493.1 bt2493.2.1 bt2493.2.2).bind fun bt2500 => ((rf_Cmp.f k neg p q bt2500.1 bt2500.2.1 bt2500.2.2).bind fun t2507 => (if S = t2507 then ((lw_counted.f k).bind fun t2508 => (some t2508)) else (some false))))) r0 ?_
    refine Ev.bind (f := fun k bt2500 => ((rf_Cmp.f k neg p q bt2500.1 bt2500.2.1 bt2500.2.2).bind fun t2507 => (if S = t2507 then ((lw_counted.f k).bind fun t2508 => (some t2508)) else (some false)))) f2 ?_
    refine Ev.bind (f := fun k t2507 => (if S = t2507 then ((lw_counted.f k).bind fun t2508 => (some t2508)) else (some false))) f3 ?_
    exact Ev.congr (fun k => if_pos rfl) hcnt
  · rw [if_neg h] at hS
    have e : (fault neg num den != 0) = true := by simpa using h
    rw [e, hS]
    refine Ev.step (f := fun k => (lw_counted.f k).bind fun t => some t) (fun k => ?_) hcnt
    simp only [lw_NumberToIntMatchesSpec.j1]
    rw [if_pos trivial, if_pos trivial, if_pos trivial]
end Go.Proofs.YtemnjgkicndmjaaDoor.Q
namespace Go.Proofs.YtemnjgkicndmjaaDoor.Q
open Go.ChangeShapes Go.WideShapes Go.ChangeAt Go.RowKit Go.Joins Go.Proofs.YtemnjgkicndmjaaDoorW.PrintWords Go.Proofs.YtemnjgkicndmjaaDoorW.PrintLast Go.Proofs.YtemnjgkicndmjaaDoorW.PrintMore
set_option linter.unusedVariables false
namespace ToIntLaw
set_option maxRecDepth 100000 in
theorem contract (H : Type) (enc : TypeId × Value → H) (W : World) (base : Nat) (args : Array Value) (ds gs : List (DataW H)) (before : List MemPlace)
    (hval : ∀ (j : Nat) t v, Tryd.f10.params[j]? = some t → args[j]? = some v → Value.okWide Tryd.prog W .any base t v)
    (hW : DataW.Whole enc Tryd.prog Tryd.f10.params.toList Rows.numberToIntMatchesSpecSpec.vars false W args.toList ds gs before) :
    Calls Tryd.prog 10 args W fun e W' => ∃ v, e = .returned v ∧ Rows.numberToIntMatchesSpecSpec.post enc Tryd.prog Tryd.f10 false true false false W args v W' := by
  have hW' := hW
  obtain ⟨p, q, hA0, hV, rfl, hfz, hnd⟩ := hW
  have hA : DataW.TrodAll enc Tryd.prog W 0 (fun _ => true) true Tryd.f10.params.toList args.toList ds p := hA0
  rw [Tryd.params10] at hA hval
  obtain ⟨v0, vs0, d0, ds0, p0, q0, hargs, rfl, rfl, h0, r0⟩ := trodAll_cons hA
  obtain ⟨rfl, rfl, rfl⟩ := trodAll_nil r0
  obtain rfl : args = #[v0] := by cases args; simp_all
  obtain ⟨rfl, rfl⟩ := trodVars_none hV
  have k0 := h0
  have lt0 : ∀ x ∈ p0, x.block < W.heap.size := by obtain ⟨m, hm⟩ := k0; exact DataW.trod_lt m _ _ _ hm
  obtain ⟨neg, A1, c1, l1, A2, c2, l2, rfl, i1, m1, n1, i2, m2, n2⟩ := open_number (hval 0 24 v0 rfl rfl) h0
  clear hA0
  simp only [List.append_nil] at hW'
  obtain ⟨k, hk⟩ := toint_pure neg l1 l2 n1 n2
  refine (lw_NumberToIntMatchesSpec.calls k neg A1 c1 l1 A2 c2 l2 true W m1 i1 m2 i2 hk rfl).mono fun e W' ⟨he, bel⟩ => ?_
  subst he
  exact ⟨_, rfl, _, _, _, [], _, [], hW', trodAll_mk1 (shut_bool Tryd.underlying4 _), (trodAll_cons_mk (Below.trod laidOut (by kernel_rfl) (of_decide_eq_true (by kernel_rfl)) k0 bel lt0) trodAll_mk0), rfl, bel.frame _, fun h => by cases h⟩
theorem reads (os : Os) {H : Type} (enc : TypeId × Value → H) : ∃ places, DataW.whole enc Tryd.prog ((laidWorld os).forCall (fun _ _ => 0) ⟨#[], #[.agg #[.bool false, .slice none 0 0, .slice none 0 0]], []⟩).memory Tryd.f10.params.toList Rows.numberToIntMatchesSpecSpec.vars false #[Value.agg #[.bool false, .slice none 0 0, .slice none 0 0]].toList 8 = some ([.agg [.lit (.bool false), .nil, .nil]], [], places) :=
  ⟨[], by kernel_rfl⟩
set_option maxRecDepth 100000 in
theorem lifted (os : Os) (started : os.Started) (H : Type) (enc : TypeId × Value → H) (F : Stop.Interp) :
    ReturnsInHanded {} Tryd.checked os 10 .any ((OpenSpec.ofChange Rows.numberToIntMatchesSpecSpec).preRow enc Tryd.prog Tryd.f10 Rows.numberToIntMatchesSpecRow.domain false Rows.numberToIntMatchesSpecRow.laid) (((OpenSpec.ofChange Rows.numberToIntMatchesSpecSpec).at F).post enc Tryd.prog Tryd.f10 false true false false) := by
  obtain ⟨places, hx⟩ := reads os enc
  refine returnsInHanded_of_row (C := Tryd.checked) (s := OpenSpec.ofChange Rows.numberToIntMatchesSpecSpec) own started (by kernel_rfl) Tryd.func10
    (witness_row_at (enc := enc) (C := Tryd.checked) false (laidWorld os) #[.agg #[.bool false, .slice none 0 0, .slice none 0 0]] rfl (by kernel_rfl) (by kernel_rfl) (by kernel_rfl)
      (OpenSpec.preRow_of_cond 8 hx (by kernel_rfl) (fun k hk => by cases hk) (by kernel_rfl) (laid_met os _))) ?_
  intro W base args ds gs before hval hW _ _ _ hL _ _
  exact contract H enc W base args ds gs before hval hW
theorem said : Rows.NumberToIntMatchesSpecSaid :=
  OpenClaim.holds_of_cond 10 Tryd.f10 rfl rfl rfl rfl rfl rfl rfl ⟨rfl, rfl, rfl, rfl, rfl⟩ rfl rfl rfl rfl rfl (by kernel_rfl) Tryd.func10 (by kernel_rfl)
    (of_decide_eq_true (by kernel_rfl)) (by unfold Func.isWrapper; first | (rw [if_pos (by decide +kernel)]; kernel_rfl) | (rw [if_neg (by decide +kernel)]; exact ⟨rfl, rfl⟩))
    (fun os started H enc _ F => by rw [OpenClaim.pre_eq_preRow]; exact lifted os started H enc F)
theorem plain (f : FuncId) (fn : Func) (hf : Tryd.pinned.checked.prog.funcNamed "fetterlock/fetterlocklaw1.NumberToIntMatchesSpec" = some f) (hfn : Tryd.pinned.checked.prog.funcs[f]? = some fn) :
    false = Tryd.pinned.checked.prog.looks [] ∧ ∀ (j : Nat) t, fn.params[j]? = some t → Tryd.pinned.checked.prog.wantsStandIn t = false := by
  obtain rfl : f = 10 := Option.some.inj ((show Tryd.prog.funcNamed "fetterlock/fetterlocklaw1.NumberToIntMatchesSpec" = some 10 by kernel_rfl).symm.trans hf) |>.symm
  obtain rfl : fn = Tryd.f10 := (Option.some.inj (Tryd.func10.symm.trans hfn)).symm
  refine ⟨by kernel_rfl, fun j t ht => ?_⟩
  rw [Tryd.params10] at ht
  obtain rfl : t = 24 := by simpa using Array.mem_of_getElem? ht
  exact (show Tryd.prog.wantsStandIn 24 = false by kernel_rfl)
theorem card : Rows.NumberToIntMatchesSpecCardSaid :=
  Claim7.holds_tied_plain_at .later [] _ _ _ _ said (fun _ h => by cases h) (by kernel_rfl) (fun _ h => by cases h) numberToIntMatchesSpec_row_tie rfl ⟨rfl, rfl⟩ (by kernel_rfl) rfl plain (by kernel_rfl)
end ToIntLaw
end Go.Proofs.YtemnjgkicndmjaaDoor.Q
namespace Go.Proofs.YtemnjgkicndmjaaDoor
theorem numberToIntMatchesSpec_holds : Rows.NumberToIntMatchesSpecCardSaid := Q.ToIntLaw.card
end Go.Proofs.YtemnjgkicndmjaaDoor

