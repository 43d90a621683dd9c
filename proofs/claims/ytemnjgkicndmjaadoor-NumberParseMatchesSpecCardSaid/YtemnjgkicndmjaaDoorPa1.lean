/- What this text proves: a part of the walk and of the plain laws of one card; no conditions. -/
import Derived.Test.YtemnjgkicndmjaaDoorPa0
import Derived.Laws.BytesArg
import Derived.Lib.IndexLaws
import Derived.Lib.SlTrimSet
import Derived.ChangeSame
import Derived.Stop.Joined
import Derived.SevenTiedAt
namespace Go.Proofs.YtemnjgkicndmjaaDoor.Q
open Go.RowKit Go.Proofs.YtemnjgkicndmjaaDoorW.PrintWords Go.Proofs.YtemnjgkicndmjaaDoorW.PrintLast Go.Proofs.YtemnjgkicndmjaaDoorW.PrintMore
attribute [local go_sem] max2_int min2_int max_two min_two max_three min_three max_four min_four
set_option linter.unusedVariables false
set_option linter.unusedSimpArgs false
mutual
def rf_Parse.j0 : Nat → ByteArray → ByteArray → ByteArray → ByteArray → Bool → Bool → Option (Bool × List Int × List Int × Int)
 | 0, _, _, _, _, _, _ => none
 | k + 1, x0, x4, x5, x6, x7, x31 => if x31 = true then (some (false, ([] : List Int), ([] : List Int), 6)) else (if x7 = true then ((rf_OfDecimal.f k x6).bind fun t1847 => (rf_Parse.j1 k x0 x4 x5 t1847)) else (rf_Parse.j1 k x0 x4 x5 (([1] : List Int))))
def rf_Parse.j1 : Nat → ByteArray → ByteArray → ByteArray → List Int → Option (Bool × List Int × List Int × Int)
 | 0, _, _, _, _ => none
 | k + 1, x0, x4, x5, x8 => if (x8.length : Int) = 0 then (some (false, ([] : List Int), ([] : List Int), 10)) else (if (x4.size : Int) < (x0.size : Int) then ((rf_OfDecimal.f k x5).bind fun t1850 => ((rf_reduce.f k true t1850 x8).bind fun bt1853 => ((rf_Made.f k bt1853.1 bt1853.2.1 bt1853.2.2).bind fun bt1860 => (some (bt1860.1, bt1860.2.1, bt1860.2.2.1, bt1860.2.2.2))))) else ((rf_OfDecimal.f k x5).bind fun t1868 => ((rf_reduce.f k false t1868 x8).bind fun bt1871 => ((rf_Made.f k bt1871.1 bt1871.2.1 bt1871.2.2).bind fun bt1878 => (some (bt1878.1, bt1878.2.1, bt1878.2.2.1, bt1878.2.2.2))))))
end
def rf_Parse.f (k : Nat) (a0 : ByteArray) : Option (Bool × List Int × List Int × Int) := if (a0.size : Int) > 2500 then (some (false, ([] : List Int), ([] : List Int), 3)) else ((strings_TrimPrefix.f a0 (⟨#[45]⟩ : ByteArray)).bind fun t1838 => ((strings_Cut.f t1838 (⟨#[114]⟩ : ByteArray)).bind fun bt1839 => ((rf_digits.f k bt1839.1).bind fun t1842 => (if t1842 = true then (if bt1839.2.2 = true then ((rf_digits.f k bt1839.2.1).bind fun t1843 => (rf_Parse.j0 k a0 t1838 bt1839.1 bt1839.2.1 bt1839.2.2 (!t1843))) else (rf_Parse.j0 k a0 t1838 bt1839.1 bt1839.2.1 bt1839.2.2 false)) else (rf_Parse.j0 k a0 t1838 bt1839.1 bt1839.2.1 bt1839.2.2 true)))))
theorem rf_Parse.mono_l : ∀ k, (∀ y0 y1 y2 y3 y4 y5, LeO (rf_Parse.j0 k y0 y1 y2 y3 y4 y5) (rf_Parse.j0 (k + 1) y0 y1 y2 y3 y4 y5)) ∧ (∀ y0 y1 y2 y3, LeO (rf_Parse.j1 k y0 y1 y2 y3) (rf_Parse.j1 (k + 1) y0 y1 y2 y3))
 | 0 => ⟨fun _ _ _ _ _ _ r h => by simp [rf_Parse.j0] at h, fun _ _ _ _ r h => by simp [rf_Parse.j1] at h⟩
 | k + 1 => by
  obtain ⟨ih0, ih1⟩ := rf_Parse.mono_l k
  refine ⟨?_, ?_⟩
  ·intro y0 y1 y2 y3 y4 y5
   unfold rf_Parse.j0
   have m0 := ih0
   have m1 := ih1
   have m2 := @rf_Made.mono
   have m3 := @rf_OfDecimal.mono
   have m4 := @rf_digits.mono
   have m5 := @rf_reduce.mono
   exact zm
  ·intro y0 y1 y2 y3
   unfold rf_Parse.j1
   have m0 := ih0
   have m1 := ih1
   have m2 := @rf_Made.mono
   have m3 := @rf_OfDecimal.mono
   have m4 := @rf_digits.mono
   have m5 := @rf_reduce.mono
   exact zm
theorem rf_Parse.mono : ∀ a0 k, LeO (rf_Parse.f k a0) (rf_Parse.f (k + 1) a0) := by
 intro a0 k
 obtain ⟨ih0, ih1⟩ := rf_Parse.mono_l k
 unfold rf_Parse.f
 have m0 := ih0
 have m1 := ih1
 have m2 := @rf_Made.mono
 have m3 := @rf_OfDecimal.mono
 have m4 := @rf_digits.mono
 have m5 := @rf_reduce.mono
 exact zm
set_option maxHeartbeats 8000000 in
set_option maxRecDepth 100000 in
theorem rf_Parse.calls (k : Nat) (a0 : ByteArray) (r1 : Bool) (r2 : List Int) (r3 : List Int) (r4 : Int) (w : World) (h : rf_Parse.f k a0 = some (r1, r2, r3, r4)) :
  Calls Tryd.prog 21 #[.string a0] w fun e w' => ∃ v1_ v2_ : Value, e = .returned (.tuple #[.agg #[.bool r1, v1_, v2_], .int .i64 r4]) ∧ Kd.R (Kd.int .u32) 55 w' w.heap.size (fun k_ => some k_ ≠ (v2_ : Value).ownBlock) v1_ r2 ∧ Kd.R (Kd.int .u32) 55 w' w.heap.size (fun k_ => some k_ ≠ (v1_ : Value).ownBlock) v2_ r3 ∧ Below w.heap.size w w' := by
 have hu24 := Tryd.underlying24
 have HB := am (Below.refl w.heap.size w)
 have H := h
 unfold rf_Parse.f at H
 clear h
 by_cases c2 : (a0.size : Int) > 2500
 ·rw [if_pos c2] at H
  have c2b0 : decide (2500 < (a0.size : Int)) = true := decide_eq_true c2
  have c2b1 : decide (2500 < a0.size) = true := decide_eq_true (by omega)
  clear c2
  simp only [Option.some.injEq, Prod.mk.injEq] at H
  obtain ⟨rfl, rfl, rfl, rfl⟩ := H
  go_enter Tryd.func21, Tryd.ntmps21
  go_wp2_with (first | ((with_reducible refine gate_dst (N := 2) rfl ?_); refine zbox (N := 2) (cs := #[.bool false, .slice none 0 0, .slice none 0 0]) (t := 24) ?_; intro gb1837 hg w3 hbox hb; refine zt3 (below_step zq1 hb) (hbox) ((zs hg (below_size zq1) : w.heap.size ≤ gb1837)) ?_; clear HB; intro HB BK1837 GW1837; have GE1837 := GW1837; clear hb hbox hg; have hcz4_0 := bc BK1837.out 0 (.bool false); have hcz4_1 := bc BK1837.out 1 (.slice none 0 0); have hcz4_2 := bc BK1837.out 2 (.slice none 0 0); have hfz4_0 := blk_frozen BK1837.out 0; have hfz4_1 := blk_frozen BK1837.out 1; have hfz4_2 := blk_frozen BK1837.out 2))
  refine bodyPost_ret (results_ct rfl _ _ gb1837 24 #[.bool false, .slice none 0 0, .slice none 0 0] (0, 0) _ rfl (by (with_reducible repeat (first | refine blk_drewN ?_ _ | refine blk_drew ?_ | refine blk_alloc ?_ _)); refine blk_put (cs := #[.bool false, .slice none 0 0, .slice none 0 0]) ?_ 2 _ rfl; (with_reducible repeat (first | refine blk_drewN ?_ _ | refine blk_drew ?_ | refine blk_alloc ?_ _)); refine blk_put (cs := #[.bool false, .slice none 0 0, .slice none 0 0]) ?_ 1 _ rfl; (with_reducible repeat (first | refine blk_drewN ?_ _ | refine blk_drew ?_ | refine blk_alloc ?_ _)); refine blk_put (cs := #[.bool false, .slice none 0 0, .slice none 0 0]) ?_ 0 _ rfl; (with_reducible repeat (first | refine blk_drewN ?_ _ | refine blk_drew ?_ | refine blk_alloc ?_ _)); exact BK1837.out) Tryd.underlying24 rfl (by kernel_rfl)) rfl ?_
  exact ⟨_, _, zq9, by first | exact Kd.R_nil _ _ _ _ _ | exact Kd.N_nil _ _ _ _ _ | exact Kd.V_nil _ _ _ _ _ | exact Kd.Q_nil _ _ _ _ _ | exact Kd.S_nil _ _ _ _ _, by first | exact Kd.R_nil _ _ _ _ _ | exact Kd.N_nil _ _ _ _ _ | exact Kd.V_nil _ _ _ _ _ | exact Kd.Q_nil _ _ _ _ _ | exact Kd.S_nil _ _ _ _ _, zb1 GE1837.out⟩
 ·rw [if_neg c2] at H
  have c2b0 : decide (2500 < (a0.size : Int)) = false := decide_eq_false c2
  have c2b1 : decide (2500 < a0.size) = false := decide_eq_false (by omega)
  clear c2
  replace H := zj H
  obtain ⟨t1838, A5, H⟩ := H
  replace H := zj H
  obtain ⟨⟨t1839, t1840, t1841⟩, A6, H⟩ := H
  try dsimp only at H
  have HC7 := am H
  clear H
  go_enter Tryd.func21, Tryd.ntmps21
  go_upto_region 5 with (first | ((with_reducible refine gate_dst (N := 2) rfl ?_); refine zbox (N := 2) (cs := #[.bool false, .slice none 0 0, .slice none 0 0]) (t := 24) ?_; intro gb1837 hg w8 hbox hb; refine zt3 (below_step zq1 hb) (hbox) ((zs hg (below_size zq1) : w.heap.size ≤ gb1837)) ?_; clear HB; intro HB BK1837 GW1837; have GE1837 := GW1837; clear hb hbox hg) | ((with_reducible refine gate_callee (f := 56) rfl ?_); refine goesL_ (some 14) rfl rfl Tryd.func56 (by kernel_rfl) rfl #[.string a0, .string (⟨#[45]⟩ : ByteArray)] rfl zq5 ?_; (with_reducible refine (strings_TrimPrefix.calls a0 (⟨#[45]⟩ : ByteArray) t1838 _ A5.out).mono ?_); rintro e w' ⟨rfl, ⟨nd, rfl⟩⟩; refine ⟨_, rfl, ?_⟩) | ((with_reducible refine gate_callee (f := 51) rfl ?_); refine goesL_ (some 17) rfl rfl Tryd.func51 (by kernel_rfl) rfl #[.string t1838, .string (⟨#[114]⟩ : ByteArray)] rfl zq5 ?_; (with_reducible refine (strings_Cut.calls t1838 (⟨#[114]⟩ : ByteArray) t1839 t1840 t1841 _ A6.out).mono ?_); rintro e w' ⟨rfl, ⟨nd, rfl⟩⟩; refine ⟨_, rfl, ?_⟩))
  (try simp only [Act.put, List.setIfInBounds_toArray, List.set_cons_zero, List.set_cons_succ])
  go_cut [31] (fun v31 wc => ∃ (kq : Nat) (x31_6 : Bool), v31 = .bool x31_6 ∧ Aside0 (rf_Parse.j0 kq a0 t1838 t1839 t1840 t1841 x31_6 = some (r1, r2, r3, r4)) ∧ Aside0 (kq ≤ k) ∧ Aside0 (wc.heap[gb1837]? = some (.cells #[.bool false, (.slice none 0 0), (.slice none 0 0)] 24 (0, 0))) ∧ Aside0 (Below w.heap.size w wc))
  case first =>
   have H := HC7.out
   clear HC7
   replace H := zj H
   obtain ⟨t1842, A9, H⟩ := H
   by_cases c10 : t1842 = true
   ·subst c10
    have H1 : (if t1841 = true then ((rf_digits.f k t1840).bind fun t1843 => (rf_Parse.j0 k a0 t1838 t1839 t1840 t1841 (!t1843))) else (rf_Parse.j0 k a0 t1838 t1839 t1840 t1841 false)) = some (r1, r2, r3, r4) := by rw [if_pos rfl] at H; exact H
    clear H
    have H := H1
    clear H1
    by_cases c11 : t1841 = true
    ·subst c11
     have H1 : ((rf_digits.f k t1840).bind fun t1843 => (rf_Parse.j0 k a0 t1838 t1839 t1840 true (!t1843))) = some (r1, r2, r3, r4) := by rw [if_pos rfl] at H; exact H
     clear H
     have H := H1
     clear H1
     replace H := zj H
     obtain ⟨t1843, A12, H⟩ := H
     have H' := am H
     clear H
     go_wp2_with (first | ((with_reducible refine gate_callee (f := 57) rfl ?_); refine goesL_ (some 22) rfl rfl Tryd.func57 (by kernel_rfl) rfl #[.string t1839] rfl zq5 ?_; (with_reducible refine (rf_digits.calls k t1839 true _ A9.out).mono ?_); rintro e w' ⟨rfl, ⟨nd, rfl⟩⟩; refine ⟨_, rfl, ?_⟩) | (go_at_call 57; (with_reducible refine (rf_digits.calls k t1840 t1843 _ A12.out).mono ?_); rintro e w' ⟨rfl, ⟨nd, rfl⟩⟩))
     go_meet
     case rel => exact ⟨_, (!t1843), zq8, H', ⟨by first | omega | exact Nat.le_refl _⟩, ⟨zq2 BK1837.out⟩, ⟨zb1 GE1837.out⟩⟩
    ·replace c11 := Bool.eq_false_iff.mpr c11
     subst c11
     have H1 : (rf_Parse.j0 k a0 t1838 t1839 t1840 false false) = some (r1, r2, r3, r4) := by rw [if_neg (show ¬ (false = true) by decide)] at H; exact H
     clear H
     have H := H1
     clear H1
     have H' := am H
     clear H
     go_wp2_with (first | ((with_reducible refine gate_callee (f := 57) rfl ?_); refine goesL_ (some 22) rfl rfl Tryd.func57 (by kernel_rfl) rfl #[.string t1839] rfl zq5 ?_; (with_reducible refine (rf_digits.calls k t1839 true _ A9.out).mono ?_); rintro e w' ⟨rfl, ⟨nd, rfl⟩⟩; refine ⟨_, rfl, ?_⟩))
     go_meet
     case rel => exact ⟨_, (false), zq8, H', ⟨by first | omega | exact Nat.le_refl _⟩, ⟨zq2 BK1837.out⟩, ⟨zb1 GE1837.out⟩⟩
   ·replace c10 := Bool.eq_false_iff.mpr c10
    subst c10
    have H1 : (rf_Parse.j0 k a0 t1838 t1839 t1840 t1841 true) = some (r1, r2, r3, r4) := by rw [if_neg (show ¬ (false = true) by decide)] at H; exact H
    clear H
    have H := H1
    clear H1
    have H' := am H
    clear H
    go_wp2_with (first | ((with_reducible refine gate_callee (f := 57) rfl ?_); refine goesL_ (some 22) rfl rfl Tryd.func57 (by kernel_rfl) rfl #[.string t1839] rfl zq5 ?_; (with_reducible refine (rf_digits.calls k t1839 false _ A9.out).mono ?_); rintro e w' ⟨rfl, ⟨nd, rfl⟩⟩; refine ⟨_, rfl, ?_⟩))
    go_meet
    case rel => exact ⟨_, (true), zq8, H', ⟨by first | omega | exact Nat.le_refl _⟩, ⟨zq2 BK1837.out⟩, ⟨zb1 GE1837.out⟩⟩
  case rest =>
   clear HC7
   obtain ⟨kq, x31_6, rfl, HA, HJ6, BK1837, HB⟩ := hcut
   cases kq with
   | zero => exact absurd HA.out (by simp [rf_Parse.j0])
   | succ kj6 =>
    have H := HA.out
    clear HA
    simp only [rf_Parse.j0] at H
    by_cases c13 : x31_6 = true
    ·subst c13
     have H1 : (some (false, ([] : List Int), ([] : List Int), 6)) = some (r1, r2, r3, r4) := by rw [if_pos rfl] at H; exact H
     clear H
     have H := H1
     clear H1
     simp only [Option.some.injEq, Prod.mk.injEq] at H
     obtain ⟨rfl, rfl, rfl, rfl⟩ := H
     have hcz14_0 := bc BK1837.out 0 (.bool false)
     have hcz14_1 := bc BK1837.out 1 (.slice none 0 0)
     have hcz14_2 := bc BK1837.out 2 (.slice none 0 0)
     have hfz14_0 := blk_frozen BK1837.out 0
     have hfz14_1 := blk_frozen BK1837.out 1
     have hfz14_2 := blk_frozen BK1837.out 2
     go_wp2
     refine bodyPost_ret (results_ct rfl _ _ gb1837 24 #[.bool false, .slice none 0 0, .slice none 0 0] (0, 0) _ rfl (by (with_reducible repeat (first | refine blk_drewN ?_ _ | refine blk_drew ?_ | refine blk_alloc ?_ _)); refine blk_put (cs := #[.bool false, .slice none 0 0, .slice none 0 0]) ?_ 2 _ rfl; (with_reducible repeat (first | refine blk_drewN ?_ _ | refine blk_drew ?_ | refine blk_alloc ?_ _)); refine blk_put (cs := #[.bool false, .slice none 0 0, .slice none 0 0]) ?_ 1 _ rfl; (with_reducible repeat (first | refine blk_drewN ?_ _ | refine blk_drew ?_ | refine blk_alloc ?_ _)); refine blk_put (cs := #[.bool false, .slice none 0 0, .slice none 0 0]) ?_ 0 _ rfl; (with_reducible repeat (first | refine blk_drewN ?_ _ | refine blk_drew ?_ | refine blk_alloc ?_ _)); exact BK1837.out) Tryd.underlying24 rfl (by kernel_rfl)) rfl ?_
     exact ⟨_, _, zq9, by first | exact Kd.R_nil _ _ _ _ _ | exact Kd.N_nil _ _ _ _ _ | exact Kd.V_nil _ _ _ _ _ | exact Kd.Q_nil _ _ _ _ _ | exact Kd.S_nil _ _ _ _ _, by first | exact Kd.R_nil _ _ _ _ _ | exact Kd.N_nil _ _ _ _ _ | exact Kd.V_nil _ _ _ _ _ | exact Kd.Q_nil _ _ _ _ _ | exact Kd.S_nil _ _ _ _ _, zb1 GE1837.out⟩
    ·replace c13 := Bool.eq_false_iff.mpr c13
     subst c13
     have H1 : (if t1841 = true then ((rf_OfDecimal.f kj6 t1840).bind fun t1847 => (rf_Parse.j1 kj6 a0 t1838 t1839 t1847)) else (rf_Parse.j1 kj6 a0 t1838 t1839 (([1] : List Int)))) = some (r1, r2, r3, r4) := by rw [if_neg (show ¬ (false = true) by decide)] at H; exact H
     clear H
     have H := H1
     clear H1
     obtain ⟨y1844, hy1844⟩ : ∃ y_ : List Int, y_ = (([1] : List Int)) := ⟨_, rfl⟩
     try rw [← hy1844] at H
     have Ny1844 := am hy1844
     clear hy1844
     have HC15 := am H
     clear H
     go_upto_if 34 with (first | ((with_reducible refine gate_dst (N := 33) rfl ?_); refine Kd.R_lit (Kd.int .i64) _ 3 ?hg (N := 33) ?hd (xs := ([1] : List Int)) (inner := [.int .i64 1]) (ok := fun _ => True) (okp := fun _ => True) ?hr ?hp (fun _ hk => hk) trivial (Below.refl _ _) (Nat.le_refl _) (by simp) ?_; (case hd => rfl); (case hg => rfl); (case hr => exact zr); (case hp => exact (Reps.one (show Kd.M (Kd.int .i64) _ _ _ 1 [.int .i64 1] from rfl) (Reps.none _ _))); intro v1845 w16 ho17 hb hg_ hnew_; clear hg_ hnew_; (first | rw [← Ny1844.out] at ho17 | (simp only [Int.reduceToNat] at ho17; rw [← Ny1844.out] at ho17)); refine zt3 (Kd.R_lower ho17 (below_size (zb1 GE1837.out))) (bb BK1837.out hb) (below_step (zb1 GE1837.out) hb) ?_; clear BK1837 HB; intro HO1846 BK1837 HB; clear hb ho17))
     (try simp only [Act.put, List.setIfInBounds_toArray, List.set_cons_zero, List.set_cons_succ])
     go_cut [8] (fun v8 wc => ∃ (kq : Nat) (x8_14 : List Int), Aside0 (rf_Parse.j1 kq a0 t1838 t1839 x8_14 = some (r1, r2, r3, r4)) ∧ Aside0 (kq ≤ kj6) ∧ Aside0 (Kd.V (Kd.int .i64) 3 wc w.heap.size (fun k_ => k_ ≠ gb1837) v8 x8_14) ∧ Aside0 (wc.heap[gb1837]? = some (.cells #[.bool false, (.slice none 0 0), (.slice none 0 0)] 24 (0, 0))) ∧ Aside0 (Below w.heap.size w wc))
     case first =>
      have H := HC15.out
      clear HC15
      by_cases c18 : t1841 = true
      ·subst c18
       have H1 : ((rf_OfDecimal.f kj6 t1840).bind fun t1847 => (rf_Parse.j1 kj6 a0 t1838 t1839 t1847)) = some (r1, r2, r3, r4) := by rw [if_pos rfl] at H; exact H
       clear H
       have H := H1
       clear H1
       replace H := zj H
       obtain ⟨t1847, A19, H⟩ := H
       have H' := am H
       clear H
       go_wp2_with (first | ((with_reducible refine gate_callee (f := 58) rfl ?_); refine goesL_ (some 36) rfl rfl Tryd.func58 (by kernel_rfl) rfl #[.string t1840] rfl zq5 ?_; (with_reducible refine (rf_OfDecimal.calls kj6 t1840 t1847 _ A19.out).mono ?_); rintro e w20 ⟨v1848, rfl, ho0, hb⟩; refine ⟨_, rfl, ?_⟩; refine zt4 (Kd.R_below (zq4 HO1846.out) hb) (Kd.V_lower (Kd.V_mono (ok' := fun k_ => some k_ ≠ (v1845 : Value).ownBlock ∧ k_ ≠ gb1837) ho0 (fun k_ hk_ => ⟨(Kd.fresh' (Kd.R_lt (zq4 HO1846.out)) k_ hk_), (Kd.freshB (g := gb1837) (o := .cells #[.bool false, .slice none 0 0, .slice none 0 0] 24 (0, 0)) (zq2 BK1837.out) k_ hk_)⟩)) (below_size (zb1 GE1837.out))) (bb BK1837.out hb) (below_step (zb1 GE1837.out) hb) ?_; clear HO1846 BK1837 HB; intro HO1846 HO1849 BK1837 HB))
       go_meet
       case rel => exact ⟨_, (t1847), H', ⟨by have := HJ6.out; first | omega | exact Nat.le_refl _⟩, ⟨by (with_reducible repeat (first | apply Kd.V_alloc | apply Kd.V_drewN | apply Kd.V_drew)); exact Kd.V_mono HO1849.out (fun _ hk => hk.2)⟩, ⟨zq2 BK1837.out⟩, ⟨zb1 GE1837.out⟩⟩
      ·replace c18 := Bool.eq_false_iff.mpr c18
       subst c18
       have H1 : (rf_Parse.j1 kj6 a0 t1838 t1839 y1844) = some (r1, r2, r3, r4) := by rw [if_neg (show ¬ (false = true) by decide)] at H; exact H
       clear H
       have H := H1
       clear H1
       have H' := am H
       clear H
       go_wp2
       go_meet
       case rel => exact ⟨_, (y1844), H', ⟨by have := HJ6.out; first | omega | exact Nat.le_refl _⟩, ⟨Kd.R_V (by (with_reducible repeat (first | apply Kd.R_alloc | apply Kd.R_drewN | apply Kd.R_drew)); exact Kd.R_mono (Kd.R_types HO1846.out BK1837.out (by decide)) (fun _ hk => hk.2))⟩, ⟨zq2 BK1837.out⟩, ⟨zb1 GE1837.out⟩⟩
     case rest =>
      clear HC15
      obtain ⟨kq, x8_14, HA, HJ14, HO_8, BK1837, HB⟩ := hcut
      cases kq with
      | zero => exact absurd HA.out (by simp [rf_Parse.j1])
      | succ kj14 =>
       have H := HA.out
       clear HA
       simp only [rf_Parse.j1] at H
       by_cases c21 : (x8_14.length : Int) = 0
       ·rw [if_pos c21] at H
        have c21b0 : ((x8_14.length : Int) == 0) = true := beq_iff_eq.mpr c21
        have c21b1 : ((x8_14.length : Int) != 0) = false := bne_eq_false_iff_eq.mpr c21
        clear c21
        simp only [Option.some.injEq, Prod.mk.injEq] at H
        obtain ⟨rfl, rfl, rfl, rfl⟩ := H
        obtain ⟨Ao22, co22, eo22⟩ := Kd.V_slice HO_8.out
        subst eo22
        have hcz23_0 := bc BK1837.out 0 (.bool false)
        have hcz23_1 := bc BK1837.out 1 (.slice none 0 0)
        have hcz23_2 := bc BK1837.out 2 (.slice none 0 0)
        have hfz23_0 := blk_frozen BK1837.out 0
        have hfz23_1 := blk_frozen BK1837.out 1
        have hfz23_2 := blk_frozen BK1837.out 2
        go_wp2
        refine bodyPost_ret (results_ct rfl _ _ gb1837 24 #[.bool false, .slice none 0 0, .slice none 0 0] (0, 0) _ rfl (by (with_reducible repeat (first | refine blk_drewN ?_ _ | refine blk_drew ?_ | refine blk_alloc ?_ _)); refine blk_put (cs := #[.bool false, .slice none 0 0, .slice none 0 0]) ?_ 2 _ rfl; (with_reducible repeat (first | refine blk_drewN ?_ _ | refine blk_drew ?_ | refine blk_alloc ?_ _)); refine blk_put (cs := #[.bool false, .slice none 0 0, .slice none 0 0]) ?_ 1 _ rfl; (with_reducible repeat (first | refine blk_drewN ?_ _ | refine blk_drew ?_ | refine blk_alloc ?_ _)); refine blk_put (cs := #[.bool false, .slice none 0 0, .slice none 0 0]) ?_ 0 _ rfl; (with_reducible repeat (first | refine blk_drewN ?_ _ | refine blk_drew ?_ | refine blk_alloc ?_ _)); exact BK1837.out) Tryd.underlying24 rfl (by kernel_rfl)) rfl ?_
        exact ⟨_, _, zq9, by first | exact Kd.R_nil _ _ _ _ _ | exact Kd.N_nil _ _ _ _ _ | exact Kd.V_nil _ _ _ _ _ | exact Kd.Q_nil _ _ _ _ _ | exact Kd.S_nil _ _ _ _ _, by first | exact Kd.R_nil _ _ _ _ _ | exact Kd.N_nil _ _ _ _ _ | exact Kd.V_nil _ _ _ _ _ | exact Kd.Q_nil _ _ _ _ _ | exact Kd.S_nil _ _ _ _ _, zb1 GE1837.out⟩
       ·rw [if_neg c21] at H
        have c21b0 : ((x8_14.length : Int) == 0) = false := beq_eq_false_iff_ne.mpr c21
        have c21b1 : ((x8_14.length : Int) != 0) = true := bne_iff_ne.mpr c21
        have c21b2 : ¬ (x8_14 = []) := fun h_ => c21 (by rw [h_]; rfl)
        by_cases c24 : (t1838.size : Int) < (a0.size : Int)
        ·rw [if_pos c24] at H
         have c24b0 := decide_eq_true c24
         have c24b1 : decide (t1838.size < a0.size) = true := decide_eq_true (Int.ofNat_lt.mp c24)
         clear c24
         replace H := zj H
         obtain ⟨t1850, A25, H⟩ := H
         replace H := zj H
         obtain ⟨⟨t1853, t1854, t1857⟩, A26, H⟩ := H
         try dsimp only at H
         replace H := zj H
         obtain ⟨⟨t1860, t1861, t1864, t1867⟩, A27, H⟩ := H
         try dsimp only at H
         simp only [Option.some.injEq, Prod.mk.injEq] at H
         obtain ⟨rfl, rfl, rfl, rfl⟩ := H
         obtain ⟨Ao28, co28, eo28⟩ := Kd.V_slice HO_8.out
         subst eo28
         go_wp2_with (first | ((with_reducible refine gate_callee (f := 58) rfl ?_); refine goesL_ (some 47) rfl rfl Tryd.func58 (by kernel_rfl) rfl #[.string t1839] rfl zq5 ?_; (with_reducible refine (rf_OfDecimal.calls kj14 t1839 t1850 _ A25.out).mono ?_); rintro e w29 ⟨v1851, rfl, ho0, hb⟩; refine ⟨_, rfl, ?_⟩; refine zt4 (Kd.V_below (zq3 HO_8.out) hb) (Kd.V_lower (Kd.V_mono (ok' := fun k_ => k_ ≠ gb1837) ho0 (fun k_ hk_ => (Kd.freshB (g := gb1837) (o := .cells #[.bool false, .slice none 0 0, .slice none 0 0] 24 (0, 0)) (zq2 BK1837.out) k_ hk_))) (below_size (zb1 GE1837.out))) (bb BK1837.out hb) (below_step (zb1 GE1837.out) hb) ?_; clear HO_8 BK1837 HB; intro HO_8 HO1852 BK1837 HB; obtain ⟨Ao30, co30, eo30⟩ := Kd.V_slice HO1852.out; subst eo30) | ((with_reducible refine gate_callee (f := 60) rfl ?_); refine goesL_ (some 49) rfl rfl Tryd.func60 (by kernel_rfl) rfl #[.bool true, .slice Ao30 t1850.length co30, .slice Ao28 x8_14.length co28] rfl zq5 ?_; (with_reducible refine (rf_reduce.calls kj14 true (fun k_ => k_ ≠ gb1837) _ _ t1850 (fun k_ => k_ ≠ gb1837) _ _ x8_14 t1853 t1854 t1857 _ ?side1 ?side2 A26.out).mono ?_); (case side1 => exact HO1852.out); (case side2 => exact HO_8.out); rintro e w31 ⟨v1855, v1858, rfl, ho0, ho1, hb⟩; refine ⟨_, rfl, ?_⟩; refine zt6 (Kd.V_below (zq3 HO_8.out) hb) (Kd.V_below (zq3 HO1852.out) hb) (Kd.V_lower (Kd.V_mono (ok' := fun k_ => k_ ≠ gb1837) ho0 (fun k_ hk_ => Or.elim hk_ (fun hs_ => Or.elim hs_ (fun hs_ => hs_) (fun hs_ => hs_)) (fun hn_ => (Kd.freshB (g := gb1837) (o := .cells #[.bool false, .slice none 0 0, .slice none 0 0] 24 (0, 0)) (zq2 BK1837.out) k_ hn_)))) (below_size (zb1 GE1837.out))) (Kd.V_lower (Kd.V_mono (ok' := fun k_ => k_ ≠ gb1837) ho1 (fun k_ hk_ => Or.elim hk_ (fun hs_ => Or.elim hs_ (fun hs_ => hs_) (fun hs_ => hs_)) (fun hn_ => (Kd.freshB (g := gb1837) (o := .cells #[.bool false, .slice none 0 0, .slice none 0 0] 24 (0, 0)) (zq2 BK1837.out) k_ hn_)))) (below_size (zb1 GE1837.out))) (bb BK1837.out hb) (below_step (zb1 GE1837.out) hb) ?_; clear HO_8 HO1852 BK1837 HB; intro HO_8 HO1852 HO1856 HO1859 BK1837 HB; (try clear ho1); obtain ⟨Ao32, co32, eo32⟩ := Kd.V_slice HO1856.out; subst eo32; obtain ⟨Ao33, co33, eo33⟩ := Kd.V_slice HO1859.out; subst eo33) | ((with_reducible refine gate_callee (f := 59) rfl ?_); refine goesL_ (some 50) rfl rfl Tryd.func59 (by kernel_rfl) rfl #[.agg #[.bool t1853, .slice Ao32 t1854.length co32, .slice Ao33 t1857.length co33]] rfl zq5 ?_; (with_reducible refine (rf_Made.calls kj14 t1853 _ _ t1854 _ _ t1857 t1860 t1861 t1864 t1867 _ ?side1 ?side2 ?side3 ?side4 A27.out).mono ?_); (case side1 => exact zc ((Kd.V_reads' HO1856.out).2.2)); (case side2 => exact (Kd.V_reads' HO1856.out).2.1); (case side3 => exact zc ((Kd.V_reads' HO1859.out).2.2)); (case side4 => exact (Kd.V_reads' HO1859.out).2.1); rintro e w34 ⟨v1862, v1865, rfl, ho0, ho1, hb⟩; refine ⟨_, rfl, ?_⟩; refine zt8 (Kd.V_mono (Kd.V_told (Kd.V_told (Kd.V_old (zq3 HO_8.out) hb) (Kd.R_base ho0)) (Kd.R_base ho1)) (fun _ h_ => h_.1)) (Kd.V_mono (Kd.V_told (Kd.V_told (Kd.V_old (zq3 HO1852.out) hb) (Kd.R_base ho0)) (Kd.R_base ho1)) (fun _ h_ => h_.1)) (Kd.V_mono (Kd.V_told (Kd.V_told (Kd.V_old (zq3 HO1856.out) hb) (Kd.R_base ho0)) (Kd.R_base ho1)) (fun _ h_ => h_.1)) (Kd.V_mono (Kd.V_told (Kd.V_told (Kd.V_old (zq3 HO1859.out) hb) (Kd.R_base ho0)) (Kd.R_base ho1)) (fun _ h_ => h_.1)) (Kd.R_lower ho0 (below_size (zb1 GE1837.out))) (Kd.R_lower ho1 (below_size (zb1 GE1837.out))) (bb BK1837.out hb) (below_step (zb1 GE1837.out) hb) ?_; clear HO_8 HO1852 HO1856 HO1859 BK1837 HB; intro HO_8 HO1852 HO1856 HO1859 HO1863 HO1866 BK1837 HB; (try clear ho1); have hcz35_0 := bc BK1837.out 0 (.bool false); have hcz35_1 := bc BK1837.out 1 (.slice none 0 0); have hcz35_2 := bc BK1837.out 2 (.slice none 0 0); have hfz35_0 := blk_frozen BK1837.out 0; have hfz35_1 := blk_frozen BK1837.out 1; have hfz35_2 := blk_frozen BK1837.out 2; obtain ⟨Ao36, co36, eo36⟩ := Kd.R_slice HO1863.out; subst eo36; obtain ⟨Ao37, co37, eo37⟩ := Kd.R_slice HO1866.out; subst eo37))
         refine bodyPost_ret (results_ct rfl _ _ gb1837 24 #[.bool t1860, .slice Ao36 t1861.length co36, .slice Ao37 t1864.length co37] (0, 0) _ rfl (by (with_reducible repeat (first | refine blk_drewN ?_ _ | refine blk_drew ?_ | refine blk_alloc ?_ _)); refine blk_put (cs := #[.bool t1860, .slice Ao36 t1861.length co36, .slice none 0 0]) ?_ 2 _ rfl; (with_reducible repeat (first | refine blk_drewN ?_ _ | refine blk_drew ?_ | refine blk_alloc ?_ _)); refine blk_put (cs := #[.bool t1860, .slice none 0 0, .slice none 0 0]) ?_ 1 _ rfl; (with_reducible repeat (first | refine blk_drewN ?_ _ | refine blk_drew ?_ | refine blk_alloc ?_ _)); refine blk_put (cs := #[.bool false, .slice none 0 0, .slice none 0 0]) ?_ 0 _ rfl; (with_reducible repeat (first | refine blk_drewN ?_ _ | refine blk_drew ?_ | refine blk_alloc ?_ _)); exact BK1837.out) Tryd.underlying24 rfl (by kernel_rfl)) rfl ?_
         exact ⟨_, _, zq9, by (with_reducible repeat (first | apply Kd.R_alloc | apply Kd.R_drewN | apply Kd.R_drew)); exact Kd.R_mono (Kd.R_far (p := ⟨gb1837, 2, none⟩) (Kd.R_far (p := ⟨gb1837, 1, none⟩) (Kd.R_far (p := ⟨gb1837, 0, none⟩) (Kd.R_types HO1863.out BK1837.out (by decide)) (fun _ hk => hk.2) (.bool t1860)) (fun _ hk => hk.2) (.slice Ao36 t1861.length co36)) (fun _ hk => hk.2) (.slice Ao37 t1864.length co37)) (fun _ hk => hk.1), by (with_reducible repeat (first | apply Kd.R_alloc | apply Kd.R_drewN | apply Kd.R_drew)); exact Kd.R_mono (Kd.R_far (p := ⟨gb1837, 2, none⟩) (Kd.R_far (p := ⟨gb1837, 1, none⟩) (Kd.R_far (p := ⟨gb1837, 0, none⟩) (Kd.R_types HO1866.out BK1837.out (by decide)) (fun _ hk => hk.2) (.bool t1860)) (fun _ hk => hk.2) (.slice Ao36 t1861.length co36)) (fun _ hk => hk.2) (.slice Ao37 t1864.length co37)) (fun _ hk => hk.1), zb1 GE1837.out⟩
        ·rw [if_neg c24] at H
         have c24b0 := decide_eq_false c24
         have c24b1 : decide (t1838.size < a0.size) = false := decide_eq_false (fun h => c24 (Int.ofNat_lt.mpr h))
         clear c24
         replace H := zj H
         obtain ⟨t1868, A38, H⟩ := H
         replace H := zj H
         obtain ⟨⟨t1871, t1872, t1875⟩, A39, H⟩ := H
         try dsimp only at H
         replace H := zj H
         obtain ⟨⟨t1878, t1879, t1882, t1885⟩, A40, H⟩ := H
         try dsimp only at H
         simp only [Option.some.injEq, Prod.mk.injEq] at H
         obtain ⟨rfl, rfl, rfl, rfl⟩ := H
         obtain ⟨Ao41, co41, eo41⟩ := Kd.V_slice HO_8.out
         subst eo41
         go_wp2_with (first | ((with_reducible refine gate_callee (f := 58) rfl ?_); refine goesL_ (some 47) rfl rfl Tryd.func58 (by kernel_rfl) rfl #[.string t1839] rfl zq5 ?_; (with_reducible refine (rf_OfDecimal.calls kj14 t1839 t1868 _ A38.out).mono ?_); rintro e w42 ⟨v1869, rfl, ho0, hb⟩; refine ⟨_, rfl, ?_⟩; refine zt4 (Kd.V_below (zq3 HO_8.out) hb) (Kd.V_lower (Kd.V_mono (ok' := fun k_ => k_ ≠ gb1837) ho0 (fun k_ hk_ => (Kd.freshB (g := gb1837) (o := .cells #[.bool false, .slice none 0 0, .slice none 0 0] 24 (0, 0)) (zq2 BK1837.out) k_ hk_))) (below_size (zb1 GE1837.out))) (bb BK1837.out hb) (below_step (zb1 GE1837.out) hb) ?_; clear HO_8 BK1837 HB; intro HO_8 HO1870 BK1837 HB; obtain ⟨Ao43, co43, eo43⟩ := Kd.V_slice HO1870.out; subst eo43) | ((with_reducible refine gate_callee (f := 60) rfl ?_); refine goesL_ (some 49) rfl rfl Tryd.func60 (by kernel_rfl) rfl #[.bool false, .slice Ao43 t1868.length co43, .slice Ao41 x8_14.length co41] rfl zq5 ?_; (with_reducible refine (rf_reduce.calls kj14 false (fun k_ => k_ ≠ gb1837) _ _ t1868 (fun k_ => k_ ≠ gb1837) _ _ x8_14 t1871 t1872 t1875 _ ?side1 ?side2 A39.out).mono ?_); (case side1 => exact HO1870.out); (case side2 => exact HO_8.out); rintro e w44 ⟨v1873, v1876, rfl, ho0, ho1, hb⟩; refine ⟨_, rfl, ?_⟩; refine zt6 (Kd.V_below (zq3 HO_8.out) hb) (Kd.V_below (zq3 HO1870.out) hb) (Kd.V_lower (Kd.V_mono (ok' := fun k_ => k_ ≠ gb1837) ho0 (fun k_ hk_ => Or.elim hk_ (fun hs_ => Or.elim hs_ (fun hs_ => hs_) (fun hs_ => hs_)) (fun hn_ => (Kd.freshB (g := gb1837) (o := .cells #[.bool false, .slice none 0 0, .slice none 0 0] 24 (0, 0)) (zq2 BK1837.out) k_ hn_)))) (below_size (zb1 GE1837.out))) (Kd.V_lower (Kd.V_mono (ok' := fun k_ => k_ ≠ gb1837) ho1 (fun k_ hk_ => Or.elim hk_ (fun hs_ => Or.elim hs_ (fun hs_ => hs_) (fun hs_ => hs_)) (fun hn_ => (Kd.freshB (g := gb1837) (o := .cells #[.bool false, .slice none 0 0, .slice none 0 0] 24 (0, 0)) (zq2 BK1837.out) k_ hn_)))) (below_size (zb1 GE1837.out))) (bb BK1837.out hb) (below_step (zb1 GE1837.out) hb) ?_; clear HO_8 HO1870 BK1837 HB; intro HO_8 HO1870 HO1874 HO1877 BK1837 HB; (try clear ho1); obtain ⟨Ao45, co45, eo45⟩ := Kd.V_slice HO1874.out; subst eo45; obtain ⟨Ao46, co46, eo46⟩ := Kd.V_slice HO1877.out; subst eo46) | ((with_reducible refine gate_callee (f := 59) rfl ?_); refine goesL_ (some 50) rfl rfl Tryd.func59 (by kernel_rfl) rfl #[.agg #[.bool t1871, .slice Ao45 t1872.length co45, .slice Ao46 t1875.length co46]] rfl zq5 ?_; (with_reducible refine (rf_Made.calls kj14 t1871 _ _ t1872 _ _ t1875 t1878 t1879 t1882 t1885 _ ?side1 ?side2 ?side3 ?side4 A40.out).mono ?_); (case side1 => exact zc ((Kd.V_reads' HO1874.out).2.2)); (case side2 => exact (Kd.V_reads' HO1874.out).2.1); (case side3 => exact zc ((Kd.V_reads' HO1877.out).2.2)); (case side4 => exact (Kd.V_reads' HO1877.out).2.1); rintro e w47 ⟨v1880, v1883, rfl, ho0, ho1, hb⟩; refine ⟨_, rfl, ?_⟩; refine zt8 (Kd.V_mono (Kd.V_told (Kd.V_told (Kd.V_old (zq3 HO_8.out) hb) (Kd.R_base ho0)) (Kd.R_base ho1)) (fun _ h_ => h_.1)) (Kd.V_mono (Kd.V_told (Kd.V_told (Kd.V_old (zq3 HO1870.out) hb) (Kd.R_base ho0)) (Kd.R_base ho1)) (fun _ h_ => h_.1)) (Kd.V_mono (Kd.V_told (Kd.V_told (Kd.V_old (zq3 HO1874.out) hb) (Kd.R_base ho0)) (Kd.R_base ho1)) (fun _ h_ => h_.1)) (Kd.V_mono (Kd.V_told (Kd.V_told (Kd.V_old (zq3 HO1877.out) hb) (Kd.R_base ho0)) (Kd.R_base ho1)) (fun _ h_ => h_.1)) (Kd.R_lower ho0 (below_size (zb1 GE1837.out))) (Kd.R_lower ho1 (below_size (zb1 GE1837.out))) (bb BK1837.out hb) (below_step (zb1 GE1837.out) hb) ?_; clear HO_8 HO1870 HO1874 HO1877 BK1837 HB; intro HO_8 HO1870 HO1874 HO1877 HO1881 HO1884 BK1837 HB; (try clear ho1); have hcz48_0 := bc BK1837.out 0 (.bool false); have hcz48_1 := bc BK1837.out 1 (.slice none 0 0); have hcz48_2 := bc BK1837.out 2 (.slice none 0 0); have hfz48_0 := blk_frozen BK1837.out 0; have hfz48_1 := blk_frozen BK1837.out 1; have hfz48_2 := blk_frozen BK1837.out 2; obtain ⟨Ao49, co49, eo49⟩ := Kd.R_slice HO1881.out; subst eo49; obtain ⟨Ao50, co50, eo50⟩ := Kd.R_slice HO1884.out; subst eo50))
         refine bodyPost_ret (results_ct rfl _ _ gb1837 24 #[.bool t1878, .slice Ao49 t1879.length co49, .slice Ao50 t1882.length co50] (0, 0) _ rfl (by (with_reducible repeat (first | refine blk_drewN ?_ _ | refine blk_drew ?_ | refine blk_alloc ?_ _)); refine blk_put (cs := #[.bool t1878, .slice Ao49 t1879.length co49, .slice none 0 0]) ?_ 2 _ rfl; (with_reducible repeat (first | refine blk_drewN ?_ _ | refine blk_drew ?_ | refine blk_alloc ?_ _)); refine blk_put (cs := #[.bool t1878, .slice none 0 0, .slice none 0 0]) ?_ 1 _ rfl; (with_reducible repeat (first | refine blk_drewN ?_ _ | refine blk_drew ?_ | refine blk_alloc ?_ _)); refine blk_put (cs := #[.bool false, .slice none 0 0, .slice none 0 0]) ?_ 0 _ rfl; (with_reducible repeat (first | refine blk_drewN ?_ _ | refine blk_drew ?_ | refine blk_alloc ?_ _)); exact BK1837.out) Tryd.underlying24 rfl (by kernel_rfl)) rfl ?_
         exact ⟨_, _, zq9, by (with_reducible repeat (first | apply Kd.R_alloc | apply Kd.R_drewN | apply Kd.R_drew)); exact Kd.R_mono (Kd.R_far (p := ⟨gb1837, 2, none⟩) (Kd.R_far (p := ⟨gb1837, 1, none⟩) (Kd.R_far (p := ⟨gb1837, 0, none⟩) (Kd.R_types HO1881.out BK1837.out (by decide)) (fun _ hk => hk.2) (.bool t1878)) (fun _ hk => hk.2) (.slice Ao49 t1879.length co49)) (fun _ hk => hk.2) (.slice Ao50 t1882.length co50)) (fun _ hk => hk.1), by (with_reducible repeat (first | apply Kd.R_alloc | apply Kd.R_drewN | apply Kd.R_drew)); exact Kd.R_mono (Kd.R_far (p := ⟨gb1837, 2, none⟩) (Kd.R_far (p := ⟨gb1837, 1, none⟩) (Kd.R_far (p := ⟨gb1837, 0, none⟩) (Kd.R_types HO1884.out BK1837.out (by decide)) (fun _ hk => hk.2) (.bool t1878)) (fun _ hk => hk.2) (.slice Ao49 t1879.length co49)) (fun _ hk => hk.2) (.slice Ao50 t1882.length co50)) (fun _ hk => hk.1), zb1 GE1837.out⟩
def lw_NumberParseMatchesSpec.f (k : Nat) (a0 : ByteArray) : Option (Bool) := (number_Parse.f k a0).bind fun bt1886 => ((rf_Parse.f k a0).bind fun bt1895 => (if bt1886.2.2.2 = bt1895.2.2.2 then ((lw_same.f k bt1886.1 bt1886.2.1 bt1886.2.2.1 bt1895.1 bt1895.2.1 bt1895.2.2.1).bind fun t1904 => (if t1904 = true then ((lw_counted.f k).bind fun t1905 => (some t1905)) else (some false))) else (some false)))
theorem lw_NumberParseMatchesSpec.mono : ∀ a0 k, LeO (lw_NumberParseMatchesSpec.f k a0) (lw_NumberParseMatchesSpec.f (k + 1) a0) := by
 intro a0 k
 unfold lw_NumberParseMatchesSpec.f
 have m0 := @lw_counted.mono
 have m1 := @lw_same.mono
 have m2 := @rf_Parse.mono
 have m3 := @number_Parse.mono
 exact zm
set_option maxHeartbeats 8000000 in
set_option maxRecDepth 100000 in
theorem lw_NumberParseMatchesSpec.calls (k : Nat) (a0 : ByteArray) (r : Bool) (w : World) (h : lw_NumberParseMatchesSpec.f k a0 = some r) (hr : r = true := by assumption) :
  Calls Tryd.prog 5 #[.string a0] w fun e w' => e = .returned (.bool r) ∧ Below w.heap.size w w' := by
 have hu24 := Tryd.underlying24
 have HB := am (Below.refl w.heap.size w)
 have H := h
 unfold lw_NumberParseMatchesSpec.f at H
 clear h
 replace H := zj H
 obtain ⟨⟨t1886, t1887, t1890, t1893⟩, A2, H⟩ := H
 try dsimp only at H
 replace H := zj H
 obtain ⟨⟨t1895, t1896, t1899, t1902⟩, A3, H⟩ := H
 try dsimp only at H
 by_cases c4 : t1893 = t1902
 ·rw [if_pos c4] at H
  have c4b0 : (t1893 == t1902) = true := beq_iff_eq.mpr c4
  have c4b1 : (t1893 != t1902) = false := bne_eq_false_iff_eq.mpr c4
  clear c4
  replace H := zj H
  obtain ⟨t1904, A5, H⟩ := H
  by_cases c6 : t1904 = true
  ·subst c6
   have H1 : ((lw_counted.f k).bind fun t1905 => (some t1905)) = some r := by rw [if_pos rfl] at H; exact H
   clear H
   have H := H1
   clear H1
   replace H := zj H
   obtain ⟨t1905, A7, H⟩ := H
   obtain rfl := Option.some.inj H
   go_enter Tryd.func5, Tryd.ntmps5
   go_wp2_with (first | ((with_reducible refine gate_callee (f := 19) rfl ?_); refine goesL_ (some 9) rfl rfl Tryd.func19 (by kernel_rfl) rfl #[.string a0] rfl zq5 ?_; (with_reducible refine (number_Parse.calls k a0 t1886 t1887 t1890 t1893 _ A2.out).mono ?_); rintro e w8 ⟨v1888, v1891, rfl, ho0, ho1, hb⟩; refine ⟨_, rfl, ?_⟩; refine zt3 (Kd.V_lower (Kd.V_mono (ok' := fun k_ => True) ho0 (fun k_ hk_ => trivial)) (below_size zq1)) (Kd.V_lower (Kd.V_mono (ok' := fun k_ => True) ho1 (fun k_ hk_ => trivial)) (below_size zq1)) (below_step zq1 hb) ?_; clear HB; intro HO1889 HO1892 HB; (try clear ho1)) | ((with_reducible refine gate_dst (N := 3) rfl ?_); refine zbox (N := 3) (cs := #[.bool false, .slice none 0 0, .slice none 0 0]) (t := 24) ?_; intro gb1894 hg w9 hbox hb; refine zt5 (Kd.V_below (Kd.V_elderB (zq3 HO1889.out) gb1894 (Nat.le_of_eq hg.symm)) hb) (Kd.V_below (Kd.V_elderB (zq3 HO1892.out) gb1894 (Nat.le_of_eq hg.symm)) hb) (below_step zq1 hb) (hbox) ((zs hg (below_size zq1) : w.heap.size ≤ gb1894)) ?_; clear HO1889 HO1892 HB; intro HO1889 HO1892 HB BK1894 GW1894; have GE1894 := GW1894; clear hb hbox hg; have hcz10_0 := bc BK1894.out 0 (.bool false); have hcz10_1 := bc BK1894.out 1 (.slice none 0 0); have hcz10_2 := bc BK1894.out 2 (.slice none 0 0); have hfz10_0 := blk_frozen BK1894.out 0; have hfz10_1 := blk_frozen BK1894.out 1; have hfz10_2 := blk_frozen BK1894.out 2; obtain ⟨Ao11, co11, eo11⟩ := Kd.V_slice HO1889.out; subst eo11; obtain ⟨Ao12, co12, eo12⟩ := Kd.V_slice HO1892.out; subst eo12) | ((with_reducible refine gate_callee (f := 21) rfl ?_); refine goesL_ (some 14) rfl rfl Tryd.func21 (by kernel_rfl) rfl #[.string a0] rfl zq5 ?_; (with_reducible refine (rf_Parse.calls k a0 t1895 t1896 t1899 t1902 _ A3.out).mono ?_); rintro e w13 ⟨v1897, v1900, rfl, ho0, ho1, hb⟩; refine ⟨_, rfl, ?_⟩; refine zt6 (Kd.V_mono (Kd.V_told (Kd.V_told (Kd.V_old (by (with_reducible repeat (first | apply Kd.V_alloc | apply Kd.V_drewN | apply Kd.V_drew)); exact (Kd.V_mono (Kd.V_far (p := ⟨gb1894, 2, none⟩) (Kd.V_far (p := ⟨gb1894, 1, none⟩) (Kd.V_far (p := ⟨gb1894, 0, none⟩) (Kd.V_mono HO1889.out (fun k_ hk => (⟨hk, hk.2⟩ : _ ∧ k_ ≠ gb1894))) (fun _ hk => hk.2) (.bool t1886)) (fun _ hk => hk.2) (.slice Ao11 t1887.length co11)) (fun _ hk => hk.2) (.slice Ao12 t1890.length co12)) (fun _ h_ => h_.1))) hb) (Kd.R_base ho0)) (Kd.R_base ho1)) (fun _ h_ => h_.1)) (Kd.V_mono (Kd.V_told (Kd.V_told (Kd.V_old (by (with_reducible repeat (first | apply Kd.V_alloc | apply Kd.V_drewN | apply Kd.V_drew)); exact (Kd.V_mono (Kd.V_far (p := ⟨gb1894, 2, none⟩) (Kd.V_far (p := ⟨gb1894, 1, none⟩) (Kd.V_far (p := ⟨gb1894, 0, none⟩) (Kd.V_mono HO1892.out (fun k_ hk => (⟨hk, hk.2⟩ : _ ∧ k_ ≠ gb1894))) (fun _ hk => hk.2) (.bool t1886)) (fun _ hk => hk.2) (.slice Ao11 t1887.length co11)) (fun _ hk => hk.2) (.slice Ao12 t1890.length co12)) (fun _ h_ => h_.1))) hb) (Kd.R_base ho0)) (Kd.R_base ho1)) (fun _ h_ => h_.1)) (Kd.R_lower ho0 (below_size (zb1 GE1894.out))) (Kd.R_lower ho1 (below_size (zb1 GE1894.out))) (blk_below (g := gb1894) (o := .cells #[.bool t1886, .slice Ao11 t1887.length co11, .slice Ao12 t1890.length co12] 24 (0, 0)) (by (with_reducible repeat (first | refine blk_drewN ?_ _ | refine blk_drew ?_ | refine blk_alloc ?_ _)); refine blk_put (cs := #[.bool t1886, .slice Ao11 t1887.length co11, .slice none 0 0]) ?_ 2 _ rfl; (with_reducible repeat (first | refine blk_drewN ?_ _ | refine blk_drew ?_ | refine blk_alloc ?_ _)); refine blk_put (cs := #[.bool t1886, .slice none 0 0, .slice none 0 0]) ?_ 1 _ rfl; (with_reducible repeat (first | refine blk_drewN ?_ _ | refine blk_drew ?_ | refine blk_alloc ?_ _)); refine blk_put (cs := #[.bool false, .slice none 0 0, .slice none 0 0]) ?_ 0 _ rfl; (with_reducible repeat (first | refine blk_drewN ?_ _ | refine blk_drew ?_ | refine blk_alloc ?_ _)); exact BK1894.out) hb) (below_step (zb1 GE1894.out) hb) ?_; clear HO1889 HO1892 BK1894 HB; intro HO1889 HO1892 HO1898 HO1901 BK1894 HB; (try clear ho1)) | ((with_reducible refine gate_dst (N := 5) rfl ?_); refine zbox (N := 5) (cs := #[.bool false, .slice none 0 0, .slice none 0 0]) (t := 24) ?_; intro gb1903 hg w14 hbox hb; refine zt10 (Kd.V_below (Kd.V_elderB (zq3 HO1889.out) gb1903 (Nat.le_of_eq hg.symm)) hb) (Kd.V_below (Kd.V_elderB (zq3 HO1892.out) gb1903 (Nat.le_of_eq hg.symm)) hb) (Kd.R_below (zq4 HO1898.out) hb) (Kd.R_below (zq4 HO1901.out) hb) (bb BK1894.out hb) (below_step (zb1 GE1894.out) hb) (hbox) ((zs hg (below_size (zb1 GE1894.out)) : w.heap.size ≤ gb1903)) ((by rw [hg]; exact Nat.ne_of_lt (bl BK1894.out) : gb1894 ≠ gb1903)) ((by rw [hg]; exact Nat.ne_of_gt (bl BK1894.out) : gb1903 ≠ gb1894)) ?_; clear HO1889 HO1892 HO1898 HO1901 BK1894 HB; intro HO1889 HO1892 HO1898 HO1901 BK1894 HB BK1903 GW1903 NB1894_1903 NB1903_1894; have GE1903 := GW1903; clear hb hbox hg; have hnb15 := NB1903_1894.out; have hnc15 := NB1894_1903.out; have hcz16_0 := bc BK1903.out 0 (.bool false); have hcz16_1 := bc BK1903.out 1 (.slice none 0 0); have hcz16_2 := bc BK1903.out 2 (.slice none 0 0); have hfz16_0 := blk_frozen BK1903.out 0; have hfz16_1 := blk_frozen BK1903.out 1; have hfz16_2 := blk_frozen BK1903.out 2; obtain ⟨Ao17, co17, eo17⟩ := Kd.R_slice HO1898.out; subst eo17; obtain ⟨Ao18, co18, eo18⟩ := Kd.R_slice HO1901.out; subst eo18; have hcz19_0 := bc BK1894.out 0 (.bool t1886); have hcz19_1 := bc BK1894.out 1 (.slice Ao11 t1887.length co11); have hcz19_2 := bc BK1894.out 2 (.slice Ao12 t1890.length co12); have hfz19_0 := blk_frozen BK1894.out 0; have hfz19_1 := blk_frozen BK1894.out 1; have hfz19_2 := blk_frozen BK1894.out 2) | (go_at_call 20; (with_reducible refine (lw_same.calls k t1886 _ _ t1887 _ _ t1890 t1895 _ _ t1896 _ _ t1899 true _ ?side1 ?side2 ?side3 ?side4 ?side5 ?side6 ?side7 ?side8 A5.out).mono ?_); (case side1 => refine (Kd.V_reads' (e := 55) (base := w.heap.size) (ok := fun k_ => ((((True ∧ k_ ≠ gb1894) ∧ some k_ ≠ (.slice Ao17 t1896.length co17 : Value).ownBlock) ∧ some k_ ≠ (.slice Ao18 t1899.length co18 : Value).ownBlock) ∧ k_ ≠ gb1903)) (n := t1887.length) (c := co11) ?_).2.2; exact (by (with_reducible repeat (first | apply Kd.V_alloc | apply Kd.V_drewN | apply Kd.V_drew)); exact (Kd.V_mono (Kd.V_far (p := ⟨gb1903, 2, none⟩) (Kd.V_far (p := ⟨gb1903, 1, none⟩) (Kd.V_far (p := ⟨gb1903, 0, none⟩) (Kd.V_mono HO1889.out (fun k_ hk => (⟨hk, hk.2⟩ : _ ∧ k_ ≠ gb1903))) (fun _ hk => hk.2) (.bool t1895)) (fun _ hk => hk.2) (.slice Ao17 t1896.length co17)) (fun _ hk => hk.2) (.slice Ao18 t1899.length co18)) (fun _ h_ => h_.1)))); (case side2 => exact (Kd.V_reads' HO1889.out).2.1); (case side3 => refine (Kd.V_reads' (e := 55) (base := w.heap.size) (ok := fun k_ => ((((True ∧ k_ ≠ gb1894) ∧ some k_ ≠ (.slice Ao17 t1896.length co17 : Value).ownBlock) ∧ some k_ ≠ (.slice Ao18 t1899.length co18 : Value).ownBlock) ∧ k_ ≠ gb1903)) (n := t1890.length) (c := co12) ?_).2.2; exact (by (with_reducible repeat (first | apply Kd.V_alloc | apply Kd.V_drewN | apply Kd.V_drew)); exact (Kd.V_mono (Kd.V_far (p := ⟨gb1903, 2, none⟩) (Kd.V_far (p := ⟨gb1903, 1, none⟩) (Kd.V_far (p := ⟨gb1903, 0, none⟩) (Kd.V_mono HO1892.out (fun k_ hk => (⟨hk, hk.2⟩ : _ ∧ k_ ≠ gb1903))) (fun _ hk => hk.2) (.bool t1895)) (fun _ hk => hk.2) (.slice Ao17 t1896.length co17)) (fun _ hk => hk.2) (.slice Ao18 t1899.length co18)) (fun _ h_ => h_.1)))); (case side4 => exact (Kd.V_reads' HO1892.out).2.1); (case side5 => refine (Kd.R_reads' (e := 55) (base := w.heap.size) (ok := fun k_ => some k_ ≠ (.slice Ao18 t1899.length co18 : Value).ownBlock) (n := t1896.length) (c := co17) ?_).2.2; exact (by (with_reducible repeat (first | apply Kd.R_alloc | apply Kd.R_drewN | apply Kd.R_drew)); exact (Kd.R_mono (Kd.R_far (p := ⟨gb1903, 2, none⟩) (Kd.R_far (p := ⟨gb1903, 1, none⟩) (Kd.R_far (p := ⟨gb1903, 0, none⟩) (Kd.R_types HO1898.out BK1903.out (by decide)) (fun _ hk => hk.2) (.bool t1895)) (fun _ hk => hk.2) (.slice Ao17 t1896.length co17)) (fun _ hk => hk.2) (.slice Ao18 t1899.length co18)) (fun _ h_ => h_.1)))); (case side6 => exact (Kd.R_reads' HO1898.out).2.1); (case side7 => refine (Kd.R_reads' (e := 55) (base := w.heap.size) (ok := fun k_ => some k_ ≠ (.slice Ao17 t1896.length co17 : Value).ownBlock) (n := t1899.length) (c := co18) ?_).2.2; exact (by (with_reducible repeat (first | apply Kd.R_alloc | apply Kd.R_drewN | apply Kd.R_drew)); exact (Kd.R_mono (Kd.R_far (p := ⟨gb1903, 2, none⟩) (Kd.R_far (p := ⟨gb1903, 1, none⟩) (Kd.R_far (p := ⟨gb1903, 0, none⟩) (Kd.R_types HO1901.out BK1903.out (by decide)) (fun _ hk => hk.2) (.bool t1895)) (fun _ hk => hk.2) (.slice Ao17 t1896.length co17)) (fun _ hk => hk.2) (.slice Ao18 t1899.length co18)) (fun _ h_ => h_.1)))); (case side8 => exact (Kd.R_reads' HO1901.out).2.1); rintro e w20 ⟨rfl, hb⟩; refine zt7 (Kd.V_below (by (with_reducible repeat (first | apply Kd.V_alloc | apply Kd.V_drewN | apply Kd.V_drew)); exact (Kd.V_mono (Kd.V_far (p := ⟨gb1903, 2, none⟩) (Kd.V_far (p := ⟨gb1903, 1, none⟩) (Kd.V_far (p := ⟨gb1903, 0, none⟩) (Kd.V_mono HO1889.out (fun k_ hk => (⟨hk, hk.2⟩ : _ ∧ k_ ≠ gb1903))) (fun _ hk => hk.2) (.bool t1895)) (fun _ hk => hk.2) (.slice Ao17 t1896.length co17)) (fun _ hk => hk.2) (.slice Ao18 t1899.length co18)) (fun _ h_ => h_.1))) hb) (Kd.V_below (by (with_reducible repeat (first | apply Kd.V_alloc | apply Kd.V_drewN | apply Kd.V_drew)); exact (Kd.V_mono (Kd.V_far (p := ⟨gb1903, 2, none⟩) (Kd.V_far (p := ⟨gb1903, 1, none⟩) (Kd.V_far (p := ⟨gb1903, 0, none⟩) (Kd.V_mono HO1892.out (fun k_ hk => (⟨hk, hk.2⟩ : _ ∧ k_ ≠ gb1903))) (fun _ hk => hk.2) (.bool t1895)) (fun _ hk => hk.2) (.slice Ao17 t1896.length co17)) (fun _ hk => hk.2) (.slice Ao18 t1899.length co18)) (fun _ h_ => h_.1))) hb) (Kd.R_below (by (with_reducible repeat (first | apply Kd.R_alloc | apply Kd.R_drewN | apply Kd.R_drew)); exact (Kd.R_mono (Kd.R_far (p := ⟨gb1903, 2, none⟩) (Kd.R_far (p := ⟨gb1903, 1, none⟩) (Kd.R_far (p := ⟨gb1903, 0, none⟩) (Kd.R_types HO1898.out BK1903.out (by decide)) (fun _ hk => hk.2) (.bool t1895)) (fun _ hk => hk.2) (.slice Ao17 t1896.length co17)) (fun _ hk => hk.2) (.slice Ao18 t1899.length co18)) (fun _ h_ => h_.1))) hb) (Kd.R_below (by (with_reducible repeat (first | apply Kd.R_alloc | apply Kd.R_drewN | apply Kd.R_drew)); exact (Kd.R_mono (Kd.R_far (p := ⟨gb1903, 2, none⟩) (Kd.R_far (p := ⟨gb1903, 1, none⟩) (Kd.R_far (p := ⟨gb1903, 0, none⟩) (Kd.R_types HO1901.out BK1903.out (by decide)) (fun _ hk => hk.2) (.bool t1895)) (fun _ hk => hk.2) (.slice Ao17 t1896.length co17)) (fun _ hk => hk.2) (.slice Ao18 t1899.length co18)) (fun _ h_ => h_.1))) hb) (blk_below (g := gb1894) (o := .cells #[.bool t1886, .slice Ao11 t1887.length co11, .slice Ao12 t1890.length co12] 24 (0, 0)) (by (with_reducible repeat (first | refine blk_drewN ?_ _ | refine blk_drew ?_ | refine blk_alloc ?_ _)); refine blk_far ?_ NB1894_1903.out _; (with_reducible repeat (first | refine blk_drewN ?_ _ | refine blk_drew ?_ | refine blk_alloc ?_ _)); refine blk_far ?_ NB1894_1903.out _; (with_reducible repeat (first | refine blk_drewN ?_ _ | refine blk_drew ?_ | refine blk_alloc ?_ _)); refine blk_far ?_ NB1894_1903.out _; (with_reducible repeat (first | refine blk_drewN ?_ _ | refine blk_drew ?_ | refine blk_alloc ?_ _)); exact BK1894.out) hb) (blk_below (g := gb1903) (o := .cells #[.bool t1895, .slice Ao17 t1896.length co17, .slice Ao18 t1899.length co18] 24 (0, 0)) (by (with_reducible repeat (first | refine blk_drewN ?_ _ | refine blk_drew ?_ | refine blk_alloc ?_ _)); refine blk_put (cs := #[.bool t1895, .slice Ao17 t1896.length co17, .slice none 0 0]) ?_ 2 _ rfl; (with_reducible repeat (first | refine blk_drewN ?_ _ | refine blk_drew ?_ | refine blk_alloc ?_ _)); refine blk_put (cs := #[.bool t1895, .slice none 0 0, .slice none 0 0]) ?_ 1 _ rfl; (with_reducible repeat (first | refine blk_drewN ?_ _ | refine blk_drew ?_ | refine blk_alloc ?_ _)); refine blk_put (cs := #[.bool false, .slice none 0 0, .slice none 0 0]) ?_ 0 _ rfl; (with_reducible repeat (first | refine blk_drewN ?_ _ | refine blk_drew ?_ | refine blk_alloc ?_ _)); exact BK1903.out) hb) (below_step (zb2 GE1894.out GE1903.out) hb) ?_; clear HO1889 HO1892 HO1898 HO1901 BK1894 BK1903 HB; intro HO1889 HO1892 HO1898 HO1901 BK1894 BK1903 HB; (try clear hb); (try clear hb2); (try clear hk); (try clear hi)) | (go_at_call 16; (with_reducible refine (lw_counted.calls k  t1905 _ A7.out).mono ?_); rintro e w21 ⟨rfl, hb⟩; refine zt7 (Kd.V_below (zq3 HO1889.out) hb) (Kd.V_below (zq3 HO1892.out) hb) (Kd.R_below (zq4 HO1898.out) hb) (Kd.R_below (zq4 HO1901.out) hb) (bb BK1894.out hb) (bb BK1903.out hb) (below_step (zb2 GE1894.out GE1903.out) hb) ?_; clear HO1889 HO1892 HO1898 HO1901 BK1894 BK1903 HB; intro HO1889 HO1892 HO1898 HO1901 BK1894 BK1903 HB; (try clear hb); (try clear hb2); (try clear hk); (try clear hi)))
   go_ret
   exact ⟨zq9, zb2 GE1894.out GE1903.out⟩
  ·replace c6 := Bool.eq_false_iff.mpr c6
   subst c6
   have H1 : (some false) = some r := by rw [if_neg (show ¬ (false = true) by decide)] at H; exact H
   clear H
   have H := H1
   clear H1
   obtain rfl := Option.some.inj H
   cases hr
 ·rw [if_neg c4] at H
  have c4b0 : (t1893 == t1902) = false := beq_eq_false_iff_ne.mpr c4
  have c4b1 : (t1893 != t1902) = true := bne_iff_ne.mpr c4
  obtain rfl := Option.some.inj H
  cases hr
end Go.Proofs.YtemnjgkicndmjaaDoor.Q
namespace Go.Proofs.YtemnjgkicndmjaaDoor.Q
open Go.RowKit Go.Proofs.YtemnjgkicndmjaaDoorW.PrintWords Go.Proofs.YtemnjgkicndmjaaDoorW.PrintLast Go.Proofs.YtemnjgkicndmjaaDoorW.PrintMore
set_option linter.unusedVariables false
theorem ev_rounds {α : Type} {g : Nat → Option α} {r : α} (h : Ev g r) : ∃ k, g k = some r := by
  obtain ⟨K, hK⟩ := h
  exact ⟨K, hK K (Nat.le_refl _)⟩
theorem small_len {B : Int} (hB : 1 < B) {xs : List Int} (h : Lim B xs) (hn : Nrm xs) {n : Nat} (hv : val B xs < B ^ n) : xs.length ≤ n := by
  rcases Nat.lt_or_ge n xs.length with c | c
  · have h0 : xs ≠ [] := by rintro rfl; simp at c
    have h1 := val_ge (by omega) h hn h0
    have h2 := pow_mono' (show 0 < B by omega) (show n ≤ xs.length - 1 by omega)
    omega
  · exact c
theorem absu (i : Int) (h0 : -9223372036854775808 ≤ i) (h1 : i < 9223372036854775808) (h : i < 0) : IntKind.u64.wrap (-(IntKind.u64.wrap i)) = -i := by rw [u64w, u64w]; omega
theorem sameLimbs_loop (a b : List Int) (hl : a.length = b.length) (hL : a.length ≤ 1099511627776) : ∀ (d i : Nat), d + i = a.length → a.take i = b.take i → Ev (fun k => lw_sameLimbs.l0 k a b (i : Int)) (decide (a = b)) := by
  intro d
  induction d with
  | zero =>
    intro i hd h
    rw [List.take_of_length_le (by omega), List.take_of_length_le (by omega)] at h
    refine Ev.step (f := fun _ => some true) (fun k => ?_) (Ev.eq (Ev.now _) (by rw [decide_eq_true h]))
    simp only [lw_sameLimbs.l0]
    rw [if_neg (by omega)]
  | succ d ih =>
    intro i hd h
    have g1 : (i : Int) < (a.length : Int) := by omega
    have g2 : (0 : Int) ≤ (i : Int) := by omega
    have g3 : (i : Int) < (b.length : Int) := by omega
    have gw : ∀ _ : Unit, wrap64 ((i : Int) + 1) = ((i + 1 : Nat) : Int) := fun _ => by rw [w64 (by omega) (by omega)]; omega
    by_cases c : a.getD i 0 = b.getD i 0
    · refine Ev.step (f := fun k => lw_sameLimbs.l0 k a b ((i + 1 : Nat) : Int)) (fun k => ?_) (ih (i + 1) (by omega) (by rw [take_succ' _ _ (by omega), take_succ' _ _ (by omega), h, c]))
      simp only [lw_sameLimbs.l0]
      rw [if_pos g1, if_pos g2, if_pos g3, rd_getD, rd_getD, if_pos c, gw ()]
    · refine Ev.step (f := fun _ => some false) (fun k => ?_) (Ev.eq (Ev.now _) (by rw [decide_eq_false]; rintro rfl; exact c rfl))
      simp only [lw_sameLimbs.l0]
      rw [if_pos g1, if_pos g2, if_pos g3, rd_getD, rd_getD, if_neg c]
theorem sameLimbs_ev (a b : List Int) (hL : a.length ≤ 1099511627776) : Ev (fun k => lw_sameLimbs.f k a b) (decide (a = b)) := by
  by_cases hl : a.length = b.length
  · refine Ev.congr (fun k => ?_) (sameLimbs_loop a b hl hL a.length 0 (by omega) rfl)
    unfold lw_sameLimbs.f
    rw [if_pos (by omega)]; rfl
  · refine Ev.ret fun k => ?_
    unfold lw_sameLimbs.f
    rw [if_neg (by omega), decide_eq_false (fun h => hl (by rw [h]))]
theorem same_ev (m : Bool) (a b : List Int) (n : Bool) (c d : List Int) (hL : a.length ≤ 1099511627776) (hM : b.length ≤ 1099511627776) : Ev (fun k => lw_same.f k m a b n c d) (decide (m = n ∧ a = c ∧ b = d)) := by
  by_cases h : m = n
  · refine Ev.congr (f := fun k => (lw_sameLimbs.f k a c).bind fun t518 => (if t518 = true then ((lw_sameLimbs.f k b d).bind fun t519 => (some t519)) else (some false))) (fun k => by unfold lw_same.f; rw [if_pos (by simpa using h)]) ?_
    refine Ev.bind (f := fun k t518 => (if t518 = true then ((lw_sameLimbs.f k b d).bind fun t519 => (some t519)) else (some false))) (sameLimbs_ev a c hL) ?_
    by_cases h2 : a = c
    · refine Ev.congr (f := fun k => (lw_sameLimbs.f k b d).bind fun t519 => (some t519)) (fun k => by rw [if_pos (decide_eq_true h2)]) ?_
      refine Ev.bind (f := fun _ t519 => some t519) (sameLimbs_ev b d hM) (Ev.eq (Ev.now _) ?_)
      simp [h, h2]
    · exact Ev.ret fun k => by rw [if_neg (by simp [h2])]; simp [h2]
  · exact Ev.ret fun k => by unfold lw_same.f; rw [if_neg (by simpa using h)]; simp [h]
theorem ofInt_64 (a : Nat) (ha : a < 18446744073709551616) : (BitVec.ofInt 64 (a : Int)).toNat = a := by
  rw [BitVec.ofInt_natCast, BitVec.toNat_ofNat]; exact Nat.mod_eq_of_lt (by omega)
theorem i64w (n : Int) (h0 : 0 ≤ n) (h1 : n < 9223372036854775808) : IntKind.i64.wrap n = n := by
  simp [IntKind.wrap, IntKind.bits, IntKind.signed]; omega
theorem i64_and (a b : Int) (h1 : 0 ≤ a) (h2 : a < 9223372036854775808) (h3 : 0 ≤ b) (h4 : b < 9223372036854775808) : Go.bits .and .i64 a b = ((a.toNat &&& b.toNat : Nat) : Int) := by
  obtain ⟨A, rfl⟩ := Int.eq_ofNat_of_zero_le h1
  obtain ⟨B, rfl⟩ := Int.eq_ofNat_of_zero_le h3
  have hx : A &&& B < 2 ^ 63 := Nat.and_lt_two_pow _ (by omega)
  show IntKind.i64.wrap ((BitVec.ofInt 64 (A : Int) &&& BitVec.ofInt 64 (B : Int)).toNat : Int) = _
  rw [BitVec.toNat_and, ofInt_64 A (by omega), ofInt_64 B (by omega), i64w _ (by omega) (by omega)]
  rfl
theorem i64_or (a b : Int) (h1 : 0 ≤ a) (h2 : a < 9223372036854775808) (h3 : 0 ≤ b) (h4 : b < 9223372036854775808) : Go.bits .or .i64 a b = ((a.toNat ||| b.toNat : Nat) : Int) := by
  obtain ⟨A, rfl⟩ := Int.eq_ofNat_of_zero_le h1
  obtain ⟨B, rfl⟩ := Int.eq_ofNat_of_zero_le h3
  have hx : A ||| B < 2 ^ 63 := Nat.or_lt_two_pow (by omega) (by omega)
  show IntKind.i64.wrap ((BitVec.ofInt 64 (A : Int) ||| BitVec.ofInt 64 (B : Int)).toNat : Int) = _
  rw [BitVec.toNat_or, ofInt_64 A (by omega), ofInt_64 B (by omega), i64w _ (by omega) (by omega)]
  rfl
theorem i64_and1 {x : Int} (h0 : 0 ≤ x) (h1 : x < 9223372036854775808) : Go.bits .and .i64 x 1 = x % 2 := by
  rw [i64_and _ _ h0 h1 (by omega) (by omega)]
  have : (1 : Int).toNat = 1 := rfl
  rw [this, Nat.and_one_is_mod]; omega
theorem rtrim_ev (xs : List Int) : xs.length ≤ 1099511627776 → Ev (fun k => rf_trim.f k xs) (trim xs) := by
  show xs.length ≤ 1099511627776 → Ev (fun k => rf_trim.l0 k xs) (trim xs)
  refine snoc_induction (P := fun xs => xs.length ≤ 1099511627776 → Ev (fun k => rf_trim.l0 k xs) (trim xs)) ?_ ?_ xs
  · intro _
    exact Ev.step (f := fun _ => some []) (fun k => by simp only [rf_trim.l0]; rfl) (Ev.now _)
  · intro xs x ih hl
    rw [List.length_append, List.length_singleton] at hl
    have h1 : ((xs ++ [x]).length : Int) > 0 := by rw [List.length_append, List.length_singleton]; omega
    have h2 : wrap64 (((xs ++ [x]).length : Int) - 1) = (xs.length : Int) := by rw [List.length_append, List.length_singleton, w64 (by omega) (by omega)]; omega
    have h3 : (xs.length : Int) < ((xs ++ [x]).length : Int) := by rw [List.length_append, List.length_singleton]; omega
    have h4 : rd (xs ++ [x]) (xs.length : Int) = x := by rw [rd_getD, List.getD_eq_getElem?_getD, List.getElem?_append_right (Nat.le_refl _)]; simp
    have h5 : (xs ++ [x]).take xs.length = xs := by rw [List.take_append_of_le_length (Nat.le_refl _), List.take_of_length_le (Nat.le_refl _)]
    have h0 : (0 : Int) ≤ (xs.length : Int) := by omega
    by_cases c : x = 0
    · subst c
      rw [trim_snoc_zero]
      refine Ev.step (f := fun k => rf_trim.l0 k xs) (fun k => ?_) (ih (by omega))
      simp only [rf_trim.l0]
      rw [if_pos h1, h2, if_pos h0, if_pos h3, h4, if_pos (by rfl), if_pos (Int.le_of_lt h3), Int.toNat_natCast, h5]
    · rw [trim_snoc _ c]
      refine Ev.step (f := fun _ => some (xs ++ [x])) (fun k => ?_) (Ev.now _)
      simp only [rf_trim.l0]
      rw [if_pos h1, h2, if_pos h0, if_pos h3, h4, if_neg c]
theorem rdigit (l : List Int) (i : Nat) : rf_digit.f l (i : Int) = some (l.getD i 0) := by
  unfold rf_digit.f
  by_cases h : i < l.length
  · rw [if_pos (by omega), if_pos (by omega), rd_getD]
  · rw [if_neg (by omega), List.getD_eq_getElem?_getD, List.getElem?_eq_none (by omega)]; rfl
theorem u32_pair {a b : Int} (ha0 : 0 ≤ a) (ha : a < 65536) (hb0 : 0 ≤ b) (hb : b < 65536) : Go.bits .or .u32 (a % 4294967296) ((b % 4294967296 * 65536) % 4294967296) = a + 65536 * b := by
  have e1 : a % 4294967296 = a := by omega
  have e2 : (b % 4294967296 * 65536) % 4294967296 = b * 65536 := by omega
  rw [e1, e2, u32_or _ _ ha0 (by omega) (by omega) (by omega), Nat.or_comm, nat_join 16 _ _ (by omega) (by omega)]
  omega
theorem nrm_of_val {B : Int} (hB : 0 < B) {xs : List Int} (h : Lim B xs) (hv : xs ≠ [] → B ^ (xs.length - 1) ≤ val B xs) : Nrm xs := by
  by_cases e : xs = []
  · rw [e]; exact nrm_nil
  · have h1 := hv e
    rw [← List.dropLast_concat_getLast e] at h h1 ⊢
    rw [nrm_snoc]
    intro h2
    have h3 := val_lt hB (lim_append.1 h).1
    rw [val_snoc, h2, Int.mul_zero, Int.add_zero, List.length_append, List.length_singleton, Nat.add_sub_cancel] at h1
    omega
theorem limbs_loop (x : List Int) (hx : Lim 65536 x) (hL : x.length ≤ 137438953472) : ∀ (d i : Nat) (out : List Int), x.length ≤ 2 * i + 2 * d → (0 < d → 2 * i + 2 * d < x.length + 2) → out.length = i → Lim 4294967296 out → val 4294967296 out = val 65536 (x.take (2 * i)) →
    ∃ r, Ev (fun k => rf_limbs.l0 k x out ((2 * i : Nat) : Int)) r ∧ r.length = i + d ∧ Lim 4294967296 r ∧ val 4294967296 r = val 65536 x := by
  have hB : (0 : Int) < 65536 := by decide
  intro d
  induction d with
  | zero =>
    intro i out h1 h2 hl ho hv
    refine ⟨out, Ev.step (f := fun _ => some out) (fun k => ?_) (Ev.now _), by omega, ho, by rw [hv, List.take_of_length_le (by omega)]⟩
    simp only [rf_limbs.l0]
    rw [if_neg (by omega)]
  | succ d ih =>
    intro i out h1 h2 hl ho hv
    have h2' := h2 (by omega)
    have g1 : ((2 * i : Nat) : Int) < (x.length : Int) := by omega
    have g2 : (0 : Int) ≤ ((2 * i : Nat) : Int) := by omega
    have g3 : out.length < 35184372088832 := by omega
    have g4 : x.length ≤ 2 * (i + 1) + 2 * d := by omega
    have g5 : 0 < d → 2 * (i + 1) + 2 * d < x.length + 2 := by omega
    have e1 : ∀ _ : Unit, wrap64 (((2 * i : Nat) : Int) + 1) = ((2 * i + 1 : Nat) : Int) := fun _ => by rw [w64 (by omega) (by omega)]; omega
    have e2 : ∀ _ : Unit, wrap64 (((2 * i : Nat) : Int) + 2) = ((2 * (i + 1) : Nat) : Int) := fun _ => by rw [w64 (by omega) (by omega)]; omega
    have ha := hx.getD hB (2 * i)
    have hb := hx.getD hB (2 * i + 1)
    have hv2 : val 65536 (x.take (2 * (i + 1))) = val 65536 (x.take (2 * i)) + 65536 ^ (2 * i) * (x.getD (2 * i) 0 + 65536 * x.getD (2 * i + 1) 0) := by
      have : 2 * (i + 1) = 2 * i + 1 + 1 := by omega
      rw [this, val_take_succ', val_take_succ', Int.pow_succ]
      generalize (65536 : Int) ^ (2 * i) = p
      grind
    obtain ⟨r, hr, r1, r2, r3⟩ := ih (i + 1) (out ++ [x.getD (2 * i) 0 + 65536 * x.getD (2 * i + 1) 0]) g4 g5 (by rw [List.length_append, List.length_singleton, hl]) (lim_nrm_snoc ho ⟨by omega, by omega⟩) (by
      rw [val_snoc, hv, hv2, hl, Int.pow_mul, show (65536 : Int) ^ 2 = 4294967296 from rfl])
    refine ⟨r, Ev.step (f := fun k => rf_limbs.l0 k x (out ++ [x.getD (2 * i) 0 + 65536 * x.getD (2 * i + 1) 0]) ((2 * (i + 1) : Nat) : Int)) (fun k => ?_) hr, by omega, r2, r3⟩
    simp only [rf_limbs.l0]
    rw [if_pos g1, if_pos g2, e1 (), rdigit, Option.bind_some, if_pos g3, rd_getD, u32_pair ha.1 ha.2 hb.1 hb.2, e2 ()]
theorem limbs_ev (x : List Int) (hx : Lim 65536 x) (nx : Nrm x) (hL : x.length ≤ 137438953472) :
    ∃ r, Ev (fun k => rf_limbs.f k x) r ∧ Lim 4294967296 r ∧ Nrm r ∧ val 4294967296 r = val 65536 x ∧ r.length = (x.length + 1) / 2 := by
  obtain ⟨r, h1, h2, h3, h4⟩ := limbs_loop x hx hL ((x.length + 1) / 2) 0 [] (by omega) (by omega) rfl (lim_nil _) (by simp [val])
  refine ⟨r, h1, h3, nrm_of_val (by decide) h3 (fun hr => ?_), h4, by omega⟩
  have hx0 : x ≠ [] := by
    rintro rfl
    exact hr (List.length_eq_zero_iff.1 (by rw [h2]; rfl))
  have h5 := val_ge (by decide) hx nx hx0
  have hl : x.length ≠ 0 := fun h' => hx0 (List.length_eq_zero_iff.1 h')
  have h6 : (4294967296 : Int) ^ (r.length - 1) = 65536 ^ (2 * (r.length - 1)) := by rw [Int.pow_mul]; rfl
  have h7 := pow_mono' (B := 65536) (by decide) (show 2 * (r.length - 1) ≤ x.length - 1 by omega)
  rw [h4, h6]
  omega
theorem Made_ev (neg : Bool) (a b : List Int) (ha : Lim 65536 a) (hb : Lim 65536 b) (na : Nrm a) (nb : Nrm b) (La : a.length ≤ 137438953472) (Lb : b.length ≤ 137438953472) :
    ∃ p q, Lim 4294967296 p ∧ Nrm p ∧ val 4294967296 p = val 65536 a ∧ Lim 4294967296 q ∧ Nrm q ∧ val 4294967296 q = val 65536 b ∧
      (p.length > 128 ∨ q.length > 128 → Ev (fun k => rf_Made.f k neg a b) (false, [], [], 3)) ∧ (p.length ≤ 128 → q.length ≤ 128 → Ev (fun k => rf_Made.f k neg a b) (neg, p, q, 0)) := by
  obtain ⟨p, p1, p2, p3, p4, p5⟩ := limbs_ev a ha na La
  obtain ⟨q, q1, q2, q3, q4, q5⟩ := limbs_ev b hb nb Lb
  have key : ∀ R, Ev (fun _ => if (p.length : Int) > 128 then (some (false, ([] : List Int), ([] : List Int), (3 : Int))) else (if (q.length : Int) > 128 then (some (false, ([] : List Int), ([] : List Int), 3)) else (some (neg, p, q, 0)))) R → Ev (fun k => rf_Made.f k neg a b) R := by
    intro R hR
    refine Ev.bind (f := fun k t634 => ((rf_limbs.f k b).bind fun t637 => (if (t634.length : Int) > 128 then (some (false, ([] : List Int), ([] : List Int), (3 : Int))) else (if (t637.length : Int) > 128 then (some (false, ([] : List Int), ([] : List Int), 3)) else (some (neg, t634, t637, 0)))))) p1 ?_
    exact Ev.bind (f := fun _ t637 => (if (p.length : Int) > 128 then (some (false, ([] : List Int), ([] : List Int), (3 : Int))) else (if (t637.length : Int) > 128 then (some (false, ([] : List Int), ([] : List Int), 3)) else (some (neg, p, t637, 0))))) q1 hR
  refine ⟨p, q, p2, p3, p4, q2, q3, q4, fun h => key _ ?_, fun h1 h2 => key _ ?_⟩
  · by_cases c : p.length > 128
    · exact Ev.const (if_pos (by omega))
    · exact Ev.const (by rw [if_neg (by omega), if_pos (by omega)])
  · exact Ev.const (by rw [if_neg (by omega), if_neg (by omega)])
theorem limbs_one : Lim 65536 [1] ∧ Nrm [1] ∧ val 65536 [1] = 1 := ⟨one_lim (by decide), one_nrm, val_one _⟩
theorem u64_low {x : Int} (h0 : 0 ≤ x) (h1 : x < 18446744073709551616) : wrap64 (Go.bits .and .u64 x 65535) = x % 65536 := by
  rw [u64_and _ _ h0 h1 (by omega) (by omega), show (65535 : Int).toNat = 2 ^ 16 - 1 from rfl, Nat.and_two_pow_sub_one_eq_mod, w64 (by omega) (by omega)]
  omega
theorem OfInt_loop : ∀ (d : Nat) (x : Int) (out : List Int), 0 ≤ x → x < 65536 ^ d → x < 18446744073709551616 → out.length + d ≤ 4 → Lim 65536 out → (x = 0 → Nrm out) →
    ∃ r, Ev (fun k => rf_OfInt.l0 k x out) r ∧ Lim 65536 r ∧ Nrm r ∧ val 65536 r = val 65536 out + 65536 ^ out.length * x ∧ r.length ≤ 4 := by
  have hend : ∀ out : List Int, out.length ≤ 4 → Lim 65536 out → Nrm out → ∃ r, Ev (fun k => rf_OfInt.l0 k 0 out) r ∧ Lim 65536 r ∧ Nrm r ∧ val 65536 r = val 65536 out + 65536 ^ out.length * 0 ∧ r.length ≤ 4 := by
    intro out hl ho hn
    refine ⟨out, Ev.step (f := fun _ => some out) (fun k => ?_) (Ev.now _), ho, hn, by simp, hl⟩
    simp only [rf_OfInt.l0]
    rw [if_neg (by decide)]
  intro d
  induction d with
  | zero =>
    intro x out h0 h1 h2 hl ho hn
    have e : x = 0 := by simp at h1; omega
    subst e
    exact hend out (by omega) ho (hn rfl)
  | succ d ih =>
    intro x out h0 h1 h2 hl ho hn
    by_cases e : x = 0
    · subst e
      exact hend out (by omega) ho (hn rfl)
    · have g1 : out.length < 17592186044416 := by omega
      have h3 : x / 65536 < 65536 ^ d := by
        rw [Int.pow_succ] at h1
        exact Int.ediv_lt_of_lt_mul (by decide) h1
      obtain ⟨r, r1, r2, r3, r4, r5⟩ := ih (x / 65536) (out ++ [x % 65536]) (by omega) h3 (by omega) (by rw [List.length_append, List.length_singleton]; omega) (lim_nrm_snoc ho ⟨by omega, by omega⟩) (fun hz => nrm_snoc.2 (by omega))
      refine ⟨r, Ev.step (f := fun k => rf_OfInt.l0 k (x / 65536) (out ++ [x % 65536])) (fun k => ?_) r1, r2, r3, ?_, r5⟩
      · simp only [rf_OfInt.l0]
        rw [if_pos (by omega), if_pos g1, u64_low h0 h2]
      · rw [r4, val_snoc, List.length_append, List.length_singleton, Int.pow_succ]
        have e2 : x = x % 65536 + 65536 * (x / 65536) := by omega
        generalize x / 65536 = q at *
        generalize x % 65536 = m at *
        subst e2
        generalize (65536 : Int) ^ out.length = p
        clear r1 h3 ih
        grind
theorem OfInt_ev (x : Int) (h0 : 0 ≤ x) (h1 : x < 18446744073709551616) : ∃ r, Ev (fun k => rf_OfInt.f k x) r ∧ Lim 65536 r ∧ Nrm r ∧ val 65536 r = x ∧ r.length ≤ 4 := by
  obtain ⟨r, r1, r2, r3, r4, r5⟩ := OfInt_loop 4 x [] h0 h1 h1 (by decide) (lim_nil _) (fun _ => nrm_nil)
  exact ⟨r, r1, r2, r3, by rw [r4]; simp [val], r5⟩
theorem pow_left' {a b : Int} (h0 : 0 ≤ a) (h : a ≤ b) : ∀ n : Nat, a ^ n ≤ b ^ n
  | 0 => by simp
  | n + 1 => by
    rw [Int.pow_succ, Int.pow_succ]
    exact Int.mul_le_mul (pow_left' h0 h n) h h0 (Int.pow_nonneg (by omega))
theorem dropAll {α : Type} {p : α → Bool} : ∀ {l : List α}, (∀ x, x ∈ l → p x = true) → l.dropWhile p = []
  | [], _ => rfl
  | x :: l, h => by rw [List.dropWhile_cons_of_pos (h x (by simp))]; exact dropAll (fun y hy => h y (by simp [hy]))
theorem plus_same : ∀ (k : Nat) (b x : List Int) (c n i : Int), nat_plus.l1000 k b x c n i = nat_plus.l0 k b x c n i := by
  intro k
  induction k with
  | zero => intros; rfl
  | succ k ih => intro b x c n i; simp only [nat_plus.l1000, nat_plus.l0, ih]
theorem plus_loop (b : List Int) (hb : Lim 4294967296 b) (N : Nat) (hN : N ≤ 549755813888) (hbN : b.length ≤ N) (T : Int) (hT : T < 4294967296 ^ N) : ∀ (d i : Nat) (x : List Int) (c : Int), d + i = N → x.length = N → Lim 4294967296 x → 0 ≤ c → c ≤ 1 →
    val 4294967296 x + 4294967296 ^ i * c + (val 4294967296 b - val 4294967296 (b.take i)) = T →
    ∃ r, Ev (fun k => nat_plus.l0 k b x c (N : Int) (i : Int)) (trim r) ∧ r.length = N ∧ Lim 4294967296 r ∧ val 4294967296 r = T := by
  have hB : (0 : Int) < 4294967296 := by decide
  intro d
  induction d with
  | zero =>
    intro i x c hd hl hx hc0 hc hv
    have hi : i = N := by omega
    subst hi
    refine ⟨x, Ev.step (f := fun k => (nat_Trim.f k x).bind fun t => some t) (fun k => ?_) (Ev.bind (f := fun _ t => some t) (Trim_ev x (by omega)) (Ev.now _)), hl, hx, ?_⟩
    · simp only [nat_plus.l0]; rw [if_neg (by omega)]
    · rw [List.take_of_length_le (by omega), Int.sub_self, Int.add_zero] at hv
      have h1 := val_nonneg hB hx
      by_cases h : c = 0
      · rw [h, Int.mul_zero] at hv; omega
      · have e : c = 1 := by omega
        rw [e, Int.mul_one] at hv
        generalize (4294967296 : Int) ^ i = p at *
        omega
  | succ d ih =>
    intro i x c hd hl hx hc0 hc hv
    have g1 : (i : Int) < (N : Int) := by omega
    have g2 : (0 : Int) ≤ (i : Int) := by omega
    have g3 : i < x.length := by omega
    have g4 : (i : Int) < (x.length : Int) := by omega
    have g5 : d + (i + 1) = N := by omega
    have gw : ∀ _ : Unit, wrap64 ((i : Int) + 1) = ((i + 1 : Nat) : Int) := fun _ => by rw [w64 (by omega) (by omega)]; omega
    have hxi := hx.rd hB (i : Int)
    have hxg : rd x (i : Int) = x.getD i 0 := rd_getD x i
    generalize rd x (i : Int) = a at hxi hxg
    have key : ∀ y : Int, 0 ≤ y → y < 4294967296 → b.getD i 0 = y → ∃ r, Ev (fun k => nat_plus.l0 k b (x.set i ((c + a + y) % 4294967296)) ((c + a + y) / 4294967296) (N : Int) ((i + 1 : Nat) : Int)) (trim r) ∧ r.length = N ∧ Lim 4294967296 r ∧ val 4294967296 r = T := by
      intro y hy0 hy hyb
      refine ih (i + 1) _ _ g5 (by rw [List.length_set, hl]) (hx.set i ⟨by omega, by omega⟩) (by omega) (by omega) ?_
      rw [val_set _ _ _ _ g3, ← hxg, val_take_succ', hyb, Int.pow_succ]
      have e : (c + a + y) % 4294967296 = c + a + y - 4294967296 * ((c + a + y) / 4294967296) := by omega
      rw [e]
      generalize (c + a + y) / 4294967296 = q
      generalize (4294967296 : Int) ^ i = p at *
      grind
    by_cases hi : i < b.length
    · have hb1 := hb.rd hB (i : Int)
      have hbg : rd b (i : Int) = b.getD i 0 := rd_getD b i
      have g6 : (i : Int) < (b.length : Int) := by omega
      generalize rd b (i : Int) = y at hb1 hbg
      obtain ⟨r, hr, h⟩ := key y hb1.1 hb1.2 hbg.symm
      have e : IntKind.u64.wrap (IntKind.u64.wrap (c + IntKind.u64.wrap a) + IntKind.u64.wrap y) = c + a + y := by
        rw [u64_id hxi.1 (by omega), u64_id hb1.1 (by omega), u64_id (x := c + a) (by omega) (by omega), u64_id (by omega) (by omega)]
      refine ⟨r, Ev.step (f := fun k => nat_plus.l0 k b (x.set i ((c + a + y) % 4294967296)) ((c + a + y) / 4294967296) (N : Int) ((i + 1 : Nat) : Int)) (fun k => ?_) hr, h⟩
      simp only [nat_plus.l0]
      rw [if_pos g1, if_pos g2, if_pos g4, if_pos g6, rd_getD x i, rd_getD b i, ← hxg, ← hbg, e, gw (), Int.toNat_natCast]
    · have g6 : ¬ (i : Int) < (b.length : Int) := by omega
      obtain ⟨r, hr, h⟩ := key 0 (by omega) (by omega) (by rw [List.getD_eq_getElem?_getD, List.getElem?_eq_none (by omega)]; rfl)
      have e : IntKind.u64.wrap (c + IntKind.u64.wrap a) = c + a + 0 := by
        rw [u64_id hxi.1 (by omega), u64_id (x := c + a) (by omega) (by omega), Int.add_zero]
      refine ⟨r, Ev.step (f := fun k => nat_plus.l0 k b (x.set i ((c + a + 0) % 4294967296)) ((c + a + 0) / 4294967296) (N : Int) ((i + 1 : Nat) : Int)) (fun k => ?_) hr, h⟩
      simp only [nat_plus.l0]
      rw [if_pos g1, if_pos g2, if_pos g4, if_neg g6, rd_getD x i, ← hxg, e, gw (), Int.toNat_natCast]
theorem plus_half (a b : List Int) (ha : Lim 4294967296 a) (hb : Lim 4294967296 b) (hL : a.length ≤ 274877906944) (hab : b.length ≤ a.length) :
    ∃ r, Ev (fun k => if (0 : Int) ≤ wrap64 ((a.length : Int) + 1) then (if (wrap64 ((a.length : Int) + 1) : Int).toNat ≤ 70368744177664 then ((some (List.replicate (wrap64 ((a.length : Int) + 1) : Int).toNat 0 : List Int)).bind fun y => ((copy_e55.f y a).bind fun bt => nat_plus.l0 k b bt.2 0 (y.length : Int) 0)) else none) else none) r ∧ Lim 4294967296 r ∧ Nrm r ∧ val 4294967296 r = val 4294967296 a + val 4294967296 b ∧ r.length ≤ a.length + 1 := by
  have hB : (0 : Int) < 4294967296 := by decide
  have e1 : wrap64 ((a.length : Int) + 1) = ((a.length + 1 : Nat) : Int) := by rw [w64 (by omega) (by omega)]; omega
  have va := val_lt hB ha
  have vb := val_lt hB hb
  have pm := pow_mono' hB hab
  have e0 : a ++ (List.replicate (a.length + 1) (0 : Int)).drop a.length = a ++ [0] := by
    rw [List.drop_replicate, Nat.add_sub_cancel_left]; rfl
  obtain ⟨r, h1, h2, h3, h4⟩ := plus_loop b hb (a.length + 1) (by omega) (by omega) (val 4294967296 a + val 4294967296 b) (by
      rw [Int.pow_succ]
      have pp := pow_pos' hB a.length
      generalize (4294967296 : Int) ^ a.length = p at *
      omega) (a.length + 1) 0 (a ++ [0]) 0 (by omega) (by simp) (lim_nrm_snoc ha ⟨by decide, by decide⟩) (by decide) (by decide) (by rw [val_snoc]; simp [val])
  refine ⟨trim r, Ev.congr (fun k => ?_) h1, lim_trim h3, nrm_trim _, by rw [val_trim, h4], by rw [← h2]; exact length_trim r⟩
  rw [e1, if_pos (by omega), if_pos (by omega), Int.toNat_natCast, Option.bind_some]
  unfold copy_e55.f
  simp only [Option.bind_some, List.length_replicate]
  rw [List.take_of_length_le (by omega), e0]; rfl
theorem plus_ev (a b : List Int) (ha : Lim 4294967296 a) (hb : Lim 4294967296 b) (hL : a.length ≤ 274877906944) (hM : b.length ≤ 274877906944) :
    ∃ r, Ev (fun k => nat_plus.f k a b) r ∧ Lim 4294967296 r ∧ Nrm r ∧ val 4294967296 r = val 4294967296 a + val 4294967296 b ∧ r.length ≤ max a.length b.length + 1 := by
  by_cases c : a.length < b.length
  · obtain ⟨r, h1, h2, h3, h4, h5⟩ := plus_half b a hb ha hM (by omega)
    refine ⟨r, Ev.congr (fun k => ?_) h1, h2, h3, by rw [h4, Int.add_comm], by omega⟩
    unfold nat_plus.f
    rw [if_pos (by omega)]
  · obtain ⟨r, h1, h2, h3, h4, h5⟩ := plus_half a b ha hb hL (by omega)
    refine ⟨r, Ev.congr (fun k => ?_) h1, h2, h3, h4, by omega⟩
    unfold nat_plus.f
    rw [if_neg (by omega)]
    simp only [plus_same]
theorem sub_loop (b : List Int) (hb : Lim 4294967296 b) (N : Nat) (hN : N ≤ 549755813888) (hbN : b.length ≤ N) (T : Int) (hT : 0 ≤ T) : ∀ (d i : Nat) (x : List Int) (c : Int), d + i = N → x.length = N → Lim 4294967296 x → 0 ≤ c → c ≤ 1 →
    val 4294967296 x - 4294967296 ^ i * c - (val 4294967296 b - val 4294967296 (b.take i)) = T →
    ∃ r, Ev (fun k => nat_Sub.l0 k b x c (N : Int) (i : Int)) (trim r) ∧ r.length = N ∧ Lim 4294967296 r ∧ val 4294967296 r = T := by
  have hB : (0 : Int) < 4294967296 := by decide
  intro d
  induction d with
  | zero =>
    intro i x c hd hl hx hc0 hc hv
    have hi : i = N := by omega
    subst hi
    refine ⟨x, Ev.step (f := fun k => (nat_Trim.f k x).bind fun t => some t) (fun k => ?_) (Ev.bind (f := fun _ t => some t) (Trim_ev x (by omega)) (Ev.now _)), hl, hx, ?_⟩
    · simp only [nat_Sub.l0]; rw [if_neg (by omega)]
    · rw [List.take_of_length_le (by omega), Int.sub_self, Int.sub_zero] at hv
      have h1 := val_lt hB hx
      rw [hl] at h1
      by_cases h : c = 0
      · rw [h, Int.mul_zero] at hv; omega
      · have e : c = 1 := by omega
        rw [e, Int.mul_one] at hv
        generalize (4294967296 : Int) ^ i = p at *
        omega
  | succ d ih =>
    intro i x c hd hl hx hc0 hc hv
    have g1 : (i : Int) < (N : Int) := by omega
    have g2 : (0 : Int) ≤ (i : Int) := by omega
    have g3 : i < x.length := by omega
    have g4 : (i : Int) < (x.length : Int) := by omega
    have g5 : d + (i + 1) = N := by omega
    have gw : ∀ _ : Unit, wrap64 ((i : Int) + 1) = ((i + 1 : Nat) : Int) := fun _ => by rw [w64 (by omega) (by omega)]; omega
    have hxi := hx.rd hB (i : Int)
    have hxg : rd x (i : Int) = x.getD i 0 := rd_getD x i
    generalize rd x (i : Int) = a at hxi hxg
    have key : ∀ y dd b' : Int, 0 ≤ dd → dd < 4294967296 → 0 ≤ b' → b' ≤ 1 → dd - 4294967296 * b' = a - c - y → b.getD i 0 = y → ∃ r, Ev (fun k => nat_Sub.l0 k b (x.set i dd) b' (N : Int) ((i + 1 : Nat) : Int)) (trim r) ∧ r.length = N ∧ Lim 4294967296 r ∧ val 4294967296 r = T := by
      intro y dd b' hd0 hd1 hb0 hb1 he hyb
      refine ih (i + 1) _ _ g5 (by rw [List.length_set, hl]) (hx.set i ⟨hd0, hd1⟩) hb0 hb1 ?_
      rw [val_set _ _ _ _ g3, ← hxg, val_take_succ', hyb, Int.pow_succ]
      have e : dd = a - c - y + 4294967296 * b' := by omega
      rw [e]
      generalize (4294967296 : Int) ^ i = p at *
      grind
    by_cases hi : i < b.length
    · have hb1 := hb.rd hB (i : Int)
      have hbg : rd b (i : Int) = b.getD i 0 := rd_getD b i
      have g6 : (i : Int) < (b.length : Int) := by omega
      generalize rd b (i : Int) = y at hb1 hbg
      obtain ⟨dd, b', e1, e2, p1, p2, p3, p4, p5⟩ : ∃ dd b' : Int, IntKind.u64.wrap (IntKind.u64.wrap (IntKind.u64.wrap a - c) - IntKind.u64.wrap y) % 4294967296 = dd ∧ Go.bits .and .u64 (IntKind.u64.wrap (IntKind.u64.wrap (IntKind.u64.wrap a - c) - IntKind.u64.wrap y) / 4294967296) 1 = b' ∧ 0 ≤ dd ∧ dd < 4294967296 ∧ 0 ≤ b' ∧ b' ≤ 1 ∧ dd - 4294967296 * b' = a - c - y := by
        rw [u64_id hxi.1 (by omega), u64_id hb1.1 (by omega), u64w, u64w]
        by_cases h : a - c - y < 0
        · have e : ((a - c) % 18446744073709551616 - y) % 18446744073709551616 = a - c - y + 18446744073709551616 := by omega
          rw [e, bits_and_one (by omega) (by omega)]
          exact ⟨_, _, rfl, rfl, by omega, by omega, by omega, by omega, by omega⟩
        · have e : ((a - c) % 18446744073709551616 - y) % 18446744073709551616 = a - c - y := by omega
          rw [e, bits_and_one (by omega) (by omega)]
          exact ⟨_, _, rfl, rfl, by omega, by omega, by omega, by omega, by omega⟩
      obtain ⟨r, hr, h⟩ := key y dd b' p1 p2 p3 p4 p5 hbg.symm
      refine ⟨r, Ev.step (f := fun k => nat_Sub.l0 k b (x.set i dd) b' (N : Int) ((i + 1 : Nat) : Int)) (fun k => ?_) hr, h⟩
      simp only [nat_Sub.l0]
      rw [if_pos g1, if_pos g2, if_pos g4, if_pos g6, rd_getD x i, rd_getD b i, ← hxg, ← hbg, e1, e2, gw (), Int.toNat_natCast]
    · have g6 : ¬ (i : Int) < (b.length : Int) := by omega
      obtain ⟨dd, b', e1, e2, p1, p2, p3, p4, p5⟩ : ∃ dd b' : Int, IntKind.u64.wrap (IntKind.u64.wrap a - c) % 4294967296 = dd ∧ Go.bits .and .u64 (IntKind.u64.wrap (IntKind.u64.wrap a - c) / 4294967296) 1 = b' ∧ 0 ≤ dd ∧ dd < 4294967296 ∧ 0 ≤ b' ∧ b' ≤ 1 ∧ dd - 4294967296 * b' = a - c - 0 := by
        rw [u64_id hxi.1 (by omega), u64w]
        by_cases h : a - c < 0
        · have e : (a - c) % 18446744073709551616 = a - c + 18446744073709551616 := by omega
          rw [e, bits_and_one (by omega) (by omega)]
          exact ⟨_, _, rfl, rfl, by omega, by omega, by omega, by omega, by omega⟩
        · have e : (a - c) % 18446744073709551616 = a - c := by omega
          rw [e, bits_and_one (by omega) (by omega)]
          exact ⟨_, _, rfl, rfl, by omega, by omega, by omega, by omega, by omega⟩
      obtain ⟨r, hr, h⟩ := key 0 dd b' p1 p2 p3 p4 p5 (by rw [List.getD_eq_getElem?_getD, List.getElem?_eq_none (by omega)]; rfl)
      refine ⟨r, Ev.step (f := fun k => nat_Sub.l0 k b (x.set i dd) b' (N : Int) ((i + 1 : Nat) : Int)) (fun k => ?_) hr, h⟩
      simp only [nat_Sub.l0]
      rw [if_pos g1, if_pos g2, if_pos g4, if_neg g6, rd_getD x i, ← hxg, e1, e2, gw (), Int.toNat_natCast]
theorem Sub_ev (a b : List Int) (ha : Lim 4294967296 a) (hb : Lim 4294967296 b) (hL : a.length ≤ 274877906944) (hab : b.length ≤ a.length) (hv : val 4294967296 b ≤ val 4294967296 a) :
    ∃ r, Ev (fun k => nat_Sub.f k a b) r ∧ Lim 4294967296 r ∧ Nrm r ∧ val 4294967296 r = val 4294967296 a - val 4294967296 b ∧ r.length ≤ a.length := by
  obtain ⟨r, h1, h2, h3, h4⟩ := sub_loop b hb a.length (by omega) hab (val 4294967296 a - val 4294967296 b) (by omega) a.length 0 a 0 (by omega) rfl ha (by decide) (by decide) (by simp [val])
  refine ⟨trim r, Ev.congr (fun k => ?_) h1, lim_trim h3, nrm_trim _, by rw [val_trim, h4], by rw [← h2]; exact length_trim r⟩
  unfold nat_Sub.f slices_Clone_uint32_uint32.f
  rw [if_pos (by omega)]; rfl
theorem mul_inner (a b : List Int) (hb : Lim 4294967296 b) (L i : Nat) (ai : Int) (h0 : 0 ≤ ai) (h1 : ai < 4294967296) (hL : L ≤ 549755813888) (hi : i + b.length < L) :
    ∀ (d j : Nat) (out : List Int) (c : Int), d + j = b.length → out.length = L → Lim 4294967296 out → 0 ≤ c → c < 4294967296 → out.getD (i + b.length) 0 = 0 →
    ∃ r, r.length = L ∧ Lim 4294967296 r ∧ val 4294967296 r = val 4294967296 out + 4294967296 ^ (i + j) * (c + ai * val 4294967296 (b.drop j)) ∧ (∀ p, i + b.length < p → r.getD p 0 = out.getD p 0) ∧
      ∀ (R : List Int), Ev (fun k => nat_Mul.l0 k b r a (a.length : Int) ((i + 1 : Nat) : Int)) R → Ev (fun k => nat_Mul.l1 k b out (i : Int) ai c a (a.length : Int) (i : Int) b (b.length : Int) (j : Int)) R := by
  have hB : (0 : Int) < 4294967296 := by decide
  intro d
  induction d with
  | zero =>
    intro j out c hd hl ho hc0 hc hz
    have hj : j = b.length := by omega
    subst hj
    have g1 : ∀ _ : Unit, wrap64 ((i : Int) + (b.length : Int)) = ((i + b.length : Nat) : Int) := fun _ => by rw [w64 (by omega) (by omega)]; omega
    have g2 : ∀ _ : Unit, wrap64 ((i : Int) + 1) = ((i + 1 : Nat) : Int) := fun _ => by rw [w64 (by omega) (by omega)]; omega
    have g3 : (0 : Int) ≤ ((i + b.length : Nat) : Int) := by omega
    have g4 : ((i + b.length : Nat) : Int) < (out.length : Int) := by omega
    have g5 : c % 4294967296 = c := by omega
    refine ⟨out.set (i + b.length) c, by rw [List.length_set, hl], ho.set _ ⟨hc0, hc⟩, ?_, ?_, fun R hR => ?_⟩
    · rw [val_set _ _ _ _ (by omega), hz, List.drop_length]
      simp [val]
    · intro p hp
      rw [List.getD_eq_getElem?_getD, List.getD_eq_getElem?_getD, List.getElem?_set_ne (by omega)]
    · refine Ev.step (f := fun k => nat_Mul.l0 k b (out.set (i + b.length) c) a (a.length : Int) ((i + 1 : Nat) : Int)) (fun k => ?_) hR
      simp only [nat_Mul.l1]
      rw [if_neg (by omega), g1 (), if_pos g3, if_pos g4, g2 (), g5, Int.toNat_natCast]
  | succ d ih =>
    intro j out c hd hl ho hc0 hc hz
    have g0 : d + (j + 1) = b.length := by omega
    have g1 : (j : Int) < (b.length : Int) := by omega
    have g2 : (0 : Int) ≤ (j : Int) := by omega
    have gj : j < b.length := by omega
    have g3 : i + j < out.length := by omega
    have g4 : ((i + j : Nat) : Int) < (out.length : Int) := by omega
    have g5 : (0 : Int) ≤ ((i + j : Nat) : Int) := by omega
    have g6 : i + j ≠ i + b.length := by omega
    have gw : ∀ _ : Unit, wrap64 ((j : Int) + 1) = ((j + 1 : Nat) : Int) := fun _ => by rw [w64 (by omega) (by omega)]; omega
    have gv : ∀ _ : Unit, wrap64 ((i : Int) + (j : Int)) = ((i + j : Nat) : Int) := fun _ => by rw [w64 (by omega) (by omega)]; omega
    have hb1 := hb.rd hB (j : Int)
    have hbg : rd b (j : Int) = b.getD j 0 := rd_getD b j
    generalize rd b (j : Int) = y at hb1 hbg
    have ho1 := ho.rd hB ((i + j : Nat) : Int)
    have hog : rd out ((i + j : Nat) : Int) = out.getD (i + j) 0 := rd_getD out (i + j)
    generalize rd out ((i + j : Nat) : Int) = o at ho1 hog
    obtain ⟨m1, m2⟩ := mul_lim h0 h1 hb1.1 hb1.2
    have e : IntKind.u64.wrap (c + IntKind.u64.wrap (IntKind.u64.wrap (IntKind.u64.wrap ai * IntKind.u64.wrap y) + IntKind.u64.wrap o)) = c + ai * y + o := by
      rw [u64_id h0 (by omega), u64_id hb1.1 (by omega), u64_id m1 (by omega), u64_id ho1.1 (by omega), u64_id (x := ai * y + o) (by omega) (by omega), u64_id (by omega) (by omega), Int.add_assoc]
    obtain ⟨q, t, hq, ht, q1, q2, q3, q4, q5⟩ : ∃ q t : Int, (c + ai * y + o) % 4294967296 = t ∧ (c + ai * y + o) / 4294967296 = q ∧ 0 ≤ t ∧ t < 4294967296 ∧ 0 ≤ q ∧ q < 4294967296 ∧ t = c + ai * y + o - 4294967296 * q := by
      generalize ai * y = p at m1 m2
      exact ⟨_, _, rfl, rfl, by omega, by omega, by omega, by omega, by omega⟩
    obtain ⟨r, r1, r2, r3, r4, r5⟩ := ih (j + 1) (out.set (i + j) t) q g0 (by rw [List.length_set, hl]) (ho.set _ ⟨q1, q2⟩) q3 q4 (by
      rw [List.getD_eq_getElem?_getD, List.getElem?_set_ne g6, ← List.getD_eq_getElem?_getD, hz])
    refine ⟨r, r1, r2, ?_, ?_, fun R hR => ?_⟩
    · rw [r3, val_set _ _ _ _ g3, ← hog, val_drop _ b j gj, ← hbg, q5, ← Nat.add_assoc, Int.pow_succ]
      generalize val 4294967296 (b.drop (j + 1)) = v
      generalize (4294967296 : Int) ^ (i + j) = p
      clear q5 ht hq e m1 m2 r3 r5 r4
      grind
    · intro p hp
      rw [r4 p hp, List.getD_eq_getElem?_getD, List.getD_eq_getElem?_getD, List.getElem?_set_ne (by omega)]
    · refine Ev.step (f := fun k => nat_Mul.l1 k b (out.set (i + j) t) (i : Int) ai q a (a.length : Int) (i : Int) b (b.length : Int) ((j + 1 : Nat) : Int)) (fun k => ?_) (r5 R hR)
      simp only [nat_Mul.l1]
      rw [if_pos g1, if_pos g2, if_pos g1, gv (), if_pos g5, if_pos g4, rd_getD b j, ← hbg, rd_getD out (i + j), ← hog, e, hq, ht, gw (), Int.toNat_natCast]
theorem mul_outer (a b : List Int) (ha : Lim 4294967296 a) (hb : Lim 4294967296 b) (hL : a.length + b.length ≤ 549755813888) :
    ∀ (d i : Nat) (out : List Int), d + i = a.length → out.length = a.length + b.length → Lim 4294967296 out → (∀ p, i + b.length ≤ p → out.getD p 0 = 0) →
    ∃ r, Ev (fun k => nat_Mul.l0 k b out a (a.length : Int) (i : Int)) (trim r) ∧ r.length = a.length + b.length ∧ Lim 4294967296 r ∧ val 4294967296 r = val 4294967296 out + 4294967296 ^ i * (val 4294967296 (a.drop i) * val 4294967296 b) := by
  have hB : (0 : Int) < 4294967296 := by decide
  intro d
  induction d with
  | zero =>
    intro i out hd hl ho hz
    have hi : i = a.length := by omega
    subst hi
    refine ⟨out, Ev.step (f := fun k => (nat_Trim.f k out).bind fun t => some t) (fun k => ?_) (Ev.bind (f := fun _ t => some t) (Trim_ev out (by omega)) (Ev.now _)), hl, ho, ?_⟩
    · simp only [nat_Mul.l0]; rw [if_neg (by omega)]
    · rw [List.drop_length]; simp [val]
  | succ d ih =>
    intro i out hd hl ho hz
    have g0 : d + (i + 1) = a.length := by omega
    have g1 : (i : Int) < (a.length : Int) := by omega
    have g2 : (0 : Int) ≤ (i : Int) := by omega
    have gi : i < a.length := by omega
    have ha1 := ha.rd hB (i : Int)
    have hag : rd a (i : Int) = a.getD i 0 := rd_getD a i
    obtain ⟨r, r1, r2, r3, r4, r5⟩ := mul_inner a b hb (a.length + b.length) i (rd a (i : Int)) ha1.1 ha1.2 hL (by omega) b.length 0 out 0 (by omega) hl ho (by decide) (by decide) (hz _ (Nat.le_refl _))
    obtain ⟨s, s1, s2, s3, s4⟩ := ih (i + 1) r g0 r1 r2 (by
      intro p hp
      rw [r4 p (by omega)]
      exact hz p (by omega))
    refine ⟨s, Ev.step (f := fun k => nat_Mul.l1 k b out (i : Int) (rd a (i : Int)) 0 a (a.length : Int) (i : Int) b (b.length : Int) 0) (fun k => ?_) (r5 _ s1), s2, s3, ?_⟩
    · simp only [nat_Mul.l0]
      rw [if_pos g1, if_pos g2, if_pos g1]
    · rw [s4, r3, val_drop _ a i gi, ← hag, List.drop_zero, Nat.add_zero, Int.pow_succ]
      generalize val 4294967296 (a.drop (i + 1)) = v
      generalize val 4294967296 b = u
      generalize (4294967296 : Int) ^ i = p
      clear s4 r3 r5 r4 s1
      grind
theorem Mul_ev (a b : List Int) (ha : Lim 4294967296 a) (hb : Lim 4294967296 b) (hL : a.length + b.length ≤ 549755813888) :
    ∃ r, Ev (fun k => nat_Mul.f k a b) r ∧ Lim 4294967296 r ∧ Nrm r ∧ val 4294967296 r = val 4294967296 a * val 4294967296 b ∧ r.length ≤ a.length + b.length := by
  have e1 : wrap64 ((a.length : Int) + (b.length : Int)) = ((a.length + b.length : Nat) : Int) := by rw [w64 (by omega) (by omega)]; omega
  obtain ⟨r, h1, h2, h3, h4⟩ := mul_outer a b ha hb hL a.length 0 (List.replicate (a.length + b.length) 0) (by omega) (by simp) (lim_replicate (by decide) _) (fun p _ => by
    rw [List.getD_eq_getElem?_getD]
    rcases Nat.lt_or_ge p (a.length + b.length) with h | h
    · rw [List.getElem?_replicate_of_lt h]; rfl
    · rw [List.getElem?_eq_none (by simpa using h)]; rfl)
  refine ⟨trim r, Ev.congr (fun k => ?_) h1, lim_trim h3, nrm_trim _, by rw [val_trim, h4, val_replicate, List.drop_zero]; simp, by rw [← h2]; exact length_trim r⟩
  unfold nat_Mul.f
  rw [e1, if_pos (by omega), if_pos (by omega), Int.toNat_natCast]
  rfl
def BA (l : List UInt8) : ByteArray := ⟨l.toArray⟩
theorem BA_size (l : List UInt8) : (BA l).size = l.length := by simp [BA, ByteArray.size]
theorem BA_data (l : List UInt8) : (BA l).data.toList = l := rfl
theorem BA_list (l : List UInt8) : (BA l).toList = l := by rw [Go.Lib.toList_data]; rfl
theorem BA_of (s : ByteArray) : BA s.data.toList = s := Go.Lib.mk_data s
theorem BA_extract (l : List UInt8) (a b : Nat) : (BA l).extract a b = BA ((l.drop a).take (b - a)) := by
  rw [← BA_of ((BA l).extract a b), Go.Lib.extract_data]; rfl
theorem BA_append (a b : List UInt8) : BA a ++ BA b = BA (a ++ b) := by
  rw [← BA_of (BA a ++ BA b), ByteArray.data_append, Array.toList_append]; rfl
theorem bt_BA (l : List UInt8) (i : Nat) : bt (BA l) (i : Int) = ((l.getD i 0).toNat : Int) := by
  unfold bt
  by_cases h : i < l.length
  · rw [dif_pos (by rw [BA_size]; simpa using h)]
    have e : l.getD i 0 = l[i] := by rw [List.getD_eq_getElem?_getD, List.getElem?_eq_getElem h]; rfl
    rw [e]; rfl
  · rw [dif_neg (by rw [BA_size]; simpa using h), List.getD_eq_getElem?_getD, List.getElem?_eq_none (by omega)]; rfl
def isD (b : UInt8) : Prop := 48 ≤ b.toNat ∧ b.toNat ≤ 57
theorem contains_digit (b : UInt8) : ([48, 49, 50, 51, 52, 53, 54, 55, 56, 57] : List UInt8).contains b = true ↔ isD b := by
  unfold isD
  constructor
  · intro h
    simp only [List.contains_iff_mem, List.mem_cons, List.not_mem_nil, or_false] at h
    rcases h with rfl | rfl | rfl | rfl | rfl | rfl | rfl | rfl | rfl | rfl <;> decide
  · rintro ⟨h0, h1⟩
    have key : ∀ n : Nat, 48 ≤ n → n ≤ 57 → ([48, 49, 50, 51, 52, 53, 54, 55, 56, 57] : List UInt8).contains (UInt8.ofNat n) = true := by
      intro n a0 a1
      have : n = 48 ∨ n = 49 ∨ n = 50 ∨ n = 51 ∨ n = 52 ∨ n = 53 ∨ n = 54 ∨ n = 55 ∨ n = 56 ∨ n = 57 := by omega
      rcases this with rfl | rfl | rfl | rfl | rfl | rfl | rfl | rfl | rfl | rfl <;> decide
    have := key b.toNat h0 h1
    rwa [UInt8.ofNat_toNat] at this
theorem head_dropWhile {α : Type} {p : α → Bool} : ∀ {l : List α} {x : α} {r : List α}, l.dropWhile p = x :: r → p x = false
  | [], _, _, h => by cases h
  | y :: l, x, r, h => by
    by_cases c : p y = true
    · rw [List.dropWhile_cons_of_pos c] at h; exact head_dropWhile h
    · rw [List.dropWhile_cons_of_neg c] at h
      obtain ⟨rfl, _⟩ := List.cons.inj h
      simpa using c
theorem dropWhile_none {α : Type} {p : α → Bool} : ∀ {l : List α}, l.dropWhile p = [] → ∀ x, x ∈ l → p x = true
  | [], _, x, hx => by cases hx
  | y :: l, h, x, hx => by
    by_cases c : p y = true
    · rw [List.dropWhile_cons_of_pos c] at h
      rcases List.mem_cons.1 hx with rfl | hx
      · exact c
      · exact dropWhile_none h x hx
    · rw [List.dropWhile_cons_of_neg c] at h; cases h
theorem trimS_nil (l cs : List UInt8) : Go.Lib.trimS l cs = [] ↔ ∀ b, b ∈ l → cs.contains b = true := by
  constructor
  · intro h
    have h1 := dropWhile_none (p := (cs.contains ·)) h
    have h2 : l.reverse.dropWhile (cs.contains ·) = [] := by
      cases e : l.reverse.dropWhile (cs.contains ·) with
      | nil => rfl
      | cons x r =>
        have h3 := head_dropWhile e
        have h4 : x ∈ Go.Lib.trimRightS l cs := by unfold Go.Lib.trimRightS; rw [e]; simp
        have := h1 x h4
        simp only [h3] at this
        cases this
    intro b hb
    exact dropWhile_none h2 b (List.mem_reverse.2 hb)
  · intro h
    have h1 : Go.Lib.trimRightS l cs = [] := by
      unfold Go.Lib.trimRightS
      rw [dropAll (fun x hx => h x (List.mem_reverse.1 hx))]; rfl
    unfold Go.Lib.trimS
    rw [h1]; rfl
open Classical in
theorem digits_eq (l : List UInt8) (hl : l.length ≤ 4294967296) : number_digits.f (BA l) = some (decide (l ≠ [] ∧ ∀ b, b ∈ l → isD b)) := by
  unfold number_digits.f
  rw [BA_list]
  by_cases h : l = []
  · rw [if_pos h]; simp [h]
  · rw [if_neg h]
    unfold strings_Trim.f
    rw [if_pos ⟨by rw [BA_size]; omega, by decide, by decide⟩, Option.bind_some, BA_data]
    have e : (⟨(Go.Lib.trimS l [48, 49, 50, 51, 52, 53, 54, 55, 56, 57]).toArray⟩ : ByteArray).toList = Go.Lib.trimS l [48, 49, 50, 51, 52, 53, 54, 55, 56, 57] := BA_list _
    show some ((⟨(Go.Lib.trimS l [48, 49, 50, 51, 52, 53, 54, 55, 56, 57]).toArray⟩ : ByteArray).toList == []) = _
    rw [e]
    congr 1
    rw [Bool.eq_iff_iff, beq_iff_eq, trimS_nil, decide_eq_true_eq]
    simp only [contains_digit]
    exact ⟨fun hh => ⟨h, hh⟩, fun hh => hh.2⟩
def cutNeg (l : List UInt8) : List UInt8 × Bool := if l.head? = some 45 then (l.tail, true) else (l, false)
theorem cutNeg_cons (b : UInt8) (r : List UInt8) : cutNeg (b :: r) = if b = 45 then (r, true) else (b :: r, false) := by
  unfold cutNeg
  by_cases h : b = 45
  · rw [if_pos h, if_pos (by rw [h]; rfl)]; rfl
  · rw [if_neg h, if_neg (by simpa using h)]
theorem cutNeg_eq (l : List UInt8) (hl : l.length ≤ 4294967296) : strings_CutPrefix.f (BA l) ⟨#[45]⟩ = some (BA (cutNeg l).1, (cutNeg l).2) := by
  have s1 : ((⟨#[45]⟩ : ByteArray).size : Int) = 1 := rfl
  have t1 : (⟨#[45]⟩ : ByteArray).toList = [45] := BA_list [45]
  unfold strings_CutPrefix.f stringslite_CutPrefix.f stringslite_HasPrefix.f
  rw [s1, BA_size, t1]
  cases l with
  | nil => rfl
  | cons b r =>
    have e0 : ((BA (b :: r)).extract 0 ((1 : Int)).toNat).toList = [b] := by rw [BA_extract, BA_list]; rfl
    rw [if_pos (by simp only [List.length_cons]; omega), if_pos (by decide), if_pos (by simp only [List.length_cons]; omega), e0]
    by_cases h : b = 45
    · subst h
      have e1 : (BA (45 :: r)).extract ((1 : Int)).toNat (r.length + 1) = BA r := by
        rw [BA_extract]; congr 1
        show r.take (r.length + 1 - 1) = r
        rw [Nat.add_sub_cancel, List.take_of_length_le (Nat.le_refl _)]
      rw [cutNeg_cons, if_pos rfl]
      simp only [Option.bind_some, List.length_cons]
      rw [if_pos (by decide), if_pos (by decide), if_pos (by omega), e1]
      rfl
    · have e2 : ([b] == [45]) = false := by simpa using h
      rw [cutNeg_cons, if_neg h]
      simp only [Option.bind_some]
      rw [e2, if_neg (by decide)]
      rfl
theorem cutR_some (u v : List UInt8) (hu : ∀ b, b ∈ u → b ≠ 114) (hl : (u ++ 114 :: v).length ≤ 4294967296) : strings_Cut.f (BA (u ++ 114 :: v)) ⟨#[114]⟩ = some (BA u, BA v, true) := by
  have h1 : Go.Lib.indexByte (u ++ 114 :: v) 114 = (u.length : Int) := by
    induction u with
    | nil => rfl
    | cons b u ih =>
      have hb := hu b (by simp)
      have h2 := ih (fun x hx => hu x (by simp [hx])) (by simp only [List.cons_append, List.length_cons] at hl; omega)
      rw [List.cons_append, Go.Lib.indexByte, if_neg (by simpa using hb), h2, if_neg (by simp), List.length_cons]
      omega
  rw [List.length_append, List.length_cons] at hl
  have e0 : (bt (⟨#[114]⟩ : ByteArray) 0).toNat.toUInt8 = 114 := by decide
  have s1 : ((⟨#[114]⟩ : ByteArray).size : Int) = 1 := rfl
  have e1 : wrap64 ((u.length : Int) + 1) = ((u.length + 1 : Nat) : Int) := by rw [w64 (by omega) (by omega)]; omega
  have hs : (BA (u ++ 114 :: v)).size = u.length + (v.length + 1) := by rw [BA_size, List.length_append, List.length_cons]
  unfold strings_Cut.f stringslite_Cut.f stringslite_Index.f
  rw [if_pos (show (⟨#[114]⟩ : ByteArray).size = 1 from rfl), BA_data, e0, h1, Option.bind_some, s1, e1, hs, if_pos (by omega), if_pos (by omega), if_pos (by omega), if_pos (by omega), if_pos (by omega), Int.toNat_natCast, Int.toNat_natCast, BA_extract, BA_extract, Option.bind_some]
  have e2 : ((u ++ 114 :: v).drop 0).take (u.length - 0) = u := by rw [List.drop_zero, Nat.sub_zero, List.take_left]
  have e3 : ((u ++ 114 :: v).drop (u.length + 1)).take (u.length + (v.length + 1) - (u.length + 1)) = v := by
    have e4 : (u ++ 114 :: v).drop (u.length + 1) = v := by rw [← List.drop_drop, List.drop_left]; rfl
    rw [e4, List.take_of_length_le (by omega)]
  rw [e2, e3]
theorem cutR_none (l : List UInt8) (hu : ∀ b, b ∈ l → b ≠ 114) : strings_Cut.f (BA l) ⟨#[114]⟩ = some (BA l, BA [], false) := by
  have h1 : Go.Lib.indexByte l 114 = -1 := by
    induction l with
    | nil => rfl
    | cons b u ih =>
      have hb := hu b (by simp)
      rw [Go.Lib.indexByte, if_neg (by simpa using hb), ih (fun x hx => hu x (by simp [hx]))]
      rfl
  have e0 : (bt (⟨#[114]⟩ : ByteArray) 0).toNat.toUInt8 = 114 := by decide
  unfold strings_Cut.f stringslite_Cut.f stringslite_Index.f
  rw [if_pos (show (⟨#[114]⟩ : ByteArray).size = 1 from rfl), BA_data, e0, h1, Option.bind_some, if_neg (by decide)]
  rfl
def sv (v : Int) (l : List UInt8) : Int := l.foldl (fun v b => v * 10 + ((b.toNat : Int) - 48)) v
theorem sv_cons (v : Int) (b : UInt8) (l : List UInt8) : sv v (b :: l) = sv (v * 10 + ((b.toNat : Int) - 48)) l := rfl
theorem sv_append (v : Int) (a b : List UInt8) : sv v (a ++ b) = sv (sv v a) b := List.foldl_append
theorem sv_from (v : Int) (l : List UInt8) : sv v l = v * 10 ^ l.length + sv 0 l := by
  induction l generalizing v with
  | nil => simp [sv]
  | cons b l ih =>
    rw [sv_cons, ih, sv_cons, ih (0 * 10 + _), List.length_cons, Int.pow_succ]
    generalize (10 : Int) ^ l.length = p
    grind
theorem sv_bounds (l : List UInt8) (h : ∀ b, b ∈ l → isD b) : 0 ≤ sv 0 l ∧ sv 0 l < 10 ^ l.length := by
  induction l with
  | nil => simp [sv]
  | cons b l ih =>
    obtain ⟨h1, h2⟩ := ih (fun x hx => h x (by simp [hx]))
    have hb := h b (by simp)
    unfold isD at hb
    rw [sv_cons, sv_from, List.length_cons, Int.pow_succ]
    have hp : (0 : Int) < 10 ^ l.length := Int.pow_pos (by decide)
    have h3 : 0 ≤ (0 * 10 + ((b.toNat : Int) - 48)) * 10 ^ l.length := Int.mul_nonneg (by omega) (by omega)
    have h4 : (0 * 10 + ((b.toNat : Int) - 48)) * 10 ^ l.length ≤ 9 * 10 ^ l.length := Int.mul_le_mul_of_nonneg_right (by omega) (by omega)
    omega
theorem from_l1 (l : List UInt8) (hd : ∀ b, b ∈ l → isD b) (hl : l.length ≤ 1048576) (n : Nat) (hn : n ≤ 9) (hnl : n ≤ l.length) (out : List Int) (ho : Lim 4294967296 out) (no : Nrm out) (lo : out.length ≤ 1073741824) :
    ∃ q, Lim 4294967296 q ∧ Nrm q ∧ val 4294967296 q = val 4294967296 out * 10 ^ n + sv 0 (l.take n) ∧ q.length ≤ out.length + 3 ∧
      ∀ R, Ev (fun k => nat_FromDecimal.l0 k (BA (l.drop n)) q) R → ∀ (d i : Nat), d + i = n → Ev (fun k => nat_FromDecimal.l1 k (BA l) out (n : Int) (sv 0 (l.take i)) (10 ^ i) (n : Int) (i : Int)) R := by
  have hpow : ∀ i, i ≤ 9 → (10 : Int) ^ i ≤ 1000000000 ∧ 0 < (10 : Int) ^ i := fun i hi => ⟨by have := pow_mono' (B := 10) (by decide) hi; simpa using this, Int.pow_pos (by decide)⟩
  have hsv : ∀ i, i ≤ n → 0 ≤ sv 0 (l.take i) ∧ sv 0 (l.take i) < 10 ^ i := by
    intro i hi
    have h1 := sv_bounds (l.take i) (fun b hb => hd b (List.mem_of_mem_take hb))
    rw [List.length_take, Nat.min_eq_left (by omega)] at h1
    exact h1
  obtain ⟨p1, p2⟩ := hpow n hn
  obtain ⟨s1, s2⟩ := hsv n (Nat.le_refl _)
  obtain ⟨P, P1, P2, P3, P4, P5⟩ := Of_ev (10 ^ n) (by omega) (by omega)
  obtain ⟨S, S1, S2, S3, S4, S5⟩ := Of_ev (sv 0 (l.take n)) s1 (by omega)
  obtain ⟨m, m1, m2, m3, m4, m5⟩ := Mul_ev out P ho P2 (by omega)
  obtain ⟨q, q1, q2, q3, q4, q5⟩ := plus_ev m S m2 S2 (by omega) (by omega)
  refine ⟨q, q2, q3, by rw [q4, m4, P4, S4], by omega, fun R hR => ?_⟩
  intro d
  induction d with
  | zero =>
    intro i hd0
    have hi : i = n := by omega
    subst hi
    have hx : (BA l).extract i l.length = BA (l.drop i) := by rw [BA_extract, List.take_of_length_le (by simp)]
    refine Ev.step (f := fun k => (nat_Of.f k (10 ^ i)).bind fun t311 => ((nat_Mul.f k out t311).bind fun t314 => ((nat_Of.f k (sv 0 (l.take i))).bind fun t317 => ((nat_plus.f k t314 t317).bind fun t320 => nat_FromDecimal.l0 k (BA (l.drop i)) t320)))) (fun k => ?_) ?_
    · simp only [nat_FromDecimal.l1]
      have gA : (0 : Int) ≤ (i : Int) := by omega
      have gB : (i : Int) ≤ ((BA l).size : Int) := by rw [BA_size]; omega
      rw [if_neg (by omega)]
      simp only [if_pos gA, if_pos gB, Int.toNat_natCast]
      rw [BA_size, hx]
    · refine Ev.bind (f := fun k t311 => ((nat_Mul.f k out t311).bind fun t314 => ((nat_Of.f k (sv 0 (l.take i))).bind fun t317 => ((nat_plus.f k t314 t317).bind fun t320 => nat_FromDecimal.l0 k (BA (l.drop i)) t320)))) P1 ?_
      refine Ev.bind (f := fun k t314 => ((nat_Of.f k (sv 0 (l.take i))).bind fun t317 => ((nat_plus.f k t314 t317).bind fun t320 => nat_FromDecimal.l0 k (BA (l.drop i)) t320))) m1 ?_
      refine Ev.bind (f := fun k t317 => ((nat_plus.f k m t317).bind fun t320 => nat_FromDecimal.l0 k (BA (l.drop i)) t320)) S1 ?_
      exact Ev.bind (f := fun k t320 => nat_FromDecimal.l0 k (BA (l.drop i)) t320) q1 hR
  | succ d ih =>
    intro i hd0
    have h1 := ih (i + 1) (by omega)
    obtain ⟨a1, a2⟩ := hpow i (by omega)
    obtain ⟨a3, a4⟩ := hpow (i + 1) (by omega)
    obtain ⟨b1, b2⟩ := hsv i (by omega)
    obtain ⟨b3, b4⟩ := hsv (i + 1) (by omega)
    have gi : i < l.length := by omega
    have hb : isD (l.getD i 0) := by
      rw [List.getD_eq_getElem?_getD, List.getElem?_eq_getElem gi]
      exact hd _ (List.getElem_mem gi)
    unfold isD at hb
    have e1 : sv 0 (l.take (i + 1)) = sv 0 (l.take i) * 10 + (((l.getD i 0).toNat : Int) - 48) := by
      rw [List.take_succ_eq_append_getElem gi, sv_append, List.getD_eq_getElem?_getD, List.getElem?_eq_getElem gi]; rfl
    have e2 : ∀ _ : Unit, wrap64 ((i : Int) + 1) = ((i + 1 : Nat) : Int) := fun _ => by rw [w64 (by omega) (by omega)]; omega
    have e3 : IntKind.u64.wrap (IntKind.u64.wrap (sv 0 (l.take i) * 10) + ((((l.getD i 0).toNat : Int) - 48) % 256)) = sv 0 (l.take (i + 1)) := by
      rw [u64_id (x := sv 0 (l.take i) * 10) (by omega) (by omega), e1]
      have e4 : (((l.getD i 0).toNat : Int) - 48) % 256 = ((l.getD i 0).toNat : Int) - 48 := by omega
      rw [e4, u64_id (by omega) (by omega)]
    have e5 : IntKind.u64.wrap ((10 : Int) ^ i * 10) = 10 ^ (i + 1) := by
      rw [Int.pow_succ] at a3
      rw [Int.pow_succ, u64_id (by omega) (by omega)]
    refine Ev.step (f := fun k => nat_FromDecimal.l1 k (BA l) out (n : Int) (sv 0 (l.take (i + 1))) (10 ^ (i + 1)) (n : Int) ((i + 1 : Nat) : Int)) (fun k => ?_) h1
    simp only [nat_FromDecimal.l1]
    rw [if_pos (by omega), if_pos (by omega), if_pos (by rw [BA_size]; omega), bt_BA, e3, e5, e2 ()]
theorem from_l0 : ∀ (m : Nat) (l : List UInt8) (out : List Int), l.length ≤ m → m ≤ 1048576 → (∀ b, b ∈ l → isD b) → Lim 4294967296 out → Nrm out → out.length + 3 * l.length ≤ 16777216 →
    ∃ q, Lim 4294967296 q ∧ Nrm q ∧ val 4294967296 q = val 4294967296 out * 10 ^ l.length + sv 0 l ∧ q.length ≤ out.length + 3 * l.length ∧ Ev (fun k => nat_FromDecimal.l0 k (BA l) out) q := by
  intro m
  induction m with
  | zero =>
    intro l out h0 _ _ ho no _
    have e : l = [] := List.length_eq_zero_iff.1 (by omega)
    subst e
    refine ⟨out, ho, no, by simp [sv], by simp, Ev.step (f := fun _ => some out) (fun k => ?_) (Ev.now _)⟩
    simp only [nat_FromDecimal.l0]
    rw [if_neg (by decide)]
  | succ m ih =>
    intro l out h0 hm hd ho no hL
    by_cases c : l = []
    · subst c
      refine ⟨out, ho, no, by simp [sv], by simp, Ev.step (f := fun _ => some out) (fun k => ?_) (Ev.now _)⟩
      simp only [nat_FromDecimal.l0]
      rw [if_neg (by decide)]
    · have hl0 : l.length ≠ 0 := fun h' => c (List.length_eq_zero_iff.1 h')
      obtain ⟨n, hn⟩ : ∃ n, n = (l.length - 1) % 9 + 1 := ⟨_, rfl⟩
      have n1 : 1 ≤ n := by omega
      have n2 : n ≤ 9 := by omega
      have n3 : n ≤ l.length := by omega
      have e1 : wrap64 (Int.tmod (wrap64 ((l.length : Int) - 1)) 9 + 1) = (n : Int) := by
        have a1 : wrap64 ((l.length : Int) - 1) = (l.length : Int) - 1 := w64 (by omega) (by omega)
        have a2 : Int.tmod ((l.length : Int) - 1) 9 = ((l.length : Int) - 1) % 9 := Int.tmod_eq_emod_of_nonneg (by omega)
        rw [a1, a2, w64 (by omega) (by omega)]
        omega
      obtain ⟨q, q1, q2, q3, q4, q5⟩ := from_l1 l hd (by omega) n n2 n3 out ho no (by omega)
      have hdl : (l.drop n).length = l.length - n := List.length_drop
      obtain ⟨s, s1, s2, s3, s4, s5⟩ := ih (l.drop n) q (by omega) (by omega) (fun b hb => hd b (List.mem_of_mem_drop hb)) q1 q2 (by omega)
      refine ⟨s, s1, s2, ?_, by omega, ?_⟩
      · rw [s3, q3, hdl]
        have e2 : sv 0 l = sv 0 (l.take n) * 10 ^ (l.length - n) + sv 0 (l.drop n) := by
          have e3 : sv 0 l = sv 0 (l.take n ++ l.drop n) := by rw [List.take_append_drop]
          rw [e3, sv_append, sv_from, hdl]
        have e4 : (10 : Int) ^ l.length = 10 ^ n * 10 ^ (l.length - n) := by rw [← Int.pow_add]; congr 1; omega
        rw [e2, e4]
        generalize (10 : Int) ^ n = a
        generalize (10 : Int) ^ (l.length - n) = b
        clear q5 s5 ih
        grind
      · refine Ev.step (f := fun k => nat_FromDecimal.l1 k (BA l) out (n : Int) (sv 0 (l.take 0)) (10 ^ 0) (n : Int) ((0 : Nat) : Int)) (fun k => ?_) (q5 s s5 n 0 (by omega))
        simp only [nat_FromDecimal.l0]
        rw [BA_size, if_pos (by omega), e1]
        rfl
theorem FromDecimal_ev (l : List UInt8) (hd : ∀ b, b ∈ l → isD b) (hl : l.length ≤ 1048576) :
    ∃ q, Lim 4294967296 q ∧ Nrm q ∧ val 4294967296 q = sv 0 l ∧ q.length ≤ 3 * l.length ∧ Ev (fun k => nat_FromDecimal.f k (BA l)) q := by
  obtain ⟨q, q1, q2, q3, q4, q5⟩ := from_l0 l.length l [] (Nat.le_refl _) hl hd (lim_nil _) nrm_nil (by simp; omega)
  exact ⟨q, q1, q2, by rw [q3]; simp [val], by simpa using q4, q5⟩
theorem rmul_step {o x y c : Int} (o0 : 0 ≤ o) (o1 : o < 65536) (x0 : 0 ≤ x) (x1 : x < 65536) (y0 : 0 ≤ y) (y1 : y < 65536) (c0 : 0 ≤ c) (c1 : c < 65536) :
    ∃ t q : Int, Int.tmod (wrap64 (wrap64 (o + wrap64 (x * y)) + c)) 65536 = t ∧ wrap64 (Int.tdiv (wrap64 (wrap64 (o + wrap64 (x * y)) + c)) 65536) = q ∧ 0 ≤ t ∧ t < 65536 ∧ 0 ≤ q ∧ q < 65536 ∧ t = o + x * y + c - 65536 * q := by
  have h1 : 0 ≤ x * y := Int.mul_nonneg x0 y0
  have h2 : x * y ≤ x * 65535 := Int.mul_le_mul_of_nonneg_left (by omega) x0
  generalize x * y = p at *
  have e1 : wrap64 p = p := w64 (by omega) (by omega)
  have e2 : wrap64 (o + p) = o + p := w64 (by omega) (by omega)
  have e3 : wrap64 (o + p + c) = o + p + c := w64 (by omega) (by omega)
  rw [e1, e2, e3, Int.tmod_eq_emod_of_nonneg (by omega), Int.tdiv_eq_ediv_of_nonneg (by omega), w64 (by omega) (by omega)]
  exact ⟨_, _, rfl, rfl, by omega, by omega, by omega, by omega, by omega⟩
theorem rmul_inner (a b : List Int) (ha : Lim 65536 a) (hb : Lim 65536 b) (L i : Nat) (hia : i < a.length) (hL : L ≤ 549755813888) (hi : i + b.length < L) :
    ∀ (d j : Nat) (out : List Int) (c : Int), d + j = b.length → out.length = L → Lim 65536 out → 0 ≤ c → c < 65536 → out.getD (i + b.length) 0 = 0 →
    ∃ r, r.length = L ∧ Lim 65536 r ∧ val 65536 r = val 65536 out + 65536 ^ (i + j) * (c + a.getD i 0 * val 65536 (b.drop j)) ∧ (∀ p, i + b.length < p → r.getD p 0 = out.getD p 0) ∧
      ∀ (R : List Int), Ev (fun k => rf_MulNat.l0 k a b r (a.length : Int) ((i + 1 : Nat) : Int)) R → Ev (fun k => rf_MulNat.l1 k a b out (i : Int) c (j : Int) (a.length : Int) (i : Int)) R := by
  have hB : (0 : Int) < 65536 := by decide
  have hai := ha.getD hB i
  have gi0 : (0 : Int) ≤ (i : Int) := by omega
  have gi1 : (i : Int) < (a.length : Int) := by omega
  have gi2 : ∀ _ : Unit, wrap64 ((i : Int) + 1) = ((i + 1 : Nat) : Int) := fun _ => by rw [w64 (by omega) (by omega)]; omega
  intro d
  induction d with
  | zero =>
    intro j out c hd hl ho hc0 hc hz
    have hj : j = b.length := by omega
    subst hj
    have gv : ∀ _ : Unit, wrap64 ((i : Int) + (b.length : Int)) = ((i + b.length : Nat) : Int) := fun _ => by rw [w64 (by omega) (by omega)]; omega
    have g3 : (0 : Int) ≤ ((i + b.length : Nat) : Int) := by omega
    have g4 : ((i + b.length : Nat) : Int) < (out.length : Int) := by omega
    have g5 : i + b.length < out.length := by omega
    by_cases cz : c = 0
    · subst cz
      refine ⟨out, hl, ho, by rw [List.drop_length]; simp [val], fun p hp => rfl, fun R hR => ?_⟩
      refine Ev.step (f := fun k => rf_MulNat.l0 k a b out (a.length : Int) ((i + 1 : Nat) : Int)) (fun k => ?_) hR
      simp only [rf_MulNat.l1]
      rw [if_neg (by omega), if_neg (by omega), gi2 ()]
    · have gb : b.getD b.length 0 = 0 := by rw [List.getD_eq_getElem?_getD, List.getElem?_eq_none (Nat.le_refl _)]; rfl
      obtain ⟨t, q, ht, hq, q1, q2, q3, q4, q5⟩ := rmul_step (o := 0) (x := a.getD i 0) (y := 0) (c := c) (by decide) (by decide) hai.1 hai.2 (by decide) (by decide) hc0 hc
      rw [Int.mul_zero] at q5
      have eq0 : q = 0 := by omega
      have et : t = c := by omega
      have gw : ∀ _ : Unit, wrap64 ((b.length : Int) + 1) = ((b.length + 1 : Nat) : Int) := fun _ => by rw [w64 (by omega) (by omega)]; omega
      refine ⟨out.set (i + b.length) c, by rw [List.length_set, hl], ho.set _ ⟨hc0, hc⟩, ?_, ?_, fun R hR => ?_⟩
      · rw [val_set _ _ _ _ g5, hz, List.drop_length]
        simp [val]
      · intro p hp
        rw [List.getD_eq_getElem?_getD, List.getD_eq_getElem?_getD, List.getElem?_set_ne (by omega)]
      · refine Ev.step (f := fun k => rf_MulNat.l1 k a b (out.set (i + b.length) c) (i : Int) 0 ((b.length + 1 : Nat) : Int) (a.length : Int) (i : Int)) (fun k => ?_) (Ev.step (f := fun k => rf_MulNat.l0 k a b (out.set (i + b.length) c) (a.length : Int) ((i + 1 : Nat) : Int)) (fun k => ?_) hR)
        · simp only [rf_MulNat.l1]
          rw [if_neg (by omega), if_pos (by omega), gv (), if_pos g3, if_pos g4, if_pos gi0, if_pos gi1, rdigit, Option.bind_some, gb, rd_getD out, hz, rd_getD a, ht, hq, gw (), et, eq0, Int.toNat_natCast]
        · simp only [rf_MulNat.l1]
          rw [if_neg (by omega), if_neg (by decide), gi2 ()]
  | succ d ih =>
    intro j out c hd hl ho hc0 hc hz
    have g0 : d + (j + 1) = b.length := by omega
    have g1 : (j : Int) < (b.length : Int) := by omega
    have gj : j < b.length := by omega
    have g3 : i + j < out.length := by omega
    have g4 : ((i + j : Nat) : Int) < (out.length : Int) := by omega
    have g5 : (0 : Int) ≤ ((i + j : Nat) : Int) := by omega
    have g6 : i + j ≠ i + b.length := by omega
    have gw : ∀ _ : Unit, wrap64 ((j : Int) + 1) = ((j + 1 : Nat) : Int) := fun _ => by rw [w64 (by omega) (by omega)]; omega
    have gv : ∀ _ : Unit, wrap64 ((i : Int) + (j : Int)) = ((i + j : Nat) : Int) := fun _ => by rw [w64 (by omega) (by omega)]; omega
    have hb1 := hb.getD hB j
    have ho1 := ho.getD hB (i + j)
    obtain ⟨t, q, ht, hq, q1, q2, q3, q4, q5⟩ := rmul_step ho1.1 ho1.2 hai.1 hai.2 hb1.1 hb1.2 hc0 hc
    obtain ⟨r, r1, r2, r3, r4, r5⟩ := ih (j + 1) (out.set (i + j) t) q g0 (by rw [List.length_set, hl]) (ho.set _ ⟨q1, q2⟩) q3 q4 (by
      rw [List.getD_eq_getElem?_getD, List.getElem?_set_ne g6, ← List.getD_eq_getElem?_getD, hz])
    refine ⟨r, r1, r2, ?_, ?_, fun R hR => ?_⟩
    · rw [r3, val_set _ _ _ _ g3, val_drop _ b j gj, q5, ← Nat.add_assoc, Int.pow_succ]
      generalize val 65536 (b.drop (j + 1)) = v
      generalize (65536 : Int) ^ (i + j) = p
      clear q5 ht hq r3 r5 r4
      grind
    · intro p hp
      rw [r4 p hp, List.getD_eq_getElem?_getD, List.getD_eq_getElem?_getD, List.getElem?_set_ne (by omega)]
    · refine Ev.step (f := fun k => rf_MulNat.l1 k a b (out.set (i + j) t) (i : Int) q ((j + 1 : Nat) : Int) (a.length : Int) (i : Int)) (fun k => ?_) (r5 R hR)
      simp only [rf_MulNat.l1]
      rw [if_pos g1, gv (), if_pos g5, if_pos g4, if_pos gi0, if_pos gi1, rdigit, Option.bind_some, rd_getD out, rd_getD a, ht, hq, gw (), Int.toNat_natCast]
theorem rmul_outer (a b : List Int) (ha : Lim 65536 a) (hb : Lim 65536 b) (hL : a.length + b.length + 1 ≤ 549755813888) :
    ∀ (d i : Nat) (out : List Int), d + i = a.length → out.length = a.length + b.length + 1 → Lim 65536 out → (∀ p, i + b.length ≤ p → out.getD p 0 = 0) →
    ∃ r, Ev (fun k => rf_MulNat.l0 k a b out (a.length : Int) (i : Int)) (trim r) ∧ r.length = a.length + b.length + 1 ∧ Lim 65536 r ∧ val 65536 r = val 65536 out + 65536 ^ i * (val 65536 (a.drop i) * val 65536 b) := by
  have hB : (0 : Int) < 65536 := by decide
  intro d
  induction d with
  | zero =>
    intro i out hd hl ho hz
    have hi : i = a.length := by omega
    subst hi
    refine ⟨out, Ev.step (f := fun k => (rf_trim.f k out).bind fun t => some t) (fun k => ?_) (Ev.bind (f := fun _ t => some t) (rtrim_ev out (by omega)) (Ev.now _)), hl, ho, ?_⟩
    · simp only [rf_MulNat.l0]; rw [if_neg (by omega)]
    · rw [List.drop_length]; simp [val]
  | succ d ih =>
    intro i out hd hl ho hz
    have g1 : (i : Int) < (a.length : Int) := by omega
    have gi : i < a.length := by omega
    obtain ⟨r, r1, r2, r3, r4, r5⟩ := rmul_inner a b ha hb (a.length + b.length + 1) i gi hL (by omega) b.length 0 out 0 (by omega) hl ho (by decide) (by decide) (hz _ (Nat.le_refl _))
    obtain ⟨s, s1, s2, s3, s4⟩ := ih (i + 1) r (by omega) r1 r2 (by
      intro p hp
      rw [r4 p (by omega)]
      exact hz p (by omega))
    refine ⟨s, Ev.step (f := fun k => rf_MulNat.l1 k a b out (i : Int) 0 0 (a.length : Int) (i : Int)) (fun k => ?_) (r5 _ s1), s2, s3, ?_⟩
    · simp only [rf_MulNat.l0]
      rw [if_pos g1]
    · rw [s4, r3, val_drop _ a i gi, List.drop_zero, Nat.add_zero, Int.pow_succ]
      generalize val 65536 (a.drop (i + 1)) = v
      generalize val 65536 b = u
      generalize (65536 : Int) ^ i = p
      clear s4 r3 r5 r4 s1
      grind
theorem MulNat_ev (a b : List Int) (ha : Lim 65536 a) (hb : Lim 65536 b) (hL : a.length + b.length + 1 ≤ 1099511627) :
    ∃ r, Ev (fun k => rf_MulNat.f k a b) r ∧ Lim 65536 r ∧ Nrm r ∧ val 65536 r = val 65536 a * val 65536 b ∧ r.length ≤ a.length + b.length + 1 := by
  have e1 : wrap64 ((a.length : Int) + (b.length : Int)) = ((a.length + b.length : Nat) : Int) := by rw [w64 (by omega) (by omega)]; omega
  have e2 : wrap64 (((a.length + b.length : Nat) : Int) + 1) = ((a.length + b.length + 1 : Nat) : Int) := by rw [w64 (by omega) (by omega)]; omega
  obtain ⟨r, h1, h2, h3, h4⟩ := rmul_outer a b ha hb (by omega) a.length 0 (List.replicate (a.length + b.length + 1) 0) (by omega) (by simp) (lim_replicate (by decide) _) (fun p _ => by
    rw [List.getD_eq_getElem?_getD]
    rcases Nat.lt_or_ge p (a.length + b.length + 1) with h | h
    · rw [List.getElem?_replicate_of_lt h]; rfl
    · rw [List.getElem?_eq_none (by simpa using h)]; rfl)
  refine ⟨trim r, Ev.congr (fun k => ?_) h1, lim_trim h3, nrm_trim _, by rw [val_trim, h4, val_replicate, List.drop_zero]; simp, by rw [← h2]; exact length_trim r⟩
  unfold rf_MulNat.f
  rw [e1, e2, if_pos (by omega), if_pos (by omega), Int.toNat_natCast]
  rfl
end Go.Proofs.YtemnjgkicndmjaaDoor.Q
namespace Go.Proofs.YtemnjgkicndmjaaDoor.Q
open Go.RowKit Go.Proofs.YtemnjgkicndmjaaDoorW.PrintWords Go.Proofs.YtemnjgkicndmjaaDoorW.PrintLast Go.Proofs.YtemnjgkicndmjaaDoorW.PrintMore
attribute [local go_sem] max2_int min2_int max_two min_two max_three min_three max_four min_four
set_option linter.unusedVariables false
set_option linter.unusedSimpArgs false
def rf_natOf.l0 : Nat → List Int → List Int → Int → Int → Option (List Int)
 | 0, _, _, _, _ => none
 | k + 1, x3, x6, x7, x8 => if x8 < x7 then (if 0 ≤ x8 then (if x8 < (x6.length : Int) then ((some (([wrap64 (Go.bits .and .u32 (rd x6 x8) 65535), wrap64 ((rd x6 x8) / 65536)] : List Int) : List Int)).bind fun y527 => (if x3.length + y527.length < 17592186044416 then (rf_natOf.l0 k (x3 ++ y527) x6 x7 (wrap64 (x8 + 1))) else (none))) else (none)) else (none)) else ((rf_trim.f k x3).bind fun t533 => (some t533))
def rf_natOf.f (k : Nat) (l0 : List Int) : Option (List Int) := rf_natOf.l0 k ([] : List Int) l0 (l0.length : Int) 0
theorem rf_natOf.mono_l : ∀ k, (∀ y0 y1 y2 y3, LeO (rf_natOf.l0 k y0 y1 y2 y3) (rf_natOf.l0 (k + 1) y0 y1 y2 y3))
 | 0 => fun _ _ _ _ r h => by simp [rf_natOf.l0] at h
 | k + 1 => by
  have ih0 := rf_natOf.mono_l k
  ·intro y0 y1 y2 y3
   unfold rf_natOf.l0
   have m0 := ih0
   have m1 := @rf_trim.mono
   exact zm
theorem rf_natOf.mono : ∀ a0 k, LeO (rf_natOf.f k a0) (rf_natOf.f (k + 1) a0) := by
 intro a0 k
 have ih0 := rf_natOf.mono_l k
 unfold rf_natOf.f
 have m0 := ih0
 have m1 := @rf_trim.mono
 exact zm
set_option maxHeartbeats 8000000 in
set_option maxRecDepth 100000 in
theorem rf_natOf.calls (k : Nat) (A0 : Option Addr) (c0 : Nat) (l0 : List Int) (r : List Int) (w : World) (hr0 : Kd.C (Kd.int .u32) w A0 l0.length l0) (hc0 : l0.length ≤ c0) (h : rf_natOf.f k l0 = some r) :
  Calls Tryd.prog 45 #[.slice A0 l0.length c0] w fun e w' => ∃ v0_ : Value, e = .returned (v0_) ∧ Kd.V (Kd.int .i64) 3 w' w.heap.size (fun k_ => (w.heap.size ≤ k_)) v0_ r ∧ Below w.heap.size w w' := by
 have HR0 := am hr0
 have HC0 := am hc0
 clear hr0 hc0
 have HB := am (Below.refl w.heap.size w)
 have H := h
 unfold rf_natOf.f at H
 clear h
 have H' := am H
 clear H
 go_enter Tryd.func45, Tryd.ntmps45
 go_wp2
 go_loopg [3, 8] k (fun kq v3 v8 w' => ∃ (x3_1 : List Int) (x8_1 : Int), v8 = .int .i64 x8_1 ∧ Aside0 (rf_natOf.l0 kq x3_1 l0 (l0.length : Int) x8_1 = some r) ∧ Aside0 (kq ≤ k) ∧ Aside0 (Kd.R (Kd.int .i64) 3 w' w.heap.size (fun k_ => (w.heap.size ≤ k_)) v3 x3_1) ∧ Aside0 (Below w.heap.size w w'))
 case atStart => exact ⟨(([] : List Int)), (0), zq8, H', ⟨Nat.le_refl _⟩, ⟨by first | exact Kd.R_nil _ _ _ _ _ | exact Kd.N_nil _ _ _ _ _ | exact Kd.V_nil _ _ _ _ _ | exact Kd.Q_nil _ _ _ _ _ | exact Kd.S_nil _ _ _ _ _⟩, ⟨zq1⟩⟩
 case round =>
  clear H'
  obtain ⟨x3_1, x8_1, rfl, HA, HK1, HO_3, HB⟩ := hrel
  cases gk with
  | zero => exact absurd HA.out (by simp [rf_natOf.l0])
  | succ k1 =>
   have H := HA.out
   clear HA
   simp only [rf_natOf.l0] at H
   by_cases c2 : x8_1 < (l0.length : Int)
   ·rw [if_pos c2] at H
    have c2b0 := decide_eq_true c2
    clear c2
    replace H := zn H
    obtain ⟨c3, H⟩ := H
    have c3b0 := decide_eq_true c3
    clear c3
    replace H := zn H
    obtain ⟨c4, H⟩ := H
    have c4b0 := decide_eq_true c4
    clear c4
    obtain ⟨y527, hy527⟩ : ∃ y_ : List Int, y_ = (([wrap64 (Go.bits .and .u32 (rd l0 x8_1) 65535), wrap64 ((rd l0 x8_1) / 65536)] : List Int)) := ⟨_, rfl⟩
    try rw [← hy527] at H
    have Ny527 := am hy527
    clear hy527
    replace H := zn H
    obtain ⟨c5, H⟩ := H
    have LMc5 := am c5
    clear c5
    obtain ⟨y530, hy530⟩ : ∃ y_ : List Int, y_ = (x3_1 ++ y527) := ⟨_, rfl⟩
    try rw [← hy530] at H
    have Ny530 := am hy530
    clear hy530
    have H' := am H
    clear H
    have p526 : 0 ≤ (x8_1 : Int) := zq6
    have q526 : x8_1 < (l0.length : Int) := zq6
    obtain ⟨ad526, e526, hx526_0⟩ := Kd.at_int HR0.out x8_1 p526 q526
    cases e526
    replace hx526_0 := (HB.out.cell (World.block_lt_of_cell? w _ hx526_0)).trans hx526_0
    replace p526 := eq_true p526
    replace q526 := eq_true q526
    go_wp2_with (first | ((with_reducible refine gate_dst (N := 19) rfl ?_); refine Kd.R_lit (Kd.int .i64) _ 3 ?hg (N := 19) ?hd (xs := ([wrap64 (Go.bits .and .u32 (rd l0 x8_1) 65535), wrap64 ((rd l0 x8_1) / 65536)] : List Int)) (inner := [.int .i64 (wrap64 (Go.bits .and .u32 (rd l0 x8_1) 65535)), .int .i64 (wrap64 ((rd l0 x8_1) / 65536))]) (ok := fun _ => True) (okp := fun _ => True) ?hr ?hp (fun _ hk => hk) trivial (Below.refl _ _) (Nat.le_refl _) (by simp) ?_; (case hd => rfl); (case hg => rfl); (case hr => exact zr); (case hp => exact (Reps.one (show Kd.M (Kd.int .i64) _ _ _ (wrap64 (Go.bits .and .u32 (rd l0 x8_1) 65535)) [.int .i64 (wrap64 (Go.bits .and .u32 (rd l0 x8_1) 65535))] from rfl) (Reps.one (show Kd.M (Kd.int .i64) _ _ _ (wrap64 ((rd l0 x8_1) / 65536)) [.int .i64 (wrap64 ((rd l0 x8_1) / 65536))] from rfl) (Reps.none _ _)))); intro v528 w6 ho7 hb hg_ hnew_; clear hg_ hnew_; (first | rw [← Ny527.out] at ho7 | (simp only [Int.reduceToNat] at ho7; rw [← Ny527.out] at ho7)); refine zt3 (Kd.R_elder' (zq4 HO_3.out) (Kd.R_base ho7) hb) (Kd.R_lower (Kd.R_new' (Kd.R_newM (M := fun k_ => (w.heap.size ≤ k_)) ho7 (below_size zq1) (fun k_ h_ => h_)) (Kd.R_lt (zq4 HO_3.out))) (below_size zq1)) (below_step zq1 hb) ?_; clear HO_3 HB; intro HO_3 HO529 HB; clear hb ho7; obtain ⟨Ao9, co9, eo9⟩ := Kd.R_slice HO529.out; subst eo9) | ((with_reducible refine gate_builtin (b := .append) (xs := #[.tmp 12, .tmp 19]) rfl ?_); at_builtin; refine Kd.R_append_rows (Kd.int .i64) (w0 := w) w.heap.size rfl (.tmp 12) (.tmp 19) 39 3 (.int .i64 0) 8 rfl Tryd.underlying39 info3 rfl (by decide) (by omega) u3 x3_1 y527 _ _ _ (fun k_ => (w.heap.size ≤ k_) ∧ some k_ ≠ (.slice Ao9 y527.length co9 : Value).ownBlock) (fun _ => False) rfl rfl ?aO ?aR (fun _ _ h => h) (fun _ h => h.elim) ?aF ?aB ?aS ?aL ?_; (case aR => repeat (first | exact (Kd.R_reads' HO529.out).2.2 | (with_reducible refine Kd.C_alloc ?_ _) | (with_reducible refine Kd.C_drewN ?_ _) | (with_reducible refine Kd.C_drew ?_))); (case aB => exact zq1); (case aF => exact (fun k_ hk => ⟨(Nat.le_trans (below_size zq1) hk), Kd.fresh' (Kd.R_lt (zq4 HO529.out)) k_ hk⟩)); (case aO => exact (zq4 HO_3.out)); (case aS => exact (below_size zq1)); (case aL => have := LMc5.out; omega); intro v531 w8 ho hb hg hat; rw [← Ny530.out] at ho; refine zt3 (Kd.R_after (ok := (fun k_ => (w.heap.size ≤ k_))) (by (with_reducible repeat (first | apply Kd.R_alloc | apply Kd.R_drewN | apply Kd.R_drew)); exact Kd.R_mono HO529.out (fun _ hk => ⟨hk.1.1, hk.2⟩)) hg hat) (hb) (ho) ?_; clear HO529 HB HO_3; intro HO529 HB HO532; clear ho hb hg hat))
    go_roundg k1
    case measure => have := HK1.out; omega
    case rel => exact ⟨(y530), (wrap64 (x8_1 + 1)), zq8, H', ⟨by have := HK1.out; omega⟩, ⟨by (with_reducible repeat (first | apply Kd.R_alloc | apply Kd.R_drewN | apply Kd.R_drew)); exact Kd.R_mono HO532.out (fun _ hk => hk.1)⟩, ⟨zq1⟩⟩
   ·rw [if_neg c2] at H
    have c2b0 := decide_eq_false c2
    clear c2
    replace H := zj H
    obtain ⟨t533, A10, H⟩ := H
    obtain rfl := Option.some.inj H
    obtain ⟨Ao11, co11, eo11⟩ := Kd.R_slice HO_3.out
    subst eo11
    go_wp2_with (first | ((with_reducible refine gate_callee (f := 96) rfl ?_); refine goesL_ (some 23) rfl rfl Tryd.func96 (by kernel_rfl) rfl #[.slice Ao11 x3_1.length co11] rfl zq5 ?_; (with_reducible refine (rf_trim.calls k1 (fun k_ => some k_ = (.slice Ao11 x3_1.length co11 : Value).ownBlock) _ _ x3_1 t533 _ ?side1 A10.out).mono ?_); (case side1 => exact Kd.R_V (Kd.R_tight rfl (HO_3.out))); rintro e w12 ⟨v534, rfl, ho0, hb⟩; refine ⟨_, rfl, ?_⟩; refine zt3 (Kd.R_below (zq4 HO_3.out) hb) (Kd.V_lower (Kd.V_mono (ok' := fun k_ => (w.heap.size ≤ k_)) ho0 (fun k_ hk_ => Or.elim hk_ (fun hs_ => ((HO_3.out).1 k_ hs_.symm)) (fun hn_ => (Nat.le_trans (below_size zq1) hn_)))) (below_size zq1)) (below_step zq1 hb) ?_; clear HO_3 HB; intro HO_3 HO535 HB))
    go_ret
    exact ⟨_, zq9, zq3 HO535.out, zq1⟩
end Go.Proofs.YtemnjgkicndmjaaDoor.Q
namespace Go.Proofs.YtemnjgkicndmjaaDoor.Q
open Go.RowKit Go.Proofs.YtemnjgkicndmjaaDoorW.PrintWords Go.Proofs.YtemnjgkicndmjaaDoorW.PrintLast Go.Proofs.YtemnjgkicndmjaaDoorW.PrintMore
set_option linter.unusedVariables false
theorem rbit0 {l : List Int} (h : Lim 65536 l) : rf_bit.f l 0 = some (val 65536 l % 2) := by
  unfold rf_bit.f
  have e : wrap64 (Int.tdiv 0 16) = ((0 : Nat) : Int) := by decide +kernel
  have hx := h.getD (by decide) 0
  rw [e, rdigit, Option.bind_some, if_pos (by decide)]
  have e2 : shr .i64 (l.getD 0 0) (Int.tmod 0 16) = l.getD 0 0 := by
    unfold shr
    rw [show min (Int.tmod 0 16).toNat (IntKind.i64).bits = 0 by decide, Int.pow_zero, Int.ediv_one]
  rw [e2, i64_and1 hx.1 (by omega)]
  cases l with
  | nil => rfl
  | cons x xs => simp [val]; omega
theorem natOf_loop (xs : List Int) (hx : Lim 4294967296 xs) (hL : xs.length ≤ 137438953472) : ∀ (d i : Nat) (out : List Int), d + i = xs.length → out.length = 2 * i → Lim 65536 out → val 65536 out = val 4294967296 (xs.take i) →
    ∃ r, Ev (fun k => rf_natOf.l0 k out xs (xs.length : Int) (i : Int)) (trim r) ∧ r.length = 2 * xs.length ∧ Lim 65536 r ∧ val 65536 r = val 4294967296 xs := by
  have hB : (0 : Int) < 4294967296 := by decide
  intro d
  induction d with
  | zero =>
    intro i out hd hl ho hv
    refine ⟨out, Ev.step (f := fun k => (rf_trim.f k out).bind fun t => some t) (fun k => ?_) (Ev.bind (f := fun _ t => some t) (rtrim_ev out (by omega)) (Ev.now _)), by omega, ho, by rw [hv, List.take_of_length_le (by omega)]⟩
    simp only [rf_natOf.l0]
    rw [if_neg (by omega)]
  | succ d ih =>
    intro i out hd hl ho hv
    have g1 : (i : Int) < (xs.length : Int) := by omega
    have g2 : (0 : Int) ≤ (i : Int) := by omega
    have g3 : i < xs.length := by omega
    have g4 : ∀ z : List Int, z.length = 2 → out.length + z.length < 17592186044416 := fun z hz => by omega
    have g5 : d + (i + 1) = xs.length := by omega
    have g7 : ∀ _ : Unit, wrap64 ((i : Int) + 1) = ((i + 1 : Nat) : Int) := fun _ => by rw [w64 (by omega) (by omega)]; omega
    have hxi := hx.rd hB (i : Int)
    have hxg : rd xs (i : Int) = xs.getD i 0 := rd_getD xs i
    generalize rd xs (i : Int) = x at hxi hxg
    have e1 : wrap64 (Go.bits .and .u32 x 65535) = x % 65536 := by
      rw [u32_and _ _ hxi.1 hxi.2 (by omega) (by omega), show (65535 : Int).toNat = 2 ^ 16 - 1 from rfl, Nat.and_two_pow_sub_one_eq_mod, w64 (by omega) (by omega)]
      omega
    have e2 : wrap64 (x / 65536) = x / 65536 := w64 (by omega) (by omega)
    obtain ⟨r, hev, h⟩ := ih (i + 1) (out ++ [x % 65536, x / 65536]) g5 (by rw [List.length_append, hl]; simp; omega) (by
        have h1 := lim_nrm_snoc ho (x := x % 65536) ⟨by omega, by omega⟩
        have h2 := lim_nrm_snoc h1 (x := x / 65536) ⟨by omega, by omega⟩
        rw [List.append_assoc] at h2; exact h2) (by
        rw [val_append, hv, val_take_succ _ _ _ g3, ← hxg, hl, Int.pow_mul, show (65536 : Int) ^ 2 = 4294967296 from rfl]
        have h3 : val 65536 [x % 65536, x / 65536] = x := by simp [val]; omega
        rw [h3])
    refine ⟨r, Ev.step (f := fun k => rf_natOf.l0 k (out ++ [x % 65536, x / 65536]) xs (xs.length : Int) ((i + 1 : Nat) : Int)) (fun k => ?_) hev, h⟩
    simp only [rf_natOf.l0]
    rw [if_pos g1, if_pos g2, if_pos g1, rd_getD, ← hxg, e1, e2, Option.bind_some, if_pos (g4 _ rfl), g7 ()]
theorem natOf_ev (xs : List Int) (hx : Lim 4294967296 xs) (hL : xs.length ≤ 137438953472) :
    ∃ r, Ev (fun k => rf_natOf.f k xs) r ∧ Lim 65536 r ∧ Nrm r ∧ val 65536 r = val 4294967296 xs ∧ r.length ≤ 2 * xs.length := by
  obtain ⟨r, h1, h2, h3, h4⟩ := natOf_loop xs hx hL xs.length 0 [] (by omega) (by simp) (lim_nil _) (by simp [val])
  exact ⟨trim r, h1, lim_trim h3, nrm_trim _, by rw [val_trim, h4], by rw [← h2]; exact length_trim r⟩
theorem rcmp_loop (xs ys : List Int) (hx : Lim 65536 xs) (hy : Lim 65536 ys) (hLx : xs.length ≤ 1099511627776) (hLy : ys.length ≤ 1099511627776) : ∀ i : Nat, i ≤ 1099511627776 → val 65536 (xs.drop i) = val 65536 (ys.drop i) →
    Ev (fun k => rf_CmpNat.l0 k xs ys ((i : Int) - 1)) (cmpI (val 65536 xs) (val 65536 ys)) := by
  have hB : (0 : Int) < 65536 := by decide
  have hsp : ∀ (zs : List Int) (i : Nat), val 65536 zs = val 65536 (zs.take i) + 65536 ^ i * val 65536 (zs.drop i) := by
    intro zs i
    by_cases h : i ≤ zs.length
    · exact val_split _ zs i h
    · rw [List.take_of_length_le (by omega), List.drop_of_length_le (by omega)]; simp [val]
  have hdr : ∀ (zs : List Int) (i : Nat), val 65536 (zs.drop i) = zs.getD i 0 + 65536 * val 65536 (zs.drop (i + 1)) := by
    intro zs i
    by_cases h : i < zs.length
    · exact val_drop _ zs i h
    · rw [List.drop_of_length_le (by omega), List.drop_of_length_le (by omega), List.getD_eq_getElem?_getD, List.getElem?_eq_none (by omega)]; simp [val]
  have htk : ∀ (zs : List Int) (i : Nat), Lim 65536 zs → 0 ≤ val 65536 (zs.take i) ∧ val 65536 (zs.take i) < 65536 ^ i := by
    intro zs i hz
    refine ⟨val_nonneg hB (hz.take i), ?_⟩
    have h1 := val_lt hB (hz.take i)
    have h2 := pow_mono' hB (show (zs.take i).length ≤ i by rw [List.length_take]; omega)
    omega
  intro i
  induction i with
  | zero =>
    intro _ h
    rw [List.drop_zero, List.drop_zero] at h
    refine Ev.step (f := fun _ => some 0) (fun k => ?_) (Ev.eq (Ev.now _) ?_)
    · simp only [rf_CmpNat.l0]; rw [if_neg (by omega)]
    · rw [h]; unfold cmpI; rw [if_neg (by omega), if_neg (by omega)]
  | succ i ih =>
    intro hi h
    have e1 : (((i + 1 : Nat) : Int) - 1) = (i : Int) := by omega
    have e2 : ∀ _ : Unit, wrap64 ((i : Int) - 1) = (i : Int) - 1 := fun _ => w64 (by omega) (by omega)
    have g1 : (i : Int) ≥ 0 := by omega
    have hxi := hx.getD hB i
    have hyi := hy.getD hB i
    have dx := hdr xs i
    have dy := hdr ys i
    have sx := hsp xs i
    have sy := hsp ys i
    have tx := htk xs i hx
    have ty := htk ys i hy
    rw [h] at dx
    have hp : (0 : Int) < 65536 ^ i := Int.pow_pos (by decide)
    have key : ∀ a b : Int, a < b → ∀ s t : Int, 0 ≤ s → s < 65536 ^ i → 0 ≤ t → t < 65536 ^ i → s + 65536 ^ i * a < t + 65536 ^ i * b := by
      intro a b hab s t hs0 hs ht0 ht
      have : 65536 ^ i * (a + 1) ≤ 65536 ^ i * b := Int.mul_le_mul_of_nonneg_left (by omega) (by omega)
      rw [Int.mul_add, Int.mul_one] at this
      omega
    by_cases c1 : xs.getD i 0 < ys.getD i 0
    · refine Ev.step (f := fun _ => some (-1)) (fun k => ?_) (Ev.eq (Ev.now _) ?_)
      · simp only [rf_CmpNat.l0]
        rw [e1, if_pos g1, rdigit, rdigit, Option.bind_some, Option.bind_some, if_pos c1]
      · have := key (val 65536 (xs.drop i)) (val 65536 (ys.drop i)) (by omega) _ _ tx.1 tx.2 ty.1 ty.2
        unfold cmpI; rw [if_pos (by omega)]
    · by_cases c2 : xs.getD i 0 > ys.getD i 0
      · refine Ev.step (f := fun _ => some 1) (fun k => ?_) (Ev.eq (Ev.now _) ?_)
        · simp only [rf_CmpNat.l0]
          rw [e1, if_pos g1, rdigit, rdigit, Option.bind_some, Option.bind_some, if_neg c1, if_pos c2]
        · have := key (val 65536 (ys.drop i)) (val 65536 (xs.drop i)) (by omega) _ _ ty.1 ty.2 tx.1 tx.2
          unfold cmpI; rw [if_neg (by omega), if_pos (by omega)]
      · refine Ev.step (f := fun k => rf_CmpNat.l0 k xs ys ((i : Int) - 1)) (fun k => ?_) (ih (by omega) (by omega))
        simp only [rf_CmpNat.l0]
        rw [e1, if_pos g1, rdigit, rdigit, Option.bind_some, Option.bind_some, if_neg c1, if_neg c2, e2 ()]
theorem CmpNat_ev (xs ys : List Int) (hx : Lim 65536 xs) (hy : Lim 65536 ys) (hLx : xs.length ≤ 1099511627776) (hLy : ys.length ≤ 1099511627776) : Ev (fun k => rf_CmpNat.f k xs ys) (cmpI (val 65536 xs) (val 65536 ys)) := by
  have h := rcmp_loop xs ys hx hy hLx hLy (max xs.length ys.length) (by omega) (by rw [List.drop_of_length_le (by omega), List.drop_of_length_le (by omega)])
  refine Ev.congr (fun k => ?_) h
  unfold rf_CmpNat.f mx
  congr 1
  by_cases c : xs.length < ys.length
  · rw [if_pos (by omega), w64 (by omega) (by omega), Nat.max_eq_right (by omega)]
  · rw [if_neg (by omega), w64 (by omega) (by omega), Nat.max_eq_left (by omega)]
theorem rsub_loop (xs ys : List Int) (hx : Lim 65536 xs) (hy : Lim 65536 ys) (hge : val 65536 ys ≤ val 65536 xs) (hL : xs.length ≤ 1099511627776) : ∀ (d i : Nat) (out : List Int) (b : Int), d + i = xs.length → out.length = i → Lim 65536 out → 0 ≤ b → b ≤ 1 →
    val 65536 out - 65536 ^ i * b = val 65536 (xs.take i) - val 65536 (ys.take i) →
    ∃ r, Ev (fun k => rf_SubNat.l0 k xs ys out b (xs.length : Int) (i : Int)) (trim r) ∧ r.length = xs.length ∧ Lim 65536 r ∧ val 65536 r = val 65536 xs - val 65536 ys := by
  have hB : (0 : Int) < 65536 := by decide
  intro d
  induction d with
  | zero =>
    intro i out b hd hl ho hb0 hb hv
    refine ⟨out, Ev.step (f := fun k => (rf_trim.f k out).bind fun t => some t) (fun k => ?_) (Ev.bind (f := fun _ t => some t) (rtrim_ev out (by omega)) (Ev.now _)), by omega, ho, ?_⟩
    · simp only [rf_SubNat.l0]
      rw [if_neg (by omega)]
    · have h1 := val_lt hB hx
      have h2 := val_split' 65536 ys i
      have h3 := val_nonneg hB (hy.take i)
      have h4 := val_nonneg hB (hy.drop i)
      have h5 := val_lt hB ho
      have h6 := val_nonneg hB ho
      rw [List.take_of_length_le (by omega)] at hv
      rw [show xs.length = i by omega] at h1
      rw [hl] at h5
      have hp : (0 : Int) < 65536 ^ i := Int.pow_pos (by decide)
      generalize val 65536 (ys.drop i) = z at *
      have hz : z = 0 := by
        rcases Int.lt_or_le 0 z with h | h
        · have : 65536 ^ i * 1 ≤ 65536 ^ i * z := Int.mul_le_mul_of_nonneg_left (by omega) (by omega)
          omega
        · omega
      have hb1 : b = 0 := by
        rcases Int.lt_or_le 0 b with h | h
        · have e : b = 1 := by omega
          rw [e, Int.mul_one] at hv
          rw [hz, Int.mul_zero] at h2
          omega
        · omega
      rw [hb1, Int.mul_zero] at hv
      rw [hz, Int.mul_zero] at h2
      omega
  | succ d ih =>
    intro i out b hd hl ho hb0 hb hv
    have g1 : (i : Int) < (xs.length : Int) := by omega
    have g2 : (0 : Int) ≤ (i : Int) := by omega
    have g4 : out.length < 17592186044416 := by omega
    have g5 : d + (i + 1) = xs.length := by omega
    have g7 : ∀ _ : Unit, wrap64 ((i : Int) + 1) = ((i + 1 : Nat) : Int) := fun _ => by rw [w64 (by omega) (by omega)]; omega
    have hxi := hx.getD hB i
    have hyi := hy.getD hB i
    have tx := val_take_succ' 65536 xs i
    have ty := val_take_succ' 65536 ys i
    have hrd : rd xs (i : Int) = xs.getD i 0 := rd_getD xs i
    have hdg : rf_digit.f ys (i : Int) = some (ys.getD i 0) := rdigit ys i
    generalize xs.getD i 0 = x at *
    generalize ys.getD i 0 = y at *
    have e1 : ∀ _ : Unit, wrap64 (wrap64 (x - y) - b) = x - y - b := fun _ => by rw [w64 (x := x - y) (by omega) (by omega), w64 (by omega) (by omega)]
    have e2 : ∀ _ : Unit, wrap64 (x - y - b + 65536) = x - y - b + 65536 := fun _ => w64 (by omega) (by omega)
    by_cases c : x - y - b < 0
    · obtain ⟨r, hev, h⟩ := ih (i + 1) (out ++ [x - y - b + 65536]) 1 g5 (by rw [List.length_append, List.length_singleton, hl]) (lim_nrm_snoc ho ⟨by omega, by omega⟩) (by decide) (by decide) (by
        rw [val_snoc, hl, tx, ty, Int.pow_succ]
        grind)
      refine ⟨r, Ev.step (f := fun k => rf_SubNat.l0 k xs ys (out ++ [x - y - b + 65536]) 1 (xs.length : Int) ((i + 1 : Nat) : Int)) (fun k => ?_) hev, h⟩
      simp only [rf_SubNat.l0]
      rw [if_pos g1, if_pos g2, if_pos g1, hdg, Option.bind_some, hrd, e1 (), if_pos c, if_pos g4, e2 (), g7 ()]
    · obtain ⟨r, hev, h⟩ := ih (i + 1) (out ++ [x - y - b]) 0 g5 (by rw [List.length_append, List.length_singleton, hl]) (lim_nrm_snoc ho ⟨by omega, by omega⟩) (by decide) (by decide) (by
        rw [val_snoc, hl, tx, ty, Int.pow_succ]
        grind)
      refine ⟨r, Ev.step (f := fun k => rf_SubNat.l0 k xs ys (out ++ [x - y - b]) 0 (xs.length : Int) ((i + 1 : Nat) : Int)) (fun k => ?_) hev, h⟩
      simp only [rf_SubNat.l0]
      rw [if_pos g1, if_pos g2, if_pos g1, hdg, Option.bind_some, hrd, e1 (), if_neg c, if_pos g4, g7 ()]
theorem SubNat_ev (xs ys : List Int) (hx : Lim 65536 xs) (hy : Lim 65536 ys) (hge : val 65536 ys ≤ val 65536 xs) (hL : xs.length ≤ 1099511627776) :
    ∃ r, Ev (fun k => rf_SubNat.f k xs ys) r ∧ Lim 65536 r ∧ Nrm r ∧ val 65536 r = val 65536 xs - val 65536 ys ∧ r.length ≤ xs.length := by
  obtain ⟨r, h1, h2, h3, h4⟩ := rsub_loop xs ys hx hy hge hL xs.length 0 [] 0 (by omega) rfl (lim_nil _) (by decide) (by decide) (by simp [val])
  exact ⟨trim r, h1, lim_trim h3, nrm_trim _, by rw [val_trim, h4], by rw [← h2]; exact length_trim r⟩
theorem rhalf_loop (xs : List Int) (hx : Lim 65536 xs) (hL : xs.length ≤ 1099511627776) : ∀ (d i : Nat) (out : List Int), d + i = xs.length → out.length = xs.length → Lim 65536 out →
    val 65536 (out.take i) + 65536 ^ i * (val 65536 (xs.drop i) / 2) = val 65536 xs / 2 →
    ∃ r, Ev (fun k => rf_half.l0 k xs out (xs.length : Int) (i : Int)) (trim r) ∧ r.length = xs.length ∧ Lim 65536 r ∧ val 65536 r = val 65536 xs / 2 := by
  have hB : (0 : Int) < 65536 := by decide
  intro d
  induction d with
  | zero =>
    intro i out hd hl ho hv
    refine ⟨out, Ev.step (f := fun k => (rf_trim.f k out).bind fun t => some t) (fun k => ?_) (Ev.bind (f := fun _ t => some t) (rtrim_ev out (by omega)) (Ev.now _)), by omega, ho, ?_⟩
    · simp only [rf_half.l0]
      rw [if_neg (by omega)]
    · rw [List.take_of_length_le (by omega), List.drop_of_length_le (by omega)] at hv
      simp only [val, Int.zero_ediv, Int.mul_zero, Int.add_zero] at hv
      exact hv
  | succ d ih =>
    intro i out hd hl ho hv
    have g1 : (i : Int) < (xs.length : Int) := by omega
    have g2 : (0 : Int) ≤ (i : Int) := by omega
    have g3 : (i : Int) < (out.length : Int) := by omega
    have g4 : i < out.length := by omega
    have g5 : d + (i + 1) = xs.length := by omega
    have g7 : ∀ _ : Unit, wrap64 ((i : Int) + 1) = ((i + 1 : Nat) : Int) := fun _ => by rw [w64 (by omega) (by omega)]; omega
    have hxi := hx.getD hB i
    have hyi := hx.getD hB (i + 1)
    have d0 := val_drop' 65536 xs i
    have d1 := val_drop' 65536 xs (i + 1)
    have hrd : rd xs (i : Int) = xs.getD i 0 := rd_getD xs i
    have hsd := shr_digit (P := 2) (P' := 32768) (B := 65536) (D0 := xs.getD i 0) (D1 := xs.getD (i + 1) 0) (t := val 65536 (xs.drop (i + 1 + 1))) (by decide) (by decide) (by decide) hxi.1 hxi.2
    rw [← d1, ← d0] at hsd
    have hdg : xs.getD i 0 / 2 + xs.getD (i + 1) 0 % 2 * 32768 = ((xs.getD i 0 + 65536 * xs.getD (i + 1) 0) / 2) % 65536 := by
      generalize xs.getD i 0 = x at *
      generalize xs.getD (i + 1) 0 = y at *
      clear d0 d1 hsd hrd hv
      omega
    have hor : Go.bits .or .i64 (xs.getD i 0 / 2) (wrap64 (Go.bits .and .i64 (xs.getD (i + 1) 0) 1 * 32768)) = xs.getD i 0 / 2 + xs.getD (i + 1) 0 % 2 * 32768 := by
      generalize xs.getD i 0 = x at *
      generalize xs.getD (i + 1) 0 = y at *
      clear d0 d1 hsd hrd hv hdg
      rw [i64_and1 hyi.1 (by omega), w64 (by omega) (by omega), i64_or _ _ (by omega) (by omega) (by omega) (by omega), Nat.or_comm, nat_join 15]
      · omega
      · omega
      · omega
    have hlim : 0 ≤ xs.getD i 0 / 2 + xs.getD (i + 1) 0 % 2 * 32768 ∧ xs.getD i 0 / 2 + xs.getD (i + 1) 0 % 2 * 32768 < 65536 := by
      generalize xs.getD i 0 = x at *
      generalize xs.getD (i + 1) 0 = y at *
      clear d0 d1 hsd hrd hv hdg hor
      omega
    obtain ⟨r, hev, h⟩ := ih (i + 1) (out.set i (xs.getD i 0 / 2 + xs.getD (i + 1) 0 % 2 * 32768)) g5 (by rw [List.length_set, hl]) (ho.set _ hlim) (by
      rw [take_set_succ g4, val_snoc, List.length_take, Nat.min_eq_left (Nat.le_of_lt g4), hdg, ← hv, ← hsd, Int.pow_succ]
      grind)
    refine ⟨r, Ev.step (f := fun k => rf_half.l0 k xs (out.set i (xs.getD i 0 / 2 + xs.getD (i + 1) 0 % 2 * 32768)) (xs.length : Int) ((i + 1 : Nat) : Int)) (fun k => ?_) hev, h⟩
    simp only [rf_half.l0]
    rw [if_pos g1, if_pos g2, if_pos g1, g7 (), rdigit, Option.bind_some, if_pos g3, hrd, hor, Int.toNat_natCast]
theorem half_ev (xs : List Int) (hx : Lim 65536 xs) (hL : xs.length ≤ 1099511627776) :
    ∃ r, Ev (fun k => rf_half.f k xs) r ∧ Lim 65536 r ∧ Nrm r ∧ val 65536 r = val 65536 xs / 2 ∧ r.length ≤ xs.length := by
  obtain ⟨r, h1, h2, h3, h4⟩ := rhalf_loop xs hx hL xs.length 0 (List.replicate xs.length 0) (by omega) (by simp) (lim_replicate (by decide) _) (by simp [val])
  refine ⟨trim r, Ev.congr (fun k => ?_) h1, lim_trim h3, nrm_trim _, by rw [val_trim, h4], by rw [← h2]; exact length_trim r⟩
  unfold rf_half.f
  rw [if_pos (by omega), if_pos (by omega), Int.toNat_natCast]
  rfl
theorem rshl_loop (xs : List Int) (w b : Nat) (hx : Lim 65536 xs) (hb : b < 16) (hL : xs.length + w ≤ 549755813888) : ∀ (d i : Nat) (out : List Int) (c : Int), d + i = xs.length → out.length = w + i → Lim 65536 out → 0 ≤ c → c < 2 ^ b →
    val 65536 out + 65536 ^ (w + i) * c = 65536 ^ w * 2 ^ b * val 65536 (xs.take i) →
    ∃ r, Ev (fun k => rf_ShlNat.l0 k ((16 * w + b : Nat) : Int) out c xs (xs.length : Int) (i : Int)) (trim r) ∧ r.length = xs.length + w + 1 ∧ Lim 65536 r ∧ val 65536 r = 65536 ^ w * 2 ^ b * val 65536 xs := by
  have hB : (0 : Int) < 65536 := by decide
  have hp : (2 : Int) ^ b ≤ 32768 := by
    have := pow_mono' (B := 2) (by decide) (show b ≤ 15 by omega)
    exact this
  have hp0 : (0 : Int) < 2 ^ b := Int.pow_pos (by decide)
  have e1 : ∀ _ : Unit, Int.tmod ((16 * w + b : Nat) : Int) 16 = b := fun _ => by rw [Int.tmod_eq_emod_of_nonneg (by omega)]; omega
  intro d
  induction d with
  | zero =>
    intro i out c hd hl ho hc0 hc hv
    have hl2 : Lim 65536 (out ++ [c]) := lim_nrm_snoc ho ⟨hc0, by omega⟩
    refine ⟨out ++ [c], Ev.step (f := fun k => (rf_trim.f k (out ++ [c])).bind fun t => some t) (fun k => ?_) (Ev.bind (f := fun _ t => some t) (rtrim_ev (out ++ [c]) (by rw [List.length_append, List.length_singleton]; omega)) (Ev.now _)), by rw [List.length_append, List.length_singleton]; omega, hl2, ?_⟩
    · have g4 : out.length < 17592186044416 := by omega
      simp only [rf_ShlNat.l0]
      rw [if_neg (by omega), if_pos g4]
    · rw [val_snoc, hl, hv, List.take_of_length_le (by omega)]
  | succ d ih =>
    intro i out c hd hl ho hc0 hc hv
    have g1 : (i : Int) < (xs.length : Int) := by omega
    have g2 : (0 : Int) ≤ (i : Int) := by omega
    have g4 : out.length < 17592186044416 := by omega
    have g5 : d + (i + 1) = xs.length := by omega
    have g7 : ∀ _ : Unit, wrap64 ((i : Int) + 1) = ((i + 1 : Nat) : Int) := fun _ => by rw [w64 (by omega) (by omega)]; omega
    have g8 : (0 : Int) ≤ (b : Int) := by omega
    have hxi := hx.getD hB i
    have tx := val_take_succ' 65536 xs i
    have hrd : rd xs (i : Int) = xs.getD i 0 := rd_getD xs i
    generalize xs.getD i 0 = x at *
    have hx2 : 0 ≤ x * 2 ^ b := Int.mul_nonneg hxi.1 (by omega)
    have hx3 : x * 2 ^ b ≤ 65535 * 2 ^ b := Int.mul_le_mul_of_nonneg_right (by omega) (by omega)
    have hsh : shl .i64 x (b : Int) = x * 2 ^ b := by
      unfold shl
      rw [Int.toNat_natCast, Nat.min_eq_left (by simp [IntKind.bits]; omega), i64w _ hx2 (by omega)]
    have hor : Go.bits .or .i64 (x * 2 ^ b) c = x * 2 ^ b + c := by
      rw [i64_or _ _ hx2 (by omega) hc0 (by omega), nat_join b]
      · omega
      · have : (((x * 2 ^ b).toNat % 2 ^ b : Nat) : Int) = 0 := by
          rw [Int.natCast_emod, Int.toNat_of_nonneg hx2, Int.natCast_pow]
          exact Int.mul_emod_left _ _
        omega
      · have : ((c.toNat : Nat) : Int) < ((2 ^ b : Nat) : Int) := by
          rw [Int.toNat_of_nonneg hc0, Int.natCast_pow]; exact hc
        omega
    have hq : (x * 2 ^ b + c) / 65536 < 2 ^ b := Int.ediv_lt_of_lt_mul (by decide) (by omega)
    generalize hz : x * 2 ^ b + c = z at *
    have hz0 : 0 ≤ z := by omega
    have e3 : Int.tmod z 65536 = z % 65536 := Int.tmod_eq_emod_of_nonneg hz0
    have e4 : ∀ _ : Unit, wrap64 (Int.tdiv z 65536) = z / 65536 := fun _ => by rw [Int.tdiv_eq_ediv_of_nonneg hz0, w64 (by omega) (by omega)]
    have hz1 : 0 ≤ z / 65536 := by omega
    have hz2 : 0 ≤ z % 65536 ∧ z % 65536 < 65536 := by omega
    have hdm := Int.mul_ediv_add_emod z 65536
    generalize hzq : z / 65536 = q at *
    generalize hzr : z % 65536 = y at *
    obtain ⟨r, hev, h⟩ := ih (i + 1) (out ++ [y]) q g5 (by rw [List.length_append, List.length_singleton, hl, Nat.add_assoc]) (lim_nrm_snoc ho hz2) hz1 hq (by
      rw [val_snoc, hl, tx, ← Nat.add_assoc, Int.pow_succ]
      have e5 : (65536 : Int) ^ (w + i) = 65536 ^ w * 65536 ^ i := Int.pow_add _ _ _
      rw [e5] at hv ⊢
      clear hx3 hx2 hp hp0 hq hz0 hz1 hz2 hor hsh hrd
      grind)
    refine ⟨r, Ev.step (f := fun k => rf_ShlNat.l0 k ((16 * w + b : Nat) : Int) (out ++ [y]) q xs (xs.length : Int) ((i + 1 : Nat) : Int)) (fun k => ?_) hev, h⟩
    simp only [rf_ShlNat.l0]
    rw [if_pos g1, if_pos g2, if_pos g1, e1 (), if_pos g8, if_pos g4, hrd, hsh, hor, e3, e4 (), g7 ()]
theorem ShlNat_ev (xs : List Int) (n : Nat) (hx : Lim 65536 xs) (hL : xs.length + n / 16 ≤ 549755813888) :
    ∃ r, Ev (fun k => rf_ShlNat.f k xs (n : Int)) r ∧ Lim 65536 r ∧ Nrm r ∧ val 65536 r = val 65536 xs * 2 ^ n ∧ r.length ≤ xs.length + n / 16 + 1 := by
  have hB : (0 : Int) < 65536 := by decide
  by_cases hn : xs = []
  · subst hn
    exact ⟨[], Ev.const (by rfl), lim_nil _, nrm_nil, by simp [val], by simp⟩
  · obtain ⟨r, h1, h2, h3, h4⟩ := rshl_loop xs (n / 16) (n % 16) hx (by omega) hL xs.length 0 (List.replicate (n / 16) 0) 0 (by omega) (by simp) (lim_replicate hB _) (by decide) (Int.pow_pos (by decide))
      (by rw [val_replicate, List.take_zero]; simp [val])
    refine ⟨trim r, ?_, lim_trim h3, nrm_trim _, ?_, Nat.le_trans (length_trim _) (by omega)⟩
    · refine Ev.congr (fun k => ?_) h1
      unfold rf_ShlNat.f
      have hne : ¬ (xs.length : Int) = 0 := fun h => hn (List.length_eq_zero_iff.1 (by omega))
      have b1 : (0 : Int) ≤ ((n / 16 : Nat) : Int) := by omega
      have b2 : n / 16 ≤ 35184372088832 := by omega
      have en : 16 * (n / 16) + n % 16 = n := by omega
      have e : wrap64 (Int.tdiv (n : Int) 16) = ((n / 16 : Nat) : Int) := by
        rw [Int.tdiv_eq_ediv_of_nonneg (by omega), w64 (by omega) (by omega)]; omega
      rw [if_neg hne, e, if_pos b1, Int.toNat_natCast, if_pos b2, en]
      rfl
    · rw [val_trim, h4, show (65536 : Int) = 2 ^ 16 from rfl, ← Int.pow_mul, ← Int.pow_add, show 16 * (n / 16) + n % 16 = n by omega, Int.mul_comm]
theorem gcd_odd_half {a b : Nat} (h : Nat.gcd (2 * a) b % 2 = 1) : Nat.gcd (2 * a) b = Nat.gcd a b := by
  refine Nat.dvd_antisymm ?_ ?_
  · refine Nat.dvd_gcd ?_ (Nat.gcd_dvd_right _ _)
    have hc : Nat.Coprime (Nat.gcd (2 * a) b) 2 := by
      rw [Nat.coprime_comm]
      unfold Nat.Coprime
      rw [Nat.gcd_rec, h]
      decide
    exact hc.dvd_of_dvd_mul_left (Nat.gcd_dvd_left (2 * a) b)
  · exact Nat.dvd_gcd (Nat.dvd_trans (Nat.gcd_dvd_left a b) ⟨2, Nat.mul_comm 2 a⟩) (Nat.gcd_dvd_right a b)
structure GS (g N : Nat) (A B : List Int) (a b : Nat) : Prop where
  la : Lim 65536 A
  lb : Lim 65536 B
  na : Nrm A
  nb : Nrm B
  va : val 65536 A = a
  vb : val 65536 B = b
  sa : A.length ≤ N
  sb : B.length ≤ N
  gg : Nat.gcd a b = g
theorem gcdnat_loops (g N s : Nat) (hg : g % 2 = 1) (hN : N ≤ 4294967296) (hs : s ≤ 16 * N) : ∀ (m a b : Nat) (A B : List Int), a + b ≤ m → 0 < b → GS g N A B a b →
    (∃ r, Ev (fun k => rf_GcdNat.l1 k A B (s : Int)) r ∧ Lim 65536 r ∧ Nrm r ∧ val 65536 r = (g : Int) * 2 ^ s) ∧
    (0 < a → ∃ r, Ev (fun k => rf_GcdNat.l2 k A B (s : Int)) r ∧ Lim 65536 r ∧ Nrm r ∧ val 65536 r = (g : Int) * 2 ^ s) ∧
    (a % 2 = 1 → ∃ r, Ev (fun k => rf_GcdNat.l3 k A B (s : Int)) r ∧ Lim 65536 r ∧ Nrm r ∧ val 65536 r = (g : Int) * 2 ^ s) := by
  have hB : (0 : Int) < 65536 := by decide
  intro m
  induction m with
  | zero => intro a b A B hm hb0; omega
  | succ m ih =>
    intro a b A B hm hb0 H
    have h3 : a % 2 = 1 → ∃ r, Ev (fun k => rf_GcdNat.l3 k A B (s : Int)) r ∧ Lim 65536 r ∧ Nrm r ∧ val 65536 r = (g : Int) * 2 ^ s := by
      intro ha
      by_cases c : b % 2 = 0
      · obtain ⟨r, r1, r2, r3, r4, r5⟩ := half_ev B H.lb (by have := H.sb; omega)
        have hb2 : b = 2 * (b / 2) := by omega
        have hr4 : val 65536 r = ((b / 2 : Nat) : Int) := by rw [r4, H.vb]; omega
        have hgg : Nat.gcd a (b / 2) = g := by
          have h5 := H.gg
          rw [hb2, Nat.gcd_comm] at h5
          rw [Nat.gcd_comm, ← gcd_odd_half (by rw [h5]; exact hg), h5]
        obtain ⟨z, hz⟩ := (ih a (b / 2) A r (by omega) (by omega) ⟨H.la, r2, H.na, r3, H.va, hr4, H.sa, Nat.le_trans r5 H.sb, hgg⟩).2.2 ha
        refine ⟨z, Ev.step (f := fun k => (rf_half.f k B).bind fun t589 => rf_GcdNat.l3 k A t589 (s : Int)) (fun k => ?_) (Ev.bind (f := fun k t589 => rf_GcdNat.l3 k A t589 (s : Int)) r1 hz.1), hz.2⟩
        simp only [rf_GcdNat.l3]
        rw [rbit0 H.lb, Option.bind_some, H.vb, if_pos (by omega)]
      · have hbit : ∀ k, rf_GcdNat.l3 (k + 1) A B (s : Int) = ((rf_CmpNat.f k A B).bind fun t592 => (if t592 < 0 then ((rf_SubNat.f k B A).bind fun t593 => (rf_GcdNat.l1 k t593 A (s : Int))) else ((rf_SubNat.f k A B).bind fun t596 => (rf_GcdNat.l1 k t596 B (s : Int))))) := by
          intro k
          simp only [rf_GcdNat.l3]
          rw [rbit0 H.lb, Option.bind_some, H.vb, if_neg (by omega)]
        have hcmp := CmpNat_ev A B H.la H.lb (by have := H.sa; omega) (by have := H.sb; omega)
        rw [H.va, H.vb] at hcmp
        by_cases c2 : a < b
        · obtain ⟨r, r1, r2, r3, r4, r5⟩ := SubNat_ev B A H.lb H.la (by rw [H.va, H.vb]; omega) (by have := H.sb; omega)
          have hr4 : val 65536 r = ((b - a : Nat) : Int) := by rw [r4, H.va, H.vb]; omega
          have hgg : Nat.gcd (b - a) a = g := by
            rw [← H.gg, Nat.gcd_comm a b]
            exact Nat.gcd_sub_self_left (by omega)
          obtain ⟨z, hz⟩ := (ih (b - a) a r A (by omega) (by omega) ⟨r2, H.la, r3, H.na, hr4, H.va, Nat.le_trans r5 H.sb, H.sa, hgg⟩).1
          refine ⟨z, Ev.step hbit (Ev.bind (f := fun k t592 => (if t592 < 0 then ((rf_SubNat.f k B A).bind fun t593 => (rf_GcdNat.l1 k t593 A (s : Int))) else ((rf_SubNat.f k A B).bind fun t596 => (rf_GcdNat.l1 k t596 B (s : Int))))) hcmp ?_), hz.2⟩
          have e : cmpI (a : Int) (b : Int) = -1 := by unfold cmpI; rw [if_pos (by omega)]
          rw [e]
          exact Ev.congr (fun k => by rw [if_pos (by decide)]) (Ev.bind (f := fun k t593 => rf_GcdNat.l1 k t593 A (s : Int)) r1 hz.1)
        · obtain ⟨r, r1, r2, r3, r4, r5⟩ := SubNat_ev A B H.la H.lb (by rw [H.va, H.vb]; omega) (by have := H.sa; omega)
          have hr4 : val 65536 r = ((a - b : Nat) : Int) := by rw [r4, H.va, H.vb]; omega
          have hgg : Nat.gcd (a - b) b = g := by
            rw [← H.gg]
            exact Nat.gcd_sub_self_left (by omega)
          obtain ⟨z, hz⟩ := (ih (a - b) b r B (by omega) (by omega) ⟨r2, H.lb, r3, H.nb, hr4, H.vb, Nat.le_trans r5 H.sa, H.sb, hgg⟩).1
          refine ⟨z, Ev.step hbit (Ev.bind (f := fun k t592 => (if t592 < 0 then ((rf_SubNat.f k B A).bind fun t593 => (rf_GcdNat.l1 k t593 A (s : Int))) else ((rf_SubNat.f k A B).bind fun t596 => (rf_GcdNat.l1 k t596 B (s : Int))))) hcmp ?_), hz.2⟩
          have e : ¬ cmpI (a : Int) (b : Int) < 0 := by unfold cmpI; rw [if_neg (by omega)]; split <;> decide
          exact Ev.congr (fun k => by rw [if_neg e]) (Ev.bind (f := fun k t596 => rf_GcdNat.l1 k t596 B (s : Int)) r1 hz.1)
    have h2 : 0 < a → ∃ r, Ev (fun k => rf_GcdNat.l2 k A B (s : Int)) r ∧ Lim 65536 r ∧ Nrm r ∧ val 65536 r = (g : Int) * 2 ^ s := by
      intro ha0
      by_cases c : a % 2 = 0
      · obtain ⟨r, r1, r2, r3, r4, r5⟩ := half_ev A H.la (by have := H.sa; omega)
        have ha2 : a = 2 * (a / 2) := by omega
        have hr4 : val 65536 r = ((a / 2 : Nat) : Int) := by rw [r4, H.va]; omega
        have hgg : Nat.gcd (a / 2) b = g := by
          have h5 := H.gg
          rw [ha2] at h5
          rw [← gcd_odd_half (by rw [h5]; exact hg), h5]
        obtain ⟨z, hz⟩ := (ih (a / 2) b r B (by omega) hb0 ⟨r2, H.lb, r3, H.nb, hr4, H.vb, Nat.le_trans r5 H.sa, H.sb, hgg⟩).2.1 (by omega)
        refine ⟨z, Ev.step (f := fun k => (rf_half.f k A).bind fun t585 => rf_GcdNat.l2 k t585 B (s : Int)) (fun k => ?_) (Ev.bind (f := fun k t585 => rf_GcdNat.l2 k t585 B (s : Int)) r1 hz.1), hz.2⟩
        simp only [rf_GcdNat.l2]
        rw [rbit0 H.la, Option.bind_some, H.va, if_pos (by omega)]
      · obtain ⟨z, hz⟩ := h3 (by omega)
        refine ⟨z, Ev.step (f := fun k => rf_GcdNat.l3 k A B (s : Int)) (fun k => ?_) hz.1, hz.2⟩
        simp only [rf_GcdNat.l2]
        rw [rbit0 H.la, Option.bind_some, H.va, if_neg (by omega)]
    refine ⟨?_, h2, h3⟩
    by_cases c : a = 0
    · have hA : A = [] := (val_eq_zero hB H.la H.na).1 (by rw [H.va]; omega)
      have hbg : b = g := by
        have := H.gg
        rw [c, Nat.gcd_zero_left] at this
        exact this
      obtain ⟨r, r1, r2, r3, r4, r5⟩ := ShlNat_ev B s H.lb (by have := H.sb; omega)
      refine ⟨r, Ev.step (f := fun k => (rf_ShlNat.f k B (s : Int)).bind fun t => some t) (fun k => ?_) (Ev.bind (f := fun _ t => some t) r1 (Ev.now _)), r2, r3, by rw [r4, H.vb, hbg]⟩
      simp only [rf_GcdNat.l1]
      rw [hA, if_neg (by decide)]
    · obtain ⟨z, hz⟩ := h2 (by omega)
      have hA : A ≠ [] := by
        rintro rfl
        have h9 := H.va
        simp only [val] at h9
        clear ih h2 h3 hz
        exact c (by omega)
      have hAl : A.length ≠ 0 := fun h => hA (List.length_eq_zero_iff.1 h)
      refine ⟨z, Ev.step (f := fun k => rf_GcdNat.l2 k A B (s : Int)) (fun k => ?_) hz.1, hz.2⟩
      simp only [rf_GcdNat.l1]
      rw [if_pos (by omega)]
theorem gcdnat_l0 (N : Nat) (hN : N ≤ 4294967296) (G : Nat) : ∀ (m a b s : Nat) (A B : List Int), a + b ≤ m → 0 < a → 0 < b → GS (Nat.gcd a b) N A B a b → Nat.gcd a b * 2 ^ s = G → a * 2 ^ s < 2 ^ (16 * N) →
    ∃ r, Ev (fun k => rf_GcdNat.l0 k A B (s : Int)) r ∧ Lim 65536 r ∧ Nrm r ∧ val 65536 r = (G : Int) := by
  intro m
  induction m with
  | zero => intro a b s A B hm ha0; omega
  | succ m ih =>
    intro a b s A B hm ha0 hb0 H hG hs
    have hsN : s < 16 * N := by
      have h1 : 1 * 2 ^ s ≤ a * 2 ^ s := Nat.mul_le_mul_right _ (by omega)
      rw [Nat.one_mul] at h1
      exact (Nat.pow_lt_pow_iff_right (by omega : 1 < 2)).1 (Nat.lt_of_le_of_lt h1 hs)
    have hfin : Nat.gcd a b % 2 = 1 → ∃ r, Ev (fun k => rf_GcdNat.j1 k A B (s : Int) false) r ∧ Lim 65536 r ∧ Nrm r ∧ val 65536 r = (G : Int) := by
      intro hodd
      obtain ⟨r, r1, r2, r3, r4⟩ := (gcdnat_loops (Nat.gcd a b) N s hodd hN (by omega) (a + b) a b A B (Nat.le_refl _) hb0 H).1
      refine ⟨r, Ev.step (f := fun k => rf_GcdNat.l1 k A B (s : Int)) (fun k => ?_) r1, r2, r3, ?_⟩
      · simp only [rf_GcdNat.j1]
        rw [if_neg (by decide)]
      · rw [r4, ← hG, Int.natCast_mul, Int.natCast_pow]; rfl
    have hg2 : (a % 2 = 0 → b % 2 = 0 → False) → Nat.gcd a b % 2 = 1 := by
      intro h
      have h1 : ¬ 2 ∣ Nat.gcd a b := by
        intro hd
        exact h (Nat.mod_eq_zero_of_dvd (Nat.dvd_trans hd (Nat.gcd_dvd_left a b))) (Nat.mod_eq_zero_of_dvd (Nat.dvd_trans hd (Nat.gcd_dvd_right a b)))
      omega
    by_cases c : a % 2 = 0
    · by_cases c2 : b % 2 = 0
      · obtain ⟨r, r1, r2, r3, r4, r5⟩ := half_ev A H.la (by have := H.sa; omega)
        obtain ⟨t, t1, t2, t3, t4, t5⟩ := half_ev B H.lb (by have := H.sb; omega)
        have ha2 : a = 2 * (a / 2) := by omega
        have hb2 : b = 2 * (b / 2) := by omega
        have hr4 : val 65536 r = ((a / 2 : Nat) : Int) := by rw [r4, H.va]; omega
        have ht4 : val 65536 t = ((b / 2 : Nat) : Int) := by rw [t4, H.vb]; omega
        have hgg : Nat.gcd a b = 2 * Nat.gcd (a / 2) (b / 2) := by
          rw [← Nat.gcd_mul_left, ← ha2, ← hb2]
        obtain ⟨z, hz⟩ := ih (a / 2) (b / 2) (s + 1) r t (by omega) (by omega) (by omega) ⟨r2, t2, r3, t3, hr4, ht4, Nat.le_trans r5 H.sa, Nat.le_trans t5 H.sb, rfl⟩ (by
          rw [← hG, hgg, Nat.pow_succ]
          grind) (by
          rw [Nat.pow_succ]
          have : a / 2 * (2 ^ s * 2) = a * 2 ^ s := by
            conv => rhs; rw [ha2]
            grind
          omega)
        refine ⟨z, Ev.step (f := fun k => rf_GcdNat.j1 k A B (s : Int) true) (fun k => ?_) (Ev.step (f := fun k => (rf_half.f k A).bind fun t575 => (rf_half.f k B).bind fun t578 => rf_GcdNat.l0 k t575 t578 (((s + 1 : Nat)) : Int)) (fun k => ?_) (Ev.bind (f := fun k t575 => (rf_half.f k B).bind fun t578 => rf_GcdNat.l0 k t575 t578 (((s + 1 : Nat)) : Int)) r1 (Ev.bind (f := fun k t578 => rf_GcdNat.l0 k r t578 (((s + 1 : Nat)) : Int)) t1 hz.1))), hz.2⟩
        · simp only [rf_GcdNat.l0]
          rw [rbit0 H.la, Option.bind_some, H.va, if_pos (by omega), rbit0 H.lb, Option.bind_some, H.vb]
          have : ((b : Int) % 2 == 0) = true := by rw [beq_iff_eq]; omega
          rw [this]
        · have e : wrap64 ((s : Int) + 1) = ((s + 1 : Nat) : Int) := by rw [w64 (by omega) (by omega)]; omega
          simp only [rf_GcdNat.j1]
          rw [if_pos trivial, e]
      · obtain ⟨z, hz⟩ := hfin (hg2 (fun _ h => c2 h))
        refine ⟨z, Ev.step (f := fun k => rf_GcdNat.j1 k A B (s : Int) false) (fun k => ?_) hz.1, hz.2⟩
        simp only [rf_GcdNat.l0]
        rw [rbit0 H.la, Option.bind_some, H.va, if_pos (by omega), rbit0 H.lb, Option.bind_some, H.vb]
        have : ((b : Int) % 2 == 0) = false := by rw [beq_eq_false_iff_ne]; omega
        rw [this]
    · obtain ⟨z, hz⟩ := hfin (hg2 (fun h _ => c h))
      refine ⟨z, Ev.step (f := fun k => rf_GcdNat.j1 k A B (s : Int) false) (fun k => ?_) hz.1, hz.2⟩
      simp only [rf_GcdNat.l0]
      rw [rbit0 H.la, Option.bind_some, H.va, if_neg (by omega)]
theorem GcdNat_ev (A B : List Int) (hA : Lim 65536 A) (hB : Lim 65536 B) (nA : Nrm A) (nB : Nrm B) (sA : A.length ≤ 4294967296) (sB : B.length ≤ 4294967296) :
    ∃ r, Ev (fun k => rf_GcdNat.f k A B) r ∧ Lim 65536 r ∧ Nrm r ∧ val 65536 r = (Nat.gcd (val 65536 A).toNat (val 65536 B).toNat : Nat) := by
  have h0 : (0 : Int) < 65536 := by decide
  have a0 := val_nonneg h0 hA
  have b0 := val_nonneg h0 hB
  by_cases c : A = []
  · subst c
    refine ⟨B, Ev.congr (fun k => ?_) (Ev.now _), hB, nB, ?_⟩
    · unfold rf_GcdNat.f; rw [if_pos (by rfl)]
    · simp only [val, Int.toNat_zero, Nat.gcd_zero_left]; omega
  · by_cases c2 : B = []
    · subst c2
      refine ⟨A, Ev.congr (fun k => ?_) (Ev.now _), hA, nA, ?_⟩
      · have hl : A.length ≠ 0 := fun h => c (List.length_eq_zero_iff.1 h)
        unfold rf_GcdNat.f; rw [if_neg (by omega), if_pos (by rfl)]
      · simp only [val, Int.toNat_zero, Nat.gcd_zero_right]; omega
    · have a1 := val_pos h0 hA nA c
      have b1 := val_pos h0 hB nB c2
      have alt := val_lt h0 hA
      have hlA : A.length ≠ 0 := fun h => c (List.length_eq_zero_iff.1 h)
      have hlB : B.length ≠ 0 := fun h => c2 (List.length_eq_zero_iff.1 h)
      obtain ⟨r, r1, r2⟩ := gcdnat_l0 (max A.length B.length) (by omega) (Nat.gcd (val 65536 A).toNat (val 65536 B).toNat) ((val 65536 A).toNat + (val 65536 B).toNat) (val 65536 A).toNat (val 65536 B).toNat 0 A B (Nat.le_refl _) (by omega) (by omega)
        ⟨hA, hB, nA, nB, by omega, by omega, by omega, by omega, rfl⟩ (by rw [Nat.pow_zero, Nat.mul_one]) (by
          have h1 : (65536 : Int) ^ A.length ≤ 65536 ^ max A.length B.length := pow_mono' h0 (by omega)
          rw [Nat.pow_zero, Nat.mul_one, Nat.pow_mul]
          have h2 : (((2 ^ 16) ^ max A.length B.length : Nat) : Int) = (65536 : Int) ^ max A.length B.length := by rw [Int.natCast_pow]; rfl
          omega)
      refine ⟨r, Ev.congr (fun k => ?_) r1, r2⟩
      unfold rf_GcdNat.f
      rw [if_neg (by omega), if_neg (by omega)]
      rfl
theorem radd_step (a b : List Int) (ha : Lim 65536 a) (hb : Lim 65536 b) (i : Nat) (hi : i ≤ 1099511627776) (out : List Int) (hl : out.length ≤ 1099511627777) (c : Int) (c0 : 0 ≤ c) (c1 : c ≤ 1) (R : List Int) (hc : i < a.length ∨ i < b.length ∨ 0 < c)
    (h : Ev (fun k => rf_AddNat.l0 k a b (out ++ [(a.getD i 0 + b.getD i 0 + c) % 65536]) ((a.getD i 0 + b.getD i 0 + c) / 65536) ((i + 1 : Nat) : Int)) R) : Ev (fun k => rf_AddNat.l0 k a b out c (i : Int)) R := by
  have hai := ha.getD (by decide) i
  have hbi := hb.getD (by decide) i
  have e1 : wrap64 (wrap64 (a.getD i 0 + b.getD i 0) + c) = a.getD i 0 + b.getD i 0 + c := by rw [w64 (x := a.getD i 0 + b.getD i 0) (by omega) (by omega), w64 (by omega) (by omega)]
  have e2 : Int.tmod (a.getD i 0 + b.getD i 0 + c) 65536 = (a.getD i 0 + b.getD i 0 + c) % 65536 := Int.tmod_eq_emod_of_nonneg (by omega)
  have e3 : wrap64 (Int.tdiv (a.getD i 0 + b.getD i 0 + c) 65536) = (a.getD i 0 + b.getD i 0 + c) / 65536 := by rw [Int.tdiv_eq_ediv_of_nonneg (by omega), w64 (by omega) (by omega)]
  have e4 : wrap64 ((i : Int) + 1) = ((i + 1 : Nat) : Int) := by rw [w64 (by omega) (by omega)]; omega
  have j1 : Ev (fun k => rf_AddNat.j1 k a b out c (i : Int) true) R := by
    refine Ev.step (f := fun k => rf_AddNat.l0 k a b (out ++ [(a.getD i 0 + b.getD i 0 + c) % 65536]) ((a.getD i 0 + b.getD i 0 + c) / 65536) ((i + 1 : Nat) : Int)) (fun k => ?_) h
    simp only [rf_AddNat.j1]
    rw [if_pos trivial, rdigit, rdigit, Option.bind_some, Option.bind_some, if_pos (by omega), e1, e2, e3, e4]
  refine Ev.step (f := fun k => rf_AddNat.j1 k a b out c (i : Int) true) (fun k => ?_) j1
  simp only [rf_AddNat.l0]
  by_cases h1 : (i : Int) < (a.length : Int)
  · rw [if_pos h1]
  · rw [if_neg h1]
    by_cases h2 : (i : Int) < (b.length : Int)
    · rw [if_pos h2]
    · rw [if_neg h2, decide_eq_true (show c > 0 by omega)]
theorem radd_end (a b : List Int) (i : Nat) (out : List Int) (hl : out.length ≤ 1099511627776) (hc : ¬ (i < a.length ∨ i < b.length)) : Ev (fun k => rf_AddNat.l0 k a b out 0 (i : Int)) (trim out) := by
  refine Ev.step (f := fun k => rf_AddNat.j1 k a b out 0 (i : Int) false) (fun k => ?_) (Ev.step (f := fun k => (rf_trim.f k out).bind fun t => some t) (fun k => ?_) (Ev.bind (f := fun _ t => some t) (rtrim_ev out hl) (Ev.now _)))
  · simp only [rf_AddNat.l0]
    rw [if_neg (by omega), if_neg (by omega)]; rfl
  · simp only [rf_AddNat.j1]
    rw [if_neg (by decide)]
theorem radd_loop (a b : List Int) (ha : Lim 65536 a) (hb : Lim 65536 b) (N : Nat) (hN : N ≤ 549755813888) (hab : max a.length b.length = N) : ∀ (d i : Nat) (out : List Int) (c : Int), d + i = N → out.length = i → Lim 65536 out → 0 ≤ c → c ≤ 1 →
    val 65536 out + 65536 ^ i * c = val 65536 (a.take i) + val 65536 (b.take i) →
    ∃ r, Ev (fun k => rf_AddNat.l0 k a b out c (i : Int)) (trim r) ∧ r.length ≤ N + 1 ∧ Lim 65536 r ∧ val 65536 r = val 65536 a + val 65536 b := by
  have hB : (0 : Int) < 65536 := by decide
  intro d
  induction d with
  | zero =>
    intro i out c hd hl ho c0 c1 hv
    have hi : i = N := by omega
    subst hi
    rw [List.take_of_length_le (by omega), List.take_of_length_le (by omega)] at hv
    by_cases hc : c = 0
    · subst hc
      refine ⟨out, radd_end a b i out (by omega) (by omega), by omega, ho, by simpa using hv⟩
    · have e : c = 1 := by omega
      subst e
      have ga : a.getD i 0 = 0 := by rw [List.getD_eq_getElem?_getD, List.getElem?_eq_none (by omega)]; rfl
      have gb : b.getD i 0 = 0 := by rw [List.getD_eq_getElem?_getD, List.getElem?_eq_none (by omega)]; rfl
      refine ⟨out ++ [1], radd_step a b ha hb i (by omega) out (by omega) 1 (by decide) (by decide) _ (by omega) ?_, by rw [List.length_append, List.length_singleton]; omega, lim_nrm_snoc ho ⟨by decide, by decide⟩, by rw [val_snoc, hl, hv]⟩
      rw [ga, gb]
      exact radd_end a b (i + 1) (out ++ [1]) (by rw [List.length_append, List.length_singleton]; omega) (by omega)
  | succ d ih =>
    intro i out c hd hl ho c0 c1 hv
    have hai := ha.getD hB i
    have hbi := hb.getD hB i
    obtain ⟨r, r1, r2⟩ := ih (i + 1) (out ++ [(a.getD i 0 + b.getD i 0 + c) % 65536]) ((a.getD i 0 + b.getD i 0 + c) / 65536) (by omega) (by rw [List.length_append, List.length_singleton, hl]) (lim_nrm_snoc ho ⟨by omega, by omega⟩) (by omega) (by omega) (by
      rw [val_snoc, val_take_succ', val_take_succ', hl, Int.pow_succ]
      have e : (a.getD i 0 + b.getD i 0 + c) % 65536 = a.getD i 0 + b.getD i 0 + c - 65536 * ((a.getD i 0 + b.getD i 0 + c) / 65536) := by omega
      rw [e]
      generalize (a.getD i 0 + b.getD i 0 + c) / 65536 = q
      generalize (65536 : Int) ^ i = p at *
      grind)
    exact ⟨r, radd_step a b ha hb i (by omega) out (by omega) c c0 c1 _ (by omega) r1, r2⟩
theorem AddNat_ev (a b : List Int) (ha : Lim 65536 a) (hb : Lim 65536 b) (hL : a.length ≤ 274877906944) (hM : b.length ≤ 274877906944) :
    ∃ r, Ev (fun k => rf_AddNat.f k a b) r ∧ Lim 65536 r ∧ Nrm r ∧ val 65536 r = val 65536 a + val 65536 b ∧ r.length ≤ max a.length b.length + 1 := by
  obtain ⟨r, h1, h2, h3, h4⟩ := radd_loop a b ha hb (max a.length b.length) (by omega) rfl (max a.length b.length) 0 [] 0 (by omega) rfl (lim_nil _) (by decide) (by decide) (by simp [val])
  exact ⟨trim r, h1, lim_trim h3, nrm_trim _, by rw [val_trim, h4], Nat.le_trans (length_trim r) h2⟩
theorem rlen_loop : ∀ (d : Nat) (x : Int) (n : Nat), 0 ≤ x → x < 2 ^ d → n + d ≤ 1099511627776 → ∃ L, L ≤ d ∧ x < 2 ^ L ∧ (0 < x → 0 < L ∧ 2 ^ (L - 1) ≤ x) ∧ Ev (fun k => rf_LenNat.l0 k (n : Int) x) ((n + L : Nat) : Int) := by
  intro d
  induction d with
  | zero =>
    intro x n h0 h1 _
    have e : x = 0 := by simp at h1; omega
    subst e
    refine ⟨0, Nat.le_refl _, by decide, fun h => absurd h (by decide), Ev.step (f := fun _ => some (n : Int)) (fun k => ?_) (Ev.now _)⟩
    simp only [rf_LenNat.l0]
    rw [if_neg (by decide)]
  | succ d ih =>
    intro x n h0 h1 hL
    by_cases e : x = 0
    · subst e
      refine ⟨0, by omega, by decide, fun h => absurd h (by decide), Ev.step (f := fun _ => some (n : Int)) (fun k => ?_) (Ev.now _)⟩
      simp only [rf_LenNat.l0]
      rw [if_neg (by decide)]
    · rw [Int.pow_succ] at h1
      obtain ⟨L, l1, l2, l3, l4⟩ := ih (x / 2) (n + 1) (by omega) (by omega) (by omega)
      have e2 : wrap64 ((n : Int) + 1) = ((n + 1 : Nat) : Int) := by rw [w64 (by omega) (by omega)]; omega
      refine ⟨L + 1, by omega, by rw [Int.pow_succ]; omega, fun h => ⟨by omega, ?_⟩, Ev.step (f := fun k => rf_LenNat.l0 k ((n + 1 : Nat) : Int) (x / 2)) (fun k => ?_) (Ev.eq l4 (by congr 1; omega))⟩
      · rw [Nat.add_sub_cancel]
        by_cases h2 : 0 < x / 2
        · obtain ⟨p1, p2⟩ := l3 h2
          have e3 : L = (L - 1) + 1 := by omega
          rw [e3, Int.pow_succ]; omega
        · have : x / 2 = 0 := by omega
          have hz : L = 0 := by
            rcases Nat.eq_zero_or_pos L with h3 | h3
            · exact h3
            · have h4 : x = 1 := by omega
              subst h4
              have h5 := Ev.unique l4 (r' := ((n + 1 : Nat) : Int)) (Ev.step (f := fun _ => some ((n + 1 : Nat) : Int)) (fun k => by simp only [rf_LenNat.l0]; rw [if_neg (by decide)]) (Ev.now _))
              omega
          rw [hz]; simp; omega
      · simp only [rf_LenNat.l0]
        rw [if_pos (by omega), e2]
theorem LenNat_ev (a : List Int) (ha : Lim 65536 a) (na : Nrm a) (hL : a.length ≤ 1073741824) : ∃ L : Nat, L ≤ 16 * a.length ∧ val 65536 a < 2 ^ L ∧ (0 < val 65536 a → 0 < L ∧ 2 ^ (L - 1) ≤ val 65536 a) ∧ Ev (fun k => rf_LenNat.f k a) (L : Int) := by
  by_cases h : a = []
  · subst h
    exact ⟨0, by simp, by decide, fun h => absurd h (by decide), Ev.ret fun k => by unfold rf_LenNat.f; rfl⟩
  · have hl0 : a.length ≠ 0 := fun h' => h (List.length_eq_zero_iff.1 h')
    have hx := ha.getD (by decide) (a.length - 1)
    have h0 : a.getD (a.length - 1) 0 ≠ 0 := by
      intro e
      rw [← List.dropLast_concat_getLast h] at na
      have h1 := nrm_snoc.1 na
      refine h1 ?_
      rw [← e, List.getLast_eq_getElem, List.getD_eq_getElem?_getD, List.getElem?_eq_getElem (by omega)]; rfl
    obtain ⟨L, l1, l2, l3, l4⟩ := rlen_loop 16 (a.getD (a.length - 1) 0) (16 * (a.length - 1)) hx.1 (by simpa using hx.2) (by omega)
    obtain ⟨p1, p2⟩ := l3 (by omega)
    have hv : val 65536 a = val 65536 (a.take (a.length - 1)) + 65536 ^ (a.length - 1) * a.getD (a.length - 1) 0 := by
      have h1 := val_take_succ 65536 a (a.length - 1) (by omega)
      rw [Nat.sub_add_cancel (by omega), List.take_of_length_le (Nat.le_refl _)] at h1
      exact h1
    have t0 := val_nonneg (B := 65536) (by decide) (ha.take (a.length - 1))
    have t1 := val_lt (B := 65536) (by decide) (ha.take (a.length - 1))
    rw [List.length_take, Nat.min_eq_left (by omega)] at t1
    have hp : (65536 : Int) ^ (a.length - 1) = 2 ^ (16 * (a.length - 1)) := by rw [Int.pow_mul]; rfl
    have pp : (0 : Int) < 65536 ^ (a.length - 1) := Int.pow_pos (by decide)
    have hup : val 65536 a < 2 ^ (16 * (a.length - 1) + L) := by
      rw [Int.pow_add, ← hp, hv]
      have : (65536 : Int) ^ (a.length - 1) * (a.getD (a.length - 1) 0 + 1) ≤ 65536 ^ (a.length - 1) * 2 ^ L := Int.mul_le_mul_of_nonneg_left (by omega) (by omega)
      rw [Int.mul_add, Int.mul_one] at this
      omega
    have hlo : 2 ^ (16 * (a.length - 1) + L - 1) ≤ val 65536 a := by
      have e : 16 * (a.length - 1) + L - 1 = 16 * (a.length - 1) + (L - 1) := by omega
      rw [e, Int.pow_add, ← hp, hv]
      have : (65536 : Int) ^ (a.length - 1) * 2 ^ (L - 1) ≤ 65536 ^ (a.length - 1) * a.getD (a.length - 1) 0 := Int.mul_le_mul_of_nonneg_left p2 (by omega)
      omega
    refine ⟨16 * (a.length - 1) + L, by omega, hup, fun _ => ⟨by omega, hlo⟩, Ev.congr (fun k => ?_) l4⟩
    have e1 : wrap64 ((a.length : Int) - 1) = ((a.length - 1 : Nat) : Int) := by rw [w64 (by omega) (by omega)]; omega
    have e2 : wrap64 (16 * ((a.length - 1 : Nat) : Int)) = ((16 * (a.length - 1) : Nat) : Int) := by rw [w64 (by omega) (by omega)]; omega
    unfold rf_LenNat.f
    rw [if_pos (by omega), e1, if_pos (by omega), if_pos (by omega), e2, rd_getD]
theorem rbit_ev {a : List Int} (ha : Lim 65536 a) (i : Nat) (hi : i ≤ 1099511627776) : rf_bit.f a (i : Int) = some (val 65536 a / 2 ^ i % 2) := by
  obtain ⟨w, hw⟩ : ∃ w, w = i / 16 := ⟨_, rfl⟩
  obtain ⟨b, hb⟩ : ∃ b, b = i % 16 := ⟨_, rfl⟩
  have hib : i = 16 * w + b := by omega
  have hx := ha.getD (by decide) w
  have e1 : wrap64 (Int.tdiv (i : Int) 16) = (w : Int) := by rw [Int.tdiv_eq_ediv_of_nonneg (by omega), w64 (by omega) (by omega)]; omega
  have e2 : Int.tmod (i : Int) 16 = (b : Int) := by rw [Int.tmod_eq_emod_of_nonneg (by omega)]; omega
  have e3 : shr .i64 (a.getD w 0) (b : Int) = a.getD w 0 / 2 ^ b := by
    unfold shr
    rw [show min (b : Int).toNat (IntKind.i64).bits = b by simp [IntKind.bits]; omega]
  have hq0 : 0 ≤ a.getD w 0 / 2 ^ b := Int.ediv_nonneg hx.1 (Int.le_of_lt (Int.pow_pos (by decide)))
  have hq1 : a.getD w 0 / 2 ^ b ≤ a.getD w 0 := Int.ediv_le_self _ hx.1
  unfold rf_bit.f
  rw [e1, rdigit, Option.bind_some, e2, if_pos (by omega), e3, i64_and1 hq0 (by omega)]
  congr 1
  have hs := val_split' 65536 a w
  have hd := val_drop' 65536 a w
  have t0 := val_nonneg (B := 65536) (by decide) (ha.take w)
  have t1 : val 65536 (a.take w) < 65536 ^ w := by
    have h1 := val_lt (B := 65536) (by decide) (ha.take w)
    have h2 := pow_mono' (B := 65536) (by decide) (show (a.take w).length ≤ w by rw [List.length_take]; omega)
    omega
  have hp : (2 : Int) ^ (16 * w) = 65536 ^ w := by rw [Int.pow_mul]; rfl
  have pp : (0 : Int) < 65536 ^ w := Int.pow_pos (by decide)
  have h3 : val 65536 a / 2 ^ i = val 65536 (a.drop w) / 2 ^ b := by
    rw [hib, Int.pow_add, hp, ← Int.ediv_ediv_of_nonneg (Int.le_of_lt pp), hs, Int.add_mul_ediv_left _ _ (by omega), Int.ediv_eq_zero_of_lt t0 t1, Int.zero_add]
  rw [h3, hd]
  have h4 : (65536 : Int) = 2 ^ b * (2 * 2 ^ (15 - b)) := by
    have : (65536 : Int) = 2 ^ (b + (1 + (15 - b))) := by rw [show b + (1 + (15 - b)) = 16 by omega]; rfl
    rw [this, Int.pow_add, Int.pow_add]; rfl
  have pb : (0 : Int) < 2 ^ b := Int.pow_pos (by decide)
  have h5 : (a.getD w 0 + 65536 * val 65536 (a.drop (w + 1))) / 2 ^ b = a.getD w 0 / 2 ^ b + 2 * (2 ^ (15 - b) * val 65536 (a.drop (w + 1))) := by
    have : a.getD w 0 + 65536 * val 65536 (a.drop (w + 1)) = a.getD w 0 + 2 ^ b * (2 * (2 ^ (15 - b) * val 65536 (a.drop (w + 1)))) := by
      generalize val 65536 (a.drop (w + 1)) = u
      rw [h4]; grind
    rw [this, Int.add_mul_ediv_left _ _ (by omega)]
  rw [h5, Int.add_mul_emod_self_left]
theorem ilt_or (a b : Int) : a < b ∨ b ≤ a := by omega
theorem rset_bit {q : List Int} (hq : Lim 65536 q) (i : Nat) (hi : i < 16 * q.length) (h : val 65536 q % 2 ^ (i + 1) = 0) :
    ∃ v : Int, Go.bits .or .i64 (q.getD (i / 16) 0) (shl .i64 1 ((i % 16 : Nat) : Int)) = v ∧ 0 ≤ v ∧ v < 65536 ∧ val 65536 (q.set (i / 16) v) = val 65536 q + 2 ^ i := by
  obtain ⟨w, hw⟩ : ∃ w, w = i / 16 := ⟨_, rfl⟩
  obtain ⟨b, hb⟩ : ∃ b, b = i % 16 := ⟨_, rfl⟩
  have hib : i = 16 * w + b := by omega
  rw [← hw, ← hb]
  have hx := hq.getD (by decide) w
  have pb : (0 : Int) < 2 ^ b := Int.pow_pos (by decide)
  have pb2 : (2 : Int) ^ b ≤ 32768 := by
    have := pow_mono' (B := 2) (by decide) (show b ≤ 15 by omega)
    simpa using this
  have e1 : shl .i64 1 (b : Int) = 2 ^ b := by
    unfold shl
    rw [Int.toNat_natCast, Nat.min_eq_left (by simp [IntKind.bits]; omega), Int.one_mul, i64w _ (by omega) (by omega)]
  have hs := val_split' 65536 q w
  have hd := val_drop' 65536 q w
  have t0 := val_nonneg (B := 65536) (by decide) (hq.take w)
  have t1 : val 65536 (q.take w) < 65536 ^ w := by
    have h1 := val_lt (B := 65536) (by decide) (hq.take w)
    have h2 := pow_mono' (B := 65536) (by decide) (show (q.take w).length ≤ w by rw [List.length_take]; omega)
    omega
  have hp : (2 : Int) ^ (16 * w) = 65536 ^ w := by rw [Int.pow_mul]; rfl
  have pp : (0 : Int) < 65536 ^ w := Int.pow_pos (by decide)
  obtain ⟨m, hm⟩ := Int.dvd_of_emod_eq_zero h
  have hpow : (2 : Int) ^ (i + 1) = 65536 ^ w * (2 ^ b * 2) := by rw [hib, Nat.add_assoc, Int.pow_add, hp, Int.pow_succ]
  have hz : val 65536 (q.take w) = 0 := by
    have h1 : val 65536 (q.take w) = 65536 ^ w * (2 ^ b * 2 * m - val 65536 (q.drop w)) := by
      rw [hpow] at hm
      rw [hm] at hs
      rw [Int.mul_sub, ← Int.mul_assoc]
      omega
    rcases ilt_or 0 (2 ^ b * 2 * m - val 65536 (q.drop w)) with h2 | h2
    · have h3 : 65536 ^ w * 1 ≤ 65536 ^ w * (2 ^ b * 2 * m - val 65536 (q.drop w)) := Int.mul_le_mul_of_nonneg_left (by omega) (by omega)
      omega
    · have h3 : 65536 ^ w * (2 ^ b * 2 * m - val 65536 (q.drop w)) ≤ 65536 ^ w * 0 := Int.mul_le_mul_of_nonneg_left (by omega) (by omega)
      omega
  have hdw : val 65536 (q.drop w) = 2 ^ b * 2 * m := by
    rw [hz, Int.zero_add, hm, hpow, Int.mul_assoc] at hs
    have := Int.eq_of_mul_eq_mul_left (by omega) hs
    omega
  have h4 : (65536 : Int) = 2 ^ b * 2 * 2 ^ (15 - b) := by
    have : (65536 : Int) = 2 ^ (b + (1 + (15 - b))) := by rw [show b + (1 + (15 - b)) = 16 by omega]; rfl
    rw [this, Int.pow_add, Int.pow_add, Int.mul_assoc]; rfl
  have hqw : q.getD w 0 = 2 ^ b * 2 * (m - 2 ^ (15 - b) * val 65536 (q.drop (w + 1))) := by
    rw [hdw] at hd
    rw [Int.mul_sub, ← Int.mul_assoc, ← h4]
    omega
  obtain ⟨z, hz2⟩ : ∃ z, z = m - 2 ^ (15 - b) * val 65536 (q.drop (w + 1)) := ⟨_, rfl⟩
  rw [← hz2] at hqw
  have hz0 : 0 ≤ z := by
    rcases ilt_or z 0 with h2 | h2
    · have h3 : 2 ^ b * 2 * z ≤ 2 ^ b * 2 * (-1) := Int.mul_le_mul_of_nonneg_left (by omega) (by omega)
      omega
    · exact h2
  have hor : Go.bits .or .i64 (q.getD w 0) (2 ^ b) = q.getD w 0 + 2 ^ b := by
    rw [i64_or _ _ hx.1 (by omega) (by omega) (by omega), nat_join (b + 1) _ _ ?_ ?_]
    · omega
    · obtain ⟨Z, rfl⟩ := Int.eq_ofNat_of_zero_le hz0
      have e : (q.getD w 0).toNat = 2 ^ (b + 1) * Z := by
        rw [hqw]
        have : (2 : Int) ^ b * 2 * (Z : Int) = ((2 ^ (b + 1) * Z : Nat) : Int) := by push_cast; rw [Int.pow_succ]
        rw [this, Int.toNat_natCast]
      rw [e, Nat.mul_mod_right]
    · have e : ((2 : Int) ^ b).toNat = 2 ^ b := by
        have : (2 : Int) ^ b = ((2 ^ b : Nat) : Int) := by push_cast; rfl
        rw [this, Int.toNat_natCast]
      rw [e]
      exact Nat.pow_lt_pow_right (by decide) (by omega)
  have hlt : q.getD w 0 + 2 ^ b < 65536 := by
    have h5 : z < 2 ^ (15 - b) := by
      rcases ilt_or z (2 ^ (15 - b)) with h2 | h2
      · exact h2
      · have h3 : 2 ^ b * 2 * 2 ^ (15 - b) ≤ 2 ^ b * 2 * z := Int.mul_le_mul_of_nonneg_left h2 (by omega)
        omega
    have h6 : 2 ^ b * 2 * (z + 1) ≤ 2 ^ b * 2 * 2 ^ (15 - b) := Int.mul_le_mul_of_nonneg_left (by omega) (by omega)
    rw [Int.mul_add, Int.mul_one, ← h4, ← hqw] at h6
    omega
  refine ⟨q.getD w 0 + 2 ^ b, by rw [e1, hor], by omega, hlt, ?_⟩
  rw [val_set _ _ _ _ (by omega), hib, Int.pow_add, hp]
  congr 2
  omega
theorem divnat_sub (a b : List Int) (hb : Lim 65536 b) (nb : Nrm b) (lb : b.length ≤ 1048576) (la : a.length ≤ 1048576) (i : Nat) (hi : i < 16 * a.length) (q u : List Int) (Q : Int) (hq : Lim 65536 q) (lq : q.length = a.length) (hQ : val 65536 q = Q * 2 ^ (i + 1))
    (hu : Lim 65536 u) (nu : Nrm u) (lu : u.length ≤ 1048578) (hu2 : val 65536 u < 2 * val 65536 b) (hA : val 65536 a / 2 ^ i = 2 * Q * val 65536 b + val 65536 u) (R : List Int × List Int)
    (hR : ∀ (q' r' : List Int) (Q' : Int), Lim 65536 q' → q'.length = a.length → Lim 65536 r' → Nrm r' → val 65536 r' < val 65536 b → val 65536 q' = Q' * 2 ^ i → val 65536 a / 2 ^ i = Q' * val 65536 b + val 65536 r' → Ev (fun k => rf_DivNat.l0 k a b q' r' ((i : Int) - 1)) R) :
    Ev (fun k => rf_DivNat.j1 k a b q u (i : Int)) R := by
  have e0 : wrap64 ((i : Int) - 1) = (i : Int) - 1 := w64 (by omega) (by omega)
  refine Ev.step (f := fun k => (rf_CmpNat.f k u b).bind fun t672 => (if t672 ≥ 0 then ((rf_SubNat.f k u b).bind fun t673 => (if 0 ≤ (wrap64 (Int.tdiv (i : Int) 16)) then (if (wrap64 (Int.tdiv (i : Int) 16)) < (q.length : Int) then (if 0 ≤ (Int.tmod (i : Int) 16) then (rf_DivNat.l0 k a b (q.set ((wrap64 (Int.tdiv (i : Int) 16)) : Int).toNat (Go.bits .or .i64 (rd q (wrap64 (Int.tdiv (i : Int) 16))) (shl .i64 1 (Int.tmod (i : Int) 16)))) t673 (wrap64 ((i : Int) - 1))) else (none)) else (none)) else (none))) else (rf_DivNat.l0 k a b q u (wrap64 ((i : Int) - 1))))) (fun k => by simp only [rf_DivNat.j1]) ?_
  refine Ev.bind (f := fun k t672 => (if t672 ≥ 0 then ((rf_SubNat.f k u b).bind fun t673 => (if 0 ≤ (wrap64 (Int.tdiv (i : Int) 16)) then (if (wrap64 (Int.tdiv (i : Int) 16)) < (q.length : Int) then (if 0 ≤ (Int.tmod (i : Int) 16) then (rf_DivNat.l0 k a b (q.set ((wrap64 (Int.tdiv (i : Int) 16)) : Int).toNat (Go.bits .or .i64 (rd q (wrap64 (Int.tdiv (i : Int) 16))) (shl .i64 1 (Int.tmod (i : Int) 16)))) t673 (wrap64 ((i : Int) - 1))) else (none)) else (none)) else (none))) else (rf_DivNat.l0 k a b q u (wrap64 ((i : Int) - 1))))) (CmpNat_ev u b hu hb (by omega) (by omega)) ?_
  by_cases c : val 65536 u < val 65536 b
  · refine Ev.congr (f := fun k => rf_DivNat.l0 k a b q u ((i : Int) - 1)) (fun k => ?_) (hR q u (2 * Q) hq lq hu nu c (by rw [hQ, Int.pow_succ]; generalize (2 : Int) ^ i = p; grind) hA)
    have h1 : cmpI (val 65536 u) (val 65536 b) = -1 := if_pos c
    rw [h1, if_neg (by decide), e0]
  · have h1 : cmpI (val 65536 u) (val 65536 b) ≥ 0 := by unfold cmpI; rw [if_neg c]; split <;> omega
    obtain ⟨s, s1, s2, s3, s4, s5⟩ := SubNat_ev u b hu hb (by omega) (by omega)
    obtain ⟨v, v1, v2, v3, v4⟩ := rset_bit hq i (by omega) (by rw [hQ]; exact Int.mul_emod_left _ _)
    have e1 : wrap64 (Int.tdiv (i : Int) 16) = ((i / 16 : Nat) : Int) := by rw [Int.tdiv_eq_ediv_of_nonneg (by omega), w64 (by omega) (by omega)]; omega
    have e2 : Int.tmod (i : Int) 16 = ((i % 16 : Nat) : Int) := by rw [Int.tmod_eq_emod_of_nonneg (by omega)]; omega
    refine Ev.congr (f := fun k => (rf_SubNat.f k u b).bind fun t673 => rf_DivNat.l0 k a b (q.set (i / 16) v) t673 ((i : Int) - 1)) (fun k => ?_) (Ev.bind (f := fun k t673 => rf_DivNat.l0 k a b (q.set (i / 16) v) t673 ((i : Int) - 1)) s1 (hR (q.set (i / 16) v) s (2 * Q + 1) (hq.set _ ⟨v2, v3⟩) (by rw [List.length_set, lq]) s2 s3 (by omega) (by rw [v4, hQ, Int.pow_succ]; generalize (2 : Int) ^ i = p; grind) (by rw [hA, s4]; generalize val 65536 u = x; generalize val 65536 b = y; grind)))
    have g1 : (0 : Int) ≤ ((i / 16 : Nat) : Int) := by omega
    have g2 : ((i / 16 : Nat) : Int) < (q.length : Int) := by omega
    have g3 : (0 : Int) ≤ ((i % 16 : Nat) : Int) := by omega
    rw [if_pos h1, e1, e2, e0]
    simp only [if_pos g1, if_pos g2, if_pos g3, rd_getD, v1, Int.toNat_natCast]
theorem same_val {B : Int} (hB : 0 < B) : ∀ {xs ys : List Int}, Lim B xs → Lim B ys → xs.length = ys.length → val B xs = val B ys → xs = ys
  | [], [], _, _, _, _ => rfl
  | [], _ :: _, _, _, h, _ => by cases h
  | _ :: _, [], _, _, h, _ => by cases h
  | x :: xs, y :: ys, hx, hy, h, hv => by
    obtain ⟨a1, a2⟩ := lim_cons.1 hx
    obtain ⟨b1, b2⟩ := lim_cons.1 hy
    obtain ⟨e, e'⟩ := digit_unique a1 b1 hv
    rw [e, same_val hB a2 b2 (by simpa using h) e']
theorem divnat_loop (a b : List Int) (ha : Lim 65536 a) (hb : Lim 65536 b) (nb : Nrm b) (lb : b.length ≤ 1048576) (la : a.length ≤ 1048576) : ∀ (i : Nat) (q r : List Int) (Q : Int), i ≤ 16 * a.length → Lim 65536 q → q.length = a.length → Lim 65536 r → Nrm r → val 65536 r < val 65536 b → val 65536 q = Q * 2 ^ i → val 65536 a / 2 ^ i = Q * val 65536 b + val 65536 r →
    ∃ q' r', Ev (fun k => rf_DivNat.l0 k a b q r ((i : Int) - 1)) (trim q', r') ∧ Lim 65536 q' ∧ q'.length = a.length ∧ Lim 65536 r' ∧ Nrm r' ∧ val 65536 r' < val 65536 b ∧ val 65536 a = val 65536 q' * val 65536 b + val 65536 r' := by
  have hB : (0 : Int) < 65536 := by decide
  intro i
  induction i with
  | zero =>
    intro q r Q _ hq lq hr nr hlt hQ hA
    rw [Int.pow_zero, Int.mul_one] at hQ
    rw [Int.pow_zero, Int.ediv_one] at hA
    refine ⟨q, r, Ev.step (f := fun k => (rf_trim.f k q).bind fun t => some (t, r)) (fun k => ?_) (Ev.bind (f := fun _ t => some (t, r)) (rtrim_ev q (by omega)) (Ev.now _)), hq, lq, hr, nr, hlt, by rw [hQ]; exact hA⟩
    simp only [rf_DivNat.l0]
    rw [if_neg (by decide)]
  | succ i ih =>
    intro q r Q hi hq lq hr nr hlt hQ hA
    have e1 : (((i + 1 : Nat) : Int) - 1) = (i : Int) := by omega
    have rl : r.length ≤ b.length := by
      rcases Nat.lt_or_ge b.length r.length with h | h
      · have := len_lt_val hB hb hr nr h
        omega
      · exact h
    have r0 := val_nonneg hB hr
    obtain ⟨s, s1, s2, s3, s4, s5⟩ := ShlNat_ev r 1 hr (by omega)
    rw [Int.pow_one] at s4
    have hbit := rbit_ev ha i (by omega)
    obtain ⟨x, hx⟩ : ∃ x, x = val 65536 a / 2 ^ i := ⟨_, rfl⟩
    have hx2 : val 65536 a / 2 ^ (i + 1) = x / 2 := by rw [hx, Int.pow_succ, Int.ediv_ediv_of_nonneg (Int.le_of_lt (Int.pow_pos (by decide)))]
    rw [hx2] at hA
    rw [← hx] at hbit
    have key : ∃ u, Lim 65536 u ∧ Nrm u ∧ u.length ≤ 1048578 ∧ val 65536 u = 2 * val 65536 r + x % 2 ∧ ∀ R, Ev (fun k => rf_DivNat.j1 k a b q u (i : Int)) R → Ev (fun k => if x % 2 = 1 then ((rf_AddNat.f k s (([1] : List Int))).bind fun t669 => (rf_DivNat.j1 k a b q t669 (i : Int))) else (rf_DivNat.j1 k a b q s (i : Int))) R := by
      by_cases c : x % 2 = 1
      · obtain ⟨u, u1, u2, u3, u4, u5⟩ := AddNat_ev s [1] s2 (fun y hy => by rw [List.mem_singleton] at hy; omega) (by omega) (by decide)
        refine ⟨u, u2, u3, ?_, ?_, fun R hR => Ev.congr (fun k => if_pos c) (Ev.bind (f := fun k t669 => rf_DivNat.j1 k a b q t669 (i : Int)) u1 hR)⟩
        · simp only [List.length_singleton] at u5; omega
        · rw [u4, s4]; simp [val]; omega
      · refine ⟨s, s2, s3, by omega, by omega, fun R hR => Ev.congr (fun k => if_neg c) hR⟩
    obtain ⟨u, u1, u2, u3, u4, u5⟩ := key
    have step : ∀ R, Ev (fun k => rf_DivNat.j1 k a b q u (i : Int)) R → Ev (fun k => rf_DivNat.l0 k a b q r (((i + 1 : Nat) : Int) - 1)) R := by
      intro R hR
      rw [e1]
      refine Ev.step (f := fun k => (rf_ShlNat.f k r 1).bind fun t662 => (if x % 2 = 1 then ((rf_AddNat.f k t662 (([1] : List Int))).bind fun t669 => (rf_DivNat.j1 k a b q t669 (i : Int))) else (rf_DivNat.j1 k a b q t662 (i : Int)))) (fun k => ?_) ?_
      · simp only [rf_DivNat.l0]
        rw [if_pos (by omega)]
        simp only [hbit, Option.bind_some]
      · exact Ev.bind (f := fun k t662 => (if x % 2 = 1 then ((rf_AddNat.f k t662 (([1] : List Int))).bind fun t669 => (rf_DivNat.j1 k a b q t669 (i : Int))) else (rf_DivNat.j1 k a b q t662 (i : Int)))) s1 (u5 R hR)
    have hxA : x = 2 * Q * val 65536 b + val 65536 u := by
      rw [u4]
      have h1 : x = 2 * (x / 2) + x % 2 := by omega
      rw [hA] at h1
      refine h1.trans ?_
      rw [Int.mul_add, ← Int.mul_assoc]
      omega
    by_cases c : val 65536 u < val 65536 b
    · obtain ⟨q', r', h1, h2⟩ := ih q u (2 * Q) (by omega) hq lq u1 u2 c (by rw [hQ, Int.pow_succ]; generalize (2 : Int) ^ i = p; grind) (by rw [← hx]; exact hxA)
      refine ⟨q', r', step _ (divnat_sub a b hb nb lb la i (by omega) q u Q hq lq hQ u1 u2 u3 (by omega) (by rw [← hx]; exact hxA) _ ?_), h2⟩
      intro q'' r'' Q'' a1 a2 a3 a4 a5 a6 a7
      have p2 : (0 : Int) < 2 ^ i := Int.pow_pos (by decide)
      have pr := val_nonneg hB a3
      have pu := val_nonneg hB u1
      have hQQ : Q'' = 2 * Q ∧ val 65536 r'' = val 65536 u := by
        rw [← hx, hxA] at a7
        have hb0 : 0 < val 65536 b := by omega
        have d1 : (2 * Q * val 65536 b + val 65536 u) / val 65536 b = 2 * Q := by rw [Int.add_comm, Int.add_mul_ediv_right _ _ (by omega), Int.ediv_eq_zero_of_lt pu c, Int.zero_add]
        have d2 : (Q'' * val 65536 b + val 65536 r'') / val 65536 b = Q'' := by rw [Int.add_comm, Int.add_mul_ediv_right _ _ (by omega), Int.ediv_eq_zero_of_lt pr a5, Int.zero_add]
        rw [a7, d2] at d1
        subst d1
        exact ⟨rfl, by omega⟩
      have eq1 : q'' = q := by
        refine same_val hB a1 hq (by rw [a2, lq]) ?_
        rw [a6, hQQ.1, hQ, Int.pow_succ]
        generalize (2 : Int) ^ i = p
        grind
      have eq2 : r'' = u := val_inj hB a3 u1 a4 u2 hQQ.2
      rw [eq1, eq2]
      exact h1
    · obtain ⟨s', t1, t2, t3, t4, t5⟩ := SubNat_ev u b u1 hb (by omega) (by omega)
      obtain ⟨v, v1, v2, v3, v4⟩ := rset_bit hq i (by omega) (by rw [hQ]; exact Int.mul_emod_left _ _)
      have pb := val_nonneg hB hb
      have hu2 : val 65536 u < 2 * val 65536 b := by omega
      obtain ⟨q', r', h1, h2⟩ := ih (q.set (i / 16) v) s' (2 * Q + 1) (by omega) (hq.set _ ⟨v2, v3⟩) (by rw [List.length_set, lq]) t2 t3 (by omega) (by rw [v4, hQ, Int.pow_succ]; generalize (2 : Int) ^ i = p; grind) (by rw [← hx, hxA, t4]; generalize val 65536 u = x; generalize val 65536 b = y; grind)
      refine ⟨q', r', step _ (divnat_sub a b hb nb lb la i (by omega) q u Q hq lq hQ u1 u2 u3 hu2 (by rw [← hx]; exact hxA) _ ?_), h2⟩
      intro q'' r'' Q'' a1 a2 a3 a4 a5 a6 a7
      have pr := val_nonneg hB a3
      have ps := val_nonneg hB t2
      have hQQ : Q'' = 2 * Q + 1 ∧ val 65536 r'' = val 65536 s' := by
        rw [← hx, hxA] at a7
        have hb0 : 0 < val 65536 b := by omega
        have e3 : 2 * Q * val 65536 b + val 65536 u = (2 * Q + 1) * val 65536 b + val 65536 s' := by rw [t4]; generalize val 65536 u = x; generalize val 65536 b = y; grind
        rw [e3] at a7
        have d1 : ((2 * Q + 1) * val 65536 b + val 65536 s') / val 65536 b = 2 * Q + 1 := by rw [Int.add_comm, Int.add_mul_ediv_right _ _ (by omega), Int.ediv_eq_zero_of_lt ps (by omega), Int.zero_add]
        have d2 : (Q'' * val 65536 b + val 65536 r'') / val 65536 b = Q'' := by rw [Int.add_comm, Int.add_mul_ediv_right _ _ (by omega), Int.ediv_eq_zero_of_lt pr a5, Int.zero_add]
        rw [a7, d2] at d1
        subst d1
        exact ⟨rfl, by omega⟩
      have eq1 : q'' = q.set (i / 16) v := by
        refine same_val hB a1 (hq.set _ ⟨v2, v3⟩) (by rw [a2, List.length_set, lq]) ?_
        rw [a6, hQQ.1, v4, hQ, Int.pow_succ]
        generalize (2 : Int) ^ i = p
        grind
      have eq2 : r'' = s' := val_inj hB a3 t2 a4 t3 hQQ.2
      rw [eq1, eq2]
      exact h1
theorem DivNat_ev (a b : List Int) (ha : Lim 65536 a) (na : Nrm a) (hb : Lim 65536 b) (nb : Nrm b) (b0 : b ≠ []) (la : a.length ≤ 1048576) (lb : b.length ≤ 1048576) :
    ∃ q r, Ev (fun k => rf_DivNat.f k a b) (q, r) ∧ Lim 65536 q ∧ Nrm q ∧ q.length ≤ a.length ∧ Lim 65536 r ∧ Nrm r ∧ val 65536 q = val 65536 a / val 65536 b ∧ val 65536 r = val 65536 a % val 65536 b := by
  have hB : (0 : Int) < 65536 := by decide
  have pb := val_pos hB hb nb b0
  have pa := val_nonneg hB ha
  obtain ⟨L, l1, l2, l3, l4⟩ := LenNat_ev a ha na (by omega)
  obtain ⟨q, r, h1, h2, h3, h4, h5, h6, h7⟩ := divnat_loop a b ha hb nb lb la L (List.replicate a.length 0) [] 0 l1 (lim_replicate hB _) (by simp) (lim_nil _) nrm_nil pb (by rw [val_replicate, Int.zero_mul]) (by rw [Int.ediv_eq_zero_of_lt pa l2]; simp [val])
  have hr0 := val_nonneg hB h4
  have d1 : val 65536 a / val 65536 b = val 65536 q := by rw [h7, Int.add_comm, Int.add_mul_ediv_right _ _ (by omega), Int.ediv_eq_zero_of_lt hr0 h6, Int.zero_add]
  have d2 : val 65536 a % val 65536 b = val 65536 r := by
    have := Int.mul_ediv_add_emod (val 65536 a) (val 65536 b)
    rw [d1, Int.mul_comm] at this
    omega
  refine ⟨trim q, r, ?_, lim_trim h2, nrm_trim _, by rw [← h3]; exact length_trim q, h4, h5, by rw [val_trim, d1], d2.symm⟩
  refine Ev.congr (f := fun k => (rf_LenNat.f k a).bind fun t658 => (rf_DivNat.l0 k a b (List.replicate a.length 0) ([] : List Int) (wrap64 (t658 - 1)))) (fun k => ?_) (Ev.bind (f := fun k t658 => (rf_DivNat.l0 k a b (List.replicate a.length 0) ([] : List Int) (wrap64 (t658 - 1)))) l4 ?_)
  · unfold rf_DivNat.f
    rw [if_pos (by omega), if_pos (by omega), Int.toNat_natCast]
  · rw [w64 (by omega) (by omega)]
    exact h1
theorem one_lim' : Lim 65536 [1] := fun y hy => by rw [List.mem_singleton] at hy; omega
theorem reduce_ev (neg : Bool) (a b : List Int) (ha : Lim 65536 a) (na : Nrm a) (hb : Lim 65536 b) (nb : Nrm b) (b0 : b ≠ []) (la : a.length ≤ 1048576) (lb : b.length ≤ 1048576) :
    ∃ p q, Ev (fun k => rf_reduce.f k neg a b) (neg && decide (p ≠ []), p, q) ∧ Lim 65536 p ∧ Nrm p ∧ p.length ≤ a.length ∧ Lim 65536 q ∧ Nrm q ∧ q.length ≤ b.length ∧
      val 65536 p = val 65536 a / (Nat.gcd (val 65536 a).toNat (val 65536 b).toNat : Nat) ∧ val 65536 q = val 65536 b / (Nat.gcd (val 65536 a).toNat (val 65536 b).toNat : Nat) := by
  have hB : (0 : Int) < 65536 := by decide
  have pb := val_pos hB hb nb b0
  obtain ⟨g, g1, g2, g3, g4⟩ := GcdNat_ev a b ha hb na nb (by omega) (by omega)
  have hend : ∀ p q : List Int, (if neg = true then (if (p.length : Int) > 0 then (some (true, p, q)) else (some (false, p, q))) else (some (false, p, q))) = some (neg && decide (p ≠ []), p, q) := by
    intro p q
    cases neg with
    | false => rfl
    | true =>
      cases p with
      | nil => rfl
      | cons x xs => rw [if_pos rfl, if_pos (by simp only [List.length_cons]; omega)]; simp
  have hgl : g.length ≤ b.length := by
    rcases Nat.lt_or_ge b.length g.length with h | h
    · have h1 := len_lt_val hB hb g2 g3 h
      have h2 : Nat.gcd (val 65536 a).toNat (val 65536 b).toNat ≤ (val 65536 b).toNat := Nat.gcd_le_right _ (by omega)
      omega
    · exact h
  have hc := CmpNat_ev g [1] g2 one_lim' (by omega) (by decide)
  have hv1 : val 65536 [1] = 1 := by simp [val]
  rw [hv1] at hc
  by_cases c : val 65536 g = 1
  · have h0 : cmpI (val 65536 g) 1 = 0 := by rw [c]; rfl
    refine ⟨a, b, ?_, ha, na, Nat.le_refl _, hb, nb, Nat.le_refl _, ?_, ?_⟩
    · refine Ev.bind (f := fun k t679 => ((rf_CmpNat.f k t679 (([1] : List Int))).bind fun t685 => (if t685 = 0 then (if neg = true then (if (a.length : Int) > 0 then (some (true, a, b)) else (some (false, a, b))) else (some (false, a, b))) else ((rf_DivNat.f k a t679).bind fun bt686 => ((rf_DivNat.f k b t679).bind fun bt692 => (if neg = true then (if (bt686.1.length : Int) > 0 then (some (true, bt686.1, bt692.1)) else (some (false, bt686.1, bt692.1))) else (some (false, bt686.1, bt692.1)))))))) g1 ?_
      refine Ev.bind (f := fun k t685 => (if t685 = 0 then (if neg = true then (if (a.length : Int) > 0 then (some (true, a, b)) else (some (false, a, b))) else (some (false, a, b))) else ((rf_DivNat.f k a g).bind fun bt686 => ((rf_DivNat.f k b g).bind fun bt692 => (if neg = true then (if (bt686.1.length : Int) > 0 then (some (true, bt686.1, bt692.1)) else (some (false, bt686.1, bt692.1))) else (some (false, bt686.1, bt692.1))))))) hc (Ev.ret fun k => ?_)
      rw [if_pos h0]
      exact hend a b
    · rw [← g4, c, Int.ediv_one]
    · rw [← g4, c, Int.ediv_one]
  · have h0 : ¬ cmpI (val 65536 g) 1 = 0 := by unfold cmpI; split <;> (try split) <;> omega
    have g0 : g ≠ [] := by
      rintro rfl
      have h2 : Nat.gcd (val 65536 a).toNat (val 65536 b).toNat ≠ 0 := by
        intro h3
        have := (Nat.gcd_eq_zero_iff.1 h3).2
        omega
      simp [val] at g4
      omega
    obtain ⟨p, r1, p1, p2, p3, p4, p5, p6, p7, p8⟩ := DivNat_ev a g ha na g2 g3 g0 la (by omega)
    obtain ⟨q, r2, q1, q2, q3, q4, q5, q6, q7, q8⟩ := DivNat_ev b g hb nb g2 g3 g0 lb (by omega)
    refine ⟨p, q, ?_, p2, p3, p4, q2, q3, q4, by rw [p7, g4], by rw [q7, g4]⟩
    refine Ev.bind (f := fun k t679 => ((rf_CmpNat.f k t679 (([1] : List Int))).bind fun t685 => (if t685 = 0 then (if neg = true then (if (a.length : Int) > 0 then (some (true, a, b)) else (some (false, a, b))) else (some (false, a, b))) else ((rf_DivNat.f k a t679).bind fun bt686 => ((rf_DivNat.f k b t679).bind fun bt692 => (if neg = true then (if (bt686.1.length : Int) > 0 then (some (true, bt686.1, bt692.1)) else (some (false, bt686.1, bt692.1))) else (some (false, bt686.1, bt692.1)))))))) g1 ?_
    refine Ev.bind (f := fun k t685 => (if t685 = 0 then (if neg = true then (if (a.length : Int) > 0 then (some (true, a, b)) else (some (false, a, b))) else (some (false, a, b))) else ((rf_DivNat.f k a g).bind fun bt686 => ((rf_DivNat.f k b g).bind fun bt692 => (if neg = true then (if (bt686.1.length : Int) > 0 then (some (true, bt686.1, bt692.1)) else (some (false, bt686.1, bt692.1))) else (some (false, bt686.1, bt692.1))))))) hc ?_
    refine Ev.congr (f := fun k => (rf_DivNat.f k a g).bind fun bt686 => ((rf_DivNat.f k b g).bind fun bt692 => (if neg = true then (if (bt686.1.length : Int) > 0 then (some (true, bt686.1, bt692.1)) else (some (false, bt686.1, bt692.1))) else (some (false, bt686.1, bt692.1))))) (fun k => if_neg h0) ?_
    refine Ev.bind (f := fun k bt686 => ((rf_DivNat.f k b g).bind fun bt692 => (if neg = true then (if (bt686.1.length : Int) > 0 then (some (true, bt686.1, bt692.1)) else (some (false, bt686.1, bt692.1))) else (some (false, bt686.1, bt692.1))))) p1 ?_
    exact Ev.bind (f := fun _ bt692 => (if neg = true then (if (p.length : Int) > 0 then (some (true, p, bt692.1)) else (some (false, p, bt692.1))) else (some (false, p, bt692.1)))) q1 (Ev.ret fun k => hend p q)
theorem clone_eq' (a : List Int) (h : a.length ≤ 1099511627776) : slices_Clone_uint32_uint32.f a = some a := by unfold slices_Clone_uint32_uint32.f; rw [if_pos (by omega)]
theorem raw_ev (neg : Bool) (a b : List Int) (ha : Lim 4294967296 a) (na : Nrm a) (hb : Lim 4294967296 b) (nb : Nrm b) (b0 : b ≠ []) (la : a.length ≤ 1048575) (lb : b.length ≤ 1048575) :
    ∃ p q, Ev (fun k => number_raw.f k neg a b) (neg && decide (p ≠ []), p, q) ∧ Lim 4294967296 p ∧ Nrm p ∧ Lim 4294967296 q ∧ Nrm q ∧ p.length ≤ 1048576 ∧ q.length ≤ 1048576 ∧
      val 4294967296 p = val 4294967296 a / (Nat.gcd (val 4294967296 a).toNat (val 4294967296 b).toNat : Nat) ∧ val 4294967296 q = val 4294967296 b / (Nat.gcd (val 4294967296 a).toNat (val 4294967296 b).toNat : Nat) := by
  have hB : (0 : Int) < 4294967296 := by decide
  have pb := val_pos hB hb nb b0
  have pa := val_nonneg hB ha
  by_cases h0 : a = []
  · subst h0
    refine ⟨[], [1], Ev.ret fun k => ?_, lim_nil _, nrm_nil, one_lim (by decide), one_nrm, by decide, by decide, ?_, ?_⟩
    · unfold number_raw.f; simp
    · rw [show val 4294967296 [] = 0 from rfl, Int.zero_ediv]
    · have h2 : (val 4294967296 []).toNat = 0 := rfl
      rw [h2, Nat.gcd_zero_left, val_one, Int.toNat_of_nonneg (by omega), Int.ediv_self (by omega)]
  · have hl : ¬ (a.length : Int) = 0 := by
      have : a.length ≠ 0 := fun h' => h0 (List.length_eq_zero_iff.1 h')
      omega
    by_cases c : b = [1]
    · refine ⟨a, b, Ev.ret fun k => ?_, ha, na, hb, nb, by omega, by omega, ?_, ?_⟩
      · unfold number_raw.f
        rw [if_neg hl, IsOne_eq, Option.bind_some, if_pos (decide_eq_true c), clone_eq' a (by omega), Option.bind_some, clone_eq' b (by omega), Option.bind_some]
        simp [h0]
      · rw [c, val_one]
        have h2 : (1 : Int).toNat = 1 := rfl
        rw [h2, Nat.gcd_one_right]; simp
      · rw [c, val_one]
        have h2 : (1 : Int).toNat = 1 := rfl
        rw [h2, Nat.gcd_one_right]; simp
    · obtain ⟨g, g1, g2, g3, g4⟩ := Gcd_ev a b ha hb na nb (by omega) (by omega)
      have e0 : ∀ k, number_raw.f k neg a b = (nat_Gcd.f k a b).bind fun t334 => ((nat_IsOne.f t334).bind fun t337 => (if t337 = true then ((slices_Clone_uint32_uint32.f a).bind fun t338 => ((slices_Clone_uint32_uint32.f b).bind fun t341 => (some (neg, t338, t341)))) else ((nat_DivMod.f k a t334).bind fun bt344 => ((nat_DivMod.f k b t334).bind fun bt350 => ((slices_Clone_uint32_uint32.f bt344.1).bind fun t356 => ((slices_Clone_uint32_uint32.f bt350.1).bind fun t359 => (some (neg, t356, t359)))))))) := by
        intro k
        unfold number_raw.f
        rw [if_neg hl, IsOne_eq, Option.bind_some, if_neg (by simp [c])]
      by_cases c2 : g = [1]
      · subst c2
        rw [val_one] at g4
        refine ⟨a, b, ?_, ha, na, hb, nb, by omega, by omega, by rw [← g4, Int.ediv_one], by rw [← g4, Int.ediv_one]⟩
        refine Ev.congr e0 (Ev.bind (f := fun k t334 => ((nat_IsOne.f t334).bind fun t337 => (if t337 = true then ((slices_Clone_uint32_uint32.f a).bind fun t338 => ((slices_Clone_uint32_uint32.f b).bind fun t341 => (some (neg, t338, t341)))) else ((nat_DivMod.f k a t334).bind fun bt344 => ((nat_DivMod.f k b t334).bind fun bt350 => ((slices_Clone_uint32_uint32.f bt344.1).bind fun t356 => ((slices_Clone_uint32_uint32.f bt350.1).bind fun t359 => (some (neg, t356, t359))))))))) g1 (Ev.ret fun k => ?_))
        rw [IsOne_eq, Option.bind_some, if_pos (by decide), clone_eq' a (by omega), Option.bind_some, clone_eq' b (by omega), Option.bind_some]
        simp [h0]
      · have hg0 : g ≠ [] := by
          rintro rfl
          have h2 : Nat.gcd (val 4294967296 a).toNat (val 4294967296 b).toNat ≠ 0 := by
            intro h3
            have := (Nat.gcd_eq_zero_iff.1 h3).2
            omega
          simp [val] at g4
          omega
        have hgl : g.length ≤ b.length := by
          rcases Nat.lt_or_ge b.length g.length with h | h
          · have h1 := len_lt_val hB hb g2 g3 h
            have h2 : Nat.gcd (val 4294967296 a).toNat (val 4294967296 b).toNat ≤ (val 4294967296 b).toNat := Nat.gcd_le_right _ (by omega)
            omega
          · exact h
        obtain ⟨p, r1, p1, p2, p3, p4, p5, p6, p7, p8⟩ := DivMod_ev a g ha g2 na g3 hg0 (by omega) (by omega)
        obtain ⟨q, r2, q1, q2, q3, q4, q5, q6, q7, q8⟩ := DivMod_ev b g hb g2 nb g3 hg0 (by omega) (by omega)
        have hp0 : p ≠ [] := by
          rintro rfl
          have h1 : 0 < val 4294967296 a := val_pos hB ha na h0
          have h2 : Nat.gcd (val 4294967296 a).toNat (val 4294967296 b).toNat ≤ (val 4294967296 a).toNat := Nat.gcd_le_left _ (by omega)
          have h3 : 0 < val 4294967296 g := val_pos hB g2 g3 hg0
          have h4 : val 4294967296 a / val 4294967296 g = 0 := by rw [← p6]; rfl
          have h5 : 1 ≤ val 4294967296 a / val 4294967296 g := Int.le_ediv_of_mul_le h3 (by rw [Int.one_mul]; omega)
          omega
        refine ⟨p, q, ?_, p2, p3, q2, q3, by omega, by omega, by rw [p6, g4], by rw [q6, g4]⟩
        refine Ev.congr e0 (Ev.bind (f := fun k t334 => ((nat_IsOne.f t334).bind fun t337 => (if t337 = true then ((slices_Clone_uint32_uint32.f a).bind fun t338 => ((slices_Clone_uint32_uint32.f b).bind fun t341 => (some (neg, t338, t341)))) else ((nat_DivMod.f k a t334).bind fun bt344 => ((nat_DivMod.f k b t334).bind fun bt350 => ((slices_Clone_uint32_uint32.f bt344.1).bind fun t356 => ((slices_Clone_uint32_uint32.f bt350.1).bind fun t359 => (some (neg, t356, t359))))))))) g1 ?_)
        refine Ev.congr (f := fun k => (nat_DivMod.f k a g).bind fun bt344 => ((nat_DivMod.f k b g).bind fun bt350 => ((slices_Clone_uint32_uint32.f bt344.1).bind fun t356 => ((slices_Clone_uint32_uint32.f bt350.1).bind fun t359 => (some (neg, t356, t359)))))) (fun k => by rw [IsOne_eq, Option.bind_some, if_neg (by simp [c2])]) ?_
        refine Ev.bind (f := fun k bt344 => ((nat_DivMod.f k b g).bind fun bt350 => ((slices_Clone_uint32_uint32.f bt344.1).bind fun t356 => ((slices_Clone_uint32_uint32.f bt350.1).bind fun t359 => (some (neg, t356, t359)))))) p1 ?_
        refine Ev.bind (f := fun _ bt350 => ((slices_Clone_uint32_uint32.f p).bind fun t356 => ((slices_Clone_uint32_uint32.f bt350.1).bind fun t359 => (some (neg, t356, t359))))) q1 (Ev.ret fun k => ?_)
        rw [clone_eq' p (by omega), Option.bind_some, clone_eq' q (by omega), Option.bind_some]
        simp [hp0]
def outN (neg : Bool) (p q : List Int) : Bool × List Int × List Int × Int := if p.length > 128 ∨ q.length > 128 then (false, [], [], 3) else (neg, p, q, 0)
theorem made_ev (neg : Bool) (a b : List Int) (ha : Lim 4294967296 a) (na : Nrm a) (hb : Lim 4294967296 b) (nb : Nrm b) (b0 : b ≠ []) (la : a.length ≤ 1048575) (lb : b.length ≤ 1048575) :
    ∃ p q, Ev (fun k => number_made.f k neg a b) (outN (neg && decide (p ≠ [])) p q) ∧ Lim 4294967296 p ∧ Nrm p ∧ Lim 4294967296 q ∧ Nrm q ∧
      val 4294967296 p = val 4294967296 a / (Nat.gcd (val 4294967296 a).toNat (val 4294967296 b).toNat : Nat) ∧ val 4294967296 q = val 4294967296 b / (Nat.gcd (val 4294967296 a).toNat (val 4294967296 b).toNat : Nat) := by
  obtain ⟨p, q, h1, p1, p2, q1, q2, lp, lq, p3, q3⟩ := raw_ev neg a b ha na hb nb b0 la lb
  refine ⟨p, q, ?_, p1, p2, q1, q2, p3, q3⟩
  refine Ev.bind (f := fun k bt365 => ((number_fits.f bt365.1 bt365.2.1 bt365.2.2).bind fun bt372 => (some (bt372.1, bt372.2.1, bt372.2.2.1, bt372.2.2.2)))) h1 (Ev.ret fun k => ?_)
  have e : number_fits.f (neg && decide (p ≠ [])) p q = some (outN (neg && decide (p ≠ [])) p q) := by
    unfold number_fits.f outN
    by_cases c1 : p.length > 128
    · rw [if_pos (by omega), if_pos (Or.inl c1)]
    · rw [if_neg (by omega)]
      by_cases c2 : q.length > 128
      · rw [if_pos (by omega), if_pos (Or.inr c2)]
      · rw [if_neg (by omega), if_neg (by omega)]
  show (number_fits.f (neg && decide (p ≠ [])) p q).bind _ = _
  rw [e]; rfl
theorem rmade_ev (neg : Bool) (a b : List Int) (ha : Lim 65536 a) (na : Nrm a) (hb : Lim 65536 b) (nb : Nrm b) (b0 : b ≠ []) (la : a.length ≤ 1048576) (lb : b.length ≤ 1048576) (p q : List Int) (p1 : Lim 4294967296 p) (p2 : Nrm p) (q1 : Lim 4294967296 q) (q2 : Nrm q)
    (p3 : val 4294967296 p = val 65536 a / (Nat.gcd (val 65536 a).toNat (val 65536 b).toNat : Nat)) (q3 : val 4294967296 q = val 65536 b / (Nat.gcd (val 65536 a).toNat (val 65536 b).toNat : Nat)) :
    Ev (fun k => (rf_reduce.f k neg a b).bind fun bt1853 => ((rf_Made.f k bt1853.1 bt1853.2.1 bt1853.2.2).bind fun bt1860 => (some (bt1860.1, bt1860.2.1, bt1860.2.2.1, bt1860.2.2.2)))) (outN (neg && decide (p ≠ [])) p q) := by
  obtain ⟨x, y, h1, x1, x2, x3, y1, y2, y3, x4, y4⟩ := reduce_ev neg a b ha na hb nb b0 la lb
  refine Ev.bind (f := fun k bt1853 => ((rf_Made.f k bt1853.1 bt1853.2.1 bt1853.2.2).bind fun bt1860 => (some (bt1860.1, bt1860.2.1, bt1860.2.2.1, bt1860.2.2.2)))) h1 ?_
  obtain ⟨p', q', s1, s2, s3, t1, t2, t3, u1, u2⟩ := Made_ev (neg && decide (x ≠ [])) x y x1 y1 x2 y2 (by omega) (by omega)
  have ep : p' = p := val_inj (by decide) s1 p1 s2 p2 (by rw [s3, x4, p3])
  have eq : q' = q := val_inj (by decide) t1 q1 t2 q2 (by rw [t3, y4, q3])
  subst ep
  subst eq
  have hx : decide (x ≠ []) = decide (p' ≠ []) := by
    have a1 := val_eq_zero (by decide) x1 x2
    have a2 := val_eq_zero (by decide) s1 s2
    rw [s3] at a2
    have : x ≠ [] ↔ p' ≠ [] := by rw [ne_eq, ne_eq, ← a1, ← a2]
    simp only [this]
  unfold outN
  rw [← hx]
  by_cases c : p'.length > 128 ∨ q'.length > 128
  · rw [if_pos c]
    exact Ev.bind (f := fun _ bt1860 => some (bt1860.1, bt1860.2.1, bt1860.2.2.1, bt1860.2.2.2)) (u1 c) (Ev.now _)
  · rw [if_neg c]
    exact Ev.bind (f := fun _ bt1860 => some (bt1860.1, bt1860.2.1, bt1860.2.2.1, bt1860.2.2.2)) (u2 (by omega) (by omega)) (Ev.now _)
open Classical in
theorem rdigits_loop (l : List UInt8) (hl : l.length ≤ 1048576) : ∀ (d i : Nat), d + i = l.length → Ev (fun k => rf_digits.l0 k (BA l) (i : Int)) (decide (∀ b, b ∈ l.drop i → isD b)) := by
  intro d
  induction d with
  | zero =>
    intro i hd
    refine Ev.step (f := fun _ => some true) (fun k => ?_) (Ev.eq (Ev.now _) ?_)
    · simp only [rf_digits.l0]
      rw [if_neg (by rw [BA_size]; omega)]
    · rw [List.drop_of_length_le (by omega)]; simp
  | succ d ih =>
    intro i hd
    have gi : i < l.length := by omega
    have g1 : (i : Int) < ((BA l).size : Int) := by rw [BA_size]; omega
    have g2 : (0 : Int) ≤ (i : Int) := by omega
    have gw : wrap64 ((i : Int) + 1) = ((i + 1 : Nat) : Int) := by rw [w64 (by omega) (by omega)]; omega
    have hdr : l.drop i = l.getD i 0 :: l.drop (i + 1) := by
      rw [List.drop_eq_getElem_cons gi, List.getD_eq_getElem?_getD, List.getElem?_eq_getElem gi]; rfl
    by_cases c : isD (l.getD i 0)
    · refine Ev.step (f := fun k => rf_digits.l0 k (BA l) ((i + 1 : Nat) : Int)) (fun k => ?_) (Ev.eq (ih (i + 1) (by omega)) ?_)
      · unfold isD at c
        simp only [rf_digits.l0]
        rw [if_pos g1, if_pos g2, bt_BA, if_neg (by omega), if_neg (by omega), gw]
      · have hiff : (∀ b, b ∈ l.drop (i + 1) → isD b) ↔ (∀ b, b ∈ l.drop i → isD b) := by
          rw [hdr]
          constructor
          · intro h b hb
            rcases List.mem_cons.1 hb with rfl | hb
            · exact c
            · exact h b hb
          · intro h b hb
            exact h b (List.mem_cons_of_mem _ hb)
        simp only [hiff]
    · refine Ev.step (f := fun _ => some false) (fun k => ?_) (Ev.eq (Ev.now _) ?_)
      · unfold isD at c
        simp only [rf_digits.l0]
        rw [if_pos g1, if_pos g2, bt_BA]
        by_cases c2 : ((l.getD i 0).toNat : Int) < 48
        · rw [if_pos c2]
        · rw [if_neg c2, if_pos (by omega)]
      · exact (decide_eq_false (fun h => c (h _ (by rw [hdr]; simp)))).symm
open Classical in
theorem rdigits_ev (l : List UInt8) (hl : l.length ≤ 1048576) : Ev (fun k => rf_digits.f k (BA l)) (decide (l ≠ [] ∧ ∀ b, b ∈ l → isD b)) := by
  by_cases h : l = []
  · refine Ev.ret fun k => ?_
    unfold rf_digits.f
    rw [if_pos (by rw [BA_list]; exact h)]; simp [h]
  · refine Ev.congr (fun k => ?_) (Ev.eq (rdigits_loop l hl l.length 0 (by omega)) ?_)
    · unfold rf_digits.f
      rw [if_neg (by rw [BA_list]; exact h)]; rfl
    · rw [List.drop_zero]; simp [h]
theorem ofdec_loop (l : List UInt8) (hd : ∀ b, b ∈ l → isD b) (hl : l.length ≤ 4096) : ∀ (d i : Nat) (x : List Int), d + i = l.length → Lim 65536 x → Nrm x → x.length ≤ 4 * i + 4 → val 65536 x = sv 0 (l.take i) →
    ∃ r, Ev (fun k => rf_OfDecimal.l0 k (BA l) x (i : Int)) r ∧ Lim 65536 r ∧ Nrm r ∧ r.length ≤ 4 * l.length + 4 ∧ val 65536 r = sv 0 l := by
  intro d
  induction d with
  | zero =>
    intro i x h hx nx lx hv
    refine ⟨x, Ev.step (f := fun _ => some x) (fun k => ?_) (Ev.now _), hx, nx, by omega, by rw [hv, List.take_of_length_le (by omega)]⟩
    simp only [rf_OfDecimal.l0]
    rw [if_neg (by rw [BA_size]; omega)]
  | succ d ih =>
    intro i x h hx nx lx hv
    have gi : i < l.length := by omega
    have g1 : (i : Int) < ((BA l).size : Int) := by rw [BA_size]; omega
    have g2 : (0 : Int) ≤ (i : Int) := by omega
    have gw : wrap64 ((i : Int) + 1) = ((i + 1 : Nat) : Int) := by rw [w64 (by omega) (by omega)]; omega
    have hb : isD (l.getD i 0) := by
      rw [List.getD_eq_getElem?_getD, List.getElem?_eq_getElem gi]
      exact hd _ (List.getElem_mem gi)
    unfold isD at hb
    have e1 : (bt (BA l) (i : Int) - 48) % 256 = ((l.getD i 0).toNat : Int) - 48 := by rw [bt_BA]; omega
    obtain ⟨m, m1, m2, m3, m4, m5⟩ := MulNat_ev x [10] hx (fun y hy => by rw [List.mem_singleton] at hy; omega) (by simp only [List.length_singleton]; omega)
    obtain ⟨o, o1, o2, o3, o4, o5⟩ := OfInt_ev (((l.getD i 0).toNat : Int) - 48) (by omega) (by omega)
    obtain ⟨s, s1, s2, s3, s4, s5⟩ := AddNat_ev m o m2 o2 (by simp only [List.length_singleton] at m5; omega) (by omega)
    have hv10 : val 65536 [10] = 10 := by simp [val]
    obtain ⟨r, r1, r2⟩ := ih (i + 1) s (by omega) s2 s3 (by
        simp only [List.length_singleton] at m5
        omega) (by
        rw [s4, m4, o4, hv10, hv, List.take_succ_eq_append_getElem gi, sv_append]
        have : l.getD i 0 = l[i] := by rw [List.getD_eq_getElem?_getD, List.getElem?_eq_getElem gi]; rfl
        rw [this]; rfl)
    refine ⟨r, Ev.step (f := fun k => (rf_MulNat.f k x (([10] : List Int))).bind fun t1828 => ((rf_OfInt.f k (((l.getD i 0).toNat : Int) - 48)).bind fun t1831 => ((rf_AddNat.f k t1828 t1831).bind fun t1834 => (rf_OfDecimal.l0 k (BA l) t1834 ((i + 1 : Nat) : Int))))) (fun k => ?_) ?_, r2⟩
    · simp only [rf_OfDecimal.l0]
      rw [if_pos g1]
      simp only [if_pos g2, e1, gw]
    · refine Ev.bind (f := fun k t1828 => ((rf_OfInt.f k (((l.getD i 0).toNat : Int) - 48)).bind fun t1831 => ((rf_AddNat.f k t1828 t1831).bind fun t1834 => (rf_OfDecimal.l0 k (BA l) t1834 ((i + 1 : Nat) : Int))))) m1 ?_
      refine Ev.bind (f := fun k t1831 => ((rf_AddNat.f k m t1831).bind fun t1834 => (rf_OfDecimal.l0 k (BA l) t1834 ((i + 1 : Nat) : Int)))) o1 ?_
      exact Ev.bind (f := fun k t1834 => (rf_OfDecimal.l0 k (BA l) t1834 ((i + 1 : Nat) : Int))) s1 r1
theorem OfDecimal_ev (l : List UInt8) (hd : ∀ b, b ∈ l → isD b) (hl : l.length ≤ 4096) : ∃ r, Ev (fun k => rf_OfDecimal.f k (BA l)) r ∧ Lim 65536 r ∧ Nrm r ∧ r.length ≤ 4 * l.length + 4 ∧ val 65536 r = sv 0 l :=
  ofdec_loop l hd hl l.length 0 [] (by omega) (lim_nil _) nrm_nil (by simp) (by simp [val, sv])
theorem trimNeg_eq (l : List UInt8) (hl : l.length ≤ 4294967296) : strings_TrimPrefix.f (BA l) ⟨#[45]⟩ = some (BA (cutNeg l).1) := by
  have h := cutNeg_eq l hl
  unfold strings_CutPrefix.f stringslite_CutPrefix.f at h
  unfold strings_TrimPrefix.f stringslite_TrimPrefix.f
  cases e : stringslite_HasPrefix.f (BA l) ⟨#[45]⟩ with
  | none => rw [e] at h; cases h
  | some t =>
    rw [e] at h
    simp only [Option.bind_some] at h ⊢
    cases t with
    | false =>
      rw [if_neg (by decide)] at h ⊢
      simp only [Option.bind_some, Option.some.injEq, Prod.mk.injEq] at h ⊢
      exact h.1
    | true =>
      rw [if_pos rfl] at h ⊢
      by_cases c1 : (0 : Int) ≤ ((⟨#[45]⟩ : ByteArray).size : Int)
      · rw [if_pos c1] at h ⊢
        by_cases c2 : ((⟨#[45]⟩ : ByteArray).size : Int) ≤ ((BA l).size : Int)
        · rw [if_pos c2] at h ⊢
          simp only [Option.bind_some, Option.some.injEq, Prod.mk.injEq] at h ⊢
          exact h.1
        · rw [if_neg c2] at h; cases h
      · rw [if_neg c1] at h; cases h
theorem cutNeg_len (l : List UInt8) : ((cutNeg l).2 = true → (cutNeg l).1.length < l.length) ∧ ((cutNeg l).2 = false → (cutNeg l).1.length = l.length) ∧ (cutNeg l).1.length ≤ l.length := by
  cases l with
  | nil => simp [cutNeg]
  | cons b r =>
    rw [cutNeg_cons]
    by_cases h : b = 45
    · rw [if_pos h]; simp
    · rw [if_neg h]; simp
theorem cutR_cases (l : List UInt8) : (∀ b, b ∈ l → b ≠ 114) ∨ ∃ u v, l = u ++ 114 :: v ∧ ∀ b, b ∈ u → b ≠ 114 := by
  induction l with
  | nil => exact Or.inl (by intro b hb; cases hb)
  | cons x l ih =>
    by_cases h : x = 114
    · exact Or.inr ⟨[], l, by rw [h]; rfl, by intro b hb; cases hb⟩
    · rcases ih with ih | ⟨u, v, e, hu⟩
      · refine Or.inl fun b hb => ?_
        rcases List.mem_cons.1 hb with rfl | hb
        · exact h
        · exact ih b hb
      · refine Or.inr ⟨x :: u, v, by rw [e]; rfl, fun b hb => ?_⟩
        rcases List.mem_cons.1 hb with rfl | hb
        · exact h
        · exact hu b hb
theorem parse_tail (neg : Bool) (u : List UInt8) (hu : ∀ b, b ∈ u → isD b) (lu : u.length ≤ 2500) (d d' : List Int) (hd : Lim 4294967296 d) (nd : Nrm d) (d0 : d ≠ []) (ld : d.length ≤ 65536) (hd' : Lim 65536 d') (nd' : Nrm d') (ld' : d'.length ≤ 65536) (hv : val 65536 d' = val 4294967296 d) :
    ∃ r, Ev (fun k => (nat_FromDecimal.f k (BA u)).bind fun t394 => ((number_made.f k neg t394 d).bind fun bt397 => (some (bt397.1, bt397.2.1, bt397.2.2.1, bt397.2.2.2)))) r ∧
      Ev (fun k => (rf_OfDecimal.f k (BA u)).bind fun t1850 => ((rf_reduce.f k neg t1850 d').bind fun bt1853 => ((rf_Made.f k bt1853.1 bt1853.2.1 bt1853.2.2).bind fun bt1860 => (some (bt1860.1, bt1860.2.1, bt1860.2.2.1, bt1860.2.2.2))))) r ∧ r.2.1.length ≤ 1048576 ∧ r.2.2.1.length ≤ 1048576 := by
  obtain ⟨x, x1, x2, x3, x4, x5⟩ := FromDecimal_ev u hu (by omega)
  obtain ⟨y, y5, y1, y2, y4, y3⟩ := OfDecimal_ev u hu (by omega)
  have d0' : d' ≠ [] := by
    rintro rfl
    have := val_pos (by decide) hd nd d0
    simp [val] at hv
    omega
  obtain ⟨p, q, m1, p1, p2, q1, q2, p3, q3⟩ := made_ev neg x d x1 x2 hd nd d0 (by omega) (by omega)
  refine ⟨outN (neg && decide (p ≠ [])) p q, ?_, ?_, ?_, ?_⟩
  · refine Ev.bind (f := fun k t394 => ((number_made.f k neg t394 d).bind fun bt397 => (some (bt397.1, bt397.2.1, bt397.2.2.1, bt397.2.2.2)))) x5 ?_
    exact Ev.bind (f := fun _ bt397 => some (bt397.1, bt397.2.1, bt397.2.2.1, bt397.2.2.2)) m1 (Ev.now _)
  · refine Ev.bind (f := fun k t1850 => ((rf_reduce.f k neg t1850 d').bind fun bt1853 => ((rf_Made.f k bt1853.1 bt1853.2.1 bt1853.2.2).bind fun bt1860 => (some (bt1860.1, bt1860.2.1, bt1860.2.2.1, bt1860.2.2.2))))) y5 ?_
    exact rmade_ev neg y d' y1 y2 hd' nd' d0' (by omega) (by omega) p q p1 p2 q1 q2 (by rw [p3, x3, y3, hv]) (by rw [q3, x3, y3, hv])
  · unfold outN
    split
    · simp
    · simp only; omega
  · unfold outN
    split
    · simp
    · simp only; omega
theorem rparse_j1 (l t u : List UInt8) (neg : Bool) (hneg : neg = true ↔ t.length < l.length) (d' : List Int) (hl : ¬ d'.length = 0) (r : Bool × List Int × List Int × Int)
    (h : Ev (fun k => (rf_OfDecimal.f k (BA u)).bind fun t1850 => ((rf_reduce.f k neg t1850 d').bind fun bt1853 => ((rf_Made.f k bt1853.1 bt1853.2.1 bt1853.2.2).bind fun bt1860 => (some (bt1860.1, bt1860.2.1, bt1860.2.2.1, bt1860.2.2.2))))) r) :
    Ev (fun k => rf_Parse.j1 k (BA l) (BA t) (BA u) d') r := by
  refine Ev.step (f := fun k => (rf_OfDecimal.f k (BA u)).bind fun t1850 => ((rf_reduce.f k neg t1850 d').bind fun bt1853 => ((rf_Made.f k bt1853.1 bt1853.2.1 bt1853.2.2).bind fun bt1860 => (some (bt1860.1, bt1860.2.1, bt1860.2.2.1, bt1860.2.2.2))))) (fun k => ?_) h
  simp only [rf_Parse.j1]
  rw [if_neg (by omega), BA_size, BA_size]
  cases neg with
  | true => rw [if_pos (by have := hneg.1 rfl; omega)]
  | false => rw [if_neg (by intro h; have := hneg.2 (by omega); cases this)]
theorem parse_both (l : List UInt8) : ∃ r, Ev (fun k => number_Parse.f k (BA l)) r ∧ Ev (fun k => rf_Parse.f k (BA l)) r ∧ r.2.1.length ≤ 1048576 ∧ r.2.2.1.length ≤ 1048576 := by
  by_cases hbig : l.length > 2500
  · refine ⟨(false, [], [], 3), Ev.ret fun k => ?_, Ev.ret fun k => ?_, by simp, by simp⟩
    · unfold number_Parse.f; rw [if_pos (by rw [BA_size]; omega)]
    · unfold rf_Parse.f; rw [if_pos (by rw [BA_size]; omega)]
  · have hsz : ¬ ((BA l).size : Int) > 2500 := by rw [BA_size]; omega
    obtain ⟨c1, c2, c3⟩ := cutNeg_len l
    have hneg : (cutNeg l).2 = true ↔ (cutNeg l).1.length < l.length := by
      constructor
      · exact c1
      · intro h
        cases e : (cutNeg l).2 with
        | true => rfl
        | false => have := c2 e; omega
    have n0 : ∀ k, number_Parse.f k (BA l) = (strings_Cut.f (BA (cutNeg l).1) (⟨#[114]⟩ : ByteArray)).bind fun bt383 => ((number_digits.f bt383.1).bind fun t386 => (if t386 = true then (if bt383.2.2 = true then ((number_digits.f bt383.2.1).bind fun t387 => (number_Parse.j0 k bt383.1 (cutNeg l).2 bt383.2.1 bt383.2.2 (!t387))) else (number_Parse.j0 k bt383.1 (cutNeg l).2 bt383.2.1 bt383.2.2 false)) else (number_Parse.j0 k bt383.1 (cutNeg l).2 bt383.2.1 bt383.2.2 true))) := by
      intro k
      unfold number_Parse.f
      rw [if_neg hsz, cutNeg_eq l (by omega), Option.bind_some]
    have r0 : ∀ k, rf_Parse.f k (BA l) = (strings_Cut.f (BA (cutNeg l).1) (⟨#[114]⟩ : ByteArray)).bind fun bt1839 => ((rf_digits.f k bt1839.1).bind fun t1842 => (if t1842 = true then (if bt1839.2.2 = true then ((rf_digits.f k bt1839.2.1).bind fun t1843 => (rf_Parse.j0 k (BA l) (BA (cutNeg l).1) bt1839.1 bt1839.2.1 bt1839.2.2 (!t1843))) else (rf_Parse.j0 k (BA l) (BA (cutNeg l).1) bt1839.1 bt1839.2.1 bt1839.2.2 false)) else (rf_Parse.j0 k (BA l) (BA (cutNeg l).1) bt1839.1 bt1839.2.1 bt1839.2.2 true))) := by
      intro k
      unfold rf_Parse.f
      rw [if_neg hsz, trimNeg_eq l (by omega), Option.bind_some]
    generalize (cutNeg l).1 = t at *
    generalize (cutNeg l).2 = neg at *
    have bad : ∀ (u v : List UInt8) (br : Bool), Ev (fun k => number_Parse.j0 k (BA u) neg (BA v) br true) (false, [], [], 6) ∧ Ev (fun k => rf_Parse.j0 k (BA l) (BA t) (BA u) (BA v) br true) (false, [], [], 6) := by
      intro u v br
      refine ⟨Ev.step (f := fun _ => some (false, [], [], 6)) (fun k => ?_) (Ev.now _), Ev.step (f := fun _ => some (false, [], [], 6)) (fun k => ?_) (Ev.now _)⟩
      · simp only [number_Parse.j0]; rw [if_pos trivial]
      · simp only [rf_Parse.j0]; rw [if_pos trivial]
    have one1 : Lim 4294967296 [1] ∧ Nrm [1] ∧ ([1] : List Int) ≠ [] := ⟨one_lim (by decide), one_nrm, by decide⟩
    rcases cutR_cases t with hno | ⟨u, v, ht, hu⟩
    · have hcut := cutR_none t hno
      by_cases hD : t ≠ [] ∧ ∀ b, b ∈ t → isD b
      · have d1 : number_digits.f (BA t) = some true := by rw [digits_eq t (by omega)]; congr 1; simp only [decide_eq_true_eq]; exact hD
        have d2 : Ev (fun k => rf_digits.f k (BA t)) true := Ev.eq (rdigits_ev t (by omega)) (by simp only [decide_eq_true_eq]; exact hD)
        obtain ⟨r, h1, h2, h3, h4⟩ := parse_tail neg t hD.2 (by omega) [1] [1] one1.1 one1.2.1 one1.2.2 (by decide) limbs_one.1 limbs_one.2.1 (by decide) (by rw [val_one, val_one])
        refine ⟨r, ?_, ?_, h3, h4⟩
        · refine Ev.congr (f := fun k => number_Parse.j0 k (BA t) neg (BA []) false false) (fun k => ?_) (Ev.step (f := fun k => (nat_FromDecimal.f k (BA t)).bind fun t394 => ((number_made.f k neg t394 [1]).bind fun bt397 => (some (bt397.1, bt397.2.1, bt397.2.2.1, bt397.2.2.2)))) (fun k => ?_) h1)
          · rw [n0, hcut, Option.bind_some]
            show (number_digits.f (BA t)).bind _ = _
            rw [d1, Option.bind_some, if_pos rfl, if_neg (show ¬ (false = true) by decide)]
          · simp only [number_Parse.j0]
            rw [if_neg (by decide), if_neg (by decide)]
        · refine Ev.congr (f := fun k => (rf_digits.f k (BA t)).bind fun t1842 => (if t1842 = true then (rf_Parse.j0 k (BA l) (BA t) (BA t) (BA []) false false) else (rf_Parse.j0 k (BA l) (BA t) (BA t) (BA []) false true))) (fun k => ?_) ?_
          · rw [r0, hcut, Option.bind_some]
            rfl
          · refine Ev.bind (f := fun k t1842 => (if t1842 = true then (rf_Parse.j0 k (BA l) (BA t) (BA t) (BA []) false false) else (rf_Parse.j0 k (BA l) (BA t) (BA t) (BA []) false true))) d2 ?_
            refine Ev.congr (f := fun k => rf_Parse.j0 k (BA l) (BA t) (BA t) (BA []) false false) (fun k => if_pos rfl) ?_
            refine Ev.step (f := fun k => rf_Parse.j1 k (BA l) (BA t) (BA t) [1]) (fun k => ?_) (rparse_j1 l t t neg hneg [1] (by decide) r h2)
            simp only [rf_Parse.j0]
            rw [if_neg (by decide), if_neg (by decide)]
      · have d1 : number_digits.f (BA t) = some false := by rw [digits_eq t (by omega)]; congr 1; simp only [decide_eq_false_iff_not]; exact hD
        have d2 : Ev (fun k => rf_digits.f k (BA t)) false := Ev.eq (rdigits_ev t (by omega)) (by simp only [decide_eq_false_iff_not]; exact hD)
        refine ⟨(false, [], [], 6), Ev.congr (fun k => ?_) (bad t [] false).1, ?_, by simp, by simp⟩
        · rw [n0, hcut, Option.bind_some]
          show (number_digits.f (BA t)).bind _ = _
          rw [d1, Option.bind_some, if_neg (by decide)]
        · refine Ev.congr (f := fun k => (rf_digits.f k (BA t)).bind fun t1842 => (if t1842 = true then (rf_Parse.j0 k (BA l) (BA t) (BA t) (BA []) false false) else (rf_Parse.j0 k (BA l) (BA t) (BA t) (BA []) false true))) (fun k => by rw [r0, hcut, Option.bind_some]; rfl) ?_
          refine Ev.bind (f := fun k t1842 => (if t1842 = true then (rf_Parse.j0 k (BA l) (BA t) (BA t) (BA []) false false) else (rf_Parse.j0 k (BA l) (BA t) (BA t) (BA []) false true))) d2 ?_
          exact Ev.congr (fun k => if_neg (by decide)) (bad t [] false).2
    · have hlt : u.length + (v.length + 1) = t.length := by rw [ht, List.length_append, List.length_cons]
      have hcut : strings_Cut.f (BA t) ⟨#[114]⟩ = some (BA u, BA v, true) := by rw [ht]; exact cutR_some u v hu (by rw [← ht]; omega)
      have rhead : ∀ k, rf_Parse.f k (BA l) = (rf_digits.f k (BA u)).bind fun t1842 => (if t1842 = true then ((rf_digits.f k (BA v)).bind fun t1843 => (rf_Parse.j0 k (BA l) (BA t) (BA u) (BA v) true (!t1843))) else (rf_Parse.j0 k (BA l) (BA t) (BA u) (BA v) true true)) := by
        intro k
        rw [r0, hcut, Option.bind_some]
        rfl
      by_cases hD : u ≠ [] ∧ ∀ b, b ∈ u → isD b
      · have d1 : number_digits.f (BA u) = some true := by rw [digits_eq u (by omega)]; congr 1; simp only [decide_eq_true_eq]; exact hD
        have d2 : Ev (fun k => rf_digits.f k (BA u)) true := Ev.eq (rdigits_ev u (by omega)) (by simp only [decide_eq_true_eq]; exact hD)
        have rnext : ∀ R, Ev (fun k => (rf_digits.f k (BA v)).bind fun t1843 => (rf_Parse.j0 k (BA l) (BA t) (BA u) (BA v) true (!t1843))) R → Ev (fun k => rf_Parse.f k (BA l)) R := by
          intro R hR
          refine Ev.congr rhead (Ev.bind (f := fun k t1842 => (if t1842 = true then ((rf_digits.f k (BA v)).bind fun t1843 => (rf_Parse.j0 k (BA l) (BA t) (BA u) (BA v) true (!t1843))) else (rf_Parse.j0 k (BA l) (BA t) (BA u) (BA v) true true))) d2 ?_)
          exact Ev.congr (fun k => if_pos rfl) hR
        by_cases hE : v ≠ [] ∧ ∀ b, b ∈ v → isD b
        · have f1 : number_digits.f (BA v) = some true := by rw [digits_eq v (by omega)]; congr 1; simp only [decide_eq_true_eq]; exact hE
          have f2 : Ev (fun k => rf_digits.f k (BA v)) true := Ev.eq (rdigits_ev v (by omega)) (by simp only [decide_eq_true_eq]; exact hE)
          obtain ⟨x, x1, x2, x3, x4, x5⟩ := FromDecimal_ev v hE.2 (by omega)
          obtain ⟨y, y5, y1, y2, y4, y3⟩ := OfDecimal_ev v hE.2 (by omega)
          have hxy : val 65536 y = val 4294967296 x := by rw [y3, x3]
          have nhead : ∀ k, number_Parse.f k (BA l) = number_Parse.j0 k (BA u) neg (BA v) true false := by
            intro k
            rw [n0, hcut, Option.bind_some]
            show (number_digits.f (BA u)).bind _ = _
            rw [d1, Option.bind_some, if_pos rfl, if_pos rfl]
            show (number_digits.f (BA v)).bind _ = _
            rw [f1]; rfl
          have nstep : ∀ R, Ev (fun k => if (x.length : Int) = 0 then (some (false, ([] : List Int), ([] : List Int), (10 : Int))) else ((nat_FromDecimal.f k (BA u)).bind fun t394 => ((number_made.f k neg t394 x).bind fun bt397 => (some (bt397.1, bt397.2.1, bt397.2.2.1, bt397.2.2.2))))) R → Ev (fun k => number_Parse.f k (BA l)) R := by
            intro R hR
            refine Ev.congr nhead (Ev.step (f := fun k => (nat_FromDecimal.f k (BA v)).bind fun t391 => (if (t391.length : Int) = 0 then (some (false, ([] : List Int), ([] : List Int), (10 : Int))) else ((nat_FromDecimal.f k (BA u)).bind fun t394 => ((number_made.f k neg t394 t391).bind fun bt397 => (some (bt397.1, bt397.2.1, bt397.2.2.1, bt397.2.2.2)))))) (fun k => by simp only [number_Parse.j0]; rw [if_neg (by decide), if_pos trivial]) ?_)
            exact Ev.bind (f := fun k t391 => (if (t391.length : Int) = 0 then (some (false, ([] : List Int), ([] : List Int), (10 : Int))) else ((nat_FromDecimal.f k (BA u)).bind fun t394 => ((number_made.f k neg t394 t391).bind fun bt397 => (some (bt397.1, bt397.2.1, bt397.2.2.1, bt397.2.2.2)))))) x5 hR
          have rstep : ∀ R, Ev (fun k => rf_Parse.j1 k (BA l) (BA t) (BA u) y) R → Ev (fun k => rf_Parse.f k (BA l)) R := by
            intro R hR
            refine rnext R (Ev.bind (f := fun k t1843 => (rf_Parse.j0 k (BA l) (BA t) (BA u) (BA v) true (!t1843))) f2 ?_)
            refine Ev.step (f := fun k => (rf_OfDecimal.f k (BA v)).bind fun t1847 => (rf_Parse.j1 k (BA l) (BA t) (BA u) t1847)) (fun k => ?_) (Ev.bind (f := fun k t1847 => (rf_Parse.j1 k (BA l) (BA t) (BA u) t1847)) y5 hR)
            simp only [Bool.not_true, rf_Parse.j0]
            rw [if_neg (by decide), if_pos trivial]
          by_cases x0 : x = []
          · have y0 : y = [] := (val_eq_zero (by decide) y1 y2).1 (by rw [hxy, x0]; rfl)
            refine ⟨(false, [], [], 10), nstep _ (Ev.ret fun k => by rw [x0]; rfl), rstep _ (Ev.step (f := fun _ => some (false, [], [], 10)) (fun k => ?_) (Ev.now _)), by simp, by simp⟩
            simp only [rf_Parse.j1]
            rw [y0]; rfl
          · have y0 : y ≠ [] := fun e => x0 ((val_eq_zero (by decide) x1 x2).1 (by rw [← hxy, e]; rfl))
            have lx : ¬ x.length = 0 := fun h' => x0 (List.length_eq_zero_iff.1 h')
            have ly : ¬ y.length = 0 := fun h' => y0 (List.length_eq_zero_iff.1 h')
            obtain ⟨r, h1, h2, h3, h4⟩ := parse_tail neg u hD.2 (by omega) x y x1 x2 x0 (by omega) y1 y2 (by omega) hxy
            exact ⟨r, nstep r (Ev.congr (fun k => if_neg (by omega)) h1), rstep r (rparse_j1 l t u neg hneg y ly r h2), h3, h4⟩
        · have f1 : number_digits.f (BA v) = some false := by rw [digits_eq v (by omega)]; congr 1; simp only [decide_eq_false_iff_not]; exact hE
          have f2 : Ev (fun k => rf_digits.f k (BA v)) false := Ev.eq (rdigits_ev v (by omega)) (by simp only [decide_eq_false_iff_not]; exact hE)
          refine ⟨(false, [], [], 6), Ev.congr (fun k => ?_) (bad u v true).1, rnext _ (Ev.bind (f := fun k t1843 => (rf_Parse.j0 k (BA l) (BA t) (BA u) (BA v) true (!t1843))) f2 (bad u v true).2), by simp, by simp⟩
          rw [n0, hcut, Option.bind_some]
          show (number_digits.f (BA u)).bind _ = _
          rw [d1, Option.bind_some, if_pos rfl, if_pos rfl]
          show (number_digits.f (BA v)).bind _ = _
          rw [f1]; rfl
      · have d1 : number_digits.f (BA u) = some false := by rw [digits_eq u (by omega)]; congr 1; simp only [decide_eq_false_iff_not]; exact hD
        have d2 : Ev (fun k => rf_digits.f k (BA u)) false := Ev.eq (rdigits_ev u (by omega)) (by simp only [decide_eq_false_iff_not]; exact hD)
        refine ⟨(false, [], [], 6), Ev.congr (fun k => ?_) (bad u v true).1, Ev.congr rhead (Ev.bind (f := fun k t1842 => (if t1842 = true then ((rf_digits.f k (BA v)).bind fun t1843 => (rf_Parse.j0 k (BA l) (BA t) (BA u) (BA v) true (!t1843))) else (rf_Parse.j0 k (BA l) (BA t) (BA u) (BA v) true true))) d2 (Ev.congr (fun k => if_neg (by decide)) (bad u v true).2)), by simp, by simp⟩
        rw [n0, hcut, Option.bind_some]
        show (number_digits.f (BA u)).bind _ = _
        rw [d1, Option.bind_some, if_neg (by decide)]
theorem parse_pure (s : ByteArray) : ∃ k, lw_NumberParseMatchesSpec.f k s = some true := by
  refine ev_rounds (g := fun k => lw_NumberParseMatchesSpec.f k s) ?_
  obtain ⟨r, h1, h2, l1, l2⟩ := parse_both s.data.toList
  rw [BA_of] at h1 h2
  obtain ⟨n, p, q, e⟩ := r
  refine Ev.bind (f := fun k bt1886 => ((rf_Parse.f k s).bind fun bt1895 => (if bt1886.2.2.2 = bt1895.2.2.2 then ((lw_same.f k bt1886.1 bt1886.2.1 bt1886.2.2.1 bt1895.1 bt1895.2.1 bt1895.2.2.1).bind fun t1904 => (if t1904 = true then ((lw_counted.f k).bind fun t1905 => (some t1905)) else (some false))) else (some false)))) h1 ?_
  refine Ev.bind (f := fun k bt1895 => (if e = bt1895.2.2.2 then ((lw_same.f k n p q bt1895.1 bt1895.2.1 bt1895.2.2.1).bind fun t1904 => (if t1904 = true then ((lw_counted.f k).bind fun t1905 => (some t1905)) else (some false))) else (some false))) h2 ?_
  refine Ev.congr (f := fun k => (lw_same.f k n p q n p q).bind fun t1904 => (if t1904 = true then ((lw_counted.f k).bind fun t1905 => (some t1905)) else (some false))) (fun k => if_pos rfl) ?_
  refine Ev.bind (f := fun k t1904 => (if t1904 = true then ((lw_counted.f k).bind fun t1905 => (some t1905)) else (some false))) (same_ev n p q n p q (by simp only at l1; omega) (by simp only at l2; omega)) ?_
  refine Ev.congr (f := fun k => (lw_counted.f k).bind fun t1905 => (some t1905)) (fun k => if_pos (by simp)) ?_
  exact Ev.bind (f := fun _ t => some t) counted_ev (Ev.now _)
end Go.Proofs.YtemnjgkicndmjaaDoor.Q
namespace Go.Proofs.YtemnjgkicndmjaaDoor.Q
open Go.ChangeShapes Go.WideShapes Go.ChangeAt Go.RowKit Go.Joins Go.Proofs.YtemnjgkicndmjaaDoorW.PrintWords Go.Proofs.YtemnjgkicndmjaaDoorW.PrintLast Go.Proofs.YtemnjgkicndmjaaDoorW.PrintMore
set_option linter.unusedVariables false
namespace ParseLaw
set_option maxRecDepth 100000 in
theorem contract (H : Type) (enc : TypeId × Value → H) (W : World) (base : Nat) (args : Array Value) (ds gs : List (DataW H)) (before : List MemPlace)
    (hval : ∀ (j : Nat) t v, Tryd.f5.params[j]? = some t → args[j]? = some v → Value.okWide Tryd.prog W .any base t v)
    (hW : DataW.Whole enc Tryd.prog Tryd.f5.params.toList Rows.numberParseMatchesSpecSpec.vars false W args.toList ds gs before) :
    Calls Tryd.prog 5 args W fun e W' => ∃ v, e = .returned v ∧ Rows.numberParseMatchesSpecSpec.post enc Tryd.prog Tryd.f5 false true false false W args v W' := by
  have hW' := hW
  obtain ⟨p, q, hA0, hV, rfl, hfz, hnd⟩ := hW
  have hA : DataW.TrodAll enc Tryd.prog W 0 (fun _ => true) true Tryd.f5.params.toList args.toList ds p := hA0
  rw [Tryd.params5] at hA hval
  obtain ⟨v0, vs0, d0, ds0, p0, q0, hargs, rfl, rfl, h0, r0⟩ := trodAll_cons hA
  obtain ⟨rfl, rfl, rfl⟩ := trodAll_nil r0
  obtain rfl : args = #[v0] := by cases args; simp_all
  obtain ⟨rfl, rfl⟩ := trodVars_none hV
  obtain ⟨a0, rfl, rfl, rfl, w0⟩ := Go.ChangeMaps.open_string Tryd.underlying9 (hval 0 9 v0 rfl rfl) h0
  clear hA0
  simp only [List.append_nil] at hW'
  obtain ⟨k, hk⟩ := parse_pure a0
  refine (lw_NumberParseMatchesSpec.calls k a0 true W hk rfl).mono fun e W' ⟨he, bel⟩ => ?_
  subst he
  exact ⟨_, rfl, _, _, _, [], _, [], hW', trodAll_mk1 (shut_bool Tryd.underlying4 _), (trodAll_cons_mk (Go.ChangeMaps.shut_string Tryd.underlying9 w0) trodAll_mk0), rfl, bel.frame _, fun h => by cases h⟩
theorem reads (os : Os) {H : Type} (enc : TypeId × Value → H) : ∃ places, DataW.whole enc Tryd.prog ((laidWorld os).forCall (fun _ _ => 0) ⟨#[], #[.string ByteArray.empty], []⟩).memory Tryd.f5.params.toList Rows.numberParseMatchesSpecSpec.vars false #[Value.string ByteArray.empty].toList 8 = some ([.lit (.string [])], [], places) :=
  ⟨[], by kernel_rfl⟩
set_option maxRecDepth 100000 in
theorem lifted (os : Os) (started : os.Started) (H : Type) (enc : TypeId × Value → H) (F : Stop.Interp) :
    ReturnsInHanded {} Tryd.checked os 5 .any ((OpenSpec.ofChange Rows.numberParseMatchesSpecSpec).preRow enc Tryd.prog Tryd.f5 Rows.numberParseMatchesSpecRow.domain false Rows.numberParseMatchesSpecRow.laid) (((OpenSpec.ofChange Rows.numberParseMatchesSpecSpec).at F).post enc Tryd.prog Tryd.f5 false true false false) := by
  obtain ⟨places, hx⟩ := reads os enc
  refine returnsInHanded_of_row (C := Tryd.checked) (s := OpenSpec.ofChange Rows.numberParseMatchesSpecSpec) own started (by kernel_rfl) Tryd.func5
    (witness_row_at (enc := enc) (C := Tryd.checked) false (laidWorld os) #[.string ByteArray.empty] rfl (by kernel_rfl) (by kernel_rfl) (by kernel_rfl)
      (OpenSpec.preRow_of_cond 8 hx (by kernel_rfl) (fun k hk => by cases hk) (by kernel_rfl) (laid_met os _))) ?_
  intro W base args ds gs before hval hW _ _ _ hL _ _
  exact contract H enc W base args ds gs before hval hW
theorem said : Rows.NumberParseMatchesSpecSaid :=
  OpenClaim.holds_of_cond 5 Tryd.f5 rfl rfl rfl rfl rfl rfl rfl ⟨rfl, rfl, rfl, rfl, rfl⟩ rfl rfl rfl rfl rfl (by kernel_rfl) Tryd.func5 (by kernel_rfl)
    (of_decide_eq_true (by kernel_rfl)) (by unfold Func.isWrapper; first | (rw [if_pos (by decide +kernel)]; kernel_rfl) | (rw [if_neg (by decide +kernel)]; exact ⟨rfl, rfl⟩))
    (fun os started H enc _ F => by rw [OpenClaim.pre_eq_preRow]; exact lifted os started H enc F)
theorem plain (f : FuncId) (fn : Func) (hf : Tryd.pinned.checked.prog.funcNamed "fetterlock/fetterlocklaw1.NumberParseMatchesSpec" = some f) (hfn : Tryd.pinned.checked.prog.funcs[f]? = some fn) :
    false = Tryd.pinned.checked.prog.looks [] ∧ ∀ (j : Nat) t, fn.params[j]? = some t → Tryd.pinned.checked.prog.wantsStandIn t = false := by
  obtain rfl : f = 5 := Option.some.inj ((show Tryd.prog.funcNamed "fetterlock/fetterlocklaw1.NumberParseMatchesSpec" = some 5 by kernel_rfl).symm.trans hf) |>.symm
  obtain rfl : fn = Tryd.f5 := (Option.some.inj (Tryd.func5.symm.trans hfn)).symm
  refine ⟨by kernel_rfl, fun j t ht => ?_⟩
  rw [Tryd.params5] at ht
  obtain rfl : t = 9 := by simpa using Array.mem_of_getElem? ht
  exact (show Tryd.prog.wantsStandIn 9 = false by kernel_rfl)
theorem card : Rows.NumberParseMatchesSpecCardSaid :=
  Claim7.holds_tied_plain_at .later [] _ _ _ _ said (fun _ h => by cases h) (by kernel_rfl) (fun _ h => by cases h) numberParseMatchesSpec_row_tie rfl ⟨rfl, rfl⟩ (by kernel_rfl) rfl plain (by kernel_rfl)
end ParseLaw
end Go.Proofs.YtemnjgkicndmjaaDoor.Q
namespace Go.Proofs.YtemnjgkicndmjaaDoor
theorem numberParseMatchesSpec_holds : Rows.NumberParseMatchesSpecCardSaid := Q.ParseLaw.card
end Go.Proofs.YtemnjgkicndmjaaDoor

