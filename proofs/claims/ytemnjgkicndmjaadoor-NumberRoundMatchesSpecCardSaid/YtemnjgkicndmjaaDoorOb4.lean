/- What this text proves: a part of the walk and of the plain laws of one card; no conditions. -/
import Derived.Test.YtemnjgkicndmjaaDoorOb3
namespace Go.Proofs.YtemnjgkicndmjaaDoor.Q
open Go.RowKit Go.Proofs.YtemnjgkicndmjaaDoor.E Go.Proofs.YtemnjgkicndmjaaDoorW.PrintWords Go.Proofs.YtemnjgkicndmjaaDoorW.PrintLast Go.Proofs.YtemnjgkicndmjaaDoorW.PrintMore
set_option linter.unusedVariables false
noncomputable def rf_Floor.c (R : Type) (a : Nm) (K : (Nm) → Option R) : Option R :=
  (rf_DivNat.c _ (a.2.1, a.2.2) fun t1 => (if a.1 = true then (if (decide ((t1.2.length : Int) > (0 : Int))) = true then (rf_AddNat.c _ (t1.1, ([(1 : Int)] : List Int)) fun t2 => (if a.1 = true then K ((decide ((t2.length : Int) > (0 : Int))), t2, ([(1 : Int)] : List Int)) else K (false, t2, ([(1 : Int)] : List Int)))) else (if a.1 = true then K ((decide ((t1.1.length : Int) > (0 : Int))), t1.1, ([(1 : Int)] : List Int)) else K (false, t1.1, ([(1 : Int)] : List Int)))) else (if a.1 = true then K ((decide ((t1.1.length : Int) > (0 : Int))), t1.1, ([(1 : Int)] : List Int)) else K (false, t1.1, ([(1 : Int)] : List Int)))))
noncomputable def rf_Floor.T71 (g76 : CF (List Int × List Int) ((List Int × List Int))) (g90 : CF (List Int × List Int) (List Int)) : List (Nat × Fun) := []
theorem rf_Floor.tok71 : TOk Tryd.prog (tb (rf_Floor.T71 rf_DivNat.c rf_AddNat.c)) := tb_nil
noncomputable def rf_Floor.T (g76 : CF (List Int × List Int) ((List Int × List Int))) (g90 : CF (List Int × List Int) (List Int)) : List (Nat × Fun) := [(71, execFn' Tryd.prog (tb (rf_Floor.T71 g76 g90)) 60 Tryd.f71), (76, mk (more rI (one rI)) (tup (more rI (one rI))) g76), (90, mk (more rI (one rI)) rI g90)]
theorem rf_Floor.tok : TOk Tryd.prog (tb (rf_Floor.T rf_DivNat.c rf_AddNat.c)) := (tb_cons (execFn'_ok rf_Floor.tok71 mixed Tryd.func71 (by kernel_rfl)) (tb_cons rf_DivNat.ok (tb_cons rf_AddNat.ok tb_nil)))
set_option maxRecDepth 100000 in
theorem rf_Floor.ex0 (g76 : CF (List Int × List Int) ((List Int × List Int))) (g90 : CF (List Int × List Int) (List Int)) (R : Type) (a : Nm) (K : (Nm) → Option R) : execFn' Tryd.prog (tb (rf_Floor.T g76 g90)) 60 Tryd.f75 R ((one kQ).enc a) (dk kQ K) = (g76 _ (a.2.1, a.2.2) fun t1 => (if a.1 = true then (if (decide ((t1.2.length : Int) > (0 : Int))) = true then (g90 _ (t1.1, ([(1 : Int)] : List Int)) fun t2 => (if a.1 = true then K ((decide ((t2.length : Int) > (0 : Int))), t2, ([(1 : Int)] : List Int)) else K (false, t2, ([(1 : Int)] : List Int)))) else (if a.1 = true then K ((decide ((t1.1.length : Int) > (0 : Int))), t1.1, ([(1 : Int)] : List Int)) else K (false, t1.1, ([(1 : Int)] : List Int)))) else (if a.1 = true then K ((decide ((t1.1.length : Int) > (0 : Int))), t1.1, ([(1 : Int)] : List Int)) else K (false, t1.1, ([(1 : Int)] : List Int))))) := by kernel_rfl
theorem rf_Floor.sh : Shown Tryd.prog 75 (one kQ).enc kQ rf_Floor.c := exec_shown rf_Floor.tok mixed Tryd.func75 (by kernel_rfl) (rf_Floor.ex0 rf_DivNat.c rf_AddNat.c)
theorem rf_Floor.ok : FunOk Tryd.prog 75 (mk (one kQ) kQ rf_Floor.c) := rf_Floor.sh.ok (by kernel_rfl)
end Go.Proofs.YtemnjgkicndmjaaDoor.Q

namespace Go.Proofs.YtemnjgkicndmjaaDoor.Q
open Go.RowKit Go.Proofs.YtemnjgkicndmjaaDoorW.PrintWords Go.Proofs.YtemnjgkicndmjaaDoorW.PrintLast Go.Proofs.YtemnjgkicndmjaaDoorW.PrintMore
attribute [local go_sem] max2_int min2_int max_two min_two max_three min_three max_four min_four
set_option linter.unusedVariables false
set_option linter.unusedSimpArgs false
def rf_root.l0 : Nat → List Int → List Int → Int → Option (List Int)
 | 0, _, _, _ => none
 | k + 1, x0, x3, x4 => if x4 ≥ 0 then ((rf_ShlNat.f k (([1] : List Int)) x4).bind fun t2293 => ((rf_AddNat.f k x3 t2293).bind fun t2296 => ((rf_MulNat.f k t2296 t2296).bind fun t2299 => ((rf_CmpNat.f k t2299 x0).bind fun t2302 => (if t2302 ≤ 0 then (rf_root.l0 k x0 t2296 (wrap64 (x4 - 1))) else (rf_root.l0 k x0 x3 (wrap64 (x4 - 1)))))))) else (some x3)
def rf_root.f (k : Nat) (l0 : List Int) : Option (List Int) := (rf_LenNat.f k l0).bind fun t2289 => (rf_root.l0 k l0 ([] : List Int) (wrap64 ((wrap64 (Int.tdiv t2289 2)) + 1)))
theorem rf_root.mono_l : ∀ k, (∀ y0 y1 y2, LeO (rf_root.l0 k y0 y1 y2) (rf_root.l0 (k + 1) y0 y1 y2))
 | 0 => fun _ _ _ r h => by simp [rf_root.l0] at h
 | k + 1 => by
  have ih0 := rf_root.mono_l k
  ·intro y0 y1 y2
   unfold rf_root.l0
   have m0 := ih0
   have m1 := @rf_AddNat.mono
   have m2 := @rf_CmpNat.mono
   have m3 := @rf_LenNat.mono
   have m4 := @rf_MulNat.mono
   have m5 := @rf_ShlNat.mono
   exact zm
theorem rf_root.mono : ∀ a0 k, LeO (rf_root.f k a0) (rf_root.f (k + 1) a0) := by
 intro a0 k
 have ih0 := rf_root.mono_l k
 unfold rf_root.f
 have m0 := ih0
 have m1 := @rf_AddNat.mono
 have m2 := @rf_CmpNat.mono
 have m3 := @rf_LenNat.mono
 have m4 := @rf_MulNat.mono
 have m5 := @rf_ShlNat.mono
 exact zm
set_option maxHeartbeats 8000000 in
set_option maxRecDepth 100000 in
theorem rf_root.calls (k : Nat) (A0 : Option Addr) (c0 : Nat) (l0 : List Int) (r : List Int) (w : World) (hr0 : Kd.C (Kd.int .i64) w A0 l0.length l0) (hc0 : l0.length ≤ c0) (h : rf_root.f k l0 = some r) :
  Calls Tryd.prog 89 #[.slice A0 l0.length c0] w fun e w' => ∃ v0_ : Value, e = .returned (v0_) ∧ Kd.V (Kd.int .i64) 3 w' w.heap.size (fun k_ => (w.heap.size ≤ k_)) v0_ r ∧ Below w.heap.size w w' := by
 have HR0 := am hr0
 have HC0 := am hc0
 clear hr0 hc0
 have HB := am (Below.refl w.heap.size w)
 have H := h
 unfold rf_root.f at H
 clear h
 replace H := zj H
 obtain ⟨t2289, A2, H⟩ := H
 have H' := am H
 clear H
 go_enter Tryd.func89, Tryd.ntmps89
 go_wp2_with (first | ((with_reducible refine gate_callee (f := 113) rfl ?_); refine goesL_ (some 7) rfl rfl Tryd.func113 (by kernel_rfl) rfl #[.slice A0 l0.length c0] rfl zq5 ?_; (with_reducible refine (rf_LenNat.calls k _ _ l0 t2289 _ ?side1 ?side2 A2.out).mono ?_); (case side1 => exact zc (HR0.out)); (case side2 => exact HC0.out); rintro e w' ⟨rfl, ⟨nd, rfl⟩⟩; refine ⟨_, rfl, ?_⟩))
 go_loopg [3, 4] k (fun kq v3 v4 w' => ∃ (x3_1 : List Int) (x4_1 : Int), v4 = .int .i64 x4_1 ∧ Aside0 (rf_root.l0 kq l0 x3_1 x4_1 = some r) ∧ Aside0 (kq ≤ k) ∧ Aside0 (Kd.V (Kd.int .i64) 3 w' w.heap.size (fun k_ => (w.heap.size ≤ k_)) v3 x3_1) ∧ Aside0 (Below w.heap.size w w'))
 case atStart => exact ⟨(([] : List Int)), (wrap64 ((wrap64 (Int.tdiv t2289 2)) + 1)), zq8, H', ⟨Nat.le_refl _⟩, ⟨Kd.V_nil _ _ _ _ _⟩, ⟨zq1⟩⟩
 case round =>
  clear H'
  obtain ⟨x3_1, x4_1, rfl, HA, HK1, HO_3, HB⟩ := hrel
  cases gk with
  | zero => exact absurd HA.out (by simp [rf_root.l0])
  | succ k1 =>
   have H := HA.out
   clear HA
   simp only [rf_root.l0] at H
   by_cases c3 : x4_1 ≥ 0
   ·rw [if_pos c3] at H
    have c3b0 : decide (0 ≤ x4_1) = true := decide_eq_true c3
    clear c3
    obtain ⟨y2290, hy2290⟩ : ∃ y_ : List Int, y_ = (([1] : List Int)) := ⟨_, rfl⟩
    try rw [← hy2290] at H
    have Ny2290 := am hy2290
    clear hy2290
    replace H := zj H
    obtain ⟨t2293, A4, H⟩ := H
    replace H := zj H
    obtain ⟨t2296, A5, H⟩ := H
    replace H := zj H
    obtain ⟨t2299, A6, H⟩ := H
    replace H := zj H
    obtain ⟨t2302, A7, H⟩ := H
    by_cases c8 : t2302 ≤ 0
    ·rw [if_pos c8] at H
     have c8b0 := decide_eq_true c8
     clear c8
     have H' := am H
     clear H
     go_wp2_with (first | ((with_reducible refine gate_dst (N := 15) rfl ?_); refine Kd.R_lit (Kd.int .i64) _ 3 ?hg (N := 15) ?hd (xs := ([1] : List Int)) (inner := [.int .i64 1]) (ok := fun _ => True) (okp := fun _ => True) ?hr ?hp (fun _ hk => hk) trivial (Below.refl _ _) (Nat.le_refl _) (by simp) ?_; (case hd => rfl); (case hg => rfl); (case hr => exact zr); (case hp => exact (Reps.one (show Kd.M (Kd.int .i64) _ _ _ 1 [.int .i64 1] from rfl) (Reps.none _ _))); intro v2291 w9 ho10 hb hg_ hnew_; clear hg_ hnew_; (first | rw [← Ny2290.out] at ho10 | (simp only [Int.reduceToNat] at ho10; rw [← Ny2290.out] at ho10)); refine zt3 (Kd.V_elder' (zq3 HO_3.out) (Kd.R_base ho10) hb) (Kd.R_lower (Kd.R_newM (M := fun k_ => (w.heap.size ≤ k_)) ho10 (below_size zq1) (fun k_ h_ => h_)) (below_size zq1)) (below_step zq1 hb) ?_; clear HO_3 HB; intro HO_3 HO2292 HB; clear hb ho10; obtain ⟨Ao11, co11, eo11⟩ := Kd.R_slice HO2292.out; subst eo11) | ((with_reducible refine gate_callee (f := 82) rfl ?_); refine goesL_ (some 17) rfl rfl Tryd.func82 (by kernel_rfl) rfl #[.slice Ao11 y2290.length co11, .int .i64 x4_1] rfl zq5 ?_; (with_reducible refine (rf_ShlNat.calls k1 _ _ y2290 x4_1 t2293 _ ?side1 ?side2 A4.out).mono ?_); (case side1 => exact zc ((Kd.R_reads' HO2292.out).2.2)); (case side2 => exact (Kd.R_reads' HO2292.out).2.1); rintro e w12 ⟨v2294, rfl, ho0, hb⟩; refine ⟨_, rfl, ?_⟩; refine zt4 (vb HO_3 hb) (rb HO2292 hb) (Kd.V_lower (Kd.V_mono (ok' := fun k_ => (w.heap.size ≤ k_) ∧ some k_ ≠ (.slice Ao11 y2290.length co11 : Value).ownBlock) ho0 (fun k_ hk_ => ⟨(Nat.le_trans (below_size zq1) hk_), (Kd.fresh' (Kd.R_lt (zq4 HO2292.out)) k_ hk_)⟩)) (below_size zq1)) (below_step zq1 hb) ?_; clear HO_3 HO2292 HB; intro HO_3 HO2292 HO2295 HB; obtain ⟨Ao13, co13, eo13⟩ := Kd.V_slice HO_3.out; subst eo13; obtain ⟨Ao14, co14, eo14⟩ := Kd.V_slice HO2295.out; subst eo14) | ((with_reducible refine gate_callee (f := 90) rfl ?_); refine goesL_ (some 18) rfl rfl Tryd.func90 (by kernel_rfl) rfl #[.slice Ao13 x3_1.length co13, .slice Ao14 t2293.length co14] rfl zq5 ?_; (with_reducible refine (rf_AddNat.calls k1 _ _ x3_1 _ _ t2293 t2296 _ ?side1 ?side2 ?side3 ?side4 A5.out).mono ?_); (case side1 => exact zc ((Kd.V_reads' HO_3.out).2.2)); (case side2 => exact (Kd.V_reads' HO_3.out).2.1); (case side3 => exact zc ((Kd.V_reads' HO2295.out).2.2)); (case side4 => exact (Kd.V_reads' HO2295.out).2.1); rintro e w15 ⟨v2297, rfl, ho0, hb⟩; refine ⟨_, rfl, ?_⟩; refine zt5 (vb HO_3 hb) (rb HO2292 hb) (vb HO2295 hb) (Kd.V_lower (Kd.V_mono (ok' := fun k_ => (w.heap.size ≤ k_) ∧ some k_ ≠ (.slice Ao11 y2290.length co11 : Value).ownBlock) ho0 (fun k_ hk_ => ⟨(Nat.le_trans (below_size zq1) hk_), (Kd.fresh' (Kd.R_lt (zq4 HO2292.out)) k_ hk_)⟩)) (below_size zq1)) (below_step zq1 hb) ?_; clear HO_3 HO2292 HO2295 HB; intro HO_3 HO2292 HO2295 HO2298 HB; obtain ⟨Ao16, co16, eo16⟩ := Kd.V_slice HO2298.out; subst eo16) | ((with_reducible refine gate_callee (f := 63) rfl ?_); refine goesL_ (some 21) rfl rfl Tryd.func63 (by kernel_rfl) rfl #[.slice Ao16 t2296.length co16, .slice Ao16 t2296.length co16] rfl zq5 ?_; (with_reducible refine (rf_MulNat.calls k1 _ _ t2296 _ _ t2296 t2299 _ ?side1 ?side2 ?side3 ?side4 A6.out).mono ?_); (case side1 => exact zc ((Kd.V_reads' HO2298.out).2.2)); (case side2 => exact (Kd.V_reads' HO2298.out).2.1); (case side3 => exact zc ((Kd.V_reads' HO2298.out).2.2)); (case side4 => exact (Kd.V_reads' HO2298.out).2.1); rintro e w17 ⟨v2300, rfl, ho0, hb⟩; refine ⟨_, rfl, ?_⟩; refine zt6 (vb HO_3 hb) (rb HO2292 hb) (vb HO2295 hb) (vb HO2298 hb) (Kd.V_lower (Kd.V_mono (ok' := fun k_ => (w.heap.size ≤ k_) ∧ some k_ ≠ (.slice Ao11 y2290.length co11 : Value).ownBlock) ho0 (fun k_ hk_ => ⟨(Nat.le_trans (below_size zq1) hk_), (Kd.fresh' (Kd.R_lt (zq4 HO2292.out)) k_ hk_)⟩)) (below_size zq1)) (below_step zq1 hb) ?_; clear HO_3 HO2292 HO2295 HO2298 HB; intro HO_3 HO2292 HO2295 HO2298 HO2301 HB; obtain ⟨Ao18, co18, eo18⟩ := Kd.V_slice HO2301.out; subst eo18) | ((with_reducible refine gate_callee (f := 46) rfl ?_); refine goesL_ (some 23) rfl rfl Tryd.func46 (by kernel_rfl) rfl #[.slice Ao18 t2299.length co18, .slice A0 l0.length c0] rfl zq5 ?_; (with_reducible refine (rf_CmpNat.calls k1 _ _ t2299 _ _ l0 t2302 _ ?side1 ?side2 ?side3 ?side4 A7.out).mono ?_); (case side1 => exact zc ((Kd.V_reads' HO2301.out).2.2)); (case side2 => exact (Kd.V_reads' HO2301.out).2.1); (case side3 => exact zc (Kd.C_below HR0.out HB.out)); (case side4 => exact HC0.out); rintro e w19 ⟨rfl, hb⟩; refine ⟨_, rfl, ?_⟩; refine zt6 (vb HO_3 hb) (rb HO2292 hb) (vb HO2295 hb) (vb HO2298 hb) (vb HO2301 hb) (below_step zq1 hb) ?_; clear HO_3 HO2292 HO2295 HO2298 HO2301 HB; intro HO_3 HO2292 HO2295 HO2298 HO2301 HB; (try clear hb); (try clear hb2); (try clear hk); (try clear hi)))
     go_roundg k1
     case measure => have := HK1.out; omega
     case rel => exact ⟨(t2296), (wrap64 (x4_1 - 1)), zq8, H', ⟨by have := HK1.out; omega⟩, ⟨zwV (h := by exact Kd.V_mono HO2298.out (fun _ hk => hk.1))⟩, ⟨zq1⟩⟩
    ·rw [if_neg c8] at H
     have c8b0 := decide_eq_false c8
     clear c8
     have H' := am H
     clear H
     go_wp2_with (first | ((with_reducible refine gate_dst (N := 15) rfl ?_); refine Kd.R_lit (Kd.int .i64) _ 3 ?hg (N := 15) ?hd (xs := ([1] : List Int)) (inner := [.int .i64 1]) (ok := fun _ => True) (okp := fun _ => True) ?hr ?hp (fun _ hk => hk) trivial (Below.refl _ _) (Nat.le_refl _) (by simp) ?_; (case hd => rfl); (case hg => rfl); (case hr => exact zr); (case hp => exact (Reps.one (show Kd.M (Kd.int .i64) _ _ _ 1 [.int .i64 1] from rfl) (Reps.none _ _))); intro v2291 w20 ho21 hb hg_ hnew_; clear hg_ hnew_; (first | rw [← Ny2290.out] at ho21 | (simp only [Int.reduceToNat] at ho21; rw [← Ny2290.out] at ho21)); refine zt3 (Kd.V_elder' (zq3 HO_3.out) (Kd.R_base ho21) hb) (Kd.R_lower (Kd.R_newM (M := fun k_ => (w.heap.size ≤ k_)) ho21 (below_size zq1) (fun k_ h_ => h_)) (below_size zq1)) (below_step zq1 hb) ?_; clear HO_3 HB; intro HO_3 HO2292 HB; clear hb ho21; obtain ⟨Ao22, co22, eo22⟩ := Kd.R_slice HO2292.out; subst eo22) | ((with_reducible refine gate_callee (f := 82) rfl ?_); refine goesL_ (some 17) rfl rfl Tryd.func82 (by kernel_rfl) rfl #[.slice Ao22 y2290.length co22, .int .i64 x4_1] rfl zq5 ?_; (with_reducible refine (rf_ShlNat.calls k1 _ _ y2290 x4_1 t2293 _ ?side1 ?side2 A4.out).mono ?_); (case side1 => exact zc ((Kd.R_reads' HO2292.out).2.2)); (case side2 => exact (Kd.R_reads' HO2292.out).2.1); rintro e w23 ⟨v2294, rfl, ho0, hb⟩; refine ⟨_, rfl, ?_⟩; refine zt4 (vb HO_3 hb) (rb HO2292 hb) (Kd.V_lower (Kd.V_mono (ok' := fun k_ => (w.heap.size ≤ k_) ∧ some k_ ≠ (.slice Ao22 y2290.length co22 : Value).ownBlock) ho0 (fun k_ hk_ => ⟨(Nat.le_trans (below_size zq1) hk_), (Kd.fresh' (Kd.R_lt (zq4 HO2292.out)) k_ hk_)⟩)) (below_size zq1)) (below_step zq1 hb) ?_; clear HO_3 HO2292 HB; intro HO_3 HO2292 HO2295 HB; obtain ⟨Ao24, co24, eo24⟩ := Kd.V_slice HO_3.out; subst eo24; obtain ⟨Ao25, co25, eo25⟩ := Kd.V_slice HO2295.out; subst eo25) | ((with_reducible refine gate_callee (f := 90) rfl ?_); refine goesL_ (some 18) rfl rfl Tryd.func90 (by kernel_rfl) rfl #[.slice Ao24 x3_1.length co24, .slice Ao25 t2293.length co25] rfl zq5 ?_; (with_reducible refine (rf_AddNat.calls k1 _ _ x3_1 _ _ t2293 t2296 _ ?side1 ?side2 ?side3 ?side4 A5.out).mono ?_); (case side1 => exact zc ((Kd.V_reads' HO_3.out).2.2)); (case side2 => exact (Kd.V_reads' HO_3.out).2.1); (case side3 => exact zc ((Kd.V_reads' HO2295.out).2.2)); (case side4 => exact (Kd.V_reads' HO2295.out).2.1); rintro e w26 ⟨v2297, rfl, ho0, hb⟩; refine ⟨_, rfl, ?_⟩; refine zt5 (vb HO_3 hb) (rb HO2292 hb) (vb HO2295 hb) (Kd.V_lower (Kd.V_mono (ok' := fun k_ => (w.heap.size ≤ k_) ∧ some k_ ≠ (.slice Ao22 y2290.length co22 : Value).ownBlock) ho0 (fun k_ hk_ => ⟨(Nat.le_trans (below_size zq1) hk_), (Kd.fresh' (Kd.R_lt (zq4 HO2292.out)) k_ hk_)⟩)) (below_size zq1)) (below_step zq1 hb) ?_; clear HO_3 HO2292 HO2295 HB; intro HO_3 HO2292 HO2295 HO2298 HB; obtain ⟨Ao27, co27, eo27⟩ := Kd.V_slice HO2298.out; subst eo27) | ((with_reducible refine gate_callee (f := 63) rfl ?_); refine goesL_ (some 21) rfl rfl Tryd.func63 (by kernel_rfl) rfl #[.slice Ao27 t2296.length co27, .slice Ao27 t2296.length co27] rfl zq5 ?_; (with_reducible refine (rf_MulNat.calls k1 _ _ t2296 _ _ t2296 t2299 _ ?side1 ?side2 ?side3 ?side4 A6.out).mono ?_); (case side1 => exact zc ((Kd.V_reads' HO2298.out).2.2)); (case side2 => exact (Kd.V_reads' HO2298.out).2.1); (case side3 => exact zc ((Kd.V_reads' HO2298.out).2.2)); (case side4 => exact (Kd.V_reads' HO2298.out).2.1); rintro e w28 ⟨v2300, rfl, ho0, hb⟩; refine ⟨_, rfl, ?_⟩; refine zt6 (vb HO_3 hb) (rb HO2292 hb) (vb HO2295 hb) (vb HO2298 hb) (Kd.V_lower (Kd.V_mono (ok' := fun k_ => (w.heap.size ≤ k_) ∧ some k_ ≠ (.slice Ao22 y2290.length co22 : Value).ownBlock) ho0 (fun k_ hk_ => ⟨(Nat.le_trans (below_size zq1) hk_), (Kd.fresh' (Kd.R_lt (zq4 HO2292.out)) k_ hk_)⟩)) (below_size zq1)) (below_step zq1 hb) ?_; clear HO_3 HO2292 HO2295 HO2298 HB; intro HO_3 HO2292 HO2295 HO2298 HO2301 HB; obtain ⟨Ao29, co29, eo29⟩ := Kd.V_slice HO2301.out; subst eo29) | ((with_reducible refine gate_callee (f := 46) rfl ?_); refine goesL_ (some 23) rfl rfl Tryd.func46 (by kernel_rfl) rfl #[.slice Ao29 t2299.length co29, .slice A0 l0.length c0] rfl zq5 ?_; (with_reducible refine (rf_CmpNat.calls k1 _ _ t2299 _ _ l0 t2302 _ ?side1 ?side2 ?side3 ?side4 A7.out).mono ?_); (case side1 => exact zc ((Kd.V_reads' HO2301.out).2.2)); (case side2 => exact (Kd.V_reads' HO2301.out).2.1); (case side3 => exact zc (Kd.C_below HR0.out HB.out)); (case side4 => exact HC0.out); rintro e w30 ⟨rfl, hb⟩; refine ⟨_, rfl, ?_⟩; refine zt6 (vb HO_3 hb) (rb HO2292 hb) (vb HO2295 hb) (vb HO2298 hb) (vb HO2301 hb) (below_step zq1 hb) ?_; clear HO_3 HO2292 HO2295 HO2298 HO2301 HB; intro HO_3 HO2292 HO2295 HO2298 HO2301 HB; (try clear hb); (try clear hb2); (try clear hk); (try clear hi)))
     go_roundg k1
     case measure => have := HK1.out; omega
     case rel => exact ⟨(x3_1), (wrap64 (x4_1 - 1)), zq8, H', ⟨by have := HK1.out; omega⟩, ⟨zwV (h := by exact Kd.V_mono HO_3.out (fun _ hk => hk.1))⟩, ⟨zq1⟩⟩
   ·rw [if_neg c3] at H
    have c3b0 : decide (0 ≤ x4_1) = false := decide_eq_false c3
    clear c3
    obtain rfl := Option.some.inj H
    go_wp2
    go_ret
    exact ⟨_, zq9, zq3 HO_3.out, zq1⟩
end Go.Proofs.YtemnjgkicndmjaaDoor.Q
namespace Go.Proofs.YtemnjgkicndmjaaDoor.Q
open Go.RowKit Go.Proofs.YtemnjgkicndmjaaDoor.E Go.Proofs.YtemnjgkicndmjaaDoorW.PrintWords Go.Proofs.YtemnjgkicndmjaaDoorW.PrintLast Go.Proofs.YtemnjgkicndmjaaDoorW.PrintMore
set_option linter.unusedVariables false
noncomputable def rf_root.c : (R : Type) → (List Int) → ((List Int) → Option R) → Option R := fun R a => lm (fun (a : List Int) k => rf_root.f k a) R a
theorem rf_root.pc (a : List Int) (b : List Int) (k : Nat) (h : rf_root.f k a = some b) : PureC Tryd.prog 89 ((one rI).enc a) (rI.enc b) := by
  intro w P0 vs hr
  obtain ⟨A0, c0, u0, e0, hc0, hf0, hr⟩ := at_row hr
  have z := at_nil hr
  subst z
  have q1 := e0
  obtain rfl : vs = #[.slice A0 a.length c0] := Array.toList_inj.1 (by simpa using q1)
  refine Calls.mono (rf_root.calls k A0 c0 a b w (now hf0) hc0 h) fun e w' he => ?_
  obtain ⟨v0_, rfl, hv0, hb⟩ := he
  exact ⟨_, rfl, hb, (V_row hv0 fun n hn => .inr hn)⟩
theorem rf_root.ok : FunOk Tryd.prog 89 (mk (one rI) rI rf_root.c) := lm_ok (by kernel_rfl) rf_root.pc
theorem rf_root.eq {x0 : List Int} {b : List Int} (h : Ev (fun k => rf_root.f k x0) b) {R : Type} (K : (List Int) → Option R) : rf_root.c R x0 K = K b := lm_ev (g := fun (a : List Int) k => rf_root.f k a) (a := x0) h K
noncomputable def rf_One110.c (R : Type) (a : Nm) (K : ((Nm × Int)) → Option R) : Option R :=
  (rf_Fault.c _ (a.1, a.2.1, a.2.2) fun t1 => (if (t1 != (0 : Int)) = true then K ((false, ([] : List Int), ([] : List Int)), t1) else (rf_Of.c _ (a.1, a.2.1, a.2.2) fun t2 => (rf_Minus.c _ (t2.1, t2.2.1, t2.2.2) fun t3 => (rf_Made.c _ (t3.1, t3.2.1, t3.2.2) fun t4 => K ((t4.1.1, t4.1.2.1, t4.1.2.2), t4.2))))))
noncomputable def rf_One110.T (g15 : CF (Nm) (Int)) (g24 : CF (Nm) (Nm)) (g68 : CF (Nm) (Nm)) (g59 : CF (Nm) ((Nm × Int))) : List (Nat × Fun) := [(15, mk (one kN) iI g15), (24, mk (one kN) kQ g24), (59, mk (one kQ) kE g59), (68, mk (one kQ) kQ g68)]
theorem rf_One110.tok : TOk Tryd.prog (tb (rf_One110.T rf_Fault.c rf_Of.c rf_Minus.c rf_Made.c)) := (tb_cons rf_Fault.ok (tb_cons rf_Of.ok (tb_cons rf_Made.ok (tb_cons rf_Minus.ok tb_nil))))
set_option maxRecDepth 100000 in
theorem rf_One110.ex0 (g15 : CF (Nm) (Int)) (g24 : CF (Nm) (Nm)) (g68 : CF (Nm) (Nm)) (g59 : CF (Nm) ((Nm × Int))) (R : Type) (a : Nm) (K : ((Nm × Int)) → Option R) : execFn' Tryd.prog (tb (rf_One110.T g15 g24 g68 g59)) 60 Tryd.f38 R [.int .u8 (110 : Int), .agg [.bool a.1, .row .u32 a.2.1, .row .u32 a.2.2]] (dk kE K) = (g15 _ (a.1, a.2.1, a.2.2) fun t1 => (if (t1 != (0 : Int)) = true then K ((false, ([] : List Int), ([] : List Int)), t1) else (g24 _ (a.1, a.2.1, a.2.2) fun t2 => (g68 _ (t2.1, t2.2.1, t2.2.2) fun t3 => (g59 _ (t3.1, t3.2.1, t3.2.2) fun t4 => K ((t4.1.1, t4.1.2.1, t4.1.2.2), t4.2)))))) := by kernel_rfl
theorem rf_One110.sh : Shown Tryd.prog 38 (fun (a : Nm) => [.int .u8 (110 : Int), .agg [.bool a.1, .row .u32 a.2.1, .row .u32 a.2.2]]) kE rf_One110.c := exec_shown rf_One110.tok mixed Tryd.func38 (by kernel_rfl) (rf_One110.ex0 rf_Fault.c rf_Of.c rf_Minus.c rf_Made.c)
noncomputable def rf_One97.c (R : Type) (a : Nm) (K : ((Nm × Int)) → Option R) : Option R :=
  (rf_Fault.c _ (a.1, a.2.1, a.2.2) fun t1 => (if (t1 != (0 : Int)) = true then K ((false, ([] : List Int), ([] : List Int)), t1) else (rf_Of.c _ (a.1, a.2.1, a.2.2) fun t2 => (rf_Made.c _ (false, t2.2.1, t2.2.2) fun t3 => K ((t3.1.1, t3.1.2.1, t3.1.2.2), t3.2)))))
noncomputable def rf_One97.T (g15 : CF (Nm) (Int)) (g24 : CF (Nm) (Nm)) (g59 : CF (Nm) ((Nm × Int))) : List (Nat × Fun) := [(15, mk (one kN) iI g15), (24, mk (one kN) kQ g24), (59, mk (one kQ) kE g59)]
theorem rf_One97.tok : TOk Tryd.prog (tb (rf_One97.T rf_Fault.c rf_Of.c rf_Made.c)) := (tb_cons rf_Fault.ok (tb_cons rf_Of.ok (tb_cons rf_Made.ok tb_nil)))
set_option maxRecDepth 100000 in
theorem rf_One97.ex0 (g15 : CF (Nm) (Int)) (g24 : CF (Nm) (Nm)) (g59 : CF (Nm) ((Nm × Int))) (R : Type) (a : Nm) (K : ((Nm × Int)) → Option R) : execFn' Tryd.prog (tb (rf_One97.T g15 g24 g59)) 60 Tryd.f38 R [.int .u8 (97 : Int), .agg [.bool a.1, .row .u32 a.2.1, .row .u32 a.2.2]] (dk kE K) = (g15 _ (a.1, a.2.1, a.2.2) fun t1 => (if (t1 != (0 : Int)) = true then K ((false, ([] : List Int), ([] : List Int)), t1) else (g24 _ (a.1, a.2.1, a.2.2) fun t2 => (g59 _ (false, t2.2.1, t2.2.2) fun t3 => K ((t3.1.1, t3.1.2.1, t3.1.2.2), t3.2))))) := by kernel_rfl
theorem rf_One97.sh : Shown Tryd.prog 38 (fun (a : Nm) => [.int .u8 (97 : Int), .agg [.bool a.1, .row .u32 a.2.1, .row .u32 a.2.2]]) kE rf_One97.c := exec_shown rf_One97.tok mixed Tryd.func38 (by kernel_rfl) (rf_One97.ex0 rf_Fault.c rf_Of.c rf_Made.c)
noncomputable def rf_One115.c (R : Type) (a : Nm) (K : ((Nm × Int)) → Option R) : Option R :=
  (rf_Fault.c _ (a.1, a.2.1, a.2.2) fun t1 => (if (t1 != (0 : Int)) = true then K ((false, ([] : List Int), ([] : List Int)), t1) else (rf_Of.c _ (a.1, a.2.1, a.2.2) fun t2 => (rf_IsInt.c _ (t2.1, t2.2.1, t2.2.2) fun t3 => (if (!t3) = true then K ((false, ([] : List Int), ([] : List Int)), (7 : Int)) else (if t2.1 = true then K ((false, ([] : List Int), ([] : List Int)), (1 : Int)) else (rf_root.c _ t2.2.1 fun t4 => (rf_Made.c _ (false, t4, ([(1 : Int)] : List Int)) fun t5 => K ((t5.1.1, t5.1.2.1, t5.1.2.2), t5.2)))))))))
noncomputable def rf_One115.T71 (g15 : CF (Nm) (Int)) (g24 : CF (Nm) (Nm)) (g66 : CF (Nm) (Bool)) (g89 : CF (List Int) (List Int)) (g59 : CF (Nm) ((Nm × Int))) : List (Nat × Fun) := []
theorem rf_One115.tok71 : TOk Tryd.prog (tb (rf_One115.T71 rf_Fault.c rf_Of.c rf_IsInt.c rf_root.c rf_Made.c)) := tb_nil
noncomputable def rf_One115.T (g15 : CF (Nm) (Int)) (g24 : CF (Nm) (Nm)) (g66 : CF (Nm) (Bool)) (g89 : CF (List Int) (List Int)) (g59 : CF (Nm) ((Nm × Int))) : List (Nat × Fun) := [(15, mk (one kN) iI g15), (24, mk (one kN) kQ g24), (59, mk (one kQ) kE g59), (66, mk (one kQ) cb g66), (71, execFn' Tryd.prog (tb (rf_One115.T71 g15 g24 g66 g89 g59)) 60 Tryd.f71), (89, mk (one rI) rI g89)]
theorem rf_One115.tok : TOk Tryd.prog (tb (rf_One115.T rf_Fault.c rf_Of.c rf_IsInt.c rf_root.c rf_Made.c)) := (tb_cons rf_Fault.ok (tb_cons rf_Of.ok (tb_cons rf_Made.ok (tb_cons rf_IsInt.ok (tb_cons (execFn'_ok rf_One115.tok71 mixed Tryd.func71 (by kernel_rfl)) (tb_cons rf_root.ok tb_nil))))))
set_option maxRecDepth 100000 in
theorem rf_One115.ex0 (g15 : CF (Nm) (Int)) (g24 : CF (Nm) (Nm)) (g66 : CF (Nm) (Bool)) (g89 : CF (List Int) (List Int)) (g59 : CF (Nm) ((Nm × Int))) (R : Type) (a : Nm) (K : ((Nm × Int)) → Option R) : execFn' Tryd.prog (tb (rf_One115.T g15 g24 g66 g89 g59)) 60 Tryd.f38 R [.int .u8 (115 : Int), .agg [.bool a.1, .row .u32 a.2.1, .row .u32 a.2.2]] (dk kE K) = (g15 _ (a.1, a.2.1, a.2.2) fun t1 => (if (t1 != (0 : Int)) = true then K ((false, ([] : List Int), ([] : List Int)), t1) else (g24 _ (a.1, a.2.1, a.2.2) fun t2 => (g66 _ (t2.1, t2.2.1, t2.2.2) fun t3 => (if (!t3) = true then K ((false, ([] : List Int), ([] : List Int)), (7 : Int)) else (if t2.1 = true then K ((false, ([] : List Int), ([] : List Int)), (1 : Int)) else (g89 _ t2.2.1 fun t4 => (g59 _ (false, t4, ([(1 : Int)] : List Int)) fun t5 => K ((t5.1.1, t5.1.2.1, t5.1.2.2), t5.2))))))))) := by kernel_rfl
theorem rf_One115.sh : Shown Tryd.prog 38 (fun (a : Nm) => [.int .u8 (115 : Int), .agg [.bool a.1, .row .u32 a.2.1, .row .u32 a.2.2]]) kE rf_One115.c := exec_shown rf_One115.tok mixed Tryd.func38 (by kernel_rfl) (rf_One115.ex0 rf_Fault.c rf_Of.c rf_IsInt.c rf_root.c rf_Made.c)
noncomputable def rf_One102.c (R : Type) (a : Nm) (K : ((Nm × Int)) → Option R) : Option R :=
  (rf_Fault.c _ (a.1, a.2.1, a.2.2) fun t1 => (if (t1 != (0 : Int)) = true then K ((false, ([] : List Int), ([] : List Int)), t1) else (rf_Of.c _ (a.1, a.2.1, a.2.2) fun t2 => (rf_Floor.c _ (t2.1, t2.2.1, t2.2.2) fun t3 => (rf_Made.c _ (t3.1, t3.2.1, t3.2.2) fun t4 => K ((t4.1.1, t4.1.2.1, t4.1.2.2), t4.2))))))
noncomputable def rf_One102.T (g15 : CF (Nm) (Int)) (g24 : CF (Nm) (Nm)) (g75 : CF (Nm) (Nm)) (g59 : CF (Nm) ((Nm × Int))) : List (Nat × Fun) := [(15, mk (one kN) iI g15), (24, mk (one kN) kQ g24), (59, mk (one kQ) kE g59), (75, mk (one kQ) kQ g75)]
theorem rf_One102.tok : TOk Tryd.prog (tb (rf_One102.T rf_Fault.c rf_Of.c rf_Floor.c rf_Made.c)) := (tb_cons rf_Fault.ok (tb_cons rf_Of.ok (tb_cons rf_Made.ok (tb_cons rf_Floor.ok tb_nil))))
set_option maxRecDepth 100000 in
theorem rf_One102.ex0 (g15 : CF (Nm) (Int)) (g24 : CF (Nm) (Nm)) (g75 : CF (Nm) (Nm)) (g59 : CF (Nm) ((Nm × Int))) (R : Type) (a : Nm) (K : ((Nm × Int)) → Option R) : execFn' Tryd.prog (tb (rf_One102.T g15 g24 g75 g59)) 60 Tryd.f38 R [.int .u8 (102 : Int), .agg [.bool a.1, .row .u32 a.2.1, .row .u32 a.2.2]] (dk kE K) = (g15 _ (a.1, a.2.1, a.2.2) fun t1 => (if (t1 != (0 : Int)) = true then K ((false, ([] : List Int), ([] : List Int)), t1) else (g24 _ (a.1, a.2.1, a.2.2) fun t2 => (g75 _ (t2.1, t2.2.1, t2.2.2) fun t3 => (g59 _ (t3.1, t3.2.1, t3.2.2) fun t4 => K ((t4.1.1, t4.1.2.1, t4.1.2.2), t4.2)))))) := by kernel_rfl
theorem rf_One102.sh : Shown Tryd.prog 38 (fun (a : Nm) => [.int .u8 (102 : Int), .agg [.bool a.1, .row .u32 a.2.1, .row .u32 a.2.2]]) kE rf_One102.c := exec_shown rf_One102.tok mixed Tryd.func38 (by kernel_rfl) (rf_One102.ex0 rf_Fault.c rf_Of.c rf_Floor.c rf_Made.c)
noncomputable def rf_One99.c (R : Type) (a : Nm) (K : ((Nm × Int)) → Option R) : Option R :=
  (rf_Fault.c _ (a.1, a.2.1, a.2.2) fun t1 => (if (t1 != (0 : Int)) = true then K ((false, ([] : List Int), ([] : List Int)), t1) else (rf_Of.c _ (a.1, a.2.1, a.2.2) fun t2 => (rf_Minus.c _ (t2.1, t2.2.1, t2.2.2) fun t3 => (rf_Floor.c _ (t3.1, t3.2.1, t3.2.2) fun t4 => (rf_Minus.c _ (t4.1, t4.2.1, t4.2.2) fun t5 => (rf_Made.c _ (t5.1, t5.2.1, t5.2.2) fun t6 => K ((t6.1.1, t6.1.2.1, t6.1.2.2), t6.2))))))))
noncomputable def rf_One99.T (g15 : CF (Nm) (Int)) (g24 : CF (Nm) (Nm)) (g68 : CF (Nm) (Nm)) (g75 : CF (Nm) (Nm)) (g59 : CF (Nm) ((Nm × Int))) : List (Nat × Fun) := [(15, mk (one kN) iI g15), (24, mk (one kN) kQ g24), (59, mk (one kQ) kE g59), (68, mk (one kQ) kQ g68), (75, mk (one kQ) kQ g75)]
theorem rf_One99.tok : TOk Tryd.prog (tb (rf_One99.T rf_Fault.c rf_Of.c rf_Minus.c rf_Floor.c rf_Made.c)) := (tb_cons rf_Fault.ok (tb_cons rf_Of.ok (tb_cons rf_Made.ok (tb_cons rf_Minus.ok (tb_cons rf_Floor.ok tb_nil)))))
set_option maxRecDepth 100000 in
theorem rf_One99.ex0 (g15 : CF (Nm) (Int)) (g24 : CF (Nm) (Nm)) (g68 : CF (Nm) (Nm)) (g75 : CF (Nm) (Nm)) (g59 : CF (Nm) ((Nm × Int))) (R : Type) (a : Nm) (K : ((Nm × Int)) → Option R) : execFn' Tryd.prog (tb (rf_One99.T g15 g24 g68 g75 g59)) 60 Tryd.f38 R [.int .u8 (99 : Int), .agg [.bool a.1, .row .u32 a.2.1, .row .u32 a.2.2]] (dk kE K) = (g15 _ (a.1, a.2.1, a.2.2) fun t1 => (if (t1 != (0 : Int)) = true then K ((false, ([] : List Int), ([] : List Int)), t1) else (g24 _ (a.1, a.2.1, a.2.2) fun t2 => (g68 _ (t2.1, t2.2.1, t2.2.2) fun t3 => (g75 _ (t3.1, t3.2.1, t3.2.2) fun t4 => (g68 _ (t4.1, t4.2.1, t4.2.2) fun t5 => (g59 _ (t5.1, t5.2.1, t5.2.2) fun t6 => K ((t6.1.1, t6.1.2.1, t6.1.2.2), t6.2)))))))) := by kernel_rfl
theorem rf_One99.sh : Shown Tryd.prog 38 (fun (a : Nm) => [.int .u8 (99 : Int), .agg [.bool a.1, .row .u32 a.2.1, .row .u32 a.2.2]]) kE rf_One99.c := exec_shown rf_One99.tok mixed Tryd.func38 (by kernel_rfl) (rf_One99.ex0 rf_Fault.c rf_Of.c rf_Minus.c rf_Floor.c rf_Made.c)
noncomputable def rf_One116.c (R : Type) (a : Nm) (K : ((Nm × Int)) → Option R) : Option R :=
  (rf_Fault.c _ (a.1, a.2.1, a.2.2) fun t1 => (if (t1 != (0 : Int)) = true then K ((false, ([] : List Int), ([] : List Int)), t1) else (rf_Of.c _ (a.1, a.2.1, a.2.2) fun t2 => (rf_DivNat.c _ (t2.2.1, t2.2.2) fun t3 => (if t2.1 = true then (rf_Made.c _ ((decide ((t3.1.length : Int) > (0 : Int))), t3.1, ([(1 : Int)] : List Int)) fun t4 => K ((t4.1.1, t4.1.2.1, t4.1.2.2), t4.2)) else (rf_Made.c _ (false, t3.1, ([(1 : Int)] : List Int)) fun t5 => K ((t5.1.1, t5.1.2.1, t5.1.2.2), t5.2)))))))
noncomputable def rf_One116.T71 (g15 : CF (Nm) (Int)) (g24 : CF (Nm) (Nm)) (g76 : CF (List Int × List Int) ((List Int × List Int))) (g59 : CF (Nm) ((Nm × Int))) : List (Nat × Fun) := []
theorem rf_One116.tok71 : TOk Tryd.prog (tb (rf_One116.T71 rf_Fault.c rf_Of.c rf_DivNat.c rf_Made.c)) := tb_nil
noncomputable def rf_One116.T (g15 : CF (Nm) (Int)) (g24 : CF (Nm) (Nm)) (g76 : CF (List Int × List Int) ((List Int × List Int))) (g59 : CF (Nm) ((Nm × Int))) : List (Nat × Fun) := [(15, mk (one kN) iI g15), (24, mk (one kN) kQ g24), (59, mk (one kQ) kE g59), (71, execFn' Tryd.prog (tb (rf_One116.T71 g15 g24 g76 g59)) 60 Tryd.f71), (76, mk (more rI (one rI)) (tup (more rI (one rI))) g76)]
theorem rf_One116.tok : TOk Tryd.prog (tb (rf_One116.T rf_Fault.c rf_Of.c rf_DivNat.c rf_Made.c)) := (tb_cons rf_Fault.ok (tb_cons rf_Of.ok (tb_cons rf_Made.ok (tb_cons (execFn'_ok rf_One116.tok71 mixed Tryd.func71 (by kernel_rfl)) (tb_cons rf_DivNat.ok tb_nil)))))
set_option maxRecDepth 100000 in
theorem rf_One116.ex0 (g15 : CF (Nm) (Int)) (g24 : CF (Nm) (Nm)) (g76 : CF (List Int × List Int) ((List Int × List Int))) (g59 : CF (Nm) ((Nm × Int))) (R : Type) (a : Nm) (K : ((Nm × Int)) → Option R) : execFn' Tryd.prog (tb (rf_One116.T g15 g24 g76 g59)) 60 Tryd.f38 R [.int .u8 (116 : Int), .agg [.bool a.1, .row .u32 a.2.1, .row .u32 a.2.2]] (dk kE K) = (g15 _ (a.1, a.2.1, a.2.2) fun t1 => (if (t1 != (0 : Int)) = true then K ((false, ([] : List Int), ([] : List Int)), t1) else (g24 _ (a.1, a.2.1, a.2.2) fun t2 => (g76 _ (t2.2.1, t2.2.2) fun t3 => (if t2.1 = true then (g59 _ ((decide ((t3.1.length : Int) > (0 : Int))), t3.1, ([(1 : Int)] : List Int)) fun t4 => K ((t4.1.1, t4.1.2.1, t4.1.2.2), t4.2)) else (g59 _ (false, t3.1, ([(1 : Int)] : List Int)) fun t5 => K ((t5.1.1, t5.1.2.1, t5.1.2.2), t5.2))))))) := by kernel_rfl
theorem rf_One116.sh : Shown Tryd.prog 38 (fun (a : Nm) => [.int .u8 (116 : Int), .agg [.bool a.1, .row .u32 a.2.1, .row .u32 a.2.2]]) kE rf_One116.c := exec_shown rf_One116.tok mixed Tryd.func38 (by kernel_rfl) (rf_One116.ex0 rf_Fault.c rf_Of.c rf_DivNat.c rf_Made.c)
noncomputable def rf_One114.c (R : Type) (a : Nm) (K : ((Nm × Int)) → Option R) : Option R :=
  (rf_Fault.c _ (a.1, a.2.1, a.2.2) fun t1 => (if (t1 != (0 : Int)) = true then K ((false, ([] : List Int), ([] : List Int)), t1) else (rf_Of.c _ (a.1, a.2.1, a.2.2) fun t2 => (rf_AddNat.c _ (t2.2.1, t2.2.1) fun t3 => (rf_AddNat.c _ (t3, t2.2.2) fun t4 => (rf_AddNat.c _ (t2.2.2, t2.2.2) fun t5 => (rf_DivNat.c _ (t4, t5) fun t6 => (if t2.1 = true then (rf_Made.c _ ((decide ((t6.1.length : Int) > (0 : Int))), t6.1, ([(1 : Int)] : List Int)) fun t7 => K ((t7.1.1, t7.1.2.1, t7.1.2.2), t7.2)) else (rf_Made.c _ (false, t6.1, ([(1 : Int)] : List Int)) fun t8 => K ((t8.1.1, t8.1.2.1, t8.1.2.2), t8.2))))))))))
noncomputable def rf_One114.T71 (g15 : CF (Nm) (Int)) (g24 : CF (Nm) (Nm)) (g90 : CF (List Int × List Int) (List Int)) (g76 : CF (List Int × List Int) ((List Int × List Int))) (g59 : CF (Nm) ((Nm × Int))) : List (Nat × Fun) := []
theorem rf_One114.tok71 : TOk Tryd.prog (tb (rf_One114.T71 rf_Fault.c rf_Of.c rf_AddNat.c rf_DivNat.c rf_Made.c)) := tb_nil
noncomputable def rf_One114.T (g15 : CF (Nm) (Int)) (g24 : CF (Nm) (Nm)) (g90 : CF (List Int × List Int) (List Int)) (g76 : CF (List Int × List Int) ((List Int × List Int))) (g59 : CF (Nm) ((Nm × Int))) : List (Nat × Fun) := [(15, mk (one kN) iI g15), (24, mk (one kN) kQ g24), (59, mk (one kQ) kE g59), (71, execFn' Tryd.prog (tb (rf_One114.T71 g15 g24 g90 g76 g59)) 60 Tryd.f71), (76, mk (more rI (one rI)) (tup (more rI (one rI))) g76), (90, mk (more rI (one rI)) rI g90)]
theorem rf_One114.tok : TOk Tryd.prog (tb (rf_One114.T rf_Fault.c rf_Of.c rf_AddNat.c rf_DivNat.c rf_Made.c)) := (tb_cons rf_Fault.ok (tb_cons rf_Of.ok (tb_cons rf_Made.ok (tb_cons (execFn'_ok rf_One114.tok71 mixed Tryd.func71 (by kernel_rfl)) (tb_cons rf_DivNat.ok (tb_cons rf_AddNat.ok tb_nil))))))
set_option maxRecDepth 100000 in
theorem rf_One114.ex0 (g15 : CF (Nm) (Int)) (g24 : CF (Nm) (Nm)) (g90 : CF (List Int × List Int) (List Int)) (g76 : CF (List Int × List Int) ((List Int × List Int))) (g59 : CF (Nm) ((Nm × Int))) (R : Type) (a : Nm) (K : ((Nm × Int)) → Option R) : execFn' Tryd.prog (tb (rf_One114.T g15 g24 g90 g76 g59)) 60 Tryd.f38 R [.int .u8 (114 : Int), .agg [.bool a.1, .row .u32 a.2.1, .row .u32 a.2.2]] (dk kE K) = (g15 _ (a.1, a.2.1, a.2.2) fun t1 => (if (t1 != (0 : Int)) = true then K ((false, ([] : List Int), ([] : List Int)), t1) else (g24 _ (a.1, a.2.1, a.2.2) fun t2 => (g90 _ (t2.2.1, t2.2.1) fun t3 => (g90 _ (t3, t2.2.2) fun t4 => (g90 _ (t2.2.2, t2.2.2) fun t5 => (g76 _ (t4, t5) fun t6 => (if t2.1 = true then (g59 _ ((decide ((t6.1.length : Int) > (0 : Int))), t6.1, ([(1 : Int)] : List Int)) fun t7 => K ((t7.1.1, t7.1.2.1, t7.1.2.2), t7.2)) else (g59 _ (false, t6.1, ([(1 : Int)] : List Int)) fun t8 => K ((t8.1.1, t8.1.2.1, t8.1.2.2), t8.2)))))))))) := by kernel_rfl
theorem rf_One114.sh : Shown Tryd.prog 38 (fun (a : Nm) => [.int .u8 (114 : Int), .agg [.bool a.1, .row .u32 a.2.1, .row .u32 a.2.2]]) kE rf_One114.c := exec_shown rf_One114.tok mixed Tryd.func38 (by kernel_rfl) (rf_One114.ex0 rf_Fault.c rf_Of.c rf_AddNat.c rf_DivNat.c rf_Made.c)
noncomputable def rf_One.c (R : Type) (a : Int × Nm) (K : ((Nm × Int)) → Option R) : Option R := if a.1 = 110 then rf_One110.c R a.2 K else if a.1 = 97 then rf_One97.c R a.2 K else if a.1 = 115 then rf_One115.c R a.2 K else if a.1 = 102 then rf_One102.c R a.2 K else if a.1 = 99 then rf_One99.c R a.2 K else if a.1 = 116 then rf_One116.c R a.2 K else if a.1 = 114 then rf_One114.c R a.2 K else none
theorem rf_One.ok : FunOk Tryd.prog 38 (mk (more (ci .u8) (one kN)) kE rf_One.c) := by
  refine mk_ok (by kernel_rfl) (fun R a K => ?_) (fun a b h => ?_)
  · unfold rf_One.c
    by_cases h : a.1 = 110
    · rw [if_pos h, if_pos h]; exact rf_One110.sh.1 R a.2 K
    rw [if_neg h, if_neg h]; clear h
    by_cases h : a.1 = 97
    · rw [if_pos h, if_pos h]; exact rf_One97.sh.1 R a.2 K
    rw [if_neg h, if_neg h]; clear h
    by_cases h : a.1 = 115
    · rw [if_pos h, if_pos h]; exact rf_One115.sh.1 R a.2 K
    rw [if_neg h, if_neg h]; clear h
    by_cases h : a.1 = 102
    · rw [if_pos h, if_pos h]; exact rf_One102.sh.1 R a.2 K
    rw [if_neg h, if_neg h]; clear h
    by_cases h : a.1 = 99
    · rw [if_pos h, if_pos h]; exact rf_One99.sh.1 R a.2 K
    rw [if_neg h, if_neg h]; clear h
    by_cases h : a.1 = 116
    · rw [if_pos h, if_pos h]; exact rf_One116.sh.1 R a.2 K
    rw [if_neg h, if_neg h]; clear h
    by_cases h : a.1 = 114
    · rw [if_pos h, if_pos h]; exact rf_One114.sh.1 R a.2 K
    rw [if_neg h, if_neg h]; clear h
    rfl
  · obtain ⟨op, a⟩ := a
    unfold rf_One.c at h
    by_cases c : op = 110
    · subst c; rw [if_pos rfl] at h; exact rf_One110.sh.2 a b h
    rw [if_neg c] at h; clear c
    by_cases c : op = 97
    · subst c; rw [if_pos rfl] at h; exact rf_One97.sh.2 a b h
    rw [if_neg c] at h; clear c
    by_cases c : op = 115
    · subst c; rw [if_pos rfl] at h; exact rf_One115.sh.2 a b h
    rw [if_neg c] at h; clear c
    by_cases c : op = 102
    · subst c; rw [if_pos rfl] at h; exact rf_One102.sh.2 a b h
    rw [if_neg c] at h; clear c
    by_cases c : op = 99
    · subst c; rw [if_pos rfl] at h; exact rf_One99.sh.2 a b h
    rw [if_neg c] at h; clear c
    by_cases c : op = 116
    · subst c; rw [if_pos rfl] at h; exact rf_One116.sh.2 a b h
    rw [if_neg c] at h; clear c
    by_cases c : op = 114
    · subst c; rw [if_pos rfl] at h; exact rf_One114.sh.2 a b h
    rw [if_neg c] at h; clear c
    cases h
end Go.Proofs.YtemnjgkicndmjaaDoor.Q
namespace Go.Proofs.YtemnjgkicndmjaaDoor.Q
open Go.RowKit Go.Proofs.YtemnjgkicndmjaaDoorW.PrintWords Go.Proofs.YtemnjgkicndmjaaDoorW.PrintLast Go.Proofs.YtemnjgkicndmjaaDoorW.PrintMore
attribute [local go_sem] max2_int min2_int max_two min_two max_three min_three max_four min_four
set_option linter.unusedVariables false
set_option linter.unusedSimpArgs false
mutual
def nat_FromDecimal.l0 : Nat → ByteArray → List Int → Option (List Int)
 | 0, _, _ => none
 | k + 1, x0, x3 => if (x0.size : Int) > 0 then (nat_FromDecimal.l1 k x0 x3 (wrap64 ((Int.tmod (wrap64 ((x0.size : Int) - 1)) 9) + 1)) 0 1 (wrap64 ((Int.tmod (wrap64 ((x0.size : Int) - 1)) 9) + 1)) 0) else (some x3)
def nat_FromDecimal.l1 : Nat → ByteArray → List Int → Int → Int → Int → Int → Int → Option (List Int)
 | 0, _, _, _, _, _, _, _ => none
 | k + 1, x0, x3, x4, x5, x6, x16, x17 => if x17 < x16 then (if 0 ≤ x17 then (if x17 < (x0.size : Int) then (nat_FromDecimal.l1 k x0 x3 x4 (IntKind.u64.wrap ((IntKind.u64.wrap (x5 * 10)) + (((bt x0 x17) - 48) % 256))) (IntKind.u64.wrap (x6 * 10)) x16 (wrap64 (x17 + 1))) else (none)) else (none)) else ((nat_Of.f k x6).bind fun t311 => ((nat_Mul.f k x3 t311).bind fun t314 => ((nat_Of.f k x5).bind fun t317 => ((nat_plus.f k t314 t317).bind fun t320 => (if 0 ≤ x4 then (if x4 ≤ (x0.size : Int) then (nat_FromDecimal.l0 k (x0.extract (x4 : Int).toNat x0.size) t320) else (none)) else (none))))))
end
def nat_FromDecimal.f (k : Nat) (a0 : ByteArray) : Option (List Int) := nat_FromDecimal.l0 k a0 ([] : List Int)
theorem nat_FromDecimal.mono_l : ∀ k, (∀ y0 y1, LeO (nat_FromDecimal.l0 k y0 y1) (nat_FromDecimal.l0 (k + 1) y0 y1)) ∧ (∀ y0 y1 y2 y3 y4 y5 y6, LeO (nat_FromDecimal.l1 k y0 y1 y2 y3 y4 y5 y6) (nat_FromDecimal.l1 (k + 1) y0 y1 y2 y3 y4 y5 y6))
 | 0 => ⟨fun _ _ r h => by simp [nat_FromDecimal.l0] at h, fun _ _ _ _ _ _ _ r h => by simp [nat_FromDecimal.l1] at h⟩
 | k + 1 => by
  obtain ⟨ih0, ih1⟩ := nat_FromDecimal.mono_l k
  refine ⟨?_, ?_⟩
  ·intro y0 y1
   unfold nat_FromDecimal.l0
   have m0 := ih0
   have m1 := ih1
   have m2 := @nat_Mul.mono
   have m3 := @nat_Of.mono
   have m4 := @nat_plus.mono
   exact zm
  ·intro y0 y1 y2 y3 y4 y5 y6
   unfold nat_FromDecimal.l1
   have m0 := ih0
   have m1 := ih1
   have m2 := @nat_Mul.mono
   have m3 := @nat_Of.mono
   have m4 := @nat_plus.mono
   exact zm
theorem nat_FromDecimal.mono : ∀ a0 k, LeO (nat_FromDecimal.f k a0) (nat_FromDecimal.f (k + 1) a0) := by
 intro a0 k
 obtain ⟨ih0, ih1⟩ := nat_FromDecimal.mono_l k
 unfold nat_FromDecimal.f
 have m0 := ih0
 have m1 := ih1
 have m2 := @nat_Mul.mono
 have m3 := @nat_Of.mono
 have m4 := @nat_plus.mono
 exact zm
set_option maxHeartbeats 8000000 in
set_option maxRecDepth 100000 in
theorem nat_FromDecimal.calls (k : Nat) (a0 : ByteArray) (r : List Int) (w : World) (h : nat_FromDecimal.f k a0 = some r) :
  Calls Tryd.prog 53 #[.string a0] w fun e w' => ∃ v0_ : Value, e = .returned (v0_) ∧ Kd.V (Kd.int .u32) 55 w' w.heap.size (fun k_ => (w.heap.size ≤ k_)) v0_ r ∧ Below w.heap.size w w' := by
 have HB := am (Below.refl w.heap.size w)
 have H := h
 unfold nat_FromDecimal.f at H
 clear h
 have H' := am H
 clear H
 go_enter Tryd.func53, Tryd.ntmps53
 go_wp2
 go_loopg [0, 3] k (fun kq v0 v3 w' => ∃ (x0_1 : ByteArray) (x3_1 : List Int), v0 = .string x0_1 ∧ Aside0 (nat_FromDecimal.l0 kq x0_1 x3_1 = some r) ∧ Aside0 (kq ≤ k) ∧ Aside0 (Kd.V (Kd.int .u32) 55 w' w.heap.size (fun k_ => (w.heap.size ≤ k_)) v3 x3_1) ∧ Aside0 (Below w.heap.size w w'))
 case atStart => exact ⟨(a0), (([] : List Int)), zq8, H', ⟨Nat.le_refl _⟩, ⟨Kd.V_nil _ _ _ _ _⟩, ⟨zq1⟩⟩
 case round =>
  clear H'
  obtain ⟨x0_1, x3_1, rfl, HA, HK1, HO_3, HB⟩ := hrel
  cases gk with
  | zero => exact absurd HA.out (by simp [nat_FromDecimal.l0])
  | succ k1 =>
   have H := HA.out
   clear HA
   simp only [nat_FromDecimal.l0] at H
   by_cases c2 : (x0_1.size : Int) > 0
   ·rw [if_pos c2] at H
    have c2b0 : decide (0 < (x0_1.size : Int)) = true := decide_eq_true c2
    have c2b1 : decide (0 < x0_1.size) = true := decide_eq_true (by omega)
    clear c2
    have H' := am H
    clear H
    go_wp2
    go_loopg [5, 6, 17] k1 (fun kq v5 v6 v17 w' => ∃ (x5_2 : Int) (x6_2 : Int) (x17_2 : Int), v5 = .int .u64 x5_2 ∧ v6 = .int .u64 x6_2 ∧ v17 = .int .i64 x17_2 ∧ Aside0 (nat_FromDecimal.l1 kq x0_1 x3_1 (wrap64 ((Int.tmod (wrap64 ((x0_1.size : Int) - 1)) 9) + 1)) x5_2 x6_2 (wrap64 ((Int.tmod (wrap64 ((x0_1.size : Int) - 1)) 9) + 1)) x17_2 = some r) ∧ Aside0 (kq ≤ k1) ∧ Aside0 (Kd.V (Kd.int .u32) 55 w' w.heap.size (fun k_ => (w.heap.size ≤ k_)) u3 x3_1) ∧ Aside0 (Below w.heap.size w w'))
    case atStart => exact ⟨(0), (1), (0), zq8, zq8, zq8, H', ⟨Nat.le_refl _⟩, ⟨zq3 HO_3.out⟩, ⟨zq1⟩⟩
    case round =>
     clear H'
     obtain ⟨x5_2, x6_2, x17_2, rfl, rfl, rfl, HA, HK2, HO_3, HB⟩ := hrel
     cases gk with
     | zero => exact absurd HA.out (by simp [nat_FromDecimal.l1])
     | succ k2 =>
      have H := HA.out
      clear HA
      simp only [nat_FromDecimal.l1] at H
      by_cases c3 : x17_2 < (wrap64 ((Int.tmod (wrap64 ((x0_1.size : Int) - 1)) 9) + 1))
      ·rw [if_pos c3] at H
       have c3b0 := decide_eq_true c3
       clear c3
       replace H := zn H
       obtain ⟨c4, H⟩ := H
       have c4b0 := decide_eq_true c4
       clear c4
       replace H := zn H
       obtain ⟨c5, H⟩ := H
       have c5b0 := decide_eq_true c5
       clear c5
       have H' := am H
       clear H
       have p6 : 0 ≤ (x17_2 : Int) := zq6
       have q6 : x17_2 < (x0_1.size : Int) := zq6
       have hx6 := bt_at x0_1 x17_2
       replace p6 := eq_true p6
       replace q6 := eq_true q6
       go_wp2
       go_roundg k2
       case measure => have := HK1.out; have := HK2.out; omega
       case rel => exact ⟨(IntKind.u64.wrap ((IntKind.u64.wrap (x5_2 * 10)) + (((bt x0_1 x17_2) - 48) % 256))), (IntKind.u64.wrap (x6_2 * 10)), (wrap64 (x17_2 + 1)), zq8, zq8, zq8, H', ⟨by have := HK1.out; have := HK2.out; omega⟩, ⟨zq3 HO_3.out⟩, ⟨zq1⟩⟩
      ·rw [if_neg c3] at H
       have c3b0 := decide_eq_false c3
       clear c3
       replace H := zj H
       obtain ⟨t311, A7, H⟩ := H
       replace H := zj H
       obtain ⟨t314, A8, H⟩ := H
       replace H := zj H
       obtain ⟨t317, A9, H⟩ := H
       replace H := zj H
       obtain ⟨t320, A10, H⟩ := H
       obtain ⟨ji11, hji11⟩ : ∃ j_ : Int, (wrap64 ((Int.tmod (wrap64 ((x0_1.size : Int) - 1)) 9) + 1)) = j_ := ⟨_, rfl⟩
       replace H : (if 0 ≤ (ji11) then (if (ji11) ≤ (x0_1.size : Int) then (nat_FromDecimal.l0 k2 (x0_1.extract ((ji11) : Int).toNat x0_1.size) t320) else (none)) else (none)) = some r := by first | (rw [hji11] at H; exact H) | (simp only [hji11] at H ⊢; exact H)
       (try rw [hji11] at c3b0)
       (try rw [hji11] at A7)
       (try rw [hji11] at A8)
       (try rw [hji11] at A9)
       (try rw [hji11] at A10)
       have hji11w : (IntKind.i64.wrap ((Int.tmod (wrap64 ((x0_1.size : Int) - 1)) 9) + 1)) = ji11 := (i64_w _).trans hji11
       replace H := zn H
       obtain ⟨c12, H⟩ := H
       have c12b0 := eq_true c12
       have c12b1 := decide_eq_true c12
       clear c12
       replace H := zn H
       obtain ⟨c13, H⟩ := H
       have c13b0 := eq_true c13
       have c13b1 := decide_eq_true c13
       clear c13
       have H' := am H
       clear H
       go_wp2_with (first | ((with_reducible refine gate_callee (f := 79) rfl ?_); refine goesL_ (some 33) rfl rfl Tryd.func79 (by kernel_rfl) rfl #[.int .u64 x6_2] rfl zq5 ?_; (with_reducible refine (nat_Of.calls k2 x6_2 t311 _ A7.out).mono ?_); rintro e w14 ⟨v312, rfl, ho0, hb⟩; refine ⟨_, rfl, ?_⟩; refine zt3 (vb HO_3 hb) (Kd.V_lower (Kd.V_mono (ok' := fun k_ => (w.heap.size ≤ k_)) ho0 (fun k_ hk_ => (Nat.le_trans (below_size zq1) hk_))) (below_size zq1)) (below_step zq1 hb) ?_; clear HO_3 HB; intro HO_3 HO313 HB; obtain ⟨Ao15, co15, eo15⟩ := Kd.V_slice HO_3.out; subst eo15; obtain ⟨Ao16, co16, eo16⟩ := Kd.V_slice HO313.out; subst eo16) | ((with_reducible refine gate_callee (f := 77) rfl ?_); refine goesL_ (some 34) rfl rfl Tryd.func77 (by kernel_rfl) rfl #[.slice Ao15 x3_1.length co15, .slice Ao16 t311.length co16] rfl zq5 ?_; (with_reducible refine (nat_Mul.calls k2 _ _ x3_1 _ _ t311 t314 _ ?side1 ?side2 ?side3 ?side4 A8.out).mono ?_); (case side1 => exact zc ((Kd.V_reads' HO_3.out).2.2)); (case side2 => exact (Kd.V_reads' HO_3.out).2.1); (case side3 => exact zc ((Kd.V_reads' HO313.out).2.2)); (case side4 => exact (Kd.V_reads' HO313.out).2.1); rintro e w17 ⟨v315, rfl, ho0, hb⟩; refine ⟨_, rfl, ?_⟩; refine zt4 (vb HO_3 hb) (vb HO313 hb) (Kd.V_lower (Kd.V_mono (ok' := fun k_ => (w.heap.size ≤ k_)) ho0 (fun k_ hk_ => (Nat.le_trans (below_size zq1) hk_))) (below_size zq1)) (below_step zq1 hb) ?_; clear HO_3 HO313 HB; intro HO_3 HO313 HO316 HB) | ((with_reducible refine gate_callee (f := 79) rfl ?_); refine goesL_ (some 36) rfl rfl Tryd.func79 (by kernel_rfl) rfl #[.int .u64 x5_2] rfl zq5 ?_; (with_reducible refine (nat_Of.calls k2 x5_2 t317 _ A9.out).mono ?_); rintro e w18 ⟨v318, rfl, ho0, hb⟩; refine ⟨_, rfl, ?_⟩; refine zt5 (vb HO_3 hb) (vb HO313 hb) (vb HO316 hb) (Kd.V_lower (Kd.V_mono (ok' := fun k_ => (w.heap.size ≤ k_)) ho0 (fun k_ hk_ => (Nat.le_trans (below_size zq1) hk_))) (below_size zq1)) (below_step zq1 hb) ?_; clear HO_3 HO313 HO316 HB; intro HO_3 HO313 HO316 HO319 HB; obtain ⟨Ao19, co19, eo19⟩ := Kd.V_slice HO316.out; subst eo19; obtain ⟨Ao20, co20, eo20⟩ := Kd.V_slice HO319.out; subst eo20) | ((with_reducible refine gate_callee (f := 105) rfl ?_); refine goesL_ (some 37) rfl rfl Tryd.func105 (by kernel_rfl) rfl #[.slice Ao19 t314.length co19, .slice Ao20 t317.length co20] rfl zq5 ?_; (with_reducible refine (nat_plus.calls k2 _ _ t314 _ _ t317 t320 _ ?side1 ?side2 ?side3 ?side4 A10.out).mono ?_); (case side1 => exact zc ((Kd.V_reads' HO316.out).2.2)); (case side2 => exact (Kd.V_reads' HO316.out).2.1); (case side3 => exact zc ((Kd.V_reads' HO319.out).2.2)); (case side4 => exact (Kd.V_reads' HO319.out).2.1); rintro e w21 ⟨v321, rfl, ho0, hb⟩; refine ⟨_, rfl, ?_⟩; refine zt6 (vb HO_3 hb) (vb HO313 hb) (vb HO316 hb) (vb HO319 hb) (Kd.V_lower (Kd.V_mono (ok' := fun k_ => (w.heap.size ≤ k_)) ho0 (fun k_ hk_ => (Nat.le_trans (below_size zq1) hk_))) (below_size zq1)) (below_step zq1 hb) ?_; clear HO_3 HO313 HO316 HO319 HB; intro HO_3 HO313 HO316 HO319 HO322 HB))
       go_roundg k2
       case measure => have := HK1.out; have := HK2.out; omega
       case rel => exact ⟨(x0_1.extract ((ji11) : Int).toNat x0_1.size), (t320), (by first | rfl | (simp; done) | (simp only [← hji11] <;> (first | rfl | simp)) | (simp [*]; done)), (by first | exact H' | (rw [hji11]; exact H')), ⟨by have := HK1.out; have := HK2.out; omega⟩, ⟨zq3 HO322.out⟩, ⟨zq1⟩⟩
   ·rw [if_neg c2] at H
    have c2b0 : decide (0 < (x0_1.size : Int)) = false := decide_eq_false c2
    have c2b1 : decide (0 < x0_1.size) = false := decide_eq_false (by omega)
    clear c2
    obtain rfl := Option.some.inj H
    go_wp2
    go_ret
    exact ⟨_, zq9, zq3 HO_3.out, zq1⟩
mutual
def nat_Decimal.l0 : Nat → List Int → List Int → Option (ByteArray)
 | 0, _, _ => none
 | k + 1, x0, x3 => if (x0.length : Int) > 0 then ((nat_DivSmall.f k x0 1000000000).bind fun bt239 => (if x3.length < 35184372088832 then (nat_Decimal.l0 k bt239.1 (x3 ++ [bt239.2])) else (none))) else (nat_Decimal.l1 k x3 ([] : List Int) (wrap64 ((x3.length : Int) - 1)))
def nat_Decimal.l1 : Nat → List Int → List Int → Int → Option (ByteArray)
 | 0, _, _, _ => none
 | k + 1, x3, x6, x7 => if x7 ≥ 0 then (if 0 ≤ x7 then (if x7 < (x3.length : Int) then (if 9 ≤ 281474976710656 then (nat_Decimal.l2 k x3 x6 x7 (rd x3 x7) (List.replicate 9 0) 8) else (none)) else (none)) else (none)) else (nat_Decimal.l3 k x6 0)
def nat_Decimal.l2 : Nat → List Int → List Int → Int → Int → List Int → Int → Option (ByteArray)
 | 0, _, _, _, _, _, _ => none
 | k + 1, x3, x6, x7, x8, x9, x10 => if x10 ≥ 0 then (if 0 ≤ x10 then (if x10 < (x9.length : Int) then (nat_Decimal.l2 k x3 x6 x7 ((Int.tdiv x8 10) % 4294967296) (x9.set (x10 : Int).toNat (((48 + (Int.tmod x8 10)) % 4294967296) % 256)) (wrap64 (x10 - 1))) else (none)) else (none)) else (if x6.length + x9.length < 140737488355328 then (nat_Decimal.l1 k x3 (x6 ++ x9) (wrap64 (x7 - 1))) else (none))
def nat_Decimal.l3 : Nat → List Int → Int → Option (ByteArray)
 | 0, _, _ => none
 | k + 1, x6, x11 => if 0 ≤ x11 then (if x11 < (x6.length : Int) then (if (rd x6 x11) = 48 then (nat_Decimal.l3 k x6 (wrap64 (x11 + 1))) else (if x11 ≤ (x6.length : Int) then (some (strOfNums (x6.drop (x11 : Int).toNat))) else (none))) else (none)) else (none)
end
def nat_Decimal.f (k : Nat) (l0 : List Int) : Option (ByteArray) := if (l0.length : Int) = 0 then (some (⟨#[48]⟩ : ByteArray)) else (nat_Decimal.l0 k l0 ([] : List Int))
theorem nat_Decimal.mono_l : ∀ k, (∀ y0 y1, LeO (nat_Decimal.l0 k y0 y1) (nat_Decimal.l0 (k + 1) y0 y1)) ∧ (∀ y0 y1 y2, LeO (nat_Decimal.l1 k y0 y1 y2) (nat_Decimal.l1 (k + 1) y0 y1 y2)) ∧ (∀ y0 y1 y2 y3 y4 y5, LeO (nat_Decimal.l2 k y0 y1 y2 y3 y4 y5) (nat_Decimal.l2 (k + 1) y0 y1 y2 y3 y4 y5)) ∧ (∀ y0 y1, LeO (nat_Decimal.l3 k y0 y1) (nat_Decimal.l3 (k + 1) y0 y1))
 | 0 => ⟨fun _ _ r h => by simp [nat_Decimal.l0] at h, fun _ _ _ r h => by simp [nat_Decimal.l1] at h, fun _ _ _ _ _ _ r h => by simp [nat_Decimal.l2] at h, fun _ _ r h => by simp [nat_Decimal.l3] at h⟩
 | k + 1 => by
  obtain ⟨ih0, ih1, ih2, ih3⟩ := nat_Decimal.mono_l k
  refine ⟨?_, ?_, ?_, ?_⟩
  ·intro y0 y1
   unfold nat_Decimal.l0
   have m0 := ih0
   have m1 := ih1
   have m2 := ih2
   have m3 := ih3
   have m4 := @nat_DivSmall.mono
   exact zm
  ·intro y0 y1 y2
   unfold nat_Decimal.l1
   have m0 := ih0
   have m1 := ih1
   have m2 := ih2
   have m3 := ih3
   have m4 := @nat_DivSmall.mono
   exact zm
  ·intro y0 y1 y2 y3 y4 y5
   unfold nat_Decimal.l2
   have m0 := ih0
   have m1 := ih1
   have m2 := ih2
   have m3 := ih3
   have m4 := @nat_DivSmall.mono
   exact zm
  ·intro y0 y1
   unfold nat_Decimal.l3
   have m0 := ih0
   have m1 := ih1
   have m2 := ih2
   have m3 := ih3
   have m4 := @nat_DivSmall.mono
   exact zm
theorem nat_Decimal.mono : ∀ a0 k, LeO (nat_Decimal.f k a0) (nat_Decimal.f (k + 1) a0) := by
 intro a0 k
 obtain ⟨ih0, ih1, ih2, ih3⟩ := nat_Decimal.mono_l k
 unfold nat_Decimal.f
 have m0 := ih0
 have m1 := ih1
 have m2 := ih2
 have m3 := ih3
 have m4 := @nat_DivSmall.mono
 exact zm
set_option maxHeartbeats 8000000 in
set_option maxRecDepth 100000 in
theorem nat_Decimal.calls (k : Nat) (P0_ : Nat → Prop) (A0 : Option Addr) (c0 : Nat) (l0 : List Int) (r : ByteArray) (w : World) (hs0 : Kd.V (Kd.int .u32) 55 w w.heap.size (fun k_ => P0_ k_) (.slice A0 l0.length c0) l0) (h : nat_Decimal.f k l0 = some r) :
  Calls Tryd.prog 48 #[.slice A0 l0.length c0] w fun e w' => e = .returned (.string r) ∧ Below w.heap.size w w' := by
 have HO0 := am (show Kd.V (Kd.int .u32) 55 w w.heap.size (fun k_ => (P0_ k_ ∨ w.heap.size ≤ k_)) (.slice A0 l0.length c0) l0 from Kd.V_mono hs0 (fun k_ hk => .inl hk))
 have HB := am (Below.refl w.heap.size w)
 have H := h
 unfold nat_Decimal.f at H
 clear h
 by_cases c2 : (l0.length : Int) = 0
 ·rw [if_pos c2] at H
  have c2b0 : ((l0.length : Int) == 0) = true := beq_iff_eq.mpr c2
  have c2b1 : ((l0.length : Int) != 0) = false := bne_eq_false_iff_eq.mpr c2
  clear c2
  obtain rfl := Option.some.inj H
  go_enter Tryd.func48, Tryd.ntmps48
  go_wp2
  go_ret
  exact ⟨zq9, zq1⟩
 ·rw [if_neg c2] at H
  have c2b0 : ((l0.length : Int) == 0) = false := beq_eq_false_iff_ne.mpr c2
  have c2b1 : ((l0.length : Int) != 0) = true := bne_iff_ne.mpr c2
  have c2b2 : ¬ (l0 = []) := fun h_ => c2 (by rw [h_]; rfl)
  have H' := am H
  clear H
  go_enter Tryd.func48, Tryd.ntmps48
  go_wp2
  go_loopg [0, 3] k (fun kq v0 v3 w' => ∃ (x0_1 : List Int) (x3_1 : List Int), Aside0 (nat_Decimal.l0 kq x0_1 x3_1 = some r) ∧ Aside0 (kq ≤ k) ∧ Aside0 (Kd.V (Kd.int .u32) 55 w' w.heap.size (fun k_ => (P0_ k_ ∨ w.heap.size ≤ k_) ∧ some k_ ≠ (v3 : Value).ownBlock) v0 x0_1) ∧ Aside0 (Kd.R (Kd.int .u32) 55 w' w.heap.size (fun k_ => (w.heap.size ≤ k_)) v3 x3_1) ∧ Aside0 (Below w.heap.size w w'))
  case atStart => exact ⟨(l0), (([] : List Int)), H', ⟨Nat.le_refl _⟩, ⟨zwV (h := by exact Kd.V_mono HO0.out (fun _ hk => ⟨hk, (by simp [Value.ownBlock])⟩))⟩, ⟨by first | exact Kd.R_nil _ _ _ _ _ | exact Kd.N_nil _ _ _ _ _ | exact Kd.V_nil _ _ _ _ _ | exact Kd.Q_nil _ _ _ _ _ | exact Kd.S_nil _ _ _ _ _⟩, ⟨zq1⟩⟩
  case round =>
   clear H'
   obtain ⟨x0_1, x3_1, HA, HK1, HO_0, HO_3, HB⟩ := hrel
   cases gk with
   | zero => exact absurd HA.out (by simp [nat_Decimal.l0])
   | succ k1 =>
    have H := HA.out
    clear HA
    simp only [nat_Decimal.l0] at H
    by_cases c3 : (x0_1.length : Int) > 0
    ·rw [if_pos c3] at H
     have c3b0 : decide (0 < (x0_1.length : Int)) = true := decide_eq_true c3
     have c3b1 : decide (0 < x0_1.length) = true := decide_eq_true (by omega)
     clear c3
     replace H := zj H
     obtain ⟨⟨t239, t242⟩, A4, H⟩ := H
     try dsimp only at H
     replace H := zn H
     obtain ⟨c5, H⟩ := H
     have LMc5 := am c5
     clear c5
     obtain ⟨y243, hy243⟩ : ∃ y_ : List Int, y_ = (x3_1 ++ [t242]) := ⟨_, rfl⟩
     try rw [← hy243] at H
     have Ny243 := am hy243
     clear hy243
     have H' := am H
     clear H
     obtain ⟨Ao6, co6, eo6⟩ := Kd.V_slice HO_0.out
     subst eo6
     go_wp2_with (first | ((with_reducible refine gate_callee (f := 100) rfl ?_); refine goesL_ (some 20) rfl rfl Tryd.func100 (by kernel_rfl) rfl #[.slice Ao6 x0_1.length co6, .int .u32 1000000000] rfl zq5 ?_; (with_reducible refine (nat_DivSmall.calls k1 _ _ x0_1 1000000000 t239 t242 _ ?side1 ?side2 A4.out).mono ?_); (case side1 => exact zc ((Kd.V_reads' HO_0.out).2.2)); (case side2 => exact (Kd.V_reads' HO_0.out).2.1); rintro e w7 ⟨v240, rfl, ho0, hb⟩; refine ⟨_, rfl, ?_⟩; refine zt4 (vb HO_0 hb) (rb HO_3 hb) (Kd.V_lower (Kd.V_mono (ok' := fun k_ => (P0_ k_ ∨ w.heap.size ≤ k_) ∧ some k_ ≠ (u3 : Value).ownBlock) ho0 (fun k_ hk_ => ⟨(.inr (Nat.le_trans (below_size zq1) hk_)), (Kd.fresh' (Kd.R_lt (zq4 HO_3.out)) k_ hk_)⟩)) (below_size zq1)) (below_step zq1 hb) ?_; clear HO_0 HO_3 HB; intro HO_0 HO_3 HO241 HB) | ((with_reducible refine gate_builtin (b := .append) (xs := #[.tmp 23, .tmp 25]) rfl ?_); at_builtin; refine Kd.R_append (Kd.int .u32) (w0 := w) w.heap.size rfl (.tmp 23) (.tmp 25) 22 55 (.int .u32 0) 4 rfl Tryd.underlying22 info55 rfl (by decide) (by omega) u3 x3_1 t242 [.int .u32 t242] (fun k_ => (w.heap.size ≤ k_)) (fun _ => False) rfl rfl ?aP (fun _ hk => hk.elim) ?aF ?aO ?aB ?aS ?aL ?_; (case aP => exact rfl); (case aB => exact zq1); (case aF => exact (fun k_ hk => (Nat.le_trans (below_size zq1) hk))); (case aO => exact (zq4 HO_3.out)); (case aS => exact (below_size zq1)); (case aL => have := LMc5.out; omega); intro v244 w8 ho hb hg hat; rw [← Ny243.out] at ho; refine zt4 (Kd.V_afterv (ok := (fun k_ => (P0_ k_ ∨ w.heap.size ≤ k_))) (zq3 HO_0.out) hg hat) (Kd.V_afterv (ok := (fun k_ => (P0_ k_ ∨ w.heap.size ≤ k_))) (zq3 HO241.out) hg hat) (hb) (ho) ?_; clear HO_0 HO241 HB HO_3; intro HO_0 HO241 HB HO245; clear ho hb hg hat))
     go_roundg k1
     case measure => have := HK1.out; omega
     case rel => exact ⟨(t239), (y243), H', ⟨by have := HK1.out; omega⟩, ⟨zq3 HO241.out⟩, ⟨zq4 HO245.out⟩, ⟨zq1⟩⟩
    ·rw [if_neg c3] at H
     have c3b0 : decide (0 < (x0_1.length : Int)) = false := decide_eq_false c3
     have c3b1 : decide (0 < x0_1.length) = false := decide_eq_false (by omega)
     clear c3
     have H' := am H
     clear H
     obtain ⟨Ao9, co9, eo9⟩ := Kd.V_slice HO_0.out
     subst eo9
     obtain ⟨Ao10, co10, eo10⟩ := Kd.R_slice HO_3.out
     subst eo10
     go_wp2
     go_loopg [6, 7] k1 (fun kq v6 v7 w' => ∃ (x6_2 : List Int) (x7_2 : Int), v7 = .int .i64 x7_2 ∧ Aside0 (nat_Decimal.l1 kq x3_1 x6_2 x7_2 = some r) ∧ Aside0 (kq ≤ k1) ∧ Aside0 (Kd.R (Kd.int .u32) 55 w' w.heap.size (fun k_ => (w.heap.size ≤ k_)) (.slice Ao10 x3_1.length co10) x3_1) ∧ Aside0 (Kd.R (Kd.int .u8) 5 w' w.heap.size (fun k_ => (w.heap.size ≤ k_)) v6 x6_2) ∧ Aside0 (Below w.heap.size w w'))
     case atStart => exact ⟨(([] : List Int)), (wrap64 ((x3_1.length : Int) - 1)), zq8, H', ⟨Nat.le_refl _⟩, ⟨zq4 HO_3.out⟩, ⟨by first | exact Kd.R_nil _ _ _ _ _ | exact Kd.N_nil _ _ _ _ _ | exact Kd.V_nil _ _ _ _ _ | exact Kd.Q_nil _ _ _ _ _ | exact Kd.S_nil _ _ _ _ _⟩, ⟨zq1⟩⟩
     case round =>
      clear H'
      obtain ⟨x6_2, x7_2, rfl, HA, HK2, HO_3, HO_6, HB⟩ := hrel
      cases gk with
      | zero => exact absurd HA.out (by simp [nat_Decimal.l1])
      | succ k2 =>
       have H := HA.out
       clear HA
       simp only [nat_Decimal.l1] at H
       by_cases c11 : x7_2 ≥ 0
       ·rw [if_pos c11] at H
        have c11b0 : decide (0 ≤ x7_2) = true := decide_eq_true c11
        clear c11
        replace H := zn H
        obtain ⟨c12, H⟩ := H
        have c12b0 := decide_eq_true c12
        clear c12
        replace H := zn H
        obtain ⟨c13, H⟩ := H
        have c13b0 := decide_eq_true c13
        clear c13
        replace H := zn H
        obtain ⟨c14, H⟩ := H
        have c14b0 := eq_true c14
        have c14b1 := decide_eq_true c14
        clear c14
        obtain ⟨y247, hy247⟩ : ∃ y_ : List Int, y_ = (List.replicate 9 0) := ⟨_, rfl⟩
        try rw [← hy247] at H
        have Ny247 := am hy247
        clear hy247
        have H' := am H
        clear H
        have p246 : 0 ≤ (x7_2 : Int) := zq6
        have q246 : x7_2 < (x3_1.length : Int) := zq6
        obtain ⟨ad246, e246, hx246_0⟩ := Kd.at_int (Kd.R_reads' HO_3.out).2.2 x7_2 p246 q246
        cases e246
        replace p246 := eq_true p246
        replace q246 := eq_true q246
        go_wp2_with (first | ((with_reducible refine gate_dst (N := 39) rfl ?_); refine Kd.R_make (Kd.int .u8) _ 5 rfl (N := 39) rfl 105 _ _ rfl 9 rfl rfl Tryd.underlying105 (.int .u8 0) 1 info5 rfl (by decide) (by omega) 0 (ok := fun _ => True) (okp := fun _ => True) rfl (fun _ hk => hk) trivial (by omega) (by omega) (Below.refl _ _) (Nat.le_refl _) ?_; intro v248 w15 ho16 hb hg_ hnew_; clear hg_ hnew_; (first | rw [← Ny247.out] at ho16 | (simp only [Int.reduceToNat] at ho16; rw [← Ny247.out] at ho16)); refine zt4 (rb HO_3 hb) (Kd.R_elder' (zq4 HO_6.out) (Kd.R_base ho16) hb) (Kd.R_lower (Kd.R_new' (Kd.R_newM (M := fun k_ => (w.heap.size ≤ k_)) ho16 (below_size zq1) (fun k_ h_ => h_)) (Kd.R_lt (zq4 HO_6.out))) (below_size zq1)) (below_step zq1 hb) ?_; clear HO_3 HO_6 HB; intro HO_3 HO_6 HO249 HB; clear hb ho16))
        go_loopg [8, 10] k2 (fun kq v8 v10 w' => ∃ (x8_3 : Int) (x9_3 : List Int) (x10_3 : Int), v8 = .int .u32 x8_3 ∧ v10 = .int .i64 x10_3 ∧ Aside0 (nat_Decimal.l2 kq x3_1 x6_2 x7_2 x8_3 x9_3 x10_3 = some r) ∧ Aside0 (kq ≤ k2) ∧ Aside0 (Kd.R (Kd.int .u32) 55 w' w.heap.size (fun k_ => (w.heap.size ≤ k_)) (.slice (some ad246) x3_1.length co10) x3_1) ∧ Aside0 (Kd.R (Kd.int .u8) 5 w' w.heap.size (fun k_ => (w.heap.size ≤ k_) ∧ some k_ ≠ (v248 : Value).ownBlock) u6 x6_2) ∧ Aside0 (Kd.R (Kd.int .u8) 5 w' w.heap.size (fun k_ => (w.heap.size ≤ k_) ∧ some k_ ≠ (u6 : Value).ownBlock) v248 x9_3) ∧ Aside0 (Below w.heap.size w w'))
        case atStart => exact ⟨(rd x3_1 x7_2), (y247), (8), zq8, zq8, H', ⟨Nat.le_refl _⟩, ⟨zq4 HO_3.out⟩, ⟨zq4 HO_6.out⟩, ⟨zwR (h := by exact Kd.R_mono HO249.out (fun _ hk => ⟨hk.1.1, hk.2⟩))⟩, ⟨zq1⟩⟩
        case round =>
         clear H'
         obtain ⟨x8_3, x9_3, x10_3, rfl, rfl, HA, HK3, HO_3, HO_6, HO_9, HB⟩ := hrel
         cases gk with
         | zero => exact absurd HA.out (by simp [nat_Decimal.l2])
         | succ k3 =>
          have H := HA.out
          clear HA
          simp only [nat_Decimal.l2] at H
          by_cases c17 : x10_3 ≥ 0
          ·rw [if_pos c17] at H
           have c17b0 : decide (0 ≤ x10_3) = true := decide_eq_true c17
           clear c17
           replace H := zn H
           obtain ⟨c18, H⟩ := H
           have c18b0 := decide_eq_true c18
           clear c18
           replace H := zn H
           obtain ⟨c19, H⟩ := H
           have c19b0 := decide_eq_true c19
           clear c19
           obtain ⟨y250, hy250⟩ : ∃ y_ : List Int, y_ = (x9_3.set (x10_3 : Int).toNat (((48 + (Int.tmod x8_3 10)) % 4294967296) % 256)) := ⟨_, rfl⟩
           try rw [← hy250] at H
           have Ny250 := am hy250
           clear hy250
           have H' := am H
           clear H
           have p20 : 0 ≤ (x10_3 : Int) := zq6
           have q20 : (x10_3 : Int) < ((x9_3.length : Int) : Int) := zq6
           obtain ⟨go20, co20, eo20, gb20, gl20, cl20, HG20⟩ := Kd.R_form HO_9.out (by omega)
           (first | cases eo20 | (injection eo20 with ea_ en_ ec_; (first | subst ea_ | (injection ea_ with ea_; subst ea_)); subst ec_; clear en_))
           have GB20 := am gb20
           have GG20 := am HG20
           clear gb20 gl20 HG20
           obtain ⟨hx20_0, hf20_0⟩ := Kd.R_celln 0 HO_9.out (x10_3 : Int) p20 q20
           replace p20 := eq_true p20
           replace q20 := eq_true q20
           have HP21 := Kd.R_putg HO_9.out (x10_3 : Int) (((48 + (Int.tmod x8_3 10)) % 4294967296) % 256)
           go_wp2_with (first | ((with_reducible refine gate_store (t := 5) (p := 50) rfl ?_); refine zstore (t := 5) (p := 50) (w1 := (wr.setCell ⟨go20, (x10_3 : Int).toNat, none⟩ (.int .u8 (((48 + (Int.tmod x8_3 10)) % 4294967296) % 256)))) ?_; intro w22 hw; have hg : wr.grownBy w22 (some go20) := (by rw [hw]; exact HP21.2); have hp_ : Kd.R (Kd.int .u8) 5 w22 w.heap.size (fun k_ => (w.heap.size ≤ k_) ∧ some k_ ≠ (u6 : Value).ownBlock) (.slice (some ⟨go20, 0, none⟩) x9_3.length co20) y250 := (by rw [hw, Ny250.out]; exact HP21.1); clear HP21; refine zt4 (Kd.R_over' (v := (.slice (some ⟨go20, 0, none⟩) x9_3.length co20)) (zq4 HO_3.out) (Kd.R_typed HO_9.out) (by decide) hg) (Kd.R_after (v := (.slice (some ⟨go20, 0, none⟩) x9_3.length co20)) (v1 := (.slice (some ⟨go20, 0, none⟩) x9_3.length co20)) (ok := (fun k_ => (w.heap.size ≤ k_))) (zq4 HO_6.out) hg (.inl rfl)) (hp_) ((by rw [hw]; exact below_set (HB.out) GB20.out : Below w.heap.size w w22)) ?_; clear HO_3 HO_6 HO_9 HB; intro HO_3 HO_6 HO_9 HB; clear hg hw hp_))
           go_roundg k3
           case measure => have := HK1.out; have := HK2.out; have := HK3.out; omega
           case rel => exact ⟨((Int.tdiv x8_3 10) % 4294967296), (y250), (wrap64 (x10_3 - 1)), zq8, zq8, H', ⟨by have := HK1.out; have := HK2.out; have := HK3.out; omega⟩, ⟨zq4 HO_3.out⟩, ⟨zq4 HO_6.out⟩, ⟨zq4 HO_9.out⟩, ⟨zq1⟩⟩
          ·rw [if_neg c17] at H
           have c17b0 : decide (0 ≤ x10_3) = false := decide_eq_false c17
           clear c17
           replace H := zn H
           obtain ⟨c23, H⟩ := H
           have LMc23 := am c23
           clear c23
           obtain ⟨y251, hy251⟩ : ∃ y_ : List Int, y_ = (x6_2 ++ x9_3) := ⟨_, rfl⟩
           try rw [← hy251] at H
           have Ny251 := am hy251
           clear hy251
           have H' := am H
           clear H
           obtain ⟨Ao25, co25, eo25⟩ := Kd.R_slice HO_9.out
           subst eo25
           go_wp2_with (first | ((with_reducible refine gate_builtin (b := .append) (xs := #[.tmp 53, .tmp 54]) rfl ?_); at_builtin; refine Kd.R_append_rows (Kd.int .u8) (w0 := w) w.heap.size rfl (.tmp 53) (.tmp 54) 105 5 (.int .u8 0) 1 rfl Tryd.underlying105 info5 rfl (by decide) (by omega) u6 x6_2 x9_3 _ _ _ (fun k_ => (w.heap.size ≤ k_) ∧ some k_ ≠ (.slice Ao25 x9_3.length co25 : Value).ownBlock) (fun _ => False) rfl rfl ?aO ?aR (fun _ _ h => h) (fun _ h => h.elim) ?aF ?aB ?aS ?aL ?_; (case aR => repeat (first | exact (Kd.R_reads' HO_9.out).2.2 | (with_reducible refine Kd.C_alloc ?_ _) | (with_reducible refine Kd.C_drewN ?_ _) | (with_reducible refine Kd.C_drew ?_))); (case aB => exact zq1); (case aF => exact (fun k_ hk => ⟨(Nat.le_trans (below_size zq1) hk), Kd.fresh' (Kd.R_lt (zq4 HO_9.out)) k_ hk⟩)); (case aO => exact (zq4 HO_6.out)); (case aS => exact (below_size zq1)); (case aL => have := LMc23.out; omega); intro v252 w24 ho hb hg hat; rw [← Ny251.out] at ho; refine zt4 (Kd.R_over' (zq4 HO_3.out) (Kd.R_typed (zq4 HO_6.out)) (by decide) hg) (Kd.R_after (ok := (fun k_ => (w.heap.size ≤ k_))) (zq4 HO_9.out) hg hat) (hb) (ho) ?_; clear HO_3 HO_9 HB HO_6; intro HO_3 HO_9 HB HO253; clear ho hb hg hat))
           go_roundg k3
           case measure => have := HK1.out; have := HK2.out; have := HK3.out; omega
           case rel => exact ⟨(y251), (wrap64 (x7_2 - 1)), zq8, H', ⟨by have := HK1.out; have := HK2.out; have := HK3.out; omega⟩, ⟨zq4 HO_3.out⟩, ⟨zwR (h := by exact Kd.R_mono HO253.out (fun _ hk => hk.1))⟩, ⟨zq1⟩⟩
       ·rw [if_neg c11] at H
        have c11b0 : decide (0 ≤ x7_2) = false := decide_eq_false c11
        clear c11
        have H' := am H
        clear H
        go_wp2
        go_loopg [11] k2 (fun kq v11 w' => ∃ (x11_3 : Int), v11 = .int .i64 x11_3 ∧ Aside0 (nat_Decimal.l3 kq x6_2 x11_3 = some r) ∧ Aside0 (kq ≤ k2) ∧ Aside0 (Kd.R (Kd.int .u8) 5 w' w.heap.size (fun k_ => (w.heap.size ≤ k_)) u6 x6_2) ∧ Aside0 (Below w.heap.size w w'))
        case atStart => exact ⟨(0), zq8, H', ⟨Nat.le_refl _⟩, ⟨zq4 HO_6.out⟩, ⟨zq1⟩⟩
        case round =>
         clear H'
         obtain ⟨x11_3, rfl, HA, HK3, HO_6, HB⟩ := hrel
         cases gk with
         | zero => exact absurd HA.out (by simp [nat_Decimal.l3])
         | succ k3 =>
          have H := HA.out
          clear HA
          simp only [nat_Decimal.l3] at H
          replace H := zn H
          obtain ⟨c26, H⟩ := H
          have c26b0 := decide_eq_true c26
          clear c26
          replace H := zn H
          obtain ⟨c27, H⟩ := H
          have c27b0 := decide_eq_true c27
          clear c27
          by_cases c28 : (rd x6_2 x11_3) = 48
          ·rw [if_pos c28] at H
           have c28b0 : ((rd x6_2 x11_3) == 48) = true := beq_iff_eq.mpr c28
           have c28b1 : ((rd x6_2 x11_3) != 48) = false := bne_eq_false_iff_eq.mpr c28
           clear c28
           have H' := am H
           clear H
           obtain ⟨Ao29, co29, eo29⟩ := Kd.R_slice HO_6.out
           subst eo29
           have p254 : 0 ≤ (x11_3 : Int) := zq6
           have q254 : x11_3 < (x6_2.length : Int) := zq6
           obtain ⟨ad254, e254, hx254_0⟩ := Kd.at_int (Kd.R_reads' HO_6.out).2.2 x11_3 p254 q254
           cases e254
           replace p254 := eq_true p254
           replace q254 := eq_true q254
           go_wp2
           go_roundg k3
           case measure => have := HK1.out; have := HK2.out; have := HK3.out; omega
           case rel => exact ⟨(wrap64 (x11_3 + 1)), zq8, H', ⟨by have := HK1.out; have := HK2.out; have := HK3.out; omega⟩, ⟨zq4 HO_6.out⟩, ⟨zq1⟩⟩
          ·rw [if_neg c28] at H
           have c28b0 : ((rd x6_2 x11_3) == 48) = false := beq_eq_false_iff_ne.mpr c28
           have c28b1 : ((rd x6_2 x11_3) != 48) = true := bne_iff_ne.mpr c28
           have c30b0 := eq_true (zq6 : 0 ≤ x11_3)
           replace H := zn H
           obtain ⟨c31, H⟩ := H
           have c31b0 := eq_true c31
           have c31b1 := decide_eq_true c31
           clear c31
           obtain ⟨y255, hy255⟩ : ∃ y_ : List Int, y_ = (x6_2.drop (x11_3 : Int).toNat) := ⟨_, rfl⟩
           try rw [← hy255] at H
           have Ny255 := am hy255
           clear hy255
           obtain rfl := Option.some.inj H
           obtain ⟨Ao32, co32, eo32⟩ := Kd.R_slice HO_6.out
           subst eo32
           have p254 : 0 ≤ (x11_3 : Int) := zq6
           have q254 : x11_3 < (x6_2.length : Int) := zq6
           obtain ⟨ad254, e254, hx254_0⟩ := Kd.at_int (Kd.R_reads' HO_6.out).2.2 x11_3 p254 q254
           cases e254
           replace p254 := eq_true p254
           replace q254 := eq_true q254
           have q33 : (x11_3 : Int) ≤ ((x6_2.length : Int) : Int) := zq6
           obtain ⟨i033, hi033, _, hsz33, _⟩ := info_parts info5
           have hroom33 : x6_2.length ≤ co32 := (Kd.R_reads' HO_6.out).2.1
           have hC33 : Kd.C (Kd.int .u8) _ (some ad254) x6_2.length x6_2 := (Kd.R_reads' HO_6.out).2.2
           have q033 : (0 : Int) ≤ (x11_3 : Int) := zq6
           have hcut33 := cut_from (P := Tryd.prog) 105 5 .i64 Tryd.underlying105 hi033 1 hsz33 (some ad254) x6_2.length co32 x11_3 q033 q33
           have hr33 := Kd.C_drop (m := (x11_3 : Int).toNat) (c := co32) hC33 (by omega) hroom33
           obtain ⟨A33, hA33⟩ : ∃ A1, A1 = (if co32 = (x11_3 : Int).toNat then (some ad254) else ((some ad254) : Option Addr).map (·.add ((x11_3 : Int).toNat * 1))) := ⟨_, rfl⟩
           obtain ⟨c33, hc33⟩ : ∃ c1, c1 = co32 - (x11_3 : Int).toNat := ⟨_, rfl⟩
           have hy33 : y255.length = x6_2.length - (x11_3 : Int).toNat := (by rw [Ny255.out, List.length_drop] <;> omega)
           rw [show (x6_2).drop (x11_3 : Int).toNat = y255 from Ny255.out.symm] at hr33
           replace hr33 : Kd.C (Kd.int .u8) _ A33 y255.length y255 := (by rw [hA33]; exact hr33)
           rw [← hy33, ← hA33, ← hc33] at hcut33
           have HR258 := am hr33
           have HC258 := am (show y255.length ≤ c33 from by rw [hy33, hc33]; exact Nat.sub_le_sub_right hroom33 _)
           clear hr33 hC33 hroom33 hi033 hsz33 hc33
           have KY33 := am hy33
           have KA33 := am hA33
           clear hy33 hA33
           have KL33 := am (show (x11_3 : Int).toNat ≤ x6_2.length from by omega)
           replace q33 := eq_true q33
           have hcv34 := Kd.C_string (P := Tryd.prog) (A := A33) (c := c33) Tryd.underlying105 Tryd.underlying5 Tryd.underlying9 (by repeat (first | (with_reducible exact HR258.out) | (with_reducible refine Kd.C_alloc ?_ _) | (with_reducible refine Kd.C_drewN ?_ _) | (with_reducible refine Kd.C_drew ?_) | exact HR258.out))
           go_wp2
           go_ret
           exact ⟨zq9, zq1⟩
def stringslite_HasPrefix.f (a0 : ByteArray) (a1 : ByteArray) : Option (Bool) := if (a0.size : Int) ≥ (a1.size : Int) then (if 0 ≤ (a1.size : Int) then (if (a1.size : Int) ≤ (a0.size : Int) then (some ((a0.extract 0 ((a1.size : Int) : Int).toNat).toList == a1.toList)) else (none)) else (none)) else (some false)
set_option maxHeartbeats 8000000 in
set_option maxRecDepth 100000 in
theorem stringslite_HasPrefix.calls (a0 : ByteArray) (a1 : ByteArray) (r : Bool) (w : World) (h : stringslite_HasPrefix.f a0 a1 = some r) :
  Calls Tryd.prog 122 #[.string a0, .string a1] w fun e w' => e = .returned (.bool r) ∧ Drawn0 w w' := by
 have H := h
 unfold stringslite_HasPrefix.f at H
 clear h
 by_cases c3 : (a0.size : Int) ≥ (a1.size : Int)
 ·rw [if_pos c3] at H
  have c3b0 : decide ((a1.size : Int) ≤ (a0.size : Int)) = true := decide_eq_true c3
  have c3b1 : decide (a1.size ≤ a0.size) = true := decide_eq_true (Int.ofNat_le.mp c3)
  clear c3
  replace H := zn H
  obtain ⟨c4, H⟩ := H
  have c4b0 := eq_true c4
  have c4b1 := decide_eq_true c4
  clear c4
  replace H := zn H
  obtain ⟨c5, H⟩ := H
  have c5b0 := eq_true c5
  have c5b1 := decide_eq_true c5
  clear c5
  obtain rfl := Option.some.inj H
  go_enter Tryd.func122, Tryd.ntmps122
  go_wp2
  go_ret
  exact ⟨by first | rfl | (simp; done) | (simp [*]; done), by repeat (first | exact Drawn0.refl _ | apply Drawn0.step)⟩
 ·rw [if_neg c3] at H
  have c3b0 : decide ((a1.size : Int) ≤ (a0.size : Int)) = false := decide_eq_false c3
  have c3b1 : decide (a1.size ≤ a0.size) = false := decide_eq_false (fun h => c3 (Int.ofNat_le.mpr h))
  clear c3
  obtain rfl := Option.some.inj H
  go_enter Tryd.func122, Tryd.ntmps122
  go_wp2
  go_ret
  exact ⟨by first | rfl | (simp; done) | (simp [*]; done), by repeat (first | exact Drawn0.refl _ | apply Drawn0.step)⟩
def stringslite_CutPrefix.f (a0 : ByteArray) (a1 : ByteArray) : Option (ByteArray × Bool) := (stringslite_HasPrefix.f a0 a1).bind fun t264 => (if t264 = true then (if 0 ≤ (a1.size : Int) then (if (a1.size : Int) ≤ (a0.size : Int) then (some (a0.extract ((a1.size : Int) : Int).toNat a0.size, true)) else (none)) else (none)) else (some (a0, false)))
set_option maxHeartbeats 8000000 in
set_option maxRecDepth 100000 in
theorem stringslite_CutPrefix.calls (a0 : ByteArray) (a1 : ByteArray) (r1 : ByteArray) (r2 : Bool) (w : World) (h : stringslite_CutPrefix.f a0 a1 = some (r1, r2)) :
  Calls Tryd.prog 102 #[.string a0, .string a1] w fun e w' => e = .returned (.tuple #[.string r1, .bool r2]) ∧ Drawn0 w w' := by
 have H := h
 unfold stringslite_CutPrefix.f at H
 clear h
 replace H := zj H
 obtain ⟨t264, A3, H⟩ := H
 by_cases c4 : t264 = true
 ·subst c4
  have H1 : (if 0 ≤ (a1.size : Int) then (if (a1.size : Int) ≤ (a0.size : Int) then (some (a0.extract ((a1.size : Int) : Int).toNat a0.size, true)) else (none)) else (none)) = some (r1, r2) := by rw [if_pos rfl] at H; exact H
  clear H
  have H := H1
  clear H1
  replace H := zn H
  obtain ⟨c5, H⟩ := H
  have c5b0 := eq_true c5
  have c5b1 := decide_eq_true c5
  clear c5
  replace H := zn H
  obtain ⟨c6, H⟩ := H
  have c6b0 := eq_true c6
  have c6b1 := decide_eq_true c6
  clear c6
  simp only [Option.some.injEq, Prod.mk.injEq] at H
  obtain ⟨rfl, rfl⟩ := H
  go_enter Tryd.func102, Tryd.ntmps102
  go_wp2_with (first | ((with_reducible refine gate_callee (f := 122) rfl ?_); refine goesL_ (some 8) rfl rfl Tryd.func122 (by kernel_rfl) rfl #[.string a0, .string a1] rfl zq5 ?_; (with_reducible refine (stringslite_HasPrefix.calls a0 a1 true _ A3.out).mono ?_); rintro e w' ⟨rfl, ⟨nd, rfl⟩⟩; refine ⟨_, rfl, ?_⟩))
  go_ret2
  exact ⟨by first | rfl | (simp; done) | (simp [*]; done), by repeat (first | exact Drawn0.refl _ | apply Drawn0.step)⟩
 ·replace c4 := Bool.eq_false_iff.mpr c4
  subst c4
  have H1 : (some (a0, false)) = some (r1, r2) := by rw [if_neg (show ¬ (false = true) by decide)] at H; exact H
  clear H
  have H := H1
  clear H1
  simp only [Option.some.injEq, Prod.mk.injEq] at H
  obtain ⟨rfl, rfl⟩ := H
  go_enter Tryd.func102, Tryd.ntmps102
  go_wp2_with (first | ((with_reducible refine gate_callee (f := 122) rfl ?_); refine goesL_ (some 8) rfl rfl Tryd.func122 (by kernel_rfl) rfl #[.string a0, .string a1] rfl zq5 ?_; (with_reducible refine (stringslite_HasPrefix.calls a0 a1 false _ A3.out).mono ?_); rintro e w' ⟨rfl, ⟨nd, rfl⟩⟩; refine ⟨_, rfl, ?_⟩))
  go_ret2
  exact ⟨by first | rfl | (simp; done) | (simp [*]; done), by repeat (first | exact Drawn0.refl _ | apply Drawn0.step)⟩
def strings_CutPrefix.f (a0 : ByteArray) (a1 : ByteArray) : Option (ByteArray × Bool) := (stringslite_CutPrefix.f a0 a1).bind fun bt265 => (some (bt265.1, bt265.2))
set_option maxHeartbeats 8000000 in
set_option maxRecDepth 100000 in
theorem strings_CutPrefix.calls (a0 : ByteArray) (a1 : ByteArray) (r1 : ByteArray) (r2 : Bool) (w : World) (h : strings_CutPrefix.f a0 a1 = some (r1, r2)) :
  Calls Tryd.prog 50 #[.string a0, .string a1] w fun e w' => e = .returned (.tuple #[.string r1, .bool r2]) ∧ Drawn0 w w' := by
 have H := h
 unfold strings_CutPrefix.f at H
 clear h
 replace H := zj H
 obtain ⟨⟨t265, t266⟩, A3, H⟩ := H
 try dsimp only at H
 simp only [Option.some.injEq, Prod.mk.injEq] at H
 obtain ⟨rfl, rfl⟩ := H
 go_enter Tryd.func50, Tryd.ntmps50
 go_wp2_with (first | ((with_reducible refine gate_callee (f := 102) rfl ?_); refine goesL_ (some 8) rfl rfl Tryd.func102 (by kernel_rfl) rfl #[.string a0, .string a1] rfl zq5 ?_; (with_reducible refine (stringslite_CutPrefix.calls a0 a1 t265 t266 _ A3.out).mono ?_); rintro e w' ⟨rfl, ⟨nd, rfl⟩⟩; refine ⟨_, rfl, ?_⟩))
 go_ret2
 exact ⟨by first | rfl | (simp; done) | (simp [*]; done), by repeat (first | exact Drawn0.refl _ | apply Drawn0.step)⟩
def stringslite_Index.f (a0 : ByteArray) (a1 : ByteArray) : Option (Int) := if a1.size = 1 then some (Lib.indexByte a0.data.toList (bt a1 0).toNat.toUInt8) else none
theorem stringslite_Index.calls (a0 : ByteArray) (a1 : ByteArray) (r : Int) (w : World) (h : stringslite_Index.f a0 a1 = some r) :
  Calls Tryd.prog 123 #[.string a0, .string a1] w fun e w' => e = .returned (.int .i64 r) ∧ Drawn0 w w' := by
 unfold stringslite_Index.f at h
 split at h
 ·rename_i h1
  obtain rfl := Option.some.inj h
  obtain ⟨c, rfl⟩ : ∃ c, a1 = ⟨#[c]⟩ := by
   obtain ⟨⟨l⟩⟩ := a1
   match l, h1 with
   | [c], _ => exact ⟨c, rfl⟩
  have e : (bt ⟨#[c]⟩ 0).toNat.toUInt8 = c := by
   have : bt ⟨#[c]⟩ 0 = (c.toNat : Int) := rfl
   rw [this]; simp
  rw [e]
  exact (Any.stringslite_Index_one Tryd.lays219 a0 c w).mono fun e w' h => ⟨h.1, by rw [h.2]; exact Drawn0.refl w⟩
 ·cases h
def stringslite_Cut.f (a0 : ByteArray) (a1 : ByteArray) : Option (ByteArray × ByteArray × Bool) := (stringslite_Index.f a0 a1).bind fun t269 => (if t269 ≥ 0 then (if 0 ≤ t269 then (if t269 ≤ (a0.size : Int) then (if 0 ≤ (wrap64 (t269 + (a1.size : Int))) then (if (wrap64 (t269 + (a1.size : Int))) ≤ (a0.size : Int) then (some (a0.extract 0 (t269 : Int).toNat, a0.extract ((wrap64 (t269 + (a1.size : Int))) : Int).toNat a0.size, true)) else (none)) else (none)) else (none)) else (none)) else (some (a0, (⟨#[]⟩ : ByteArray), false)))
set_option maxHeartbeats 8000000 in
set_option maxRecDepth 100000 in
theorem stringslite_Cut.calls (a0 : ByteArray) (a1 : ByteArray) (r1 : ByteArray) (r2 : ByteArray) (r3 : Bool) (w : World) (h : stringslite_Cut.f a0 a1 = some (r1, r2, r3)) :
  Calls Tryd.prog 103 #[.string a0, .string a1] w fun e w' => e = .returned (.tuple #[.string r1, .string r2, .bool r3]) ∧ Drawn0 w w' := by
 have H := h
 unfold stringslite_Cut.f at H
 clear h
 replace H := zj H
 obtain ⟨t269, A3, H⟩ := H
 by_cases c4 : t269 ≥ 0
 ·rw [if_pos c4] at H
  have c4b0 : decide (0 ≤ t269) = true := decide_eq_true c4
  clear c4
  replace H := zn H
  obtain ⟨c5, H⟩ := H
  have c5b0 := eq_true c5
  have c5b1 := decide_eq_true c5
  clear c5
  replace H := zn H
  obtain ⟨c6, H⟩ := H
  have c6b0 := eq_true c6
  have c6b1 := decide_eq_true c6
  clear c6
  obtain ⟨ji7, hji7⟩ : ∃ j_ : Int, (wrap64 (t269 + (a1.size : Int))) = j_ := ⟨_, rfl⟩
  replace H : (if 0 ≤ (ji7) then (if (ji7) ≤ (a0.size : Int) then (some (a0.extract 0 (t269 : Int).toNat, a0.extract ((ji7) : Int).toNat a0.size, true)) else (none)) else (none)) = some (r1, r2, r3) := by first | (rw [hji7] at H; exact H) | (simp only [hji7] at H ⊢; exact H)
  (try rw [hji7] at A3)
  have hji7w : (IntKind.i64.wrap (t269 + (a1.size : Int))) = ji7 := (i64_w _).trans hji7
  replace H := zn H
  obtain ⟨c8, H⟩ := H
  have c8b0 := eq_true c8
  have c8b1 := decide_eq_true c8
  clear c8
  replace H := zn H
  obtain ⟨c9, H⟩ := H
  have c9b0 := eq_true c9
  have c9b1 := decide_eq_true c9
  clear c9
  simp only [Option.some.injEq, Prod.mk.injEq] at H
  obtain ⟨rfl, rfl, rfl⟩ := H
  go_enter Tryd.func103, Tryd.ntmps103
  go_wp2_with (first | (go_at_call 123; (with_reducible refine (stringslite_Index.calls a0 a1 t269 _ A3.out).mono ?_); rintro e w' ⟨rfl, ⟨nd, rfl⟩⟩; (try first | exact ⟨rfl, _, World.drewN_drewN _ _ _⟩ | exact ⟨rfl, _, Eq.trans (World.drewN_drewN _ _ _) (congrArg (World.drewN _) (Nat.add_assoc _ _ _))⟩)))
  repeat (go_quiet (first | (go_at_call 123; (with_reducible refine (stringslite_Index.calls a0 a1 t269 _ A3.out).mono ?_); rintro e w' ⟨rfl, ⟨nd, rfl⟩⟩; (try first | exact ⟨rfl, _, World.drewN_drewN _ _ _⟩ | exact ⟨rfl, _, Eq.trans (World.drewN_drewN _ _ _) (congrArg (World.drewN _) (Nat.add_assoc _ _ _))⟩))); try go_wp2_with (first | (go_at_call 123; (with_reducible refine (stringslite_Index.calls a0 a1 t269 _ A3.out).mono ?_); rintro e w' ⟨rfl, ⟨nd, rfl⟩⟩; (try first | exact ⟨rfl, _, World.drewN_drewN _ _ _⟩ | exact ⟨rfl, _, Eq.trans (World.drewN_drewN _ _ _) (congrArg (World.drewN _) (Nat.add_assoc _ _ _))⟩))))
  go_ret3
  exact ⟨by first | rfl | (simp; done) | (simp only [← hji7] <;> (first | rfl | simp)) | (simp [*]; done), by repeat (first | exact Drawn0.refl _ | apply Drawn0.step)⟩
 ·rw [if_neg c4] at H
  have c4b0 : decide (0 ≤ t269) = false := decide_eq_false c4
  clear c4
  simp only [Option.some.injEq, Prod.mk.injEq] at H
  obtain ⟨rfl, rfl, rfl⟩ := H
  go_enter Tryd.func103, Tryd.ntmps103
  go_wp2_with (first | (go_at_call 123; (with_reducible refine (stringslite_Index.calls a0 a1 t269 _ A3.out).mono ?_); rintro e w' ⟨rfl, ⟨nd, rfl⟩⟩; (try first | exact ⟨rfl, _, World.drewN_drewN _ _ _⟩ | exact ⟨rfl, _, Eq.trans (World.drewN_drewN _ _ _) (congrArg (World.drewN _) (Nat.add_assoc _ _ _))⟩)))
  repeat (go_quiet (first | (go_at_call 123; (with_reducible refine (stringslite_Index.calls a0 a1 t269 _ A3.out).mono ?_); rintro e w' ⟨rfl, ⟨nd, rfl⟩⟩; (try first | exact ⟨rfl, _, World.drewN_drewN _ _ _⟩ | exact ⟨rfl, _, Eq.trans (World.drewN_drewN _ _ _) (congrArg (World.drewN _) (Nat.add_assoc _ _ _))⟩))); try go_wp2_with (first | (go_at_call 123; (with_reducible refine (stringslite_Index.calls a0 a1 t269 _ A3.out).mono ?_); rintro e w' ⟨rfl, ⟨nd, rfl⟩⟩; (try first | exact ⟨rfl, _, World.drewN_drewN _ _ _⟩ | exact ⟨rfl, _, Eq.trans (World.drewN_drewN _ _ _) (congrArg (World.drewN _) (Nat.add_assoc _ _ _))⟩))))
  go_ret3
  exact ⟨by first | rfl | (simp; done) | (simp [*]; done), by repeat (first | exact Drawn0.refl _ | apply Drawn0.step)⟩
def strings_Cut.f (a0 : ByteArray) (a1 : ByteArray) : Option (ByteArray × ByteArray × Bool) := (stringslite_Cut.f a0 a1).bind fun bt270 => (some (bt270.1, bt270.2.1, bt270.2.2))
set_option maxHeartbeats 8000000 in
set_option maxRecDepth 100000 in
theorem strings_Cut.calls (a0 : ByteArray) (a1 : ByteArray) (r1 : ByteArray) (r2 : ByteArray) (r3 : Bool) (w : World) (h : strings_Cut.f a0 a1 = some (r1, r2, r3)) :
  Calls Tryd.prog 51 #[.string a0, .string a1] w fun e w' => e = .returned (.tuple #[.string r1, .string r2, .bool r3]) ∧ Drawn0 w w' := by
 have H := h
 unfold strings_Cut.f at H
 clear h
 replace H := zj H
 obtain ⟨⟨t270, t271, t272⟩, A3, H⟩ := H
 try dsimp only at H
 simp only [Option.some.injEq, Prod.mk.injEq] at H
 obtain ⟨rfl, rfl, rfl⟩ := H
 go_enter Tryd.func51, Tryd.ntmps51
 go_wp2_with (first | ((with_reducible refine gate_callee (f := 103) rfl ?_); refine goesL_ (some 9) rfl rfl Tryd.func103 (by kernel_rfl) rfl #[.string a0, .string a1] rfl zq5 ?_; (with_reducible refine (stringslite_Cut.calls a0 a1 t270 t271 t272 _ A3.out).mono ?_); rintro e w' ⟨rfl, ⟨nd, rfl⟩⟩; refine ⟨_, rfl, ?_⟩))
 go_ret3
 exact ⟨by first | rfl | (simp; done) | (simp [*]; done), by repeat (first | exact Drawn0.refl _ | apply Drawn0.step)⟩
def strings_Trim.f (a0 : ByteArray) (a1 : ByteArray) : Option (ByteArray) := if a0.size ≤ 9223372036854775807 ∧ a1.size < 4294967281 ∧ a1.data.toList.all (fun b => decide (b.toNat < 128)) = true then some ⟨(Lib.trimS a0.data.toList a1.data.toList).toArray⟩ else none
theorem strings_Trim.calls (a0 : ByteArray) (a1 : ByteArray) (r : ByteArray) (w : World) (h : strings_Trim.f a0 a1 = some r) :
  Calls Tryd.prog 104 #[.string a0, .string a1] w fun e w' => e = .returned (.string r) ∧ Below w.heap.size w w' := by
 unfold strings_Trim.f at h
 split at h
 ·rename_i h1
  obtain rfl := Option.some.inj h
  exact Any.strings_Trim_laid Tryd.lays160 (by kernel_rfl) a0 a1 w h1.1 h1.2.1 (ascii_of_all h1.2.2)
 ·cases h
end Go.Proofs.YtemnjgkicndmjaaDoor.Q
namespace Go.Proofs.YtemnjgkicndmjaaDoor.Q
open Go.RowKit Go.Proofs.YtemnjgkicndmjaaDoor.E Go.Proofs.YtemnjgkicndmjaaDoorW.PrintWords Go.Proofs.YtemnjgkicndmjaaDoorW.PrintLast Go.Proofs.YtemnjgkicndmjaaDoorW.PrintMore
set_option linter.unusedVariables false
noncomputable def nat_FromDecimal.c : (R : Type) → (ByteArray) → ((List Int) → Option R) → Option R := fun R a => lm (fun (a : ByteArray) k => nat_FromDecimal.f k a) R a
theorem nat_FromDecimal.pc (a : ByteArray) (b : List Int) (k : Nat) (h : nat_FromDecimal.f k a = some b) : PureC Tryd.prog 53 ((one cs).enc a) (rU.enc b) := by
  intro w P0 vs hr
  obtain ⟨u0, e0, hr⟩ := at_str hr
  have z := at_nil hr
  subst z
  have q1 := e0
  obtain rfl : vs = #[.string a] := Array.toList_inj.1 (by simpa using q1)
  refine Calls.mono (nat_FromDecimal.calls k a b w h) fun e w' he => ?_
  obtain ⟨v0_, rfl, hv0, hb⟩ := he
  exact ⟨_, rfl, hb, (V_row hv0 fun n hn => .inr hn)⟩
theorem nat_FromDecimal.ok : FunOk Tryd.prog 53 (mk (one cs) rU nat_FromDecimal.c) := lm_ok (by kernel_rfl) nat_FromDecimal.pc
theorem nat_FromDecimal.eq {x0 : ByteArray} {b : List Int} (h : Ev (fun k => nat_FromDecimal.f k x0) b) {R : Type} (K : (List Int) → Option R) : nat_FromDecimal.c R x0 K = K b := lm_ev (g := fun (a : ByteArray) k => nat_FromDecimal.f k a) (a := x0) h K
noncomputable def nat_Decimal.c : (R : Type) → (List Int) → ((ByteArray) → Option R) → Option R := fun R a => lm (fun (a : List Int) k => nat_Decimal.f k a) R a
theorem nat_Decimal.pc (a : List Int) (b : ByteArray) (k : Nat) (h : nat_Decimal.f k a = some b) : PureC Tryd.prog 48 ((one rU).enc a) (cs.enc b) := by
  intro w P0 vs hr
  obtain ⟨A0, c0, u0, e0, hc0, hf0, hr⟩ := at_row hr
  have z := at_nil hr
  subst z
  have q1 := e0
  obtain rfl : vs = #[.slice A0 a.length c0] := Array.toList_inj.1 (by simpa using q1)
  refine Calls.mono (nat_Decimal.calls k P0 A0 c0 a b w (rowV hf0 hc0) h) fun e w' he => ?_
  obtain ⟨rfl, hb⟩ := he
  exact ⟨_, rfl, hb, (show E.Rep _ _ _ _ _ from by simp only [cs, E.Rep])⟩
theorem nat_Decimal.ok : FunOk Tryd.prog 48 (mk (one rU) cs nat_Decimal.c) := lm_ok (by kernel_rfl) nat_Decimal.pc
theorem nat_Decimal.eq {x0 : List Int} {b : ByteArray} (h : Ev (fun k => nat_Decimal.f k x0) b) {R : Type} (K : (ByteArray) → Option R) : nat_Decimal.c R x0 K = K b := lm_ev (g := fun (a : List Int) k => nat_Decimal.f k a) (a := x0) h K
def strings_CutPrefix.c : (R : Type) → (ByteArray × ByteArray) → (((ByteArray × Bool)) → Option R) → Option R := fun R a => at' (fun (a : ByteArray × ByteArray) => strings_CutPrefix.f a.1 a.2) R a
theorem strings_CutPrefix.pc (a : ByteArray × ByteArray) (b : (ByteArray × Bool)) (h : strings_CutPrefix.f a.1 a.2 = some b) : PureC Tryd.prog 50 ((more cs (one cs)).enc a) ((tup (more cs (one cb))).enc b) := by
  intro w P0 vs hr
  obtain ⟨x0, x1⟩ := a
  obtain ⟨r0, r1⟩ := b
  obtain ⟨u0, e0, hr⟩ := at_str hr
  obtain ⟨u1, e1, hr⟩ := at_str hr
  have z := at_nil hr
  subst z
  subst e1
  have q2 := e0
  obtain rfl : vs = #[.string x0, .string x1] := Array.toList_inj.1 (by simpa using q2)
  refine Calls.mono (strings_CutPrefix.calls x0 x1 r0 r1 w h) fun e w' he => ?_
  obtain ⟨rfl, hb⟩ := he
  exact ⟨_, rfl, hb.below, (rep_tup2 (show E.Rep _ _ _ _ _ from by simp only [cs, E.Rep]) (show E.Rep _ _ _ _ _ from by simp only [cb, E.Rep]))⟩
theorem strings_CutPrefix.ok : FunOk Tryd.prog 50 (mk (more cs (one cs)) (tup (more cs (one cb))) strings_CutPrefix.c) := at_ok (by kernel_rfl) strings_CutPrefix.pc
theorem strings_CutPrefix.eq {x0 : ByteArray} {x1 : ByteArray} {b : (ByteArray × Bool)} (h : strings_CutPrefix.f x0 x1 = some b) {R : Type} (K : ((ByteArray × Bool)) → Option R) : strings_CutPrefix.c R (x0, x1) K = K b := at_eq (g := fun (a : ByteArray × ByteArray) => strings_CutPrefix.f a.1 a.2) (a := (x0, x1)) h K
def strings_Cut.c : (R : Type) → (ByteArray × ByteArray) → (((ByteArray × ByteArray × Bool)) → Option R) → Option R := fun R a => at' (fun (a : ByteArray × ByteArray) => strings_Cut.f a.1 a.2) R a
theorem strings_Cut.pc (a : ByteArray × ByteArray) (b : (ByteArray × ByteArray × Bool)) (h : strings_Cut.f a.1 a.2 = some b) : PureC Tryd.prog 51 ((more cs (one cs)).enc a) ((tup (more cs (more cs (one cb)))).enc b) := by
  intro w P0 vs hr
  obtain ⟨x0, x1⟩ := a
  obtain ⟨r0, r1, r2⟩ := b
  obtain ⟨u0, e0, hr⟩ := at_str hr
  obtain ⟨u1, e1, hr⟩ := at_str hr
  have z := at_nil hr
  subst z
  subst e1
  have q2 := e0
  obtain rfl : vs = #[.string x0, .string x1] := Array.toList_inj.1 (by simpa using q2)
  refine Calls.mono (strings_Cut.calls x0 x1 r0 r1 r2 w h) fun e w' he => ?_
  obtain ⟨rfl, hb⟩ := he
  exact ⟨_, rfl, hb.below, (rep_tup3 (show E.Rep _ _ _ _ _ from by simp only [cs, E.Rep]) (show E.Rep _ _ _ _ _ from by simp only [cs, E.Rep]) (show E.Rep _ _ _ _ _ from by simp only [cb, E.Rep]))⟩
theorem strings_Cut.ok : FunOk Tryd.prog 51 (mk (more cs (one cs)) (tup (more cs (more cs (one cb)))) strings_Cut.c) := at_ok (by kernel_rfl) strings_Cut.pc
theorem strings_Cut.eq {x0 : ByteArray} {x1 : ByteArray} {b : (ByteArray × ByteArray × Bool)} (h : strings_Cut.f x0 x1 = some b) {R : Type} (K : ((ByteArray × ByteArray × Bool)) → Option R) : strings_Cut.c R (x0, x1) K = K b := at_eq (g := fun (a : ByteArray × ByteArray) => strings_Cut.f a.1 a.2) (a := (x0, x1)) h K
def strings_Trim.c : (R : Type) → (ByteArray × ByteArray) → ((ByteArray) → Option R) → Option R := fun R a => at' (fun (a : ByteArray × ByteArray) => strings_Trim.f a.1 a.2) R a
theorem strings_Trim.pc (a : ByteArray × ByteArray) (b : ByteArray) (h : strings_Trim.f a.1 a.2 = some b) : PureC Tryd.prog 104 ((more cs (one cs)).enc a) (cs.enc b) := by
  intro w P0 vs hr
  obtain ⟨x0, x1⟩ := a
  obtain ⟨u0, e0, hr⟩ := at_str hr
  obtain ⟨u1, e1, hr⟩ := at_str hr
  have z := at_nil hr
  subst z
  subst e1
  have q2 := e0
  obtain rfl : vs = #[.string x0, .string x1] := Array.toList_inj.1 (by simpa using q2)
  refine Calls.mono (strings_Trim.calls x0 x1 b w h) fun e w' he => ?_
  obtain ⟨rfl, hb⟩ := he
  exact ⟨_, rfl, hb, (show E.Rep _ _ _ _ _ from by simp only [cs, E.Rep])⟩
theorem strings_Trim.ok : FunOk Tryd.prog 104 (mk (more cs (one cs)) cs strings_Trim.c) := at_ok (by kernel_rfl) strings_Trim.pc
theorem strings_Trim.eq {x0 : ByteArray} {x1 : ByteArray} {b : ByteArray} (h : strings_Trim.f x0 x1 = some b) {R : Type} (K : (ByteArray) → Option R) : strings_Trim.c R (x0, x1) K = K b := at_eq (g := fun (a : ByteArray × ByteArray) => strings_Trim.f a.1 a.2) (a := (x0, x1)) h K
noncomputable def cT0 : List (Nat × Fun) := [(53, mk (one cs) rU (at' fun (a : ByteArray) => nat_FromDecimal.f 40 a)), (48, mk (one rU) cs (at' fun (a : List Int) => nat_Decimal.f 40 a)), (50, mk (more cs (one cs)) (tup (more cs (one cb))) (at' fun (a : ByteArray × ByteArray) => strings_CutPrefix.f a.1 a.2)), (51, mk (more cs (one cs)) (tup (more cs (more cs (one cb)))) (at' fun (a : ByteArray × ByteArray) => strings_Cut.f a.1 a.2)), (104, mk (more cs (one cs)) cs (at' fun (a : ByteArray × ByteArray) => strings_Trim.f a.1 a.2)), (77, mk (more rU (one rU)) rU (at' fun (a : List Int × List Int) => nat_Mul.f 40 a.1 a.2)), (105, mk (more rU (one rU)) rU (at' fun (a : List Int × List Int) => nat_plus.f 40 a.1 a.2)), (109, mk (more rU (one rU)) iI (at' fun (a : List Int × List Int) => nat_Compare.f 40 a.1 a.2)), (132, mk (more rU (one rU)) rU (at' fun (a : List Int × List Int) => nat_Sub.f 40 a.1 a.2)), (44, mk (more rU (one rU)) rU (at' fun (a : List Int × List Int) => nat_Gcd.f 40 a.1 a.2)), (94, mk (more rU (one rU)) (tup (more rU (one rU))) (at' fun (a : List Int × List Int) => nat_DivMod.f 40 a.1 a.2)), (43, mk (one rU) cb (at' fun (a : List Int) => nat_IsOne.f a)), (95, mk (one rU) rU (at' fun (a : List Int) => slices_Clone_uint32_uint32.f a))]
theorem cTok0 : TOk Tryd.prog (tb cT0) := (tb_cons (at_ok (by kernel_rfl) fun a b h => nat_FromDecimal.pc a b 40 h) (tb_cons (at_ok (by kernel_rfl) fun a b h => nat_Decimal.pc a b 40 h) (tb_cons (at_ok (by kernel_rfl) fun a b h => strings_CutPrefix.pc a b h) (tb_cons (at_ok (by kernel_rfl) fun a b h => strings_Cut.pc a b h) (tb_cons (at_ok (by kernel_rfl) fun a b h => strings_Trim.pc a b h) (tb_cons (at_ok (by kernel_rfl) fun a b h => nat_Mul.pc a b 40 h) (tb_cons (at_ok (by kernel_rfl) fun a b h => nat_plus.pc a b 40 h) (tb_cons (at_ok (by kernel_rfl) fun a b h => nat_Compare.pc a b 40 h) (tb_cons (at_ok (by kernel_rfl) fun a b h => nat_Sub.pc a b 40 h) (tb_cons (at_ok (by kernel_rfl) fun a b h => nat_Gcd.pc a b 40 h) (tb_cons (at_ok (by kernel_rfl) fun a b h => nat_DivMod.pc a b 40 h) (tb_cons (at_ok (by kernel_rfl) fun a b h => nat_IsOne.pc a b h) (tb_cons (at_ok (by kernel_rfl) fun a b h => slices_Clone_uint32_uint32.pc a b h) tb_nil)))))))))))))
noncomputable def cT1 : List (Nat × Fun) := [(42, execFn' Tryd.prog (tb cT0) 40 Tryd.f42), (78, execFn' Tryd.prog (tb cT0) 40 Tryd.f78), (106, execFn' Tryd.prog (tb cT0) 40 Tryd.f106), (52, execFn' Tryd.prog (tb cT0) 40 Tryd.f52), (93, execFn' Tryd.prog (tb cT0) 40 Tryd.f93)] ++ cT0
theorem cTok1 : TOk Tryd.prog (tb cT1) := (tb_cons (execFn'_ok cTok0 mixed Tryd.func42 (by kernel_rfl)) (tb_cons (execFn'_ok cTok0 mixed Tryd.func78 (by kernel_rfl)) (tb_cons (execFn'_ok cTok0 mixed Tryd.func106 (by kernel_rfl)) (tb_cons (execFn'_ok cTok0 mixed Tryd.func52 (by kernel_rfl)) (tb_cons (execFn'_ok cTok0 mixed Tryd.func93 (by kernel_rfl)) cTok0)))))
noncomputable def cT2 : List (Nat × Fun) := [(14, execFn' Tryd.prog (tb cT1) 40 Tryd.f14), (54, execFn' Tryd.prog (tb cT1) 40 Tryd.f54), (110, execFn' Tryd.prog (tb cT1) 40 Tryd.f110)] ++ cT1
theorem cTok2 : TOk Tryd.prog (tb cT2) := (tb_cons (execFn'_ok cTok1 mixed Tryd.func14 (by kernel_rfl)) (tb_cons (execFn'_ok cTok1 mixed Tryd.func54 (by kernel_rfl)) (tb_cons (execFn'_ok cTok1 mixed Tryd.func110 (by kernel_rfl)) cTok1)))
noncomputable def cT3 : List (Nat × Fun) := [(61, execFn' Tryd.prog (tb cT2) 40 Tryd.f61), (64, execFn' Tryd.prog (tb cT2) 40 Tryd.f64), (19, execFn' Tryd.prog (tb cT2) 40 Tryd.f19), (17, execFn' Tryd.prog (tb cT2) 40 Tryd.f17)] ++ cT2
theorem cTok3 : TOk Tryd.prog (tb cT3) := (tb_cons (execFn'_ok cTok2 mixed Tryd.func61 (by kernel_rfl)) (tb_cons (execFn'_ok cTok2 mixed Tryd.func64 (by kernel_rfl)) (tb_cons (execFn'_ok cTok2 mixed Tryd.func19 (by kernel_rfl)) (tb_cons (execFn'_ok cTok2 mixed Tryd.func17 (by kernel_rfl)) cTok2))))
noncomputable def cT4 : List (Nat × Fun) := [(25, execFn' Tryd.prog (tb cT3) 40 Tryd.f25)] ++ cT3
theorem cTok4 : TOk Tryd.prog (tb cT4) := (tb_cons (execFn'_ok cTok3 mixed Tryd.func25 (by kernel_rfl)) cTok3)
def lw_counted.c (R : Type) (_ : Unit) (K : Bool → Option R) : Option R := K true
set_option maxRecDepth 100000 in
theorem lw_counted.run : execFn' Tryd.prog (tb cT4) 40 Tryd.f16 AV [] some = some (.bool true) := by kernel_rfl
theorem lw_counted.ok : FunOk Tryd.prog 16 (mk none0 cb lw_counted.c) := by
  refine mk_ok (by kernel_rfl) (fun R a K => rfl) (fun a b h => ?_)
  injection h with h
  subst h
  exact (execFn'_ok cTok4 mixed Tryd.func16 (by kernel_rfl)).2.2 _ _ lw_counted.run
noncomputable def lw_NumberRoundMatchesSpec.c (R : Type) (a : Nm × Int) (K : (Bool) → Option R) : Option R :=
  (number_Neg.c _ (a.1.1, a.1.2.1, a.1.2.2) fun t1 => (rf_One.c _ ((110 : Int), (a.1.1, a.1.2.1, a.1.2.2)) fun t2 => (if (t1.2 != t2.2) = false then (lw_same.c _ ((t1.1.1, t1.1.2.1, t1.1.2.2), (t2.1.1, t2.1.2.1, t2.1.2.2)) fun t3 => (if (!t3) = true then K false else (number_Abs.c _ (a.1.1, a.1.2.1, a.1.2.2) fun t4 => (rf_One.c _ ((97 : Int), (a.1.1, a.1.2.1, a.1.2.2)) fun t5 => (if (t4.2 != t5.2) = false then (lw_same.c _ ((t4.1.1, t4.1.2.1, t4.1.2.2), (t5.1.1, t5.1.2.1, t5.1.2.2)) fun t6 => (if (!t6) = true then K false else (number_Root.c _ (a.1.1, a.1.2.1, a.1.2.2) fun t7 => (rf_One.c _ ((115 : Int), (a.1.1, a.1.2.1, a.1.2.2)) fun t8 => (if (t7.2 != t8.2) = false then (lw_same.c _ ((t7.1.1, t7.1.2.1, t7.1.2.2), (t8.1.1, t8.1.2.1, t8.1.2.2)) fun t9 => (if (!t9) = true then K false else (number_Round.c _ ((a.1.1, a.1.2.1, a.1.2.2), a.2) fun t10 => (rf_Fault.c _ (a.1.1, a.1.2.1, a.1.2.2) fun t11 => (if (t11 == (0 : Int)) = true then (if (decide (a.2 ≥ (1 : Int))) = true then (if (decide (a.2 ≤ (4 : Int))) = true then (if 0 ≤ (IntKind.i64.wrap (a.2 - (1 : Int))) ∧ (IntKind.i64.wrap (a.2 - (1 : Int))) < ((⟨#[102, 99, 116, 114]⟩ : ByteArray).size : Int) then (rf_One.c _ (((((⟨#[102, 99, 116, 114]⟩ : ByteArray).data.getD (IntKind.i64.wrap (a.2 - (1 : Int))).toNat 0).toNat : Nat) : Int), (a.1.1, a.1.2.1, a.1.2.2)) fun t12 => (if (t10.2 == t12.2) = true then (lw_same.c _ ((t10.1.1, t10.1.2.1, t10.1.2.2), (t12.1.1, t12.1.2.1, t12.1.2.2)) fun t13 => (if t13 = true then (lw_counted.c _ () fun t14 => K t14) else K false)) else K false)) else none) else (if (t10.2 == (1 : Int)) = true then (lw_same.c _ ((t10.1.1, t10.1.2.1, t10.1.2.2), (false, ([] : List Int), ([] : List Int))) fun t15 => (if t15 = true then (lw_counted.c _ () fun t16 => K t16) else K false)) else K false)) else (if (t10.2 == (1 : Int)) = true then (lw_same.c _ ((t10.1.1, t10.1.2.1, t10.1.2.2), (false, ([] : List Int), ([] : List Int))) fun t17 => (if t17 = true then (lw_counted.c _ () fun t18 => K t18) else K false)) else K false)) else (if (decide (a.2 ≥ (1 : Int))) = true then (if (decide (a.2 ≤ (4 : Int))) = true then (if 0 ≤ (IntKind.i64.wrap (a.2 - (1 : Int))) ∧ (IntKind.i64.wrap (a.2 - (1 : Int))) < ((⟨#[102, 99, 116, 114]⟩ : ByteArray).size : Int) then (rf_One.c _ (((((⟨#[102, 99, 116, 114]⟩ : ByteArray).data.getD (IntKind.i64.wrap (a.2 - (1 : Int))).toNat 0).toNat : Nat) : Int), (a.1.1, a.1.2.1, a.1.2.2)) fun t19 => (if (t10.2 == t19.2) = true then (lw_same.c _ ((t10.1.1, t10.1.2.1, t10.1.2.2), (t19.1.1, t19.1.2.1, t19.1.2.2)) fun t20 => (if t20 = true then (lw_counted.c _ () fun t21 => K t21) else K false)) else K false)) else none) else (if (t10.2 == t11) = true then (lw_same.c _ ((t10.1.1, t10.1.2.1, t10.1.2.2), (false, ([] : List Int), ([] : List Int))) fun t22 => (if t22 = true then (lw_counted.c _ () fun t23 => K t23) else K false)) else K false)) else (if (t10.2 == t11) = true then (lw_same.c _ ((t10.1.1, t10.1.2.1, t10.1.2.2), (false, ([] : List Int), ([] : List Int))) fun t24 => (if t24 = true then (lw_counted.c _ () fun t25 => K t25) else K false)) else K false))))))) else K false))))) else K false))))) else K false)))
noncomputable def lw_NumberRoundMatchesSpec.T (g37 : CF (Nm) ((Nm × Int))) (g38 : CF (Int × Nm) ((Nm × Int))) (g20 : CF (Nm × Nm) (Bool)) (g39 : CF (Nm) ((Nm × Int))) (g40 : CF (Nm) ((Nm × Int))) (g41 : CF (Nm × Int) ((Nm × Int))) (g15 : CF (Nm) (Int)) (g16 : CF (Unit) (Bool)) : List (Nat × Fun) := [(15, mk (one kN) iI g15), (16, mk none0 cb g16), (20, mk (more kN (one kN)) cb g20), (37, mk (one kN) kE g37), (38, mk (more (ci .u8) (one kN)) kE g38), (39, mk (one kN) kE g39), (40, mk (one kN) kE g40), (41, mk (more kN (one iI)) kE g41)]
theorem lw_NumberRoundMatchesSpec.tok : TOk Tryd.prog (tb (lw_NumberRoundMatchesSpec.T number_Neg.c rf_One.c lw_same.c number_Abs.c number_Root.c number_Round.c rf_Fault.c lw_counted.c)) := (tb_cons rf_Fault.ok (tb_cons lw_counted.ok (tb_cons lw_same.ok (tb_cons number_Neg.ok (tb_cons rf_One.ok (tb_cons number_Abs.ok (tb_cons number_Root.ok (tb_cons number_Round.ok tb_nil))))))))
set_option maxRecDepth 100000 in
theorem lw_NumberRoundMatchesSpec.ex0 (g37 : CF (Nm) ((Nm × Int))) (g38 : CF (Int × Nm) ((Nm × Int))) (g20 : CF (Nm × Nm) (Bool)) (g39 : CF (Nm) ((Nm × Int))) (g40 : CF (Nm) ((Nm × Int))) (g41 : CF (Nm × Int) ((Nm × Int))) (g15 : CF (Nm) (Int)) (g16 : CF (Unit) (Bool)) (R : Type) (a : Nm × Int) (K : (Bool) → Option R) : execFn' Tryd.prog (tb (lw_NumberRoundMatchesSpec.T g37 g38 g20 g39 g40 g41 g15 g16)) 60 Tryd.f13 R ((more kN (one iI)).enc a) (dk cb K) = (g37 _ (a.1.1, a.1.2.1, a.1.2.2) fun t1 => (g38 _ ((110 : Int), (a.1.1, a.1.2.1, a.1.2.2)) fun t2 => (if (t1.2 != t2.2) = false then (g20 _ ((t1.1.1, t1.1.2.1, t1.1.2.2), (t2.1.1, t2.1.2.1, t2.1.2.2)) fun t3 => (if (!t3) = true then K false else (g39 _ (a.1.1, a.1.2.1, a.1.2.2) fun t4 => (g38 _ ((97 : Int), (a.1.1, a.1.2.1, a.1.2.2)) fun t5 => (if (t4.2 != t5.2) = false then (g20 _ ((t4.1.1, t4.1.2.1, t4.1.2.2), (t5.1.1, t5.1.2.1, t5.1.2.2)) fun t6 => (if (!t6) = true then K false else (g40 _ (a.1.1, a.1.2.1, a.1.2.2) fun t7 => (g38 _ ((115 : Int), (a.1.1, a.1.2.1, a.1.2.2)) fun t8 => (if (t7.2 != t8.2) = false then (g20 _ ((t7.1.1, t7.1.2.1, t7.1.2.2), (t8.1.1, t8.1.2.1, t8.1.2.2)) fun t9 => (if (!t9) = true then K false else (g41 _ ((a.1.1, a.1.2.1, a.1.2.2), a.2) fun t10 => (g15 _ (a.1.1, a.1.2.1, a.1.2.2) fun t11 => (if (t11 == (0 : Int)) = true then (if (decide (a.2 ≥ (1 : Int))) = true then (if (decide (a.2 ≤ (4 : Int))) = true then (if 0 ≤ (IntKind.i64.wrap (a.2 - (1 : Int))) ∧ (IntKind.i64.wrap (a.2 - (1 : Int))) < ((⟨#[102, 99, 116, 114]⟩ : ByteArray).size : Int) then (g38 _ (((((⟨#[102, 99, 116, 114]⟩ : ByteArray).data.getD (IntKind.i64.wrap (a.2 - (1 : Int))).toNat 0).toNat : Nat) : Int), (a.1.1, a.1.2.1, a.1.2.2)) fun t12 => (if (t10.2 == t12.2) = true then (g20 _ ((t10.1.1, t10.1.2.1, t10.1.2.2), (t12.1.1, t12.1.2.1, t12.1.2.2)) fun t13 => (if t13 = true then (g16 _ () fun t14 => K t14) else K false)) else K false)) else none) else (if (t10.2 == (1 : Int)) = true then (g20 _ ((t10.1.1, t10.1.2.1, t10.1.2.2), (false, ([] : List Int), ([] : List Int))) fun t15 => (if t15 = true then (g16 _ () fun t16 => K t16) else K false)) else K false)) else (if (t10.2 == (1 : Int)) = true then (g20 _ ((t10.1.1, t10.1.2.1, t10.1.2.2), (false, ([] : List Int), ([] : List Int))) fun t17 => (if t17 = true then (g16 _ () fun t18 => K t18) else K false)) else K false)) else (if (decide (a.2 ≥ (1 : Int))) = true then (if (decide (a.2 ≤ (4 : Int))) = true then (if 0 ≤ (IntKind.i64.wrap (a.2 - (1 : Int))) ∧ (IntKind.i64.wrap (a.2 - (1 : Int))) < ((⟨#[102, 99, 116, 114]⟩ : ByteArray).size : Int) then (g38 _ (((((⟨#[102, 99, 116, 114]⟩ : ByteArray).data.getD (IntKind.i64.wrap (a.2 - (1 : Int))).toNat 0).toNat : Nat) : Int), (a.1.1, a.1.2.1, a.1.2.2)) fun t19 => (if (t10.2 == t19.2) = true then (g20 _ ((t10.1.1, t10.1.2.1, t10.1.2.2), (t19.1.1, t19.1.2.1, t19.1.2.2)) fun t20 => (if t20 = true then (g16 _ () fun t21 => K t21) else K false)) else K false)) else none) else (if (t10.2 == t11) = true then (g20 _ ((t10.1.1, t10.1.2.1, t10.1.2.2), (false, ([] : List Int), ([] : List Int))) fun t22 => (if t22 = true then (g16 _ () fun t23 => K t23) else K false)) else K false)) else (if (t10.2 == t11) = true then (g20 _ ((t10.1.1, t10.1.2.1, t10.1.2.2), (false, ([] : List Int), ([] : List Int))) fun t24 => (if t24 = true then (g16 _ () fun t25 => K t25) else K false)) else K false))))))) else K false))))) else K false))))) else K false))) := by kernel_rfl
theorem lw_NumberRoundMatchesSpec.sh : Shown Tryd.prog 13 (more kN (one iI)).enc cb lw_NumberRoundMatchesSpec.c := exec_shown lw_NumberRoundMatchesSpec.tok mixed Tryd.func13 (by kernel_rfl) (lw_NumberRoundMatchesSpec.ex0 number_Neg.c rf_One.c lw_same.c number_Abs.c number_Root.c number_Round.c rf_Fault.c lw_counted.c)
theorem lw_NumberRoundMatchesSpec.ok : FunOk Tryd.prog 13 (mk (more kN (one iI)) cb lw_NumberRoundMatchesSpec.c) := lw_NumberRoundMatchesSpec.sh.ok (by kernel_rfl)
end Go.Proofs.YtemnjgkicndmjaaDoor.Q
namespace Go.Proofs.YtemnjgkicndmjaaDoor.Q
open Go.RowKit Go.Proofs.YtemnjgkicndmjaaDoorW.PrintWords Go.Proofs.YtemnjgkicndmjaaDoorW.PrintLast Go.Proofs.YtemnjgkicndmjaaDoorW.PrintMore
set_option linter.unusedVariables false
theorem trim_ev (xs : List Int) : xs.length ≤ 1099511627776 → Ev (fun k => nat_Trim.l0 k xs) (trim xs) := by
  induction xs using snoc_induction with
  | h0 => intro _; exact Ev.step (f := fun _ => some []) (fun k => by simp [nat_Trim.l0]) (Ev.now _)
  | h1 xs x ih =>
    intro hl
    simp only [List.length_append, List.length_singleton] at hl
    have hw : wrap64 (((xs ++ [x]).length : Int) - 1) = xs.length := by simp only [List.length_append, List.length_singleton]; unfold wrap64; omega
    have hr : rd (xs ++ [x]) (xs.length : Int) = x := by rw [rd_getD]; simp
    have h1 : ((xs ++ [x]).length : Int) > 0 := by simp only [List.length_append, List.length_singleton]; omega
    have h2 : (xs.length : Int) < ((xs ++ [x]).length : Int) := by simp only [List.length_append, List.length_singleton]; omega
    by_cases hx : x = 0
    · subst hx
      rw [trim_snoc_zero]
      refine Ev.step (f := fun k => nat_Trim.l0 k xs) (fun k => ?_) (ih (by omega))
      simp only [nat_Trim.l0]
      rw [hw, if_pos h1, if_pos (by omega), if_pos h2, hr, if_pos rfl, if_pos (by omega)]
      simp
    · rw [trim_snoc xs hx]
      refine Ev.step (f := fun _ => some (xs ++ [x])) (fun k => ?_) (Ev.now _)
      simp only [nat_Trim.l0]
      rw [hw, if_pos h1, if_pos (by omega), if_pos h2, hr, if_neg hx]
theorem Trim_ev (xs : List Int) (h : xs.length ≤ 1099511627776) : Ev (fun k => nat_Trim.f k xs) (trim xs) := trim_ev xs h
theorem IsOne_eq (xs : List Int) : nat_IsOne.f xs = some (decide (xs = [1])) := by
  unfold nat_IsOne.f
  match xs with
  | [] => simp
  | [x] => simp [rd]; rw [Bool.eq_iff_iff]; simp
  | x :: y :: l => rw [if_neg (by simp; omega)]; simp
theorem val_of2 (x y : Int) : val 4294967296 [x, y] = x + 4294967296 * y := by simp [val]
theorem Of_ev (n : Int) (h0 : 0 ≤ n) (h1 : n < 18446744073709551616) : ∃ r, Ev (fun k => nat_Of.f k n) r ∧ Lim 4294967296 r ∧ Nrm r ∧ val 4294967296 r = n ∧ r.length ≤ 2 := by
  refine ⟨trim [n % 4294967296, n / 4294967296 % 4294967296], ?_, ?_, nrm_trim _, ?_, Nat.le_trans (length_trim _) (by simp)⟩
  · unfold nat_Of.f
    exact Ev.bind (f := fun _ t => some t) (Trim_ev _ (by simp)) (Ev.now _)
  · refine lim_trim ?_
    rw [lim_cons, lim_cons]
    exact ⟨by omega, by omega, lim_nil _⟩
  · rw [val_trim, val_of2]; omega
theorem sign_eq (n : Int) : nat_sign.f n = some (if n < 0 then -1 else if n > 0 then 1 else 0) := by unfold nat_sign.f; split <;> (try split) <;> simp_all
def cmpI (a b : Int) : Int := if a < b then -1 else if a > b then 1 else 0
theorem compare_loop (xs ys : List Int) (hx : Lim 4294967296 xs) (hy : Lim 4294967296 ys) (hl : xs.length = ys.length) (hb : xs.length ≤ 1099511627776) : ∀ i : Nat, i ≤ xs.length → xs.drop i = ys.drop i →
    Ev (fun k => nat_Compare.l0 k xs ys ((i : Int) - 1)) (cmpI (val 4294967296 xs) (val 4294967296 ys)) := by
  intro i
  induction i with
  | zero =>
    intro _ h
    simp only [List.drop_zero] at h
    subst h
    refine Ev.step (f := fun _ => some 0) (fun k => ?_) ?_
    · simp [nat_Compare.l0]
    · unfold cmpI; rw [if_neg (by omega), if_neg (by omega)]; exact Ev.now _
  | succ i ih =>
    intro hi h
    have e1 : (((i + 1 : Nat) : Int) - 1) = (i : Int) := by omega
    rw [e1]
    have hB : (0 : Int) < 4294967296 := by decide
    by_cases heq : xs.getD i 0 = ys.getD i 0
    · refine Ev.step (f := fun k => nat_Compare.l0 k xs ys ((i : Int) - 1)) (fun k => ?_) (ih (by omega) ?_)
      · simp only [nat_Compare.l0]
        rw [if_pos (by omega), if_pos (by omega), if_pos (by omega), if_pos (by omega), rd_getD, rd_getD, if_pos heq, w64 (by omega) (by omega)]
      · rw [drop_cons' xs i (by omega), drop_cons' ys i (by omega), heq, h]
    · have a1 := val_split 4294967296 xs i (by omega)
      have a2 := val_split 4294967296 ys i (by omega)
      rw [val_drop 4294967296 xs i (by omega)] at a1
      rw [val_drop 4294967296 ys i (by omega), ← h] at a2
      have b1 := val_lt hB (hx.take i)
      have b2 := val_lt hB (hy.take i)
      rw [List.length_take, Nat.min_eq_left (by omega)] at b1 b2
      have c1 := val_nonneg hB (hx.take i)
      have c2 := val_nonneg hB (hy.take i)
      have hP : (0 : Int) < (4294967296 : Int) ^ i := pow_pos' hB i
      generalize 4294967296 * val 4294967296 (xs.drop (i + 1)) = T at a1 a2
      rw [Int.mul_add] at a1 a2
      generalize 4294967296 ^ i * T = U at a1 a2
      have key : ∀ p q s t : Int, p < q → s < 4294967296 ^ i → 0 ≤ t → s + (4294967296 ^ i * p + U) < t + (4294967296 ^ i * q + U) := by
        intro p q s t hpq hs ht
        have : 4294967296 ^ i * (p + 1) ≤ 4294967296 ^ i * q := Int.mul_le_mul_of_nonneg_left (by omega) (by omega)
        rw [Int.mul_add, Int.mul_one] at this
        omega
      by_cases hlt : xs.getD i 0 < ys.getD i 0
      · refine Ev.step (f := fun _ => some (-1)) (fun k => ?_) ?_
        · simp only [nat_Compare.l0]
          rw [if_pos (by omega), if_pos (by omega), if_pos (by omega), if_pos (by omega), rd_getD, rd_getD, if_neg heq, if_pos hlt]
        · have := key _ _ _ _ hlt b1 c2
          unfold cmpI; rw [if_pos (by omega)]; exact Ev.now _
      · refine Ev.step (f := fun _ => some 1) (fun k => ?_) ?_
        · simp only [nat_Compare.l0]
          rw [if_pos (by omega), if_pos (by omega), if_pos (by omega), if_pos (by omega), rd_getD, rd_getD, if_neg heq, if_neg hlt]
        · have := key _ _ _ _ (show ys.getD i 0 < xs.getD i 0 by omega) b2 c1
          unfold cmpI; rw [if_neg (by omega), if_pos (by omega)]; exact Ev.now _
theorem len_lt_val {B : Int} (hB : 0 < B) {xs ys : List Int} (hx : Lim B xs) (hy : Lim B ys) (ny : Nrm ys) (h : xs.length < ys.length) : val B xs < val B ys := by
  have h1 := val_lt hB hx
  have h2 := val_ge hB hy ny (by rintro rfl; simp at h)
  have h3 : B ^ xs.length ≤ B ^ (ys.length - 1) := pow_mono' hB (by omega)
  omega
theorem Compare_ev (xs ys : List Int) (hx : Lim 4294967296 xs) (hy : Lim 4294967296 ys) (nx : Nrm xs) (ny : Nrm ys) (hb : xs.length ≤ 1099511627776) (hb' : ys.length ≤ 1099511627776) : Ev (fun k => nat_Compare.f k xs ys) (cmpI (val 4294967296 xs) (val 4294967296 ys)) := by
  have hB : (0 : Int) < 4294967296 := by decide
  unfold nat_Compare.f
  by_cases hl : xs.length = ys.length
  · have := compare_loop xs ys hx hy hl hb xs.length (by omega) (by rw [List.drop_length, hl, List.drop_length])
    refine Ev.congr (fun k => ?_) this
    rw [if_pos (by omega), w64 (by omega) (by omega)]
  · refine Ev.ret fun k => ?_
    rw [if_neg (by omega), w64 (by omega) (by omega), sign_eq]
    unfold cmpI
    rcases Nat.lt_or_ge xs.length ys.length with h | h
    · have := len_lt_val hB hx hy ny h
      rw [if_pos (by omega), if_pos (by omega)]; rfl
    · have := len_lt_val hB hy hx nx (by omega)
      rw [if_neg (by omega), if_pos (by omega), if_neg (by omega), if_pos (by omega)]; rfl
theorem divsmall_loop (xs : List Int) (d : Int) (hx : Lim 4294967296 xs) (hd0 : 0 < d) (hd : d < 4294967296) (hb : xs.length ≤ 1099511627776) : ∀ (i : Nat) (out : List Int) (rest : Int), i ≤ xs.length → out.length = xs.length → Lim 4294967296 out → out.take i = List.replicate i 0 → 0 ≤ rest → rest < d →
    ∃ r, Ev (fun k => nat_DivSmall.l0 k xs d out rest ((i : Int) - 1)) (trim r, val 4294967296 (xs.take i) + 4294967296 ^ i * rest - d * ((val 4294967296 (xs.take i) + 4294967296 ^ i * rest) / d)) ∧ r.length = xs.length ∧ Lim 4294967296 r ∧ val 4294967296 r = val 4294967296 out + (val 4294967296 (xs.take i) + 4294967296 ^ i * rest) / d := by
  intro i
  have hB : (0 : Int) < 4294967296 := by decide
  induction i with
  | zero =>
    intro out rest _ hlen ho hz h0 h1
    refine ⟨out, ?_, hlen, ho, ?_⟩
    · refine Ev.step (f := fun k => (nat_Trim.f k out).bind fun t => some (t, rest % 4294967296)) (fun k => ?_) ?_
      · simp [nat_DivSmall.l0]
      · refine Ev.bind (f := fun _ t => some (t, rest % 4294967296)) (Trim_ev out (by omega)) (Ev.eq (Ev.now _) ?_)
        have e1 : rest / d = 0 := Int.ediv_eq_zero_of_lt h0 h1
        simp only [List.take_zero, val, Int.pow_zero, Int.one_mul, Int.zero_add, e1, Int.mul_zero, Int.sub_zero]
        congr 1
        exact Int.emod_eq_of_lt h0 (by omega)
    · have e1 : rest / d = 0 := Int.ediv_eq_zero_of_lt h0 h1
      simp [val, e1]
  | succ i ih =>
    intro out rest hi hlen ho hz h0 h1
    have e1 : (((i + 1 : Nat) : Int) - 1) = (i : Int) := by omega
    have hxi := hx.rd hB (i : Int)
    have hxg : rd xs (i : Int) = xs.getD i 0 := rd_getD xs i
    generalize hy : rd xs (i : Int) = y at hxi hxg
    have hcur : rest * 4294967296 + y < 18446744073709551616 := by omega
    have hq0 : 0 ≤ (rest * 4294967296 + y) / d := Int.ediv_nonneg (by omega) (by omega)
    have hq1 : (rest * 4294967296 + y) / d < 4294967296 := by
      refine Int.ediv_lt_of_lt_mul hd0 ?_
      have : (rest + 1) * 4294967296 ≤ d * 4294967296 := Int.mul_le_mul_of_nonneg_right (by omega) (by decide)
      rw [Int.mul_comm d] at this
      have e : (rest + 1) * 4294967296 = rest * 4294967296 + 4294967296 := by grind
      omega
    have hr0 : 0 ≤ (rest * 4294967296 + y) % d := Int.emod_nonneg _ (by omega)
    have hr1 : (rest * 4294967296 + y) % d < d := Int.emod_lt_of_pos _ hd0
    have hdm := Int.mul_ediv_add_emod (rest * 4294967296 + y) d
    generalize hQ : (rest * 4294967296 + y) / d = q at *
    generalize hR : (rest * 4294967296 + y) % d = s at *
    have hoi : out.getD i 0 = 0 := by
      have : (out.take (i + 1)).getD i 0 = 0 := by rw [hz]; simp [List.getD_eq_getElem?_getD]
      rw [List.getD_eq_getElem?_getD, List.getElem?_take, if_pos (by omega)] at this
      rw [List.getD_eq_getElem?_getD]; exact this
    obtain ⟨r, hev, hrl, hrL, hrv⟩ := ih (out.set i q) s (by omega) (by simp [hlen]) (ho.set i ⟨hq0, hq1⟩) (by
      rw [List.take_set_of_le (by omega)]
      have := congrArg (List.take i) hz
      rw [List.take_take, Nat.min_eq_left (by omega), List.take_replicate, Nat.min_eq_left (by omega)] at this
      exact this) hr0 hr1
    have hval : val 4294967296 (xs.take (i + 1)) + 4294967296 ^ (i + 1) * rest = d * (4294967296 ^ i * q) + (val 4294967296 (xs.take i) + 4294967296 ^ i * s) := by
      rw [val_take_succ 4294967296 xs i (by omega), ← hxg, Int.pow_succ]
      have : (rest * 4294967296 + y) = d * q + s := by rw [← hdm]
      grind
    have hdiv : (val 4294967296 (xs.take (i + 1)) + 4294967296 ^ (i + 1) * rest) / d = 4294967296 ^ i * q + (val 4294967296 (xs.take i) + 4294967296 ^ i * s) / d := by
      rw [hval, Int.mul_add_ediv_left _ _ (by omega)]
    refine ⟨r, ?_, hrl, hrL, ?_⟩
    · refine Ev.step (f := fun k => nat_DivSmall.l0 k xs d (out.set i q) s ((i : Int) - 1)) (fun k => ?_) (Ev.eq hev ?_)
      · rw [e1]
        simp only [nat_DivSmall.l0]
        rw [if_pos (by omega), if_pos (by omega), if_pos (by omega), u64_id (x := d) (by omega) (by omega), if_neg (by omega), if_pos (by omega), hy,
          u64_id (x := rest * 4294967296) (by omega) (by omega), u64_id (x := y) (by omega) (by omega), bits_or_shift h0 (by omega) hxi.1 hxi.2,
          Int.tdiv_eq_ediv_of_nonneg (by omega), Int.tmod_eq_emod_of_nonneg (by omega), hQ, hR, u64_id hq0 (by omega), w64 (by omega) (by omega), Int.emod_eq_of_lt hq0 hq1]
        simp
      · congr 1
        rw [hdiv, hval]
        grind
    · rw [hrv, hdiv, val_set 4294967296 out i q (by omega), hoi]
      grind
theorem DivSmall_ev (xs : List Int) (d : Int) (hx : Lim 4294967296 xs) (hd0 : 0 < d) (hd : d < 4294967296) (hb : xs.length ≤ 1099511627776) :
    ∃ r, Ev (fun k => nat_DivSmall.f k xs d) (r, val 4294967296 xs % d) ∧ Lim 4294967296 r ∧ Nrm r ∧ val 4294967296 r = val 4294967296 xs / d ∧ r.length ≤ xs.length := by
  obtain ⟨r, h1, h2, h3, h4⟩ := divsmall_loop xs d hx hd0 hd hb xs.length (List.replicate xs.length 0) 0 (by omega) (by simp) (lim_replicate (by decide) _) (by rw [List.take_of_length_le (by simp)]) (by omega) hd0
  rw [List.take_of_length_le (Nat.le_refl _), Int.mul_zero, Int.add_zero] at h1 h4
  refine ⟨trim r, ?_, lim_trim h3, nrm_trim _, by rw [val_trim, h4, val_replicate, Int.zero_add], Nat.le_trans (length_trim _) (by omega)⟩
  refine Ev.congr (fun k => ?_) (Ev.eq h1 ?_)
  · unfold nat_DivSmall.f
    rw [if_pos (by omega), if_pos (by omega), w64 (by omega) (by omega)]
    simp
  · congr 1
    have := Int.mul_ediv_add_emod (val 4294967296 xs) d
    omega
def len8 : ByteArray := (⟨#[0, 1, 2, 2, 3, 3, 3, 3, 4, 4, 4, 4, 4, 4, 4, 4, 5, 5, 5, 5, 5, 5, 5, 5, 5, 5, 5, 5, 5, 5, 5, 5, 6, 6, 6, 6, 6, 6, 6, 6, 6, 6, 6, 6, 6, 6, 6, 6, 6, 6, 6, 6, 6, 6, 6, 6, 6, 6, 6, 6, 6, 6, 6, 6, 7, 7, 7, 7, 7, 7, 7, 7, 7, 7, 7, 7, 7, 7, 7, 7, 7, 7, 7, 7, 7, 7, 7, 7, 7, 7, 7, 7, 7, 7, 7, 7, 7, 7, 7, 7, 7, 7, 7, 7, 7, 7, 7, 7, 7, 7, 7, 7, 7, 7, 7, 7, 7, 7, 7, 7, 7, 7, 7, 7, 7, 7, 7, 7, 8, 8, 8, 8, 8, 8, 8, 8, 8, 8, 8, 8, 8, 8, 8, 8, 8, 8, 8, 8, 8, 8, 8, 8, 8, 8, 8, 8, 8, 8, 8, 8, 8, 8, 8, 8, 8, 8, 8, 8, 8, 8, 8, 8, 8, 8, 8, 8, 8, 8, 8, 8, 8, 8, 8, 8, 8, 8, 8, 8, 8, 8, 8, 8, 8, 8, 8, 8, 8, 8, 8, 8, 8, 8, 8, 8, 8, 8, 8, 8, 8, 8, 8, 8, 8, 8, 8, 8, 8, 8, 8, 8, 8, 8, 8, 8, 8, 8, 8, 8, 8, 8, 8, 8, 8, 8, 8, 8, 8, 8, 8, 8, 8, 8, 8, 8, 8, 8, 8, 8, 8, 8, 8, 8, 8, 8, 8, 8]⟩ : ByteArray)
set_option maxRecDepth 100000 in
theorem len8_all : ∀ i : Fin 256, (0 ≤ bt len8 (i.val : Int) ∧ bt len8 (i.val : Int) ≤ 8 ∧ (i.val : Int) < 2 ^ (bt len8 (i.val : Int)).toNat ∧ (i.val = 0 ∨ (1 ≤ bt len8 (i.val : Int) ∧ (2 : Int) ^ ((bt len8 (i.val : Int)).toNat - 1) ≤ (i.val : Int)))) := by decide +kernel
theorem len8_at {x : Int} (h0 : 0 ≤ x) (h1 : x < 256) : 0 ≤ bt len8 x ∧ bt len8 x ≤ 8 ∧ x < 2 ^ (bt len8 x).toNat ∧ (x = 0 ∨ (1 ≤ bt len8 x ∧ (2 : Int) ^ ((bt len8 x).toNat - 1) ≤ x)) := by
  obtain ⟨n, rfl⟩ := Int.eq_ofNat_of_zero_le h0
  have := len8_all ⟨n, by omega⟩
  simp only at this
  refine ⟨this.1, this.2.1, this.2.2.1, ?_⟩
  rcases this.2.2.2 with h | h
  · left; omega
  · right; exact h
theorem Len32_unf (a : Int) : bits_Len32.f a = if a ≥ 65536 then (if (a / 65536) ≥ 256 then (if 0 ≤ (((a / 65536) / 256) % 256) then (if (((a / 65536) / 256) % 256) < 256 then (some (wrap64 ((16 + 8) + (wrap64 (bt len8 (((a / 65536) / 256) % 256)))))) else (none)) else (none)) else (if 0 ≤ ((a / 65536) % 256) then (if ((a / 65536) % 256) < 256 then (some (wrap64 (16 + (wrap64 (bt len8 ((a / 65536) % 256)))))) else (none)) else (none))) else (if a ≥ 256 then (if 0 ≤ ((a / 256) % 256) then (if ((a / 256) % 256) < 256 then (some (wrap64 ((0 + 8) + (wrap64 (bt len8 ((a / 256) % 256)))))) else (none)) else (none)) else (if 0 ≤ (a % 256) then (if (a % 256) < 256 then (some (wrap64 (0 + (wrap64 (bt len8 (a % 256)))))) else (none)) else (none))) := rfl
theorem len_part {a x : Int} {j : Nat} (hx0 : 0 ≤ x) (hx : x < 256) (hl : x * 2 ^ j ≤ a) (hu : a < (x + 1) * 2 ^ j) : ∃ n : Nat, bt len8 x = n ∧ n ≤ 8 ∧ a < 2 ^ (n + j) ∧ (x = 0 ∨ (1 ≤ n ∧ (2 : Int) ^ (n + j - 1) ≤ a)) := by
  obtain ⟨h1, h2, h3, h4⟩ := len8_at hx0 hx
  generalize bt len8 x = y at *
  obtain ⟨n, rfl⟩ := Int.eq_ofNat_of_zero_le h1
  rw [Int.toNat_natCast] at h3 h4
  have hP : (0 : Int) < 2 ^ j := Int.pow_pos (by decide)
  refine ⟨n, rfl, by omega, ?_, ?_⟩
  · rw [Int.pow_add]
    have : (x + 1) * 2 ^ j ≤ 2 ^ n * 2 ^ j := Int.mul_le_mul_of_nonneg_right (by omega) (by omega)
    omega
  · rcases h4 with h4 | ⟨h4, h5⟩
    · left; exact h4
    · right
      refine ⟨by omega, ?_⟩
      rw [show n + j - 1 = n - 1 + j by omega, Int.pow_add]
      have : 2 ^ (n - 1) * 2 ^ j ≤ x * 2 ^ j := Int.mul_le_mul_of_nonneg_right h5 (by omega)
      omega
set_option maxRecDepth 100000 in
theorem Len32_eq (a : Int) (h0 : 0 ≤ a) (h1 : a < 4294967296) : ∃ n : Nat, bits_Len32.f a = some (n : Int) ∧ n ≤ 32 ∧ a < 2 ^ n ∧ (a = 0 ∨ (1 ≤ n ∧ (2 : Int) ^ (n - 1) ≤ a)) := by
  rw [Len32_unf]
  by_cases c1 : a ≥ 65536
  · rw [if_pos c1]
    by_cases c2 : a / 65536 ≥ 256
    · rw [if_pos c2, if_pos (by omega), if_pos (by omega)]
      obtain ⟨n, e, hn, hu, hl⟩ := len_part (a := a) (x := a / 65536 / 256 % 256) (j := 24) (by omega) (by omega) (by omega) (by omega)
      rw [e]
      refine ⟨n + 24, ?_, by omega, hu, ?_⟩
      · rw [w64 (x := (n : Int)) (by omega) (by omega), w64 (by omega) (by omega)]; congr 1; omega
      · rcases hl with hl | hl
        · omega
        · right; exact ⟨by omega, hl.2⟩
    · rw [if_neg c2, if_pos (by omega), if_pos (by omega)]
      obtain ⟨n, e, hn, hu, hl⟩ := len_part (a := a) (x := a / 65536 % 256) (j := 16) (by omega) (by omega) (by omega) (by omega)
      rw [e]
      refine ⟨n + 16, ?_, by omega, hu, ?_⟩
      · rw [w64 (x := (n : Int)) (by omega) (by omega), w64 (by omega) (by omega)]; congr 1; omega
      · rcases hl with hl | hl
        · omega
        · right; exact ⟨by omega, hl.2⟩
  · rw [if_neg c1]
    by_cases c2 : a ≥ 256
    · rw [if_pos c2, if_pos (by omega), if_pos (by omega)]
      obtain ⟨n, e, hn, hu, hl⟩ := len_part (a := a) (x := a / 256 % 256) (j := 8) (by omega) (by omega) (by omega) (by omega)
      rw [e]
      refine ⟨n + 8, ?_, by omega, hu, ?_⟩
      · rw [w64 (x := (n : Int)) (by omega) (by omega), w64 (by omega) (by omega)]; congr 1; omega
      · rcases hl with hl | hl
        · omega
        · right; exact ⟨by omega, hl.2⟩
    · rw [if_neg c2, if_pos (by omega), if_pos (by omega)]
      obtain ⟨n, e, hn, hu, hl⟩ := len_part (a := a) (x := a % 256) (j := 0) (by omega) (by omega) (by omega) (by omega)
      rw [e]
      refine ⟨n, ?_, by omega, hu, ?_⟩
      · rw [w64 (x := (n : Int)) (by omega) (by omega), w64 (by omega) (by omega)]; congr 1; omega
      · rcases hl with hl | hl
        · left; omega
        · right; exact hl
theorem Lead_eq (a : Int) (h0 : 0 < a) (h1 : a < 4294967296) : ∃ s : Nat, bits_LeadingZeros32.f a = some (s : Int) ∧ s < 32 ∧ 2147483648 ≤ a * 2 ^ s ∧ a * 2 ^ s < 4294967296 := by
  obtain ⟨n, e, hn, hu, hl⟩ := Len32_eq a (by omega) h1
  rcases hl with hl | ⟨h2, hl⟩
  · omega
  · refine ⟨32 - n, ?_, by omega, ?_, ?_⟩
    · unfold bits_LeadingZeros32.f
      rw [e]
      simp only [Option.bind_some]
      rw [w64 (by omega) (by omega)]; congr 1; omega
    · have : (2 : Int) ^ (n - 1) * 2 ^ (32 - n) ≤ a * 2 ^ (32 - n) := Int.mul_le_mul_of_nonneg_right hl (Int.le_of_lt (Int.pow_pos (by decide)))
      rw [← Int.pow_add, show n - 1 + (32 - n) = 31 by omega] at this
      exact this
    · have : a * 2 ^ (32 - n) < (2 : Int) ^ n * 2 ^ (32 - n) := Int.mul_lt_mul_of_pos_right hu (Int.pow_pos (by decide))
      rw [← Int.pow_add, show n + (32 - n) = 32 by omega] at this
      exact this
theorem take_set_succ {xs : List Int} {i : Nat} {v : Int} (h : i < xs.length) : (xs.set i v).take (i + 1) = xs.take i ++ [v] := by
  rw [take_succ' _ _ (by simpa using h), List.take_set_of_le (by omega)]
  congr 2
  rw [List.getD_eq_getElem?_getD, List.getElem?_set_self h]; rfl
theorem drop_set_succ {xs : List Int} {i : Nat} {v : Int} : (xs.set i v).drop (i + 1) = xs.drop (i + 1) := by
  rw [List.drop_set_of_lt (by omega)]
theorem getD_set_self {xs : List Int} {i : Nat} {v : Int} (h : i < xs.length) : (xs.set i v).getD i 0 = v := by rw [List.getD_eq_getElem?_getD, List.getElem?_set_self h]; rfl
theorem getD_set_ne {xs : List Int} {i j : Nat} {v : Int} (h : i ≠ j) : (xs.set i v).getD j 0 = xs.getD j 0 := by rw [List.getD_eq_getElem?_getD, List.getElem?_set_ne h, List.getD_eq_getElem?_getD]
theorem pow_base {s : Nat} (h : s ≤ 32) : (2 : Int) ^ s * 2 ^ (32 - s) = 4294967296 := by
  rw [← Int.pow_add, show s + (32 - s) = 32 by omega]; rfl
theorem pow_lt_base {s : Nat} (h : s < 32) : (2 : Int) ^ s ≤ 2147483648 := by
  have := pow_mono' (B := 2) (by decide) (show s ≤ 31 by omega)
  exact this
theorem or_low {a c : Int} {s : Nat} (h : s < 32) (ha0 : 0 ≤ a) (ha : a < 4294967296) (hm : a % 2 ^ s = 0) (hc0 : 0 ≤ c) (hc : c < 2 ^ s) : Go.bits .or .u32 c a = c + a := by
  have hp := pow_lt_base h
  rw [u32_or _ _ hc0 (by omega) ha0 ha, Nat.or_comm, nat_join s]
  · omega
  · have : ((a.toNat % 2 ^ s : Nat) : Int) = 0 := by
      rw [Int.natCast_emod, Int.toNat_of_nonneg ha0, Int.natCast_pow]; exact hm
    omega
  · have : ((c.toNat : Nat) : Int) < ((2 ^ s : Nat) : Int) := by
      rw [Int.toNat_of_nonneg hc0, Int.natCast_pow]; exact hc
    omega
theorem shl64 {x : Int} {b : Nat} (hb : b < 32) (h0 : 0 ≤ x) (h1 : x < 4294967296) : shl .u64 (IntKind.u64.wrap x) (b : Int) = x * 2 ^ b ∧ 0 ≤ x * 2 ^ b ∧ x * 2 ^ b < 2 ^ b * 4294967296 := by
  have hp := pow_lt_base hb
  have hp0 : (0 : Int) < 2 ^ b := Int.pow_pos (by decide)
  have h2 : 0 ≤ x * 2 ^ b := Int.mul_nonneg h0 (by omega)
  have h3 : x * 2 ^ b < 4294967296 * 2 ^ b := Int.mul_lt_mul_of_pos_right h1 hp0
  rw [u64_id h0 (by omega)]
  unfold shl
  rw [Int.toNat_natCast, Nat.min_eq_left (by simp [IntKind.bits]; omega), u64_id h2 (by omega)]
  exact ⟨rfl, h2, by omega⟩
theorem shl_parts {x : Int} {b : Nat} (hb : b < 32) : (x * 2 ^ b) % 4294967296 % 2 ^ b = 0 ∧ (x * 2 ^ b) % 4294967296 + 2 ^ b ≤ 4294967296 := by
  have hp0 : (0 : Int) < 2 ^ b := Int.pow_pos (by decide)
  have hd : (2 : Int) ^ b ∣ 4294967296 := ⟨2 ^ (32 - b), (pow_base (by omega)).symm⟩
  have h1 : (x * 2 ^ b) % 4294967296 % 2 ^ b = 0 := by
    rw [Int.emod_emod_of_dvd _ hd, Int.mul_emod_left]
  refine ⟨h1, ?_⟩
  obtain ⟨c, hc⟩ := hd
  obtain ⟨e, he⟩ := Int.dvd_of_emod_eq_zero h1
  have hl : (x * 2 ^ b) % 4294967296 < 4294967296 := Int.emod_lt_of_pos _ (by decide)
  rw [he, hc] at *
  have : e < c := Int.lt_of_mul_lt_mul_left hl (by omega)
  have := Int.mul_le_mul_of_nonneg_left (show e + 1 ≤ c by omega) (Int.le_of_lt hp0)
  rw [Int.mul_add, Int.mul_one] at this
  exact this
theorem getD_zeros {out : List Int} {m j : Nat} (h : out.drop m = List.replicate (out.length - m) 0) (hj : m ≤ j) : out.getD j 0 = 0 := by
  have : (out.drop m).getD (j - m) 0 = 0 := by rw [h]; simp [List.getD_eq_getElem?_getD, List.getElem?_replicate]; split <;> rfl
  rw [List.getD_eq_getElem?_getD, List.getElem?_drop, show m + (j - m) = j by omega] at this
  rw [List.getD_eq_getElem?_getD]; exact this
theorem shl_step {x : Int} {b : Nat} (hb : b < 32) (h0 : 0 ≤ x) (h1 : x < 4294967296) : ∃ lo hi : Int, shl .u64 (IntKind.u64.wrap x) (b : Int) % 4294967296 = lo ∧ (shl .u64 (IntKind.u64.wrap x) (b : Int) / 4294967296) % 4294967296 = hi ∧ x * 2 ^ b = lo + 4294967296 * hi ∧ 0 ≤ lo ∧ 0 ≤ hi ∧ hi < 2 ^ b ∧ hi < 4294967296 ∧
    (∀ c : Int, 0 ≤ c → c < 2 ^ b → Go.bits .or .u32 c lo = c + lo ∧ c + lo < 4294967296) ∧ Go.bits .or .u32 0 hi = hi := by
  obtain ⟨s1, s2, s3⟩ := shl64 hb h0 h1
  obtain ⟨p1, p2⟩ := shl_parts (x := x) hb
  have hp := pow_lt_base hb
  have hp0 : (0 : Int) < 2 ^ b := Int.pow_pos (by decide)
  have hlo : 0 ≤ x * 2 ^ b % 4294967296 := Int.emod_nonneg _ (by decide)
  have hlo1 : x * 2 ^ b % 4294967296 < 4294967296 := Int.emod_lt_of_pos _ (by decide)
  have hhi0 : 0 ≤ x * 2 ^ b / 4294967296 := Int.ediv_nonneg s2 (by decide)
  have hhi : x * 2 ^ b / 4294967296 < 2 ^ b := Int.ediv_lt_of_lt_mul (by decide) s3
  have hdm := Int.mul_ediv_add_emod (x * 2 ^ b) 4294967296
  have hhi1 : x * 2 ^ b / 4294967296 < 4294967296 := Int.lt_trans hhi (Int.lt_of_le_of_lt hp (by decide))
  have hc2 : ∀ c : Int, 0 ≤ c → c < 2 ^ b → Go.bits .or .u32 c (x * 2 ^ b % 4294967296) = c + x * 2 ^ b % 4294967296 := fun c hc0 hc => or_low hb hlo hlo1 p1 hc0 hc
  clear p1 s2 s3 h0 h1
  rw [s1, Int.emod_eq_of_lt hhi0 hhi1]
  clear s1
  generalize x * 2 ^ b % 4294967296 = lo at *
  generalize x * 2 ^ b / 4294967296 = hi at *
  refine ⟨lo, hi, rfl, rfl, by rw [← hdm, Int.add_comm], hlo, hhi0, hhi, hhi1, fun c hc0 hc => ⟨hc2 c hc0 hc, by omega⟩, ?_⟩
  rw [u32_or _ _ (by decide) (by decide) hhi0 hhi1]
  simp only [Int.toNat_zero, Nat.zero_or]
  rw [Int.toNat_of_nonneg hhi0]
theorem getD_replicate (n i : Nat) : (List.replicate n (0 : Int)).getD i 0 = 0 := by
  rw [List.getD_eq_getElem?_getD, List.getElem?_replicate]; split <;> rfl
theorem shl_loop (xs : List Int) (w b : Nat) (hx : Lim 4294967296 xs) (hb : b < 32) (hL : xs.length + w ≤ 549755813888) : ∀ (d i : Nat) (out : List Int), d = xs.length - i → i ≤ xs.length → out.length = xs.length + w + 1 → Lim 4294967296 out →
    val 4294967296 out = 4294967296 ^ w * 2 ^ b * val 4294967296 (xs.take i) → out.drop (i + w + 1) = List.replicate (out.length - (i + w + 1)) 0 → out.getD (i + w) 0 < 2 ^ b →
    ∃ r, Ev (fun k => nat_Shl.l0 k (((32 * w + b : Nat)) : Int) out xs (xs.length : Int) (i : Int)) (trim r) ∧ r.length = xs.length + w + 1 ∧ Lim 4294967296 r ∧ val 4294967296 r = 4294967296 ^ w * 2 ^ b * val 4294967296 xs := by
  have hB : (0 : Int) < 4294967296 := by decide
  have e1 : ∀ _ : Unit, Int.tmod ((32 * w + b : Nat) : Int) 32 = b := fun _ => by rw [Int.tmod_eq_emod_of_nonneg (by omega)]; omega
  have e2 : ∀ _ : Unit, wrap64 (Int.tdiv ((32 * w + b : Nat) : Int) 32) = w := fun _ => by rw [Int.tdiv_eq_ediv_of_nonneg (by omega), w64 (by omega) (by omega)]; omega
  intro d
  induction d with
  | zero =>
    intro i out hd hi hlen ho hv hz ht
    have hii : i = xs.length := by omega
    subst hii
    refine ⟨out, ?_, hlen, ho, by rw [hv, List.take_of_length_le (Nat.le_refl _)]⟩
    refine Ev.step (f := fun k => (nat_Trim.f k out).bind fun t => some t) (fun k => ?_) ?_
    · simp only [nat_Shl.l0]; rw [if_neg (by omega)]
    · exact Ev.bind (f := fun _ t => some t) (Trim_ev out (by omega)) (Ev.now _)
  | succ d ih =>
    intro i out hd hi hlen ho hv hz ht
    have g1 : (i : Int) < (xs.length : Int) := by omega
    have g2 : (0 : Int) ≤ (i : Int) := by omega
    have g3 : (0 : Int) ≤ ((i + w : Nat) : Int) := by omega
    have g4 : ((i + w : Nat) : Int) < (out.length : Int) := by omega
    have g5 : (0 : Int) ≤ ((i + w + 1 : Nat) : Int) := by omega
    have g6 : ((i + w + 1 : Nat) : Int) < (out.length : Int) := by omega
    have g7 : ∀ _ : Unit, wrap64 ((i : Int) + 1) = ((i + 1 : Nat) : Int) := fun _ => by rw [w64 (by omega) (by omega)]; omega
    have g8 : (0 : Int) ≤ (b : Int) := by omega
    have g9 : i + w + 1 < out.length := by omega
    have g10 : i + w < out.length := by omega
    have g11 : i < xs.length := by omega
    have g12 : d = xs.length - (i + 1) := by omega
    have f1 : ∀ _ : Unit, wrap64 ((i : Int) + (w : Int)) = ((i + w : Nat) : Int) := fun _ => by rw [w64 (by omega) (by omega)]; omega
    have f2 : ∀ _ : Unit, wrap64 (((i + w : Nat) : Int) + 1) = ((i + w + 1 : Nat) : Int) := fun _ => by rw [w64 (by omega) (by omega)]; omega
    have hz1 : out.getD (i + w + 1) 0 = 0 := getD_zeros hz (by omega)
    have hxi := hx.rd hB (i : Int)
    have hxg : rd xs (i : Int) = xs.getD i 0 := rd_getD xs i
    generalize hy : rd xs (i : Int) = x at hxi hxg
    have hc := ho.getD hB (i + w)
    obtain ⟨lo, hi', s1, s2, s3, hlo, hhi0, hhi, hhi1, hor, hor0⟩ := shl_step hb hxi.1 hxi.2
    have hor2 := (hor _ hc.1 ht).2
    have hor1 := (hor _ hc.1 ht).1
    clear hor
    have hval : val 4294967296 ((out.set (i + w) (out.getD (i + w) 0 + lo)).set (i + w + 1) hi') = 4294967296 ^ w * 2 ^ b * val 4294967296 (xs.take (i + 1)) := by
      rw [val_set _ _ _ _ (by rw [List.length_set]; exact g9), val_set _ _ _ _ g10, hv, getD_set_ne (Nat.ne_of_lt (Nat.lt_succ_self _)), hz1, val_take_succ _ _ _ g11, ← hxg, Int.pow_succ, Int.pow_add]
      clear hv ht hc hhi hhi1 hhi0 hlo hor2 hor1 hor0 s1 s2 ih hz hx ho hy hxi
      grind
    obtain ⟨r, hev, hrl, hrL, hrv⟩ := ih (i + 1) ((out.set (i + w) (out.getD (i + w) 0 + lo)).set (i + w + 1) hi') g12 g11 (by simp [hlen])
      ((ho.set _ ⟨Int.add_nonneg hc.1 hlo, hor2⟩).set _ ⟨hhi0, hhi1⟩) hval (by
        rw [List.length_set, List.length_set, show i + 1 + w + 1 = (i + w + 1) + 1 from by rw [Nat.add_right_comm i 1 w], List.drop_set_of_lt (Nat.lt_succ_self _), List.drop_set_of_lt (Nat.lt_succ_of_lt (Nat.lt_succ_self _)), show List.drop (i + w + 1 + 1) out = (out.drop (i + w + 1)).drop 1 by rw [List.drop_drop], hz, List.drop_replicate]
        rfl) (by
        rw [show i + 1 + w = i + w + 1 from Nat.add_right_comm i 1 w, getD_set_self (by rw [List.length_set]; exact g9)]; exact hhi)
    refine ⟨r, ?_, hrl, hrL, hrv⟩
    refine Ev.step (f := fun k => nat_Shl.l0 k (((32 * w + b : Nat)) : Int) ((out.set (i + w) (out.getD (i + w) 0 + lo)).set (i + w + 1) hi') xs (xs.length : Int) ((i + 1 : Nat) : Int)) (fun k => ?_) hev
    simp only [nat_Shl.l0]
    rw [if_pos g1, if_pos g2, if_pos g1, e1 (), e2 (), if_pos g8, f1 (), if_pos g3, if_pos g4, f2 (), hy, s1, s2, rd_getD, hor1, Option.bind_some, if_pos g5, if_pos g6, rd_getD, Int.toNat_natCast, getD_set_ne (Nat.ne_of_lt (Nat.lt_succ_self _)), Int.toNat_natCast, hz1, hor0, g7 ()]
theorem Shl_ev (xs : List Int) (n : Nat) (hx : Lim 4294967296 xs) (hL : xs.length + n / 32 ≤ 549755813888) :
    ∃ r, Ev (fun k => nat_Shl.f k xs (n : Int)) r ∧ Lim 4294967296 r ∧ Nrm r ∧ val 4294967296 r = val 4294967296 xs * 2 ^ n ∧ r.length ≤ xs.length + n / 32 + 1 := by
  have hB : (0 : Int) < 4294967296 := by decide
  cases xs with
  | nil => exact ⟨[], Ev.const (by rfl), lim_nil _, nrm_nil, by simp [val], by simp⟩
  | cons x xs =>
    obtain ⟨r, h1, h2, h3, h4⟩ := shl_loop (x :: xs) (n / 32) (n % 32) hx (by omega) hL (x :: xs).length 0 (List.replicate ((x :: xs).length + n / 32 + 1) 0) (by omega) (by omega) (by simp) (lim_replicate hB _)
      (by rw [val_replicate, List.take_zero]; simp [val]) (by rw [List.drop_replicate, List.length_replicate]) (by
        have : (0 : Int) < 2 ^ (n % 32) := Int.pow_pos (by decide)
        rw [getD_replicate]; exact this)
    refine ⟨trim r, ?_, lim_trim h3, nrm_trim _, ?_, Nat.le_trans (length_trim _) (by omega)⟩
    · refine Ev.congr (fun k => ?_) h1
      unfold nat_Shl.f
      have e : wrap64 (wrap64 (((x :: xs).length : Int) + wrap64 (Int.tdiv (n : Int) 32)) + 1) = (((x :: xs).length + n / 32 + 1 : Nat) : Int) := by
        rw [Int.tdiv_eq_ediv_of_nonneg (by omega), w64 (x := (n : Int) / 32) (by omega) (by omega), w64 (x := ((x :: xs).length : Int) + (n : Int) / 32) (by omega) (by omega), w64 (by omega) (by omega)]
        omega
      rw [if_neg (by simp; omega), e, if_pos (by omega), if_pos (by omega), Int.toNat_natCast, show 32 * (n / 32) + n % 32 = n by omega]
      rfl
    · rw [val_trim, h4, show (4294967296 : Int) = 2 ^ 32 from rfl, ← Int.pow_mul, ← Int.pow_add, show 32 * (n / 32) + n % 32 = n by omega, Int.mul_comm]
theorem shr_digit {B P P' D0 D1 t : Int} (hP : 0 < P) (hP' : 0 < P') (hB : P * P' = B) (h0 : 0 ≤ D0) (h1 : D0 < B) :
    ((D0 + B * D1) / P) % B + B * ((D1 + B * t) / P) = (D0 + B * (D1 + B * t)) / P := by
  have hB0 : 0 < B := by rw [← hB]; exact Int.mul_pos hP hP'
  have hq := Int.mul_ediv_add_emod (D1 + B * t) P
  have hr0 : 0 ≤ (D1 + B * t) % P := Int.emod_nonneg _ (by omega)
  have hr1 : (D1 + B * t) % P < P := Int.emod_lt_of_pos _ hP
  generalize (D1 + B * t) / P = q at *
  generalize (D1 + B * t) % P = r at *
  have e1 : D0 + B * (D1 + B * t) = (D0 + B * r) + P * (B * q) := by rw [← hq]; grind
  have e2 : D0 + B * D1 = (D0 + B * r) + P * (B * (q - P' * t)) := by
    have : D1 = P * q + r - B * t := by omega
    rw [this]; grind
  rw [e1, e2, Int.add_mul_ediv_left _ _ (by omega), Int.add_mul_ediv_left _ _ (by omega), Int.add_mul_emod_self_left]
  rw [Int.emod_eq_of_lt (Int.ediv_nonneg (Int.add_nonneg h0 (Int.mul_nonneg (by omega) hr0)) (by omega))]
  refine Int.ediv_lt_of_lt_mul hP ?_
  have : B * (r + 1) ≤ B * P := Int.mul_le_mul_of_nonneg_left (by omega) (by omega)
  rw [Int.mul_add, Int.mul_one] at this
  omega
theorem shr64 {x : Int} {b : Nat} (hb : b < 32) : shr .u64 x (b : Int) = x / 2 ^ b := by
  unfold shr
  rw [Int.toNat_natCast, Nat.min_eq_left (by simp [IntKind.bits]; omega)]
theorem shr_at {x y : Int} {b : Nat} (hb : b < 32) (hx0 : 0 ≤ x) (hx : x < 4294967296) (hy0 : 0 ≤ y) (hy : y < 4294967296) :
    shr .u64 (Go.bits .or .u64 (IntKind.u64.wrap x) (IntKind.u64.wrap ((IntKind.u64.wrap y) * 4294967296))) (b : Int) % 4294967296 = ((x + 4294967296 * y) / 2 ^ b) % 4294967296 := by
  rw [shr64 hb, u64_id hx0 (by omega), u64_id hy0 (by omega), u64_id (by omega) (by omega), bits_or_shift' hy0 hy hx0 hx, show y * 4294967296 + x = x + 4294967296 * y by omega]
theorem shr_loop (xs : List Int) (w b : Nat) (hx : Lim 4294967296 xs) (hb : b < 32) (hw : w ≤ xs.length) (hL : xs.length + w ≤ 549755813888) (ex : Bool) : ∀ (d i : Nat) (out : List Int), d + i = xs.length - w → out.length = xs.length - w → Lim 4294967296 out →
    val 4294967296 (out.take i) + 4294967296 ^ i * (val 4294967296 ((xs.drop w).drop i) / 2 ^ b) = val 4294967296 (xs.drop w) / 2 ^ b →
    ∃ r, Ev (fun k => nat_Shr.l0 k xs (((32 * w + b : Nat)) : Int) out ex (w : Int) (out.length : Int) (i : Int)) (trim r, ex) ∧ r.length = xs.length - w ∧ Lim 4294967296 r ∧ val 4294967296 r = val 4294967296 (xs.drop w) / 2 ^ b := by
  have hB : (0 : Int) < 4294967296 := by decide
  have e1 : ∀ _ : Unit, Int.tmod ((32 * w + b : Nat) : Int) 32 = b := fun _ => by rw [Int.tmod_eq_emod_of_nonneg (by omega)]; omega
  intro d
  induction d with
  | zero =>
    intro i out hd hlen ho hv
    refine ⟨out, ?_, hlen, ho, ?_⟩
    · refine Ev.step (f := fun k => (nat_Trim.f k out).bind fun t => some (t, ex)) (fun k => ?_) ?_
      · simp only [nat_Shr.l0]; rw [if_neg (by omega)]
      · exact Ev.bind (f := fun _ t => some (t, ex)) (Trim_ev out (by omega)) (Ev.now _)
    · rw [List.take_of_length_le (by omega), List.drop_of_length_le (by rw [List.length_drop]; omega)] at hv
      simp only [val, Int.zero_ediv, Int.mul_zero, Int.add_zero] at hv
      exact hv
  | succ d ih =>
    intro i out hd hlen ho hv
    have g1 : (i : Int) < (out.length : Int) := by omega
    have g2 : (0 : Int) ≤ (i : Int) := by omega
    have g3 : (0 : Int) ≤ ((i + w : Nat) : Int) := by omega
    have g4 : ((i + w : Nat) : Int) < (xs.length : Int) := by omega
    have g5 : (0 : Int) ≤ ((i + w + 1 : Nat) : Int) := by omega
    have g7 : ∀ _ : Unit, wrap64 ((i : Int) + 1) = ((i + 1 : Nat) : Int) := fun _ => by rw [w64 (by omega) (by omega)]; omega
    have g8 : (0 : Int) ≤ (b : Int) := by omega
    have g9 : i < out.length := by omega
    have g10 : i < (xs.drop w).length := by rw [List.length_drop]; omega
    have f1 : ∀ _ : Unit, wrap64 ((i : Int) + (w : Int)) = ((i + w : Nat) : Int) := fun _ => by rw [w64 (by omega) (by omega)]; omega
    have f2 : ∀ _ : Unit, wrap64 (((i + w : Nat) : Int) + 1) = ((i + w + 1 : Nat) : Int) := fun _ => by rw [w64 (by omega) (by omega)]; omega
    have hg : (xs.drop w).getD i 0 = rd xs ((i + w : Nat) : Int) := by rw [rd_getD, List.getD_eq_getElem?_getD, List.getElem?_drop, List.getD_eq_getElem?_getD, Nat.add_comm]
    have hxi := hx.rd hB ((i + w : Nat) : Int)
    have hyi := hx.rd hB ((i + w + 1 : Nat) : Int)
    have hP0 : (0 : Int) < 2 ^ b := Int.pow_pos (by decide)
    have hP1 : (0 : Int) < 2 ^ (32 - b) := Int.pow_pos (by decide)
    have hs : ∀ (D1 t : Int), val 4294967296 ((xs.drop w).drop (i + 1)) = D1 + 4294967296 * t →
        val 4294967296 ((out.set i (((rd xs ((i + w : Nat) : Int) + 4294967296 * D1) / 2 ^ b) % 4294967296)).take (i + 1)) + 4294967296 ^ (i + 1) * (val 4294967296 ((xs.drop w).drop (i + 1)) / 2 ^ b) = val 4294967296 (xs.drop w) / 2 ^ b := by
      intro D1 t h
      have hd := shr_digit (t := t) (D1 := D1) hP0 hP1 (pow_base (show b ≤ 32 by omega)) hxi.1 hxi.2
      rw [take_set_succ g9, val_snoc, List.length_take, Nat.min_eq_left (by omega), ← hv, val_drop _ _ i g10, h, hg, ← hd, Int.pow_succ]
      grind
    have hset : ∀ v : Int, Lim 4294967296 (out.set i (v % 4294967296)) := fun v => ho.set _ ⟨Int.emod_nonneg _ (by decide), Int.emod_lt_of_pos _ (by decide)⟩
    by_cases c : i + w + 1 < xs.length
    · obtain ⟨r, hev, hrl, hrL, hrv⟩ := ih (i + 1) (out.set i (((rd xs ((i + w : Nat) : Int) + 4294967296 * rd xs ((i + w + 1 : Nat) : Int)) / 2 ^ b) % 4294967296)) (by omega) (by rw [List.length_set]; exact hlen) (hset _)
        (hs _ (val 4294967296 ((xs.drop w).drop (i + 2))) (by
          rw [val_drop _ _ (i + 1) (by rw [List.length_drop]; omega), rd_getD, List.getD_eq_getElem?_getD, List.getElem?_drop, List.getD_eq_getElem?_getD, show w + (i + 1) = i + w + 1 by omega]))
      refine ⟨r, ?_, hrl, hrL, hrv⟩
      rw [List.length_set] at hev
      refine Ev.step (f := fun k => nat_Shr.l0 k xs (((32 * w + b : Nat)) : Int) (out.set i (((rd xs ((i + w : Nat) : Int) + 4294967296 * rd xs ((i + w + 1 : Nat) : Int)) / 2 ^ b) % 4294967296)) ex (w : Int) (out.length : Int) ((i + 1 : Nat) : Int)) (fun k => ?_) hev
      simp only [nat_Shr.l0]
      have c' : ((i + w + 1 : Nat) : Int) < (xs.length : Int) := by omega
      rw [if_pos g1, f1 (), if_pos g3, if_pos g4, f2 (), if_pos c', if_pos g5, e1 (), if_pos g8, if_pos g2, if_pos g1, shr_at hb hxi.1 hxi.2 hyi.1 hyi.2, g7 (), Int.toNat_natCast]
    · obtain ⟨r, hev, hrl, hrL, hrv⟩ := ih (i + 1) (out.set i (((rd xs ((i + w : Nat) : Int) + 4294967296 * 0) / 2 ^ b) % 4294967296)) (by omega) (by rw [List.length_set]; exact hlen) (hset _)
        (hs 0 0 (by rw [List.drop_of_length_le (by rw [List.length_drop]; omega)]; rfl))
      refine ⟨r, ?_, hrl, hrL, hrv⟩
      rw [List.length_set, Int.mul_zero, Int.add_zero] at hev
      refine Ev.step (f := fun k => nat_Shr.l0 k xs (((32 * w + b : Nat)) : Int) (out.set i ((rd xs ((i + w : Nat) : Int) / 2 ^ b) % 4294967296)) ex (w : Int) (out.length : Int) ((i + 1 : Nat) : Int)) (fun k => ?_) hev
      simp only [nat_Shr.l0]
      have c' : ¬ ((i + w + 1 : Nat) : Int) < (xs.length : Int) := by omega
      rw [if_pos g1, f1 (), if_pos g3, if_pos g4, f2 (), if_neg c', e1 (), if_pos g8, if_pos g2, if_pos g1, u64_id hxi.1 (by omega), shr64 hb, g7 (), Int.toNat_natCast]
theorem and_low {x : Int} {b : Nat} (hb : b < 32) (h0 : 0 ≤ x) (h1 : x < 4294967296) : Go.bits .and .u32 x (((shl .u32 1 (b : Int)) - 1) % 4294967296) = x % 2 ^ b := by
  have hp := pow_lt_base hb
  have hp0 : (0 : Int) < 2 ^ b := Int.pow_pos (by decide)
  have e : shl .u32 1 (b : Int) = 2 ^ b := by
    unfold shl
    rw [Int.toNat_natCast, Nat.min_eq_left (by simp [IntKind.bits]; omega), Int.one_mul]
    simp [IntKind.wrap, IntKind.bits, IntKind.signed]
    exact Int.emod_eq_of_lt (by omega) (by omega)
  rw [e, Int.emod_eq_of_lt (by omega) (by omega), u32_and _ _ h0 h1 (by omega) (by omega)]
  have e2 : ((2 : Int) ^ b - 1).toNat = 2 ^ b - 1 := by
    have : ((2 ^ b : Nat) : Int) = (2 : Int) ^ b := by rw [Int.natCast_pow]; rfl
    omega
  rw [e2, Nat.and_two_pow_sub_one_eq_mod, Int.natCast_emod, Int.toNat_of_nonneg h0, Int.natCast_pow]; rfl
theorem Shr_ev (xs : List Int) (n : Nat) (hx : Lim 4294967296 xs) (hn : Nrm xs) (hL : xs.length ≤ 274877906944) (hn2 : n / 32 ≤ 274877906944) :
    ∃ r, Ev (fun k => nat_Shr.f k xs (n : Int)) (r, decide (val 4294967296 xs % 2 ^ n = 0)) ∧ Lim 4294967296 r ∧ Nrm r ∧ val 4294967296 r = val 4294967296 xs / 2 ^ n ∧ r.length ≤ xs.length := by
  have hB : (0 : Int) < 4294967296 := by decide
  have e0 : (2 : Int) ^ n = 4294967296 ^ (n / 32) * 2 ^ (n % 32) := by
    rw [show (4294967296 : Int) = 2 ^ 32 from rfl, ← Int.pow_mul, ← Int.pow_add, show 32 * (n / 32) + n % 32 = n by omega]
  have hP0 : (0 : Int) < 2 ^ (n % 32) := Int.pow_pos (by decide)
  have hW0 : (0 : Int) < 4294967296 ^ (n / 32) := Int.pow_pos (by decide)
  have e2 : ∀ _ : Unit, wrap64 (Int.tdiv (n : Int) 32) = ((n / 32 : Nat) : Int) := fun _ => by rw [Int.tdiv_eq_ediv_of_nonneg (by omega), w64 (by omega) (by omega)]; omega
  have en : n = 32 * (n / 32) + n % 32 := by omega
  have e1 : ∀ _ : Unit, Int.tmod (n : Int) 32 = ((n % 32 : Nat) : Int) := fun _ => by rw [Int.tmod_eq_emod_of_nonneg (by omega)]; omega
  have hb : n % 32 < 32 := by omega
  generalize hw : n / 32 = w at *
  generalize hbb : n % 32 = b at *
  by_cases c : w ≥ xs.length
  · have hv := val_lt hB hx
    have hv0 := val_nonneg hB hx
    have hm := pow_mono' hB c
    have hlt : val 4294967296 xs < 4294967296 ^ w * 2 ^ b := by
      have : 4294967296 ^ w * 1 ≤ (4294967296 : Int) ^ w * 2 ^ b := Int.mul_le_mul_of_nonneg_left (by omega) (by omega)
      omega
    refine ⟨[], ⟨0, fun k _ => ?_⟩, lim_nil _, nrm_nil, ?_, by simp⟩
    · simp only [nat_Shr.f]
      rw [e2 (), if_pos (by omega)]
      rw [e0, Int.emod_eq_of_lt hv0 hlt]
      have h8 : ((xs.length : Int) == 0) = decide (val 4294967296 xs = 0) := by
        have h9 := val_eq_zero hB hx hn
        by_cases h7 : xs = []
        · rw [decide_eq_true (h9.2 h7), h7]; rfl
        · rw [decide_eq_false (fun h => h7 (h9.1 h)), beq_eq_false_iff_ne]
          intro h; exact h7 (List.length_eq_zero_iff.1 (by omega))
      rw [h8]
    · rw [e0, Int.ediv_eq_zero_of_lt hv0 hlt]; rfl
  · have c1 : w < xs.length := by omega
    have hs := val_split 4294967296 xs w (by omega)
    have ht0 := val_nonneg hB (hx.take w)
    have ht1 := val_lt hB (hx.take w)
    rw [List.length_take, Nat.min_eq_left (by omega)] at ht1
    have hd0 := val_nonneg hB (hx.drop w)
    have hdiv : val 4294967296 xs / 2 ^ n = val 4294967296 (xs.drop w) / 2 ^ b := by
      rw [e0, ← Int.ediv_ediv_of_nonneg (by omega), hs, Int.add_mul_ediv_left _ _ (by omega), Int.ediv_eq_zero_of_lt ht0 ht1, Int.zero_add]
    have hmod : (val 4294967296 xs % 2 ^ n = 0) ↔ (val 4294967296 (xs.take w) = 0 ∧ val 4294967296 (xs.drop w) % 2 ^ b = 0) := by
      have hdm := Int.mul_ediv_add_emod (val 4294967296 (xs.drop w)) (2 ^ b)
      have hr0 : 0 ≤ val 4294967296 (xs.drop w) % 2 ^ b := Int.emod_nonneg _ (by omega)
      have hr1 : val 4294967296 (xs.drop w) % 2 ^ b < 2 ^ b := Int.emod_lt_of_pos _ hP0
      have h1 : val 4294967296 xs % 2 ^ n = val 4294967296 (xs.take w) + 4294967296 ^ w * (val 4294967296 (xs.drop w) % 2 ^ b) := by
        rw [e0, hs, ← hdm]
        generalize val 4294967296 (xs.drop w) / 2 ^ b = q at *
        generalize val 4294967296 (xs.drop w) % 2 ^ b = r at *
        rw [show val 4294967296 (xs.take w) + 4294967296 ^ w * (2 ^ b * q + r) = (val 4294967296 (xs.take w) + 4294967296 ^ w * r) + (4294967296 ^ w * 2 ^ b) * q by grind, Int.add_mul_emod_self_left]
        have h3 : 4294967296 ^ w * (r + 1) ≤ 4294967296 ^ w * 2 ^ b := Int.mul_le_mul_of_nonneg_left (by omega) (by omega)
        rw [Int.mul_add, Int.mul_one] at h3
        rw [show (2 ^ b * q + r) % 2 ^ b = r by rw [Int.add_comm, Int.add_mul_emod_self_left]; exact Int.emod_eq_of_lt hr0 hr1]
        exact Int.emod_eq_of_lt (Int.add_nonneg ht0 (Int.mul_nonneg (by omega) hr0)) (by omega)
      rw [h1]
      generalize val 4294967296 (xs.drop w) % 2 ^ b = r at *
      have h4 : 0 ≤ 4294967296 ^ w * r := Int.mul_nonneg (by omega) hr0
      constructor
      · intro h
        have h5 : 4294967296 ^ w * r = 0 := by omega
        rcases Int.mul_eq_zero.1 h5 with h6 | h6
        · omega
        · exact ⟨by omega, h6⟩
      · rintro ⟨h5, h6⟩
        rw [h5, h6]; simp
    have hl : ∀ ex : Bool, ∃ r, Ev (fun k => nat_Shr.j0 k xs (n : Int) ex (w : Int)) (trim r, ex) ∧ r.length = xs.length - w ∧ Lim 4294967296 r ∧ val 4294967296 r = val 4294967296 (xs.drop w) / 2 ^ b := by
      intro ex
      obtain ⟨r, h1, h2, h3, h4⟩ := shr_loop xs w b hx hb (by omega) (by omega) ex (xs.length - w) 0 (List.replicate (xs.length - w) 0) (by omega) (by simp) (lim_replicate hB _) (by simp [val])
      refine ⟨r, ?_, h2, h3, h4⟩
      rw [← en] at h1
      refine Ev.step (fun k => ?_) h1
      have e3 : wrap64 ((xs.length : Int) - (w : Int)) = ((xs.length - w : Nat) : Int) := by rw [w64 (by omega) (by omega)]; omega
      simp only [nat_Shr.j0]
      rw [e3, if_pos (by omega), Int.toNat_natCast, if_pos (by omega), Option.bind_some]
      rfl
    have hlow : val 4294967296 (xs.drop w) % 2 ^ b = rd xs (w : Int) % 2 ^ b := by
      rw [val_drop _ xs w c1, rd_getD]
      have : (4294967296 : Int) * val 4294967296 (xs.drop (w + 1)) = 2 ^ b * (2 ^ (32 - b) * val 4294967296 (xs.drop (w + 1))) := by rw [← pow_base (show b ≤ 32 by omega)]; grind
      rw [this, Int.add_mul_emod_self_left]
    obtain ⟨r, h1, h2, h3, h4⟩ := hl (decide (val 4294967296 xs % 2 ^ n = 0))
    refine ⟨trim r, ?_, lim_trim h3, nrm_trim _, by rw [val_trim, h4, hdiv], Nat.le_trans (length_trim _) (by omega)⟩
    have hcl : ∀ k, nat_Shr.f k xs (n : Int) = (nat_Trim.f k (xs.take w)).bind fun t143 => (if (t143.length : Int) = 0 then nat_Shr.j0 k xs (n : Int) (rd xs (w : Int) % 2 ^ b == 0) (w : Int) else nat_Shr.j0 k xs (n : Int) false (w : Int)) := by
      intro k
      have hxi := hx.rd hB (w : Int)
      simp only [nat_Shr.f, slices_Clone_uint32_uint32.f]
      rw [e2 (), e1 (), if_neg (by omega), if_pos (by omega), if_pos (by omega), Int.toNat_natCast, if_pos (by rw [List.length_take]; omega), Option.bind_some, if_pos (by omega), if_pos (by omega), and_low hb hxi.1 hxi.2]
    refine Ev.congr hcl (Ev.bind (f := fun k t143 => (if (List.length t143 : Int) = 0 then nat_Shr.j0 k xs (n : Int) (rd xs (w : Int) % 2 ^ b == 0) (w : Int) else nat_Shr.j0 k xs (n : Int) false (w : Int))) (Trim_ev (xs.take w) (by rw [List.length_take]; omega)) ?_)
    have hz : val 4294967296 (xs.take w) = 0 ↔ trim (xs.take w) = [] := by
      rw [← val_trim]; exact val_eq_zero hB (lim_trim (hx.take w)) (nrm_trim _)
    by_cases c2 : trim (xs.take w) = []
    · have : decide (val 4294967296 xs % 2 ^ n = 0) = (rd xs (w : Int) % 2 ^ b == 0) := by
        have h8 : (val 4294967296 xs % 2 ^ n = 0) ↔ (rd xs (w : Int) % 2 ^ b = 0) := by rw [hmod, hlow]; exact ⟨fun h => h.2, fun h => ⟨hz.2 c2, h⟩⟩
        by_cases h7 : rd xs (w : Int) % 2 ^ b = 0
        · rw [decide_eq_true (h8.2 h7), h7]; rfl
        · rw [decide_eq_false (fun h => h7 (h8.1 h)), eq_comm, beq_eq_false_iff_ne]; exact h7
      rw [this] at h1
      simp only [c2, List.length_nil, Int.natCast_zero, if_true]
      rw [this]
      exact h1
    · have : decide (val 4294967296 xs % 2 ^ n = 0) = false := by
        rw [decide_eq_false_iff_not, hmod]
        intro h
        exact c2 (hz.1 h.1)
      rw [this] at h1
      have h0 : ¬ ((trim (xs.take w)).length : Int) = 0 := by
        intro h
        exact c2 (List.length_eq_zero_iff.1 (by omega))
      simp only [if_neg h0]
      rw [this]
      exact h1
theorem knuth_ge {B q V U v12 top3 Pm Vl Ul : Int} (hV : V = v12 * Pm + Vl) (hVl : 0 ≤ Vl) (hU : U = top3 * Pm + Ul) (hUl : Ul < Pm) (hP : 0 < Pm) (hq : q * V ≤ U) (hq0 : 0 ≤ q) : q * v12 ≤ top3 := by
  have h1 : q * v12 * Pm ≤ U := by
    have : 0 ≤ q * Vl := Int.mul_nonneg hq0 hVl
    subst hV; grind
  have h2 : q * v12 * Pm < (top3 + 1) * Pm := by grind
  have := Int.lt_of_mul_lt_mul_right h2 (by omega)
  omega
theorem knuth_le {B g V U v12 top3 Pm Vl Ul q : Int} (hV : V = v12 * Pm + Vl) (hVl : Vl < Pm) (hU : U = top3 * Pm + Ul) (hUl : 0 ≤ Ul) (hP : 0 < Pm) (hg0 : 0 ≤ g) (hg : g < B) (h : g * v12 ≤ top3) (hBV : B * Pm ≤ V) (hq : U < (q + 1) * V) (hV0 : 0 < V) : g ≤ q + 1 := by
  have h1 : g * v12 * Pm ≤ top3 * Pm := Int.mul_le_mul_of_nonneg_right h (by omega)
  have h2 : g * Vl ≤ g * Pm := Int.mul_le_mul_of_nonneg_left (by omega) hg0
  have h3 : g * Pm < B * Pm := Int.mul_lt_mul_of_pos_right hg hP
  have h4 : (g - 1) * V < (q + 1) * V := by subst hV; grind
  have := Int.lt_of_mul_lt_mul_right h4 (by omega)
  omega
theorem sub_step {a lo w : Int} (ha0 : 0 ≤ a) (ha : a < 4294967296) (hl0 : 0 ≤ lo) (hl : lo < 4294967296) (hw0 : 0 ≤ w) (hw : w ≤ 1) :
    ∃ d b' : Int, IntKind.u64.wrap (IntKind.u64.wrap (IntKind.u64.wrap a - lo) - w) % 4294967296 = d ∧ Go.bits .and .u64 (IntKind.u64.wrap (IntKind.u64.wrap (IntKind.u64.wrap a - lo) - w) / 4294967296) 1 = b' ∧ 0 ≤ d ∧ d < 4294967296 ∧ 0 ≤ b' ∧ b' ≤ 1 ∧ d - 4294967296 * b' = a - lo - w := by
  rw [u64_id ha0 (by omega), u64w, u64w]
  by_cases h : a - lo - w < 0
  · have e : ((a - lo) % 18446744073709551616 - w) % 18446744073709551616 = a - lo - w + 18446744073709551616 := by omega
    rw [e, bits_and_one (by omega) (by omega)]
    exact ⟨_, _, rfl, rfl, by omega, by omega, by omega, by omega, by omega⟩
  · have e : ((a - lo) % 18446744073709551616 - w) % 18446744073709551616 = a - lo - w := by omega
    rw [e, bits_and_one (by omega) (by omega)]
    exact ⟨_, _, rfl, rfl, by omega, by omega, by omega, by omega, by omega⟩
theorem mul_lim {g b : Int} (hg0 : 0 ≤ g) (hg : g < 4294967296) (hb0 : 0 ≤ b) (hb : b < 4294967296) : 0 ≤ g * b ∧ g * b ≤ 18446744065119617025 := by
  refine ⟨Int.mul_nonneg hg0 hb0, ?_⟩
  have h1 : g * b ≤ g * 4294967295 := Int.mul_le_mul_of_nonneg_left (by omega) hg0
  omega
theorem mul_step {c g b : Int} (hc0 : 0 ≤ c) (hc : c < 4294967296) (hg0 : 0 ≤ g) (hg : g < 4294967296) (hb0 : 0 ≤ b) (hb : b < 4294967296) :
    ∃ lo c' : Int, IntKind.u64.wrap (c + IntKind.u64.wrap (g * IntKind.u64.wrap b)) % 4294967296 = lo ∧ IntKind.u64.wrap (c + IntKind.u64.wrap (g * IntKind.u64.wrap b)) / 4294967296 = c' ∧ 0 ≤ lo ∧ lo < 4294967296 ∧ 0 ≤ c' ∧ c' < 4294967296 ∧ c + g * b = lo + 4294967296 * c' := by
  obtain ⟨h1, h2⟩ := mul_lim hg0 hg hb0 hb
  rw [u64_id hb0 (by omega), u64_id (x := g * b) h1 (by omega), u64_id (by omega) (by omega)]
  generalize g * b = p at *
  exact ⟨_, _, rfl, rfl, by omega, by omega, by omega, by omega, by omega⟩
theorem add_step {c a b : Int} (hc0 : 0 ≤ c) (hc : c ≤ 1) (ha0 : 0 ≤ a) (ha : a < 4294967296) (hb0 : 0 ≤ b) (hb : b < 4294967296) :
    ∃ lo c' : Int, IntKind.u64.wrap (c + IntKind.u64.wrap (IntKind.u64.wrap a + IntKind.u64.wrap b)) % 4294967296 = lo ∧ IntKind.u64.wrap (c + IntKind.u64.wrap (IntKind.u64.wrap a + IntKind.u64.wrap b)) / 4294967296 = c' ∧ 0 ≤ lo ∧ lo < 4294967296 ∧ 0 ≤ c' ∧ c' ≤ 1 ∧ c + a + b = lo + 4294967296 * c' := by
  rw [u64_id ha0 (by omega), u64_id hb0 (by omega), u64_id (x := a + b) (by omega) (by omega), u64_id (by omega) (by omega)]
  exact ⟨_, _, rfl, rfl, by omega, by omega, by omega, by omega, by omega⟩
theorem digit_l2 (v : List Int) (g : Int) (hv : Lim 4294967296 v) (hL : v.length ≤ 549755813888) : ∀ (d i : Nat) (u0 u : List Int) (c : Int), d + i = v.length → u.length = v.length + 1 → Lim 4294967296 u → 0 ≤ c → c ≤ 1 →
    val 4294967296 (u.take i) + 4294967296 ^ i * c = val 4294967296 (u0.take i) + val 4294967296 (v.take i) → u.drop i = u0.drop i → u0.length = v.length + 1 →
    ∃ r, Ev (fun k => nat_digit.l2 k u v (v.length : Int) g c (v.length : Int) (i : Int)) (IntKind.u64.wrap (g - 1) % 4294967296, r) ∧ Lim 4294967296 r ∧ r.length = v.length + 1 ∧ ∃ z : Int, val 4294967296 r = val 4294967296 u0 + val 4294967296 v - 4294967296 ^ (v.length + 1) * z := by
  have hB : (0 : Int) < 4294967296 := by decide
  intro d
  induction d with
  | zero =>
    intro i u0 u c hd hl hu hc0 hc hval hdr hl0
    have hi : i = v.length := by omega
    subst hi
    have hxi := hu.rd hB (v.length : Int)
    have hx0 : rd u (v.length : Int) = u.getD v.length 0 := rd_getD u _
    have hx1 : u0.getD v.length 0 = u.getD v.length 0 := by
      have h1 : (u.drop v.length).getD 0 0 = (u0.drop v.length).getD 0 0 := by rw [hdr]
      rw [List.getD_eq_getElem?_getD, List.getElem?_drop, List.getD_eq_getElem?_getD, List.getElem?_drop] at h1
      rw [List.getD_eq_getElem?_getD, List.getD_eq_getElem?_getD]; exact h1.symm
    refine ⟨u.set v.length ((rd u (v.length : Int) + c) % 4294967296), Ev.step (f := fun _ => some (IntKind.u64.wrap (g - 1) % 4294967296, u.set v.length ((rd u (v.length : Int) + c) % 4294967296))) (fun k => ?_) (Ev.now _), hu.set _ ⟨Int.emod_nonneg _ (by decide), Int.emod_lt_of_pos _ hB⟩, by rw [List.length_set, hl], (rd u (v.length : Int) + c) / 4294967296, ?_⟩
    · simp only [nat_digit.l2]
      rw [if_neg (by omega), if_pos (by omega), if_pos (by omega), Int.emod_eq_of_lt hc0 (by omega : c < 4294967296), Int.toNat_natCast]
    · have hs1 := val_take_succ 4294967296 u v.length (by omega)
      have hs0 := val_take_succ 4294967296 u0 v.length (by omega)
      rw [List.take_of_length_le (by omega)] at hs1 hs0
      rw [List.take_of_length_le (Nat.le_refl _)] at hval
      rw [val_set _ _ _ _ (by omega), hs0, hx1]
      have hdm := Int.mul_ediv_add_emod (rd u (v.length : Int) + c) 4294967296
      rw [hx0] at hdm ⊢
      rw [hs1, Int.pow_succ]
      generalize (u.getD v.length 0 + c) / 4294967296 = z at *
      generalize (u.getD v.length 0 + c) % 4294967296 = y at *
      grind
  | succ d ih =>
    intro i u0 u c hd hl hu hc0 hc hval hdr hl0
    have g1 : (i : Int) < (v.length : Int) := by omega
    have g2 : (0 : Int) ≤ (i : Int) := by omega
    have g3 : (i : Int) < (u.length : Int) := by omega
    have g4 : i < v.length := by omega
    have g5 : i < u.length := by omega
    have g6 : i < u0.length := by omega
    have g7 : ∀ _ : Unit, wrap64 ((i : Int) + 1) = ((i + 1 : Nat) : Int) := fun _ => by rw [w64 (by omega) (by omega)]; omega
    have g8 : d + (i + 1) = v.length := by omega
    have hxi := hu.rd hB (i : Int)
    have hyi := hv.rd hB (i : Int)
    obtain ⟨lo, c', s1, s2, hlo0, hlo, hc'0, hc', hs⟩ := add_step hc0 hc hxi.1 hxi.2 hyi.1 hyi.2
    have hux : rd u (i : Int) = u0.getD i 0 := by
      rw [rd_getD]
      have h1 : (u.drop i).getD 0 0 = (u0.drop i).getD 0 0 := by rw [hdr]
      rw [List.getD_eq_getElem?_getD, List.getElem?_drop, List.getD_eq_getElem?_getD, List.getElem?_drop] at h1
      rw [List.getD_eq_getElem?_getD, List.getD_eq_getElem?_getD]; exact h1
    have hvx : rd v (i : Int) = v.getD i 0 := rd_getD v i
    obtain ⟨r, hev, h1, h2, h3⟩ := ih (i + 1) u0 (u.set i lo) c' g8 (by rw [List.length_set, hl]) (hu.set _ ⟨hlo0, hlo⟩) hc'0 hc' (by
        rw [take_set_succ g5, val_snoc, List.length_take, Nat.min_eq_left (Nat.le_of_lt g5), val_take_succ _ _ _ g4, val_take_succ _ _ _ g6, ← hux, ← hvx, Int.pow_succ]
        clear ih hdr hu hv s1 s2 hxi hyi hux hvx
        grind) (by rw [drop_set_succ, ← List.drop_drop, ← List.drop_drop, hdr]) hl0
    refine ⟨r, Ev.step (f := fun k => nat_digit.l2 k (u.set i lo) v (v.length : Int) g c' (v.length : Int) ((i + 1 : Nat) : Int)) (fun k => ?_) hev, h1, h2, h3⟩
    simp only [nat_digit.l2]
    rw [if_pos g1, if_pos g2, if_pos g3, if_pos g1, s1, s2, g7 (), Int.toNat_natCast]
theorem digit_l1 (v : List Int) (g : Int) (hg0 : 0 ≤ g) (hg : g < 4294967296) (hv : Lim 4294967296 v) (hL : v.length ≤ 549755813888) (q : Int) (u0 : List Int) (hu0 : Lim 4294967296 u0) (hl0 : u0.length = v.length + 1) (hq0 : 0 ≤ q) (hqV : q * val 4294967296 v ≤ val 4294967296 u0) (hqU : val 4294967296 u0 < (q + 1) * val 4294967296 v) (hqg : q ≤ g) (hgq : g ≤ q + 1) : ∀ (d i : Nat) (u : List Int) (b c : Int), d + i = v.length → u.length = v.length + 1 → Lim 4294967296 u → 0 ≤ b → b ≤ 1 → 0 ≤ c → c < 4294967296 →
    val 4294967296 (u.take i) - 4294967296 ^ i * b = val 4294967296 (u0.take i) - g * val 4294967296 (v.take i) + 4294967296 ^ i * c → u.drop i = u0.drop i →
    ∃ r, Ev (fun k => nat_digit.l1 k u v (v.length : Int) g b c (v.length : Int) (i : Int)) (q, r) ∧ Lim 4294967296 r ∧ r.length = v.length + 1 ∧ val 4294967296 r = val 4294967296 u0 - q * val 4294967296 v := by
  have hB : (0 : Int) < 4294967296 := by decide
  intro d
  induction d with
  | zero =>
    intro i u b c hd hl hu hb0 hb hc0 hc hval hdr
    have hi : i = v.length := by omega
    subst hi
    have hxi := hu.rd hB (v.length : Int)
    have hx0 : rd u (v.length : Int) = u.getD v.length 0 := rd_getD u _
    have hx1 : u0.getD v.length 0 = u.getD v.length 0 := by
      have h1 : (u.drop v.length).getD 0 0 = (u0.drop v.length).getD 0 0 := by rw [hdr]
      rw [List.getD_eq_getElem?_getD, List.getElem?_drop, List.getD_eq_getElem?_getD, List.getElem?_drop] at h1
      rw [List.getD_eq_getElem?_getD, List.getD_eq_getElem?_getD]; exact h1.symm
    obtain ⟨y, b', s1, s2, hy0, hy, hb'0, hb', hs⟩ := sub_step (lo := c) hxi.1 hxi.2 hc0 hc hb0 hb
    have hlen : v.length < u.length := by omega
    have hul : Lim 4294967296 (u.set v.length y) := hu.set _ ⟨hy0, hy⟩
    have hul1 : (u.set v.length y).length = v.length + 1 := by rw [List.length_set, hl]
    have hfin : val 4294967296 (u.set v.length y) - 4294967296 ^ (v.length + 1) * b' = val 4294967296 u0 - g * val 4294967296 v := by
      have hs1 := val_take_succ 4294967296 u v.length (by omega)
      have hs0 := val_take_succ 4294967296 u0 v.length (by omega)
      rw [List.take_of_length_le (by omega)] at hs1 hs0
      rw [List.take_of_length_le (Nat.le_refl _)] at hval
      rw [val_set _ _ _ _ hlen, hs0, hx1, hs1, Int.pow_succ]
      rw [hx0] at hs
      clear s1 s2 hu hdr hqV hqU hu0 hv hul
      grind
    have hn0 := val_nonneg hB hul
    have hn1 := val_lt hB hul
    rw [hul1] at hn1
    have g2 : (0 : Int) ≤ (v.length : Int) := by omega
    have g3 : ((v.length : Nat) : Int) < (u.length : Int) := by omega
    have g1 : ¬ (v.length : Int) < (v.length : Int) := by omega
    by_cases hbz : b' = 0
    · have hgq2 : g = q := by
        rw [hbz, Int.mul_zero, Int.sub_zero] at hfin
        have h5 : g * val 4294967296 v < (q + 1) * val 4294967296 v := by omega
        have hv0 := val_nonneg hB hv
        have := Int.lt_of_mul_lt_mul_right h5 hv0
        omega
      refine ⟨u.set v.length y, Ev.step (f := fun _ => some (q, u.set v.length y)) (fun k => ?_) (Ev.now _), hul, hul1, ?_⟩
      · simp only [nat_digit.l1]
        rw [if_neg g1, if_pos g2, if_pos g3, s1, s2, Option.bind_some, if_pos hbz, Int.emod_eq_of_lt hg0 hg, Int.toNat_natCast, hgq2]
      · rw [hbz, Int.mul_zero, Int.sub_zero, hgq2] at hfin
        exact hfin
    · have hb1 : b' = 1 := by omega
      rw [hb1, Int.mul_one] at hfin
      have hgq2 : g = q + 1 := by
        have h6 : q * val 4294967296 v < g * val 4294967296 v := by omega
        have hv0 := val_nonneg hB hv
        have := Int.lt_of_mul_lt_mul_right h6 hv0
        omega
      obtain ⟨r, hev, r1, r2, z, r3⟩ := digit_l2 v g hv hL v.length 0 (u.set v.length y) (u.set v.length y) 0 (by omega) hul1 hul (by omega) (by omega) (by simp [val]) rfl hul1
      refine ⟨r, Ev.step (f := fun k => nat_digit.l2 k (u.set v.length y) v (v.length : Int) g 0 (v.length : Int) 0) (fun k => ?_) (Ev.eq hev ?_), r1, r2, ?_⟩
      · simp only [nat_digit.l1]
        rw [if_neg g1, if_pos g2, if_pos g3, s1, s2, Option.bind_some, if_neg hbz, Int.toNat_natCast]
      · rw [u64_id (by omega) (by omega), hgq2, show q + 1 - 1 = q by omega, Int.emod_eq_of_lt hq0 (by omega)]
      · have m0 := val_nonneg hB r1
        have m1 := val_lt hB r1
        rw [r2] at m1
        have hVlt := val_lt hB hv
        have hpm := pow_mono' hB (show v.length ≤ v.length + 1 by omega)
        rw [hgq2] at hfin
        have e1 : (q + 1) * val 4294967296 v = q * val 4294967296 v + val 4294967296 v := by grind
        rw [e1] at hfin hqU
        have hz : z = 1 := by
          have e3 : val 4294967296 r = val 4294967296 u0 - q * val 4294967296 v + 4294967296 ^ (v.length + 1) * (1 - z) := by
            rw [r3, Int.mul_sub, Int.mul_one]; omega
          generalize (4294967296 : Int) ^ (v.length + 1) = M at *
          clear hev s1 s2 hs r3
          have h0 : 1 - z = 0 := by
            generalize 1 - z = y' at *
            rcases Int.lt_trichotomy y' 0 with h | h | h
            · have : M * y' ≤ M * (-1) := Int.mul_le_mul_of_nonneg_left (by omega) (by omega)
              omega
            · exact h
            · have : M * 1 ≤ M * y' := Int.mul_le_mul_of_nonneg_left (by omega) (by omega)
              omega
          omega
        rw [hz, Int.mul_one] at r3
        omega
  | succ d ih =>
    intro i u b c hd hl hu hb0 hb hc0 hc hval hdr
    have g1 : (i : Int) < (v.length : Int) := by omega
    have g2 : (0 : Int) ≤ (i : Int) := by omega
    have g3 : (i : Int) < (u.length : Int) := by omega
    have g4 : i < v.length := by omega
    have g5 : i < u.length := by omega
    have g6 : i < u0.length := by omega
    have g7 : ∀ _ : Unit, wrap64 ((i : Int) + 1) = ((i + 1 : Nat) : Int) := fun _ => by rw [w64 (by omega) (by omega)]; omega
    have g8 : d + (i + 1) = v.length := by omega
    have hxi := hu.rd hB (i : Int)
    have hyi := hv.rd hB (i : Int)
    obtain ⟨lo, c', s1, s2, hlo0, hlo, hc'0, hc', hs⟩ := mul_step hc0 hc hg0 hg hyi.1 hyi.2
    obtain ⟨y, b', t1, t2, hy0, hy, hb'0, hb', ht⟩ := sub_step hxi.1 hxi.2 hlo0 hlo hb0 hb
    have hux : rd u (i : Int) = u0.getD i 0 := by
      rw [rd_getD]
      have h1 : (u.drop i).getD 0 0 = (u0.drop i).getD 0 0 := by rw [hdr]
      rw [List.getD_eq_getElem?_getD, List.getElem?_drop, List.getD_eq_getElem?_getD, List.getElem?_drop] at h1
      rw [List.getD_eq_getElem?_getD, List.getD_eq_getElem?_getD]; exact h1
    have hvx : rd v (i : Int) = v.getD i 0 := rd_getD v i
    obtain ⟨r, hev, h1, h2, h3⟩ := ih (i + 1) (u.set i y) b' c' g8 (by rw [List.length_set, hl]) (hu.set _ ⟨hy0, hy⟩) hb'0 hb' hc'0 hc' (by
        rw [take_set_succ g5, val_snoc, List.length_take, Nat.min_eq_left (Nat.le_of_lt g5), val_take_succ _ _ _ g4, val_take_succ _ _ _ g6, ← hux, ← hvx, Int.pow_succ]
        clear ih hdr hu hv s1 s2 t1 t2 hxi hyi hux hvx hu0 hqV hqU
        grind) (by rw [drop_set_succ, ← List.drop_drop, ← List.drop_drop, hdr])
    refine ⟨r, Ev.step (f := fun k => nat_digit.l1 k (u.set i y) v (v.length : Int) g b' c' (v.length : Int) ((i + 1 : Nat) : Int)) (fun k => ?_) hev, h1, h2, h3⟩
    simp only [nat_digit.l1]
    rw [if_pos g1, if_pos g2, if_pos g1, if_pos g3, s1, s2, t1, t2, g7 (), Int.toNat_natCast]
theorem guess_loop (u v : List Int) (n : Nat) (hn : 2 ≤ n) (hnv : v.length = n) (hnu : u.length = n + 1) (hv : Lim 4294967296 v) (hu : Lim 4294967296 u) (hL : n ≤ 549755813888) (q top2 v1 v2 u2 : Int) (P : List Int → Prop)
    (ev1 : v1 = rd v ((n - 1 : Nat) : Int)) (ev2 : v2 = rd v ((n - 2 : Nat) : Int)) (eu2 : u2 = rd u ((n - 2 : Nat) : Int)) (hq0 : 0 ≤ q) (hqB : q < 4294967296) (ht0 : 0 ≤ top2) (ht1 : top2 ≤ v1 * 4294967296 + 4294967295)
    (hq12 : q * (v1 * 4294967296 + v2) ≤ top2 * 4294967296 + u2) (hle : ∀ g : Int, 0 ≤ g → g < 4294967296 → g * (v1 * 4294967296 + v2) ≤ top2 * 4294967296 + u2 → g ≤ q + 1)
    (hj2 : ∀ g : Int, 0 ≤ g → g < 4294967296 → q ≤ g → g ≤ q + 1 → ∃ r, Ev (fun k => nat_digit.j2 k u v (n : Int) g) (q, r) ∧ P r) :
    ∀ (m : Nat) (guess rest : Int), guess = q + m → guess ≤ 4294967297 → 0 ≤ rest → rest < 4294967296 → guess * v1 + rest = top2 → ∃ r, Ev (fun k => nat_digit.l0 k u v (n : Int) guess rest) (q, r) ∧ P r := by
  have hB : (0 : Int) < 4294967296 := by decide
  have h1 := hv.rd hB ((n - 1 : Nat) : Int)
  have h2 := hv.rd hB ((n - 2 : Nat) : Int)
  have h3 := hu.rd hB ((n - 2 : Nat) : Int)
  rw [← ev1] at h1; rw [← ev2] at h2; rw [← eu2] at h3
  have a1 : ∀ _ : Unit, wrap64 ((n : Int) - 1) = ((n - 1 : Nat) : Int) := fun _ => by rw [w64 (by omega) (by omega)]; omega
  have a2 : ∀ _ : Unit, wrap64 ((n : Int) - 2) = ((n - 2 : Nat) : Int) := fun _ => by rw [w64 (by omega) (by omega)]; omega
  have b0 : (0 : Int) ≤ ((n - 1 : Nat) : Int) := by omega
  have b1 : ((n - 1 : Nat) : Int) < (v.length : Int) := by omega
  have b2 : (0 : Int) ≤ ((n - 2 : Nat) : Int) := by omega
  have b3 : ((n - 2 : Nat) : Int) < (v.length : Int) := by omega
  have b4 : ((n - 2 : Nat) : Int) < (u.length : Int) := by omega
  have hdown : ∀ (guess rest : Int), q < guess → guess ≤ 4294967297 → 0 ≤ rest → rest < 4294967296 → guess * v1 + rest = top2 →
      (rest + v1 < 4294967296 → ∃ r, Ev (fun k => nat_digit.l0 k u v (n : Int) (guess - 1) (rest + v1)) (q, r) ∧ P r) → ∃ r, Ev (fun k => nat_digit.j1 k u v (n : Int) guess rest true) (q, r) ∧ P r := by
    intro guess rest hg hg1 hr0 hr1 hinv hind
    have e1 : IntKind.u64.wrap (rest + IntKind.u64.wrap v1) = rest + v1 := by rw [u64_id h1.1 (by omega), u64_id (by omega) (by omega)]
    have e2 : IntKind.u64.wrap (guess - 1) = guess - 1 := u64_id (by omega) (by omega)
    by_cases c : rest + v1 ≥ 4294967296
    · have hlim : guess - 1 < 4294967296 := by
        have h5 : (guess - 1) * v1 < 4294967296 * v1 := by
          have : (guess - 1) * v1 = guess * v1 - v1 := by grind
          have : (4294967296 : Int) * v1 = v1 * 4294967296 := Int.mul_comm _ _
          omega
        exact Int.lt_of_mul_lt_mul_right h5 h1.1
      have hup : (guess - 1) * (v1 * 4294967296 + v2) ≤ top2 * 4294967296 + u2 := by
        have h6 : (guess - 1) * v2 ≤ 4294967296 * 4294967295 := by
          have h61 : (guess - 1) * v2 ≤ (guess - 1) * 4294967295 := Int.mul_le_mul_of_nonneg_left (by omega) (by omega)
          omega
        have h7 : (guess - 1) * v1 = top2 - (rest + v1) := by
          have : (guess - 1) * v1 = guess * v1 - v1 := by grind
          omega
        have h8 : (guess - 1) * (v1 * 4294967296 + v2) = ((guess - 1) * v1) * 4294967296 + (guess - 1) * v2 := by grind
        rw [h8, h7]
        generalize (guess - 1) * v2 = z at *
        omega
      obtain ⟨r, hev, hp⟩ := hj2 (guess - 1) (by omega) hlim (by omega) (hle _ (by omega) hlim hup)
      refine ⟨r, Ev.step (f := fun k => nat_digit.j2 k u v (n : Int) (guess - 1)) (fun k => ?_) hev, hp⟩
      simp only [nat_digit.j1]
      rw [if_pos trivial, a1 (), if_pos b0, if_pos b1, ← ev1, e1, e2, if_pos (by omega)]
    · obtain ⟨r, hev, hp⟩ := hind (by omega)
      refine ⟨r, Ev.step (f := fun k => nat_digit.l0 k u v (n : Int) (guess - 1) (rest + v1)) (fun k => ?_) hev, hp⟩
      simp only [nat_digit.j1]
      rw [if_pos trivial, a1 (), if_pos b0, if_pos b1, ← ev1, e1, e2, if_neg (by omega)]
  intro m
  induction m with
  | zero =>
    intro guess rest hgm hg1 hr0 hr1 hinv
    have hgq : guess = q := by omega
    have hgB : ¬ guess / 4294967296 > 0 := by omega
    obtain ⟨p0, p1⟩ := mul_lim (g := guess) (b := v2) (by omega) (by omega) h2.1 h2.2
    have hno : ¬ guess * v2 > rest * 4294967296 + u2 := by
      have h8 : guess * (v1 * 4294967296 + v2) = (guess * v1) * 4294967296 + guess * v2 := by grind
      rw [← hgq, h8] at hq12
      generalize guess * v2 = z at *
      omega
    obtain ⟨r, hev, hp⟩ := hj2 guess (by omega) (by omega) (by omega) (by omega)
    have e1 : IntKind.u64.wrap (guess * IntKind.u64.wrap v2) = guess * v2 := by rw [u64_id h2.1 (by omega), u64_id p0 (by omega)]
    have e2 : Go.bits .or .u64 (IntKind.u64.wrap (rest * 4294967296)) (IntKind.u64.wrap u2) = rest * 4294967296 + u2 := by
      rw [u64_id (by omega) (by omega), u64_id h3.1 (by omega), bits_or_shift hr0 hr1 h3.1 h3.2]
    refine ⟨r, Ev.step (f := fun k => nat_digit.j1 k u v (n : Int) guess rest false) (fun k => ?_) (Ev.step (f := fun k => nat_digit.j2 k u v (n : Int) guess) (fun k => ?_) hev), hp⟩
    · simp only [nat_digit.l0]
      rw [if_neg hgB, a2 (), if_pos b2, if_pos b3, if_pos b4, ← ev2, ← eu2, e1, e2, decide_eq_false hno]
    · simp only [nat_digit.j1]
      rw [if_neg (by decide)]
  | succ m ih =>
    intro guess rest hgm hg1 hr0 hr1 hinv
    have hd := hdown guess rest (by omega) hg1 hr0 hr1 hinv (fun h => ih (guess - 1) (rest + v1) (by omega) (by omega) (by omega) h (by
      have : (guess - 1) * v1 = guess * v1 - v1 := by grind
      omega))
    by_cases hgB : guess / 4294967296 > 0
    · obtain ⟨r, hev, hp⟩ := hd
      refine ⟨r, Ev.step (f := fun k => nat_digit.j1 k u v (n : Int) guess rest true) (fun k => ?_) hev, hp⟩
      simp only [nat_digit.l0]
      rw [if_pos hgB]
    · have hgl : guess < 4294967296 := by omega
      obtain ⟨p0, p1⟩ := mul_lim (g := guess) (b := v2) (by omega) (by omega) h2.1 h2.2
      have e1 : IntKind.u64.wrap (guess * IntKind.u64.wrap v2) = guess * v2 := by rw [u64_id h2.1 (by omega), u64_id p0 (by omega)]
      have e2 : Go.bits .or .u64 (IntKind.u64.wrap (rest * 4294967296)) (IntKind.u64.wrap u2) = rest * 4294967296 + u2 := by
        rw [u64_id (by omega) (by omega), u64_id h3.1 (by omega), bits_or_shift hr0 hr1 h3.1 h3.2]
      by_cases c : guess * v2 > rest * 4294967296 + u2
      · obtain ⟨r, hev, hp⟩ := hd
        refine ⟨r, Ev.step (f := fun k => nat_digit.j1 k u v (n : Int) guess rest true) (fun k => ?_) hev, hp⟩
        simp only [nat_digit.l0]
        rw [if_neg hgB, a2 (), if_pos b2, if_pos b3, if_pos b4, ← ev2, ← eu2, e1, e2, decide_eq_true c]
      · have hup : guess * (v1 * 4294967296 + v2) ≤ top2 * 4294967296 + u2 := by
          have h8 : guess * (v1 * 4294967296 + v2) = (guess * v1) * 4294967296 + guess * v2 := by grind
          rw [h8]
          generalize guess * v2 = z at *
          omega
        obtain ⟨r, hev, hp⟩ := hj2 guess (by omega) hgl (by omega) (hle _ (by omega) hgl hup)
        refine ⟨r, Ev.step (f := fun k => nat_digit.j1 k u v (n : Int) guess rest false) (fun k => ?_) (Ev.step (f := fun k => nat_digit.j2 k u v (n : Int) guess) (fun k => ?_) hev), hp⟩
        · simp only [nat_digit.l0]
          rw [if_neg hgB, a2 (), if_pos b2, if_pos b3, if_pos b4, ← ev2, ← eu2, e1, e2, decide_eq_false c]
        · simp only [nat_digit.j1]
          rw [if_neg (by decide)]
theorem div_bounds {U V : Int} (hV : 0 < V) (hU : 0 ≤ U) : 0 ≤ U / V ∧ U / V * V ≤ U ∧ U < (U / V + 1) * V ∧ U % V = U - U / V * V := by
  have h1 := Int.mul_ediv_add_emod U V
  have h2 := Int.emod_nonneg U (show V ≠ 0 by omega)
  have h3 := Int.emod_lt_of_pos U hV
  refine ⟨Int.ediv_nonneg hU (by omega), ?_⟩
  rw [Int.add_mul, Int.one_mul, Int.mul_comm (U / V) V]
  omega
theorem digit_ev (u v : List Int) (n : Nat) (hn : 2 ≤ n) (hnv : v.length = n) (hnu : u.length = n + 1) (hv : Lim 4294967296 v) (hu : Lim 4294967296 u) (hL : n ≤ 549755813888) (htop : 2147483648 ≤ v.getD (n - 1) 0) (hlt : val 4294967296 u < 4294967296 * val 4294967296 v) :
    ∃ r, Ev (fun k => nat_digit.f k u v) (val 4294967296 u / val 4294967296 v, r) ∧ Lim 4294967296 r ∧ r.length = n + 1 ∧ val 4294967296 r = val 4294967296 u % val 4294967296 v := by
  have hB : (0 : Int) < 4294967296 := by decide
  have h1 := hv.rd hB ((n - 1 : Nat) : Int)
  have h2 := hv.rd hB ((n - 2 : Nat) : Int)
  have k0 := hu.rd hB (n : Int)
  have k1 := hu.rd hB ((n - 1 : Nat) : Int)
  have k2 := hu.rd hB ((n - 2 : Nat) : Int)
  have htop' : 2147483648 ≤ rd v ((n - 1 : Nat) : Int) := by rw [rd_getD]; exact htop
  have hP0 : (0 : Int) < 4294967296 ^ (n - 2) := Int.pow_pos (by decide)
  have hVl0 := val_nonneg hB (hv.take (n - 2))
  have hVl1 := val_lt hB (hv.take (n - 2))
  rw [List.length_take, Nat.min_eq_left (by omega)] at hVl1
  have hUl0 := val_nonneg hB (hu.take (n - 2))
  have hUl1 := val_lt hB (hu.take (n - 2))
  rw [List.length_take, Nat.min_eq_left (by omega)] at hUl1
  have hVe : val 4294967296 v = (rd v ((n - 1 : Nat) : Int) * 4294967296 + rd v ((n - 2 : Nat) : Int)) * 4294967296 ^ (n - 2) + val 4294967296 (v.take (n - 2)) := by
    have e1 := val_take_succ 4294967296 v (n - 1) (by omega)
    have e2 := val_take_succ 4294967296 v (n - 2) (by omega)
    rw [List.take_of_length_le (by omega)] at e1
    rw [show n - 2 + 1 = n - 1 by omega] at e2
    rw [e1, e2, rd_getD, rd_getD, show n - 1 = (n - 2) + 1 by omega, Int.pow_succ]
    grind
  have hUe : val 4294967296 u = ((rd u (n : Int) * 4294967296 + rd u ((n - 1 : Nat) : Int)) * 4294967296 + rd u ((n - 2 : Nat) : Int)) * 4294967296 ^ (n - 2) + val 4294967296 (u.take (n - 2)) := by
    have e0 := val_take_succ 4294967296 u n (by omega)
    have e1 := val_take_succ 4294967296 u (n - 1) (by omega)
    have e2 := val_take_succ 4294967296 u (n - 2) (by omega)
    rw [List.take_of_length_le (by omega)] at e0
    rw [show n - 2 + 1 = n - 1 by omega] at e2
    rw [show n - 1 + 1 = n by omega] at e1
    have p2 : (4294967296 : Int) ^ n = 4294967296 ^ (n - 2) * 4294967296 * 4294967296 := by
      rw [show (4294967296 : Int) ^ n = 4294967296 ^ ((n - 2) + 1 + 1) by congr 1; omega, Int.pow_succ, Int.pow_succ]
    have p1 : (4294967296 : Int) ^ (n - 1) = 4294967296 ^ (n - 2) * 4294967296 := by
      rw [show (4294967296 : Int) ^ (n - 1) = 4294967296 ^ ((n - 2) + 1) by congr 1; omega, Int.pow_succ]
    rw [e0, e1, e2, rd_getD, rd_getD, rd_getD, p1, p2]
    grind
  have hV0 : 0 < val 4294967296 v := by
    rw [hVe]
    have : 1 * 4294967296 ^ (n - 2) ≤ (rd v ((n - 1 : Nat) : Int) * 4294967296 + rd v ((n - 2 : Nat) : Int)) * 4294967296 ^ (n - 2) := Int.mul_le_mul_of_nonneg_right (by omega) (by omega)
    omega
  have hBV : 4294967296 * 4294967296 ^ (n - 2) ≤ val 4294967296 v := by
    rw [hVe]
    have : 4294967296 * 4294967296 ^ (n - 2) ≤ (rd v ((n - 1 : Nat) : Int) * 4294967296 + rd v ((n - 2 : Nat) : Int)) * 4294967296 ^ (n - 2) := Int.mul_le_mul_of_nonneg_right (by omega) (by omega)
    omega
  obtain ⟨hq0, hqV, hqU, hmod⟩ := div_bounds hV0 (val_nonneg hB hu)
  have hqB : val 4294967296 u / val 4294967296 v < 4294967296 := Int.ediv_lt_of_lt_mul hV0 hlt
  have hj2 : ∀ g : Int, 0 ≤ g → g < 4294967296 → val 4294967296 u / val 4294967296 v ≤ g → g ≤ val 4294967296 u / val 4294967296 v + 1 → ∃ r, Ev (fun k => nat_digit.j2 k u v (n : Int) g) (val 4294967296 u / val 4294967296 v, r) ∧ (Lim 4294967296 r ∧ r.length = n + 1 ∧ val 4294967296 r = val 4294967296 u % val 4294967296 v) := by
    intro g hg0 hg hqg hgq
    obtain ⟨r, hev, r1, r2, r3⟩ := digit_l1 v g hg0 hg hv (by omega) (val 4294967296 u / val 4294967296 v) u hu (by omega) hq0 hqV hqU hqg hgq v.length 0 u 0 0 (by omega) (by omega) hu (by omega) (by omega) (by omega) (by omega) (by simp [val]) rfl
    rw [hnv] at hev
    refine ⟨r, Ev.step (f := fun k => nat_digit.l1 k u v (n : Int) g 0 0 (n : Int) ((0 : Nat) : Int)) (fun k => ?_) hev, r1, by omega, by rw [r3, hmod]⟩
    simp only [nat_digit.j2]
    rw [hnv]; rfl
  have hq12 := knuth_ge (B := 4294967296) hVe hVl0 hUe hUl1 hP0 hqV hq0
  have hle : ∀ g : Int, 0 ≤ g → g < 4294967296 → g * (rd v ((n - 1 : Nat) : Int) * 4294967296 + rd v ((n - 2 : Nat) : Int)) ≤ (rd u (n : Int) * 4294967296 + rd u ((n - 1 : Nat) : Int)) * 4294967296 + rd u ((n - 2 : Nat) : Int) → g ≤ val 4294967296 u / val 4294967296 v + 1 :=
    fun g hg0 hg h => knuth_le hVe hVl1 hUe hUl0 hP0 hg0 hg h hBV hqU hV0
  have ht3 : (rd u (n : Int) * 4294967296 + rd u ((n - 1 : Nat) : Int)) * 4294967296 + rd u ((n - 2 : Nat) : Int) < 4294967296 * (rd v ((n - 1 : Nat) : Int) * 4294967296 + rd v ((n - 2 : Nat) : Int) + 1) := by
    have h5 : ((rd u (n : Int) * 4294967296 + rd u ((n - 1 : Nat) : Int)) * 4294967296 + rd u ((n - 2 : Nat) : Int)) * 4294967296 ^ (n - 2) < (4294967296 * (rd v ((n - 1 : Nat) : Int) * 4294967296 + rd v ((n - 2 : Nat) : Int) + 1)) * 4294967296 ^ (n - 2) := by
      have h6 : (4294967296 * (rd v ((n - 1 : Nat) : Int) * 4294967296 + rd v ((n - 2 : Nat) : Int) + 1)) * 4294967296 ^ (n - 2) = 4294967296 * ((rd v ((n - 1 : Nat) : Int) * 4294967296 + rd v ((n - 2 : Nat) : Int)) * 4294967296 ^ (n - 2)) + 4294967296 * 4294967296 ^ (n - 2) := by grind
      rw [h6]
      generalize (rd v ((n - 1 : Nat) : Int) * 4294967296 + rd v ((n - 2 : Nat) : Int)) * 4294967296 ^ (n - 2) = X at *
      generalize ((rd u (n : Int) * 4294967296 + rd u ((n - 1 : Nat) : Int)) * 4294967296 + rd u ((n - 2 : Nat) : Int)) * 4294967296 ^ (n - 2) = Y at *
      clear hj2 hle hq12
      omega
    exact Int.lt_of_mul_lt_mul_right h5 (by omega)
  clear hqV hqU hmod hUl0 hUl1 hVl0 hVl1 hVe hUe hBV
  generalize hQ : val 4294967296 u / val 4294967296 v = q at *
  generalize hR : val 4294967296 u % val 4294967296 v = rr at *
  generalize hu0 : rd u (n : Int) = x0 at *
  generalize hu1 : rd u ((n - 1 : Nat) : Int) = x1 at *
  have ht0 : 0 ≤ x0 * 4294967296 + x1 := by omega
  have ht1 : x0 * 4294967296 + x1 ≤ rd v ((n - 1 : Nat) : Int) * 4294967296 + 4294967295 := by omega
  have ht2 : x0 * 4294967296 + x1 < 18446744073709551616 := by omega
  have hdv0 : 0 < rd v ((n - 1 : Nat) : Int) := by omega
  obtain ⟨d0, d1, d2, d3⟩ := div_bounds hdv0 ht0
  have d4 := Int.emod_nonneg (x0 * 4294967296 + x1) (show rd v ((n - 1 : Nat) : Int) ≠ 0 by omega)
  have d5 := Int.emod_lt_of_pos (x0 * 4294967296 + x1) hdv0
  have hgq : q ≤ (x0 * 4294967296 + x1) / rd v ((n - 1 : Nat) : Int) := by
    rw [Int.le_ediv_iff_mul_le hdv0]
    have h6 : 0 ≤ q * rd v ((n - 2 : Nat) : Int) := Int.mul_nonneg hq0 h2.1
    have h8 : q * (rd v ((n - 1 : Nat) : Int) * 4294967296 + rd v ((n - 2 : Nat) : Int)) = (q * rd v ((n - 1 : Nat) : Int)) * 4294967296 + q * rd v ((n - 2 : Nat) : Int) := by grind
    rw [h8] at hq12
    generalize q * rd v ((n - 2 : Nat) : Int) = z at *
    generalize q * rd v ((n - 1 : Nat) : Int) = z' at *
    clear hle hj2 d1 d2 d3 d4 d5 h8
    omega
  have hgB : (x0 * 4294967296 + x1) / rd v ((n - 1 : Nat) : Int) ≤ 4294967297 := by
    have : (x0 * 4294967296 + x1) / rd v ((n - 1 : Nat) : Int) < 4294967298 := by
      refine Int.ediv_lt_of_lt_mul hdv0 ?_
      omega
    omega
  generalize hG : (x0 * 4294967296 + x1) / rd v ((n - 1 : Nat) : Int) = g at *
  generalize hE : (x0 * 4294967296 + x1) % rd v ((n - 1 : Nat) : Int) = e at *
  obtain ⟨m, hm⟩ := Int.eq_ofNat_of_zero_le (show 0 ≤ g - q by omega)
  obtain ⟨r, hev, r1, r2, r3⟩ := guess_loop u v n hn hnv hnu hv hu hL q (x0 * 4294967296 + x1) _ _ _ (fun r => Lim 4294967296 r ∧ r.length = n + 1 ∧ val 4294967296 r = rr) rfl rfl rfl hq0 hqB ht0 ht1 hq12 hle hj2 m g e (by omega) hgB d4 (by omega) (by omega)
  refine ⟨r, Ev.congr (fun k => ?_) hev, r1, r2, r3⟩
  have a1 : wrap64 ((n : Int) - 1) = ((n - 1 : Nat) : Int) := by rw [w64 (by omega) (by omega)]; omega
  have b0 : (0 : Int) ≤ ((n - 1 : Nat) : Int) := by omega
  have b1 : ((n - 1 : Nat) : Int) < (v.length : Int) := by omega
  have b2 : ((n - 1 : Nat) : Int) < (u.length : Int) := by omega
  have b3 : (n : Int) < (u.length : Int) := by omega
  have b4 : (0 : Int) ≤ (n : Int) := by omega
  have e1 : Go.bits .or .u64 (IntKind.u64.wrap (IntKind.u64.wrap x0 * 4294967296)) (IntKind.u64.wrap x1) = x0 * 4294967296 + x1 := by
    rw [u64_id k0.1 (by omega), u64_id (by omega) (by omega), u64_id k1.1 (by omega), bits_or_shift k0.1 k0.2 k1.1 k1.2]
  have e2 : IntKind.u64.wrap (rd v ((n - 1 : Nat) : Int)) = rd v ((n - 1 : Nat) : Int) := u64_id h1.1 (by omega)
  have e3 : IntKind.u64.wrap g = g := u64_id (by omega) (by omega)
  simp only [nat_digit.f]
  rw [hnv]
  rw [if_pos b4, if_pos b3, a1, if_pos b0, if_pos b2, ← hnv, if_pos (by rw [hnv]; rw [hnv] at b1; exact b1), hnv, e2, if_neg (by omega), hu0, hu1, e1, Int.tdiv_eq_ediv_of_nonneg ht0, Int.tmod_eq_emod_of_nonneg ht0, hG, hE, e3]
theorem digit_at_ev (u v : List Int) (n j : Nat) (hn : 2 ≤ n) (hnv : v.length = n) (hj : j + n + 1 ≤ u.length) (hv : Lim 4294967296 v) (hu : Lim 4294967296 u) (hL : n ≤ 549755813888) (htop : 2147483648 ≤ v.getD (n - 1) 0) (hlt : val 4294967296 (u.drop (j + 1)) < val 4294967296 v) :
    ∃ r, Ev (fun k => nat_digit_at.f k u (j : Int) ((j + n + 1 : Nat) : Int) v) (val 4294967296 (u.drop j) / val 4294967296 v, r) ∧ Lim 4294967296 r ∧ r.length = u.length ∧ val 4294967296 r = val 4294967296 u - 4294967296 ^ j * (val 4294967296 (u.drop j) / val 4294967296 v * val 4294967296 v) ∧ val 4294967296 (r.drop j) < val 4294967296 v ∧ r.take j = u.take j := by
  have hB : (0 : Int) < 4294967296 := by decide
  have hvn := val_lt hB hv
  rw [hnv] at hvn
  have hs := val_split 4294967296 (u.drop (j + 1)) n (by rw [List.length_drop]; omega)
  have t0 := val_nonneg hB ((hu.drop (j + 1)).take n)
  have t1 := val_nonneg hB ((hu.drop (j + 1)).drop n)
  have hz : val 4294967296 (u.drop (j + n + 1)) = 0 := by
    rw [List.drop_drop, show j + 1 + n = j + n + 1 by omega] at hs t1
    generalize val 4294967296 (u.drop (j + n + 1)) = z at *
    have hp : (0 : Int) < 4294967296 ^ n := Int.pow_pos (by decide)
    rcases Int.lt_trichotomy z 0 with h | h | h
    · omega
    · exact h
    · have : 4294967296 ^ n * 1 ≤ (4294967296 : Int) ^ n * z := Int.mul_le_mul_of_nonneg_left (by omega) (by omega)
      omega
  have hwl : ((u.take (j + n + 1)).drop j).length = n + 1 := by rw [List.length_drop, List.length_take]; omega
  have hdj : u.drop j = (u.take (j + n + 1)).drop j ++ u.drop (j + n + 1) := by
    have h5 : u = u.take (j + n + 1) ++ u.drop (j + n + 1) := (List.take_append_drop _ _).symm
    have h6 : u.drop j = (u.take (j + n + 1) ++ u.drop (j + n + 1)).drop j := by rw [← h5]
    rw [h6, List.drop_append_of_le_length (by rw [List.length_take]; omega)]
  have hw : val 4294967296 ((u.take (j + n + 1)).drop j) = val 4294967296 (u.drop j) := by
    rw [hdj, val_append, hz, Int.mul_zero, Int.add_zero]
  have hx := hu.getD hB j
  have hlt' : val 4294967296 (u.drop j) < 4294967296 * val 4294967296 v := by
    rw [val_drop _ _ j (by omega)]
    omega
  obtain ⟨r, hev, r1, r2, r3⟩ := digit_ev ((u.take (j + n + 1)).drop j) v n hn hnv hwl hv ((hu.take _).drop _) hL htop (by rw [hw]; exact hlt')
  rw [hw] at hev r3
  have hu0 := val_nonneg hB (hu.drop j)
  have hv0 : 0 < val 4294967296 v := by omega
  obtain ⟨q0, q1, q2, q3⟩ := div_bounds hv0 hu0
  have hlj : (u.take j).length = j := by rw [List.length_take]; omega
  have hdr : (u.take j ++ r ++ u.drop (j + n + 1)).drop j = r ++ u.drop (j + n + 1) := by
    rw [List.append_assoc, List.drop_append_of_le_length (by omega), List.drop_of_length_le (by omega), List.nil_append]
  refine ⟨u.take j ++ r ++ u.drop (j + n + 1), ?_, lim_append.2 ⟨lim_append.2 ⟨hu.take _, r1⟩, hu.drop _⟩, ?_, ?_, ?_, ?_⟩
  · refine Ev.congr (f := fun k => (nat_digit.f k ((u.take (j + n + 1)).drop j) v).bind fun b => some (b.1, u.take j ++ b.2 ++ u.drop (j + n + 1))) (fun k => ?_) (Ev.bind (f := fun _ b => some (b.1, u.take j ++ b.2 ++ u.drop (j + n + 1))) hev (Ev.now _))
    simp only [nat_digit_at.f]
    rw [if_pos (by omega), if_pos (by omega), if_pos (by omega), Int.toNat_natCast, Int.toNat_natCast]
  · rw [List.length_append, List.length_append, hlj, r2, List.length_drop]; omega
  · rw [val_append, val_append, hz, Int.mul_zero, Int.add_zero, hlj, val_split 4294967296 u j (by omega), r3, q3]
    grind
  · rw [hdr, val_append, hz, Int.mul_zero, Int.add_zero, r3]
    exact Int.emod_lt_of_pos _ hv0
  · rw [List.append_assoc, List.take_append_of_le_length (by omega), List.take_of_length_le (by omega)]
theorem divmod_loop (v : List Int) (n : Nat) (s : Nat) (hs : s < 32) (hn : 2 ≤ n) (hnv : v.length = n) (hv : Lim 4294967296 v) (hL : n ≤ 68719476736) (htop : 2147483648 ≤ v.getD (n - 1) 0) (m : Nat) (hm : m ≤ 68719476736) (U : Int) : ∀ (i : Nat) (quot u : List Int), i ≤ m → quot.length = m → u.length = m + n → Lim 4294967296 u → Lim 4294967296 quot →
    quot.take i = List.replicate i 0 → val 4294967296 (u.drop i) < val 4294967296 v → val 4294967296 u + val 4294967296 v * val 4294967296 quot = U →
    ∃ q r, Ev (fun k => nat_DivMod.l0 k quot (s : Int) v u (n : Int) ((i : Int) - 1)) (q, r) ∧ Lim 4294967296 q ∧ Nrm q ∧ Lim 4294967296 r ∧ Nrm r ∧ val 4294967296 q = U / val 4294967296 v ∧ val 4294967296 r = (U % val 4294967296 v) / 2 ^ s ∧ q.length ≤ m ∧ r.length ≤ m + n := by
  have hB : (0 : Int) < 4294967296 := by decide
  intro i
  induction i with
  | zero =>
    intro quot u hi hq hu hul hql hz hlt hU
    rw [List.drop_zero] at hlt
    have hu0 := val_nonneg hB hul
    have hdiv : U / val 4294967296 v = val 4294967296 quot := by
      rw [← hU, Int.add_mul_ediv_left _ _ (by omega), Int.ediv_eq_zero_of_lt hu0 hlt, Int.zero_add]
    have hmod : U % val 4294967296 v = val 4294967296 u := by
      rw [← hU, Int.add_mul_emod_self_left, Int.emod_eq_of_lt hu0 hlt]
    obtain ⟨r, h1, h2, h3, h4, h5⟩ := Shr_ev (trim u) s (lim_trim hul) (nrm_trim u) (Nat.le_trans (length_trim u) (by omega)) (by omega)
    have hlt2 := length_trim u
    refine ⟨trim quot, r, ?_, lim_trim hql, nrm_trim _, h2, h3, by rw [val_trim, hdiv], by rw [h4, val_trim, hmod], Nat.le_trans (length_trim _) (by omega), by omega⟩
    refine Ev.step (f := fun k => (nat_Trim.f k u).bind fun t210 => (nat_Shr.f k t210 (s : Int)).bind fun bt213 => (nat_Trim.f k quot).bind fun t217 => some (t217, bt213.1)) (fun k => ?_) ?_
    · simp only [nat_DivMod.l0]
      rw [if_neg (by omega)]
    · refine Ev.bind (f := fun k t210 => (nat_Shr.f k t210 (s : Int)).bind fun bt213 => (nat_Trim.f k quot).bind fun t217 => some (t217, bt213.1)) (Trim_ev u (by omega)) ?_
      refine Ev.bind (f := fun k (bt213 : List Int × Bool) => (nat_Trim.f k quot).bind fun t217 => some (t217, bt213.1)) h1 ?_
      exact Ev.bind (f := fun _ t217 => some (t217, r)) (Trim_ev quot (by omega)) (Ev.now _)
  | succ i ih =>
    intro quot u hi hq hu hul hql hz hlt hU
    obtain ⟨r, hev, r1, r2, r3, r4, r5⟩ := digit_at_ev u v n i hn hnv (by omega) hv hul (by omega) htop hlt
    have hv0 : 0 < val 4294967296 v := Int.lt_of_le_of_lt (val_nonneg hB (hul.drop (i + 1))) hlt
    obtain ⟨q0, q1, q2, q3⟩ := div_bounds hv0 (val_nonneg hB (hul.drop i))
    have hq4 : val 4294967296 (u.drop i) / val 4294967296 v < 4294967296 := by
      refine Int.ediv_lt_of_lt_mul hv0 ?_
      have hx := hul.getD hB i
      rw [val_drop _ _ i (by omega)]
      clear q1 q2 q3 r3 hev
      omega
    have hqi : quot.getD i 0 = 0 := by
      have : (quot.take (i + 1)).getD i 0 = 0 := by rw [hz, getD_replicate]
      rw [List.getD_eq_getElem?_getD, List.getElem?_take, if_pos (by omega)] at this
      rw [List.getD_eq_getElem?_getD]; exact this
    clear q1 q2 q3
    generalize val 4294967296 (u.drop i) / val 4294967296 v = dgt at *
    obtain ⟨q, rr, hev2, h⟩ := ih (quot.set i dgt) r (by omega) (by rw [List.length_set, hq]) (by omega) r1 (hql.set _ ⟨q0, hq4⟩) (by
        rw [List.take_set_of_le (Nat.le_refl _)]
        have := congrArg (List.take i) hz
        rw [List.take_take, Nat.min_eq_left (by omega), List.take_replicate, Nat.min_eq_left (by omega)] at this
        exact this) r4 (by
        rw [val_set _ _ _ _ (by omega), hqi, r3, ← hU]
        clear hev r3 r4 hlt
        grind)
    refine ⟨q, rr, ?_, h⟩
    refine Ev.step (f := fun k => (nat_digit_at.f k u (i : Int) ((i + n + 1 : Nat) : Int) v).bind fun bt207 => nat_DivMod.l0 k (quot.set i bt207.1) (s : Int) v bt207.2 (n : Int) ((i : Int) - 1)) (fun k => ?_) ?_
    · have e1 : (((i + 1 : Nat) : Int) - 1) = (i : Int) := by omega
      have e2 : ∀ _ : Unit, wrap64 (wrap64 ((i : Int) + (n : Int)) + 1) = ((i + n + 1 : Nat) : Int) := fun _ => by rw [w64 (x := (i : Int) + (n : Int)) (by omega) (by omega), w64 (by omega) (by omega)]; omega
      have e3 : ∀ _ : Unit, wrap64 ((i : Int) - 1) = (i : Int) - 1 := fun _ => w64 (by omega) (by omega)
      have b1 : (i : Int) ≤ ((i + n + 1 : Nat) : Int) := by omega
      have b2 : ((i + n + 1 : Nat) : Int) ≤ (u.length : Int) := by omega
      have b3 : (i : Int) < (quot.length : Int) := by omega
      have b4 : (i : Int) ≥ 0 := by omega
      have b5 : 0 ≤ (i : Int) := b4
      simp only [nat_DivMod.l0]
      rw [e1, if_pos b4, if_pos b5, e2 (), if_pos b1, if_pos b2]
      simp only [if_pos b3, e3 (), Int.toNat_natCast]
    · exact Ev.bind (f := fun k (bt207 : Int × List Int) => nat_DivMod.l0 k (quot.set i bt207.1) (s : Int) v bt207.2 (n : Int) ((i : Int) - 1)) hev hev2
theorem len_of_val {xs : List Int} {n : Nat} (hx : Lim 4294967296 xs) (hn : Nrm xs) (h1 : (4294967296 : Int) ^ n ≤ val 4294967296 xs) (h2 : val 4294967296 xs < 4294967296 ^ (n + 1)) : xs.length = n + 1 := by
  have hB : (0 : Int) < 4294967296 := by decide
  rcases Nat.lt_trichotomy xs.length (n + 1) with h | h | h
  · have h3 := val_lt hB hx
    have h4 := pow_mono' hB (show xs.length ≤ n by omega)
    omega
  · exact h
  · have hne : xs ≠ [] := by rintro rfl; simp at h
    have h3 := val_ge hB hx hn hne
    have h4 := pow_mono' hB (show n + 1 ≤ xs.length - 1 by omega)
    omega
theorem val_copy {xs : List Int} {m : Nat} (h : xs.length ≤ m) : xs.take m ++ (List.replicate m (0 : Int)).drop xs.length = xs ++ List.replicate (m - xs.length) 0 := by
  rw [List.take_of_length_le h, List.drop_replicate]
theorem DivMod_ev (a b : List Int) (ha : Lim 4294967296 a) (hb : Lim 4294967296 b) (na : Nrm a) (nb : Nrm b) (hb0 : b ≠ []) (hLa : a.length ≤ 34359738368) (hLb : b.length ≤ 34359738368) :
    ∃ q r, Ev (fun k => nat_DivMod.f k a b) (q, r) ∧ Lim 4294967296 q ∧ Nrm q ∧ Lim 4294967296 r ∧ Nrm r ∧ val 4294967296 q = val 4294967296 a / val 4294967296 b ∧ val 4294967296 r = val 4294967296 a % val 4294967296 b ∧ q.length ≤ a.length + 1 := by
  have hB : (0 : Int) < 4294967296 := by decide
  have va0 := val_nonneg hB ha
  have vb0 := val_pos hB hb nb hb0
  by_cases hlt : val 4294967296 a < val 4294967296 b
  · refine ⟨[], a, ?_, lim_nil _, nrm_nil, ha, na, ?_, ?_, by simp⟩
    · refine Ev.bind (f := fun k t175 => _) (Compare_ev a b ha hb na nb (by omega) (by omega)) ?_
      rw [show cmpI (val 4294967296 a) (val 4294967296 b) = -1 by unfold cmpI; rw [if_pos hlt]]
      refine Ev.congr (f := fun _ => some ([], a)) (fun k => ?_) (Ev.now _)
      rw [if_pos (by decide)]
      unfold slices_Clone_uint32_uint32.f
      rw [if_pos (by omega)]
      rfl
    · rw [Int.ediv_eq_zero_of_lt va0 hlt]; rfl
    · rw [Int.emod_eq_of_lt va0 hlt]
  · have hcmp : ¬ cmpI (val 4294967296 a) (val 4294967296 b) < 0 := by
      unfold cmpI; rw [if_neg hlt]; split <;> decide
    have hlab : b.length ≤ a.length := by
      rcases Nat.lt_or_ge a.length b.length with h | h
      · have := len_lt_val hB ha hb nb h; omega
      · exact h
    by_cases hl1 : b.length = 1
    · obtain ⟨d, rfl⟩ := List.length_eq_one_iff.1 hl1
      have hd := hb d (by simp)
      have hdv : val 4294967296 [d] = d := by simp [val]
      rw [hdv] at vb0
      obtain ⟨q, h1, h2, h3, h4, h5⟩ := DivSmall_ev a d ha vb0 hd.2 (by omega)
      have m0 := Int.emod_nonneg (val 4294967296 a) (show d ≠ 0 by omega)
      have m1 := Int.emod_lt_of_pos (val 4294967296 a) vb0
      obtain ⟨r, g1, g2, g3, g4, g5⟩ := Of_ev (val 4294967296 a % d) m0 (by omega)
      refine ⟨q, r, ?_, h2, h3, g2, g3, by rw [h4, hdv], by rw [g4, hdv], by omega⟩
      refine Ev.bind (f := fun k t175 => _) (Compare_ev a [d] ha hb na nb (by omega) (by omega)) ?_
      refine Ev.congr (f := fun k => (nat_DivSmall.f k a d).bind fun bt180 => (nat_Of.f k (IntKind.u64.wrap bt180.2)).bind fun t184 => some (bt180.1, t184)) (fun k => ?_) ?_
      · rw [if_neg hcmp, if_pos (by rfl), if_pos (by simp)]
        rfl
      · refine Ev.bind (f := fun k (bt180 : List Int × Int) => (nat_Of.f k (IntKind.u64.wrap bt180.2)).bind fun t184 => some (bt180.1, t184)) h1 ?_
        refine Ev.bind (f := fun _ t184 => some (q, t184)) ?_ (Ev.now _)
        refine Ev.congr (fun k => ?_) g1
        rw [u64_id m0 (by omega)]
    · have hbl : 2 ≤ b.length := by
        have : b.length ≠ 0 := fun h => hb0 (List.length_eq_zero_iff.1 h)
        omega
      have htx := hb.rd hB ((b.length - 1 : Nat) : Int)
      have hsp := val_split 4294967296 b (b.length - 1) (by omega)
      have hdl : b.drop (b.length - 1) = [b.getD (b.length - 1) 0] := by
        rw [drop_cons' _ _ (by omega), List.drop_of_length_le (by omega)]
      have hbr : rd b ((b.length - 1 : Nat) : Int) = b.getD (b.length - 1) 0 := rd_getD _ _
      rw [hdl] at hsp
      have hv1 : val 4294967296 [b.getD (b.length - 1) 0] = b.getD (b.length - 1) 0 := by simp [val]
      rw [hv1, ← hbr] at hsp
      have ht0 := val_nonneg hB (hb.take (b.length - 1))
      have ht1 := val_lt hB (hb.take (b.length - 1))
      rw [List.length_take, Nat.min_eq_left (by omega)] at ht1
      have hge := val_ge hB hb nb hb0
      have hpb : (0 : Int) < 4294967296 ^ (b.length - 1) := Int.pow_pos (by decide)
      generalize ht : rd b ((b.length - 1 : Nat) : Int) = t at *
      have htpos : 0 < t := by
        rcases Int.lt_trichotomy t 0 with h | h | h
        · omega
        · rw [h, Int.mul_zero] at hsp; omega
        · exact h
      obtain ⟨s, hse, hs32, hs1, hs2⟩ := Lead_eq t htpos htx.2
      have hp := pow_lt_base hs32
      have hp0 : (0 : Int) < 2 ^ s := Int.pow_pos (by decide)
      obtain ⟨v, v1, v2, v3, v4, v5⟩ := Shl_ev b s hb (by omega)
      obtain ⟨u, u1, u2, u3, u4, u5⟩ := Shl_ev a s ha (by omega)
      rw [show s / 32 = 0 by omega] at v5 u5
      have hvlow : 4294967296 ^ (b.length - 1) * 2147483648 ≤ val 4294967296 v := by
        rw [v4, hsp]
        have h5 : 4294967296 ^ (b.length - 1) * 2147483648 ≤ 4294967296 ^ (b.length - 1) * (t * 2 ^ s) := Int.mul_le_mul_of_nonneg_left hs1 (by omega)
        have h6 : 0 ≤ val 4294967296 (b.take (b.length - 1)) * 2 ^ s := Int.mul_nonneg ht0 (by omega)
        rw [Int.add_mul, Int.mul_assoc]
        omega
      have hvhigh : val 4294967296 v < 4294967296 ^ (b.length - 1 + 1) := by
        rw [v4, hsp, Int.pow_succ]
        have h6 : (t + 1) * 2 ^ s ≤ 4294967296 := by
          have hpb := pow_base (show s ≤ 32 by omega)
          have h7 : t < 2 ^ (32 - s) := by
            refine Int.lt_of_mul_lt_mul_left (a := 2 ^ s) ?_ (by omega)
            rw [hpb, Int.mul_comm]; exact hs2
          have h8 : (t + 1) * 2 ^ s ≤ 2 ^ (32 - s) * 2 ^ s := Int.mul_le_mul_of_nonneg_right (by omega) (by omega)
          rw [Int.mul_comm (2 ^ (32 - s)), hpb] at h8
          exact h8
        have h9 : (val 4294967296 (b.take (b.length - 1)) + 4294967296 ^ (b.length - 1) * t) * 2 ^ s < (4294967296 ^ (b.length - 1) * (t + 1)) * 2 ^ s := by
          refine Int.mul_lt_mul_of_pos_right ?_ hp0
          rw [Int.mul_add, Int.mul_one]; omega
        have h10 : (4294967296 ^ (b.length - 1) * (t + 1)) * 2 ^ s ≤ 4294967296 ^ (b.length - 1) * 4294967296 := by
          rw [Int.mul_assoc]
          exact Int.mul_le_mul_of_nonneg_left h6 (by omega)
        omega
      have hvn : v.length = b.length := by
        have := len_of_val v2 v3 (n := b.length - 1) (by omega) hvhigh
        omega
      have htop : 2147483648 ≤ v.getD (b.length - 1) 0 := by
        have e5 := val_split 4294967296 v (b.length - 1) (by omega)
        rw [show v.drop (b.length - 1) = [v.getD (b.length - 1) 0] by rw [drop_cons' _ _ (by omega), List.drop_of_length_le (by omega)]] at e5
        have e6 : val 4294967296 [v.getD (b.length - 1) 0] = v.getD (b.length - 1) 0 := by simp [val]
        rw [e6] at e5
        have e7 := val_lt hB (v2.take (b.length - 1))
        rw [List.length_take, Nat.min_eq_left (by omega)] at e7
        rcases Int.lt_or_le (v.getD (b.length - 1) 0) 2147483648 with h | h
        · have h11 : 4294967296 ^ (b.length - 1) * (v.getD (b.length - 1) 0 + 1) ≤ 4294967296 ^ (b.length - 1) * 2147483648 := Int.mul_le_mul_of_nonneg_left (by omega) (by omega)
          rw [Int.mul_add, Int.mul_one] at h11
          omega
        · exact h
      have hul : u.length ≤ a.length + 1 := by omega
      have hUv : val 4294967296 (u ++ List.replicate (a.length + 1 - u.length) 0) = val 4294967296 a * 2 ^ s := by
        rw [val_append, val_replicate, Int.mul_zero, Int.add_zero, u4]
      have hUl : (u ++ List.replicate (a.length + 1 - u.length) (0 : Int)).length = (a.length + 1 - b.length) + b.length := by
        rw [List.length_append, List.length_replicate]; omega
      have hUL : Lim 4294967296 (u ++ List.replicate (a.length + 1 - u.length) 0) := lim_append.2 ⟨u2, lim_replicate hB _⟩
      have hUd : val 4294967296 ((u ++ List.replicate (a.length + 1 - u.length) 0).drop (a.length + 1 - b.length)) < val 4294967296 v := by
        have e5 := val_split 4294967296 (u ++ List.replicate (a.length + 1 - u.length) 0) (a.length + 1 - b.length) (by rw [hUl]; omega)
        have e6 := val_nonneg hB (hUL.take (a.length + 1 - b.length))
        have e7 := val_lt hB ha
        rw [hUv] at e5
        generalize val 4294967296 ((u ++ List.replicate (a.length + 1 - u.length) 0).drop (a.length + 1 - b.length)) = z at *
        have e8 : 4294967296 ^ (a.length + 1 - b.length) * z ≤ val 4294967296 a * 2 ^ s := by omega
        have e9 : val 4294967296 a * 2 ^ s < 4294967296 ^ a.length * 2 ^ s := Int.mul_lt_mul_of_pos_right e7 hp0
        have e10 : (4294967296 : Int) ^ a.length = 4294967296 ^ (a.length + 1 - b.length) * 4294967296 ^ (b.length - 1) := by
          rw [← Int.pow_add]; congr 1; omega
        have e11 : (0 : Int) < 4294967296 ^ (a.length + 1 - b.length) := Int.pow_pos (by decide)
        have e12 : z < 4294967296 ^ (b.length - 1) * 2 ^ s := by
          refine Int.lt_of_mul_lt_mul_left (a := 4294967296 ^ (a.length + 1 - b.length)) ?_ (by omega)
          rw [← Int.mul_assoc, ← e10]; omega
        have e13 : 4294967296 ^ (b.length - 1) * 2 ^ s ≤ (4294967296 : Int) ^ (b.length - 1) * 2147483648 := Int.mul_le_mul_of_nonneg_left hp (by omega)
        omega
      obtain ⟨q, r, h1, h2, h3, h4, h5, h6, h7, h8, h9⟩ := divmod_loop v b.length s hs32 hbl hvn v2 (by omega) htop (a.length + 1 - b.length) (by omega) (val 4294967296 a * 2 ^ s) (a.length + 1 - b.length) (List.replicate (a.length + 1 - b.length) 0) (u ++ List.replicate (a.length + 1 - u.length) 0)
        (Nat.le_refl _) (by simp) hUl hUL (lim_replicate hB _) (by rw [List.take_of_length_le (by simp)]) hUd (by rw [hUv, val_replicate, Int.mul_zero, Int.add_zero])
      refine ⟨q, r, ?_, h2, h3, h4, h5, ?_, ?_, by omega⟩
      · refine Ev.bind (f := fun k t175 => _) (Compare_ev a b ha hb na nb (by omega) (by omega)) ?_
        have w1 : ∀ _ : Unit, wrap64 ((b.length : Int) - 1) = ((b.length - 1 : Nat) : Int) := fun _ => by rw [w64 (by omega) (by omega)]; omega
        have w2 : ∀ _ : Unit, wrap64 ((a.length : Int) + 1) = ((a.length + 1 : Nat) : Int) := fun _ => by rw [w64 (by omega) (by omega)]; omega
        have w3 : ∀ _ : Unit, wrap64 (((List.replicate (a.length + 1) (0 : Int)).length : Int) - (v.length : Int)) = ((a.length + 1 - b.length : Nat) : Int) := fun _ => by rw [List.length_replicate, hvn, w64 (by omega) (by omega)]; omega
        have w4 : ∀ _ : Unit, wrap64 (((List.replicate (a.length + 1 - b.length) (0 : Int)).length : Int) - 1) = ((a.length + 1 - b.length : Nat) : Int) - 1 := fun _ => by rw [List.length_replicate, w64 (by omega) (by omega)]
        have b1 : ¬ (b.length : Int) = 1 := by omega
        have b2 : (0 : Int) ≤ ((b.length - 1 : Nat) : Int) := by omega
        have b3 : ((b.length - 1 : Nat) : Int) < (b.length : Int) := by omega
        have b4 : (0 : Int) ≤ ((a.length + 1 : Nat) : Int) := by omega
        have b5 : a.length + 1 ≤ 70368744177664 := by omega
        have b6 : (0 : Int) ≤ ((a.length + 1 - b.length : Nat) : Int) := by omega
        have b7 : a.length + 1 - b.length ≤ 70368744177664 := by omega
        refine Ev.congr (f := fun k => (nat_Shl.f k b (s : Int)).bind fun t189 => ((nat_Shl.f k a (s : Int)).bind fun t195 => ((copy_e55.f (List.replicate (a.length + 1) (0 : Int)) t195).bind fun bt198 => (if 0 ≤ (wrap64 (((List.replicate (a.length + 1) (0 : Int)).length : Int) - (t189.length : Int))) then (if (wrap64 (((List.replicate (a.length + 1) (0 : Int)).length : Int) - (t189.length : Int)) : Int).toNat ≤ 70368744177664 then ((some (List.replicate (wrap64 (((List.replicate (a.length + 1) (0 : Int)).length : Int) - (t189.length : Int)) : Int).toNat 0 : List Int)).bind fun y200 => (nat_DivMod.l0 k y200 (s : Int) t189 bt198.2 (t189.length : Int) (wrap64 ((y200.length : Int) - 1)))) else (none)) else (none))))) (fun k => ?_) ?_
        · rw [if_neg hcmp, if_neg b1, w1 (), if_pos b2, if_pos b3, ht, hse, Option.bind_some]
          simp only [w2 (), if_pos b4, if_pos b5, Option.bind_some, Int.toNat_natCast]
        · refine Ev.bind (f := fun k t189 => ((nat_Shl.f k a (s : Int)).bind fun t195 => ((copy_e55.f (List.replicate (a.length + 1) (0 : Int)) t195).bind fun bt198 => (if 0 ≤ (wrap64 (((List.replicate (a.length + 1) (0 : Int)).length : Int) - (List.length t189 : Int))) then (if (wrap64 (((List.replicate (a.length + 1) (0 : Int)).length : Int) - (List.length t189 : Int)) : Int).toNat ≤ 70368744177664 then ((some (List.replicate (wrap64 (((List.replicate (a.length + 1) (0 : Int)).length : Int) - (List.length t189 : Int)) : Int).toNat 0 : List Int)).bind fun y200 => (nat_DivMod.l0 k y200 (s : Int) t189 bt198.2 (List.length t189 : Int) (wrap64 ((y200.length : Int) - 1)))) else (none)) else (none))))) v1 ?_
          rw [w3 ()]
          refine Ev.bind (f := fun k t195 => ((copy_e55.f (List.replicate (a.length + 1) (0 : Int)) t195).bind fun bt198 => (if (0 : Int) ≤ ((a.length + 1 - b.length : Nat) : Int) then (if (((a.length + 1 - b.length : Nat) : Int)).toNat ≤ 70368744177664 then ((some (List.replicate (((a.length + 1 - b.length : Nat) : Int)).toNat 0 : List Int)).bind fun y200 => (nat_DivMod.l0 k y200 (s : Int) v bt198.2 (v.length : Int) (wrap64 ((y200.length : Int) - 1)))) else (none)) else (none)))) u1 ?_
          refine Ev.congr (fun k => ?_) h1
          unfold copy_e55.f
          simp only [Option.bind_some, if_pos b6, if_pos b7, List.length_replicate, Int.toNat_natCast, val_copy hul]
          rw [hvn]
          have w5 := w4 ()
          rw [List.length_replicate] at w5
          rw [w5]
      · rw [h6, v4]
        exact Int.mul_ediv_mul_of_pos_left _ _ hp0
      · rw [h7, v4, Int.mul_comm (val 4294967296 a), Int.mul_comm (val 4294967296 b), Int.mul_emod_mul_of_pos _ _ hp0, Int.mul_ediv_cancel_left _ (by omega)]
theorem gcd_loop : ∀ (m : Nat) (a b : List Int), val 4294967296 b ≤ m → Lim 4294967296 a → Lim 4294967296 b → Nrm a → Nrm b → a.length ≤ 34359738368 → b.length ≤ 34359738368 →
    ∃ r, Ev (fun k => nat_Gcd.l0 k a b) r ∧ Lim 4294967296 r ∧ Nrm r ∧ val 4294967296 r = (Nat.gcd (val 4294967296 a).toNat (val 4294967296 b).toNat : Nat) := by
  have hB : (0 : Int) < 4294967296 := by decide
  intro m
  induction m with
  | zero =>
    intro a b hm ha hb na nb hLa hLb
    have hb0 := val_nonneg hB hb
    have hbn : b = [] := (val_eq_zero hB hb nb).1 (by omega)
    subst hbn
    refine ⟨a, Ev.step (f := fun _ => some a) (fun k => ?_) (Ev.now _), ha, na, ?_⟩
    · simp only [nat_Gcd.l0]
      rw [if_neg (by simp)]
      unfold slices_Clone_uint32_uint32.f
      rw [if_pos (by omega)]
      rfl
    · simp only [val, Int.toNat_zero, Nat.gcd_zero_right]
      rw [Int.toNat_of_nonneg (val_nonneg hB ha)]
  | succ m ih =>
    intro a b hm ha hb na nb hLa hLb
    by_cases hbn : b = []
    · subst hbn
      exact ih a [] (by simp [val]) ha hb na nb hLa hLb
    · have hb0 := val_pos hB hb nb hbn
      have ha0 := val_nonneg hB ha
      obtain ⟨q, r, h1, h2, h3, h4, h5, h6, h7, h8⟩ := DivMod_ev a b ha hb na nb hbn hLa hLb
      have hr0 := Int.emod_nonneg (val 4294967296 a) (show val 4294967296 b ≠ 0 by omega)
      have hr1 := Int.emod_lt_of_pos (val 4294967296 a) hb0
      have hrl : r.length ≤ b.length := by
        rcases Nat.lt_or_ge b.length r.length with h | h
        · have := len_lt_val hB hb h4 h5 h; omega
        · exact h
      obtain ⟨g, g1, g2, g3, g4⟩ := ih b r (by omega) hb h4 nb h5 hLb (by omega)
      refine ⟨g, Ev.step (f := fun k => (nat_DivMod.f k a b).bind fun bt220 => nat_Gcd.l0 k b bt220.2) (fun k => ?_) (Ev.bind (f := fun k (bt220 : List Int × List Int) => nat_Gcd.l0 k b bt220.2) h1 g1), g2, g3, ?_⟩
      · have hbl : b.length ≠ 0 := fun h => hbn (List.length_eq_zero_iff.1 h)
        simp only [nat_Gcd.l0]
        rw [if_pos (by omega)]
      · rw [g4, h7, Nat.gcd_comm (val 4294967296 a).toNat, Nat.gcd_rec (val 4294967296 b).toNat (val 4294967296 a).toNat, Nat.gcd_comm]
        congr 2
        rw [Int.toNat_emod ha0 (by omega)]
theorem Gcd_ev (a b : List Int) (ha : Lim 4294967296 a) (hb : Lim 4294967296 b) (na : Nrm a) (nb : Nrm b) (hLa : a.length ≤ 34359738368) (hLb : b.length ≤ 34359738368) :
    ∃ r, Ev (fun k => nat_Gcd.f k a b) r ∧ Lim 4294967296 r ∧ Nrm r ∧ val 4294967296 r = (Nat.gcd (val 4294967296 a).toNat (val 4294967296 b).toNat : Nat) :=
  gcd_loop (val 4294967296 b).toNat a b (by have := val_nonneg (show (0 : Int) < 4294967296 by decide) hb; omega) ha hb na nb hLa hLb
structure Can (neg : Bool) (num den : List Int) : Prop where
  ln : num.length ≤ 128
  ld : den.length ≤ 128
  nn : Nrm num
  nd : Nrm den
  d0 : den ≠ []
  ng : num = [] → neg = false
  gc : Nat.gcd (val 4294967296 num).toNat (val 4294967296 den).toNat = 1
open Classical in
noncomputable def fault (neg : Bool) (num den : List Int) : Int := if num.length > 128 ∨ den.length > 128 then 3 else if Can neg num den then 0 else 2
theorem fault_size {neg : Bool} {num den : List Int} (h : num.length > 128 ∨ den.length > 128) : fault neg num den = 3 := by unfold fault; rw [if_pos h]
theorem fault_can {neg : Bool} {num den : List Int} (h : Can neg num den) : fault neg num den = 0 := by
  unfold fault; rw [if_neg (by have := h.ln; have := h.ld; omega), if_pos h]
theorem fault_bad {neg : Bool} {num den : List Int} (h1 : num.length ≤ 128) (h2 : den.length ≤ 128) (h : ¬ Can neg num den) : fault neg num den = 2 := by
  unfold fault; rw [if_neg (by omega), if_neg h]
theorem nrm_last {xs : List Int} (h : xs ≠ []) : Nrm xs ↔ ¬ xs.getD (xs.length - 1) 0 = 0 := by
  have hl : xs.length ≠ 0 := fun h' => h (List.length_eq_zero_iff.1 h')
  have h1 : xs.getLast? = some (xs.getD (xs.length - 1) 0) := by
    rw [List.getLast?_eq_getElem?, List.getD_eq_getElem?_getD, List.getElem?_eq_getElem (by omega)]; rfl
  unfold Nrm
  rw [h1]
  constructor
  · intro h2; exact h2 _ rfl
  · intro h2 x hx; rw [Option.some.inj hx] at h2; exact h2
theorem last_at {xs : List Int} (h : xs ≠ []) (hL : xs.length ≤ 1099511627776) : wrap64 ((xs.length : Int) - 1) = ((xs.length - 1 : Nat) : Int) := by
  have hl : xs.length ≠ 0 := fun h' => h (List.length_eq_zero_iff.1 h')
  rw [w64 (by omega) (by omega)]; omega
theorem Check1_eq (xs : List Int) (hL : xs.length ≤ 1099511627776) : ∃ b : Bool, number_Check_1.f xs = some b ∧ (b = true ↔ ¬ Nrm xs) := by
  unfold number_Check_1.f
  by_cases c : xs = []
  · subst c
    exact ⟨false, rfl, by simp [nrm_nil]⟩
  · have hl : xs.length ≠ 0 := fun h' => c (List.length_eq_zero_iff.1 h')
    refine ⟨xs.getD (xs.length - 1) 0 == 0, ?_, ?_⟩
    · rw [if_pos (by omega), last_at c hL, if_pos (by omega), if_pos (by omega), rd_getD]
    · rw [nrm_last c, Decidable.not_not, beq_iff_eq]
theorem one_nrm : Nrm [1] := by intro x h; simp at h; omega
theorem one_lim {B : Int} (h : 1 < B) : Lim B [1] := by intro x hx; rw [List.mem_singleton] at hx; omega
theorem val_one (B : Int) : val B [1] = 1 := by simp [val]
theorem eq_one {B : Int} (hB : 1 < B) {xs : List Int} (hx : Lim B xs) (hn : Nrm xs) : val B xs = 1 ↔ xs = [1] :=
  ⟨fun h => val_inj (by omega) hx (one_lim hB) hn one_nrm (by rw [h, val_one]), fun h => by rw [h, val_one]⟩
theorem Check_ev (neg : Bool) (num den : List Int) (hn : Lim 4294967296 num) (hd : Lim 4294967296 den) : Ev (fun k => number_Check.f k neg num den) (fault neg num den) := by
  have hB : (0 : Int) < 4294967296 := by decide
  by_cases s1 : num.length > 128
  · rw [fault_size (Or.inl s1)]
    refine Ev.congr (f := fun k => number_Check.j0 k true neg num den) (fun k => ?_) (Ev.step (f := fun _ => some 3) (fun k => ?_) (Ev.now _))
    · unfold number_Check.f; rw [if_pos (by omega)]
    · simp only [number_Check.j0]; rw [if_pos trivial]
  · by_cases s2 : den.length > 128
    · rw [fault_size (Or.inr s2)]
      refine Ev.congr (f := fun k => number_Check.j0 k true neg num den) (fun k => ?_) (Ev.step (f := fun _ => some 3) (fun k => ?_) (Ev.now _))
      · unfold number_Check.f; rw [if_neg (by omega), decide_eq_true (by omega)]
      · simp only [number_Check.j0]; rw [if_pos trivial]
    · obtain ⟨b1, e1, i1⟩ := Check1_eq num (by omega)
      obtain ⟨b2, e2, i2⟩ := Check1_eq den (by omega)
      have hj0 : ∀ r, Ev (fun k => number_Check.j0 k false neg num den) r → Ev (fun k => number_Check.f k neg num den) r := fun r h =>
        Ev.congr (fun k => by unfold number_Check.f; rw [if_neg (by omega), decide_eq_false (by omega)]) h
      have hbad : Ev (fun k => number_Check.j1 k true neg num den) 2 := Ev.step (f := fun _ => some 2) (fun k => by simp only [number_Check.j1]; rw [if_pos trivial]) (Ev.now _)
      have hbad2 : Ev (fun k => number_Check.j2 k true neg num den) 2 := Ev.step (f := fun _ => some 2) (fun k => by simp only [number_Check.j2]; rw [if_pos trivial]) (Ev.now _)
      by_cases c1 : Nrm num
      · have e1' : b1 = false := by cases b1 with | false => rfl | true => exact absurd c1 (i1.1 rfl)
        by_cases c2 : Nrm den
        · have e2' : b2 = false := by cases b2 with | false => rfl | true => exact absurd c2 (i2.1 rfl)
          have hs : ∀ k, number_Check.j0 (k + 1) false neg num den = number_Check.j1 k ((den.length : Int) == 0) neg num den := by
            intro k
            simp only [number_Check.j0]
            rw [if_neg (by decide), e1, Option.bind_some, e1', if_neg (by decide), e2, Option.bind_some, e2', if_neg (by decide)]
          by_cases c3 : den = []
          · rw [fault_bad (by omega) (by omega) (fun h => h.d0 c3)]
            refine hj0 _ (Ev.step hs ?_)
            subst c3
            exact hbad
          · have hdl : den.length ≠ 0 := fun h' => c3 (List.length_eq_zero_iff.1 h')
            have hz : ((den.length : Int) == 0) = false := by rw [beq_eq_false_iff_ne]; omega
            refine hj0 _ (Ev.step hs ?_)
            rw [hz]
            have hone : Nat.gcd (val 4294967296 num).toNat (val 4294967296 den).toNat = 1 → (num = [] → neg = false) → Ev (fun k => number_Check.j2 k false neg num den) 0 := by
              intro hg hng
              obtain ⟨g, g1, g2, g3, g4⟩ := Gcd_ev num den hn hd c1 c2 (by omega) (by omega)
              have hg1 : g = [1] := (eq_one (by decide) g2 g3).1 (by rw [g4, hg]; rfl)
              refine Ev.step (f := fun k => (if decide (den = [1]) = true then (some 0) else ((nat_IsOne.f num).bind fun t234 => (if t234 = true then (some 0) else ((nat_Gcd.f k num den).bind fun t235 => ((nat_IsOne.f t235).bind fun t238 => (if t238 = true then (some 0) else (some 2)))))))) (fun k => ?_) ?_
              · simp only [number_Check.j2]
                rw [if_neg (by decide), IsOne_eq, Option.bind_some]
              · by_cases o1 : den = [1]
                · exact Ev.congr (fun k => by rw [if_pos (decide_eq_true o1)]) (Ev.now 0)
                · refine Ev.congr (f := fun k => if decide (num = [1]) = true then some 0 else ((nat_Gcd.f k num den).bind fun t235 => ((nat_IsOne.f t235).bind fun t238 => (if t238 = true then (some 0) else (some 2))))) (fun k => ?_) ?_
                  · rw [if_neg (by rw [decide_eq_true_iff]; exact o1), IsOne_eq, Option.bind_some]
                  · by_cases o2 : num = [1]
                    · exact Ev.congr (fun k => by rw [if_pos (decide_eq_true o2)]) (Ev.now 0)
                    · refine Ev.congr (fun k => by rw [if_neg (by rw [decide_eq_true_iff]; exact o2)]) (Ev.bind (f := fun _ t235 => ((nat_IsOne.f t235).bind fun t238 => (if t238 = true then (some 0) else (some 2)))) g1 ?_)
                      refine Ev.congr (fun k => ?_) (Ev.now 0)
                      rw [IsOne_eq, Option.bind_some, if_pos (decide_eq_true hg1)]
            have hmore : ¬ Nat.gcd (val 4294967296 num).toNat (val 4294967296 den).toNat = 1 → Ev (fun k => number_Check.j2 k false neg num den) 2 := by
              intro hg
              obtain ⟨g, g1, g2, g3, g4⟩ := Gcd_ev num den hn hd c1 c2 (by omega) (by omega)
              have hg1 : ¬ g = [1] := fun h => hg (by rw [h, val_one] at g4; omega)
              have o1 : ¬ den = [1] := fun h => hg (by rw [h, val_one]; exact Nat.gcd_one_right _)
              have o2 : ¬ num = [1] := fun h => hg (by rw [h, val_one]; exact Nat.gcd_one_left _)
              refine Ev.step (f := fun k => ((nat_Gcd.f k num den).bind fun t235 => ((nat_IsOne.f t235).bind fun t238 => (if t238 = true then (some 0) else (some 2))))) (fun k => ?_) ?_
              · simp only [number_Check.j2]
                rw [if_neg (by decide), IsOne_eq, Option.bind_some, if_neg (by rw [decide_eq_true_iff]; exact o1), IsOne_eq, Option.bind_some, if_neg (by rw [decide_eq_true_iff]; exact o2)]
              · refine Ev.bind (f := fun _ t235 => ((nat_IsOne.f t235).bind fun t238 => (if t238 = true then (some 0) else (some 2)))) g1 ?_
                refine Ev.congr (fun k => ?_) (Ev.now 2)
                rw [IsOne_eq, Option.bind_some, if_neg (by rw [decide_eq_true_iff]; exact hg1)]
            by_cases c4 : num = []
            · have hv0 : val 4294967296 num = 0 := by rw [c4]; rfl
              have hge : Nat.gcd (val 4294967296 num).toNat (val 4294967296 den).toNat = 1 ↔ den = [1] := by
                rw [hv0, Int.toNat_zero, Nat.gcd_zero_left, ← eq_one (B := 4294967296) (by decide) hd c2]
                have := val_nonneg hB hd
                omega
              by_cases c5 : neg = true
              · rw [fault_bad (by omega) (by omega) (fun h => by have := h.ng c4; rw [c5] at this; cases this)]
                refine Ev.step (fun k => ?_) hbad2
                simp only [number_Check.j1]
                rw [if_neg (by decide), c4, if_pos (by rfl), if_pos c5]
              · have hs2 : ∀ k, number_Check.j1 (k + 1) false neg num den = number_Check.j2 k (!decide (den = [1])) neg num den := by
                  intro k
                  simp only [number_Check.j1]
                  rw [if_neg (by decide), c4, if_pos (by rfl), if_neg c5, IsOne_eq, Option.bind_some]
                refine Ev.step hs2 ?_
                by_cases c6 : den = [1]
                · rw [fault_can ⟨by omega, by omega, c1, c2, c3, fun _ => by cases neg <;> simp_all, hge.2 c6⟩, decide_eq_true c6]
                  exact hone (hge.2 c6) (fun _ => by cases neg <;> simp_all)
                · rw [fault_bad (by omega) (by omega) (fun h => c6 (hge.1 h.gc)), decide_eq_false c6]
                  exact hbad2
            · have hnl : num.length ≠ 0 := fun h' => c4 (List.length_eq_zero_iff.1 h')
              refine Ev.step (f := fun k => number_Check.j2 k false neg num den) (fun k => ?_) ?_
              · simp only [number_Check.j1]
                rw [if_neg (by decide), if_neg (by omega)]
              · by_cases c6 : Nat.gcd (val 4294967296 num).toNat (val 4294967296 den).toNat = 1
                · rw [fault_can ⟨by omega, by omega, c1, c2, c3, fun h => absurd h c4, c6⟩]
                  exact hone c6 (fun h => absurd h c4)
                · rw [fault_bad (by omega) (by omega) (fun h => c6 h.gc)]
                  exact hmore c6
        · rw [fault_bad (by omega) (by omega) (fun h => c2 h.nd)]
          refine hj0 _ (Ev.step (fun k => ?_) hbad)
          simp only [number_Check.j0]
          rw [if_neg (by decide), e1, Option.bind_some, e1', if_neg (by decide), e2, Option.bind_some, if_pos (i2.2 c2)]
      · rw [fault_bad (by omega) (by omega) (fun h => c1 h.nn)]
        refine hj0 _ (Ev.step (fun k => ?_) hbad)
        simp only [number_Check.j0]
        rw [if_neg (by decide), e1, Option.bind_some, if_pos (i1.2 c1)]
theorem plus_same : ∀ (k : Nat) (b x : List Int) (c n i : Int), nat_plus.l1000 k b x c n i = nat_plus.l0 k b x c n i := by
  intro k
  induction k with
  | zero => intros; rfl
  | succ k ih => intro b x c n i; simp only [nat_plus.l1000, nat_plus.l0, ih]
theorem plus_loop (b : List Int) (hb : Lim 4294967296 b) (N : Nat) (hN : N ≤ 549755813888) (hbN : b.length ≤ N) (T : Int) (hT : T < 4294967296 ^ N) : ∀ (d i : Nat) (x : List Int) (c : Int), d + i = N → x.length = N → Lim 4294967296 x → 0 ≤ c → c ≤ 1 →
    val 4294967296 x + 4294967296 ^ i * c + (val 4294967296 b - val 4294967296 (b.take i)) = T →
    ∃ r, Ev (fun k => nat_plus.l0 k b x c (N : Int) (i : Int)) (trim r) ∧ r.length = N ∧ Lim 4294967296 r ∧ val 4294967296 r = T := by
  have hB : (0 : Int) < 4294967296 := by decide
  intro d
  induction d with
  | zero =>
    intro i x c hd hl hx hc0 hc hv
    have hi : i = N := by omega
    subst hi
    refine ⟨x, Ev.step (f := fun k => (nat_Trim.f k x).bind fun t => some t) (fun k => ?_) (Ev.bind (f := fun _ t => some t) (Trim_ev x (by omega)) (Ev.now _)), hl, hx, ?_⟩
    · simp only [nat_plus.l0]; rw [if_neg (by omega)]
    · rw [List.take_of_length_le (by omega), Int.sub_self, Int.add_zero] at hv
      have h1 := val_nonneg hB hx
      by_cases h : c = 0
      · rw [h, Int.mul_zero] at hv; omega
      · have e : c = 1 := by omega
        rw [e, Int.mul_one] at hv
        generalize (4294967296 : Int) ^ i = p at *
        omega
  | succ d ih =>
    intro i x c hd hl hx hc0 hc hv
    have g1 : (i : Int) < (N : Int) := by omega
    have g2 : (0 : Int) ≤ (i : Int) := by omega
    have g3 : i < x.length := by omega
    have g4 : (i : Int) < (x.length : Int) := by omega
    have g5 : d + (i + 1) = N := by omega
    have gw : ∀ _ : Unit, wrap64 ((i : Int) + 1) = ((i + 1 : Nat) : Int) := fun _ => by rw [w64 (by omega) (by omega)]; omega
    have hxi := hx.rd hB (i : Int)
    have hxg : rd x (i : Int) = x.getD i 0 := rd_getD x i
    generalize rd x (i : Int) = a at hxi hxg
    have key : ∀ y : Int, 0 ≤ y → y < 4294967296 → b.getD i 0 = y → ∃ r, Ev (fun k => nat_plus.l0 k b (x.set i ((c + a + y) % 4294967296)) ((c + a + y) / 4294967296) (N : Int) ((i + 1 : Nat) : Int)) (trim r) ∧ r.length = N ∧ Lim 4294967296 r ∧ val 4294967296 r = T := by
      intro y hy0 hy hyb
      refine ih (i + 1) _ _ g5 (by rw [List.length_set, hl]) (hx.set i ⟨by omega, by omega⟩) (by omega) (by omega) ?_
      rw [val_set _ _ _ _ g3, ← hxg, val_take_succ', hyb, Int.pow_succ]
      have e : (c + a + y) % 4294967296 = c + a + y - 4294967296 * ((c + a + y) / 4294967296) := by omega
      rw [e]
      generalize (c + a + y) / 4294967296 = q
      generalize (4294967296 : Int) ^ i = p at *
      grind
    by_cases hi : i < b.length
    · have hb1 := hb.rd hB (i : Int)
      have hbg : rd b (i : Int) = b.getD i 0 := rd_getD b i
      have g6 : (i : Int) < (b.length : Int) := by omega
      generalize rd b (i : Int) = y at hb1 hbg
      obtain ⟨r, hr, h⟩ := key y hb1.1 hb1.2 hbg.symm
      have e : IntKind.u64.wrap (IntKind.u64.wrap (c + IntKind.u64.wrap a) + IntKind.u64.wrap y) = c + a + y := by
        rw [u64_id hxi.1 (by omega), u64_id hb1.1 (by omega), u64_id (x := c + a) (by omega) (by omega), u64_id (by omega) (by omega)]
      refine ⟨r, Ev.step (f := fun k => nat_plus.l0 k b (x.set i ((c + a + y) % 4294967296)) ((c + a + y) / 4294967296) (N : Int) ((i + 1 : Nat) : Int)) (fun k => ?_) hr, h⟩
      simp only [nat_plus.l0]
      rw [if_pos g1, if_pos g2, if_pos g4, if_pos g6, rd_getD x i, rd_getD b i, ← hxg, ← hbg, e, gw (), Int.toNat_natCast]
    · have g6 : ¬ (i : Int) < (b.length : Int) := by omega
      obtain ⟨r, hr, h⟩ := key 0 (by omega) (by omega) (by rw [List.getD_eq_getElem?_getD, List.getElem?_eq_none (by omega)]; rfl)
      have e : IntKind.u64.wrap (c + IntKind.u64.wrap a) = c + a + 0 := by
        rw [u64_id hxi.1 (by omega), u64_id (x := c + a) (by omega) (by omega), Int.add_zero]
      refine ⟨r, Ev.step (f := fun k => nat_plus.l0 k b (x.set i ((c + a + 0) % 4294967296)) ((c + a + 0) / 4294967296) (N : Int) ((i + 1 : Nat) : Int)) (fun k => ?_) hr, h⟩
      simp only [nat_plus.l0]
      rw [if_pos g1, if_pos g2, if_pos g4, if_neg g6, rd_getD x i, ← hxg, e, gw (), Int.toNat_natCast]
theorem plus_half (a b : List Int) (ha : Lim 4294967296 a) (hb : Lim 4294967296 b) (hL : a.length ≤ 274877906944) (hab : b.length ≤ a.length) :
    ∃ r, Ev (fun k => if (0 : Int) ≤ wrap64 ((a.length : Int) + 1) then (if (wrap64 ((a.length : Int) + 1) : Int).toNat ≤ 70368744177664 then ((some (List.replicate (wrap64 ((a.length : Int) + 1) : Int).toNat 0 : List Int)).bind fun y => ((copy_e55.f y a).bind fun bt => nat_plus.l0 k b bt.2 0 (y.length : Int) 0)) else none) else none) r ∧ Lim 4294967296 r ∧ Nrm r ∧ val 4294967296 r = val 4294967296 a + val 4294967296 b ∧ r.length ≤ a.length + 1 := by
  have hB : (0 : Int) < 4294967296 := by decide
  have e1 : wrap64 ((a.length : Int) + 1) = ((a.length + 1 : Nat) : Int) := by rw [w64 (by omega) (by omega)]; omega
  have va := val_lt hB ha
  have vb := val_lt hB hb
  have pm := pow_mono' hB hab
  have e0 : a ++ (List.replicate (a.length + 1) (0 : Int)).drop a.length = a ++ [0] := by
    rw [List.drop_replicate, Nat.add_sub_cancel_left]; rfl
  obtain ⟨r, h1, h2, h3, h4⟩ := plus_loop b hb (a.length + 1) (by omega) (by omega) (val 4294967296 a + val 4294967296 b) (by
      rw [Int.pow_succ]
      have pp := pow_pos' hB a.length
      generalize (4294967296 : Int) ^ a.length = p at *
      omega) (a.length + 1) 0 (a ++ [0]) 0 (by omega) (by simp) (lim_nrm_snoc ha ⟨by decide, by decide⟩) (by decide) (by decide) (by rw [val_snoc]; simp [val])
  refine ⟨trim r, Ev.congr (fun k => ?_) h1, lim_trim h3, nrm_trim _, by rw [val_trim, h4], by rw [← h2]; exact length_trim r⟩
  rw [e1, if_pos (by omega), if_pos (by omega), Int.toNat_natCast, Option.bind_some]
  unfold copy_e55.f
  simp only [Option.bind_some, List.length_replicate]
  rw [List.take_of_length_le (by omega), e0]; rfl
theorem plus_ev (a b : List Int) (ha : Lim 4294967296 a) (hb : Lim 4294967296 b) (hL : a.length ≤ 274877906944) (hM : b.length ≤ 274877906944) :
    ∃ r, Ev (fun k => nat_plus.f k a b) r ∧ Lim 4294967296 r ∧ Nrm r ∧ val 4294967296 r = val 4294967296 a + val 4294967296 b ∧ r.length ≤ max a.length b.length + 1 := by
  by_cases c : a.length < b.length
  · obtain ⟨r, h1, h2, h3, h4, h5⟩ := plus_half b a hb ha hM (by omega)
    refine ⟨r, Ev.congr (fun k => ?_) h1, h2, h3, by rw [h4, Int.add_comm], by omega⟩
    unfold nat_plus.f
    rw [if_pos (by omega)]
  · obtain ⟨r, h1, h2, h3, h4, h5⟩ := plus_half a b ha hb hL (by omega)
    refine ⟨r, Ev.congr (fun k => ?_) h1, h2, h3, h4, by omega⟩
    unfold nat_plus.f
    rw [if_neg (by omega)]
    simp only [plus_same]
theorem can_of_fault' {neg : Bool} {num den : List Int} (h : fault neg num den = 0) : Can neg num den := by
  unfold fault at h
  by_cases c : num.length > 128 ∨ den.length > 128
  · rw [if_pos c] at h; omega
  · rw [if_neg c] at h
    by_cases d : Can neg num den
    · exact d
    · rw [if_neg d] at h; omega
theorem cmpI_le {x y : Int} : cmpI x y ≤ 0 ↔ x ≤ y := by unfold cmpI; split <;> (try split) <;> omega
theorem cmpI_eq {x y : Int} : cmpI x y = 0 ↔ x = y := by unfold cmpI; split <;> (try split) <;> omega
theorem cmpI_of_lt {x y : Int} (h : x < y) : cmpI x y = -1 := if_pos h
def sgn (n : Bool) (v : Int) : Int := if n = true then -v else v
theorem Can.pos {neg : Bool} {num den : List Int} (h : Can neg num den) (hd : Lim 4294967296 den) : 0 < val 4294967296 den := val_pos (by decide) hd h.nd h.d0
theorem nat_frac {p q r s : Nat} (h1 : Nat.gcd p q = 1) (h2 : Nat.gcd r s = 1) (hq : 0 < q) (hs : 0 < s) (h : p * s = r * q) : p = r ∧ q = s := by
  have d1 : q ∣ s := (Nat.Coprime.dvd_of_dvd_mul_left (show Nat.Coprime q p by rw [Nat.Coprime, Nat.gcd_comm]; exact h1) ⟨r, by rw [h, Nat.mul_comm]⟩)
  have d2 : s ∣ q := (Nat.Coprime.dvd_of_dvd_mul_left (show Nat.Coprime s r by rw [Nat.Coprime, Nat.gcd_comm]; exact h2) ⟨p, by rw [← h, Nat.mul_comm]⟩)
  have e : q = s := Nat.dvd_antisymm d1 d2
  subst e
  exact ⟨Nat.eq_of_mul_eq_mul_right hq h, rfl⟩
structure Rp (B : Int) (neg : Bool) (p q : List Int) (N D : Int) : Prop where
  lp : Lim B p
  np : Nrm p
  lq : Lim B q
  nq : Nrm q
  q0 : q ≠ []
  gc : Nat.gcd (val B p).toNat (val B q).toNat = 1
  ng : p = [] → neg = false
  eq : sgn neg (val B p) * D = N * val B q
theorem Rp.pos {B : Int} (hB : 0 < B) {neg : Bool} {p q : List Int} {N D : Int} (h : Rp B neg p q N D) : 0 < val B q := val_pos hB h.lq h.nq h.q0
theorem Rp.negpos {B : Int} (hB : 0 < B) {neg : Bool} {p q : List Int} {N D : Int} (h : Rp B neg p q N D) (e : neg = true) : 0 < val B p :=
  val_pos hB h.lp h.np (fun h0 => by rw [h.ng h0] at e; cases e)
theorem Rp.unique {B : Int} (hB : 0 < B) {neg neg' : Bool} {p q p' q' : List Int} {N D : Int} (h : Rp B neg p q N D) (h' : Rp B neg' p' q' N D) (hD : D ≠ 0) : neg = neg' ∧ p = p' ∧ q = q' := by
  have v0 := val_nonneg hB h.lp
  have v0' := val_nonneg hB h'.lp
  have w0 := (h.pos hB)
  have w0' := (h'.pos hB)
  have e : sgn neg (val B p) * val B q' = sgn neg' (val B p') * val B q := by
    have h1 := h.eq
    have h2 := h'.eq
    refine Int.eq_of_mul_eq_mul_right hD ?_
    generalize sgn neg (val B p) = s at *
    generalize sgn neg' (val B p') = s' at *
    generalize val B q = v at *
    generalize val B q' = v' at *
    have h3 : s * D * v' = N * v * v' := by rw [h1]
    have h4 : s' * D * v = N * v' * v := by rw [h2]
    grind
  have hn : neg = neg' := by
    cases hn : neg with
    | true =>
      cases hn' : neg' with
      | true => rfl
      | false =>
        have a1 := h.negpos hB hn
        rw [hn, hn'] at e
        unfold sgn at e
        rw [if_pos rfl, if_neg (by decide), Int.neg_mul] at e
        have a2 : 0 < val B p * val B q' := Int.mul_pos a1 w0'
        have a3 : 0 ≤ val B p' * val B q := Int.mul_nonneg v0' (by omega)
        omega
    | false =>
      cases hn' : neg' with
      | false => rfl
      | true =>
        have a1 := h'.negpos hB hn'
        rw [hn, hn'] at e
        unfold sgn at e
        rw [if_pos rfl, if_neg (by decide), Int.neg_mul] at e
        have a2 : 0 < val B p' * val B q := Int.mul_pos a1 w0
        have a3 : 0 ≤ val B p * val B q' := Int.mul_nonneg v0 (by omega)
        omega
  subst hn
  have e2 : val B p * val B q' = val B p' * val B q := by
    unfold sgn at e
    cases neg with
    | true => rw [if_pos rfl, if_pos rfl, Int.neg_mul, Int.neg_mul] at e; omega
    | false => rw [if_neg (by decide), if_neg (by decide)] at e; exact e
  have e3 : (val B p).toNat * (val B q').toNat = (val B p').toNat * (val B q).toNat := by
    rw [← Int.toNat_mul v0 (by omega), ← Int.toNat_mul v0' (by omega), e2]
  obtain ⟨e4, e5⟩ := nat_frac h.gc h'.gc (by omega) (by omega) e3
  exact ⟨rfl, val_inj hB h.lp h'.lp h.np h'.np (by omega), val_inj hB h.lq h'.lq h.nq h'.nq (by omega)⟩
theorem toNat_div {x : Int} (h : 0 ≤ x) (g : Nat) : (x / (g : Int)).toNat = x.toNat / g := by
  obtain ⟨A, rfl⟩ := Int.eq_ofNat_of_zero_le h
  rw [← Int.natCast_ediv, Int.toNat_natCast, Int.toNat_natCast]
theorem Rp.made {B : Int} (hB : 0 < B) {neg : Bool} {a b p q : List Int} {g : Nat} (ha : Lim B a) (hb : Lim B b) (nb : Nrm b) (b0 : b ≠ []) (p1 : Lim B p) (p2 : Nrm p) (q1 : Lim B q) (q2 : Nrm q)
    (hg : g = Nat.gcd (val B a).toNat (val B b).toNat) (p3 : val B p = val B a / (g : Int)) (q3 : val B q = val B b / (g : Int)) : Rp B (neg && decide (p ≠ [])) p q (sgn neg (val B a)) (val B b) := by
  have va := val_nonneg hB ha
  have vb := val_pos hB hb nb b0
  have g0 : 0 < g := by rw [hg]; exact Nat.gcd_pos_of_pos_right _ (by omega)
  have d1 : (g : Int) ∣ val B a := by
    have : g ∣ (val B a).toNat := by rw [hg]; exact Nat.gcd_dvd_left _ _
    have := Int.ofNat_dvd.2 this
    rwa [Int.toNat_of_nonneg va] at this
  have d2 : (g : Int) ∣ val B b := by
    have : g ∣ (val B b).toNat := by rw [hg]; exact Nat.gcd_dvd_right _ _
    have := Int.ofNat_dvd.2 this
    rwa [Int.toNat_of_nonneg (by omega)] at this
  have ea : val B p * g = val B a := by rw [p3]; exact Int.ediv_mul_cancel d1
  have eb : val B q * g = val B b := by rw [q3]; exact Int.ediv_mul_cancel d2
  have hq0 : q ≠ [] := by
    rintro rfl
    have : val B [] = 0 := rfl
    rw [this, Int.zero_mul] at eb
    omega
  refine ⟨p1, p2, q1, q2, hq0, ?_, fun h => by simp [h], ?_⟩
  · have hp : (val B p).toNat = (val B a).toNat / g := by rw [p3]; exact toNat_div va g
    have hq : (val B q).toNat = (val B b).toNat / g := by rw [q3]; exact toNat_div (by omega) g
    rw [hp, hq, hg]
    exact Nat.coprime_div_gcd_div_gcd (by rw [← hg]; exact g0)
  · have hs : sgn (neg && decide (p ≠ [])) (val B p) = sgn neg (val B p) := by
      by_cases c : p = []
      · subst c
        have : val B [] = 0 := rfl
        rw [this]
        unfold sgn
        cases neg <;> simp
      · simp [c]
    rw [hs, ← ea, ← eb]
    unfold sgn
    cases neg with
    | true => rw [if_pos rfl, if_pos rfl]; generalize val B p = x; generalize val B q = y; grind
    | false => rw [if_neg (by decide), if_neg (by decide)]; generalize val B p = x; generalize val B q = y; grind
theorem nil_bound {x : List Int} (h : x.length ≤ 300) : x.length ≤ 274877906944 := by omega
theorem len_of_le {x y : List Int} (hx : Lim 4294967296 x) (hy : Lim 4294967296 y) (ny : Nrm y) (h : val 4294967296 y ≤ val 4294967296 x) : y.length ≤ x.length := by
  rcases Nat.lt_or_ge x.length y.length with c | c
  · have := len_lt_val (by decide) hx hy ny c
    omega
  · exact c
def outM (neg : Bool) (p q : List Int) : (Bool × List Int × List Int) × Int := if p.length > 128 ∨ q.length > 128 then ((false, [], []), 3) else ((neg, p, q), 0)
abbrev Rep := Rp 4294967296
end Go.Proofs.YtemnjgkicndmjaaDoor.Q

namespace Go.Proofs.YtemnjgkicndmjaaDoor.Q
open Go.RowKit Go.Proofs.YtemnjgkicndmjaaDoor.E Go.Proofs.YtemnjgkicndmjaaDoorW.PrintWords Go.Proofs.YtemnjgkicndmjaaDoorW.PrintLast Go.Proofs.YtemnjgkicndmjaaDoorW.PrintMore
set_option linter.unusedVariables false
theorem clone_c (a : List Int) (h : a.length ≤ 1099511627776) {R : Type} (K : List Int → Option R) : slices_Clone_uint32_uint32.c R a K = K a :=
  slices_Clone_uint32_uint32.eq (by unfold slices_Clone_uint32_uint32.f; rw [if_pos (by omega)]) K
theorem isone_c (a : List Int) {R : Type} (K : Bool → Option R) : nat_IsOne.c R a K = K (decide (a = [1])) := nat_IsOne.eq (IsOne_eq a) K
theorem raw_c (neg : Bool) (a b : List Int) (ha : Lim 4294967296 a) (na : Nrm a) (hb : Lim 4294967296 b) (nb : Nrm b) (b0 : b ≠ []) (la : a.length ≤ 1048575) (lb : b.length ≤ 1048575) :
    ∃ p q, (∀ (R : Type) (K : (Bool × List Int × List Int) → Option R), number_raw.c R (neg, a, b) K = K (neg && decide (p ≠ []), p, q)) ∧ Lim 4294967296 p ∧ Nrm p ∧ Lim 4294967296 q ∧ Nrm q ∧
      val 4294967296 p = val 4294967296 a / (Nat.gcd (val 4294967296 a).toNat (val 4294967296 b).toNat : Nat) ∧ val 4294967296 q = val 4294967296 b / (Nat.gcd (val 4294967296 a).toNat (val 4294967296 b).toNat : Nat) := by
  have hB : (0 : Int) < 4294967296 := by decide
  have pb := val_pos hB hb nb b0
  have pa := val_nonneg hB ha
  by_cases h0 : a = []
  · subst h0
    refine ⟨[], [1], fun R K => ?_, lim_nil _, nrm_nil, one_lim (by decide), one_nrm, ?_, ?_⟩
    · unfold number_raw.c; simp
    · rw [show val 4294967296 [] = 0 from rfl, Int.zero_ediv]
    · have h2 : (val 4294967296 []).toNat = 0 := rfl
      rw [h2, Nat.gcd_zero_left, val_one, Int.toNat_of_nonneg (by omega), Int.ediv_self (by omega)]
  · have hl : ¬ ((a.length : Int) == 0) = true := by
      have : a.length ≠ 0 := fun h' => h0 (List.length_eq_zero_iff.1 h')
      simp; exact h0
    have hn : (neg && decide (a ≠ [])) = neg := by simp [h0]
    by_cases c : b = [1]
    · refine ⟨a, b, fun R K => ?_, ha, na, hb, nb, ?_, ?_⟩
      · rw [hn]
        unfold number_raw.c
        refine (if_neg hl).trans ((isone_c b _).trans ((if_neg (by simp [c])).trans ((clone_c a (by omega) _).trans (clone_c b (by omega) _))))
      · rw [c, val_one]
        have h2 : (1 : Int).toNat = 1 := rfl
        rw [h2, Nat.gcd_one_right]; simp
      · rw [c, val_one]
        have h2 : (1 : Int).toNat = 1 := rfl
        rw [h2, Nat.gcd_one_right]; simp
    · obtain ⟨g, g1, g2, g3, g4⟩ := Gcd_ev a b ha hb na nb (by omega) (by omega)
      by_cases c2 : g = [1]
      · subst c2
        rw [val_one] at g4
        refine ⟨a, b, fun R K => ?_, ha, na, hb, nb, by rw [← g4, Int.ediv_one], by rw [← g4, Int.ediv_one]⟩
        rw [hn]
        unfold number_raw.c
        refine (if_neg hl).trans ((isone_c b _).trans ((if_pos (by simp [c])).trans ((nat_Gcd.eq g1 _).trans ((isone_c _ _).trans ((if_neg (by simp)).trans ((clone_c a (by omega) _).trans (clone_c b (by omega) _)))))))
      · have hg0 : g ≠ [] := by
          rintro rfl
          have h2 : Nat.gcd (val 4294967296 a).toNat (val 4294967296 b).toNat ≠ 0 := by
            intro h3
            have := (Nat.gcd_eq_zero_iff.1 h3).2
            omega
          simp [val] at g4
          omega
        have hgl : g.length ≤ b.length := by
          rcases Nat.lt_or_ge b.length g.length with h | h
          · have h1 := len_lt_val hB hb g2 g3 h
            have h2 : Nat.gcd (val 4294967296 a).toNat (val 4294967296 b).toNat ≤ (val 4294967296 b).toNat := Nat.gcd_le_right _ (by omega)
            omega
          · exact h
        obtain ⟨p, r1, p1, p2, p3, p4, p5, p6, p7, p8⟩ := DivMod_ev a g ha g2 na g3 hg0 (by omega) (by omega)
        obtain ⟨q, r2, q1, q2, q3, q4, q5, q6, q7, q8⟩ := DivMod_ev b g hb g2 nb g3 hg0 (by omega) (by omega)
        have hp0 : p ≠ [] := by
          rintro rfl
          have h1 : 0 < val 4294967296 a := val_pos hB ha na h0
          have h2 : Nat.gcd (val 4294967296 a).toNat (val 4294967296 b).toNat ≤ (val 4294967296 a).toNat := Nat.gcd_le_left _ (by omega)
          have h3 : 0 < val 4294967296 g := val_pos hB g2 g3 hg0
          have h4 : val 4294967296 a / val 4294967296 g = 0 := by rw [← p6]; rfl
          have h5 : 1 ≤ val 4294967296 a / val 4294967296 g := Int.le_ediv_of_mul_le h3 (by rw [Int.one_mul]; omega)
          omega
        refine ⟨p, q, fun R K => ?_, p2, p3, q2, q3, by rw [p6, g4], by rw [q6, g4]⟩
        rw [show (neg && decide (p ≠ [])) = neg by simp [hp0]]
        unfold number_raw.c
        refine (if_neg hl).trans ((isone_c b _).trans ((if_pos (by simp [c])).trans ((nat_Gcd.eq g1 _).trans ((isone_c _ _).trans ((if_pos (by simp [c2])).trans ((nat_DivMod.eq p1 _).trans ((nat_DivMod.eq q1 _).trans ((clone_c p (by omega) _).trans (clone_c q (by omega) _)))))))))
theorem fits_c (neg : Bool) (p q : List Int) {R : Type} (K : ((Bool × List Int × List Int) × Int) → Option R) : number_fits.c R (neg, p, q) K = K (outM neg p q) := by
  unfold number_fits.c outM
  by_cases c1 : p.length > 128
  · rw [if_neg (by simp; omega), if_pos (Or.inl c1)]
  · by_cases c2 : q.length > 128
    · rw [if_pos (by simp; omega), if_pos (by simp; omega), if_pos (Or.inr c2)]
    · rw [if_pos (by simp; omega), if_neg (by simp; omega), if_neg (by omega)]
theorem made_c (neg : Bool) (a b : List Int) (ha : Lim 4294967296 a) (na : Nrm a) (hb : Lim 4294967296 b) (nb : Nrm b) (b0 : b ≠ []) (la : a.length ≤ 1048575) (lb : b.length ≤ 1048575) :
    ∃ neg' p q, (∀ (R : Type) (K : ((Bool × List Int × List Int) × Int) → Option R), number_made.c R (neg, a, b) K = K (outM neg' p q)) ∧ Rep neg' p q (sgn neg (val 4294967296 a)) (val 4294967296 b) := by
  obtain ⟨p, q, h1, p1, p2, q1, q2, p3, q3⟩ := raw_c neg a b ha na hb nb b0 la lb
  exact ⟨neg && decide (p ≠ []), p, q, fun R K => (h1 R _).trans (fits_c _ _ _ _), Rp.made (by decide) ha hb nb b0 p1 p2 q1 q2 rfl p3 q3⟩
theorem check_c (neg : Bool) (num den : List Int) (hn : Lim 4294967296 num) (hd : Lim 4294967296 den) {R : Type} (K : Int → Option R) : number_Check.c R (neg, num, den) K = K (fault neg num den) := number_Check.eq (Check_ev neg num den hn hd) K
theorem nadd_c (x y : List Int) (hx : Lim 4294967296 x) (hy : Lim 4294967296 y) (lx : x.length ≤ 300) (ly : y.length ≤ 300) :
    ∃ r, (∀ (R : Type) (K : List Int → Option R), (nat_plus.c R ([], x) fun t => nat_plus.c R (t, y) K) = K r) ∧ Lim 4294967296 r ∧ Nrm r ∧ val 4294967296 r = val 4294967296 x + val 4294967296 y ∧ r.length ≤ 302 := by
  obtain ⟨r, r1, r2, r3, r4, r5⟩ := plus_ev [] x (lim_nil _) hx (by decide) (nil_bound lx)
  obtain ⟨s, s1, s2, s3, s4, s5⟩ := plus_ev r y r2 hy (by simp only [List.length_nil] at r5; omega) (nil_bound ly)
  exact ⟨s, fun R K => (nat_plus.eq r1 _).trans (nat_plus.eq s1 _), s2, s3, by rw [s4, r4]; simp [val], by simp only [List.length_nil] at r5; omega⟩
def bad (e : Int) : (Bool × List Int × List Int) × Int := ((false, [], []), e)
theorem one_rep : Lim 4294967296 [1] ∧ Nrm [1] ∧ val 4294967296 [1] = 1 := ⟨one_lim (by decide), one_nrm, val_one _⟩
theorem whole_c (neg : Bool) (n : List Int) (hn : Lim 4294967296 n) (nn : Nrm n) (ln : n.length ≤ 1048575) :
    ∃ neg' p q, (∀ (R : Type) (K : ((Bool × List Int × List Int) × Int) → Option R), number_whole.c R (neg, n) K = K (outM neg' p q)) ∧ Rep neg' p q (sgn neg (val 4294967296 n)) 1 := by
  obtain ⟨neg', p, q, h1, h2⟩ := made_c neg n [1] hn nn one_rep.1 one_rep.2.1 (by decide) ln (by decide)
  rw [one_rep.2.2] at h2
  exact ⟨neg', p, q, fun R K => h1 R _, h2⟩
def nat_Len.c : (R : Type) → (List Int) → ((Int) → Option R) → Option R := fun R a => at' (fun (a : List Int) => nat_Len.f a) R a
theorem nat_Len.pc (a : List Int) (b : Int) (h : nat_Len.f a = some b) : PureC Tryd.prog 118 ((one rU).enc a) (iI.enc b) := by
  intro w P0 vs hr
  obtain ⟨A0, c0, u0, e0, hc0, hf0, hr⟩ := at_row hr
  have z := at_nil hr
  subst z
  have q1 := e0
  obtain rfl : vs = #[.slice A0 a.length c0] := Array.toList_inj.1 (by simpa using q1)
  refine Calls.mono (nat_Len.calls A0 c0 a b w (now hf0) hc0 h) fun e w' he => ?_
  obtain ⟨rfl, hb⟩ := he
  exact ⟨_, rfl, hb.below, (show E.Rep _ _ _ _ _ from by simp only [iI, ci, E.Rep])⟩
theorem nat_Len.ok : FunOk Tryd.prog 118 (mk (one rU) iI nat_Len.c) := at_ok (by kernel_rfl) nat_Len.pc
theorem nat_Len.eq {x0 : List Int} {b : Int} (h : nat_Len.f x0 = some b) {R : Type} (K : (Int) → Option R) : nat_Len.c R x0 K = K b := at_eq (g := fun (a : List Int) => nat_Len.f a) (a := x0) h K
theorem Len_f {a : List Int} (ha : Lim 4294967296 a) (na : Nrm a) (la : a.length ≤ 128) : ∃ L : Nat, nat_Len.f a = some (L : Int) ∧ val 4294967296 a < 2 ^ L ∧ (0 < val 4294967296 a → 0 < L ∧ 2 ^ (L - 1) ≤ val 4294967296 a) ∧ (a = [] → L = 0) ∧ L ≤ 4096 := by
  by_cases h : a = []
  · subst h
    exact ⟨0, rfl, by decide, fun h => absurd h (by decide), fun _ => rfl, by decide⟩
  · have hl : 0 < a.length := List.length_pos_iff.2 h
    obtain ⟨n, n1, n2, n3, n4⟩ := Len32_eq (a.getLast h) (ha _ (List.getLast_mem h)).1 (ha _ (List.getLast_mem h)).2
    have e1 : wrap64 ((a.length : Int) - 1) = ((a.length - 1 : Nat) : Int) := by rw [w64 (by omega) (by omega)]; omega
    have hrd : rd a ((a.length - 1 : Nat) : Int) = a.getLast h := by
      rw [rd_getD, List.getD_eq_getElem?_getD, ← List.getLast?_eq_getElem?, List.getLast?_eq_some_getLast h]
      rfl
    have hlast : a.getLast h ≠ 0 := by
      intro h0
      have hn := na
      rw [← List.dropLast_concat_getLast h, nrm_snoc] at hn
      exact hn h0
    have n5 : 1 ≤ n ∧ (2 : Int) ^ (n - 1) ≤ a.getLast h := by rcases n4 with h4 | h4; exact absurd h4 hlast; exact h4
    have hv : val 4294967296 a = val 4294967296 a.dropLast + 4294967296 ^ (a.length - 1) * a.getLast h := by
      conv => lhs; rw [← List.dropLast_concat_getLast h]
      rw [val_snoc, List.length_dropLast]
    have hd : Lim 4294967296 a.dropLast := fun x hx => ha x (List.dropLast_subset a hx)
    have d0 := val_nonneg (show (0 : Int) < 4294967296 by decide) hd
    have d1 := val_lt (show (0 : Int) < 4294967296 by decide) hd
    rw [List.length_dropLast] at d1
    have hp : (4294967296 : Int) ^ (a.length - 1) = 2 ^ (32 * (a.length - 1)) := by rw [show (4294967296 : Int) = 2 ^ 32 from rfl, ← Int.pow_mul]
    have p0 : (0 : Int) < 4294967296 ^ (a.length - 1) := Int.pow_pos (by decide)
    refine ⟨32 * (a.length - 1) + n, ?_, ?_, fun _ => ⟨by omega, ?_⟩, fun h' => absurd h' h, by omega⟩
    · unfold nat_Len.f
      rw [if_neg (by omega), e1, if_pos (by omega), if_pos (by omega), hrd, n1, Option.bind_some, w64 (x := 32 * _) (by omega) (by omega), w64 (by omega) (by omega)]
      congr 1
    · rw [hv, Int.pow_add, ← hp]
      have : 4294967296 ^ (a.length - 1) * a.getLast h ≤ 4294967296 ^ (a.length - 1) * (2 ^ n - 1) := Int.mul_le_mul_of_nonneg_left (by omega) (by omega)
      rw [Int.mul_sub, Int.mul_one] at this
      omega
    · rw [hv, show 32 * (a.length - 1) + n - 1 = 32 * (a.length - 1) + (n - 1) by omega, Int.pow_add, ← hp]
      have : 4294967296 ^ (a.length - 1) * 2 ^ (n - 1) ≤ 4294967296 ^ (a.length - 1) * a.getLast h := Int.mul_le_mul_of_nonneg_left n5.2 (by omega)
      omega
end Go.Proofs.YtemnjgkicndmjaaDoor.Q
namespace Go.Proofs.YtemnjgkicndmjaaDoor.Q
open Go.RowKit Go.Proofs.YtemnjgkicndmjaaDoorW.PrintWords Go.Proofs.YtemnjgkicndmjaaDoorW.PrintLast Go.Proofs.YtemnjgkicndmjaaDoorW.PrintMore
set_option linter.unusedVariables false
theorem small_len {B : Int} (hB : 1 < B) {xs : List Int} (h : Lim B xs) (hn : Nrm xs) {n : Nat} (hv : val B xs < B ^ n) : xs.length ≤ n := by
  rcases Nat.lt_or_ge n xs.length with c | c
  · have h0 : xs ≠ [] := by rintro rfl; simp at c
    have h1 := val_ge (by omega) h hn h0
    have h2 := pow_mono' (show 0 < B by omega) (show n ≤ xs.length - 1 by omega)
    omega
  · exact c
end Go.Proofs.YtemnjgkicndmjaaDoor.Q
namespace Go.Proofs.YtemnjgkicndmjaaDoor.Q
open Go.RowKit Go.Proofs.YtemnjgkicndmjaaDoor.E Go.Proofs.YtemnjgkicndmjaaDoorW.PrintWords Go.Proofs.YtemnjgkicndmjaaDoorW.PrintLast Go.Proofs.YtemnjgkicndmjaaDoorW.PrintMore
set_option linter.unusedVariables false
structure IsRoot (A r : Int) : Prop where
  r0 : 0 ≤ r
  lo : r * r ≤ A
  hi : A < (r + 1) * (r + 1)
theorem sq_lt {x y : Int} (hx : 0 ≤ x) (hy : 0 ≤ y) (h : x * x < y * y) : x < y := by
  rcases Int.lt_or_le x y with c | c
  · exact c
  · have := Int.mul_le_mul c c hy hx
    omega
theorem IsRoot.unique {A r s : Int} (h : IsRoot A r) (h' : IsRoot A s) : r = s := by
  have h1 := sq_lt h.r0 (show 0 ≤ s + 1 by have := h'.r0; omega) (Int.lt_of_le_of_lt h.lo h'.hi)
  have h2 := sq_lt h'.r0 (show 0 ≤ r + 1 by have := h.r0; omega) (Int.lt_of_le_of_lt h'.lo h.hi)
  omega
theorem am_gm (u v : Int) : 4 * (u * v) ≤ (u + v) * (u + v) := by
  have h : 0 ≤ (u - v) * (u - v) := by
    rcases Int.le_total 0 (u - v) with c | c
    · exact Int.mul_nonneg c c
    · have := Int.mul_nonneg (show 0 ≤ -(u - v) by omega) (show 0 ≤ -(u - v) by omega)
      rwa [Int.neg_mul_neg] at this
  have e : (u + v) * (u + v) = 4 * (u * v) + (u - v) * (u - v) := by grind
  omega
theorem newton_up {A x : Int} (hA : 0 ≤ A) (hx : 0 < x) : A < ((x + A / x) / 2 + 1) * ((x + A / x) / 2 + 1) := by
  have q0 := Int.ediv_nonneg hA (show 0 ≤ x by omega)
  have h1 : A < x * (A / x + 1) := by
    have a1 := Int.emod_add_mul_ediv A x
    have a2 := Int.emod_lt_of_pos A hx
    rw [Int.mul_add, Int.mul_one]
    omega
  have h2 := am_gm x (A / x + 1)
  generalize A / x = q at *
  have h3 : x + q + 1 ≤ 2 * ((x + q) / 2 + 1) := by omega
  have h4 : 0 ≤ x + q + 1 := by omega
  generalize (x + q) / 2 + 1 = n at *
  have h5 := Int.mul_le_mul h3 h3 h4 (by omega)
  have e : 2 * n * (2 * n) = 4 * (n * n) := by grind
  rw [e, show x + q + 1 = x + (q + 1) by omega] at h5
  omega
theorem newton_stop {A x : Int} (hA : 0 ≤ A) (hx : 0 < x) (h : x ≤ (x + A / x) / 2) : x * x ≤ A := by
  have h1 : x ≤ A / x := by omega
  have a1 := Int.emod_add_mul_ediv A x
  have a2 := Int.emod_nonneg A (show x ≠ 0 by omega)
  have h2 := Int.mul_le_mul_of_nonneg_left h1 (show 0 ≤ x by omega)
  omega
theorem root_loop (a : List Int) (ha : Lim 4294967296 a) (na : Nrm a) (a0 : a ≠ []) (la : a.length ≤ 128) : ∀ (d : Nat) (x : List Int), (val 4294967296 x).toNat ≤ d → Lim 4294967296 x → Nrm x → 0 < val 4294967296 x → x.length ≤ 300 → val 4294967296 a < (val 4294967296 x + 1) * (val 4294967296 x + 1) →
    ∃ r, Ev (fun k => nat_Root.l0 k a x) r ∧ Lim 4294967296 r ∧ Nrm r ∧ r.length ≤ 300 ∧ IsRoot (val 4294967296 a) (val 4294967296 r) := by
  have hB : (0 : Int) < 4294967296 := by decide
  have va := val_pos hB ha na a0
  intro d
  induction d with
  | zero => intro x h1 _ _ h2; omega
  | succ d ih =>
    intro x h1 hx nx x0 lx hi
    have xn : x ≠ [] := by rintro rfl; exact absurd x0 (by decide)
    obtain ⟨q, t, q1, q2, q3, q4, q5, q6, q7, q8⟩ := DivMod_ev a x ha hx na nx xn (by omega) (by omega)
    obtain ⟨s, s1, s2, s3, s4, s5⟩ := plus_ev x q hx q2 (by omega) (by omega)
    obtain ⟨y, y1, y2, y3, y4, y5⟩ := Shr_ev s 1 s2 s3 (by omega) (by omega)
    have hc := Compare_ev y x y2 hx y3 nx (by omega) (by omega)
    rw [Int.pow_succ, Int.pow_zero, Int.one_mul, s4, q6] at y4
    have hup := newton_up (show 0 ≤ val 4294967296 a by omega) x0
    rw [← y4] at hup
    have y0 := val_nonneg hB y2
    by_cases c : val 4294967296 y < val 4294967296 x
    · have yp : 0 < val 4294967296 y := by
        rcases Int.lt_or_le 0 (val 4294967296 y) with h | h
        · exact h
        · have : val 4294967296 y = 0 := by omega
          rw [this] at hup
          omega
      obtain ⟨r, r1, r2, r3, r4, r5⟩ := ih y (by omega) y2 y3 yp (by have := len_of_le hx y2 y3 (by omega); omega) hup
      refine ⟨r, ?_, r2, r3, r4, r5⟩
      refine Ev.step (f := fun k => (nat_DivMod.f k a x).bind fun bt => ((nat_plus.f k x bt.1).bind fun t => ((nat_Shr.f k t 1).bind fun bt2 => ((nat_Compare.f k bt2.1 x).bind fun t2 => (if t2 ≥ 0 then (some x) else (nat_Root.l0 k a bt2.1)))))) (fun k => by simp only [nat_Root.l0]) ?_
      refine Ev.bind (f := fun k bt => ((nat_plus.f k x bt.1).bind fun t => ((nat_Shr.f k t 1).bind fun bt2 => ((nat_Compare.f k bt2.1 x).bind fun t2 => (if t2 ≥ 0 then (some x) else (nat_Root.l0 k a bt2.1)))))) q1 ?_
      refine Ev.bind (f := fun k t => ((nat_Shr.f k t 1).bind fun bt2 => ((nat_Compare.f k bt2.1 x).bind fun t2 => (if t2 ≥ 0 then (some x) else (nat_Root.l0 k a bt2.1))))) s1 ?_
      refine Ev.bind (f := fun k bt2 => ((nat_Compare.f k bt2.1 x).bind fun t2 => (if t2 ≥ 0 then (some x) else (nat_Root.l0 k a bt2.1)))) y1 ?_
      refine Ev.bind (f := fun k t2 => (if t2 ≥ 0 then (some x) else (nat_Root.l0 k a y))) hc ?_
      exact Ev.congr (f := fun k => nat_Root.l0 k a y) (fun k => if_neg (by rw [cmpI_of_lt c]; decide)) r1
    · refine ⟨x, ?_, hx, nx, lx, ⟨by omega, newton_stop (by omega) x0 (by rw [← y4]; omega), hi⟩⟩
      refine Ev.step (f := fun k => (nat_DivMod.f k a x).bind fun bt => ((nat_plus.f k x bt.1).bind fun t => ((nat_Shr.f k t 1).bind fun bt2 => ((nat_Compare.f k bt2.1 x).bind fun t2 => (if t2 ≥ 0 then (some x) else (nat_Root.l0 k a bt2.1)))))) (fun k => by simp only [nat_Root.l0]) ?_
      refine Ev.bind (f := fun k bt => ((nat_plus.f k x bt.1).bind fun t => ((nat_Shr.f k t 1).bind fun bt2 => ((nat_Compare.f k bt2.1 x).bind fun t2 => (if t2 ≥ 0 then (some x) else (nat_Root.l0 k a bt2.1)))))) q1 ?_
      refine Ev.bind (f := fun k t => ((nat_Shr.f k t 1).bind fun bt2 => ((nat_Compare.f k bt2.1 x).bind fun t2 => (if t2 ≥ 0 then (some x) else (nat_Root.l0 k a bt2.1))))) s1 ?_
      refine Ev.bind (f := fun k bt2 => ((nat_Compare.f k bt2.1 x).bind fun t2 => (if t2 ≥ 0 then (some x) else (nat_Root.l0 k a bt2.1)))) y1 ?_
      refine Ev.bind (f := fun k t2 => (if t2 ≥ 0 then (some x) else (nat_Root.l0 k a y))) hc ?_
      refine Ev.ret fun k => if_pos ?_
      have hr : 0 ≤ cmpI (val 4294967296 y) (val 4294967296 x) := by unfold cmpI; rw [if_neg c]; split <;> omega
      exact hr
theorem natRoot_ev (a : List Int) (ha : Lim 4294967296 a) (na : Nrm a) (la : a.length ≤ 128) : ∃ r, Ev (fun k => nat_Root.f k a) r ∧ Lim 4294967296 r ∧ Nrm r ∧ r.length ≤ 300 ∧ IsRoot (val 4294967296 a) (val 4294967296 r) := by
  by_cases h : a = []
  · subst h
    exact ⟨[], Ev.ret fun k => rfl, lim_nil _, nrm_nil, by decide, ⟨by decide, by decide, by decide⟩⟩
  · obtain ⟨L, l1, l2, l3, l4, l5⟩ := Len_f ha na la
    have e1 : wrap64 (Int.tdiv (wrap64 ((L : Int) + 1)) 2) = (((L + 1) / 2 : Nat) : Int) := by
      rw [w64 (x := (L : Int) + 1) (by omega) (by omega), show ((L : Int) + 1).tdiv 2 = (((L + 1) / 2 : Nat) : Int) by rw [Int.tdiv_eq_ediv_of_nonneg (by omega)]; omega, w64 (by omega) (by omega)]
    obtain ⟨x, x1, x2, x3, x4, x5⟩ := Shl_ev [1] ((L + 1) / 2) one_rep.1 (by have : ([1] : List Int).length = 1 := rfl; omega)
    rw [one_rep.2.2, Int.one_mul] at x4
    have p0 : (0 : Int) < 2 ^ ((L + 1) / 2) := Int.pow_pos (by decide)
    have hlen1 : ([1] : List Int).length = 1 := rfl
    obtain ⟨r, r1, r2, r3, r4, r5⟩ := root_loop a ha na h la _ x (Nat.le_refl _) x2 x3 (by rw [x4]; exact p0) (by omega) (by
      rw [x4]
      have h1 : (2 : Int) ^ L ≤ 2 ^ ((L + 1) / 2 + (L + 1) / 2) := pow_mono' (by decide) (by omega)
      rw [Int.pow_add] at h1
      generalize (2 : Int) ^ ((L + 1) / 2) = p at *
      have : (p + 1) * (p + 1) = p * p + 2 * p + 1 := by grind
      omega)
    refine ⟨r, ?_, r2, r3, r4, r5⟩
    have hl : ¬ (a.length : Int) = 0 := by
      have : a.length ≠ 0 := fun h' => h (List.length_eq_zero_iff.1 h')
      omega
    refine Ev.congr (f := fun k => (nat_Shl.f k (([1] : List Int)) (((L + 1) / 2 : Nat) : Int)).bind fun t2468 => (nat_Root.l0 k a t2468)) (fun k => by unfold nat_Root.f; rw [if_neg hl, l1, Option.bind_some, e1]) ?_
    exact Ev.bind (f := fun k t2468 => nat_Root.l0 k a t2468) x1 r1
theorem natRoot_c (a : List Int) (ha : Lim 4294967296 a) (na : Nrm a) (la : a.length ≤ 128) : ∃ r, (∀ (R : Type) (K : List Int → Option R), nat_Root.c R a K = K r) ∧ Lim 4294967296 r ∧ Nrm r ∧ r.length ≤ 300 ∧ IsRoot (val 4294967296 a) (val 4294967296 r) := by
  obtain ⟨r, r1, r2⟩ := natRoot_ev a ha na la
  exact ⟨r, fun R K => nat_Root.eq r1 K, r2⟩
end Go.Proofs.YtemnjgkicndmjaaDoor.Q
namespace Go.Proofs.YtemnjgkicndmjaaDoor.Q
open Go.RowKit Go.Proofs.YtemnjgkicndmjaaDoorW.PrintWords Go.Proofs.YtemnjgkicndmjaaDoorW.PrintLast Go.Proofs.YtemnjgkicndmjaaDoorW.PrintMore
set_option linter.unusedVariables false
theorem ofInt_64 (a : Nat) (ha : a < 18446744073709551616) : (BitVec.ofInt 64 (a : Int)).toNat = a := by
  rw [BitVec.ofInt_natCast, BitVec.toNat_ofNat]; exact Nat.mod_eq_of_lt (by omega)
theorem i64w (n : Int) (h0 : 0 ≤ n) (h1 : n < 9223372036854775808) : IntKind.i64.wrap n = n := by
  simp [IntKind.wrap, IntKind.bits, IntKind.signed]; omega
theorem i64_and (a b : Int) (h1 : 0 ≤ a) (h2 : a < 9223372036854775808) (h3 : 0 ≤ b) (h4 : b < 9223372036854775808) : Go.bits .and .i64 a b = ((a.toNat &&& b.toNat : Nat) : Int) := by
  obtain ⟨A, rfl⟩ := Int.eq_ofNat_of_zero_le h1
  obtain ⟨B, rfl⟩ := Int.eq_ofNat_of_zero_le h3
  have hx : A &&& B < 2 ^ 63 := Nat.and_lt_two_pow _ (by omega)
  show IntKind.i64.wrap ((BitVec.ofInt 64 (A : Int) &&& BitVec.ofInt 64 (B : Int)).toNat : Int) = _
  rw [BitVec.toNat_and, ofInt_64 A (by omega), ofInt_64 B (by omega), i64w _ (by omega) (by omega)]
  rfl
theorem i64_or (a b : Int) (h1 : 0 ≤ a) (h2 : a < 9223372036854775808) (h3 : 0 ≤ b) (h4 : b < 9223372036854775808) : Go.bits .or .i64 a b = ((a.toNat ||| b.toNat : Nat) : Int) := by
  obtain ⟨A, rfl⟩ := Int.eq_ofNat_of_zero_le h1
  obtain ⟨B, rfl⟩ := Int.eq_ofNat_of_zero_le h3
  have hx : A ||| B < 2 ^ 63 := Nat.or_lt_two_pow (by omega) (by omega)
  show IntKind.i64.wrap ((BitVec.ofInt 64 (A : Int) ||| BitVec.ofInt 64 (B : Int)).toNat : Int) = _
  rw [BitVec.toNat_or, ofInt_64 A (by omega), ofInt_64 B (by omega), i64w _ (by omega) (by omega)]
  rfl
theorem i64_and1 {x : Int} (h0 : 0 ≤ x) (h1 : x < 9223372036854775808) : Go.bits .and .i64 x 1 = x % 2 := by
  rw [i64_and _ _ h0 h1 (by omega) (by omega)]
  have : (1 : Int).toNat = 1 := rfl
  rw [this, Nat.and_one_is_mod]; omega
theorem rtrim_ev (xs : List Int) : xs.length ≤ 1099511627776 → Ev (fun k => rf_trim.f k xs) (trim xs) := by
  show xs.length ≤ 1099511627776 → Ev (fun k => rf_trim.l0 k xs) (trim xs)
  refine snoc_induction (P := fun xs => xs.length ≤ 1099511627776 → Ev (fun k => rf_trim.l0 k xs) (trim xs)) ?_ ?_ xs
  · intro _
    exact Ev.step (f := fun _ => some []) (fun k => by simp only [rf_trim.l0]; rfl) (Ev.now _)
  · intro xs x ih hl
    rw [List.length_append, List.length_singleton] at hl
    have h1 : ((xs ++ [x]).length : Int) > 0 := by rw [List.length_append, List.length_singleton]; omega
    have h2 : wrap64 (((xs ++ [x]).length : Int) - 1) = (xs.length : Int) := by rw [List.length_append, List.length_singleton, w64 (by omega) (by omega)]; omega
    have h3 : (xs.length : Int) < ((xs ++ [x]).length : Int) := by rw [List.length_append, List.length_singleton]; omega
    have h4 : rd (xs ++ [x]) (xs.length : Int) = x := by rw [rd_getD, List.getD_eq_getElem?_getD, List.getElem?_append_right (Nat.le_refl _)]; simp
    have h5 : (xs ++ [x]).take xs.length = xs := by rw [List.take_append_of_le_length (Nat.le_refl _), List.take_of_length_le (Nat.le_refl _)]
    have h0 : (0 : Int) ≤ (xs.length : Int) := by omega
    by_cases c : x = 0
    · subst c
      rw [trim_snoc_zero]
      refine Ev.step (f := fun k => rf_trim.l0 k xs) (fun k => ?_) (ih (by omega))
      simp only [rf_trim.l0]
      rw [if_pos h1, h2, if_pos h0, if_pos h3, h4, if_pos (by rfl), if_pos (Int.le_of_lt h3), Int.toNat_natCast, h5]
    · rw [trim_snoc _ c]
      refine Ev.step (f := fun _ => some (xs ++ [x])) (fun k => ?_) (Ev.now _)
      simp only [rf_trim.l0]
      rw [if_pos h1, h2, if_pos h0, if_pos h3, h4, if_neg c]
theorem rdigit (l : List Int) (i : Nat) : rf_digit.f l (i : Int) = some (l.getD i 0) := by
  unfold rf_digit.f
  by_cases h : i < l.length
  · rw [if_pos (by omega), if_pos (by omega), rd_getD]
  · rw [if_neg (by omega), List.getD_eq_getElem?_getD, List.getElem?_eq_none (by omega)]; rfl
theorem rbit0 {l : List Int} (h : Lim 65536 l) : rf_bit.f l 0 = some (val 65536 l % 2) := by
  unfold rf_bit.f
  have e : wrap64 (Int.tdiv 0 16) = ((0 : Nat) : Int) := by decide +kernel
  have hx := h.getD (by decide) 0
  rw [e, rdigit, Option.bind_some, if_pos (by decide)]
  have e2 : shr .i64 (l.getD 0 0) (Int.tmod 0 16) = l.getD 0 0 := by
    unfold shr
    rw [show min (Int.tmod 0 16).toNat (IntKind.i64).bits = 0 by decide, Int.pow_zero, Int.ediv_one]
  rw [e2, i64_and1 hx.1 (by omega)]
  cases l with
  | nil => rfl
  | cons x xs => simp [val]; omega
theorem natOf_loop (xs : List Int) (hx : Lim 4294967296 xs) (hL : xs.length ≤ 137438953472) : ∀ (d i : Nat) (out : List Int), d + i = xs.length → out.length = 2 * i → Lim 65536 out → val 65536 out = val 4294967296 (xs.take i) →
    ∃ r, Ev (fun k => rf_natOf.l0 k out xs (xs.length : Int) (i : Int)) (trim r) ∧ r.length = 2 * xs.length ∧ Lim 65536 r ∧ val 65536 r = val 4294967296 xs := by
  have hB : (0 : Int) < 4294967296 := by decide
  intro d
  induction d with
  | zero =>
    intro i out hd hl ho hv
    refine ⟨out, Ev.step (f := fun k => (rf_trim.f k out).bind fun t => some t) (fun k => ?_) (Ev.bind (f := fun _ t => some t) (rtrim_ev out (by omega)) (Ev.now _)), by omega, ho, by rw [hv, List.take_of_length_le (by omega)]⟩
    simp only [rf_natOf.l0]
    rw [if_neg (by omega)]
  | succ d ih =>
    intro i out hd hl ho hv
    have g1 : (i : Int) < (xs.length : Int) := by omega
    have g2 : (0 : Int) ≤ (i : Int) := by omega
    have g3 : i < xs.length := by omega
    have g4 : ∀ z : List Int, z.length = 2 → out.length + z.length < 17592186044416 := fun z hz => by omega
    have g5 : d + (i + 1) = xs.length := by omega
    have g7 : ∀ _ : Unit, wrap64 ((i : Int) + 1) = ((i + 1 : Nat) : Int) := fun _ => by rw [w64 (by omega) (by omega)]; omega
    have hxi := hx.rd hB (i : Int)
    have hxg : rd xs (i : Int) = xs.getD i 0 := rd_getD xs i
    generalize rd xs (i : Int) = x at hxi hxg
    have e1 : wrap64 (Go.bits .and .u32 x 65535) = x % 65536 := by
      rw [u32_and _ _ hxi.1 hxi.2 (by omega) (by omega), show (65535 : Int).toNat = 2 ^ 16 - 1 from rfl, Nat.and_two_pow_sub_one_eq_mod, w64 (by omega) (by omega)]
      omega
    have e2 : wrap64 (x / 65536) = x / 65536 := w64 (by omega) (by omega)
    obtain ⟨r, hev, h⟩ := ih (i + 1) (out ++ [x % 65536, x / 65536]) g5 (by rw [List.length_append, hl]; simp; omega) (by
        have h1 := lim_nrm_snoc ho (x := x % 65536) ⟨by omega, by omega⟩
        have h2 := lim_nrm_snoc h1 (x := x / 65536) ⟨by omega, by omega⟩
        rw [List.append_assoc] at h2; exact h2) (by
        rw [val_append, hv, val_take_succ _ _ _ g3, ← hxg, hl, Int.pow_mul, show (65536 : Int) ^ 2 = 4294967296 from rfl]
        have h3 : val 65536 [x % 65536, x / 65536] = x := by simp [val]; omega
        rw [h3])
    refine ⟨r, Ev.step (f := fun k => rf_natOf.l0 k (out ++ [x % 65536, x / 65536]) xs (xs.length : Int) ((i + 1 : Nat) : Int)) (fun k => ?_) hev, h⟩
    simp only [rf_natOf.l0]
    rw [if_pos g1, if_pos g2, if_pos g1, rd_getD, ← hxg, e1, e2, Option.bind_some, if_pos (g4 _ rfl), g7 ()]
theorem natOf_ev (xs : List Int) (hx : Lim 4294967296 xs) (hL : xs.length ≤ 137438953472) :
    ∃ r, Ev (fun k => rf_natOf.f k xs) r ∧ Lim 65536 r ∧ Nrm r ∧ val 65536 r = val 4294967296 xs ∧ r.length ≤ 2 * xs.length := by
  obtain ⟨r, h1, h2, h3, h4⟩ := natOf_loop xs hx hL xs.length 0 [] (by omega) (by simp) (lim_nil _) (by simp [val])
  exact ⟨trim r, h1, lim_trim h3, nrm_trim _, by rw [val_trim, h4], by rw [← h2]; exact length_trim r⟩
theorem rcmp_loop (xs ys : List Int) (hx : Lim 65536 xs) (hy : Lim 65536 ys) (hLx : xs.length ≤ 1099511627776) (hLy : ys.length ≤ 1099511627776) : ∀ i : Nat, i ≤ 1099511627776 → val 65536 (xs.drop i) = val 65536 (ys.drop i) →
    Ev (fun k => rf_CmpNat.l0 k xs ys ((i : Int) - 1)) (cmpI (val 65536 xs) (val 65536 ys)) := by
  have hB : (0 : Int) < 65536 := by decide
  have hsp : ∀ (zs : List Int) (i : Nat), val 65536 zs = val 65536 (zs.take i) + 65536 ^ i * val 65536 (zs.drop i) := by
    intro zs i
    by_cases h : i ≤ zs.length
    · exact val_split _ zs i h
    · rw [List.take_of_length_le (by omega), List.drop_of_length_le (by omega)]; simp [val]
  have hdr : ∀ (zs : List Int) (i : Nat), val 65536 (zs.drop i) = zs.getD i 0 + 65536 * val 65536 (zs.drop (i + 1)) := by
    intro zs i
    by_cases h : i < zs.length
    · exact val_drop _ zs i h
    · rw [List.drop_of_length_le (by omega), List.drop_of_length_le (by omega), List.getD_eq_getElem?_getD, List.getElem?_eq_none (by omega)]; simp [val]
  have htk : ∀ (zs : List Int) (i : Nat), Lim 65536 zs → 0 ≤ val 65536 (zs.take i) ∧ val 65536 (zs.take i) < 65536 ^ i := by
    intro zs i hz
    refine ⟨val_nonneg hB (hz.take i), ?_⟩
    have h1 := val_lt hB (hz.take i)
    have h2 := pow_mono' hB (show (zs.take i).length ≤ i by rw [List.length_take]; omega)
    omega
  intro i
  induction i with
  | zero =>
    intro _ h
    rw [List.drop_zero, List.drop_zero] at h
    refine Ev.step (f := fun _ => some 0) (fun k => ?_) (Ev.eq (Ev.now _) ?_)
    · simp only [rf_CmpNat.l0]; rw [if_neg (by omega)]
    · rw [h]; unfold cmpI; rw [if_neg (by omega), if_neg (by omega)]
  | succ i ih =>
    intro hi h
    have e1 : (((i + 1 : Nat) : Int) - 1) = (i : Int) := by omega
    have e2 : ∀ _ : Unit, wrap64 ((i : Int) - 1) = (i : Int) - 1 := fun _ => w64 (by omega) (by omega)
    have g1 : (i : Int) ≥ 0 := by omega
    have hxi := hx.getD hB i
    have hyi := hy.getD hB i
    have dx := hdr xs i
    have dy := hdr ys i
    have sx := hsp xs i
    have sy := hsp ys i
    have tx := htk xs i hx
    have ty := htk ys i hy
    rw [h] at dx
    have hp : (0 : Int) < 65536 ^ i := Int.pow_pos (by decide)
    have key : ∀ a b : Int, a < b → ∀ s t : Int, 0 ≤ s → s < 65536 ^ i → 0 ≤ t → t < 65536 ^ i → s + 65536 ^ i * a < t + 65536 ^ i * b := by
      intro a b hab s t hs0 hs ht0 ht
      have : 65536 ^ i * (a + 1) ≤ 65536 ^ i * b := Int.mul_le_mul_of_nonneg_left (by omega) (by omega)
      rw [Int.mul_add, Int.mul_one] at this
      omega
    by_cases c1 : xs.getD i 0 < ys.getD i 0
    · refine Ev.step (f := fun _ => some (-1)) (fun k => ?_) (Ev.eq (Ev.now _) ?_)
      · simp only [rf_CmpNat.l0]
        rw [e1, if_pos g1, rdigit, rdigit, Option.bind_some, Option.bind_some, if_pos c1]
      · have := key (val 65536 (xs.drop i)) (val 65536 (ys.drop i)) (by omega) _ _ tx.1 tx.2 ty.1 ty.2
        unfold cmpI; rw [if_pos (by omega)]
    · by_cases c2 : xs.getD i 0 > ys.getD i 0
      · refine Ev.step (f := fun _ => some 1) (fun k => ?_) (Ev.eq (Ev.now _) ?_)
        · simp only [rf_CmpNat.l0]
          rw [e1, if_pos g1, rdigit, rdigit, Option.bind_some, Option.bind_some, if_neg c1, if_pos c2]
        · have := key (val 65536 (ys.drop i)) (val 65536 (xs.drop i)) (by omega) _ _ ty.1 ty.2 tx.1 tx.2
          unfold cmpI; rw [if_neg (by omega), if_pos (by omega)]
      · refine Ev.step (f := fun k => rf_CmpNat.l0 k xs ys ((i : Int) - 1)) (fun k => ?_) (ih (by omega) (by omega))
        simp only [rf_CmpNat.l0]
        rw [e1, if_pos g1, rdigit, rdigit, Option.bind_some, Option.bind_some, if_neg c1, if_neg c2, e2 ()]
theorem CmpNat_ev (xs ys : List Int) (hx : Lim 65536 xs) (hy : Lim 65536 ys) (hLx : xs.length ≤ 1099511627776) (hLy : ys.length ≤ 1099511627776) : Ev (fun k => rf_CmpNat.f k xs ys) (cmpI (val 65536 xs) (val 65536 ys)) := by
  have h := rcmp_loop xs ys hx hy hLx hLy (max xs.length ys.length) (by omega) (by rw [List.drop_of_length_le (by omega), List.drop_of_length_le (by omega)])
  refine Ev.congr (fun k => ?_) h
  unfold rf_CmpNat.f mx
  congr 1
  by_cases c : xs.length < ys.length
  · rw [if_pos (by omega), w64 (by omega) (by omega), Nat.max_eq_right (by omega)]
  · rw [if_neg (by omega), w64 (by omega) (by omega), Nat.max_eq_left (by omega)]
end Go.Proofs.YtemnjgkicndmjaaDoor.Q
