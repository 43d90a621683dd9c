/- What this text proves: a part of the walk and of the plain laws of one card; no conditions. -/
import Derived.Test.YtemnjgkicndmjaaDoorBx2
import Derived.Laws.BitsAllLaws
import Derived.Laws.BitsLemmas
import Derived.Test.YtemnjgkicndmjaaDoorCards
import Derived.Test.YtemnjgkicndmjaaDoorTie
import Derived.WalkKit
import Derived.ProofKit
import Derived.OpenShut
import Derived.ShutString
import Derived.ChangeOld
import Derived.Below
import Derived.Carry
import Derived.Deep.DeepHandedRow
import Derived.Lib.SmallJoins
import Derived.ChangeSlices
import Derived.LaidLaws
namespace Go.Proofs.YtemnjgkicndmjaaDoor.Q
open Go.RowKit Go.Proofs.YtemnjgkicndmjaaDoorW.PrintWords Go.Proofs.YtemnjgkicndmjaaDoorW.PrintLast Go.Proofs.YtemnjgkicndmjaaDoorW.PrintMore
attribute [local go_sem] max2_int min2_int max_two min_two max_three min_three max_four min_four
set_option linter.unusedVariables false
set_option linter.unusedSimpArgs false
def number_Add.f (k : Nat) (a0_0 : Bool) (l0_1 : List Int) (l0_2 : List Int) (a1_0 : Bool) (l1_1 : List Int) (l1_2 : List Int) : Option (Bool × List Int × List Int × Int) := (number_check.f k (([(⟨a0_0, l0_1, l0_2⟩ : S24), (⟨a1_0, l1_1, l1_2⟩ : S24)] : List (S24)))).bind fun t476 => (if t476 = 0 then ((number_add.f k a0_0 l0_1 l0_2 a1_0 l1_1 l1_2 false).bind fun bt477 => (some (bt477.1, bt477.2.1, bt477.2.2.1, bt477.2.2.2))) else (some (false, ([] : List Int), ([] : List Int), t476)))
theorem number_Add.mono : ∀ a0 a1 a2 a3 a4 a5 k, LeO (number_Add.f k a0 a1 a2 a3 a4 a5) (number_Add.f (k + 1) a0 a1 a2 a3 a4 a5) := by
 intro a0 a1 a2 a3 a4 a5 k
 unfold number_Add.f
 have m0 := @number_add.mono
 have m1 := @number_check.mono
 exact zm
set_option maxHeartbeats 8000000 in
set_option maxRecDepth 100000 in
theorem number_Add.calls (k : Nat) (a0_0 : Bool) (P0_1_ : Nat → Prop) (A0_1 : Option Addr) (c0_1 : Nat) (l0_1 : List Int) (P0_2_ : Nat → Prop) (A0_2 : Option Addr) (c0_2 : Nat) (l0_2 : List Int) (a1_0 : Bool) (P1_1_ : Nat → Prop) (A1_1 : Option Addr) (c1_1 : Nat) (l1_1 : List Int) (P1_2_ : Nat → Prop) (A1_2 : Option Addr) (c1_2 : Nat) (l1_2 : List Int) (r1 : Bool) (r2 : List Int) (r3 : List Int) (r4 : Int) (w : World) (hs0_1 : Kd.V (Kd.int .u32) 55 w w.heap.size (fun k_ => P0_1_ k_) (.slice A0_1 l0_1.length c0_1) l0_1) (hs0_2 : Kd.V (Kd.int .u32) 55 w w.heap.size (fun k_ => P0_2_ k_) (.slice A0_2 l0_2.length c0_2) l0_2) (hs1_1 : Kd.V (Kd.int .u32) 55 w w.heap.size (fun k_ => P1_1_ k_) (.slice A1_1 l1_1.length c1_1) l1_1) (hs1_2 : Kd.V (Kd.int .u32) 55 w w.heap.size (fun k_ => P1_2_ k_) (.slice A1_2 l1_2.length c1_2) l1_2) (h : number_Add.f k a0_0 l0_1 l0_2 a1_0 l1_1 l1_2 = some (r1, r2, r3, r4)) :
  Calls Tryd.prog 25 #[.agg #[.bool a0_0, .slice A0_1 l0_1.length c0_1, .slice A0_2 l0_2.length c0_2], .agg #[.bool a1_0, .slice A1_1 l1_1.length c1_1, .slice A1_2 l1_2.length c1_2]] w fun e w' => ∃ v1_ v2_ : Value, e = .returned (.tuple #[.agg #[.bool r1, v1_, v2_], .int .i64 r4]) ∧ Kd.V (Kd.int .u32) 55 w' w.heap.size (fun k_ => ((P0_1_ k_ ∨ P0_2_ k_ ∨ P1_1_ k_ ∨ P1_2_ k_) ∨ w.heap.size ≤ k_)) v1_ r2 ∧ Kd.V (Kd.int .u32) 55 w' w.heap.size (fun k_ => ((P0_1_ k_ ∨ P0_2_ k_ ∨ P1_1_ k_ ∨ P1_2_ k_) ∨ w.heap.size ≤ k_)) v2_ r3 ∧ Below w.heap.size w w' := by
 have hu24 := Tryd.underlying24
 have HO0_1 := am (show Kd.V (Kd.int .u32) 55 w w.heap.size (fun k_ => ((P0_1_ k_ ∨ P0_2_ k_ ∨ P1_1_ k_ ∨ P1_2_ k_) ∨ w.heap.size ≤ k_)) (.slice A0_1 l0_1.length c0_1) l0_1 from Kd.V_mono hs0_1 (fun k_ hk => .inl (.inl hk)))
 have HO0_2 := am (show Kd.V (Kd.int .u32) 55 w w.heap.size (fun k_ => ((P0_1_ k_ ∨ P0_2_ k_ ∨ P1_1_ k_ ∨ P1_2_ k_) ∨ w.heap.size ≤ k_)) (.slice A0_2 l0_2.length c0_2) l0_2 from Kd.V_mono hs0_2 (fun k_ hk => .inl (.inr (.inl hk))))
 have HO1_1 := am (show Kd.V (Kd.int .u32) 55 w w.heap.size (fun k_ => ((P0_1_ k_ ∨ P0_2_ k_ ∨ P1_1_ k_ ∨ P1_2_ k_) ∨ w.heap.size ≤ k_)) (.slice A1_1 l1_1.length c1_1) l1_1 from Kd.V_mono hs1_1 (fun k_ hk => .inl (.inr (.inr (.inl hk)))))
 have HO1_2 := am (show Kd.V (Kd.int .u32) 55 w w.heap.size (fun k_ => ((P0_1_ k_ ∨ P0_2_ k_ ∨ P1_1_ k_ ∨ P1_2_ k_) ∨ w.heap.size ≤ k_)) (.slice A1_2 l1_2.length c1_2) l1_2 from Kd.V_mono hs1_2 (fun k_ hk => .inl (.inr (.inr (.inr hk)))))
 have HB := am (Below.refl w.heap.size w)
 have H := h
 unfold number_Add.f at H
 clear h
 obtain ⟨y473, hy473⟩ : ∃ y_ : List (S24), y_ = (([(⟨a0_0, l0_1, l0_2⟩ : S24), (⟨a1_0, l1_1, l1_2⟩ : S24)] : List (S24))) := ⟨_, rfl⟩
 try rw [← hy473] at H
 have Ny473 := am hy473
 clear hy473
 replace H := zj H
 obtain ⟨t476, A3, H⟩ := H
 by_cases c4 : t476 = 0
 ·rw [if_pos c4] at H
  have c4b0 : (t476 == 0) = true := beq_iff_eq.mpr c4
  have c4b1 : (t476 != 0) = false := bne_eq_false_iff_eq.mpr c4
  clear c4
  replace H := zj H
  obtain ⟨⟨t477, t478, t481, t484⟩, A5, H⟩ := H
  try dsimp only at H
  simp only [Option.some.injEq, Prod.mk.injEq] at H
  obtain ⟨rfl, rfl, rfl, rfl⟩ := H
  go_enter Tryd.func25, Tryd.ntmps25
  go_wp2_with (first | ((with_reducible refine gate_dst (N := 2) rfl ?_); refine zbox (N := 2) (cs := #[.bool a0_0, .slice A0_1 l0_1.length c0_1, .slice A0_2 l0_2.length c0_2]) (t := 24) ?_; intro gb470 hg w6 hbox hb; refine zt7 (ve HO0_1 hg hb) (ve HO0_2 hg hb) (ve HO1_1 hg hb) (ve HO1_2 hg hb) (below_step zq1 hb) (hbox) ((zs hg (below_size zq1) : w.heap.size ≤ gb470)) ?_; clear HO0_1 HO0_2 HO1_1 HO1_2 HB; intro HO0_1 HO0_2 HO1_1 HO1_2 HB BK470 GW470; have GE470 := GW470; clear hb hbox hg) | ((with_reducible refine gate_dst (N := 3) rfl ?_); refine zbox (N := 3) (cs := #[.bool a1_0, .slice A1_1 l1_1.length c1_1, .slice A1_2 l1_2.length c1_2]) (t := 24) ?_; intro gb471 hg w7 hbox hb; refine zt10 (ve HO0_1 hg hb) (ve HO0_2 hg hb) (ve HO1_1 hg hb) (ve HO1_2 hg hb) (bb BK470.out hb) (below_step (zb1 GE470.out) hb) (hbox) ((zs hg (below_size (zb1 GE470.out)) : w.heap.size ≤ gb471)) ((by rw [hg]; exact Nat.ne_of_lt (bl BK470.out) : gb470 ≠ gb471)) ((by rw [hg]; exact Nat.ne_of_gt (bl BK470.out) : gb471 ≠ gb470)) ?_; clear HO0_1 HO0_2 HO1_1 HO1_2 BK470 HB; intro HO0_1 HO0_2 HO1_1 HO1_2 BK470 HB BK471 GW471 NB470_471 NB471_470; have GE471 := GW471; clear hb hbox hg) | ((with_reducible refine gate_dst (N := 4) rfl ?_); refine zbox (N := 4) (cs := #[.bool false, .slice none 0 0, .slice none 0 0]) (t := 24) ?_; intro gb472 hg w8 hbox hb; refine zt13 (ve HO0_1 hg hb) (ve HO0_2 hg hb) (ve HO1_1 hg hb) (ve HO1_2 hg hb) (bb BK470.out hb) (bb BK471.out hb) (below_step (zb2 GE470.out GE471.out) hb) (hbox) ((zs hg (below_size (zb2 GE470.out GE471.out)) : w.heap.size ≤ gb472)) ((by rw [hg]; exact Nat.ne_of_lt (bl BK470.out) : gb470 ≠ gb472)) ((by rw [hg]; exact Nat.ne_of_gt (bl BK470.out) : gb472 ≠ gb470)) ((by rw [hg]; exact Nat.ne_of_lt (bl BK471.out) : gb471 ≠ gb472)) ((by rw [hg]; exact Nat.ne_of_gt (bl BK471.out) : gb472 ≠ gb471)) ?_; clear HO0_1 HO0_2 HO1_1 HO1_2 BK470 BK471 HB; intro HO0_1 HO0_2 HO1_1 HO1_2 BK470 BK471 HB BK472 GW472 NB470_472 NB472_470 NB471_472 NB472_471; have GE472 := GW472; clear hb hbox hg; have hnb9 := NB470_471.out; have hnc9 := NB471_470.out; have hnb10 := NB470_472.out; have hnc10 := NB472_470.out; have hcz11_0 := bc BK470.out 0 (.bool a0_0); have hcz11_1 := bc BK470.out 1 (.slice A0_1 l0_1.length c0_1); have hcz11_2 := bc BK470.out 2 (.slice A0_2 l0_2.length c0_2); have hfz11_0 := blk_frozen BK470.out 0; have hfz11_1 := blk_frozen BK470.out 1; have hfz11_2 := blk_frozen BK470.out 2; have hnb12 := NB471_472.out; have hnc12 := NB472_471.out; have hcz13_0 := bc BK471.out 0 (.bool a1_0); have hcz13_1 := bc BK471.out 1 (.slice A1_1 l1_1.length c1_1); have hcz13_2 := bc BK471.out 2 (.slice A1_2 l1_2.length c1_2); have hfz13_0 := blk_frozen BK471.out 0; have hfz13_1 := blk_frozen BK471.out 1; have hfz13_2 := blk_frozen BK471.out 2) | ((with_reducible refine gate_dst (N := 9) rfl ?_); refine Kd.N_lit k24 _ 24 ?hg (N' := 9) ?hd (xs := ([(⟨a0_0, l0_1, l0_2⟩ : S24), (⟨a1_0, l1_1, l1_2⟩ : S24)] : List (S24))) (inner := [.bool a0_0, .slice A0_1 l0_1.length c0_1, .slice A0_2 l0_2.length c0_2, .bool a1_0, .slice A1_1 l1_1.length c1_1, .slice A1_2 l1_2.length c1_2]) (ok := (fun k_ => ((P0_1_ k_ ∨ P0_2_ k_ ∨ P1_1_ k_ ∨ P1_2_ k_) ∨ w.heap.size ≤ k_) ∧ k_ ≠ gb470 ∧ k_ ≠ gb471 ∧ k_ ≠ gb472)) (okp := (fun k_ => ((P0_1_ k_ ∨ P0_2_ k_ ∨ P1_1_ k_ ∨ P1_2_ k_) ∨ w.heap.size ≤ k_) ∧ k_ ≠ gb470 ∧ k_ ≠ gb471 ∧ k_ ≠ gb472)) ?hr ?hp (fun _ hk => hk) ((show ∀ k_, w8.heap.size ≤ k_ → (fun k_ => ((P0_1_ k_ ∨ P0_2_ k_ ∨ P1_1_ k_ ∨ P1_2_ k_) ∨ w.heap.size ≤ k_) ∧ k_ ≠ gb470 ∧ k_ ≠ gb471 ∧ k_ ≠ gb472) k_ from fun k_ hk => ⟨(.inr (Nat.le_trans (below_size (zb3 GE470.out GE471.out GE472.out)) hk)), Kd.freshB (g := gb470) (o := .cells #[.bool a0_0, .slice A0_1 l0_1.length c0_1, .slice A0_2 l0_2.length c0_2] 24 (0, 0)) (zq2 BK470.out) k_ hk, Kd.freshB (g := gb471) (o := .cells #[.bool a1_0, .slice A1_1 l1_1.length c1_1, .slice A1_2 l1_2.length c1_2] 24 (0, 0)) (zq2 BK471.out) k_ hk, Kd.freshB (g := gb472) (o := .cells #[.bool false, .slice none 0 0, .slice none 0 0] 24 (0, 0)) (zq2 BK472.out) k_ hk⟩) _ (Nat.le_refl _)) (Below.refl _ _) (Nat.le_refl _) (by simp) ?_; (case hd => rfl); (case hg => rfl); (case hr => exact zr); (case hp => exact (Reps.c3 (show Kd.FK k24 _ _ (⟨a0_0, l0_1, l0_2⟩ : S24) [.bool a0_0, .slice A0_1 l0_1.length c0_1, .slice A0_2 l0_2.length c0_2] from (k24_mkF _ _ (⟨a0_0, l0_1, l0_2⟩ : S24) (Kd.V_reads' (Kd.V_mono (ok' := (fun k_ => ((P0_1_ k_ ∨ P0_2_ k_ ∨ P1_1_ k_ ∨ P1_2_ k_) ∨ w.heap.size ≤ k_) ∧ k_ ≠ gb470 ∧ k_ ≠ gb471 ∧ k_ ≠ gb472)) (HO0_1.out) (fun k_ hk => ⟨hk.1.1.1, ⟨hk.1.1.2, ⟨hk.1.2, hk.2⟩⟩⟩))).2.1 (Kd.V_F (Kd.V_mono (ok' := (fun k_ => ((P0_1_ k_ ∨ P0_2_ k_ ∨ P1_1_ k_ ∨ P1_2_ k_) ∨ w.heap.size ≤ k_) ∧ k_ ≠ gb470 ∧ k_ ≠ gb471 ∧ k_ ≠ gb472)) (HO0_1.out) (fun k_ hk => ⟨hk.1.1.1, ⟨hk.1.1.2, ⟨hk.1.2, hk.2⟩⟩⟩))) (Kd.V_reads' (Kd.V_mono (ok' := (fun k_ => ((P0_1_ k_ ∨ P0_2_ k_ ∨ P1_1_ k_ ∨ P1_2_ k_) ∨ w.heap.size ≤ k_) ∧ k_ ≠ gb470 ∧ k_ ≠ gb471 ∧ k_ ≠ gb472)) (HO0_2.out) (fun k_ hk => ⟨hk.1.1.1, ⟨hk.1.1.2, ⟨hk.1.2, hk.2⟩⟩⟩))).2.1 (Kd.V_F (Kd.V_mono (ok' := (fun k_ => ((P0_1_ k_ ∨ P0_2_ k_ ∨ P1_1_ k_ ∨ P1_2_ k_) ∨ w.heap.size ≤ k_) ∧ k_ ≠ gb470 ∧ k_ ≠ gb471 ∧ k_ ≠ gb472)) (HO0_2.out) (fun k_ hk => ⟨hk.1.1.1, ⟨hk.1.1.2, ⟨hk.1.2, hk.2⟩⟩⟩))))) (Reps.c3 (show Kd.FK k24 _ _ (⟨a1_0, l1_1, l1_2⟩ : S24) [.bool a1_0, .slice A1_1 l1_1.length c1_1, .slice A1_2 l1_2.length c1_2] from (k24_mkF _ _ (⟨a1_0, l1_1, l1_2⟩ : S24) (Kd.V_reads' (Kd.V_mono (ok' := (fun k_ => ((P0_1_ k_ ∨ P0_2_ k_ ∨ P1_1_ k_ ∨ P1_2_ k_) ∨ w.heap.size ≤ k_) ∧ k_ ≠ gb470 ∧ k_ ≠ gb471 ∧ k_ ≠ gb472)) (HO1_1.out) (fun k_ hk => ⟨hk.1.1.1, ⟨hk.1.1.2, ⟨hk.1.2, hk.2⟩⟩⟩))).2.1 (Kd.V_F (Kd.V_mono (ok' := (fun k_ => ((P0_1_ k_ ∨ P0_2_ k_ ∨ P1_1_ k_ ∨ P1_2_ k_) ∨ w.heap.size ≤ k_) ∧ k_ ≠ gb470 ∧ k_ ≠ gb471 ∧ k_ ≠ gb472)) (HO1_1.out) (fun k_ hk => ⟨hk.1.1.1, ⟨hk.1.1.2, ⟨hk.1.2, hk.2⟩⟩⟩))) (Kd.V_reads' (Kd.V_mono (ok' := (fun k_ => ((P0_1_ k_ ∨ P0_2_ k_ ∨ P1_1_ k_ ∨ P1_2_ k_) ∨ w.heap.size ≤ k_) ∧ k_ ≠ gb470 ∧ k_ ≠ gb471 ∧ k_ ≠ gb472)) (HO1_2.out) (fun k_ hk => ⟨hk.1.1.1, ⟨hk.1.1.2, ⟨hk.1.2, hk.2⟩⟩⟩))).2.1 (Kd.V_F (Kd.V_mono (ok' := (fun k_ => ((P0_1_ k_ ∨ P0_2_ k_ ∨ P1_1_ k_ ∨ P1_2_ k_) ∨ w.heap.size ≤ k_) ∧ k_ ≠ gb470 ∧ k_ ≠ gb471 ∧ k_ ≠ gb472)) (HO1_2.out) (fun k_ hk => ⟨hk.1.1.1, ⟨hk.1.1.2, ⟨hk.1.2, hk.2⟩⟩⟩))))) (Reps.none _ _)))); intro v474 w14 ho15 hb hg_ hnew_; clear hg_ hnew_; (first | rw [← Ny473.out] at ho15 | (simp only [Int.reduceToNat] at ho15; rw [← Ny473.out] at ho15)); refine zt9 (Kd.V_elder' (zq3 HO0_1.out) (Kd.N_base ho15) hb) (Kd.V_elder' (zq3 HO0_2.out) (Kd.N_base ho15) hb) (Kd.V_elder' (zq3 HO1_1.out) (Kd.N_base ho15) hb) (Kd.V_elder' (zq3 HO1_2.out) (Kd.N_base ho15) hb) (Kd.N_lower ho15 (below_size (zb3 GE470.out GE471.out GE472.out))) (bb BK470.out hb) (bb BK471.out hb) (bb BK472.out hb) (below_step (zb3 GE470.out GE471.out GE472.out) hb) ?_; clear HO0_1 HO0_2 HO1_1 HO1_2 BK470 BK471 BK472 HB; intro HO0_1 HO0_2 HO1_1 HO1_2 HO475 BK470 BK471 BK472 HB; clear hb ho15; obtain ⟨Ao16, co16, eo16⟩ := Kd.N_slice HO475.out; subst eo16) | ((with_reducible refine gate_callee (f := 61) rfl ?_); refine goesL_ (some 10) rfl rfl Tryd.func61 (by kernel_rfl) rfl #[.slice Ao16 y473.length co16] rfl zq5 ?_; (with_reducible refine (number_check.calls k _ _ y473 t476 _ ?side1 ?side2 A3.out).mono ?_); (case side1 => exact zc ((Kd.N_reads' HO475.out).2.2)); (case side2 => exact (Kd.N_reads' HO475.out).2.1); rintro e w17 ⟨rfl, hb⟩; refine ⟨_, rfl, ?_⟩; refine zt9 (vb HO0_1 hb) (vb HO0_2 hb) (vb HO1_1 hb) (vb HO1_2 hb) (Kd.N_below (by (with_reducible repeat (first | apply Kd.N_alloc | apply Kd.N_drewN | apply Kd.N_drew)); exact HO475.out) hb) (bb BK470.out hb) (bb BK471.out hb) (bb BK472.out hb) (below_step (zb3 GE470.out GE471.out GE472.out) hb) ?_; clear HO0_1 HO0_2 HO1_1 HO1_2 HO475 BK470 BK471 BK472 HB; intro HO0_1 HO0_2 HO1_1 HO1_2 HO475 BK470 BK471 BK472 HB; (try clear hb); (try clear hb2); (try clear hk); (try clear hi); have hcz18_0 := bc BK470.out 0 (.bool a0_0); have hcz18_1 := bc BK470.out 1 (.slice A0_1 l0_1.length c0_1); have hcz18_2 := bc BK470.out 2 (.slice A0_2 l0_2.length c0_2); have hfz18_0 := blk_frozen BK470.out 0; have hfz18_1 := blk_frozen BK470.out 1; have hfz18_2 := blk_frozen BK470.out 2; have hcz19_0 := bc BK471.out 0 (.bool a1_0); have hcz19_1 := bc BK471.out 1 (.slice A1_1 l1_1.length c1_1); have hcz19_2 := bc BK471.out 2 (.slice A1_2 l1_2.length c1_2); have hfz19_0 := blk_frozen BK471.out 0; have hfz19_1 := blk_frozen BK471.out 1; have hfz19_2 := blk_frozen BK471.out 2) | ((with_reducible refine gate_callee (f := 64) rfl ?_); refine goesL_ (some 17) rfl rfl Tryd.func64 (by kernel_rfl) rfl #[.agg #[.bool a0_0, .slice A0_1 l0_1.length c0_1, .slice A0_2 l0_2.length c0_2], .agg #[.bool a1_0, .slice A1_1 l1_1.length c1_1, .slice A1_2 l1_2.length c1_2], .bool false] rfl zq5 ?_; (with_reducible refine (number_add.calls k a0_0 _ _ l0_1 _ _ l0_2 a1_0 _ _ l1_1 _ _ l1_2 false t477 t478 t481 t484 _ ?side1 ?side2 ?side3 ?side4 ?side5 ?side6 ?side7 ?side8 A5.out).mono ?_); (case side1 => exact zc ((Kd.V_reads' HO0_1.out).2.2)); (case side2 => exact (Kd.V_reads' HO0_1.out).2.1); (case side3 => exact zc ((Kd.V_reads' HO0_2.out).2.2)); (case side4 => exact (Kd.V_reads' HO0_2.out).2.1); (case side5 => exact zc ((Kd.V_reads' HO1_1.out).2.2)); (case side6 => exact (Kd.V_reads' HO1_1.out).2.1); (case side7 => exact zc ((Kd.V_reads' HO1_2.out).2.2)); (case side8 => exact (Kd.V_reads' HO1_2.out).2.1); rintro e w20 ⟨v479, v482, rfl, ho0, ho1, hb⟩; refine ⟨_, rfl, ?_⟩; refine zt11 (vb HO0_1 hb) (vb HO0_2 hb) (vb HO1_1 hb) (vb HO1_2 hb) (Kd.N_below (by (with_reducible repeat (first | apply Kd.N_alloc | apply Kd.N_drewN | apply Kd.N_drew)); exact HO475.out) hb) (Kd.V_lower (Kd.V_mono (ok' := fun k_ => ((P0_1_ k_ ∨ P0_2_ k_ ∨ P1_1_ k_ ∨ P1_2_ k_) ∨ w.heap.size ≤ k_) ∧ some k_ ≠ (.slice Ao16 y473.length co16 : Value).ownBlock ∧ k_ ≠ gb470 ∧ k_ ≠ gb471 ∧ k_ ≠ gb472) ho0 (fun k_ hk_ => ⟨(.inr (Nat.le_trans (below_size (zb3 GE470.out GE471.out GE472.out)) hk_)), (Kd.fresh' (Kd.N_lt (by (with_reducible repeat (first | apply Kd.N_alloc | apply Kd.N_drewN | apply Kd.N_drew)); exact HO475.out)) k_ hk_), (Kd.freshB (g := gb470) (o := .cells #[.bool a0_0, .slice A0_1 l0_1.length c0_1, .slice A0_2 l0_2.length c0_2] 24 (0, 0)) (zq2 BK470.out) k_ hk_), (Kd.freshB (g := gb471) (o := .cells #[.bool a1_0, .slice A1_1 l1_1.length c1_1, .slice A1_2 l1_2.length c1_2] 24 (0, 0)) (zq2 BK471.out) k_ hk_), (Kd.freshB (g := gb472) (o := .cells #[.bool false, .slice none 0 0, .slice none 0 0] 24 (0, 0)) (zq2 BK472.out) k_ hk_)⟩)) (below_size (zb3 GE470.out GE471.out GE472.out))) (Kd.V_lower (Kd.V_mono (ok' := fun k_ => ((P0_1_ k_ ∨ P0_2_ k_ ∨ P1_1_ k_ ∨ P1_2_ k_) ∨ w.heap.size ≤ k_) ∧ some k_ ≠ (.slice Ao16 y473.length co16 : Value).ownBlock ∧ k_ ≠ gb470 ∧ k_ ≠ gb471 ∧ k_ ≠ gb472) ho1 (fun k_ hk_ => ⟨(.inr (Nat.le_trans (below_size (zb3 GE470.out GE471.out GE472.out)) hk_)), (Kd.fresh' (Kd.N_lt (by (with_reducible repeat (first | apply Kd.N_alloc | apply Kd.N_drewN | apply Kd.N_drew)); exact HO475.out)) k_ hk_), (Kd.freshB (g := gb470) (o := .cells #[.bool a0_0, .slice A0_1 l0_1.length c0_1, .slice A0_2 l0_2.length c0_2] 24 (0, 0)) (zq2 BK470.out) k_ hk_), (Kd.freshB (g := gb471) (o := .cells #[.bool a1_0, .slice A1_1 l1_1.length c1_1, .slice A1_2 l1_2.length c1_2] 24 (0, 0)) (zq2 BK471.out) k_ hk_), (Kd.freshB (g := gb472) (o := .cells #[.bool false, .slice none 0 0, .slice none 0 0] 24 (0, 0)) (zq2 BK472.out) k_ hk_)⟩)) (below_size (zb3 GE470.out GE471.out GE472.out))) (bb BK470.out hb) (bb BK471.out hb) (bb BK472.out hb) (below_step (zb3 GE470.out GE471.out GE472.out) hb) ?_; clear HO0_1 HO0_2 HO1_1 HO1_2 HO475 BK470 BK471 BK472 HB; intro HO0_1 HO0_2 HO1_1 HO1_2 HO475 HO480 HO483 BK470 BK471 BK472 HB; (try clear ho1); have hcz21_0 := bc BK472.out 0 (.bool false); have hcz21_1 := bc BK472.out 1 (.slice none 0 0); have hcz21_2 := bc BK472.out 2 (.slice none 0 0); have hfz21_0 := blk_frozen BK472.out 0; have hfz21_1 := blk_frozen BK472.out 1; have hfz21_2 := blk_frozen BK472.out 2; obtain ⟨Ao22, co22, eo22⟩ := Kd.V_slice HO480.out; subst eo22; obtain ⟨Ao23, co23, eo23⟩ := Kd.V_slice HO483.out; subst eo23))
  refine bodyPost_ret (results_ct rfl _ _ gb472 24 #[.bool t477, .slice Ao22 t478.length co22, .slice Ao23 t481.length co23] (0, 0) _ rfl (by (with_reducible repeat (first | refine blk_drewN ?_ _ | refine blk_drew ?_ | refine blk_alloc ?_ _)); refine blk_put (cs := #[.bool t477, .slice Ao22 t478.length co22, .slice none 0 0]) ?_ 2 _ rfl; (with_reducible repeat (first | refine blk_drewN ?_ _ | refine blk_drew ?_ | refine blk_alloc ?_ _)); refine blk_put (cs := #[.bool t477, .slice none 0 0, .slice none 0 0]) ?_ 1 _ rfl; (with_reducible repeat (first | refine blk_drewN ?_ _ | refine blk_drew ?_ | refine blk_alloc ?_ _)); refine blk_put (cs := #[.bool false, .slice none 0 0, .slice none 0 0]) ?_ 0 _ rfl; (with_reducible repeat (first | refine blk_drewN ?_ _ | refine blk_drew ?_ | refine blk_alloc ?_ _)); exact BK472.out) Tryd.underlying24 rfl (by kernel_rfl)) rfl ?_
  exact ⟨_, _, zq9, zwV (h := by exact Kd.V_mono (zv3 gb472 (.bool t477) (.slice Ao22 t478.length co22) (.slice Ao23 t481.length co23) HO480.out (fun _ hk => hk.2.2.2.2)) (fun _ hk => hk.1.1)), zwV (h := by exact Kd.V_mono (zv3 gb472 (.bool t477) (.slice Ao22 t478.length co22) (.slice Ao23 t481.length co23) HO483.out (fun _ hk => hk.2.2.2.2)) (fun _ hk => hk.1.1)), zb3 GE470.out GE471.out GE472.out⟩
 ·rw [if_neg c4] at H
  have c4b0 : (t476 == 0) = false := beq_eq_false_iff_ne.mpr c4
  have c4b1 : (t476 != 0) = true := bne_iff_ne.mpr c4
  simp only [Option.some.injEq, Prod.mk.injEq] at H
  obtain ⟨rfl, rfl, rfl, rfl⟩ := H
  go_enter Tryd.func25, Tryd.ntmps25
  go_wp2_with (first | ((with_reducible refine gate_dst (N := 2) rfl ?_); refine zbox (N := 2) (cs := #[.bool a0_0, .slice A0_1 l0_1.length c0_1, .slice A0_2 l0_2.length c0_2]) (t := 24) ?_; intro gb470 hg w24 hbox hb; refine zt7 (ve HO0_1 hg hb) (ve HO0_2 hg hb) (ve HO1_1 hg hb) (ve HO1_2 hg hb) (below_step zq1 hb) (hbox) ((zs hg (below_size zq1) : w.heap.size ≤ gb470)) ?_; clear HO0_1 HO0_2 HO1_1 HO1_2 HB; intro HO0_1 HO0_2 HO1_1 HO1_2 HB BK470 GW470; have GE470 := GW470; clear hb hbox hg) | ((with_reducible refine gate_dst (N := 3) rfl ?_); refine zbox (N := 3) (cs := #[.bool a1_0, .slice A1_1 l1_1.length c1_1, .slice A1_2 l1_2.length c1_2]) (t := 24) ?_; intro gb471 hg w25 hbox hb; refine zt10 (ve HO0_1 hg hb) (ve HO0_2 hg hb) (ve HO1_1 hg hb) (ve HO1_2 hg hb) (bb BK470.out hb) (below_step (zb1 GE470.out) hb) (hbox) ((zs hg (below_size (zb1 GE470.out)) : w.heap.size ≤ gb471)) ((by rw [hg]; exact Nat.ne_of_lt (bl BK470.out) : gb470 ≠ gb471)) ((by rw [hg]; exact Nat.ne_of_gt (bl BK470.out) : gb471 ≠ gb470)) ?_; clear HO0_1 HO0_2 HO1_1 HO1_2 BK470 HB; intro HO0_1 HO0_2 HO1_1 HO1_2 BK470 HB BK471 GW471 NB470_471 NB471_470; have GE471 := GW471; clear hb hbox hg) | ((with_reducible refine gate_dst (N := 4) rfl ?_); refine zbox (N := 4) (cs := #[.bool false, .slice none 0 0, .slice none 0 0]) (t := 24) ?_; intro gb472 hg w26 hbox hb; refine zt13 (ve HO0_1 hg hb) (ve HO0_2 hg hb) (ve HO1_1 hg hb) (ve HO1_2 hg hb) (bb BK470.out hb) (bb BK471.out hb) (below_step (zb2 GE470.out GE471.out) hb) (hbox) ((zs hg (below_size (zb2 GE470.out GE471.out)) : w.heap.size ≤ gb472)) ((by rw [hg]; exact Nat.ne_of_lt (bl BK470.out) : gb470 ≠ gb472)) ((by rw [hg]; exact Nat.ne_of_gt (bl BK470.out) : gb472 ≠ gb470)) ((by rw [hg]; exact Nat.ne_of_lt (bl BK471.out) : gb471 ≠ gb472)) ((by rw [hg]; exact Nat.ne_of_gt (bl BK471.out) : gb472 ≠ gb471)) ?_; clear HO0_1 HO0_2 HO1_1 HO1_2 BK470 BK471 HB; intro HO0_1 HO0_2 HO1_1 HO1_2 BK470 BK471 HB BK472 GW472 NB470_472 NB472_470 NB471_472 NB472_471; have GE472 := GW472; clear hb hbox hg; have hnb27 := NB470_471.out; have hnc27 := NB471_470.out; have hnb28 := NB470_472.out; have hnc28 := NB472_470.out; have hcz29_0 := bc BK470.out 0 (.bool a0_0); have hcz29_1 := bc BK470.out 1 (.slice A0_1 l0_1.length c0_1); have hcz29_2 := bc BK470.out 2 (.slice A0_2 l0_2.length c0_2); have hfz29_0 := blk_frozen BK470.out 0; have hfz29_1 := blk_frozen BK470.out 1; have hfz29_2 := blk_frozen BK470.out 2; have hnb30 := NB471_472.out; have hnc30 := NB472_471.out; have hcz31_0 := bc BK471.out 0 (.bool a1_0); have hcz31_1 := bc BK471.out 1 (.slice A1_1 l1_1.length c1_1); have hcz31_2 := bc BK471.out 2 (.slice A1_2 l1_2.length c1_2); have hfz31_0 := blk_frozen BK471.out 0; have hfz31_1 := blk_frozen BK471.out 1; have hfz31_2 := blk_frozen BK471.out 2) | ((with_reducible refine gate_dst (N := 9) rfl ?_); refine Kd.N_lit k24 _ 24 ?hg (N' := 9) ?hd (xs := ([(⟨a0_0, l0_1, l0_2⟩ : S24), (⟨a1_0, l1_1, l1_2⟩ : S24)] : List (S24))) (inner := [.bool a0_0, .slice A0_1 l0_1.length c0_1, .slice A0_2 l0_2.length c0_2, .bool a1_0, .slice A1_1 l1_1.length c1_1, .slice A1_2 l1_2.length c1_2]) (ok := (fun k_ => ((P0_1_ k_ ∨ P0_2_ k_ ∨ P1_1_ k_ ∨ P1_2_ k_) ∨ w.heap.size ≤ k_) ∧ k_ ≠ gb470 ∧ k_ ≠ gb471 ∧ k_ ≠ gb472)) (okp := (fun k_ => ((P0_1_ k_ ∨ P0_2_ k_ ∨ P1_1_ k_ ∨ P1_2_ k_) ∨ w.heap.size ≤ k_) ∧ k_ ≠ gb470 ∧ k_ ≠ gb471 ∧ k_ ≠ gb472)) ?hr ?hp (fun _ hk => hk) ((show ∀ k_, w26.heap.size ≤ k_ → (fun k_ => ((P0_1_ k_ ∨ P0_2_ k_ ∨ P1_1_ k_ ∨ P1_2_ k_) ∨ w.heap.size ≤ k_) ∧ k_ ≠ gb470 ∧ k_ ≠ gb471 ∧ k_ ≠ gb472) k_ from fun k_ hk => ⟨(.inr (Nat.le_trans (below_size (zb3 GE470.out GE471.out GE472.out)) hk)), Kd.freshB (g := gb470) (o := .cells #[.bool a0_0, .slice A0_1 l0_1.length c0_1, .slice A0_2 l0_2.length c0_2] 24 (0, 0)) (zq2 BK470.out) k_ hk, Kd.freshB (g := gb471) (o := .cells #[.bool a1_0, .slice A1_1 l1_1.length c1_1, .slice A1_2 l1_2.length c1_2] 24 (0, 0)) (zq2 BK471.out) k_ hk, Kd.freshB (g := gb472) (o := .cells #[.bool false, .slice none 0 0, .slice none 0 0] 24 (0, 0)) (zq2 BK472.out) k_ hk⟩) _ (Nat.le_refl _)) (Below.refl _ _) (Nat.le_refl _) (by simp) ?_; (case hd => rfl); (case hg => rfl); (case hr => exact zr); (case hp => exact (Reps.c3 (show Kd.FK k24 _ _ (⟨a0_0, l0_1, l0_2⟩ : S24) [.bool a0_0, .slice A0_1 l0_1.length c0_1, .slice A0_2 l0_2.length c0_2] from (k24_mkF _ _ (⟨a0_0, l0_1, l0_2⟩ : S24) (Kd.V_reads' (Kd.V_mono (ok' := (fun k_ => ((P0_1_ k_ ∨ P0_2_ k_ ∨ P1_1_ k_ ∨ P1_2_ k_) ∨ w.heap.size ≤ k_) ∧ k_ ≠ gb470 ∧ k_ ≠ gb471 ∧ k_ ≠ gb472)) (HO0_1.out) (fun k_ hk => ⟨hk.1.1.1, ⟨hk.1.1.2, ⟨hk.1.2, hk.2⟩⟩⟩))).2.1 (Kd.V_F (Kd.V_mono (ok' := (fun k_ => ((P0_1_ k_ ∨ P0_2_ k_ ∨ P1_1_ k_ ∨ P1_2_ k_) ∨ w.heap.size ≤ k_) ∧ k_ ≠ gb470 ∧ k_ ≠ gb471 ∧ k_ ≠ gb472)) (HO0_1.out) (fun k_ hk => ⟨hk.1.1.1, ⟨hk.1.1.2, ⟨hk.1.2, hk.2⟩⟩⟩))) (Kd.V_reads' (Kd.V_mono (ok' := (fun k_ => ((P0_1_ k_ ∨ P0_2_ k_ ∨ P1_1_ k_ ∨ P1_2_ k_) ∨ w.heap.size ≤ k_) ∧ k_ ≠ gb470 ∧ k_ ≠ gb471 ∧ k_ ≠ gb472)) (HO0_2.out) (fun k_ hk => ⟨hk.1.1.1, ⟨hk.1.1.2, ⟨hk.1.2, hk.2⟩⟩⟩))).2.1 (Kd.V_F (Kd.V_mono (ok' := (fun k_ => ((P0_1_ k_ ∨ P0_2_ k_ ∨ P1_1_ k_ ∨ P1_2_ k_) ∨ w.heap.size ≤ k_) ∧ k_ ≠ gb470 ∧ k_ ≠ gb471 ∧ k_ ≠ gb472)) (HO0_2.out) (fun k_ hk => ⟨hk.1.1.1, ⟨hk.1.1.2, ⟨hk.1.2, hk.2⟩⟩⟩))))) (Reps.c3 (show Kd.FK k24 _ _ (⟨a1_0, l1_1, l1_2⟩ : S24) [.bool a1_0, .slice A1_1 l1_1.length c1_1, .slice A1_2 l1_2.length c1_2] from (k24_mkF _ _ (⟨a1_0, l1_1, l1_2⟩ : S24) (Kd.V_reads' (Kd.V_mono (ok' := (fun k_ => ((P0_1_ k_ ∨ P0_2_ k_ ∨ P1_1_ k_ ∨ P1_2_ k_) ∨ w.heap.size ≤ k_) ∧ k_ ≠ gb470 ∧ k_ ≠ gb471 ∧ k_ ≠ gb472)) (HO1_1.out) (fun k_ hk => ⟨hk.1.1.1, ⟨hk.1.1.2, ⟨hk.1.2, hk.2⟩⟩⟩))).2.1 (Kd.V_F (Kd.V_mono (ok' := (fun k_ => ((P0_1_ k_ ∨ P0_2_ k_ ∨ P1_1_ k_ ∨ P1_2_ k_) ∨ w.heap.size ≤ k_) ∧ k_ ≠ gb470 ∧ k_ ≠ gb471 ∧ k_ ≠ gb472)) (HO1_1.out) (fun k_ hk => ⟨hk.1.1.1, ⟨hk.1.1.2, ⟨hk.1.2, hk.2⟩⟩⟩))) (Kd.V_reads' (Kd.V_mono (ok' := (fun k_ => ((P0_1_ k_ ∨ P0_2_ k_ ∨ P1_1_ k_ ∨ P1_2_ k_) ∨ w.heap.size ≤ k_) ∧ k_ ≠ gb470 ∧ k_ ≠ gb471 ∧ k_ ≠ gb472)) (HO1_2.out) (fun k_ hk => ⟨hk.1.1.1, ⟨hk.1.1.2, ⟨hk.1.2, hk.2⟩⟩⟩))).2.1 (Kd.V_F (Kd.V_mono (ok' := (fun k_ => ((P0_1_ k_ ∨ P0_2_ k_ ∨ P1_1_ k_ ∨ P1_2_ k_) ∨ w.heap.size ≤ k_) ∧ k_ ≠ gb470 ∧ k_ ≠ gb471 ∧ k_ ≠ gb472)) (HO1_2.out) (fun k_ hk => ⟨hk.1.1.1, ⟨hk.1.1.2, ⟨hk.1.2, hk.2⟩⟩⟩))))) (Reps.none _ _)))); intro v474 w32 ho33 hb hg_ hnew_; clear hg_ hnew_; (first | rw [← Ny473.out] at ho33 | (simp only [Int.reduceToNat] at ho33; rw [← Ny473.out] at ho33)); refine zt9 (Kd.V_elder' (zq3 HO0_1.out) (Kd.N_base ho33) hb) (Kd.V_elder' (zq3 HO0_2.out) (Kd.N_base ho33) hb) (Kd.V_elder' (zq3 HO1_1.out) (Kd.N_base ho33) hb) (Kd.V_elder' (zq3 HO1_2.out) (Kd.N_base ho33) hb) (Kd.N_lower ho33 (below_size (zb3 GE470.out GE471.out GE472.out))) (bb BK470.out hb) (bb BK471.out hb) (bb BK472.out hb) (below_step (zb3 GE470.out GE471.out GE472.out) hb) ?_; clear HO0_1 HO0_2 HO1_1 HO1_2 BK470 BK471 BK472 HB; intro HO0_1 HO0_2 HO1_1 HO1_2 HO475 BK470 BK471 BK472 HB; clear hb ho33; obtain ⟨Ao34, co34, eo34⟩ := Kd.N_slice HO475.out; subst eo34) | ((with_reducible refine gate_callee (f := 61) rfl ?_); refine goesL_ (some 10) rfl rfl Tryd.func61 (by kernel_rfl) rfl #[.slice Ao34 y473.length co34] rfl zq5 ?_; (with_reducible refine (number_check.calls k _ _ y473 t476 _ ?side1 ?side2 A3.out).mono ?_); (case side1 => exact zc ((Kd.N_reads' HO475.out).2.2)); (case side2 => exact (Kd.N_reads' HO475.out).2.1); rintro e w35 ⟨rfl, hb⟩; refine ⟨_, rfl, ?_⟩; refine zt9 (vb HO0_1 hb) (vb HO0_2 hb) (vb HO1_1 hb) (vb HO1_2 hb) (Kd.N_below (by (with_reducible repeat (first | apply Kd.N_alloc | apply Kd.N_drewN | apply Kd.N_drew)); exact HO475.out) hb) (bb BK470.out hb) (bb BK471.out hb) (bb BK472.out hb) (below_step (zb3 GE470.out GE471.out GE472.out) hb) ?_; clear HO0_1 HO0_2 HO1_1 HO1_2 HO475 BK470 BK471 BK472 HB; intro HO0_1 HO0_2 HO1_1 HO1_2 HO475 BK470 BK471 BK472 HB; (try clear hb); (try clear hb2); (try clear hk); (try clear hi); have hcz36_0 := bc BK472.out 0 (.bool false); have hcz36_1 := bc BK472.out 1 (.slice none 0 0); have hcz36_2 := bc BK472.out 2 (.slice none 0 0); have hfz36_0 := blk_frozen BK472.out 0; have hfz36_1 := blk_frozen BK472.out 1; have hfz36_2 := blk_frozen BK472.out 2))
  refine bodyPost_ret (results_ct rfl _ _ gb472 24 #[.bool false, .slice none 0 0, .slice none 0 0] (0, 0) _ rfl (by (with_reducible repeat (first | refine blk_drewN ?_ _ | refine blk_drew ?_ | refine blk_alloc ?_ _)); refine blk_put (cs := #[.bool false, .slice none 0 0, .slice none 0 0]) ?_ 2 _ rfl; (with_reducible repeat (first | refine blk_drewN ?_ _ | refine blk_drew ?_ | refine blk_alloc ?_ _)); refine blk_put (cs := #[.bool false, .slice none 0 0, .slice none 0 0]) ?_ 1 _ rfl; (with_reducible repeat (first | refine blk_drewN ?_ _ | refine blk_drew ?_ | refine blk_alloc ?_ _)); refine blk_put (cs := #[.bool false, .slice none 0 0, .slice none 0 0]) ?_ 0 _ rfl; (with_reducible repeat (first | refine blk_drewN ?_ _ | refine blk_drew ?_ | refine blk_alloc ?_ _)); exact BK472.out) Tryd.underlying24 rfl (by kernel_rfl)) rfl ?_
  exact ⟨_, _, zq9, Kd.V_mono (Kd.V_nil _ _ _ _ _) (fun k_ hk => by first | exact ⟨(.inr (hk.1)), hk.2⟩ | exact (.inr (hk))), Kd.V_mono (Kd.V_nil _ _ _ _ _) (fun k_ hk => by first | exact ⟨(.inr (hk.1)), hk.2⟩ | exact (.inr (hk))), zb3 GE470.out GE471.out GE472.out⟩
end Go.Proofs.YtemnjgkicndmjaaDoor.Q

namespace Go.Proofs.YtemnjgkicndmjaaDoor.Q
open Go.RowKit Go.Proofs.YtemnjgkicndmjaaDoorW.PrintWords Go.Proofs.YtemnjgkicndmjaaDoorW.PrintLast Go.Proofs.YtemnjgkicndmjaaDoorW.PrintMore
attribute [local go_sem] max2_int min2_int max_two min_two max_three min_three max_four min_four
set_option linter.unusedVariables false
set_option linter.unusedSimpArgs false
def lw_counted.f (k : Nat)  : Option (Bool) := (number_Parse.f k (⟨#[45, 48, 54, 114, 52]⟩ : ByteArray)).bind fun bt485 => ((number_Parse.f k (⟨#[55]⟩ : ByteArray)).bind fun bt494 => ((number_Add.f k bt485.1 bt485.2.1 bt485.2.2.1 bt494.1 bt494.2.1 bt494.2.2.1).bind fun bt503 => ((number_Format.f k bt503.1 bt503.2.1 bt503.2.2.1).bind fun bt512 => (if bt485.2.2.2 = 0 then (if bt494.2.2.2 = 0 then (if bt503.2.2.2 = 0 then (if bt512.2 = 0 then (some (bt512.1.toList == ([49, 49, 114, 50] : List UInt8))) else (some false)) else (some false)) else (some false)) else (some false)))))
theorem lw_counted.mono : ∀ k, LeO (lw_counted.f k ) (lw_counted.f (k + 1) ) := by
 intro  k
 unfold lw_counted.f
 have m0 := @number_Add.mono
 have m1 := @number_Format.mono
 have m2 := @number_Parse.mono
 exact zm
set_option maxHeartbeats 8000000 in
set_option maxRecDepth 100000 in
theorem lw_counted.calls (k : Nat)  (r : Bool) (w : World) (h : lw_counted.f k  = some r) (hr : r = true := by assumption) :
  Calls Tryd.prog 16 #[] w fun e w' => e = .returned (.bool r) ∧ Below w.heap.size w w' := by
 have hu24 := Tryd.underlying24
 have HB := am (Below.refl w.heap.size w)
 have H := h
 unfold lw_counted.f at H
 clear h
 replace H := zj H
 obtain ⟨⟨t485, t486, t489, t492⟩, A1, H⟩ := H
 try dsimp only at H
 replace H := zj H
 obtain ⟨⟨t494, t495, t498, t501⟩, A2, H⟩ := H
 try dsimp only at H
 replace H := zj H
 obtain ⟨⟨t503, t504, t507, t510⟩, A3, H⟩ := H
 try dsimp only at H
 replace H := zj H
 obtain ⟨⟨t512, t513⟩, A4, H⟩ := H
 try dsimp only at H
 by_cases c5 : t492 = 0
 ·rw [if_pos c5] at H
  have c5b0 : (t492 == 0) = true := beq_iff_eq.mpr c5
  have c5b1 : (t492 != 0) = false := bne_eq_false_iff_eq.mpr c5
  clear c5
  by_cases c6 : t501 = 0
  ·rw [if_pos c6] at H
   have c6b0 : (t501 == 0) = true := beq_iff_eq.mpr c6
   have c6b1 : (t501 != 0) = false := bne_eq_false_iff_eq.mpr c6
   clear c6
   by_cases c7 : t510 = 0
   ·rw [if_pos c7] at H
    have c7b0 : (t510 == 0) = true := beq_iff_eq.mpr c7
    have c7b1 : (t510 != 0) = false := bne_eq_false_iff_eq.mpr c7
    clear c7
    by_cases c8 : t513 = 0
    ·rw [if_pos c8] at H
     have c8b0 : (t513 == 0) = true := beq_iff_eq.mpr c8
     have c8b1 : (t513 != 0) = false := bne_eq_false_iff_eq.mpr c8
     clear c8
     obtain rfl := Option.some.inj H
     go_enter Tryd.func16, Tryd.ntmps16
     go_wp2_with (first | ((with_reducible refine gate_callee (f := 19) rfl ?_); refine goesL_ (some 10) rfl rfl Tryd.func19 (by kernel_rfl) rfl #[.string (⟨#[45, 48, 54, 114, 52]⟩ : ByteArray)] rfl zq5 ?_; (with_reducible refine (number_Parse.calls k (⟨#[45, 48, 54, 114, 52]⟩ : ByteArray) t485 t486 t489 t492 _ A1.out).mono ?_); rintro e w9 ⟨v487, v490, rfl, ho0, ho1, hb⟩; refine ⟨_, rfl, ?_⟩; refine zt3 (Kd.V_lower (Kd.V_mono (ok' := fun k_ => True) ho0 (fun k_ hk_ => trivial)) (below_size zq1)) (Kd.V_lower (Kd.V_mono (ok' := fun k_ => True) ho1 (fun k_ hk_ => trivial)) (below_size zq1)) (below_step zq1 hb) ?_; clear HB; intro HO488 HO491 HB; (try clear ho1)) | ((with_reducible refine gate_dst (N := 1) rfl ?_); refine zbox (N := 1) (cs := #[.bool false, .slice none 0 0, .slice none 0 0]) (t := 24) ?_; intro gb493 hg w10 hbox hb; refine zt5 (ve HO488 hg hb) (ve HO491 hg hb) (below_step zq1 hb) (hbox) ((zs hg (below_size zq1) : w.heap.size ≤ gb493)) ?_; clear HO488 HO491 HB; intro HO488 HO491 HB BK493 GW493; have GE493 := GW493; clear hb hbox hg; have hcz11_0 := bc BK493.out 0 (.bool false); have hcz11_1 := bc BK493.out 1 (.slice none 0 0); have hcz11_2 := bc BK493.out 2 (.slice none 0 0); have hfz11_0 := blk_frozen BK493.out 0; have hfz11_1 := blk_frozen BK493.out 1; have hfz11_2 := blk_frozen BK493.out 2; obtain ⟨Ao12, co12, eo12⟩ := Kd.V_slice HO488.out; subst eo12; obtain ⟨Ao13, co13, eo13⟩ := Kd.V_slice HO491.out; subst eo13) | ((with_reducible refine gate_callee (f := 19) rfl ?_); refine goesL_ (some 14) rfl rfl Tryd.func19 (by kernel_rfl) rfl #[.string (⟨#[55]⟩ : ByteArray)] rfl zq5 ?_; (with_reducible refine (number_Parse.calls k (⟨#[55]⟩ : ByteArray) t494 t495 t498 t501 _ A2.out).mono ?_); rintro e w14 ⟨v496, v499, rfl, ho0, ho1, hb⟩; refine ⟨_, rfl, ?_⟩; refine zt6 (Kd.V_below (by (with_reducible repeat (first | apply Kd.V_alloc | apply Kd.V_drewN | apply Kd.V_drew)); exact (Kd.V_mono (zv3 gb493 (.bool t485) (.slice Ao12 t486.length co12) (.slice Ao13 t489.length co13) HO488.out (fun _ hk => hk.2)) (fun _ h_ => h_.1))) hb) (Kd.V_below (by (with_reducible repeat (first | apply Kd.V_alloc | apply Kd.V_drewN | apply Kd.V_drew)); exact (Kd.V_mono (zv3 gb493 (.bool t485) (.slice Ao12 t486.length co12) (.slice Ao13 t489.length co13) HO491.out (fun _ hk => hk.2)) (fun _ h_ => h_.1))) hb) (Kd.V_lower (Kd.V_mono (ok' := fun k_ => k_ ≠ gb493) ho0 (fun k_ hk_ => (Kd.freshB (g := gb493) (o := .cells #[.bool t485, .slice Ao12 t486.length co12, .slice Ao13 t489.length co13] 24 (0, 0)) (by (with_reducible repeat (first | refine blk_drewN ?_ _ | refine blk_drew ?_ | refine blk_alloc ?_ _)); refine blk_put (cs := #[.bool t485, .slice Ao12 t486.length co12, .slice none 0 0]) ?_ 2 _ rfl; (with_reducible repeat (first | refine blk_drewN ?_ _ | refine blk_drew ?_ | refine blk_alloc ?_ _)); refine blk_put (cs := #[.bool t485, .slice none 0 0, .slice none 0 0]) ?_ 1 _ rfl; (with_reducible repeat (first | refine blk_drewN ?_ _ | refine blk_drew ?_ | refine blk_alloc ?_ _)); refine blk_put (cs := #[.bool false, .slice none 0 0, .slice none 0 0]) ?_ 0 _ rfl; (with_reducible repeat (first | refine blk_drewN ?_ _ | refine blk_drew ?_ | refine blk_alloc ?_ _)); exact BK493.out) k_ hk_))) (below_size (zb1 GE493.out))) (Kd.V_lower (Kd.V_mono (ok' := fun k_ => k_ ≠ gb493) ho1 (fun k_ hk_ => (Kd.freshB (g := gb493) (o := .cells #[.bool t485, .slice Ao12 t486.length co12, .slice Ao13 t489.length co13] 24 (0, 0)) (by (with_reducible repeat (first | refine blk_drewN ?_ _ | refine blk_drew ?_ | refine blk_alloc ?_ _)); refine blk_put (cs := #[.bool t485, .slice Ao12 t486.length co12, .slice none 0 0]) ?_ 2 _ rfl; (with_reducible repeat (first | refine blk_drewN ?_ _ | refine blk_drew ?_ | refine blk_alloc ?_ _)); refine blk_put (cs := #[.bool t485, .slice none 0 0, .slice none 0 0]) ?_ 1 _ rfl; (with_reducible repeat (first | refine blk_drewN ?_ _ | refine blk_drew ?_ | refine blk_alloc ?_ _)); refine blk_put (cs := #[.bool false, .slice none 0 0, .slice none 0 0]) ?_ 0 _ rfl; (with_reducible repeat (first | refine blk_drewN ?_ _ | refine blk_drew ?_ | refine blk_alloc ?_ _)); exact BK493.out) k_ hk_))) (below_size (zb1 GE493.out))) (blk_below (g := gb493) (o := .cells #[.bool t485, .slice Ao12 t486.length co12, .slice Ao13 t489.length co13] 24 (0, 0)) (by (with_reducible repeat (first | refine blk_drewN ?_ _ | refine blk_drew ?_ | refine blk_alloc ?_ _)); refine blk_put (cs := #[.bool t485, .slice Ao12 t486.length co12, .slice none 0 0]) ?_ 2 _ rfl; (with_reducible repeat (first | refine blk_drewN ?_ _ | refine blk_drew ?_ | refine blk_alloc ?_ _)); refine blk_put (cs := #[.bool t485, .slice none 0 0, .slice none 0 0]) ?_ 1 _ rfl; (with_reducible repeat (first | refine blk_drewN ?_ _ | refine blk_drew ?_ | refine blk_alloc ?_ _)); refine blk_put (cs := #[.bool false, .slice none 0 0, .slice none 0 0]) ?_ 0 _ rfl; (with_reducible repeat (first | refine blk_drewN ?_ _ | refine blk_drew ?_ | refine blk_alloc ?_ _)); exact BK493.out) hb) (below_step (zb1 GE493.out) hb) ?_; clear HO488 HO491 BK493 HB; intro HO488 HO491 HO497 HO500 BK493 HB; (try clear ho1)) | ((with_reducible refine gate_dst (N := 3) rfl ?_); refine zbox (N := 3) (cs := #[.bool false, .slice none 0 0, .slice none 0 0]) (t := 24) ?_; intro gb502 hg w15 hbox hb; refine zt10 (ve HO488 hg hb) (ve HO491 hg hb) (ve HO497 hg hb) (ve HO500 hg hb) (bb BK493.out hb) (below_step (zb1 GE493.out) hb) (hbox) ((zs hg (below_size (zb1 GE493.out)) : w.heap.size ≤ gb502)) ((by rw [hg]; exact Nat.ne_of_lt (bl BK493.out) : gb493 ≠ gb502)) ((by rw [hg]; exact Nat.ne_of_gt (bl BK493.out) : gb502 ≠ gb493)) ?_; clear HO488 HO491 HO497 HO500 BK493 HB; intro HO488 HO491 HO497 HO500 BK493 HB BK502 GW502 NB493_502 NB502_493; have GE502 := GW502; clear hb hbox hg; have hnb16 := NB502_493.out; have hnc16 := NB493_502.out; have hcz17_0 := bc BK502.out 0 (.bool false); have hcz17_1 := bc BK502.out 1 (.slice none 0 0); have hcz17_2 := bc BK502.out 2 (.slice none 0 0); have hfz17_0 := blk_frozen BK502.out 0; have hfz17_1 := blk_frozen BK502.out 1; have hfz17_2 := blk_frozen BK502.out 2; obtain ⟨Ao18, co18, eo18⟩ := Kd.V_slice HO497.out; subst eo18; obtain ⟨Ao19, co19, eo19⟩ := Kd.V_slice HO500.out; subst eo19) | ((with_reducible refine gate_store (t := 24) (p := 3) rfl ?_); refine zstore (t := 24) (p := 3) (w1 := (((w15.setCell ⟨gb502, 0, none⟩ (.bool t494)).setCell ⟨gb502, 1, none⟩ (.slice Ao18 t495.length co18)).setCell ⟨gb502, 2, none⟩ (.slice Ao19 t498.length co19))) ?_; intro w20 hw; have n0_ : Aside0 (Kd.V (Kd.int .u32) 55 w20 w.heap.size (fun k_ => k_ ≠ gb493 ∧ k_ ≠ gb502) (.slice Ao12 t486.length co12) t486) := ⟨(by rw [hw]; exact (zwV (h := by exact Kd.V_mono (zv3 gb502 (.bool t494) (.slice Ao18 t495.length co18) (.slice Ao19 t498.length co19) HO488.out (fun _ hk => hk.2)) (fun _ hk => ⟨hk.1.1.2, hk.1.2⟩))))⟩; have n1_ : Aside0 (Kd.V (Kd.int .u32) 55 w20 w.heap.size (fun k_ => k_ ≠ gb493 ∧ k_ ≠ gb502) (.slice Ao13 t489.length co13) t489) := ⟨(by rw [hw]; exact (zwV (h := by exact Kd.V_mono (zv3 gb502 (.bool t494) (.slice Ao18 t495.length co18) (.slice Ao19 t498.length co19) HO491.out (fun _ hk => hk.2)) (fun _ hk => ⟨hk.1.1.2, hk.1.2⟩))))⟩; have n2_ : Aside0 (Kd.V (Kd.int .u32) 55 w20 w.heap.size (fun k_ => k_ ≠ gb493 ∧ k_ ≠ gb502) (.slice Ao18 t495.length co18) t495) := ⟨(by rw [hw]; exact (zwV (h := by exact Kd.V_mono (zv3 gb502 (.bool t494) (.slice Ao18 t495.length co18) (.slice Ao19 t498.length co19) HO497.out (fun _ hk => hk.2)) (fun _ hk => ⟨hk.1.1, hk.1.2⟩))))⟩; have n3_ : Aside0 (Kd.V (Kd.int .u32) 55 w20 w.heap.size (fun k_ => k_ ≠ gb493 ∧ k_ ≠ gb502) (.slice Ao19 t498.length co19) t498) := ⟨(by rw [hw]; exact (zwV (h := by exact Kd.V_mono (zv3 gb502 (.bool t494) (.slice Ao18 t495.length co18) (.slice Ao19 t498.length co19) HO500.out (fun _ hk => hk.2)) (fun _ hk => ⟨hk.1.1, hk.1.2⟩))))⟩; have n4_ : Aside0 (w20.heap[gb493]? = some (.cells #[.bool t485, .slice Ao12 t486.length co12, .slice Ao13 t489.length co13] 24 (0, 0))) := ⟨(by rw [hw]; exact (by (with_reducible repeat (first | refine blk_drewN ?_ _ | refine blk_drew ?_ | refine blk_alloc ?_ _)); refine blk_far ?_ NB493_502.out _; (with_reducible repeat (first | refine blk_drewN ?_ _ | refine blk_drew ?_ | refine blk_alloc ?_ _)); refine blk_far ?_ NB493_502.out _; (with_reducible repeat (first | refine blk_drewN ?_ _ | refine blk_drew ?_ | refine blk_alloc ?_ _)); refine blk_far ?_ NB493_502.out _; (with_reducible repeat (first | refine blk_drewN ?_ _ | refine blk_drew ?_ | refine blk_alloc ?_ _)); exact BK493.out))⟩; have n5_ : Aside0 (w20.heap[gb502]? = some (.cells #[.bool t494, .slice Ao18 t495.length co18, .slice Ao19 t498.length co19] 24 (0, 0))) := ⟨(by rw [hw]; exact (by (with_reducible repeat (first | refine blk_drewN ?_ _ | refine blk_drew ?_ | refine blk_alloc ?_ _)); refine blk_put (cs := #[.bool t494, .slice Ao18 t495.length co18, .slice none 0 0]) ?_ 2 _ rfl; (with_reducible repeat (first | refine blk_drewN ?_ _ | refine blk_drew ?_ | refine blk_alloc ?_ _)); refine blk_put (cs := #[.bool t494, .slice none 0 0, .slice none 0 0]) ?_ 1 _ rfl; (with_reducible repeat (first | refine blk_drewN ?_ _ | refine blk_drew ?_ | refine blk_alloc ?_ _)); refine blk_put (cs := #[.bool false, .slice none 0 0, .slice none 0 0]) ?_ 0 _ rfl; (with_reducible repeat (first | refine blk_drewN ?_ _ | refine blk_drew ?_ | refine blk_alloc ?_ _)); exact BK502.out))⟩; have n6_ : Aside0 (Below w.heap.size w w20) := ⟨(by rw [hw]; exact (zb2 GE493.out GE502.out))⟩; clear hw HO488 HO491 HO497 HO500 BK493 BK502 HB; have HO488 := n0_; have HO491 := n1_; have HO497 := n2_; have HO500 := n3_; have BK493 := n4_; have BK502 := n5_; have HB := n6_; clear n0_ n1_ n2_ n3_ n4_ n5_ n6_; have hcz21_0 := bc BK493.out 0 (.bool t485); have hcz21_1 := bc BK493.out 1 (.slice Ao12 t486.length co12); have hcz21_2 := bc BK493.out 2 (.slice Ao13 t489.length co13); have hfz21_0 := blk_frozen BK493.out 0; have hfz21_1 := blk_frozen BK493.out 1; have hfz21_2 := blk_frozen BK493.out 2; have hcz22_0 := bc BK502.out 0 (.bool t494); have hcz22_1 := bc BK502.out 1 (.slice Ao18 t495.length co18); have hcz22_2 := bc BK502.out 2 (.slice Ao19 t498.length co19); have hfz22_0 := blk_frozen BK502.out 0; have hfz22_1 := blk_frozen BK502.out 1; have hfz22_2 := blk_frozen BK502.out 2) | ((with_reducible refine gate_callee (f := 25) rfl ?_); refine goesL_ (some 20) rfl rfl Tryd.func25 (by kernel_rfl) rfl #[.agg #[.bool t485, .slice Ao12 t486.length co12, .slice Ao13 t489.length co13], .agg #[.bool t494, .slice Ao18 t495.length co18, .slice Ao19 t498.length co19]] rfl zq5 ?_; (with_reducible refine (number_Add.calls k t485 (fun k_ => (k_ ≠ gb493 ∧ k_ ≠ gb502)) _ _ t486 (fun k_ => (k_ ≠ gb493 ∧ k_ ≠ gb502)) _ _ t489 t494 (fun k_ => (k_ ≠ gb493 ∧ k_ ≠ gb502)) _ _ t495 (fun k_ => (k_ ≠ gb493 ∧ k_ ≠ gb502)) _ _ t498 t503 t504 t507 t510 _ ?side1 ?side2 ?side3 ?side4 A3.out).mono ?_); (case side1 => exact HO488.out); (case side2 => exact HO491.out); (case side3 => exact HO497.out); (case side4 => exact HO500.out); rintro e w23 ⟨v505, v508, rfl, ho0, ho1, hb⟩; refine ⟨_, rfl, ?_⟩; refine zt9 (vb HO488 hb) (vb HO491 hb) (vb HO497 hb) (vb HO500 hb) (Kd.V_lower (Kd.V_mono (ok' := fun k_ => k_ ≠ gb493 ∧ k_ ≠ gb502) ho0 (fun k_ hk_ => ⟨Or.elim hk_ (fun hs_ => Or.elim hs_ (fun hs_ => hs_.1) (fun hs_ => Or.elim hs_ (fun hs_ => hs_.1) (fun hs_ => Or.elim hs_ (fun hs_ => hs_.1) (fun hs_ => hs_.1)))) (fun hn_ => (Kd.freshB (g := gb493) (o := .cells #[.bool t485, .slice Ao12 t486.length co12, .slice Ao13 t489.length co13] 24 (0, 0)) (zq2 BK493.out) k_ hn_)), Or.elim hk_ (fun hs_ => Or.elim hs_ (fun hs_ => hs_.2) (fun hs_ => Or.elim hs_ (fun hs_ => hs_.2) (fun hs_ => Or.elim hs_ (fun hs_ => hs_.2) (fun hs_ => hs_.2)))) (fun hn_ => (Kd.freshB (g := gb502) (o := .cells #[.bool t494, .slice Ao18 t495.length co18, .slice Ao19 t498.length co19] 24 (0, 0)) (zq2 BK502.out) k_ hn_))⟩)) (below_size (zb2 GE493.out GE502.out))) (Kd.V_lower (Kd.V_mono (ok' := fun k_ => k_ ≠ gb493 ∧ k_ ≠ gb502) ho1 (fun k_ hk_ => ⟨Or.elim hk_ (fun hs_ => Or.elim hs_ (fun hs_ => hs_.1) (fun hs_ => Or.elim hs_ (fun hs_ => hs_.1) (fun hs_ => Or.elim hs_ (fun hs_ => hs_.1) (fun hs_ => hs_.1)))) (fun hn_ => (Kd.freshB (g := gb493) (o := .cells #[.bool t485, .slice Ao12 t486.length co12, .slice Ao13 t489.length co13] 24 (0, 0)) (zq2 BK493.out) k_ hn_)), Or.elim hk_ (fun hs_ => Or.elim hs_ (fun hs_ => hs_.2) (fun hs_ => Or.elim hs_ (fun hs_ => hs_.2) (fun hs_ => Or.elim hs_ (fun hs_ => hs_.2) (fun hs_ => hs_.2)))) (fun hn_ => (Kd.freshB (g := gb502) (o := .cells #[.bool t494, .slice Ao18 t495.length co18, .slice Ao19 t498.length co19] 24 (0, 0)) (zq2 BK502.out) k_ hn_))⟩)) (below_size (zb2 GE493.out GE502.out))) (bb BK493.out hb) (bb BK502.out hb) (below_step (zb2 GE493.out GE502.out) hb) ?_; clear HO488 HO491 HO497 HO500 BK493 BK502 HB; intro HO488 HO491 HO497 HO500 HO506 HO509 BK493 BK502 HB; (try clear ho1)) | ((with_reducible refine gate_dst (N := 5) rfl ?_); refine zbox (N := 5) (cs := #[.bool false, .slice none 0 0, .slice none 0 0]) (t := 24) ?_; intro gb511 hg w24 hbox hb; refine zt15 (ve HO488 hg hb) (ve HO491 hg hb) (ve HO497 hg hb) (ve HO500 hg hb) (ve HO506 hg hb) (ve HO509 hg hb) (bb BK493.out hb) (bb BK502.out hb) (below_step (zb2 GE493.out GE502.out) hb) (hbox) ((zs hg (below_size (zb2 GE493.out GE502.out)) : w.heap.size ≤ gb511)) ((by rw [hg]; exact Nat.ne_of_lt (bl BK493.out) : gb493 ≠ gb511)) ((by rw [hg]; exact Nat.ne_of_gt (bl BK493.out) : gb511 ≠ gb493)) ((by rw [hg]; exact Nat.ne_of_lt (bl BK502.out) : gb502 ≠ gb511)) ((by rw [hg]; exact Nat.ne_of_gt (bl BK502.out) : gb511 ≠ gb502)) ?_; clear HO488 HO491 HO497 HO500 HO506 HO509 BK493 BK502 HB; intro HO488 HO491 HO497 HO500 HO506 HO509 BK493 BK502 HB BK511 GW511 NB493_511 NB511_493 NB502_511 NB511_502; have GE511 := GW511; clear hb hbox hg; have hnb25 := NB511_493.out; have hnc25 := NB493_511.out; have hnb26 := NB511_502.out; have hnc26 := NB502_511.out; have hcz27_0 := bc BK511.out 0 (.bool false); have hcz27_1 := bc BK511.out 1 (.slice none 0 0); have hcz27_2 := bc BK511.out 2 (.slice none 0 0); have hfz27_0 := blk_frozen BK511.out 0; have hfz27_1 := blk_frozen BK511.out 1; have hfz27_2 := blk_frozen BK511.out 2; obtain ⟨Ao28, co28, eo28⟩ := Kd.V_slice HO506.out; subst eo28; obtain ⟨Ao29, co29, eo29⟩ := Kd.V_slice HO509.out; subst eo29) | ((with_reducible refine gate_callee (f := 17) rfl ?_); refine goesL_ (some 25) rfl rfl Tryd.func17 (by kernel_rfl) rfl #[.agg #[.bool t503, .slice Ao28 t504.length co28, .slice Ao29 t507.length co29]] rfl zq5 ?_; (with_reducible refine (number_Format.calls k t503 _ _ t504 _ _ t507 t512 t513 _ ?side1 ?side2 ?side3 ?side4 A4.out).mono ?_); (case side1 => refine (Kd.V_reads' (e := 55) (base := w.heap.size) (ok := fun k_ => ((k_ ≠ gb493 ∧ k_ ≠ gb502) ∧ k_ ≠ gb511)) (n := t504.length) (c := co28) ?_).2.2; exact (by (with_reducible repeat (first | apply Kd.V_alloc | apply Kd.V_drewN | apply Kd.V_drew)); exact (Kd.V_mono (zv3 gb511 (.bool t503) (.slice Ao28 t504.length co28) (.slice Ao29 t507.length co29) HO506.out (fun _ hk => hk.2)) (fun _ h_ => h_.1)))); (case side2 => exact (Kd.V_reads' HO506.out).2.1); (case side3 => refine (Kd.V_reads' (e := 55) (base := w.heap.size) (ok := fun k_ => ((k_ ≠ gb493 ∧ k_ ≠ gb502) ∧ k_ ≠ gb511)) (n := t507.length) (c := co29) ?_).2.2; exact (by (with_reducible repeat (first | apply Kd.V_alloc | apply Kd.V_drewN | apply Kd.V_drew)); exact (Kd.V_mono (zv3 gb511 (.bool t503) (.slice Ao28 t504.length co28) (.slice Ao29 t507.length co29) HO509.out (fun _ hk => hk.2)) (fun _ h_ => h_.1)))); (case side4 => exact (Kd.V_reads' HO509.out).2.1); rintro e w30 ⟨rfl, hb⟩; refine ⟨_, rfl, ?_⟩; refine zt10 (Kd.V_below (by (with_reducible repeat (first | apply Kd.V_alloc | apply Kd.V_drewN | apply Kd.V_drew)); exact (Kd.V_mono (zv3 gb511 (.bool t503) (.slice Ao28 t504.length co28) (.slice Ao29 t507.length co29) HO488.out (fun _ hk => hk.2)) (fun _ h_ => h_.1))) hb) (Kd.V_below (by (with_reducible repeat (first | apply Kd.V_alloc | apply Kd.V_drewN | apply Kd.V_drew)); exact (Kd.V_mono (zv3 gb511 (.bool t503) (.slice Ao28 t504.length co28) (.slice Ao29 t507.length co29) HO491.out (fun _ hk => hk.2)) (fun _ h_ => h_.1))) hb) (Kd.V_below (by (with_reducible repeat (first | apply Kd.V_alloc | apply Kd.V_drewN | apply Kd.V_drew)); exact (Kd.V_mono (zv3 gb511 (.bool t503) (.slice Ao28 t504.length co28) (.slice Ao29 t507.length co29) HO497.out (fun _ hk => hk.2)) (fun _ h_ => h_.1))) hb) (Kd.V_below (by (with_reducible repeat (first | apply Kd.V_alloc | apply Kd.V_drewN | apply Kd.V_drew)); exact (Kd.V_mono (zv3 gb511 (.bool t503) (.slice Ao28 t504.length co28) (.slice Ao29 t507.length co29) HO500.out (fun _ hk => hk.2)) (fun _ h_ => h_.1))) hb) (Kd.V_below (by (with_reducible repeat (first | apply Kd.V_alloc | apply Kd.V_drewN | apply Kd.V_drew)); exact (Kd.V_mono (zv3 gb511 (.bool t503) (.slice Ao28 t504.length co28) (.slice Ao29 t507.length co29) HO506.out (fun _ hk => hk.2)) (fun _ h_ => h_.1))) hb) (Kd.V_below (by (with_reducible repeat (first | apply Kd.V_alloc | apply Kd.V_drewN | apply Kd.V_drew)); exact (Kd.V_mono (zv3 gb511 (.bool t503) (.slice Ao28 t504.length co28) (.slice Ao29 t507.length co29) HO509.out (fun _ hk => hk.2)) (fun _ h_ => h_.1))) hb) (blk_below (g := gb493) (o := .cells #[.bool t485, .slice Ao12 t486.length co12, .slice Ao13 t489.length co13] 24 (0, 0)) (by (with_reducible repeat (first | refine blk_drewN ?_ _ | refine blk_drew ?_ | refine blk_alloc ?_ _)); refine blk_far ?_ NB493_511.out _; (with_reducible repeat (first | refine blk_drewN ?_ _ | refine blk_drew ?_ | refine blk_alloc ?_ _)); refine blk_far ?_ NB493_511.out _; (with_reducible repeat (first | refine blk_drewN ?_ _ | refine blk_drew ?_ | refine blk_alloc ?_ _)); refine blk_far ?_ NB493_511.out _; (with_reducible repeat (first | refine blk_drewN ?_ _ | refine blk_drew ?_ | refine blk_alloc ?_ _)); exact BK493.out) hb) (blk_below (g := gb502) (o := .cells #[.bool t494, .slice Ao18 t495.length co18, .slice Ao19 t498.length co19] 24 (0, 0)) (by (with_reducible repeat (first | refine blk_drewN ?_ _ | refine blk_drew ?_ | refine blk_alloc ?_ _)); refine blk_far ?_ NB502_511.out _; (with_reducible repeat (first | refine blk_drewN ?_ _ | refine blk_drew ?_ | refine blk_alloc ?_ _)); refine blk_far ?_ NB502_511.out _; (with_reducible repeat (first | refine blk_drewN ?_ _ | refine blk_drew ?_ | refine blk_alloc ?_ _)); refine blk_far ?_ NB502_511.out _; (with_reducible repeat (first | refine blk_drewN ?_ _ | refine blk_drew ?_ | refine blk_alloc ?_ _)); exact BK502.out) hb) (blk_below (g := gb511) (o := .cells #[.bool t503, .slice Ao28 t504.length co28, .slice Ao29 t507.length co29] 24 (0, 0)) (by (with_reducible repeat (first | refine blk_drewN ?_ _ | refine blk_drew ?_ | refine blk_alloc ?_ _)); refine blk_put (cs := #[.bool t503, .slice Ao28 t504.length co28, .slice none 0 0]) ?_ 2 _ rfl; (with_reducible repeat (first | refine blk_drewN ?_ _ | refine blk_drew ?_ | refine blk_alloc ?_ _)); refine blk_put (cs := #[.bool t503, .slice none 0 0, .slice none 0 0]) ?_ 1 _ rfl; (with_reducible repeat (first | refine blk_drewN ?_ _ | refine blk_drew ?_ | refine blk_alloc ?_ _)); refine blk_put (cs := #[.bool false, .slice none 0 0, .slice none 0 0]) ?_ 0 _ rfl; (with_reducible repeat (first | refine blk_drewN ?_ _ | refine blk_drew ?_ | refine blk_alloc ?_ _)); exact BK511.out) hb) (below_step (zb3 GE493.out GE502.out GE511.out) hb) ?_; clear HO488 HO491 HO497 HO500 HO506 HO509 BK493 BK502 BK511 HB; intro HO488 HO491 HO497 HO500 HO506 HO509 BK493 BK502 BK511 HB; (try clear hb); (try clear hb2); (try clear hk); (try clear hi)))
     go_ret
     exact ⟨zq9, zb3 GE493.out GE502.out GE511.out⟩
    ·rw [if_neg c8] at H
     have c8b0 : (t513 == 0) = false := beq_eq_false_iff_ne.mpr c8
     have c8b1 : (t513 != 0) = true := bne_iff_ne.mpr c8
     obtain rfl := Option.some.inj H
     cases hr
   ·rw [if_neg c7] at H
    have c7b0 : (t510 == 0) = false := beq_eq_false_iff_ne.mpr c7
    have c7b1 : (t510 != 0) = true := bne_iff_ne.mpr c7
    obtain rfl := Option.some.inj H
    cases hr
  ·rw [if_neg c6] at H
   have c6b0 : (t501 == 0) = false := beq_eq_false_iff_ne.mpr c6
   have c6b1 : (t501 != 0) = true := bne_iff_ne.mpr c6
   obtain rfl := Option.some.inj H
   cases hr
 ·rw [if_neg c5] at H
  have c5b0 : (t492 == 0) = false := beq_eq_false_iff_ne.mpr c5
  have c5b1 : (t492 != 0) = true := bne_iff_ne.mpr c5
  obtain rfl := Option.some.inj H
  cases hr
end Go.Proofs.YtemnjgkicndmjaaDoor.Q
namespace Go.Proofs.YtemnjgkicndmjaaDoor.Q
open Go.RowKit Go.Proofs.YtemnjgkicndmjaaDoorW.PrintWords Go.Proofs.YtemnjgkicndmjaaDoorW.PrintLast Go.Proofs.YtemnjgkicndmjaaDoorW.PrintMore
def val (B : Int) : List Int → Int
  | [] => 0
  | x :: xs => x + B * val B xs
def Lim (B : Int) (xs : List Int) : Prop := ∀ x, x ∈ xs → 0 ≤ x ∧ x < B
def Nrm (xs : List Int) : Prop := ∀ x, xs.getLast? = some x → x ≠ 0
theorem lim_nil (B : Int) : Lim B [] := by intro x h; cases h
theorem lim_cons {B x : Int} {xs : List Int} : Lim B (x :: xs) ↔ (0 ≤ x ∧ x < B) ∧ Lim B xs := by
  constructor
  · intro h; exact ⟨h x (by simp), fun y hy => h y (by simp [hy])⟩
  · rintro ⟨h1, h2⟩ y hy
    rcases List.mem_cons.1 hy with rfl | hy
    · exact h1
    · exact h2 y hy
theorem lim_append {B : Int} {xs ys : List Int} : Lim B (xs ++ ys) ↔ Lim B xs ∧ Lim B ys := by
  constructor
  · intro h; exact ⟨fun y hy => h y (by simp [hy]), fun y hy => h y (by simp [hy])⟩
  · rintro ⟨h1, h2⟩ y hy
    rcases List.mem_append.1 hy with hy | hy
    · exact h1 y hy
    · exact h2 y hy
theorem Lim.take {B : Int} {xs : List Int} (h : Lim B xs) (n : Nat) : Lim B (xs.take n) := fun y hy => h y (List.mem_of_mem_take hy)
theorem Lim.drop {B : Int} {xs : List Int} (h : Lim B xs) (n : Nat) : Lim B (xs.drop n) := fun y hy => h y (List.mem_of_mem_drop hy)
theorem Lim.set {B : Int} {xs : List Int} (h : Lim B xs) (n : Nat) {v : Int} (hv : 0 ≤ v ∧ v < B) : Lim B (xs.set n v) := by
  intro y hy
  rcases List.mem_or_eq_of_mem_set hy with hy | rfl
  · exact h y hy
  · exact hv
theorem lim_replicate {B : Int} (hB : 0 < B) (n : Nat) : Lim B (List.replicate n 0) := by
  intro y hy
  have := List.eq_of_mem_replicate hy
  subst this
  exact ⟨Int.le_refl _, hB⟩
theorem Lim.getD {B : Int} {xs : List Int} (hB : 0 < B) (h : Lim B xs) (n : Nat) : 0 ≤ xs.getD n 0 ∧ xs.getD n 0 < B := by
  rw [List.getD_eq_getElem?_getD]
  rcases Nat.lt_or_ge n xs.length with hn | hn
  · rw [List.getElem?_eq_getElem hn]; exact h _ (List.getElem_mem hn)
  · rw [List.getElem?_eq_none hn]; exact ⟨Int.le_refl _, hB⟩
theorem val_append (B : Int) (xs ys : List Int) : val B (xs ++ ys) = val B xs + B ^ xs.length * val B ys := by
  induction xs with
  | nil => simp [val]
  | cons x xs ih => simp only [List.cons_append, val, ih, List.length_cons, Int.pow_succ]; grind
theorem val_snoc (B : Int) (xs : List Int) (x : Int) : val B (xs ++ [x]) = val B xs + B ^ xs.length * x := by
  rw [val_append]; simp [val]
theorem val_replicate (B : Int) (n : Nat) : val B (List.replicate n 0) = 0 := by
  induction n with
  | zero => rfl
  | succ n ih => simp [List.replicate_succ, val, ih]
theorem pow_pos' {B : Int} (hB : 0 < B) (n : Nat) : 0 < B ^ n := Int.pow_pos hB
theorem pow_mono' {B : Int} (hB : 0 < B) {m n : Nat} (h : m ≤ n) : B ^ m ≤ B ^ n := by
  induction h with
  | refl => exact Int.le_refl _
  | step _ ih =>
    rw [Int.pow_succ]
    have := pow_pos' hB
    rename_i n _
    have h2 : B ^ n * 1 ≤ B ^ n * B := Int.mul_le_mul_of_nonneg_left (by omega) (Int.le_of_lt (this n))
    omega
theorem val_nonneg {B : Int} (hB : 0 < B) {xs : List Int} (h : Lim B xs) : 0 ≤ val B xs := by
  induction xs with
  | nil => exact Int.le_refl _
  | cons x xs ih =>
    obtain ⟨h1, h2⟩ := lim_cons.1 h
    have := Int.mul_nonneg (Int.le_of_lt hB) (ih h2)
    simp only [val]; omega
theorem val_lt {B : Int} (hB : 0 < B) {xs : List Int} (h : Lim B xs) : val B xs < B ^ xs.length := by
  induction xs with
  | nil => simp [val]
  | cons x xs ih =>
    obtain ⟨h1, h2⟩ := lim_cons.1 h
    have h3 := ih h2
    have h4 : B * (val B xs + 1) ≤ B * B ^ xs.length := Int.mul_le_mul_of_nonneg_left (by omega) (by omega)
    simp only [val, List.length_cons, Int.pow_succ]
    grind
theorem nrm_nil : Nrm [] := by intro x h; cases h
theorem nrm_snoc {xs : List Int} {x : Int} : Nrm (xs ++ [x]) ↔ x ≠ 0 := by
  simp [Nrm]
theorem nrm_cons {x : Int} {xs : List Int} (h : Nrm (x :: xs)) : Nrm xs := by
  intro y hy
  refine h y ?_
  rw [List.getLast?_cons, hy]; simp
theorem val_ge {B : Int} (hB : 0 < B) {xs : List Int} (h : Lim B xs) (hn : Nrm xs) (h0 : xs ≠ []) : B ^ (xs.length - 1) ≤ val B xs := by
  obtain ⟨ys, y, rfl⟩ : ∃ ys y, xs = ys ++ [y] := ⟨xs.dropLast, xs.getLast h0, (List.dropLast_concat_getLast h0).symm⟩
  have hy := nrm_snoc.1 hn
  obtain ⟨h1, h2⟩ := lim_append.1 h
  have h3 := (lim_cons.1 h2).1
  have h4 := val_nonneg hB h1
  rw [val_snoc]
  have h5 : B ^ ys.length * 1 ≤ B ^ ys.length * y := Int.mul_le_mul_of_nonneg_left (by omega) (Int.le_of_lt (pow_pos' hB _))
  simp only [List.length_append, List.length_singleton, Nat.add_sub_cancel]
  omega
theorem val_eq_zero {B : Int} (hB : 0 < B) {xs : List Int} (h : Lim B xs) (hn : Nrm xs) : val B xs = 0 ↔ xs = [] := by
  constructor
  · intro h0
    by_cases e : xs = []
    · exact e
    · have := val_ge hB h hn e
      have := pow_pos' hB (xs.length - 1)
      omega
  · rintro rfl; rfl
theorem val_pos {B : Int} (hB : 0 < B) {xs : List Int} (h : Lim B xs) (hn : Nrm xs) (h0 : xs ≠ []) : 0 < val B xs := by
  have := val_ge hB h hn h0
  have := pow_pos' hB (xs.length - 1)
  omega
theorem digit_unique {B x y a b : Int} (hx : 0 ≤ x ∧ x < B) (hy : 0 ≤ y ∧ y < B) (h : x + B * a = y + B * b) : x = y ∧ a = b := by
  have hB : 0 < B := by omega
  have e1 : (x + B * a) % B = x := by rw [Int.add_mul_emod_self_left, Int.emod_eq_of_lt hx.1 hx.2]
  have e2 : (y + B * b) % B = y := by rw [Int.add_mul_emod_self_left, Int.emod_eq_of_lt hy.1 hy.2]
  have e : x = y := by rw [← e1, ← e2, h]
  refine ⟨e, ?_⟩
  subst e
  have : B * a = B * b := by omega
  exact Int.eq_of_mul_eq_mul_left (by omega) this
theorem val_inj {B : Int} (hB : 0 < B) {xs ys : List Int} (hx : Lim B xs) (hy : Lim B ys) (nx : Nrm xs) (ny : Nrm ys) (h : val B xs = val B ys) : xs = ys := by
  induction xs generalizing ys with
  | nil => exact ((val_eq_zero hB hy ny).1 h.symm).symm
  | cons x xs ih =>
    cases ys with
    | nil => exact (val_eq_zero hB hx nx).1 h
    | cons y ys =>
      obtain ⟨a1, a2⟩ := lim_cons.1 hx
      obtain ⟨b1, b2⟩ := lim_cons.1 hy
      obtain ⟨e, e'⟩ := digit_unique a1 b1 h
      rw [e, ih a2 b2 (nrm_cons nx) (nrm_cons ny) e']
theorem val_split (B : Int) (xs : List Int) (i : Nat) (h : i ≤ xs.length) : val B xs = val B (xs.take i) + B ^ i * val B (xs.drop i) := by
  have := val_append B (xs.take i) (xs.drop i)
  rw [List.take_append_drop, List.length_take, Nat.min_eq_left h] at this
  exact this
theorem take_succ' (xs : List Int) (i : Nat) (h : i < xs.length) : xs.take (i + 1) = xs.take i ++ [xs.getD i 0] := by
  rw [List.take_succ_eq_append_getElem h, List.getD_eq_getElem?_getD, List.getElem?_eq_getElem h]; rfl
theorem drop_cons' (xs : List Int) (i : Nat) (h : i < xs.length) : xs.drop i = xs.getD i 0 :: xs.drop (i + 1) := by
  rw [List.drop_eq_getElem_cons h, List.getD_eq_getElem?_getD, List.getElem?_eq_getElem h]; rfl
theorem val_take_succ (B : Int) (xs : List Int) (i : Nat) (h : i < xs.length) : val B (xs.take (i + 1)) = val B (xs.take i) + B ^ i * xs.getD i 0 := by
  rw [take_succ' xs i h, val_snoc, List.length_take, Nat.min_eq_left (by omega)]
theorem val_drop (B : Int) (xs : List Int) (i : Nat) (h : i < xs.length) : val B (xs.drop i) = xs.getD i 0 + B * val B (xs.drop (i + 1)) := by
  rw [drop_cons' xs i h]; rfl
theorem val_set (B : Int) (xs : List Int) (i : Nat) (v : Int) (h : i < xs.length) : val B (xs.set i v) = val B xs + B ^ i * (v - xs.getD i 0) := by
  induction xs generalizing i with
  | nil => simp at h
  | cons x xs ih =>
    cases i with
    | zero => simp [val]; omega
    | succ i =>
      simp only [List.length_cons, Nat.add_lt_add_iff_right] at h
      simp only [List.set_cons_succ, val, ih i h, Int.pow_succ, List.getD_cons_succ]
      grind
def trim (xs : List Int) : List Int := (xs.reverse.dropWhile (· == 0)).reverse
theorem trim_snoc_zero (xs : List Int) : trim (xs ++ [0]) = trim xs := by simp [trim]
theorem trim_snoc (xs : List Int) {x : Int} (h : x ≠ 0) : trim (xs ++ [x]) = xs ++ [x] := by simp [trim, h]
theorem snoc_induction {P : List Int → Prop} (h0 : P []) (h1 : ∀ xs x, P xs → P (xs ++ [x])) (xs : List Int) : P xs := by
  have key : ∀ n, ∀ xs : List Int, xs.length = n → P xs := by
    intro n
    induction n with
    | zero => intro xs h; rw [List.eq_nil_of_length_eq_zero h]; exact h0
    | succ n ih =>
      intro xs h
      have h2 : xs ≠ [] := by rintro rfl; simp at h
      rw [← List.dropLast_concat_getLast h2]
      exact h1 _ _ (ih _ (by simp [h]))
  exact key _ xs rfl
theorem val_trim (B : Int) (xs : List Int) : val B (trim xs) = val B xs := by
  induction xs using snoc_induction with
  | h0 => rfl
  | h1 xs x ih =>
    by_cases h : x = 0
    · subst h; rw [trim_snoc_zero, ih, val_snoc]; simp
    · rw [trim_snoc xs h]
theorem nrm_trim (xs : List Int) : Nrm (trim xs) := by
  induction xs using snoc_induction with
  | h0 => exact nrm_nil
  | h1 xs x ih =>
    by_cases h : x = 0
    · subst h; rw [trim_snoc_zero]; exact ih
    · rw [trim_snoc xs h]; exact nrm_snoc.2 h
theorem trim_prefix (xs : List Int) : ∃ n, trim xs = xs.take n := by
  induction xs using snoc_induction with
  | h0 => exact ⟨0, rfl⟩
  | h1 xs x ih =>
    by_cases h : x = 0
    · subst h
      obtain ⟨n, hn⟩ := ih
      refine ⟨min n xs.length, ?_⟩
      rw [trim_snoc_zero, hn, List.take_append_of_le_length (by omega)]
      rw [List.take_eq_take_min]
    · refine ⟨xs.length + 1, ?_⟩
      rw [trim_snoc xs h, List.take_of_length_le (by simp)]
theorem lim_trim {B : Int} {xs : List Int} (h : Lim B xs) : Lim B (trim xs) := by
  obtain ⟨n, hn⟩ := trim_prefix xs
  rw [hn]; exact h.take n
theorem length_trim (xs : List Int) : (trim xs).length ≤ xs.length := by
  obtain ⟨n, hn⟩ := trim_prefix xs
  rw [hn, List.length_take]; omega
theorem val_split' (B : Int) (zs : List Int) (i : Nat) : val B zs = val B (zs.take i) + B ^ i * val B (zs.drop i) := by
  by_cases h : i ≤ zs.length
  · exact val_split _ zs i h
  · rw [List.take_of_length_le (by omega), List.drop_of_length_le (by omega)]; simp [val]
theorem val_take_succ' (B : Int) (zs : List Int) (i : Nat) : val B (zs.take (i + 1)) = val B (zs.take i) + B ^ i * zs.getD i 0 := by
  by_cases h : i < zs.length
  · exact val_take_succ _ zs i h
  · rw [List.take_of_length_le (by omega), List.take_of_length_le (by omega), List.getD_eq_getElem?_getD, List.getElem?_eq_none (by omega)]; simp
theorem val_drop' (B : Int) (zs : List Int) (i : Nat) : val B (zs.drop i) = zs.getD i 0 + B * val B (zs.drop (i + 1)) := by
  by_cases h : i < zs.length
  · exact val_drop _ zs i h
  · rw [List.drop_of_length_le (by omega), List.drop_of_length_le (by omega), List.getD_eq_getElem?_getD, List.getElem?_eq_none (by omega)]; simp [val]
theorem lim_nrm_snoc {B : Int} {xs : List Int} {x : Int} (h : Lim B xs) (hx : 0 ≤ x ∧ x < B) : Lim B (xs ++ [x]) := lim_append.2 ⟨h, by intro y hy; rw [List.mem_singleton] at hy; rw [hy]; exact hx⟩
theorem w64 {x : Int} (h1 : -9223372036854775808 ≤ x) (h2 : x ≤ 9223372036854775807) : wrap64 x = x := by unfold wrap64; omega
theorem u64w (n : Int) : IntKind.u64.wrap n = n % 18446744073709551616 := by simp [IntKind.wrap, IntKind.bits, IntKind.signed]
theorem u64_id {x : Int} (h1 : 0 ≤ x) (h2 : x < 18446744073709551616) : IntKind.u64.wrap x = x := by rw [u64w]; omega
theorem bits_or_shift {a b : Int} (ha0 : 0 ≤ a) (ha : a < 4294967296) (hb0 : 0 ≤ b) (hb : b < 4294967296) : Go.bits .or .u64 (a * 4294967296) b = a * 4294967296 + b := by
  rw [u64_or _ _ (by omega) (by omega) hb0 (by omega), nat_join 32 _ _ (by omega) (by omega)]
  omega
theorem bits_or_shift' {a b : Int} (ha0 : 0 ≤ a) (ha : a < 4294967296) (hb0 : 0 ≤ b) (hb : b < 4294967296) : Go.bits .or .u64 b (a * 4294967296) = a * 4294967296 + b := by
  rw [u64_or _ _ hb0 (by omega) (by omega) (by omega), Nat.or_comm, nat_join 32 _ _ (by omega) (by omega)]
  omega
theorem bits_and_one {x : Int} (h0 : 0 ≤ x) (h1 : x < 18446744073709551616) : Go.bits .and .u64 x 1 = x % 2 := by
  rw [u64_and _ _ h0 h1 (by omega) (by omega)]
  have : (1 : Int).toNat = 1 := rfl
  rw [this, Nat.and_one_is_mod]
  omega
theorem Ev.ret {α : Type} {g : Nat → Option α} {r : α} (h : ∀ k, g k = some r) : Ev g r := ⟨0, fun k _ => h k⟩
theorem Ev.const {α : Type} {a : Option α} {r : α} (h : a = some r) : Ev (fun _ => a) r := ⟨0, fun _ _ => h⟩
theorem Ev.eq {α : Type} {g : Nat → Option α} {r r' : α} (h : Ev g r) (e : r = r') : Ev g r' := e ▸ h
theorem rd_getD (xs : List Int) (i : Nat) : rd xs (i : Int) = xs.getD i 0 := by simp [rd]
theorem Lim.rd {B : Int} {xs : List Int} (hB : 0 < B) (h : Lim B xs) (i : Int) : 0 ≤ rd xs i ∧ rd xs i < B := h.getD hB _
end Go.Proofs.YtemnjgkicndmjaaDoor.Q
namespace Go.Proofs.YtemnjgkicndmjaaDoor.Q
open Go.RowKit Go.Proofs.YtemnjgkicndmjaaDoorW.PrintWords Go.Proofs.YtemnjgkicndmjaaDoorW.PrintLast Go.Proofs.YtemnjgkicndmjaaDoorW.PrintMore
set_option linter.unusedVariables false
theorem trim_ev (xs : List Int) : xs.length ≤ 1099511627776 → Ev (fun k => nat_Trim.l0 k xs) (trim xs) := by
  induction xs using snoc_induction with
  | h0 => intro _; exact Ev.step (f := fun _ => some []) (fun k => by simp [nat_Trim.l0]) (Ev.now _)
  | h1 xs x ih =>
    intro hl
    simp only [List.length_append, List.length_singleton] at hl
    have hw : wrap64 (((xs ++ [x]).length : Int) - 1) = xs.length := by simp only [List.length_append, List.length_singleton]; unfold wrap64; omega
    have hr : rd (xs ++ [x]) (xs.length : Int) = x := by rw [rd_getD]; simp
    have h1 : ((xs ++ [x]).length : Int) > 0 := by simp only [List.length_append, List.length_singleton]; omega
    have h2 : (xs.length : Int) < ((xs ++ [x]).length : Int) := by simp only [List.length_append, List.length_singleton]; omega
    by_cases hx : x = 0
    · subst hx
      rw [trim_snoc_zero]
      refine Ev.step (f := fun k => nat_Trim.l0 k xs) (fun k => ?_) (ih (by omega))
      simp only [nat_Trim.l0]
      rw [hw, if_pos h1, if_pos (by omega), if_pos h2, hr, if_pos rfl, if_pos (by omega)]
      simp
    · rw [trim_snoc xs hx]
      refine Ev.step (f := fun _ => some (xs ++ [x])) (fun k => ?_) (Ev.now _)
      simp only [nat_Trim.l0]
      rw [hw, if_pos h1, if_pos (by omega), if_pos h2, hr, if_neg hx]
theorem Trim_ev (xs : List Int) (h : xs.length ≤ 1099511627776) : Ev (fun k => nat_Trim.f k xs) (trim xs) := trim_ev xs h
theorem IsOne_eq (xs : List Int) : nat_IsOne.f xs = some (decide (xs = [1])) := by
  unfold nat_IsOne.f
  match xs with
  | [] => simp
  | [x] => simp [rd]; rw [Bool.eq_iff_iff]; simp
  | x :: y :: l => rw [if_neg (by simp; omega)]; simp
theorem val_of2 (x y : Int) : val 4294967296 [x, y] = x + 4294967296 * y := by simp [val]
theorem Of_ev (n : Int) (h0 : 0 ≤ n) (h1 : n < 18446744073709551616) : ∃ r, Ev (fun k => nat_Of.f k n) r ∧ Lim 4294967296 r ∧ Nrm r ∧ val 4294967296 r = n ∧ r.length ≤ 2 := by
  refine ⟨trim [n % 4294967296, n / 4294967296 % 4294967296], ?_, ?_, nrm_trim _, ?_, Nat.le_trans (length_trim _) (by simp)⟩
  · unfold nat_Of.f
    exact Ev.bind (f := fun _ t => some t) (Trim_ev _ (by simp)) (Ev.now _)
  · refine lim_trim ?_
    rw [lim_cons, lim_cons]
    exact ⟨by omega, by omega, lim_nil _⟩
  · rw [val_trim, val_of2]; omega
theorem sign_eq (n : Int) : nat_sign.f n = some (if n < 0 then -1 else if n > 0 then 1 else 0) := by unfold nat_sign.f; split <;> (try split) <;> simp_all
def cmpI (a b : Int) : Int := if a < b then -1 else if a > b then 1 else 0
theorem compare_loop (xs ys : List Int) (hx : Lim 4294967296 xs) (hy : Lim 4294967296 ys) (hl : xs.length = ys.length) (hb : xs.length ≤ 1099511627776) : ∀ i : Nat, i ≤ xs.length → xs.drop i = ys.drop i →
    Ev (fun k => nat_Compare.l0 k xs ys ((i : Int) - 1)) (cmpI (val 4294967296 xs) (val 4294967296 ys)) := by
  intro i
  induction i with
  | zero =>
    intro _ h
    simp only [List.drop_zero] at h
    subst h
    refine Ev.step (f := fun _ => some 0) (fun k => ?_) ?_
    · simp [nat_Compare.l0]
    · unfold cmpI; rw [if_neg (by omega), if_neg (by omega)]; exact Ev.now _
  | succ i ih =>
    intro hi h
    have e1 : (((i + 1 : Nat) : Int) - 1) = (i : Int) := by omega
    rw [e1]
    have hB : (0 : Int) < 4294967296 := by decide
    by_cases heq : xs.getD i 0 = ys.getD i 0
    · refine Ev.step (f := fun k => nat_Compare.l0 k xs ys ((i : Int) - 1)) (fun k => ?_) (ih (by omega) ?_)
      · simp only [nat_Compare.l0]
        rw [if_pos (by omega), if_pos (by omega), if_pos (by omega), if_pos (by omega), rd_getD, rd_getD, if_pos heq, w64 (by omega) (by omega)]
      · rw [drop_cons' xs i (by omega), drop_cons' ys i (by omega), heq, h]
    · have a1 := val_split 4294967296 xs i (by omega)
      have a2 := val_split 4294967296 ys i (by omega)
      rw [val_drop 4294967296 xs i (by omega)] at a1
      rw [val_drop 4294967296 ys i (by omega), ← h] at a2
      have b1 := val_lt hB (hx.take i)
      have b2 := val_lt hB (hy.take i)
      rw [List.length_take, Nat.min_eq_left (by omega)] at b1 b2
      have c1 := val_nonneg hB (hx.take i)
      have c2 := val_nonneg hB (hy.take i)
      have hP : (0 : Int) < (4294967296 : Int) ^ i := pow_pos' hB i
      generalize 4294967296 * val 4294967296 (xs.drop (i + 1)) = T at a1 a2
      rw [Int.mul_add] at a1 a2
      generalize 4294967296 ^ i * T = U at a1 a2
      have key : ∀ p q s t : Int, p < q → s < 4294967296 ^ i → 0 ≤ t → s + (4294967296 ^ i * p + U) < t + (4294967296 ^ i * q + U) := by
        intro p q s t hpq hs ht
        have : 4294967296 ^ i * (p + 1) ≤ 4294967296 ^ i * q := Int.mul_le_mul_of_nonneg_left (by omega) (by omega)
        rw [Int.mul_add, Int.mul_one] at this
        omega
      by_cases hlt : xs.getD i 0 < ys.getD i 0
      · refine Ev.step (f := fun _ => some (-1)) (fun k => ?_) ?_
        · simp only [nat_Compare.l0]
          rw [if_pos (by omega), if_pos (by omega), if_pos (by omega), if_pos (by omega), rd_getD, rd_getD, if_neg heq, if_pos hlt]
        · have := key _ _ _ _ hlt b1 c2
          unfold cmpI; rw [if_pos (by omega)]; exact Ev.now _
      · refine Ev.step (f := fun _ => some 1) (fun k => ?_) ?_
        · simp only [nat_Compare.l0]
          rw [if_pos (by omega), if_pos (by omega), if_pos (by omega), if_pos (by omega), rd_getD, rd_getD, if_neg heq, if_neg hlt]
        · have := key _ _ _ _ (show ys.getD i 0 < xs.getD i 0 by omega) b2 c1
          unfold cmpI; rw [if_neg (by omega), if_pos (by omega)]; exact Ev.now _
theorem len_lt_val {B : Int} (hB : 0 < B) {xs ys : List Int} (hx : Lim B xs) (hy : Lim B ys) (ny : Nrm ys) (h : xs.length < ys.length) : val B xs < val B ys := by
  have h1 := val_lt hB hx
  have h2 := val_ge hB hy ny (by rintro rfl; simp at h)
  have h3 : B ^ xs.length ≤ B ^ (ys.length - 1) := pow_mono' hB (by omega)
  omega
theorem Compare_ev (xs ys : List Int) (hx : Lim 4294967296 xs) (hy : Lim 4294967296 ys) (nx : Nrm xs) (ny : Nrm ys) (hb : xs.length ≤ 1099511627776) (hb' : ys.length ≤ 1099511627776) : Ev (fun k => nat_Compare.f k xs ys) (cmpI (val 4294967296 xs) (val 4294967296 ys)) := by
  have hB : (0 : Int) < 4294967296 := by decide
  unfold nat_Compare.f
  by_cases hl : xs.length = ys.length
  · have := compare_loop xs ys hx hy hl hb xs.length (by omega) (by rw [List.drop_length, hl, List.drop_length])
    refine Ev.congr (fun k => ?_) this
    rw [if_pos (by omega), w64 (by omega) (by omega)]
  · refine Ev.ret fun k => ?_
    rw [if_neg (by omega), w64 (by omega) (by omega), sign_eq]
    unfold cmpI
    rcases Nat.lt_or_ge xs.length ys.length with h | h
    · have := len_lt_val hB hx hy ny h
      rw [if_pos (by omega), if_pos (by omega)]; rfl
    · have := len_lt_val hB hy hx nx (by omega)
      rw [if_neg (by omega), if_pos (by omega), if_neg (by omega), if_pos (by omega)]; rfl
theorem divsmall_loop (xs : List Int) (d : Int) (hx : Lim 4294967296 xs) (hd0 : 0 < d) (hd : d < 4294967296) (hb : xs.length ≤ 1099511627776) : ∀ (i : Nat) (out : List Int) (rest : Int), i ≤ xs.length → out.length = xs.length → Lim 4294967296 out → out.take i = List.replicate i 0 → 0 ≤ rest → rest < d →
    ∃ r, Ev (fun k => nat_DivSmall.l0 k xs d out rest ((i : Int) - 1)) (trim r, val 4294967296 (xs.take i) + 4294967296 ^ i * rest - d * ((val 4294967296 (xs.take i) + 4294967296 ^ i * rest) / d)) ∧ r.length = xs.length ∧ Lim 4294967296 r ∧ val 4294967296 r = val 4294967296 out + (val 4294967296 (xs.take i) + 4294967296 ^ i * rest) / d := by
  intro i
  have hB : (0 : Int) < 4294967296 := by decide
  induction i with
  | zero =>
    intro out rest _ hlen ho hz h0 h1
    refine ⟨out, ?_, hlen, ho, ?_⟩
    · refine Ev.step (f := fun k => (nat_Trim.f k out).bind fun t => some (t, rest % 4294967296)) (fun k => ?_) ?_
      · simp [nat_DivSmall.l0]
      · refine Ev.bind (f := fun _ t => some (t, rest % 4294967296)) (Trim_ev out (by omega)) (Ev.eq (Ev.now _) ?_)
        have e1 : rest / d = 0 := Int.ediv_eq_zero_of_lt h0 h1
        simp only [List.take_zero, val, Int.pow_zero, Int.one_mul, Int.zero_add, e1, Int.mul_zero, Int.sub_zero]
        congr 1
        exact Int.emod_eq_of_lt h0 (by omega)
    · have e1 : rest / d = 0 := Int.ediv_eq_zero_of_lt h0 h1
      simp [val, e1]
  | succ i ih =>
    intro out rest hi hlen ho hz h0 h1
    have e1 : (((i + 1 : Nat) : Int) - 1) = (i : Int) := by omega
    have hxi := hx.rd hB (i : Int)
    have hxg : rd xs (i : Int) = xs.getD i 0 := rd_getD xs i
    generalize hy : rd xs (i : Int) = y at hxi hxg
    have hcur : rest * 4294967296 + y < 18446744073709551616 := by omega
    have hq0 : 0 ≤ (rest * 4294967296 + y) / d := Int.ediv_nonneg (by omega) (by omega)
    have hq1 : (rest * 4294967296 + y) / d < 4294967296 := by
      refine Int.ediv_lt_of_lt_mul hd0 ?_
      have : (rest + 1) * 4294967296 ≤ d * 4294967296 := Int.mul_le_mul_of_nonneg_right (by omega) (by decide)
      rw [Int.mul_comm d] at this
      have e : (rest + 1) * 4294967296 = rest * 4294967296 + 4294967296 := by grind
      omega
    have hr0 : 0 ≤ (rest * 4294967296 + y) % d := Int.emod_nonneg _ (by omega)
    have hr1 : (rest * 4294967296 + y) % d < d := Int.emod_lt_of_pos _ hd0
    have hdm := Int.mul_ediv_add_emod (rest * 4294967296 + y) d
    generalize hQ : (rest * 4294967296 + y) / d = q at *
    generalize hR : (rest * 4294967296 + y) % d = s at *
    have hoi : out.getD i 0 = 0 := by
      have : (out.take (i + 1)).getD i 0 = 0 := by rw [hz]; simp [List.getD_eq_getElem?_getD]
      rw [List.getD_eq_getElem?_getD, List.getElem?_take, if_pos (by omega)] at this
      rw [List.getD_eq_getElem?_getD]; exact this
    obtain ⟨r, hev, hrl, hrL, hrv⟩ := ih (out.set i q) s (by omega) (by simp [hlen]) (ho.set i ⟨hq0, hq1⟩) (by
      rw [List.take_set_of_le (by omega)]
      have := congrArg (List.take i) hz
      rw [List.take_take, Nat.min_eq_left (by omega), List.take_replicate, Nat.min_eq_left (by omega)] at this
      exact this) hr0 hr1
    have hval : val 4294967296 (xs.take (i + 1)) + 4294967296 ^ (i + 1) * rest = d * (4294967296 ^ i * q) + (val 4294967296 (xs.take i) + 4294967296 ^ i * s) := by
      rw [val_take_succ 4294967296 xs i (by omega), ← hxg, Int.pow_succ]
      have : (rest * 4294967296 + y) = d * q + s := by rw [← hdm]
      grind
    have hdiv : (val 4294967296 (xs.take (i + 1)) + 4294967296 ^ (i + 1) * rest) / d = 4294967296 ^ i * q + (val 4294967296 (xs.take i) + 4294967296 ^ i * s) / d := by
      rw [hval, Int.mul_add_ediv_left _ _ (by omega)]
    refine ⟨r, ?_, hrl, hrL, ?_⟩
    · refine Ev.step (f := fun k => nat_DivSmall.l0 k xs d (out.set i q) s ((i : Int) - 1)) (fun k => ?_) (Ev.eq hev ?_)
      · rw [e1]
        simp only [nat_DivSmall.l0]
        rw [if_pos (by omega), if_pos (by omega), if_pos (by omega), u64_id (x := d) (by omega) (by omega), if_neg (by omega), if_pos (by omega), hy,
          u64_id (x := rest * 4294967296) (by omega) (by omega), u64_id (x := y) (by omega) (by omega), bits_or_shift h0 (by omega) hxi.1 hxi.2,
          Int.tdiv_eq_ediv_of_nonneg (by omega), Int.tmod_eq_emod_of_nonneg (by omega), hQ, hR, u64_id hq0 (by omega), w64 (by omega) (by omega), Int.emod_eq_of_lt hq0 hq1]
        simp
      · congr 1
        rw [hdiv, hval]
        grind
    · rw [hrv, hdiv, val_set 4294967296 out i q (by omega), hoi]
      grind
theorem DivSmall_ev (xs : List Int) (d : Int) (hx : Lim 4294967296 xs) (hd0 : 0 < d) (hd : d < 4294967296) (hb : xs.length ≤ 1099511627776) :
    ∃ r, Ev (fun k => nat_DivSmall.f k xs d) (r, val 4294967296 xs % d) ∧ Lim 4294967296 r ∧ Nrm r ∧ val 4294967296 r = val 4294967296 xs / d ∧ r.length ≤ xs.length := by
  obtain ⟨r, h1, h2, h3, h4⟩ := divsmall_loop xs d hx hd0 hd hb xs.length (List.replicate xs.length 0) 0 (by omega) (by simp) (lim_replicate (by decide) _) (by rw [List.take_of_length_le (by simp)]) (by omega) hd0
  rw [List.take_of_length_le (Nat.le_refl _), Int.mul_zero, Int.add_zero] at h1 h4
  refine ⟨trim r, ?_, lim_trim h3, nrm_trim _, by rw [val_trim, h4, val_replicate, Int.zero_add], Nat.le_trans (length_trim _) (by omega)⟩
  refine Ev.congr (fun k => ?_) (Ev.eq h1 ?_)
  · unfold nat_DivSmall.f
    rw [if_pos (by omega), if_pos (by omega), w64 (by omega) (by omega)]
    simp
  · congr 1
    have := Int.mul_ediv_add_emod (val 4294967296 xs) d
    omega
def len8 : ByteArray := (⟨#[0, 1, 2, 2, 3, 3, 3, 3, 4, 4, 4, 4, 4, 4, 4, 4, 5, 5, 5, 5, 5, 5, 5, 5, 5, 5, 5, 5, 5, 5, 5, 5, 6, 6, 6, 6, 6, 6, 6, 6, 6, 6, 6, 6, 6, 6, 6, 6, 6, 6, 6, 6, 6, 6, 6, 6, 6, 6, 6, 6, 6, 6, 6, 6, 7, 7, 7, 7, 7, 7, 7, 7, 7, 7, 7, 7, 7, 7, 7, 7, 7, 7, 7, 7, 7, 7, 7, 7, 7, 7, 7, 7, 7, 7, 7, 7, 7, 7, 7, 7, 7, 7, 7, 7, 7, 7, 7, 7, 7, 7, 7, 7, 7, 7, 7, 7, 7, 7, 7, 7, 7, 7, 7, 7, 7, 7, 7, 7, 8, 8, 8, 8, 8, 8, 8, 8, 8, 8, 8, 8, 8, 8, 8, 8, 8, 8, 8, 8, 8, 8, 8, 8, 8, 8, 8, 8, 8, 8, 8, 8, 8, 8, 8, 8, 8, 8, 8, 8, 8, 8, 8, 8, 8, 8, 8, 8, 8, 8, 8, 8, 8, 8, 8, 8, 8, 8, 8, 8, 8, 8, 8, 8, 8, 8, 8, 8, 8, 8, 8, 8, 8, 8, 8, 8, 8, 8, 8, 8, 8, 8, 8, 8, 8, 8, 8, 8, 8, 8, 8, 8, 8, 8, 8, 8, 8, 8, 8, 8, 8, 8, 8, 8, 8, 8, 8, 8, 8, 8, 8, 8, 8, 8, 8, 8, 8, 8, 8, 8, 8, 8, 8, 8, 8, 8, 8, 8]⟩ : ByteArray)
set_option maxRecDepth 100000 in
theorem len8_all : ∀ i : Fin 256, (0 ≤ bt len8 (i.val : Int) ∧ bt len8 (i.val : Int) ≤ 8 ∧ (i.val : Int) < 2 ^ (bt len8 (i.val : Int)).toNat ∧ (i.val = 0 ∨ (1 ≤ bt len8 (i.val : Int) ∧ (2 : Int) ^ ((bt len8 (i.val : Int)).toNat - 1) ≤ (i.val : Int)))) := by decide +kernel
theorem len8_at {x : Int} (h0 : 0 ≤ x) (h1 : x < 256) : 0 ≤ bt len8 x ∧ bt len8 x ≤ 8 ∧ x < 2 ^ (bt len8 x).toNat ∧ (x = 0 ∨ (1 ≤ bt len8 x ∧ (2 : Int) ^ ((bt len8 x).toNat - 1) ≤ x)) := by
  obtain ⟨n, rfl⟩ := Int.eq_ofNat_of_zero_le h0
  have := len8_all ⟨n, by omega⟩
  simp only at this
  refine ⟨this.1, this.2.1, this.2.2.1, ?_⟩
  rcases this.2.2.2 with h | h
  · left; omega
  · right; exact h
theorem Len32_unf (a : Int) : bits_Len32.f a = if a ≥ 65536 then (if (a / 65536) ≥ 256 then (if 0 ≤ (((a / 65536) / 256) % 256) then (if (((a / 65536) / 256) % 256) < 256 then (some (wrap64 ((16 + 8) + (wrap64 (bt len8 (((a / 65536) / 256) % 256)))))) else (none)) else (none)) else (if 0 ≤ ((a / 65536) % 256) then (if ((a / 65536) % 256) < 256 then (some (wrap64 (16 + (wrap64 (bt len8 ((a / 65536) % 256)))))) else (none)) else (none))) else (if a ≥ 256 then (if 0 ≤ ((a / 256) % 256) then (if ((a / 256) % 256) < 256 then (some (wrap64 ((0 + 8) + (wrap64 (bt len8 ((a / 256) % 256)))))) else (none)) else (none)) else (if 0 ≤ (a % 256) then (if (a % 256) < 256 then (some (wrap64 (0 + (wrap64 (bt len8 (a % 256)))))) else (none)) else (none))) := rfl
theorem len_part {a x : Int} {j : Nat} (hx0 : 0 ≤ x) (hx : x < 256) (hl : x * 2 ^ j ≤ a) (hu : a < (x + 1) * 2 ^ j) : ∃ n : Nat, bt len8 x = n ∧ n ≤ 8 ∧ a < 2 ^ (n + j) ∧ (x = 0 ∨ (1 ≤ n ∧ (2 : Int) ^ (n + j - 1) ≤ a)) := by
  obtain ⟨h1, h2, h3, h4⟩ := len8_at hx0 hx
  generalize bt len8 x = y at *
  obtain ⟨n, rfl⟩ := Int.eq_ofNat_of_zero_le h1
  rw [Int.toNat_natCast] at h3 h4
  have hP : (0 : Int) < 2 ^ j := Int.pow_pos (by decide)
  refine ⟨n, rfl, by omega, ?_, ?_⟩
  · rw [Int.pow_add]
    have : (x + 1) * 2 ^ j ≤ 2 ^ n * 2 ^ j := Int.mul_le_mul_of_nonneg_right (by omega) (by omega)
    omega
  · rcases h4 with h4 | ⟨h4, h5⟩
    · left; exact h4
    · right
      refine ⟨by omega, ?_⟩
      rw [show n + j - 1 = n - 1 + j by omega, Int.pow_add]
      have : 2 ^ (n - 1) * 2 ^ j ≤ x * 2 ^ j := Int.mul_le_mul_of_nonneg_right h5 (by omega)
      omega
set_option maxRecDepth 100000 in
theorem Len32_eq (a : Int) (h0 : 0 ≤ a) (h1 : a < 4294967296) : ∃ n : Nat, bits_Len32.f a = some (n : Int) ∧ n ≤ 32 ∧ a < 2 ^ n ∧ (a = 0 ∨ (1 ≤ n ∧ (2 : Int) ^ (n - 1) ≤ a)) := by
  rw [Len32_unf]
  by_cases c1 : a ≥ 65536
  · rw [if_pos c1]
    by_cases c2 : a / 65536 ≥ 256
    · rw [if_pos c2, if_pos (by omega), if_pos (by omega)]
      obtain ⟨n, e, hn, hu, hl⟩ := len_part (a := a) (x := a / 65536 / 256 % 256) (j := 24) (by omega) (by omega) (by omega) (by omega)
      rw [e]
      refine ⟨n + 24, ?_, by omega, hu, ?_⟩
      · rw [w64 (x := (n : Int)) (by omega) (by omega), w64 (by omega) (by omega)]; congr 1; omega
      · rcases hl with hl | hl
        · omega
        · right; exact ⟨by omega, hl.2⟩
    · rw [if_neg c2, if_pos (by omega), if_pos (by omega)]
      obtain ⟨n, e, hn, hu, hl⟩ := len_part (a := a) (x := a / 65536 % 256) (j := 16) (by omega) (by omega) (by omega) (by omega)
      rw [e]
      refine ⟨n + 16, ?_, by omega, hu, ?_⟩
      · rw [w64 (x := (n : Int)) (by omega) (by omega), w64 (by omega) (by omega)]; congr 1; omega
      · rcases hl with hl | hl
        · omega
        · right; exact ⟨by omega, hl.2⟩
  · rw [if_neg c1]
    by_cases c2 : a ≥ 256
    · rw [if_pos c2, if_pos (by omega), if_pos (by omega)]
      obtain ⟨n, e, hn, hu, hl⟩ := len_part (a := a) (x := a / 256 % 256) (j := 8) (by omega) (by omega) (by omega) (by omega)
      rw [e]
      refine ⟨n + 8, ?_, by omega, hu, ?_⟩
      · rw [w64 (x := (n : Int)) (by omega) (by omega), w64 (by omega) (by omega)]; congr 1; omega
      · rcases hl with hl | hl
        · omega
        · right; exact ⟨by omega, hl.2⟩
    · rw [if_neg c2, if_pos (by omega), if_pos (by omega)]
      obtain ⟨n, e, hn, hu, hl⟩ := len_part (a := a) (x := a % 256) (j := 0) (by omega) (by omega) (by omega) (by omega)
      rw [e]
      refine ⟨n, ?_, by omega, hu, ?_⟩
      · rw [w64 (x := (n : Int)) (by omega) (by omega), w64 (by omega) (by omega)]; congr 1; omega
      · rcases hl with hl | hl
        · left; omega
        · right; exact hl
theorem Lead_eq (a : Int) (h0 : 0 < a) (h1 : a < 4294967296) : ∃ s : Nat, bits_LeadingZeros32.f a = some (s : Int) ∧ s < 32 ∧ 2147483648 ≤ a * 2 ^ s ∧ a * 2 ^ s < 4294967296 := by
  obtain ⟨n, e, hn, hu, hl⟩ := Len32_eq a (by omega) h1
  rcases hl with hl | ⟨h2, hl⟩
  · omega
  · refine ⟨32 - n, ?_, by omega, ?_, ?_⟩
    · unfold bits_LeadingZeros32.f
      rw [e]
      simp only [Option.bind_some]
      rw [w64 (by omega) (by omega)]; congr 1; omega
    · have : (2 : Int) ^ (n - 1) * 2 ^ (32 - n) ≤ a * 2 ^ (32 - n) := Int.mul_le_mul_of_nonneg_right hl (Int.le_of_lt (Int.pow_pos (by decide)))
      rw [← Int.pow_add, show n - 1 + (32 - n) = 31 by omega] at this
      exact this
    · have : a * 2 ^ (32 - n) < (2 : Int) ^ n * 2 ^ (32 - n) := Int.mul_lt_mul_of_pos_right hu (Int.pow_pos (by decide))
      rw [← Int.pow_add, show n + (32 - n) = 32 by omega] at this
      exact this
theorem take_set_succ {xs : List Int} {i : Nat} {v : Int} (h : i < xs.length) : (xs.set i v).take (i + 1) = xs.take i ++ [v] := by
  rw [take_succ' _ _ (by simpa using h), List.take_set_of_le (by omega)]
  congr 2
  rw [List.getD_eq_getElem?_getD, List.getElem?_set_self h]; rfl
theorem drop_set_succ {xs : List Int} {i : Nat} {v : Int} : (xs.set i v).drop (i + 1) = xs.drop (i + 1) := by
  rw [List.drop_set_of_lt (by omega)]
theorem getD_set_self {xs : List Int} {i : Nat} {v : Int} (h : i < xs.length) : (xs.set i v).getD i 0 = v := by rw [List.getD_eq_getElem?_getD, List.getElem?_set_self h]; rfl
theorem getD_set_ne {xs : List Int} {i j : Nat} {v : Int} (h : i ≠ j) : (xs.set i v).getD j 0 = xs.getD j 0 := by rw [List.getD_eq_getElem?_getD, List.getElem?_set_ne h, List.getD_eq_getElem?_getD]
theorem pow_base {s : Nat} (h : s ≤ 32) : (2 : Int) ^ s * 2 ^ (32 - s) = 4294967296 := by
  rw [← Int.pow_add, show s + (32 - s) = 32 by omega]; rfl
theorem pow_lt_base {s : Nat} (h : s < 32) : (2 : Int) ^ s ≤ 2147483648 := by
  have := pow_mono' (B := 2) (by decide) (show s ≤ 31 by omega)
  exact this
theorem or_low {a c : Int} {s : Nat} (h : s < 32) (ha0 : 0 ≤ a) (ha : a < 4294967296) (hm : a % 2 ^ s = 0) (hc0 : 0 ≤ c) (hc : c < 2 ^ s) : Go.bits .or .u32 c a = c + a := by
  have hp := pow_lt_base h
  rw [u32_or _ _ hc0 (by omega) ha0 ha, Nat.or_comm, nat_join s]
  · omega
  · have : ((a.toNat % 2 ^ s : Nat) : Int) = 0 := by
      rw [Int.natCast_emod, Int.toNat_of_nonneg ha0, Int.natCast_pow]; exact hm
    omega
  · have : ((c.toNat : Nat) : Int) < ((2 ^ s : Nat) : Int) := by
      rw [Int.toNat_of_nonneg hc0, Int.natCast_pow]; exact hc
    omega
theorem shl64 {x : Int} {b : Nat} (hb : b < 32) (h0 : 0 ≤ x) (h1 : x < 4294967296) : shl .u64 (IntKind.u64.wrap x) (b : Int) = x * 2 ^ b ∧ 0 ≤ x * 2 ^ b ∧ x * 2 ^ b < 2 ^ b * 4294967296 := by
  have hp := pow_lt_base hb
  have hp0 : (0 : Int) < 2 ^ b := Int.pow_pos (by decide)
  have h2 : 0 ≤ x * 2 ^ b := Int.mul_nonneg h0 (by omega)
  have h3 : x * 2 ^ b < 4294967296 * 2 ^ b := Int.mul_lt_mul_of_pos_right h1 hp0
  rw [u64_id h0 (by omega)]
  unfold shl
  rw [Int.toNat_natCast, Nat.min_eq_left (by simp [IntKind.bits]; omega), u64_id h2 (by omega)]
  exact ⟨rfl, h2, by omega⟩
theorem shl_parts {x : Int} {b : Nat} (hb : b < 32) : (x * 2 ^ b) % 4294967296 % 2 ^ b = 0 ∧ (x * 2 ^ b) % 4294967296 + 2 ^ b ≤ 4294967296 := by
  have hp0 : (0 : Int) < 2 ^ b := Int.pow_pos (by decide)
  have hd : (2 : Int) ^ b ∣ 4294967296 := ⟨2 ^ (32 - b), (pow_base (by omega)).symm⟩
  have h1 : (x * 2 ^ b) % 4294967296 % 2 ^ b = 0 := by
    rw [Int.emod_emod_of_dvd _ hd, Int.mul_emod_left]
  refine ⟨h1, ?_⟩
  obtain ⟨c, hc⟩ := hd
  obtain ⟨e, he⟩ := Int.dvd_of_emod_eq_zero h1
  have hl : (x * 2 ^ b) % 4294967296 < 4294967296 := Int.emod_lt_of_pos _ (by decide)
  rw [he, hc] at *
  have : e < c := Int.lt_of_mul_lt_mul_left hl (by omega)
  have := Int.mul_le_mul_of_nonneg_left (show e + 1 ≤ c by omega) (Int.le_of_lt hp0)
  rw [Int.mul_add, Int.mul_one] at this
  exact this
theorem getD_zeros {out : List Int} {m j : Nat} (h : out.drop m = List.replicate (out.length - m) 0) (hj : m ≤ j) : out.getD j 0 = 0 := by
  have : (out.drop m).getD (j - m) 0 = 0 := by rw [h]; simp [List.getD_eq_getElem?_getD, List.getElem?_replicate]; split <;> rfl
  rw [List.getD_eq_getElem?_getD, List.getElem?_drop, show m + (j - m) = j by omega] at this
  rw [List.getD_eq_getElem?_getD]; exact this
theorem shl_step {x : Int} {b : Nat} (hb : b < 32) (h0 : 0 ≤ x) (h1 : x < 4294967296) : ∃ lo hi : Int, shl .u64 (IntKind.u64.wrap x) (b : Int) % 4294967296 = lo ∧ (shl .u64 (IntKind.u64.wrap x) (b : Int) / 4294967296) % 4294967296 = hi ∧ x * 2 ^ b = lo + 4294967296 * hi ∧ 0 ≤ lo ∧ 0 ≤ hi ∧ hi < 2 ^ b ∧ hi < 4294967296 ∧
    (∀ c : Int, 0 ≤ c → c < 2 ^ b → Go.bits .or .u32 c lo = c + lo ∧ c + lo < 4294967296) ∧ Go.bits .or .u32 0 hi = hi := by
  obtain ⟨s1, s2, s3⟩ := shl64 hb h0 h1
  obtain ⟨p1, p2⟩ := shl_parts (x := x) hb
  have hp := pow_lt_base hb
  have hp0 : (0 : Int) < 2 ^ b := Int.pow_pos (by decide)
  have hlo : 0 ≤ x * 2 ^ b % 4294967296 := Int.emod_nonneg _ (by decide)
  have hlo1 : x * 2 ^ b % 4294967296 < 4294967296 := Int.emod_lt_of_pos _ (by decide)
  have hhi0 : 0 ≤ x * 2 ^ b / 4294967296 := Int.ediv_nonneg s2 (by decide)
  have hhi : x * 2 ^ b / 4294967296 < 2 ^ b := Int.ediv_lt_of_lt_mul (by decide) s3
  have hdm := Int.mul_ediv_add_emod (x * 2 ^ b) 4294967296
  have hhi1 : x * 2 ^ b / 4294967296 < 4294967296 := Int.lt_trans hhi (Int.lt_of_le_of_lt hp (by decide))
  have hc2 : ∀ c : Int, 0 ≤ c → c < 2 ^ b → Go.bits .or .u32 c (x * 2 ^ b % 4294967296) = c + x * 2 ^ b % 4294967296 := fun c hc0 hc => or_low hb hlo hlo1 p1 hc0 hc
  clear p1 s2 s3 h0 h1
  rw [s1, Int.emod_eq_of_lt hhi0 hhi1]
  clear s1
  generalize x * 2 ^ b % 4294967296 = lo at *
  generalize x * 2 ^ b / 4294967296 = hi at *
  refine ⟨lo, hi, rfl, rfl, by rw [← hdm, Int.add_comm], hlo, hhi0, hhi, hhi1, fun c hc0 hc => ⟨hc2 c hc0 hc, by omega⟩, ?_⟩
  rw [u32_or _ _ (by decide) (by decide) hhi0 hhi1]
  simp only [Int.toNat_zero, Nat.zero_or]
  rw [Int.toNat_of_nonneg hhi0]
theorem getD_replicate (n i : Nat) : (List.replicate n (0 : Int)).getD i 0 = 0 := by
  rw [List.getD_eq_getElem?_getD, List.getElem?_replicate]; split <;> rfl
theorem shl_loop (xs : List Int) (w b : Nat) (hx : Lim 4294967296 xs) (hb : b < 32) (hL : xs.length + w ≤ 549755813888) : ∀ (d i : Nat) (out : List Int), d = xs.length - i → i ≤ xs.length → out.length = xs.length + w + 1 → Lim 4294967296 out →
    val 4294967296 out = 4294967296 ^ w * 2 ^ b * val 4294967296 (xs.take i) → out.drop (i + w + 1) = List.replicate (out.length - (i + w + 1)) 0 → out.getD (i + w) 0 < 2 ^ b →
    ∃ r, Ev (fun k => nat_Shl.l0 k (((32 * w + b : Nat)) : Int) out xs (xs.length : Int) (i : Int)) (trim r) ∧ r.length = xs.length + w + 1 ∧ Lim 4294967296 r ∧ val 4294967296 r = 4294967296 ^ w * 2 ^ b * val 4294967296 xs := by
  have hB : (0 : Int) < 4294967296 := by decide
  have e1 : ∀ _ : Unit, Int.tmod ((32 * w + b : Nat) : Int) 32 = b := fun _ => by rw [Int.tmod_eq_emod_of_nonneg (by omega)]; omega
  have e2 : ∀ _ : Unit, wrap64 (Int.tdiv ((32 * w + b : Nat) : Int) 32) = w := fun _ => by rw [Int.tdiv_eq_ediv_of_nonneg (by omega), w64 (by omega) (by omega)]; omega
  intro d
  induction d with
  | zero =>
    intro i out hd hi hlen ho hv hz ht
    have hii : i = xs.length := by omega
    subst hii
    refine ⟨out, ?_, hlen, ho, by rw [hv, List.take_of_length_le (Nat.le_refl _)]⟩
    refine Ev.step (f := fun k => (nat_Trim.f k out).bind fun t => some t) (fun k => ?_) ?_
    · simp only [nat_Shl.l0]; rw [if_neg (by omega)]
    · exact Ev.bind (f := fun _ t => some t) (Trim_ev out (by omega)) (Ev.now _)
  | succ d ih =>
    intro i out hd hi hlen ho hv hz ht
    have g1 : (i : Int) < (xs.length : Int) := by omega
    have g2 : (0 : Int) ≤ (i : Int) := by omega
    have g3 : (0 : Int) ≤ ((i + w : Nat) : Int) := by omega
    have g4 : ((i + w : Nat) : Int) < (out.length : Int) := by omega
    have g5 : (0 : Int) ≤ ((i + w + 1 : Nat) : Int) := by omega
    have g6 : ((i + w + 1 : Nat) : Int) < (out.length : Int) := by omega
    have g7 : ∀ _ : Unit, wrap64 ((i : Int) + 1) = ((i + 1 : Nat) : Int) := fun _ => by rw [w64 (by omega) (by omega)]; omega
    have g8 : (0 : Int) ≤ (b : Int) := by omega
    have g9 : i + w + 1 < out.length := by omega
    have g10 : i + w < out.length := by omega
    have g11 : i < xs.length := by omega
    have g12 : d = xs.length - (i + 1) := by omega
    have f1 : ∀ _ : Unit, wrap64 ((i : Int) + (w : Int)) = ((i + w : Nat) : Int) := fun _ => by rw [w64 (by omega) (by omega)]; omega
    have f2 : ∀ _ : Unit, wrap64 (((i + w : Nat) : Int) + 1) = ((i + w + 1 : Nat) : Int) := fun _ => by rw [w64 (by omega) (by omega)]; omega
    have hz1 : out.getD (i + w + 1) 0 = 0 := getD_zeros hz (by omega)
    have hxi := hx.rd hB (i : Int)
    have hxg : rd xs (i : Int) = xs.getD i 0 := rd_getD xs i
    generalize hy : rd xs (i : Int) = x at hxi hxg
    have hc := ho.getD hB (i + w)
    obtain ⟨lo, hi', s1, s2, s3, hlo, hhi0, hhi, hhi1, hor, hor0⟩ := shl_step hb hxi.1 hxi.2
    have hor2 := (hor _ hc.1 ht).2
    have hor1 := (hor _ hc.1 ht).1
    clear hor
    have hval : val 4294967296 ((out.set (i + w) (out.getD (i + w) 0 + lo)).set (i + w + 1) hi') = 4294967296 ^ w * 2 ^ b * val 4294967296 (xs.take (i + 1)) := by
      rw [val_set _ _ _ _ (by rw [List.length_set]; exact g9), val_set _ _ _ _ g10, hv, getD_set_ne (Nat.ne_of_lt (Nat.lt_succ_self _)), hz1, val_take_succ _ _ _ g11, ← hxg, Int.pow_succ, Int.pow_add]
      clear hv ht hc hhi hhi1 hhi0 hlo hor2 hor1 hor0 s1 s2 ih hz hx ho hy hxi
      grind
    obtain ⟨r, hev, hrl, hrL, hrv⟩ := ih (i + 1) ((out.set (i + w) (out.getD (i + w) 0 + lo)).set (i + w + 1) hi') g12 g11 (by simp [hlen])
      ((ho.set _ ⟨Int.add_nonneg hc.1 hlo, hor2⟩).set _ ⟨hhi0, hhi1⟩) hval (by
        rw [List.length_set, List.length_set, show i + 1 + w + 1 = (i + w + 1) + 1 from by rw [Nat.add_right_comm i 1 w], List.drop_set_of_lt (Nat.lt_succ_self _), List.drop_set_of_lt (Nat.lt_succ_of_lt (Nat.lt_succ_self _)), show List.drop (i + w + 1 + 1) out = (out.drop (i + w + 1)).drop 1 by rw [List.drop_drop], hz, List.drop_replicate]
        rfl) (by
        rw [show i + 1 + w = i + w + 1 from Nat.add_right_comm i 1 w, getD_set_self (by rw [List.length_set]; exact g9)]; exact hhi)
    refine ⟨r, ?_, hrl, hrL, hrv⟩
    refine Ev.step (f := fun k => nat_Shl.l0 k (((32 * w + b : Nat)) : Int) ((out.set (i + w) (out.getD (i + w) 0 + lo)).set (i + w + 1) hi') xs (xs.length : Int) ((i + 1 : Nat) : Int)) (fun k => ?_) hev
    simp only [nat_Shl.l0]
    rw [if_pos g1, if_pos g2, if_pos g1, e1 (), e2 (), if_pos g8, f1 (), if_pos g3, if_pos g4, f2 (), hy, s1, s2, rd_getD, hor1, Option.bind_some, if_pos g5, if_pos g6, rd_getD, Int.toNat_natCast, getD_set_ne (Nat.ne_of_lt (Nat.lt_succ_self _)), Int.toNat_natCast, hz1, hor0, g7 ()]
theorem Shl_ev (xs : List Int) (n : Nat) (hx : Lim 4294967296 xs) (hL : xs.length + n / 32 ≤ 549755813888) :
    ∃ r, Ev (fun k => nat_Shl.f k xs (n : Int)) r ∧ Lim 4294967296 r ∧ Nrm r ∧ val 4294967296 r = val 4294967296 xs * 2 ^ n ∧ r.length ≤ xs.length + n / 32 + 1 := by
  have hB : (0 : Int) < 4294967296 := by decide
  cases xs with
  | nil => exact ⟨[], Ev.const (by rfl), lim_nil _, nrm_nil, by simp [val], by simp⟩
  | cons x xs =>
    obtain ⟨r, h1, h2, h3, h4⟩ := shl_loop (x :: xs) (n / 32) (n % 32) hx (by omega) hL (x :: xs).length 0 (List.replicate ((x :: xs).length + n / 32 + 1) 0) (by omega) (by omega) (by simp) (lim_replicate hB _)
      (by rw [val_replicate, List.take_zero]; simp [val]) (by rw [List.drop_replicate, List.length_replicate]) (by
        have : (0 : Int) < 2 ^ (n % 32) := Int.pow_pos (by decide)
        rw [getD_replicate]; exact this)
    refine ⟨trim r, ?_, lim_trim h3, nrm_trim _, ?_, Nat.le_trans (length_trim _) (by omega)⟩
    · refine Ev.congr (fun k => ?_) h1
      unfold nat_Shl.f
      have e : wrap64 (wrap64 (((x :: xs).length : Int) + wrap64 (Int.tdiv (n : Int) 32)) + 1) = (((x :: xs).length + n / 32 + 1 : Nat) : Int) := by
        rw [Int.tdiv_eq_ediv_of_nonneg (by omega), w64 (x := (n : Int) / 32) (by omega) (by omega), w64 (x := ((x :: xs).length : Int) + (n : Int) / 32) (by omega) (by omega), w64 (by omega) (by omega)]
        omega
      rw [if_neg (by simp; omega), e, if_pos (by omega), if_pos (by omega), Int.toNat_natCast, show 32 * (n / 32) + n % 32 = n by omega]
      rfl
    · rw [val_trim, h4, show (4294967296 : Int) = 2 ^ 32 from rfl, ← Int.pow_mul, ← Int.pow_add, show 32 * (n / 32) + n % 32 = n by omega, Int.mul_comm]
theorem shr_digit {B P P' D0 D1 t : Int} (hP : 0 < P) (hP' : 0 < P') (hB : P * P' = B) (h0 : 0 ≤ D0) (h1 : D0 < B) :
    ((D0 + B * D1) / P) % B + B * ((D1 + B * t) / P) = (D0 + B * (D1 + B * t)) / P := by
  have hB0 : 0 < B := by rw [← hB]; exact Int.mul_pos hP hP'
  have hq := Int.mul_ediv_add_emod (D1 + B * t) P
  have hr0 : 0 ≤ (D1 + B * t) % P := Int.emod_nonneg _ (by omega)
  have hr1 : (D1 + B * t) % P < P := Int.emod_lt_of_pos _ hP
  generalize (D1 + B * t) / P = q at *
  generalize (D1 + B * t) % P = r at *
  have e1 : D0 + B * (D1 + B * t) = (D0 + B * r) + P * (B * q) := by rw [← hq]; grind
  have e2 : D0 + B * D1 = (D0 + B * r) + P * (B * (q - P' * t)) := by
    have : D1 = P * q + r - B * t := by omega
    rw [this]; grind
  rw [e1, e2, Int.add_mul_ediv_left _ _ (by omega), Int.add_mul_ediv_left _ _ (by omega), Int.add_mul_emod_self_left]
  rw [Int.emod_eq_of_lt (Int.ediv_nonneg (Int.add_nonneg h0 (Int.mul_nonneg (by omega) hr0)) (by omega))]
  refine Int.ediv_lt_of_lt_mul hP ?_
  have : B * (r + 1) ≤ B * P := Int.mul_le_mul_of_nonneg_left (by omega) (by omega)
  rw [Int.mul_add, Int.mul_one] at this
  omega
theorem shr64 {x : Int} {b : Nat} (hb : b < 32) : shr .u64 x (b : Int) = x / 2 ^ b := by
  unfold shr
  rw [Int.toNat_natCast, Nat.min_eq_left (by simp [IntKind.bits]; omega)]
theorem shr_at {x y : Int} {b : Nat} (hb : b < 32) (hx0 : 0 ≤ x) (hx : x < 4294967296) (hy0 : 0 ≤ y) (hy : y < 4294967296) :
    shr .u64 (Go.bits .or .u64 (IntKind.u64.wrap x) (IntKind.u64.wrap ((IntKind.u64.wrap y) * 4294967296))) (b : Int) % 4294967296 = ((x + 4294967296 * y) / 2 ^ b) % 4294967296 := by
  rw [shr64 hb, u64_id hx0 (by omega), u64_id hy0 (by omega), u64_id (by omega) (by omega), bits_or_shift' hy0 hy hx0 hx, show y * 4294967296 + x = x + 4294967296 * y by omega]
theorem shr_loop (xs : List Int) (w b : Nat) (hx : Lim 4294967296 xs) (hb : b < 32) (hw : w ≤ xs.length) (hL : xs.length + w ≤ 549755813888) (ex : Bool) : ∀ (d i : Nat) (out : List Int), d + i = xs.length - w → out.length = xs.length - w → Lim 4294967296 out →
    val 4294967296 (out.take i) + 4294967296 ^ i * (val 4294967296 ((xs.drop w).drop i) / 2 ^ b) = val 4294967296 (xs.drop w) / 2 ^ b →
    ∃ r, Ev (fun k => nat_Shr.l0 k xs (((32 * w + b : Nat)) : Int) out ex (w : Int) (out.length : Int) (i : Int)) (trim r, ex) ∧ r.length = xs.length - w ∧ Lim 4294967296 r ∧ val 4294967296 r = val 4294967296 (xs.drop w) / 2 ^ b := by
  have hB : (0 : Int) < 4294967296 := by decide
  have e1 : ∀ _ : Unit, Int.tmod ((32 * w + b : Nat) : Int) 32 = b := fun _ => by rw [Int.tmod_eq_emod_of_nonneg (by omega)]; omega
  intro d
  induction d with
  | zero =>
    intro i out hd hlen ho hv
    refine ⟨out, ?_, hlen, ho, ?_⟩
    · refine Ev.step (f := fun k => (nat_Trim.f k out).bind fun t => some (t, ex)) (fun k => ?_) ?_
      · simp only [nat_Shr.l0]; rw [if_neg (by omega)]
      · exact Ev.bind (f := fun _ t => some (t, ex)) (Trim_ev out (by omega)) (Ev.now _)
    · rw [List.take_of_length_le (by omega), List.drop_of_length_le (by rw [List.length_drop]; omega)] at hv
      simp only [val, Int.zero_ediv, Int.mul_zero, Int.add_zero] at hv
      exact hv
  | succ d ih =>
    intro i out hd hlen ho hv
    have g1 : (i : Int) < (out.length : Int) := by omega
    have g2 : (0 : Int) ≤ (i : Int) := by omega
    have g3 : (0 : Int) ≤ ((i + w : Nat) : Int) := by omega
    have g4 : ((i + w : Nat) : Int) < (xs.length : Int) := by omega
    have g5 : (0 : Int) ≤ ((i + w + 1 : Nat) : Int) := by omega
    have g7 : ∀ _ : Unit, wrap64 ((i : Int) + 1) = ((i + 1 : Nat) : Int) := fun _ => by rw [w64 (by omega) (by omega)]; omega
    have g8 : (0 : Int) ≤ (b : Int) := by omega
    have g9 : i < out.length := by omega
    have g10 : i < (xs.drop w).length := by rw [List.length_drop]; omega
    have f1 : ∀ _ : Unit, wrap64 ((i : Int) + (w : Int)) = ((i + w : Nat) : Int) := fun _ => by rw [w64 (by omega) (by omega)]; omega
    have f2 : ∀ _ : Unit, wrap64 (((i + w : Nat) : Int) + 1) = ((i + w + 1 : Nat) : Int) := fun _ => by rw [w64 (by omega) (by omega)]; omega
    have hg : (xs.drop w).getD i 0 = rd xs ((i + w : Nat) : Int) := by rw [rd_getD, List.getD_eq_getElem?_getD, List.getElem?_drop, List.getD_eq_getElem?_getD, Nat.add_comm]
    have hxi := hx.rd hB ((i + w : Nat) : Int)
    have hyi := hx.rd hB ((i + w + 1 : Nat) : Int)
    have hP0 : (0 : Int) < 2 ^ b := Int.pow_pos (by decide)
    have hP1 : (0 : Int) < 2 ^ (32 - b) := Int.pow_pos (by decide)
    have hs : ∀ (D1 t : Int), val 4294967296 ((xs.drop w).drop (i + 1)) = D1 + 4294967296 * t →
        val 4294967296 ((out.set i (((rd xs ((i + w : Nat) : Int) + 4294967296 * D1) / 2 ^ b) % 4294967296)).take (i + 1)) + 4294967296 ^ (i + 1) * (val 4294967296 ((xs.drop w).drop (i + 1)) / 2 ^ b) = val 4294967296 (xs.drop w) / 2 ^ b := by
      intro D1 t h
      have hd := shr_digit (t := t) (D1 := D1) hP0 hP1 (pow_base (show b ≤ 32 by omega)) hxi.1 hxi.2
      rw [take_set_succ g9, val_snoc, List.length_take, Nat.min_eq_left (by omega), ← hv, val_drop _ _ i g10, h, hg, ← hd, Int.pow_succ]
      grind
    have hset : ∀ v : Int, Lim 4294967296 (out.set i (v % 4294967296)) := fun v => ho.set _ ⟨Int.emod_nonneg _ (by decide), Int.emod_lt_of_pos _ (by decide)⟩
    by_cases c : i + w + 1 < xs.length
    · obtain ⟨r, hev, hrl, hrL, hrv⟩ := ih (i + 1) (out.set i (((rd xs ((i + w : Nat) : Int) + 4294967296 * rd xs ((i + w + 1 : Nat) : Int)) / 2 ^ b) % 4294967296)) (by omega) (by rw [List.length_set]; exact hlen) (hset _)
        (hs _ (val 4294967296 ((xs.drop w).drop (i + 2))) (by
          rw [val_drop _ _ (i + 1) (by rw [List.length_drop]; omega), rd_getD, List.getD_eq_getElem?_getD, List.getElem?_drop, List.getD_eq_getElem?_getD, show w + (i + 1) = i + w + 1 by omega]))
      refine ⟨r, ?_, hrl, hrL, hrv⟩
      rw [List.length_set] at hev
      refine Ev.step (f := fun k => nat_Shr.l0 k xs (((32 * w + b : Nat)) : Int) (out.set i (((rd xs ((i + w : Nat) : Int) + 4294967296 * rd xs ((i + w + 1 : Nat) : Int)) / 2 ^ b) % 4294967296)) ex (w : Int) (out.length : Int) ((i + 1 : Nat) : Int)) (fun k => ?_) hev
      simp only [nat_Shr.l0]
      have c' : ((i + w + 1 : Nat) : Int) < (xs.length : Int) := by omega
      rw [if_pos g1, f1 (), if_pos g3, if_pos g4, f2 (), if_pos c', if_pos g5, e1 (), if_pos g8, if_pos g2, if_pos g1, shr_at hb hxi.1 hxi.2 hyi.1 hyi.2, g7 (), Int.toNat_natCast]
    · obtain ⟨r, hev, hrl, hrL, hrv⟩ := ih (i + 1) (out.set i (((rd xs ((i + w : Nat) : Int) + 4294967296 * 0) / 2 ^ b) % 4294967296)) (by omega) (by rw [List.length_set]; exact hlen) (hset _)
        (hs 0 0 (by rw [List.drop_of_length_le (by rw [List.length_drop]; omega)]; rfl))
      refine ⟨r, ?_, hrl, hrL, hrv⟩
      rw [List.length_set, Int.mul_zero, Int.add_zero] at hev
      refine Ev.step (f := fun k => nat_Shr.l0 k xs (((32 * w + b : Nat)) : Int) (out.set i ((rd xs ((i + w : Nat) : Int) / 2 ^ b) % 4294967296)) ex (w : Int) (out.length : Int) ((i + 1 : Nat) : Int)) (fun k => ?_) hev
      simp only [nat_Shr.l0]
      have c' : ¬ ((i + w + 1 : Nat) : Int) < (xs.length : Int) := by omega
      rw [if_pos g1, f1 (), if_pos g3, if_pos g4, f2 (), if_neg c', e1 (), if_pos g8, if_pos g2, if_pos g1, u64_id hxi.1 (by omega), shr64 hb, g7 (), Int.toNat_natCast]
theorem and_low {x : Int} {b : Nat} (hb : b < 32) (h0 : 0 ≤ x) (h1 : x < 4294967296) : Go.bits .and .u32 x (((shl .u32 1 (b : Int)) - 1) % 4294967296) = x % 2 ^ b := by
  have hp := pow_lt_base hb
  have hp0 : (0 : Int) < 2 ^ b := Int.pow_pos (by decide)
  have e : shl .u32 1 (b : Int) = 2 ^ b := by
    unfold shl
    rw [Int.toNat_natCast, Nat.min_eq_left (by simp [IntKind.bits]; omega), Int.one_mul]
    simp [IntKind.wrap, IntKind.bits, IntKind.signed]
    exact Int.emod_eq_of_lt (by omega) (by omega)
  rw [e, Int.emod_eq_of_lt (by omega) (by omega), u32_and _ _ h0 h1 (by omega) (by omega)]
  have e2 : ((2 : Int) ^ b - 1).toNat = 2 ^ b - 1 := by
    have : ((2 ^ b : Nat) : Int) = (2 : Int) ^ b := by rw [Int.natCast_pow]; rfl
    omega
  rw [e2, Nat.and_two_pow_sub_one_eq_mod, Int.natCast_emod, Int.toNat_of_nonneg h0, Int.natCast_pow]; rfl
theorem Shr_ev (xs : List Int) (n : Nat) (hx : Lim 4294967296 xs) (hn : Nrm xs) (hL : xs.length ≤ 274877906944) (hn2 : n / 32 ≤ 274877906944) :
    ∃ r, Ev (fun k => nat_Shr.f k xs (n : Int)) (r, decide (val 4294967296 xs % 2 ^ n = 0)) ∧ Lim 4294967296 r ∧ Nrm r ∧ val 4294967296 r = val 4294967296 xs / 2 ^ n ∧ r.length ≤ xs.length := by
  have hB : (0 : Int) < 4294967296 := by decide
  have e0 : (2 : Int) ^ n = 4294967296 ^ (n / 32) * 2 ^ (n % 32) := by
    rw [show (4294967296 : Int) = 2 ^ 32 from rfl, ← Int.pow_mul, ← Int.pow_add, show 32 * (n / 32) + n % 32 = n by omega]
  have hP0 : (0 : Int) < 2 ^ (n % 32) := Int.pow_pos (by decide)
  have hW0 : (0 : Int) < 4294967296 ^ (n / 32) := Int.pow_pos (by decide)
  have e2 : ∀ _ : Unit, wrap64 (Int.tdiv (n : Int) 32) = ((n / 32 : Nat) : Int) := fun _ => by rw [Int.tdiv_eq_ediv_of_nonneg (by omega), w64 (by omega) (by omega)]; omega
  have en : n = 32 * (n / 32) + n % 32 := by omega
  have e1 : ∀ _ : Unit, Int.tmod (n : Int) 32 = ((n % 32 : Nat) : Int) := fun _ => by rw [Int.tmod_eq_emod_of_nonneg (by omega)]; omega
  have hb : n % 32 < 32 := by omega
  generalize hw : n / 32 = w at *
  generalize hbb : n % 32 = b at *
  by_cases c : w ≥ xs.length
  · have hv := val_lt hB hx
    have hv0 := val_nonneg hB hx
    have hm := pow_mono' hB c
    have hlt : val 4294967296 xs < 4294967296 ^ w * 2 ^ b := by
      have : 4294967296 ^ w * 1 ≤ (4294967296 : Int) ^ w * 2 ^ b := Int.mul_le_mul_of_nonneg_left (by omega) (by omega)
      omega
    refine ⟨[], ⟨0, fun k _ => ?_⟩, lim_nil _, nrm_nil, ?_, by simp⟩
    · simp only [nat_Shr.f]
      rw [e2 (), if_pos (by omega)]
      rw [e0, Int.emod_eq_of_lt hv0 hlt]
      have h8 : ((xs.length : Int) == 0) = decide (val 4294967296 xs = 0) := by
        have h9 := val_eq_zero hB hx hn
        by_cases h7 : xs = []
        · rw [decide_eq_true (h9.2 h7), h7]; rfl
        · rw [decide_eq_false (fun h => h7 (h9.1 h)), beq_eq_false_iff_ne]
          intro h; exact h7 (List.length_eq_zero_iff.1 (by omega))
      rw [h8]
    · rw [e0, Int.ediv_eq_zero_of_lt hv0 hlt]; rfl
  · have c1 : w < xs.length := by omega
    have hs := val_split 4294967296 xs w (by omega)
    have ht0 := val_nonneg hB (hx.take w)
    have ht1 := val_lt hB (hx.take w)
    rw [List.length_take, Nat.min_eq_left (by omega)] at ht1
    have hd0 := val_nonneg hB (hx.drop w)
    have hdiv : val 4294967296 xs / 2 ^ n = val 4294967296 (xs.drop w) / 2 ^ b := by
      rw [e0, ← Int.ediv_ediv_of_nonneg (by omega), hs, Int.add_mul_ediv_left _ _ (by omega), Int.ediv_eq_zero_of_lt ht0 ht1, Int.zero_add]
    have hmod : (val 4294967296 xs % 2 ^ n = 0) ↔ (val 4294967296 (xs.take w) = 0 ∧ val 4294967296 (xs.drop w) % 2 ^ b = 0) := by
      have hdm := Int.mul_ediv_add_emod (val 4294967296 (xs.drop w)) (2 ^ b)
      have hr0 : 0 ≤ val 4294967296 (xs.drop w) % 2 ^ b := Int.emod_nonneg _ (by omega)
      have hr1 : val 4294967296 (xs.drop w) % 2 ^ b < 2 ^ b := Int.emod_lt_of_pos _ hP0
      have h1 : val 4294967296 xs % 2 ^ n = val 4294967296 (xs.take w) + 4294967296 ^ w * (val 4294967296 (xs.drop w) % 2 ^ b) := by
        rw [e0, hs, ← hdm]
        generalize val 4294967296 (xs.drop w) / 2 ^ b = q at *
        generalize val 4294967296 (xs.drop w) % 2 ^ b = r at *
        rw [show val 4294967296 (xs.take w) + 4294967296 ^ w * (2 ^ b * q + r) = (val 4294967296 (xs.take w) + 4294967296 ^ w * r) + (4294967296 ^ w * 2 ^ b) * q by grind, Int.add_mul_emod_self_left]
        have h3 : 4294967296 ^ w * (r + 1) ≤ 4294967296 ^ w * 2 ^ b := Int.mul_le_mul_of_nonneg_left (by omega) (by omega)
        rw [Int.mul_add, Int.mul_one] at h3
        rw [show (2 ^ b * q + r) % 2 ^ b = r by rw [Int.add_comm, Int.add_mul_emod_self_left]; exact Int.emod_eq_of_lt hr0 hr1]
        exact Int.emod_eq_of_lt (Int.add_nonneg ht0 (Int.mul_nonneg (by omega) hr0)) (by omega)
      rw [h1]
      generalize val 4294967296 (xs.drop w) % 2 ^ b = r at *
      have h4 : 0 ≤ 4294967296 ^ w * r := Int.mul_nonneg (by omega) hr0
      constructor
      · intro h
        have h5 : 4294967296 ^ w * r = 0 := by omega
        rcases Int.mul_eq_zero.1 h5 with h6 | h6
        · omega
        · exact ⟨by omega, h6⟩
      · rintro ⟨h5, h6⟩
        rw [h5, h6]; simp
    have hl : ∀ ex : Bool, ∃ r, Ev (fun k => nat_Shr.j0 k xs (n : Int) ex (w : Int)) (trim r, ex) ∧ r.length = xs.length - w ∧ Lim 4294967296 r ∧ val 4294967296 r = val 4294967296 (xs.drop w) / 2 ^ b := by
      intro ex
      obtain ⟨r, h1, h2, h3, h4⟩ := shr_loop xs w b hx hb (by omega) (by omega) ex (xs.length - w) 0 (List.replicate (xs.length - w) 0) (by omega) (by simp) (lim_replicate hB _) (by simp [val])
      refine ⟨r, ?_, h2, h3, h4⟩
      rw [← en] at h1
      refine Ev.step (fun k => ?_) h1
      have e3 : wrap64 ((xs.length : Int) - (w : Int)) = ((xs.length - w : Nat) : Int) := by rw [w64 (by omega) (by omega)]; omega
      simp only [nat_Shr.j0]
      rw [e3, if_pos (by omega), Int.toNat_natCast, if_pos (by omega), Option.bind_some]
      rfl
    have hlow : val 4294967296 (xs.drop w) % 2 ^ b = rd xs (w : Int) % 2 ^ b := by
      rw [val_drop _ xs w c1, rd_getD]
      have : (4294967296 : Int) * val 4294967296 (xs.drop (w + 1)) = 2 ^ b * (2 ^ (32 - b) * val 4294967296 (xs.drop (w + 1))) := by rw [← pow_base (show b ≤ 32 by omega)]; grind
      rw [this, Int.add_mul_emod_self_left]
    obtain ⟨r, h1, h2, h3, h4⟩ := hl (decide (val 4294967296 xs % 2 ^ n = 0))
    refine ⟨trim r, ?_, lim_trim h3, nrm_trim _, by rw [val_trim, h4, hdiv], Nat.le_trans (length_trim _) (by omega)⟩
    have hcl : ∀ k, nat_Shr.f k xs (n : Int) = (nat_Trim.f k (xs.take w)).bind fun t143 => (if (t143.length : Int) = 0 then nat_Shr.j0 k xs (n : Int) (rd xs (w : Int) % 2 ^ b == 0) (w : Int) else nat_Shr.j0 k xs (n : Int) false (w : Int)) := by
      intro k
      have hxi := hx.rd hB (w : Int)
      simp only [nat_Shr.f, slices_Clone_uint32_uint32.f]
      rw [e2 (), e1 (), if_neg (by omega), if_pos (by omega), if_pos (by omega), Int.toNat_natCast, if_pos (by rw [List.length_take]; omega), Option.bind_some, if_pos (by omega), if_pos (by omega), and_low hb hxi.1 hxi.2]
    refine Ev.congr hcl (Ev.bind (f := fun k t143 => (if (List.length t143 : Int) = 0 then nat_Shr.j0 k xs (n : Int) (rd xs (w : Int) % 2 ^ b == 0) (w : Int) else nat_Shr.j0 k xs (n : Int) false (w : Int))) (Trim_ev (xs.take w) (by rw [List.length_take]; omega)) ?_)
    have hz : val 4294967296 (xs.take w) = 0 ↔ trim (xs.take w) = [] := by
      rw [← val_trim]; exact val_eq_zero hB (lim_trim (hx.take w)) (nrm_trim _)
    by_cases c2 : trim (xs.take w) = []
    · have : decide (val 4294967296 xs % 2 ^ n = 0) = (rd xs (w : Int) % 2 ^ b == 0) := by
        have h8 : (val 4294967296 xs % 2 ^ n = 0) ↔ (rd xs (w : Int) % 2 ^ b = 0) := by rw [hmod, hlow]; exact ⟨fun h => h.2, fun h => ⟨hz.2 c2, h⟩⟩
        by_cases h7 : rd xs (w : Int) % 2 ^ b = 0
        · rw [decide_eq_true (h8.2 h7), h7]; rfl
        · rw [decide_eq_false (fun h => h7 (h8.1 h)), eq_comm, beq_eq_false_iff_ne]; exact h7
      rw [this] at h1
      simp only [c2, List.length_nil, Int.natCast_zero, if_true]
      rw [this]
      exact h1
    · have : decide (val 4294967296 xs % 2 ^ n = 0) = false := by
        rw [decide_eq_false_iff_not, hmod]
        intro h
        exact c2 (hz.1 h.1)
      rw [this] at h1
      have h0 : ¬ ((trim (xs.take w)).length : Int) = 0 := by
        intro h
        exact c2 (List.length_eq_zero_iff.1 (by omega))
      simp only [if_neg h0]
      rw [this]
      exact h1
theorem knuth_ge {B q V U v12 top3 Pm Vl Ul : Int} (hV : V = v12 * Pm + Vl) (hVl : 0 ≤ Vl) (hU : U = top3 * Pm + Ul) (hUl : Ul < Pm) (hP : 0 < Pm) (hq : q * V ≤ U) (hq0 : 0 ≤ q) : q * v12 ≤ top3 := by
  have h1 : q * v12 * Pm ≤ U := by
    have : 0 ≤ q * Vl := Int.mul_nonneg hq0 hVl
    subst hV; grind
  have h2 : q * v12 * Pm < (top3 + 1) * Pm := by grind
  have := Int.lt_of_mul_lt_mul_right h2 (by omega)
  omega
theorem knuth_le {B g V U v12 top3 Pm Vl Ul q : Int} (hV : V = v12 * Pm + Vl) (hVl : Vl < Pm) (hU : U = top3 * Pm + Ul) (hUl : 0 ≤ Ul) (hP : 0 < Pm) (hg0 : 0 ≤ g) (hg : g < B) (h : g * v12 ≤ top3) (hBV : B * Pm ≤ V) (hq : U < (q + 1) * V) (hV0 : 0 < V) : g ≤ q + 1 := by
  have h1 : g * v12 * Pm ≤ top3 * Pm := Int.mul_le_mul_of_nonneg_right h (by omega)
  have h2 : g * Vl ≤ g * Pm := Int.mul_le_mul_of_nonneg_left (by omega) hg0
  have h3 : g * Pm < B * Pm := Int.mul_lt_mul_of_pos_right hg hP
  have h4 : (g - 1) * V < (q + 1) * V := by subst hV; grind
  have := Int.lt_of_mul_lt_mul_right h4 (by omega)
  omega
theorem sub_step {a lo w : Int} (ha0 : 0 ≤ a) (ha : a < 4294967296) (hl0 : 0 ≤ lo) (hl : lo < 4294967296) (hw0 : 0 ≤ w) (hw : w ≤ 1) :
    ∃ d b' : Int, IntKind.u64.wrap (IntKind.u64.wrap (IntKind.u64.wrap a - lo) - w) % 4294967296 = d ∧ Go.bits .and .u64 (IntKind.u64.wrap (IntKind.u64.wrap (IntKind.u64.wrap a - lo) - w) / 4294967296) 1 = b' ∧ 0 ≤ d ∧ d < 4294967296 ∧ 0 ≤ b' ∧ b' ≤ 1 ∧ d - 4294967296 * b' = a - lo - w := by
  rw [u64_id ha0 (by omega), u64w, u64w]
  by_cases h : a - lo - w < 0
  · have e : ((a - lo) % 18446744073709551616 - w) % 18446744073709551616 = a - lo - w + 18446744073709551616 := by omega
    rw [e, bits_and_one (by omega) (by omega)]
    exact ⟨_, _, rfl, rfl, by omega, by omega, by omega, by omega, by omega⟩
  · have e : ((a - lo) % 18446744073709551616 - w) % 18446744073709551616 = a - lo - w := by omega
    rw [e, bits_and_one (by omega) (by omega)]
    exact ⟨_, _, rfl, rfl, by omega, by omega, by omega, by omega, by omega⟩
theorem mul_lim {g b : Int} (hg0 : 0 ≤ g) (hg : g < 4294967296) (hb0 : 0 ≤ b) (hb : b < 4294967296) : 0 ≤ g * b ∧ g * b ≤ 18446744065119617025 := by
  refine ⟨Int.mul_nonneg hg0 hb0, ?_⟩
  have h1 : g * b ≤ g * 4294967295 := Int.mul_le_mul_of_nonneg_left (by omega) hg0
  omega
theorem mul_step {c g b : Int} (hc0 : 0 ≤ c) (hc : c < 4294967296) (hg0 : 0 ≤ g) (hg : g < 4294967296) (hb0 : 0 ≤ b) (hb : b < 4294967296) :
    ∃ lo c' : Int, IntKind.u64.wrap (c + IntKind.u64.wrap (g * IntKind.u64.wrap b)) % 4294967296 = lo ∧ IntKind.u64.wrap (c + IntKind.u64.wrap (g * IntKind.u64.wrap b)) / 4294967296 = c' ∧ 0 ≤ lo ∧ lo < 4294967296 ∧ 0 ≤ c' ∧ c' < 4294967296 ∧ c + g * b = lo + 4294967296 * c' := by
  obtain ⟨h1, h2⟩ := mul_lim hg0 hg hb0 hb
  rw [u64_id hb0 (by omega), u64_id (x := g * b) h1 (by omega), u64_id (by omega) (by omega)]
  generalize g * b = p at *
  exact ⟨_, _, rfl, rfl, by omega, by omega, by omega, by omega, by omega⟩
theorem add_step {c a b : Int} (hc0 : 0 ≤ c) (hc : c ≤ 1) (ha0 : 0 ≤ a) (ha : a < 4294967296) (hb0 : 0 ≤ b) (hb : b < 4294967296) :
    ∃ lo c' : Int, IntKind.u64.wrap (c + IntKind.u64.wrap (IntKind.u64.wrap a + IntKind.u64.wrap b)) % 4294967296 = lo ∧ IntKind.u64.wrap (c + IntKind.u64.wrap (IntKind.u64.wrap a + IntKind.u64.wrap b)) / 4294967296 = c' ∧ 0 ≤ lo ∧ lo < 4294967296 ∧ 0 ≤ c' ∧ c' ≤ 1 ∧ c + a + b = lo + 4294967296 * c' := by
  rw [u64_id ha0 (by omega), u64_id hb0 (by omega), u64_id (x := a + b) (by omega) (by omega), u64_id (by omega) (by omega)]
  exact ⟨_, _, rfl, rfl, by omega, by omega, by omega, by omega, by omega⟩
theorem digit_l2 (v : List Int) (g : Int) (hv : Lim 4294967296 v) (hL : v.length ≤ 549755813888) : ∀ (d i : Nat) (u0 u : List Int) (c : Int), d + i = v.length → u.length = v.length + 1 → Lim 4294967296 u → 0 ≤ c → c ≤ 1 →
    val 4294967296 (u.take i) + 4294967296 ^ i * c = val 4294967296 (u0.take i) + val 4294967296 (v.take i) → u.drop i = u0.drop i → u0.length = v.length + 1 →
    ∃ r, Ev (fun k => nat_digit.l2 k u v (v.length : Int) g c (v.length : Int) (i : Int)) (IntKind.u64.wrap (g - 1) % 4294967296, r) ∧ Lim 4294967296 r ∧ r.length = v.length + 1 ∧ ∃ z : Int, val 4294967296 r = val 4294967296 u0 + val 4294967296 v - 4294967296 ^ (v.length + 1) * z := by
  have hB : (0 : Int) < 4294967296 := by decide
  intro d
  induction d with
  | zero =>
    intro i u0 u c hd hl hu hc0 hc hval hdr hl0
    have hi : i = v.length := by omega
    subst hi
    have hxi := hu.rd hB (v.length : Int)
    have hx0 : rd u (v.length : Int) = u.getD v.length 0 := rd_getD u _
    have hx1 : u0.getD v.length 0 = u.getD v.length 0 := by
      have h1 : (u.drop v.length).getD 0 0 = (u0.drop v.length).getD 0 0 := by rw [hdr]
      rw [List.getD_eq_getElem?_getD, List.getElem?_drop, List.getD_eq_getElem?_getD, List.getElem?_drop] at h1
      rw [List.getD_eq_getElem?_getD, List.getD_eq_getElem?_getD]; exact h1.symm
    refine ⟨u.set v.length ((rd u (v.length : Int) + c) % 4294967296), Ev.step (f := fun _ => some (IntKind.u64.wrap (g - 1) % 4294967296, u.set v.length ((rd u (v.length : Int) + c) % 4294967296))) (fun k => ?_) (Ev.now _), hu.set _ ⟨Int.emod_nonneg _ (by decide), Int.emod_lt_of_pos _ hB⟩, by rw [List.length_set, hl], (rd u (v.length : Int) + c) / 4294967296, ?_⟩
    · simp only [nat_digit.l2]
      rw [if_neg (by omega), if_pos (by omega), if_pos (by omega), Int.emod_eq_of_lt hc0 (by omega : c < 4294967296), Int.toNat_natCast]
    · have hs1 := val_take_succ 4294967296 u v.length (by omega)
      have hs0 := val_take_succ 4294967296 u0 v.length (by omega)
      rw [List.take_of_length_le (by omega)] at hs1 hs0
      rw [List.take_of_length_le (Nat.le_refl _)] at hval
      rw [val_set _ _ _ _ (by omega), hs0, hx1]
      have hdm := Int.mul_ediv_add_emod (rd u (v.length : Int) + c) 4294967296
      rw [hx0] at hdm ⊢
      rw [hs1, Int.pow_succ]
      generalize (u.getD v.length 0 + c) / 4294967296 = z at *
      generalize (u.getD v.length 0 + c) % 4294967296 = y at *
      grind
  | succ d ih =>
    intro i u0 u c hd hl hu hc0 hc hval hdr hl0
    have g1 : (i : Int) < (v.length : Int) := by omega
    have g2 : (0 : Int) ≤ (i : Int) := by omega
    have g3 : (i : Int) < (u.length : Int) := by omega
    have g4 : i < v.length := by omega
    have g5 : i < u.length := by omega
    have g6 : i < u0.length := by omega
    have g7 : ∀ _ : Unit, wrap64 ((i : Int) + 1) = ((i + 1 : Nat) : Int) := fun _ => by rw [w64 (by omega) (by omega)]; omega
    have g8 : d + (i + 1) = v.length := by omega
    have hxi := hu.rd hB (i : Int)
    have hyi := hv.rd hB (i : Int)
    obtain ⟨lo, c', s1, s2, hlo0, hlo, hc'0, hc', hs⟩ := add_step hc0 hc hxi.1 hxi.2 hyi.1 hyi.2
    have hux : rd u (i : Int) = u0.getD i 0 := by
      rw [rd_getD]
      have h1 : (u.drop i).getD 0 0 = (u0.drop i).getD 0 0 := by rw [hdr]
      rw [List.getD_eq_getElem?_getD, List.getElem?_drop, List.getD_eq_getElem?_getD, List.getElem?_drop] at h1
      rw [List.getD_eq_getElem?_getD, List.getD_eq_getElem?_getD]; exact h1
    have hvx : rd v (i : Int) = v.getD i 0 := rd_getD v i
    obtain ⟨r, hev, h1, h2, h3⟩ := ih (i + 1) u0 (u.set i lo) c' g8 (by rw [List.length_set, hl]) (hu.set _ ⟨hlo0, hlo⟩) hc'0 hc' (by
        rw [take_set_succ g5, val_snoc, List.length_take, Nat.min_eq_left (Nat.le_of_lt g5), val_take_succ _ _ _ g4, val_take_succ _ _ _ g6, ← hux, ← hvx, Int.pow_succ]
        clear ih hdr hu hv s1 s2 hxi hyi hux hvx
        grind) (by rw [drop_set_succ, ← List.drop_drop, ← List.drop_drop, hdr]) hl0
    refine ⟨r, Ev.step (f := fun k => nat_digit.l2 k (u.set i lo) v (v.length : Int) g c' (v.length : Int) ((i + 1 : Nat) : Int)) (fun k => ?_) hev, h1, h2, h3⟩
    simp only [nat_digit.l2]
    rw [if_pos g1, if_pos g2, if_pos g3, if_pos g1, s1, s2, g7 (), Int.toNat_natCast]
theorem digit_l1 (v : List Int) (g : Int) (hg0 : 0 ≤ g) (hg : g < 4294967296) (hv : Lim 4294967296 v) (hL : v.length ≤ 549755813888) (q : Int) (u0 : List Int) (hu0 : Lim 4294967296 u0) (hl0 : u0.length = v.length + 1) (hq0 : 0 ≤ q) (hqV : q * val 4294967296 v ≤ val 4294967296 u0) (hqU : val 4294967296 u0 < (q + 1) * val 4294967296 v) (hqg : q ≤ g) (hgq : g ≤ q + 1) : ∀ (d i : Nat) (u : List Int) (b c : Int), d + i = v.length → u.length = v.length + 1 → Lim 4294967296 u → 0 ≤ b → b ≤ 1 → 0 ≤ c → c < 4294967296 →
    val 4294967296 (u.take i) - 4294967296 ^ i * b = val 4294967296 (u0.take i) - g * val 4294967296 (v.take i) + 4294967296 ^ i * c → u.drop i = u0.drop i →
    ∃ r, Ev (fun k => nat_digit.l1 k u v (v.length : Int) g b c (v.length : Int) (i : Int)) (q, r) ∧ Lim 4294967296 r ∧ r.length = v.length + 1 ∧ val 4294967296 r = val 4294967296 u0 - q * val 4294967296 v := by
  have hB : (0 : Int) < 4294967296 := by decide
  intro d
  induction d with
  | zero =>
    intro i u b c hd hl hu hb0 hb hc0 hc hval hdr
    have hi : i = v.length := by omega
    subst hi
    have hxi := hu.rd hB (v.length : Int)
    have hx0 : rd u (v.length : Int) = u.getD v.length 0 := rd_getD u _
    have hx1 : u0.getD v.length 0 = u.getD v.length 0 := by
      have h1 : (u.drop v.length).getD 0 0 = (u0.drop v.length).getD 0 0 := by rw [hdr]
      rw [List.getD_eq_getElem?_getD, List.getElem?_drop, List.getD_eq_getElem?_getD, List.getElem?_drop] at h1
      rw [List.getD_eq_getElem?_getD, List.getD_eq_getElem?_getD]; exact h1.symm
    obtain ⟨y, b', s1, s2, hy0, hy, hb'0, hb', hs⟩ := sub_step (lo := c) hxi.1 hxi.2 hc0 hc hb0 hb
    have hlen : v.length < u.length := by omega
    have hul : Lim 4294967296 (u.set v.length y) := hu.set _ ⟨hy0, hy⟩
    have hul1 : (u.set v.length y).length = v.length + 1 := by rw [List.length_set, hl]
    have hfin : val 4294967296 (u.set v.length y) - 4294967296 ^ (v.length + 1) * b' = val 4294967296 u0 - g * val 4294967296 v := by
      have hs1 := val_take_succ 4294967296 u v.length (by omega)
      have hs0 := val_take_succ 4294967296 u0 v.length (by omega)
      rw [List.take_of_length_le (by omega)] at hs1 hs0
      rw [List.take_of_length_le (Nat.le_refl _)] at hval
      rw [val_set _ _ _ _ hlen, hs0, hx1, hs1, Int.pow_succ]
      rw [hx0] at hs
      clear s1 s2 hu hdr hqV hqU hu0 hv hul
      grind
    have hn0 := val_nonneg hB hul
    have hn1 := val_lt hB hul
    rw [hul1] at hn1
    have g2 : (0 : Int) ≤ (v.length : Int) := by omega
    have g3 : ((v.length : Nat) : Int) < (u.length : Int) := by omega
    have g1 : ¬ (v.length : Int) < (v.length : Int) := by omega
    by_cases hbz : b' = 0
    · have hgq2 : g = q := by
        rw [hbz, Int.mul_zero, Int.sub_zero] at hfin
        have h5 : g * val 4294967296 v < (q + 1) * val 4294967296 v := by omega
        have hv0 := val_nonneg hB hv
        have := Int.lt_of_mul_lt_mul_right h5 hv0
        omega
      refine ⟨u.set v.length y, Ev.step (f := fun _ => some (q, u.set v.length y)) (fun k => ?_) (Ev.now _), hul, hul1, ?_⟩
      · simp only [nat_digit.l1]
        rw [if_neg g1, if_pos g2, if_pos g3, s1, s2, Option.bind_some, if_pos hbz, Int.emod_eq_of_lt hg0 hg, Int.toNat_natCast, hgq2]
      · rw [hbz, Int.mul_zero, Int.sub_zero, hgq2] at hfin
        exact hfin
    · have hb1 : b' = 1 := by omega
      rw [hb1, Int.mul_one] at hfin
      have hgq2 : g = q + 1 := by
        have h6 : q * val 4294967296 v < g * val 4294967296 v := by omega
        have hv0 := val_nonneg hB hv
        have := Int.lt_of_mul_lt_mul_right h6 hv0
        omega
      obtain ⟨r, hev, r1, r2, z, r3⟩ := digit_l2 v g hv hL v.length 0 (u.set v.length y) (u.set v.length y) 0 (by omega) hul1 hul (by omega) (by omega) (by simp [val]) rfl hul1
      refine ⟨r, Ev.step (f := fun k => nat_digit.l2 k (u.set v.length y) v (v.length : Int) g 0 (v.length : Int) 0) (fun k => ?_) (Ev.eq hev ?_), r1, r2, ?_⟩
      · simp only [nat_digit.l1]
        rw [if_neg g1, if_pos g2, if_pos g3, s1, s2, Option.bind_some, if_neg hbz, Int.toNat_natCast]
      · rw [u64_id (by omega) (by omega), hgq2, show q + 1 - 1 = q by omega, Int.emod_eq_of_lt hq0 (by omega)]
      · have m0 := val_nonneg hB r1
        have m1 := val_lt hB r1
        rw [r2] at m1
        have hVlt := val_lt hB hv
        have hpm := pow_mono' hB (show v.length ≤ v.length + 1 by omega)
        rw [hgq2] at hfin
        have e1 : (q + 1) * val 4294967296 v = q * val 4294967296 v + val 4294967296 v := by grind
        rw [e1] at hfin hqU
        have hz : z = 1 := by
          have e3 : val 4294967296 r = val 4294967296 u0 - q * val 4294967296 v + 4294967296 ^ (v.length + 1) * (1 - z) := by
            rw [r3, Int.mul_sub, Int.mul_one]; omega
          generalize (4294967296 : Int) ^ (v.length + 1) = M at *
          clear hev s1 s2 hs r3
          have h0 : 1 - z = 0 := by
            generalize 1 - z = y' at *
            rcases Int.lt_trichotomy y' 0 with h | h | h
            · have : M * y' ≤ M * (-1) := Int.mul_le_mul_of_nonneg_left (by omega) (by omega)
              omega
            · exact h
            · have : M * 1 ≤ M * y' := Int.mul_le_mul_of_nonneg_left (by omega) (by omega)
              omega
          omega
        rw [hz, Int.mul_one] at r3
        omega
  | succ d ih =>
    intro i u b c hd hl hu hb0 hb hc0 hc hval hdr
    have g1 : (i : Int) < (v.length : Int) := by omega
    have g2 : (0 : Int) ≤ (i : Int) := by omega
    have g3 : (i : Int) < (u.length : Int) := by omega
    have g4 : i < v.length := by omega
    have g5 : i < u.length := by omega
    have g6 : i < u0.length := by omega
    have g7 : ∀ _ : Unit, wrap64 ((i : Int) + 1) = ((i + 1 : Nat) : Int) := fun _ => by rw [w64 (by omega) (by omega)]; omega
    have g8 : d + (i + 1) = v.length := by omega
    have hxi := hu.rd hB (i : Int)
    have hyi := hv.rd hB (i : Int)
    obtain ⟨lo, c', s1, s2, hlo0, hlo, hc'0, hc', hs⟩ := mul_step hc0 hc hg0 hg hyi.1 hyi.2
    obtain ⟨y, b', t1, t2, hy0, hy, hb'0, hb', ht⟩ := sub_step hxi.1 hxi.2 hlo0 hlo hb0 hb
    have hux : rd u (i : Int) = u0.getD i 0 := by
      rw [rd_getD]
      have h1 : (u.drop i).getD 0 0 = (u0.drop i).getD 0 0 := by rw [hdr]
      rw [List.getD_eq_getElem?_getD, List.getElem?_drop, List.getD_eq_getElem?_getD, List.getElem?_drop] at h1
      rw [List.getD_eq_getElem?_getD, List.getD_eq_getElem?_getD]; exact h1
    have hvx : rd v (i : Int) = v.getD i 0 := rd_getD v i
    obtain ⟨r, hev, h1, h2, h3⟩ := ih (i + 1) (u.set i y) b' c' g8 (by rw [List.length_set, hl]) (hu.set _ ⟨hy0, hy⟩) hb'0 hb' hc'0 hc' (by
        rw [take_set_succ g5, val_snoc, List.length_take, Nat.min_eq_left (Nat.le_of_lt g5), val_take_succ _ _ _ g4, val_take_succ _ _ _ g6, ← hux, ← hvx, Int.pow_succ]
        clear ih hdr hu hv s1 s2 t1 t2 hxi hyi hux hvx hu0 hqV hqU
        grind) (by rw [drop_set_succ, ← List.drop_drop, ← List.drop_drop, hdr])
    refine ⟨r, Ev.step (f := fun k => nat_digit.l1 k (u.set i y) v (v.length : Int) g b' c' (v.length : Int) ((i + 1 : Nat) : Int)) (fun k => ?_) hev, h1, h2, h3⟩
    simp only [nat_digit.l1]
    rw [if_pos g1, if_pos g2, if_pos g1, if_pos g3, s1, s2, t1, t2, g7 (), Int.toNat_natCast]
theorem guess_loop (u v : List Int) (n : Nat) (hn : 2 ≤ n) (hnv : v.length = n) (hnu : u.length = n + 1) (hv : Lim 4294967296 v) (hu : Lim 4294967296 u) (hL : n ≤ 549755813888) (q top2 v1 v2 u2 : Int) (P : List Int → Prop)
    (ev1 : v1 = rd v ((n - 1 : Nat) : Int)) (ev2 : v2 = rd v ((n - 2 : Nat) : Int)) (eu2 : u2 = rd u ((n - 2 : Nat) : Int)) (hq0 : 0 ≤ q) (hqB : q < 4294967296) (ht0 : 0 ≤ top2) (ht1 : top2 ≤ v1 * 4294967296 + 4294967295)
    (hq12 : q * (v1 * 4294967296 + v2) ≤ top2 * 4294967296 + u2) (hle : ∀ g : Int, 0 ≤ g → g < 4294967296 → g * (v1 * 4294967296 + v2) ≤ top2 * 4294967296 + u2 → g ≤ q + 1)
    (hj2 : ∀ g : Int, 0 ≤ g → g < 4294967296 → q ≤ g → g ≤ q + 1 → ∃ r, Ev (fun k => nat_digit.j2 k u v (n : Int) g) (q, r) ∧ P r) :
    ∀ (m : Nat) (guess rest : Int), guess = q + m → guess ≤ 4294967297 → 0 ≤ rest → rest < 4294967296 → guess * v1 + rest = top2 → ∃ r, Ev (fun k => nat_digit.l0 k u v (n : Int) guess rest) (q, r) ∧ P r := by
  have hB : (0 : Int) < 4294967296 := by decide
  have h1 := hv.rd hB ((n - 1 : Nat) : Int)
  have h2 := hv.rd hB ((n - 2 : Nat) : Int)
  have h3 := hu.rd hB ((n - 2 : Nat) : Int)
  rw [← ev1] at h1; rw [← ev2] at h2; rw [← eu2] at h3
  have a1 : ∀ _ : Unit, wrap64 ((n : Int) - 1) = ((n - 1 : Nat) : Int) := fun _ => by rw [w64 (by omega) (by omega)]; omega
  have a2 : ∀ _ : Unit, wrap64 ((n : Int) - 2) = ((n - 2 : Nat) : Int) := fun _ => by rw [w64 (by omega) (by omega)]; omega
  have b0 : (0 : Int) ≤ ((n - 1 : Nat) : Int) := by omega
  have b1 : ((n - 1 : Nat) : Int) < (v.length : Int) := by omega
  have b2 : (0 : Int) ≤ ((n - 2 : Nat) : Int) := by omega
  have b3 : ((n - 2 : Nat) : Int) < (v.length : Int) := by omega
  have b4 : ((n - 2 : Nat) : Int) < (u.length : Int) := by omega
  have hdown : ∀ (guess rest : Int), q < guess → guess ≤ 4294967297 → 0 ≤ rest → rest < 4294967296 → guess * v1 + rest = top2 →
      (rest + v1 < 4294967296 → ∃ r, Ev (fun k => nat_digit.l0 k u v (n : Int) (guess - 1) (rest + v1)) (q, r) ∧ P r) → ∃ r, Ev (fun k => nat_digit.j1 k u v (n : Int) guess rest true) (q, r) ∧ P r := by
    intro guess rest hg hg1 hr0 hr1 hinv hind
    have e1 : IntKind.u64.wrap (rest + IntKind.u64.wrap v1) = rest + v1 := by rw [u64_id h1.1 (by omega), u64_id (by omega) (by omega)]
    have e2 : IntKind.u64.wrap (guess - 1) = guess - 1 := u64_id (by omega) (by omega)
    by_cases c : rest + v1 ≥ 4294967296
    · have hlim : guess - 1 < 4294967296 := by
        have h5 : (guess - 1) * v1 < 4294967296 * v1 := by
          have : (guess - 1) * v1 = guess * v1 - v1 := by grind
          have : (4294967296 : Int) * v1 = v1 * 4294967296 := Int.mul_comm _ _
          omega
        exact Int.lt_of_mul_lt_mul_right h5 h1.1
      have hup : (guess - 1) * (v1 * 4294967296 + v2) ≤ top2 * 4294967296 + u2 := by
        have h6 : (guess - 1) * v2 ≤ 4294967296 * 4294967295 := by
          have h61 : (guess - 1) * v2 ≤ (guess - 1) * 4294967295 := Int.mul_le_mul_of_nonneg_left (by omega) (by omega)
          omega
        have h7 : (guess - 1) * v1 = top2 - (rest + v1) := by
          have : (guess - 1) * v1 = guess * v1 - v1 := by grind
          omega
        have h8 : (guess - 1) * (v1 * 4294967296 + v2) = ((guess - 1) * v1) * 4294967296 + (guess - 1) * v2 := by grind
        rw [h8, h7]
        generalize (guess - 1) * v2 = z at *
        omega
      obtain ⟨r, hev, hp⟩ := hj2 (guess - 1) (by omega) hlim (by omega) (hle _ (by omega) hlim hup)
      refine ⟨r, Ev.step (f := fun k => nat_digit.j2 k u v (n : Int) (guess - 1)) (fun k => ?_) hev, hp⟩
      simp only [nat_digit.j1]
      rw [if_pos trivial, a1 (), if_pos b0, if_pos b1, ← ev1, e1, e2, if_pos (by omega)]
    · obtain ⟨r, hev, hp⟩ := hind (by omega)
      refine ⟨r, Ev.step (f := fun k => nat_digit.l0 k u v (n : Int) (guess - 1) (rest + v1)) (fun k => ?_) hev, hp⟩
      simp only [nat_digit.j1]
      rw [if_pos trivial, a1 (), if_pos b0, if_pos b1, ← ev1, e1, e2, if_neg (by omega)]
  intro m
  induction m with
  | zero =>
    intro guess rest hgm hg1 hr0 hr1 hinv
    have hgq : guess = q := by omega
    have hgB : ¬ guess / 4294967296 > 0 := by omega
    obtain ⟨p0, p1⟩ := mul_lim (g := guess) (b := v2) (by omega) (by omega) h2.1 h2.2
    have hno : ¬ guess * v2 > rest * 4294967296 + u2 := by
      have h8 : guess * (v1 * 4294967296 + v2) = (guess * v1) * 4294967296 + guess * v2 := by grind
      rw [← hgq, h8] at hq12
      generalize guess * v2 = z at *
      omega
    obtain ⟨r, hev, hp⟩ := hj2 guess (by omega) (by omega) (by omega) (by omega)
    have e1 : IntKind.u64.wrap (guess * IntKind.u64.wrap v2) = guess * v2 := by rw [u64_id h2.1 (by omega), u64_id p0 (by omega)]
    have e2 : Go.bits .or .u64 (IntKind.u64.wrap (rest * 4294967296)) (IntKind.u64.wrap u2) = rest * 4294967296 + u2 := by
      rw [u64_id (by omega) (by omega), u64_id h3.1 (by omega), bits_or_shift hr0 hr1 h3.1 h3.2]
    refine ⟨r, Ev.step (f := fun k => nat_digit.j1 k u v (n : Int) guess rest false) (fun k => ?_) (Ev.step (f := fun k => nat_digit.j2 k u v (n : Int) guess) (fun k => ?_) hev), hp⟩
    · simp only [nat_digit.l0]
      rw [if_neg hgB, a2 (), if_pos b2, if_pos b3, if_pos b4, ← ev2, ← eu2, e1, e2, decide_eq_false hno]
    · simp only [nat_digit.j1]
      rw [if_neg (by decide)]
  | succ m ih =>
    intro guess rest hgm hg1 hr0 hr1 hinv
    have hd := hdown guess rest (by omega) hg1 hr0 hr1 hinv (fun h => ih (guess - 1) (rest + v1) (by omega) (by omega) (by omega) h (by
      have : (guess - 1) * v1 = guess * v1 - v1 := by grind
      omega))
    by_cases hgB : guess / 4294967296 > 0
    · obtain ⟨r, hev, hp⟩ := hd
      refine ⟨r, Ev.step (f := fun k => nat_digit.j1 k u v (n : Int) guess rest true) (fun k => ?_) hev, hp⟩
      simp only [nat_digit.l0]
      rw [if_pos hgB]
    · have hgl : guess < 4294967296 := by omega
      obtain ⟨p0, p1⟩ := mul_lim (g := guess) (b := v2) (by omega) (by omega) h2.1 h2.2
      have e1 : IntKind.u64.wrap (guess * IntKind.u64.wrap v2) = guess * v2 := by rw [u64_id h2.1 (by omega), u64_id p0 (by omega)]
      have e2 : Go.bits .or .u64 (IntKind.u64.wrap (rest * 4294967296)) (IntKind.u64.wrap u2) = rest * 4294967296 + u2 := by
        rw [u64_id (by omega) (by omega), u64_id h3.1 (by omega), bits_or_shift hr0 hr1 h3.1 h3.2]
      by_cases c : guess * v2 > rest * 4294967296 + u2
      · obtain ⟨r, hev, hp⟩ := hd
        refine ⟨r, Ev.step (f := fun k => nat_digit.j1 k u v (n : Int) guess rest true) (fun k => ?_) hev, hp⟩
        simp only [nat_digit.l0]
        rw [if_neg hgB, a2 (), if_pos b2, if_pos b3, if_pos b4, ← ev2, ← eu2, e1, e2, decide_eq_true c]
      · have hup : guess * (v1 * 4294967296 + v2) ≤ top2 * 4294967296 + u2 := by
          have h8 : guess * (v1 * 4294967296 + v2) = (guess * v1) * 4294967296 + guess * v2 := by grind
          rw [h8]
          generalize guess * v2 = z at *
          omega
        obtain ⟨r, hev, hp⟩ := hj2 guess (by omega) hgl (by omega) (hle _ (by omega) hgl hup)
        refine ⟨r, Ev.step (f := fun k => nat_digit.j1 k u v (n : Int) guess rest false) (fun k => ?_) (Ev.step (f := fun k => nat_digit.j2 k u v (n : Int) guess) (fun k => ?_) hev), hp⟩
        · simp only [nat_digit.l0]
          rw [if_neg hgB, a2 (), if_pos b2, if_pos b3, if_pos b4, ← ev2, ← eu2, e1, e2, decide_eq_false c]
        · simp only [nat_digit.j1]
          rw [if_neg (by decide)]
theorem div_bounds {U V : Int} (hV : 0 < V) (hU : 0 ≤ U) : 0 ≤ U / V ∧ U / V * V ≤ U ∧ U < (U / V + 1) * V ∧ U % V = U - U / V * V := by
  have h1 := Int.mul_ediv_add_emod U V
  have h2 := Int.emod_nonneg U (show V ≠ 0 by omega)
  have h3 := Int.emod_lt_of_pos U hV
  refine ⟨Int.ediv_nonneg hU (by omega), ?_⟩
  rw [Int.add_mul, Int.one_mul, Int.mul_comm (U / V) V]
  omega
theorem digit_ev (u v : List Int) (n : Nat) (hn : 2 ≤ n) (hnv : v.length = n) (hnu : u.length = n + 1) (hv : Lim 4294967296 v) (hu : Lim 4294967296 u) (hL : n ≤ 549755813888) (htop : 2147483648 ≤ v.getD (n - 1) 0) (hlt : val 4294967296 u < 4294967296 * val 4294967296 v) :
    ∃ r, Ev (fun k => nat_digit.f k u v) (val 4294967296 u / val 4294967296 v, r) ∧ Lim 4294967296 r ∧ r.length = n + 1 ∧ val 4294967296 r = val 4294967296 u % val 4294967296 v := by
  have hB : (0 : Int) < 4294967296 := by decide
  have h1 := hv.rd hB ((n - 1 : Nat) : Int)
  have h2 := hv.rd hB ((n - 2 : Nat) : Int)
  have k0 := hu.rd hB (n : Int)
  have k1 := hu.rd hB ((n - 1 : Nat) : Int)
  have k2 := hu.rd hB ((n - 2 : Nat) : Int)
  have htop' : 2147483648 ≤ rd v ((n - 1 : Nat) : Int) := by rw [rd_getD]; exact htop
  have hP0 : (0 : Int) < 4294967296 ^ (n - 2) := Int.pow_pos (by decide)
  have hVl0 := val_nonneg hB (hv.take (n - 2))
  have hVl1 := val_lt hB (hv.take (n - 2))
  rw [List.length_take, Nat.min_eq_left (by omega)] at hVl1
  have hUl0 := val_nonneg hB (hu.take (n - 2))
  have hUl1 := val_lt hB (hu.take (n - 2))
  rw [List.length_take, Nat.min_eq_left (by omega)] at hUl1
  have hVe : val 4294967296 v = (rd v ((n - 1 : Nat) : Int) * 4294967296 + rd v ((n - 2 : Nat) : Int)) * 4294967296 ^ (n - 2) + val 4294967296 (v.take (n - 2)) := by
    have e1 := val_take_succ 4294967296 v (n - 1) (by omega)
    have e2 := val_take_succ 4294967296 v (n - 2) (by omega)
    rw [List.take_of_length_le (by omega)] at e1
    rw [show n - 2 + 1 = n - 1 by omega] at e2
    rw [e1, e2, rd_getD, rd_getD, show n - 1 = (n - 2) + 1 by omega, Int.pow_succ]
    grind
  have hUe : val 4294967296 u = ((rd u (n : Int) * 4294967296 + rd u ((n - 1 : Nat) : Int)) * 4294967296 + rd u ((n - 2 : Nat) : Int)) * 4294967296 ^ (n - 2) + val 4294967296 (u.take (n - 2)) := by
    have e0 := val_take_succ 4294967296 u n (by omega)
    have e1 := val_take_succ 4294967296 u (n - 1) (by omega)
    have e2 := val_take_succ 4294967296 u (n - 2) (by omega)
    rw [List.take_of_length_le (by omega)] at e0
    rw [show n - 2 + 1 = n - 1 by omega] at e2
    rw [show n - 1 + 1 = n by omega] at e1
    have p2 : (4294967296 : Int) ^ n = 4294967296 ^ (n - 2) * 4294967296 * 4294967296 := by
      rw [show (4294967296 : Int) ^ n = 4294967296 ^ ((n - 2) + 1 + 1) by congr 1; omega, Int.pow_succ, Int.pow_succ]
    have p1 : (4294967296 : Int) ^ (n - 1) = 4294967296 ^ (n - 2) * 4294967296 := by
      rw [show (4294967296 : Int) ^ (n - 1) = 4294967296 ^ ((n - 2) + 1) by congr 1; omega, Int.pow_succ]
    rw [e0, e1, e2, rd_getD, rd_getD, rd_getD, p1, p2]
    grind
  have hV0 : 0 < val 4294967296 v := by
    rw [hVe]
    have : 1 * 4294967296 ^ (n - 2) ≤ (rd v ((n - 1 : Nat) : Int) * 4294967296 + rd v ((n - 2 : Nat) : Int)) * 4294967296 ^ (n - 2) := Int.mul_le_mul_of_nonneg_right (by omega) (by omega)
    omega
  have hBV : 4294967296 * 4294967296 ^ (n - 2) ≤ val 4294967296 v := by
    rw [hVe]
    have : 4294967296 * 4294967296 ^ (n - 2) ≤ (rd v ((n - 1 : Nat) : Int) * 4294967296 + rd v ((n - 2 : Nat) : Int)) * 4294967296 ^ (n - 2) := Int.mul_le_mul_of_nonneg_right (by omega) (by omega)
    omega
  obtain ⟨hq0, hqV, hqU, hmod⟩ := div_bounds hV0 (val_nonneg hB hu)
  have hqB : val 4294967296 u / val 4294967296 v < 4294967296 := Int.ediv_lt_of_lt_mul hV0 hlt
  have hj2 : ∀ g : Int, 0 ≤ g → g < 4294967296 → val 4294967296 u / val 4294967296 v ≤ g → g ≤ val 4294967296 u / val 4294967296 v + 1 → ∃ r, Ev (fun k => nat_digit.j2 k u v (n : Int) g) (val 4294967296 u / val 4294967296 v, r) ∧ (Lim 4294967296 r ∧ r.length = n + 1 ∧ val 4294967296 r = val 4294967296 u % val 4294967296 v) := by
    intro g hg0 hg hqg hgq
    obtain ⟨r, hev, r1, r2, r3⟩ := digit_l1 v g hg0 hg hv (by omega) (val 4294967296 u / val 4294967296 v) u hu (by omega) hq0 hqV hqU hqg hgq v.length 0 u 0 0 (by omega) (by omega) hu (by omega) (by omega) (by omega) (by omega) (by simp [val]) rfl
    rw [hnv] at hev
    refine ⟨r, Ev.step (f := fun k => nat_digit.l1 k u v (n : Int) g 0 0 (n : Int) ((0 : Nat) : Int)) (fun k => ?_) hev, r1, by omega, by rw [r3, hmod]⟩
    simp only [nat_digit.j2]
    rw [hnv]; rfl
  have hq12 := knuth_ge (B := 4294967296) hVe hVl0 hUe hUl1 hP0 hqV hq0
  have hle : ∀ g : Int, 0 ≤ g → g < 4294967296 → g * (rd v ((n - 1 : Nat) : Int) * 4294967296 + rd v ((n - 2 : Nat) : Int)) ≤ (rd u (n : Int) * 4294967296 + rd u ((n - 1 : Nat) : Int)) * 4294967296 + rd u ((n - 2 : Nat) : Int) → g ≤ val 4294967296 u / val 4294967296 v + 1 :=
    fun g hg0 hg h => knuth_le hVe hVl1 hUe hUl0 hP0 hg0 hg h hBV hqU hV0
  have ht3 : (rd u (n : Int) * 4294967296 + rd u ((n - 1 : Nat) : Int)) * 4294967296 + rd u ((n - 2 : Nat) : Int) < 4294967296 * (rd v ((n - 1 : Nat) : Int) * 4294967296 + rd v ((n - 2 : Nat) : Int) + 1) := by
    have h5 : ((rd u (n : Int) * 4294967296 + rd u ((n - 1 : Nat) : Int)) * 4294967296 + rd u ((n - 2 : Nat) : Int)) * 4294967296 ^ (n - 2) < (4294967296 * (rd v ((n - 1 : Nat) : Int) * 4294967296 + rd v ((n - 2 : Nat) : Int) + 1)) * 4294967296 ^ (n - 2) := by
      have h6 : (4294967296 * (rd v ((n - 1 : Nat) : Int) * 4294967296 + rd v ((n - 2 : Nat) : Int) + 1)) * 4294967296 ^ (n - 2) = 4294967296 * ((rd v ((n - 1 : Nat) : Int) * 4294967296 + rd v ((n - 2 : Nat) : Int)) * 4294967296 ^ (n - 2)) + 4294967296 * 4294967296 ^ (n - 2) := by grind
      rw [h6]
      generalize (rd v ((n - 1 : Nat) : Int) * 4294967296 + rd v ((n - 2 : Nat) : Int)) * 4294967296 ^ (n - 2) = X at *
      generalize ((rd u (n : Int) * 4294967296 + rd u ((n - 1 : Nat) : Int)) * 4294967296 + rd u ((n - 2 : Nat) : Int)) * 4294967296 ^ (n - 2) = Y at *
      clear hj2 hle hq12
      omega
    exact Int.lt_of_mul_lt_mul_right h5 (by omega)
  clear hqV hqU hmod hUl0 hUl1 hVl0 hVl1 hVe hUe hBV
  generalize hQ : val 4294967296 u / val 4294967296 v = q at *
  generalize hR : val 4294967296 u % val 4294967296 v = rr at *
  generalize hu0 : rd u (n : Int) = x0 at *
  generalize hu1 : rd u ((n - 1 : Nat) : Int) = x1 at *
  have ht0 : 0 ≤ x0 * 4294967296 + x1 := by omega
  have ht1 : x0 * 4294967296 + x1 ≤ rd v ((n - 1 : Nat) : Int) * 4294967296 + 4294967295 := by omega
  have ht2 : x0 * 4294967296 + x1 < 18446744073709551616 := by omega
  have hdv0 : 0 < rd v ((n - 1 : Nat) : Int) := by omega
  obtain ⟨d0, d1, d2, d3⟩ := div_bounds hdv0 ht0
  have d4 := Int.emod_nonneg (x0 * 4294967296 + x1) (show rd v ((n - 1 : Nat) : Int) ≠ 0 by omega)
  have d5 := Int.emod_lt_of_pos (x0 * 4294967296 + x1) hdv0
  have hgq : q ≤ (x0 * 4294967296 + x1) / rd v ((n - 1 : Nat) : Int) := by
    rw [Int.le_ediv_iff_mul_le hdv0]
    have h6 : 0 ≤ q * rd v ((n - 2 : Nat) : Int) := Int.mul_nonneg hq0 h2.1
    have h8 : q * (rd v ((n - 1 : Nat) : Int) * 4294967296 + rd v ((n - 2 : Nat) : Int)) = (q * rd v ((n - 1 : Nat) : Int)) * 4294967296 + q * rd v ((n - 2 : Nat) : Int) := by grind
    rw [h8] at hq12
    generalize q * rd v ((n - 2 : Nat) : Int) = z at *
    generalize q * rd v ((n - 1 : Nat) : Int) = z' at *
    clear hle hj2 d1 d2 d3 d4 d5 h8
    omega
  have hgB : (x0 * 4294967296 + x1) / rd v ((n - 1 : Nat) : Int) ≤ 4294967297 := by
    have : (x0 * 4294967296 + x1) / rd v ((n - 1 : Nat) : Int) < 4294967298 := by
      refine Int.ediv_lt_of_lt_mul hdv0 ?_
      omega
    omega
  generalize hG : (x0 * 4294967296 + x1) / rd v ((n - 1 : Nat) : Int) = g at *
  generalize hE : (x0 * 4294967296 + x1) % rd v ((n - 1 : Nat) : Int) = e at *
  obtain ⟨m, hm⟩ := Int.eq_ofNat_of_zero_le (show 0 ≤ g - q by omega)
  obtain ⟨r, hev, r1, r2, r3⟩ := guess_loop u v n hn hnv hnu hv hu hL q (x0 * 4294967296 + x1) _ _ _ (fun r => Lim 4294967296 r ∧ r.length = n + 1 ∧ val 4294967296 r = rr) rfl rfl rfl hq0 hqB ht0 ht1 hq12 hle hj2 m g e (by omega) hgB d4 (by omega) (by omega)
  refine ⟨r, Ev.congr (fun k => ?_) hev, r1, r2, r3⟩
  have a1 : wrap64 ((n : Int) - 1) = ((n - 1 : Nat) : Int) := by rw [w64 (by omega) (by omega)]; omega
  have b0 : (0 : Int) ≤ ((n - 1 : Nat) : Int) := by omega
  have b1 : ((n - 1 : Nat) : Int) < (v.length : Int) := by omega
  have b2 : ((n - 1 : Nat) : Int) < (u.length : Int) := by omega
  have b3 : (n : Int) < (u.length : Int) := by omega
  have b4 : (0 : Int) ≤ (n : Int) := by omega
  have e1 : Go.bits .or .u64 (IntKind.u64.wrap (IntKind.u64.wrap x0 * 4294967296)) (IntKind.u64.wrap x1) = x0 * 4294967296 + x1 := by
    rw [u64_id k0.1 (by omega), u64_id (by omega) (by omega), u64_id k1.1 (by omega), bits_or_shift k0.1 k0.2 k1.1 k1.2]
  have e2 : IntKind.u64.wrap (rd v ((n - 1 : Nat) : Int)) = rd v ((n - 1 : Nat) : Int) := u64_id h1.1 (by omega)
  have e3 : IntKind.u64.wrap g = g := u64_id (by omega) (by omega)
  simp only [nat_digit.f]
  rw [hnv]
  rw [if_pos b4, if_pos b3, a1, if_pos b0, if_pos b2, ← hnv, if_pos (by rw [hnv]; rw [hnv] at b1; exact b1), hnv, e2, if_neg (by omega), hu0, hu1, e1, Int.tdiv_eq_ediv_of_nonneg ht0, Int.tmod_eq_emod_of_nonneg ht0, hG, hE, e3]
theorem digit_at_ev (u v : List Int) (n j : Nat) (hn : 2 ≤ n) (hnv : v.length = n) (hj : j + n + 1 ≤ u.length) (hv : Lim 4294967296 v) (hu : Lim 4294967296 u) (hL : n ≤ 549755813888) (htop : 2147483648 ≤ v.getD (n - 1) 0) (hlt : val 4294967296 (u.drop (j + 1)) < val 4294967296 v) :
    ∃ r, Ev (fun k => nat_digit_at.f k u (j : Int) ((j + n + 1 : Nat) : Int) v) (val 4294967296 (u.drop j) / val 4294967296 v, r) ∧ Lim 4294967296 r ∧ r.length = u.length ∧ val 4294967296 r = val 4294967296 u - 4294967296 ^ j * (val 4294967296 (u.drop j) / val 4294967296 v * val 4294967296 v) ∧ val 4294967296 (r.drop j) < val 4294967296 v ∧ r.take j = u.take j := by
  have hB : (0 : Int) < 4294967296 := by decide
  have hvn := val_lt hB hv
  rw [hnv] at hvn
  have hs := val_split 4294967296 (u.drop (j + 1)) n (by rw [List.length_drop]; omega)
  have t0 := val_nonneg hB ((hu.drop (j + 1)).take n)
  have t1 := val_nonneg hB ((hu.drop (j + 1)).drop n)
  have hz : val 4294967296 (u.drop (j + n + 1)) = 0 := by
    rw [List.drop_drop, show j + 1 + n = j + n + 1 by omega] at hs t1
    generalize val 4294967296 (u.drop (j + n + 1)) = z at *
    have hp : (0 : Int) < 4294967296 ^ n := Int.pow_pos (by decide)
    rcases Int.lt_trichotomy z 0 with h | h | h
    · omega
    · exact h
    · have : 4294967296 ^ n * 1 ≤ (4294967296 : Int) ^ n * z := Int.mul_le_mul_of_nonneg_left (by omega) (by omega)
      omega
  have hwl : ((u.take (j + n + 1)).drop j).length = n + 1 := by rw [List.length_drop, List.length_take]; omega
  have hdj : u.drop j = (u.take (j + n + 1)).drop j ++ u.drop (j + n + 1) := by
    have h5 : u = u.take (j + n + 1) ++ u.drop (j + n + 1) := (List.take_append_drop _ _).symm
    have h6 : u.drop j = (u.take (j + n + 1) ++ u.drop (j + n + 1)).drop j := by rw [← h5]
    rw [h6, List.drop_append_of_le_length (by rw [List.length_take]; omega)]
  have hw : val 4294967296 ((u.take (j + n + 1)).drop j) = val 4294967296 (u.drop j) := by
    rw [hdj, val_append, hz, Int.mul_zero, Int.add_zero]
  have hx := hu.getD hB j
  have hlt' : val 4294967296 (u.drop j) < 4294967296 * val 4294967296 v := by
    rw [val_drop _ _ j (by omega)]
    omega
  obtain ⟨r, hev, r1, r2, r3⟩ := digit_ev ((u.take (j + n + 1)).drop j) v n hn hnv hwl hv ((hu.take _).drop _) hL htop (by rw [hw]; exact hlt')
  rw [hw] at hev r3
  have hu0 := val_nonneg hB (hu.drop j)
  have hv0 : 0 < val 4294967296 v := by omega
  obtain ⟨q0, q1, q2, q3⟩ := div_bounds hv0 hu0
  have hlj : (u.take j).length = j := by rw [List.length_take]; omega
  have hdr : (u.take j ++ r ++ u.drop (j + n + 1)).drop j = r ++ u.drop (j + n + 1) := by
    rw [List.append_assoc, List.drop_append_of_le_length (by omega), List.drop_of_length_le (by omega), List.nil_append]
  refine ⟨u.take j ++ r ++ u.drop (j + n + 1), ?_, lim_append.2 ⟨lim_append.2 ⟨hu.take _, r1⟩, hu.drop _⟩, ?_, ?_, ?_, ?_⟩
  · refine Ev.congr (f := fun k => (nat_digit.f k ((u.take (j + n + 1)).drop j) v).bind fun b => some (b.1, u.take j ++ b.2 ++ u.drop (j + n + 1))) (fun k => ?_) (Ev.bind (f := fun _ b => some (b.1, u.take j ++ b.2 ++ u.drop (j + n + 1))) hev (Ev.now _))
    simp only [nat_digit_at.f]
    rw [if_pos (by omega), if_pos (by omega), if_pos (by omega), Int.toNat_natCast, Int.toNat_natCast]
  · rw [List.length_append, List.length_append, hlj, r2, List.length_drop]; omega
  · rw [val_append, val_append, hz, Int.mul_zero, Int.add_zero, hlj, val_split 4294967296 u j (by omega), r3, q3]
    grind
  · rw [hdr, val_append, hz, Int.mul_zero, Int.add_zero, r3]
    exact Int.emod_lt_of_pos _ hv0
  · rw [List.append_assoc, List.take_append_of_le_length (by omega), List.take_of_length_le (by omega)]
theorem divmod_loop (v : List Int) (n : Nat) (s : Nat) (hs : s < 32) (hn : 2 ≤ n) (hnv : v.length = n) (hv : Lim 4294967296 v) (hL : n ≤ 68719476736) (htop : 2147483648 ≤ v.getD (n - 1) 0) (m : Nat) (hm : m ≤ 68719476736) (U : Int) : ∀ (i : Nat) (quot u : List Int), i ≤ m → quot.length = m → u.length = m + n → Lim 4294967296 u → Lim 4294967296 quot →
    quot.take i = List.replicate i 0 → val 4294967296 (u.drop i) < val 4294967296 v → val 4294967296 u + val 4294967296 v * val 4294967296 quot = U →
    ∃ q r, Ev (fun k => nat_DivMod.l0 k quot (s : Int) v u (n : Int) ((i : Int) - 1)) (q, r) ∧ Lim 4294967296 q ∧ Nrm q ∧ Lim 4294967296 r ∧ Nrm r ∧ val 4294967296 q = U / val 4294967296 v ∧ val 4294967296 r = (U % val 4294967296 v) / 2 ^ s ∧ q.length ≤ m ∧ r.length ≤ m + n := by
  have hB : (0 : Int) < 4294967296 := by decide
  intro i
  induction i with
  | zero =>
    intro quot u hi hq hu hul hql hz hlt hU
    rw [List.drop_zero] at hlt
    have hu0 := val_nonneg hB hul
    have hdiv : U / val 4294967296 v = val 4294967296 quot := by
      rw [← hU, Int.add_mul_ediv_left _ _ (by omega), Int.ediv_eq_zero_of_lt hu0 hlt, Int.zero_add]
    have hmod : U % val 4294967296 v = val 4294967296 u := by
      rw [← hU, Int.add_mul_emod_self_left, Int.emod_eq_of_lt hu0 hlt]
    obtain ⟨r, h1, h2, h3, h4, h5⟩ := Shr_ev (trim u) s (lim_trim hul) (nrm_trim u) (Nat.le_trans (length_trim u) (by omega)) (by omega)
    have hlt2 := length_trim u
    refine ⟨trim quot, r, ?_, lim_trim hql, nrm_trim _, h2, h3, by rw [val_trim, hdiv], by rw [h4, val_trim, hmod], Nat.le_trans (length_trim _) (by omega), by omega⟩
    refine Ev.step (f := fun k => (nat_Trim.f k u).bind fun t210 => (nat_Shr.f k t210 (s : Int)).bind fun bt213 => (nat_Trim.f k quot).bind fun t217 => some (t217, bt213.1)) (fun k => ?_) ?_
    · simp only [nat_DivMod.l0]
      rw [if_neg (by omega)]
    · refine Ev.bind (f := fun k t210 => (nat_Shr.f k t210 (s : Int)).bind fun bt213 => (nat_Trim.f k quot).bind fun t217 => some (t217, bt213.1)) (Trim_ev u (by omega)) ?_
      refine Ev.bind (f := fun k (bt213 : List Int × Bool) => (nat_Trim.f k quot).bind fun t217 => some (t217, bt213.1)) h1 ?_
      exact Ev.bind (f := fun _ t217 => some (t217, r)) (Trim_ev quot (by omega)) (Ev.now _)
  | succ i ih =>
    intro quot u hi hq hu hul hql hz hlt hU
    obtain ⟨r, hev, r1, r2, r3, r4, r5⟩ := digit_at_ev u v n i hn hnv (by omega) hv hul (by omega) htop hlt
    have hv0 : 0 < val 4294967296 v := Int.lt_of_le_of_lt (val_nonneg hB (hul.drop (i + 1))) hlt
    obtain ⟨q0, q1, q2, q3⟩ := div_bounds hv0 (val_nonneg hB (hul.drop i))
    have hq4 : val 4294967296 (u.drop i) / val 4294967296 v < 4294967296 := by
      refine Int.ediv_lt_of_lt_mul hv0 ?_
      have hx := hul.getD hB i
      rw [val_drop _ _ i (by omega)]
      clear q1 q2 q3 r3 hev
      omega
    have hqi : quot.getD i 0 = 0 := by
      have : (quot.take (i + 1)).getD i 0 = 0 := by rw [hz, getD_replicate]
      rw [List.getD_eq_getElem?_getD, List.getElem?_take, if_pos (by omega)] at this
      rw [List.getD_eq_getElem?_getD]; exact this
    clear q1 q2 q3
    generalize val 4294967296 (u.drop i) / val 4294967296 v = dgt at *
    obtain ⟨q, rr, hev2, h⟩ := ih (quot.set i dgt) r (by omega) (by rw [List.length_set, hq]) (by omega) r1 (hql.set _ ⟨q0, hq4⟩) (by
        rw [List.take_set_of_le (Nat.le_refl _)]
        have := congrArg (List.take i) hz
        rw [List.take_take, Nat.min_eq_left (by omega), List.take_replicate, Nat.min_eq_left (by omega)] at this
        exact this) r4 (by
        rw [val_set _ _ _ _ (by omega), hqi, r3, ← hU]
        clear hev r3 r4 hlt
        grind)
    refine ⟨q, rr, ?_, h⟩
    refine Ev.step (f := fun k => (nat_digit_at.f k u (i : Int) ((i + n + 1 : Nat) : Int) v).bind fun bt207 => nat_DivMod.l0 k (quot.set i bt207.1) (s : Int) v bt207.2 (n : Int) ((i : Int) - 1)) (fun k => ?_) ?_
    · have e1 : (((i + 1 : Nat) : Int) - 1) = (i : Int) := by omega
      have e2 : ∀ _ : Unit, wrap64 (wrap64 ((i : Int) + (n : Int)) + 1) = ((i + n + 1 : Nat) : Int) := fun _ => by rw [w64 (x := (i : Int) + (n : Int)) (by omega) (by omega), w64 (by omega) (by omega)]; omega
      have e3 : ∀ _ : Unit, wrap64 ((i : Int) - 1) = (i : Int) - 1 := fun _ => w64 (by omega) (by omega)
      have b1 : (i : Int) ≤ ((i + n + 1 : Nat) : Int) := by omega
      have b2 : ((i + n + 1 : Nat) : Int) ≤ (u.length : Int) := by omega
      have b3 : (i : Int) < (quot.length : Int) := by omega
      have b4 : (i : Int) ≥ 0 := by omega
      have b5 : 0 ≤ (i : Int) := b4
      simp only [nat_DivMod.l0]
      rw [e1, if_pos b4, if_pos b5, e2 (), if_pos b1, if_pos b2]
      simp only [if_pos b3, e3 (), Int.toNat_natCast]
    · exact Ev.bind (f := fun k (bt207 : Int × List Int) => nat_DivMod.l0 k (quot.set i bt207.1) (s : Int) v bt207.2 (n : Int) ((i : Int) - 1)) hev hev2
theorem len_of_val {xs : List Int} {n : Nat} (hx : Lim 4294967296 xs) (hn : Nrm xs) (h1 : (4294967296 : Int) ^ n ≤ val 4294967296 xs) (h2 : val 4294967296 xs < 4294967296 ^ (n + 1)) : xs.length = n + 1 := by
  have hB : (0 : Int) < 4294967296 := by decide
  rcases Nat.lt_trichotomy xs.length (n + 1) with h | h | h
  · have h3 := val_lt hB hx
    have h4 := pow_mono' hB (show xs.length ≤ n by omega)
    omega
  · exact h
  · have hne : xs ≠ [] := by rintro rfl; simp at h
    have h3 := val_ge hB hx hn hne
    have h4 := pow_mono' hB (show n + 1 ≤ xs.length - 1 by omega)
    omega
theorem val_copy {xs : List Int} {m : Nat} (h : xs.length ≤ m) : xs.take m ++ (List.replicate m (0 : Int)).drop xs.length = xs ++ List.replicate (m - xs.length) 0 := by
  rw [List.take_of_length_le h, List.drop_replicate]
theorem DivMod_ev (a b : List Int) (ha : Lim 4294967296 a) (hb : Lim 4294967296 b) (na : Nrm a) (nb : Nrm b) (hb0 : b ≠ []) (hLa : a.length ≤ 34359738368) (hLb : b.length ≤ 34359738368) :
    ∃ q r, Ev (fun k => nat_DivMod.f k a b) (q, r) ∧ Lim 4294967296 q ∧ Nrm q ∧ Lim 4294967296 r ∧ Nrm r ∧ val 4294967296 q = val 4294967296 a / val 4294967296 b ∧ val 4294967296 r = val 4294967296 a % val 4294967296 b ∧ q.length ≤ a.length + 1 := by
  have hB : (0 : Int) < 4294967296 := by decide
  have va0 := val_nonneg hB ha
  have vb0 := val_pos hB hb nb hb0
  by_cases hlt : val 4294967296 a < val 4294967296 b
  · refine ⟨[], a, ?_, lim_nil _, nrm_nil, ha, na, ?_, ?_, by simp⟩
    · refine Ev.bind (f := fun k t175 => _) (Compare_ev a b ha hb na nb (by omega) (by omega)) ?_
      rw [show cmpI (val 4294967296 a) (val 4294967296 b) = -1 by unfold cmpI; rw [if_pos hlt]]
      refine Ev.congr (f := fun _ => some ([], a)) (fun k => ?_) (Ev.now _)
      rw [if_pos (by decide)]
      unfold slices_Clone_uint32_uint32.f
      rw [if_pos (by omega)]
      rfl
    · rw [Int.ediv_eq_zero_of_lt va0 hlt]; rfl
    · rw [Int.emod_eq_of_lt va0 hlt]
  · have hcmp : ¬ cmpI (val 4294967296 a) (val 4294967296 b) < 0 := by
      unfold cmpI; rw [if_neg hlt]; split <;> decide
    have hlab : b.length ≤ a.length := by
      rcases Nat.lt_or_ge a.length b.length with h | h
      · have := len_lt_val hB ha hb nb h; omega
      · exact h
    by_cases hl1 : b.length = 1
    · obtain ⟨d, rfl⟩ := List.length_eq_one_iff.1 hl1
      have hd := hb d (by simp)
      have hdv : val 4294967296 [d] = d := by simp [val]
      rw [hdv] at vb0
      obtain ⟨q, h1, h2, h3, h4, h5⟩ := DivSmall_ev a d ha vb0 hd.2 (by omega)
      have m0 := Int.emod_nonneg (val 4294967296 a) (show d ≠ 0 by omega)
      have m1 := Int.emod_lt_of_pos (val 4294967296 a) vb0
      obtain ⟨r, g1, g2, g3, g4, g5⟩ := Of_ev (val 4294967296 a % d) m0 (by omega)
      refine ⟨q, r, ?_, h2, h3, g2, g3, by rw [h4, hdv], by rw [g4, hdv], by omega⟩
      refine Ev.bind (f := fun k t175 => _) (Compare_ev a [d] ha hb na nb (by omega) (by omega)) ?_
      refine Ev.congr (f := fun k => (nat_DivSmall.f k a d).bind fun bt180 => (nat_Of.f k (IntKind.u64.wrap bt180.2)).bind fun t184 => some (bt180.1, t184)) (fun k => ?_) ?_
      · rw [if_neg hcmp, if_pos (by rfl), if_pos (by simp)]
        rfl
      · refine Ev.bind (f := fun k (bt180 : List Int × Int) => (nat_Of.f k (IntKind.u64.wrap bt180.2)).bind fun t184 => some (bt180.1, t184)) h1 ?_
        refine Ev.bind (f := fun _ t184 => some (q, t184)) ?_ (Ev.now _)
        refine Ev.congr (fun k => ?_) g1
        rw [u64_id m0 (by omega)]
    · have hbl : 2 ≤ b.length := by
        have : b.length ≠ 0 := fun h => hb0 (List.length_eq_zero_iff.1 h)
        omega
      have htx := hb.rd hB ((b.length - 1 : Nat) : Int)
      have hsp := val_split 4294967296 b (b.length - 1) (by omega)
      have hdl : b.drop (b.length - 1) = [b.getD (b.length - 1) 0] := by
        rw [drop_cons' _ _ (by omega), List.drop_of_length_le (by omega)]
      have hbr : rd b ((b.length - 1 : Nat) : Int) = b.getD (b.length - 1) 0 := rd_getD _ _
      rw [hdl] at hsp
      have hv1 : val 4294967296 [b.getD (b.length - 1) 0] = b.getD (b.length - 1) 0 := by simp [val]
      rw [hv1, ← hbr] at hsp
      have ht0 := val_nonneg hB (hb.take (b.length - 1))
      have ht1 := val_lt hB (hb.take (b.length - 1))
      rw [List.length_take, Nat.min_eq_left (by omega)] at ht1
      have hge := val_ge hB hb nb hb0
      have hpb : (0 : Int) < 4294967296 ^ (b.length - 1) := Int.pow_pos (by decide)
      generalize ht : rd b ((b.length - 1 : Nat) : Int) = t at *
      have htpos : 0 < t := by
        rcases Int.lt_trichotomy t 0 with h | h | h
        · omega
        · rw [h, Int.mul_zero] at hsp; omega
        · exact h
      obtain ⟨s, hse, hs32, hs1, hs2⟩ := Lead_eq t htpos htx.2
      have hp := pow_lt_base hs32
      have hp0 : (0 : Int) < 2 ^ s := Int.pow_pos (by decide)
      obtain ⟨v, v1, v2, v3, v4, v5⟩ := Shl_ev b s hb (by omega)
      obtain ⟨u, u1, u2, u3, u4, u5⟩ := Shl_ev a s ha (by omega)
      rw [show s / 32 = 0 by omega] at v5 u5
      have hvlow : 4294967296 ^ (b.length - 1) * 2147483648 ≤ val 4294967296 v := by
        rw [v4, hsp]
        have h5 : 4294967296 ^ (b.length - 1) * 2147483648 ≤ 4294967296 ^ (b.length - 1) * (t * 2 ^ s) := Int.mul_le_mul_of_nonneg_left hs1 (by omega)
        have h6 : 0 ≤ val 4294967296 (b.take (b.length - 1)) * 2 ^ s := Int.mul_nonneg ht0 (by omega)
        rw [Int.add_mul, Int.mul_assoc]
        omega
      have hvhigh : val 4294967296 v < 4294967296 ^ (b.length - 1 + 1) := by
        rw [v4, hsp, Int.pow_succ]
        have h6 : (t + 1) * 2 ^ s ≤ 4294967296 := by
          have hpb := pow_base (show s ≤ 32 by omega)
          have h7 : t < 2 ^ (32 - s) := by
            refine Int.lt_of_mul_lt_mul_left (a := 2 ^ s) ?_ (by omega)
            rw [hpb, Int.mul_comm]; exact hs2
          have h8 : (t + 1) * 2 ^ s ≤ 2 ^ (32 - s) * 2 ^ s := Int.mul_le_mul_of_nonneg_right (by omega) (by omega)
          rw [Int.mul_comm (2 ^ (32 - s)), hpb] at h8
          exact h8
        have h9 : (val 4294967296 (b.take (b.length - 1)) + 4294967296 ^ (b.length - 1) * t) * 2 ^ s < (4294967296 ^ (b.length - 1) * (t + 1)) * 2 ^ s := by
          refine Int.mul_lt_mul_of_pos_right ?_ hp0
          rw [Int.mul_add, Int.mul_one]; omega
        have h10 : (4294967296 ^ (b.length - 1) * (t + 1)) * 2 ^ s ≤ 4294967296 ^ (b.length - 1) * 4294967296 := by
          rw [Int.mul_assoc]
          exact Int.mul_le_mul_of_nonneg_left h6 (by omega)
        omega
      have hvn : v.length = b.length := by
        have := len_of_val v2 v3 (n := b.length - 1) (by omega) hvhigh
        omega
      have htop : 2147483648 ≤ v.getD (b.length - 1) 0 := by
        have e5 := val_split 4294967296 v (b.length - 1) (by omega)
        rw [show v.drop (b.length - 1) = [v.getD (b.length - 1) 0] by rw [drop_cons' _ _ (by omega), List.drop_of_length_le (by omega)]] at e5
        have e6 : val 4294967296 [v.getD (b.length - 1) 0] = v.getD (b.length - 1) 0 := by simp [val]
        rw [e6] at e5
        have e7 := val_lt hB (v2.take (b.length - 1))
        rw [List.length_take, Nat.min_eq_left (by omega)] at e7
        rcases Int.lt_or_le (v.getD (b.length - 1) 0) 2147483648 with h | h
        · have h11 : 4294967296 ^ (b.length - 1) * (v.getD (b.length - 1) 0 + 1) ≤ 4294967296 ^ (b.length - 1) * 2147483648 := Int.mul_le_mul_of_nonneg_left (by omega) (by omega)
          rw [Int.mul_add, Int.mul_one] at h11
          omega
        · exact h
      have hul : u.length ≤ a.length + 1 := by omega
      have hUv : val 4294967296 (u ++ List.replicate (a.length + 1 - u.length) 0) = val 4294967296 a * 2 ^ s := by
        rw [val_append, val_replicate, Int.mul_zero, Int.add_zero, u4]
      have hUl : (u ++ List.replicate (a.length + 1 - u.length) (0 : Int)).length = (a.length + 1 - b.length) + b.length := by
        rw [List.length_append, List.length_replicate]; omega
      have hUL : Lim 4294967296 (u ++ List.replicate (a.length + 1 - u.length) 0) := lim_append.2 ⟨u2, lim_replicate hB _⟩
      have hUd : val 4294967296 ((u ++ List.replicate (a.length + 1 - u.length) 0).drop (a.length + 1 - b.length)) < val 4294967296 v := by
        have e5 := val_split 4294967296 (u ++ List.replicate (a.length + 1 - u.length) 0) (a.length + 1 - b.length) (by rw [hUl]; omega)
        have e6 := val_nonneg hB (hUL.take (a.length + 1 - b.length))
        have e7 := val_lt hB ha
        rw [hUv] at e5
        generalize val 4294967296 ((u ++ List.replicate (a.length + 1 - u.length) 0).drop (a.length + 1 - b.length)) = z at *
        have e8 : 4294967296 ^ (a.length + 1 - b.length) * z ≤ val 4294967296 a * 2 ^ s := by omega
        have e9 : val 4294967296 a * 2 ^ s < 4294967296 ^ a.length * 2 ^ s := Int.mul_lt_mul_of_pos_right e7 hp0
        have e10 : (4294967296 : Int) ^ a.length = 4294967296 ^ (a.length + 1 - b.length) * 4294967296 ^ (b.length - 1) := by
          rw [← Int.pow_add]; congr 1; omega
        have e11 : (0 : Int) < 4294967296 ^ (a.length + 1 - b.length) := Int.pow_pos (by decide)
        have e12 : z < 4294967296 ^ (b.length - 1) * 2 ^ s := by
          refine Int.lt_of_mul_lt_mul_left (a := 4294967296 ^ (a.length + 1 - b.length)) ?_ (by omega)
          rw [← Int.mul_assoc, ← e10]; omega
        have e13 : 4294967296 ^ (b.length - 1) * 2 ^ s ≤ (4294967296 : Int) ^ (b.length - 1) * 2147483648 := Int.mul_le_mul_of_nonneg_left hp (by omega)
        omega
      obtain ⟨q, r, h1, h2, h3, h4, h5, h6, h7, h8, h9⟩ := divmod_loop v b.length s hs32 hbl hvn v2 (by omega) htop (a.length + 1 - b.length) (by omega) (val 4294967296 a * 2 ^ s) (a.length + 1 - b.length) (List.replicate (a.length + 1 - b.length) 0) (u ++ List.replicate (a.length + 1 - u.length) 0)
        (Nat.le_refl _) (by simp) hUl hUL (lim_replicate hB _) (by rw [List.take_of_length_le (by simp)]) hUd (by rw [hUv, val_replicate, Int.mul_zero, Int.add_zero])
      refine ⟨q, r, ?_, h2, h3, h4, h5, ?_, ?_, by omega⟩
      · refine Ev.bind (f := fun k t175 => _) (Compare_ev a b ha hb na nb (by omega) (by omega)) ?_
        have w1 : ∀ _ : Unit, wrap64 ((b.length : Int) - 1) = ((b.length - 1 : Nat) : Int) := fun _ => by rw [w64 (by omega) (by omega)]; omega
        have w2 : ∀ _ : Unit, wrap64 ((a.length : Int) + 1) = ((a.length + 1 : Nat) : Int) := fun _ => by rw [w64 (by omega) (by omega)]; omega
        have w3 : ∀ _ : Unit, wrap64 (((List.replicate (a.length + 1) (0 : Int)).length : Int) - (v.length : Int)) = ((a.length + 1 - b.length : Nat) : Int) := fun _ => by rw [List.length_replicate, hvn, w64 (by omega) (by omega)]; omega
        have w4 : ∀ _ : Unit, wrap64 (((List.replicate (a.length + 1 - b.length) (0 : Int)).length : Int) - 1) = ((a.length + 1 - b.length : Nat) : Int) - 1 := fun _ => by rw [List.length_replicate, w64 (by omega) (by omega)]
        have b1 : ¬ (b.length : Int) = 1 := by omega
        have b2 : (0 : Int) ≤ ((b.length - 1 : Nat) : Int) := by omega
        have b3 : ((b.length - 1 : Nat) : Int) < (b.length : Int) := by omega
        have b4 : (0 : Int) ≤ ((a.length + 1 : Nat) : Int) := by omega
        have b5 : a.length + 1 ≤ 70368744177664 := by omega
        have b6 : (0 : Int) ≤ ((a.length + 1 - b.length : Nat) : Int) := by omega
        have b7 : a.length + 1 - b.length ≤ 70368744177664 := by omega
        refine Ev.congr (f := fun k => (nat_Shl.f k b (s : Int)).bind fun t189 => ((nat_Shl.f k a (s : Int)).bind fun t195 => ((copy_e55.f (List.replicate (a.length + 1) (0 : Int)) t195).bind fun bt198 => (if 0 ≤ (wrap64 (((List.replicate (a.length + 1) (0 : Int)).length : Int) - (t189.length : Int))) then (if (wrap64 (((List.replicate (a.length + 1) (0 : Int)).length : Int) - (t189.length : Int)) : Int).toNat ≤ 70368744177664 then ((some (List.replicate (wrap64 (((List.replicate (a.length + 1) (0 : Int)).length : Int) - (t189.length : Int)) : Int).toNat 0 : List Int)).bind fun y200 => (nat_DivMod.l0 k y200 (s : Int) t189 bt198.2 (t189.length : Int) (wrap64 ((y200.length : Int) - 1)))) else (none)) else (none))))) (fun k => ?_) ?_
        · rw [if_neg hcmp, if_neg b1, w1 (), if_pos b2, if_pos b3, ht, hse, Option.bind_some]
          simp only [w2 (), if_pos b4, if_pos b5, Option.bind_some, Int.toNat_natCast]
        · refine Ev.bind (f := fun k t189 => ((nat_Shl.f k a (s : Int)).bind fun t195 => ((copy_e55.f (List.replicate (a.length + 1) (0 : Int)) t195).bind fun bt198 => (if 0 ≤ (wrap64 (((List.replicate (a.length + 1) (0 : Int)).length : Int) - (List.length t189 : Int))) then (if (wrap64 (((List.replicate (a.length + 1) (0 : Int)).length : Int) - (List.length t189 : Int)) : Int).toNat ≤ 70368744177664 then ((some (List.replicate (wrap64 (((List.replicate (a.length + 1) (0 : Int)).length : Int) - (List.length t189 : Int)) : Int).toNat 0 : List Int)).bind fun y200 => (nat_DivMod.l0 k y200 (s : Int) t189 bt198.2 (List.length t189 : Int) (wrap64 ((y200.length : Int) - 1)))) else (none)) else (none))))) v1 ?_
          rw [w3 ()]
          refine Ev.bind (f := fun k t195 => ((copy_e55.f (List.replicate (a.length + 1) (0 : Int)) t195).bind fun bt198 => (if (0 : Int) ≤ ((a.length + 1 - b.length : Nat) : Int) then (if (((a.length + 1 - b.length : Nat) : Int)).toNat ≤ 70368744177664 then ((some (List.replicate (((a.length + 1 - b.length : Nat) : Int)).toNat 0 : List Int)).bind fun y200 => (nat_DivMod.l0 k y200 (s : Int) v bt198.2 (v.length : Int) (wrap64 ((y200.length : Int) - 1)))) else (none)) else (none)))) u1 ?_
          refine Ev.congr (fun k => ?_) h1
          unfold copy_e55.f
          simp only [Option.bind_some, if_pos b6, if_pos b7, List.length_replicate, Int.toNat_natCast, val_copy hul]
          rw [hvn]
          have w5 := w4 ()
          rw [List.length_replicate] at w5
          rw [w5]
      · rw [h6, v4]
        exact Int.mul_ediv_mul_of_pos_left _ _ hp0
      · rw [h7, v4, Int.mul_comm (val 4294967296 a), Int.mul_comm (val 4294967296 b), Int.mul_emod_mul_of_pos _ _ hp0, Int.mul_ediv_cancel_left _ (by omega)]
theorem gcd_loop : ∀ (m : Nat) (a b : List Int), val 4294967296 b ≤ m → Lim 4294967296 a → Lim 4294967296 b → Nrm a → Nrm b → a.length ≤ 34359738368 → b.length ≤ 34359738368 →
    ∃ r, Ev (fun k => nat_Gcd.l0 k a b) r ∧ Lim 4294967296 r ∧ Nrm r ∧ val 4294967296 r = (Nat.gcd (val 4294967296 a).toNat (val 4294967296 b).toNat : Nat) := by
  have hB : (0 : Int) < 4294967296 := by decide
  intro m
  induction m with
  | zero =>
    intro a b hm ha hb na nb hLa hLb
    have hb0 := val_nonneg hB hb
    have hbn : b = [] := (val_eq_zero hB hb nb).1 (by omega)
    subst hbn
    refine ⟨a, Ev.step (f := fun _ => some a) (fun k => ?_) (Ev.now _), ha, na, ?_⟩
    · simp only [nat_Gcd.l0]
      rw [if_neg (by simp)]
      unfold slices_Clone_uint32_uint32.f
      rw [if_pos (by omega)]
      rfl
    · simp only [val, Int.toNat_zero, Nat.gcd_zero_right]
      rw [Int.toNat_of_nonneg (val_nonneg hB ha)]
  | succ m ih =>
    intro a b hm ha hb na nb hLa hLb
    by_cases hbn : b = []
    · subst hbn
      exact ih a [] (by simp [val]) ha hb na nb hLa hLb
    · have hb0 := val_pos hB hb nb hbn
      have ha0 := val_nonneg hB ha
      obtain ⟨q, r, h1, h2, h3, h4, h5, h6, h7, h8⟩ := DivMod_ev a b ha hb na nb hbn hLa hLb
      have hr0 := Int.emod_nonneg (val 4294967296 a) (show val 4294967296 b ≠ 0 by omega)
      have hr1 := Int.emod_lt_of_pos (val 4294967296 a) hb0
      have hrl : r.length ≤ b.length := by
        rcases Nat.lt_or_ge b.length r.length with h | h
        · have := len_lt_val hB hb h4 h5 h; omega
        · exact h
      obtain ⟨g, g1, g2, g3, g4⟩ := ih b r (by omega) hb h4 nb h5 hLb (by omega)
      refine ⟨g, Ev.step (f := fun k => (nat_DivMod.f k a b).bind fun bt220 => nat_Gcd.l0 k b bt220.2) (fun k => ?_) (Ev.bind (f := fun k (bt220 : List Int × List Int) => nat_Gcd.l0 k b bt220.2) h1 g1), g2, g3, ?_⟩
      · have hbl : b.length ≠ 0 := fun h => hbn (List.length_eq_zero_iff.1 h)
        simp only [nat_Gcd.l0]
        rw [if_pos (by omega)]
      · rw [g4, h7, Nat.gcd_comm (val 4294967296 a).toNat, Nat.gcd_rec (val 4294967296 b).toNat (val 4294967296 a).toNat, Nat.gcd_comm]
        congr 2
        rw [Int.toNat_emod ha0 (by omega)]
theorem Gcd_ev (a b : List Int) (ha : Lim 4294967296 a) (hb : Lim 4294967296 b) (na : Nrm a) (nb : Nrm b) (hLa : a.length ≤ 34359738368) (hLb : b.length ≤ 34359738368) :
    ∃ r, Ev (fun k => nat_Gcd.f k a b) r ∧ Lim 4294967296 r ∧ Nrm r ∧ val 4294967296 r = (Nat.gcd (val 4294967296 a).toNat (val 4294967296 b).toNat : Nat) :=
  gcd_loop (val 4294967296 b).toNat a b (by have := val_nonneg (show (0 : Int) < 4294967296 by decide) hb; omega) ha hb na nb hLa hLb
structure Can (neg : Bool) (num den : List Int) : Prop where
  ln : num.length ≤ 128
  ld : den.length ≤ 128
  nn : Nrm num
  nd : Nrm den
  d0 : den ≠ []
  ng : num = [] → neg = false
  gc : Nat.gcd (val 4294967296 num).toNat (val 4294967296 den).toNat = 1
open Classical in
noncomputable def fault (neg : Bool) (num den : List Int) : Int := if num.length > 128 ∨ den.length > 128 then 3 else if Can neg num den then 0 else 2
theorem fault_size {neg : Bool} {num den : List Int} (h : num.length > 128 ∨ den.length > 128) : fault neg num den = 3 := by unfold fault; rw [if_pos h]
theorem fault_can {neg : Bool} {num den : List Int} (h : Can neg num den) : fault neg num den = 0 := by
  unfold fault; rw [if_neg (by have := h.ln; have := h.ld; omega), if_pos h]
theorem fault_bad {neg : Bool} {num den : List Int} (h1 : num.length ≤ 128) (h2 : den.length ≤ 128) (h : ¬ Can neg num den) : fault neg num den = 2 := by
  unfold fault; rw [if_neg (by omega), if_neg h]
theorem nrm_last {xs : List Int} (h : xs ≠ []) : Nrm xs ↔ ¬ xs.getD (xs.length - 1) 0 = 0 := by
  have hl : xs.length ≠ 0 := fun h' => h (List.length_eq_zero_iff.1 h')
  have h1 : xs.getLast? = some (xs.getD (xs.length - 1) 0) := by
    rw [List.getLast?_eq_getElem?, List.getD_eq_getElem?_getD, List.getElem?_eq_getElem (by omega)]; rfl
  unfold Nrm
  rw [h1]
  constructor
  · intro h2; exact h2 _ rfl
  · intro h2 x hx; rw [Option.some.inj hx] at h2; exact h2
theorem last_at {xs : List Int} (h : xs ≠ []) (hL : xs.length ≤ 1099511627776) : wrap64 ((xs.length : Int) - 1) = ((xs.length - 1 : Nat) : Int) := by
  have hl : xs.length ≠ 0 := fun h' => h (List.length_eq_zero_iff.1 h')
  rw [w64 (by omega) (by omega)]; omega
theorem Check1_eq (xs : List Int) (hL : xs.length ≤ 1099511627776) : ∃ b : Bool, number_Check_1.f xs = some b ∧ (b = true ↔ ¬ Nrm xs) := by
  unfold number_Check_1.f
  by_cases c : xs = []
  · subst c
    exact ⟨false, rfl, by simp [nrm_nil]⟩
  · have hl : xs.length ≠ 0 := fun h' => c (List.length_eq_zero_iff.1 h')
    refine ⟨xs.getD (xs.length - 1) 0 == 0, ?_, ?_⟩
    · rw [if_pos (by omega), last_at c hL, if_pos (by omega), if_pos (by omega), rd_getD]
    · rw [nrm_last c, Decidable.not_not, beq_iff_eq]
theorem one_nrm : Nrm [1] := by intro x h; simp at h; omega
theorem one_lim {B : Int} (h : 1 < B) : Lim B [1] := by intro x hx; rw [List.mem_singleton] at hx; omega
theorem val_one (B : Int) : val B [1] = 1 := by simp [val]
theorem eq_one {B : Int} (hB : 1 < B) {xs : List Int} (hx : Lim B xs) (hn : Nrm xs) : val B xs = 1 ↔ xs = [1] :=
  ⟨fun h => val_inj (by omega) hx (one_lim hB) hn one_nrm (by rw [h, val_one]), fun h => by rw [h, val_one]⟩
theorem Check_ev (neg : Bool) (num den : List Int) (hn : Lim 4294967296 num) (hd : Lim 4294967296 den) : Ev (fun k => number_Check.f k neg num den) (fault neg num den) := by
  have hB : (0 : Int) < 4294967296 := by decide
  by_cases s1 : num.length > 128
  · rw [fault_size (Or.inl s1)]
    refine Ev.congr (f := fun k => number_Check.j0 k true neg num den) (fun k => ?_) (Ev.step (f := fun _ => some 3) (fun k => ?_) (Ev.now _))
    · unfold number_Check.f; rw [if_pos (by omega)]
    · simp only [number_Check.j0]; rw [if_pos trivial]
  · by_cases s2 : den.length > 128
    · rw [fault_size (Or.inr s2)]
      refine Ev.congr (f := fun k => number_Check.j0 k true neg num den) (fun k => ?_) (Ev.step (f := fun _ => some 3) (fun k => ?_) (Ev.now _))
      · unfold number_Check.f; rw [if_neg (by omega), decide_eq_true (by omega)]
      · simp only [number_Check.j0]; rw [if_pos trivial]
    · obtain ⟨b1, e1, i1⟩ := Check1_eq num (by omega)
      obtain ⟨b2, e2, i2⟩ := Check1_eq den (by omega)
      have hj0 : ∀ r, Ev (fun k => number_Check.j0 k false neg num den) r → Ev (fun k => number_Check.f k neg num den) r := fun r h =>
        Ev.congr (fun k => by unfold number_Check.f; rw [if_neg (by omega), decide_eq_false (by omega)]) h
      have hbad : Ev (fun k => number_Check.j1 k true neg num den) 2 := Ev.step (f := fun _ => some 2) (fun k => by simp only [number_Check.j1]; rw [if_pos trivial]) (Ev.now _)
      have hbad2 : Ev (fun k => number_Check.j2 k true neg num den) 2 := Ev.step (f := fun _ => some 2) (fun k => by simp only [number_Check.j2]; rw [if_pos trivial]) (Ev.now _)
      by_cases c1 : Nrm num
      · have e1' : b1 = false := by cases b1 with | false => rfl | true => exact absurd c1 (i1.1 rfl)
        by_cases c2 : Nrm den
        · have e2' : b2 = false := by cases b2 with | false => rfl | true => exact absurd c2 (i2.1 rfl)
          have hs : ∀ k, number_Check.j0 (k + 1) false neg num den = number_Check.j1 k ((den.length : Int) == 0) neg num den := by
            intro k
            simp only [number_Check.j0]
            rw [if_neg (by decide), e1, Option.bind_some, e1', if_neg (by decide), e2, Option.bind_some, e2', if_neg (by decide)]
          by_cases c3 : den = []
          · rw [fault_bad (by omega) (by omega) (fun h => h.d0 c3)]
            refine hj0 _ (Ev.step hs ?_)
            subst c3
            exact hbad
          · have hdl : den.length ≠ 0 := fun h' => c3 (List.length_eq_zero_iff.1 h')
            have hz : ((den.length : Int) == 0) = false := by rw [beq_eq_false_iff_ne]; omega
            refine hj0 _ (Ev.step hs ?_)
            rw [hz]
            have hone : Nat.gcd (val 4294967296 num).toNat (val 4294967296 den).toNat = 1 → (num = [] → neg = false) → Ev (fun k => number_Check.j2 k false neg num den) 0 := by
              intro hg hng
              obtain ⟨g, g1, g2, g3, g4⟩ := Gcd_ev num den hn hd c1 c2 (by omega) (by omega)
              have hg1 : g = [1] := (eq_one (by decide) g2 g3).1 (by rw [g4, hg]; rfl)
              refine Ev.step (f := fun k => (if decide (den = [1]) = true then (some 0) else ((nat_IsOne.f num).bind fun t234 => (if t234 = true then (some 0) else ((nat_Gcd.f k num den).bind fun t235 => ((nat_IsOne.f t235).bind fun t238 => (if t238 = true then (some 0) else (some 2)))))))) (fun k => ?_) ?_
              · simp only [number_Check.j2]
                rw [if_neg (by decide), IsOne_eq, Option.bind_some]
              · by_cases o1 : den = [1]
                · exact Ev.congr (fun k => by rw [if_pos (decide_eq_true o1)]) (Ev.now 0)
                · refine Ev.congr (f := fun k => if decide (num = [1]) = true then some 0 else ((nat_Gcd.f k num den).bind fun t235 => ((nat_IsOne.f t235).bind fun t238 => (if t238 = true then (some 0) else (some 2))))) (fun k => ?_) ?_
                  · rw [if_neg (by rw [decide_eq_true_iff]; exact o1), IsOne_eq, Option.bind_some]
                  · by_cases o2 : num = [1]
                    · exact Ev.congr (fun k => by rw [if_pos (decide_eq_true o2)]) (Ev.now 0)
                    · refine Ev.congr (fun k => by rw [if_neg (by rw [decide_eq_true_iff]; exact o2)]) (Ev.bind (f := fun _ t235 => ((nat_IsOne.f t235).bind fun t238 => (if t238 = true then (some 0) else (some 2)))) g1 ?_)
                      refine Ev.congr (fun k => ?_) (Ev.now 0)
                      rw [IsOne_eq, Option.bind_some, if_pos (decide_eq_true hg1)]
            have hmore : ¬ Nat.gcd (val 4294967296 num).toNat (val 4294967296 den).toNat = 1 → Ev (fun k => number_Check.j2 k false neg num den) 2 := by
              intro hg
              obtain ⟨g, g1, g2, g3, g4⟩ := Gcd_ev num den hn hd c1 c2 (by omega) (by omega)
              have hg1 : ¬ g = [1] := fun h => hg (by rw [h, val_one] at g4; omega)
              have o1 : ¬ den = [1] := fun h => hg (by rw [h, val_one]; exact Nat.gcd_one_right _)
              have o2 : ¬ num = [1] := fun h => hg (by rw [h, val_one]; exact Nat.gcd_one_left _)
              refine Ev.step (f := fun k => ((nat_Gcd.f k num den).bind fun t235 => ((nat_IsOne.f t235).bind fun t238 => (if t238 = true then (some 0) else (some 2))))) (fun k => ?_) ?_
              · simp only [number_Check.j2]
                rw [if_neg (by decide), IsOne_eq, Option.bind_some, if_neg (by rw [decide_eq_true_iff]; exact o1), IsOne_eq, Option.bind_some, if_neg (by rw [decide_eq_true_iff]; exact o2)]
              · refine Ev.bind (f := fun _ t235 => ((nat_IsOne.f t235).bind fun t238 => (if t238 = true then (some 0) else (some 2)))) g1 ?_
                refine Ev.congr (fun k => ?_) (Ev.now 2)
                rw [IsOne_eq, Option.bind_some, if_neg (by rw [decide_eq_true_iff]; exact hg1)]
            by_cases c4 : num = []
            · have hv0 : val 4294967296 num = 0 := by rw [c4]; rfl
              have hge : Nat.gcd (val 4294967296 num).toNat (val 4294967296 den).toNat = 1 ↔ den = [1] := by
                rw [hv0, Int.toNat_zero, Nat.gcd_zero_left, ← eq_one (B := 4294967296) (by decide) hd c2]
                have := val_nonneg hB hd
                omega
              by_cases c5 : neg = true
              · rw [fault_bad (by omega) (by omega) (fun h => by have := h.ng c4; rw [c5] at this; cases this)]
                refine Ev.step (fun k => ?_) hbad2
                simp only [number_Check.j1]
                rw [if_neg (by decide), c4, if_pos (by rfl), if_pos c5]
              · have hs2 : ∀ k, number_Check.j1 (k + 1) false neg num den = number_Check.j2 k (!decide (den = [1])) neg num den := by
                  intro k
                  simp only [number_Check.j1]
                  rw [if_neg (by decide), c4, if_pos (by rfl), if_neg c5, IsOne_eq, Option.bind_some]
                refine Ev.step hs2 ?_
                by_cases c6 : den = [1]
                · rw [fault_can ⟨by omega, by omega, c1, c2, c3, fun _ => by cases neg <;> simp_all, hge.2 c6⟩, decide_eq_true c6]
                  exact hone (hge.2 c6) (fun _ => by cases neg <;> simp_all)
                · rw [fault_bad (by omega) (by omega) (fun h => c6 (hge.1 h.gc)), decide_eq_false c6]
                  exact hbad2
            · have hnl : num.length ≠ 0 := fun h' => c4 (List.length_eq_zero_iff.1 h')
              refine Ev.step (f := fun k => number_Check.j2 k false neg num den) (fun k => ?_) ?_
              · simp only [number_Check.j1]
                rw [if_neg (by decide), if_neg (by omega)]
              · by_cases c6 : Nat.gcd (val 4294967296 num).toNat (val 4294967296 den).toNat = 1
                · rw [fault_can ⟨by omega, by omega, c1, c2, c3, fun h => absurd h c4, c6⟩]
                  exact hone c6 (fun h => absurd h c4)
                · rw [fault_bad (by omega) (by omega) (fun h => c6 h.gc)]
                  exact hmore c6
        · rw [fault_bad (by omega) (by omega) (fun h => c2 h.nd)]
          refine hj0 _ (Ev.step (fun k => ?_) hbad)
          simp only [number_Check.j0]
          rw [if_neg (by decide), e1, Option.bind_some, e1', if_neg (by decide), e2, Option.bind_some, if_pos (i2.2 c2)]
      · rw [fault_bad (by omega) (by omega) (fun h => c1 h.nn)]
        refine hj0 _ (Ev.step (fun k => ?_) hbad)
        simp only [number_Check.j0]
        rw [if_neg (by decide), e1, Option.bind_some, if_pos (i1.2 c1)]
set_option maxRecDepth 100000 in
theorem counted_at : lw_counted.f 40 = some true := by decide +kernel
theorem counted_ev : Ev (fun k => lw_counted.f k) true := Ev.of lw_counted.mono counted_at
end Go.Proofs.YtemnjgkicndmjaaDoor.Q
namespace Go.Proofs.YtemnjgkicndmjaaDoor.Q
open Go.ChangeShapes Go.WideShapes Go.ChangeAt Go.RowKit Go.Joins Go.Proofs.YtemnjgkicndmjaaDoorW.PrintWords Go.Proofs.YtemnjgkicndmjaaDoorW.PrintLast Go.Proofs.YtemnjgkicndmjaaDoorW.PrintMore
set_option linter.unusedVariables false
theorem laidOut : laidOutB Tryd.prog = true := by kernel_rfl
theorem own : ownKnob Tryd.prog.godebug = none := by kernel_rfl
theorem lim_of_wf {zs : List Int} (h : ∀ n ∈ zs, (Lit.int .u32 n).wf = true) : Lim 4294967296 zs := by
  intro x hx
  have h1 := h x hx
  simp only [Lit.wf, Bool.and_eq_true, decide_eq_true_eq] at h1
  have e1 : IntKind.u32.min = 0 := by decide
  have e2 : IntKind.u32.max = 4294967295 := by decide
  omega
theorem open_limbs {H : Type} {enc : TypeId × Value → H} {W : World} {n : Nat} {c : Value} {y : DataW H × List MemPlace} (h : DataW.trod enc Tryd.prog W 0 (fun _ => true) true n 22 [c] = some y) :
    ∃ (A : Option Addr) (cap : Nat) (l : List Int), c = .slice A l.length cap ∧ l.length ≤ cap ∧ Kd.C (Kd.int .u32) W A l.length l ∧ Lim 4294967296 l := by
  rcases open_ints Tryd.underlying22 Tryd.underlying55 (by kernel_rfl) h with ⟨hcs, _⟩ | ⟨x, l, cp, zs, hcs, _, hl, hm, hz, _, hcell, hwz⟩
  · simp at hcs
    exact ⟨none, 0, [], hcs, Nat.le_refl _, Kd.C_of_reads (enc := Value.int .u32) (d := (0 : Int)) ⟨rfl, by decide, fun h => absurd h (Nat.lt_irrefl _)⟩, lim_nil _⟩
  · simp at hcs
    have hz' : zs.length = cp := by simpa using hz
    have hlen : (zs.take l).length = l := by rw [List.length_take]; omega
    refine ⟨some x, cp, zs.take l, by rw [hlen]; exact hcs, by rw [hlen]; exact hl, Kd.C_of_reads (enc := Value.int .u32) (d := (0 : Int)) ⟨rfl, by rw [hlen]; unfold maxLen at hm; omega, fun _ => ⟨x, rfl, fun j hj => ?_⟩⟩, (lim_of_wf hwz).take _⟩
    rw [hlen] at hj
    rw [hcell j (by omega), List.getD_eq_getElem?_getD, List.getD_eq_getElem?_getD, List.getElem?_take, if_pos hj]
set_option maxRecDepth 100000 in
theorem open_number {H : Type} {enc : TypeId × Value → H} {W : World} {b0 : Nat} {r : Reach} {v : Value} {d : DataW H} {p : List MemPlace} (hv : Value.okWide Tryd.prog W r b0 24 v) (h : DataW.Trod enc Tryd.prog W 0 (fun _ => true) true 24 v d p) :
    ∃ (neg : Bool) (A1 : Option Addr) (c1 : Nat) (l1 : List Int) (A2 : Option Addr) (c2 : Nat) (l2 : List Int), v = .agg #[.bool neg, .slice A1 l1.length c1, .slice A2 l2.length c2] ∧
      l1.length ≤ c1 ∧ Kd.C (Kd.int .u32) W A1 l1.length l1 ∧ Lim 4294967296 l1 ∧ l2.length ≤ c2 ∧ Kd.C (Kd.int .u32) W A2 l2.length l2 ∧ Lim 4294967296 l2 := by
  obtain ⟨v0, v1, v2, y0, y1, y2, n, rfl, rfl, rfl, h0, h1, h2⟩ := open_agg3 Tryd.underlying24 (by kernel_rfl) (by kernel_rfl) hv h
  obtain ⟨b, e0, rfl⟩ := DataW.trod_bool Tryd.underlying4 h0
  obtain ⟨A1, c1, l1, rfl, i1, k1, m1⟩ := open_limbs h1
  obtain ⟨A2, c2, l2, rfl, i2, k2, m2⟩ := open_limbs h2
  simp at e0
  subst e0
  exact ⟨b, A1, c1, l1, A2, c2, l2, rfl, i1, k1, m1, i2, k2, m2⟩
def accepted : List (Nat × Nat) := [(128, 191), (160, 191), (128, 159), (144, 191), (128, 143), (0, 0), (0, 0), (0, 0), (0, 0), (0, 0), (0, 0), (0, 0), (0, 0), (0, 0), (0, 0), (0, 0)]
noncomputable def laidFirst : Array Value := (Go.Pinned.utf8FirstZ.map fun (z : Nat) => Value.int .u8 (Int.ofNat z)).toArray
noncomputable def laidRanges : Array Value := (accepted.flatMap fun (z : Nat × Nat) => [Value.int .u8 (Int.ofNat z.1), Value.int .u8 (Int.ofNat z.2)]).toArray
noncomputable def laidWorld (os : Os) : World :=
  let w0 := World.holding Tryd.prog os ⟨#[], #[], []⟩
  { w0 with heap := (w0.heap.modify 1 (fun o => match o with
      | .cells _ t frozen => .cells laidFirst t frozen
      | o => o)).modify 2 (fun o => match o with
      | .cells _ t frozen => .cells laidRanges t frozen
      | o => o) }
set_option maxRecDepth 100000 in
theorem laid_met (os : Os) (args : Array Value) : laidMet Tryd.prog [("unicode/utf8.acceptRanges", Rows.laid_unicode_utf8_acceptRanges), ("unicode/utf8.first", Rows.laid_unicode_utf8_first)] ((laidWorld os).forCall (fun _ _ => 0) ⟨#[], args, []⟩).memory :=
  laidMet_of_run' 8 (by kernel_rfl) (by kernel_rfl)
end Go.Proofs.YtemnjgkicndmjaaDoor.Q

