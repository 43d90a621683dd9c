/- What this text proves: a part of the walk and of the plain laws of one card; no conditions. -/
import Derived.Test.YtemnjgkicndmjaaDoorCk3
import Derived.Laws.BitsAllLaws
import Derived.Laws.BitsLemmas
namespace Go.Proofs.YtemnjgkicndmjaaDoor.Q
open Go.RowKit Go.Proofs.YtemnjgkicndmjaaDoorW.PrintWords Go.Proofs.YtemnjgkicndmjaaDoorW.PrintLast Go.Proofs.YtemnjgkicndmjaaDoorW.PrintMore
attribute [local go_sem] max2_int min2_int max_two min_two max_three min_three max_four min_four
set_option linter.unusedVariables false
set_option linter.unusedSimpArgs false
def fetterlocklaw1_counted.f (k : Nat)  : Option (Bool) := (number_Parse.f k (⟨#[45, 48, 54, 114, 52]⟩ : ByteArray)).bind fun bt485 => ((number_Parse.f k (⟨#[55]⟩ : ByteArray)).bind fun bt494 => ((number_Add.f k bt485.1 bt485.2.1 bt485.2.2.1 bt494.1 bt494.2.1 bt494.2.2.1).bind fun bt503 => ((number_Format.f k bt503.1 bt503.2.1 bt503.2.2.1).bind fun bt512 => (if bt485.2.2.2 = 0 then (if bt494.2.2.2 = 0 then (if bt503.2.2.2 = 0 then (if bt512.2 = 0 then (some (bt512.1.toList == ([49, 49, 114, 50] : List UInt8))) else (some false)) else (some false)) else (some false)) else (some false)))))
theorem fetterlocklaw1_counted.mono : ∀ k, LeO (fetterlocklaw1_counted.f k ) (fetterlocklaw1_counted.f (k + 1) ) := by
 intro  k
 unfold fetterlocklaw1_counted.f
 repeat' first
   | (with_reducible exact number_Add.mono _ _ _ _ _ _ _)
   | (with_reducible exact number_Format.mono _ _ _ _)
   | (with_reducible exact number_Parse.mono _ _)
   | (with_reducible exact LeO.refl _)
   | (with_reducible exact LeO.none _)
   | (with_reducible refine LeO.ite ?_ ?_)
   | (with_reducible refine LeO.bind ?_ (fun _ => ?_))
   | exact number_Add.mono _ _ _ _ _ _ _
   | exact number_Format.mono _ _ _ _
   | exact number_Parse.mono _ _
   | exact LeO.none _
   | refine LeO.ite ?_ ?_
   | refine LeO.bind ?_ (fun _ => ?_)
set_option maxHeartbeats 8000000 in
set_option maxRecDepth 100000 in
theorem fetterlocklaw1_counted.calls (k : Nat)  (r : Bool) (w : World) (h : fetterlocklaw1_counted.f k  = some r) (hr : r = true := by assumption) :
  Calls Tryd.prog 16 #[] w fun e w' => e = .returned (.bool r) ∧ Below w.heap.size w w' := by
 have hu24 := Tryd.underlying24
 have HB := Aside0.mk (Below.refl w.heap.size w)
 have H : ((number_Parse.f k (⟨#[45, 48, 54, 114, 52]⟩ : ByteArray)).bind fun bt485 => ((number_Parse.f k (⟨#[55]⟩ : ByteArray)).bind fun bt494 => ((number_Add.f k bt485.1 bt485.2.1 bt485.2.2.1 bt494.1 bt494.2.1 bt494.2.2.1).bind fun bt503 => ((number_Format.f k bt503.1 bt503.2.1 bt503.2.2.1).bind fun bt512 => (if bt485.2.2.2 = 0 then (if bt494.2.2.2 = 0 then (if bt503.2.2.2 = 0 then (if bt512.2 = 0 then (some (bt512.1.toList == ([49, 49, 114, 50] : List UInt8))) else (some false)) else (some false)) else (some false)) else (some false)))))) = some r := h
 clear h
 replace H := Option.bind_eq_some_iff.mp H
 obtain ⟨⟨t485, t486, t489, t492⟩, A10, H⟩ := H
 replace H : ((number_Parse.f k (⟨#[55]⟩ : ByteArray)).bind fun bt494 => ((number_Add.f k t485 t486 t489 bt494.1 bt494.2.1 bt494.2.2.1).bind fun bt503 => ((number_Format.f k bt503.1 bt503.2.1 bt503.2.2.1).bind fun bt512 => (if t492 = 0 then (if bt494.2.2.2 = 0 then (if bt503.2.2.2 = 0 then (if bt512.2 = 0 then (some (bt512.1.toList == ([49, 49, 114, 50] : List UInt8))) else (some false)) else (some false)) else (some false)) else (some false))))) = some r := H
 have A1 := Aside0.mk A10
 clear A10
 replace H := Option.bind_eq_some_iff.mp H
 obtain ⟨⟨t494, t495, t498, t501⟩, A20, H⟩ := H
 replace H : ((number_Add.f k t485 t486 t489 t494 t495 t498).bind fun bt503 => ((number_Format.f k bt503.1 bt503.2.1 bt503.2.2.1).bind fun bt512 => (if t492 = 0 then (if t501 = 0 then (if bt503.2.2.2 = 0 then (if bt512.2 = 0 then (some (bt512.1.toList == ([49, 49, 114, 50] : List UInt8))) else (some false)) else (some false)) else (some false)) else (some false)))) = some r := H
 have A2 := Aside0.mk A20
 clear A20
 replace H := Option.bind_eq_some_iff.mp H
 obtain ⟨⟨t503, t504, t507, t510⟩, A30, H⟩ := H
 replace H : ((number_Format.f k t503 t504 t507).bind fun bt512 => (if t492 = 0 then (if t501 = 0 then (if t510 = 0 then (if bt512.2 = 0 then (some (bt512.1.toList == ([49, 49, 114, 50] : List UInt8))) else (some false)) else (some false)) else (some false)) else (some false))) = some r := H
 have A3 := Aside0.mk A30
 clear A30
 replace H := Option.bind_eq_some_iff.mp H
 obtain ⟨⟨t512, t513⟩, A40, H⟩ := H
 replace H : (if t492 = 0 then (if t501 = 0 then (if t510 = 0 then (if t513 = 0 then (some (t512.toList == ([49, 49, 114, 50] : List UInt8))) else (some false)) else (some false)) else (some false)) else (some false)) = some r := H
 have A4 := Aside0.mk A40
 clear A40
 by_cases c5 : t492 = 0
 ·rw [if_pos c5] at H
  have c5b0 : (t492 == 0) = true := beq_iff_eq.mpr c5
  have c5b1 : (t492 != 0) = false := bne_eq_false_iff_eq.mpr c5
  clear c5
  by_cases c6 : t501 = 0
  ·rw [if_pos c6] at H
   have c6b0 : (t501 == 0) = true := beq_iff_eq.mpr c6
   have c6b1 : (t501 != 0) = false := bne_eq_false_iff_eq.mpr c6
   clear c6
   by_cases c7 : t510 = 0
   ·rw [if_pos c7] at H
    have c7b0 : (t510 == 0) = true := beq_iff_eq.mpr c7
    have c7b1 : (t510 != 0) = false := bne_eq_false_iff_eq.mpr c7
    clear c7
    by_cases c8 : t513 = 0
    ·rw [if_pos c8] at H
     have c8b0 : (t513 == 0) = true := beq_iff_eq.mpr c8
     have c8b1 : (t513 != 0) = false := bne_eq_false_iff_eq.mpr c8
     clear c8
     obtain rfl := Option.some.inj H
     go_enter Tryd.func16, Tryd.ntmps16
     go_wp2_with (first | ((with_reducible refine gate_callee (f := 19) rfl ?_); refine goesL_ (some 10) rfl rfl Tryd.func19 (by kernel_rfl) rfl #[.string (⟨#[45, 48, 54, 114, 52]⟩ : ByteArray)] rfl zq5 ?_; (with_reducible refine (number_Parse.calls k (⟨#[45, 48, 54, 114, 52]⟩ : ByteArray) t485 t486 t489 t492 _ A1.out).mono ?_); rintro e w9 ⟨v487, v490, rfl, ho0, ho1, hb⟩; refine ⟨_, rfl, ?_⟩; have n0_ := Aside0.mk (Kd.V_lower (Kd.V_mono (ok' := fun k_ => True) ho0 (fun k_ hk_ => trivial)) (below_size zq1)); have n1_ := Aside0.mk (Kd.V_lower (Kd.V_mono (ok' := fun k_ => True) ho1 (fun k_ hk_ => trivial)) (below_size zq1)); have n2_ := Aside0.mk (below_step zq1 hb); clear HB; have HO488 := n0_; have HO491 := n1_; have HB := n2_; clear n0_ n1_ n2_; (try clear hb); (try clear hb2); (try clear hk); (try clear hi); (try clear ho0); (try clear ho1)) | ((with_reducible refine gate_dst (N := 1) rfl ?_); refine box_event ?hg (N := 1) ?hd (cs := #[.bool false, .slice none 0 0, .slice none 0 0]) (t := 24) ?hr ?_; (case hd => rfl); (case hg => rfl); (case hr => first | (go_simp; done) | (go_simp; rfl)); intro gb493 hg w10 hbox hb; have n0_ := Aside0.mk (Kd.V_below (Kd.V_elderB (zq3 HO488.out) gb493 (Nat.le_of_eq hg.symm)) hb); have n1_ := Aside0.mk (Kd.V_below (Kd.V_elderB (zq3 HO491.out) gb493 (Nat.le_of_eq hg.symm)) hb); have n2_ := Aside0.mk (below_step zq1 hb); have n3_ := Aside0.mk (hbox); have n4_ := Aside0.mk ((by rw [hg]; exact (below_size zq1) : w.heap.size ≤ gb493)); have n5_ := Aside0.mk ((by rw [hg]; exact (below_size zq1) : w.heap.size ≤ gb493)); clear HO488; clear HO491; clear HB; have HO488 := n0_; have HO491 := n1_; have HB := n2_; have BK493 := n3_; have GW493 := n4_; have GE493 := n5_; clear n0_ n1_ n2_ n3_ n4_ n5_; clear hb hbox hg; have hcz11_0 : w10.cell? ⟨gb493, 0, none⟩ = some (.bool false) := (blk_cell BK493.out 0).trans rfl; have hcz11_1 : w10.cell? ⟨gb493, 1, none⟩ = some (.slice none 0 0) := (blk_cell BK493.out 1).trans rfl; have hcz11_2 : w10.cell? ⟨gb493, 2, none⟩ = some (.slice none 0 0) := (blk_cell BK493.out 2).trans rfl; have hfz11_0 := blk_frozen BK493.out 0; have hfz11_1 := blk_frozen BK493.out 1; have hfz11_2 := blk_frozen BK493.out 2; obtain ⟨Ao12, co12, eo12⟩ := Kd.V_slice HO488.out; subst eo12; obtain ⟨Ao13, co13, eo13⟩ := Kd.V_slice HO491.out; subst eo13) | ((with_reducible refine gate_callee (f := 19) rfl ?_); refine goesL_ (some 14) rfl rfl Tryd.func19 (by kernel_rfl) rfl #[.string (⟨#[55]⟩ : ByteArray)] rfl zq5 ?_; (with_reducible refine (number_Parse.calls k (⟨#[55]⟩ : ByteArray) t494 t495 t498 t501 _ A2.out).mono ?_); rintro e w14 ⟨v496, v499, rfl, ho0, ho1, hb⟩; refine ⟨_, rfl, ?_⟩; have n0_ := Aside0.mk (Kd.V_below (by (with_reducible repeat (first | apply Kd.V_alloc | apply Kd.V_drewN | apply Kd.V_drew)); exact (Kd.V_mono (Kd.V_far (p := ⟨gb493, 2, none⟩) (Kd.V_far (p := ⟨gb493, 1, none⟩) (Kd.V_far (p := ⟨gb493, 0, none⟩) (Kd.V_mono HO488.out (fun k_ hk => (⟨hk, hk.2⟩ : _ ∧ k_ ≠ gb493))) (fun _ hk => hk.2) (.bool t485)) (fun _ hk => hk.2) (.slice Ao12 t486.length co12)) (fun _ hk => hk.2) (.slice Ao13 t489.length co13)) (fun _ h_ => h_.1))) hb); have n1_ := Aside0.mk (Kd.V_below (by (with_reducible repeat (first | apply Kd.V_alloc | apply Kd.V_drewN | apply Kd.V_drew)); exact (Kd.V_mono (Kd.V_far (p := ⟨gb493, 2, none⟩) (Kd.V_far (p := ⟨gb493, 1, none⟩) (Kd.V_far (p := ⟨gb493, 0, none⟩) (Kd.V_mono HO491.out (fun k_ hk => (⟨hk, hk.2⟩ : _ ∧ k_ ≠ gb493))) (fun _ hk => hk.2) (.bool t485)) (fun _ hk => hk.2) (.slice Ao12 t486.length co12)) (fun _ hk => hk.2) (.slice Ao13 t489.length co13)) (fun _ h_ => h_.1))) hb); have n2_ := Aside0.mk (Kd.V_lower (Kd.V_mono (ok' := fun k_ => k_ ≠ gb493) ho0 (fun k_ hk_ => (Kd.freshB (g := gb493) (o := .cells #[.bool t485, .slice Ao12 t486.length co12, .slice Ao13 t489.length co13] 24 (0, 0)) (by (with_reducible repeat (first | refine blk_drewN ?_ _ | refine blk_drew ?_ | refine blk_alloc ?_ _)); refine blk_put (cs := #[.bool t485, .slice Ao12 t486.length co12, .slice none 0 0]) ?_ 2 _ rfl; (with_reducible repeat (first | refine blk_drewN ?_ _ | refine blk_drew ?_ | refine blk_alloc ?_ _)); refine blk_put (cs := #[.bool t485, .slice none 0 0, .slice none 0 0]) ?_ 1 _ rfl; (with_reducible repeat (first | refine blk_drewN ?_ _ | refine blk_drew ?_ | refine blk_alloc ?_ _)); refine blk_put (cs := #[.bool false, .slice none 0 0, .slice none 0 0]) ?_ 0 _ rfl; (with_reducible repeat (first | refine blk_drewN ?_ _ | refine blk_drew ?_ | refine blk_alloc ?_ _)); exact BK493.out) k_ hk_))) (below_size (by repeat (first | (with_reducible first | exact HB.out | apply below_alloc | apply pw_below_drewN | apply below_drew1 | refine below_set ?_ GE493.out) | exact HB.out)))); have n3_ := Aside0.mk (Kd.V_lower (Kd.V_mono (ok' := fun k_ => k_ ≠ gb493) ho1 (fun k_ hk_ => (Kd.freshB (g := gb493) (o := .cells #[.bool t485, .slice Ao12 t486.length co12, .slice Ao13 t489.length co13] 24 (0, 0)) (by (with_reducible repeat (first | refine blk_drewN ?_ _ | refine blk_drew ?_ | refine blk_alloc ?_ _)); refine blk_put (cs := #[.bool t485, .slice Ao12 t486.length co12, .slice none 0 0]) ?_ 2 _ rfl; (with_reducible repeat (first | refine blk_drewN ?_ _ | refine blk_drew ?_ | refine blk_alloc ?_ _)); refine blk_put (cs := #[.bool t485, .slice none 0 0, .slice none 0 0]) ?_ 1 _ rfl; (with_reducible repeat (first | refine blk_drewN ?_ _ | refine blk_drew ?_ | refine blk_alloc ?_ _)); refine blk_put (cs := #[.bool false, .slice none 0 0, .slice none 0 0]) ?_ 0 _ rfl; (with_reducible repeat (first | refine blk_drewN ?_ _ | refine blk_drew ?_ | refine blk_alloc ?_ _)); exact BK493.out) k_ hk_))) (below_size (by repeat (first | (with_reducible first | exact HB.out | apply below_alloc | apply pw_below_drewN | apply below_drew1 | refine below_set ?_ GE493.out) | exact HB.out)))); have n4_ := Aside0.mk (blk_below (g := gb493) (o := .cells #[.bool t485, .slice Ao12 t486.length co12, .slice Ao13 t489.length co13] 24 (0, 0)) (by (with_reducible repeat (first | refine blk_drewN ?_ _ | refine blk_drew ?_ | refine blk_alloc ?_ _)); refine blk_put (cs := #[.bool t485, .slice Ao12 t486.length co12, .slice none 0 0]) ?_ 2 _ rfl; (with_reducible repeat (first | refine blk_drewN ?_ _ | refine blk_drew ?_ | refine blk_alloc ?_ _)); refine blk_put (cs := #[.bool t485, .slice none 0 0, .slice none 0 0]) ?_ 1 _ rfl; (with_reducible repeat (first | refine blk_drewN ?_ _ | refine blk_drew ?_ | refine blk_alloc ?_ _)); refine blk_put (cs := #[.bool false, .slice none 0 0, .slice none 0 0]) ?_ 0 _ rfl; (with_reducible repeat (first | refine blk_drewN ?_ _ | refine blk_drew ?_ | refine blk_alloc ?_ _)); exact BK493.out) hb); have n5_ := Aside0.mk (below_step (by repeat (first | (with_reducible first | exact HB.out | apply below_alloc | apply pw_below_drewN | apply below_drew1 | refine below_set ?_ GE493.out) | exact HB.out)) hb); clear HO488; clear HO491; clear BK493; clear HB; have HO488 := n0_; have HO491 := n1_; have HO497 := n2_; have HO500 := n3_; have BK493 := n4_; have HB := n5_; clear n0_ n1_ n2_ n3_ n4_ n5_; (try clear hb); (try clear hb2); (try clear hk); (try clear hi); (try clear ho0); (try clear ho1)) | ((with_reducible refine gate_dst (N := 3) rfl ?_); refine box_event ?hg (N := 3) ?hd (cs := #[.bool false, .slice none 0 0, .slice none 0 0]) (t := 24) ?hr ?_; (case hd => rfl); (case hg => rfl); (case hr => first | (go_simp; done) | (go_simp; rfl)); intro gb502 hg w15 hbox hb; have n0_ := Aside0.mk (Kd.V_below (Kd.V_elderB (zq3 HO488.out) gb502 (Nat.le_of_eq hg.symm)) hb); have n1_ := Aside0.mk (Kd.V_below (Kd.V_elderB (zq3 HO491.out) gb502 (Nat.le_of_eq hg.symm)) hb); have n2_ := Aside0.mk (Kd.V_below (Kd.V_elderB (zq3 HO497.out) gb502 (Nat.le_of_eq hg.symm)) hb); have n3_ := Aside0.mk (Kd.V_below (Kd.V_elderB (zq3 HO500.out) gb502 (Nat.le_of_eq hg.symm)) hb); have n4_ := Aside0.mk (blk_below (g := gb493) (o := .cells #[.bool t485, .slice Ao12 t486.length co12, .slice Ao13 t489.length co13] 24 (0, 0)) (zq2 BK493.out) hb); have n5_ := Aside0.mk (below_step (by repeat (first | (with_reducible first | exact HB.out | apply below_alloc | apply pw_below_drewN | apply below_drew1 | refine below_set ?_ GE493.out) | exact HB.out)) hb); have n6_ := Aside0.mk (hbox); have n7_ := Aside0.mk ((by rw [hg]; exact (below_size (by repeat (first | (with_reducible first | exact HB.out | apply below_alloc | apply pw_below_drewN | apply below_drew1 | refine below_set ?_ GE493.out) | exact HB.out))) : w.heap.size ≤ gb502)); have n8_ := Aside0.mk ((by rw [hg]; exact (below_size (by repeat (first | (with_reducible first | exact HB.out | apply below_alloc | apply pw_below_drewN | apply below_drew1 | refine below_set ?_ GE493.out) | exact HB.out))) : w.heap.size ≤ gb502)); have n9_ := Aside0.mk ((by rw [hg]; exact Nat.ne_of_lt (blk_lt (g := gb493) (o := .cells #[.bool t485, .slice Ao12 t486.length co12, .slice Ao13 t489.length co13] 24 (0, 0)) (zq2 BK493.out)) : gb493 ≠ gb502)); have n10_ := Aside0.mk ((by rw [hg]; exact Nat.ne_of_gt (blk_lt (g := gb493) (o := .cells #[.bool t485, .slice Ao12 t486.length co12, .slice Ao13 t489.length co13] 24 (0, 0)) (zq2 BK493.out)) : gb502 ≠ gb493)); clear HO488; clear HO491; clear HO497; clear HO500; clear BK493; clear HB; have HO488 := n0_; have HO491 := n1_; have HO497 := n2_; have HO500 := n3_; have BK493 := n4_; have HB := n5_; have BK502 := n6_; have GW502 := n7_; have GE502 := n8_; have NB493_502 := n9_; have NB502_493 := n10_; clear n0_ n1_ n2_ n3_ n4_ n5_ n6_ n7_ n8_ n9_ n10_; clear hb hbox hg; have hnb16 := NB502_493.out; have hnc16 := NB493_502.out; have hcz17_0 : w15.cell? ⟨gb502, 0, none⟩ = some (.bool false) := (blk_cell BK502.out 0).trans rfl; have hcz17_1 : w15.cell? ⟨gb502, 1, none⟩ = some (.slice none 0 0) := (blk_cell BK502.out 1).trans rfl; have hcz17_2 : w15.cell? ⟨gb502, 2, none⟩ = some (.slice none 0 0) := (blk_cell BK502.out 2).trans rfl; have hfz17_0 := blk_frozen BK502.out 0; have hfz17_1 := blk_frozen BK502.out 1; have hfz17_2 := blk_frozen BK502.out 2; obtain ⟨Ao18, co18, eo18⟩ := Kd.V_slice HO497.out; subst eo18; obtain ⟨Ao19, co19, eo19⟩ := Kd.V_slice HO500.out; subst eo19) | ((with_reducible refine gate_store (t := 24) (p := 3) rfl ?_); refine store_event (t := 24) (p := 3) (v := ?vo_w20) (w1 := (((w15.setCell ⟨gb502, 0, none⟩ (.bool t494)).setCell ⟨gb502, 1, none⟩ (.slice Ao18 t495.length co18)).setCell ⟨gb502, 2, none⟩ (.slice Ao19 t498.length co19))) ?hg ?ho ?hn ?hr ?_; (case ho => rfl); (case hg => rfl); (case hn => rfl); (case hr => first | (go_simp; done) | (go_simp; rfl)); intro w20 hw; have n0_ : Aside0 (Kd.V (Kd.int .u32) 55 w20 w.heap.size (fun k_ => k_ ≠ gb493 ∧ k_ ≠ gb502) (.slice Ao12 t486.length co12) t486) := ⟨(by rw [hw]; exact (by (with_reducible repeat (first | apply Kd.V_alloc | apply Kd.V_drewN | apply Kd.V_drew)); exact Kd.V_mono (Kd.V_far (p := ⟨gb502, 2, none⟩) (Kd.V_far (p := ⟨gb502, 1, none⟩) (Kd.V_far (p := ⟨gb502, 0, none⟩) (Kd.V_mono HO488.out (fun k_ hk => (⟨hk, hk.2⟩ : _ ∧ k_ ≠ gb502))) (fun _ hk => hk.2) (.bool t494)) (fun _ hk => hk.2) (.slice Ao18 t495.length co18)) (fun _ hk => hk.2) (.slice Ao19 t498.length co19)) (fun _ hk => ⟨hk.1.1.2, hk.1.2⟩)))⟩; have n1_ : Aside0 (Kd.V (Kd.int .u32) 55 w20 w.heap.size (fun k_ => k_ ≠ gb493 ∧ k_ ≠ gb502) (.slice Ao13 t489.length co13) t489) := ⟨(by rw [hw]; exact (by (with_reducible repeat (first | apply Kd.V_alloc | apply Kd.V_drewN | apply Kd.V_drew)); exact Kd.V_mono (Kd.V_far (p := ⟨gb502, 2, none⟩) (Kd.V_far (p := ⟨gb502, 1, none⟩) (Kd.V_far (p := ⟨gb502, 0, none⟩) (Kd.V_mono HO491.out (fun k_ hk => (⟨hk, hk.2⟩ : _ ∧ k_ ≠ gb502))) (fun _ hk => hk.2) (.bool t494)) (fun _ hk => hk.2) (.slice Ao18 t495.length co18)) (fun _ hk => hk.2) (.slice Ao19 t498.length co19)) (fun _ hk => ⟨hk.1.1.2, hk.1.2⟩)))⟩; have n2_ : Aside0 (Kd.V (Kd.int .u32) 55 w20 w.heap.size (fun k_ => k_ ≠ gb493 ∧ k_ ≠ gb502) (.slice Ao18 t495.length co18) t495) := ⟨(by rw [hw]; exact (by (with_reducible repeat (first | apply Kd.V_alloc | apply Kd.V_drewN | apply Kd.V_drew)); exact Kd.V_mono (Kd.V_far (p := ⟨gb502, 2, none⟩) (Kd.V_far (p := ⟨gb502, 1, none⟩) (Kd.V_far (p := ⟨gb502, 0, none⟩) (Kd.V_mono HO497.out (fun k_ hk => (⟨hk, hk.2⟩ : _ ∧ k_ ≠ gb502))) (fun _ hk => hk.2) (.bool t494)) (fun _ hk => hk.2) (.slice Ao18 t495.length co18)) (fun _ hk => hk.2) (.slice Ao19 t498.length co19)) (fun _ hk => ⟨hk.1.1, hk.1.2⟩)))⟩; have n3_ : Aside0 (Kd.V (Kd.int .u32) 55 w20 w.heap.size (fun k_ => k_ ≠ gb493 ∧ k_ ≠ gb502) (.slice Ao19 t498.length co19) t498) := ⟨(by rw [hw]; exact (by (with_reducible repeat (first | apply Kd.V_alloc | apply Kd.V_drewN | apply Kd.V_drew)); exact Kd.V_mono (Kd.V_far (p := ⟨gb502, 2, none⟩) (Kd.V_far (p := ⟨gb502, 1, none⟩) (Kd.V_far (p := ⟨gb502, 0, none⟩) (Kd.V_mono HO500.out (fun k_ hk => (⟨hk, hk.2⟩ : _ ∧ k_ ≠ gb502))) (fun _ hk => hk.2) (.bool t494)) (fun _ hk => hk.2) (.slice Ao18 t495.length co18)) (fun _ hk => hk.2) (.slice Ao19 t498.length co19)) (fun _ hk => ⟨hk.1.1, hk.1.2⟩)))⟩; have n4_ : Aside0 (w20.heap[gb493]? = some (.cells #[.bool t485, .slice Ao12 t486.length co12, .slice Ao13 t489.length co13] 24 (0, 0))) := ⟨(by rw [hw]; exact (by (with_reducible repeat (first | refine blk_drewN ?_ _ | refine blk_drew ?_ | refine blk_alloc ?_ _)); refine blk_far ?_ NB493_502.out _; (with_reducible repeat (first | refine blk_drewN ?_ _ | refine blk_drew ?_ | refine blk_alloc ?_ _)); refine blk_far ?_ NB493_502.out _; (with_reducible repeat (first | refine blk_drewN ?_ _ | refine blk_drew ?_ | refine blk_alloc ?_ _)); refine blk_far ?_ NB493_502.out _; (with_reducible repeat (first | refine blk_drewN ?_ _ | refine blk_drew ?_ | refine blk_alloc ?_ _)); exact BK493.out))⟩; have n5_ : Aside0 (w20.heap[gb502]? = some (.cells #[.bool t494, .slice Ao18 t495.length co18, .slice Ao19 t498.length co19] 24 (0, 0))) := ⟨(by rw [hw]; exact (by (with_reducible repeat (first | refine blk_drewN ?_ _ | refine blk_drew ?_ | refine blk_alloc ?_ _)); refine blk_put (cs := #[.bool t494, .slice Ao18 t495.length co18, .slice none 0 0]) ?_ 2 _ rfl; (with_reducible repeat (first | refine blk_drewN ?_ _ | refine blk_drew ?_ | refine blk_alloc ?_ _)); refine blk_put (cs := #[.bool t494, .slice none 0 0, .slice none 0 0]) ?_ 1 _ rfl; (with_reducible repeat (first | refine blk_drewN ?_ _ | refine blk_drew ?_ | refine blk_alloc ?_ _)); refine blk_put (cs := #[.bool false, .slice none 0 0, .slice none 0 0]) ?_ 0 _ rfl; (with_reducible repeat (first | refine blk_drewN ?_ _ | refine blk_drew ?_ | refine blk_alloc ?_ _)); exact BK502.out))⟩; have n6_ : Aside0 (Below w.heap.size w w20) := ⟨(by rw [hw]; exact (by repeat (first | (with_reducible first | exact HB.out | apply below_alloc | apply pw_below_drewN | apply below_drew1 | refine below_set ?_ GE493.out | refine below_set ?_ GE502.out) | exact HB.out)))⟩; clear hw; clear HO488; clear HO491; clear HO497; clear HO500; clear BK493; clear BK502; clear HB; have HO488 := n0_; have HO491 := n1_; have HO497 := n2_; have HO500 := n3_; have BK493 := n4_; have BK502 := n5_; have HB := n6_; clear n0_ n1_ n2_ n3_ n4_ n5_ n6_; have hcz21_0 : w20.cell? ⟨gb493, 0, none⟩ = some (.bool t485) := (blk_cell BK493.out 0).trans rfl; have hcz21_1 : w20.cell? ⟨gb493, 1, none⟩ = some (.slice Ao12 t486.length co12) := (blk_cell BK493.out 1).trans rfl; have hcz21_2 : w20.cell? ⟨gb493, 2, none⟩ = some (.slice Ao13 t489.length co13) := (blk_cell BK493.out 2).trans rfl; have hfz21_0 := blk_frozen BK493.out 0; have hfz21_1 := blk_frozen BK493.out 1; have hfz21_2 := blk_frozen BK493.out 2; have hcz22_0 : w20.cell? ⟨gb502, 0, none⟩ = some (.bool t494) := (blk_cell BK502.out 0).trans rfl; have hcz22_1 : w20.cell? ⟨gb502, 1, none⟩ = some (.slice Ao18 t495.length co18) := (blk_cell BK502.out 1).trans rfl; have hcz22_2 : w20.cell? ⟨gb502, 2, none⟩ = some (.slice Ao19 t498.length co19) := (blk_cell BK502.out 2).trans rfl; have hfz22_0 := blk_frozen BK502.out 0; have hfz22_1 := blk_frozen BK502.out 1; have hfz22_2 := blk_frozen BK502.out 2) | ((with_reducible refine gate_callee (f := 25) rfl ?_); refine goesL_ (some 20) rfl rfl Tryd.func25 (by kernel_rfl) rfl #[.agg #[.bool t485, .slice Ao12 t486.length co12, .slice Ao13 t489.length co13], .agg #[.bool t494, .slice Ao18 t495.length co18, .slice Ao19 t498.length co19]] rfl zq5 ?_; (with_reducible refine (number_Add.calls k t485 (fun k_ => (k_ ≠ gb493 ∧ k_ ≠ gb502)) _ _ t486 (fun k_ => (k_ ≠ gb493 ∧ k_ ≠ gb502)) _ _ t489 t494 (fun k_ => (k_ ≠ gb493 ∧ k_ ≠ gb502)) _ _ t495 (fun k_ => (k_ ≠ gb493 ∧ k_ ≠ gb502)) _ _ t498 t503 t504 t507 t510 _ ?side1 ?side2 ?side3 ?side4 A3.out).mono ?_); (case side1 => exact HO488.out); (case side2 => exact HO491.out); (case side3 => exact HO497.out); (case side4 => exact HO500.out); rintro e w23 ⟨v505, v508, rfl, ho0, ho1, hb⟩; refine ⟨_, rfl, ?_⟩; have n0_ := Aside0.mk (Kd.V_below (zq3 HO488.out) hb); have n1_ := Aside0.mk (Kd.V_below (zq3 HO491.out) hb); have n2_ := Aside0.mk (Kd.V_below (zq3 HO497.out) hb); have n3_ := Aside0.mk (Kd.V_below (zq3 HO500.out) hb); have n4_ := Aside0.mk (Kd.V_lower (Kd.V_mono (ok' := fun k_ => k_ ≠ gb493 ∧ k_ ≠ gb502) ho0 (fun k_ hk_ => ⟨Or.elim hk_ (fun hs_ => Or.elim hs_ (fun hs_ => hs_.1) (fun hs_ => Or.elim hs_ (fun hs_ => hs_.1) (fun hs_ => Or.elim hs_ (fun hs_ => hs_.1) (fun hs_ => hs_.1)))) (fun hn_ => (Kd.freshB (g := gb493) (o := .cells #[.bool t485, .slice Ao12 t486.length co12, .slice Ao13 t489.length co13] 24 (0, 0)) (zq2 BK493.out) k_ hn_)), Or.elim hk_ (fun hs_ => Or.elim hs_ (fun hs_ => hs_.2) (fun hs_ => Or.elim hs_ (fun hs_ => hs_.2) (fun hs_ => Or.elim hs_ (fun hs_ => hs_.2) (fun hs_ => hs_.2)))) (fun hn_ => (Kd.freshB (g := gb502) (o := .cells #[.bool t494, .slice Ao18 t495.length co18, .slice Ao19 t498.length co19] 24 (0, 0)) (zq2 BK502.out) k_ hn_))⟩)) (below_size (by repeat (first | (with_reducible first | exact HB.out | apply below_alloc | apply pw_below_drewN | apply below_drew1 | refine below_set ?_ GE493.out | refine below_set ?_ GE502.out) | exact HB.out)))); have n5_ := Aside0.mk (Kd.V_lower (Kd.V_mono (ok' := fun k_ => k_ ≠ gb493 ∧ k_ ≠ gb502) ho1 (fun k_ hk_ => ⟨Or.elim hk_ (fun hs_ => Or.elim hs_ (fun hs_ => hs_.1) (fun hs_ => Or.elim hs_ (fun hs_ => hs_.1) (fun hs_ => Or.elim hs_ (fun hs_ => hs_.1) (fun hs_ => hs_.1)))) (fun hn_ => (Kd.freshB (g := gb493) (o := .cells #[.bool t485, .slice Ao12 t486.length co12, .slice Ao13 t489.length co13] 24 (0, 0)) (zq2 BK493.out) k_ hn_)), Or.elim hk_ (fun hs_ => Or.elim hs_ (fun hs_ => hs_.2) (fun hs_ => Or.elim hs_ (fun hs_ => hs_.2) (fun hs_ => Or.elim hs_ (fun hs_ => hs_.2) (fun hs_ => hs_.2)))) (fun hn_ => (Kd.freshB (g := gb502) (o := .cells #[.bool t494, .slice Ao18 t495.length co18, .slice Ao19 t498.length co19] 24 (0, 0)) (zq2 BK502.out) k_ hn_))⟩)) (below_size (by repeat (first | (with_reducible first | exact HB.out | apply below_alloc | apply pw_below_drewN | apply below_drew1 | refine below_set ?_ GE493.out | refine below_set ?_ GE502.out) | exact HB.out)))); have n6_ := Aside0.mk (blk_below (g := gb493) (o := .cells #[.bool t485, .slice Ao12 t486.length co12, .slice Ao13 t489.length co13] 24 (0, 0)) (zq2 BK493.out) hb); have n7_ := Aside0.mk (blk_below (g := gb502) (o := .cells #[.bool t494, .slice Ao18 t495.length co18, .slice Ao19 t498.length co19] 24 (0, 0)) (zq2 BK502.out) hb); have n8_ := Aside0.mk (below_step (by repeat (first | (with_reducible first | exact HB.out | apply below_alloc | apply pw_below_drewN | apply below_drew1 | refine below_set ?_ GE493.out | refine below_set ?_ GE502.out) | exact HB.out)) hb); clear HO488; clear HO491; clear HO497; clear HO500; clear BK493; clear BK502; clear HB; have HO488 := n0_; have HO491 := n1_; have HO497 := n2_; have HO500 := n3_; have HO506 := n4_; have HO509 := n5_; have BK493 := n6_; have BK502 := n7_; have HB := n8_; clear n0_ n1_ n2_ n3_ n4_ n5_ n6_ n7_ n8_; (try clear hb); (try clear hb2); (try clear hk); (try clear hi); (try clear ho0); (try clear ho1)) | ((with_reducible refine gate_dst (N := 5) rfl ?_); refine box_event ?hg (N := 5) ?hd (cs := #[.bool false, .slice none 0 0, .slice none 0 0]) (t := 24) ?hr ?_; (case hd => rfl); (case hg => rfl); (case hr => first | (go_simp; done) | (go_simp; rfl)); intro gb511 hg w24 hbox hb; have n0_ := Aside0.mk (Kd.V_below (Kd.V_elderB (zq3 HO488.out) gb511 (Nat.le_of_eq hg.symm)) hb); have n1_ := Aside0.mk (Kd.V_below (Kd.V_elderB (zq3 HO491.out) gb511 (Nat.le_of_eq hg.symm)) hb); have n2_ := Aside0.mk (Kd.V_below (Kd.V_elderB (zq3 HO497.out) gb511 (Nat.le_of_eq hg.symm)) hb); have n3_ := Aside0.mk (Kd.V_below (Kd.V_elderB (zq3 HO500.out) gb511 (Nat.le_of_eq hg.symm)) hb); have n4_ := Aside0.mk (Kd.V_below (Kd.V_elderB (zq3 HO506.out) gb511 (Nat.le_of_eq hg.symm)) hb); have n5_ := Aside0.mk (Kd.V_below (Kd.V_elderB (zq3 HO509.out) gb511 (Nat.le_of_eq hg.symm)) hb); have n6_ := Aside0.mk (blk_below (g := gb493) (o := .cells #[.bool t485, .slice Ao12 t486.length co12, .slice Ao13 t489.length co13] 24 (0, 0)) (zq2 BK493.out) hb); have n7_ := Aside0.mk (blk_below (g := gb502) (o := .cells #[.bool t494, .slice Ao18 t495.length co18, .slice Ao19 t498.length co19] 24 (0, 0)) (zq2 BK502.out) hb); have n8_ := Aside0.mk (below_step (by repeat (first | (with_reducible first | exact HB.out | apply below_alloc | apply pw_below_drewN | apply below_drew1 | refine below_set ?_ GE493.out | refine below_set ?_ GE502.out) | exact HB.out)) hb); have n9_ := Aside0.mk (hbox); have n10_ := Aside0.mk ((by rw [hg]; exact (below_size (by repeat (first | (with_reducible first | exact HB.out | apply below_alloc | apply pw_below_drewN | apply below_drew1 | refine below_set ?_ GE493.out | refine below_set ?_ GE502.out) | exact HB.out))) : w.heap.size ≤ gb511)); have n11_ := Aside0.mk ((by rw [hg]; exact (below_size (by repeat (first | (with_reducible first | exact HB.out | apply below_alloc | apply pw_below_drewN | apply below_drew1 | refine below_set ?_ GE493.out | refine below_set ?_ GE502.out) | exact HB.out))) : w.heap.size ≤ gb511)); have n12_ := Aside0.mk ((by rw [hg]; exact Nat.ne_of_lt (blk_lt (g := gb493) (o := .cells #[.bool t485, .slice Ao12 t486.length co12, .slice Ao13 t489.length co13] 24 (0, 0)) (zq2 BK493.out)) : gb493 ≠ gb511)); have n13_ := Aside0.mk ((by rw [hg]; exact Nat.ne_of_gt (blk_lt (g := gb493) (o := .cells #[.bool t485, .slice Ao12 t486.length co12, .slice Ao13 t489.length co13] 24 (0, 0)) (zq2 BK493.out)) : gb511 ≠ gb493)); have n14_ := Aside0.mk ((by rw [hg]; exact Nat.ne_of_lt (blk_lt (g := gb502) (o := .cells #[.bool t494, .slice Ao18 t495.length co18, .slice Ao19 t498.length co19] 24 (0, 0)) (zq2 BK502.out)) : gb502 ≠ gb511)); have n15_ := Aside0.mk ((by rw [hg]; exact Nat.ne_of_gt (blk_lt (g := gb502) (o := .cells #[.bool t494, .slice Ao18 t495.length co18, .slice Ao19 t498.length co19] 24 (0, 0)) (zq2 BK502.out)) : gb511 ≠ gb502)); clear HO488; clear HO491; clear HO497; clear HO500; clear HO506; clear HO509; clear BK493; clear BK502; clear HB; have HO488 := n0_; have HO491 := n1_; have HO497 := n2_; have HO500 := n3_; have HO506 := n4_; have HO509 := n5_; have BK493 := n6_; have BK502 := n7_; have HB := n8_; have BK511 := n9_; have GW511 := n10_; have GE511 := n11_; have NB493_511 := n12_; have NB511_493 := n13_; have NB502_511 := n14_; have NB511_502 := n15_; clear n0_ n1_ n2_ n3_ n4_ n5_ n6_ n7_ n8_ n9_ n10_ n11_ n12_ n13_ n14_ n15_; clear hb hbox hg; have hnb25 := NB511_493.out; have hnc25 := NB493_511.out; have hnb26 := NB511_502.out; have hnc26 := NB502_511.out; have hcz27_0 : w24.cell? ⟨gb511, 0, none⟩ = some (.bool false) := (blk_cell BK511.out 0).trans rfl; have hcz27_1 : w24.cell? ⟨gb511, 1, none⟩ = some (.slice none 0 0) := (blk_cell BK511.out 1).trans rfl; have hcz27_2 : w24.cell? ⟨gb511, 2, none⟩ = some (.slice none 0 0) := (blk_cell BK511.out 2).trans rfl; have hfz27_0 := blk_frozen BK511.out 0; have hfz27_1 := blk_frozen BK511.out 1; have hfz27_2 := blk_frozen BK511.out 2; obtain ⟨Ao28, co28, eo28⟩ := Kd.V_slice HO506.out; subst eo28; obtain ⟨Ao29, co29, eo29⟩ := Kd.V_slice HO509.out; subst eo29) | ((with_reducible refine gate_callee (f := 17) rfl ?_); refine goesL_ (some 25) rfl rfl Tryd.func17 (by kernel_rfl) rfl #[.agg #[.bool t503, .slice Ao28 t504.length co28, .slice Ao29 t507.length co29]] rfl zq5 ?_; (with_reducible refine (number_Format.calls k t503 _ _ t504 _ _ t507 t512 t513 _ ?side1 ?side2 ?side3 ?side4 A4.out).mono ?_); (case side1 => refine (Kd.V_reads' (e := 55) (base := w.heap.size) (ok := fun k_ => ((k_ ≠ gb493 ∧ k_ ≠ gb502) ∧ k_ ≠ gb511)) (n := t504.length) (c := co28) ?_).2.2; exact (by (with_reducible repeat (first | apply Kd.V_alloc | apply Kd.V_drewN | apply Kd.V_drew)); exact (Kd.V_mono (Kd.V_far (p := ⟨gb511, 2, none⟩) (Kd.V_far (p := ⟨gb511, 1, none⟩) (Kd.V_far (p := ⟨gb511, 0, none⟩) (Kd.V_mono HO506.out (fun k_ hk => (⟨hk, hk.2⟩ : _ ∧ k_ ≠ gb511))) (fun _ hk => hk.2) (.bool t503)) (fun _ hk => hk.2) (.slice Ao28 t504.length co28)) (fun _ hk => hk.2) (.slice Ao29 t507.length co29)) (fun _ h_ => h_.1)))); (case side2 => exact (Kd.V_reads' HO506.out).2.1); (case side3 => refine (Kd.V_reads' (e := 55) (base := w.heap.size) (ok := fun k_ => ((k_ ≠ gb493 ∧ k_ ≠ gb502) ∧ k_ ≠ gb511)) (n := t507.length) (c := co29) ?_).2.2; exact (by (with_reducible repeat (first | apply Kd.V_alloc | apply Kd.V_drewN | apply Kd.V_drew)); exact (Kd.V_mono (Kd.V_far (p := ⟨gb511, 2, none⟩) (Kd.V_far (p := ⟨gb511, 1, none⟩) (Kd.V_far (p := ⟨gb511, 0, none⟩) (Kd.V_mono HO509.out (fun k_ hk => (⟨hk, hk.2⟩ : _ ∧ k_ ≠ gb511))) (fun _ hk => hk.2) (.bool t503)) (fun _ hk => hk.2) (.slice Ao28 t504.length co28)) (fun _ hk => hk.2) (.slice Ao29 t507.length co29)) (fun _ h_ => h_.1)))); (case side4 => exact (Kd.V_reads' HO509.out).2.1); rintro e w30 ⟨rfl, hb⟩; refine ⟨_, rfl, ?_⟩; have n0_ := Aside0.mk (Kd.V_below (by (with_reducible repeat (first | apply Kd.V_alloc | apply Kd.V_drewN | apply Kd.V_drew)); exact (Kd.V_mono (Kd.V_far (p := ⟨gb511, 2, none⟩) (Kd.V_far (p := ⟨gb511, 1, none⟩) (Kd.V_far (p := ⟨gb511, 0, none⟩) (Kd.V_mono HO488.out (fun k_ hk => (⟨hk, hk.2⟩ : _ ∧ k_ ≠ gb511))) (fun _ hk => hk.2) (.bool t503)) (fun _ hk => hk.2) (.slice Ao28 t504.length co28)) (fun _ hk => hk.2) (.slice Ao29 t507.length co29)) (fun _ h_ => h_.1))) hb); have n1_ := Aside0.mk (Kd.V_below (by (with_reducible repeat (first | apply Kd.V_alloc | apply Kd.V_drewN | apply Kd.V_drew)); exact (Kd.V_mono (Kd.V_far (p := ⟨gb511, 2, none⟩) (Kd.V_far (p := ⟨gb511, 1, none⟩) (Kd.V_far (p := ⟨gb511, 0, none⟩) (Kd.V_mono HO491.out (fun k_ hk => (⟨hk, hk.2⟩ : _ ∧ k_ ≠ gb511))) (fun _ hk => hk.2) (.bool t503)) (fun _ hk => hk.2) (.slice Ao28 t504.length co28)) (fun _ hk => hk.2) (.slice Ao29 t507.length co29)) (fun _ h_ => h_.1))) hb); have n2_ := Aside0.mk (Kd.V_below (by (with_reducible repeat (first | apply Kd.V_alloc | apply Kd.V_drewN | apply Kd.V_drew)); exact (Kd.V_mono (Kd.V_far (p := ⟨gb511, 2, none⟩) (Kd.V_far (p := ⟨gb511, 1, none⟩) (Kd.V_far (p := ⟨gb511, 0, none⟩) (Kd.V_mono HO497.out (fun k_ hk => (⟨hk, hk.2⟩ : _ ∧ k_ ≠ gb511))) (fun _ hk => hk.2) (.bool t503)) (fun _ hk => hk.2) (.slice Ao28 t504.length co28)) (fun _ hk => hk.2) (.slice Ao29 t507.length co29)) (fun _ h_ => h_.1))) hb); have n3_ := Aside0.mk (Kd.V_below (by (with_reducible repeat (first | apply Kd.V_alloc | apply Kd.V_drewN | apply Kd.V_drew)); exact (Kd.V_mono (Kd.V_far (p := ⟨gb511, 2, none⟩) (Kd.V_far (p := ⟨gb511, 1, none⟩) (Kd.V_far (p := ⟨gb511, 0, none⟩) (Kd.V_mono HO500.out (fun k_ hk => (⟨hk, hk.2⟩ : _ ∧ k_ ≠ gb511))) (fun _ hk => hk.2) (.bool t503)) (fun _ hk => hk.2) (.slice Ao28 t504.length co28)) (fun _ hk => hk.2) (.slice Ao29 t507.length co29)) (fun _ h_ => h_.1))) hb); have n4_ := Aside0.mk (Kd.V_below (by (with_reducible repeat (first | apply Kd.V_alloc | apply Kd.V_drewN | apply Kd.V_drew)); exact (Kd.V_mono (Kd.V_far (p := ⟨gb511, 2, none⟩) (Kd.V_far (p := ⟨gb511, 1, none⟩) (Kd.V_far (p := ⟨gb511, 0, none⟩) (Kd.V_mono HO506.out (fun k_ hk => (⟨hk, hk.2⟩ : _ ∧ k_ ≠ gb511))) (fun _ hk => hk.2) (.bool t503)) (fun _ hk => hk.2) (.slice Ao28 t504.length co28)) (fun _ hk => hk.2) (.slice Ao29 t507.length co29)) (fun _ h_ => h_.1))) hb); have n5_ := Aside0.mk (Kd.V_below (by (with_reducible repeat (first | apply Kd.V_alloc | apply Kd.V_drewN | apply Kd.V_drew)); exact (Kd.V_mono (Kd.V_far (p := ⟨gb511, 2, none⟩) (Kd.V_far (p := ⟨gb511, 1, none⟩) (Kd.V_far (p := ⟨gb511, 0, none⟩) (Kd.V_mono HO509.out (fun k_ hk => (⟨hk, hk.2⟩ : _ ∧ k_ ≠ gb511))) (fun _ hk => hk.2) (.bool t503)) (fun _ hk => hk.2) (.slice Ao28 t504.length co28)) (fun _ hk => hk.2) (.slice Ao29 t507.length co29)) (fun _ h_ => h_.1))) hb); have n6_ := Aside0.mk (blk_below (g := gb493) (o := .cells #[.bool t485, .slice Ao12 t486.length co12, .slice Ao13 t489.length co13] 24 (0, 0)) (by (with_reducible repeat (first | refine blk_drewN ?_ _ | refine blk_drew ?_ | refine blk_alloc ?_ _)); refine blk_far ?_ NB493_511.out _; (with_reducible repeat (first | refine blk_drewN ?_ _ | refine blk_drew ?_ | refine blk_alloc ?_ _)); refine blk_far ?_ NB493_511.out _; (with_reducible repeat (first | refine blk_drewN ?_ _ | refine blk_drew ?_ | refine blk_alloc ?_ _)); refine blk_far ?_ NB493_511.out _; (with_reducible repeat (first | refine blk_drewN ?_ _ | refine blk_drew ?_ | refine blk_alloc ?_ _)); exact BK493.out) hb); have n7_ := Aside0.mk (blk_below (g := gb502) (o := .cells #[.bool t494, .slice Ao18 t495.length co18, .slice Ao19 t498.length co19] 24 (0, 0)) (by (with_reducible repeat (first | refine blk_drewN ?_ _ | refine blk_drew ?_ | refine blk_alloc ?_ _)); refine blk_far ?_ NB502_511.out _; (with_reducible repeat (first | refine blk_drewN ?_ _ | refine blk_drew ?_ | refine blk_alloc ?_ _)); refine blk_far ?_ NB502_511.out _; (with_reducible repeat (first | refine blk_drewN ?_ _ | refine blk_drew ?_ | refine blk_alloc ?_ _)); refine blk_far ?_ NB502_511.out _; (with_reducible repeat (first | refine blk_drewN ?_ _ | refine blk_drew ?_ | refine blk_alloc ?_ _)); exact BK502.out) hb); have n8_ := Aside0.mk (blk_below (g := gb511) (o := .cells #[.bool t503, .slice Ao28 t504.length co28, .slice Ao29 t507.length co29] 24 (0, 0)) (by (with_reducible repeat (first | refine blk_drewN ?_ _ | refine blk_drew ?_ | refine blk_alloc ?_ _)); refine blk_put (cs := #[.bool t503, .slice Ao28 t504.length co28, .slice none 0 0]) ?_ 2 _ rfl; (with_reducible repeat (first | refine blk_drewN ?_ _ | refine blk_drew ?_ | refine blk_alloc ?_ _)); refine blk_put (cs := #[.bool t503, .slice none 0 0, .slice none 0 0]) ?_ 1 _ rfl; (with_reducible repeat (first | refine blk_drewN ?_ _ | refine blk_drew ?_ | refine blk_alloc ?_ _)); refine blk_put (cs := #[.bool false, .slice none 0 0, .slice none 0 0]) ?_ 0 _ rfl; (with_reducible repeat (first | refine blk_drewN ?_ _ | refine blk_drew ?_ | refine blk_alloc ?_ _)); exact BK511.out) hb); have n9_ := Aside0.mk (below_step (by repeat (first | (with_reducible first | exact HB.out | apply below_alloc | apply pw_below_drewN | apply below_drew1 | refine below_set ?_ GE493.out | refine below_set ?_ GE502.out | refine below_set ?_ GE511.out) | exact HB.out)) hb); clear HO488; clear HO491; clear HO497; clear HO500; clear HO506; clear HO509; clear BK493; clear BK502; clear BK511; clear HB; have HO488 := n0_; have HO491 := n1_; have HO497 := n2_; have HO500 := n3_; have HO506 := n4_; have HO509 := n5_; have BK493 := n6_; have BK502 := n7_; have BK511 := n8_; have HB := n9_; clear n0_ n1_ n2_ n3_ n4_ n5_ n6_ n7_ n8_ n9_; (try clear hb); (try clear hb2); (try clear hk); (try clear hi)))
     go_ret
     exact ⟨by first | rfl | (simp [errW_none, errW_some] <;> rfl) | (simp [*, errW_none, errW_some] <;> rfl), by repeat (first | (with_reducible first | exact HB.out | apply below_alloc | apply pw_below_drewN | apply below_drew1 | refine below_set ?_ GE493.out | refine below_set ?_ GE502.out | refine below_set ?_ GE511.out) | exact HB.out)⟩
    ·rw [if_neg c8] at H
     have c8b0 : (t513 == 0) = false := beq_eq_false_iff_ne.mpr c8
     have c8b1 : (t513 != 0) = true := bne_iff_ne.mpr c8
     obtain rfl := Option.some.inj H
     cases hr
   ·rw [if_neg c7] at H
    have c7b0 : (t510 == 0) = false := beq_eq_false_iff_ne.mpr c7
    have c7b1 : (t510 != 0) = true := bne_iff_ne.mpr c7
    obtain rfl := Option.some.inj H
    cases hr
  ·rw [if_neg c6] at H
   have c6b0 : (t501 == 0) = false := beq_eq_false_iff_ne.mpr c6
   have c6b1 : (t501 != 0) = true := bne_iff_ne.mpr c6
   obtain rfl := Option.some.inj H
   cases hr
 ·rw [if_neg c5] at H
  have c5b0 : (t492 == 0) = false := beq_eq_false_iff_ne.mpr c5
  have c5b1 : (t492 != 0) = true := bne_iff_ne.mpr c5
  obtain rfl := Option.some.inj H
  cases hr
end Go.Proofs.YtemnjgkicndmjaaDoor.Q
namespace Go.Proofs.YtemnjgkicndmjaaDoor.Q
open Go.RowKit Go.Proofs.YtemnjgkicndmjaaDoorW.PrintWords Go.Proofs.YtemnjgkicndmjaaDoorW.PrintLast Go.Proofs.YtemnjgkicndmjaaDoorW.PrintMore
attribute [local go_sem] max2_int min2_int max_two min_two max_three min_three max_four min_four
set_option linter.unusedVariables false
set_option linter.unusedSimpArgs false
def fetterlockref1_trim.l0 : Nat → List Int → Option (List Int)
 | 0, _ => none
 | k + 1, x0 => if (x0.length : Int) > 0 then (if 0 ≤ (wrap64 ((x0.length : Int) - 1)) then (if (wrap64 ((x0.length : Int) - 1)) < (x0.length : Int) then (if (rd x0 (wrap64 ((x0.length : Int) - 1))) = 0 then (if (wrap64 ((x0.length : Int) - 1)) ≤ (x0.length : Int) then (fetterlockref1_trim.l0 k (x0.take ((wrap64 ((x0.length : Int) - 1)) : Int).toNat)) else (none)) else (some x0)) else (none)) else (none)) else (some x0)
def fetterlockref1_trim.f (k : Nat) (l0 : List Int) : Option (List Int) := fetterlockref1_trim.l0 k l0
theorem fetterlockref1_trim.mono_l : ∀ k, (∀ y0, LeO (fetterlockref1_trim.l0 k y0) (fetterlockref1_trim.l0 (k + 1) y0))
 | 0 => fun _ r h => by simp [fetterlockref1_trim.l0] at h
 | k + 1 => by
  have ih0 := fetterlockref1_trim.mono_l k
  ·intro y0
   unfold fetterlockref1_trim.l0
   repeat' first
   | (with_reducible exact ih0 _)
   | (with_reducible exact LeO.refl _)
   | (with_reducible exact LeO.none _)
   | (with_reducible refine LeO.ite ?_ ?_)
   | (with_reducible refine LeO.bind ?_ (fun _ => ?_))
   | exact ih0 _
   | exact LeO.none _
   | refine LeO.ite ?_ ?_
   | refine LeO.bind ?_ (fun _ => ?_)
theorem fetterlockref1_trim.mono : ∀ a0 k, LeO (fetterlockref1_trim.f k a0) (fetterlockref1_trim.f (k + 1) a0) := by
 intro a0 k
 have ih0 := fetterlockref1_trim.mono_l k
 unfold fetterlockref1_trim.f
 repeat' first
   | (with_reducible exact ih0 _)
   | (with_reducible exact LeO.refl _)
   | (with_reducible exact LeO.none _)
   | (with_reducible refine LeO.ite ?_ ?_)
   | (with_reducible refine LeO.bind ?_ (fun _ => ?_))
   | exact ih0 _
   | exact LeO.none _
   | refine LeO.ite ?_ ?_
   | refine LeO.bind ?_ (fun _ => ?_)
set_option maxHeartbeats 8000000 in
set_option maxRecDepth 100000 in
theorem fetterlockref1_trim.calls (k : Nat) (P0_ : Nat → Prop) (A0 : Option Addr) (c0 : Nat) (l0 : List Int) (r : List Int) (w : World) (hs0 : Kd.V (Kd.int .i64) 3 w w.heap.size (fun k_ => P0_ k_) (.slice A0 l0.length c0) l0) (h : fetterlockref1_trim.f k l0 = some r) :
  Calls Tryd.prog 96 #[.slice A0 l0.length c0] w fun e w' => ∃ v0_ : Value, e = .returned (v0_) ∧ Kd.V (Kd.int .i64) 3 w' w.heap.size (fun k_ => (P0_ k_ ∨ w.heap.size ≤ k_)) v0_ r ∧ Below w.heap.size w w' := by
 have HO0 := Aside0.mk (show Kd.V (Kd.int .i64) 3 w w.heap.size (fun k_ => (P0_ k_ ∨ w.heap.size ≤ k_)) (.slice A0 l0.length c0) l0 from Kd.V_mono hs0 (fun k_ hk => .inl hk))
 have HB := Aside0.mk (Below.refl w.heap.size w)
 have H : (fetterlockref1_trim.l0 k l0) = some r := h
 clear h
 have H' := Aside0.mk H
 clear H
 go_enter Tryd.func96, Tryd.ntmps96
 go_wp2
 go_loopg [0] k (fun kq v0 w' => ∃ (x0_1 : List Int), Aside0 (fetterlockref1_trim.l0 kq x0_1 = some r) ∧ Aside0 (kq ≤ k) ∧ Aside0 (Kd.V (Kd.int .i64) 3 w' w.heap.size (fun k_ => (P0_ k_ ∨ w.heap.size ≤ k_)) v0 x0_1) ∧ Aside0 (Below w.heap.size w w'))
 case atStart => exact ⟨(l0), H', ⟨Nat.le_refl _⟩, ⟨by (with_reducible repeat (first | apply Kd.V_alloc | apply Kd.V_drewN | apply Kd.V_drew)); exact HO0.out⟩, ⟨zq1⟩⟩
 case round =>
  clear H'
  obtain ⟨x0_1, HA, HK1, HO_0, HB⟩ := hrel
  cases gk with
  | zero => exact absurd HA.out (by simp [fetterlockref1_trim.l0])
  | succ k1 =>
   have H := HA.out
   clear HA
   simp only [fetterlockref1_trim.l0] at H
   by_cases c2 : (x0_1.length : Int) > 0
   ·rw [if_pos c2] at H
    have c2b0 : decide (0 < (x0_1.length : Int)) = true := decide_eq_true c2
    have c2b1 : decide (0 < x0_1.length) = true := decide_eq_true (by omega)
    clear c2
    obtain ⟨ji3, hji3⟩ : ∃ j_ : Int, (wrap64 ((x0_1.length : Int) - 1)) = j_ := ⟨_, rfl⟩
    replace H : (if 0 ≤ (ji3) then (if (ji3) < (x0_1.length : Int) then (if (rd x0_1 (ji3)) = 0 then (if (ji3) ≤ (x0_1.length : Int) then (fetterlockref1_trim.l0 k1 (x0_1.take ((ji3) : Int).toNat)) else (none)) else (some x0_1)) else (none)) else (none)) = some r := by first | (rw [hji3] at H; exact H) | (simp only [hji3] at H ⊢; exact H)
    have hji3w : (IntKind.i64.wrap ((x0_1.length : Int) - 1)) = ji3 := (i64_w _).trans hji3
    by_cases c4 : 0 ≤ (ji3)
    ·rw [if_pos c4] at H
     have c4b0 : decide (0 ≤ (ji3)) = true := decide_eq_true c4
     clear c4
     by_cases c5 : (ji3) < (x0_1.length : Int)
     ·rw [if_pos c5] at H
      have c5b0 : decide ((ji3) < (x0_1.length : Int)) = true := decide_eq_true c5
      clear c5
      by_cases c6 : (rd x0_1 (ji3)) = 0
      ·rw [if_pos c6] at H
       have c6b0 : ((rd x0_1 (ji3)) == 0) = true := beq_iff_eq.mpr c6
       have c6b1 : ((rd x0_1 (ji3)) != 0) = false := bne_eq_false_iff_eq.mpr c6
       clear c6
       have c7b0 := eq_true (zq6 : 0 ≤ (ji3))
       by_cases c8 : (ji3) ≤ (x0_1.length : Int)
       ·rw [if_pos c8] at H
        have c8b0 := eq_true c8
        have c8b1 : decide ((ji3) ≤ (x0_1.length : Int)) = true := decide_eq_true c8
        clear c8
        obtain ⟨y521, hy521⟩ : ∃ y_ : List Int, y_ = (x0_1.take ((ji3) : Int).toNat) := ⟨_, rfl⟩
        replace H : (fetterlockref1_trim.l0 k1 y521) = some r := by first | (rw [hy521]; with_reducible exact H) | (have H2_ := (Option.bind_some _ _).symm.trans H; rw [hy521]; with_reducible exact H2_) | (have H2_ := (Option.bind_some _ _).symm.trans H; with_reducible exact H2_) | with_reducible exact H | (rw [hy521]; exact H) | exact H
        have Ny521 := Aside0.mk hy521
        clear hy521
        have H' := Aside0.mk H
        clear H
        obtain ⟨Ao9, co9, eo9⟩ := Kd.V_slice HO_0.out
        subst eo9
        have p520 : 0 ≤ ((ji3) : Int) := zq6
        have q520 : (ji3) < (x0_1.length : Int) := zq6
        obtain ⟨ad520, e520, hx520_0⟩ := Kd.at_int (Kd.V_reads' HO_0.out).2.2 (ji3) p520 q520
        cases e520
        replace p520 := eq_true p520
        replace q520 := eq_true q520
        have q10 : ((ji3) : Int) ≤ ((x0_1.length : Int) : Int) := zq6
        obtain ⟨i010, hi010, _, hsz10, _⟩ := info_parts info3
        have hroom10 : x0_1.length ≤ co9 := (Kd.V_reads' HO_0.out).2.1
        have hC10 : Kd.F (Kd.int .i64) _ _ (some ad520) x0_1.length x0_1 := (Kd.V_at (base := w.heap.size) HO_0.out).2.2
        have hcut10 := cut_to (P := Tryd.prog) 39 3 .i64 Tryd.underlying39 hi010 (some ad520) x0_1.length co9 (ji3) zq6 q10 hroom10
        have hr10 := Kd.F_take (m := ((ji3) : Int).toNat) hC10 (by omega)
        have hy10 : y521.length = ((ji3) : Int).toNat := (by rw [Ny521.out, List.length_take]; omega)
        rw [← Ny521.out] at hr10
        rw [← hy10] at hcut10
        have HO525 := Aside0.mk (show Kd.V (Kd.int .i64) 3 _ w.heap.size _ (.slice (some ad520) y521.length co9) y521 from Kd.V_mk (by omega) hr10)
        have HC525 := Aside0.mk (show y521.length ≤ co9 from by omega)
        clear hr10 hC10 hroom10 hi010 hsz10
        have KY10 := Aside0.mk hy10
        clear hy10
        replace q10 := eq_true q10
        go_wp2
        go_roundg k1
        case measure => have := HK1.out; omega
        case rel => exact ⟨(y521), (by first | exact H' | (rw [hji3]; exact H')), ⟨by have := HK1.out; omega⟩, ⟨by (with_reducible repeat (first | apply Kd.V_alloc | apply Kd.V_drewN | apply Kd.V_drew)); exact HO525.out⟩, ⟨zq1⟩⟩
       ·rw [if_neg c8] at H
        exact absurd H (by simp)
      ·rw [if_neg c6] at H
       have c6b0 : ((rd x0_1 (ji3)) == 0) = false := beq_eq_false_iff_ne.mpr c6
       have c6b1 : ((rd x0_1 (ji3)) != 0) = true := bne_iff_ne.mpr c6
       obtain rfl := Option.some.inj H
       obtain ⟨Ao11, co11, eo11⟩ := Kd.V_slice HO_0.out
       subst eo11
       have p520 : 0 ≤ ((ji3) : Int) := zq6
       have q520 : (ji3) < (x0_1.length : Int) := zq6
       obtain ⟨ad520, e520, hx520_0⟩ := Kd.at_int (Kd.V_reads' HO_0.out).2.2 (ji3) p520 q520
       cases e520
       replace p520 := eq_true p520
       replace q520 := eq_true q520
       go_wp2
       go_ret
       exact ⟨_, by first | rfl | (simp [errW_none, errW_some] <;> rfl) | (simp only [← hji3]; first | rfl | (simp [errW_none, errW_some] <;> rfl)) | (simp [*, errW_none, errW_some] <;> rfl), by (with_reducible repeat (first | apply Kd.V_alloc | apply Kd.V_drewN | apply Kd.V_drew)); exact HO_0.out, by repeat (first | (with_reducible first | exact HB.out | apply below_alloc | apply pw_below_drewN | apply below_drew1) | exact HB.out)⟩
     ·rw [if_neg c5] at H
      exact absurd H (by simp)
    ·rw [if_neg c4] at H
     exact absurd H (by simp)
   ·rw [if_neg c2] at H
    have c2b0 : decide (0 < (x0_1.length : Int)) = false := decide_eq_false c2
    have c2b1 : decide (0 < x0_1.length) = false := decide_eq_false (by omega)
    clear c2
    obtain rfl := Option.some.inj H
    obtain ⟨Ao12, co12, eo12⟩ := Kd.V_slice HO_0.out
    subst eo12
    go_wp2
    go_ret
    exact ⟨_, by first | rfl | (simp [errW_none, errW_some] <;> rfl) | (simp [*, errW_none, errW_some] <;> rfl), by (with_reducible repeat (first | apply Kd.V_alloc | apply Kd.V_drewN | apply Kd.V_drew)); exact HO_0.out, by repeat (first | (with_reducible first | exact HB.out | apply below_alloc | apply pw_below_drewN | apply below_drew1) | exact HB.out)⟩
end Go.Proofs.YtemnjgkicndmjaaDoor.Q
namespace Go.Proofs.YtemnjgkicndmjaaDoor.Q
open Go.RowKit Go.Proofs.YtemnjgkicndmjaaDoorW.PrintWords Go.Proofs.YtemnjgkicndmjaaDoorW.PrintLast Go.Proofs.YtemnjgkicndmjaaDoorW.PrintMore
attribute [local go_sem] max2_int min2_int max_two min_two max_three min_three max_four min_four
set_option linter.unusedVariables false
set_option linter.unusedSimpArgs false
def fetterlockref1_natOf.l0 : Nat → List Int → List Int → Int → Int → Option (List Int)
 | 0, _, _, _, _ => none
 | k + 1, x3, x6, x7, x8 => if x8 < x7 then (if 0 ≤ x8 then (if x8 < (x6.length : Int) then ((some (([wrap64 (Go.bits .and .u32 (rd x6 x8) 65535), wrap64 ((rd x6 x8) / 65536)] : List Int) : List Int)).bind fun y527 => (if x3.length + y527.length < 17592186044416 then (fetterlockref1_natOf.l0 k (x3 ++ y527) x6 x7 (wrap64 (x8 + 1))) else (none))) else (none)) else (none)) else ((fetterlockref1_trim.f k x3).bind fun t533 => (some t533))
def fetterlockref1_natOf.f (k : Nat) (l0 : List Int) : Option (List Int) := fetterlockref1_natOf.l0 k ([] : List Int) l0 (l0.length : Int) 0
theorem fetterlockref1_natOf.mono_l : ∀ k, (∀ y0 y1 y2 y3, LeO (fetterlockref1_natOf.l0 k y0 y1 y2 y3) (fetterlockref1_natOf.l0 (k + 1) y0 y1 y2 y3))
 | 0 => fun _ _ _ _ r h => by simp [fetterlockref1_natOf.l0] at h
 | k + 1 => by
  have ih0 := fetterlockref1_natOf.mono_l k
  ·intro y0 y1 y2 y3
   unfold fetterlockref1_natOf.l0
   repeat' first
   | (with_reducible exact ih0 _ _ _ _)
   | (with_reducible exact fetterlockref1_trim.mono _ _)
   | (with_reducible exact LeO.refl _)
   | (with_reducible exact LeO.none _)
   | (with_reducible refine LeO.ite ?_ ?_)
   | (with_reducible refine LeO.bind ?_ (fun _ => ?_))
   | exact ih0 _ _ _ _
   | exact fetterlockref1_trim.mono _ _
   | exact LeO.none _
   | refine LeO.ite ?_ ?_
   | refine LeO.bind ?_ (fun _ => ?_)
theorem fetterlockref1_natOf.mono : ∀ a0 k, LeO (fetterlockref1_natOf.f k a0) (fetterlockref1_natOf.f (k + 1) a0) := by
 intro a0 k
 have ih0 := fetterlockref1_natOf.mono_l k
 unfold fetterlockref1_natOf.f
 repeat' first
   | (with_reducible exact ih0 _ _ _ _)
   | (with_reducible exact fetterlockref1_trim.mono _ _)
   | (with_reducible exact LeO.refl _)
   | (with_reducible exact LeO.none _)
   | (with_reducible refine LeO.ite ?_ ?_)
   | (with_reducible refine LeO.bind ?_ (fun _ => ?_))
   | exact ih0 _ _ _ _
   | exact fetterlockref1_trim.mono _ _
   | exact LeO.none _
   | refine LeO.ite ?_ ?_
   | refine LeO.bind ?_ (fun _ => ?_)
set_option maxHeartbeats 8000000 in
set_option maxRecDepth 100000 in
theorem fetterlockref1_natOf.calls (k : Nat) (A0 : Option Addr) (c0 : Nat) (l0 : List Int) (r : List Int) (w : World) (hr0 : Kd.C (Kd.int .u32) w A0 l0.length l0) (hc0 : l0.length ≤ c0) (h : fetterlockref1_natOf.f k l0 = some r) :
  Calls Tryd.prog 45 #[.slice A0 l0.length c0] w fun e w' => ∃ v0_ : Value, e = .returned (v0_) ∧ Kd.V (Kd.int .i64) 3 w' w.heap.size (fun k_ => (w.heap.size ≤ k_)) v0_ r ∧ Below w.heap.size w w' := by
 have HR0 := Aside0.mk hr0
 have HC0 := Aside0.mk hc0
 clear hr0 hc0
 have HB := Aside0.mk (Below.refl w.heap.size w)
 have H : (fetterlockref1_natOf.l0 k ([] : List Int) l0 (l0.length : Int) 0) = some r := h
 clear h
 have H' := Aside0.mk H
 clear H
 go_enter Tryd.func45, Tryd.ntmps45
 go_wp2
 go_loopg [3, 8] k (fun kq v3 v8 w' => ∃ (x3_1 : List Int) (x8_1 : Int), v8 = .int .i64 x8_1 ∧ Aside0 (fetterlockref1_natOf.l0 kq x3_1 l0 (l0.length : Int) x8_1 = some r) ∧ Aside0 (kq ≤ k) ∧ Aside0 (Kd.R (Kd.int .i64) 3 w' w.heap.size (fun k_ => (w.heap.size ≤ k_)) v3 x3_1) ∧ Aside0 (Below w.heap.size w w'))
 case atStart => exact ⟨(([] : List Int)), (0), zq8, H', ⟨Nat.le_refl _⟩, ⟨by first | exact Kd.R_nil _ _ _ _ _ | exact Kd.N_nil _ _ _ _ _ | exact Kd.V_nil _ _ _ _ _ | exact Kd.Q_nil _ _ _ _ _ | exact Kd.S_nil _ _ _ _ _⟩, ⟨zq1⟩⟩
 case round =>
  clear H'
  obtain ⟨x3_1, x8_1, rfl, HA, HK1, HO_3, HB⟩ := hrel
  cases gk with
  | zero => exact absurd HA.out (by simp [fetterlockref1_natOf.l0])
  | succ k1 =>
   have H := HA.out
   clear HA
   simp only [fetterlockref1_natOf.l0] at H
   by_cases c2 : x8_1 < (l0.length : Int)
   ·rw [if_pos c2] at H
    have c2b0 : decide (x8_1 < (l0.length : Int)) = true := decide_eq_true c2
    clear c2
    by_cases c3 : 0 ≤ x8_1
    ·rw [if_pos c3] at H
     have c3b0 : decide (0 ≤ x8_1) = true := decide_eq_true c3
     clear c3
     by_cases c4 : x8_1 < (l0.length : Int)
     ·rw [if_pos c4] at H
      have c4b0 : decide (x8_1 < (l0.length : Int)) = true := decide_eq_true c4
      clear c4
      obtain ⟨y527, hy527⟩ : ∃ y_ : List Int, y_ = (([wrap64 (Go.bits .and .u32 (rd l0 x8_1) 65535), wrap64 ((rd l0 x8_1) / 65536)] : List Int)) := ⟨_, rfl⟩
      replace H : (if x3_1.length + y527.length < 17592186044416 then (fetterlockref1_natOf.l0 k1 (x3_1 ++ y527) l0 (l0.length : Int) (wrap64 (x8_1 + 1))) else (none)) = some r := by first | (rw [hy527]; with_reducible exact H) | (have H2_ := (Option.bind_some _ _).symm.trans H; rw [hy527]; with_reducible exact H2_) | (have H2_ := (Option.bind_some _ _).symm.trans H; with_reducible exact H2_) | with_reducible exact H | (rw [hy527]; exact H) | exact H
      have Ny527 := Aside0.mk hy527
      clear hy527
      by_cases c5 : x3_1.length + y527.length < 17592186044416
      ·rw [if_pos c5] at H
       have LMc5 := Aside0.mk c5
       clear c5
       obtain ⟨y530, hy530⟩ : ∃ y_ : List Int, y_ = (x3_1 ++ y527) := ⟨_, rfl⟩
       replace H : (fetterlockref1_natOf.l0 k1 y530 l0 (l0.length : Int) (wrap64 (x8_1 + 1))) = some r := by first | (rw [hy530]; with_reducible exact H) | (have H2_ := (Option.bind_some _ _).symm.trans H; rw [hy530]; with_reducible exact H2_) | (have H2_ := (Option.bind_some _ _).symm.trans H; with_reducible exact H2_) | with_reducible exact H | (rw [hy530]; exact H) | exact H
       have Ny530 := Aside0.mk hy530
       clear hy530
       have H' := Aside0.mk H
       clear H
       have p526 : 0 ≤ (x8_1 : Int) := zq6
       have q526 : x8_1 < (l0.length : Int) := zq6
       obtain ⟨ad526, e526, hx526_0⟩ := Kd.at_int HR0.out x8_1 p526 q526
       cases e526
       replace hx526_0 := (HB.out.cell (World.block_lt_of_cell? w _ hx526_0)).trans hx526_0
       replace p526 := eq_true p526
       replace q526 := eq_true q526
       go_wp2_with (first | ((with_reducible refine gate_dst (N := 19) rfl ?_); refine Kd.R_lit (Kd.int .i64) _ 3 ?hg (N := 19) ?hd (xs := ([wrap64 (Go.bits .and .u32 (rd l0 x8_1) 65535), wrap64 ((rd l0 x8_1) / 65536)] : List Int)) (inner := [.int .i64 (wrap64 (Go.bits .and .u32 (rd l0 x8_1) 65535)), .int .i64 (wrap64 ((rd l0 x8_1) / 65536))]) (ok := fun _ => True) (okp := fun _ => True) ?hr ?hp (fun _ hk => hk) trivial (Below.refl _ _) (Nat.le_refl _) (by simp) ?_; (case hd => rfl); (case hg => rfl); (case hr => first | (go_simp; done) | (go_simp; rfl)); (case hp => exact (Reps.one (show Kd.M (Kd.int .i64) _ _ _ (wrap64 (Go.bits .and .u32 (rd l0 x8_1) 65535)) [.int .i64 (wrap64 (Go.bits .and .u32 (rd l0 x8_1) 65535))] from rfl) (Reps.one (show Kd.M (Kd.int .i64) _ _ _ (wrap64 ((rd l0 x8_1) / 65536)) [.int .i64 (wrap64 ((rd l0 x8_1) / 65536))] from rfl) (Reps.none _ _)))); intro v528 w6 ho7 hb hg_ hnew_; clear hg_ hnew_; (first | rw [← Ny527.out] at ho7 | (simp only [Int.reduceToNat] at ho7; rw [← Ny527.out] at ho7)); have n0_ := Aside0.mk (Kd.R_elder' (zq4 HO_3.out) (Kd.R_base ho7) hb); have n1_ := Aside0.mk (Kd.R_lower (Kd.R_new' (Kd.R_newM (M := fun k_ => (w.heap.size ≤ k_)) ho7 (below_size zq1) (fun k_ h_ => h_)) (Kd.R_lt (zq4 HO_3.out))) (below_size zq1)); have n2_ := Aside0.mk (below_step zq1 hb); clear HO_3; clear HB; have HO_3 := n0_; have HO529 := n1_; have HB := n2_; clear n0_ n1_ n2_; clear hb ho7; obtain ⟨Ao9, co9, eo9⟩ := Kd.R_slice HO529.out; subst eo9) | ((with_reducible refine gate_builtin (b := .append) (xs := #[.tmp 12, .tmp 19]) rfl ?_); at_builtin; refine Kd.R_append_rows (Kd.int .i64) (w0 := w) w.heap.size rfl (.tmp 12) (.tmp 19) 39 3 (.int .i64 0) 8 rfl Tryd.underlying39 info3 rfl (by decide) (by omega) u3 x3_1 y527 _ _ _ (fun k_ => (w.heap.size ≤ k_) ∧ some k_ ≠ (.slice Ao9 y527.length co9 : Value).ownBlock) (fun _ => False) rfl rfl ?aO ?aR (fun _ _ h => h) (fun _ h => h.elim) ?aF ?aB ?aS ?aL ?_; (case aR => repeat (first | exact (Kd.R_reads' HO529.out).2.2 | (with_reducible refine Kd.C_alloc ?_ _) | (with_reducible refine Kd.C_drewN ?_ _) | (with_reducible refine Kd.C_drew ?_))); (case aB => exact zq1); (case aF => exact (fun k_ hk => ⟨(Nat.le_trans (below_size zq1) hk), Kd.fresh' (Kd.R_lt (zq4 HO529.out)) k_ hk⟩)); (case aO => exact (zq4 HO_3.out)); (case aS => exact (below_size zq1)); (case aL => have := LMc5.out; omega); intro v531 w8 ho hb hg hat; rw [← Ny530.out] at ho; have n0_ := Aside0.mk (Kd.R_after (ok := (fun k_ => (w.heap.size ≤ k_))) (by (with_reducible repeat (first | apply Kd.R_alloc | apply Kd.R_drewN | apply Kd.R_drew)); exact Kd.R_mono HO529.out (fun _ hk => ⟨hk.1.1, hk.2⟩)) hg hat); have n1_ := Aside0.mk (hb); have n2_ := Aside0.mk (ho); clear HO529; clear HB; clear HO_3; have HO529 := n0_; have HB := n1_; have HO532 := n2_; clear n0_ n1_ n2_; clear ho hb hg hat))
       go_roundg k1
       case measure => have := HK1.out; omega
       case rel => exact ⟨(y530), (wrap64 (x8_1 + 1)), zq8, H', ⟨by have := HK1.out; omega⟩, ⟨by (with_reducible repeat (first | apply Kd.R_alloc | apply Kd.R_drewN | apply Kd.R_drew)); exact Kd.R_mono HO532.out (fun _ hk => hk.1)⟩, ⟨zq1⟩⟩
      ·rw [if_neg c5] at H
       exact absurd H (by simp)
     ·rw [if_neg c4] at H
      exact absurd H (by simp)
    ·rw [if_neg c3] at H
     exact absurd H (by simp)
   ·rw [if_neg c2] at H
    have c2b0 : decide (x8_1 < (l0.length : Int)) = false := decide_eq_false c2
    clear c2
    replace H := Option.bind_eq_some_iff.mp H
    obtain ⟨t533, A100, H⟩ := H
    replace H : (some t533) = some r := H
    have A10 := Aside0.mk A100
    clear A100
    obtain rfl := Option.some.inj H
    obtain ⟨Ao11, co11, eo11⟩ := Kd.R_slice HO_3.out
    subst eo11
    go_wp2_with (first | ((with_reducible refine gate_callee (f := 96) rfl ?_); refine goesL_ (some 23) rfl rfl Tryd.func96 (by kernel_rfl) rfl #[.slice Ao11 x3_1.length co11] rfl zq5 ?_; (with_reducible refine (fetterlockref1_trim.calls k1 (fun k_ => some k_ = (.slice Ao11 x3_1.length co11 : Value).ownBlock) _ _ x3_1 t533 _ ?side1 A10.out).mono ?_); (case side1 => exact Kd.R_V (Kd.R_tight rfl (HO_3.out))); rintro e w12 ⟨v534, rfl, ho0, hb⟩; refine ⟨_, rfl, ?_⟩; have n0_ := Aside0.mk (Kd.R_below (zq4 HO_3.out) hb); have n1_ := Aside0.mk (Kd.V_lower (Kd.V_mono (ok' := fun k_ => (w.heap.size ≤ k_)) ho0 (fun k_ hk_ => Or.elim hk_ (fun hs_ => ((HO_3.out).1 k_ hs_.symm)) (fun hn_ => (Nat.le_trans (below_size zq1) hn_)))) (below_size zq1)); have n2_ := Aside0.mk (below_step zq1 hb); clear HO_3; clear HB; have HO_3 := n0_; have HO535 := n1_; have HB := n2_; clear n0_ n1_ n2_; (try clear hb); (try clear hb2); (try clear hk); (try clear hi); (try clear ho0)))
    go_ret
    exact ⟨_, by first | rfl | (simp [errW_none, errW_some] <;> rfl) | (simp [*, errW_none, errW_some] <;> rfl), by (with_reducible repeat (first | apply Kd.V_alloc | apply Kd.V_drewN | apply Kd.V_drew)); exact HO535.out, by repeat (first | (with_reducible first | exact HB.out | apply below_alloc | apply pw_below_drewN | apply below_drew1) | exact HB.out)⟩
end Go.Proofs.YtemnjgkicndmjaaDoor.Q
namespace Go.Proofs.YtemnjgkicndmjaaDoor.Q
open Go.RowKit Go.Proofs.YtemnjgkicndmjaaDoorW.PrintWords Go.Proofs.YtemnjgkicndmjaaDoorW.PrintLast Go.Proofs.YtemnjgkicndmjaaDoorW.PrintMore
attribute [local go_sem] max2_int min2_int max_two min_two max_three min_three max_four min_four
set_option linter.unusedVariables false
set_option linter.unusedSimpArgs false
def fetterlockref1_digit.f (l0 : List Int) (a1 : Int) : Option (Int) := if a1 < (l0.length : Int) then (if 0 ≤ a1 then (some (rd l0 a1)) else (none)) else (some 0)
set_option maxHeartbeats 8000000 in
set_option maxRecDepth 100000 in
theorem fetterlockref1_digit.calls (A0 : Option Addr) (c0 : Nat) (l0 : List Int) (a1 : Int) (r : Int) (w : World) (hr0 : Kd.C (Kd.int .i64) w A0 l0.length l0) (hc0 : l0.length ≤ c0) (h : fetterlockref1_digit.f l0 a1 = some r) :
  Calls Tryd.prog 97 #[.slice A0 l0.length c0, .int .i64 a1] w fun e w' => e = .returned (.int .i64 r) ∧ Drawn0 w w' := by
 have HR0 := Aside0.mk hr0
 have HC0 := Aside0.mk hc0
 clear hr0 hc0
 have H : (if a1 < (l0.length : Int) then (if 0 ≤ a1 then (some (rd l0 a1)) else (none)) else (some 0)) = some r := h
 clear h
 by_cases c3 : a1 < (l0.length : Int)
 ·rw [if_pos c3] at H
  have c3b0 : decide (a1 < (l0.length : Int)) = true := decide_eq_true c3
  clear c3
  by_cases c4 : 0 ≤ a1
  ·rw [if_pos c4] at H
   have c4b0 : decide (0 ≤ a1) = true := decide_eq_true c4
   clear c4
   obtain rfl := Option.some.inj H
   have p536 : 0 ≤ (a1 : Int) := zq6
   have q536 : a1 < (l0.length : Int) := zq6
   obtain ⟨ad536, e536, hx536_0⟩ := Kd.at_int HR0.out a1 p536 q536
   cases e536
   replace p536 := eq_true p536
   replace q536 := eq_true q536
   go_enter Tryd.func97, Tryd.ntmps97
   go_wp2
   go_ret
   exact ⟨by first | rfl | (simp; done) | (simp [*]; done), by repeat (first | exact Drawn0.refl _ | apply Drawn0.step)⟩
  ·rw [if_neg c4] at H
   exact absurd H (by simp)
 ·rw [if_neg c3] at H
  have c3b0 : decide (a1 < (l0.length : Int)) = false := decide_eq_false c3
  clear c3
  obtain rfl := Option.some.inj H
  go_enter Tryd.func97, Tryd.ntmps97
  go_wp2
  go_ret
  exact ⟨by first | rfl | (simp; done) | (simp [*]; done), by repeat (first | exact Drawn0.refl _ | apply Drawn0.step)⟩
end Go.Proofs.YtemnjgkicndmjaaDoor.Q
namespace Go.Proofs.YtemnjgkicndmjaaDoor.Q
open Go.RowKit Go.Proofs.YtemnjgkicndmjaaDoorW.PrintWords Go.Proofs.YtemnjgkicndmjaaDoorW.PrintLast Go.Proofs.YtemnjgkicndmjaaDoorW.PrintMore
attribute [local go_sem] max2_int min2_int max_two min_two max_three min_three max_four min_four
set_option linter.unusedVariables false
set_option linter.unusedSimpArgs false
def fetterlockref1_CmpNat.l0 : Nat → List Int → List Int → Int → Option (Int)
 | 0, _, _, _ => none
 | k + 1, x0, x1, x5 => if x5 ≥ 0 then ((fetterlockref1_digit.f x0 x5).bind fun t537 => ((fetterlockref1_digit.f x1 x5).bind fun t538 => (if t537 < t538 then (some (-1)) else (if t537 > t538 then (some 1) else (fetterlockref1_CmpNat.l0 k x0 x1 (wrap64 (x5 - 1))))))) else (some 0)
def fetterlockref1_CmpNat.f (k : Nat) (l0 : List Int) (l1 : List Int) : Option (Int) := fetterlockref1_CmpNat.l0 k l0 l1 (wrap64 ((mx (l0.length : Int) (l1.length : Int)) - 1))
theorem fetterlockref1_CmpNat.mono_l : ∀ k, (∀ y0 y1 y2, LeO (fetterlockref1_CmpNat.l0 k y0 y1 y2) (fetterlockref1_CmpNat.l0 (k + 1) y0 y1 y2))
 | 0 => fun _ _ _ r h => by simp [fetterlockref1_CmpNat.l0] at h
 | k + 1 => by
  have ih0 := fetterlockref1_CmpNat.mono_l k
  ·intro y0 y1 y2
   unfold fetterlockref1_CmpNat.l0
   repeat' first
   | (with_reducible exact ih0 _ _ _)
   | (with_reducible exact LeO.refl _)
   | (with_reducible exact LeO.none _)
   | (with_reducible refine LeO.ite ?_ ?_)
   | (with_reducible refine LeO.bind ?_ (fun _ => ?_))
   | exact ih0 _ _ _
   | exact LeO.none _
   | refine LeO.ite ?_ ?_
   | refine LeO.bind ?_ (fun _ => ?_)
theorem fetterlockref1_CmpNat.mono : ∀ a0 a1 k, LeO (fetterlockref1_CmpNat.f k a0 a1) (fetterlockref1_CmpNat.f (k + 1) a0 a1) := by
 intro a0 a1 k
 have ih0 := fetterlockref1_CmpNat.mono_l k
 unfold fetterlockref1_CmpNat.f
 repeat' first
   | (with_reducible exact ih0 _ _ _)
   | (with_reducible exact LeO.refl _)
   | (with_reducible exact LeO.none _)
   | (with_reducible refine LeO.ite ?_ ?_)
   | (with_reducible refine LeO.bind ?_ (fun _ => ?_))
   | exact ih0 _ _ _
   | exact LeO.none _
   | refine LeO.ite ?_ ?_
   | refine LeO.bind ?_ (fun _ => ?_)
set_option maxHeartbeats 8000000 in
set_option maxRecDepth 100000 in
theorem fetterlockref1_CmpNat.calls (k : Nat) (A0 : Option Addr) (c0 : Nat) (l0 : List Int) (A1 : Option Addr) (c1 : Nat) (l1 : List Int) (r : Int) (w : World) (hr0 : Kd.C (Kd.int .i64) w A0 l0.length l0) (hc0 : l0.length ≤ c0) (hr1 : Kd.C (Kd.int .i64) w A1 l1.length l1) (hc1 : l1.length ≤ c1) (h : fetterlockref1_CmpNat.f k l0 l1 = some r) :
  Calls Tryd.prog 46 #[.slice A0 l0.length c0, .slice A1 l1.length c1] w fun e w' => e = .returned (.int .i64 r) ∧ Below w.heap.size w w' := by
 have HR0 := Aside0.mk hr0
 have HC0 := Aside0.mk hc0
 clear hr0 hc0
 have HR1 := Aside0.mk hr1
 have HC1 := Aside0.mk hc1
 clear hr1 hc1
 have HB := Aside0.mk (Below.refl w.heap.size w)
 have H : (fetterlockref1_CmpNat.l0 k l0 l1 (wrap64 ((mx (l0.length : Int) (l1.length : Int)) - 1))) = some r := h
 clear h
 obtain ⟨ji3, hji3⟩ : ∃ j_ : Int, (mx (l0.length : Int) (l1.length : Int)) = j_ := ⟨_, rfl⟩
 replace H : (fetterlockref1_CmpNat.l0 k l0 l1 (wrap64 ((ji3) - 1))) = some r := by first | (rw [hji3] at H; exact H) | (simp only [hji3] at H ⊢; exact H)
 (try (have hji3l : 0 ≤ ji3 := by (rw [← hji3]; unfold mx; (repeat' split) <;> omega)))
 (try (have hji3m : 0 ≤ ji3 := by omega))
 have hji3_ : (if (l0.length : Int) < (l1.length : Int) then (l1.length : Int) else (l0.length : Int)) = ji3 := hji3
 (try (have hji3__ : (if l0.length < l1.length then (l1.length : Int) else (l0.length : Int)) = ji3 := by rw [← hji3_]; simp only [Int.ofNat_lt]))
 have H' := Aside0.mk H
 clear H
 go_enter Tryd.func46, Tryd.ntmps46
 go_wp2
 go_loopg [5] k (fun kq v5 w' => ∃ (x5_1 : Int), v5 = .int .i64 x5_1 ∧ Aside0 (fetterlockref1_CmpNat.l0 kq l0 l1 x5_1 = some r) ∧ Aside0 (kq ≤ k) ∧ Aside0 (Below w.heap.size w w'))
 case atStart => exact ⟨(wrap64 ((ji3) - 1)), (by first | rfl | (simp; done) | (simp only [← hji3] <;> (first | rfl | simp)) | (simp [*]; done)), H', ⟨Nat.le_refl _⟩, ⟨zq1⟩⟩
 case round =>
  clear H'
  try clear c1
  try clear p2
  obtain ⟨x5_1, rfl, HA, HK1, HB⟩ := hrel
  cases gk with
  | zero => exact absurd HA.out (by simp [fetterlockref1_CmpNat.l0])
  | succ k1 =>
   have H := HA.out
   clear HA
   simp only [fetterlockref1_CmpNat.l0] at H
   by_cases c4 : x5_1 ≥ 0
   ·rw [if_pos c4] at H
    have c4b0 : decide (0 ≤ x5_1) = true := decide_eq_true c4
    clear c4
    replace H := Option.bind_eq_some_iff.mp H
    obtain ⟨t537, A50, H⟩ := H
    replace H : ((fetterlockref1_digit.f l1 x5_1).bind fun t538 => (if t537 < t538 then (some (-1)) else (if t537 > t538 then (some 1) else (fetterlockref1_CmpNat.l0 k1 l0 l1 (wrap64 (x5_1 - 1)))))) = some r := H
    have A5 := Aside0.mk A50
    clear A50
    replace H := Option.bind_eq_some_iff.mp H
    obtain ⟨t538, A60, H⟩ := H
    replace H : (if t537 < t538 then (some (-1)) else (if t537 > t538 then (some 1) else (fetterlockref1_CmpNat.l0 k1 l0 l1 (wrap64 (x5_1 - 1))))) = some r := H
    have A6 := Aside0.mk A60
    clear A60
    by_cases c7 : t537 < t538
    ·rw [if_pos c7] at H
     have c7b0 : decide (t537 < t538) = true := decide_eq_true c7
     clear c7
     obtain rfl := Option.some.inj H
     go_wp2_with (first | ((with_reducible refine gate_callee (f := 97) rfl ?_); refine goesL_ (some 20) rfl rfl Tryd.func97 (by kernel_rfl) rfl #[.slice A0 l0.length c0, .int .i64 x5_1] rfl zq5 ?_; (with_reducible refine (fetterlockref1_digit.calls _ _ l0 x5_1 t537 _ ?side1 ?side2 A5.out).mono ?_); (case side1 => repeat (first | exact (Kd.C_below HR0.out HB.out) | (with_reducible refine Kd.C_alloc ?_ _) | (with_reducible refine Kd.C_drewN ?_ _) | (with_reducible refine Kd.C_drew ?_))); (case side2 => exact HC0.out); rintro e w' ⟨rfl, ⟨nd, rfl⟩⟩; refine ⟨_, rfl, ?_⟩) | ((with_reducible refine gate_callee (f := 97) rfl ?_); refine goesL_ (some 23) rfl rfl Tryd.func97 (by kernel_rfl) rfl #[.slice A1 l1.length c1, .int .i64 x5_1] rfl zq5 ?_; (with_reducible refine (fetterlockref1_digit.calls _ _ l1 x5_1 t538 _ ?side1 ?side2 A6.out).mono ?_); (case side1 => repeat (first | exact (Kd.C_below HR1.out zq1) | (with_reducible refine Kd.C_alloc ?_ _) | (with_reducible refine Kd.C_drewN ?_ _) | (with_reducible refine Kd.C_drew ?_))); (case side2 => exact HC1.out); rintro e w' ⟨rfl, ⟨nd, rfl⟩⟩; refine ⟨_, rfl, ?_⟩))
     go_ret
     exact ⟨by first | rfl | (simp [errW_none, errW_some] <;> rfl) | (simp only [← hji3]; first | rfl | (simp [errW_none, errW_some] <;> rfl)) | (simp [*, errW_none, errW_some] <;> rfl), by repeat (first | (with_reducible first | exact HB.out | apply below_alloc | apply pw_below_drewN | apply below_drew1) | exact HB.out)⟩
    ·rw [if_neg c7] at H
     have c7b0 : decide (t537 < t538) = false := decide_eq_false c7
     clear c7
     by_cases c8 : t537 > t538
     ·rw [if_pos c8] at H
      have c8b0 : decide (t538 < t537) = true := decide_eq_true c8
      clear c8
      obtain rfl := Option.some.inj H
      go_wp2_with (first | ((with_reducible refine gate_callee (f := 97) rfl ?_); refine goesL_ (some 20) rfl rfl Tryd.func97 (by kernel_rfl) rfl #[.slice A0 l0.length c0, .int .i64 x5_1] rfl zq5 ?_; (with_reducible refine (fetterlockref1_digit.calls _ _ l0 x5_1 t537 _ ?side1 ?side2 A5.out).mono ?_); (case side1 => repeat (first | exact (Kd.C_below HR0.out HB.out) | (with_reducible refine Kd.C_alloc ?_ _) | (with_reducible refine Kd.C_drewN ?_ _) | (with_reducible refine Kd.C_drew ?_))); (case side2 => exact HC0.out); rintro e w' ⟨rfl, ⟨nd, rfl⟩⟩; refine ⟨_, rfl, ?_⟩) | ((with_reducible refine gate_callee (f := 97) rfl ?_); refine goesL_ (some 23) rfl rfl Tryd.func97 (by kernel_rfl) rfl #[.slice A1 l1.length c1, .int .i64 x5_1] rfl zq5 ?_; (with_reducible refine (fetterlockref1_digit.calls _ _ l1 x5_1 t538 _ ?side1 ?side2 A6.out).mono ?_); (case side1 => repeat (first | exact (Kd.C_below HR1.out zq1) | (with_reducible refine Kd.C_alloc ?_ _) | (with_reducible refine Kd.C_drewN ?_ _) | (with_reducible refine Kd.C_drew ?_))); (case side2 => exact HC1.out); rintro e w' ⟨rfl, ⟨nd, rfl⟩⟩; refine ⟨_, rfl, ?_⟩))
      go_ret
      exact ⟨by first | rfl | (simp [errW_none, errW_some] <;> rfl) | (simp only [← hji3]; first | rfl | (simp [errW_none, errW_some] <;> rfl)) | (simp [*, errW_none, errW_some] <;> rfl), by repeat (first | (with_reducible first | exact HB.out | apply below_alloc | apply pw_below_drewN | apply below_drew1) | exact HB.out)⟩
     ·rw [if_neg c8] at H
      have c8b0 : decide (t538 < t537) = false := decide_eq_false c8
      clear c8
      have H' := Aside0.mk H
      clear H
      go_wp2_with (first | ((with_reducible refine gate_callee (f := 97) rfl ?_); refine goesL_ (some 20) rfl rfl Tryd.func97 (by kernel_rfl) rfl #[.slice A0 l0.length c0, .int .i64 x5_1] rfl zq5 ?_; (with_reducible refine (fetterlockref1_digit.calls _ _ l0 x5_1 t537 _ ?side1 ?side2 A5.out).mono ?_); (case side1 => repeat (first | exact (Kd.C_below HR0.out HB.out) | (with_reducible refine Kd.C_alloc ?_ _) | (with_reducible refine Kd.C_drewN ?_ _) | (with_reducible refine Kd.C_drew ?_))); (case side2 => exact HC0.out); rintro e w' ⟨rfl, ⟨nd, rfl⟩⟩; refine ⟨_, rfl, ?_⟩) | ((with_reducible refine gate_callee (f := 97) rfl ?_); refine goesL_ (some 23) rfl rfl Tryd.func97 (by kernel_rfl) rfl #[.slice A1 l1.length c1, .int .i64 x5_1] rfl zq5 ?_; (with_reducible refine (fetterlockref1_digit.calls _ _ l1 x5_1 t538 _ ?side1 ?side2 A6.out).mono ?_); (case side1 => repeat (first | exact (Kd.C_below HR1.out zq1) | (with_reducible refine Kd.C_alloc ?_ _) | (with_reducible refine Kd.C_drewN ?_ _) | (with_reducible refine Kd.C_drew ?_))); (case side2 => exact HC1.out); rintro e w' ⟨rfl, ⟨nd, rfl⟩⟩; refine ⟨_, rfl, ?_⟩))
      go_roundg k1
      case measure => have := HK1.out; omega
      case rel => exact ⟨(wrap64 (x5_1 - 1)), zq8, (by first | exact H' | (rw [hji3]; exact H')), ⟨by have := HK1.out; omega⟩, ⟨zq1⟩⟩
   ·rw [if_neg c4] at H
    have c4b0 : decide (0 ≤ x5_1) = false := decide_eq_false c4
    clear c4
    obtain rfl := Option.some.inj H
    go_wp2
    go_ret
    exact ⟨by first | rfl | (simp [errW_none, errW_some] <;> rfl) | (simp only [← hji3]; first | rfl | (simp [errW_none, errW_some] <;> rfl)) | (simp [*, errW_none, errW_some] <;> rfl), by repeat (first | (with_reducible first | exact HB.out | apply below_alloc | apply pw_below_drewN | apply below_drew1) | exact HB.out)⟩
end Go.Proofs.YtemnjgkicndmjaaDoor.Q
namespace Go.Proofs.YtemnjgkicndmjaaDoor.Q
open Go.RowKit Go.Proofs.YtemnjgkicndmjaaDoorW.PrintWords Go.Proofs.YtemnjgkicndmjaaDoorW.PrintLast Go.Proofs.YtemnjgkicndmjaaDoorW.PrintMore
attribute [local go_sem] max2_int min2_int max_two min_two max_three min_three max_four min_four
set_option linter.unusedVariables false
set_option linter.unusedSimpArgs false
def fetterlockref1_ShlNat.l0 : Nat → Int → List Int → Int → List Int → Int → Int → Option (List Int)
 | 0, _, _, _, _, _, _ => none
 | k + 1, x1, x5, x6, x16, x17, x18 => if x18 < x17 then (if 0 ≤ x18 then (if x18 < (x16.length : Int) then (if 0 ≤ (Int.tmod x1 16) then (if x5.length < 17592186044416 then (fetterlockref1_ShlNat.l0 k x1 (x5 ++ [Int.tmod (Go.bits .or .i64 (shl .i64 (rd x16 x18) (Int.tmod x1 16)) x6) 65536]) (wrap64 (Int.tdiv (Go.bits .or .i64 (shl .i64 (rd x16 x18) (Int.tmod x1 16)) x6) 65536)) x16 x17 (wrap64 (x18 + 1))) else (none)) else (none)) else (none)) else (none)) else (if x5.length < 17592186044416 then ((fetterlockref1_trim.f k (x5 ++ [x6])).bind fun t549 => (some t549)) else (none))
def fetterlockref1_ShlNat.f (k : Nat) (l0 : List Int) (a1 : Int) : Option (List Int) := if (l0.length : Int) = 0 then (some ([] : List Int)) else (if 0 ≤ (wrap64 (Int.tdiv a1 16)) then (if (wrap64 (Int.tdiv a1 16) : Int).toNat ≤ 35184372088832 then (fetterlockref1_ShlNat.l0 k a1 (List.replicate (wrap64 (Int.tdiv a1 16) : Int).toNat 0) 0 l0 (l0.length : Int) 0) else (none)) else (none))
theorem fetterlockref1_ShlNat.mono_l : ∀ k, (∀ y0 y1 y2 y3 y4 y5, LeO (fetterlockref1_ShlNat.l0 k y0 y1 y2 y3 y4 y5) (fetterlockref1_ShlNat.l0 (k + 1) y0 y1 y2 y3 y4 y5))
 | 0 => fun _ _ _ _ _ _ r h => by simp [fetterlockref1_ShlNat.l0] at h
 | k + 1 => by
  have ih0 := fetterlockref1_ShlNat.mono_l k
  ·intro y0 y1 y2 y3 y4 y5
   unfold fetterlockref1_ShlNat.l0
   repeat' first
   | (with_reducible exact ih0 _ _ _ _ _ _)
   | (with_reducible exact fetterlockref1_trim.mono _ _)
   | (with_reducible exact LeO.refl _)
   | (with_reducible exact LeO.none _)
   | (with_reducible refine LeO.ite ?_ ?_)
   | (with_reducible refine LeO.bind ?_ (fun _ => ?_))
   | exact ih0 _ _ _ _ _ _
   | exact fetterlockref1_trim.mono _ _
   | exact LeO.none _
   | refine LeO.ite ?_ ?_
   | refine LeO.bind ?_ (fun _ => ?_)
theorem fetterlockref1_ShlNat.mono : ∀ a0 a1 k, LeO (fetterlockref1_ShlNat.f k a0 a1) (fetterlockref1_ShlNat.f (k + 1) a0 a1) := by
 intro a0 a1 k
 have ih0 := fetterlockref1_ShlNat.mono_l k
 unfold fetterlockref1_ShlNat.f
 repeat' first
   | (with_reducible exact ih0 _ _ _ _ _ _)
   | (with_reducible exact fetterlockref1_trim.mono _ _)
   | (with_reducible exact LeO.refl _)
   | (with_reducible exact LeO.none _)
   | (with_reducible refine LeO.ite ?_ ?_)
   | (with_reducible refine LeO.bind ?_ (fun _ => ?_))
   | exact ih0 _ _ _ _ _ _
   | exact fetterlockref1_trim.mono _ _
   | exact LeO.none _
   | refine LeO.ite ?_ ?_
   | refine LeO.bind ?_ (fun _ => ?_)
set_option maxHeartbeats 8000000 in
set_option maxRecDepth 100000 in
theorem fetterlockref1_ShlNat.calls (k : Nat) (A0 : Option Addr) (c0 : Nat) (l0 : List Int) (a1 : Int) (r : List Int) (w : World) (hr0 : Kd.C (Kd.int .i64) w A0 l0.length l0) (hc0 : l0.length ≤ c0) (h : fetterlockref1_ShlNat.f k l0 a1 = some r) :
  Calls Tryd.prog 82 #[.slice A0 l0.length c0, .int .i64 a1] w fun e w' => ∃ v0_ : Value, e = .returned (v0_) ∧ Kd.V (Kd.int .i64) 3 w' w.heap.size (fun k_ => (w.heap.size ≤ k_)) v0_ r ∧ Below w.heap.size w w' := by
 have HR0 := Aside0.mk hr0
 have HC0 := Aside0.mk hc0
 clear hr0 hc0
 have HB := Aside0.mk (Below.refl w.heap.size w)
 have H : (if (l0.length : Int) = 0 then (some ([] : List Int)) else (if 0 ≤ (wrap64 (Int.tdiv a1 16)) then (if (wrap64 (Int.tdiv a1 16) : Int).toNat ≤ 35184372088832 then (fetterlockref1_ShlNat.l0 k a1 (List.replicate (wrap64 (Int.tdiv a1 16) : Int).toNat 0) 0 l0 (l0.length : Int) 0) else (none)) else (none))) = some r := h
 clear h
 by_cases c3 : (l0.length : Int) = 0
 ·rw [if_pos c3] at H
  have c3b0 : ((l0.length : Int) == 0) = true := beq_iff_eq.mpr c3
  have c3b1 : ((l0.length : Int) != 0) = false := bne_eq_false_iff_eq.mpr c3
  clear c3
  obtain rfl := Option.some.inj H
  go_enter Tryd.func82, Tryd.ntmps82
  go_wp2
  go_ret
  exact ⟨_, by first | rfl | (simp [errW_none, errW_some] <;> rfl) | (simp [*, errW_none, errW_some] <;> rfl), Kd.V_nil _ _ _ _ _, by repeat (first | (with_reducible first | exact HB.out | apply below_alloc | apply pw_below_drewN | apply below_drew1) | exact HB.out)⟩
 ·rw [if_neg c3] at H
  have c3b0 : ((l0.length : Int) == 0) = false := beq_eq_false_iff_ne.mpr c3
  have c3b1 : ((l0.length : Int) != 0) = true := bne_iff_ne.mpr c3
  have c3b2 : ¬ (l0 = []) := fun h_ => c3 (by rw [h_]; rfl)
  obtain ⟨ji4, hji4⟩ : ∃ j_ : Int, (wrap64 (Int.tdiv a1 16)) = j_ := ⟨_, rfl⟩
  replace H : (if 0 ≤ (ji4) then (if (ji4 : Int).toNat ≤ 35184372088832 then (fetterlockref1_ShlNat.l0 k a1 (List.replicate (ji4 : Int).toNat 0) 0 l0 (l0.length : Int) 0) else (none)) else (none)) = some r := by first | (rw [hji4] at H; exact H) | (simp only [hji4] at H ⊢; exact H)
  have hji4w : (IntKind.i64.wrap (Int.tdiv a1 16)) = ji4 := (i64_w _).trans hji4
  by_cases c5 : 0 ≤ (ji4)
  ·rw [if_pos c5] at H
   have c5b0 := eq_true c5
   have c5b1 : decide (0 ≤ (ji4)) = true := decide_eq_true c5
   clear c5
   by_cases c6 : (ji4 : Int).toNat ≤ 35184372088832
   ·rw [if_pos c6] at H
    have c6b0 := eq_true c6
    have c6b1 : decide ((ji4 : Int).toNat ≤ 35184372088832) = true := decide_eq_true c6
    clear c6
    obtain ⟨y539, hy539⟩ : ∃ y_ : List Int, y_ = (List.replicate (ji4 : Int).toNat 0) := ⟨_, rfl⟩
    replace H : (fetterlockref1_ShlNat.l0 k a1 y539 0 l0 (l0.length : Int) 0) = some r := by first | (rw [hy539]; with_reducible exact H) | (have H2_ := (Option.bind_some _ _).symm.trans H; rw [hy539]; with_reducible exact H2_) | (have H2_ := (Option.bind_some _ _).symm.trans H; with_reducible exact H2_) | with_reducible exact H | (rw [hy539]; exact H) | exact H
    have Ny539 := Aside0.mk hy539
    clear hy539
    have H' := Aside0.mk H
    clear H
    go_enter Tryd.func82, Tryd.ntmps82
    go_wp2_with (first | ((with_reducible refine gate_dst (N := 15) rfl ?_); refine Kd.R_make (Kd.int .i64) _ 3 rfl (N := 15) rfl 39 _ _ rfl ji4 rfl rfl Tryd.underlying39 (.int .i64 0) 8 info3 rfl (by decide) (by omega) 0 (ok := fun _ => True) (okp := fun _ => True) rfl (fun _ hk => hk) trivial zq6 (Nat.le_trans (Nat.mul_le_mul_right _ (zq6 : ji4.toNat ≤ 35184372088832)) (by omega)) (Below.refl _ _) (Nat.le_refl _) ?_; intro v540 w7 ho8 hb hg_ hnew_; clear hg_ hnew_; (first | rw [← Ny539.out] at ho8 | (simp only [Int.reduceToNat] at ho8; rw [← Ny539.out] at ho8)); have n0_ := Aside0.mk (Kd.R_lower (Kd.R_newM (M := fun k_ => (w.heap.size ≤ k_)) ho8 (below_size zq1) (fun k_ h_ => h_)) (below_size zq1)); have n1_ := Aside0.mk (below_step zq1 hb); clear HB; have HO541 := n0_; have HB := n1_; clear n0_ n1_; clear hb ho8))
    go_loopg [5, 6, 18] k (fun kq v5 v6 v18 w' => ∃ (x5_1 : List Int) (x6_1 : Int) (x18_1 : Int), v6 = .int .i64 x6_1 ∧ v18 = .int .i64 x18_1 ∧ Aside0 (fetterlockref1_ShlNat.l0 kq a1 x5_1 x6_1 l0 (l0.length : Int) x18_1 = some r) ∧ Aside0 (kq ≤ k) ∧ Aside0 (Kd.R (Kd.int .i64) 3 w' w.heap.size (fun k_ => (w.heap.size ≤ k_)) v5 x5_1) ∧ Aside0 (Below w.heap.size w w'))
    case atStart => exact ⟨(y539), (0), (0), zq8, zq8, H', ⟨Nat.le_refl _⟩, ⟨by (with_reducible repeat (first | apply Kd.R_alloc | apply Kd.R_drewN | apply Kd.R_drew)); exact Kd.R_mono HO541.out (fun _ hk => hk.1)⟩, ⟨zq1⟩⟩
    case round =>
     clear H'
     try clear p2
     try clear c3
     try clear c3b0
     try clear c3b1
     try clear c3b2
     try clear c5
     try clear c5b0
     try clear c5b1
     try clear c6
     try clear c6b0
     try clear c6b1
     try clear p6
     try clear c8
     obtain ⟨x5_1, x6_1, x18_1, rfl, rfl, HA, HK1, HO_5, HB⟩ := hrel
     cases gk with
     | zero => exact absurd HA.out (by simp [fetterlockref1_ShlNat.l0])
     | succ k1 =>
      have H := HA.out
      clear HA
      simp only [fetterlockref1_ShlNat.l0] at H
      by_cases c9 : x18_1 < (l0.length : Int)
      ·rw [if_pos c9] at H
       have c9b0 : decide (x18_1 < (l0.length : Int)) = true := decide_eq_true c9
       clear c9
       by_cases c10 : 0 ≤ x18_1
       ·rw [if_pos c10] at H
        have c10b0 : decide (0 ≤ x18_1) = true := decide_eq_true c10
        clear c10
        by_cases c11 : x18_1 < (l0.length : Int)
        ·rw [if_pos c11] at H
         have c11b0 : decide (x18_1 < (l0.length : Int)) = true := decide_eq_true c11
         clear c11
         obtain ⟨ji12, hji12⟩ : ∃ j_ : Int, (Int.tmod a1 16) = j_ := ⟨_, rfl⟩
         replace H : (if 0 ≤ (ji12) then (if x5_1.length < 17592186044416 then (fetterlockref1_ShlNat.l0 k1 a1 (x5_1 ++ [Int.tmod (Go.bits .or .i64 (shl .i64 (rd l0 x18_1) (ji12)) x6_1) 65536]) (wrap64 (Int.tdiv (Go.bits .or .i64 (shl .i64 (rd l0 x18_1) (ji12)) x6_1) 65536)) l0 (l0.length : Int) (wrap64 (x18_1 + 1))) else (none)) else (none)) = some r := by first | (rw [hji12] at H; exact H) | (simp only [hji12] at H ⊢; exact H)
         by_cases c13 : 0 ≤ (ji12)
         ·rw [if_pos c13] at H
          have c13b0 := eq_true c13
          have c13b1 : decide (0 ≤ (ji12)) = true := decide_eq_true c13
          clear c13
          obtain ⟨ji14, hji14⟩ : ∃ j_ : Int, (shl .i64 (rd l0 x18_1) (ji12)) = j_ := ⟨_, rfl⟩
          replace H : (if x5_1.length < 17592186044416 then (fetterlockref1_ShlNat.l0 k1 a1 (x5_1 ++ [Int.tmod (Go.bits .or .i64 (ji14) x6_1) 65536]) (wrap64 (Int.tdiv (Go.bits .or .i64 (ji14) x6_1) 65536)) l0 (l0.length : Int) (wrap64 (x18_1 + 1))) else (none)) = some r := by first | (rw [hji14] at H; exact H) | (simp only [hji14] at H ⊢; exact H)
          have hji14_ : (IntKind.i64.wrap ((rd l0 x18_1) * 2 ^ min (ji12).toNat 64)) = ji14 := hji14
          have hji14z : (ji12) ≤ 64 → (IntKind.i64.wrap ((rd l0 x18_1) * 2 ^ (ji12).toNat)) = ji14 := shl_small hji14
          have hji14y : (wrap64 ((rd l0 x18_1) * 2 ^ min (ji12).toNat 64)) = ji14 := (i64_w _).symm.trans hji14_
          have hji14x : (ji12) ≤ 64 → (wrap64 ((rd l0 x18_1) * 2 ^ (ji12).toNat)) = ji14 := fun h_ => (i64_w _).symm.trans (hji14z h_)
          by_cases c15 : x5_1.length < 17592186044416
          ·rw [if_pos c15] at H
           have LMc15 := Aside0.mk c15
           clear c15
           obtain ⟨y543, hy543⟩ : ∃ y_ : List Int, y_ = (x5_1 ++ [Int.tmod (Go.bits .or .i64 (ji14) x6_1) 65536]) := ⟨_, rfl⟩
           replace H : (fetterlockref1_ShlNat.l0 k1 a1 y543 (wrap64 (Int.tdiv (Go.bits .or .i64 (ji14) x6_1) 65536)) l0 (l0.length : Int) (wrap64 (x18_1 + 1))) = some r := by first | (rw [hy543]; with_reducible exact H) | (have H2_ := (Option.bind_some _ _).symm.trans H; rw [hy543]; with_reducible exact H2_) | (have H2_ := (Option.bind_some _ _).symm.trans H; with_reducible exact H2_) | with_reducible exact H | (rw [hy543]; exact H) | exact H
           have Ny543 := Aside0.mk hy543
           clear hy543
           have H' := Aside0.mk H
           clear H
           have p542 : 0 ≤ (x18_1 : Int) := zq6
           have q542 : x18_1 < (l0.length : Int) := zq6
           obtain ⟨ad542, e542, hx542_0⟩ := Kd.at_int HR0.out x18_1 p542 q542
           cases e542
           replace hx542_0 := (HB.out.cell (World.block_lt_of_cell? w _ hx542_0)).trans hx542_0
           replace p542 := eq_true p542
           replace q542 := eq_true q542
           go_wp2_with (first | ((with_reducible refine gate_builtin (b := .append) (xs := #[.tmp 28, .tmp 31]) rfl ?_); at_builtin; refine Kd.R_append (Kd.int .i64) (w0 := w) w.heap.size rfl (.tmp 28) (.tmp 31) 39 3 (.int .i64 0) 8 rfl Tryd.underlying39 info3 rfl (by decide) (by omega) u5 x5_1 (Int.tmod (Go.bits .or .i64 (ji14) x6_1) 65536) [.int .i64 (Int.tmod (Go.bits .or .i64 (ji14) x6_1) 65536)] (fun k_ => (w.heap.size ≤ k_)) (fun _ => False) rfl rfl ?aP (fun _ hk => hk.elim) ?aF ?aO ?aB ?aS ?aL ?_; (case aP => exact rfl); (case aB => exact zq1); (case aF => exact (fun k_ hk => (Nat.le_trans (below_size zq1) hk))); (case aO => exact (zq4 HO_5.out)); (case aS => exact (below_size zq1)); (case aL => have := LMc15.out; omega); intro v544 w16 ho hb hg hat; rw [← Ny543.out] at ho; have n0_ := Aside0.mk (hb); have n1_ := Aside0.mk (ho); clear HB; clear HO_5; have HB := n0_; have HO545 := n1_; clear n0_ n1_; clear ho hb hg hat))
           go_roundg k1
           case measure => have := HK1.out; omega
           case rel => exact ⟨(y543), (wrap64 (Int.tdiv (Go.bits .or .i64 (ji14) x6_1) 65536)), (wrap64 (x18_1 + 1)), (by first | rfl | (simp; done) | (simp only [← hji14] <;> (first | rfl | simp)) | (simp [*]; done)), zq8, (by first | exact H' | (rw [hji4]; exact H') | (rw [hji12]; exact H') | (rw [hji14]; exact H')), ⟨by have := HK1.out; omega⟩, ⟨by (with_reducible repeat (first | apply Kd.R_alloc | apply Kd.R_drewN | apply Kd.R_drew)); exact HO545.out⟩, ⟨zq1⟩⟩
          ·rw [if_neg c15] at H
           exact absurd H (by simp)
         ·rw [if_neg c13] at H
          exact absurd H (by simp)
        ·rw [if_neg c11] at H
         exact absurd H (by simp)
       ·rw [if_neg c10] at H
        exact absurd H (by simp)
      ·rw [if_neg c9] at H
       have c9b0 : decide (x18_1 < (l0.length : Int)) = false := decide_eq_false c9
       clear c9
       by_cases c17 : x5_1.length < 17592186044416
       ·rw [if_pos c17] at H
        have LMc17 := Aside0.mk c17
        clear c17
        obtain ⟨y546, hy546⟩ : ∃ y_ : List Int, y_ = (x5_1 ++ [x6_1]) := ⟨_, rfl⟩
        replace H : ((fetterlockref1_trim.f k1 y546).bind fun t549 => (some t549)) = some r := by first | (rw [hy546]; with_reducible exact H) | (have H2_ := (Option.bind_some _ _).symm.trans H; rw [hy546]; with_reducible exact H2_) | (have H2_ := (Option.bind_some _ _).symm.trans H; with_reducible exact H2_) | with_reducible exact H | (rw [hy546]; exact H) | exact H
        have Ny546 := Aside0.mk hy546
        clear hy546
        replace H := Option.bind_eq_some_iff.mp H
        obtain ⟨t549, A180, H⟩ := H
        replace H : (some t549) = some r := H
        have A18 := Aside0.mk A180
        clear A180
        obtain rfl := Option.some.inj H
        go_wp2_with (first | ((with_reducible refine gate_builtin (b := .append) (xs := #[.tmp 36, .tmp 38]) rfl ?_); at_builtin; refine Kd.R_append (Kd.int .i64) (w0 := w) w.heap.size rfl (.tmp 36) (.tmp 38) 39 3 (.int .i64 0) 8 rfl Tryd.underlying39 info3 rfl (by decide) (by omega) u5 x5_1 x6_1 [.int .i64 x6_1] (fun k_ => (w.heap.size ≤ k_)) (fun _ => False) rfl rfl ?aP (fun _ hk => hk.elim) ?aF ?aO ?aB ?aS ?aL ?_; (case aP => exact rfl); (case aB => exact zq1); (case aF => exact (fun k_ hk => (Nat.le_trans (below_size zq1) hk))); (case aO => exact (zq4 HO_5.out)); (case aS => exact (below_size zq1)); (case aL => have := LMc17.out; omega); intro v547 w19 ho hb hg hat; rw [← Ny546.out] at ho; have n0_ := Aside0.mk (hb); have n1_ := Aside0.mk (ho); clear HB; clear HO_5; have HB := n0_; have HO548 := n1_; clear n0_ n1_; clear ho hb hg hat; obtain ⟨Ao20, co20, eo20⟩ := Kd.R_slice HO548.out; subst eo20) | ((with_reducible refine gate_callee (f := 96) rfl ?_); refine goesL_ (some 40) rfl rfl Tryd.func96 (by kernel_rfl) rfl #[.slice Ao20 y546.length co20] rfl zq5 ?_; (with_reducible refine (fetterlockref1_trim.calls k1 (fun k_ => some k_ = (.slice Ao20 y546.length co20 : Value).ownBlock) _ _ y546 t549 _ ?side1 A18.out).mono ?_); (case side1 => exact Kd.R_V (Kd.R_tight rfl (HO548.out))); rintro e w21 ⟨v550, rfl, ho0, hb⟩; refine ⟨_, rfl, ?_⟩; have n0_ := Aside0.mk (Kd.R_below (zq4 HO548.out) hb); have n1_ := Aside0.mk (Kd.V_lower (Kd.V_mono (ok' := fun k_ => (w.heap.size ≤ k_)) ho0 (fun k_ hk_ => Or.elim hk_ (fun hs_ => ((HO548.out).1 k_ hs_.symm)) (fun hn_ => (Nat.le_trans (below_size zq1) hn_)))) (below_size zq1)); have n2_ := Aside0.mk (below_step zq1 hb); clear HO548; clear HB; have HO548 := n0_; have HO551 := n1_; have HB := n2_; clear n0_ n1_ n2_; (try clear hb); (try clear hb2); (try clear hk); (try clear hi); (try clear ho0)))
        go_ret
        exact ⟨_, by first | rfl | (simp [errW_none, errW_some] <;> rfl) | (simp only [← hji4]; first | rfl | (simp [errW_none, errW_some] <;> rfl)) | (simp [*, errW_none, errW_some] <;> rfl), by (with_reducible repeat (first | apply Kd.V_alloc | apply Kd.V_drewN | apply Kd.V_drew)); exact HO551.out, by repeat (first | (with_reducible first | exact HB.out | apply below_alloc | apply pw_below_drewN | apply below_drew1) | exact HB.out)⟩
       ·rw [if_neg c17] at H
        exact absurd H (by simp)
   ·rw [if_neg c6] at H
    exact absurd H (by simp)
  ·rw [if_neg c5] at H
   exact absurd H (by simp)
end Go.Proofs.YtemnjgkicndmjaaDoor.Q
namespace Go.Proofs.YtemnjgkicndmjaaDoor.Q
open Go.RowKit Go.Proofs.YtemnjgkicndmjaaDoorW.PrintWords Go.Proofs.YtemnjgkicndmjaaDoorW.PrintLast Go.Proofs.YtemnjgkicndmjaaDoorW.PrintMore
attribute [local go_sem] max2_int min2_int max_two min_two max_three min_three max_four min_four
set_option linter.unusedVariables false
set_option linter.unusedSimpArgs false
def fetterlockref1_SubNat.l0 : Nat → List Int → List Int → List Int → Int → Int → Int → Option (List Int)
 | 0, _, _, _, _, _, _ => none
 | k + 1, x0, x1, x5, x6, x10, x11 => if x11 < x10 then (if 0 ≤ x11 then (if x11 < (x0.length : Int) then ((fetterlockref1_digit.f x1 x11).bind fun t553 => (if (wrap64 ((wrap64 ((rd x0 x11) - t553)) - x6)) < 0 then (if x5.length < 17592186044416 then (fetterlockref1_SubNat.l0 k x0 x1 (x5 ++ [wrap64 ((wrap64 ((wrap64 ((rd x0 x11) - t553)) - x6)) + 65536)]) 1 x10 (wrap64 (x11 + 1))) else (none)) else (if x5.length < 17592186044416 then (fetterlockref1_SubNat.l0 k x0 x1 (x5 ++ [wrap64 ((wrap64 ((rd x0 x11) - t553)) - x6)]) 0 x10 (wrap64 (x11 + 1))) else (none)))) else (none)) else (none)) else ((fetterlockref1_trim.f k x5).bind fun t560 => (some t560))
def fetterlockref1_SubNat.f (k : Nat) (l0 : List Int) (l1 : List Int) : Option (List Int) := fetterlockref1_SubNat.l0 k l0 l1 ([] : List Int) 0 (l0.length : Int) 0
theorem fetterlockref1_SubNat.mono_l : ∀ k, (∀ y0 y1 y2 y3 y4 y5, LeO (fetterlockref1_SubNat.l0 k y0 y1 y2 y3 y4 y5) (fetterlockref1_SubNat.l0 (k + 1) y0 y1 y2 y3 y4 y5))
 | 0 => fun _ _ _ _ _ _ r h => by simp [fetterlockref1_SubNat.l0] at h
 | k + 1 => by
  have ih0 := fetterlockref1_SubNat.mono_l k
  ·intro y0 y1 y2 y3 y4 y5
   unfold fetterlockref1_SubNat.l0
   repeat' first
   | (with_reducible exact ih0 _ _ _ _ _ _)
   | (with_reducible exact fetterlockref1_trim.mono _ _)
   | (with_reducible exact LeO.refl _)
   | (with_reducible exact LeO.none _)
   | (with_reducible refine LeO.ite ?_ ?_)
   | (with_reducible refine LeO.bind ?_ (fun _ => ?_))
   | exact ih0 _ _ _ _ _ _
   | exact fetterlockref1_trim.mono _ _
   | exact LeO.none _
   | refine LeO.ite ?_ ?_
   | refine LeO.bind ?_ (fun _ => ?_)
theorem fetterlockref1_SubNat.mono : ∀ a0 a1 k, LeO (fetterlockref1_SubNat.f k a0 a1) (fetterlockref1_SubNat.f (k + 1) a0 a1) := by
 intro a0 a1 k
 have ih0 := fetterlockref1_SubNat.mono_l k
 unfold fetterlockref1_SubNat.f
 repeat' first
   | (with_reducible exact ih0 _ _ _ _ _ _)
   | (with_reducible exact fetterlockref1_trim.mono _ _)
   | (with_reducible exact LeO.refl _)
   | (with_reducible exact LeO.none _)
   | (with_reducible refine LeO.ite ?_ ?_)
   | (with_reducible refine LeO.bind ?_ (fun _ => ?_))
   | exact ih0 _ _ _ _ _ _
   | exact fetterlockref1_trim.mono _ _
   | exact LeO.none _
   | refine LeO.ite ?_ ?_
   | refine LeO.bind ?_ (fun _ => ?_)
set_option maxHeartbeats 8000000 in
set_option maxRecDepth 100000 in
theorem fetterlockref1_SubNat.calls (k : Nat) (A0 : Option Addr) (c0 : Nat) (l0 : List Int) (A1 : Option Addr) (c1 : Nat) (l1 : List Int) (r : List Int) (w : World) (hr0 : Kd.C (Kd.int .i64) w A0 l0.length l0) (hc0 : l0.length ≤ c0) (hr1 : Kd.C (Kd.int .i64) w A1 l1.length l1) (hc1 : l1.length ≤ c1) (h : fetterlockref1_SubNat.f k l0 l1 = some r) :
  Calls Tryd.prog 83 #[.slice A0 l0.length c0, .slice A1 l1.length c1] w fun e w' => ∃ v0_ : Value, e = .returned (v0_) ∧ Kd.V (Kd.int .i64) 3 w' w.heap.size (fun k_ => (w.heap.size ≤ k_)) v0_ r ∧ Below w.heap.size w w' := by
 have HR0 := Aside0.mk hr0
 have HC0 := Aside0.mk hc0
 clear hr0 hc0
 have HR1 := Aside0.mk hr1
 have HC1 := Aside0.mk hc1
 clear hr1 hc1
 have HB := Aside0.mk (Below.refl w.heap.size w)
 have H : (fetterlockref1_SubNat.l0 k l0 l1 ([] : List Int) 0 (l0.length : Int) 0) = some r := h
 clear h
 have H' := Aside0.mk H
 clear H
 go_enter Tryd.func83, Tryd.ntmps83
 go_wp2
 repeat (go_quiet (fail); try go_wp2)
 go_loopg [5, 6, 11] k (fun kq v5 v6 v11 w' => ∃ (x5_1 : List Int) (x6_1 : Int) (x11_1 : Int), v6 = .int .i64 x6_1 ∧ v11 = .int .i64 x11_1 ∧ Aside0 (fetterlockref1_SubNat.l0 kq l0 l1 x5_1 x6_1 (l0.length : Int) x11_1 = some r) ∧ Aside0 (kq ≤ k) ∧ Aside0 (Kd.R (Kd.int .i64) 3 w' w.heap.size (fun k_ => (w.heap.size ≤ k_)) v5 x5_1) ∧ Aside0 (Below w.heap.size w w'))
 case atStart => exact ⟨(([] : List Int)), (0), (0), zq8, zq8, H', ⟨Nat.le_refl _⟩, ⟨by first | exact Kd.R_nil _ _ _ _ _ | exact Kd.N_nil _ _ _ _ _ | exact Kd.V_nil _ _ _ _ _ | exact Kd.Q_nil _ _ _ _ _ | exact Kd.S_nil _ _ _ _ _⟩, ⟨zq1⟩⟩
 case round =>
  clear H'
  try clear c1
  try clear p2
  obtain ⟨x5_1, x6_1, x11_1, rfl, rfl, HA, HK1, HO_5, HB⟩ := hrel
  cases gk with
  | zero => exact absurd HA.out (by simp [fetterlockref1_SubNat.l0])
  | succ k1 =>
   have H := HA.out
   clear HA
   simp only [fetterlockref1_SubNat.l0] at H
   by_cases c3 : x11_1 < (l0.length : Int)
   ·rw [if_pos c3] at H
    have c3b0 : decide (x11_1 < (l0.length : Int)) = true := decide_eq_true c3
    clear c3
    by_cases c4 : 0 ≤ x11_1
    ·rw [if_pos c4] at H
     have c4b0 : decide (0 ≤ x11_1) = true := decide_eq_true c4
     clear c4
     by_cases c5 : x11_1 < (l0.length : Int)
     ·rw [if_pos c5] at H
      have c5b0 : decide (x11_1 < (l0.length : Int)) = true := decide_eq_true c5
      clear c5
      replace H := Option.bind_eq_some_iff.mp H
      obtain ⟨t553, A60, H⟩ := H
      replace H : (if (wrap64 ((wrap64 ((rd l0 x11_1) - t553)) - x6_1)) < 0 then (if x5_1.length < 17592186044416 then (fetterlockref1_SubNat.l0 k1 l0 l1 (x5_1 ++ [wrap64 ((wrap64 ((wrap64 ((rd l0 x11_1) - t553)) - x6_1)) + 65536)]) 1 (l0.length : Int) (wrap64 (x11_1 + 1))) else (none)) else (if x5_1.length < 17592186044416 then (fetterlockref1_SubNat.l0 k1 l0 l1 (x5_1 ++ [wrap64 ((wrap64 ((rd l0 x11_1) - t553)) - x6_1)]) 0 (l0.length : Int) (wrap64 (x11_1 + 1))) else (none))) = some r := H
      have A6 := Aside0.mk A60
      clear A60
      by_cases c7 : (wrap64 ((wrap64 ((rd l0 x11_1) - t553)) - x6_1)) < 0
      ·rw [if_pos c7] at H
       have c7b0 : decide ((wrap64 ((wrap64 ((rd l0 x11_1) - t553)) - x6_1)) < 0) = true := decide_eq_true c7
       clear c7
       by_cases c8 : x5_1.length < 17592186044416
       ·rw [if_pos c8] at H
        have LMc8 := Aside0.mk c8
        clear c8
        obtain ⟨y554, hy554⟩ : ∃ y_ : List Int, y_ = (x5_1 ++ [wrap64 ((wrap64 ((wrap64 ((rd l0 x11_1) - t553)) - x6_1)) + 65536)]) := ⟨_, rfl⟩
        replace H : (fetterlockref1_SubNat.l0 k1 l0 l1 y554 1 (l0.length : Int) (wrap64 (x11_1 + 1))) = some r := by first | (rw [hy554]; with_reducible exact H) | (have H2_ := (Option.bind_some _ _).symm.trans H; rw [hy554]; with_reducible exact H2_) | (have H2_ := (Option.bind_some _ _).symm.trans H; with_reducible exact H2_) | with_reducible exact H | (rw [hy554]; exact H) | exact H
        have Ny554 := Aside0.mk hy554
        clear hy554
        have H' := Aside0.mk H
        clear H
        have p552 : 0 ≤ (x11_1 : Int) := zq6
        have q552 : x11_1 < (l0.length : Int) := zq6
        obtain ⟨ad552, e552, hx552_0⟩ := Kd.at_int HR0.out x11_1 p552 q552
        cases e552
        replace hx552_0 := (HB.out.cell (World.block_lt_of_cell? w _ hx552_0)).trans hx552_0
        replace p552 := eq_true p552
        replace q552 := eq_true q552
        go_wp2_with (first | (go_at_call 97; (with_reducible refine (fetterlockref1_digit.calls _ _ l1 x11_1 t553 _ ?side1 ?side2 A6.out).mono ?_); (case side1 => repeat (first | exact (Kd.C_below HR1.out HB.out) | (with_reducible refine Kd.C_alloc ?_ _) | (with_reducible refine Kd.C_drewN ?_ _) | (with_reducible refine Kd.C_drew ?_))); (case side2 => exact HC1.out); rintro e w' ⟨rfl, ⟨nd, rfl⟩⟩; (try first | exact ⟨rfl, _, World.drewN_drewN _ _ _⟩ | exact ⟨rfl, _, Eq.trans (World.drewN_drewN _ _ _) (congrArg (World.drewN _) (Nat.add_assoc _ _ _))⟩)) | ((with_reducible refine gate_builtin (b := .append) (xs := #[.tmp 28, .tmp 30]) rfl ?_); at_builtin; refine Kd.R_append (Kd.int .i64) (w0 := w) w.heap.size rfl (.tmp 28) (.tmp 30) 39 3 (.int .i64 0) 8 rfl Tryd.underlying39 info3 rfl (by decide) (by omega) u5 x5_1 (wrap64 ((wrap64 ((wrap64 ((rd l0 x11_1) - t553)) - x6_1)) + 65536)) [.int .i64 (wrap64 ((wrap64 ((wrap64 ((rd l0 x11_1) - t553)) - x6_1)) + 65536))] (fun k_ => (w.heap.size ≤ k_)) (fun _ => False) rfl rfl ?aP (fun _ hk => hk.elim) ?aF ?aO ?aB ?aS ?aL ?_; (case aP => exact rfl); (case aB => exact zq1); (case aF => exact (fun k_ hk => (Nat.le_trans (below_size zq1) hk))); (case aO => exact (zq4 HO_5.out)); (case aS => exact (below_size zq1)); (case aL => have := LMc8.out; omega); intro v555 w9 ho hb hg hat; rw [← Ny554.out] at ho; have n0_ := Aside0.mk (hb); have n1_ := Aside0.mk (ho); clear HB; clear HO_5; have HB := n0_; have HO556 := n1_; clear n0_ n1_; clear ho hb hg hat))
        repeat (go_quiet (first | (go_at_call 97; (with_reducible refine (fetterlockref1_digit.calls _ _ l1 x11_1 t553 _ ?side1 ?side2 A6.out).mono ?_); (case side1 => repeat (first | exact (Kd.C_below HR1.out HB.out) | (with_reducible refine Kd.C_alloc ?_ _) | (with_reducible refine Kd.C_drewN ?_ _) | (with_reducible refine Kd.C_drew ?_))); (case side2 => exact HC1.out); rintro e w' ⟨rfl, ⟨nd, rfl⟩⟩; (try first | exact ⟨rfl, _, World.drewN_drewN _ _ _⟩ | exact ⟨rfl, _, Eq.trans (World.drewN_drewN _ _ _) (congrArg (World.drewN _) (Nat.add_assoc _ _ _))⟩)) | ((with_reducible refine gate_builtin (b := .append) (xs := #[.tmp 28, .tmp 30]) rfl ?_); at_builtin; refine Kd.R_append (Kd.int .i64) (w0 := w) w.heap.size rfl (.tmp 28) (.tmp 30) 39 3 (.int .i64 0) 8 rfl Tryd.underlying39 info3 rfl (by decide) (by omega) u5 x5_1 (wrap64 ((wrap64 ((wrap64 ((rd l0 x11_1) - t553)) - x6_1)) + 65536)) [.int .i64 (wrap64 ((wrap64 ((wrap64 ((rd l0 x11_1) - t553)) - x6_1)) + 65536))] (fun k_ => (w.heap.size ≤ k_)) (fun _ => False) rfl rfl ?aP (fun _ hk => hk.elim) ?aF ?aO ?aB ?aS ?aL ?_; (case aP => exact rfl); (case aB => exact zq1); (case aF => exact (fun k_ hk => (Nat.le_trans (below_size zq1) hk))); (case aO => exact (zq4 HO_5.out)); (case aS => exact (below_size zq1)); (case aL => have := LMc8.out; omega); intro v555 w9 ho hb hg hat; rw [← Ny554.out] at ho; have n0_ := Aside0.mk (hb); have n1_ := Aside0.mk (ho); clear HB; clear HO_5; have HB := n0_; have HO556 := n1_; clear n0_ n1_; clear ho hb hg hat)); try go_wp2_with (first | (go_at_call 97; (with_reducible refine (fetterlockref1_digit.calls _ _ l1 x11_1 t553 _ ?side1 ?side2 A6.out).mono ?_); (case side1 => repeat (first | exact (Kd.C_below HR1.out HB.out) | (with_reducible refine Kd.C_alloc ?_ _) | (with_reducible refine Kd.C_drewN ?_ _) | (with_reducible refine Kd.C_drew ?_))); (case side2 => exact HC1.out); rintro e w' ⟨rfl, ⟨nd, rfl⟩⟩; (try first | exact ⟨rfl, _, World.drewN_drewN _ _ _⟩ | exact ⟨rfl, _, Eq.trans (World.drewN_drewN _ _ _) (congrArg (World.drewN _) (Nat.add_assoc _ _ _))⟩)) | ((with_reducible refine gate_builtin (b := .append) (xs := #[.tmp 28, .tmp 30]) rfl ?_); at_builtin; refine Kd.R_append (Kd.int .i64) (w0 := w) w.heap.size rfl (.tmp 28) (.tmp 30) 39 3 (.int .i64 0) 8 rfl Tryd.underlying39 info3 rfl (by decide) (by omega) u5 x5_1 (wrap64 ((wrap64 ((wrap64 ((rd l0 x11_1) - t553)) - x6_1)) + 65536)) [.int .i64 (wrap64 ((wrap64 ((wrap64 ((rd l0 x11_1) - t553)) - x6_1)) + 65536))] (fun k_ => (w.heap.size ≤ k_)) (fun _ => False) rfl rfl ?aP (fun _ hk => hk.elim) ?aF ?aO ?aB ?aS ?aL ?_; (case aP => exact rfl); (case aB => exact zq1); (case aF => exact (fun k_ hk => (Nat.le_trans (below_size zq1) hk))); (case aO => exact (zq4 HO_5.out)); (case aS => exact (below_size zq1)); (case aL => have := LMc8.out; omega); intro v555 w9 ho hb hg hat; rw [← Ny554.out] at ho; have n0_ := Aside0.mk (hb); have n1_ := Aside0.mk (ho); clear HB; clear HO_5; have HB := n0_; have HO556 := n1_; clear n0_ n1_; clear ho hb hg hat)))
        go_roundg k1
        case measure => have := HK1.out; omega
        case rel => exact ⟨(y554), (1), (wrap64 (x11_1 + 1)), zq8, zq8, H', ⟨by have := HK1.out; omega⟩, ⟨by (with_reducible repeat (first | apply Kd.R_alloc | apply Kd.R_drewN | apply Kd.R_drew)); exact HO556.out⟩, ⟨zq1⟩⟩
       ·rw [if_neg c8] at H
        exact absurd H (by simp)
      ·rw [if_neg c7] at H
       have c7b0 : decide ((wrap64 ((wrap64 ((rd l0 x11_1) - t553)) - x6_1)) < 0) = false := decide_eq_false c7
       clear c7
       by_cases c10 : x5_1.length < 17592186044416
       ·rw [if_pos c10] at H
        have LMc10 := Aside0.mk c10
        clear c10
        obtain ⟨y557, hy557⟩ : ∃ y_ : List Int, y_ = (x5_1 ++ [wrap64 ((wrap64 ((rd l0 x11_1) - t553)) - x6_1)]) := ⟨_, rfl⟩
        replace H : (fetterlockref1_SubNat.l0 k1 l0 l1 y557 0 (l0.length : Int) (wrap64 (x11_1 + 1))) = some r := by first | (rw [hy557]; with_reducible exact H) | (have H2_ := (Option.bind_some _ _).symm.trans H; rw [hy557]; with_reducible exact H2_) | (have H2_ := (Option.bind_some _ _).symm.trans H; with_reducible exact H2_) | with_reducible exact H | (rw [hy557]; exact H) | exact H
        have Ny557 := Aside0.mk hy557
        clear hy557
        have H' := Aside0.mk H
        clear H
        have p552 : 0 ≤ (x11_1 : Int) := zq6
        have q552 : x11_1 < (l0.length : Int) := zq6
        obtain ⟨ad552, e552, hx552_0⟩ := Kd.at_int HR0.out x11_1 p552 q552
        cases e552
        replace hx552_0 := (HB.out.cell (World.block_lt_of_cell? w _ hx552_0)).trans hx552_0
        replace p552 := eq_true p552
        replace q552 := eq_true q552
        go_wp2_with (first | (go_at_call 97; (with_reducible refine (fetterlockref1_digit.calls _ _ l1 x11_1 t553 _ ?side1 ?side2 A6.out).mono ?_); (case side1 => repeat (first | exact (Kd.C_below HR1.out HB.out) | (with_reducible refine Kd.C_alloc ?_ _) | (with_reducible refine Kd.C_drewN ?_ _) | (with_reducible refine Kd.C_drew ?_))); (case side2 => exact HC1.out); rintro e w' ⟨rfl, ⟨nd, rfl⟩⟩; (try first | exact ⟨rfl, _, World.drewN_drewN _ _ _⟩ | exact ⟨rfl, _, Eq.trans (World.drewN_drewN _ _ _) (congrArg (World.drewN _) (Nat.add_assoc _ _ _))⟩)) | ((with_reducible refine gate_builtin (b := .append) (xs := #[.tmp 28, .tmp 30]) rfl ?_); at_builtin; refine Kd.R_append (Kd.int .i64) (w0 := w) w.heap.size rfl (.tmp 28) (.tmp 30) 39 3 (.int .i64 0) 8 rfl Tryd.underlying39 info3 rfl (by decide) (by omega) u5 x5_1 (wrap64 ((wrap64 ((rd l0 x11_1) - t553)) - x6_1)) [.int .i64 (wrap64 ((wrap64 ((rd l0 x11_1) - t553)) - x6_1))] (fun k_ => (w.heap.size ≤ k_)) (fun _ => False) rfl rfl ?aP (fun _ hk => hk.elim) ?aF ?aO ?aB ?aS ?aL ?_; (case aP => exact rfl); (case aB => exact zq1); (case aF => exact (fun k_ hk => (Nat.le_trans (below_size zq1) hk))); (case aO => exact (zq4 HO_5.out)); (case aS => exact (below_size zq1)); (case aL => have := LMc10.out; omega); intro v558 w11 ho hb hg hat; rw [← Ny557.out] at ho; have n0_ := Aside0.mk (hb); have n1_ := Aside0.mk (ho); clear HB; clear HO_5; have HB := n0_; have HO559 := n1_; clear n0_ n1_; clear ho hb hg hat))
        repeat (go_quiet (first | (go_at_call 97; (with_reducible refine (fetterlockref1_digit.calls _ _ l1 x11_1 t553 _ ?side1 ?side2 A6.out).mono ?_); (case side1 => repeat (first | exact (Kd.C_below HR1.out HB.out) | (with_reducible refine Kd.C_alloc ?_ _) | (with_reducible refine Kd.C_drewN ?_ _) | (with_reducible refine Kd.C_drew ?_))); (case side2 => exact HC1.out); rintro e w' ⟨rfl, ⟨nd, rfl⟩⟩; (try first | exact ⟨rfl, _, World.drewN_drewN _ _ _⟩ | exact ⟨rfl, _, Eq.trans (World.drewN_drewN _ _ _) (congrArg (World.drewN _) (Nat.add_assoc _ _ _))⟩)) | ((with_reducible refine gate_builtin (b := .append) (xs := #[.tmp 28, .tmp 30]) rfl ?_); at_builtin; refine Kd.R_append (Kd.int .i64) (w0 := w) w.heap.size rfl (.tmp 28) (.tmp 30) 39 3 (.int .i64 0) 8 rfl Tryd.underlying39 info3 rfl (by decide) (by omega) u5 x5_1 (wrap64 ((wrap64 ((rd l0 x11_1) - t553)) - x6_1)) [.int .i64 (wrap64 ((wrap64 ((rd l0 x11_1) - t553)) - x6_1))] (fun k_ => (w.heap.size ≤ k_)) (fun _ => False) rfl rfl ?aP (fun _ hk => hk.elim) ?aF ?aO ?aB ?aS ?aL ?_; (case aP => exact rfl); (case aB => exact zq1); (case aF => exact (fun k_ hk => (Nat.le_trans (below_size zq1) hk))); (case aO => exact (zq4 HO_5.out)); (case aS => exact (below_size zq1)); (case aL => have := LMc10.out; omega); intro v558 w11 ho hb hg hat; rw [← Ny557.out] at ho; have n0_ := Aside0.mk (hb); have n1_ := Aside0.mk (ho); clear HB; clear HO_5; have HB := n0_; have HO559 := n1_; clear n0_ n1_; clear ho hb hg hat)); try go_wp2_with (first | (go_at_call 97; (with_reducible refine (fetterlockref1_digit.calls _ _ l1 x11_1 t553 _ ?side1 ?side2 A6.out).mono ?_); (case side1 => repeat (first | exact (Kd.C_below HR1.out HB.out) | (with_reducible refine Kd.C_alloc ?_ _) | (with_reducible refine Kd.C_drewN ?_ _) | (with_reducible refine Kd.C_drew ?_))); (case side2 => exact HC1.out); rintro e w' ⟨rfl, ⟨nd, rfl⟩⟩; (try first | exact ⟨rfl, _, World.drewN_drewN _ _ _⟩ | exact ⟨rfl, _, Eq.trans (World.drewN_drewN _ _ _) (congrArg (World.drewN _) (Nat.add_assoc _ _ _))⟩)) | ((with_reducible refine gate_builtin (b := .append) (xs := #[.tmp 28, .tmp 30]) rfl ?_); at_builtin; refine Kd.R_append (Kd.int .i64) (w0 := w) w.heap.size rfl (.tmp 28) (.tmp 30) 39 3 (.int .i64 0) 8 rfl Tryd.underlying39 info3 rfl (by decide) (by omega) u5 x5_1 (wrap64 ((wrap64 ((rd l0 x11_1) - t553)) - x6_1)) [.int .i64 (wrap64 ((wrap64 ((rd l0 x11_1) - t553)) - x6_1))] (fun k_ => (w.heap.size ≤ k_)) (fun _ => False) rfl rfl ?aP (fun _ hk => hk.elim) ?aF ?aO ?aB ?aS ?aL ?_; (case aP => exact rfl); (case aB => exact zq1); (case aF => exact (fun k_ hk => (Nat.le_trans (below_size zq1) hk))); (case aO => exact (zq4 HO_5.out)); (case aS => exact (below_size zq1)); (case aL => have := LMc10.out; omega); intro v558 w11 ho hb hg hat; rw [← Ny557.out] at ho; have n0_ := Aside0.mk (hb); have n1_ := Aside0.mk (ho); clear HB; clear HO_5; have HB := n0_; have HO559 := n1_; clear n0_ n1_; clear ho hb hg hat)))
        go_roundg k1
        case measure => have := HK1.out; omega
        case rel => exact ⟨(y557), (0), (wrap64 (x11_1 + 1)), zq8, zq8, H', ⟨by have := HK1.out; omega⟩, ⟨by (with_reducible repeat (first | apply Kd.R_alloc | apply Kd.R_drewN | apply Kd.R_drew)); exact HO559.out⟩, ⟨zq1⟩⟩
       ·rw [if_neg c10] at H
        exact absurd H (by simp)
     ·rw [if_neg c5] at H
      exact absurd H (by simp)
    ·rw [if_neg c4] at H
     exact absurd H (by simp)
   ·rw [if_neg c3] at H
    have c3b0 : decide (x11_1 < (l0.length : Int)) = false := decide_eq_false c3
    clear c3
    replace H := Option.bind_eq_some_iff.mp H
    obtain ⟨t560, A120, H⟩ := H
    replace H : (some t560) = some r := H
    have A12 := Aside0.mk A120
    clear A120
    obtain rfl := Option.some.inj H
    obtain ⟨Ao13, co13, eo13⟩ := Kd.R_slice HO_5.out
    subst eo13
    go_wp2_with (first | (go_at_call 96; (with_reducible refine (fetterlockref1_trim.calls k1 (fun k_ => some k_ = (.slice Ao13 x5_1.length co13 : Value).ownBlock) _ _ x5_1 t560 _ ?side1 A12.out).mono ?_); (case side1 => exact Kd.R_V (Kd.R_tight rfl (HO_5.out))); rintro e w14 ⟨v561, rfl, ho0, hb⟩; have n0_ := Aside0.mk (Kd.R_below (zq4 HO_5.out) hb); have n1_ := Aside0.mk (Kd.V_lower (Kd.V_mono (ok' := fun k_ => (w.heap.size ≤ k_)) ho0 (fun k_ hk_ => Or.elim hk_ (fun hs_ => ((HO_5.out).1 k_ hs_.symm)) (fun hn_ => (Nat.le_trans (below_size zq1) hn_)))) (below_size zq1)); have n2_ := Aside0.mk (below_step zq1 hb); clear HO_5; clear HB; have HO_5 := n0_; have HO562 := n1_; have HB := n2_; clear n0_ n1_ n2_; (try clear hb); (try clear hb2); (try clear hk); (try clear hi); (try clear ho0)))
    repeat (go_quiet (first | (go_at_call 96; (with_reducible refine (fetterlockref1_trim.calls k1 (fun k_ => some k_ = (.slice Ao13 x5_1.length co13 : Value).ownBlock) _ _ x5_1 t560 _ ?side1 A12.out).mono ?_); (case side1 => exact Kd.R_V (Kd.R_tight rfl (HO_5.out))); rintro e w14 ⟨v561, rfl, ho0, hb⟩; have n0_ := Aside0.mk (Kd.R_below (zq4 HO_5.out) hb); have n1_ := Aside0.mk (Kd.V_lower (Kd.V_mono (ok' := fun k_ => (w.heap.size ≤ k_)) ho0 (fun k_ hk_ => Or.elim hk_ (fun hs_ => ((HO_5.out).1 k_ hs_.symm)) (fun hn_ => (Nat.le_trans (below_size zq1) hn_)))) (below_size zq1)); have n2_ := Aside0.mk (below_step zq1 hb); clear HO_5; clear HB; have HO_5 := n0_; have HO562 := n1_; have HB := n2_; clear n0_ n1_ n2_; (try clear hb); (try clear hb2); (try clear hk); (try clear hi); (try clear ho0))); try go_wp2_with (first | (go_at_call 96; (with_reducible refine (fetterlockref1_trim.calls k1 (fun k_ => some k_ = (.slice Ao13 x5_1.length co13 : Value).ownBlock) _ _ x5_1 t560 _ ?side1 A12.out).mono ?_); (case side1 => exact Kd.R_V (Kd.R_tight rfl (HO_5.out))); rintro e w14 ⟨v561, rfl, ho0, hb⟩; have n0_ := Aside0.mk (Kd.R_below (zq4 HO_5.out) hb); have n1_ := Aside0.mk (Kd.V_lower (Kd.V_mono (ok' := fun k_ => (w.heap.size ≤ k_)) ho0 (fun k_ hk_ => Or.elim hk_ (fun hs_ => ((HO_5.out).1 k_ hs_.symm)) (fun hn_ => (Nat.le_trans (below_size zq1) hn_)))) (below_size zq1)); have n2_ := Aside0.mk (below_step zq1 hb); clear HO_5; clear HB; have HO_5 := n0_; have HO562 := n1_; have HB := n2_; clear n0_ n1_ n2_; (try clear hb); (try clear hb2); (try clear hk); (try clear hi); (try clear ho0))))
    go_ret
    exact ⟨_, by first | rfl | (simp [errW_none, errW_some] <;> rfl) | (simp [*, errW_none, errW_some] <;> rfl), by (with_reducible repeat (first | apply Kd.V_alloc | apply Kd.V_drewN | apply Kd.V_drew)); exact HO562.out, by repeat (first | (with_reducible first | exact HB.out | apply below_alloc | apply pw_below_drewN | apply below_drew1) | exact HB.out)⟩
end Go.Proofs.YtemnjgkicndmjaaDoor.Q
namespace Go.Proofs.YtemnjgkicndmjaaDoor.Q
open Go.RowKit Go.Proofs.YtemnjgkicndmjaaDoorW.PrintWords Go.Proofs.YtemnjgkicndmjaaDoorW.PrintLast Go.Proofs.YtemnjgkicndmjaaDoorW.PrintMore
attribute [local go_sem] max2_int min2_int max_two min_two max_three min_three max_four min_four
set_option linter.unusedVariables false
set_option linter.unusedSimpArgs false
def fetterlockref1_bit.f (l0 : List Int) (a1 : Int) : Option (Int) := (fetterlockref1_digit.f l0 (wrap64 (Int.tdiv a1 16))).bind fun t563 => (if 0 ≤ (Int.tmod a1 16) then (some (Go.bits .and .i64 (shr .i64 t563 (Int.tmod a1 16)) 1)) else (none))
set_option maxHeartbeats 8000000 in
set_option maxRecDepth 100000 in
theorem fetterlockref1_bit.calls (A0 : Option Addr) (c0 : Nat) (l0 : List Int) (a1 : Int) (r : Int) (w : World) (hr0 : Kd.C (Kd.int .i64) w A0 l0.length l0) (hc0 : l0.length ≤ c0) (h : fetterlockref1_bit.f l0 a1 = some r) :
  Calls Tryd.prog 98 #[.slice A0 l0.length c0, .int .i64 a1] w fun e w' => e = .returned (.int .i64 r) ∧ Drawn0 w w' := by
 have HR0 := Aside0.mk hr0
 have HC0 := Aside0.mk hc0
 clear hr0 hc0
 have H : ((fetterlockref1_digit.f l0 (wrap64 (Int.tdiv a1 16))).bind fun t563 => (if 0 ≤ (Int.tmod a1 16) then (some (Go.bits .and .i64 (shr .i64 t563 (Int.tmod a1 16)) 1)) else (none))) = some r := h
 clear h
 replace H := Option.bind_eq_some_iff.mp H
 obtain ⟨t563, A30, H⟩ := H
 replace H : (if 0 ≤ (Int.tmod a1 16) then (some (Go.bits .and .i64 (shr .i64 t563 (Int.tmod a1 16)) 1)) else (none)) = some r := H
 have A3 := Aside0.mk A30
 clear A30
 obtain ⟨ji4, hji4⟩ : ∃ j_ : Int, (Int.tmod a1 16) = j_ := ⟨_, rfl⟩
 replace H : (if 0 ≤ (ji4) then (some (Go.bits .and .i64 (shr .i64 t563 (ji4)) 1)) else (none)) = some r := by first | (rw [hji4] at H; exact H) | (simp only [hji4] at H ⊢; exact H)
 (try rw [hji4] at A3)
 by_cases c5 : 0 ≤ (ji4)
 ·rw [if_pos c5] at H
  have c5b0 := eq_true c5
  have c5b1 : decide (0 ≤ (ji4)) = true := decide_eq_true c5
  clear c5
  obtain ⟨ji6, hji6⟩ : ∃ j_ : Int, (shr .i64 t563 (ji4)) = j_ := ⟨_, rfl⟩
  replace H : (some (Go.bits .and .i64 (ji6) 1)) = some r := by first | (rw [hji6] at H; exact H) | (simp only [hji6] at H ⊢; exact H)
  (try rw [hji6] at A3)
  have hji6_ : (t563 / 2 ^ min (ji4).toNat 64) = ji6 := hji6
  have hji6z : (ji4) ≤ 64 → (t563 / 2 ^ (ji4).toNat) = ji6 := shr_small hji6
  obtain rfl := Option.some.inj H
  go_enter Tryd.func98, Tryd.ntmps98
  go_wp2_with (first | ((with_reducible refine gate_callee (f := 97) rfl ?_); refine goesL_ (some 8) rfl rfl Tryd.func97 (by kernel_rfl) rfl #[.slice A0 l0.length c0, .int .i64 (wrap64 (Int.tdiv a1 16))] rfl zq5 ?_; (with_reducible refine (fetterlockref1_digit.calls _ _ l0 (wrap64 (Int.tdiv a1 16)) t563 _ ?side1 ?side2 A3.out).mono ?_); (case side1 => repeat (first | exact HR0.out | (with_reducible refine Kd.C_alloc ?_ _) | (with_reducible refine Kd.C_drewN ?_ _) | (with_reducible refine Kd.C_drew ?_))); (case side2 => exact HC0.out); rintro e w' ⟨rfl, ⟨nd, rfl⟩⟩; refine ⟨_, rfl, ?_⟩))
  go_ret
  exact ⟨by first | rfl | (simp; done) | (simp only [← hji4, ← hji6] <;> (first | rfl | simp)) | (simp [*]; done), by repeat (first | exact Drawn0.refl _ | apply Drawn0.step)⟩
 ·rw [if_neg c5] at H
  exact absurd H (by simp)
end Go.Proofs.YtemnjgkicndmjaaDoor.Q
namespace Go.Proofs.YtemnjgkicndmjaaDoor.Q
open Go.RowKit Go.Proofs.YtemnjgkicndmjaaDoorW.PrintWords Go.Proofs.YtemnjgkicndmjaaDoorW.PrintLast Go.Proofs.YtemnjgkicndmjaaDoorW.PrintMore
attribute [local go_sem] max2_int min2_int max_two min_two max_three min_three max_four min_four
set_option linter.unusedVariables false
set_option linter.unusedSimpArgs false
def fetterlockref1_half.l0 : Nat → List Int → List Int → Int → Int → Option (List Int)
 | 0, _, _, _, _ => none
 | k + 1, x0, x3, x9, x10 => if x10 < x9 then (if 0 ≤ x10 then (if x10 < (x0.length : Int) then ((fetterlockref1_digit.f x0 (wrap64 (x10 + 1))).bind fun t568 => (if x10 < (x3.length : Int) then (fetterlockref1_half.l0 k x0 (x3.set (x10 : Int).toNat (Go.bits .or .i64 ((rd x0 x10) / 2) (wrap64 ((Go.bits .and .i64 t568 1) * 32768)))) x9 (wrap64 (x10 + 1))) else (none))) else (none)) else (none)) else ((fetterlockref1_trim.f k x3).bind fun t570 => (some t570))
def fetterlockref1_half.f (k : Nat) (l0 : List Int) : Option (List Int) := if 0 ≤ (l0.length : Int) then (if ((l0.length : Int) : Int).toNat ≤ 35184372088832 then (fetterlockref1_half.l0 k l0 (List.replicate ((l0.length : Int) : Int).toNat 0) (l0.length : Int) 0) else (none)) else (none)
theorem fetterlockref1_half.mono_l : ∀ k, (∀ y0 y1 y2 y3, LeO (fetterlockref1_half.l0 k y0 y1 y2 y3) (fetterlockref1_half.l0 (k + 1) y0 y1 y2 y3))
 | 0 => fun _ _ _ _ r h => by simp [fetterlockref1_half.l0] at h
 | k + 1 => by
  have ih0 := fetterlockref1_half.mono_l k
  ·intro y0 y1 y2 y3
   unfold fetterlockref1_half.l0
   repeat' first
   | (with_reducible exact ih0 _ _ _ _)
   | (with_reducible exact fetterlockref1_trim.mono _ _)
   | (with_reducible exact LeO.refl _)
   | (with_reducible exact LeO.none _)
   | (with_reducible refine LeO.ite ?_ ?_)
   | (with_reducible refine LeO.bind ?_ (fun _ => ?_))
   | exact ih0 _ _ _ _
   | exact fetterlockref1_trim.mono _ _
   | exact LeO.none _
   | refine LeO.ite ?_ ?_
   | refine LeO.bind ?_ (fun _ => ?_)
theorem fetterlockref1_half.mono : ∀ a0 k, LeO (fetterlockref1_half.f k a0) (fetterlockref1_half.f (k + 1) a0) := by
 intro a0 k
 have ih0 := fetterlockref1_half.mono_l k
 unfold fetterlockref1_half.f
 repeat' first
   | (with_reducible exact ih0 _ _ _ _)
   | (with_reducible exact fetterlockref1_trim.mono _ _)
   | (with_reducible exact LeO.refl _)
   | (with_reducible exact LeO.none _)
   | (with_reducible refine LeO.ite ?_ ?_)
   | (with_reducible refine LeO.bind ?_ (fun _ => ?_))
   | exact ih0 _ _ _ _
   | exact fetterlockref1_trim.mono _ _
   | exact LeO.none _
   | refine LeO.ite ?_ ?_
   | refine LeO.bind ?_ (fun _ => ?_)
def fetterlockref1_half.T5 : Bool × List (List Nat × List Nat) := (true, [([], []), ([], []), ([], []), ([], []), ([2, 3], [2, 3]), ([4], [4]), ([5], [5]), ([], []), ([], []), ([8], [8]), ([7, 9], [7, 9]), ([10], [10]), ([11], [11]), ([6, 12], [6, 12]), ([0, 1, 0, 1, 2, 3, 4, 5, 6, 7, 8, 9, 10, 11, 12, 13], [0, 1]), ([14, 13, 10, 0, 1, 2, 3, 4, 5, 6, 7, 8, 9, 10, 11, 12, 13], [13, 14])])
def fetterlockref1_half.B5 : List Nat := [0, 0, 0, 0, 12, 28, 60, 0, 0, 256, 896, 1920, 3968, 8188, 16383, 32767]
theorem fetterlockref1_half.tab5 : rtab .any (opsOf Tryd.f99 5) = fetterlockref1_half.T5 := by kernel_rfl
theorem fetterlockref1_half.bits5 : waitsOk fetterlockref1_half.T5.2 fetterlockref1_half.B5 = true := by kernel_rfl
set_option maxHeartbeats 8000000 in
set_option maxRecDepth 100000 in
theorem fetterlockref1_half.calls (k : Nat) (A0 : Option Addr) (c0 : Nat) (l0 : List Int) (r : List Int) (w : World) (hr0 : Kd.C (Kd.int .i64) w A0 l0.length l0) (hc0 : l0.length ≤ c0) (h : fetterlockref1_half.f k l0 = some r) :
  Calls Tryd.prog 99 #[.slice A0 l0.length c0] w fun e w' => ∃ v0_ : Value, e = .returned (v0_) ∧ Kd.V (Kd.int .i64) 3 w' w.heap.size (fun k_ => (w.heap.size ≤ k_)) v0_ r ∧ Below w.heap.size w w' := by
 have HR0 := Aside0.mk hr0
 have HC0 := Aside0.mk hc0
 clear hr0 hc0
 have HB := Aside0.mk (Below.refl w.heap.size w)
 have H : (if 0 ≤ (l0.length : Int) then (if ((l0.length : Int) : Int).toNat ≤ 35184372088832 then (fetterlockref1_half.l0 k l0 (List.replicate ((l0.length : Int) : Int).toNat 0) (l0.length : Int) 0) else (none)) else (none)) = some r := h
 clear h
 by_cases c2 : 0 ≤ (l0.length : Int)
 ·rw [if_pos c2] at H
  have c2b0 := eq_true c2
  have c2b1 : decide (0 ≤ (l0.length : Int)) = true := decide_eq_true c2
  clear c2
  by_cases c3 : ((l0.length : Int) : Int).toNat ≤ 35184372088832
  ·rw [if_pos c3] at H
   have c3b0 := eq_true c3
   have c3b1 : decide (((l0.length : Int) : Int).toNat ≤ 35184372088832) = true := decide_eq_true c3
   clear c3
   obtain ⟨y564, hy564⟩ : ∃ y_ : List Int, y_ = (List.replicate ((l0.length : Int) : Int).toNat 0) := ⟨_, rfl⟩
   replace H : (fetterlockref1_half.l0 k l0 y564 (l0.length : Int) 0) = some r := by first | (rw [hy564]; with_reducible exact H) | (have H2_ := (Option.bind_some _ _).symm.trans H; rw [hy564]; with_reducible exact H2_) | (have H2_ := (Option.bind_some _ _).symm.trans H; with_reducible exact H2_) | with_reducible exact H | (rw [hy564]; exact H) | exact H
   have Ny564 := Aside0.mk hy564
   clear hy564
   have H' := Aside0.mk H
   clear H
   go_enter Tryd.func99, Tryd.ntmps99
   go_wp2_with (first | ((with_reducible refine gate_dst (N := 7) rfl ?_); refine Kd.R_make (Kd.int .i64) _ 3 rfl (N := 7) rfl 39 _ _ rfl (l0.length : Int) rfl rfl Tryd.underlying39 (.int .i64 0) 8 info3 rfl (by decide) (by omega) 0 (ok := fun _ => True) (okp := fun _ => True) rfl (fun _ hk => hk) trivial zq6 (Nat.le_trans (Nat.mul_le_mul_right _ (zq6 : (l0.length : Int).toNat ≤ 35184372088832)) (by omega)) (Below.refl _ _) (Nat.le_refl _) ?_; intro v565 w4 ho5 hb hg_ hnew_; clear hg_ hnew_; (first | rw [← Ny564.out] at ho5 | (simp only [Int.reduceToNat] at ho5; rw [← Ny564.out] at ho5)); have n0_ := Aside0.mk (Kd.R_lower (Kd.R_newM (M := fun k_ => (w.heap.size ≤ k_)) ho5 (below_size zq1) (fun k_ h_ => h_)) (below_size zq1)); have n1_ := Aside0.mk (below_step zq1 hb); clear HB; have HO566 := n0_; have HB := n1_; clear n0_ n1_; clear hb ho5))
   go_loopg [10] k (fun kq v10 w' => ∃ (x3_1 : List Int) (x10_1 : Int), v10 = .int .i64 x10_1 ∧ Aside0 (fetterlockref1_half.l0 kq l0 x3_1 (l0.length : Int) x10_1 = some r) ∧ Aside0 (kq ≤ k) ∧ Aside0 (Kd.R (Kd.int .i64) 3 w' w.heap.size (fun k_ => (w.heap.size ≤ k_)) v565 x3_1) ∧ Aside0 (Below w.heap.size w w'))
   case atStart => exact ⟨(y564), (0), zq8, H', ⟨Nat.le_refl _⟩, ⟨by (with_reducible repeat (first | apply Kd.R_alloc | apply Kd.R_drewN | apply Kd.R_drew)); exact Kd.R_mono HO566.out (fun _ hk => hk.1)⟩, ⟨zq1⟩⟩
   case round =>
    clear H'
    try clear c2
    try clear c2b0
    try clear c2b1
    try clear p2
    try clear c3
    try clear c3b0
    try clear c3b1
    obtain ⟨x3_1, x10_1, rfl, HA, HK1, HO_3, HB⟩ := hrel
    cases gk with
    | zero => exact absurd HA.out (by simp [fetterlockref1_half.l0])
    | succ k1 =>
     have H := HA.out
     clear HA
     simp only [fetterlockref1_half.l0] at H
     by_cases c6 : x10_1 < (l0.length : Int)
     ·rw [if_pos c6] at H
      have c6b0 : decide (x10_1 < (l0.length : Int)) = true := decide_eq_true c6
      clear c6
      by_cases c7 : 0 ≤ x10_1
      ·rw [if_pos c7] at H
       have c7b0 : decide (0 ≤ x10_1) = true := decide_eq_true c7
       clear c7
       by_cases c8 : x10_1 < (l0.length : Int)
       ·rw [if_pos c8] at H
        have c8b0 : decide (x10_1 < (l0.length : Int)) = true := decide_eq_true c8
        clear c8
        replace H := Option.bind_eq_some_iff.mp H
        obtain ⟨t568, A90, H⟩ := H
        replace H : (if x10_1 < (x3_1.length : Int) then (fetterlockref1_half.l0 k1 l0 (x3_1.set (x10_1 : Int).toNat (Go.bits .or .i64 ((rd l0 x10_1) / 2) (wrap64 ((Go.bits .and .i64 t568 1) * 32768)))) (l0.length : Int) (wrap64 (x10_1 + 1))) else (none)) = some r := H
        have A9 := Aside0.mk A90
        clear A90
        by_cases c10 : x10_1 < (x3_1.length : Int)
        ·rw [if_pos c10] at H
         have c10b0 : decide (x10_1 < (x3_1.length : Int)) = true := decide_eq_true c10
         clear c10
         obtain ⟨y569, hy569⟩ : ∃ y_ : List Int, y_ = (x3_1.set (x10_1 : Int).toNat (Go.bits .or .i64 ((rd l0 x10_1) / 2) (wrap64 ((Go.bits .and .i64 t568 1) * 32768)))) := ⟨_, rfl⟩
         replace H : (fetterlockref1_half.l0 k1 l0 y569 (l0.length : Int) (wrap64 (x10_1 + 1))) = some r := by first | (rw [hy569]; with_reducible exact H) | (have H2_ := (Option.bind_some _ _).symm.trans H; rw [hy569]; with_reducible exact H2_) | (have H2_ := (Option.bind_some _ _).symm.trans H; with_reducible exact H2_) | with_reducible exact H | (rw [hy569]; exact H) | exact H
         have Ny569 := Aside0.mk hy569
         clear hy569
         have H' := Aside0.mk H
         clear H
         try go_wp2
         have n0_ := Aside0.mk (Kd.R_drew HO_3.out)
         have n1_ := Aside0.mk (below_drew1 HB.out)
         clear HO_3
         clear HB
         have HO_3 := n0_
         have HB := n1_
         clear n0_ n1_
         have p567 : 0 ≤ (x10_1 : Int) := zq6
         have q567 : x10_1 < (l0.length : Int) := zq6
         obtain ⟨ad567, e567, hx567_0⟩ := Kd.at_int HR0.out x10_1 p567 q567
         have hw567_0 := hx567_0
         cases e567
         replace hx567_0 := (HB.out.cell (World.block_lt_of_cell? w _ hx567_0)).trans hx567_0
         replace p567 := eq_true p567
         replace q567 := eq_true q567
         refine start_ (n := 16) (S := fun w' => w'.cell? (ad567.add (x10_1).toNat) = some (.int .i64 (rd l0 x10_1))) (ds := [15]) #[false, false, false, false, false, false, false, false, false, false, false, false, false, false, false, false] (by kernel_rfl) rfl rfl (((HB.out.cell (World.block_lt_of_cell? w _ hw567_0)).trans hw567_0)) (fun hHeld => ?_); refine with_tabW fetterlockref1_half.tab5 fetterlockref1_half.bits5 (fun HT_ HW_ => ?_)
         generalize wr.drew = w12 at HO_3 HB hx567_0 hHeld ⊢
         refine pure_ (i := 0) (N := some 13) (v := ?_) (a' := ?_) #[true, false, false, false, false, false, false, false, false, false, false, false, false, false, false, false] rfl rfl (any_of HT_.out (by kernel_rfl)) (fun _ _ _ h => h) (Or.inl ⟨by rfl, ?_⟩) ?_ ?_
         rotate_left
         ·intro w'
          go_simp
          with_reducible rfl
         rotate_left
         ·simp only [Act.put, List.setIfInBounds_toArray, List.set_cons_zero, List.set_cons_succ, i64_w, i32_w]
          rfl
         refine pure_ (i := 1) (N := some 14) (v := ?_) (a' := ?_) #[true, true, false, false, false, false, false, false, false, false, false, false, false, false, false, false] rfl rfl (any_of HT_.out (by kernel_rfl)) (fun _ _ _ h => h) (Or.inl ⟨by rfl, ?_⟩) ?_ ?_
         rotate_left
         ·intro w'
          go_simp
          with_reducible rfl
         rotate_left
         ·simp only [Act.put, List.setIfInBounds_toArray, List.set_cons_zero, List.set_cons_succ, i64_w, i32_w]
          rfl
         refine pure_ (i := 2) (N := some 15) (v := ?_) (a' := ?_) #[true, true, true, false, false, false, false, false, false, false, false, false, false, false, false, false] rfl rfl (any_of HT_.out (by kernel_rfl)) (fun _ _ _ h => h) (Or.inl ⟨by rfl, ?_⟩) ?_ ?_
         rotate_left
         ·intro w'
          go_simp
          with_reducible rfl
         rotate_left
         ·simp only [Act.put, List.setIfInBounds_toArray, List.set_cons_zero, List.set_cons_succ, i64_w, i32_w]
          rfl
         refine pure_ (i := 3) (N := some 16) (v := ?_) (a' := ?_) #[true, true, true, true, false, false, false, false, false, false, false, false, false, false, false, false] rfl rfl (any_of HT_.out (by kernel_rfl)) (fun _ _ _ h => h) (Or.inl ⟨by rfl, ?_⟩) ?_ ?_
         rotate_left
         ·intro w'
          go_simp
          with_reducible rfl
         rotate_left
         ·simp only [Act.put, List.setIfInBounds_toArray, List.set_cons_zero, List.set_cons_succ, i64_w, i32_w]
          rfl
         refine pure_ (i := 4) (N := some 17) (v := ?_) (a' := ?_) #[true, true, true, true, true, false, false, false, false, false, false, false, false, false, false, false] rfl rfl (any_of HT_.out (by kernel_rfl)) (fun _ _ _ h => h) (Or.inl ⟨by rfl, ?_⟩) ?_ ?_
         rotate_left
         ·intro w'
          go_simp
          with_reducible rfl
         rotate_left
         ·simp only [Act.put, List.setIfInBounds_toArray, List.set_cons_zero, List.set_cons_succ, i64_w, i32_w]
          rfl
         refine pure_ (i := 7) (N := some 20) (v := ?_) (a' := ?_) #[true, true, true, true, true, false, false, true, false, false, false, false, false, false, false, false] rfl rfl (any_of HT_.out (by kernel_rfl)) (fun _ _ _ h => h) (Or.inl ⟨by rfl, ?_⟩) ?_ ?_
         rotate_left
         ·intro w'
          go_simp
          with_reducible rfl
         rotate_left
         ·simp only [Act.put, List.setIfInBounds_toArray, List.set_cons_zero, List.set_cons_succ, i64_w, i32_w]
          rfl
         refine pure_ (i := 8) (N := some 21) (v := ?_) (a' := ?_) #[true, true, true, true, true, false, false, true, true, false, false, false, false, false, false, false] rfl rfl (any_of HT_.out (by kernel_rfl)) (fun _ _ _ h => h) (Or.inl ⟨by rfl, ?_⟩) ?_ ?_
         rotate_left
         ·intro w'
          go_simp
          with_reducible rfl
         rotate_left
         ·simp only [Act.put, List.setIfInBounds_toArray, List.set_cons_zero, List.set_cons_succ, i64_w, i32_w]
          rfl
         refine pure_ (i := 9) (N := some 22) (v := ?_) (a' := ?_) #[true, true, true, true, true, false, false, true, true, true, false, false, false, false, false, false] rfl rfl (any_of HT_.out (by kernel_rfl)) (fun _ _ _ h => h) (Or.inl ⟨by rfl, ?_⟩) ?_ ?_
         rotate_left
         ·intro w'
          go_simp
          with_reducible rfl
         rotate_left
         ·simp only [Act.put, List.setIfInBounds_toArray, List.set_cons_zero, List.set_cons_succ, i64_w, i32_w]
          rfl
         refine take_ (i := 5) (N := some 18) (v := ?_) (a' := ?_) #[true, true, true, true, true, true, false, true, true, true, false, false, false, false, false, false] rfl rfl (take_ofW HT_.out HW_.out (by kernel_rfl)) (fun _ _ _ h => h) (Or.inl ⟨by rfl, ?_⟩) hHeld ?_ ?_
         rotate_left
         ·intro w' s0
          go_simp
          with_reducible rfl
         rotate_left
         ·simp only [Act.put, List.setIfInBounds_toArray, List.set_cons_zero, List.set_cons_succ, i64_w, i32_w]
          rfl
         refine pure_ (i := 6) (N := some 19) (v := ?_) (a' := ?_) #[true, true, true, true, true, true, true, true, true, true, false, false, false, false, false, false] rfl rfl (any_of HT_.out (by kernel_rfl)) (fun _ _ _ h => h) (Or.inl ⟨by rfl, ?_⟩) ?_ ?_
         rotate_left
         ·intro w'
          go_simp
          with_reducible rfl
         rotate_left
         ·simp only [Act.put, List.setIfInBounds_toArray, List.set_cons_zero, List.set_cons_succ, i64_w, i32_w]
          rfl
         refine one_ (i := 10) (N := some 23) #[true, true, true, true, true, true, true, true, true, true, true, false, false, false, false, false] rfl rfl (one_of HT_.out (by kernel_rfl)) (by decide) (fun K hK => ?_)
         refine goes_ Tryd.func97 (by kernel_rfl) rfl #[.slice (some ad567) l0.length c0, .int .i64 (wrap64 (x10_1 + 1))] (by rfl) rfl rfl zq5 ?_
         with_reducible refine (fetterlockref1_digit.calls _ _ l0 (wrap64 (x10_1 + 1)) t568 _ ?side1 ?side2 A9.out).mono ?_
         (case side1 => repeat (first | exact (Kd.C_below HR0.out HB.out) | (with_reducible refine Kd.C_alloc ?_ _) | (with_reducible refine Kd.C_drewN ?_ _) | (with_reducible refine Kd.C_drew ?_)))
         (case side2 => exact HC0.out)
         rintro e w' ⟨rfl, ⟨nd, rfl⟩⟩
         refine ⟨_, rfl, ?_⟩
         have p11 : 0 ≤ (x10_1 : Int) := zq6
         have q11 : (x10_1 : Int) < ((x3_1.length : Int) : Int) := zq6
         obtain ⟨go11, co11, eo11, gb11, gl11, cl11, HG11⟩ := Kd.R_form HO_3.out (by omega)
         (first | cases eo11 | (injection eo11 with ea_ en_ ec_; (first | subst ea_ | (injection ea_ with ea_; subst ea_)); subst ec_; clear en_))
         have GB11 := Aside0.mk gb11
         have GG11 := Aside0.mk HG11
         clear gb11 gl11 HG11
         obtain ⟨hx11_0, hf11_0⟩ := Kd.R_celln 0 HO_3.out (x10_1 : Int) p11 q11
         replace p11 := eq_true p11
         replace q11 := eq_true q11
         have HP13 := Kd.R_putn HO_3.out (x10_1 : Int) (Go.bits .or .i64 ((rd l0 x10_1) / 2) (wrap64 ((Go.bits .and .i64 t568 1) * 32768)))
         rw [← Ny569.out] at HP13
         have HQ13 := Aside0.mk HP13
         clear HP13
         refine hK.out _ _ (((HB.out.cell (World.block_lt_of_cell? w _ hw567_0)).trans hw567_0)) (fun hHeld => ?_)
         clear hK K
         refine norm_ (a' := ?_) ?_ ?_
         rotate_left
         ·show Act.put _ (some 23) _ = _
          simp only [Act.put, List.setIfInBounds_toArray, List.set_cons_zero, List.set_cons_succ, i64_w, i32_w]
          rfl
         refine pure_ (i := 11) (N := some 24) (v := ?_) (a' := ?_) #[true, true, true, true, true, true, true, true, true, true, true, true, false, false, false, false] rfl rfl (any_of HT_.out (by kernel_rfl)) (fun _ _ _ h => h) (Or.inl ⟨by rfl, ?_⟩) ?_ ?_
         rotate_left
         ·intro w'
          go_simp
          with_reducible rfl
         rotate_left
         ·simp only [Act.put, List.setIfInBounds_toArray, List.set_cons_zero, List.set_cons_succ, i64_w, i32_w]
          rfl
         refine pure_ (i := 12) (N := some 25) (v := ?_) (a' := ?_) #[true, true, true, true, true, true, true, true, true, true, true, true, true, false, false, false] rfl rfl (any_of HT_.out (by kernel_rfl)) (fun _ _ _ h => h) (Or.inl ⟨by rfl, ?_⟩) ?_ ?_
         rotate_left
         ·intro w'
          go_simp
          with_reducible rfl
         rotate_left
         ·simp only [Act.put, List.setIfInBounds_toArray, List.set_cons_zero, List.set_cons_succ, i64_w, i32_w]
          rfl
         refine pure_ (i := 13) (N := some 26) (v := ?_) (a' := ?_) #[true, true, true, true, true, true, true, true, true, true, true, true, true, true, false, false] rfl rfl (any_of HT_.out (by kernel_rfl)) (fun _ _ _ h => h) (Or.inl ⟨by rfl, ?_⟩) ?_ ?_
         rotate_left
         ·intro w'
          go_simp
          with_reducible rfl
         rotate_left
         ·simp only [Act.put, List.setIfInBounds_toArray, List.set_cons_zero, List.set_cons_succ, i64_w, i32_w]
          rfl
         refine pure_ (i := 14) (N := some 27) (v := ?_) (a' := ?_) #[true, true, true, true, true, true, true, true, true, true, true, true, true, true, true, false] rfl rfl (any_of HT_.out (by kernel_rfl)) (fun _ _ _ h => h) (Or.inl ⟨by rfl, ?_⟩) ?_ ?_
         rotate_left
         ·intro w'
          go_simp
          with_reducible rfl
         rotate_left
         ·simp only [Act.put, List.setIfInBounds_toArray, List.set_cons_zero, List.set_cons_succ, i64_w, i32_w]
          rfl
         refine last_ (i := 15) (N := none) #[true, true, true, true, true, true, true, true, true, true, true, true, true, true, true, true] rfl rfl (one_of HT_.out (by kernel_rfl)) (by decide) (fun K hK => ?_)
         refine skip_ (w1 := ?_) (by rfl) rfl ?_ ?_
         rotate_left
         ·go_simp
          rfl
         refine hK.out _ _ ?_
         clear hK K
         refine done_ (done_of HT_.out (by kernel_rfl)) ?_
         try go_wp2
         go_roundg k1
         case measure => have := HK1.out; omega
         case rel => exact ⟨(y569), (wrap64 (x10_1 + 1)), zq8, H', ⟨by have := HK1.out; omega⟩, ⟨by (with_reducible repeat (first | apply Kd.R_alloc | apply Kd.R_drewN | apply Kd.R_drew)); exact HQ13.out⟩, ⟨by repeat (first | (with_reducible first | exact HB.out | apply below_alloc | apply pw_below_drewN | apply below_drew1 | refine below_set ?_ GB11.out) | exact HB.out)⟩⟩
        ·rw [if_neg c10] at H
         exact absurd H (by simp)
       ·rw [if_neg c8] at H
        exact absurd H (by simp)
      ·rw [if_neg c7] at H
       exact absurd H (by simp)
     ·rw [if_neg c6] at H
      have c6b0 : decide (x10_1 < (l0.length : Int)) = false := decide_eq_false c6
      clear c6
      replace H := Option.bind_eq_some_iff.mp H
      obtain ⟨t570, A140, H⟩ := H
      replace H : (some t570) = some r := H
      have A14 := Aside0.mk A140
      clear A140
      obtain rfl := Option.some.inj H
      obtain ⟨Ao15, co15, eo15⟩ := Kd.R_slice HO_3.out
      subst eo15
      go_wp2_with (first | ((with_reducible refine gate_callee (f := 96) rfl ?_); refine goesL_ (some 30) rfl rfl Tryd.func96 (by kernel_rfl) rfl #[.slice Ao15 x3_1.length co15] rfl zq5 ?_; (with_reducible refine (fetterlockref1_trim.calls k1 (fun k_ => some k_ = (.slice Ao15 x3_1.length co15 : Value).ownBlock) _ _ x3_1 t570 _ ?side1 A14.out).mono ?_); (case side1 => exact Kd.R_V (Kd.R_tight rfl (HO_3.out))); rintro e w16 ⟨v571, rfl, ho0, hb⟩; refine ⟨_, rfl, ?_⟩; have n0_ := Aside0.mk (Kd.R_below (zq4 HO_3.out) hb); have n1_ := Aside0.mk (Kd.V_lower (Kd.V_mono (ok' := fun k_ => (w.heap.size ≤ k_)) ho0 (fun k_ hk_ => Or.elim hk_ (fun hs_ => ((HO_3.out).1 k_ hs_.symm)) (fun hn_ => (Nat.le_trans (below_size zq1) hn_)))) (below_size zq1)); have n2_ := Aside0.mk (below_step zq1 hb); clear HO_3; clear HB; have HO_3 := n0_; have HO572 := n1_; have HB := n2_; clear n0_ n1_ n2_; (try clear hb); (try clear hb2); (try clear hk); (try clear hi); (try clear ho0)))
      go_ret
      exact ⟨_, by first | rfl | (simp [errW_none, errW_some] <;> rfl) | (simp [*, errW_none, errW_some] <;> rfl), by (with_reducible repeat (first | apply Kd.V_alloc | apply Kd.V_drewN | apply Kd.V_drew)); exact HO572.out, by repeat (first | (with_reducible first | exact HB.out | apply below_alloc | apply pw_below_drewN | apply below_drew1) | exact HB.out)⟩
  ·rw [if_neg c3] at H
   exact absurd H (by simp)
 ·rw [if_neg c2] at H
  exact absurd H (by simp)
end Go.Proofs.YtemnjgkicndmjaaDoor.Q
namespace Go.Proofs.YtemnjgkicndmjaaDoor.Q
open Go.RowKit Go.Proofs.YtemnjgkicndmjaaDoorW.PrintWords Go.Proofs.YtemnjgkicndmjaaDoorW.PrintLast Go.Proofs.YtemnjgkicndmjaaDoorW.PrintMore
attribute [local go_sem] max2_int min2_int max_two min_two max_three min_three max_four min_four
set_option linter.unusedVariables false
set_option linter.unusedSimpArgs false
mutual
def fetterlockref1_GcdNat.l0 : Nat → List Int → List Int → Int → Option (List Int)
 | 0, _, _, _ => none
 | k + 1, x0, x1, x5 => (fetterlockref1_bit.f x0 0).bind fun t573 => (if t573 = 0 then ((fetterlockref1_bit.f x1 0).bind fun t574 => (fetterlockref1_GcdNat.j1 k x0 x1 x5 (t574 == 0))) else (fetterlockref1_GcdNat.j1 k x0 x1 x5 false))
def fetterlockref1_GcdNat.j1 : Nat → List Int → List Int → Int → Bool → Option (List Int)
 | 0, _, _, _, _ => none
 | k + 1, x0, x1, x5, x22 => if x22 = true then ((fetterlockref1_half.f k x0).bind fun t575 => ((fetterlockref1_half.f k x1).bind fun t578 => (fetterlockref1_GcdNat.l0 k t575 t578 (wrap64 (x5 + 1))))) else (fetterlockref1_GcdNat.l1 k x0 x1 x5)
def fetterlockref1_GcdNat.l1 : Nat → List Int → List Int → Int → Option (List Int)
 | 0, _, _, _ => none
 | k + 1, x0, x1, x5 => if (x0.length : Int) > 0 then (fetterlockref1_GcdNat.l2 k x0 x1 x5) else ((fetterlockref1_ShlNat.f k x1 x5).bind fun t581 => (some t581))
def fetterlockref1_GcdNat.l2 : Nat → List Int → List Int → Int → Option (List Int)
 | 0, _, _, _ => none
 | k + 1, x0, x1, x5 => (fetterlockref1_bit.f x0 0).bind fun t584 => (if t584 = 0 then ((fetterlockref1_half.f k x0).bind fun t585 => (fetterlockref1_GcdNat.l2 k t585 x1 x5)) else (fetterlockref1_GcdNat.l3 k x0 x1 x5))
def fetterlockref1_GcdNat.l3 : Nat → List Int → List Int → Int → Option (List Int)
 | 0, _, _, _ => none
 | k + 1, x0, x1, x5 => (fetterlockref1_bit.f x1 0).bind fun t588 => (if t588 = 0 then ((fetterlockref1_half.f k x1).bind fun t589 => (fetterlockref1_GcdNat.l3 k x0 t589 x5)) else ((fetterlockref1_CmpNat.f k x0 x1).bind fun t592 => (if t592 < 0 then ((fetterlockref1_SubNat.f k x1 x0).bind fun t593 => (fetterlockref1_GcdNat.l1 k t593 x0 x5)) else ((fetterlockref1_SubNat.f k x0 x1).bind fun t596 => (fetterlockref1_GcdNat.l1 k t596 x1 x5)))))
end
def fetterlockref1_GcdNat.f (k : Nat) (l0 : List Int) (l1 : List Int) : Option (List Int) := if (l0.length : Int) = 0 then (some l1) else (if (l1.length : Int) = 0 then (some l0) else (fetterlockref1_GcdNat.l0 k l0 l1 0))
theorem fetterlockref1_GcdNat.mono_l : ∀ k, (∀ y0 y1 y2, LeO (fetterlockref1_GcdNat.l0 k y0 y1 y2) (fetterlockref1_GcdNat.l0 (k + 1) y0 y1 y2)) ∧ (∀ y0 y1 y2 y3, LeO (fetterlockref1_GcdNat.j1 k y0 y1 y2 y3) (fetterlockref1_GcdNat.j1 (k + 1) y0 y1 y2 y3)) ∧ (∀ y0 y1 y2, LeO (fetterlockref1_GcdNat.l1 k y0 y1 y2) (fetterlockref1_GcdNat.l1 (k + 1) y0 y1 y2)) ∧ (∀ y0 y1 y2, LeO (fetterlockref1_GcdNat.l2 k y0 y1 y2) (fetterlockref1_GcdNat.l2 (k + 1) y0 y1 y2)) ∧ (∀ y0 y1 y2, LeO (fetterlockref1_GcdNat.l3 k y0 y1 y2) (fetterlockref1_GcdNat.l3 (k + 1) y0 y1 y2))
 | 0 => ⟨fun _ _ _ r h => by simp [fetterlockref1_GcdNat.l0] at h, fun _ _ _ _ r h => by simp [fetterlockref1_GcdNat.j1] at h, fun _ _ _ r h => by simp [fetterlockref1_GcdNat.l1] at h, fun _ _ _ r h => by simp [fetterlockref1_GcdNat.l2] at h, fun _ _ _ r h => by simp [fetterlockref1_GcdNat.l3] at h⟩
 | k + 1 => by
  obtain ⟨ih0, ih1, ih2, ih3, ih4⟩ := fetterlockref1_GcdNat.mono_l k
  refine ⟨?_, ?_, ?_, ?_, ?_⟩
  ·intro y0 y1 y2
   unfold fetterlockref1_GcdNat.l0
   repeat' first
   | (with_reducible exact ih0 _ _ _)
   | (with_reducible exact ih1 _ _ _ _)
   | (with_reducible exact ih2 _ _ _)
   | (with_reducible exact ih3 _ _ _)
   | (with_reducible exact ih4 _ _ _)
   | (with_reducible exact fetterlockref1_CmpNat.mono _ _ _)
   | (with_reducible exact fetterlockref1_ShlNat.mono _ _ _)
   | (with_reducible exact fetterlockref1_SubNat.mono _ _ _)
   | (with_reducible exact fetterlockref1_half.mono _ _)
   | (with_reducible exact LeO.refl _)
   | (with_reducible exact LeO.none _)
   | (with_reducible refine LeO.ite ?_ ?_)
   | (with_reducible refine LeO.bind ?_ (fun _ => ?_))
   | exact ih0 _ _ _
   | exact ih1 _ _ _ _
   | exact ih2 _ _ _
   | exact ih3 _ _ _
   | exact ih4 _ _ _
   | exact fetterlockref1_CmpNat.mono _ _ _
   | exact fetterlockref1_ShlNat.mono _ _ _
   | exact fetterlockref1_SubNat.mono _ _ _
   | exact fetterlockref1_half.mono _ _
   | exact LeO.none _
   | refine LeO.ite ?_ ?_
   | refine LeO.bind ?_ (fun _ => ?_)
  ·intro y0 y1 y2 y3
   unfold fetterlockref1_GcdNat.j1
   repeat' first
   | (with_reducible exact ih0 _ _ _)
   | (with_reducible exact ih1 _ _ _ _)
   | (with_reducible exact ih2 _ _ _)
   | (with_reducible exact ih3 _ _ _)
   | (with_reducible exact ih4 _ _ _)
   | (with_reducible exact fetterlockref1_CmpNat.mono _ _ _)
   | (with_reducible exact fetterlockref1_ShlNat.mono _ _ _)
   | (with_reducible exact fetterlockref1_SubNat.mono _ _ _)
   | (with_reducible exact fetterlockref1_half.mono _ _)
   | (with_reducible exact LeO.refl _)
   | (with_reducible exact LeO.none _)
   | (with_reducible refine LeO.ite ?_ ?_)
   | (with_reducible refine LeO.bind ?_ (fun _ => ?_))
   | exact ih0 _ _ _
   | exact ih1 _ _ _ _
   | exact ih2 _ _ _
   | exact ih3 _ _ _
   | exact ih4 _ _ _
   | exact fetterlockref1_CmpNat.mono _ _ _
   | exact fetterlockref1_ShlNat.mono _ _ _
   | exact fetterlockref1_SubNat.mono _ _ _
   | exact fetterlockref1_half.mono _ _
   | exact LeO.none _
   | refine LeO.ite ?_ ?_
   | refine LeO.bind ?_ (fun _ => ?_)
  ·intro y0 y1 y2
   unfold fetterlockref1_GcdNat.l1
   repeat' first
   | (with_reducible exact ih0 _ _ _)
   | (with_reducible exact ih1 _ _ _ _)
   | (with_reducible exact ih2 _ _ _)
   | (with_reducible exact ih3 _ _ _)
   | (with_reducible exact ih4 _ _ _)
   | (with_reducible exact fetterlockref1_CmpNat.mono _ _ _)
   | (with_reducible exact fetterlockref1_ShlNat.mono _ _ _)
   | (with_reducible exact fetterlockref1_SubNat.mono _ _ _)
   | (with_reducible exact fetterlockref1_half.mono _ _)
   | (with_reducible exact LeO.refl _)
   | (with_reducible exact LeO.none _)
   | (with_reducible refine LeO.ite ?_ ?_)
   | (with_reducible refine LeO.bind ?_ (fun _ => ?_))
   | exact ih0 _ _ _
   | exact ih1 _ _ _ _
   | exact ih2 _ _ _
   | exact ih3 _ _ _
   | exact ih4 _ _ _
   | exact fetterlockref1_CmpNat.mono _ _ _
   | exact fetterlockref1_ShlNat.mono _ _ _
   | exact fetterlockref1_SubNat.mono _ _ _
   | exact fetterlockref1_half.mono _ _
   | exact LeO.none _
   | refine LeO.ite ?_ ?_
   | refine LeO.bind ?_ (fun _ => ?_)
  ·intro y0 y1 y2
   unfold fetterlockref1_GcdNat.l2
   repeat' first
   | (with_reducible exact ih0 _ _ _)
   | (with_reducible exact ih1 _ _ _ _)
   | (with_reducible exact ih2 _ _ _)
   | (with_reducible exact ih3 _ _ _)
   | (with_reducible exact ih4 _ _ _)
   | (with_reducible exact fetterlockref1_CmpNat.mono _ _ _)
   | (with_reducible exact fetterlockref1_ShlNat.mono _ _ _)
   | (with_reducible exact fetterlockref1_SubNat.mono _ _ _)
   | (with_reducible exact fetterlockref1_half.mono _ _)
   | (with_reducible exact LeO.refl _)
   | (with_reducible exact LeO.none _)
   | (with_reducible refine LeO.ite ?_ ?_)
   | (with_reducible refine LeO.bind ?_ (fun _ => ?_))
   | exact ih0 _ _ _
   | exact ih1 _ _ _ _
   | exact ih2 _ _ _
   | exact ih3 _ _ _
   | exact ih4 _ _ _
   | exact fetterlockref1_CmpNat.mono _ _ _
   | exact fetterlockref1_ShlNat.mono _ _ _
   | exact fetterlockref1_SubNat.mono _ _ _
   | exact fetterlockref1_half.mono _ _
   | exact LeO.none _
   | refine LeO.ite ?_ ?_
   | refine LeO.bind ?_ (fun _ => ?_)
  ·intro y0 y1 y2
   unfold fetterlockref1_GcdNat.l3
   repeat' first
   | (with_reducible exact ih0 _ _ _)
   | (with_reducible exact ih1 _ _ _ _)
   | (with_reducible exact ih2 _ _ _)
   | (with_reducible exact ih3 _ _ _)
   | (with_reducible exact ih4 _ _ _)
   | (with_reducible exact fetterlockref1_CmpNat.mono _ _ _)
   | (with_reducible exact fetterlockref1_ShlNat.mono _ _ _)
   | (with_reducible exact fetterlockref1_SubNat.mono _ _ _)
   | (with_reducible exact fetterlockref1_half.mono _ _)
   | (with_reducible exact LeO.refl _)
   | (with_reducible exact LeO.none _)
   | (with_reducible refine LeO.ite ?_ ?_)
   | (with_reducible refine LeO.bind ?_ (fun _ => ?_))
   | exact ih0 _ _ _
   | exact ih1 _ _ _ _
   | exact ih2 _ _ _
   | exact ih3 _ _ _
   | exact ih4 _ _ _
   | exact fetterlockref1_CmpNat.mono _ _ _
   | exact fetterlockref1_ShlNat.mono _ _ _
   | exact fetterlockref1_SubNat.mono _ _ _
   | exact fetterlockref1_half.mono _ _
   | exact LeO.none _
   | refine LeO.ite ?_ ?_
   | refine LeO.bind ?_ (fun _ => ?_)
theorem fetterlockref1_GcdNat.mono : ∀ a0 a1 k, LeO (fetterlockref1_GcdNat.f k a0 a1) (fetterlockref1_GcdNat.f (k + 1) a0 a1) := by
 intro a0 a1 k
 obtain ⟨ih0, ih1, ih2, ih3, ih4⟩ := fetterlockref1_GcdNat.mono_l k
 unfold fetterlockref1_GcdNat.f
 repeat' first
   | (with_reducible exact ih0 _ _ _)
   | (with_reducible exact ih1 _ _ _ _)
   | (with_reducible exact ih2 _ _ _)
   | (with_reducible exact ih3 _ _ _)
   | (with_reducible exact ih4 _ _ _)
   | (with_reducible exact fetterlockref1_CmpNat.mono _ _ _)
   | (with_reducible exact fetterlockref1_ShlNat.mono _ _ _)
   | (with_reducible exact fetterlockref1_SubNat.mono _ _ _)
   | (with_reducible exact fetterlockref1_half.mono _ _)
   | (with_reducible exact LeO.refl _)
   | (with_reducible exact LeO.none _)
   | (with_reducible refine LeO.ite ?_ ?_)
   | (with_reducible refine LeO.bind ?_ (fun _ => ?_))
   | exact ih0 _ _ _
   | exact ih1 _ _ _ _
   | exact ih2 _ _ _
   | exact ih3 _ _ _
   | exact ih4 _ _ _
   | exact fetterlockref1_CmpNat.mono _ _ _
   | exact fetterlockref1_ShlNat.mono _ _ _
   | exact fetterlockref1_SubNat.mono _ _ _
   | exact fetterlockref1_half.mono _ _
   | exact LeO.none _
   | refine LeO.ite ?_ ?_
   | refine LeO.bind ?_ (fun _ => ?_)
set_option maxHeartbeats 8000000 in
set_option maxRecDepth 100000 in
theorem fetterlockref1_GcdNat.calls (k : Nat) (P0_ : Nat → Prop) (A0 : Option Addr) (c0 : Nat) (l0 : List Int) (P1_ : Nat → Prop) (A1 : Option Addr) (c1 : Nat) (l1 : List Int) (r : List Int) (w : World) (hs0 : Kd.V (Kd.int .i64) 3 w w.heap.size (fun k_ => P0_ k_) (.slice A0 l0.length c0) l0) (hs1 : Kd.V (Kd.int .i64) 3 w w.heap.size (fun k_ => P1_ k_) (.slice A1 l1.length c1) l1) (h : fetterlockref1_GcdNat.f k l0 l1 = some r) :
  Calls Tryd.prog 47 #[.slice A0 l0.length c0, .slice A1 l1.length c1] w fun e w' => ∃ v0_ : Value, e = .returned (v0_) ∧ Kd.V (Kd.int .i64) 3 w' w.heap.size (fun k_ => ((P0_ k_ ∨ P1_ k_) ∨ w.heap.size ≤ k_)) v0_ r ∧ Below w.heap.size w w' := by
 have HO0 := Aside0.mk (show Kd.V (Kd.int .i64) 3 w w.heap.size (fun k_ => ((P0_ k_ ∨ P1_ k_) ∨ w.heap.size ≤ k_)) (.slice A0 l0.length c0) l0 from Kd.V_mono hs0 (fun k_ hk => .inl (.inl hk)))
 have HO1 := Aside0.mk (show Kd.V (Kd.int .i64) 3 w w.heap.size (fun k_ => ((P0_ k_ ∨ P1_ k_) ∨ w.heap.size ≤ k_)) (.slice A1 l1.length c1) l1 from Kd.V_mono hs1 (fun k_ hk => .inl (.inr hk)))
 have HB := Aside0.mk (Below.refl w.heap.size w)
 have H : (if (l0.length : Int) = 0 then (some l1) else (if (l1.length : Int) = 0 then (some l0) else (fetterlockref1_GcdNat.l0 k l0 l1 0))) = some r := h
 clear h
 by_cases c3 : (l0.length : Int) = 0
 ·rw [if_pos c3] at H
  have c3b0 : ((l0.length : Int) == 0) = true := beq_iff_eq.mpr c3
  have c3b1 : ((l0.length : Int) != 0) = false := bne_eq_false_iff_eq.mpr c3
  clear c3
  obtain rfl := Option.some.inj H
  go_enter Tryd.func47, Tryd.ntmps47
  go_wp2
  go_ret
  exact ⟨_, by first | rfl | (simp [errW_none, errW_some] <;> rfl) | (simp [*, errW_none, errW_some] <;> rfl), by (with_reducible repeat (first | apply Kd.V_alloc | apply Kd.V_drewN | apply Kd.V_drew)); exact HO1.out, by repeat (first | (with_reducible first | exact HB.out | apply below_alloc | apply pw_below_drewN | apply below_drew1) | exact HB.out)⟩
 ·rw [if_neg c3] at H
  have c3b0 : ((l0.length : Int) == 0) = false := beq_eq_false_iff_ne.mpr c3
  have c3b1 : ((l0.length : Int) != 0) = true := bne_iff_ne.mpr c3
  have c3b2 : ¬ (l0 = []) := fun h_ => c3 (by rw [h_]; rfl)
  by_cases c4 : (l1.length : Int) = 0
  ·rw [if_pos c4] at H
   have c4b0 : ((l1.length : Int) == 0) = true := beq_iff_eq.mpr c4
   have c4b1 : ((l1.length : Int) != 0) = false := bne_eq_false_iff_eq.mpr c4
   clear c4
   obtain rfl := Option.some.inj H
   go_enter Tryd.func47, Tryd.ntmps47
   go_wp2
   go_ret
   exact ⟨_, by first | rfl | (simp [errW_none, errW_some] <;> rfl) | (simp [*, errW_none, errW_some] <;> rfl), by (with_reducible repeat (first | apply Kd.V_alloc | apply Kd.V_drewN | apply Kd.V_drew)); exact HO0.out, by repeat (first | (with_reducible first | exact HB.out | apply below_alloc | apply pw_below_drewN | apply below_drew1) | exact HB.out)⟩
  ·rw [if_neg c4] at H
   have c4b0 : ((l1.length : Int) == 0) = false := beq_eq_false_iff_ne.mpr c4
   have c4b1 : ((l1.length : Int) != 0) = true := bne_iff_ne.mpr c4
   have c4b2 : ¬ (l1 = []) := fun h_ => c4 (by rw [h_]; rfl)
   have H' := Aside0.mk H
   clear H
   go_enter Tryd.func47, Tryd.ntmps47
   go_wp2
   go_loopg [0, 1, 5] k (fun kq v0 v1 v5 w' => ∃ (x0_1 : List Int) (x1_1 : List Int) (x5_1 : Int), v5 = .int .i64 x5_1 ∧ Aside0 (fetterlockref1_GcdNat.l0 kq x0_1 x1_1 x5_1 = some r) ∧ Aside0 (kq ≤ k) ∧ Aside0 (Kd.V (Kd.int .i64) 3 w' w.heap.size (fun k_ => ((P0_ k_ ∨ P1_ k_) ∨ w.heap.size ≤ k_)) v0 x0_1) ∧ Aside0 (Kd.V (Kd.int .i64) 3 w' w.heap.size (fun k_ => ((P0_ k_ ∨ P1_ k_) ∨ w.heap.size ≤ k_)) v1 x1_1) ∧ Aside0 (Below w.heap.size w w'))
   case atStart => exact ⟨(l0), (l1), (0), zq8, H', ⟨Nat.le_refl _⟩, ⟨by (with_reducible repeat (first | apply Kd.V_alloc | apply Kd.V_drewN | apply Kd.V_drew)); exact HO0.out⟩, ⟨by (with_reducible repeat (first | apply Kd.V_alloc | apply Kd.V_drewN | apply Kd.V_drew)); exact HO1.out⟩, ⟨zq1⟩⟩
   case round =>
    clear H'
    try clear c1
    try clear p2
    try clear c3
    try clear c3b0
    try clear c3b1
    try clear c3b2
    try clear c4
    try clear c4b0
    try clear c4b1
    try clear c4b2
    obtain ⟨x0_1, x1_1, x5_1, rfl, HA, HK1, HO_0, HO_1, HB⟩ := hrel
    cases gk with
    | zero => exact absurd HA.out (by simp [fetterlockref1_GcdNat.l0])
    | succ k1 =>
     have H := HA.out
     clear HA
     simp only [fetterlockref1_GcdNat.l0] at H
     have HC5 := Aside0.mk H
     clear H
     go_upto_region 6 with (fail)
     go_cut [22] (fun v22 wc => ∃ (kq : Nat) (x22_4 : Bool), v22 = .bool x22_4 ∧ Aside0 (fetterlockref1_GcdNat.j1 kq x0_1 x1_1 x5_1 x22_4 = some r) ∧ Aside0 (kq ≤ k1) ∧ Aside0 (Kd.V (Kd.int .i64) 3 wc w.heap.size (fun k_ => ((P0_ k_ ∨ P1_ k_) ∨ w.heap.size ≤ k_)) u0 x0_1) ∧ Aside0 (Kd.V (Kd.int .i64) 3 wc w.heap.size (fun k_ => ((P0_ k_ ∨ P1_ k_) ∨ w.heap.size ≤ k_)) u1 x1_1) ∧ Aside0 (Below w.heap.size w wc))
     case first =>
      have H := HC5.out
      clear HC5
      replace H := Option.bind_eq_some_iff.mp H
      obtain ⟨t573, A60, H⟩ := H
      replace H : (if t573 = 0 then ((fetterlockref1_bit.f x1_1 0).bind fun t574 => (fetterlockref1_GcdNat.j1 k1 x0_1 x1_1 x5_1 (t574 == 0))) else (fetterlockref1_GcdNat.j1 k1 x0_1 x1_1 x5_1 false)) = some r := H
      have A6 := Aside0.mk A60
      clear A60
      by_cases c7 : t573 = 0
      ·rw [if_pos c7] at H
       have c7b0 : (t573 == 0) = true := beq_iff_eq.mpr c7
       have c7b1 : (t573 != 0) = false := bne_eq_false_iff_eq.mpr c7
       clear c7
       (first | rw [c7b0] | (simp only [i64_w, i32_w]; rw [c7b0]) | skip)
       replace H := Option.bind_eq_some_iff.mp H
       obtain ⟨t574, A80, H⟩ := H
       replace H : (fetterlockref1_GcdNat.j1 k1 x0_1 x1_1 x5_1 (t574 == 0)) = some r := H
       have A8 := Aside0.mk A80
       clear A80
       have H' := Aside0.mk H
       clear H
       obtain ⟨Ao9, co9, eo9⟩ := Kd.V_slice HO_0.out
       subst eo9
       go_wp2_with (first | ((with_reducible refine gate_callee (f := 98) rfl ?_); refine goesL_ (some 16) rfl rfl Tryd.func98 (by kernel_rfl) rfl #[.slice Ao9 x0_1.length co9, .int .i64 0] rfl zq5 ?_; (with_reducible refine (fetterlockref1_bit.calls _ _ x0_1 0 t573 _ ?side1 ?side2 A6.out).mono ?_); (case side1 => repeat (first | exact (Kd.V_reads' HO_0.out).2.2 | (with_reducible refine Kd.C_alloc ?_ _) | (with_reducible refine Kd.C_drewN ?_ _) | (with_reducible refine Kd.C_drew ?_))); (case side2 => exact (Kd.V_reads' HO_0.out).2.1); rintro e w' ⟨rfl, ⟨nd, rfl⟩⟩; refine ⟨_, rfl, ?_⟩; obtain ⟨Ao10, co10, eo10⟩ := Kd.V_slice HO_1.out; subst eo10) | (go_at_call 98; (with_reducible refine (fetterlockref1_bit.calls _ _ x1_1 0 t574 _ ?side1 ?side2 A8.out).mono ?_); (case side1 => repeat (first | exact (Kd.V_reads' HO_1.out).2.2 | (with_reducible refine Kd.C_alloc ?_ _) | (with_reducible refine Kd.C_drewN ?_ _) | (with_reducible refine Kd.C_drew ?_))); (case side2 => exact (Kd.V_reads' HO_1.out).2.1); rintro e w' ⟨rfl, ⟨nd, rfl⟩⟩))
       go_meet
       case rel => exact ⟨_, ((t574 == 0)), zq8, H', ⟨by have := HK1.out; first | omega | exact Nat.le_refl _⟩, ⟨by (with_reducible repeat (first | apply Kd.V_alloc | apply Kd.V_drewN | apply Kd.V_drew)); exact HO_0.out⟩, ⟨by (with_reducible repeat (first | apply Kd.V_alloc | apply Kd.V_drewN | apply Kd.V_drew)); exact HO_1.out⟩, ⟨zq1⟩⟩
      ·rw [if_neg c7] at H
       have c7b0 : (t573 == 0) = false := beq_eq_false_iff_ne.mpr c7
       have c7b1 : (t573 != 0) = true := bne_iff_ne.mpr c7
       (first | rw [c7b0] | (simp only [i64_w, i32_w]; rw [c7b0]) | skip)
       have H' := Aside0.mk H
       clear H
       obtain ⟨Ao11, co11, eo11⟩ := Kd.V_slice HO_0.out
       subst eo11
       go_wp2_with (first | ((with_reducible refine gate_callee (f := 98) rfl ?_); refine goesL_ (some 16) rfl rfl Tryd.func98 (by kernel_rfl) rfl #[.slice Ao11 x0_1.length co11, .int .i64 0] rfl zq5 ?_; (with_reducible refine (fetterlockref1_bit.calls _ _ x0_1 0 t573 _ ?side1 ?side2 A6.out).mono ?_); (case side1 => repeat (first | exact (Kd.V_reads' HO_0.out).2.2 | (with_reducible refine Kd.C_alloc ?_ _) | (with_reducible refine Kd.C_drewN ?_ _) | (with_reducible refine Kd.C_drew ?_))); (case side2 => exact (Kd.V_reads' HO_0.out).2.1); rintro e w' ⟨rfl, ⟨nd, rfl⟩⟩; refine ⟨_, rfl, ?_⟩))
       go_meet
       case rel => exact ⟨_, (false), zq8, H', ⟨by have := HK1.out; first | omega | exact Nat.le_refl _⟩, ⟨by (with_reducible repeat (first | apply Kd.V_alloc | apply Kd.V_drewN | apply Kd.V_drew)); exact HO_0.out⟩, ⟨by (with_reducible repeat (first | apply Kd.V_alloc | apply Kd.V_drewN | apply Kd.V_drew)); exact HO_1.out⟩, ⟨zq1⟩⟩
     case rest =>
      clear HC5
      try clear c1
      try clear p2
      try clear c3
      try clear c3b0
      try clear c3b1
      try clear c3b2
      try clear c4
      try clear c4b0
      try clear c4b1
      try clear c4b2
      try clear c7
      try clear c7b0
      try clear c7b1
      try clear c9
      try clear p2
      obtain ⟨kq, x22_4, rfl, HA, HJ4, HO_0, HO_1, HB⟩ := hcut
      cases kq with
      | zero => exact absurd HA.out (by simp [fetterlockref1_GcdNat.j1])
      | succ kj4 =>
       have H := HA.out
       clear HA
       simp only [fetterlockref1_GcdNat.j1] at H
       by_cases c12 : x22_4 = true
       ·subst c12
        have H1 : ((fetterlockref1_half.f kj4 x0_1).bind fun t575 => ((fetterlockref1_half.f kj4 x1_1).bind fun t578 => (fetterlockref1_GcdNat.l0 kj4 t575 t578 (wrap64 (x5_1 + 1))))) = some r := by rw [if_pos rfl] at H; exact H
        clear H
        have H := H1
        clear H1
        replace H := Option.bind_eq_some_iff.mp H
        obtain ⟨t575, A130, H⟩ := H
        replace H : ((fetterlockref1_half.f kj4 x1_1).bind fun t578 => (fetterlockref1_GcdNat.l0 kj4 t575 t578 (wrap64 (x5_1 + 1)))) = some r := H
        have A13 := Aside0.mk A130
        clear A130
        replace H := Option.bind_eq_some_iff.mp H
        obtain ⟨t578, A140, H⟩ := H
        replace H : (fetterlockref1_GcdNat.l0 kj4 t575 t578 (wrap64 (x5_1 + 1))) = some r := H
        have A14 := Aside0.mk A140
        clear A140
        have H' := Aside0.mk H
        clear H
        obtain ⟨Ao15, co15, eo15⟩ := Kd.V_slice HO_0.out
        subst eo15
        go_wp2_with (first | ((with_reducible refine gate_callee (f := 99) rfl ?_); refine goesL_ (some 24) rfl rfl Tryd.func99 (by kernel_rfl) rfl #[.slice Ao15 x0_1.length co15] rfl zq5 ?_; (with_reducible refine (fetterlockref1_half.calls kj4 _ _ x0_1 t575 _ ?side1 ?side2 A13.out).mono ?_); (case side1 => repeat (first | exact (Kd.V_reads' HO_0.out).2.2 | (with_reducible refine Kd.C_alloc ?_ _) | (with_reducible refine Kd.C_drewN ?_ _) | (with_reducible refine Kd.C_drew ?_))); (case side2 => exact (Kd.V_reads' HO_0.out).2.1); rintro e w16 ⟨v576, rfl, ho0, hb⟩; refine ⟨_, rfl, ?_⟩; have n0_ := Aside0.mk (Kd.V_below (zq3 HO_0.out) hb); have n1_ := Aside0.mk (Kd.V_below (zq3 HO_1.out) hb); have n2_ := Aside0.mk (Kd.V_lower (Kd.V_mono (ok' := fun k_ => ((P0_ k_ ∨ P1_ k_) ∨ w.heap.size ≤ k_)) ho0 (fun k_ hk_ => (.inr (Nat.le_trans (below_size zq1) hk_)))) (below_size zq1)); have n3_ := Aside0.mk (below_step zq1 hb); clear HO_0; clear HO_1; clear HB; have HO_0 := n0_; have HO_1 := n1_; have HO577 := n2_; have HB := n3_; clear n0_ n1_ n2_ n3_; (try clear hb); (try clear hb2); (try clear hk); (try clear hi); (try clear ho0); obtain ⟨Ao17, co17, eo17⟩ := Kd.V_slice HO_1.out; subst eo17) | ((with_reducible refine gate_callee (f := 99) rfl ?_); refine goesL_ (some 26) rfl rfl Tryd.func99 (by kernel_rfl) rfl #[.slice Ao17 x1_1.length co17] rfl zq5 ?_; (with_reducible refine (fetterlockref1_half.calls kj4 _ _ x1_1 t578 _ ?side1 ?side2 A14.out).mono ?_); (case side1 => repeat (first | exact (Kd.V_reads' HO_1.out).2.2 | (with_reducible refine Kd.C_alloc ?_ _) | (with_reducible refine Kd.C_drewN ?_ _) | (with_reducible refine Kd.C_drew ?_))); (case side2 => exact (Kd.V_reads' HO_1.out).2.1); rintro e w18 ⟨v579, rfl, ho0, hb⟩; refine ⟨_, rfl, ?_⟩; have n0_ := Aside0.mk (Kd.V_below (zq3 HO_0.out) hb); have n1_ := Aside0.mk (Kd.V_below (zq3 HO_1.out) hb); have n2_ := Aside0.mk (Kd.V_below (zq3 HO577.out) hb); have n3_ := Aside0.mk (Kd.V_lower (Kd.V_mono (ok' := fun k_ => ((P0_ k_ ∨ P1_ k_) ∨ w.heap.size ≤ k_)) ho0 (fun k_ hk_ => (.inr (Nat.le_trans (below_size zq1) hk_)))) (below_size zq1)); have n4_ := Aside0.mk (below_step zq1 hb); clear HO_0; clear HO_1; clear HO577; clear HB; have HO_0 := n0_; have HO_1 := n1_; have HO577 := n2_; have HO580 := n3_; have HB := n4_; clear n0_ n1_ n2_ n3_ n4_; (try clear hb); (try clear hb2); (try clear hk); (try clear hi); (try clear ho0)))
        go_roundg kj4
        case measure => have := HK1.out; have := HJ4.out; omega
        case rel => exact ⟨(t575), (t578), (wrap64 (x5_1 + 1)), zq8, H', ⟨by have := HK1.out; have := HJ4.out; omega⟩, ⟨by (with_reducible repeat (first | apply Kd.V_alloc | apply Kd.V_drewN | apply Kd.V_drew)); exact HO577.out⟩, ⟨by (with_reducible repeat (first | apply Kd.V_alloc | apply Kd.V_drewN | apply Kd.V_drew)); exact HO580.out⟩, ⟨zq1⟩⟩
       ·replace c12 := Bool.eq_false_iff.mpr c12
        subst c12
        have H1 : (fetterlockref1_GcdNat.l1 kj4 x0_1 x1_1 x5_1) = some r := by rw [if_neg (show ¬ (false = true) by decide)] at H; exact H
        clear H
        have H := H1
        clear H1
        have H' := Aside0.mk H
        clear H
        go_wp2
        go_loopg [0, 1] kj4 (fun kq v0 v1 w' => ∃ (x0_3 : List Int) (x1_3 : List Int), Aside0 (fetterlockref1_GcdNat.l1 kq x0_3 x1_3 x5_1 = some r) ∧ Aside0 (kq ≤ kj4) ∧ Aside0 (Kd.V (Kd.int .i64) 3 w' w.heap.size (fun k_ => ((P0_ k_ ∨ P1_ k_) ∨ w.heap.size ≤ k_)) v0 x0_3) ∧ Aside0 (Kd.V (Kd.int .i64) 3 w' w.heap.size (fun k_ => ((P0_ k_ ∨ P1_ k_) ∨ w.heap.size ≤ k_)) v1 x1_3) ∧ Aside0 (Below w.heap.size w w'))
        case atStart => exact ⟨(x0_1), (x1_1), H', ⟨Nat.le_refl _⟩, ⟨by (with_reducible repeat (first | apply Kd.V_alloc | apply Kd.V_drewN | apply Kd.V_drew)); exact HO_0.out⟩, ⟨by (with_reducible repeat (first | apply Kd.V_alloc | apply Kd.V_drewN | apply Kd.V_drew)); exact HO_1.out⟩, ⟨zq1⟩⟩
        case round =>
         clear H'
         try clear c1
         try clear p2
         try clear c3
         try clear c3b0
         try clear c3b1
         try clear c3b2
         try clear c4
         try clear c4b0
         try clear c4b1
         try clear c4b2
         try clear p6
         try clear c7
         try clear c7b0
         try clear c7b1
         try clear c9
         try clear c12
         try clear p2
         obtain ⟨x0_3, x1_3, HA, HK3, HO_0, HO_1, HB⟩ := hrel
         cases gk with
         | zero => exact absurd HA.out (by simp [fetterlockref1_GcdNat.l1])
         | succ k3 =>
          have H := HA.out
          clear HA
          simp only [fetterlockref1_GcdNat.l1] at H
          by_cases c19 : (x0_3.length : Int) > 0
          ·rw [if_pos c19] at H
           have c19b0 : decide (0 < (x0_3.length : Int)) = true := decide_eq_true c19
           have c19b1 : decide (0 < x0_3.length) = true := decide_eq_true (by omega)
           clear c19
           have H' := Aside0.mk H
           clear H
           obtain ⟨Ao20, co20, eo20⟩ := Kd.V_slice HO_0.out
           subst eo20
           go_wp2
           go_loopg [0] k3 (fun kq v0 w' => ∃ (x0_4 : List Int), Aside0 (fetterlockref1_GcdNat.l2 kq x0_4 x1_3 x5_1 = some r) ∧ Aside0 (kq ≤ k3) ∧ Aside0 (Kd.V (Kd.int .i64) 3 w' w.heap.size (fun k_ => ((P0_ k_ ∨ P1_ k_) ∨ w.heap.size ≤ k_)) v0 x0_4) ∧ Aside0 (Kd.V (Kd.int .i64) 3 w' w.heap.size (fun k_ => ((P0_ k_ ∨ P1_ k_) ∨ w.heap.size ≤ k_)) u1 x1_3) ∧ Aside0 (Below w.heap.size w w'))
           case atStart => exact ⟨(x0_3), H', ⟨Nat.le_refl _⟩, ⟨by (with_reducible repeat (first | apply Kd.V_alloc | apply Kd.V_drewN | apply Kd.V_drew)); exact HO_0.out⟩, ⟨by (with_reducible repeat (first | apply Kd.V_alloc | apply Kd.V_drewN | apply Kd.V_drew)); exact HO_1.out⟩, ⟨zq1⟩⟩
           case round =>
            clear H'
            try clear c1
            try clear p2
            try clear c3
            try clear c3b0
            try clear c3b1
            try clear c3b2
            try clear c4
            try clear c4b0
            try clear c4b1
            try clear c4b2
            try clear p6
            try clear c7
            try clear c7b0
            try clear c7b1
            try clear c9
            try clear c12
            try clear c19
            try clear c19b0
            try clear c19b1
            try clear p2
            try clear p6
            obtain ⟨x0_4, HA, HK4, HO_0, HO_1, HB⟩ := hrel
            cases gk with
            | zero => exact absurd HA.out (by simp [fetterlockref1_GcdNat.l2])
            | succ k4 =>
             have H := HA.out
             clear HA
             simp only [fetterlockref1_GcdNat.l2] at H
             replace H := Option.bind_eq_some_iff.mp H
             obtain ⟨t584, A210, H⟩ := H
             replace H : (if t584 = 0 then ((fetterlockref1_half.f k4 x0_4).bind fun t585 => (fetterlockref1_GcdNat.l2 k4 t585 x1_3 x5_1)) else (fetterlockref1_GcdNat.l3 k4 x0_4 x1_3 x5_1)) = some r := H
             have A21 := Aside0.mk A210
             clear A210
             by_cases c22 : t584 = 0
             ·rw [if_pos c22] at H
              have c22b0 : (t584 == 0) = true := beq_iff_eq.mpr c22
              have c22b1 : (t584 != 0) = false := bne_eq_false_iff_eq.mpr c22
              clear c22
              replace H := Option.bind_eq_some_iff.mp H
              obtain ⟨t585, A230, H⟩ := H
              replace H : (fetterlockref1_GcdNat.l2 k4 t585 x1_3 x5_1) = some r := H
              have A23 := Aside0.mk A230
              clear A230
              have H' := Aside0.mk H
              clear H
              obtain ⟨Ao24, co24, eo24⟩ := Kd.V_slice HO_0.out
              subst eo24
              go_wp2_with (first | ((with_reducible refine gate_callee (f := 98) rfl ?_); refine goesL_ (some 33) rfl rfl Tryd.func98 (by kernel_rfl) rfl #[.slice Ao24 x0_4.length co24, .int .i64 0] rfl zq5 ?_; (with_reducible refine (fetterlockref1_bit.calls _ _ x0_4 0 t584 _ ?side1 ?side2 A21.out).mono ?_); (case side1 => repeat (first | exact (Kd.V_reads' HO_0.out).2.2 | (with_reducible refine Kd.C_alloc ?_ _) | (with_reducible refine Kd.C_drewN ?_ _) | (with_reducible refine Kd.C_drew ?_))); (case side2 => exact (Kd.V_reads' HO_0.out).2.1); rintro e w' ⟨rfl, ⟨nd, rfl⟩⟩; refine ⟨_, rfl, ?_⟩) | ((with_reducible refine gate_callee (f := 99) rfl ?_); refine goesL_ (some 36) rfl rfl Tryd.func99 (by kernel_rfl) rfl #[.slice Ao24 x0_4.length co24] rfl zq5 ?_; (with_reducible refine (fetterlockref1_half.calls k4 _ _ x0_4 t585 _ ?side1 ?side2 A23.out).mono ?_); (case side1 => repeat (first | exact (Kd.V_reads' HO_0.out).2.2 | (with_reducible refine Kd.C_alloc ?_ _) | (with_reducible refine Kd.C_drewN ?_ _) | (with_reducible refine Kd.C_drew ?_))); (case side2 => exact (Kd.V_reads' HO_0.out).2.1); rintro e w25 ⟨v586, rfl, ho0, hb⟩; refine ⟨_, rfl, ?_⟩; have n0_ := Aside0.mk (Kd.V_below (zq3 HO_0.out) hb); have n1_ := Aside0.mk (Kd.V_below (zq3 HO_1.out) hb); have n2_ := Aside0.mk (Kd.V_lower (Kd.V_mono (ok' := fun k_ => ((P0_ k_ ∨ P1_ k_) ∨ w.heap.size ≤ k_)) ho0 (fun k_ hk_ => (.inr (Nat.le_trans (below_size zq1) hk_)))) (below_size zq1)); have n3_ := Aside0.mk (below_step zq1 hb); clear HO_0; clear HO_1; clear HB; have HO_0 := n0_; have HO_1 := n1_; have HO587 := n2_; have HB := n3_; clear n0_ n1_ n2_ n3_; (try clear hb); (try clear hb2); (try clear hk); (try clear hi); (try clear ho0)))
              go_roundg k4
              case measure => have := HK1.out; have := HJ4.out; have := HK3.out; have := HK4.out; omega
              case rel => exact ⟨(t585), H', ⟨by have := HK1.out; have := HJ4.out; have := HK3.out; have := HK4.out; omega⟩, ⟨by (with_reducible repeat (first | apply Kd.V_alloc | apply Kd.V_drewN | apply Kd.V_drew)); exact HO587.out⟩, ⟨by (with_reducible repeat (first | apply Kd.V_alloc | apply Kd.V_drewN | apply Kd.V_drew)); exact HO_1.out⟩, ⟨zq1⟩⟩
             ·rw [if_neg c22] at H
              have c22b0 : (t584 == 0) = false := beq_eq_false_iff_ne.mpr c22
              have c22b1 : (t584 != 0) = true := bne_iff_ne.mpr c22
              have H' := Aside0.mk H
              clear H
              obtain ⟨Ao26, co26, eo26⟩ := Kd.V_slice HO_0.out
              subst eo26
              go_wp2_with (first | ((with_reducible refine gate_callee (f := 98) rfl ?_); refine goesL_ (some 33) rfl rfl Tryd.func98 (by kernel_rfl) rfl #[.slice Ao26 x0_4.length co26, .int .i64 0] rfl zq5 ?_; (with_reducible refine (fetterlockref1_bit.calls _ _ x0_4 0 t584 _ ?side1 ?side2 A21.out).mono ?_); (case side1 => repeat (first | exact (Kd.V_reads' HO_0.out).2.2 | (with_reducible refine Kd.C_alloc ?_ _) | (with_reducible refine Kd.C_drewN ?_ _) | (with_reducible refine Kd.C_drew ?_))); (case side2 => exact (Kd.V_reads' HO_0.out).2.1); rintro e w' ⟨rfl, ⟨nd, rfl⟩⟩; refine ⟨_, rfl, ?_⟩))
              go_loopg [1] k4 (fun kq v1 w' => ∃ (x1_5 : List Int), Aside0 (fetterlockref1_GcdNat.l3 kq x0_4 x1_5 x5_1 = some r) ∧ Aside0 (kq ≤ k4) ∧ Aside0 (Kd.V (Kd.int .i64) 3 w' w.heap.size (fun k_ => ((P0_ k_ ∨ P1_ k_) ∨ w.heap.size ≤ k_)) (.slice Ao26 x0_4.length co26) x0_4) ∧ Aside0 (Kd.V (Kd.int .i64) 3 w' w.heap.size (fun k_ => ((P0_ k_ ∨ P1_ k_) ∨ w.heap.size ≤ k_)) v1 x1_5) ∧ Aside0 (Below w.heap.size w w'))
              case atStart => exact ⟨(x1_3), H', ⟨Nat.le_refl _⟩, ⟨by (with_reducible repeat (first | apply Kd.V_alloc | apply Kd.V_drewN | apply Kd.V_drew)); exact HO_0.out⟩, ⟨by (with_reducible repeat (first | apply Kd.V_alloc | apply Kd.V_drewN | apply Kd.V_drew)); exact HO_1.out⟩, ⟨zq1⟩⟩
              case round =>
               clear H'
               try clear c1
               try clear c2
               try clear p2
               try clear c3
               try clear c3b0
               try clear c3b1
               try clear c3b2
               try clear c4
               try clear c4b0
               try clear c4b1
               try clear c4b2
               try clear p6
               try clear c7
               try clear c7b0
               try clear c7b1
               try clear c9
               try clear c12
               try clear c19
               try clear c19b0
               try clear c19b1
               try clear c22
               try clear c22b0
               try clear c22b1
               try clear p2
               try clear p6
               obtain ⟨x1_5, HA, HK5, HO_0, HO_1, HB⟩ := hrel
               cases gk with
               | zero => exact absurd HA.out (by simp [fetterlockref1_GcdNat.l3])
               | succ k5 =>
                have H := HA.out
                clear HA
                simp only [fetterlockref1_GcdNat.l3] at H
                replace H := Option.bind_eq_some_iff.mp H
                obtain ⟨t588, A270, H⟩ := H
                replace H : (if t588 = 0 then ((fetterlockref1_half.f k5 x1_5).bind fun t589 => (fetterlockref1_GcdNat.l3 k5 x0_4 t589 x5_1)) else ((fetterlockref1_CmpNat.f k5 x0_4 x1_5).bind fun t592 => (if t592 < 0 then ((fetterlockref1_SubNat.f k5 x1_5 x0_4).bind fun t593 => (fetterlockref1_GcdNat.l1 k5 t593 x0_4 x5_1)) else ((fetterlockref1_SubNat.f k5 x0_4 x1_5).bind fun t596 => (fetterlockref1_GcdNat.l1 k5 t596 x1_5 x5_1))))) = some r := H
                have A27 := Aside0.mk A270
                clear A270
                by_cases c28 : t588 = 0
                ·rw [if_pos c28] at H
                 have c28b0 : (t588 == 0) = true := beq_iff_eq.mpr c28
                 have c28b1 : (t588 != 0) = false := bne_eq_false_iff_eq.mpr c28
                 clear c28
                 replace H := Option.bind_eq_some_iff.mp H
                 obtain ⟨t589, A290, H⟩ := H
                 replace H : (fetterlockref1_GcdNat.l3 k5 x0_4 t589 x5_1) = some r := H
                 have A29 := Aside0.mk A290
                 clear A290
                 have H' := Aside0.mk H
                 clear H
                 obtain ⟨Ao30, co30, eo30⟩ := Kd.V_slice HO_1.out
                 subst eo30
                 go_wp2_with (first | ((with_reducible refine gate_callee (f := 98) rfl ?_); refine goesL_ (some 38) rfl rfl Tryd.func98 (by kernel_rfl) rfl #[.slice Ao30 x1_5.length co30, .int .i64 0] rfl zq5 ?_; (with_reducible refine (fetterlockref1_bit.calls _ _ x1_5 0 t588 _ ?side1 ?side2 A27.out).mono ?_); (case side1 => repeat (first | exact (Kd.V_reads' HO_1.out).2.2 | (with_reducible refine Kd.C_alloc ?_ _) | (with_reducible refine Kd.C_drewN ?_ _) | (with_reducible refine Kd.C_drew ?_))); (case side2 => exact (Kd.V_reads' HO_1.out).2.1); rintro e w' ⟨rfl, ⟨nd, rfl⟩⟩; refine ⟨_, rfl, ?_⟩) | ((with_reducible refine gate_callee (f := 99) rfl ?_); refine goesL_ (some 41) rfl rfl Tryd.func99 (by kernel_rfl) rfl #[.slice Ao30 x1_5.length co30] rfl zq5 ?_; (with_reducible refine (fetterlockref1_half.calls k5 _ _ x1_5 t589 _ ?side1 ?side2 A29.out).mono ?_); (case side1 => repeat (first | exact (Kd.V_reads' HO_1.out).2.2 | (with_reducible refine Kd.C_alloc ?_ _) | (with_reducible refine Kd.C_drewN ?_ _) | (with_reducible refine Kd.C_drew ?_))); (case side2 => exact (Kd.V_reads' HO_1.out).2.1); rintro e w31 ⟨v590, rfl, ho0, hb⟩; refine ⟨_, rfl, ?_⟩; have n0_ := Aside0.mk (Kd.V_below (zq3 HO_0.out) hb); have n1_ := Aside0.mk (Kd.V_below (zq3 HO_1.out) hb); have n2_ := Aside0.mk (Kd.V_lower (Kd.V_mono (ok' := fun k_ => ((P0_ k_ ∨ P1_ k_) ∨ w.heap.size ≤ k_)) ho0 (fun k_ hk_ => (.inr (Nat.le_trans (below_size zq1) hk_)))) (below_size zq1)); have n3_ := Aside0.mk (below_step zq1 hb); clear HO_0; clear HO_1; clear HB; have HO_0 := n0_; have HO_1 := n1_; have HO591 := n2_; have HB := n3_; clear n0_ n1_ n2_ n3_; (try clear hb); (try clear hb2); (try clear hk); (try clear hi); (try clear ho0)))
                 go_roundg k5
                 case measure => have := HK1.out; have := HJ4.out; have := HK3.out; have := HK4.out; have := HK5.out; omega
                 case rel => exact ⟨(t589), H', ⟨by have := HK1.out; have := HJ4.out; have := HK3.out; have := HK4.out; have := HK5.out; omega⟩, ⟨by (with_reducible repeat (first | apply Kd.V_alloc | apply Kd.V_drewN | apply Kd.V_drew)); exact HO_0.out⟩, ⟨by (with_reducible repeat (first | apply Kd.V_alloc | apply Kd.V_drewN | apply Kd.V_drew)); exact HO591.out⟩, ⟨zq1⟩⟩
                ·rw [if_neg c28] at H
                 have c28b0 : (t588 == 0) = false := beq_eq_false_iff_ne.mpr c28
                 have c28b1 : (t588 != 0) = true := bne_iff_ne.mpr c28
                 replace H := Option.bind_eq_some_iff.mp H
                 obtain ⟨t592, A320, H⟩ := H
                 replace H : (if t592 < 0 then ((fetterlockref1_SubNat.f k5 x1_5 x0_4).bind fun t593 => (fetterlockref1_GcdNat.l1 k5 t593 x0_4 x5_1)) else ((fetterlockref1_SubNat.f k5 x0_4 x1_5).bind fun t596 => (fetterlockref1_GcdNat.l1 k5 t596 x1_5 x5_1))) = some r := H
                 have A32 := Aside0.mk A320
                 clear A320
                 by_cases c33 : t592 < 0
                 ·rw [if_pos c33] at H
                  have c33b0 : decide (t592 < 0) = true := decide_eq_true c33
                  clear c33
                  replace H := Option.bind_eq_some_iff.mp H
                  obtain ⟨t593, A340, H⟩ := H
                  replace H : (fetterlockref1_GcdNat.l1 k5 t593 x0_4 x5_1) = some r := H
                  have A34 := Aside0.mk A340
                  clear A340
                  have H' := Aside0.mk H
                  clear H
                  obtain ⟨Ao35, co35, eo35⟩ := Kd.V_slice HO_1.out
                  subst eo35
                  go_wp2_with (first | ((with_reducible refine gate_callee (f := 98) rfl ?_); refine goesL_ (some 38) rfl rfl Tryd.func98 (by kernel_rfl) rfl #[.slice Ao35 x1_5.length co35, .int .i64 0] rfl zq5 ?_; (with_reducible refine (fetterlockref1_bit.calls _ _ x1_5 0 t588 _ ?side1 ?side2 A27.out).mono ?_); (case side1 => repeat (first | exact (Kd.V_reads' HO_1.out).2.2 | (with_reducible refine Kd.C_alloc ?_ _) | (with_reducible refine Kd.C_drewN ?_ _) | (with_reducible refine Kd.C_drew ?_))); (case side2 => exact (Kd.V_reads' HO_1.out).2.1); rintro e w' ⟨rfl, ⟨nd, rfl⟩⟩; refine ⟨_, rfl, ?_⟩) | ((with_reducible refine gate_callee (f := 46) rfl ?_); refine goesL_ (some 44) rfl rfl Tryd.func46 (by kernel_rfl) rfl #[.slice Ao26 x0_4.length co26, .slice Ao35 x1_5.length co35] rfl zq5 ?_; (with_reducible refine (fetterlockref1_CmpNat.calls k5 _ _ x0_4 _ _ x1_5 t592 _ ?side1 ?side2 ?side3 ?side4 A32.out).mono ?_); (case side1 => repeat (first | exact (Kd.V_reads' HO_0.out).2.2 | (with_reducible refine Kd.C_alloc ?_ _) | (with_reducible refine Kd.C_drewN ?_ _) | (with_reducible refine Kd.C_drew ?_))); (case side2 => exact (Kd.V_reads' HO_0.out).2.1); (case side3 => repeat (first | exact (Kd.V_reads' HO_1.out).2.2 | (with_reducible refine Kd.C_alloc ?_ _) | (with_reducible refine Kd.C_drewN ?_ _) | (with_reducible refine Kd.C_drew ?_))); (case side4 => exact (Kd.V_reads' HO_1.out).2.1); rintro e w36 ⟨rfl, hb⟩; refine ⟨_, rfl, ?_⟩; have n0_ := Aside0.mk (Kd.V_below (zq3 HO_0.out) hb); have n1_ := Aside0.mk (Kd.V_below (zq3 HO_1.out) hb); have n2_ := Aside0.mk (below_step zq1 hb); clear HO_0; clear HO_1; clear HB; have HO_0 := n0_; have HO_1 := n1_; have HB := n2_; clear n0_ n1_ n2_; (try clear hb); (try clear hb2); (try clear hk); (try clear hi)) | ((with_reducible refine gate_callee (f := 83) rfl ?_); refine goesL_ (some 51) rfl rfl Tryd.func83 (by kernel_rfl) rfl #[.slice Ao35 x1_5.length co35, .slice Ao26 x0_4.length co26] rfl zq5 ?_; (with_reducible refine (fetterlockref1_SubNat.calls k5 _ _ x1_5 _ _ x0_4 t593 _ ?side1 ?side2 ?side3 ?side4 A34.out).mono ?_); (case side1 => repeat (first | exact (Kd.V_reads' HO_1.out).2.2 | (with_reducible refine Kd.C_alloc ?_ _) | (with_reducible refine Kd.C_drewN ?_ _) | (with_reducible refine Kd.C_drew ?_))); (case side2 => exact (Kd.V_reads' HO_1.out).2.1); (case side3 => repeat (first | exact (Kd.V_reads' HO_0.out).2.2 | (with_reducible refine Kd.C_alloc ?_ _) | (with_reducible refine Kd.C_drewN ?_ _) | (with_reducible refine Kd.C_drew ?_))); (case side4 => exact (Kd.V_reads' HO_0.out).2.1); rintro e w37 ⟨v594, rfl, ho0, hb⟩; refine ⟨_, rfl, ?_⟩; have n0_ := Aside0.mk (Kd.V_below (zq3 HO_0.out) hb); have n1_ := Aside0.mk (Kd.V_below (zq3 HO_1.out) hb); have n2_ := Aside0.mk (Kd.V_lower (Kd.V_mono (ok' := fun k_ => ((P0_ k_ ∨ P1_ k_) ∨ w.heap.size ≤ k_)) ho0 (fun k_ hk_ => (.inr (Nat.le_trans (below_size zq1) hk_)))) (below_size zq1)); have n3_ := Aside0.mk (below_step zq1 hb); clear HO_0; clear HO_1; clear HB; have HO_0 := n0_; have HO_1 := n1_; have HO595 := n2_; have HB := n3_; clear n0_ n1_ n2_ n3_; (try clear hb); (try clear hb2); (try clear hk); (try clear hi); (try clear ho0)))
                  go_roundg k5
                  case measure => have := HK1.out; have := HJ4.out; have := HK3.out; have := HK4.out; have := HK5.out; omega
                  case rel => exact ⟨(t593), (x0_4), H', ⟨by have := HK1.out; have := HJ4.out; have := HK3.out; have := HK4.out; have := HK5.out; omega⟩, ⟨by (with_reducible repeat (first | apply Kd.V_alloc | apply Kd.V_drewN | apply Kd.V_drew)); exact HO595.out⟩, ⟨by (with_reducible repeat (first | apply Kd.V_alloc | apply Kd.V_drewN | apply Kd.V_drew)); exact HO_0.out⟩, ⟨zq1⟩⟩
                 ·rw [if_neg c33] at H
                  have c33b0 : decide (t592 < 0) = false := decide_eq_false c33
                  clear c33
                  replace H := Option.bind_eq_some_iff.mp H
                  obtain ⟨t596, A380, H⟩ := H
                  replace H : (fetterlockref1_GcdNat.l1 k5 t596 x1_5 x5_1) = some r := H
                  have A38 := Aside0.mk A380
                  clear A380
                  have H' := Aside0.mk H
                  clear H
                  obtain ⟨Ao39, co39, eo39⟩ := Kd.V_slice HO_1.out
                  subst eo39
                  go_wp2_with (first | ((with_reducible refine gate_callee (f := 98) rfl ?_); refine goesL_ (some 38) rfl rfl Tryd.func98 (by kernel_rfl) rfl #[.slice Ao39 x1_5.length co39, .int .i64 0] rfl zq5 ?_; (with_reducible refine (fetterlockref1_bit.calls _ _ x1_5 0 t588 _ ?side1 ?side2 A27.out).mono ?_); (case side1 => repeat (first | exact (Kd.V_reads' HO_1.out).2.2 | (with_reducible refine Kd.C_alloc ?_ _) | (with_reducible refine Kd.C_drewN ?_ _) | (with_reducible refine Kd.C_drew ?_))); (case side2 => exact (Kd.V_reads' HO_1.out).2.1); rintro e w' ⟨rfl, ⟨nd, rfl⟩⟩; refine ⟨_, rfl, ?_⟩) | ((with_reducible refine gate_callee (f := 46) rfl ?_); refine goesL_ (some 44) rfl rfl Tryd.func46 (by kernel_rfl) rfl #[.slice Ao26 x0_4.length co26, .slice Ao39 x1_5.length co39] rfl zq5 ?_; (with_reducible refine (fetterlockref1_CmpNat.calls k5 _ _ x0_4 _ _ x1_5 t592 _ ?side1 ?side2 ?side3 ?side4 A32.out).mono ?_); (case side1 => repeat (first | exact (Kd.V_reads' HO_0.out).2.2 | (with_reducible refine Kd.C_alloc ?_ _) | (with_reducible refine Kd.C_drewN ?_ _) | (with_reducible refine Kd.C_drew ?_))); (case side2 => exact (Kd.V_reads' HO_0.out).2.1); (case side3 => repeat (first | exact (Kd.V_reads' HO_1.out).2.2 | (with_reducible refine Kd.C_alloc ?_ _) | (with_reducible refine Kd.C_drewN ?_ _) | (with_reducible refine Kd.C_drew ?_))); (case side4 => exact (Kd.V_reads' HO_1.out).2.1); rintro e w40 ⟨rfl, hb⟩; refine ⟨_, rfl, ?_⟩; have n0_ := Aside0.mk (Kd.V_below (zq3 HO_0.out) hb); have n1_ := Aside0.mk (Kd.V_below (zq3 HO_1.out) hb); have n2_ := Aside0.mk (below_step zq1 hb); clear HO_0; clear HO_1; clear HB; have HO_0 := n0_; have HO_1 := n1_; have HB := n2_; clear n0_ n1_ n2_; (try clear hb); (try clear hb2); (try clear hk); (try clear hi)) | ((with_reducible refine gate_callee (f := 83) rfl ?_); refine goesL_ (some 51) rfl rfl Tryd.func83 (by kernel_rfl) rfl #[.slice Ao26 x0_4.length co26, .slice Ao39 x1_5.length co39] rfl zq5 ?_; (with_reducible refine (fetterlockref1_SubNat.calls k5 _ _ x0_4 _ _ x1_5 t596 _ ?side1 ?side2 ?side3 ?side4 A38.out).mono ?_); (case side1 => repeat (first | exact (Kd.V_reads' HO_0.out).2.2 | (with_reducible refine Kd.C_alloc ?_ _) | (with_reducible refine Kd.C_drewN ?_ _) | (with_reducible refine Kd.C_drew ?_))); (case side2 => exact (Kd.V_reads' HO_0.out).2.1); (case side3 => repeat (first | exact (Kd.V_reads' HO_1.out).2.2 | (with_reducible refine Kd.C_alloc ?_ _) | (with_reducible refine Kd.C_drewN ?_ _) | (with_reducible refine Kd.C_drew ?_))); (case side4 => exact (Kd.V_reads' HO_1.out).2.1); rintro e w41 ⟨v597, rfl, ho0, hb⟩; refine ⟨_, rfl, ?_⟩; have n0_ := Aside0.mk (Kd.V_below (zq3 HO_0.out) hb); have n1_ := Aside0.mk (Kd.V_below (zq3 HO_1.out) hb); have n2_ := Aside0.mk (Kd.V_lower (Kd.V_mono (ok' := fun k_ => ((P0_ k_ ∨ P1_ k_) ∨ w.heap.size ≤ k_)) ho0 (fun k_ hk_ => (.inr (Nat.le_trans (below_size zq1) hk_)))) (below_size zq1)); have n3_ := Aside0.mk (below_step zq1 hb); clear HO_0; clear HO_1; clear HB; have HO_0 := n0_; have HO_1 := n1_; have HO598 := n2_; have HB := n3_; clear n0_ n1_ n2_ n3_; (try clear hb); (try clear hb2); (try clear hk); (try clear hi); (try clear ho0)))
                  go_roundg k5
                  case measure => have := HK1.out; have := HJ4.out; have := HK3.out; have := HK4.out; have := HK5.out; omega
                  case rel => exact ⟨(t596), (x1_5), H', ⟨by have := HK1.out; have := HJ4.out; have := HK3.out; have := HK4.out; have := HK5.out; omega⟩, ⟨by (with_reducible repeat (first | apply Kd.V_alloc | apply Kd.V_drewN | apply Kd.V_drew)); exact HO598.out⟩, ⟨by (with_reducible repeat (first | apply Kd.V_alloc | apply Kd.V_drewN | apply Kd.V_drew)); exact HO_1.out⟩, ⟨zq1⟩⟩
          ·rw [if_neg c19] at H
           have c19b0 : decide (0 < (x0_3.length : Int)) = false := decide_eq_false c19
           have c19b1 : decide (0 < x0_3.length) = false := decide_eq_false (by omega)
           clear c19
           replace H := Option.bind_eq_some_iff.mp H
           obtain ⟨t581, A420, H⟩ := H
           replace H : (some t581) = some r := H
           have A42 := Aside0.mk A420
           clear A420
           obtain rfl := Option.some.inj H
           obtain ⟨Ao43, co43, eo43⟩ := Kd.V_slice HO_0.out
           subst eo43
           obtain ⟨Ao44, co44, eo44⟩ := Kd.V_slice HO_1.out
           subst eo44
           go_wp2_with (first | ((with_reducible refine gate_callee (f := 82) rfl ?_); refine goesL_ (some 54) rfl rfl Tryd.func82 (by kernel_rfl) rfl #[.slice Ao44 x1_3.length co44, .int .i64 x5_1] rfl zq5 ?_; (with_reducible refine (fetterlockref1_ShlNat.calls k3 _ _ x1_3 x5_1 t581 _ ?side1 ?side2 A42.out).mono ?_); (case side1 => repeat (first | exact (Kd.V_reads' HO_1.out).2.2 | (with_reducible refine Kd.C_alloc ?_ _) | (with_reducible refine Kd.C_drewN ?_ _) | (with_reducible refine Kd.C_drew ?_))); (case side2 => exact (Kd.V_reads' HO_1.out).2.1); rintro e w45 ⟨v582, rfl, ho0, hb⟩; refine ⟨_, rfl, ?_⟩; have n0_ := Aside0.mk (Kd.V_below (zq3 HO_0.out) hb); have n1_ := Aside0.mk (Kd.V_below (zq3 HO_1.out) hb); have n2_ := Aside0.mk (Kd.V_lower (Kd.V_mono (ok' := fun k_ => ((P0_ k_ ∨ P1_ k_) ∨ w.heap.size ≤ k_)) ho0 (fun k_ hk_ => (.inr (Nat.le_trans (below_size zq1) hk_)))) (below_size zq1)); have n3_ := Aside0.mk (below_step zq1 hb); clear HO_0; clear HO_1; clear HB; have HO_0 := n0_; have HO_1 := n1_; have HO583 := n2_; have HB := n3_; clear n0_ n1_ n2_ n3_; (try clear hb); (try clear hb2); (try clear hk); (try clear hi); (try clear ho0)))
           go_ret
           exact ⟨_, by first | rfl | (simp [errW_none, errW_some] <;> rfl) | (simp [*, errW_none, errW_some] <;> rfl), by (with_reducible repeat (first | apply Kd.V_alloc | apply Kd.V_drewN | apply Kd.V_drew)); exact HO583.out, by repeat (first | (with_reducible first | exact HB.out | apply below_alloc | apply pw_below_drewN | apply below_drew1) | exact HB.out)⟩
end Go.Proofs.YtemnjgkicndmjaaDoor.Q
namespace Go.Proofs.YtemnjgkicndmjaaDoor.Q
open Go.RowKit Go.Proofs.YtemnjgkicndmjaaDoorW.PrintWords Go.Proofs.YtemnjgkicndmjaaDoorW.PrintLast Go.Proofs.YtemnjgkicndmjaaDoorW.PrintMore
attribute [local go_sem] max2_int min2_int max_two min_two max_three min_three max_four min_four
set_option linter.unusedVariables false
set_option linter.unusedSimpArgs false
mutual
def fetterlockref1_Fault.j0 : Nat → Bool → Bool → List Int → List Int → Option (Int)
 | 0, _, _, _, _ => none
 | k + 1, x14, x600000, x600001, x600002 => if x14 = true then (some 3) else (if (x600002.length : Int) = 0 then (fetterlockref1_Fault.j1 k true x600000 x600001 x600002) else (if 0 ≤ (wrap64 ((x600002.length : Int) - 1)) then (if (wrap64 ((x600002.length : Int) - 1)) < (x600002.length : Int) then (if (rd x600002 (wrap64 ((x600002.length : Int) - 1))) = 0 then (fetterlockref1_Fault.j1 k true x600000 x600001 x600002) else (if (x600001.length : Int) > 0 then (if 0 ≤ (wrap64 ((x600001.length : Int) - 1)) then (if (wrap64 ((x600001.length : Int) - 1)) < (x600001.length : Int) then (fetterlockref1_Fault.j1 k ((rd x600001 (wrap64 ((x600001.length : Int) - 1))) == 0) x600000 x600001 x600002) else (none)) else (none)) else (fetterlockref1_Fault.j1 k false x600000 x600001 x600002))) else (none)) else (none)))
def fetterlockref1_Fault.j1 : Nat → Bool → Bool → List Int → List Int → Option (Int)
 | 0, _, _, _, _ => none
 | k + 1, x46, x600000, x600001, x600002 => if x46 = true then (some 2) else ((fetterlockref1_natOf.f k x600001).bind fun t602 => ((fetterlockref1_natOf.f k x600002).bind fun t605 => (if (t602.length : Int) = 0 then (if x600000 = true then (fetterlockref1_Fault.j2 k t602 t605 true) else ((fetterlockref1_CmpNat.f k t605 (([1] : List Int))).bind fun t611 => (fetterlockref1_Fault.j2 k t602 t605 (t611 != 0)))) else (fetterlockref1_Fault.j2 k t602 t605 false))))
def fetterlockref1_Fault.j2 : Nat → List Int → List Int → Bool → Option (Int)
 | 0, _, _, _ => none
 | k + 1, x3, x4, x65 => if x65 = true then (some 2) else ((fetterlockref1_GcdNat.f k x3 x4).bind fun t612 => ((fetterlockref1_CmpNat.f k t612 (([1] : List Int))).bind fun t618 => (if t618 = 0 then (some 0) else (some 2))))
end
def fetterlockref1_Fault.f (k : Nat) (a0_0 : Bool) (l0_1 : List Int) (l0_2 : List Int) : Option (Int) := if (l0_1.length : Int) > 128 then (fetterlockref1_Fault.j0 k true a0_0 l0_1 l0_2) else (fetterlockref1_Fault.j0 k (decide ((l0_2.length : Int) > 128)) a0_0 l0_1 l0_2)
theorem fetterlockref1_Fault.mono_l : ∀ k, (∀ y0 y1 y2 y3, LeO (fetterlockref1_Fault.j0 k y0 y1 y2 y3) (fetterlockref1_Fault.j0 (k + 1) y0 y1 y2 y3)) ∧ (∀ y0 y1 y2 y3, LeO (fetterlockref1_Fault.j1 k y0 y1 y2 y3) (fetterlockref1_Fault.j1 (k + 1) y0 y1 y2 y3)) ∧ (∀ y0 y1 y2, LeO (fetterlockref1_Fault.j2 k y0 y1 y2) (fetterlockref1_Fault.j2 (k + 1) y0 y1 y2))
 | 0 => ⟨fun _ _ _ _ r h => by simp [fetterlockref1_Fault.j0] at h, fun _ _ _ _ r h => by simp [fetterlockref1_Fault.j1] at h, fun _ _ _ r h => by simp [fetterlockref1_Fault.j2] at h⟩
 | k + 1 => by
  obtain ⟨ih0, ih1, ih2⟩ := fetterlockref1_Fault.mono_l k
  refine ⟨?_, ?_, ?_⟩
  ·intro y0 y1 y2 y3
   unfold fetterlockref1_Fault.j0
   repeat' first
   | (with_reducible exact ih0 _ _ _ _)
   | (with_reducible exact ih1 _ _ _ _)
   | (with_reducible exact ih2 _ _ _)
   | (with_reducible exact fetterlockref1_CmpNat.mono _ _ _)
   | (with_reducible exact fetterlockref1_GcdNat.mono _ _ _)
   | (with_reducible exact fetterlockref1_natOf.mono _ _)
   | (with_reducible exact LeO.refl _)
   | (with_reducible exact LeO.none _)
   | (with_reducible refine LeO.ite ?_ ?_)
   | (with_reducible refine LeO.bind ?_ (fun _ => ?_))
   | exact ih0 _ _ _ _
   | exact ih1 _ _ _ _
   | exact ih2 _ _ _
   | exact fetterlockref1_CmpNat.mono _ _ _
   | exact fetterlockref1_GcdNat.mono _ _ _
   | exact fetterlockref1_natOf.mono _ _
   | exact LeO.none _
   | refine LeO.ite ?_ ?_
   | refine LeO.bind ?_ (fun _ => ?_)
  ·intro y0 y1 y2 y3
   unfold fetterlockref1_Fault.j1
   repeat' first
   | (with_reducible exact ih0 _ _ _ _)
   | (with_reducible exact ih1 _ _ _ _)
   | (with_reducible exact ih2 _ _ _)
   | (with_reducible exact fetterlockref1_CmpNat.mono _ _ _)
   | (with_reducible exact fetterlockref1_GcdNat.mono _ _ _)
   | (with_reducible exact fetterlockref1_natOf.mono _ _)
   | (with_reducible exact LeO.refl _)
   | (with_reducible exact LeO.none _)
   | (with_reducible refine LeO.ite ?_ ?_)
   | (with_reducible refine LeO.bind ?_ (fun _ => ?_))
   | exact ih0 _ _ _ _
   | exact ih1 _ _ _ _
   | exact ih2 _ _ _
   | exact fetterlockref1_CmpNat.mono _ _ _
   | exact fetterlockref1_GcdNat.mono _ _ _
   | exact fetterlockref1_natOf.mono _ _
   | exact LeO.none _
   | refine LeO.ite ?_ ?_
   | refine LeO.bind ?_ (fun _ => ?_)
  ·intro y0 y1 y2
   unfold fetterlockref1_Fault.j2
   repeat' first
   | (with_reducible exact ih0 _ _ _ _)
   | (with_reducible exact ih1 _ _ _ _)
   | (with_reducible exact ih2 _ _ _)
   | (with_reducible exact fetterlockref1_CmpNat.mono _ _ _)
   | (with_reducible exact fetterlockref1_GcdNat.mono _ _ _)
   | (with_reducible exact fetterlockref1_natOf.mono _ _)
   | (with_reducible exact LeO.refl _)
   | (with_reducible exact LeO.none _)
   | (with_reducible refine LeO.ite ?_ ?_)
   | (with_reducible refine LeO.bind ?_ (fun _ => ?_))
   | exact ih0 _ _ _ _
   | exact ih1 _ _ _ _
   | exact ih2 _ _ _
   | exact fetterlockref1_CmpNat.mono _ _ _
   | exact fetterlockref1_GcdNat.mono _ _ _
   | exact fetterlockref1_natOf.mono _ _
   | exact LeO.none _
   | refine LeO.ite ?_ ?_
   | refine LeO.bind ?_ (fun _ => ?_)
theorem fetterlockref1_Fault.mono : ∀ a0 a1 a2 k, LeO (fetterlockref1_Fault.f k a0 a1 a2) (fetterlockref1_Fault.f (k + 1) a0 a1 a2) := by
 intro a0 a1 a2 k
 obtain ⟨ih0, ih1, ih2⟩ := fetterlockref1_Fault.mono_l k
 unfold fetterlockref1_Fault.f
 repeat' first
   | (with_reducible exact ih0 _ _ _ _)
   | (with_reducible exact ih1 _ _ _ _)
   | (with_reducible exact ih2 _ _ _)
   | (with_reducible exact fetterlockref1_CmpNat.mono _ _ _)
   | (with_reducible exact fetterlockref1_GcdNat.mono _ _ _)
   | (with_reducible exact fetterlockref1_natOf.mono _ _)
   | (with_reducible exact LeO.refl _)
   | (with_reducible exact LeO.none _)
   | (with_reducible refine LeO.ite ?_ ?_)
   | (with_reducible refine LeO.bind ?_ (fun _ => ?_))
   | exact ih0 _ _ _ _
   | exact ih1 _ _ _ _
   | exact ih2 _ _ _
   | exact fetterlockref1_CmpNat.mono _ _ _
   | exact fetterlockref1_GcdNat.mono _ _ _
   | exact fetterlockref1_natOf.mono _ _
   | exact LeO.none _
   | refine LeO.ite ?_ ?_
   | refine LeO.bind ?_ (fun _ => ?_)
def fetterlockref1_Fault.T5 : Bool × List (List Nat × List Nat) := (true, [([], []), ([0], [0]), ([1], [1]), ([], []), ([3], [3]), ([4, 2], [4]), ([2, 5, 0, 1, 2], [2]), ([5, 6, 0, 1, 2, 3, 4, 5, 6], [5])])
def fetterlockref1_Fault.B5 : List Nat := [0, 1, 3, 0, 8, 31, 63, 127]
theorem fetterlockref1_Fault.tab5 : rtab .any (opsOf Tryd.f15 5) = fetterlockref1_Fault.T5 := by kernel_rfl
theorem fetterlockref1_Fault.bits5 : waitsOk fetterlockref1_Fault.T5.2 fetterlockref1_Fault.B5 = true := by kernel_rfl
set_option maxHeartbeats 8000000 in
set_option maxRecDepth 100000 in
theorem fetterlockref1_Fault.calls (k : Nat) (a0_0 : Bool) (A0_1 : Option Addr) (c0_1 : Nat) (l0_1 : List Int) (A0_2 : Option Addr) (c0_2 : Nat) (l0_2 : List Int) (r : Int) (w : World) (hr0_1 : Kd.C (Kd.int .u32) w A0_1 l0_1.length l0_1) (hc0_1 : l0_1.length ≤ c0_1) (hr0_2 : Kd.C (Kd.int .u32) w A0_2 l0_2.length l0_2) (hc0_2 : l0_2.length ≤ c0_2) (h : fetterlockref1_Fault.f k a0_0 l0_1 l0_2 = some r) :
  Calls Tryd.prog 15 #[.agg #[.bool a0_0, .slice A0_1 l0_1.length c0_1, .slice A0_2 l0_2.length c0_2]] w fun e w' => e = .returned (.int .i64 r) ∧ Below w.heap.size w w' := by
 have hu24 := Tryd.underlying24
 have HR0_1 := Aside0.mk hr0_1
 have HC0_1 := Aside0.mk hc0_1
 clear hr0_1 hc0_1
 have HR0_2 := Aside0.mk hr0_2
 have HC0_2 := Aside0.mk hc0_2
 clear hr0_2 hc0_2
 have HB := Aside0.mk (Below.refl w.heap.size w)
 have H : (if (l0_1.length : Int) > 128 then (fetterlockref1_Fault.j0 k true a0_0 l0_1 l0_2) else (fetterlockref1_Fault.j0 k (decide ((l0_2.length : Int) > 128)) a0_0 l0_1 l0_2)) = some r := h
 clear h
 have HC2 := Aside0.mk H
 clear H
 go_enter Tryd.func15, Tryd.ntmps15
 go_upto_region 1 with (first | ((with_reducible refine gate_dst (N := 1) rfl ?_); (try (refine gate_guard (by rfl) ?_; dsimp only)); refine box_event ?hg (N := 1) ?hd (cs := #[.bool a0_0, .slice A0_1 l0_1.length c0_1, .slice A0_2 l0_2.length c0_2]) (t := 24) ?hr ?_; (case hd => rfl); (case hg => rfl); (case hr => first | (go_simp; done) | (go_simp; rfl)); intro gb599 hg w3 hbox hb; have n0_ := Aside0.mk (below_step zq1 hb); have n1_ := Aside0.mk (hbox); have n2_ := Aside0.mk ((by rw [hg]; exact (below_size zq1) : w.heap.size ≤ gb599)); have n3_ := Aside0.mk ((by rw [hg]; exact (below_size zq1) : w.heap.size ≤ gb599)); clear HB; have HB := n0_; have BK599 := n1_; have GW599 := n2_; have GE599 := n3_; clear n0_ n1_ n2_ n3_; clear hb hbox hg))
 (try simp only [Act.put, List.setIfInBounds_toArray, List.set_cons_zero, List.set_cons_succ])
 go_cut [14] (fun v14 wc => ∃ (kq : Nat) (x14_1 : Bool), v14 = .bool x14_1 ∧ Aside0 (fetterlockref1_Fault.j0 kq x14_1 a0_0 l0_1 l0_2 = some r) ∧ Aside0 (kq ≤ k) ∧ Aside0 (wc.heap[gb599]? = some (.cells #[.bool a0_0, (.slice A0_1 l0_1.length c0_1), (.slice A0_2 l0_2.length c0_2)] 24 (0, 0))) ∧ Aside0 (Below w.heap.size w wc))
 case first =>
  have H := HC2.out
  clear HC2
  by_cases c4 : (l0_1.length : Int) > 128
  ·rw [if_pos c4] at H
   have c4b0 : decide (128 < (l0_1.length : Int)) = true := decide_eq_true c4
   have c4b1 : decide (128 < l0_1.length) = true := decide_eq_true (by omega)
   clear c4
   (first | rw [c4b0] | (simp only [i64_w, i32_w]; rw [c4b0]) | skip)
   have H' := Aside0.mk H
   clear H
   have hcz5_0 : w3.cell? ⟨gb599, 0, none⟩ = some (.bool a0_0) := (blk_cell BK599.out 0).trans rfl
   have hcz5_1 : w3.cell? ⟨gb599, 1, none⟩ = some (.slice A0_1 l0_1.length c0_1) := (blk_cell BK599.out 1).trans rfl
   have hcz5_2 : w3.cell? ⟨gb599, 2, none⟩ = some (.slice A0_2 l0_2.length c0_2) := (blk_cell BK599.out 2).trans rfl
   have hfz5_0 := blk_frozen BK599.out 0
   have hfz5_1 := blk_frozen BK599.out 1
   have hfz5_2 := blk_frozen BK599.out 2
   go_wp2
   go_meet
   case rel => exact ⟨_, (true), zq8, H', ⟨by first | omega | exact Nat.le_refl _⟩, ⟨by (with_reducible repeat (first | refine blk_drewN ?_ _ | refine blk_drew ?_ | refine blk_alloc ?_ _)); exact BK599.out⟩, ⟨by repeat (first | (with_reducible first | exact HB.out | apply below_alloc | apply pw_below_drewN | apply below_drew1 | refine below_set ?_ GE599.out) | exact HB.out)⟩⟩
  ·rw [if_neg c4] at H
   have c4b0 : decide (128 < (l0_1.length : Int)) = false := decide_eq_false c4
   have c4b1 : decide (128 < l0_1.length) = false := decide_eq_false (by omega)
   clear c4
   (first | rw [c4b0] | (simp only [i64_w, i32_w]; rw [c4b0]) | skip)
   have H' := Aside0.mk H
   clear H
   have hcz6_0 : w3.cell? ⟨gb599, 0, none⟩ = some (.bool a0_0) := (blk_cell BK599.out 0).trans rfl
   have hcz6_1 : w3.cell? ⟨gb599, 1, none⟩ = some (.slice A0_1 l0_1.length c0_1) := (blk_cell BK599.out 1).trans rfl
   have hcz6_2 : w3.cell? ⟨gb599, 2, none⟩ = some (.slice A0_2 l0_2.length c0_2) := (blk_cell BK599.out 2).trans rfl
   have hfz6_0 := blk_frozen BK599.out 0
   have hfz6_1 := blk_frozen BK599.out 1
   have hfz6_2 := blk_frozen BK599.out 2
   go_wp2
   go_meet
   case rel => exact ⟨_, (decide ((l0_2.length : Int) > 128)), zq8, H', ⟨by first | omega | exact Nat.le_refl _⟩, ⟨by (with_reducible repeat (first | refine blk_drewN ?_ _ | refine blk_drew ?_ | refine blk_alloc ?_ _)); exact BK599.out⟩, ⟨by repeat (first | (with_reducible first | exact HB.out | apply below_alloc | apply pw_below_drewN | apply below_drew1 | refine below_set ?_ GE599.out) | exact HB.out)⟩⟩
 case rest =>
  clear HC2
  try clear c1
  try clear p2
  try clear c4
  try clear c4b0
  try clear c4b1
  try clear hcz5_0
  try clear hcz5_1
  try clear hcz5_2
  try clear hcz6_0
  try clear hcz6_1
  try clear hcz6_2
  try clear hfz5_0
  try clear hfz5_1
  try clear hfz5_2
  try clear hfz6_0
  try clear hfz6_1
  try clear hfz6_2
  obtain ⟨kq, x14_1, rfl, HA, HJ1, BK599, HB⟩ := hcut
  cases kq with
  | zero => exact absurd HA.out (by simp [fetterlockref1_Fault.j0])
  | succ kj1 =>
   have H := HA.out
   clear HA
   simp only [fetterlockref1_Fault.j0] at H
   by_cases c7 : x14_1 = true
   ·subst c7
    have H1 : (some 3) = some r := by rw [if_pos rfl] at H; exact H
    clear H
    have H := H1
    clear H1
    obtain rfl := Option.some.inj H
    go_wp2
    go_ret
    exact ⟨by first | rfl | (simp [errW_none, errW_some] <;> rfl) | (simp [*, errW_none, errW_some] <;> rfl), by repeat (first | (with_reducible first | exact HB.out | apply below_alloc | apply pw_below_drewN | apply below_drew1 | refine below_set ?_ GE599.out) | exact HB.out)⟩
   ·replace c7 := Bool.eq_false_iff.mpr c7
    subst c7
    have H1 : (if (l0_2.length : Int) = 0 then (fetterlockref1_Fault.j1 kj1 true a0_0 l0_1 l0_2) else (if 0 ≤ (wrap64 ((l0_2.length : Int) - 1)) then (if (wrap64 ((l0_2.length : Int) - 1)) < (l0_2.length : Int) then (if (rd l0_2 (wrap64 ((l0_2.length : Int) - 1))) = 0 then (fetterlockref1_Fault.j1 kj1 true a0_0 l0_1 l0_2) else (if (l0_1.length : Int) > 0 then (if 0 ≤ (wrap64 ((l0_1.length : Int) - 1)) then (if (wrap64 ((l0_1.length : Int) - 1)) < (l0_1.length : Int) then (fetterlockref1_Fault.j1 kj1 ((rd l0_1 (wrap64 ((l0_1.length : Int) - 1))) == 0) a0_0 l0_1 l0_2) else (none)) else (none)) else (fetterlockref1_Fault.j1 kj1 false a0_0 l0_1 l0_2))) else (none)) else (none))) = some r := by rw [if_neg (show ¬ (false = true) by decide)] at H; exact H
    clear H
    have H := H1
    clear H1
    have HC8 := Aside0.mk H
    clear H
    go_upto_region 3 with (fail)
    go_cut [46] (fun v46 wc => ∃ (kq : Nat) (x46_7 : Bool), v46 = .bool x46_7 ∧ Aside0 (fetterlockref1_Fault.j1 kq x46_7 a0_0 l0_1 l0_2 = some r) ∧ Aside0 (kq ≤ kj1) ∧ Aside0 (wc.heap[gb599]? = some (.cells #[.bool a0_0, (.slice A0_1 l0_1.length c0_1), (.slice A0_2 l0_2.length c0_2)] 24 (0, 0))) ∧ Aside0 (Below w.heap.size w wc))
    case first =>
     have H := HC8.out
     clear HC8
     by_cases c9 : (l0_2.length : Int) = 0
     ·rw [if_pos c9] at H
      have c9b0 : ((l0_2.length : Int) == 0) = true := beq_iff_eq.mpr c9
      have c9b1 : ((l0_2.length : Int) != 0) = false := bne_eq_false_iff_eq.mpr c9
      clear c9
      (first | rw [c9b0] | (simp only [i64_w, i32_w]; rw [c9b0]) | skip)
      have H' := Aside0.mk H
      clear H
      have hcz10_0 : wc.cell? ⟨gb599, 0, none⟩ = some (.bool a0_0) := (blk_cell BK599.out 0).trans rfl
      have hcz10_1 : wc.cell? ⟨gb599, 1, none⟩ = some (.slice A0_1 l0_1.length c0_1) := (blk_cell BK599.out 1).trans rfl
      have hcz10_2 : wc.cell? ⟨gb599, 2, none⟩ = some (.slice A0_2 l0_2.length c0_2) := (blk_cell BK599.out 2).trans rfl
      have hfz10_0 := blk_frozen BK599.out 0
      have hfz10_1 := blk_frozen BK599.out 1
      have hfz10_2 := blk_frozen BK599.out 2
      go_wp2
      go_meet
      case rel => exact ⟨_, (true), zq8, H', ⟨by have := HJ1.out; first | omega | exact Nat.le_refl _⟩, ⟨by (with_reducible repeat (first | refine blk_drewN ?_ _ | refine blk_drew ?_ | refine blk_alloc ?_ _)); exact BK599.out⟩, ⟨by repeat (first | (with_reducible first | exact HB.out | apply below_alloc | apply pw_below_drewN | apply below_drew1 | refine below_set ?_ GE599.out) | exact HB.out)⟩⟩
     ·rw [if_neg c9] at H
      have c9b0 : ((l0_2.length : Int) == 0) = false := beq_eq_false_iff_ne.mpr c9
      have c9b1 : ((l0_2.length : Int) != 0) = true := bne_iff_ne.mpr c9
      have c9b2 : ¬ (l0_2 = []) := fun h_ => c9 (by rw [h_]; rfl)
      (first | rw [c9b0] | (simp only [i64_w, i32_w]; rw [c9b0]) | skip)
      obtain ⟨ji11, hji11⟩ : ∃ j_ : Int, (wrap64 ((l0_2.length : Int) - 1)) = j_ := ⟨_, rfl⟩
      replace H : (if 0 ≤ (ji11) then (if (ji11) < (l0_2.length : Int) then (if (rd l0_2 (ji11)) = 0 then (fetterlockref1_Fault.j1 kj1 true a0_0 l0_1 l0_2) else (if (l0_1.length : Int) > 0 then (if 0 ≤ (wrap64 ((l0_1.length : Int) - 1)) then (if (wrap64 ((l0_1.length : Int) - 1)) < (l0_1.length : Int) then (fetterlockref1_Fault.j1 kj1 ((rd l0_1 (wrap64 ((l0_1.length : Int) - 1))) == 0) a0_0 l0_1 l0_2) else (none)) else (none)) else (fetterlockref1_Fault.j1 kj1 false a0_0 l0_1 l0_2))) else (none)) else (none)) = some r := by first | (rw [hji11] at H; exact H) | (simp only [hji11] at H ⊢; exact H)
      have hji11w : (IntKind.i64.wrap ((l0_2.length : Int) - 1)) = ji11 := (i64_w _).trans hji11
      by_cases c12 : 0 ≤ (ji11)
      ·rw [if_pos c12] at H
       have c12b0 : decide (0 ≤ (ji11)) = true := decide_eq_true c12
       clear c12
       by_cases c13 : (ji11) < (l0_2.length : Int)
       ·rw [if_pos c13] at H
        have c13b0 : decide ((ji11) < (l0_2.length : Int)) = true := decide_eq_true c13
        clear c13
        by_cases c14 : (rd l0_2 (ji11)) = 0
        ·rw [if_pos c14] at H
         have c14b0 : ((rd l0_2 (ji11)) == 0) = true := beq_iff_eq.mpr c14
         have c14b1 : ((rd l0_2 (ji11)) != 0) = false := bne_eq_false_iff_eq.mpr c14
         clear c14
         have H' := Aside0.mk H
         clear H
         have hcz15_0 : wc.cell? ⟨gb599, 0, none⟩ = some (.bool a0_0) := (blk_cell BK599.out 0).trans rfl
         have hcz15_1 : wc.cell? ⟨gb599, 1, none⟩ = some (.slice A0_1 l0_1.length c0_1) := (blk_cell BK599.out 1).trans rfl
         have hcz15_2 : wc.cell? ⟨gb599, 2, none⟩ = some (.slice A0_2 l0_2.length c0_2) := (blk_cell BK599.out 2).trans rfl
         have hfz15_0 := blk_frozen BK599.out 0
         have hfz15_1 := blk_frozen BK599.out 1
         have hfz15_2 := blk_frozen BK599.out 2
         have p600 : 0 ≤ ((ji11) : Int) := zq6
         have q600 : (ji11) < (l0_2.length : Int) := zq6
         obtain ⟨ad600, e600, hx600_0⟩ := Kd.at_int HR0_2.out (ji11) p600 q600
         cases e600
         replace hx600_0 := (HB.out.cell (World.block_lt_of_cell? w _ hx600_0)).trans hx600_0
         replace p600 := eq_true p600
         replace q600 := eq_true q600
         go_wp2
         go_meet
         case rel => exact ⟨_, (true), zq8, (by first | exact H' | (rw [hji11]; exact H')), ⟨by have := HJ1.out; first | omega | exact Nat.le_refl _⟩, ⟨by (with_reducible repeat (first | refine blk_drewN ?_ _ | refine blk_drew ?_ | refine blk_alloc ?_ _)); exact BK599.out⟩, ⟨by repeat (first | (with_reducible first | exact HB.out | apply below_alloc | apply pw_below_drewN | apply below_drew1 | refine below_set ?_ GE599.out) | exact HB.out)⟩⟩
        ·rw [if_neg c14] at H
         have c14b0 : ((rd l0_2 (ji11)) == 0) = false := beq_eq_false_iff_ne.mpr c14
         have c14b1 : ((rd l0_2 (ji11)) != 0) = true := bne_iff_ne.mpr c14
         by_cases c16 : (l0_1.length : Int) > 0
         ·rw [if_pos c16] at H
          have c16b0 : decide (0 < (l0_1.length : Int)) = true := decide_eq_true c16
          have c16b1 : decide (0 < l0_1.length) = true := decide_eq_true (by omega)
          clear c16
          obtain ⟨ji17, hji17⟩ : ∃ j_ : Int, (wrap64 ((l0_1.length : Int) - 1)) = j_ := ⟨_, rfl⟩
          replace H : (if 0 ≤ (ji17) then (if (ji17) < (l0_1.length : Int) then (fetterlockref1_Fault.j1 kj1 ((rd l0_1 (ji17)) == 0) a0_0 l0_1 l0_2) else (none)) else (none)) = some r := by first | (rw [hji17] at H; exact H) | (simp only [hji17] at H ⊢; exact H)
          have hji17w : (IntKind.i64.wrap ((l0_1.length : Int) - 1)) = ji17 := (i64_w _).trans hji17
          by_cases c18 : 0 ≤ (ji17)
          ·rw [if_pos c18] at H
           have c18b0 : decide (0 ≤ (ji17)) = true := decide_eq_true c18
           clear c18
           by_cases c19 : (ji17) < (l0_1.length : Int)
           ·rw [if_pos c19] at H
            have c19b0 : decide ((ji17) < (l0_1.length : Int)) = true := decide_eq_true c19
            clear c19
            have H' := Aside0.mk H
            clear H
            have hcz20_0 : wc.cell? ⟨gb599, 0, none⟩ = some (.bool a0_0) := (blk_cell BK599.out 0).trans rfl
            have hcz20_1 : wc.cell? ⟨gb599, 1, none⟩ = some (.slice A0_1 l0_1.length c0_1) := (blk_cell BK599.out 1).trans rfl
            have hcz20_2 : wc.cell? ⟨gb599, 2, none⟩ = some (.slice A0_2 l0_2.length c0_2) := (blk_cell BK599.out 2).trans rfl
            have hfz20_0 := blk_frozen BK599.out 0
            have hfz20_1 := blk_frozen BK599.out 1
            have hfz20_2 := blk_frozen BK599.out 2
            have p600 : 0 ≤ ((ji11) : Int) := zq6
            have q600 : (ji11) < (l0_2.length : Int) := zq6
            obtain ⟨ad600, e600, hx600_0⟩ := Kd.at_int HR0_2.out (ji11) p600 q600
            cases e600
            replace hx600_0 := (HB.out.cell (World.block_lt_of_cell? w _ hx600_0)).trans hx600_0
            replace p600 := eq_true p600
            replace q600 := eq_true q600
            have p601 : 0 ≤ ((ji17) : Int) := zq6
            have q601 : (ji17) < (l0_1.length : Int) := zq6
            obtain ⟨ad601, e601, hx601_0⟩ := Kd.at_int HR0_1.out (ji17) p601 q601
            cases e601
            replace hx601_0 := (HB.out.cell (World.block_lt_of_cell? w _ hx601_0)).trans hx601_0
            replace p601 := eq_true p601
            replace q601 := eq_true q601
            go_wp2
            go_meet
            case rel => exact ⟨_, (((rd l0_1 (ji17)) == 0)), (by first | rfl | (simp; done) | (simp only [← hji17] <;> (first | rfl | simp)) | (simp [*]; done)), (by first | exact H' | (rw [hji11]; exact H') | (rw [hji17]; exact H')), ⟨by have := HJ1.out; first | omega | exact Nat.le_refl _⟩, ⟨by (with_reducible repeat (first | refine blk_drewN ?_ _ | refine blk_drew ?_ | refine blk_alloc ?_ _)); exact BK599.out⟩, ⟨by repeat (first | (with_reducible first | exact HB.out | apply below_alloc | apply pw_below_drewN | apply below_drew1 | refine below_set ?_ GE599.out) | exact HB.out)⟩⟩
           ·rw [if_neg c19] at H
            exact absurd H (by simp)
          ·rw [if_neg c18] at H
           exact absurd H (by simp)
         ·rw [if_neg c16] at H
          have c16b0 : decide (0 < (l0_1.length : Int)) = false := decide_eq_false c16
          have c16b1 : decide (0 < l0_1.length) = false := decide_eq_false (by omega)
          clear c16
          have H' := Aside0.mk H
          clear H
          have hcz21_0 : wc.cell? ⟨gb599, 0, none⟩ = some (.bool a0_0) := (blk_cell BK599.out 0).trans rfl
          have hcz21_1 : wc.cell? ⟨gb599, 1, none⟩ = some (.slice A0_1 l0_1.length c0_1) := (blk_cell BK599.out 1).trans rfl
          have hcz21_2 : wc.cell? ⟨gb599, 2, none⟩ = some (.slice A0_2 l0_2.length c0_2) := (blk_cell BK599.out 2).trans rfl
          have hfz21_0 := blk_frozen BK599.out 0
          have hfz21_1 := blk_frozen BK599.out 1
          have hfz21_2 := blk_frozen BK599.out 2
          have p600 : 0 ≤ ((ji11) : Int) := zq6
          have q600 : (ji11) < (l0_2.length : Int) := zq6
          obtain ⟨ad600, e600, hx600_0⟩ := Kd.at_int HR0_2.out (ji11) p600 q600
          cases e600
          replace hx600_0 := (HB.out.cell (World.block_lt_of_cell? w _ hx600_0)).trans hx600_0
          replace p600 := eq_true p600
          replace q600 := eq_true q600
          go_wp2
          go_meet
          case rel => exact ⟨_, (false), zq8, (by first | exact H' | (rw [hji11]; exact H')), ⟨by have := HJ1.out; first | omega | exact Nat.le_refl _⟩, ⟨by (with_reducible repeat (first | refine blk_drewN ?_ _ | refine blk_drew ?_ | refine blk_alloc ?_ _)); exact BK599.out⟩, ⟨by repeat (first | (with_reducible first | exact HB.out | apply below_alloc | apply pw_below_drewN | apply below_drew1 | refine below_set ?_ GE599.out) | exact HB.out)⟩⟩
       ·rw [if_neg c13] at H
        exact absurd H (by simp)
      ·rw [if_neg c12] at H
       exact absurd H (by simp)
    case rest =>
     clear HC8
     try clear c1
     try clear p2
     try clear c4
     try clear c4b0
     try clear c4b1
     try clear p6
     try clear q6
     try clear hx6
     try clear c7
     try clear c9
     try clear c9b0
     try clear c9b1
     try clear c9b2
     try clear c12
     try clear c12b0
     try clear c13
     try clear c13b0
     try clear c14
     try clear c14b0
     try clear c14b1
     try clear c15
     try clear c16
     try clear c16b0
     try clear c16b1
     try clear c18
     try clear c18b0
     try clear c19
     try clear c19b0
     try clear hcz10_0
     try clear hcz10_1
     try clear hcz10_2
     try clear hcz15_0
     try clear hcz15_1
     try clear hcz15_2
     try clear hcz20_0
     try clear hcz20_1
     try clear hcz20_2
     try clear hcz21_0
     try clear hcz21_1
     try clear hcz21_2
     try clear hcz5_0
     try clear hcz5_1
     try clear hcz5_2
     try clear hcz6_0
     try clear hcz6_1
     try clear hcz6_2
     try clear hfz10_0
     try clear hfz10_1
     try clear hfz10_2
     try clear hfz15_0
     try clear hfz15_1
     try clear hfz15_2
     try clear hfz20_0
     try clear hfz20_1
     try clear hfz20_2
     try clear hfz21_0
     try clear hfz21_1
     try clear hfz21_2
     try clear hfz5_0
     try clear hfz5_1
     try clear hfz5_2
     try clear hfz6_0
     try clear hfz6_1
     try clear hfz6_2
     try clear hx600_0
     try clear hx601_0
     try clear p2
     try clear p600
     try clear p601
     try clear q600
     try clear q601
     obtain ⟨kq, x46_7, rfl, HA, HJ7, BK599, HB⟩ := hcut
     cases kq with
     | zero => exact absurd HA.out (by simp [fetterlockref1_Fault.j1])
     | succ kj7 =>
      have H := HA.out
      clear HA
      simp only [fetterlockref1_Fault.j1] at H
      by_cases c22 : x46_7 = true
      ·subst c22
       have H1 : (some 2) = some r := by rw [if_pos rfl] at H; exact H
       clear H
       have H := H1
       clear H1
       obtain rfl := Option.some.inj H
       go_wp2
       go_ret
       exact ⟨by first | rfl | (simp [errW_none, errW_some] <;> rfl) | (simp [*, errW_none, errW_some] <;> rfl), by repeat (first | (with_reducible first | exact HB.out | apply below_alloc | apply pw_below_drewN | apply below_drew1 | refine below_set ?_ GE599.out) | exact HB.out)⟩
      ·replace c22 := Bool.eq_false_iff.mpr c22
       subst c22
       have H1 : ((fetterlockref1_natOf.f kj7 l0_1).bind fun t602 => ((fetterlockref1_natOf.f kj7 l0_2).bind fun t605 => (if (t602.length : Int) = 0 then (if a0_0 = true then (fetterlockref1_Fault.j2 kj7 t602 t605 true) else ((fetterlockref1_CmpNat.f kj7 t605 (([1] : List Int))).bind fun t611 => (fetterlockref1_Fault.j2 kj7 t602 t605 (t611 != 0)))) else (fetterlockref1_Fault.j2 kj7 t602 t605 false)))) = some r := by rw [if_neg (show ¬ (false = true) by decide)] at H; exact H
       clear H
       have H := H1
       clear H1
       replace H := Option.bind_eq_some_iff.mp H
       obtain ⟨t602, A230, H⟩ := H
       replace H : ((fetterlockref1_natOf.f kj7 l0_2).bind fun t605 => (if (t602.length : Int) = 0 then (if a0_0 = true then (fetterlockref1_Fault.j2 kj7 t602 t605 true) else ((fetterlockref1_CmpNat.f kj7 t605 (([1] : List Int))).bind fun t611 => (fetterlockref1_Fault.j2 kj7 t602 t605 (t611 != 0)))) else (fetterlockref1_Fault.j2 kj7 t602 t605 false))) = some r := H
       have A23 := Aside0.mk A230
       clear A230
       replace H := Option.bind_eq_some_iff.mp H
       obtain ⟨t605, A240, H⟩ := H
       replace H : (if (t602.length : Int) = 0 then (if a0_0 = true then (fetterlockref1_Fault.j2 kj7 t602 t605 true) else ((fetterlockref1_CmpNat.f kj7 t605 (([1] : List Int))).bind fun t611 => (fetterlockref1_Fault.j2 kj7 t602 t605 (t611 != 0)))) else (fetterlockref1_Fault.j2 kj7 t602 t605 false)) = some r := H
       have A24 := Aside0.mk A240
       clear A240
       have HC25 := Aside0.mk H
       clear H
       try go_wp2
       have n0_ := Aside0.mk (blk_drew BK599.out)
       have n1_ := Aside0.mk (below_drew1 HB.out)
       clear BK599
       clear HB
       have BK599 := n0_
       have HB := n1_
       clear n0_ n1_
       refine start_ (n := 8) (S := fun w' => w'.cell? ⟨gb599, 0, none⟩ = some (.bool a0_0) ∧ w'.cell? ⟨gb599, 1, none⟩ = some (.slice A0_1 l0_1.length c0_1) ∧ w'.cell? ⟨gb599, 2, none⟩ = some (.slice A0_2 l0_2.length c0_2)) (ds := []) #[false, false, false, false, false, false, false, false] (by kernel_rfl) rfl rfl ⟨(blk_cell BK599.out 0).trans rfl, (blk_cell BK599.out 1).trans rfl, (blk_cell BK599.out 2).trans rfl⟩ (fun hHeld => ?_); refine with_tabW fetterlockref1_Fault.tab5 fetterlockref1_Fault.bits5 (fun HT_ HW_ => ?_)
       generalize wc.drew = w26 at BK599 HB hHeld ⊢
       refine pure_ (i := 0) (N := some 47) (v := ?_) (a' := ?_) #[true, false, false, false, false, false, false, false] rfl rfl (any_of HT_.out (by kernel_rfl)) (fun _ _ _ h => h) (Or.inl ⟨by rfl, ?_⟩) ?_ ?_
       rotate_left
       ·intro w'
        go_simp
        with_reducible rfl
       rotate_left
       ·simp only [Act.put, List.setIfInBounds_toArray, List.set_cons_zero, List.set_cons_succ, i64_w, i32_w]
        rfl
       refine pure_ (i := 3) (N := some 50) (v := ?_) (a' := ?_) #[true, false, false, true, false, false, false, false] rfl rfl (any_of HT_.out (by kernel_rfl)) (fun _ _ _ h => h) (Or.inl ⟨by rfl, ?_⟩) ?_ ?_
       rotate_left
       ·intro w'
        go_simp
        with_reducible rfl
       rotate_left
       ·simp only [Act.put, List.setIfInBounds_toArray, List.set_cons_zero, List.set_cons_succ, i64_w, i32_w]
        rfl
       refine take_ (i := 1) (N := some 48) (v := ?_) (a' := ?_) #[true, true, false, true, false, false, false, false] rfl rfl (take_ofW HT_.out HW_.out (by kernel_rfl)) (fun _ _ _ h => h) (Or.inl ⟨by rfl, ?_⟩) hHeld ?_ ?_
       rotate_left
       ·rintro w' ⟨s0, s1, s2⟩
        go_simp
        with_reducible rfl
       rotate_left
       ·simp only [Act.put, List.setIfInBounds_toArray, List.set_cons_zero, List.set_cons_succ, i64_w, i32_w]
        rfl
       refine take_ (i := 4) (N := some 51) (v := ?_) (a' := ?_) #[true, true, false, true, true, false, false, false] rfl rfl (take_ofW HT_.out HW_.out (by kernel_rfl)) (fun _ _ _ h => h) (Or.inl ⟨by rfl, ?_⟩) hHeld ?_ ?_
       rotate_left
       ·rintro w' ⟨s0, s1, s2⟩
        go_simp
        with_reducible rfl
       rotate_left
       ·simp only [Act.put, List.setIfInBounds_toArray, List.set_cons_zero, List.set_cons_succ, i64_w, i32_w]
        rfl
       refine one_ (i := 2) (N := some 49) #[true, true, true, true, true, false, false, false] rfl rfl (one_of HT_.out (by kernel_rfl)) (by decide) (fun K hK => ?_)
       refine goes_ Tryd.func45 (by kernel_rfl) rfl #[.slice A0_1 l0_1.length c0_1] (by rfl) rfl rfl zq5 ?_
       with_reducible refine (fetterlockref1_natOf.calls kj7 _ _ l0_1 t602 _ ?side1 ?side2 A23.out).mono ?_
       (case side1 => repeat (first | exact (Kd.C_below HR0_1.out HB.out) | (with_reducible refine Kd.C_alloc ?_ _) | (with_reducible refine Kd.C_drewN ?_ _) | (with_reducible refine Kd.C_drew ?_)))
       (case side2 => exact HC0_1.out)
       rintro e w27 ⟨v603, rfl, ho0, hb⟩
       refine ⟨_, rfl, ?_⟩
       have n0_ := Aside0.mk (Kd.V_lower (Kd.V_mono (ok' := fun k_ => k_ ≠ gb599) ho0 (fun k_ hk_ => (Kd.freshB (g := gb599) (o := .cells #[.bool a0_0, .slice A0_1 l0_1.length c0_1, .slice A0_2 l0_2.length c0_2] 24 (0, 0)) (zq2 BK599.out) k_ hk_))) (below_size (by repeat (first | (with_reducible first | exact HB.out | apply below_alloc | apply pw_below_drewN | apply below_drew1 | refine below_set ?_ GE599.out) | exact HB.out))))
       have n1_ := Aside0.mk (blk_below (g := gb599) (o := .cells #[.bool a0_0, .slice A0_1 l0_1.length c0_1, .slice A0_2 l0_2.length c0_2] 24 (0, 0)) (zq2 BK599.out) hb)
       have n2_ := Aside0.mk (below_step (by repeat (first | (with_reducible first | exact HB.out | apply below_alloc | apply pw_below_drewN | apply below_drew1 | refine below_set ?_ GE599.out) | exact HB.out)) hb)
       clear BK599
       clear HB
       have HO604 := n0_
       have BK599 := n1_
       have HB := n2_
       clear n0_ n1_ n2_
       (try clear hb)
       (try clear hb2)
       (try clear hk)
       (try clear hi)
       (try clear ho0)
       refine hK.out _ _ ⟨(blk_cell BK599.out 0).trans rfl, (blk_cell BK599.out 1).trans rfl, (blk_cell BK599.out 2).trans rfl⟩ (fun hHeld => ?_)
       clear hK K
       refine norm_ (a' := ?_) ?_ ?_
       rotate_left
       ·show Act.put _ (some 49) _ = _
        simp only [Act.put, List.setIfInBounds_toArray, List.set_cons_zero, List.set_cons_succ, i64_w, i32_w]
        rfl
       refine one_ (i := 5) (N := some 52) #[true, true, true, true, true, true, false, false] rfl rfl (one_of HT_.out (by kernel_rfl)) (by decide) (fun K hK => ?_)
       refine goes_ Tryd.func45 (by kernel_rfl) rfl #[.slice A0_2 l0_2.length c0_2] (by rfl) rfl rfl zq5 ?_
       with_reducible refine (fetterlockref1_natOf.calls kj7 _ _ l0_2 t605 _ ?side1 ?side2 A24.out).mono ?_
       (case side1 => repeat (first | exact (Kd.C_below HR0_2.out HB.out) | (with_reducible refine Kd.C_alloc ?_ _) | (with_reducible refine Kd.C_drewN ?_ _) | (with_reducible refine Kd.C_drew ?_)))
       (case side2 => exact HC0_2.out)
       rintro e w28 ⟨v606, rfl, ho0, hb⟩
       refine ⟨_, rfl, ?_⟩
       have n0_ := Aside0.mk (Kd.V_below (zq3 HO604.out) hb)
       have n1_ := Aside0.mk (Kd.V_lower (Kd.V_mono (ok' := fun k_ => k_ ≠ gb599) ho0 (fun k_ hk_ => (Kd.freshB (g := gb599) (o := .cells #[.bool a0_0, .slice A0_1 l0_1.length c0_1, .slice A0_2 l0_2.length c0_2] 24 (0, 0)) (zq2 BK599.out) k_ hk_))) (below_size (by repeat (first | (with_reducible first | exact HB.out | apply below_alloc | apply pw_below_drewN | apply below_drew1 | refine below_set ?_ GE599.out) | exact HB.out))))
       have n2_ := Aside0.mk (blk_below (g := gb599) (o := .cells #[.bool a0_0, .slice A0_1 l0_1.length c0_1, .slice A0_2 l0_2.length c0_2] 24 (0, 0)) (zq2 BK599.out) hb)
       have n3_ := Aside0.mk (below_step (by repeat (first | (with_reducible first | exact HB.out | apply below_alloc | apply pw_below_drewN | apply below_drew1 | refine below_set ?_ GE599.out) | exact HB.out)) hb)
       clear HO604
       clear BK599
       clear HB
       have HO604 := n0_
       have HO607 := n1_
       have BK599 := n2_
       have HB := n3_
       clear n0_ n1_ n2_ n3_
       (try clear hb)
       (try clear hb2)
       (try clear hk)
       (try clear hi)
       (try clear ho0)
       refine hK.out _ _ ⟨(blk_cell BK599.out 0).trans rfl, (blk_cell BK599.out 1).trans rfl, (blk_cell BK599.out 2).trans rfl⟩ (fun hHeld => ?_)
       clear hK K
       refine norm_ (a' := ?_) ?_ ?_
       rotate_left
       ·show Act.put _ (some 52) _ = _
        simp only [Act.put, List.setIfInBounds_toArray, List.set_cons_zero, List.set_cons_succ, i64_w, i32_w]
        rfl
       refine pure_ (i := 6) (N := some 3) (v := ?_) (a' := ?_) #[true, true, true, true, true, true, true, false] rfl rfl (any_of HT_.out (by kernel_rfl)) (fun _ _ _ h => h) (Or.inl ⟨by rfl, ?_⟩) ?_ ?_
       rotate_left
       ·intro w'
        go_simp
        with_reducible rfl
       rotate_left
       ·simp only [Act.put, List.setIfInBounds_toArray, List.set_cons_zero, List.set_cons_succ, i64_w, i32_w]
        rfl
       refine pure_ (i := 7) (N := some 4) (v := ?_) (a' := ?_) #[true, true, true, true, true, true, true, true] rfl rfl (any_of HT_.out (by kernel_rfl)) (fun _ _ _ h => h) (Or.inl ⟨by rfl, ?_⟩) ?_ ?_
       rotate_left
       ·intro w'
        go_simp
        with_reducible rfl
       rotate_left
       ·simp only [Act.put, List.setIfInBounds_toArray, List.set_cons_zero, List.set_cons_succ, i64_w, i32_w]
        rfl
       refine done_ (done_of HT_.out (by kernel_rfl)) ?_
       go_upto_region 6 with (fail)
       go_cut [65] (fun v65 wc => ∃ (kq : Nat) (x65_24 : Bool), v65 = .bool x65_24 ∧ Aside0 (fetterlockref1_Fault.j2 kq t602 t605 x65_24 = some r) ∧ Aside0 (kq ≤ kj7) ∧ Aside0 (Kd.V (Kd.int .i64) 3 wc w.heap.size (fun k_ => k_ ≠ gb599) v603 t602) ∧ Aside0 (Kd.V (Kd.int .i64) 3 wc w.heap.size (fun k_ => k_ ≠ gb599) v606 t605) ∧ Aside0 (wc.heap[gb599]? = some (.cells #[.bool a0_0, (.slice A0_1 l0_1.length c0_1), (.slice A0_2 l0_2.length c0_2)] 24 (0, 0))) ∧ Aside0 (Below w.heap.size w wc))
       case first =>
        have H := HC25.out
        clear HC25
        by_cases c29 : (t602.length : Int) = 0
        ·rw [if_pos c29] at H
         have c29b0 : ((t602.length : Int) == 0) = true := beq_iff_eq.mpr c29
         have c29b1 : ((t602.length : Int) != 0) = false := bne_eq_false_iff_eq.mpr c29
         clear c29
         (first | rw [c29b0] | (simp only [i64_w, i32_w]; rw [c29b0]) | skip)
         by_cases c30 : a0_0 = true
         ·subst c30
          have H1 : (fetterlockref1_Fault.j2 kj7 t602 t605 true) = some r := by rw [if_pos rfl] at H; exact H
          clear H
          have H := H1
          clear H1
          have H' := Aside0.mk H
          clear H
          obtain ⟨Ao31, co31, eo31⟩ := Kd.V_slice HO604.out
          subst eo31
          have hcz32_0 : w28.cell? ⟨gb599, 0, none⟩ = some (.bool true) := (blk_cell BK599.out 0).trans rfl
          have hcz32_1 : w28.cell? ⟨gb599, 1, none⟩ = some (.slice A0_1 l0_1.length c0_1) := (blk_cell BK599.out 1).trans rfl
          have hcz32_2 : w28.cell? ⟨gb599, 2, none⟩ = some (.slice A0_2 l0_2.length c0_2) := (blk_cell BK599.out 2).trans rfl
          have hfz32_0 := blk_frozen BK599.out 0
          have hfz32_1 := blk_frozen BK599.out 1
          have hfz32_2 := blk_frozen BK599.out 2
          go_wp2
          go_meet
          case rel => exact ⟨_, (true), zq8, H', ⟨by have := HJ1.out; have := HJ7.out; first | omega | exact Nat.le_refl _⟩, ⟨by (with_reducible repeat (first | apply Kd.V_alloc | apply Kd.V_drewN | apply Kd.V_drew)); exact HO604.out⟩, ⟨by (with_reducible repeat (first | apply Kd.V_alloc | apply Kd.V_drewN | apply Kd.V_drew)); exact HO607.out⟩, ⟨by (with_reducible repeat (first | refine blk_drewN ?_ _ | refine blk_drew ?_ | refine blk_alloc ?_ _)); exact BK599.out⟩, ⟨by repeat (first | (with_reducible first | exact HB.out | apply below_alloc | apply pw_below_drewN | apply below_drew1 | refine below_set ?_ GE599.out) | exact HB.out)⟩⟩
         ·replace c30 := Bool.eq_false_iff.mpr c30
          subst c30
          have H1 : ((fetterlockref1_CmpNat.f kj7 t605 (([1] : List Int))).bind fun t611 => (fetterlockref1_Fault.j2 kj7 t602 t605 (t611 != 0))) = some r := by rw [if_neg (show ¬ (false = true) by decide)] at H; exact H
          clear H
          have H := H1
          clear H1
          obtain ⟨y608, hy608⟩ : ∃ y_ : List Int, y_ = (([1] : List Int)) := ⟨_, rfl⟩
          replace H : ((fetterlockref1_CmpNat.f kj7 t605 y608).bind fun t611 => (fetterlockref1_Fault.j2 kj7 t602 t605 (t611 != 0))) = some r := by first | (rw [hy608]; with_reducible exact H) | (have H2_ := (Option.bind_some _ _).symm.trans H; rw [hy608]; with_reducible exact H2_) | (have H2_ := (Option.bind_some _ _).symm.trans H; with_reducible exact H2_) | with_reducible exact H | (rw [hy608]; exact H) | exact H
          have Ny608 := Aside0.mk hy608
          clear hy608
          replace H := Option.bind_eq_some_iff.mp H
          obtain ⟨t611, A330, H⟩ := H
          replace H : (fetterlockref1_Fault.j2 kj7 t602 t605 (t611 != 0)) = some r := H
          have A33 := Aside0.mk A330
          clear A330
          have H' := Aside0.mk H
          clear H
          obtain ⟨Ao34, co34, eo34⟩ := Kd.V_slice HO604.out
          subst eo34
          have hcz35_0 : w28.cell? ⟨gb599, 0, none⟩ = some (.bool false) := (blk_cell BK599.out 0).trans rfl
          have hcz35_1 : w28.cell? ⟨gb599, 1, none⟩ = some (.slice A0_1 l0_1.length c0_1) := (blk_cell BK599.out 1).trans rfl
          have hcz35_2 : w28.cell? ⟨gb599, 2, none⟩ = some (.slice A0_2 l0_2.length c0_2) := (blk_cell BK599.out 2).trans rfl
          have hfz35_0 := blk_frozen BK599.out 0
          have hfz35_1 := blk_frozen BK599.out 1
          have hfz35_2 := blk_frozen BK599.out 2
          go_wp2_with (first | ((with_reducible refine gate_dst (N := 61) rfl ?_); (try (refine gate_guard (by rfl) ?_; dsimp only)); refine Kd.R_lit (Kd.int .i64) _ 3 ?hg (N := 61) ?hd (xs := ([1] : List Int)) (inner := [.int .i64 1]) (ok := fun _ => True) (okp := fun _ => True) ?hr ?hp (fun _ hk => hk) trivial (Below.refl _ _) (Nat.le_refl _) (by simp) ?_; (case hd => rfl); (case hg => rfl); (case hr => first | (go_simp; done) | (go_simp; rfl)); (case hp => exact (Reps.one (show Kd.M (Kd.int .i64) _ _ _ 1 [.int .i64 1] from rfl) (Reps.none _ _))); intro v609 w36 ho37 hb hg_ hnew_; clear hg_ hnew_; (first | rw [← Ny608.out] at ho37 | (simp only [Int.reduceToNat] at ho37; rw [← Ny608.out] at ho37)); have n0_ := Aside0.mk (Kd.V_elder' (zq3 HO604.out) (Kd.R_base ho37) hb); have n1_ := Aside0.mk (Kd.V_elder' (zq3 HO607.out) (Kd.R_base ho37) hb); have n2_ := Aside0.mk (Kd.R_lower ho37 (below_size (by repeat (first | (with_reducible first | exact HB.out | apply below_alloc | apply pw_below_drewN | apply below_drew1 | refine below_set ?_ GE599.out) | exact HB.out)))); have n3_ := Aside0.mk (blk_below (g := gb599) (o := .cells #[.bool false, .slice A0_1 l0_1.length c0_1, .slice A0_2 l0_2.length c0_2] 24 (0, 0)) (zq2 BK599.out) hb); have n4_ := Aside0.mk (below_step (by repeat (first | (with_reducible first | exact HB.out | apply below_alloc | apply pw_below_drewN | apply below_drew1 | refine below_set ?_ GE599.out) | exact HB.out)) hb); clear HO604; clear HO607; clear BK599; clear HB; have HO604 := n0_; have HO607 := n1_; have HO610 := n2_; have BK599 := n3_; have HB := n4_; clear n0_ n1_ n2_ n3_ n4_; clear hb ho37; obtain ⟨Ao38, co38, eo38⟩ := Kd.V_slice HO607.out; subst eo38; obtain ⟨Ao39, co39, eo39⟩ := Kd.R_slice HO610.out; subst eo39) | (go_at_call 46; (with_reducible refine (fetterlockref1_CmpNat.calls kj7 _ _ t605 _ _ y608 t611 _ ?side1 ?side2 ?side3 ?side4 A33.out).mono ?_); (case side1 => repeat (first | exact (Kd.V_reads' HO607.out).2.2 | (with_reducible refine Kd.C_alloc ?_ _) | (with_reducible refine Kd.C_drewN ?_ _) | (with_reducible refine Kd.C_drew ?_))); (case side2 => exact (Kd.V_reads' HO607.out).2.1); (case side3 => repeat (first | exact (Kd.R_reads' HO610.out).2.2 | (with_reducible refine Kd.C_alloc ?_ _) | (with_reducible refine Kd.C_drewN ?_ _) | (with_reducible refine Kd.C_drew ?_))); (case side4 => exact (Kd.R_reads' HO610.out).2.1); rintro e w40 ⟨rfl, hb⟩; have n0_ := Aside0.mk (Kd.V_below (zq3 HO604.out) hb); have n1_ := Aside0.mk (Kd.V_below (zq3 HO607.out) hb); have n2_ := Aside0.mk (Kd.R_below (zq4 HO610.out) hb); have n3_ := Aside0.mk (blk_below (g := gb599) (o := .cells #[.bool false, .slice A0_1 l0_1.length c0_1, .slice A0_2 l0_2.length c0_2] 24 (0, 0)) (zq2 BK599.out) hb); have n4_ := Aside0.mk (below_step (by repeat (first | (with_reducible first | exact HB.out | apply below_alloc | apply pw_below_drewN | apply below_drew1 | refine below_set ?_ GE599.out) | exact HB.out)) hb); clear HO604; clear HO607; clear HO610; clear BK599; clear HB; have HO604 := n0_; have HO607 := n1_; have HO610 := n2_; have BK599 := n3_; have HB := n4_; clear n0_ n1_ n2_ n3_ n4_; (try clear hb); (try clear hb2); (try clear hk); (try clear hi)))
          go_meet
          case rel => exact ⟨_, ((t611 != 0)), zq8, H', ⟨by have := HJ1.out; have := HJ7.out; first | omega | exact Nat.le_refl _⟩, ⟨by (with_reducible repeat (first | apply Kd.V_alloc | apply Kd.V_drewN | apply Kd.V_drew)); exact Kd.V_mono HO604.out (fun _ hk => hk.1)⟩, ⟨by (with_reducible repeat (first | apply Kd.V_alloc | apply Kd.V_drewN | apply Kd.V_drew)); exact Kd.V_mono HO607.out (fun _ hk => hk.1)⟩, ⟨by (with_reducible repeat (first | refine blk_drewN ?_ _ | refine blk_drew ?_ | refine blk_alloc ?_ _)); exact BK599.out⟩, ⟨by repeat (first | (with_reducible first | exact HB.out | apply below_alloc | apply pw_below_drewN | apply below_drew1 | refine below_set ?_ GE599.out) | exact HB.out)⟩⟩
        ·rw [if_neg c29] at H
         have c29b0 : ((t602.length : Int) == 0) = false := beq_eq_false_iff_ne.mpr c29
         have c29b1 : ((t602.length : Int) != 0) = true := bne_iff_ne.mpr c29
         have c29b2 : ¬ (t602 = []) := fun h_ => c29 (by rw [h_]; rfl)
         (first | rw [c29b0] | (simp only [i64_w, i32_w]; rw [c29b0]) | skip)
         have H' := Aside0.mk H
         clear H
         obtain ⟨Ao41, co41, eo41⟩ := Kd.V_slice HO604.out
         subst eo41
         go_wp2
         go_meet
         case rel => exact ⟨_, (false), zq8, H', ⟨by have := HJ1.out; have := HJ7.out; first | omega | exact Nat.le_refl _⟩, ⟨by (with_reducible repeat (first | apply Kd.V_alloc | apply Kd.V_drewN | apply Kd.V_drew)); exact HO604.out⟩, ⟨by (with_reducible repeat (first | apply Kd.V_alloc | apply Kd.V_drewN | apply Kd.V_drew)); exact HO607.out⟩, ⟨by (with_reducible repeat (first | refine blk_drewN ?_ _ | refine blk_drew ?_ | refine blk_alloc ?_ _)); exact BK599.out⟩, ⟨by repeat (first | (with_reducible first | exact HB.out | apply below_alloc | apply pw_below_drewN | apply below_drew1 | refine below_set ?_ GE599.out) | exact HB.out)⟩⟩
       case rest =>
        clear HC25
        try clear c1
        try clear c2
        try clear p2
        try clear c3
        try clear c4
        try clear c4b0
        try clear c4b1
        try clear p6
        try clear q6
        try clear hx6
        try clear c7
        try clear c9
        try clear c9b0
        try clear c9b1
        try clear c9b2
        try clear c12
        try clear c12b0
        try clear c13
        try clear c13b0
        try clear c14
        try clear c14b0
        try clear c14b1
        try clear c15
        try clear c16
        try clear c16b0
        try clear c16b1
        try clear c18
        try clear c18b0
        try clear c19
        try clear c19b0
        try clear c22
        try clear c29
        try clear c29b0
        try clear c29b1
        try clear c29b2
        try clear c30
        try clear hcz10_0
        try clear hcz10_1
        try clear hcz10_2
        try clear hcz15_0
        try clear hcz15_1
        try clear hcz15_2
        try clear hcz20_0
        try clear hcz20_1
        try clear hcz20_2
        try clear hcz21_0
        try clear hcz21_1
        try clear hcz21_2
        try clear hcz32_0
        try clear hcz32_1
        try clear hcz32_2
        try clear hcz35_0
        try clear hcz35_1
        try clear hcz35_2
        try clear hcz5_0
        try clear hcz5_1
        try clear hcz5_2
        try clear hcz6_0
        try clear hcz6_1
        try clear hcz6_2
        try clear hfz10_0
        try clear hfz10_1
        try clear hfz10_2
        try clear hfz15_0
        try clear hfz15_1
        try clear hfz15_2
        try clear hfz20_0
        try clear hfz20_1
        try clear hfz20_2
        try clear hfz21_0
        try clear hfz21_1
        try clear hfz21_2
        try clear hfz32_0
        try clear hfz32_1
        try clear hfz32_2
        try clear hfz35_0
        try clear hfz35_1
        try clear hfz35_2
        try clear hfz5_0
        try clear hfz5_1
        try clear hfz5_2
        try clear hfz6_0
        try clear hfz6_1
        try clear hfz6_2
        try clear hx600_0
        try clear hx601_0
        try clear p2
        try clear p6
        try clear p600
        try clear p601
        try clear q6
        try clear q600
        try clear q601
        obtain ⟨kq, x65_24, rfl, HA, HJ24, HO_3, HO_4, BK599, HB⟩ := hcut
        cases kq with
        | zero => exact absurd HA.out (by simp [fetterlockref1_Fault.j2])
        | succ kj24 =>
         have H := HA.out
         clear HA
         simp only [fetterlockref1_Fault.j2] at H
         by_cases c42 : x65_24 = true
         ·subst c42
          have H1 : (some 2) = some r := by rw [if_pos rfl] at H; exact H
          clear H
          have H := H1
          clear H1
          obtain rfl := Option.some.inj H
          go_wp2
          go_ret
          exact ⟨by first | rfl | (simp [errW_none, errW_some] <;> rfl) | (simp [*, errW_none, errW_some] <;> rfl), by repeat (first | (with_reducible first | exact HB.out | apply below_alloc | apply pw_below_drewN | apply below_drew1 | refine below_set ?_ GE599.out) | exact HB.out)⟩
         ·replace c42 := Bool.eq_false_iff.mpr c42
          subst c42
          have H1 : ((fetterlockref1_GcdNat.f kj24 t602 t605).bind fun t612 => ((fetterlockref1_CmpNat.f kj24 t612 (([1] : List Int))).bind fun t618 => (if t618 = 0 then (some 0) else (some 2)))) = some r := by rw [if_neg (show ¬ (false = true) by decide)] at H; exact H
          clear H
          have H := H1
          clear H1
          replace H := Option.bind_eq_some_iff.mp H
          obtain ⟨t612, A430, H⟩ := H
          replace H : ((fetterlockref1_CmpNat.f kj24 t612 (([1] : List Int))).bind fun t618 => (if t618 = 0 then (some 0) else (some 2))) = some r := H
          have A43 := Aside0.mk A430
          clear A430
          obtain ⟨y615, hy615⟩ : ∃ y_ : List Int, y_ = (([1] : List Int)) := ⟨_, rfl⟩
          replace H : ((fetterlockref1_CmpNat.f kj24 t612 y615).bind fun t618 => (if t618 = 0 then (some 0) else (some 2))) = some r := by first | (rw [hy615]; with_reducible exact H) | (have H2_ := (Option.bind_some _ _).symm.trans H; rw [hy615]; with_reducible exact H2_) | (have H2_ := (Option.bind_some _ _).symm.trans H; with_reducible exact H2_) | with_reducible exact H | (rw [hy615]; exact H) | exact H
          have Ny615 := Aside0.mk hy615
          clear hy615
          replace H := Option.bind_eq_some_iff.mp H
          obtain ⟨t618, A440, H⟩ := H
          replace H : (if t618 = 0 then (some 0) else (some 2)) = some r := H
          have A44 := Aside0.mk A440
          clear A440
          by_cases c45 : t618 = 0
          ·rw [if_pos c45] at H
           have c45b0 : (t618 == 0) = true := beq_iff_eq.mpr c45
           have c45b1 : (t618 != 0) = false := bne_eq_false_iff_eq.mpr c45
           clear c45
           obtain rfl := Option.some.inj H
           obtain ⟨Ao46, co46, eo46⟩ := Kd.V_slice HO_3.out
           subst eo46
           obtain ⟨Ao47, co47, eo47⟩ := Kd.V_slice HO_4.out
           subst eo47
           go_wp2_with (first | ((with_reducible refine gate_callee (f := 47) rfl ?_); refine goesL_ (some 68) rfl rfl Tryd.func47 (by kernel_rfl) rfl #[.slice Ao46 t602.length co46, .slice Ao47 t605.length co47] rfl zq5 ?_; (with_reducible refine (fetterlockref1_GcdNat.calls kj24 (fun k_ => k_ ≠ gb599) _ _ t602 (fun k_ => k_ ≠ gb599) _ _ t605 t612 _ ?side1 ?side2 A43.out).mono ?_); (case side1 => exact HO_3.out); (case side2 => exact HO_4.out); rintro e w48 ⟨v613, rfl, ho0, hb⟩; refine ⟨_, rfl, ?_⟩; have n0_ := Aside0.mk (Kd.V_below (zq3 HO_3.out) hb); have n1_ := Aside0.mk (Kd.V_below (zq3 HO_4.out) hb); have n2_ := Aside0.mk (Kd.V_lower (Kd.V_mono (ok' := fun k_ => k_ ≠ gb599) ho0 (fun k_ hk_ => Or.elim hk_ (fun hs_ => Or.elim hs_ (fun hs_ => hs_) (fun hs_ => hs_)) (fun hn_ => (Kd.freshB (g := gb599) (o := .cells #[.bool a0_0, .slice A0_1 l0_1.length c0_1, .slice A0_2 l0_2.length c0_2] 24 (0, 0)) (zq2 BK599.out) k_ hn_)))) (below_size (by repeat (first | (with_reducible first | exact HB.out | apply below_alloc | apply pw_below_drewN | apply below_drew1 | refine below_set ?_ GE599.out) | exact HB.out)))); have n3_ := Aside0.mk (blk_below (g := gb599) (o := .cells #[.bool a0_0, .slice A0_1 l0_1.length c0_1, .slice A0_2 l0_2.length c0_2] 24 (0, 0)) (zq2 BK599.out) hb); have n4_ := Aside0.mk (below_step (by repeat (first | (with_reducible first | exact HB.out | apply below_alloc | apply pw_below_drewN | apply below_drew1 | refine below_set ?_ GE599.out) | exact HB.out)) hb); clear HO_3; clear HO_4; clear BK599; clear HB; have HO_3 := n0_; have HO_4 := n1_; have HO614 := n2_; have BK599 := n3_; have HB := n4_; clear n0_ n1_ n2_ n3_ n4_; (try clear hb); (try clear hb2); (try clear hk); (try clear hi); (try clear ho0)) | ((with_reducible refine gate_dst (N := 69) rfl ?_); (try (refine gate_guard (by rfl) ?_; dsimp only)); refine Kd.R_lit (Kd.int .i64) _ 3 ?hg (N := 69) ?hd (xs := ([1] : List Int)) (inner := [.int .i64 1]) (ok := fun _ => True) (okp := fun _ => True) ?hr ?hp (fun _ hk => hk) trivial (Below.refl _ _) (Nat.le_refl _) (by simp) ?_; (case hd => rfl); (case hg => rfl); (case hr => first | (go_simp; done) | (go_simp; rfl)); (case hp => exact (Reps.one (show Kd.M (Kd.int .i64) _ _ _ 1 [.int .i64 1] from rfl) (Reps.none _ _))); intro v616 w49 ho50 hb hg_ hnew_; clear hg_ hnew_; (first | rw [← Ny615.out] at ho50 | (simp only [Int.reduceToNat] at ho50; rw [← Ny615.out] at ho50)); have n0_ := Aside0.mk (Kd.V_elder' (zq3 HO_3.out) (Kd.R_base ho50) hb); have n1_ := Aside0.mk (Kd.V_elder' (zq3 HO_4.out) (Kd.R_base ho50) hb); have n2_ := Aside0.mk (Kd.V_elder' (zq3 HO614.out) (Kd.R_base ho50) hb); have n3_ := Aside0.mk (Kd.R_lower ho50 (below_size (by repeat (first | (with_reducible first | exact HB.out | apply below_alloc | apply pw_below_drewN | apply below_drew1 | refine below_set ?_ GE599.out) | exact HB.out)))); have n4_ := Aside0.mk (blk_below (g := gb599) (o := .cells #[.bool a0_0, .slice A0_1 l0_1.length c0_1, .slice A0_2 l0_2.length c0_2] 24 (0, 0)) (zq2 BK599.out) hb); have n5_ := Aside0.mk (below_step (by repeat (first | (with_reducible first | exact HB.out | apply below_alloc | apply pw_below_drewN | apply below_drew1 | refine below_set ?_ GE599.out) | exact HB.out)) hb); clear HO_3; clear HO_4; clear HO614; clear BK599; clear HB; have HO_3 := n0_; have HO_4 := n1_; have HO614 := n2_; have HO617 := n3_; have BK599 := n4_; have HB := n5_; clear n0_ n1_ n2_ n3_ n4_ n5_; clear hb ho50; obtain ⟨Ao51, co51, eo51⟩ := Kd.V_slice HO614.out; subst eo51; obtain ⟨Ao52, co52, eo52⟩ := Kd.R_slice HO617.out; subst eo52) | ((with_reducible refine gate_callee (f := 46) rfl ?_); refine goesL_ (some 70) rfl rfl Tryd.func46 (by kernel_rfl) rfl #[.slice Ao51 t612.length co51, .slice Ao52 y615.length co52] rfl zq5 ?_; (with_reducible refine (fetterlockref1_CmpNat.calls kj24 _ _ t612 _ _ y615 t618 _ ?side1 ?side2 ?side3 ?side4 A44.out).mono ?_); (case side1 => repeat (first | exact (Kd.V_reads' HO614.out).2.2 | (with_reducible refine Kd.C_alloc ?_ _) | (with_reducible refine Kd.C_drewN ?_ _) | (with_reducible refine Kd.C_drew ?_))); (case side2 => exact (Kd.V_reads' HO614.out).2.1); (case side3 => repeat (first | exact (Kd.R_reads' HO617.out).2.2 | (with_reducible refine Kd.C_alloc ?_ _) | (with_reducible refine Kd.C_drewN ?_ _) | (with_reducible refine Kd.C_drew ?_))); (case side4 => exact (Kd.R_reads' HO617.out).2.1); rintro e w53 ⟨rfl, hb⟩; refine ⟨_, rfl, ?_⟩; have n0_ := Aside0.mk (Kd.V_below (zq3 HO_3.out) hb); have n1_ := Aside0.mk (Kd.V_below (zq3 HO_4.out) hb); have n2_ := Aside0.mk (Kd.V_below (zq3 HO614.out) hb); have n3_ := Aside0.mk (Kd.R_below (zq4 HO617.out) hb); have n4_ := Aside0.mk (blk_below (g := gb599) (o := .cells #[.bool a0_0, .slice A0_1 l0_1.length c0_1, .slice A0_2 l0_2.length c0_2] 24 (0, 0)) (zq2 BK599.out) hb); have n5_ := Aside0.mk (below_step (by repeat (first | (with_reducible first | exact HB.out | apply below_alloc | apply pw_below_drewN | apply below_drew1 | refine below_set ?_ GE599.out) | exact HB.out)) hb); clear HO_3; clear HO_4; clear HO614; clear HO617; clear BK599; clear HB; have HO_3 := n0_; have HO_4 := n1_; have HO614 := n2_; have HO617 := n3_; have BK599 := n4_; have HB := n5_; clear n0_ n1_ n2_ n3_ n4_ n5_; (try clear hb); (try clear hb2); (try clear hk); (try clear hi)))
           go_ret
           exact ⟨by first | rfl | (simp [errW_none, errW_some] <;> rfl) | (simp [*, errW_none, errW_some] <;> rfl), by repeat (first | (with_reducible first | exact HB.out | apply below_alloc | apply pw_below_drewN | apply below_drew1 | refine below_set ?_ GE599.out) | exact HB.out)⟩
          ·rw [if_neg c45] at H
           have c45b0 : (t618 == 0) = false := beq_eq_false_iff_ne.mpr c45
           have c45b1 : (t618 != 0) = true := bne_iff_ne.mpr c45
           obtain rfl := Option.some.inj H
           obtain ⟨Ao54, co54, eo54⟩ := Kd.V_slice HO_3.out
           subst eo54
           obtain ⟨Ao55, co55, eo55⟩ := Kd.V_slice HO_4.out
           subst eo55
           go_wp2_with (first | ((with_reducible refine gate_callee (f := 47) rfl ?_); refine goesL_ (some 68) rfl rfl Tryd.func47 (by kernel_rfl) rfl #[.slice Ao54 t602.length co54, .slice Ao55 t605.length co55] rfl zq5 ?_; (with_reducible refine (fetterlockref1_GcdNat.calls kj24 (fun k_ => k_ ≠ gb599) _ _ t602 (fun k_ => k_ ≠ gb599) _ _ t605 t612 _ ?side1 ?side2 A43.out).mono ?_); (case side1 => exact HO_3.out); (case side2 => exact HO_4.out); rintro e w56 ⟨v613, rfl, ho0, hb⟩; refine ⟨_, rfl, ?_⟩; have n0_ := Aside0.mk (Kd.V_below (zq3 HO_3.out) hb); have n1_ := Aside0.mk (Kd.V_below (zq3 HO_4.out) hb); have n2_ := Aside0.mk (Kd.V_lower (Kd.V_mono (ok' := fun k_ => k_ ≠ gb599) ho0 (fun k_ hk_ => Or.elim hk_ (fun hs_ => Or.elim hs_ (fun hs_ => hs_) (fun hs_ => hs_)) (fun hn_ => (Kd.freshB (g := gb599) (o := .cells #[.bool a0_0, .slice A0_1 l0_1.length c0_1, .slice A0_2 l0_2.length c0_2] 24 (0, 0)) (zq2 BK599.out) k_ hn_)))) (below_size (by repeat (first | (with_reducible first | exact HB.out | apply below_alloc | apply pw_below_drewN | apply below_drew1 | refine below_set ?_ GE599.out) | exact HB.out)))); have n3_ := Aside0.mk (blk_below (g := gb599) (o := .cells #[.bool a0_0, .slice A0_1 l0_1.length c0_1, .slice A0_2 l0_2.length c0_2] 24 (0, 0)) (zq2 BK599.out) hb); have n4_ := Aside0.mk (below_step (by repeat (first | (with_reducible first | exact HB.out | apply below_alloc | apply pw_below_drewN | apply below_drew1 | refine below_set ?_ GE599.out) | exact HB.out)) hb); clear HO_3; clear HO_4; clear BK599; clear HB; have HO_3 := n0_; have HO_4 := n1_; have HO614 := n2_; have BK599 := n3_; have HB := n4_; clear n0_ n1_ n2_ n3_ n4_; (try clear hb); (try clear hb2); (try clear hk); (try clear hi); (try clear ho0)) | ((with_reducible refine gate_dst (N := 69) rfl ?_); (try (refine gate_guard (by rfl) ?_; dsimp only)); refine Kd.R_lit (Kd.int .i64) _ 3 ?hg (N := 69) ?hd (xs := ([1] : List Int)) (inner := [.int .i64 1]) (ok := fun _ => True) (okp := fun _ => True) ?hr ?hp (fun _ hk => hk) trivial (Below.refl _ _) (Nat.le_refl _) (by simp) ?_; (case hd => rfl); (case hg => rfl); (case hr => first | (go_simp; done) | (go_simp; rfl)); (case hp => exact (Reps.one (show Kd.M (Kd.int .i64) _ _ _ 1 [.int .i64 1] from rfl) (Reps.none _ _))); intro v616 w57 ho58 hb hg_ hnew_; clear hg_ hnew_; (first | rw [← Ny615.out] at ho58 | (simp only [Int.reduceToNat] at ho58; rw [← Ny615.out] at ho58)); have n0_ := Aside0.mk (Kd.V_elder' (zq3 HO_3.out) (Kd.R_base ho58) hb); have n1_ := Aside0.mk (Kd.V_elder' (zq3 HO_4.out) (Kd.R_base ho58) hb); have n2_ := Aside0.mk (Kd.V_elder' (zq3 HO614.out) (Kd.R_base ho58) hb); have n3_ := Aside0.mk (Kd.R_lower ho58 (below_size (by repeat (first | (with_reducible first | exact HB.out | apply below_alloc | apply pw_below_drewN | apply below_drew1 | refine below_set ?_ GE599.out) | exact HB.out)))); have n4_ := Aside0.mk (blk_below (g := gb599) (o := .cells #[.bool a0_0, .slice A0_1 l0_1.length c0_1, .slice A0_2 l0_2.length c0_2] 24 (0, 0)) (zq2 BK599.out) hb); have n5_ := Aside0.mk (below_step (by repeat (first | (with_reducible first | exact HB.out | apply below_alloc | apply pw_below_drewN | apply below_drew1 | refine below_set ?_ GE599.out) | exact HB.out)) hb); clear HO_3; clear HO_4; clear HO614; clear BK599; clear HB; have HO_3 := n0_; have HO_4 := n1_; have HO614 := n2_; have HO617 := n3_; have BK599 := n4_; have HB := n5_; clear n0_ n1_ n2_ n3_ n4_ n5_; clear hb ho58; obtain ⟨Ao59, co59, eo59⟩ := Kd.V_slice HO614.out; subst eo59; obtain ⟨Ao60, co60, eo60⟩ := Kd.R_slice HO617.out; subst eo60) | ((with_reducible refine gate_callee (f := 46) rfl ?_); refine goesL_ (some 70) rfl rfl Tryd.func46 (by kernel_rfl) rfl #[.slice Ao59 t612.length co59, .slice Ao60 y615.length co60] rfl zq5 ?_; (with_reducible refine (fetterlockref1_CmpNat.calls kj24 _ _ t612 _ _ y615 t618 _ ?side1 ?side2 ?side3 ?side4 A44.out).mono ?_); (case side1 => repeat (first | exact (Kd.V_reads' HO614.out).2.2 | (with_reducible refine Kd.C_alloc ?_ _) | (with_reducible refine Kd.C_drewN ?_ _) | (with_reducible refine Kd.C_drew ?_))); (case side2 => exact (Kd.V_reads' HO614.out).2.1); (case side3 => repeat (first | exact (Kd.R_reads' HO617.out).2.2 | (with_reducible refine Kd.C_alloc ?_ _) | (with_reducible refine Kd.C_drewN ?_ _) | (with_reducible refine Kd.C_drew ?_))); (case side4 => exact (Kd.R_reads' HO617.out).2.1); rintro e w61 ⟨rfl, hb⟩; refine ⟨_, rfl, ?_⟩; have n0_ := Aside0.mk (Kd.V_below (zq3 HO_3.out) hb); have n1_ := Aside0.mk (Kd.V_below (zq3 HO_4.out) hb); have n2_ := Aside0.mk (Kd.V_below (zq3 HO614.out) hb); have n3_ := Aside0.mk (Kd.R_below (zq4 HO617.out) hb); have n4_ := Aside0.mk (blk_below (g := gb599) (o := .cells #[.bool a0_0, .slice A0_1 l0_1.length c0_1, .slice A0_2 l0_2.length c0_2] 24 (0, 0)) (zq2 BK599.out) hb); have n5_ := Aside0.mk (below_step (by repeat (first | (with_reducible first | exact HB.out | apply below_alloc | apply pw_below_drewN | apply below_drew1 | refine below_set ?_ GE599.out) | exact HB.out)) hb); clear HO_3; clear HO_4; clear HO614; clear HO617; clear BK599; clear HB; have HO_3 := n0_; have HO_4 := n1_; have HO614 := n2_; have HO617 := n3_; have BK599 := n4_; have HB := n5_; clear n0_ n1_ n2_ n3_ n4_ n5_; (try clear hb); (try clear hb2); (try clear hk); (try clear hi)))
           go_ret
           exact ⟨by first | rfl | (simp [errW_none, errW_some] <;> rfl) | (simp [*, errW_none, errW_some] <;> rfl), by repeat (first | (with_reducible first | exact HB.out | apply below_alloc | apply pw_below_drewN | apply below_drew1 | refine below_set ?_ GE599.out) | exact HB.out)⟩
end Go.Proofs.YtemnjgkicndmjaaDoor.Q
namespace Go.Proofs.YtemnjgkicndmjaaDoor.Q
open Go.RowKit Go.Proofs.YtemnjgkicndmjaaDoorW.PrintWords Go.Proofs.YtemnjgkicndmjaaDoorW.PrintLast Go.Proofs.YtemnjgkicndmjaaDoorW.PrintMore
attribute [local go_sem] max2_int min2_int max_two min_two max_three min_three max_four min_four
set_option linter.unusedVariables false
set_option linter.unusedSimpArgs false
def fetterlocklaw1_NumberCheckMatchesSpec.f (k : Nat) (a0_0 : Bool) (l0_1 : List Int) (l0_2 : List Int) : Option (Bool) := (number_Check.f k a0_0 l0_1 l0_2).bind fun t1539 => ((fetterlockref1_Fault.f k a0_0 l0_1 l0_2).bind fun t1540 => (if t1539 = t1540 then ((fetterlocklaw1_counted.f k).bind fun t1541 => (some t1541)) else (some false)))
theorem fetterlocklaw1_NumberCheckMatchesSpec.mono : ∀ a0 a1 a2 k, LeO (fetterlocklaw1_NumberCheckMatchesSpec.f k a0 a1 a2) (fetterlocklaw1_NumberCheckMatchesSpec.f (k + 1) a0 a1 a2) := by
 intro a0 a1 a2 k
 unfold fetterlocklaw1_NumberCheckMatchesSpec.f
 repeat' first
   | (with_reducible exact fetterlocklaw1_counted.mono _)
   | (with_reducible exact fetterlockref1_Fault.mono _ _ _ _)
   | (with_reducible exact number_Check.mono _ _ _ _)
   | (with_reducible exact LeO.refl _)
   | (with_reducible exact LeO.none _)
   | (with_reducible refine LeO.ite ?_ ?_)
   | (with_reducible refine LeO.bind ?_ (fun _ => ?_))
   | exact fetterlocklaw1_counted.mono _
   | exact fetterlockref1_Fault.mono _ _ _ _
   | exact number_Check.mono _ _ _ _
   | exact LeO.none _
   | refine LeO.ite ?_ ?_
   | refine LeO.bind ?_ (fun _ => ?_)
def fetterlocklaw1_NumberCheckMatchesSpec.T1 : Bool × List (List Nat × List Nat) := (true, [([], []), ([0], [0]), ([], []), ([2, 1], [2]), ([1, 3], [1, 3]), ([4, 3], [4]), ([5, 5], [5]), ([5, 6], [5, 6]), ([7, 6, 0, 1, 2, 3, 4, 5, 6, 7], [7])])
def fetterlocklaw1_NumberCheckMatchesSpec.B1 : List Nat := [0, 1, 0, 7, 15, 31, 63, 127, 255]
theorem fetterlocklaw1_NumberCheckMatchesSpec.tab1 : rtab .any (opsOf Tryd.f3 1) = fetterlocklaw1_NumberCheckMatchesSpec.T1 := by kernel_rfl
theorem fetterlocklaw1_NumberCheckMatchesSpec.bits1 : waitsOk fetterlocklaw1_NumberCheckMatchesSpec.T1.2 fetterlocklaw1_NumberCheckMatchesSpec.B1 = true := by kernel_rfl
set_option maxHeartbeats 8000000 in
set_option maxRecDepth 100000 in
theorem fetterlocklaw1_NumberCheckMatchesSpec.calls (k : Nat) (a0_0 : Bool) (A0_1 : Option Addr) (c0_1 : Nat) (l0_1 : List Int) (A0_2 : Option Addr) (c0_2 : Nat) (l0_2 : List Int) (r : Bool) (w : World) (hr0_1 : Kd.C (Kd.int .u32) w A0_1 l0_1.length l0_1) (hc0_1 : l0_1.length ≤ c0_1) (hr0_2 : Kd.C (Kd.int .u32) w A0_2 l0_2.length l0_2) (hc0_2 : l0_2.length ≤ c0_2) (h : fetterlocklaw1_NumberCheckMatchesSpec.f k a0_0 l0_1 l0_2 = some r) (hr : r = true := by assumption) :
  Calls Tryd.prog 3 #[.agg #[.bool a0_0, .slice A0_1 l0_1.length c0_1, .slice A0_2 l0_2.length c0_2]] w fun e w' => e = .returned (.bool r) ∧ Below w.heap.size w w' := by
 have hu24 := Tryd.underlying24
 have HR0_1 := Aside0.mk hr0_1
 have HC0_1 := Aside0.mk hc0_1
 clear hr0_1 hc0_1
 have HR0_2 := Aside0.mk hr0_2
 have HC0_2 := Aside0.mk hc0_2
 clear hr0_2 hc0_2
 have HB := Aside0.mk (Below.refl w.heap.size w)
 have H : ((number_Check.f k a0_0 l0_1 l0_2).bind fun t1539 => ((fetterlockref1_Fault.f k a0_0 l0_1 l0_2).bind fun t1540 => (if t1539 = t1540 then ((fetterlocklaw1_counted.f k).bind fun t1541 => (some t1541)) else (some false)))) = some r := h
 clear h
 replace H := Option.bind_eq_some_iff.mp H
 obtain ⟨t1539, A20, H⟩ := H
 replace H : ((fetterlockref1_Fault.f k a0_0 l0_1 l0_2).bind fun t1540 => (if t1539 = t1540 then ((fetterlocklaw1_counted.f k).bind fun t1541 => (some t1541)) else (some false))) = some r := H
 have A2 := Aside0.mk A20
 clear A20
 replace H := Option.bind_eq_some_iff.mp H
 obtain ⟨t1540, A30, H⟩ := H
 replace H : (if t1539 = t1540 then ((fetterlocklaw1_counted.f k).bind fun t1541 => (some t1541)) else (some false)) = some r := H
 have A3 := Aside0.mk A30
 clear A30
 by_cases c4 : t1539 = t1540
 ·rw [if_pos c4] at H
  have c4b0 : (t1539 == t1540) = true := beq_iff_eq.mpr c4
  have c4b1 : (t1539 != t1540) = false := bne_eq_false_iff_eq.mpr c4
  clear c4
  replace H := Option.bind_eq_some_iff.mp H
  obtain ⟨t1541, A50, H⟩ := H
  replace H : (some t1541) = some r := H
  have A5 := Aside0.mk A50
  clear A50
  obtain rfl := Option.some.inj H
  go_enter Tryd.func3, Tryd.ntmps3
  try go_wp2_with (first | ((with_reducible refine gate_dst (N := 1) rfl ?_); refine box_event ?hg (N := 1) ?hd (cs := #[.bool a0_0, .slice A0_1 l0_1.length c0_1, .slice A0_2 l0_2.length c0_2]) (t := 24) ?hr ?_; (case hd => rfl); (case hg => rfl); (case hr => first | (go_simp; done) | (go_simp; rfl)); intro gb1538 hg w6 hbox hb; have n0_ := Aside0.mk (below_step zq1 hb); have n1_ := Aside0.mk (hbox); have n2_ := Aside0.mk ((by rw [hg]; exact (below_size zq1) : w.heap.size ≤ gb1538)); have n3_ := Aside0.mk ((by rw [hg]; exact (below_size zq1) : w.heap.size ≤ gb1538)); clear HB; have HB := n0_; have BK1538 := n1_; have GW1538 := n2_; have GE1538 := n3_; clear n0_ n1_ n2_ n3_; clear hb hbox hg))
  have n0_ := Aside0.mk (blk_drew BK1538.out)
  have n1_ := Aside0.mk (below_drew1 HB.out)
  clear BK1538
  clear HB
  have BK1538 := n0_
  have HB := n1_
  clear n0_ n1_
  refine start_ (n := 9) (S := fun w' => w'.cell? ⟨gb1538, 0, none⟩ = some (.bool a0_0) ∧ w'.cell? ⟨gb1538, 1, none⟩ = some (.slice A0_1 l0_1.length c0_1) ∧ w'.cell? ⟨gb1538, 2, none⟩ = some (.slice A0_2 l0_2.length c0_2)) (ds := []) #[false, false, false, false, false, false, false, false, false] (by kernel_rfl) rfl rfl ⟨(blk_cell BK1538.out 0).trans rfl, (blk_cell BK1538.out 1).trans rfl, (blk_cell BK1538.out 2).trans rfl⟩ (fun hHeld => ?_); refine with_tabW fetterlocklaw1_NumberCheckMatchesSpec.tab1 fetterlocklaw1_NumberCheckMatchesSpec.bits1 (fun HT_ HW_ => ?_)
  generalize w6.drew = w7 at BK1538 HB hHeld ⊢
  refine take_ (i := 0) (N := some 3) (v := ?_) (a' := ?_) #[true, false, false, false, false, false, false, false, false] rfl rfl (take_ofW HT_.out HW_.out (by kernel_rfl)) (fun _ _ _ h => h) (Or.inl ⟨by rfl, ?_⟩) hHeld ?_ ?_
  rotate_left
  ·rintro w' ⟨s0, s1, s2⟩
   go_simp
   with_reducible rfl
  rotate_left
  ·simp only [Act.put, List.setIfInBounds_toArray, List.set_cons_zero, List.set_cons_succ, i64_w, i32_w]
   rfl
  refine take_ (i := 2) (N := some 5) (v := ?_) (a' := ?_) #[true, false, true, false, false, false, false, false, false] rfl rfl (take_ofW HT_.out HW_.out (by kernel_rfl)) (fun _ _ _ h => h) (Or.inl ⟨by rfl, ?_⟩) hHeld ?_ ?_
  rotate_left
  ·rintro w' ⟨s0, s1, s2⟩
   go_simp
   with_reducible rfl
  rotate_left
  ·simp only [Act.put, List.setIfInBounds_toArray, List.set_cons_zero, List.set_cons_succ, i64_w, i32_w]
   rfl
  refine one_ (i := 1) (N := some 4) #[true, true, true, false, false, false, false, false, false] rfl rfl (one_of HT_.out (by kernel_rfl)) (by decide) (fun K hK => ?_)
  refine goes_ Tryd.func14 (by kernel_rfl) rfl #[.agg #[.bool a0_0, .slice A0_1 l0_1.length c0_1, .slice A0_2 l0_2.length c0_2]] (by rfl) rfl rfl zq5 ?_
  with_reducible refine (number_Check.calls k a0_0 _ _ l0_1 _ _ l0_2 t1539 _ ?side1 ?side2 ?side3 ?side4 A2.out).mono ?_
  (case side1 => repeat (first | exact (Kd.C_below HR0_1.out HB.out) | (with_reducible refine Kd.C_alloc ?_ _) | (with_reducible refine Kd.C_drewN ?_ _) | (with_reducible refine Kd.C_drew ?_)))
  (case side2 => exact HC0_1.out)
  (case side3 => repeat (first | exact (Kd.C_below HR0_2.out HB.out) | (with_reducible refine Kd.C_alloc ?_ _) | (with_reducible refine Kd.C_drewN ?_ _) | (with_reducible refine Kd.C_drew ?_)))
  (case side4 => exact HC0_2.out)
  rintro e w8 ⟨rfl, hb⟩
  refine ⟨_, rfl, ?_⟩
  have n0_ := Aside0.mk (blk_below (g := gb1538) (o := .cells #[.bool a0_0, .slice A0_1 l0_1.length c0_1, .slice A0_2 l0_2.length c0_2] 24 (0, 0)) (zq2 BK1538.out) hb)
  have n1_ := Aside0.mk (below_step (by repeat (first | (with_reducible first | exact HB.out | apply below_alloc | apply pw_below_drewN | apply below_drew1 | refine below_set ?_ GE1538.out) | exact HB.out)) hb)
  clear BK1538
  clear HB
  have BK1538 := n0_
  have HB := n1_
  clear n0_ n1_
  (try clear hb)
  (try clear hb2)
  (try clear hk)
  (try clear hi)
  refine hK.out _ _ ⟨(blk_cell BK1538.out 0).trans rfl, (blk_cell BK1538.out 1).trans rfl, (blk_cell BK1538.out 2).trans rfl⟩ (fun hHeld => ?_)
  clear hK K
  refine norm_ (a' := ?_) ?_ ?_
  rotate_left
  ·show Act.put _ (some 4) _ = _
   simp only [Act.put, List.setIfInBounds_toArray, List.set_cons_zero, List.set_cons_succ, i64_w, i32_w]
   rfl
  refine one_ (i := 3) (N := some 6) #[true, true, true, true, false, false, false, false, false] rfl rfl (one_of HT_.out (by kernel_rfl)) (by decide) (fun K hK => ?_)
  refine goes_ Tryd.func15 (by kernel_rfl) rfl #[.agg #[.bool a0_0, .slice A0_1 l0_1.length c0_1, .slice A0_2 l0_2.length c0_2]] (by rfl) rfl rfl zq5 ?_
  with_reducible refine (fetterlockref1_Fault.calls k a0_0 _ _ l0_1 _ _ l0_2 t1540 _ ?side1 ?side2 ?side3 ?side4 A3.out).mono ?_
  (case side1 => repeat (first | exact (Kd.C_below HR0_1.out HB.out) | (with_reducible refine Kd.C_alloc ?_ _) | (with_reducible refine Kd.C_drewN ?_ _) | (with_reducible refine Kd.C_drew ?_)))
  (case side2 => exact HC0_1.out)
  (case side3 => repeat (first | exact (Kd.C_below HR0_2.out HB.out) | (with_reducible refine Kd.C_alloc ?_ _) | (with_reducible refine Kd.C_drewN ?_ _) | (with_reducible refine Kd.C_drew ?_)))
  (case side4 => exact HC0_2.out)
  rintro e w9 ⟨rfl, hb⟩
  refine ⟨_, rfl, ?_⟩
  have n0_ := Aside0.mk (blk_below (g := gb1538) (o := .cells #[.bool a0_0, .slice A0_1 l0_1.length c0_1, .slice A0_2 l0_2.length c0_2] 24 (0, 0)) (zq2 BK1538.out) hb)
  have n1_ := Aside0.mk (below_step (by repeat (first | (with_reducible first | exact HB.out | apply below_alloc | apply pw_below_drewN | apply below_drew1 | refine below_set ?_ GE1538.out) | exact HB.out)) hb)
  clear BK1538
  clear HB
  have BK1538 := n0_
  have HB := n1_
  clear n0_ n1_
  (try clear hb)
  (try clear hb2)
  (try clear hk)
  (try clear hi)
  refine hK.out _ _ ⟨(blk_cell BK1538.out 0).trans rfl, (blk_cell BK1538.out 1).trans rfl, (blk_cell BK1538.out 2).trans rfl⟩ (fun hHeld => ?_)
  clear hK K
  refine norm_ (a' := ?_) ?_ ?_
  rotate_left
  ·show Act.put _ (some 6) _ = _
   simp only [Act.put, List.setIfInBounds_toArray, List.set_cons_zero, List.set_cons_succ, i64_w, i32_w]
   rfl
  refine pure_ (i := 4) (N := some 7) (v := ?_) (a' := ?_) #[true, true, true, true, true, false, false, false, false] rfl rfl (any_of HT_.out (by kernel_rfl)) (fun _ _ _ h => h) (Or.inl ⟨by rfl, ?_⟩) ?_ ?_
  rotate_left
  ·intro w'
   go_simp
   with_reducible rfl
  rotate_left
  ·simp only [Act.put, List.setIfInBounds_toArray, List.set_cons_zero, List.set_cons_succ, i64_w, i32_w]
   rfl
  refine pure_ (i := 5) (N := some 8) (v := ?_) (a' := ?_) #[true, true, true, true, true, true, false, false, false] rfl rfl (any_of HT_.out (by kernel_rfl)) (fun _ _ _ h => h) (Or.inl ⟨by rfl, ?_⟩) ?_ ?_
  rotate_left
  ·intro w'
   go_simp
   with_reducible rfl
  rotate_left
  ·simp only [Act.put, List.setIfInBounds_toArray, List.set_cons_zero, List.set_cons_succ, i64_w, i32_w]
   rfl
  refine one_ (i := 6) (N := some 9) #[true, true, true, true, true, true, true, false, false] rfl rfl (one_of HT_.out (by kernel_rfl)) (by decide) (fun K hK => ?_)
  refine goes_ Tryd.func16 (by kernel_rfl) rfl #[] (by rfl) rfl rfl zq5 ?_
  with_reducible refine (fetterlocklaw1_counted.calls k  t1541 _ A5.out).mono ?_
  rintro e w10 ⟨rfl, hb⟩
  refine ⟨_, rfl, ?_⟩
  have n0_ := Aside0.mk (blk_below (g := gb1538) (o := .cells #[.bool a0_0, .slice A0_1 l0_1.length c0_1, .slice A0_2 l0_2.length c0_2] 24 (0, 0)) (zq2 BK1538.out) hb)
  have n1_ := Aside0.mk (below_step (by repeat (first | (with_reducible first | exact HB.out | apply below_alloc | apply pw_below_drewN | apply below_drew1 | refine below_set ?_ GE1538.out) | exact HB.out)) hb)
  clear BK1538
  clear HB
  have BK1538 := n0_
  have HB := n1_
  clear n0_ n1_
  (try clear hb)
  (try clear hb2)
  (try clear hk)
  (try clear hi)
  refine hK.out _ _ ⟨(blk_cell BK1538.out 0).trans rfl, (blk_cell BK1538.out 1).trans rfl, (blk_cell BK1538.out 2).trans rfl⟩ (fun hHeld => ?_)
  clear hK K
  refine norm_ (a' := ?_) ?_ ?_
  rotate_left
  ·show Act.put _ (some 9) _ = _
   simp only [Act.put, List.setIfInBounds_toArray, List.set_cons_zero, List.set_cons_succ, i64_w, i32_w]
   rfl
  refine pure_ (i := 7) (N := some 10) (v := ?_) (a' := ?_) #[true, true, true, true, true, true, true, true, false] rfl rfl (any_of HT_.out (by kernel_rfl)) (fun _ _ _ h => h) (Or.inl ⟨by rfl, ?_⟩) ?_ ?_
  rotate_left
  ·intro w'
   go_simp
   with_reducible rfl
  rotate_left
  ·simp only [Act.put, List.setIfInBounds_toArray, List.set_cons_zero, List.set_cons_succ, i64_w, i32_w]
   rfl
  refine pure_ (i := 8) (N := some 2) (v := ?_) (a' := ?_) #[true, true, true, true, true, true, true, true, true] rfl rfl (any_of HT_.out (by kernel_rfl)) (fun _ _ _ h => h) (Or.inl ⟨by rfl, ?_⟩) ?_ ?_
  rotate_left
  ·intro w'
   go_simp
   with_reducible rfl
  rotate_left
  ·simp only [Act.put, List.setIfInBounds_toArray, List.set_cons_zero, List.set_cons_succ, i64_w, i32_w]
   rfl
  refine done_ (done_of HT_.out (by kernel_rfl)) ?_
  try go_wp2
  go_ret
  exact ⟨by first | rfl | (simp [errW_none, errW_some] <;> rfl) | (simp [*, errW_none, errW_some] <;> rfl), by repeat (first | (with_reducible first | exact HB.out | apply below_alloc | apply pw_below_drewN | apply below_drew1 | refine below_set ?_ GE1538.out) | exact HB.out)⟩
 ·rw [if_neg c4] at H
  have c4b0 : (t1539 == t1540) = false := beq_eq_false_iff_ne.mpr c4
  have c4b1 : (t1539 != t1540) = true := bne_iff_ne.mpr c4
  obtain rfl := Option.some.inj H
  cases hr
end Go.Proofs.YtemnjgkicndmjaaDoor.Q
namespace Go.Proofs.YtemnjgkicndmjaaDoor.Q
open Go.RowKit Go.Proofs.YtemnjgkicndmjaaDoorW.PrintWords Go.Proofs.YtemnjgkicndmjaaDoorW.PrintLast Go.Proofs.YtemnjgkicndmjaaDoorW.PrintMore
def val (B : Int) : List Int → Int
  | [] => 0
  | x :: xs => x + B * val B xs
def Lim (B : Int) (xs : List Int) : Prop := ∀ x, x ∈ xs → 0 ≤ x ∧ x < B
def Nrm (xs : List Int) : Prop := ∀ x, xs.getLast? = some x → x ≠ 0
theorem lim_nil (B : Int) : Lim B [] := by intro x h; cases h
theorem lim_cons {B x : Int} {xs : List Int} : Lim B (x :: xs) ↔ (0 ≤ x ∧ x < B) ∧ Lim B xs := by
  constructor
  · intro h; exact ⟨h x (by simp), fun y hy => h y (by simp [hy])⟩
  · rintro ⟨h1, h2⟩ y hy
    rcases List.mem_cons.1 hy with rfl | hy
    · exact h1
    · exact h2 y hy
theorem lim_append {B : Int} {xs ys : List Int} : Lim B (xs ++ ys) ↔ Lim B xs ∧ Lim B ys := by
  constructor
  · intro h; exact ⟨fun y hy => h y (by simp [hy]), fun y hy => h y (by simp [hy])⟩
  · rintro ⟨h1, h2⟩ y hy
    rcases List.mem_append.1 hy with hy | hy
    · exact h1 y hy
    · exact h2 y hy
theorem Lim.take {B : Int} {xs : List Int} (h : Lim B xs) (n : Nat) : Lim B (xs.take n) := fun y hy => h y (List.mem_of_mem_take hy)
theorem Lim.drop {B : Int} {xs : List Int} (h : Lim B xs) (n : Nat) : Lim B (xs.drop n) := fun y hy => h y (List.mem_of_mem_drop hy)
theorem Lim.set {B : Int} {xs : List Int} (h : Lim B xs) (n : Nat) {v : Int} (hv : 0 ≤ v ∧ v < B) : Lim B (xs.set n v) := by
  intro y hy
  rcases List.mem_or_eq_of_mem_set hy with hy | rfl
  · exact h y hy
  · exact hv
theorem lim_replicate {B : Int} (hB : 0 < B) (n : Nat) : Lim B (List.replicate n 0) := by
  intro y hy
  have := List.eq_of_mem_replicate hy
  subst this
  exact ⟨Int.le_refl _, hB⟩
theorem Lim.getD {B : Int} {xs : List Int} (hB : 0 < B) (h : Lim B xs) (n : Nat) : 0 ≤ xs.getD n 0 ∧ xs.getD n 0 < B := by
  rw [List.getD_eq_getElem?_getD]
  rcases Nat.lt_or_ge n xs.length with hn | hn
  · rw [List.getElem?_eq_getElem hn]; exact h _ (List.getElem_mem hn)
  · rw [List.getElem?_eq_none hn]; exact ⟨Int.le_refl _, hB⟩
theorem val_append (B : Int) (xs ys : List Int) : val B (xs ++ ys) = val B xs + B ^ xs.length * val B ys := by
  induction xs with
  | nil => simp [val]
  | cons x xs ih => simp only [List.cons_append, val, ih, List.length_cons, Int.pow_succ]; grind
theorem val_snoc (B : Int) (xs : List Int) (x : Int) : val B (xs ++ [x]) = val B xs + B ^ xs.length * x := by
  rw [val_append]; simp [val]
theorem val_replicate (B : Int) (n : Nat) : val B (List.replicate n 0) = 0 := by
  induction n with
  | zero => rfl
  | succ n ih => simp [List.replicate_succ, val, ih]
theorem pow_pos' {B : Int} (hB : 0 < B) (n : Nat) : 0 < B ^ n := Int.pow_pos hB
theorem pow_mono' {B : Int} (hB : 0 < B) {m n : Nat} (h : m ≤ n) : B ^ m ≤ B ^ n := by
  induction h with
  | refl => exact Int.le_refl _
  | step _ ih =>
    rw [Int.pow_succ]
    have := pow_pos' hB
    rename_i n _
    have h2 : B ^ n * 1 ≤ B ^ n * B := Int.mul_le_mul_of_nonneg_left (by omega) (Int.le_of_lt (this n))
    omega
theorem val_nonneg {B : Int} (hB : 0 < B) {xs : List Int} (h : Lim B xs) : 0 ≤ val B xs := by
  induction xs with
  | nil => exact Int.le_refl _
  | cons x xs ih =>
    obtain ⟨h1, h2⟩ := lim_cons.1 h
    have := Int.mul_nonneg (Int.le_of_lt hB) (ih h2)
    simp only [val]; omega
theorem val_lt {B : Int} (hB : 0 < B) {xs : List Int} (h : Lim B xs) : val B xs < B ^ xs.length := by
  induction xs with
  | nil => simp [val]
  | cons x xs ih =>
    obtain ⟨h1, h2⟩ := lim_cons.1 h
    have h3 := ih h2
    have h4 : B * (val B xs + 1) ≤ B * B ^ xs.length := Int.mul_le_mul_of_nonneg_left (by omega) (by omega)
    simp only [val, List.length_cons, Int.pow_succ]
    grind
theorem nrm_nil : Nrm [] := by intro x h; cases h
theorem nrm_snoc {xs : List Int} {x : Int} : Nrm (xs ++ [x]) ↔ x ≠ 0 := by
  simp [Nrm]
theorem nrm_cons {x : Int} {xs : List Int} (h : Nrm (x :: xs)) : Nrm xs := by
  intro y hy
  refine h y ?_
  rw [List.getLast?_cons, hy]; simp
theorem val_ge {B : Int} (hB : 0 < B) {xs : List Int} (h : Lim B xs) (hn : Nrm xs) (h0 : xs ≠ []) : B ^ (xs.length - 1) ≤ val B xs := by
  obtain ⟨ys, y, rfl⟩ : ∃ ys y, xs = ys ++ [y] := ⟨xs.dropLast, xs.getLast h0, (List.dropLast_concat_getLast h0).symm⟩
  have hy := nrm_snoc.1 hn
  obtain ⟨h1, h2⟩ := lim_append.1 h
  have h3 := (lim_cons.1 h2).1
  have h4 := val_nonneg hB h1
  rw [val_snoc]
  have h5 : B ^ ys.length * 1 ≤ B ^ ys.length * y := Int.mul_le_mul_of_nonneg_left (by omega) (Int.le_of_lt (pow_pos' hB _))
  simp only [List.length_append, List.length_singleton, Nat.add_sub_cancel]
  omega
theorem val_eq_zero {B : Int} (hB : 0 < B) {xs : List Int} (h : Lim B xs) (hn : Nrm xs) : val B xs = 0 ↔ xs = [] := by
  constructor
  · intro h0
    by_cases e : xs = []
    · exact e
    · have := val_ge hB h hn e
      have := pow_pos' hB (xs.length - 1)
      omega
  · rintro rfl; rfl
theorem val_pos {B : Int} (hB : 0 < B) {xs : List Int} (h : Lim B xs) (hn : Nrm xs) (h0 : xs ≠ []) : 0 < val B xs := by
  have := val_ge hB h hn h0
  have := pow_pos' hB (xs.length - 1)
  omega
theorem digit_unique {B x y a b : Int} (hx : 0 ≤ x ∧ x < B) (hy : 0 ≤ y ∧ y < B) (h : x + B * a = y + B * b) : x = y ∧ a = b := by
  have hB : 0 < B := by omega
  have e1 : (x + B * a) % B = x := by rw [Int.add_mul_emod_self_left, Int.emod_eq_of_lt hx.1 hx.2]
  have e2 : (y + B * b) % B = y := by rw [Int.add_mul_emod_self_left, Int.emod_eq_of_lt hy.1 hy.2]
  have e : x = y := by rw [← e1, ← e2, h]
  refine ⟨e, ?_⟩
  subst e
  have : B * a = B * b := by omega
  exact Int.eq_of_mul_eq_mul_left (by omega) this
theorem val_inj {B : Int} (hB : 0 < B) {xs ys : List Int} (hx : Lim B xs) (hy : Lim B ys) (nx : Nrm xs) (ny : Nrm ys) (h : val B xs = val B ys) : xs = ys := by
  induction xs generalizing ys with
  | nil => exact ((val_eq_zero hB hy ny).1 h.symm).symm
  | cons x xs ih =>
    cases ys with
    | nil => exact (val_eq_zero hB hx nx).1 h
    | cons y ys =>
      obtain ⟨a1, a2⟩ := lim_cons.1 hx
      obtain ⟨b1, b2⟩ := lim_cons.1 hy
      obtain ⟨e, e'⟩ := digit_unique a1 b1 h
      rw [e, ih a2 b2 (nrm_cons nx) (nrm_cons ny) e']
theorem val_split (B : Int) (xs : List Int) (i : Nat) (h : i ≤ xs.length) : val B xs = val B (xs.take i) + B ^ i * val B (xs.drop i) := by
  have := val_append B (xs.take i) (xs.drop i)
  rw [List.take_append_drop, List.length_take, Nat.min_eq_left h] at this
  exact this
theorem take_succ' (xs : List Int) (i : Nat) (h : i < xs.length) : xs.take (i + 1) = xs.take i ++ [xs.getD i 0] := by
  rw [List.take_succ_eq_append_getElem h, List.getD_eq_getElem?_getD, List.getElem?_eq_getElem h]; rfl
theorem drop_cons' (xs : List Int) (i : Nat) (h : i < xs.length) : xs.drop i = xs.getD i 0 :: xs.drop (i + 1) := by
  rw [List.drop_eq_getElem_cons h, List.getD_eq_getElem?_getD, List.getElem?_eq_getElem h]; rfl
theorem val_take_succ (B : Int) (xs : List Int) (i : Nat) (h : i < xs.length) : val B (xs.take (i + 1)) = val B (xs.take i) + B ^ i * xs.getD i 0 := by
  rw [take_succ' xs i h, val_snoc, List.length_take, Nat.min_eq_left (by omega)]
theorem val_drop (B : Int) (xs : List Int) (i : Nat) (h : i < xs.length) : val B (xs.drop i) = xs.getD i 0 + B * val B (xs.drop (i + 1)) := by
  rw [drop_cons' xs i h]; rfl
theorem val_set (B : Int) (xs : List Int) (i : Nat) (v : Int) (h : i < xs.length) : val B (xs.set i v) = val B xs + B ^ i * (v - xs.getD i 0) := by
  induction xs generalizing i with
  | nil => simp at h
  | cons x xs ih =>
    cases i with
    | zero => simp [val]; omega
    | succ i =>
      simp only [List.length_cons, Nat.add_lt_add_iff_right] at h
      simp only [List.set_cons_succ, val, ih i h, Int.pow_succ, List.getD_cons_succ]
      grind
def trim (xs : List Int) : List Int := (xs.reverse.dropWhile (· == 0)).reverse
theorem trim_nil : trim [] = [] := rfl
theorem trim_snoc_zero (xs : List Int) : trim (xs ++ [0]) = trim xs := by simp [trim]
theorem trim_snoc (xs : List Int) {x : Int} (h : x ≠ 0) : trim (xs ++ [x]) = xs ++ [x] := by simp [trim, h]
theorem snoc_induction {P : List Int → Prop} (h0 : P []) (h1 : ∀ xs x, P xs → P (xs ++ [x])) (xs : List Int) : P xs := by
  have key : ∀ n, ∀ xs : List Int, xs.length = n → P xs := by
    intro n
    induction n with
    | zero => intro xs h; rw [List.eq_nil_of_length_eq_zero h]; exact h0
    | succ n ih =>
      intro xs h
      have h2 : xs ≠ [] := by rintro rfl; simp at h
      rw [← List.dropLast_concat_getLast h2]
      exact h1 _ _ (ih _ (by simp [h]))
  exact key _ xs rfl
theorem val_trim (B : Int) (xs : List Int) : val B (trim xs) = val B xs := by
  induction xs using snoc_induction with
  | h0 => rfl
  | h1 xs x ih =>
    by_cases h : x = 0
    · subst h; rw [trim_snoc_zero, ih, val_snoc]; simp
    · rw [trim_snoc xs h]
theorem nrm_trim (xs : List Int) : Nrm (trim xs) := by
  induction xs using snoc_induction with
  | h0 => exact nrm_nil
  | h1 xs x ih =>
    by_cases h : x = 0
    · subst h; rw [trim_snoc_zero]; exact ih
    · rw [trim_snoc xs h]; exact nrm_snoc.2 h
theorem trim_prefix (xs : List Int) : ∃ n, trim xs = xs.take n := by
  induction xs using snoc_induction with
  | h0 => exact ⟨0, rfl⟩
  | h1 xs x ih =>
    by_cases h : x = 0
    · subst h
      obtain ⟨n, hn⟩ := ih
      refine ⟨min n xs.length, ?_⟩
      rw [trim_snoc_zero, hn, List.take_append_of_le_length (by omega)]
      rw [List.take_eq_take_min]
    · refine ⟨xs.length + 1, ?_⟩
      rw [trim_snoc xs h, List.take_of_length_le (by simp)]
theorem lim_trim {B : Int} {xs : List Int} (h : Lim B xs) : Lim B (trim xs) := by
  obtain ⟨n, hn⟩ := trim_prefix xs
  rw [hn]; exact h.take n
theorem length_trim (xs : List Int) : (trim xs).length ≤ xs.length := by
  obtain ⟨n, hn⟩ := trim_prefix xs
  rw [hn, List.length_take]; omega
theorem trim_of_nrm {xs : List Int} (h : Nrm xs) : trim xs = xs := by
  by_cases e : xs = []
  · subst e; rfl
  · rw [← List.dropLast_concat_getLast e] at h ⊢
    exact trim_snoc _ (nrm_snoc.1 h)
theorem w64 {x : Int} (h1 : -9223372036854775808 ≤ x) (h2 : x ≤ 9223372036854775807) : wrap64 x = x := by unfold wrap64; omega
theorem u64w (n : Int) : IntKind.u64.wrap n = n % 18446744073709551616 := by simp [IntKind.wrap, IntKind.bits, IntKind.signed]
theorem u64_id {x : Int} (h1 : 0 ≤ x) (h2 : x < 18446744073709551616) : IntKind.u64.wrap x = x := by rw [u64w]; omega
theorem bits_or_shift {a b : Int} (ha0 : 0 ≤ a) (ha : a < 4294967296) (hb0 : 0 ≤ b) (hb : b < 4294967296) : Go.bits .or .u64 (a * 4294967296) b = a * 4294967296 + b := by
  rw [u64_or _ _ (by omega) (by omega) hb0 (by omega), nat_join 32 _ _ (by omega) (by omega)]
  omega
theorem bits_or_shift' {a b : Int} (ha0 : 0 ≤ a) (ha : a < 4294967296) (hb0 : 0 ≤ b) (hb : b < 4294967296) : Go.bits .or .u64 b (a * 4294967296) = a * 4294967296 + b := by
  rw [u64_or _ _ hb0 (by omega) (by omega) (by omega), Nat.or_comm, nat_join 32 _ _ (by omega) (by omega)]
  omega
theorem bits_and_one {x : Int} (h0 : 0 ≤ x) (h1 : x < 18446744073709551616) : Go.bits .and .u64 x 1 = x % 2 := by
  rw [u64_and _ _ h0 h1 (by omega) (by omega)]
  have : (1 : Int).toNat = 1 := rfl
  rw [this, Nat.and_one_is_mod]
  omega
theorem Ev.ret {α : Type} {g : Nat → Option α} {r : α} (h : ∀ k, g k = some r) : Ev g r := ⟨0, fun k _ => h k⟩
theorem Ev.unique {α : Type} {g : Nat → Option α} {r r' : α} (h : Ev g r) (h' : Ev g r') : r = r' := by
  obtain ⟨K, hK⟩ := h
  obtain ⟨K', hK'⟩ := h'
  have h1 := hK (max K K') (by omega)
  have h2 := hK' (max K K') (by omega)
  rw [h1] at h2
  exact Option.some.inj h2
theorem Ev.const {α : Type} {a : Option α} {r : α} (h : a = some r) : Ev (fun _ => a) r := ⟨0, fun _ _ => h⟩
theorem Ev.eq {α : Type} {g : Nat → Option α} {r r' : α} (h : Ev g r) (e : r = r') : Ev g r' := e ▸ h
theorem rd_getD (xs : List Int) (i : Nat) : rd xs (i : Int) = xs.getD i 0 := by simp [rd]
theorem rd_at (xs : List Int) {i : Int} (_h : 0 ≤ i) : rd xs i = xs.getD i.toNat 0 := rfl
theorem Lim.rd {B : Int} {xs : List Int} (hB : 0 < B) (h : Lim B xs) (i : Int) : 0 ≤ rd xs i ∧ rd xs i < B := h.getD hB _
end Go.Proofs.YtemnjgkicndmjaaDoor.Q
namespace Go.Proofs.YtemnjgkicndmjaaDoor.Q
open Go.RowKit Go.Proofs.YtemnjgkicndmjaaDoorW.PrintWords Go.Proofs.YtemnjgkicndmjaaDoorW.PrintLast Go.Proofs.YtemnjgkicndmjaaDoorW.PrintMore
set_option linter.unusedVariables false
theorem trim_ev (xs : List Int) : xs.length ≤ 1099511627776 → Ev (fun k => nat_Trim.l0 k xs) (trim xs) := by
  induction xs using snoc_induction with
  | h0 => intro _; exact Ev.step (f := fun _ => some []) (fun k => by simp [nat_Trim.l0]) (Ev.now _)
  | h1 xs x ih =>
    intro hl
    simp only [List.length_append, List.length_singleton] at hl
    have hw : wrap64 (((xs ++ [x]).length : Int) - 1) = xs.length := by simp only [List.length_append, List.length_singleton]; unfold wrap64; omega
    have hr : rd (xs ++ [x]) (xs.length : Int) = x := by rw [rd_getD]; simp
    have h1 : ((xs ++ [x]).length : Int) > 0 := by simp only [List.length_append, List.length_singleton]; omega
    have h2 : (xs.length : Int) < ((xs ++ [x]).length : Int) := by simp only [List.length_append, List.length_singleton]; omega
    by_cases hx : x = 0
    · subst hx
      rw [trim_snoc_zero]
      refine Ev.step (f := fun k => nat_Trim.l0 k xs) (fun k => ?_) (ih (by omega))
      simp only [nat_Trim.l0]
      rw [hw, if_pos h1, if_pos (by omega), if_pos h2, hr, if_pos rfl, if_pos (by omega)]
      simp
    · rw [trim_snoc xs hx]
      refine Ev.step (f := fun _ => some (xs ++ [x])) (fun k => ?_) (Ev.now _)
      simp only [nat_Trim.l0]
      rw [hw, if_pos h1, if_pos (by omega), if_pos h2, hr, if_neg hx]
theorem Trim_ev (xs : List Int) (h : xs.length ≤ 1099511627776) : Ev (fun k => nat_Trim.f k xs) (trim xs) := trim_ev xs h
theorem IsOne_eq (xs : List Int) : nat_IsOne.f xs = some (decide (xs = [1])) := by
  unfold nat_IsOne.f
  match xs with
  | [] => simp
  | [x] => simp [rd]; rw [Bool.eq_iff_iff]; simp
  | x :: y :: l => rw [if_neg (by simp; omega)]; simp
theorem val_of2 (x y : Int) : val 4294967296 [x, y] = x + 4294967296 * y := by simp [val]
theorem Of_ev (n : Int) (h0 : 0 ≤ n) (h1 : n < 18446744073709551616) : ∃ r, Ev (fun k => nat_Of.f k n) r ∧ Lim 4294967296 r ∧ Nrm r ∧ val 4294967296 r = n ∧ r.length ≤ 2 := by
  refine ⟨trim [n % 4294967296, n / 4294967296 % 4294967296], ?_, ?_, nrm_trim _, ?_, Nat.le_trans (length_trim _) (by simp)⟩
  · unfold nat_Of.f
    exact Ev.bind (f := fun _ t => some t) (Trim_ev _ (by simp)) (Ev.now _)
  · refine lim_trim ?_
    rw [lim_cons, lim_cons]
    exact ⟨by omega, by omega, lim_nil _⟩
  · rw [val_trim, val_of2]; omega
theorem sign_eq (n : Int) : nat_sign.f n = some (if n < 0 then -1 else if n > 0 then 1 else 0) := by unfold nat_sign.f; split <;> (try split) <;> simp_all
def cmpI (a b : Int) : Int := if a < b then -1 else if a > b then 1 else 0
theorem compare_loop (xs ys : List Int) (hx : Lim 4294967296 xs) (hy : Lim 4294967296 ys) (hl : xs.length = ys.length) (hb : xs.length ≤ 1099511627776) : ∀ i : Nat, i ≤ xs.length → xs.drop i = ys.drop i →
    Ev (fun k => nat_Compare.l0 k xs ys ((i : Int) - 1)) (cmpI (val 4294967296 xs) (val 4294967296 ys)) := by
  intro i
  induction i with
  | zero =>
    intro _ h
    simp only [List.drop_zero] at h
    subst h
    refine Ev.step (f := fun _ => some 0) (fun k => ?_) ?_
    · simp [nat_Compare.l0]
    · unfold cmpI; rw [if_neg (by omega), if_neg (by omega)]; exact Ev.now _
  | succ i ih =>
    intro hi h
    have e1 : (((i + 1 : Nat) : Int) - 1) = (i : Int) := by omega
    rw [e1]
    have hB : (0 : Int) < 4294967296 := by decide
    by_cases heq : xs.getD i 0 = ys.getD i 0
    · refine Ev.step (f := fun k => nat_Compare.l0 k xs ys ((i : Int) - 1)) (fun k => ?_) (ih (by omega) ?_)
      · simp only [nat_Compare.l0]
        rw [if_pos (by omega), if_pos (by omega), if_pos (by omega), if_pos (by omega), rd_getD, rd_getD, if_pos heq, w64 (by omega) (by omega)]
      · rw [drop_cons' xs i (by omega), drop_cons' ys i (by omega), heq, h]
    · have a1 := val_split 4294967296 xs i (by omega)
      have a2 := val_split 4294967296 ys i (by omega)
      rw [val_drop 4294967296 xs i (by omega)] at a1
      rw [val_drop 4294967296 ys i (by omega), ← h] at a2
      have b1 := val_lt hB (hx.take i)
      have b2 := val_lt hB (hy.take i)
      rw [List.length_take, Nat.min_eq_left (by omega)] at b1 b2
      have c1 := val_nonneg hB (hx.take i)
      have c2 := val_nonneg hB (hy.take i)
      have hP : (0 : Int) < (4294967296 : Int) ^ i := pow_pos' hB i
      generalize 4294967296 * val 4294967296 (xs.drop (i + 1)) = T at a1 a2
      rw [Int.mul_add] at a1 a2
      generalize 4294967296 ^ i * T = U at a1 a2
      have key : ∀ p q s t : Int, p < q → s < 4294967296 ^ i → 0 ≤ t → s + (4294967296 ^ i * p + U) < t + (4294967296 ^ i * q + U) := by
        intro p q s t hpq hs ht
        have : 4294967296 ^ i * (p + 1) ≤ 4294967296 ^ i * q := Int.mul_le_mul_of_nonneg_left (by omega) (by omega)
        rw [Int.mul_add, Int.mul_one] at this
        omega
      by_cases hlt : xs.getD i 0 < ys.getD i 0
      · refine Ev.step (f := fun _ => some (-1)) (fun k => ?_) ?_
        · simp only [nat_Compare.l0]
          rw [if_pos (by omega), if_pos (by omega), if_pos (by omega), if_pos (by omega), rd_getD, rd_getD, if_neg heq, if_pos hlt]
        · have := key _ _ _ _ hlt b1 c2
          unfold cmpI; rw [if_pos (by omega)]; exact Ev.now _
      · refine Ev.step (f := fun _ => some 1) (fun k => ?_) ?_
        · simp only [nat_Compare.l0]
          rw [if_pos (by omega), if_pos (by omega), if_pos (by omega), if_pos (by omega), rd_getD, rd_getD, if_neg heq, if_neg hlt]
        · have := key _ _ _ _ (show ys.getD i 0 < xs.getD i 0 by omega) b2 c1
          unfold cmpI; rw [if_neg (by omega), if_pos (by omega)]; exact Ev.now _
theorem len_lt_val {B : Int} (hB : 0 < B) {xs ys : List Int} (hx : Lim B xs) (hy : Lim B ys) (ny : Nrm ys) (h : xs.length < ys.length) : val B xs < val B ys := by
  have h1 := val_lt hB hx
  have h2 := val_ge hB hy ny (by rintro rfl; simp at h)
  have h3 : B ^ xs.length ≤ B ^ (ys.length - 1) := pow_mono' hB (by omega)
  omega
theorem Compare_ev (xs ys : List Int) (hx : Lim 4294967296 xs) (hy : Lim 4294967296 ys) (nx : Nrm xs) (ny : Nrm ys) (hb : xs.length ≤ 1099511627776) (hb' : ys.length ≤ 1099511627776) : Ev (fun k => nat_Compare.f k xs ys) (cmpI (val 4294967296 xs) (val 4294967296 ys)) := by
  have hB : (0 : Int) < 4294967296 := by decide
  unfold nat_Compare.f
  by_cases hl : xs.length = ys.length
  · have := compare_loop xs ys hx hy hl hb xs.length (by omega) (by rw [List.drop_length, hl, List.drop_length])
    refine Ev.congr (fun k => ?_) this
    rw [if_pos (by omega), w64 (by omega) (by omega)]
  · refine Ev.ret fun k => ?_
    rw [if_neg (by omega), w64 (by omega) (by omega), sign_eq]
    unfold cmpI
    rcases Nat.lt_or_ge xs.length ys.length with h | h
    · have := len_lt_val hB hx hy ny h
      rw [if_pos (by omega), if_pos (by omega)]; rfl
    · have := len_lt_val hB hy hx nx (by omega)
      rw [if_neg (by omega), if_pos (by omega), if_neg (by omega), if_pos (by omega)]; rfl
theorem divsmall_loop (xs : List Int) (d : Int) (hx : Lim 4294967296 xs) (hd0 : 0 < d) (hd : d < 4294967296) (hb : xs.length ≤ 1099511627776) : ∀ (i : Nat) (out : List Int) (rest : Int), i ≤ xs.length → out.length = xs.length → Lim 4294967296 out → out.take i = List.replicate i 0 → 0 ≤ rest → rest < d →
    ∃ r, Ev (fun k => nat_DivSmall.l0 k xs d out rest ((i : Int) - 1)) (trim r, val 4294967296 (xs.take i) + 4294967296 ^ i * rest - d * ((val 4294967296 (xs.take i) + 4294967296 ^ i * rest) / d)) ∧ r.length = xs.length ∧ Lim 4294967296 r ∧ val 4294967296 r = val 4294967296 out + (val 4294967296 (xs.take i) + 4294967296 ^ i * rest) / d := by
  intro i
  have hB : (0 : Int) < 4294967296 := by decide
  induction i with
  | zero =>
    intro out rest _ hlen ho hz h0 h1
    refine ⟨out, ?_, hlen, ho, ?_⟩
    · refine Ev.step (f := fun k => (nat_Trim.f k out).bind fun t => some (t, rest % 4294967296)) (fun k => ?_) ?_
      · simp [nat_DivSmall.l0]
      · refine Ev.bind (f := fun _ t => some (t, rest % 4294967296)) (Trim_ev out (by omega)) (Ev.eq (Ev.now _) ?_)
        have e1 : rest / d = 0 := Int.ediv_eq_zero_of_lt h0 h1
        simp only [List.take_zero, val, Int.pow_zero, Int.one_mul, Int.zero_add, e1, Int.mul_zero, Int.sub_zero]
        congr 1
        exact Int.emod_eq_of_lt h0 (by omega)
    · have e1 : rest / d = 0 := Int.ediv_eq_zero_of_lt h0 h1
      simp [val, e1]
  | succ i ih =>
    intro out rest hi hlen ho hz h0 h1
    have e1 : (((i + 1 : Nat) : Int) - 1) = (i : Int) := by omega
    have hxi := hx.rd hB (i : Int)
    have hxg : rd xs (i : Int) = xs.getD i 0 := rd_getD xs i
    generalize hy : rd xs (i : Int) = y at hxi hxg
    have hcur : rest * 4294967296 + y < 18446744073709551616 := by omega
    have hq0 : 0 ≤ (rest * 4294967296 + y) / d := Int.ediv_nonneg (by omega) (by omega)
    have hq1 : (rest * 4294967296 + y) / d < 4294967296 := by
      refine Int.ediv_lt_of_lt_mul hd0 ?_
      have : (rest + 1) * 4294967296 ≤ d * 4294967296 := Int.mul_le_mul_of_nonneg_right (by omega) (by decide)
      rw [Int.mul_comm d] at this
      have e : (rest + 1) * 4294967296 = rest * 4294967296 + 4294967296 := by grind
      omega
    have hr0 : 0 ≤ (rest * 4294967296 + y) % d := Int.emod_nonneg _ (by omega)
    have hr1 : (rest * 4294967296 + y) % d < d := Int.emod_lt_of_pos _ hd0
    have hdm := Int.mul_ediv_add_emod (rest * 4294967296 + y) d
    generalize hQ : (rest * 4294967296 + y) / d = q at *
    generalize hR : (rest * 4294967296 + y) % d = s at *
    have hoi : out.getD i 0 = 0 := by
      have : (out.take (i + 1)).getD i 0 = 0 := by rw [hz]; simp [List.getD_eq_getElem?_getD]
      rw [List.getD_eq_getElem?_getD, List.getElem?_take, if_pos (by omega)] at this
      rw [List.getD_eq_getElem?_getD]; exact this
    obtain ⟨r, hev, hrl, hrL, hrv⟩ := ih (out.set i q) s (by omega) (by simp [hlen]) (ho.set i ⟨hq0, hq1⟩) (by
      rw [List.take_set_of_le (by omega)]
      have := congrArg (List.take i) hz
      rw [List.take_take, Nat.min_eq_left (by omega), List.take_replicate, Nat.min_eq_left (by omega)] at this
      exact this) hr0 hr1
    have hval : val 4294967296 (xs.take (i + 1)) + 4294967296 ^ (i + 1) * rest = d * (4294967296 ^ i * q) + (val 4294967296 (xs.take i) + 4294967296 ^ i * s) := by
      rw [val_take_succ 4294967296 xs i (by omega), ← hxg, Int.pow_succ]
      have : (rest * 4294967296 + y) = d * q + s := by rw [← hdm]
      grind
    have hdiv : (val 4294967296 (xs.take (i + 1)) + 4294967296 ^ (i + 1) * rest) / d = 4294967296 ^ i * q + (val 4294967296 (xs.take i) + 4294967296 ^ i * s) / d := by
      rw [hval, Int.mul_add_ediv_left _ _ (by omega)]
    refine ⟨r, ?_, hrl, hrL, ?_⟩
    · refine Ev.step (f := fun k => nat_DivSmall.l0 k xs d (out.set i q) s ((i : Int) - 1)) (fun k => ?_) (Ev.eq hev ?_)
      · rw [e1]
        simp only [nat_DivSmall.l0]
        rw [if_pos (by omega), if_pos (by omega), if_pos (by omega), u64_id (x := d) (by omega) (by omega), if_neg (by omega), if_pos (by omega), hy,
          u64_id (x := rest * 4294967296) (by omega) (by omega), u64_id (x := y) (by omega) (by omega), bits_or_shift h0 (by omega) hxi.1 hxi.2,
          Int.tdiv_eq_ediv_of_nonneg (by omega), Int.tmod_eq_emod_of_nonneg (by omega), hQ, hR, u64_id hq0 (by omega), w64 (by omega) (by omega), Int.emod_eq_of_lt hq0 hq1]
        simp
      · congr 1
        rw [hdiv, hval]
        grind
    · rw [hrv, hdiv, val_set 4294967296 out i q (by omega), hoi]
      grind
theorem DivSmall_ev (xs : List Int) (d : Int) (hx : Lim 4294967296 xs) (hd0 : 0 < d) (hd : d < 4294967296) (hb : xs.length ≤ 1099511627776) :
    ∃ r, Ev (fun k => nat_DivSmall.f k xs d) (r, val 4294967296 xs % d) ∧ Lim 4294967296 r ∧ Nrm r ∧ val 4294967296 r = val 4294967296 xs / d ∧ r.length ≤ xs.length := by
  obtain ⟨r, h1, h2, h3, h4⟩ := divsmall_loop xs d hx hd0 hd hb xs.length (List.replicate xs.length 0) 0 (by omega) (by simp) (lim_replicate (by decide) _) (by rw [List.take_of_length_le (by simp)]) (by omega) hd0
  rw [List.take_of_length_le (Nat.le_refl _), Int.mul_zero, Int.add_zero] at h1 h4
  refine ⟨trim r, ?_, lim_trim h3, nrm_trim _, by rw [val_trim, h4, val_replicate, Int.zero_add], Nat.le_trans (length_trim _) (by omega)⟩
  refine Ev.congr (fun k => ?_) (Ev.eq h1 ?_)
  · unfold nat_DivSmall.f
    rw [if_pos (by omega), if_pos (by omega), w64 (by omega) (by omega)]
    simp
  · congr 1
    have := Int.mul_ediv_add_emod (val 4294967296 xs) d
    omega
end Go.Proofs.YtemnjgkicndmjaaDoor.Q
