/- What this text proves: a part of the walk and of the plain laws of one card; no conditions. -/
import Derived.Test.YtemnjgkicndmjaaDoorBu3
namespace Go.Proofs.YtemnjgkicndmjaaDoor.Q
open Go.RowKit Go.Proofs.YtemnjgkicndmjaaDoorW.PrintWords Go.Proofs.YtemnjgkicndmjaaDoorW.PrintLast Go.Proofs.YtemnjgkicndmjaaDoorW.PrintMore
theorem zt18 {p0 p1 p2 p3 p4 p5 p6 p7 p8 p9 p10 p11 p12 p13 p14 p15 p16 p17 G : Prop} (a0 : p0) (a1 : p1) (a2 : p2) (a3 : p3) (a4 : p4) (a5 : p5) (a6 : p6) (a7 : p7) (a8 : p8) (a9 : p9) (a10 : p10) (a11 : p11) (a12 : p12) (a13 : p13) (a14 : p14) (a15 : p15) (a16 : p16) (a17 : p17) (k : Aside0 p0 → Aside0 p1 → Aside0 p2 → Aside0 p3 → Aside0 p4 → Aside0 p5 → Aside0 p6 → Aside0 p7 → Aside0 p8 → Aside0 p9 → Aside0 p10 → Aside0 p11 → Aside0 p12 → Aside0 p13 → Aside0 p14 → Aside0 p15 → Aside0 p16 → Aside0 p17 → G) : G := k ⟨a0⟩ ⟨a1⟩ ⟨a2⟩ ⟨a3⟩ ⟨a4⟩ ⟨a5⟩ ⟨a6⟩ ⟨a7⟩ ⟨a8⟩ ⟨a9⟩ ⟨a10⟩ ⟨a11⟩ ⟨a12⟩ ⟨a13⟩ ⟨a14⟩ ⟨a15⟩ ⟨a16⟩ ⟨a17⟩
theorem zt20 {p0 p1 p2 p3 p4 p5 p6 p7 p8 p9 p10 p11 p12 p13 p14 p15 p16 p17 p18 p19 G : Prop} (a0 : p0) (a1 : p1) (a2 : p2) (a3 : p3) (a4 : p4) (a5 : p5) (a6 : p6) (a7 : p7) (a8 : p8) (a9 : p9) (a10 : p10) (a11 : p11) (a12 : p12) (a13 : p13) (a14 : p14) (a15 : p15) (a16 : p16) (a17 : p17) (a18 : p18) (a19 : p19) (k : Aside0 p0 → Aside0 p1 → Aside0 p2 → Aside0 p3 → Aside0 p4 → Aside0 p5 → Aside0 p6 → Aside0 p7 → Aside0 p8 → Aside0 p9 → Aside0 p10 → Aside0 p11 → Aside0 p12 → Aside0 p13 → Aside0 p14 → Aside0 p15 → Aside0 p16 → Aside0 p17 → Aside0 p18 → Aside0 p19 → G) : G := k ⟨a0⟩ ⟨a1⟩ ⟨a2⟩ ⟨a3⟩ ⟨a4⟩ ⟨a5⟩ ⟨a6⟩ ⟨a7⟩ ⟨a8⟩ ⟨a9⟩ ⟨a10⟩ ⟨a11⟩ ⟨a12⟩ ⟨a13⟩ ⟨a14⟩ ⟨a15⟩ ⟨a16⟩ ⟨a17⟩ ⟨a18⟩ ⟨a19⟩
theorem zt21 {p0 p1 p2 p3 p4 p5 p6 p7 p8 p9 p10 p11 p12 p13 p14 p15 p16 p17 p18 p19 p20 G : Prop} (a0 : p0) (a1 : p1) (a2 : p2) (a3 : p3) (a4 : p4) (a5 : p5) (a6 : p6) (a7 : p7) (a8 : p8) (a9 : p9) (a10 : p10) (a11 : p11) (a12 : p12) (a13 : p13) (a14 : p14) (a15 : p15) (a16 : p16) (a17 : p17) (a18 : p18) (a19 : p19) (a20 : p20) (k : Aside0 p0 → Aside0 p1 → Aside0 p2 → Aside0 p3 → Aside0 p4 → Aside0 p5 → Aside0 p6 → Aside0 p7 → Aside0 p8 → Aside0 p9 → Aside0 p10 → Aside0 p11 → Aside0 p12 → Aside0 p13 → Aside0 p14 → Aside0 p15 → Aside0 p16 → Aside0 p17 → Aside0 p18 → Aside0 p19 → Aside0 p20 → G) : G := k ⟨a0⟩ ⟨a1⟩ ⟨a2⟩ ⟨a3⟩ ⟨a4⟩ ⟨a5⟩ ⟨a6⟩ ⟨a7⟩ ⟨a8⟩ ⟨a9⟩ ⟨a10⟩ ⟨a11⟩ ⟨a12⟩ ⟨a13⟩ ⟨a14⟩ ⟨a15⟩ ⟨a16⟩ ⟨a17⟩ ⟨a18⟩ ⟨a19⟩ ⟨a20⟩
theorem zt22 {p0 p1 p2 p3 p4 p5 p6 p7 p8 p9 p10 p11 p12 p13 p14 p15 p16 p17 p18 p19 p20 p21 G : Prop} (a0 : p0) (a1 : p1) (a2 : p2) (a3 : p3) (a4 : p4) (a5 : p5) (a6 : p6) (a7 : p7) (a8 : p8) (a9 : p9) (a10 : p10) (a11 : p11) (a12 : p12) (a13 : p13) (a14 : p14) (a15 : p15) (a16 : p16) (a17 : p17) (a18 : p18) (a19 : p19) (a20 : p20) (a21 : p21) (k : Aside0 p0 → Aside0 p1 → Aside0 p2 → Aside0 p3 → Aside0 p4 → Aside0 p5 → Aside0 p6 → Aside0 p7 → Aside0 p8 → Aside0 p9 → Aside0 p10 → Aside0 p11 → Aside0 p12 → Aside0 p13 → Aside0 p14 → Aside0 p15 → Aside0 p16 → Aside0 p17 → Aside0 p18 → Aside0 p19 → Aside0 p20 → Aside0 p21 → G) : G := k ⟨a0⟩ ⟨a1⟩ ⟨a2⟩ ⟨a3⟩ ⟨a4⟩ ⟨a5⟩ ⟨a6⟩ ⟨a7⟩ ⟨a8⟩ ⟨a9⟩ ⟨a10⟩ ⟨a11⟩ ⟨a12⟩ ⟨a13⟩ ⟨a14⟩ ⟨a15⟩ ⟨a16⟩ ⟨a17⟩ ⟨a18⟩ ⟨a19⟩ ⟨a20⟩ ⟨a21⟩
theorem zt24 {p0 p1 p2 p3 p4 p5 p6 p7 p8 p9 p10 p11 p12 p13 p14 p15 p16 p17 p18 p19 p20 p21 p22 p23 G : Prop} (a0 : p0) (a1 : p1) (a2 : p2) (a3 : p3) (a4 : p4) (a5 : p5) (a6 : p6) (a7 : p7) (a8 : p8) (a9 : p9) (a10 : p10) (a11 : p11) (a12 : p12) (a13 : p13) (a14 : p14) (a15 : p15) (a16 : p16) (a17 : p17) (a18 : p18) (a19 : p19) (a20 : p20) (a21 : p21) (a22 : p22) (a23 : p23) (k : Aside0 p0 → Aside0 p1 → Aside0 p2 → Aside0 p3 → Aside0 p4 → Aside0 p5 → Aside0 p6 → Aside0 p7 → Aside0 p8 → Aside0 p9 → Aside0 p10 → Aside0 p11 → Aside0 p12 → Aside0 p13 → Aside0 p14 → Aside0 p15 → Aside0 p16 → Aside0 p17 → Aside0 p18 → Aside0 p19 → Aside0 p20 → Aside0 p21 → Aside0 p22 → Aside0 p23 → G) : G := k ⟨a0⟩ ⟨a1⟩ ⟨a2⟩ ⟨a3⟩ ⟨a4⟩ ⟨a5⟩ ⟨a6⟩ ⟨a7⟩ ⟨a8⟩ ⟨a9⟩ ⟨a10⟩ ⟨a11⟩ ⟨a12⟩ ⟨a13⟩ ⟨a14⟩ ⟨a15⟩ ⟨a16⟩ ⟨a17⟩ ⟨a18⟩ ⟨a19⟩ ⟨a20⟩ ⟨a21⟩ ⟨a22⟩ ⟨a23⟩
theorem vb {α : Type} {d : Kd α} {e base : Nat} {W0 W W1 : World} {ok : Nat → Prop} {v : Value} {xs : List α} (h : Aside0 (Kd.V d e W0 base ok v xs)) (hb : Below W.heap.size W W1) (k : Kd.V d e W0 base ok v xs → Kd.V d e W base ok v xs := by intro h; (with_reducible repeat (first | apply Kd.V_alloc | apply Kd.V_drewN | apply Kd.V_drew)); exact h) : Kd.V d e W1 base ok v xs := Kd.V_below (k h.out) hb
theorem ve {α : Type} {d : Kd α} {e base g : Nat} {W0 W W1 : World} {ok : Nat → Prop} {v : Value} {xs : List α} (h : Aside0 (Kd.V d e W0 base ok v xs)) (hg : g = W.heap.size) (hb : Below W.heap.size W W1) (k : Kd.V d e W0 base ok v xs → Kd.V d e W base ok v xs := by intro h; (with_reducible repeat (first | apply Kd.V_alloc | apply Kd.V_drewN | apply Kd.V_drew)); exact h) : Kd.V d e W1 base (fun k => ok k ∧ k ≠ g) v xs := Kd.V_below (Kd.V_elderB (k h.out) g (Nat.le_of_eq hg.symm)) hb
theorem zv3 {α : Type} {d : Kd α} {e base : Nat} {W : World} {ok : Nat → Prop} {v : Value} {xs : List α} (g : Nat) (v0 v1 v2 : Value) (h : Kd.V d e W base ok v xs) (hne : ∀ k, ok k → k ≠ g) : Kd.V d e (((W.setCell ⟨g, 0, none⟩ v0).setCell ⟨g, 1, none⟩ v1).setCell ⟨g, 2, none⟩ v2) base (fun k => ok k ∧ k ≠ g) v xs := Kd.V_far (p := ⟨g, 2, none⟩) (Kd.V_far (p := ⟨g, 1, none⟩) (Kd.V_far (p := ⟨g, 0, none⟩) (Kd.V_mono h (fun k hk => ⟨hk, hne k hk⟩)) (fun _ hk => hk.2) v0) (fun _ hk => hk.2) v1) (fun _ hk => hk.2) v2
theorem zwV {q p : Prop} (k : q → p := by intro h; (with_reducible repeat (first | apply Kd.V_alloc | apply Kd.V_drewN | apply Kd.V_drew)); exact h) (h : q) : p := k h
end Go.Proofs.YtemnjgkicndmjaaDoor.Q
namespace Go.Proofs.YtemnjgkicndmjaaDoor.Q
open Go.RowKit Go.Proofs.YtemnjgkicndmjaaDoorW.PrintWords Go.Proofs.YtemnjgkicndmjaaDoorW.PrintLast Go.Proofs.YtemnjgkicndmjaaDoorW.PrintMore
attribute [local go_sem] max2_int min2_int max_two min_two max_three min_three max_four min_four
set_option linter.unusedVariables false
set_option linter.unusedSimpArgs false
def lw_sameLimbs.l0 : Nat → List Int → List Int → Int → Option (Bool)
 | 0, _, _, _ => none
 | k + 1, x0, x1, x5 => if x5 < (x0.length : Int) then (if 0 ≤ x5 then (if x5 < (x1.length : Int) then (if (rd x0 x5) = (rd x1 x5) then (lw_sameLimbs.l0 k x0 x1 (wrap64 (x5 + 1))) else (some false)) else (none)) else (none)) else (some true)
def lw_sameLimbs.f (k : Nat) (l0 : List Int) (l1 : List Int) : Option (Bool) := if (l0.length : Int) = (l1.length : Int) then (lw_sameLimbs.l0 k l0 l1 0) else (some false)
theorem lw_sameLimbs.mono_l : ∀ k, (∀ y0 y1 y2, LeO (lw_sameLimbs.l0 k y0 y1 y2) (lw_sameLimbs.l0 (k + 1) y0 y1 y2))
 | 0 => fun _ _ _ r h => by simp [lw_sameLimbs.l0] at h
 | k + 1 => by
  have ih0 := lw_sameLimbs.mono_l k
  ·intro y0 y1 y2
   unfold lw_sameLimbs.l0
   have m0 := ih0
   exact zm
theorem lw_sameLimbs.mono : ∀ a0 a1 k, LeO (lw_sameLimbs.f k a0 a1) (lw_sameLimbs.f (k + 1) a0 a1) := by
 intro a0 a1 k
 have ih0 := lw_sameLimbs.mono_l k
 unfold lw_sameLimbs.f
 have m0 := ih0
 exact zm
set_option maxHeartbeats 8000000 in
set_option maxRecDepth 100000 in
theorem lw_sameLimbs.calls (k : Nat) (A0 : Option Addr) (c0 : Nat) (l0 : List Int) (A1 : Option Addr) (c1 : Nat) (l1 : List Int) (r : Bool) (w : World) (hr0 : Kd.C (Kd.int .u32) w A0 l0.length l0) (hc0 : l0.length ≤ c0) (hr1 : Kd.C (Kd.int .u32) w A1 l1.length l1) (hc1 : l1.length ≤ c1) (h : lw_sameLimbs.f k l0 l1 = some r) :
  Calls Tryd.prog 55 #[.slice A0 l0.length c0, .slice A1 l1.length c1] w fun e w' => e = .returned (.bool r) ∧ Drawn0 w w' := by
 have HR0 := am hr0
 have HC0 := am hc0
 clear hr0 hc0
 have HR1 := am hr1
 have HC1 := am hc1
 clear hr1 hc1
 have H := h
 unfold lw_sameLimbs.f at H
 clear h
 by_cases c3 : (l0.length : Int) = (l1.length : Int)
 ·rw [if_pos c3] at H
  have c3b0 : ((l0.length : Int) == (l1.length : Int)) = true := beq_iff_eq.mpr c3
  have c3b1 : ((l0.length : Int) != (l1.length : Int)) = false := bne_eq_false_iff_eq.mpr c3
  have c3b2 : (l0.length == l1.length) = true := by first | simpa using c3 | (simp at c3 ⊢; omega)
  clear c3
  have H' := am H
  clear H
  go_enter Tryd.func55, Tryd.ntmps55
  go_wp2
  repeat (go_quiet (fail); try go_wp2)
  go_loopg [5] k (fun kq v5 w' => ∃ (x5_1 : Int), v5 = .int .i64 x5_1 ∧ Aside0 (lw_sameLimbs.l0 kq l0 l1 x5_1 = some r) ∧ Aside0 (kq ≤ k) ∧ Drawn0 w w')
  case atStart => exact ⟨(0), zq8, H', ⟨Nat.le_refl _⟩, by repeat (first | exact Drawn0.refl _ | apply Drawn0.step)⟩
  case round =>
   clear H'
   obtain ⟨x5_1, rfl, HA, HK1, ⟨m1, rfl⟩⟩ := hrel
   cases gk with
   | zero => exact absurd HA.out (by simp [lw_sameLimbs.l0])
   | succ k1 =>
    have H := HA.out
    clear HA
    simp only [lw_sameLimbs.l0] at H
    by_cases c4 : x5_1 < (l0.length : Int)
    ·rw [if_pos c4] at H
     have c4b0 := decide_eq_true c4
     clear c4
     replace H := zn H
     obtain ⟨c5, H⟩ := H
     have c5b0 := decide_eq_true c5
     clear c5
     replace H := zn H
     obtain ⟨c6, H⟩ := H
     have c6b0 := decide_eq_true c6
     clear c6
     by_cases c7 : (rd l0 x5_1) = (rd l1 x5_1)
     ·rw [if_pos c7] at H
      have c7b0 : ((rd l0 x5_1) == (rd l1 x5_1)) = true := beq_iff_eq.mpr c7
      have c7b1 : ((rd l0 x5_1) != (rd l1 x5_1)) = false := bne_eq_false_iff_eq.mpr c7
      clear c7
      have H' := am H
      clear H
      have p514 : 0 ≤ (x5_1 : Int) := zq6
      have q514 : x5_1 < (l0.length : Int) := zq6
      obtain ⟨ad514, e514, hx514_0⟩ := Kd.at_int HR0.out x5_1 p514 q514
      cases e514
      replace p514 := eq_true p514
      replace q514 := eq_true q514
      have p515 : 0 ≤ (x5_1 : Int) := zq6
      have q515 : x5_1 < (l1.length : Int) := zq6
      obtain ⟨ad515, e515, hx515_0⟩ := Kd.at_int HR1.out x5_1 p515 q515
      cases e515
      replace p515 := eq_true p515
      replace q515 := eq_true q515
      go_wp2
      repeat (go_quiet (fail); try go_wp2)
      go_roundg k1
      case measure => have := HK1.out; omega
      case rel => exact ⟨(wrap64 (x5_1 + 1)), zq8, H', ⟨by have := HK1.out; omega⟩, by repeat (first | exact Drawn0.refl _ | apply Drawn0.step)⟩
     ·rw [if_neg c7] at H
      have c7b0 : ((rd l0 x5_1) == (rd l1 x5_1)) = false := beq_eq_false_iff_ne.mpr c7
      have c7b1 : ((rd l0 x5_1) != (rd l1 x5_1)) = true := bne_iff_ne.mpr c7
      obtain rfl := Option.some.inj H
      have p514 : 0 ≤ (x5_1 : Int) := zq6
      have q514 : x5_1 < (l0.length : Int) := zq6
      obtain ⟨ad514, e514, hx514_0⟩ := Kd.at_int HR0.out x5_1 p514 q514
      cases e514
      replace p514 := eq_true p514
      replace q514 := eq_true q514
      have p515 : 0 ≤ (x5_1 : Int) := zq6
      have q515 : x5_1 < (l1.length : Int) := zq6
      obtain ⟨ad515, e515, hx515_0⟩ := Kd.at_int HR1.out x5_1 p515 q515
      cases e515
      replace p515 := eq_true p515
      replace q515 := eq_true q515
      go_wp2
      repeat (go_quiet (fail); try go_wp2)
      go_ret
      exact ⟨by first | rfl | (simp; done) | (simp [*]; done), by repeat (first | exact Drawn0.refl _ | apply Drawn0.step)⟩
    ·rw [if_neg c4] at H
     have c4b0 := decide_eq_false c4
     clear c4
     obtain rfl := Option.some.inj H
     go_wp2
     repeat (go_quiet (fail); try go_wp2)
     go_ret
     exact ⟨by first | rfl | (simp; done) | (simp [*]; done), by repeat (first | exact Drawn0.refl _ | apply Drawn0.step)⟩
 ·rw [if_neg c3] at H
  have c3b0 : ((l0.length : Int) == (l1.length : Int)) = false := beq_eq_false_iff_ne.mpr c3
  have c3b1 : ((l0.length : Int) != (l1.length : Int)) = true := bne_iff_ne.mpr c3
  have c3b2 : (l0.length == l1.length) = false := by first | simpa using c3 | (simp at c3 ⊢; omega)
  obtain rfl := Option.some.inj H
  go_enter Tryd.func55, Tryd.ntmps55
  go_wp2
  repeat (go_quiet (fail); try go_wp2)
  go_ret
  exact ⟨by first | rfl | (simp; done) | (simp [*]; done), by repeat (first | exact Drawn0.refl _ | apply Drawn0.step)⟩
def lw_same.f (k : Nat) (a0_0 : Bool) (l0_1 : List Int) (l0_2 : List Int) (a1_0 : Bool) (l1_1 : List Int) (l1_2 : List Int) : Option (Bool) := if (a0_0 == a1_0) = true then ((lw_sameLimbs.f k l0_1 l1_1).bind fun t518 => (if t518 = true then ((lw_sameLimbs.f k l0_2 l1_2).bind fun t519 => (some t519)) else (some false))) else (some false)
theorem lw_same.mono : ∀ a0 a1 a2 a3 a4 a5 k, LeO (lw_same.f k a0 a1 a2 a3 a4 a5) (lw_same.f (k + 1) a0 a1 a2 a3 a4 a5) := by
 intro a0 a1 a2 a3 a4 a5 k
 unfold lw_same.f
 have m0 := @lw_sameLimbs.mono
 exact zm
set_option maxHeartbeats 8000000 in
set_option maxRecDepth 100000 in
theorem lw_same.calls (k : Nat) (a0_0 : Bool) (A0_1 : Option Addr) (c0_1 : Nat) (l0_1 : List Int) (A0_2 : Option Addr) (c0_2 : Nat) (l0_2 : List Int) (a1_0 : Bool) (A1_1 : Option Addr) (c1_1 : Nat) (l1_1 : List Int) (A1_2 : Option Addr) (c1_2 : Nat) (l1_2 : List Int) (r : Bool) (w : World) (hr0_1 : Kd.C (Kd.int .u32) w A0_1 l0_1.length l0_1) (hc0_1 : l0_1.length ≤ c0_1) (hr0_2 : Kd.C (Kd.int .u32) w A0_2 l0_2.length l0_2) (hc0_2 : l0_2.length ≤ c0_2) (hr1_1 : Kd.C (Kd.int .u32) w A1_1 l1_1.length l1_1) (hc1_1 : l1_1.length ≤ c1_1) (hr1_2 : Kd.C (Kd.int .u32) w A1_2 l1_2.length l1_2) (hc1_2 : l1_2.length ≤ c1_2) (h : lw_same.f k a0_0 l0_1 l0_2 a1_0 l1_1 l1_2 = some r) :
  Calls Tryd.prog 20 #[.agg #[.bool a0_0, .slice A0_1 l0_1.length c0_1, .slice A0_2 l0_2.length c0_2], .agg #[.bool a1_0, .slice A1_1 l1_1.length c1_1, .slice A1_2 l1_2.length c1_2]] w fun e w' => e = .returned (.bool r) ∧ Below w.heap.size w w' := by
 have hu24 := Tryd.underlying24
 have HR0_1 := am hr0_1
 have HC0_1 := am hc0_1
 clear hr0_1 hc0_1
 have HR0_2 := am hr0_2
 have HC0_2 := am hc0_2
 clear hr0_2 hc0_2
 have HR1_1 := am hr1_1
 have HC1_1 := am hc1_1
 clear hr1_1 hc1_1
 have HR1_2 := am hr1_2
 have HC1_2 := am hc1_2
 clear hr1_2 hc1_2
 have HB := am (Below.refl w.heap.size w)
 have H := h
 unfold lw_same.f at H
 clear h
 by_cases c3 : (a0_0 == a1_0) = true
 ·rw [if_pos c3] at H
  have c3b0 : (a0_0 == a1_0) = true := c3
  (try (have c3b1 : decide (a0_0 = a1_0) = true := by simpa using c3))
  (try (have c3b2 : (a0_0 == a1_0) = true := by simpa using c3))
  clear c3
  replace H := zj H
  obtain ⟨t518, A4, H⟩ := H
  by_cases c5 : t518 = true
  ·subst c5
   have H1 : ((lw_sameLimbs.f k l0_2 l1_2).bind fun t519 => (some t519)) = some r := by rw [if_pos rfl] at H; exact H
   clear H
   have H := H1
   clear H1
   replace H := zj H
   obtain ⟨t519, A6, H⟩ := H
   obtain rfl := Option.some.inj H
   go_enter Tryd.func20, Tryd.ntmps20
   go_wp2_with (first | ((with_reducible refine gate_dst (N := 2) rfl ?_); refine zbox (N := 2) (cs := #[.bool a0_0, .slice A0_1 l0_1.length c0_1, .slice A0_2 l0_2.length c0_2]) (t := 24) ?_; intro gb516 hg w7 hbox hb; refine zt3 (below_step zq1 hb) (hbox) ((zs hg (below_size zq1) : w.heap.size ≤ gb516)) ?_; clear HB; intro HB BK516 GW516; have GE516 := GW516; clear hb hbox hg) | ((with_reducible refine gate_dst (N := 3) rfl ?_); refine zbox (N := 3) (cs := #[.bool a1_0, .slice A1_1 l1_1.length c1_1, .slice A1_2 l1_2.length c1_2]) (t := 24) ?_; intro gb517 hg w8 hbox hb; refine zt6 (bb BK516.out hb) (below_step (zb1 GE516.out) hb) (hbox) ((zs hg (below_size (zb1 GE516.out)) : w.heap.size ≤ gb517)) ((by rw [hg]; exact Nat.ne_of_lt (bl BK516.out) : gb516 ≠ gb517)) ((by rw [hg]; exact Nat.ne_of_gt (bl BK516.out) : gb517 ≠ gb516)) ?_; clear BK516 HB; intro BK516 HB BK517 GW517 NB516_517 NB517_516; have GE517 := GW517; clear hb hbox hg; have hnb9 := NB516_517.out; have hnc9 := NB517_516.out; have hcz10_0 := bc BK516.out 0 (.bool a0_0); have hcz10_1 := bc BK516.out 1 (.slice A0_1 l0_1.length c0_1); have hcz10_2 := bc BK516.out 2 (.slice A0_2 l0_2.length c0_2); have hfz10_0 := blk_frozen BK516.out 0; have hfz10_1 := blk_frozen BK516.out 1; have hfz10_2 := blk_frozen BK516.out 2; have hcz11_0 := bc BK517.out 0 (.bool a1_0); have hcz11_1 := bc BK517.out 1 (.slice A1_1 l1_1.length c1_1); have hcz11_2 := bc BK517.out 2 (.slice A1_2 l1_2.length c1_2); have hfz11_0 := blk_frozen BK517.out 0; have hfz11_1 := blk_frozen BK517.out 1; have hfz11_2 := blk_frozen BK517.out 2) | (go_at_call 55; (with_reducible refine (lw_sameLimbs.calls k _ _ l0_1 _ _ l1_1 true _ ?side1 ?side2 ?side3 ?side4 A4.out).mono ?_); (case side1 => exact zc (Kd.C_below HR0_1.out HB.out)); (case side2 => exact HC0_1.out); (case side3 => exact zc (Kd.C_below HR1_1.out HB.out)); (case side4 => exact HC1_1.out); rintro e w' ⟨rfl, ⟨nd, rfl⟩⟩) | (go_at_call 55; (with_reducible refine (lw_sameLimbs.calls k _ _ l0_2 _ _ l1_2 t519 _ ?side1 ?side2 ?side3 ?side4 A6.out).mono ?_); (case side1 => exact zc (Kd.C_below HR0_2.out (zb2 GE516.out GE517.out))); (case side2 => exact HC0_2.out); (case side3 => exact zc (Kd.C_below HR1_2.out (zb2 GE516.out GE517.out))); (case side4 => exact HC1_2.out); rintro e w' ⟨rfl, ⟨nd, rfl⟩⟩))
   go_ret
   exact ⟨zq9, zb2 GE516.out GE517.out⟩
  ·replace c5 := Bool.eq_false_iff.mpr c5
   subst c5
   have H1 : (some false) = some r := by rw [if_neg (show ¬ (false = true) by decide)] at H; exact H
   clear H
   have H := H1
   clear H1
   obtain rfl := Option.some.inj H
   go_enter Tryd.func20, Tryd.ntmps20
   go_wp2_with (first | ((with_reducible refine gate_dst (N := 2) rfl ?_); refine zbox (N := 2) (cs := #[.bool a0_0, .slice A0_1 l0_1.length c0_1, .slice A0_2 l0_2.length c0_2]) (t := 24) ?_; intro gb516 hg w12 hbox hb; refine zt3 (below_step zq1 hb) (hbox) ((zs hg (below_size zq1) : w.heap.size ≤ gb516)) ?_; clear HB; intro HB BK516 GW516; have GE516 := GW516; clear hb hbox hg) | ((with_reducible refine gate_dst (N := 3) rfl ?_); refine zbox (N := 3) (cs := #[.bool a1_0, .slice A1_1 l1_1.length c1_1, .slice A1_2 l1_2.length c1_2]) (t := 24) ?_; intro gb517 hg w13 hbox hb; refine zt6 (bb BK516.out hb) (below_step (zb1 GE516.out) hb) (hbox) ((zs hg (below_size (zb1 GE516.out)) : w.heap.size ≤ gb517)) ((by rw [hg]; exact Nat.ne_of_lt (bl BK516.out) : gb516 ≠ gb517)) ((by rw [hg]; exact Nat.ne_of_gt (bl BK516.out) : gb517 ≠ gb516)) ?_; clear BK516 HB; intro BK516 HB BK517 GW517 NB516_517 NB517_516; have GE517 := GW517; clear hb hbox hg; have hnb14 := NB516_517.out; have hnc14 := NB517_516.out; have hcz15_0 := bc BK516.out 0 (.bool a0_0); have hcz15_1 := bc BK516.out 1 (.slice A0_1 l0_1.length c0_1); have hcz15_2 := bc BK516.out 2 (.slice A0_2 l0_2.length c0_2); have hfz15_0 := blk_frozen BK516.out 0; have hfz15_1 := blk_frozen BK516.out 1; have hfz15_2 := blk_frozen BK516.out 2; have hcz16_0 := bc BK517.out 0 (.bool a1_0); have hcz16_1 := bc BK517.out 1 (.slice A1_1 l1_1.length c1_1); have hcz16_2 := bc BK517.out 2 (.slice A1_2 l1_2.length c1_2); have hfz16_0 := blk_frozen BK517.out 0; have hfz16_1 := blk_frozen BK517.out 1; have hfz16_2 := blk_frozen BK517.out 2) | (go_at_call 55; (with_reducible refine (lw_sameLimbs.calls k _ _ l0_1 _ _ l1_1 false _ ?side1 ?side2 ?side3 ?side4 A4.out).mono ?_); (case side1 => exact zc (Kd.C_below HR0_1.out HB.out)); (case side2 => exact HC0_1.out); (case side3 => exact zc (Kd.C_below HR1_1.out HB.out)); (case side4 => exact HC1_1.out); rintro e w' ⟨rfl, ⟨nd, rfl⟩⟩))
   go_ret
   exact ⟨zq9, zb2 GE516.out GE517.out⟩
 ·rw [if_neg c3] at H
  have c3b0 : (a0_0 == a1_0) = false := by simpa using c3
  (try (have c3b1 : decide (a0_0 = a1_0) = false := by simpa using c3))
  (try (have c3b2 : (a0_0 == a1_0) = false := by simpa using c3))
  (try (have c3b3 : ¬ (a0_0 = a1_0) := by simpa using c3))
  clear c3
  obtain rfl := Option.some.inj H
  go_enter Tryd.func20, Tryd.ntmps20
  go_wp2_with (first | ((with_reducible refine gate_dst (N := 2) rfl ?_); refine zbox (N := 2) (cs := #[.bool a0_0, .slice A0_1 l0_1.length c0_1, .slice A0_2 l0_2.length c0_2]) (t := 24) ?_; intro gb516 hg w17 hbox hb; refine zt3 (below_step zq1 hb) (hbox) ((zs hg (below_size zq1) : w.heap.size ≤ gb516)) ?_; clear HB; intro HB BK516 GW516; have GE516 := GW516; clear hb hbox hg) | ((with_reducible refine gate_dst (N := 3) rfl ?_); refine zbox (N := 3) (cs := #[.bool a1_0, .slice A1_1 l1_1.length c1_1, .slice A1_2 l1_2.length c1_2]) (t := 24) ?_; intro gb517 hg w18 hbox hb; refine zt6 (bb BK516.out hb) (below_step (zb1 GE516.out) hb) (hbox) ((zs hg (below_size (zb1 GE516.out)) : w.heap.size ≤ gb517)) ((by rw [hg]; exact Nat.ne_of_lt (bl BK516.out) : gb516 ≠ gb517)) ((by rw [hg]; exact Nat.ne_of_gt (bl BK516.out) : gb517 ≠ gb516)) ?_; clear BK516 HB; intro BK516 HB BK517 GW517 NB516_517 NB517_516; have GE517 := GW517; clear hb hbox hg; have hnb19 := NB516_517.out; have hnc19 := NB517_516.out; have hcz20_0 := bc BK516.out 0 (.bool a0_0); have hcz20_1 := bc BK516.out 1 (.slice A0_1 l0_1.length c0_1); have hcz20_2 := bc BK516.out 2 (.slice A0_2 l0_2.length c0_2); have hfz20_0 := blk_frozen BK516.out 0; have hfz20_1 := blk_frozen BK516.out 1; have hfz20_2 := blk_frozen BK516.out 2; have hcz21_0 := bc BK517.out 0 (.bool a1_0); have hcz21_1 := bc BK517.out 1 (.slice A1_1 l1_1.length c1_1); have hcz21_2 := bc BK517.out 2 (.slice A1_2 l1_2.length c1_2); have hfz21_0 := blk_frozen BK517.out 0; have hfz21_1 := blk_frozen BK517.out 1; have hfz21_2 := blk_frozen BK517.out 2))
  go_ret
  exact ⟨zq9, zb2 GE516.out GE517.out⟩
def number_Sub.f (k : Nat) (a0_0 : Bool) (l0_1 : List Int) (l0_2 : List Int) (a1_0 : Bool) (l1_1 : List Int) (l1_2 : List Int) : Option (Bool × List Int × List Int × Int) := (number_check.f k (([(⟨a0_0, l0_1, l0_2⟩ : S24), (⟨a1_0, l1_1, l1_2⟩ : S24)] : List (S24)))).bind fun t1274 => (if t1274 = 0 then ((number_add.f k a0_0 l0_1 l0_2 a1_0 l1_1 l1_2 true).bind fun bt1275 => (some (bt1275.1, bt1275.2.1, bt1275.2.2.1, bt1275.2.2.2))) else (some (false, ([] : List Int), ([] : List Int), t1274)))
theorem number_Sub.mono : ∀ a0 a1 a2 a3 a4 a5 k, LeO (number_Sub.f k a0 a1 a2 a3 a4 a5) (number_Sub.f (k + 1) a0 a1 a2 a3 a4 a5) := by
 intro a0 a1 a2 a3 a4 a5 k
 unfold number_Sub.f
 have m0 := @number_add.mono
 have m1 := @number_check.mono
 exact zm
set_option maxHeartbeats 8000000 in
set_option maxRecDepth 100000 in
theorem number_Sub.calls (k : Nat) (a0_0 : Bool) (P0_1_ : Nat → Prop) (A0_1 : Option Addr) (c0_1 : Nat) (l0_1 : List Int) (P0_2_ : Nat → Prop) (A0_2 : Option Addr) (c0_2 : Nat) (l0_2 : List Int) (a1_0 : Bool) (P1_1_ : Nat → Prop) (A1_1 : Option Addr) (c1_1 : Nat) (l1_1 : List Int) (P1_2_ : Nat → Prop) (A1_2 : Option Addr) (c1_2 : Nat) (l1_2 : List Int) (r1 : Bool) (r2 : List Int) (r3 : List Int) (r4 : Int) (w : World) (hs0_1 : Kd.V (Kd.int .u32) 55 w w.heap.size (fun k_ => P0_1_ k_) (.slice A0_1 l0_1.length c0_1) l0_1) (hs0_2 : Kd.V (Kd.int .u32) 55 w w.heap.size (fun k_ => P0_2_ k_) (.slice A0_2 l0_2.length c0_2) l0_2) (hs1_1 : Kd.V (Kd.int .u32) 55 w w.heap.size (fun k_ => P1_1_ k_) (.slice A1_1 l1_1.length c1_1) l1_1) (hs1_2 : Kd.V (Kd.int .u32) 55 w w.heap.size (fun k_ => P1_2_ k_) (.slice A1_2 l1_2.length c1_2) l1_2) (h : number_Sub.f k a0_0 l0_1 l0_2 a1_0 l1_1 l1_2 = some (r1, r2, r3, r4)) :
  Calls Tryd.prog 27 #[.agg #[.bool a0_0, .slice A0_1 l0_1.length c0_1, .slice A0_2 l0_2.length c0_2], .agg #[.bool a1_0, .slice A1_1 l1_1.length c1_1, .slice A1_2 l1_2.length c1_2]] w fun e w' => ∃ v1_ v2_ : Value, e = .returned (.tuple #[.agg #[.bool r1, v1_, v2_], .int .i64 r4]) ∧ Kd.V (Kd.int .u32) 55 w' w.heap.size (fun k_ => ((P0_1_ k_ ∨ P0_2_ k_ ∨ P1_1_ k_ ∨ P1_2_ k_) ∨ w.heap.size ≤ k_)) v1_ r2 ∧ Kd.V (Kd.int .u32) 55 w' w.heap.size (fun k_ => ((P0_1_ k_ ∨ P0_2_ k_ ∨ P1_1_ k_ ∨ P1_2_ k_) ∨ w.heap.size ≤ k_)) v2_ r3 ∧ Below w.heap.size w w' := by
 have hu24 := Tryd.underlying24
 have HO0_1 := am (show Kd.V (Kd.int .u32) 55 w w.heap.size (fun k_ => ((P0_1_ k_ ∨ P0_2_ k_ ∨ P1_1_ k_ ∨ P1_2_ k_) ∨ w.heap.size ≤ k_)) (.slice A0_1 l0_1.length c0_1) l0_1 from Kd.V_mono hs0_1 (fun k_ hk => .inl (.inl hk)))
 have HO0_2 := am (show Kd.V (Kd.int .u32) 55 w w.heap.size (fun k_ => ((P0_1_ k_ ∨ P0_2_ k_ ∨ P1_1_ k_ ∨ P1_2_ k_) ∨ w.heap.size ≤ k_)) (.slice A0_2 l0_2.length c0_2) l0_2 from Kd.V_mono hs0_2 (fun k_ hk => .inl (.inr (.inl hk))))
 have HO1_1 := am (show Kd.V (Kd.int .u32) 55 w w.heap.size (fun k_ => ((P0_1_ k_ ∨ P0_2_ k_ ∨ P1_1_ k_ ∨ P1_2_ k_) ∨ w.heap.size ≤ k_)) (.slice A1_1 l1_1.length c1_1) l1_1 from Kd.V_mono hs1_1 (fun k_ hk => .inl (.inr (.inr (.inl hk)))))
 have HO1_2 := am (show Kd.V (Kd.int .u32) 55 w w.heap.size (fun k_ => ((P0_1_ k_ ∨ P0_2_ k_ ∨ P1_1_ k_ ∨ P1_2_ k_) ∨ w.heap.size ≤ k_)) (.slice A1_2 l1_2.length c1_2) l1_2 from Kd.V_mono hs1_2 (fun k_ hk => .inl (.inr (.inr (.inr hk)))))
 have HB := am (Below.refl w.heap.size w)
 have H := h
 unfold number_Sub.f at H
 clear h
 obtain ⟨y1271, hy1271⟩ : ∃ y_ : List (S24), y_ = (([(⟨a0_0, l0_1, l0_2⟩ : S24), (⟨a1_0, l1_1, l1_2⟩ : S24)] : List (S24))) := ⟨_, rfl⟩
 try rw [← hy1271] at H
 have Ny1271 := am hy1271
 clear hy1271
 replace H := zj H
 obtain ⟨t1274, A3, H⟩ := H
 by_cases c4 : t1274 = 0
 ·rw [if_pos c4] at H
  have c4b0 : (t1274 == 0) = true := beq_iff_eq.mpr c4
  have c4b1 : (t1274 != 0) = false := bne_eq_false_iff_eq.mpr c4
  clear c4
  replace H := zj H
  obtain ⟨⟨t1275, t1276, t1279, t1282⟩, A5, H⟩ := H
  try dsimp only at H
  simp only [Option.some.injEq, Prod.mk.injEq] at H
  obtain ⟨rfl, rfl, rfl, rfl⟩ := H
  go_enter Tryd.func27, Tryd.ntmps27
  go_wp2_with (first | ((with_reducible refine gate_dst (N := 2) rfl ?_); refine zbox (N := 2) (cs := #[.bool a0_0, .slice A0_1 l0_1.length c0_1, .slice A0_2 l0_2.length c0_2]) (t := 24) ?_; intro gb1268 hg w6 hbox hb; refine zt7 (ve HO0_1 hg hb) (ve HO0_2 hg hb) (ve HO1_1 hg hb) (ve HO1_2 hg hb) (below_step zq1 hb) (hbox) ((zs hg (below_size zq1) : w.heap.size ≤ gb1268)) ?_; clear HO0_1 HO0_2 HO1_1 HO1_2 HB; intro HO0_1 HO0_2 HO1_1 HO1_2 HB BK1268 GW1268; have GE1268 := GW1268; clear hb hbox hg) | ((with_reducible refine gate_dst (N := 3) rfl ?_); refine zbox (N := 3) (cs := #[.bool a1_0, .slice A1_1 l1_1.length c1_1, .slice A1_2 l1_2.length c1_2]) (t := 24) ?_; intro gb1269 hg w7 hbox hb; refine zt10 (ve HO0_1 hg hb) (ve HO0_2 hg hb) (ve HO1_1 hg hb) (ve HO1_2 hg hb) (bb BK1268.out hb) (below_step (zb1 GE1268.out) hb) (hbox) ((zs hg (below_size (zb1 GE1268.out)) : w.heap.size ≤ gb1269)) ((by rw [hg]; exact Nat.ne_of_lt (bl BK1268.out) : gb1268 ≠ gb1269)) ((by rw [hg]; exact Nat.ne_of_gt (bl BK1268.out) : gb1269 ≠ gb1268)) ?_; clear HO0_1 HO0_2 HO1_1 HO1_2 BK1268 HB; intro HO0_1 HO0_2 HO1_1 HO1_2 BK1268 HB BK1269 GW1269 NB1268_1269 NB1269_1268; have GE1269 := GW1269; clear hb hbox hg) | ((with_reducible refine gate_dst (N := 4) rfl ?_); refine zbox (N := 4) (cs := #[.bool false, .slice none 0 0, .slice none 0 0]) (t := 24) ?_; intro gb1270 hg w8 hbox hb; refine zt13 (ve HO0_1 hg hb) (ve HO0_2 hg hb) (ve HO1_1 hg hb) (ve HO1_2 hg hb) (bb BK1268.out hb) (bb BK1269.out hb) (below_step (zb2 GE1268.out GE1269.out) hb) (hbox) ((zs hg (below_size (zb2 GE1268.out GE1269.out)) : w.heap.size ≤ gb1270)) ((by rw [hg]; exact Nat.ne_of_lt (bl BK1268.out) : gb1268 ≠ gb1270)) ((by rw [hg]; exact Nat.ne_of_gt (bl BK1268.out) : gb1270 ≠ gb1268)) ((by rw [hg]; exact Nat.ne_of_lt (bl BK1269.out) : gb1269 ≠ gb1270)) ((by rw [hg]; exact Nat.ne_of_gt (bl BK1269.out) : gb1270 ≠ gb1269)) ?_; clear HO0_1 HO0_2 HO1_1 HO1_2 BK1268 BK1269 HB; intro HO0_1 HO0_2 HO1_1 HO1_2 BK1268 BK1269 HB BK1270 GW1270 NB1268_1270 NB1270_1268 NB1269_1270 NB1270_1269; have GE1270 := GW1270; clear hb hbox hg; have hnb9 := NB1268_1269.out; have hnc9 := NB1269_1268.out; have hnb10 := NB1268_1270.out; have hnc10 := NB1270_1268.out; have hcz11_0 := bc BK1268.out 0 (.bool a0_0); have hcz11_1 := bc BK1268.out 1 (.slice A0_1 l0_1.length c0_1); have hcz11_2 := bc BK1268.out 2 (.slice A0_2 l0_2.length c0_2); have hfz11_0 := blk_frozen BK1268.out 0; have hfz11_1 := blk_frozen BK1268.out 1; have hfz11_2 := blk_frozen BK1268.out 2; have hnb12 := NB1269_1270.out; have hnc12 := NB1270_1269.out; have hcz13_0 := bc BK1269.out 0 (.bool a1_0); have hcz13_1 := bc BK1269.out 1 (.slice A1_1 l1_1.length c1_1); have hcz13_2 := bc BK1269.out 2 (.slice A1_2 l1_2.length c1_2); have hfz13_0 := blk_frozen BK1269.out 0; have hfz13_1 := blk_frozen BK1269.out 1; have hfz13_2 := blk_frozen BK1269.out 2) | ((with_reducible refine gate_dst (N := 9) rfl ?_); refine Kd.N_lit k24 _ 24 ?hg (N' := 9) ?hd (xs := ([(⟨a0_0, l0_1, l0_2⟩ : S24), (⟨a1_0, l1_1, l1_2⟩ : S24)] : List (S24))) (inner := [.bool a0_0, .slice A0_1 l0_1.length c0_1, .slice A0_2 l0_2.length c0_2, .bool a1_0, .slice A1_1 l1_1.length c1_1, .slice A1_2 l1_2.length c1_2]) (ok := (fun k_ => ((P0_1_ k_ ∨ P0_2_ k_ ∨ P1_1_ k_ ∨ P1_2_ k_) ∨ w.heap.size ≤ k_) ∧ k_ ≠ gb1268 ∧ k_ ≠ gb1269 ∧ k_ ≠ gb1270)) (okp := (fun k_ => ((P0_1_ k_ ∨ P0_2_ k_ ∨ P1_1_ k_ ∨ P1_2_ k_) ∨ w.heap.size ≤ k_) ∧ k_ ≠ gb1268 ∧ k_ ≠ gb1269 ∧ k_ ≠ gb1270)) ?hr ?hp (fun _ hk => hk) ((show ∀ k_, w8.heap.size ≤ k_ → (fun k_ => ((P0_1_ k_ ∨ P0_2_ k_ ∨ P1_1_ k_ ∨ P1_2_ k_) ∨ w.heap.size ≤ k_) ∧ k_ ≠ gb1268 ∧ k_ ≠ gb1269 ∧ k_ ≠ gb1270) k_ from fun k_ hk => ⟨(.inr (Nat.le_trans (below_size (zb3 GE1268.out GE1269.out GE1270.out)) hk)), Kd.freshB (g := gb1268) (o := .cells #[.bool a0_0, .slice A0_1 l0_1.length c0_1, .slice A0_2 l0_2.length c0_2] 24 (0, 0)) (zq2 BK1268.out) k_ hk, Kd.freshB (g := gb1269) (o := .cells #[.bool a1_0, .slice A1_1 l1_1.length c1_1, .slice A1_2 l1_2.length c1_2] 24 (0, 0)) (zq2 BK1269.out) k_ hk, Kd.freshB (g := gb1270) (o := .cells #[.bool false, .slice none 0 0, .slice none 0 0] 24 (0, 0)) (zq2 BK1270.out) k_ hk⟩) _ (Nat.le_refl _)) (Below.refl _ _) (Nat.le_refl _) (by simp) ?_; (case hd => rfl); (case hg => rfl); (case hr => exact zr); (case hp => exact (Reps.c3 (show Kd.FK k24 _ _ (⟨a0_0, l0_1, l0_2⟩ : S24) [.bool a0_0, .slice A0_1 l0_1.length c0_1, .slice A0_2 l0_2.length c0_2] from (k24_mkF _ _ (⟨a0_0, l0_1, l0_2⟩ : S24) (Kd.V_reads' (Kd.V_mono (ok' := (fun k_ => ((P0_1_ k_ ∨ P0_2_ k_ ∨ P1_1_ k_ ∨ P1_2_ k_) ∨ w.heap.size ≤ k_) ∧ k_ ≠ gb1268 ∧ k_ ≠ gb1269 ∧ k_ ≠ gb1270)) (HO0_1.out) (fun k_ hk => ⟨hk.1.1.1, ⟨hk.1.1.2, ⟨hk.1.2, hk.2⟩⟩⟩))).2.1 (Kd.V_F (Kd.V_mono (ok' := (fun k_ => ((P0_1_ k_ ∨ P0_2_ k_ ∨ P1_1_ k_ ∨ P1_2_ k_) ∨ w.heap.size ≤ k_) ∧ k_ ≠ gb1268 ∧ k_ ≠ gb1269 ∧ k_ ≠ gb1270)) (HO0_1.out) (fun k_ hk => ⟨hk.1.1.1, ⟨hk.1.1.2, ⟨hk.1.2, hk.2⟩⟩⟩))) (Kd.V_reads' (Kd.V_mono (ok' := (fun k_ => ((P0_1_ k_ ∨ P0_2_ k_ ∨ P1_1_ k_ ∨ P1_2_ k_) ∨ w.heap.size ≤ k_) ∧ k_ ≠ gb1268 ∧ k_ ≠ gb1269 ∧ k_ ≠ gb1270)) (HO0_2.out) (fun k_ hk => ⟨hk.1.1.1, ⟨hk.1.1.2, ⟨hk.1.2, hk.2⟩⟩⟩))).2.1 (Kd.V_F (Kd.V_mono (ok' := (fun k_ => ((P0_1_ k_ ∨ P0_2_ k_ ∨ P1_1_ k_ ∨ P1_2_ k_) ∨ w.heap.size ≤ k_) ∧ k_ ≠ gb1268 ∧ k_ ≠ gb1269 ∧ k_ ≠ gb1270)) (HO0_2.out) (fun k_ hk => ⟨hk.1.1.1, ⟨hk.1.1.2, ⟨hk.1.2, hk.2⟩⟩⟩))))) (Reps.c3 (show Kd.FK k24 _ _ (⟨a1_0, l1_1, l1_2⟩ : S24) [.bool a1_0, .slice A1_1 l1_1.length c1_1, .slice A1_2 l1_2.length c1_2] from (k24_mkF _ _ (⟨a1_0, l1_1, l1_2⟩ : S24) (Kd.V_reads' (Kd.V_mono (ok' := (fun k_ => ((P0_1_ k_ ∨ P0_2_ k_ ∨ P1_1_ k_ ∨ P1_2_ k_) ∨ w.heap.size ≤ k_) ∧ k_ ≠ gb1268 ∧ k_ ≠ gb1269 ∧ k_ ≠ gb1270)) (HO1_1.out) (fun k_ hk => ⟨hk.1.1.1, ⟨hk.1.1.2, ⟨hk.1.2, hk.2⟩⟩⟩))).2.1 (Kd.V_F (Kd.V_mono (ok' := (fun k_ => ((P0_1_ k_ ∨ P0_2_ k_ ∨ P1_1_ k_ ∨ P1_2_ k_) ∨ w.heap.size ≤ k_) ∧ k_ ≠ gb1268 ∧ k_ ≠ gb1269 ∧ k_ ≠ gb1270)) (HO1_1.out) (fun k_ hk => ⟨hk.1.1.1, ⟨hk.1.1.2, ⟨hk.1.2, hk.2⟩⟩⟩))) (Kd.V_reads' (Kd.V_mono (ok' := (fun k_ => ((P0_1_ k_ ∨ P0_2_ k_ ∨ P1_1_ k_ ∨ P1_2_ k_) ∨ w.heap.size ≤ k_) ∧ k_ ≠ gb1268 ∧ k_ ≠ gb1269 ∧ k_ ≠ gb1270)) (HO1_2.out) (fun k_ hk => ⟨hk.1.1.1, ⟨hk.1.1.2, ⟨hk.1.2, hk.2⟩⟩⟩))).2.1 (Kd.V_F (Kd.V_mono (ok' := (fun k_ => ((P0_1_ k_ ∨ P0_2_ k_ ∨ P1_1_ k_ ∨ P1_2_ k_) ∨ w.heap.size ≤ k_) ∧ k_ ≠ gb1268 ∧ k_ ≠ gb1269 ∧ k_ ≠ gb1270)) (HO1_2.out) (fun k_ hk => ⟨hk.1.1.1, ⟨hk.1.1.2, ⟨hk.1.2, hk.2⟩⟩⟩))))) (Reps.none _ _)))); intro v1272 w14 ho15 hb hg_ hnew_; clear hg_ hnew_; (first | rw [← Ny1271.out] at ho15 | (simp only [Int.reduceToNat] at ho15; rw [← Ny1271.out] at ho15)); refine zt9 (Kd.V_elder' (zq3 HO0_1.out) (Kd.N_base ho15) hb) (Kd.V_elder' (zq3 HO0_2.out) (Kd.N_base ho15) hb) (Kd.V_elder' (zq3 HO1_1.out) (Kd.N_base ho15) hb) (Kd.V_elder' (zq3 HO1_2.out) (Kd.N_base ho15) hb) (Kd.N_lower ho15 (below_size (zb3 GE1268.out GE1269.out GE1270.out))) (bb BK1268.out hb) (bb BK1269.out hb) (bb BK1270.out hb) (below_step (zb3 GE1268.out GE1269.out GE1270.out) hb) ?_; clear HO0_1 HO0_2 HO1_1 HO1_2 BK1268 BK1269 BK1270 HB; intro HO0_1 HO0_2 HO1_1 HO1_2 HO1273 BK1268 BK1269 BK1270 HB; clear hb ho15; obtain ⟨Ao16, co16, eo16⟩ := Kd.N_slice HO1273.out; subst eo16) | ((with_reducible refine gate_callee (f := 61) rfl ?_); refine goesL_ (some 10) rfl rfl Tryd.func61 (by kernel_rfl) rfl #[.slice Ao16 y1271.length co16] rfl zq5 ?_; (with_reducible refine (number_check.calls k _ _ y1271 t1274 _ ?side1 ?side2 A3.out).mono ?_); (case side1 => exact zc ((Kd.N_reads' HO1273.out).2.2)); (case side2 => exact (Kd.N_reads' HO1273.out).2.1); rintro e w17 ⟨rfl, hb⟩; refine ⟨_, rfl, ?_⟩; refine zt9 (vb HO0_1 hb) (vb HO0_2 hb) (vb HO1_1 hb) (vb HO1_2 hb) (Kd.N_below (by (with_reducible repeat (first | apply Kd.N_alloc | apply Kd.N_drewN | apply Kd.N_drew)); exact HO1273.out) hb) (bb BK1268.out hb) (bb BK1269.out hb) (bb BK1270.out hb) (below_step (zb3 GE1268.out GE1269.out GE1270.out) hb) ?_; clear HO0_1 HO0_2 HO1_1 HO1_2 HO1273 BK1268 BK1269 BK1270 HB; intro HO0_1 HO0_2 HO1_1 HO1_2 HO1273 BK1268 BK1269 BK1270 HB; (try clear hb); (try clear hb2); (try clear hk); (try clear hi); have hcz18_0 := bc BK1268.out 0 (.bool a0_0); have hcz18_1 := bc BK1268.out 1 (.slice A0_1 l0_1.length c0_1); have hcz18_2 := bc BK1268.out 2 (.slice A0_2 l0_2.length c0_2); have hfz18_0 := blk_frozen BK1268.out 0; have hfz18_1 := blk_frozen BK1268.out 1; have hfz18_2 := blk_frozen BK1268.out 2; have hcz19_0 := bc BK1269.out 0 (.bool a1_0); have hcz19_1 := bc BK1269.out 1 (.slice A1_1 l1_1.length c1_1); have hcz19_2 := bc BK1269.out 2 (.slice A1_2 l1_2.length c1_2); have hfz19_0 := blk_frozen BK1269.out 0; have hfz19_1 := blk_frozen BK1269.out 1; have hfz19_2 := blk_frozen BK1269.out 2) | ((with_reducible refine gate_callee (f := 64) rfl ?_); refine goesL_ (some 17) rfl rfl Tryd.func64 (by kernel_rfl) rfl #[.agg #[.bool a0_0, .slice A0_1 l0_1.length c0_1, .slice A0_2 l0_2.length c0_2], .agg #[.bool a1_0, .slice A1_1 l1_1.length c1_1, .slice A1_2 l1_2.length c1_2], .bool true] rfl zq5 ?_; (with_reducible refine (number_add.calls k a0_0 _ _ l0_1 _ _ l0_2 a1_0 _ _ l1_1 _ _ l1_2 true t1275 t1276 t1279 t1282 _ ?side1 ?side2 ?side3 ?side4 ?side5 ?side6 ?side7 ?side8 A5.out).mono ?_); (case side1 => exact zc ((Kd.V_reads' HO0_1.out).2.2)); (case side2 => exact (Kd.V_reads' HO0_1.out).2.1); (case side3 => exact zc ((Kd.V_reads' HO0_2.out).2.2)); (case side4 => exact (Kd.V_reads' HO0_2.out).2.1); (case side5 => exact zc ((Kd.V_reads' HO1_1.out).2.2)); (case side6 => exact (Kd.V_reads' HO1_1.out).2.1); (case side7 => exact zc ((Kd.V_reads' HO1_2.out).2.2)); (case side8 => exact (Kd.V_reads' HO1_2.out).2.1); rintro e w20 ⟨v1277, v1280, rfl, ho0, ho1, hb⟩; refine ⟨_, rfl, ?_⟩; refine zt11 (vb HO0_1 hb) (vb HO0_2 hb) (vb HO1_1 hb) (vb HO1_2 hb) (Kd.N_below (by (with_reducible repeat (first | apply Kd.N_alloc | apply Kd.N_drewN | apply Kd.N_drew)); exact HO1273.out) hb) (Kd.V_lower (Kd.V_mono (ok' := fun k_ => ((P0_1_ k_ ∨ P0_2_ k_ ∨ P1_1_ k_ ∨ P1_2_ k_) ∨ w.heap.size ≤ k_) ∧ some k_ ≠ (.slice Ao16 y1271.length co16 : Value).ownBlock ∧ k_ ≠ gb1268 ∧ k_ ≠ gb1269 ∧ k_ ≠ gb1270) ho0 (fun k_ hk_ => ⟨(.inr (Nat.le_trans (below_size (zb3 GE1268.out GE1269.out GE1270.out)) hk_)), (Kd.fresh' (Kd.N_lt (by (with_reducible repeat (first | apply Kd.N_alloc | apply Kd.N_drewN | apply Kd.N_drew)); exact HO1273.out)) k_ hk_), (Kd.freshB (g := gb1268) (o := .cells #[.bool a0_0, .slice A0_1 l0_1.length c0_1, .slice A0_2 l0_2.length c0_2] 24 (0, 0)) (zq2 BK1268.out) k_ hk_), (Kd.freshB (g := gb1269) (o := .cells #[.bool a1_0, .slice A1_1 l1_1.length c1_1, .slice A1_2 l1_2.length c1_2] 24 (0, 0)) (zq2 BK1269.out) k_ hk_), (Kd.freshB (g := gb1270) (o := .cells #[.bool false, .slice none 0 0, .slice none 0 0] 24 (0, 0)) (zq2 BK1270.out) k_ hk_)⟩)) (below_size (zb3 GE1268.out GE1269.out GE1270.out))) (Kd.V_lower (Kd.V_mono (ok' := fun k_ => ((P0_1_ k_ ∨ P0_2_ k_ ∨ P1_1_ k_ ∨ P1_2_ k_) ∨ w.heap.size ≤ k_) ∧ some k_ ≠ (.slice Ao16 y1271.length co16 : Value).ownBlock ∧ k_ ≠ gb1268 ∧ k_ ≠ gb1269 ∧ k_ ≠ gb1270) ho1 (fun k_ hk_ => ⟨(.inr (Nat.le_trans (below_size (zb3 GE1268.out GE1269.out GE1270.out)) hk_)), (Kd.fresh' (Kd.N_lt (by (with_reducible repeat (first | apply Kd.N_alloc | apply Kd.N_drewN | apply Kd.N_drew)); exact HO1273.out)) k_ hk_), (Kd.freshB (g := gb1268) (o := .cells #[.bool a0_0, .slice A0_1 l0_1.length c0_1, .slice A0_2 l0_2.length c0_2] 24 (0, 0)) (zq2 BK1268.out) k_ hk_), (Kd.freshB (g := gb1269) (o := .cells #[.bool a1_0, .slice A1_1 l1_1.length c1_1, .slice A1_2 l1_2.length c1_2] 24 (0, 0)) (zq2 BK1269.out) k_ hk_), (Kd.freshB (g := gb1270) (o := .cells #[.bool false, .slice none 0 0, .slice none 0 0] 24 (0, 0)) (zq2 BK1270.out) k_ hk_)⟩)) (below_size (zb3 GE1268.out GE1269.out GE1270.out))) (bb BK1268.out hb) (bb BK1269.out hb) (bb BK1270.out hb) (below_step (zb3 GE1268.out GE1269.out GE1270.out) hb) ?_; clear HO0_1 HO0_2 HO1_1 HO1_2 HO1273 BK1268 BK1269 BK1270 HB; intro HO0_1 HO0_2 HO1_1 HO1_2 HO1273 HO1278 HO1281 BK1268 BK1269 BK1270 HB; (try clear ho1); have hcz21_0 := bc BK1270.out 0 (.bool false); have hcz21_1 := bc BK1270.out 1 (.slice none 0 0); have hcz21_2 := bc BK1270.out 2 (.slice none 0 0); have hfz21_0 := blk_frozen BK1270.out 0; have hfz21_1 := blk_frozen BK1270.out 1; have hfz21_2 := blk_frozen BK1270.out 2; obtain ⟨Ao22, co22, eo22⟩ := Kd.V_slice HO1278.out; subst eo22; obtain ⟨Ao23, co23, eo23⟩ := Kd.V_slice HO1281.out; subst eo23))
  refine bodyPost_ret (results_ct rfl _ _ gb1270 24 #[.bool t1275, .slice Ao22 t1276.length co22, .slice Ao23 t1279.length co23] (0, 0) _ rfl (by (with_reducible repeat (first | refine blk_drewN ?_ _ | refine blk_drew ?_ | refine blk_alloc ?_ _)); refine blk_put (cs := #[.bool t1275, .slice Ao22 t1276.length co22, .slice none 0 0]) ?_ 2 _ rfl; (with_reducible repeat (first | refine blk_drewN ?_ _ | refine blk_drew ?_ | refine blk_alloc ?_ _)); refine blk_put (cs := #[.bool t1275, .slice none 0 0, .slice none 0 0]) ?_ 1 _ rfl; (with_reducible repeat (first | refine blk_drewN ?_ _ | refine blk_drew ?_ | refine blk_alloc ?_ _)); refine blk_put (cs := #[.bool false, .slice none 0 0, .slice none 0 0]) ?_ 0 _ rfl; (with_reducible repeat (first | refine blk_drewN ?_ _ | refine blk_drew ?_ | refine blk_alloc ?_ _)); exact BK1270.out) Tryd.underlying24 rfl (by kernel_rfl)) rfl ?_
  exact ⟨_, _, zq9, zwV (h := by exact Kd.V_mono (zv3 gb1270 (.bool t1275) (.slice Ao22 t1276.length co22) (.slice Ao23 t1279.length co23) HO1278.out (fun _ hk => hk.2.2.2.2)) (fun _ hk => hk.1.1)), zwV (h := by exact Kd.V_mono (zv3 gb1270 (.bool t1275) (.slice Ao22 t1276.length co22) (.slice Ao23 t1279.length co23) HO1281.out (fun _ hk => hk.2.2.2.2)) (fun _ hk => hk.1.1)), zb3 GE1268.out GE1269.out GE1270.out⟩
 ·rw [if_neg c4] at H
  have c4b0 : (t1274 == 0) = false := beq_eq_false_iff_ne.mpr c4
  have c4b1 : (t1274 != 0) = true := bne_iff_ne.mpr c4
  simp only [Option.some.injEq, Prod.mk.injEq] at H
  obtain ⟨rfl, rfl, rfl, rfl⟩ := H
  go_enter Tryd.func27, Tryd.ntmps27
  go_wp2_with (first | ((with_reducible refine gate_dst (N := 2) rfl ?_); refine zbox (N := 2) (cs := #[.bool a0_0, .slice A0_1 l0_1.length c0_1, .slice A0_2 l0_2.length c0_2]) (t := 24) ?_; intro gb1268 hg w24 hbox hb; refine zt7 (ve HO0_1 hg hb) (ve HO0_2 hg hb) (ve HO1_1 hg hb) (ve HO1_2 hg hb) (below_step zq1 hb) (hbox) ((zs hg (below_size zq1) : w.heap.size ≤ gb1268)) ?_; clear HO0_1 HO0_2 HO1_1 HO1_2 HB; intro HO0_1 HO0_2 HO1_1 HO1_2 HB BK1268 GW1268; have GE1268 := GW1268; clear hb hbox hg) | ((with_reducible refine gate_dst (N := 3) rfl ?_); refine zbox (N := 3) (cs := #[.bool a1_0, .slice A1_1 l1_1.length c1_1, .slice A1_2 l1_2.length c1_2]) (t := 24) ?_; intro gb1269 hg w25 hbox hb; refine zt10 (ve HO0_1 hg hb) (ve HO0_2 hg hb) (ve HO1_1 hg hb) (ve HO1_2 hg hb) (bb BK1268.out hb) (below_step (zb1 GE1268.out) hb) (hbox) ((zs hg (below_size (zb1 GE1268.out)) : w.heap.size ≤ gb1269)) ((by rw [hg]; exact Nat.ne_of_lt (bl BK1268.out) : gb1268 ≠ gb1269)) ((by rw [hg]; exact Nat.ne_of_gt (bl BK1268.out) : gb1269 ≠ gb1268)) ?_; clear HO0_1 HO0_2 HO1_1 HO1_2 BK1268 HB; intro HO0_1 HO0_2 HO1_1 HO1_2 BK1268 HB BK1269 GW1269 NB1268_1269 NB1269_1268; have GE1269 := GW1269; clear hb hbox hg) | ((with_reducible refine gate_dst (N := 4) rfl ?_); refine zbox (N := 4) (cs := #[.bool false, .slice none 0 0, .slice none 0 0]) (t := 24) ?_; intro gb1270 hg w26 hbox hb; refine zt13 (ve HO0_1 hg hb) (ve HO0_2 hg hb) (ve HO1_1 hg hb) (ve HO1_2 hg hb) (bb BK1268.out hb) (bb BK1269.out hb) (below_step (zb2 GE1268.out GE1269.out) hb) (hbox) ((zs hg (below_size (zb2 GE1268.out GE1269.out)) : w.heap.size ≤ gb1270)) ((by rw [hg]; exact Nat.ne_of_lt (bl BK1268.out) : gb1268 ≠ gb1270)) ((by rw [hg]; exact Nat.ne_of_gt (bl BK1268.out) : gb1270 ≠ gb1268)) ((by rw [hg]; exact Nat.ne_of_lt (bl BK1269.out) : gb1269 ≠ gb1270)) ((by rw [hg]; exact Nat.ne_of_gt (bl BK1269.out) : gb1270 ≠ gb1269)) ?_; clear HO0_1 HO0_2 HO1_1 HO1_2 BK1268 BK1269 HB; intro HO0_1 HO0_2 HO1_1 HO1_2 BK1268 BK1269 HB BK1270 GW1270 NB1268_1270 NB1270_1268 NB1269_1270 NB1270_1269; have GE1270 := GW1270; clear hb hbox hg; have hnb27 := NB1268_1269.out; have hnc27 := NB1269_1268.out; have hnb28 := NB1268_1270.out; have hnc28 := NB1270_1268.out; have hcz29_0 := bc BK1268.out 0 (.bool a0_0); have hcz29_1 := bc BK1268.out 1 (.slice A0_1 l0_1.length c0_1); have hcz29_2 := bc BK1268.out 2 (.slice A0_2 l0_2.length c0_2); have hfz29_0 := blk_frozen BK1268.out 0; have hfz29_1 := blk_frozen BK1268.out 1; have hfz29_2 := blk_frozen BK1268.out 2; have hnb30 := NB1269_1270.out; have hnc30 := NB1270_1269.out; have hcz31_0 := bc BK1269.out 0 (.bool a1_0); have hcz31_1 := bc BK1269.out 1 (.slice A1_1 l1_1.length c1_1); have hcz31_2 := bc BK1269.out 2 (.slice A1_2 l1_2.length c1_2); have hfz31_0 := blk_frozen BK1269.out 0; have hfz31_1 := blk_frozen BK1269.out 1; have hfz31_2 := blk_frozen BK1269.out 2) | ((with_reducible refine gate_dst (N := 9) rfl ?_); refine Kd.N_lit k24 _ 24 ?hg (N' := 9) ?hd (xs := ([(⟨a0_0, l0_1, l0_2⟩ : S24), (⟨a1_0, l1_1, l1_2⟩ : S24)] : List (S24))) (inner := [.bool a0_0, .slice A0_1 l0_1.length c0_1, .slice A0_2 l0_2.length c0_2, .bool a1_0, .slice A1_1 l1_1.length c1_1, .slice A1_2 l1_2.length c1_2]) (ok := (fun k_ => ((P0_1_ k_ ∨ P0_2_ k_ ∨ P1_1_ k_ ∨ P1_2_ k_) ∨ w.heap.size ≤ k_) ∧ k_ ≠ gb1268 ∧ k_ ≠ gb1269 ∧ k_ ≠ gb1270)) (okp := (fun k_ => ((P0_1_ k_ ∨ P0_2_ k_ ∨ P1_1_ k_ ∨ P1_2_ k_) ∨ w.heap.size ≤ k_) ∧ k_ ≠ gb1268 ∧ k_ ≠ gb1269 ∧ k_ ≠ gb1270)) ?hr ?hp (fun _ hk => hk) ((show ∀ k_, w26.heap.size ≤ k_ → (fun k_ => ((P0_1_ k_ ∨ P0_2_ k_ ∨ P1_1_ k_ ∨ P1_2_ k_) ∨ w.heap.size ≤ k_) ∧ k_ ≠ gb1268 ∧ k_ ≠ gb1269 ∧ k_ ≠ gb1270) k_ from fun k_ hk => ⟨(.inr (Nat.le_trans (below_size (zb3 GE1268.out GE1269.out GE1270.out)) hk)), Kd.freshB (g := gb1268) (o := .cells #[.bool a0_0, .slice A0_1 l0_1.length c0_1, .slice A0_2 l0_2.length c0_2] 24 (0, 0)) (zq2 BK1268.out) k_ hk, Kd.freshB (g := gb1269) (o := .cells #[.bool a1_0, .slice A1_1 l1_1.length c1_1, .slice A1_2 l1_2.length c1_2] 24 (0, 0)) (zq2 BK1269.out) k_ hk, Kd.freshB (g := gb1270) (o := .cells #[.bool false, .slice none 0 0, .slice none 0 0] 24 (0, 0)) (zq2 BK1270.out) k_ hk⟩) _ (Nat.le_refl _)) (Below.refl _ _) (Nat.le_refl _) (by simp) ?_; (case hd => rfl); (case hg => rfl); (case hr => exact zr); (case hp => exact (Reps.c3 (show Kd.FK k24 _ _ (⟨a0_0, l0_1, l0_2⟩ : S24) [.bool a0_0, .slice A0_1 l0_1.length c0_1, .slice A0_2 l0_2.length c0_2] from (k24_mkF _ _ (⟨a0_0, l0_1, l0_2⟩ : S24) (Kd.V_reads' (Kd.V_mono (ok' := (fun k_ => ((P0_1_ k_ ∨ P0_2_ k_ ∨ P1_1_ k_ ∨ P1_2_ k_) ∨ w.heap.size ≤ k_) ∧ k_ ≠ gb1268 ∧ k_ ≠ gb1269 ∧ k_ ≠ gb1270)) (HO0_1.out) (fun k_ hk => ⟨hk.1.1.1, ⟨hk.1.1.2, ⟨hk.1.2, hk.2⟩⟩⟩))).2.1 (Kd.V_F (Kd.V_mono (ok' := (fun k_ => ((P0_1_ k_ ∨ P0_2_ k_ ∨ P1_1_ k_ ∨ P1_2_ k_) ∨ w.heap.size ≤ k_) ∧ k_ ≠ gb1268 ∧ k_ ≠ gb1269 ∧ k_ ≠ gb1270)) (HO0_1.out) (fun k_ hk => ⟨hk.1.1.1, ⟨hk.1.1.2, ⟨hk.1.2, hk.2⟩⟩⟩))) (Kd.V_reads' (Kd.V_mono (ok' := (fun k_ => ((P0_1_ k_ ∨ P0_2_ k_ ∨ P1_1_ k_ ∨ P1_2_ k_) ∨ w.heap.size ≤ k_) ∧ k_ ≠ gb1268 ∧ k_ ≠ gb1269 ∧ k_ ≠ gb1270)) (HO0_2.out) (fun k_ hk => ⟨hk.1.1.1, ⟨hk.1.1.2, ⟨hk.1.2, hk.2⟩⟩⟩))).2.1 (Kd.V_F (Kd.V_mono (ok' := (fun k_ => ((P0_1_ k_ ∨ P0_2_ k_ ∨ P1_1_ k_ ∨ P1_2_ k_) ∨ w.heap.size ≤ k_) ∧ k_ ≠ gb1268 ∧ k_ ≠ gb1269 ∧ k_ ≠ gb1270)) (HO0_2.out) (fun k_ hk => ⟨hk.1.1.1, ⟨hk.1.1.2, ⟨hk.1.2, hk.2⟩⟩⟩))))) (Reps.c3 (show Kd.FK k24 _ _ (⟨a1_0, l1_1, l1_2⟩ : S24) [.bool a1_0, .slice A1_1 l1_1.length c1_1, .slice A1_2 l1_2.length c1_2] from (k24_mkF _ _ (⟨a1_0, l1_1, l1_2⟩ : S24) (Kd.V_reads' (Kd.V_mono (ok' := (fun k_ => ((P0_1_ k_ ∨ P0_2_ k_ ∨ P1_1_ k_ ∨ P1_2_ k_) ∨ w.heap.size ≤ k_) ∧ k_ ≠ gb1268 ∧ k_ ≠ gb1269 ∧ k_ ≠ gb1270)) (HO1_1.out) (fun k_ hk => ⟨hk.1.1.1, ⟨hk.1.1.2, ⟨hk.1.2, hk.2⟩⟩⟩))).2.1 (Kd.V_F (Kd.V_mono (ok' := (fun k_ => ((P0_1_ k_ ∨ P0_2_ k_ ∨ P1_1_ k_ ∨ P1_2_ k_) ∨ w.heap.size ≤ k_) ∧ k_ ≠ gb1268 ∧ k_ ≠ gb1269 ∧ k_ ≠ gb1270)) (HO1_1.out) (fun k_ hk => ⟨hk.1.1.1, ⟨hk.1.1.2, ⟨hk.1.2, hk.2⟩⟩⟩))) (Kd.V_reads' (Kd.V_mono (ok' := (fun k_ => ((P0_1_ k_ ∨ P0_2_ k_ ∨ P1_1_ k_ ∨ P1_2_ k_) ∨ w.heap.size ≤ k_) ∧ k_ ≠ gb1268 ∧ k_ ≠ gb1269 ∧ k_ ≠ gb1270)) (HO1_2.out) (fun k_ hk => ⟨hk.1.1.1, ⟨hk.1.1.2, ⟨hk.1.2, hk.2⟩⟩⟩))).2.1 (Kd.V_F (Kd.V_mono (ok' := (fun k_ => ((P0_1_ k_ ∨ P0_2_ k_ ∨ P1_1_ k_ ∨ P1_2_ k_) ∨ w.heap.size ≤ k_) ∧ k_ ≠ gb1268 ∧ k_ ≠ gb1269 ∧ k_ ≠ gb1270)) (HO1_2.out) (fun k_ hk => ⟨hk.1.1.1, ⟨hk.1.1.2, ⟨hk.1.2, hk.2⟩⟩⟩))))) (Reps.none _ _)))); intro v1272 w32 ho33 hb hg_ hnew_; clear hg_ hnew_; (first | rw [← Ny1271.out] at ho33 | (simp only [Int.reduceToNat] at ho33; rw [← Ny1271.out] at ho33)); refine zt9 (Kd.V_elder' (zq3 HO0_1.out) (Kd.N_base ho33) hb) (Kd.V_elder' (zq3 HO0_2.out) (Kd.N_base ho33) hb) (Kd.V_elder' (zq3 HO1_1.out) (Kd.N_base ho33) hb) (Kd.V_elder' (zq3 HO1_2.out) (Kd.N_base ho33) hb) (Kd.N_lower ho33 (below_size (zb3 GE1268.out GE1269.out GE1270.out))) (bb BK1268.out hb) (bb BK1269.out hb) (bb BK1270.out hb) (below_step (zb3 GE1268.out GE1269.out GE1270.out) hb) ?_; clear HO0_1 HO0_2 HO1_1 HO1_2 BK1268 BK1269 BK1270 HB; intro HO0_1 HO0_2 HO1_1 HO1_2 HO1273 BK1268 BK1269 BK1270 HB; clear hb ho33; obtain ⟨Ao34, co34, eo34⟩ := Kd.N_slice HO1273.out; subst eo34) | ((with_reducible refine gate_callee (f := 61) rfl ?_); refine goesL_ (some 10) rfl rfl Tryd.func61 (by kernel_rfl) rfl #[.slice Ao34 y1271.length co34] rfl zq5 ?_; (with_reducible refine (number_check.calls k _ _ y1271 t1274 _ ?side1 ?side2 A3.out).mono ?_); (case side1 => exact zc ((Kd.N_reads' HO1273.out).2.2)); (case side2 => exact (Kd.N_reads' HO1273.out).2.1); rintro e w35 ⟨rfl, hb⟩; refine ⟨_, rfl, ?_⟩; refine zt9 (vb HO0_1 hb) (vb HO0_2 hb) (vb HO1_1 hb) (vb HO1_2 hb) (Kd.N_below (by (with_reducible repeat (first | apply Kd.N_alloc | apply Kd.N_drewN | apply Kd.N_drew)); exact HO1273.out) hb) (bb BK1268.out hb) (bb BK1269.out hb) (bb BK1270.out hb) (below_step (zb3 GE1268.out GE1269.out GE1270.out) hb) ?_; clear HO0_1 HO0_2 HO1_1 HO1_2 HO1273 BK1268 BK1269 BK1270 HB; intro HO0_1 HO0_2 HO1_1 HO1_2 HO1273 BK1268 BK1269 BK1270 HB; (try clear hb); (try clear hb2); (try clear hk); (try clear hi); have hcz36_0 := bc BK1270.out 0 (.bool false); have hcz36_1 := bc BK1270.out 1 (.slice none 0 0); have hcz36_2 := bc BK1270.out 2 (.slice none 0 0); have hfz36_0 := blk_frozen BK1270.out 0; have hfz36_1 := blk_frozen BK1270.out 1; have hfz36_2 := blk_frozen BK1270.out 2))
  refine bodyPost_ret (results_ct rfl _ _ gb1270 24 #[.bool false, .slice none 0 0, .slice none 0 0] (0, 0) _ rfl (by (with_reducible repeat (first | refine blk_drewN ?_ _ | refine blk_drew ?_ | refine blk_alloc ?_ _)); refine blk_put (cs := #[.bool false, .slice none 0 0, .slice none 0 0]) ?_ 2 _ rfl; (with_reducible repeat (first | refine blk_drewN ?_ _ | refine blk_drew ?_ | refine blk_alloc ?_ _)); refine blk_put (cs := #[.bool false, .slice none 0 0, .slice none 0 0]) ?_ 1 _ rfl; (with_reducible repeat (first | refine blk_drewN ?_ _ | refine blk_drew ?_ | refine blk_alloc ?_ _)); refine blk_put (cs := #[.bool false, .slice none 0 0, .slice none 0 0]) ?_ 0 _ rfl; (with_reducible repeat (first | refine blk_drewN ?_ _ | refine blk_drew ?_ | refine blk_alloc ?_ _)); exact BK1270.out) Tryd.underlying24 rfl (by kernel_rfl)) rfl ?_
  exact ⟨_, _, zq9, Kd.V_mono (Kd.V_nil _ _ _ _ _) (fun k_ hk => by first | exact ⟨(.inr (hk.1)), hk.2⟩ | exact (.inr (hk))), Kd.V_mono (Kd.V_nil _ _ _ _ _) (fun k_ hk => by first | exact ⟨(.inr (hk.1)), hk.2⟩ | exact (.inr (hk))), zb3 GE1268.out GE1269.out GE1270.out⟩
def number_Mul.f (k : Nat) (a0_0 : Bool) (l0_1 : List Int) (l0_2 : List Int) (a1_0 : Bool) (l1_1 : List Int) (l1_2 : List Int) : Option (Bool × List Int × List Int × Int) := (number_check.f k (([(⟨a0_0, l0_1, l0_2⟩ : S24), (⟨a1_0, l1_1, l1_2⟩ : S24)] : List (S24)))).bind fun t1289 => (if t1289 = 0 then ((nat_Mul.f k l0_1 l1_1).bind fun t1290 => ((nat_Mul.f k l0_2 l1_2).bind fun t1293 => ((number_made.f k (a0_0 != a1_0) t1290 t1293).bind fun bt1296 => (some (bt1296.1, bt1296.2.1, bt1296.2.2.1, bt1296.2.2.2))))) else (some (false, ([] : List Int), ([] : List Int), t1289)))
theorem number_Mul.mono : ∀ a0 a1 a2 a3 a4 a5 k, LeO (number_Mul.f k a0 a1 a2 a3 a4 a5) (number_Mul.f (k + 1) a0 a1 a2 a3 a4 a5) := by
 intro a0 a1 a2 a3 a4 a5 k
 unfold number_Mul.f
 have m0 := @nat_Mul.mono
 have m1 := @number_check.mono
 have m2 := @number_made.mono
 exact zm
def number_Mul.T4 : Bool × List (List Nat × List Nat) := (true, [([], []), ([0], [0]), ([], []), ([2], [2]), ([1, 3], [1, 3]), ([], []), ([5], [5]), ([], []), ([7], [7]), ([6, 8], [6, 8]), ([], []), ([10], [10]), ([], []), ([12], [12]), ([11, 13, 9], [11, 13]), ([4, 9, 14, 14], [4, 9, 14]), ([15], [15]), ([15], [15]), ([16, 15, 0, 1, 2, 3, 4, 5, 6, 7, 8, 9, 10, 11, 12, 13, 14, 15, 16, 17], [16]), ([17, 18, 0, 1, 2, 3, 4, 5, 6, 7, 8, 9, 10, 11, 12, 13, 14, 15, 16, 17, 18], [17])])
def number_Mul.B4 : List Nat := [0, 1, 0, 4, 15, 0, 32, 0, 128, 480, 0, 1024, 0, 4096, 16352, 32767, 65535, 65535, 262143, 524287]
theorem number_Mul.tab4 : rtab .any (opsOf Tryd.f28 4) = number_Mul.T4 := by kernel_rfl
theorem number_Mul.bits4 : waitsOk number_Mul.T4.2 number_Mul.B4 = true := by kernel_rfl
set_option maxHeartbeats 8000000 in
set_option maxRecDepth 100000 in
theorem number_Mul.calls (k : Nat) (a0_0 : Bool) (P0_1_ : Nat → Prop) (A0_1 : Option Addr) (c0_1 : Nat) (l0_1 : List Int) (P0_2_ : Nat → Prop) (A0_2 : Option Addr) (c0_2 : Nat) (l0_2 : List Int) (a1_0 : Bool) (P1_1_ : Nat → Prop) (A1_1 : Option Addr) (c1_1 : Nat) (l1_1 : List Int) (P1_2_ : Nat → Prop) (A1_2 : Option Addr) (c1_2 : Nat) (l1_2 : List Int) (r1 : Bool) (r2 : List Int) (r3 : List Int) (r4 : Int) (w : World) (hs0_1 : Kd.V (Kd.int .u32) 55 w w.heap.size (fun k_ => P0_1_ k_) (.slice A0_1 l0_1.length c0_1) l0_1) (hs0_2 : Kd.V (Kd.int .u32) 55 w w.heap.size (fun k_ => P0_2_ k_) (.slice A0_2 l0_2.length c0_2) l0_2) (hs1_1 : Kd.V (Kd.int .u32) 55 w w.heap.size (fun k_ => P1_1_ k_) (.slice A1_1 l1_1.length c1_1) l1_1) (hs1_2 : Kd.V (Kd.int .u32) 55 w w.heap.size (fun k_ => P1_2_ k_) (.slice A1_2 l1_2.length c1_2) l1_2) (h : number_Mul.f k a0_0 l0_1 l0_2 a1_0 l1_1 l1_2 = some (r1, r2, r3, r4)) :
  Calls Tryd.prog 28 #[.agg #[.bool a0_0, .slice A0_1 l0_1.length c0_1, .slice A0_2 l0_2.length c0_2], .agg #[.bool a1_0, .slice A1_1 l1_1.length c1_1, .slice A1_2 l1_2.length c1_2]] w fun e w' => ∃ v1_ v2_ : Value, e = .returned (.tuple #[.agg #[.bool r1, v1_, v2_], .int .i64 r4]) ∧ Kd.V (Kd.int .u32) 55 w' w.heap.size (fun k_ => ((P0_1_ k_ ∨ P0_2_ k_ ∨ P1_1_ k_ ∨ P1_2_ k_) ∨ w.heap.size ≤ k_)) v1_ r2 ∧ Kd.V (Kd.int .u32) 55 w' w.heap.size (fun k_ => ((P0_1_ k_ ∨ P0_2_ k_ ∨ P1_1_ k_ ∨ P1_2_ k_) ∨ w.heap.size ≤ k_)) v2_ r3 ∧ Below w.heap.size w w' := by
 have hu24 := Tryd.underlying24
 have HO0_1 := am (show Kd.V (Kd.int .u32) 55 w w.heap.size (fun k_ => ((P0_1_ k_ ∨ P0_2_ k_ ∨ P1_1_ k_ ∨ P1_2_ k_) ∨ w.heap.size ≤ k_)) (.slice A0_1 l0_1.length c0_1) l0_1 from Kd.V_mono hs0_1 (fun k_ hk => .inl (.inl hk)))
 have HO0_2 := am (show Kd.V (Kd.int .u32) 55 w w.heap.size (fun k_ => ((P0_1_ k_ ∨ P0_2_ k_ ∨ P1_1_ k_ ∨ P1_2_ k_) ∨ w.heap.size ≤ k_)) (.slice A0_2 l0_2.length c0_2) l0_2 from Kd.V_mono hs0_2 (fun k_ hk => .inl (.inr (.inl hk))))
 have HO1_1 := am (show Kd.V (Kd.int .u32) 55 w w.heap.size (fun k_ => ((P0_1_ k_ ∨ P0_2_ k_ ∨ P1_1_ k_ ∨ P1_2_ k_) ∨ w.heap.size ≤ k_)) (.slice A1_1 l1_1.length c1_1) l1_1 from Kd.V_mono hs1_1 (fun k_ hk => .inl (.inr (.inr (.inl hk)))))
 have HO1_2 := am (show Kd.V (Kd.int .u32) 55 w w.heap.size (fun k_ => ((P0_1_ k_ ∨ P0_2_ k_ ∨ P1_1_ k_ ∨ P1_2_ k_) ∨ w.heap.size ≤ k_)) (.slice A1_2 l1_2.length c1_2) l1_2 from Kd.V_mono hs1_2 (fun k_ hk => .inl (.inr (.inr (.inr hk)))))
 have HB := am (Below.refl w.heap.size w)
 have H := h
 unfold number_Mul.f at H
 clear h
 obtain ⟨y1286, hy1286⟩ : ∃ y_ : List (S24), y_ = (([(⟨a0_0, l0_1, l0_2⟩ : S24), (⟨a1_0, l1_1, l1_2⟩ : S24)] : List (S24))) := ⟨_, rfl⟩
 try rw [← hy1286] at H
 have Ny1286 := am hy1286
 clear hy1286
 replace H := zj H
 obtain ⟨t1289, A3, H⟩ := H
 by_cases c4 : t1289 = 0
 ·rw [if_pos c4] at H
  have c4b0 : (t1289 == 0) = true := beq_iff_eq.mpr c4
  have c4b1 : (t1289 != 0) = false := bne_eq_false_iff_eq.mpr c4
  clear c4
  replace H := zj H
  obtain ⟨t1290, A5, H⟩ := H
  replace H := zj H
  obtain ⟨t1293, A6, H⟩ := H
  replace H := zj H
  obtain ⟨⟨t1296, t1297, t1300, t1303⟩, A7, H⟩ := H
  try dsimp only at H
  simp only [Option.some.injEq, Prod.mk.injEq] at H
  obtain ⟨rfl, rfl, rfl, rfl⟩ := H
  go_enter Tryd.func28, Tryd.ntmps28
  try go_wp2_with (first | ((with_reducible refine gate_dst (N := 2) rfl ?_); refine zbox (N := 2) (cs := #[.bool a0_0, .slice A0_1 l0_1.length c0_1, .slice A0_2 l0_2.length c0_2]) (t := 24) ?_; intro gb1283 hg w8 hbox hb; refine zt7 (ve HO0_1 hg hb) (ve HO0_2 hg hb) (ve HO1_1 hg hb) (ve HO1_2 hg hb) (below_step zq1 hb) (hbox) ((zs hg (below_size zq1) : w.heap.size ≤ gb1283)) ?_; clear HO0_1 HO0_2 HO1_1 HO1_2 HB; intro HO0_1 HO0_2 HO1_1 HO1_2 HB BK1283 GW1283; have GE1283 := GW1283; clear hb hbox hg) | ((with_reducible refine gate_dst (N := 3) rfl ?_); refine zbox (N := 3) (cs := #[.bool a1_0, .slice A1_1 l1_1.length c1_1, .slice A1_2 l1_2.length c1_2]) (t := 24) ?_; intro gb1284 hg w9 hbox hb; refine zt10 (ve HO0_1 hg hb) (ve HO0_2 hg hb) (ve HO1_1 hg hb) (ve HO1_2 hg hb) (bb BK1283.out hb) (below_step (zb1 GE1283.out) hb) (hbox) ((zs hg (below_size (zb1 GE1283.out)) : w.heap.size ≤ gb1284)) ((by rw [hg]; exact Nat.ne_of_lt (bl BK1283.out) : gb1283 ≠ gb1284)) ((by rw [hg]; exact Nat.ne_of_gt (bl BK1283.out) : gb1284 ≠ gb1283)) ?_; clear HO0_1 HO0_2 HO1_1 HO1_2 BK1283 HB; intro HO0_1 HO0_2 HO1_1 HO1_2 BK1283 HB BK1284 GW1284 NB1283_1284 NB1284_1283; have GE1284 := GW1284; clear hb hbox hg) | ((with_reducible refine gate_dst (N := 4) rfl ?_); refine zbox (N := 4) (cs := #[.bool false, .slice none 0 0, .slice none 0 0]) (t := 24) ?_; intro gb1285 hg w10 hbox hb; refine zt13 (ve HO0_1 hg hb) (ve HO0_2 hg hb) (ve HO1_1 hg hb) (ve HO1_2 hg hb) (bb BK1283.out hb) (bb BK1284.out hb) (below_step (zb2 GE1283.out GE1284.out) hb) (hbox) ((zs hg (below_size (zb2 GE1283.out GE1284.out)) : w.heap.size ≤ gb1285)) ((by rw [hg]; exact Nat.ne_of_lt (bl BK1283.out) : gb1283 ≠ gb1285)) ((by rw [hg]; exact Nat.ne_of_gt (bl BK1283.out) : gb1285 ≠ gb1283)) ((by rw [hg]; exact Nat.ne_of_lt (bl BK1284.out) : gb1284 ≠ gb1285)) ((by rw [hg]; exact Nat.ne_of_gt (bl BK1284.out) : gb1285 ≠ gb1284)) ?_; clear HO0_1 HO0_2 HO1_1 HO1_2 BK1283 BK1284 HB; intro HO0_1 HO0_2 HO1_1 HO1_2 BK1283 BK1284 HB BK1285 GW1285 NB1283_1285 NB1285_1283 NB1284_1285 NB1285_1284; have GE1285 := GW1285; clear hb hbox hg; have hnb11 := NB1283_1284.out; have hnc11 := NB1284_1283.out; have hnb12 := NB1283_1285.out; have hnc12 := NB1285_1283.out; have hcz13_0 := bc BK1283.out 0 (.bool a0_0); have hcz13_1 := bc BK1283.out 1 (.slice A0_1 l0_1.length c0_1); have hcz13_2 := bc BK1283.out 2 (.slice A0_2 l0_2.length c0_2); have hfz13_0 := blk_frozen BK1283.out 0; have hfz13_1 := blk_frozen BK1283.out 1; have hfz13_2 := blk_frozen BK1283.out 2; have hnb14 := NB1284_1285.out; have hnc14 := NB1285_1284.out; have hcz15_0 := bc BK1284.out 0 (.bool a1_0); have hcz15_1 := bc BK1284.out 1 (.slice A1_1 l1_1.length c1_1); have hcz15_2 := bc BK1284.out 2 (.slice A1_2 l1_2.length c1_2); have hfz15_0 := blk_frozen BK1284.out 0; have hfz15_1 := blk_frozen BK1284.out 1; have hfz15_2 := blk_frozen BK1284.out 2) | ((with_reducible refine gate_dst (N := 9) rfl ?_); refine Kd.N_lit k24 _ 24 ?hg (N' := 9) ?hd (xs := ([(⟨a0_0, l0_1, l0_2⟩ : S24), (⟨a1_0, l1_1, l1_2⟩ : S24)] : List (S24))) (inner := [.bool a0_0, .slice A0_1 l0_1.length c0_1, .slice A0_2 l0_2.length c0_2, .bool a1_0, .slice A1_1 l1_1.length c1_1, .slice A1_2 l1_2.length c1_2]) (ok := (fun k_ => ((P0_1_ k_ ∨ P0_2_ k_ ∨ P1_1_ k_ ∨ P1_2_ k_) ∨ w.heap.size ≤ k_) ∧ k_ ≠ gb1283 ∧ k_ ≠ gb1284 ∧ k_ ≠ gb1285)) (okp := (fun k_ => ((P0_1_ k_ ∨ P0_2_ k_ ∨ P1_1_ k_ ∨ P1_2_ k_) ∨ w.heap.size ≤ k_) ∧ k_ ≠ gb1283 ∧ k_ ≠ gb1284 ∧ k_ ≠ gb1285)) ?hr ?hp (fun _ hk => hk) ((show ∀ k_, w10.heap.size ≤ k_ → (fun k_ => ((P0_1_ k_ ∨ P0_2_ k_ ∨ P1_1_ k_ ∨ P1_2_ k_) ∨ w.heap.size ≤ k_) ∧ k_ ≠ gb1283 ∧ k_ ≠ gb1284 ∧ k_ ≠ gb1285) k_ from fun k_ hk => ⟨(.inr (Nat.le_trans (below_size (zb3 GE1283.out GE1284.out GE1285.out)) hk)), Kd.freshB (g := gb1283) (o := .cells #[.bool a0_0, .slice A0_1 l0_1.length c0_1, .slice A0_2 l0_2.length c0_2] 24 (0, 0)) (zq2 BK1283.out) k_ hk, Kd.freshB (g := gb1284) (o := .cells #[.bool a1_0, .slice A1_1 l1_1.length c1_1, .slice A1_2 l1_2.length c1_2] 24 (0, 0)) (zq2 BK1284.out) k_ hk, Kd.freshB (g := gb1285) (o := .cells #[.bool false, .slice none 0 0, .slice none 0 0] 24 (0, 0)) (zq2 BK1285.out) k_ hk⟩) _ (Nat.le_refl _)) (Below.refl _ _) (Nat.le_refl _) (by simp) ?_; (case hd => rfl); (case hg => rfl); (case hr => exact zr); (case hp => exact (Reps.c3 (show Kd.FK k24 _ _ (⟨a0_0, l0_1, l0_2⟩ : S24) [.bool a0_0, .slice A0_1 l0_1.length c0_1, .slice A0_2 l0_2.length c0_2] from (k24_mkF _ _ (⟨a0_0, l0_1, l0_2⟩ : S24) (Kd.V_reads' (Kd.V_mono (ok' := (fun k_ => ((P0_1_ k_ ∨ P0_2_ k_ ∨ P1_1_ k_ ∨ P1_2_ k_) ∨ w.heap.size ≤ k_) ∧ k_ ≠ gb1283 ∧ k_ ≠ gb1284 ∧ k_ ≠ gb1285)) (HO0_1.out) (fun k_ hk => ⟨hk.1.1.1, ⟨hk.1.1.2, ⟨hk.1.2, hk.2⟩⟩⟩))).2.1 (Kd.V_F (Kd.V_mono (ok' := (fun k_ => ((P0_1_ k_ ∨ P0_2_ k_ ∨ P1_1_ k_ ∨ P1_2_ k_) ∨ w.heap.size ≤ k_) ∧ k_ ≠ gb1283 ∧ k_ ≠ gb1284 ∧ k_ ≠ gb1285)) (HO0_1.out) (fun k_ hk => ⟨hk.1.1.1, ⟨hk.1.1.2, ⟨hk.1.2, hk.2⟩⟩⟩))) (Kd.V_reads' (Kd.V_mono (ok' := (fun k_ => ((P0_1_ k_ ∨ P0_2_ k_ ∨ P1_1_ k_ ∨ P1_2_ k_) ∨ w.heap.size ≤ k_) ∧ k_ ≠ gb1283 ∧ k_ ≠ gb1284 ∧ k_ ≠ gb1285)) (HO0_2.out) (fun k_ hk => ⟨hk.1.1.1, ⟨hk.1.1.2, ⟨hk.1.2, hk.2⟩⟩⟩))).2.1 (Kd.V_F (Kd.V_mono (ok' := (fun k_ => ((P0_1_ k_ ∨ P0_2_ k_ ∨ P1_1_ k_ ∨ P1_2_ k_) ∨ w.heap.size ≤ k_) ∧ k_ ≠ gb1283 ∧ k_ ≠ gb1284 ∧ k_ ≠ gb1285)) (HO0_2.out) (fun k_ hk => ⟨hk.1.1.1, ⟨hk.1.1.2, ⟨hk.1.2, hk.2⟩⟩⟩))))) (Reps.c3 (show Kd.FK k24 _ _ (⟨a1_0, l1_1, l1_2⟩ : S24) [.bool a1_0, .slice A1_1 l1_1.length c1_1, .slice A1_2 l1_2.length c1_2] from (k24_mkF _ _ (⟨a1_0, l1_1, l1_2⟩ : S24) (Kd.V_reads' (Kd.V_mono (ok' := (fun k_ => ((P0_1_ k_ ∨ P0_2_ k_ ∨ P1_1_ k_ ∨ P1_2_ k_) ∨ w.heap.size ≤ k_) ∧ k_ ≠ gb1283 ∧ k_ ≠ gb1284 ∧ k_ ≠ gb1285)) (HO1_1.out) (fun k_ hk => ⟨hk.1.1.1, ⟨hk.1.1.2, ⟨hk.1.2, hk.2⟩⟩⟩))).2.1 (Kd.V_F (Kd.V_mono (ok' := (fun k_ => ((P0_1_ k_ ∨ P0_2_ k_ ∨ P1_1_ k_ ∨ P1_2_ k_) ∨ w.heap.size ≤ k_) ∧ k_ ≠ gb1283 ∧ k_ ≠ gb1284 ∧ k_ ≠ gb1285)) (HO1_1.out) (fun k_ hk => ⟨hk.1.1.1, ⟨hk.1.1.2, ⟨hk.1.2, hk.2⟩⟩⟩))) (Kd.V_reads' (Kd.V_mono (ok' := (fun k_ => ((P0_1_ k_ ∨ P0_2_ k_ ∨ P1_1_ k_ ∨ P1_2_ k_) ∨ w.heap.size ≤ k_) ∧ k_ ≠ gb1283 ∧ k_ ≠ gb1284 ∧ k_ ≠ gb1285)) (HO1_2.out) (fun k_ hk => ⟨hk.1.1.1, ⟨hk.1.1.2, ⟨hk.1.2, hk.2⟩⟩⟩))).2.1 (Kd.V_F (Kd.V_mono (ok' := (fun k_ => ((P0_1_ k_ ∨ P0_2_ k_ ∨ P1_1_ k_ ∨ P1_2_ k_) ∨ w.heap.size ≤ k_) ∧ k_ ≠ gb1283 ∧ k_ ≠ gb1284 ∧ k_ ≠ gb1285)) (HO1_2.out) (fun k_ hk => ⟨hk.1.1.1, ⟨hk.1.1.2, ⟨hk.1.2, hk.2⟩⟩⟩))))) (Reps.none _ _)))); intro v1287 w16 ho17 hb hg_ hnew_; clear hg_ hnew_; (first | rw [← Ny1286.out] at ho17 | (simp only [Int.reduceToNat] at ho17; rw [← Ny1286.out] at ho17)); refine zt9 (Kd.V_elder' (zq3 HO0_1.out) (Kd.N_base ho17) hb) (Kd.V_elder' (zq3 HO0_2.out) (Kd.N_base ho17) hb) (Kd.V_elder' (zq3 HO1_1.out) (Kd.N_base ho17) hb) (Kd.V_elder' (zq3 HO1_2.out) (Kd.N_base ho17) hb) (Kd.N_lower ho17 (below_size (zb3 GE1283.out GE1284.out GE1285.out))) (bb BK1283.out hb) (bb BK1284.out hb) (bb BK1285.out hb) (below_step (zb3 GE1283.out GE1284.out GE1285.out) hb) ?_; clear HO0_1 HO0_2 HO1_1 HO1_2 BK1283 BK1284 BK1285 HB; intro HO0_1 HO0_2 HO1_1 HO1_2 HO1288 BK1283 BK1284 BK1285 HB; clear hb ho17; obtain ⟨Ao18, co18, eo18⟩ := Kd.N_slice HO1288.out; subst eo18) | ((with_reducible refine gate_callee (f := 61) rfl ?_); refine goesL_ (some 10) rfl rfl Tryd.func61 (by kernel_rfl) rfl #[.slice Ao18 y1286.length co18] rfl zq5 ?_; (with_reducible refine (number_check.calls k _ _ y1286 t1289 _ ?side1 ?side2 A3.out).mono ?_); (case side1 => exact zc ((Kd.N_reads' HO1288.out).2.2)); (case side2 => exact (Kd.N_reads' HO1288.out).2.1); rintro e w19 ⟨rfl, hb⟩; refine ⟨_, rfl, ?_⟩; refine zt9 (vb HO0_1 hb) (vb HO0_2 hb) (vb HO1_1 hb) (vb HO1_2 hb) (Kd.N_below (by (with_reducible repeat (first | apply Kd.N_alloc | apply Kd.N_drewN | apply Kd.N_drew)); exact HO1288.out) hb) (bb BK1283.out hb) (bb BK1284.out hb) (bb BK1285.out hb) (below_step (zb3 GE1283.out GE1284.out GE1285.out) hb) ?_; clear HO0_1 HO0_2 HO1_1 HO1_2 HO1288 BK1283 BK1284 BK1285 HB; intro HO0_1 HO0_2 HO1_1 HO1_2 HO1288 BK1283 BK1284 BK1285 HB; (try clear hb); (try clear hb2); (try clear hk); (try clear hi)))
  refine zt9 (Kd.V_drew HO0_1.out) (Kd.V_drew HO0_2.out) (Kd.V_drew HO1_1.out) (Kd.V_drew HO1_2.out) (Kd.N_drew HO1288.out) (blk_drew BK1283.out) (blk_drew BK1284.out) (blk_drew BK1285.out) (below_drew1 HB.out) ?_
  clear HO0_1 HO0_2 HO1_1 HO1_2 HO1288 BK1283 BK1284 BK1285 HB
  intro HO0_1 HO0_2 HO1_1 HO1_2 HO1288 BK1283 BK1284 BK1285 HB
  refine start_ (n := 20) (S := fun w' => w'.cell? ⟨gb1283, 0, none⟩ = some (.bool a0_0) ∧ w'.cell? ⟨gb1283, 1, none⟩ = some (.slice A0_1 l0_1.length c0_1) ∧ w'.cell? ⟨gb1283, 2, none⟩ = some (.slice A0_2 l0_2.length c0_2) ∧ w'.cell? ⟨gb1284, 0, none⟩ = some (.bool a1_0) ∧ w'.cell? ⟨gb1284, 1, none⟩ = some (.slice A1_1 l1_1.length c1_1) ∧ w'.cell? ⟨gb1284, 2, none⟩ = some (.slice A1_2 l1_2.length c1_2)) (ds := []) #[false, false, false, false, false, false, false, false, false, false, false, false, false, false, false, false, false, false, false, false] (by kernel_rfl) rfl rfl ⟨(blk_cell BK1283.out 0).trans rfl, (blk_cell BK1283.out 1).trans rfl, (blk_cell BK1283.out 2).trans rfl, (blk_cell BK1284.out 0).trans rfl, (blk_cell BK1284.out 1).trans rfl, (blk_cell BK1284.out 2).trans rfl⟩ (fun hHeld => ?_); refine with_tabW number_Mul.tab4 number_Mul.bits4 (fun HT_ HW_ => ?_)
  generalize w19.drew = w20 at HO0_1 HO0_2 HO1_1 HO1_2 HO1288 BK1283 BK1284 BK1285 HB hHeld ⊢
  refine pz_ (i := 0) (N := some 15) (zmt 20 [0]) ?_
  refine pz_ (i := 2) (N := some 17) (zmt 20 [0, 2]) ?_
  refine pz_ (i := 5) (N := some 20) (zmt 20 [0, 2, 5]) ?_
  refine pz_ (i := 7) (N := some 22) (zmt 20 [0, 2, 5, 7]) ?_
  refine pz_ (i := 10) (N := some 25) (zmt 20 [0, 2, 5, 7, 10]) ?_
  refine pz_ (i := 12) (N := some 27) (zmt 20 [0, 2, 5, 7, 10, 12]) ?_
  refine take_ (i := 1) (N := some 16) (v := ?_) (a' := ?_) #[true, true, true, false, false, true, false, true, false, false, true, false, true, false, false, false, false, false, false, false] rfl rfl (take_ofW HT_.out HW_.out (by kernel_rfl)) (fun _ _ _ h => h) (Or.inl ⟨by rfl, ?_⟩) hHeld ?_ ?_
  rotate_left
  ·rintro w' ⟨s0, s1, s2, s3, s4, s5⟩
   go_simp
   with_reducible rfl
  rotate_left
  ·simp only [Act.put, List.setIfInBounds_toArray, List.set_cons_zero, List.set_cons_succ, i64_w, i32_w]
   rfl
  refine take_ (i := 3) (N := some 18) (v := ?_) (a' := ?_) #[true, true, true, true, false, true, false, true, false, false, true, false, true, false, false, false, false, false, false, false] rfl rfl (take_ofW HT_.out HW_.out (by kernel_rfl)) (fun _ _ _ h => h) (Or.inl ⟨by rfl, ?_⟩) hHeld ?_ ?_
  rotate_left
  ·rintro w' ⟨s0, s1, s2, s3, s4, s5⟩
   go_simp
   with_reducible rfl
  rotate_left
  ·simp only [Act.put, List.setIfInBounds_toArray, List.set_cons_zero, List.set_cons_succ, i64_w, i32_w]
   rfl
  refine pz_ (i := 4) (N := some 19) (zmt 20 [0, 1, 2, 3, 4, 5, 7, 10, 12]) ?_
  refine take_ (i := 6) (N := some 21) (v := ?_) (a' := ?_) #[true, true, true, true, true, true, true, true, false, false, true, false, true, false, false, false, false, false, false, false] rfl rfl (take_ofW HT_.out HW_.out (by kernel_rfl)) (fun _ _ _ h => h) (Or.inl ⟨by rfl, ?_⟩) hHeld ?_ ?_
  rotate_left
  ·rintro w' ⟨s0, s1, s2, s3, s4, s5⟩
   go_simp
   with_reducible rfl
  rotate_left
  ·simp only [Act.put, List.setIfInBounds_toArray, List.set_cons_zero, List.set_cons_succ, i64_w, i32_w]
   rfl
  refine take_ (i := 8) (N := some 23) (v := ?_) (a' := ?_) #[true, true, true, true, true, true, true, true, true, false, true, false, true, false, false, false, false, false, false, false] rfl rfl (take_ofW HT_.out HW_.out (by kernel_rfl)) (fun _ _ _ h => h) (Or.inl ⟨by rfl, ?_⟩) hHeld ?_ ?_
  rotate_left
  ·rintro w' ⟨s0, s1, s2, s3, s4, s5⟩
   go_simp
   with_reducible rfl
  rotate_left
  ·simp only [Act.put, List.setIfInBounds_toArray, List.set_cons_zero, List.set_cons_succ, i64_w, i32_w]
   rfl
  refine take_ (i := 11) (N := some 26) (v := ?_) (a' := ?_) #[true, true, true, true, true, true, true, true, true, false, true, true, true, false, false, false, false, false, false, false] rfl rfl (take_ofW HT_.out HW_.out (by kernel_rfl)) (fun _ _ _ h => h) (Or.inl ⟨by rfl, ?_⟩) hHeld ?_ ?_
  rotate_left
  ·rintro w' ⟨s0, s1, s2, s3, s4, s5⟩
   go_simp
   with_reducible rfl
  rotate_left
  ·simp only [Act.put, List.setIfInBounds_toArray, List.set_cons_zero, List.set_cons_succ, i64_w, i32_w]
   rfl
  refine take_ (i := 13) (N := some 28) (v := ?_) (a' := ?_) #[true, true, true, true, true, true, true, true, true, false, true, true, true, true, false, false, false, false, false, false] rfl rfl (take_ofW HT_.out HW_.out (by kernel_rfl)) (fun _ _ _ h => h) (Or.inl ⟨by rfl, ?_⟩) hHeld ?_ ?_
  rotate_left
  ·rintro w' ⟨s0, s1, s2, s3, s4, s5⟩
   go_simp
   with_reducible rfl
  rotate_left
  ·simp only [Act.put, List.setIfInBounds_toArray, List.set_cons_zero, List.set_cons_succ, i64_w, i32_w]
   rfl
  refine one_ (i := 9) (N := some 24) (zmf 20 [14, 15, 16, 17, 18, 19]) rfl rfl (one_of HT_.out (by kernel_rfl)) (by decide) (fun K hK => ?_)
  refine goes_ Tryd.func77 (by kernel_rfl) rfl #[.slice A0_1 l0_1.length c0_1, .slice A1_1 l1_1.length c1_1] (by rfl) rfl rfl zq5 ?_
  with_reducible refine (nat_Mul.calls k _ _ l0_1 _ _ l1_1 t1290 _ ?side1 ?side2 ?side3 ?side4 A5.out).mono ?_
  (case side1 => exact zc ((Kd.V_reads' HO0_1.out).2.2))
  (case side2 => exact (Kd.V_reads' HO0_1.out).2.1)
  (case side3 => exact zc ((Kd.V_reads' HO1_1.out).2.2))
  (case side4 => exact (Kd.V_reads' HO1_1.out).2.1)
  rintro e w21 ⟨v1291, rfl, ho0, hb⟩
  refine ⟨_, rfl, ?_⟩
  refine zt10 (vb HO0_1 hb) (vb HO0_2 hb) (vb HO1_1 hb) (vb HO1_2 hb) (Kd.N_below (by (with_reducible repeat (first | apply Kd.N_alloc | apply Kd.N_drewN | apply Kd.N_drew)); exact HO1288.out) hb) (Kd.V_lower (Kd.V_mono (ok' := fun k_ => ((P0_1_ k_ ∨ P0_2_ k_ ∨ P1_1_ k_ ∨ P1_2_ k_) ∨ w.heap.size ≤ k_) ∧ some k_ ≠ (.slice Ao18 y1286.length co18 : Value).ownBlock ∧ k_ ≠ gb1283 ∧ k_ ≠ gb1284 ∧ k_ ≠ gb1285) ho0 (fun k_ hk_ => ⟨(.inr (Nat.le_trans (below_size (zb3 GE1283.out GE1284.out GE1285.out)) hk_)), (Kd.fresh' (Kd.N_lt (by (with_reducible repeat (first | apply Kd.N_alloc | apply Kd.N_drewN | apply Kd.N_drew)); exact HO1288.out)) k_ hk_), (Kd.freshB (g := gb1283) (o := .cells #[.bool a0_0, .slice A0_1 l0_1.length c0_1, .slice A0_2 l0_2.length c0_2] 24 (0, 0)) (zq2 BK1283.out) k_ hk_), (Kd.freshB (g := gb1284) (o := .cells #[.bool a1_0, .slice A1_1 l1_1.length c1_1, .slice A1_2 l1_2.length c1_2] 24 (0, 0)) (zq2 BK1284.out) k_ hk_), (Kd.freshB (g := gb1285) (o := .cells #[.bool false, .slice none 0 0, .slice none 0 0] 24 (0, 0)) (zq2 BK1285.out) k_ hk_)⟩)) (below_size (zb3 GE1283.out GE1284.out GE1285.out))) (bb BK1283.out hb) (bb BK1284.out hb) (bb BK1285.out hb) (below_step (zb3 GE1283.out GE1284.out GE1285.out) hb) ?_
  clear HO0_1 HO0_2 HO1_1 HO1_2 HO1288 BK1283 BK1284 BK1285 HB
  intro HO0_1 HO0_2 HO1_1 HO1_2 HO1288 HO1292 BK1283 BK1284 BK1285 HB
  refine hK.out _ _ ⟨(blk_cell BK1283.out 0).trans rfl, (blk_cell BK1283.out 1).trans rfl, (blk_cell BK1283.out 2).trans rfl, (blk_cell BK1284.out 0).trans rfl, (blk_cell BK1284.out 1).trans rfl, (blk_cell BK1284.out 2).trans rfl⟩ (fun hHeld => ?_)
  clear hK K
  refine nz_ (N := (some 24)) ?_
  refine one_ (i := 14) (N := some 29) (zmf 20 [15, 16, 17, 18, 19]) rfl rfl (one_of HT_.out (by kernel_rfl)) (by decide) (fun K hK => ?_)
  refine goes_ Tryd.func77 (by kernel_rfl) rfl #[.slice A0_2 l0_2.length c0_2, .slice A1_2 l1_2.length c1_2] (by rfl) rfl rfl zq5 ?_
  with_reducible refine (nat_Mul.calls k _ _ l0_2 _ _ l1_2 t1293 _ ?side1 ?side2 ?side3 ?side4 A6.out).mono ?_
  (case side1 => exact zc ((Kd.V_reads' HO0_2.out).2.2))
  (case side2 => exact (Kd.V_reads' HO0_2.out).2.1)
  (case side3 => exact zc ((Kd.V_reads' HO1_2.out).2.2))
  (case side4 => exact (Kd.V_reads' HO1_2.out).2.1)
  rintro e w22 ⟨v1294, rfl, ho0, hb⟩
  refine ⟨_, rfl, ?_⟩
  refine zt11 (vb HO0_1 hb) (vb HO0_2 hb) (vb HO1_1 hb) (vb HO1_2 hb) (Kd.N_below (by (with_reducible repeat (first | apply Kd.N_alloc | apply Kd.N_drewN | apply Kd.N_drew)); exact HO1288.out) hb) (vb HO1292 hb) (Kd.V_lower (Kd.V_mono (ok' := fun k_ => ((P0_1_ k_ ∨ P0_2_ k_ ∨ P1_1_ k_ ∨ P1_2_ k_) ∨ w.heap.size ≤ k_) ∧ some k_ ≠ (.slice Ao18 y1286.length co18 : Value).ownBlock ∧ k_ ≠ gb1283 ∧ k_ ≠ gb1284 ∧ k_ ≠ gb1285) ho0 (fun k_ hk_ => ⟨(.inr (Nat.le_trans (below_size (zb3 GE1283.out GE1284.out GE1285.out)) hk_)), (Kd.fresh' (Kd.N_lt (by (with_reducible repeat (first | apply Kd.N_alloc | apply Kd.N_drewN | apply Kd.N_drew)); exact HO1288.out)) k_ hk_), (Kd.freshB (g := gb1283) (o := .cells #[.bool a0_0, .slice A0_1 l0_1.length c0_1, .slice A0_2 l0_2.length c0_2] 24 (0, 0)) (zq2 BK1283.out) k_ hk_), (Kd.freshB (g := gb1284) (o := .cells #[.bool a1_0, .slice A1_1 l1_1.length c1_1, .slice A1_2 l1_2.length c1_2] 24 (0, 0)) (zq2 BK1284.out) k_ hk_), (Kd.freshB (g := gb1285) (o := .cells #[.bool false, .slice none 0 0, .slice none 0 0] 24 (0, 0)) (zq2 BK1285.out) k_ hk_)⟩)) (below_size (zb3 GE1283.out GE1284.out GE1285.out))) (bb BK1283.out hb) (bb BK1284.out hb) (bb BK1285.out hb) (below_step (zb3 GE1283.out GE1284.out GE1285.out) hb) ?_
  clear HO0_1 HO0_2 HO1_1 HO1_2 HO1288 HO1292 BK1283 BK1284 BK1285 HB
  intro HO0_1 HO0_2 HO1_1 HO1_2 HO1288 HO1292 HO1295 BK1283 BK1284 BK1285 HB
  obtain ⟨Ao23, co23, eo23⟩ := Kd.V_slice HO1292.out
  (first | subst eo23 | (injection eo23 with f1_ f2_ f3_; have f4_ := f1_.symm; have f5_ := f3_.symm; clear f1_ f2_ f3_; subst f4_; subst f5_))
  obtain ⟨Ao24, co24, eo24⟩ := Kd.V_slice HO1295.out
  (first | subst eo24 | (injection eo24 with f1_ f2_ f3_; have f4_ := f1_.symm; have f5_ := f3_.symm; clear f1_ f2_ f3_; subst f4_; subst f5_))
  refine hK.out _ _ ⟨(blk_cell BK1283.out 0).trans rfl, (blk_cell BK1283.out 1).trans rfl, (blk_cell BK1283.out 2).trans rfl, (blk_cell BK1284.out 0).trans rfl, (blk_cell BK1284.out 1).trans rfl, (blk_cell BK1284.out 2).trans rfl⟩ (fun hHeld => ?_)
  clear hK K
  refine nz_ (N := (some 29)) ?_
  refine one_ (i := 15) (N := some 30) (zmf 20 [16, 17, 18, 19]) rfl rfl (one_of HT_.out (by kernel_rfl)) (by decide) (fun K hK => ?_)
  refine goes_ Tryd.func54 (by kernel_rfl) rfl #[.bool (a0_0 != a1_0), .slice Ao23 t1290.length co23, .slice Ao24 t1293.length co24] (by rfl) rfl rfl zq5 ?_
  with_reducible refine (number_made.calls k (a0_0 != a1_0) _ _ t1290 _ _ t1293 t1296 t1297 t1300 t1303 _ ?side1 ?side2 ?side3 ?side4 A7.out).mono ?_
  (case side1 => exact zc ((Kd.V_reads' HO1292.out).2.2))
  (case side2 => exact (Kd.V_reads' HO1292.out).2.1)
  (case side3 => exact zc ((Kd.V_reads' HO1295.out).2.2))
  (case side4 => exact (Kd.V_reads' HO1295.out).2.1)
  rintro e w25 ⟨v1298, v1301, rfl, ho0, ho1, hb⟩
  refine ⟨_, rfl, ?_⟩
  refine zt13 (vb HO0_1 hb) (vb HO0_2 hb) (vb HO1_1 hb) (vb HO1_2 hb) (Kd.N_below (by (with_reducible repeat (first | apply Kd.N_alloc | apply Kd.N_drewN | apply Kd.N_drew)); exact HO1288.out) hb) (vb HO1292 hb) (vb HO1295 hb) (Kd.V_lower (Kd.V_mono (ok' := fun k_ => ((P0_1_ k_ ∨ P0_2_ k_ ∨ P1_1_ k_ ∨ P1_2_ k_) ∨ w.heap.size ≤ k_) ∧ some k_ ≠ (.slice Ao18 y1286.length co18 : Value).ownBlock ∧ k_ ≠ gb1283 ∧ k_ ≠ gb1284 ∧ k_ ≠ gb1285) ho0 (fun k_ hk_ => ⟨(.inr (Nat.le_trans (below_size (zb3 GE1283.out GE1284.out GE1285.out)) hk_)), (Kd.fresh' (Kd.N_lt (by (with_reducible repeat (first | apply Kd.N_alloc | apply Kd.N_drewN | apply Kd.N_drew)); exact HO1288.out)) k_ hk_), (Kd.freshB (g := gb1283) (o := .cells #[.bool a0_0, .slice A0_1 l0_1.length c0_1, .slice A0_2 l0_2.length c0_2] 24 (0, 0)) (zq2 BK1283.out) k_ hk_), (Kd.freshB (g := gb1284) (o := .cells #[.bool a1_0, .slice A1_1 l1_1.length c1_1, .slice A1_2 l1_2.length c1_2] 24 (0, 0)) (zq2 BK1284.out) k_ hk_), (Kd.freshB (g := gb1285) (o := .cells #[.bool false, .slice none 0 0, .slice none 0 0] 24 (0, 0)) (zq2 BK1285.out) k_ hk_)⟩)) (below_size (zb3 GE1283.out GE1284.out GE1285.out))) (Kd.V_lower (Kd.V_mono (ok' := fun k_ => ((P0_1_ k_ ∨ P0_2_ k_ ∨ P1_1_ k_ ∨ P1_2_ k_) ∨ w.heap.size ≤ k_) ∧ some k_ ≠ (.slice Ao18 y1286.length co18 : Value).ownBlock ∧ k_ ≠ gb1283 ∧ k_ ≠ gb1284 ∧ k_ ≠ gb1285) ho1 (fun k_ hk_ => ⟨(.inr (Nat.le_trans (below_size (zb3 GE1283.out GE1284.out GE1285.out)) hk_)), (Kd.fresh' (Kd.N_lt (by (with_reducible repeat (first | apply Kd.N_alloc | apply Kd.N_drewN | apply Kd.N_drew)); exact HO1288.out)) k_ hk_), (Kd.freshB (g := gb1283) (o := .cells #[.bool a0_0, .slice A0_1 l0_1.length c0_1, .slice A0_2 l0_2.length c0_2] 24 (0, 0)) (zq2 BK1283.out) k_ hk_), (Kd.freshB (g := gb1284) (o := .cells #[.bool a1_0, .slice A1_1 l1_1.length c1_1, .slice A1_2 l1_2.length c1_2] 24 (0, 0)) (zq2 BK1284.out) k_ hk_), (Kd.freshB (g := gb1285) (o := .cells #[.bool false, .slice none 0 0, .slice none 0 0] 24 (0, 0)) (zq2 BK1285.out) k_ hk_)⟩)) (below_size (zb3 GE1283.out GE1284.out GE1285.out))) (bb BK1283.out hb) (bb BK1284.out hb) (bb BK1285.out hb) (below_step (zb3 GE1283.out GE1284.out GE1285.out) hb) ?_
  clear HO0_1 HO0_2 HO1_1 HO1_2 HO1288 HO1292 HO1295 BK1283 BK1284 BK1285 HB
  intro HO0_1 HO0_2 HO1_1 HO1_2 HO1288 HO1292 HO1295 HO1299 HO1302 BK1283 BK1284 BK1285 HB
  (try clear ho1)
  obtain ⟨Ao27, co27, eo27⟩ := Kd.V_slice HO1299.out
  (first | subst eo27 | (injection eo27 with f1_ f2_ f3_; have f4_ := f1_.symm; have f5_ := f3_.symm; clear f1_ f2_ f3_; subst f4_; subst f5_))
  obtain ⟨Ao29, co29, eo29⟩ := Kd.V_slice HO1302.out
  (first | subst eo29 | (injection eo29 with f1_ f2_ f3_; have f4_ := f1_.symm; have f5_ := f3_.symm; clear f1_ f2_ f3_; subst f4_; subst f5_))
  refine hK.out _ _ ⟨(blk_cell BK1283.out 0).trans rfl, (blk_cell BK1283.out 1).trans rfl, (blk_cell BK1283.out 2).trans rfl, (blk_cell BK1284.out 0).trans rfl, (blk_cell BK1284.out 1).trans rfl, (blk_cell BK1284.out 2).trans rfl⟩ (fun hHeld => ?_)
  clear hK K
  refine nz_ (N := (some 30)) ?_
  refine pz_ (i := 16) (N := some 31) (zmf 20 [17, 18, 19]) ?_
  refine pz_ (i := 17) (N := some 32) (zmf 20 [18, 19]) ?_
  refine one_ (i := 18) (N := none) (zmf 20 [19]) rfl rfl (one_of HT_.out (by kernel_rfl)) (by decide) (fun K hK => ?_)
  have hs26 : w25.cell? ⟨gb1285, 0, none⟩ = some (.bool false) := (blk_cell BK1285.out 0).trans rfl
  have hfs26 := blk_frozen BK1285.out 0
  have hns26_0 := NB1283_1285.out
  have hns26_1 := NB1284_1285.out
  have hms26_0 := NB1285_1283.out
  have hms26_1 := NB1285_1284.out
  have hs28 : w25.cell? ⟨gb1285, 1, none⟩ = some (.slice none 0 0) := (blk_cell BK1285.out 1).trans rfl
  have hfs28 := blk_frozen BK1285.out 1
  have hns28_0 := NB1283_1285.out
  have hns28_1 := NB1284_1285.out
  have hms28_0 := NB1285_1283.out
  have hms28_1 := NB1285_1284.out
  have hs30 : w25.cell? ⟨gb1285, 2, none⟩ = some (.slice none 0 0) := (blk_cell BK1285.out 2).trans rfl
  have hfs30 := blk_frozen BK1285.out 2
  have hns30_0 := NB1283_1285.out
  have hns30_1 := NB1284_1285.out
  have hms30_0 := NB1285_1283.out
  have hms30_1 := NB1285_1284.out
  refine skip_ (w1 := ?_) (by rfl) rfl ?_ ?_
  rotate_left
  ·go_simp
   rfl
  refine hK.out _ _ ⟨((cell_far (p := ⟨gb1285, _, none⟩) NB1283_1285.out _).trans (((cell_far (p := ⟨gb1285, _, none⟩) NB1283_1285.out _).trans (((cell_far (p := ⟨gb1285, _, none⟩) NB1283_1285.out _).trans (hHeld.1)))))), ((cell_far (p := ⟨gb1285, _, none⟩) NB1283_1285.out _).trans (((cell_far (p := ⟨gb1285, _, none⟩) NB1283_1285.out _).trans (((cell_far (p := ⟨gb1285, _, none⟩) NB1283_1285.out _).trans (hHeld.2.1)))))), ((cell_far (p := ⟨gb1285, _, none⟩) NB1283_1285.out _).trans (((cell_far (p := ⟨gb1285, _, none⟩) NB1283_1285.out _).trans (((cell_far (p := ⟨gb1285, _, none⟩) NB1283_1285.out _).trans (hHeld.2.2.1)))))), ((cell_far (p := ⟨gb1285, _, none⟩) NB1284_1285.out _).trans (((cell_far (p := ⟨gb1285, _, none⟩) NB1284_1285.out _).trans (((cell_far (p := ⟨gb1285, _, none⟩) NB1284_1285.out _).trans (hHeld.2.2.2.1)))))), ((cell_far (p := ⟨gb1285, _, none⟩) NB1284_1285.out _).trans (((cell_far (p := ⟨gb1285, _, none⟩) NB1284_1285.out _).trans (((cell_far (p := ⟨gb1285, _, none⟩) NB1284_1285.out _).trans (hHeld.2.2.2.2.1)))))), ((cell_far (p := ⟨gb1285, _, none⟩) NB1284_1285.out _).trans (((cell_far (p := ⟨gb1285, _, none⟩) NB1284_1285.out _).trans (((cell_far (p := ⟨gb1285, _, none⟩) NB1284_1285.out _).trans (hHeld.2.2.2.2.2))))))⟩ (fun hHeld => ?_)
  clear hK K
  refine pz_ (i := 19) (N := some 5) (zmf 20 []) ?_
  refine done_ (done_of HT_.out (by kernel_rfl)) ?_
  try go_wp2
  refine bodyPost_ret (results_ct rfl _ _ gb1285 24 #[.bool t1296, .slice Ao27 t1297.length co27, .slice Ao29 t1300.length co29] (0, 0) _ rfl (by (with_reducible repeat (first | refine blk_drewN ?_ _ | refine blk_drew ?_ | refine blk_alloc ?_ _)); refine blk_put (cs := #[.bool t1296, .slice Ao27 t1297.length co27, .slice none 0 0]) ?_ 2 _ rfl; (with_reducible repeat (first | refine blk_drewN ?_ _ | refine blk_drew ?_ | refine blk_alloc ?_ _)); refine blk_put (cs := #[.bool t1296, .slice none 0 0, .slice none 0 0]) ?_ 1 _ rfl; (with_reducible repeat (first | refine blk_drewN ?_ _ | refine blk_drew ?_ | refine blk_alloc ?_ _)); refine blk_put (cs := #[.bool false, .slice none 0 0, .slice none 0 0]) ?_ 0 _ rfl; (with_reducible repeat (first | refine blk_drewN ?_ _ | refine blk_drew ?_ | refine blk_alloc ?_ _)); exact BK1285.out) Tryd.underlying24 rfl (by kernel_rfl)) rfl ?_
  exact ⟨_, _, zq9, zwV (h := by exact Kd.V_mono (zv3 gb1285 (.bool t1296) (.slice Ao27 t1297.length co27) (.slice Ao29 t1300.length co29) HO1299.out (fun _ hk => hk.2.2.2.2)) (fun _ hk => hk.1.1)), zwV (h := by exact Kd.V_mono (zv3 gb1285 (.bool t1296) (.slice Ao27 t1297.length co27) (.slice Ao29 t1300.length co29) HO1302.out (fun _ hk => hk.2.2.2.2)) (fun _ hk => hk.1.1)), zb3 GE1283.out GE1284.out GE1285.out⟩
 ·rw [if_neg c4] at H
  have c4b0 : (t1289 == 0) = false := beq_eq_false_iff_ne.mpr c4
  have c4b1 : (t1289 != 0) = true := bne_iff_ne.mpr c4
  simp only [Option.some.injEq, Prod.mk.injEq] at H
  obtain ⟨rfl, rfl, rfl, rfl⟩ := H
  go_enter Tryd.func28, Tryd.ntmps28
  go_wp2_with (first | ((with_reducible refine gate_dst (N := 2) rfl ?_); refine zbox (N := 2) (cs := #[.bool a0_0, .slice A0_1 l0_1.length c0_1, .slice A0_2 l0_2.length c0_2]) (t := 24) ?_; intro gb1283 hg w31 hbox hb; refine zt7 (ve HO0_1 hg hb) (ve HO0_2 hg hb) (ve HO1_1 hg hb) (ve HO1_2 hg hb) (below_step zq1 hb) (hbox) ((zs hg (below_size zq1) : w.heap.size ≤ gb1283)) ?_; clear HO0_1 HO0_2 HO1_1 HO1_2 HB; intro HO0_1 HO0_2 HO1_1 HO1_2 HB BK1283 GW1283; have GE1283 := GW1283; clear hb hbox hg) | ((with_reducible refine gate_dst (N := 3) rfl ?_); refine zbox (N := 3) (cs := #[.bool a1_0, .slice A1_1 l1_1.length c1_1, .slice A1_2 l1_2.length c1_2]) (t := 24) ?_; intro gb1284 hg w32 hbox hb; refine zt10 (ve HO0_1 hg hb) (ve HO0_2 hg hb) (ve HO1_1 hg hb) (ve HO1_2 hg hb) (bb BK1283.out hb) (below_step (zb1 GE1283.out) hb) (hbox) ((zs hg (below_size (zb1 GE1283.out)) : w.heap.size ≤ gb1284)) ((by rw [hg]; exact Nat.ne_of_lt (bl BK1283.out) : gb1283 ≠ gb1284)) ((by rw [hg]; exact Nat.ne_of_gt (bl BK1283.out) : gb1284 ≠ gb1283)) ?_; clear HO0_1 HO0_2 HO1_1 HO1_2 BK1283 HB; intro HO0_1 HO0_2 HO1_1 HO1_2 BK1283 HB BK1284 GW1284 NB1283_1284 NB1284_1283; have GE1284 := GW1284; clear hb hbox hg) | ((with_reducible refine gate_dst (N := 4) rfl ?_); refine zbox (N := 4) (cs := #[.bool false, .slice none 0 0, .slice none 0 0]) (t := 24) ?_; intro gb1285 hg w33 hbox hb; refine zt13 (ve HO0_1 hg hb) (ve HO0_2 hg hb) (ve HO1_1 hg hb) (ve HO1_2 hg hb) (bb BK1283.out hb) (bb BK1284.out hb) (below_step (zb2 GE1283.out GE1284.out) hb) (hbox) ((zs hg (below_size (zb2 GE1283.out GE1284.out)) : w.heap.size ≤ gb1285)) ((by rw [hg]; exact Nat.ne_of_lt (bl BK1283.out) : gb1283 ≠ gb1285)) ((by rw [hg]; exact Nat.ne_of_gt (bl BK1283.out) : gb1285 ≠ gb1283)) ((by rw [hg]; exact Nat.ne_of_lt (bl BK1284.out) : gb1284 ≠ gb1285)) ((by rw [hg]; exact Nat.ne_of_gt (bl BK1284.out) : gb1285 ≠ gb1284)) ?_; clear HO0_1 HO0_2 HO1_1 HO1_2 BK1283 BK1284 HB; intro HO0_1 HO0_2 HO1_1 HO1_2 BK1283 BK1284 HB BK1285 GW1285 NB1283_1285 NB1285_1283 NB1284_1285 NB1285_1284; have GE1285 := GW1285; clear hb hbox hg; have hnb34 := NB1283_1284.out; have hnc34 := NB1284_1283.out; have hnb35 := NB1283_1285.out; have hnc35 := NB1285_1283.out; have hcz36_0 := bc BK1283.out 0 (.bool a0_0); have hcz36_1 := bc BK1283.out 1 (.slice A0_1 l0_1.length c0_1); have hcz36_2 := bc BK1283.out 2 (.slice A0_2 l0_2.length c0_2); have hfz36_0 := blk_frozen BK1283.out 0; have hfz36_1 := blk_frozen BK1283.out 1; have hfz36_2 := blk_frozen BK1283.out 2; have hnb37 := NB1284_1285.out; have hnc37 := NB1285_1284.out; have hcz38_0 := bc BK1284.out 0 (.bool a1_0); have hcz38_1 := bc BK1284.out 1 (.slice A1_1 l1_1.length c1_1); have hcz38_2 := bc BK1284.out 2 (.slice A1_2 l1_2.length c1_2); have hfz38_0 := blk_frozen BK1284.out 0; have hfz38_1 := blk_frozen BK1284.out 1; have hfz38_2 := blk_frozen BK1284.out 2) | ((with_reducible refine gate_dst (N := 9) rfl ?_); refine Kd.N_lit k24 _ 24 ?hg (N' := 9) ?hd (xs := ([(⟨a0_0, l0_1, l0_2⟩ : S24), (⟨a1_0, l1_1, l1_2⟩ : S24)] : List (S24))) (inner := [.bool a0_0, .slice A0_1 l0_1.length c0_1, .slice A0_2 l0_2.length c0_2, .bool a1_0, .slice A1_1 l1_1.length c1_1, .slice A1_2 l1_2.length c1_2]) (ok := (fun k_ => ((P0_1_ k_ ∨ P0_2_ k_ ∨ P1_1_ k_ ∨ P1_2_ k_) ∨ w.heap.size ≤ k_) ∧ k_ ≠ gb1283 ∧ k_ ≠ gb1284 ∧ k_ ≠ gb1285)) (okp := (fun k_ => ((P0_1_ k_ ∨ P0_2_ k_ ∨ P1_1_ k_ ∨ P1_2_ k_) ∨ w.heap.size ≤ k_) ∧ k_ ≠ gb1283 ∧ k_ ≠ gb1284 ∧ k_ ≠ gb1285)) ?hr ?hp (fun _ hk => hk) ((show ∀ k_, w33.heap.size ≤ k_ → (fun k_ => ((P0_1_ k_ ∨ P0_2_ k_ ∨ P1_1_ k_ ∨ P1_2_ k_) ∨ w.heap.size ≤ k_) ∧ k_ ≠ gb1283 ∧ k_ ≠ gb1284 ∧ k_ ≠ gb1285) k_ from fun k_ hk => ⟨(.inr (Nat.le_trans (below_size (zb3 GE1283.out GE1284.out GE1285.out)) hk)), Kd.freshB (g := gb1283) (o := .cells #[.bool a0_0, .slice A0_1 l0_1.length c0_1, .slice A0_2 l0_2.length c0_2] 24 (0, 0)) (zq2 BK1283.out) k_ hk, Kd.freshB (g := gb1284) (o := .cells #[.bool a1_0, .slice A1_1 l1_1.length c1_1, .slice A1_2 l1_2.length c1_2] 24 (0, 0)) (zq2 BK1284.out) k_ hk, Kd.freshB (g := gb1285) (o := .cells #[.bool false, .slice none 0 0, .slice none 0 0] 24 (0, 0)) (zq2 BK1285.out) k_ hk⟩) _ (Nat.le_refl _)) (Below.refl _ _) (Nat.le_refl _) (by simp) ?_; (case hd => rfl); (case hg => rfl); (case hr => exact zr); (case hp => exact (Reps.c3 (show Kd.FK k24 _ _ (⟨a0_0, l0_1, l0_2⟩ : S24) [.bool a0_0, .slice A0_1 l0_1.length c0_1, .slice A0_2 l0_2.length c0_2] from (k24_mkF _ _ (⟨a0_0, l0_1, l0_2⟩ : S24) (Kd.V_reads' (Kd.V_mono (ok' := (fun k_ => ((P0_1_ k_ ∨ P0_2_ k_ ∨ P1_1_ k_ ∨ P1_2_ k_) ∨ w.heap.size ≤ k_) ∧ k_ ≠ gb1283 ∧ k_ ≠ gb1284 ∧ k_ ≠ gb1285)) (HO0_1.out) (fun k_ hk => ⟨hk.1.1.1, ⟨hk.1.1.2, ⟨hk.1.2, hk.2⟩⟩⟩))).2.1 (Kd.V_F (Kd.V_mono (ok' := (fun k_ => ((P0_1_ k_ ∨ P0_2_ k_ ∨ P1_1_ k_ ∨ P1_2_ k_) ∨ w.heap.size ≤ k_) ∧ k_ ≠ gb1283 ∧ k_ ≠ gb1284 ∧ k_ ≠ gb1285)) (HO0_1.out) (fun k_ hk => ⟨hk.1.1.1, ⟨hk.1.1.2, ⟨hk.1.2, hk.2⟩⟩⟩))) (Kd.V_reads' (Kd.V_mono (ok' := (fun k_ => ((P0_1_ k_ ∨ P0_2_ k_ ∨ P1_1_ k_ ∨ P1_2_ k_) ∨ w.heap.size ≤ k_) ∧ k_ ≠ gb1283 ∧ k_ ≠ gb1284 ∧ k_ ≠ gb1285)) (HO0_2.out) (fun k_ hk => ⟨hk.1.1.1, ⟨hk.1.1.2, ⟨hk.1.2, hk.2⟩⟩⟩))).2.1 (Kd.V_F (Kd.V_mono (ok' := (fun k_ => ((P0_1_ k_ ∨ P0_2_ k_ ∨ P1_1_ k_ ∨ P1_2_ k_) ∨ w.heap.size ≤ k_) ∧ k_ ≠ gb1283 ∧ k_ ≠ gb1284 ∧ k_ ≠ gb1285)) (HO0_2.out) (fun k_ hk => ⟨hk.1.1.1, ⟨hk.1.1.2, ⟨hk.1.2, hk.2⟩⟩⟩))))) (Reps.c3 (show Kd.FK k24 _ _ (⟨a1_0, l1_1, l1_2⟩ : S24) [.bool a1_0, .slice A1_1 l1_1.length c1_1, .slice A1_2 l1_2.length c1_2] from (k24_mkF _ _ (⟨a1_0, l1_1, l1_2⟩ : S24) (Kd.V_reads' (Kd.V_mono (ok' := (fun k_ => ((P0_1_ k_ ∨ P0_2_ k_ ∨ P1_1_ k_ ∨ P1_2_ k_) ∨ w.heap.size ≤ k_) ∧ k_ ≠ gb1283 ∧ k_ ≠ gb1284 ∧ k_ ≠ gb1285)) (HO1_1.out) (fun k_ hk => ⟨hk.1.1.1, ⟨hk.1.1.2, ⟨hk.1.2, hk.2⟩⟩⟩))).2.1 (Kd.V_F (Kd.V_mono (ok' := (fun k_ => ((P0_1_ k_ ∨ P0_2_ k_ ∨ P1_1_ k_ ∨ P1_2_ k_) ∨ w.heap.size ≤ k_) ∧ k_ ≠ gb1283 ∧ k_ ≠ gb1284 ∧ k_ ≠ gb1285)) (HO1_1.out) (fun k_ hk => ⟨hk.1.1.1, ⟨hk.1.1.2, ⟨hk.1.2, hk.2⟩⟩⟩))) (Kd.V_reads' (Kd.V_mono (ok' := (fun k_ => ((P0_1_ k_ ∨ P0_2_ k_ ∨ P1_1_ k_ ∨ P1_2_ k_) ∨ w.heap.size ≤ k_) ∧ k_ ≠ gb1283 ∧ k_ ≠ gb1284 ∧ k_ ≠ gb1285)) (HO1_2.out) (fun k_ hk => ⟨hk.1.1.1, ⟨hk.1.1.2, ⟨hk.1.2, hk.2⟩⟩⟩))).2.1 (Kd.V_F (Kd.V_mono (ok' := (fun k_ => ((P0_1_ k_ ∨ P0_2_ k_ ∨ P1_1_ k_ ∨ P1_2_ k_) ∨ w.heap.size ≤ k_) ∧ k_ ≠ gb1283 ∧ k_ ≠ gb1284 ∧ k_ ≠ gb1285)) (HO1_2.out) (fun k_ hk => ⟨hk.1.1.1, ⟨hk.1.1.2, ⟨hk.1.2, hk.2⟩⟩⟩))))) (Reps.none _ _)))); intro v1287 w39 ho40 hb hg_ hnew_; clear hg_ hnew_; (first | rw [← Ny1286.out] at ho40 | (simp only [Int.reduceToNat] at ho40; rw [← Ny1286.out] at ho40)); refine zt9 (Kd.V_elder' (zq3 HO0_1.out) (Kd.N_base ho40) hb) (Kd.V_elder' (zq3 HO0_2.out) (Kd.N_base ho40) hb) (Kd.V_elder' (zq3 HO1_1.out) (Kd.N_base ho40) hb) (Kd.V_elder' (zq3 HO1_2.out) (Kd.N_base ho40) hb) (Kd.N_lower ho40 (below_size (zb3 GE1283.out GE1284.out GE1285.out))) (bb BK1283.out hb) (bb BK1284.out hb) (bb BK1285.out hb) (below_step (zb3 GE1283.out GE1284.out GE1285.out) hb) ?_; clear HO0_1 HO0_2 HO1_1 HO1_2 BK1283 BK1284 BK1285 HB; intro HO0_1 HO0_2 HO1_1 HO1_2 HO1288 BK1283 BK1284 BK1285 HB; clear hb ho40; obtain ⟨Ao41, co41, eo41⟩ := Kd.N_slice HO1288.out; subst eo41) | ((with_reducible refine gate_callee (f := 61) rfl ?_); refine goesL_ (some 10) rfl rfl Tryd.func61 (by kernel_rfl) rfl #[.slice Ao41 y1286.length co41] rfl zq5 ?_; (with_reducible refine (number_check.calls k _ _ y1286 t1289 _ ?side1 ?side2 A3.out).mono ?_); (case side1 => exact zc ((Kd.N_reads' HO1288.out).2.2)); (case side2 => exact (Kd.N_reads' HO1288.out).2.1); rintro e w42 ⟨rfl, hb⟩; refine ⟨_, rfl, ?_⟩; refine zt9 (vb HO0_1 hb) (vb HO0_2 hb) (vb HO1_1 hb) (vb HO1_2 hb) (Kd.N_below (by (with_reducible repeat (first | apply Kd.N_alloc | apply Kd.N_drewN | apply Kd.N_drew)); exact HO1288.out) hb) (bb BK1283.out hb) (bb BK1284.out hb) (bb BK1285.out hb) (below_step (zb3 GE1283.out GE1284.out GE1285.out) hb) ?_; clear HO0_1 HO0_2 HO1_1 HO1_2 HO1288 BK1283 BK1284 BK1285 HB; intro HO0_1 HO0_2 HO1_1 HO1_2 HO1288 BK1283 BK1284 BK1285 HB; (try clear hb); (try clear hb2); (try clear hk); (try clear hi); have hcz43_0 := bc BK1285.out 0 (.bool false); have hcz43_1 := bc BK1285.out 1 (.slice none 0 0); have hcz43_2 := bc BK1285.out 2 (.slice none 0 0); have hfz43_0 := blk_frozen BK1285.out 0; have hfz43_1 := blk_frozen BK1285.out 1; have hfz43_2 := blk_frozen BK1285.out 2))
  refine bodyPost_ret (results_ct rfl _ _ gb1285 24 #[.bool false, .slice none 0 0, .slice none 0 0] (0, 0) _ rfl (by (with_reducible repeat (first | refine blk_drewN ?_ _ | refine blk_drew ?_ | refine blk_alloc ?_ _)); refine blk_put (cs := #[.bool false, .slice none 0 0, .slice none 0 0]) ?_ 2 _ rfl; (with_reducible repeat (first | refine blk_drewN ?_ _ | refine blk_drew ?_ | refine blk_alloc ?_ _)); refine blk_put (cs := #[.bool false, .slice none 0 0, .slice none 0 0]) ?_ 1 _ rfl; (with_reducible repeat (first | refine blk_drewN ?_ _ | refine blk_drew ?_ | refine blk_alloc ?_ _)); refine blk_put (cs := #[.bool false, .slice none 0 0, .slice none 0 0]) ?_ 0 _ rfl; (with_reducible repeat (first | refine blk_drewN ?_ _ | refine blk_drew ?_ | refine blk_alloc ?_ _)); exact BK1285.out) Tryd.underlying24 rfl (by kernel_rfl)) rfl ?_
  exact ⟨_, _, zq9, Kd.V_mono (Kd.V_nil _ _ _ _ _) (fun k_ hk => by first | exact ⟨(.inr (hk.1)), hk.2⟩ | exact (.inr (hk))), Kd.V_mono (Kd.V_nil _ _ _ _ _) (fun k_ hk => by first | exact ⟨(.inr (hk.1)), hk.2⟩ | exact (.inr (hk))), zb3 GE1283.out GE1284.out GE1285.out⟩
def number_Div.f (k : Nat) (a0_0 : Bool) (l0_1 : List Int) (l0_2 : List Int) (a1_0 : Bool) (l1_1 : List Int) (l1_2 : List Int) : Option (Bool × List Int × List Int × Int) := (number_check.f k (([(⟨a0_0, l0_1, l0_2⟩ : S24), (⟨a1_0, l1_1, l1_2⟩ : S24)] : List (S24)))).bind fun t1310 => (if t1310 = 0 then (if (l1_1.length : Int) = 0 then (some (false, ([] : List Int), ([] : List Int), 10)) else ((nat_Mul.f k l0_1 l1_2).bind fun t1311 => ((nat_Mul.f k l0_2 l1_1).bind fun t1314 => ((number_made.f k (a0_0 != a1_0) t1311 t1314).bind fun bt1317 => (some (bt1317.1, bt1317.2.1, bt1317.2.2.1, bt1317.2.2.2)))))) else (some (false, ([] : List Int), ([] : List Int), t1310)))
theorem number_Div.mono : ∀ a0 a1 a2 a3 a4 a5 k, LeO (number_Div.f k a0 a1 a2 a3 a4 a5) (number_Div.f (k + 1) a0 a1 a2 a3 a4 a5) := by
 intro a0 a1 a2 a3 a4 a5 k
 unfold number_Div.f
 have m0 := @nat_Mul.mono
 have m1 := @number_check.mono
 have m2 := @number_made.mono
 exact zm
def number_Div.T6 : Bool × List (List Nat × List Nat) := (true, [([], []), ([0], [0]), ([], []), ([2], [2]), ([1, 3], [1, 3]), ([], []), ([5], [5]), ([], []), ([7], [7]), ([6, 8], [6, 8]), ([], []), ([10], [10]), ([], []), ([12], [12]), ([11, 13, 9], [11, 13]), ([4, 9, 14, 14], [4, 9, 14]), ([15], [15]), ([15], [15]), ([16, 15, 0, 1, 2, 3, 4, 5, 6, 7, 8, 9, 10, 11, 12, 13, 14, 15, 16, 17], [16]), ([17, 18, 0, 1, 2, 3, 4, 5, 6, 7, 8, 9, 10, 11, 12, 13, 14, 15, 16, 17, 18], [17])])
def number_Div.B6 : List Nat := [0, 1, 0, 4, 15, 0, 32, 0, 128, 480, 0, 1024, 0, 4096, 16352, 32767, 65535, 65535, 262143, 524287]
theorem number_Div.tab6 : rtab .any (opsOf Tryd.f29 6) = number_Div.T6 := by kernel_rfl
theorem number_Div.bits6 : waitsOk number_Div.T6.2 number_Div.B6 = true := by kernel_rfl
set_option maxHeartbeats 8000000 in
set_option maxRecDepth 100000 in
theorem number_Div.calls (k : Nat) (a0_0 : Bool) (P0_1_ : Nat → Prop) (A0_1 : Option Addr) (c0_1 : Nat) (l0_1 : List Int) (P0_2_ : Nat → Prop) (A0_2 : Option Addr) (c0_2 : Nat) (l0_2 : List Int) (a1_0 : Bool) (P1_1_ : Nat → Prop) (A1_1 : Option Addr) (c1_1 : Nat) (l1_1 : List Int) (P1_2_ : Nat → Prop) (A1_2 : Option Addr) (c1_2 : Nat) (l1_2 : List Int) (r1 : Bool) (r2 : List Int) (r3 : List Int) (r4 : Int) (w : World) (hs0_1 : Kd.V (Kd.int .u32) 55 w w.heap.size (fun k_ => P0_1_ k_) (.slice A0_1 l0_1.length c0_1) l0_1) (hs0_2 : Kd.V (Kd.int .u32) 55 w w.heap.size (fun k_ => P0_2_ k_) (.slice A0_2 l0_2.length c0_2) l0_2) (hs1_1 : Kd.V (Kd.int .u32) 55 w w.heap.size (fun k_ => P1_1_ k_) (.slice A1_1 l1_1.length c1_1) l1_1) (hs1_2 : Kd.V (Kd.int .u32) 55 w w.heap.size (fun k_ => P1_2_ k_) (.slice A1_2 l1_2.length c1_2) l1_2) (h : number_Div.f k a0_0 l0_1 l0_2 a1_0 l1_1 l1_2 = some (r1, r2, r3, r4)) :
  Calls Tryd.prog 29 #[.agg #[.bool a0_0, .slice A0_1 l0_1.length c0_1, .slice A0_2 l0_2.length c0_2], .agg #[.bool a1_0, .slice A1_1 l1_1.length c1_1, .slice A1_2 l1_2.length c1_2]] w fun e w' => ∃ v1_ v2_ : Value, e = .returned (.tuple #[.agg #[.bool r1, v1_, v2_], .int .i64 r4]) ∧ Kd.V (Kd.int .u32) 55 w' w.heap.size (fun k_ => ((P0_1_ k_ ∨ P0_2_ k_ ∨ P1_1_ k_ ∨ P1_2_ k_) ∨ w.heap.size ≤ k_)) v1_ r2 ∧ Kd.V (Kd.int .u32) 55 w' w.heap.size (fun k_ => ((P0_1_ k_ ∨ P0_2_ k_ ∨ P1_1_ k_ ∨ P1_2_ k_) ∨ w.heap.size ≤ k_)) v2_ r3 ∧ Below w.heap.size w w' := by
 have hu24 := Tryd.underlying24
 have HO0_1 := am (show Kd.V (Kd.int .u32) 55 w w.heap.size (fun k_ => ((P0_1_ k_ ∨ P0_2_ k_ ∨ P1_1_ k_ ∨ P1_2_ k_) ∨ w.heap.size ≤ k_)) (.slice A0_1 l0_1.length c0_1) l0_1 from Kd.V_mono hs0_1 (fun k_ hk => .inl (.inl hk)))
 have HO0_2 := am (show Kd.V (Kd.int .u32) 55 w w.heap.size (fun k_ => ((P0_1_ k_ ∨ P0_2_ k_ ∨ P1_1_ k_ ∨ P1_2_ k_) ∨ w.heap.size ≤ k_)) (.slice A0_2 l0_2.length c0_2) l0_2 from Kd.V_mono hs0_2 (fun k_ hk => .inl (.inr (.inl hk))))
 have HO1_1 := am (show Kd.V (Kd.int .u32) 55 w w.heap.size (fun k_ => ((P0_1_ k_ ∨ P0_2_ k_ ∨ P1_1_ k_ ∨ P1_2_ k_) ∨ w.heap.size ≤ k_)) (.slice A1_1 l1_1.length c1_1) l1_1 from Kd.V_mono hs1_1 (fun k_ hk => .inl (.inr (.inr (.inl hk)))))
 have HO1_2 := am (show Kd.V (Kd.int .u32) 55 w w.heap.size (fun k_ => ((P0_1_ k_ ∨ P0_2_ k_ ∨ P1_1_ k_ ∨ P1_2_ k_) ∨ w.heap.size ≤ k_)) (.slice A1_2 l1_2.length c1_2) l1_2 from Kd.V_mono hs1_2 (fun k_ hk => .inl (.inr (.inr (.inr hk)))))
 have HB := am (Below.refl w.heap.size w)
 have H := h
 unfold number_Div.f at H
 clear h
 obtain ⟨y1307, hy1307⟩ : ∃ y_ : List (S24), y_ = (([(⟨a0_0, l0_1, l0_2⟩ : S24), (⟨a1_0, l1_1, l1_2⟩ : S24)] : List (S24))) := ⟨_, rfl⟩
 try rw [← hy1307] at H
 have Ny1307 := am hy1307
 clear hy1307
 replace H := zj H
 obtain ⟨t1310, A3, H⟩ := H
 by_cases c4 : t1310 = 0
 ·rw [if_pos c4] at H
  have c4b0 : (t1310 == 0) = true := beq_iff_eq.mpr c4
  have c4b1 : (t1310 != 0) = false := bne_eq_false_iff_eq.mpr c4
  clear c4
  by_cases c5 : (l1_1.length : Int) = 0
  ·rw [if_pos c5] at H
   have c5b0 : ((l1_1.length : Int) == 0) = true := beq_iff_eq.mpr c5
   have c5b1 : ((l1_1.length : Int) != 0) = false := bne_eq_false_iff_eq.mpr c5
   clear c5
   simp only [Option.some.injEq, Prod.mk.injEq] at H
   obtain ⟨rfl, rfl, rfl, rfl⟩ := H
   go_enter Tryd.func29, Tryd.ntmps29
   go_wp2_with (first | ((with_reducible refine gate_dst (N := 2) rfl ?_); refine zbox (N := 2) (cs := #[.bool a0_0, .slice A0_1 l0_1.length c0_1, .slice A0_2 l0_2.length c0_2]) (t := 24) ?_; intro gb1304 hg w6 hbox hb; refine zt7 (ve HO0_1 hg hb) (ve HO0_2 hg hb) (ve HO1_1 hg hb) (ve HO1_2 hg hb) (below_step zq1 hb) (hbox) ((zs hg (below_size zq1) : w.heap.size ≤ gb1304)) ?_; clear HO0_1 HO0_2 HO1_1 HO1_2 HB; intro HO0_1 HO0_2 HO1_1 HO1_2 HB BK1304 GW1304; have GE1304 := GW1304; clear hb hbox hg) | ((with_reducible refine gate_dst (N := 3) rfl ?_); refine zbox (N := 3) (cs := #[.bool a1_0, .slice A1_1 l1_1.length c1_1, .slice A1_2 l1_2.length c1_2]) (t := 24) ?_; intro gb1305 hg w7 hbox hb; refine zt10 (ve HO0_1 hg hb) (ve HO0_2 hg hb) (ve HO1_1 hg hb) (ve HO1_2 hg hb) (bb BK1304.out hb) (below_step (zb1 GE1304.out) hb) (hbox) ((zs hg (below_size (zb1 GE1304.out)) : w.heap.size ≤ gb1305)) ((by rw [hg]; exact Nat.ne_of_lt (bl BK1304.out) : gb1304 ≠ gb1305)) ((by rw [hg]; exact Nat.ne_of_gt (bl BK1304.out) : gb1305 ≠ gb1304)) ?_; clear HO0_1 HO0_2 HO1_1 HO1_2 BK1304 HB; intro HO0_1 HO0_2 HO1_1 HO1_2 BK1304 HB BK1305 GW1305 NB1304_1305 NB1305_1304; have GE1305 := GW1305; clear hb hbox hg) | ((with_reducible refine gate_dst (N := 4) rfl ?_); refine zbox (N := 4) (cs := #[.bool false, .slice none 0 0, .slice none 0 0]) (t := 24) ?_; intro gb1306 hg w8 hbox hb; refine zt13 (ve HO0_1 hg hb) (ve HO0_2 hg hb) (ve HO1_1 hg hb) (ve HO1_2 hg hb) (bb BK1304.out hb) (bb BK1305.out hb) (below_step (zb2 GE1304.out GE1305.out) hb) (hbox) ((zs hg (below_size (zb2 GE1304.out GE1305.out)) : w.heap.size ≤ gb1306)) ((by rw [hg]; exact Nat.ne_of_lt (bl BK1304.out) : gb1304 ≠ gb1306)) ((by rw [hg]; exact Nat.ne_of_gt (bl BK1304.out) : gb1306 ≠ gb1304)) ((by rw [hg]; exact Nat.ne_of_lt (bl BK1305.out) : gb1305 ≠ gb1306)) ((by rw [hg]; exact Nat.ne_of_gt (bl BK1305.out) : gb1306 ≠ gb1305)) ?_; clear HO0_1 HO0_2 HO1_1 HO1_2 BK1304 BK1305 HB; intro HO0_1 HO0_2 HO1_1 HO1_2 BK1304 BK1305 HB BK1306 GW1306 NB1304_1306 NB1306_1304 NB1305_1306 NB1306_1305; have GE1306 := GW1306; clear hb hbox hg; have hnb9 := NB1304_1305.out; have hnc9 := NB1305_1304.out; have hnb10 := NB1304_1306.out; have hnc10 := NB1306_1304.out; have hcz11_0 := bc BK1304.out 0 (.bool a0_0); have hcz11_1 := bc BK1304.out 1 (.slice A0_1 l0_1.length c0_1); have hcz11_2 := bc BK1304.out 2 (.slice A0_2 l0_2.length c0_2); have hfz11_0 := blk_frozen BK1304.out 0; have hfz11_1 := blk_frozen BK1304.out 1; have hfz11_2 := blk_frozen BK1304.out 2; have hnb12 := NB1305_1306.out; have hnc12 := NB1306_1305.out; have hcz13_0 := bc BK1305.out 0 (.bool a1_0); have hcz13_1 := bc BK1305.out 1 (.slice A1_1 l1_1.length c1_1); have hcz13_2 := bc BK1305.out 2 (.slice A1_2 l1_2.length c1_2); have hfz13_0 := blk_frozen BK1305.out 0; have hfz13_1 := blk_frozen BK1305.out 1; have hfz13_2 := blk_frozen BK1305.out 2) | ((with_reducible refine gate_dst (N := 9) rfl ?_); refine Kd.N_lit k24 _ 24 ?hg (N' := 9) ?hd (xs := ([(⟨a0_0, l0_1, l0_2⟩ : S24), (⟨a1_0, l1_1, l1_2⟩ : S24)] : List (S24))) (inner := [.bool a0_0, .slice A0_1 l0_1.length c0_1, .slice A0_2 l0_2.length c0_2, .bool a1_0, .slice A1_1 l1_1.length c1_1, .slice A1_2 l1_2.length c1_2]) (ok := (fun k_ => ((P0_1_ k_ ∨ P0_2_ k_ ∨ P1_1_ k_ ∨ P1_2_ k_) ∨ w.heap.size ≤ k_) ∧ k_ ≠ gb1304 ∧ k_ ≠ gb1305 ∧ k_ ≠ gb1306)) (okp := (fun k_ => ((P0_1_ k_ ∨ P0_2_ k_ ∨ P1_1_ k_ ∨ P1_2_ k_) ∨ w.heap.size ≤ k_) ∧ k_ ≠ gb1304 ∧ k_ ≠ gb1305 ∧ k_ ≠ gb1306)) ?hr ?hp (fun _ hk => hk) ((show ∀ k_, w8.heap.size ≤ k_ → (fun k_ => ((P0_1_ k_ ∨ P0_2_ k_ ∨ P1_1_ k_ ∨ P1_2_ k_) ∨ w.heap.size ≤ k_) ∧ k_ ≠ gb1304 ∧ k_ ≠ gb1305 ∧ k_ ≠ gb1306) k_ from fun k_ hk => ⟨(.inr (Nat.le_trans (below_size (zb3 GE1304.out GE1305.out GE1306.out)) hk)), Kd.freshB (g := gb1304) (o := .cells #[.bool a0_0, .slice A0_1 l0_1.length c0_1, .slice A0_2 l0_2.length c0_2] 24 (0, 0)) (zq2 BK1304.out) k_ hk, Kd.freshB (g := gb1305) (o := .cells #[.bool a1_0, .slice A1_1 l1_1.length c1_1, .slice A1_2 l1_2.length c1_2] 24 (0, 0)) (zq2 BK1305.out) k_ hk, Kd.freshB (g := gb1306) (o := .cells #[.bool false, .slice none 0 0, .slice none 0 0] 24 (0, 0)) (zq2 BK1306.out) k_ hk⟩) _ (Nat.le_refl _)) (Below.refl _ _) (Nat.le_refl _) (by simp) ?_; (case hd => rfl); (case hg => rfl); (case hr => exact zr); (case hp => exact (Reps.c3 (show Kd.FK k24 _ _ (⟨a0_0, l0_1, l0_2⟩ : S24) [.bool a0_0, .slice A0_1 l0_1.length c0_1, .slice A0_2 l0_2.length c0_2] from (k24_mkF _ _ (⟨a0_0, l0_1, l0_2⟩ : S24) (Kd.V_reads' (Kd.V_mono (ok' := (fun k_ => ((P0_1_ k_ ∨ P0_2_ k_ ∨ P1_1_ k_ ∨ P1_2_ k_) ∨ w.heap.size ≤ k_) ∧ k_ ≠ gb1304 ∧ k_ ≠ gb1305 ∧ k_ ≠ gb1306)) (HO0_1.out) (fun k_ hk => ⟨hk.1.1.1, ⟨hk.1.1.2, ⟨hk.1.2, hk.2⟩⟩⟩))).2.1 (Kd.V_F (Kd.V_mono (ok' := (fun k_ => ((P0_1_ k_ ∨ P0_2_ k_ ∨ P1_1_ k_ ∨ P1_2_ k_) ∨ w.heap.size ≤ k_) ∧ k_ ≠ gb1304 ∧ k_ ≠ gb1305 ∧ k_ ≠ gb1306)) (HO0_1.out) (fun k_ hk => ⟨hk.1.1.1, ⟨hk.1.1.2, ⟨hk.1.2, hk.2⟩⟩⟩))) (Kd.V_reads' (Kd.V_mono (ok' := (fun k_ => ((P0_1_ k_ ∨ P0_2_ k_ ∨ P1_1_ k_ ∨ P1_2_ k_) ∨ w.heap.size ≤ k_) ∧ k_ ≠ gb1304 ∧ k_ ≠ gb1305 ∧ k_ ≠ gb1306)) (HO0_2.out) (fun k_ hk => ⟨hk.1.1.1, ⟨hk.1.1.2, ⟨hk.1.2, hk.2⟩⟩⟩))).2.1 (Kd.V_F (Kd.V_mono (ok' := (fun k_ => ((P0_1_ k_ ∨ P0_2_ k_ ∨ P1_1_ k_ ∨ P1_2_ k_) ∨ w.heap.size ≤ k_) ∧ k_ ≠ gb1304 ∧ k_ ≠ gb1305 ∧ k_ ≠ gb1306)) (HO0_2.out) (fun k_ hk => ⟨hk.1.1.1, ⟨hk.1.1.2, ⟨hk.1.2, hk.2⟩⟩⟩))))) (Reps.c3 (show Kd.FK k24 _ _ (⟨a1_0, l1_1, l1_2⟩ : S24) [.bool a1_0, .slice A1_1 l1_1.length c1_1, .slice A1_2 l1_2.length c1_2] from (k24_mkF _ _ (⟨a1_0, l1_1, l1_2⟩ : S24) (Kd.V_reads' (Kd.V_mono (ok' := (fun k_ => ((P0_1_ k_ ∨ P0_2_ k_ ∨ P1_1_ k_ ∨ P1_2_ k_) ∨ w.heap.size ≤ k_) ∧ k_ ≠ gb1304 ∧ k_ ≠ gb1305 ∧ k_ ≠ gb1306)) (HO1_1.out) (fun k_ hk => ⟨hk.1.1.1, ⟨hk.1.1.2, ⟨hk.1.2, hk.2⟩⟩⟩))).2.1 (Kd.V_F (Kd.V_mono (ok' := (fun k_ => ((P0_1_ k_ ∨ P0_2_ k_ ∨ P1_1_ k_ ∨ P1_2_ k_) ∨ w.heap.size ≤ k_) ∧ k_ ≠ gb1304 ∧ k_ ≠ gb1305 ∧ k_ ≠ gb1306)) (HO1_1.out) (fun k_ hk => ⟨hk.1.1.1, ⟨hk.1.1.2, ⟨hk.1.2, hk.2⟩⟩⟩))) (Kd.V_reads' (Kd.V_mono (ok' := (fun k_ => ((P0_1_ k_ ∨ P0_2_ k_ ∨ P1_1_ k_ ∨ P1_2_ k_) ∨ w.heap.size ≤ k_) ∧ k_ ≠ gb1304 ∧ k_ ≠ gb1305 ∧ k_ ≠ gb1306)) (HO1_2.out) (fun k_ hk => ⟨hk.1.1.1, ⟨hk.1.1.2, ⟨hk.1.2, hk.2⟩⟩⟩))).2.1 (Kd.V_F (Kd.V_mono (ok' := (fun k_ => ((P0_1_ k_ ∨ P0_2_ k_ ∨ P1_1_ k_ ∨ P1_2_ k_) ∨ w.heap.size ≤ k_) ∧ k_ ≠ gb1304 ∧ k_ ≠ gb1305 ∧ k_ ≠ gb1306)) (HO1_2.out) (fun k_ hk => ⟨hk.1.1.1, ⟨hk.1.1.2, ⟨hk.1.2, hk.2⟩⟩⟩))))) (Reps.none _ _)))); intro v1308 w14 ho15 hb hg_ hnew_; clear hg_ hnew_; (first | rw [← Ny1307.out] at ho15 | (simp only [Int.reduceToNat] at ho15; rw [← Ny1307.out] at ho15)); refine zt9 (Kd.V_elder' (zq3 HO0_1.out) (Kd.N_base ho15) hb) (Kd.V_elder' (zq3 HO0_2.out) (Kd.N_base ho15) hb) (Kd.V_elder' (zq3 HO1_1.out) (Kd.N_base ho15) hb) (Kd.V_elder' (zq3 HO1_2.out) (Kd.N_base ho15) hb) (Kd.N_lower ho15 (below_size (zb3 GE1304.out GE1305.out GE1306.out))) (bb BK1304.out hb) (bb BK1305.out hb) (bb BK1306.out hb) (below_step (zb3 GE1304.out GE1305.out GE1306.out) hb) ?_; clear HO0_1 HO0_2 HO1_1 HO1_2 BK1304 BK1305 BK1306 HB; intro HO0_1 HO0_2 HO1_1 HO1_2 HO1309 BK1304 BK1305 BK1306 HB; clear hb ho15; obtain ⟨Ao16, co16, eo16⟩ := Kd.N_slice HO1309.out; subst eo16) | ((with_reducible refine gate_callee (f := 61) rfl ?_); refine goesL_ (some 10) rfl rfl Tryd.func61 (by kernel_rfl) rfl #[.slice Ao16 y1307.length co16] rfl zq5 ?_; (with_reducible refine (number_check.calls k _ _ y1307 t1310 _ ?side1 ?side2 A3.out).mono ?_); (case side1 => exact zc ((Kd.N_reads' HO1309.out).2.2)); (case side2 => exact (Kd.N_reads' HO1309.out).2.1); rintro e w17 ⟨rfl, hb⟩; refine ⟨_, rfl, ?_⟩; refine zt9 (vb HO0_1 hb) (vb HO0_2 hb) (vb HO1_1 hb) (vb HO1_2 hb) (Kd.N_below (by (with_reducible repeat (first | apply Kd.N_alloc | apply Kd.N_drewN | apply Kd.N_drew)); exact HO1309.out) hb) (bb BK1304.out hb) (bb BK1305.out hb) (bb BK1306.out hb) (below_step (zb3 GE1304.out GE1305.out GE1306.out) hb) ?_; clear HO0_1 HO0_2 HO1_1 HO1_2 HO1309 BK1304 BK1305 BK1306 HB; intro HO0_1 HO0_2 HO1_1 HO1_2 HO1309 BK1304 BK1305 BK1306 HB; (try clear hb); (try clear hb2); (try clear hk); (try clear hi); have hcz18_0 := bc BK1305.out 0 (.bool a1_0); have hcz18_1 := bc BK1305.out 1 (.slice A1_1 l1_1.length c1_1); have hcz18_2 := bc BK1305.out 2 (.slice A1_2 l1_2.length c1_2); have hfz18_0 := blk_frozen BK1305.out 0; have hfz18_1 := blk_frozen BK1305.out 1; have hfz18_2 := blk_frozen BK1305.out 2; have hcz19_0 := bc BK1306.out 0 (.bool false); have hcz19_1 := bc BK1306.out 1 (.slice none 0 0); have hcz19_2 := bc BK1306.out 2 (.slice none 0 0); have hfz19_0 := blk_frozen BK1306.out 0; have hfz19_1 := blk_frozen BK1306.out 1; have hfz19_2 := blk_frozen BK1306.out 2))
   refine bodyPost_ret (results_ct rfl _ _ gb1306 24 #[.bool false, .slice none 0 0, .slice none 0 0] (0, 0) _ rfl (by (with_reducible repeat (first | refine blk_drewN ?_ _ | refine blk_drew ?_ | refine blk_alloc ?_ _)); refine blk_put (cs := #[.bool false, .slice none 0 0, .slice none 0 0]) ?_ 2 _ rfl; (with_reducible repeat (first | refine blk_drewN ?_ _ | refine blk_drew ?_ | refine blk_alloc ?_ _)); refine blk_put (cs := #[.bool false, .slice none 0 0, .slice none 0 0]) ?_ 1 _ rfl; (with_reducible repeat (first | refine blk_drewN ?_ _ | refine blk_drew ?_ | refine blk_alloc ?_ _)); refine blk_put (cs := #[.bool false, .slice none 0 0, .slice none 0 0]) ?_ 0 _ rfl; (with_reducible repeat (first | refine blk_drewN ?_ _ | refine blk_drew ?_ | refine blk_alloc ?_ _)); exact BK1306.out) Tryd.underlying24 rfl (by kernel_rfl)) rfl ?_
   exact ⟨_, _, zq9, Kd.V_mono (Kd.V_nil _ _ _ _ _) (fun k_ hk => by first | exact ⟨(.inr (hk.1)), hk.2⟩ | exact (.inr (hk))), Kd.V_mono (Kd.V_nil _ _ _ _ _) (fun k_ hk => by first | exact ⟨(.inr (hk.1)), hk.2⟩ | exact (.inr (hk))), zb3 GE1304.out GE1305.out GE1306.out⟩
  ·rw [if_neg c5] at H
   have c5b0 : ((l1_1.length : Int) == 0) = false := beq_eq_false_iff_ne.mpr c5
   have c5b1 : ((l1_1.length : Int) != 0) = true := bne_iff_ne.mpr c5
   have c5b2 : ¬ (l1_1 = []) := fun h_ => c5 (by rw [h_]; rfl)
   replace H := zj H
   obtain ⟨t1311, A20, H⟩ := H
   replace H := zj H
   obtain ⟨t1314, A21, H⟩ := H
   replace H := zj H
   obtain ⟨⟨t1317, t1318, t1321, t1324⟩, A22, H⟩ := H
   try dsimp only at H
   simp only [Option.some.injEq, Prod.mk.injEq] at H
   obtain ⟨rfl, rfl, rfl, rfl⟩ := H
   go_enter Tryd.func29, Tryd.ntmps29
   try go_wp2_with (first | ((with_reducible refine gate_dst (N := 2) rfl ?_); refine zbox (N := 2) (cs := #[.bool a0_0, .slice A0_1 l0_1.length c0_1, .slice A0_2 l0_2.length c0_2]) (t := 24) ?_; intro gb1304 hg w23 hbox hb; refine zt7 (ve HO0_1 hg hb) (ve HO0_2 hg hb) (ve HO1_1 hg hb) (ve HO1_2 hg hb) (below_step zq1 hb) (hbox) ((zs hg (below_size zq1) : w.heap.size ≤ gb1304)) ?_; clear HO0_1 HO0_2 HO1_1 HO1_2 HB; intro HO0_1 HO0_2 HO1_1 HO1_2 HB BK1304 GW1304; have GE1304 := GW1304; clear hb hbox hg) | ((with_reducible refine gate_dst (N := 3) rfl ?_); refine zbox (N := 3) (cs := #[.bool a1_0, .slice A1_1 l1_1.length c1_1, .slice A1_2 l1_2.length c1_2]) (t := 24) ?_; intro gb1305 hg w24 hbox hb; refine zt10 (ve HO0_1 hg hb) (ve HO0_2 hg hb) (ve HO1_1 hg hb) (ve HO1_2 hg hb) (bb BK1304.out hb) (below_step (zb1 GE1304.out) hb) (hbox) ((zs hg (below_size (zb1 GE1304.out)) : w.heap.size ≤ gb1305)) ((by rw [hg]; exact Nat.ne_of_lt (bl BK1304.out) : gb1304 ≠ gb1305)) ((by rw [hg]; exact Nat.ne_of_gt (bl BK1304.out) : gb1305 ≠ gb1304)) ?_; clear HO0_1 HO0_2 HO1_1 HO1_2 BK1304 HB; intro HO0_1 HO0_2 HO1_1 HO1_2 BK1304 HB BK1305 GW1305 NB1304_1305 NB1305_1304; have GE1305 := GW1305; clear hb hbox hg) | ((with_reducible refine gate_dst (N := 4) rfl ?_); refine zbox (N := 4) (cs := #[.bool false, .slice none 0 0, .slice none 0 0]) (t := 24) ?_; intro gb1306 hg w25 hbox hb; refine zt13 (ve HO0_1 hg hb) (ve HO0_2 hg hb) (ve HO1_1 hg hb) (ve HO1_2 hg hb) (bb BK1304.out hb) (bb BK1305.out hb) (below_step (zb2 GE1304.out GE1305.out) hb) (hbox) ((zs hg (below_size (zb2 GE1304.out GE1305.out)) : w.heap.size ≤ gb1306)) ((by rw [hg]; exact Nat.ne_of_lt (bl BK1304.out) : gb1304 ≠ gb1306)) ((by rw [hg]; exact Nat.ne_of_gt (bl BK1304.out) : gb1306 ≠ gb1304)) ((by rw [hg]; exact Nat.ne_of_lt (bl BK1305.out) : gb1305 ≠ gb1306)) ((by rw [hg]; exact Nat.ne_of_gt (bl BK1305.out) : gb1306 ≠ gb1305)) ?_; clear HO0_1 HO0_2 HO1_1 HO1_2 BK1304 BK1305 HB; intro HO0_1 HO0_2 HO1_1 HO1_2 BK1304 BK1305 HB BK1306 GW1306 NB1304_1306 NB1306_1304 NB1305_1306 NB1306_1305; have GE1306 := GW1306; clear hb hbox hg; have hnb26 := NB1304_1305.out; have hnc26 := NB1305_1304.out; have hnb27 := NB1304_1306.out; have hnc27 := NB1306_1304.out; have hcz28_0 := bc BK1304.out 0 (.bool a0_0); have hcz28_1 := bc BK1304.out 1 (.slice A0_1 l0_1.length c0_1); have hcz28_2 := bc BK1304.out 2 (.slice A0_2 l0_2.length c0_2); have hfz28_0 := blk_frozen BK1304.out 0; have hfz28_1 := blk_frozen BK1304.out 1; have hfz28_2 := blk_frozen BK1304.out 2; have hnb29 := NB1305_1306.out; have hnc29 := NB1306_1305.out; have hcz30_0 := bc BK1305.out 0 (.bool a1_0); have hcz30_1 := bc BK1305.out 1 (.slice A1_1 l1_1.length c1_1); have hcz30_2 := bc BK1305.out 2 (.slice A1_2 l1_2.length c1_2); have hfz30_0 := blk_frozen BK1305.out 0; have hfz30_1 := blk_frozen BK1305.out 1; have hfz30_2 := blk_frozen BK1305.out 2) | ((with_reducible refine gate_dst (N := 9) rfl ?_); refine Kd.N_lit k24 _ 24 ?hg (N' := 9) ?hd (xs := ([(⟨a0_0, l0_1, l0_2⟩ : S24), (⟨a1_0, l1_1, l1_2⟩ : S24)] : List (S24))) (inner := [.bool a0_0, .slice A0_1 l0_1.length c0_1, .slice A0_2 l0_2.length c0_2, .bool a1_0, .slice A1_1 l1_1.length c1_1, .slice A1_2 l1_2.length c1_2]) (ok := (fun k_ => ((P0_1_ k_ ∨ P0_2_ k_ ∨ P1_1_ k_ ∨ P1_2_ k_) ∨ w.heap.size ≤ k_) ∧ k_ ≠ gb1304 ∧ k_ ≠ gb1305 ∧ k_ ≠ gb1306)) (okp := (fun k_ => ((P0_1_ k_ ∨ P0_2_ k_ ∨ P1_1_ k_ ∨ P1_2_ k_) ∨ w.heap.size ≤ k_) ∧ k_ ≠ gb1304 ∧ k_ ≠ gb1305 ∧ k_ ≠ gb1306)) ?hr ?hp (fun _ hk => hk) ((show ∀ k_, w25.heap.size ≤ k_ → (fun k_ => ((P0_1_ k_ ∨ P0_2_ k_ ∨ P1_1_ k_ ∨ P1_2_ k_) ∨ w.heap.size ≤ k_) ∧ k_ ≠ gb1304 ∧ k_ ≠ gb1305 ∧ k_ ≠ gb1306) k_ from fun k_ hk => ⟨(.inr (Nat.le_trans (below_size (zb3 GE1304.out GE1305.out GE1306.out)) hk)), Kd.freshB (g := gb1304) (o := .cells #[.bool a0_0, .slice A0_1 l0_1.length c0_1, .slice A0_2 l0_2.length c0_2] 24 (0, 0)) (zq2 BK1304.out) k_ hk, Kd.freshB (g := gb1305) (o := .cells #[.bool a1_0, .slice A1_1 l1_1.length c1_1, .slice A1_2 l1_2.length c1_2] 24 (0, 0)) (zq2 BK1305.out) k_ hk, Kd.freshB (g := gb1306) (o := .cells #[.bool false, .slice none 0 0, .slice none 0 0] 24 (0, 0)) (zq2 BK1306.out) k_ hk⟩) _ (Nat.le_refl _)) (Below.refl _ _) (Nat.le_refl _) (by simp) ?_; (case hd => rfl); (case hg => rfl); (case hr => exact zr); (case hp => exact (Reps.c3 (show Kd.FK k24 _ _ (⟨a0_0, l0_1, l0_2⟩ : S24) [.bool a0_0, .slice A0_1 l0_1.length c0_1, .slice A0_2 l0_2.length c0_2] from (k24_mkF _ _ (⟨a0_0, l0_1, l0_2⟩ : S24) (Kd.V_reads' (Kd.V_mono (ok' := (fun k_ => ((P0_1_ k_ ∨ P0_2_ k_ ∨ P1_1_ k_ ∨ P1_2_ k_) ∨ w.heap.size ≤ k_) ∧ k_ ≠ gb1304 ∧ k_ ≠ gb1305 ∧ k_ ≠ gb1306)) (HO0_1.out) (fun k_ hk => ⟨hk.1.1.1, ⟨hk.1.1.2, ⟨hk.1.2, hk.2⟩⟩⟩))).2.1 (Kd.V_F (Kd.V_mono (ok' := (fun k_ => ((P0_1_ k_ ∨ P0_2_ k_ ∨ P1_1_ k_ ∨ P1_2_ k_) ∨ w.heap.size ≤ k_) ∧ k_ ≠ gb1304 ∧ k_ ≠ gb1305 ∧ k_ ≠ gb1306)) (HO0_1.out) (fun k_ hk => ⟨hk.1.1.1, ⟨hk.1.1.2, ⟨hk.1.2, hk.2⟩⟩⟩))) (Kd.V_reads' (Kd.V_mono (ok' := (fun k_ => ((P0_1_ k_ ∨ P0_2_ k_ ∨ P1_1_ k_ ∨ P1_2_ k_) ∨ w.heap.size ≤ k_) ∧ k_ ≠ gb1304 ∧ k_ ≠ gb1305 ∧ k_ ≠ gb1306)) (HO0_2.out) (fun k_ hk => ⟨hk.1.1.1, ⟨hk.1.1.2, ⟨hk.1.2, hk.2⟩⟩⟩))).2.1 (Kd.V_F (Kd.V_mono (ok' := (fun k_ => ((P0_1_ k_ ∨ P0_2_ k_ ∨ P1_1_ k_ ∨ P1_2_ k_) ∨ w.heap.size ≤ k_) ∧ k_ ≠ gb1304 ∧ k_ ≠ gb1305 ∧ k_ ≠ gb1306)) (HO0_2.out) (fun k_ hk => ⟨hk.1.1.1, ⟨hk.1.1.2, ⟨hk.1.2, hk.2⟩⟩⟩))))) (Reps.c3 (show Kd.FK k24 _ _ (⟨a1_0, l1_1, l1_2⟩ : S24) [.bool a1_0, .slice A1_1 l1_1.length c1_1, .slice A1_2 l1_2.length c1_2] from (k24_mkF _ _ (⟨a1_0, l1_1, l1_2⟩ : S24) (Kd.V_reads' (Kd.V_mono (ok' := (fun k_ => ((P0_1_ k_ ∨ P0_2_ k_ ∨ P1_1_ k_ ∨ P1_2_ k_) ∨ w.heap.size ≤ k_) ∧ k_ ≠ gb1304 ∧ k_ ≠ gb1305 ∧ k_ ≠ gb1306)) (HO1_1.out) (fun k_ hk => ⟨hk.1.1.1, ⟨hk.1.1.2, ⟨hk.1.2, hk.2⟩⟩⟩))).2.1 (Kd.V_F (Kd.V_mono (ok' := (fun k_ => ((P0_1_ k_ ∨ P0_2_ k_ ∨ P1_1_ k_ ∨ P1_2_ k_) ∨ w.heap.size ≤ k_) ∧ k_ ≠ gb1304 ∧ k_ ≠ gb1305 ∧ k_ ≠ gb1306)) (HO1_1.out) (fun k_ hk => ⟨hk.1.1.1, ⟨hk.1.1.2, ⟨hk.1.2, hk.2⟩⟩⟩))) (Kd.V_reads' (Kd.V_mono (ok' := (fun k_ => ((P0_1_ k_ ∨ P0_2_ k_ ∨ P1_1_ k_ ∨ P1_2_ k_) ∨ w.heap.size ≤ k_) ∧ k_ ≠ gb1304 ∧ k_ ≠ gb1305 ∧ k_ ≠ gb1306)) (HO1_2.out) (fun k_ hk => ⟨hk.1.1.1, ⟨hk.1.1.2, ⟨hk.1.2, hk.2⟩⟩⟩))).2.1 (Kd.V_F (Kd.V_mono (ok' := (fun k_ => ((P0_1_ k_ ∨ P0_2_ k_ ∨ P1_1_ k_ ∨ P1_2_ k_) ∨ w.heap.size ≤ k_) ∧ k_ ≠ gb1304 ∧ k_ ≠ gb1305 ∧ k_ ≠ gb1306)) (HO1_2.out) (fun k_ hk => ⟨hk.1.1.1, ⟨hk.1.1.2, ⟨hk.1.2, hk.2⟩⟩⟩))))) (Reps.none _ _)))); intro v1308 w31 ho32 hb hg_ hnew_; clear hg_ hnew_; (first | rw [← Ny1307.out] at ho32 | (simp only [Int.reduceToNat] at ho32; rw [← Ny1307.out] at ho32)); refine zt9 (Kd.V_elder' (zq3 HO0_1.out) (Kd.N_base ho32) hb) (Kd.V_elder' (zq3 HO0_2.out) (Kd.N_base ho32) hb) (Kd.V_elder' (zq3 HO1_1.out) (Kd.N_base ho32) hb) (Kd.V_elder' (zq3 HO1_2.out) (Kd.N_base ho32) hb) (Kd.N_lower ho32 (below_size (zb3 GE1304.out GE1305.out GE1306.out))) (bb BK1304.out hb) (bb BK1305.out hb) (bb BK1306.out hb) (below_step (zb3 GE1304.out GE1305.out GE1306.out) hb) ?_; clear HO0_1 HO0_2 HO1_1 HO1_2 BK1304 BK1305 BK1306 HB; intro HO0_1 HO0_2 HO1_1 HO1_2 HO1309 BK1304 BK1305 BK1306 HB; clear hb ho32; obtain ⟨Ao33, co33, eo33⟩ := Kd.N_slice HO1309.out; subst eo33) | ((with_reducible refine gate_callee (f := 61) rfl ?_); refine goesL_ (some 10) rfl rfl Tryd.func61 (by kernel_rfl) rfl #[.slice Ao33 y1307.length co33] rfl zq5 ?_; (with_reducible refine (number_check.calls k _ _ y1307 t1310 _ ?side1 ?side2 A3.out).mono ?_); (case side1 => exact zc ((Kd.N_reads' HO1309.out).2.2)); (case side2 => exact (Kd.N_reads' HO1309.out).2.1); rintro e w34 ⟨rfl, hb⟩; refine ⟨_, rfl, ?_⟩; refine zt9 (vb HO0_1 hb) (vb HO0_2 hb) (vb HO1_1 hb) (vb HO1_2 hb) (Kd.N_below (by (with_reducible repeat (first | apply Kd.N_alloc | apply Kd.N_drewN | apply Kd.N_drew)); exact HO1309.out) hb) (bb BK1304.out hb) (bb BK1305.out hb) (bb BK1306.out hb) (below_step (zb3 GE1304.out GE1305.out GE1306.out) hb) ?_; clear HO0_1 HO0_2 HO1_1 HO1_2 HO1309 BK1304 BK1305 BK1306 HB; intro HO0_1 HO0_2 HO1_1 HO1_2 HO1309 BK1304 BK1305 BK1306 HB; (try clear hb); (try clear hb2); (try clear hk); (try clear hi); have hcz35_0 := bc BK1305.out 0 (.bool a1_0); have hcz35_1 := bc BK1305.out 1 (.slice A1_1 l1_1.length c1_1); have hcz35_2 := bc BK1305.out 2 (.slice A1_2 l1_2.length c1_2); have hfz35_0 := blk_frozen BK1305.out 0; have hfz35_1 := blk_frozen BK1305.out 1; have hfz35_2 := blk_frozen BK1305.out 2))
   refine zt9 (Kd.V_drew HO0_1.out) (Kd.V_drew HO0_2.out) (Kd.V_drew HO1_1.out) (Kd.V_drew HO1_2.out) (Kd.N_drew HO1309.out) (blk_drew BK1304.out) (blk_drew BK1305.out) (blk_drew BK1306.out) (below_drew1 HB.out) ?_
   clear HO0_1 HO0_2 HO1_1 HO1_2 HO1309 BK1304 BK1305 BK1306 HB
   intro HO0_1 HO0_2 HO1_1 HO1_2 HO1309 BK1304 BK1305 BK1306 HB
   refine start_ (n := 20) (S := fun w' => w'.cell? ⟨gb1304, 0, none⟩ = some (.bool a0_0) ∧ w'.cell? ⟨gb1304, 1, none⟩ = some (.slice A0_1 l0_1.length c0_1) ∧ w'.cell? ⟨gb1304, 2, none⟩ = some (.slice A0_2 l0_2.length c0_2) ∧ w'.cell? ⟨gb1305, 0, none⟩ = some (.bool a1_0) ∧ w'.cell? ⟨gb1305, 1, none⟩ = some (.slice A1_1 l1_1.length c1_1) ∧ w'.cell? ⟨gb1305, 2, none⟩ = some (.slice A1_2 l1_2.length c1_2)) (ds := []) #[false, false, false, false, false, false, false, false, false, false, false, false, false, false, false, false, false, false, false, false] (by kernel_rfl) rfl rfl ⟨(blk_cell BK1304.out 0).trans rfl, (blk_cell BK1304.out 1).trans rfl, (blk_cell BK1304.out 2).trans rfl, (blk_cell BK1305.out 0).trans rfl, (blk_cell BK1305.out 1).trans rfl, (blk_cell BK1305.out 2).trans rfl⟩ (fun hHeld => ?_); refine with_tabW number_Div.tab6 number_Div.bits6 (fun HT_ HW_ => ?_)
   generalize w34.drew = w36 at HO0_1 HO0_2 HO1_1 HO1_2 HO1309 BK1304 BK1305 BK1306 HB hHeld ⊢
   refine pz_ (i := 0) (N := some 20) (zmt 20 [0]) ?_
   refine pz_ (i := 2) (N := some 22) (zmt 20 [0, 2]) ?_
   refine pz_ (i := 5) (N := some 25) (zmt 20 [0, 2, 5]) ?_
   refine pz_ (i := 7) (N := some 27) (zmt 20 [0, 2, 5, 7]) ?_
   refine pz_ (i := 10) (N := some 30) (zmt 20 [0, 2, 5, 7, 10]) ?_
   refine pz_ (i := 12) (N := some 32) (zmt 20 [0, 2, 5, 7, 10, 12]) ?_
   refine take_ (i := 1) (N := some 21) (v := ?_) (a' := ?_) #[true, true, true, false, false, true, false, true, false, false, true, false, true, false, false, false, false, false, false, false] rfl rfl (take_ofW HT_.out HW_.out (by kernel_rfl)) (fun _ _ _ h => h) (Or.inl ⟨by rfl, ?_⟩) hHeld ?_ ?_
   rotate_left
   ·rintro w' ⟨s0, s1, s2, s3, s4, s5⟩
    go_simp
    with_reducible rfl
   rotate_left
   ·simp only [Act.put, List.setIfInBounds_toArray, List.set_cons_zero, List.set_cons_succ, i64_w, i32_w]
    rfl
   refine take_ (i := 3) (N := some 23) (v := ?_) (a' := ?_) #[true, true, true, true, false, true, false, true, false, false, true, false, true, false, false, false, false, false, false, false] rfl rfl (take_ofW HT_.out HW_.out (by kernel_rfl)) (fun _ _ _ h => h) (Or.inl ⟨by rfl, ?_⟩) hHeld ?_ ?_
   rotate_left
   ·rintro w' ⟨s0, s1, s2, s3, s4, s5⟩
    go_simp
    with_reducible rfl
   rotate_left
   ·simp only [Act.put, List.setIfInBounds_toArray, List.set_cons_zero, List.set_cons_succ, i64_w, i32_w]
    rfl
   refine pz_ (i := 4) (N := some 24) (zmt 20 [0, 1, 2, 3, 4, 5, 7, 10, 12]) ?_
   refine take_ (i := 6) (N := some 26) (v := ?_) (a' := ?_) #[true, true, true, true, true, true, true, true, false, false, true, false, true, false, false, false, false, false, false, false] rfl rfl (take_ofW HT_.out HW_.out (by kernel_rfl)) (fun _ _ _ h => h) (Or.inl ⟨by rfl, ?_⟩) hHeld ?_ ?_
   rotate_left
   ·rintro w' ⟨s0, s1, s2, s3, s4, s5⟩
    go_simp
    with_reducible rfl
   rotate_left
   ·simp only [Act.put, List.setIfInBounds_toArray, List.set_cons_zero, List.set_cons_succ, i64_w, i32_w]
    rfl
   refine take_ (i := 8) (N := some 28) (v := ?_) (a' := ?_) #[true, true, true, true, true, true, true, true, true, false, true, false, true, false, false, false, false, false, false, false] rfl rfl (take_ofW HT_.out HW_.out (by kernel_rfl)) (fun _ _ _ h => h) (Or.inl ⟨by rfl, ?_⟩) hHeld ?_ ?_
   rotate_left
   ·rintro w' ⟨s0, s1, s2, s3, s4, s5⟩
    go_simp
    with_reducible rfl
   rotate_left
   ·simp only [Act.put, List.setIfInBounds_toArray, List.set_cons_zero, List.set_cons_succ, i64_w, i32_w]
    rfl
   refine take_ (i := 11) (N := some 31) (v := ?_) (a' := ?_) #[true, true, true, true, true, true, true, true, true, false, true, true, true, false, false, false, false, false, false, false] rfl rfl (take_ofW HT_.out HW_.out (by kernel_rfl)) (fun _ _ _ h => h) (Or.inl ⟨by rfl, ?_⟩) hHeld ?_ ?_
   rotate_left
   ·rintro w' ⟨s0, s1, s2, s3, s4, s5⟩
    go_simp
    with_reducible rfl
   rotate_left
   ·simp only [Act.put, List.setIfInBounds_toArray, List.set_cons_zero, List.set_cons_succ, i64_w, i32_w]
    rfl
   refine take_ (i := 13) (N := some 33) (v := ?_) (a' := ?_) #[true, true, true, true, true, true, true, true, true, false, true, true, true, true, false, false, false, false, false, false] rfl rfl (take_ofW HT_.out HW_.out (by kernel_rfl)) (fun _ _ _ h => h) (Or.inl ⟨by rfl, ?_⟩) hHeld ?_ ?_
   rotate_left
   ·rintro w' ⟨s0, s1, s2, s3, s4, s5⟩
    go_simp
    with_reducible rfl
   rotate_left
   ·simp only [Act.put, List.setIfInBounds_toArray, List.set_cons_zero, List.set_cons_succ, i64_w, i32_w]
    rfl
   refine one_ (i := 9) (N := some 29) (zmf 20 [14, 15, 16, 17, 18, 19]) rfl rfl (one_of HT_.out (by kernel_rfl)) (by decide) (fun K hK => ?_)
   refine goes_ Tryd.func77 (by kernel_rfl) rfl #[.slice A0_1 l0_1.length c0_1, .slice A1_2 l1_2.length c1_2] (by rfl) rfl rfl zq5 ?_
   with_reducible refine (nat_Mul.calls k _ _ l0_1 _ _ l1_2 t1311 _ ?side1 ?side2 ?side3 ?side4 A20.out).mono ?_
   (case side1 => exact zc ((Kd.V_reads' HO0_1.out).2.2))
   (case side2 => exact (Kd.V_reads' HO0_1.out).2.1)
   (case side3 => exact zc ((Kd.V_reads' HO1_2.out).2.2))
   (case side4 => exact (Kd.V_reads' HO1_2.out).2.1)
   rintro e w37 ⟨v1312, rfl, ho0, hb⟩
   refine ⟨_, rfl, ?_⟩
   refine zt10 (vb HO0_1 hb) (vb HO0_2 hb) (vb HO1_1 hb) (vb HO1_2 hb) (Kd.N_below (by (with_reducible repeat (first | apply Kd.N_alloc | apply Kd.N_drewN | apply Kd.N_drew)); exact HO1309.out) hb) (Kd.V_lower (Kd.V_mono (ok' := fun k_ => ((P0_1_ k_ ∨ P0_2_ k_ ∨ P1_1_ k_ ∨ P1_2_ k_) ∨ w.heap.size ≤ k_) ∧ some k_ ≠ (.slice Ao33 y1307.length co33 : Value).ownBlock ∧ k_ ≠ gb1304 ∧ k_ ≠ gb1305 ∧ k_ ≠ gb1306) ho0 (fun k_ hk_ => ⟨(.inr (Nat.le_trans (below_size (zb3 GE1304.out GE1305.out GE1306.out)) hk_)), (Kd.fresh' (Kd.N_lt (by (with_reducible repeat (first | apply Kd.N_alloc | apply Kd.N_drewN | apply Kd.N_drew)); exact HO1309.out)) k_ hk_), (Kd.freshB (g := gb1304) (o := .cells #[.bool a0_0, .slice A0_1 l0_1.length c0_1, .slice A0_2 l0_2.length c0_2] 24 (0, 0)) (zq2 BK1304.out) k_ hk_), (Kd.freshB (g := gb1305) (o := .cells #[.bool a1_0, .slice A1_1 l1_1.length c1_1, .slice A1_2 l1_2.length c1_2] 24 (0, 0)) (zq2 BK1305.out) k_ hk_), (Kd.freshB (g := gb1306) (o := .cells #[.bool false, .slice none 0 0, .slice none 0 0] 24 (0, 0)) (zq2 BK1306.out) k_ hk_)⟩)) (below_size (zb3 GE1304.out GE1305.out GE1306.out))) (bb BK1304.out hb) (bb BK1305.out hb) (bb BK1306.out hb) (below_step (zb3 GE1304.out GE1305.out GE1306.out) hb) ?_
   clear HO0_1 HO0_2 HO1_1 HO1_2 HO1309 BK1304 BK1305 BK1306 HB
   intro HO0_1 HO0_2 HO1_1 HO1_2 HO1309 HO1313 BK1304 BK1305 BK1306 HB
   refine hK.out _ _ ⟨(blk_cell BK1304.out 0).trans rfl, (blk_cell BK1304.out 1).trans rfl, (blk_cell BK1304.out 2).trans rfl, (blk_cell BK1305.out 0).trans rfl, (blk_cell BK1305.out 1).trans rfl, (blk_cell BK1305.out 2).trans rfl⟩ (fun hHeld => ?_)
   clear hK K
   refine nz_ (N := (some 29)) ?_
   refine one_ (i := 14) (N := some 34) (zmf 20 [15, 16, 17, 18, 19]) rfl rfl (one_of HT_.out (by kernel_rfl)) (by decide) (fun K hK => ?_)
   refine goes_ Tryd.func77 (by kernel_rfl) rfl #[.slice A0_2 l0_2.length c0_2, .slice A1_1 l1_1.length c1_1] (by rfl) rfl rfl zq5 ?_
   with_reducible refine (nat_Mul.calls k _ _ l0_2 _ _ l1_1 t1314 _ ?side1 ?side2 ?side3 ?side4 A21.out).mono ?_
   (case side1 => exact zc ((Kd.V_reads' HO0_2.out).2.2))
   (case side2 => exact (Kd.V_reads' HO0_2.out).2.1)
   (case side3 => exact zc ((Kd.V_reads' HO1_1.out).2.2))
   (case side4 => exact (Kd.V_reads' HO1_1.out).2.1)
   rintro e w38 ⟨v1315, rfl, ho0, hb⟩
   refine ⟨_, rfl, ?_⟩
   refine zt11 (vb HO0_1 hb) (vb HO0_2 hb) (vb HO1_1 hb) (vb HO1_2 hb) (Kd.N_below (by (with_reducible repeat (first | apply Kd.N_alloc | apply Kd.N_drewN | apply Kd.N_drew)); exact HO1309.out) hb) (vb HO1313 hb) (Kd.V_lower (Kd.V_mono (ok' := fun k_ => ((P0_1_ k_ ∨ P0_2_ k_ ∨ P1_1_ k_ ∨ P1_2_ k_) ∨ w.heap.size ≤ k_) ∧ some k_ ≠ (.slice Ao33 y1307.length co33 : Value).ownBlock ∧ k_ ≠ gb1304 ∧ k_ ≠ gb1305 ∧ k_ ≠ gb1306) ho0 (fun k_ hk_ => ⟨(.inr (Nat.le_trans (below_size (zb3 GE1304.out GE1305.out GE1306.out)) hk_)), (Kd.fresh' (Kd.N_lt (by (with_reducible repeat (first | apply Kd.N_alloc | apply Kd.N_drewN | apply Kd.N_drew)); exact HO1309.out)) k_ hk_), (Kd.freshB (g := gb1304) (o := .cells #[.bool a0_0, .slice A0_1 l0_1.length c0_1, .slice A0_2 l0_2.length c0_2] 24 (0, 0)) (zq2 BK1304.out) k_ hk_), (Kd.freshB (g := gb1305) (o := .cells #[.bool a1_0, .slice A1_1 l1_1.length c1_1, .slice A1_2 l1_2.length c1_2] 24 (0, 0)) (zq2 BK1305.out) k_ hk_), (Kd.freshB (g := gb1306) (o := .cells #[.bool false, .slice none 0 0, .slice none 0 0] 24 (0, 0)) (zq2 BK1306.out) k_ hk_)⟩)) (below_size (zb3 GE1304.out GE1305.out GE1306.out))) (bb BK1304.out hb) (bb BK1305.out hb) (bb BK1306.out hb) (below_step (zb3 GE1304.out GE1305.out GE1306.out) hb) ?_
   clear HO0_1 HO0_2 HO1_1 HO1_2 HO1309 HO1313 BK1304 BK1305 BK1306 HB
   intro HO0_1 HO0_2 HO1_1 HO1_2 HO1309 HO1313 HO1316 BK1304 BK1305 BK1306 HB
   obtain ⟨Ao39, co39, eo39⟩ := Kd.V_slice HO1313.out
   (first | subst eo39 | (injection eo39 with f1_ f2_ f3_; have f4_ := f1_.symm; have f5_ := f3_.symm; clear f1_ f2_ f3_; subst f4_; subst f5_))
   obtain ⟨Ao40, co40, eo40⟩ := Kd.V_slice HO1316.out
   (first | subst eo40 | (injection eo40 with f1_ f2_ f3_; have f4_ := f1_.symm; have f5_ := f3_.symm; clear f1_ f2_ f3_; subst f4_; subst f5_))
   refine hK.out _ _ ⟨(blk_cell BK1304.out 0).trans rfl, (blk_cell BK1304.out 1).trans rfl, (blk_cell BK1304.out 2).trans rfl, (blk_cell BK1305.out 0).trans rfl, (blk_cell BK1305.out 1).trans rfl, (blk_cell BK1305.out 2).trans rfl⟩ (fun hHeld => ?_)
   clear hK K
   refine nz_ (N := (some 34)) ?_
   refine one_ (i := 15) (N := some 35) (zmf 20 [16, 17, 18, 19]) rfl rfl (one_of HT_.out (by kernel_rfl)) (by decide) (fun K hK => ?_)
   refine goes_ Tryd.func54 (by kernel_rfl) rfl #[.bool (a0_0 != a1_0), .slice Ao39 t1311.length co39, .slice Ao40 t1314.length co40] (by rfl) rfl rfl zq5 ?_
   with_reducible refine (number_made.calls k (a0_0 != a1_0) _ _ t1311 _ _ t1314 t1317 t1318 t1321 t1324 _ ?side1 ?side2 ?side3 ?side4 A22.out).mono ?_
   (case side1 => exact zc ((Kd.V_reads' HO1313.out).2.2))
   (case side2 => exact (Kd.V_reads' HO1313.out).2.1)
   (case side3 => exact zc ((Kd.V_reads' HO1316.out).2.2))
   (case side4 => exact (Kd.V_reads' HO1316.out).2.1)
   rintro e w41 ⟨v1319, v1322, rfl, ho0, ho1, hb⟩
   refine ⟨_, rfl, ?_⟩
   refine zt13 (vb HO0_1 hb) (vb HO0_2 hb) (vb HO1_1 hb) (vb HO1_2 hb) (Kd.N_below (by (with_reducible repeat (first | apply Kd.N_alloc | apply Kd.N_drewN | apply Kd.N_drew)); exact HO1309.out) hb) (vb HO1313 hb) (vb HO1316 hb) (Kd.V_lower (Kd.V_mono (ok' := fun k_ => ((P0_1_ k_ ∨ P0_2_ k_ ∨ P1_1_ k_ ∨ P1_2_ k_) ∨ w.heap.size ≤ k_) ∧ some k_ ≠ (.slice Ao33 y1307.length co33 : Value).ownBlock ∧ k_ ≠ gb1304 ∧ k_ ≠ gb1305 ∧ k_ ≠ gb1306) ho0 (fun k_ hk_ => ⟨(.inr (Nat.le_trans (below_size (zb3 GE1304.out GE1305.out GE1306.out)) hk_)), (Kd.fresh' (Kd.N_lt (by (with_reducible repeat (first | apply Kd.N_alloc | apply Kd.N_drewN | apply Kd.N_drew)); exact HO1309.out)) k_ hk_), (Kd.freshB (g := gb1304) (o := .cells #[.bool a0_0, .slice A0_1 l0_1.length c0_1, .slice A0_2 l0_2.length c0_2] 24 (0, 0)) (zq2 BK1304.out) k_ hk_), (Kd.freshB (g := gb1305) (o := .cells #[.bool a1_0, .slice A1_1 l1_1.length c1_1, .slice A1_2 l1_2.length c1_2] 24 (0, 0)) (zq2 BK1305.out) k_ hk_), (Kd.freshB (g := gb1306) (o := .cells #[.bool false, .slice none 0 0, .slice none 0 0] 24 (0, 0)) (zq2 BK1306.out) k_ hk_)⟩)) (below_size (zb3 GE1304.out GE1305.out GE1306.out))) (Kd.V_lower (Kd.V_mono (ok' := fun k_ => ((P0_1_ k_ ∨ P0_2_ k_ ∨ P1_1_ k_ ∨ P1_2_ k_) ∨ w.heap.size ≤ k_) ∧ some k_ ≠ (.slice Ao33 y1307.length co33 : Value).ownBlock ∧ k_ ≠ gb1304 ∧ k_ ≠ gb1305 ∧ k_ ≠ gb1306) ho1 (fun k_ hk_ => ⟨(.inr (Nat.le_trans (below_size (zb3 GE1304.out GE1305.out GE1306.out)) hk_)), (Kd.fresh' (Kd.N_lt (by (with_reducible repeat (first | apply Kd.N_alloc | apply Kd.N_drewN | apply Kd.N_drew)); exact HO1309.out)) k_ hk_), (Kd.freshB (g := gb1304) (o := .cells #[.bool a0_0, .slice A0_1 l0_1.length c0_1, .slice A0_2 l0_2.length c0_2] 24 (0, 0)) (zq2 BK1304.out) k_ hk_), (Kd.freshB (g := gb1305) (o := .cells #[.bool a1_0, .slice A1_1 l1_1.length c1_1, .slice A1_2 l1_2.length c1_2] 24 (0, 0)) (zq2 BK1305.out) k_ hk_), (Kd.freshB (g := gb1306) (o := .cells #[.bool false, .slice none 0 0, .slice none 0 0] 24 (0, 0)) (zq2 BK1306.out) k_ hk_)⟩)) (below_size (zb3 GE1304.out GE1305.out GE1306.out))) (bb BK1304.out hb) (bb BK1305.out hb) (bb BK1306.out hb) (below_step (zb3 GE1304.out GE1305.out GE1306.out) hb) ?_
   clear HO0_1 HO0_2 HO1_1 HO1_2 HO1309 HO1313 HO1316 BK1304 BK1305 BK1306 HB
   intro HO0_1 HO0_2 HO1_1 HO1_2 HO1309 HO1313 HO1316 HO1320 HO1323 BK1304 BK1305 BK1306 HB
   (try clear ho1)
   obtain ⟨Ao43, co43, eo43⟩ := Kd.V_slice HO1320.out
   (first | subst eo43 | (injection eo43 with f1_ f2_ f3_; have f4_ := f1_.symm; have f5_ := f3_.symm; clear f1_ f2_ f3_; subst f4_; subst f5_))
   obtain ⟨Ao45, co45, eo45⟩ := Kd.V_slice HO1323.out
   (first | subst eo45 | (injection eo45 with f1_ f2_ f3_; have f4_ := f1_.symm; have f5_ := f3_.symm; clear f1_ f2_ f3_; subst f4_; subst f5_))
   refine hK.out _ _ ⟨(blk_cell BK1304.out 0).trans rfl, (blk_cell BK1304.out 1).trans rfl, (blk_cell BK1304.out 2).trans rfl, (blk_cell BK1305.out 0).trans rfl, (blk_cell BK1305.out 1).trans rfl, (blk_cell BK1305.out 2).trans rfl⟩ (fun hHeld => ?_)
   clear hK K
   refine nz_ (N := (some 35)) ?_
   refine pz_ (i := 16) (N := some 36) (zmf 20 [17, 18, 19]) ?_
   refine pz_ (i := 17) (N := some 37) (zmf 20 [18, 19]) ?_
   refine one_ (i := 18) (N := none) (zmf 20 [19]) rfl rfl (one_of HT_.out (by kernel_rfl)) (by decide) (fun K hK => ?_)
   have hs42 : w41.cell? ⟨gb1306, 0, none⟩ = some (.bool false) := (blk_cell BK1306.out 0).trans rfl
   have hfs42 := blk_frozen BK1306.out 0
   have hns42_0 := NB1304_1306.out
   have hns42_1 := NB1305_1306.out
   have hms42_0 := NB1306_1304.out
   have hms42_1 := NB1306_1305.out
   have hs44 : w41.cell? ⟨gb1306, 1, none⟩ = some (.slice none 0 0) := (blk_cell BK1306.out 1).trans rfl
   have hfs44 := blk_frozen BK1306.out 1
   have hns44_0 := NB1304_1306.out
   have hns44_1 := NB1305_1306.out
   have hms44_0 := NB1306_1304.out
   have hms44_1 := NB1306_1305.out
   have hs46 : w41.cell? ⟨gb1306, 2, none⟩ = some (.slice none 0 0) := (blk_cell BK1306.out 2).trans rfl
   have hfs46 := blk_frozen BK1306.out 2
   have hns46_0 := NB1304_1306.out
   have hns46_1 := NB1305_1306.out
   have hms46_0 := NB1306_1304.out
   have hms46_1 := NB1306_1305.out
   refine skip_ (w1 := ?_) (by rfl) rfl ?_ ?_
   rotate_left
   ·go_simp
    rfl
   refine hK.out _ _ ⟨((cell_far (p := ⟨gb1306, _, none⟩) NB1304_1306.out _).trans (((cell_far (p := ⟨gb1306, _, none⟩) NB1304_1306.out _).trans (((cell_far (p := ⟨gb1306, _, none⟩) NB1304_1306.out _).trans (hHeld.1)))))), ((cell_far (p := ⟨gb1306, _, none⟩) NB1304_1306.out _).trans (((cell_far (p := ⟨gb1306, _, none⟩) NB1304_1306.out _).trans (((cell_far (p := ⟨gb1306, _, none⟩) NB1304_1306.out _).trans (hHeld.2.1)))))), ((cell_far (p := ⟨gb1306, _, none⟩) NB1304_1306.out _).trans (((cell_far (p := ⟨gb1306, _, none⟩) NB1304_1306.out _).trans (((cell_far (p := ⟨gb1306, _, none⟩) NB1304_1306.out _).trans (hHeld.2.2.1)))))), ((cell_far (p := ⟨gb1306, _, none⟩) NB1305_1306.out _).trans (((cell_far (p := ⟨gb1306, _, none⟩) NB1305_1306.out _).trans (((cell_far (p := ⟨gb1306, _, none⟩) NB1305_1306.out _).trans (hHeld.2.2.2.1)))))), ((cell_far (p := ⟨gb1306, _, none⟩) NB1305_1306.out _).trans (((cell_far (p := ⟨gb1306, _, none⟩) NB1305_1306.out _).trans (((cell_far (p := ⟨gb1306, _, none⟩) NB1305_1306.out _).trans (hHeld.2.2.2.2.1)))))), ((cell_far (p := ⟨gb1306, _, none⟩) NB1305_1306.out _).trans (((cell_far (p := ⟨gb1306, _, none⟩) NB1305_1306.out _).trans (((cell_far (p := ⟨gb1306, _, none⟩) NB1305_1306.out _).trans (hHeld.2.2.2.2.2))))))⟩ (fun hHeld => ?_)
   clear hK K
   refine pz_ (i := 19) (N := some 5) (zmf 20 []) ?_
   refine done_ (done_of HT_.out (by kernel_rfl)) ?_
   try go_wp2
   refine bodyPost_ret (results_ct rfl _ _ gb1306 24 #[.bool t1317, .slice Ao43 t1318.length co43, .slice Ao45 t1321.length co45] (0, 0) _ rfl (by (with_reducible repeat (first | refine blk_drewN ?_ _ | refine blk_drew ?_ | refine blk_alloc ?_ _)); refine blk_put (cs := #[.bool t1317, .slice Ao43 t1318.length co43, .slice none 0 0]) ?_ 2 _ rfl; (with_reducible repeat (first | refine blk_drewN ?_ _ | refine blk_drew ?_ | refine blk_alloc ?_ _)); refine blk_put (cs := #[.bool t1317, .slice none 0 0, .slice none 0 0]) ?_ 1 _ rfl; (with_reducible repeat (first | refine blk_drewN ?_ _ | refine blk_drew ?_ | refine blk_alloc ?_ _)); refine blk_put (cs := #[.bool false, .slice none 0 0, .slice none 0 0]) ?_ 0 _ rfl; (with_reducible repeat (first | refine blk_drewN ?_ _ | refine blk_drew ?_ | refine blk_alloc ?_ _)); exact BK1306.out) Tryd.underlying24 rfl (by kernel_rfl)) rfl ?_
   exact ⟨_, _, zq9, zwV (h := by exact Kd.V_mono (zv3 gb1306 (.bool t1317) (.slice Ao43 t1318.length co43) (.slice Ao45 t1321.length co45) HO1320.out (fun _ hk => hk.2.2.2.2)) (fun _ hk => hk.1.1)), zwV (h := by exact Kd.V_mono (zv3 gb1306 (.bool t1317) (.slice Ao43 t1318.length co43) (.slice Ao45 t1321.length co45) HO1323.out (fun _ hk => hk.2.2.2.2)) (fun _ hk => hk.1.1)), zb3 GE1304.out GE1305.out GE1306.out⟩
 ·rw [if_neg c4] at H
  have c4b0 : (t1310 == 0) = false := beq_eq_false_iff_ne.mpr c4
  have c4b1 : (t1310 != 0) = true := bne_iff_ne.mpr c4
  simp only [Option.some.injEq, Prod.mk.injEq] at H
  obtain ⟨rfl, rfl, rfl, rfl⟩ := H
  go_enter Tryd.func29, Tryd.ntmps29
  go_wp2_with (first | ((with_reducible refine gate_dst (N := 2) rfl ?_); refine zbox (N := 2) (cs := #[.bool a0_0, .slice A0_1 l0_1.length c0_1, .slice A0_2 l0_2.length c0_2]) (t := 24) ?_; intro gb1304 hg w47 hbox hb; refine zt7 (ve HO0_1 hg hb) (ve HO0_2 hg hb) (ve HO1_1 hg hb) (ve HO1_2 hg hb) (below_step zq1 hb) (hbox) ((zs hg (below_size zq1) : w.heap.size ≤ gb1304)) ?_; clear HO0_1 HO0_2 HO1_1 HO1_2 HB; intro HO0_1 HO0_2 HO1_1 HO1_2 HB BK1304 GW1304; have GE1304 := GW1304; clear hb hbox hg) | ((with_reducible refine gate_dst (N := 3) rfl ?_); refine zbox (N := 3) (cs := #[.bool a1_0, .slice A1_1 l1_1.length c1_1, .slice A1_2 l1_2.length c1_2]) (t := 24) ?_; intro gb1305 hg w48 hbox hb; refine zt10 (ve HO0_1 hg hb) (ve HO0_2 hg hb) (ve HO1_1 hg hb) (ve HO1_2 hg hb) (bb BK1304.out hb) (below_step (zb1 GE1304.out) hb) (hbox) ((zs hg (below_size (zb1 GE1304.out)) : w.heap.size ≤ gb1305)) ((by rw [hg]; exact Nat.ne_of_lt (bl BK1304.out) : gb1304 ≠ gb1305)) ((by rw [hg]; exact Nat.ne_of_gt (bl BK1304.out) : gb1305 ≠ gb1304)) ?_; clear HO0_1 HO0_2 HO1_1 HO1_2 BK1304 HB; intro HO0_1 HO0_2 HO1_1 HO1_2 BK1304 HB BK1305 GW1305 NB1304_1305 NB1305_1304; have GE1305 := GW1305; clear hb hbox hg) | ((with_reducible refine gate_dst (N := 4) rfl ?_); refine zbox (N := 4) (cs := #[.bool false, .slice none 0 0, .slice none 0 0]) (t := 24) ?_; intro gb1306 hg w49 hbox hb; refine zt13 (ve HO0_1 hg hb) (ve HO0_2 hg hb) (ve HO1_1 hg hb) (ve HO1_2 hg hb) (bb BK1304.out hb) (bb BK1305.out hb) (below_step (zb2 GE1304.out GE1305.out) hb) (hbox) ((zs hg (below_size (zb2 GE1304.out GE1305.out)) : w.heap.size ≤ gb1306)) ((by rw [hg]; exact Nat.ne_of_lt (bl BK1304.out) : gb1304 ≠ gb1306)) ((by rw [hg]; exact Nat.ne_of_gt (bl BK1304.out) : gb1306 ≠ gb1304)) ((by rw [hg]; exact Nat.ne_of_lt (bl BK1305.out) : gb1305 ≠ gb1306)) ((by rw [hg]; exact Nat.ne_of_gt (bl BK1305.out) : gb1306 ≠ gb1305)) ?_; clear HO0_1 HO0_2 HO1_1 HO1_2 BK1304 BK1305 HB; intro HO0_1 HO0_2 HO1_1 HO1_2 BK1304 BK1305 HB BK1306 GW1306 NB1304_1306 NB1306_1304 NB1305_1306 NB1306_1305; have GE1306 := GW1306; clear hb hbox hg; have hnb50 := NB1304_1305.out; have hnc50 := NB1305_1304.out; have hnb51 := NB1304_1306.out; have hnc51 := NB1306_1304.out; have hcz52_0 := bc BK1304.out 0 (.bool a0_0); have hcz52_1 := bc BK1304.out 1 (.slice A0_1 l0_1.length c0_1); have hcz52_2 := bc BK1304.out 2 (.slice A0_2 l0_2.length c0_2); have hfz52_0 := blk_frozen BK1304.out 0; have hfz52_1 := blk_frozen BK1304.out 1; have hfz52_2 := blk_frozen BK1304.out 2; have hnb53 := NB1305_1306.out; have hnc53 := NB1306_1305.out; have hcz54_0 := bc BK1305.out 0 (.bool a1_0); have hcz54_1 := bc BK1305.out 1 (.slice A1_1 l1_1.length c1_1); have hcz54_2 := bc BK1305.out 2 (.slice A1_2 l1_2.length c1_2); have hfz54_0 := blk_frozen BK1305.out 0; have hfz54_1 := blk_frozen BK1305.out 1; have hfz54_2 := blk_frozen BK1305.out 2) | ((with_reducible refine gate_dst (N := 9) rfl ?_); refine Kd.N_lit k24 _ 24 ?hg (N' := 9) ?hd (xs := ([(⟨a0_0, l0_1, l0_2⟩ : S24), (⟨a1_0, l1_1, l1_2⟩ : S24)] : List (S24))) (inner := [.bool a0_0, .slice A0_1 l0_1.length c0_1, .slice A0_2 l0_2.length c0_2, .bool a1_0, .slice A1_1 l1_1.length c1_1, .slice A1_2 l1_2.length c1_2]) (ok := (fun k_ => ((P0_1_ k_ ∨ P0_2_ k_ ∨ P1_1_ k_ ∨ P1_2_ k_) ∨ w.heap.size ≤ k_) ∧ k_ ≠ gb1304 ∧ k_ ≠ gb1305 ∧ k_ ≠ gb1306)) (okp := (fun k_ => ((P0_1_ k_ ∨ P0_2_ k_ ∨ P1_1_ k_ ∨ P1_2_ k_) ∨ w.heap.size ≤ k_) ∧ k_ ≠ gb1304 ∧ k_ ≠ gb1305 ∧ k_ ≠ gb1306)) ?hr ?hp (fun _ hk => hk) ((show ∀ k_, w49.heap.size ≤ k_ → (fun k_ => ((P0_1_ k_ ∨ P0_2_ k_ ∨ P1_1_ k_ ∨ P1_2_ k_) ∨ w.heap.size ≤ k_) ∧ k_ ≠ gb1304 ∧ k_ ≠ gb1305 ∧ k_ ≠ gb1306) k_ from fun k_ hk => ⟨(.inr (Nat.le_trans (below_size (zb3 GE1304.out GE1305.out GE1306.out)) hk)), Kd.freshB (g := gb1304) (o := .cells #[.bool a0_0, .slice A0_1 l0_1.length c0_1, .slice A0_2 l0_2.length c0_2] 24 (0, 0)) (zq2 BK1304.out) k_ hk, Kd.freshB (g := gb1305) (o := .cells #[.bool a1_0, .slice A1_1 l1_1.length c1_1, .slice A1_2 l1_2.length c1_2] 24 (0, 0)) (zq2 BK1305.out) k_ hk, Kd.freshB (g := gb1306) (o := .cells #[.bool false, .slice none 0 0, .slice none 0 0] 24 (0, 0)) (zq2 BK1306.out) k_ hk⟩) _ (Nat.le_refl _)) (Below.refl _ _) (Nat.le_refl _) (by simp) ?_; (case hd => rfl); (case hg => rfl); (case hr => exact zr); (case hp => exact (Reps.c3 (show Kd.FK k24 _ _ (⟨a0_0, l0_1, l0_2⟩ : S24) [.bool a0_0, .slice A0_1 l0_1.length c0_1, .slice A0_2 l0_2.length c0_2] from (k24_mkF _ _ (⟨a0_0, l0_1, l0_2⟩ : S24) (Kd.V_reads' (Kd.V_mono (ok' := (fun k_ => ((P0_1_ k_ ∨ P0_2_ k_ ∨ P1_1_ k_ ∨ P1_2_ k_) ∨ w.heap.size ≤ k_) ∧ k_ ≠ gb1304 ∧ k_ ≠ gb1305 ∧ k_ ≠ gb1306)) (HO0_1.out) (fun k_ hk => ⟨hk.1.1.1, ⟨hk.1.1.2, ⟨hk.1.2, hk.2⟩⟩⟩))).2.1 (Kd.V_F (Kd.V_mono (ok' := (fun k_ => ((P0_1_ k_ ∨ P0_2_ k_ ∨ P1_1_ k_ ∨ P1_2_ k_) ∨ w.heap.size ≤ k_) ∧ k_ ≠ gb1304 ∧ k_ ≠ gb1305 ∧ k_ ≠ gb1306)) (HO0_1.out) (fun k_ hk => ⟨hk.1.1.1, ⟨hk.1.1.2, ⟨hk.1.2, hk.2⟩⟩⟩))) (Kd.V_reads' (Kd.V_mono (ok' := (fun k_ => ((P0_1_ k_ ∨ P0_2_ k_ ∨ P1_1_ k_ ∨ P1_2_ k_) ∨ w.heap.size ≤ k_) ∧ k_ ≠ gb1304 ∧ k_ ≠ gb1305 ∧ k_ ≠ gb1306)) (HO0_2.out) (fun k_ hk => ⟨hk.1.1.1, ⟨hk.1.1.2, ⟨hk.1.2, hk.2⟩⟩⟩))).2.1 (Kd.V_F (Kd.V_mono (ok' := (fun k_ => ((P0_1_ k_ ∨ P0_2_ k_ ∨ P1_1_ k_ ∨ P1_2_ k_) ∨ w.heap.size ≤ k_) ∧ k_ ≠ gb1304 ∧ k_ ≠ gb1305 ∧ k_ ≠ gb1306)) (HO0_2.out) (fun k_ hk => ⟨hk.1.1.1, ⟨hk.1.1.2, ⟨hk.1.2, hk.2⟩⟩⟩))))) (Reps.c3 (show Kd.FK k24 _ _ (⟨a1_0, l1_1, l1_2⟩ : S24) [.bool a1_0, .slice A1_1 l1_1.length c1_1, .slice A1_2 l1_2.length c1_2] from (k24_mkF _ _ (⟨a1_0, l1_1, l1_2⟩ : S24) (Kd.V_reads' (Kd.V_mono (ok' := (fun k_ => ((P0_1_ k_ ∨ P0_2_ k_ ∨ P1_1_ k_ ∨ P1_2_ k_) ∨ w.heap.size ≤ k_) ∧ k_ ≠ gb1304 ∧ k_ ≠ gb1305 ∧ k_ ≠ gb1306)) (HO1_1.out) (fun k_ hk => ⟨hk.1.1.1, ⟨hk.1.1.2, ⟨hk.1.2, hk.2⟩⟩⟩))).2.1 (Kd.V_F (Kd.V_mono (ok' := (fun k_ => ((P0_1_ k_ ∨ P0_2_ k_ ∨ P1_1_ k_ ∨ P1_2_ k_) ∨ w.heap.size ≤ k_) ∧ k_ ≠ gb1304 ∧ k_ ≠ gb1305 ∧ k_ ≠ gb1306)) (HO1_1.out) (fun k_ hk => ⟨hk.1.1.1, ⟨hk.1.1.2, ⟨hk.1.2, hk.2⟩⟩⟩))) (Kd.V_reads' (Kd.V_mono (ok' := (fun k_ => ((P0_1_ k_ ∨ P0_2_ k_ ∨ P1_1_ k_ ∨ P1_2_ k_) ∨ w.heap.size ≤ k_) ∧ k_ ≠ gb1304 ∧ k_ ≠ gb1305 ∧ k_ ≠ gb1306)) (HO1_2.out) (fun k_ hk => ⟨hk.1.1.1, ⟨hk.1.1.2, ⟨hk.1.2, hk.2⟩⟩⟩))).2.1 (Kd.V_F (Kd.V_mono (ok' := (fun k_ => ((P0_1_ k_ ∨ P0_2_ k_ ∨ P1_1_ k_ ∨ P1_2_ k_) ∨ w.heap.size ≤ k_) ∧ k_ ≠ gb1304 ∧ k_ ≠ gb1305 ∧ k_ ≠ gb1306)) (HO1_2.out) (fun k_ hk => ⟨hk.1.1.1, ⟨hk.1.1.2, ⟨hk.1.2, hk.2⟩⟩⟩))))) (Reps.none _ _)))); intro v1308 w55 ho56 hb hg_ hnew_; clear hg_ hnew_; (first | rw [← Ny1307.out] at ho56 | (simp only [Int.reduceToNat] at ho56; rw [← Ny1307.out] at ho56)); refine zt9 (Kd.V_elder' (zq3 HO0_1.out) (Kd.N_base ho56) hb) (Kd.V_elder' (zq3 HO0_2.out) (Kd.N_base ho56) hb) (Kd.V_elder' (zq3 HO1_1.out) (Kd.N_base ho56) hb) (Kd.V_elder' (zq3 HO1_2.out) (Kd.N_base ho56) hb) (Kd.N_lower ho56 (below_size (zb3 GE1304.out GE1305.out GE1306.out))) (bb BK1304.out hb) (bb BK1305.out hb) (bb BK1306.out hb) (below_step (zb3 GE1304.out GE1305.out GE1306.out) hb) ?_; clear HO0_1 HO0_2 HO1_1 HO1_2 BK1304 BK1305 BK1306 HB; intro HO0_1 HO0_2 HO1_1 HO1_2 HO1309 BK1304 BK1305 BK1306 HB; clear hb ho56; obtain ⟨Ao57, co57, eo57⟩ := Kd.N_slice HO1309.out; subst eo57) | ((with_reducible refine gate_callee (f := 61) rfl ?_); refine goesL_ (some 10) rfl rfl Tryd.func61 (by kernel_rfl) rfl #[.slice Ao57 y1307.length co57] rfl zq5 ?_; (with_reducible refine (number_check.calls k _ _ y1307 t1310 _ ?side1 ?side2 A3.out).mono ?_); (case side1 => exact zc ((Kd.N_reads' HO1309.out).2.2)); (case side2 => exact (Kd.N_reads' HO1309.out).2.1); rintro e w58 ⟨rfl, hb⟩; refine ⟨_, rfl, ?_⟩; refine zt9 (vb HO0_1 hb) (vb HO0_2 hb) (vb HO1_1 hb) (vb HO1_2 hb) (Kd.N_below (by (with_reducible repeat (first | apply Kd.N_alloc | apply Kd.N_drewN | apply Kd.N_drew)); exact HO1309.out) hb) (bb BK1304.out hb) (bb BK1305.out hb) (bb BK1306.out hb) (below_step (zb3 GE1304.out GE1305.out GE1306.out) hb) ?_; clear HO0_1 HO0_2 HO1_1 HO1_2 HO1309 BK1304 BK1305 BK1306 HB; intro HO0_1 HO0_2 HO1_1 HO1_2 HO1309 BK1304 BK1305 BK1306 HB; (try clear hb); (try clear hb2); (try clear hk); (try clear hi); have hcz59_0 := bc BK1306.out 0 (.bool false); have hcz59_1 := bc BK1306.out 1 (.slice none 0 0); have hcz59_2 := bc BK1306.out 2 (.slice none 0 0); have hfz59_0 := blk_frozen BK1306.out 0; have hfz59_1 := blk_frozen BK1306.out 1; have hfz59_2 := blk_frozen BK1306.out 2))
  refine bodyPost_ret (results_ct rfl _ _ gb1306 24 #[.bool false, .slice none 0 0, .slice none 0 0] (0, 0) _ rfl (by (with_reducible repeat (first | refine blk_drewN ?_ _ | refine blk_drew ?_ | refine blk_alloc ?_ _)); refine blk_put (cs := #[.bool false, .slice none 0 0, .slice none 0 0]) ?_ 2 _ rfl; (with_reducible repeat (first | refine blk_drewN ?_ _ | refine blk_drew ?_ | refine blk_alloc ?_ _)); refine blk_put (cs := #[.bool false, .slice none 0 0, .slice none 0 0]) ?_ 1 _ rfl; (with_reducible repeat (first | refine blk_drewN ?_ _ | refine blk_drew ?_ | refine blk_alloc ?_ _)); refine blk_put (cs := #[.bool false, .slice none 0 0, .slice none 0 0]) ?_ 0 _ rfl; (with_reducible repeat (first | refine blk_drewN ?_ _ | refine blk_drew ?_ | refine blk_alloc ?_ _)); exact BK1306.out) Tryd.underlying24 rfl (by kernel_rfl)) rfl ?_
  exact ⟨_, _, zq9, Kd.V_mono (Kd.V_nil _ _ _ _ _) (fun k_ hk => by first | exact ⟨(.inr (hk.1)), hk.2⟩ | exact (.inr (hk))), Kd.V_mono (Kd.V_nil _ _ _ _ _) (fun k_ hk => by first | exact ⟨(.inr (hk.1)), hk.2⟩ | exact (.inr (hk))), zb3 GE1304.out GE1305.out GE1306.out⟩
def number_Sign.j0 : Nat → Int → Bool → Bool → List Int → List Int → Option (Int × Int)
 | 0, _, _, _, _, _ => none
 | k + 1, x4, x7, x1543000, x1543001, x1543002 => if x7 = true then (some (0, x4)) else (if x1543000 = true then (some ((-1), 0)) else (some (1, 0)))
def number_Sign.f (k : Nat) (a0_0 : Bool) (l0_1 : List Int) (l0_2 : List Int) : Option (Int × Int) := (number_Check.f k a0_0 l0_1 l0_2).bind fun t1543 => (if t1543 = 0 then (number_Sign.j0 k t1543 ((l0_1.length : Int) == 0) a0_0 l0_1 l0_2) else (number_Sign.j0 k t1543 true a0_0 l0_1 l0_2))
theorem number_Sign.mono_l : ∀ k, (∀ y0 y1 y2 y3 y4, LeO (number_Sign.j0 k y0 y1 y2 y3 y4) (number_Sign.j0 (k + 1) y0 y1 y2 y3 y4))
 | 0 => fun _ _ _ _ _ r h => by simp [number_Sign.j0] at h
 | k + 1 => by
  have ih0 := number_Sign.mono_l k
  ·intro y0 y1 y2 y3 y4
   unfold number_Sign.j0
   have m0 := ih0
   have m1 := @number_Check.mono
   exact zm
theorem number_Sign.mono : ∀ a0 a1 a2 k, LeO (number_Sign.f k a0 a1 a2) (number_Sign.f (k + 1) a0 a1 a2) := by
 intro a0 a1 a2 k
 have ih0 := number_Sign.mono_l k
 unfold number_Sign.f
 have m0 := ih0
 have m1 := @number_Check.mono
 exact zm
set_option maxHeartbeats 8000000 in
set_option maxRecDepth 100000 in
theorem number_Sign.calls (k : Nat) (a0_0 : Bool) (A0_1 : Option Addr) (c0_1 : Nat) (l0_1 : List Int) (A0_2 : Option Addr) (c0_2 : Nat) (l0_2 : List Int) (r1 : Int) (r2 : Int) (w : World) (hr0_1 : Kd.C (Kd.int .u32) w A0_1 l0_1.length l0_1) (hc0_1 : l0_1.length ≤ c0_1) (hr0_2 : Kd.C (Kd.int .u32) w A0_2 l0_2.length l0_2) (hc0_2 : l0_2.length ≤ c0_2) (h : number_Sign.f k a0_0 l0_1 l0_2 = some (r1, r2)) :
  Calls Tryd.prog 30 #[.agg #[.bool a0_0, .slice A0_1 l0_1.length c0_1, .slice A0_2 l0_2.length c0_2]] w fun e w' => e = .returned (.tuple #[.int .i64 r1, .int .i64 r2]) ∧ Below w.heap.size w w' := by
 have hu24 := Tryd.underlying24
 have HR0_1 := am hr0_1
 have HC0_1 := am hc0_1
 clear hr0_1 hc0_1
 have HR0_2 := am hr0_2
 have HC0_2 := am hc0_2
 clear hr0_2 hc0_2
 have HB := am (Below.refl w.heap.size w)
 have H := h
 unfold number_Sign.f at H
 clear h
 replace H := zj H
 obtain ⟨t1543, A2, H⟩ := H
 have HC3 := am H
 clear H
 go_enter Tryd.func30, Tryd.ntmps30
 go_upto_region 2 with (first | ((with_reducible refine gate_dst (N := 1) rfl ?_); (try (refine gate_guard (by rfl) ?_; dsimp only)); refine zbox (N := 1) (cs := #[.bool a0_0, .slice A0_1 l0_1.length c0_1, .slice A0_2 l0_2.length c0_2]) (t := 24) ?_; intro gb1542 hg w4 hbox hb; refine zt3 (below_step zq1 hb) (hbox) ((zs hg (below_size zq1) : w.heap.size ≤ gb1542)) ?_; clear HB; intro HB BK1542 GW1542; have GE1542 := GW1542; clear hb hbox hg; have hcz5_0 := bc BK1542.out 0 (.bool a0_0); have hcz5_1 := bc BK1542.out 1 (.slice A0_1 l0_1.length c0_1); have hcz5_2 := bc BK1542.out 2 (.slice A0_2 l0_2.length c0_2); have hfz5_0 := blk_frozen BK1542.out 0; have hfz5_1 := blk_frozen BK1542.out 1; have hfz5_2 := blk_frozen BK1542.out 2) | ((with_reducible refine gate_callee (f := 14) rfl ?_); refine goesL_ (some 6) rfl rfl Tryd.func14 (by kernel_rfl) rfl #[.agg #[.bool a0_0, .slice A0_1 l0_1.length c0_1, .slice A0_2 l0_2.length c0_2]] rfl zq5 ?_; (with_reducible refine (number_Check.calls k a0_0 _ _ l0_1 _ _ l0_2 t1543 _ ?side1 ?side2 ?side3 ?side4 A2.out).mono ?_); (case side1 => exact zc (Kd.C_below HR0_1.out HB.out)); (case side2 => exact HC0_1.out); (case side3 => exact zc (Kd.C_below HR0_2.out HB.out)); (case side4 => exact HC0_2.out); rintro e w6 ⟨rfl, hb⟩; refine ⟨_, rfl, ?_⟩; refine zt2 (bb BK1542.out hb) (below_step (zb1 GE1542.out) hb) ?_; clear BK1542 HB; intro BK1542 HB; (try clear hb); (try clear hb2); (try clear hk); (try clear hi)))
 (try simp only [Act.put, List.setIfInBounds_toArray, List.set_cons_zero, List.set_cons_succ])
 go_cut [7] (fun v7 wc => ∃ (kq : Nat) (x7_2 : Bool), v7 = .bool x7_2 ∧ Aside0 (number_Sign.j0 kq t1543 x7_2 a0_0 l0_1 l0_2 = some (r1, r2)) ∧ Aside0 (kq ≤ k) ∧ Aside0 (wc.heap[gb1542]? = some (.cells #[.bool a0_0, (.slice A0_1 l0_1.length c0_1), (.slice A0_2 l0_2.length c0_2)] 24 (0, 0))) ∧ Aside0 (Below w.heap.size w wc))
 case first =>
  have H := HC3.out
  clear HC3
  by_cases c7 : t1543 = 0
  ·rw [if_pos c7] at H
   have c7b0 : (t1543 == 0) = true := beq_iff_eq.mpr c7
   have c7b1 : (t1543 != 0) = false := bne_eq_false_iff_eq.mpr c7
   clear c7
   (first | rw [c7b0] | (simp only [i64_w, i32_w]; rw [c7b0]) | skip)
   have H' := am H
   clear H
   have hcz8_0 := bc BK1542.out 0 (.bool a0_0)
   have hcz8_1 := bc BK1542.out 1 (.slice A0_1 l0_1.length c0_1)
   have hcz8_2 := bc BK1542.out 2 (.slice A0_2 l0_2.length c0_2)
   have hfz8_0 := blk_frozen BK1542.out 0
   have hfz8_1 := blk_frozen BK1542.out 1
   have hfz8_2 := blk_frozen BK1542.out 2
   go_wp2
   go_meet
   case rel => exact ⟨_, (((l0_1.length : Int) == 0)), zq8, H', ⟨by first | omega | exact Nat.le_refl _⟩, ⟨zq2 BK1542.out⟩, ⟨zb1 GE1542.out⟩⟩
  ·rw [if_neg c7] at H
   have c7b0 : (t1543 == 0) = false := beq_eq_false_iff_ne.mpr c7
   have c7b1 : (t1543 != 0) = true := bne_iff_ne.mpr c7
   (first | rw [c7b0] | (simp only [i64_w, i32_w]; rw [c7b0]) | skip)
   have H' := am H
   clear H
   go_wp2
   go_meet
   case rel => exact ⟨_, (true), zq8, H', ⟨by first | omega | exact Nat.le_refl _⟩, ⟨zq2 BK1542.out⟩, ⟨zb1 GE1542.out⟩⟩
 case rest =>
  clear HC3
  obtain ⟨kq, x7_2, rfl, HA, HJ2, BK1542, HB⟩ := hcut
  cases kq with
  | zero => exact absurd HA.out (by simp [number_Sign.j0])
  | succ kj2 =>
   have H := HA.out
   clear HA
   simp only [number_Sign.j0] at H
   by_cases c9 : x7_2 = true
   ·subst c9
    have H1 : (some (0, t1543)) = some (r1, r2) := by rw [if_pos rfl] at H; exact H
    clear H
    have H := H1
    clear H1
    simp only [Option.some.injEq, Prod.mk.injEq] at H
    obtain ⟨rfl, rfl⟩ := H
    go_wp2
    go_ret2
    exact ⟨zq9, zb1 GE1542.out⟩
   ·replace c9 := Bool.eq_false_iff.mpr c9
    subst c9
    have H1 : (if a0_0 = true then (some ((-1), 0)) else (some (1, 0))) = some (r1, r2) := by rw [if_neg (show ¬ (false = true) by decide)] at H; exact H
    clear H
    have H := H1
    clear H1
    by_cases c10 : a0_0 = true
    ·subst c10
     have H1 : (some ((-1), 0)) = some (r1, r2) := by rw [if_pos rfl] at H; exact H
     clear H
     have H := H1
     clear H1
     simp only [Option.some.injEq, Prod.mk.injEq] at H
     obtain ⟨rfl, rfl⟩ := H
     have hcz11_0 := bc BK1542.out 0 (.bool true)
     have hcz11_1 := bc BK1542.out 1 (.slice A0_1 l0_1.length c0_1)
     have hcz11_2 := bc BK1542.out 2 (.slice A0_2 l0_2.length c0_2)
     have hfz11_0 := blk_frozen BK1542.out 0
     have hfz11_1 := blk_frozen BK1542.out 1
     have hfz11_2 := blk_frozen BK1542.out 2
     go_wp2
     go_ret2
     exact ⟨zq9, zb1 GE1542.out⟩
    ·replace c10 := Bool.eq_false_iff.mpr c10
     subst c10
     have H1 : (some (1, 0)) = some (r1, r2) := by rw [if_neg (show ¬ (false = true) by decide)] at H; exact H
     clear H
     have H := H1
     clear H1
     simp only [Option.some.injEq, Prod.mk.injEq] at H
     obtain ⟨rfl, rfl⟩ := H
     have hcz12_0 := bc BK1542.out 0 (.bool false)
     have hcz12_1 := bc BK1542.out 1 (.slice A0_1 l0_1.length c0_1)
     have hcz12_2 := bc BK1542.out 2 (.slice A0_2 l0_2.length c0_2)
     have hfz12_0 := blk_frozen BK1542.out 0
     have hfz12_1 := blk_frozen BK1542.out 1
     have hfz12_2 := blk_frozen BK1542.out 2
     go_wp2
     go_ret2
     exact ⟨zq9, zb1 GE1542.out⟩
end Go.Proofs.YtemnjgkicndmjaaDoor.Q

