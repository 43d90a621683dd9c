/- What this text proves: a part of the walk and of the plain laws of one card; no conditions. -/
import Derived.Test.YtemnjgkicndmjaaGreatDoorQb1
import Derived.Laws.BitsAllLaws
import Derived.Laws.BitsLemmas
import Derived.LoopN
import Derived.Orders
import Derived.Laws.CopyRow
import Derived.Laws.Small
namespace Go.Proofs.YtemnjgkicndmjaaGreatDoor.Q
open Go.RowKit Go.Proofs.YtemnjgkicndmjaaGreatDoorW.PrintWords Go.Proofs.YtemnjgkicndmjaaGreatDoorW.PrintLast Go.Proofs.YtemnjgkicndmjaaGreatDoorW.PrintMore
attribute [local go_sem] max2_int min2_int max_two min_two max_three min_three max_four min_four
set_option linter.unusedVariables false
set_option linter.unusedSimpArgs false
mutual
def nat_digit.j2 : Nat → List Int → List Int → Int → Int → Option (Int × List Int)
 | 0, _, _, _, _ => none
 | k + 1, x0, x1, x5, x7 => nat_digit.l1 k x0 x1 x5 x7 0 0 (x1.length : Int) 0
def nat_digit.l1 : Nat → List Int → List Int → Int → Int → Int → Int → Int → Int → Option (Int × List Int)
 | 0, _, _, _, _, _, _, _, _ => none
 | k + 1, x0, x1, x5, x7, x9, x10, x83, x84 => if x84 < x83 then (if 0 ≤ x84 then (if x84 < (x1.length : Int) then (if x84 < (x0.length : Int) then (nat_digit.l1 k (x0.set (x84 : Int).toNat ((IntKind.u64.wrap ((IntKind.u64.wrap ((IntKind.u64.wrap (rd x0 x84)) - ((IntKind.u64.wrap (x10 + (IntKind.u64.wrap (x7 * (IntKind.u64.wrap (rd x1 x84)))))) % 4294967296))) - x9)) % 4294967296)) x1 x5 x7 (Go.bits .and .u64 ((IntKind.u64.wrap ((IntKind.u64.wrap ((IntKind.u64.wrap (rd x0 x84)) - ((IntKind.u64.wrap (x10 + (IntKind.u64.wrap (x7 * (IntKind.u64.wrap (rd x1 x84)))))) % 4294967296))) - x9)) / 4294967296) 1) ((IntKind.u64.wrap (x10 + (IntKind.u64.wrap (x7 * (IntKind.u64.wrap (rd x1 x84)))))) / 4294967296) x83 (wrap64 (x84 + 1))) else (none)) else (none)) else (none)) else (if 0 ≤ x5 then (if x5 < (x0.length : Int) then ((some (x0.set (x5 : Int).toNat ((IntKind.u64.wrap ((IntKind.u64.wrap ((IntKind.u64.wrap (rd x0 x5)) - x10)) - x9)) % 4294967296) : List Int)).bind fun y167 => (if (Go.bits .and .u64 ((IntKind.u64.wrap ((IntKind.u64.wrap ((IntKind.u64.wrap (rd x0 x5)) - x10)) - x9)) / 4294967296) 1) = 0 then (some ((x7) % 4294967296, y167)) else (nat_digit.l2 k y167 x1 x5 x7 0 (x1.length : Int) 0))) else (none)) else (none))
def nat_digit.l2 : Nat → List Int → List Int → Int → Int → Int → Int → Int → Option (Int × List Int)
 | 0, _, _, _, _, _, _, _ => none
 | k + 1, x0, x1, x5, x7, x10, x139, x140 => if x140 < x139 then (if 0 ≤ x140 then (if x140 < (x0.length : Int) then (if x140 < (x1.length : Int) then (nat_digit.l2 k (x0.set (x140 : Int).toNat ((IntKind.u64.wrap (x10 + (IntKind.u64.wrap ((IntKind.u64.wrap (rd x0 x140)) + (IntKind.u64.wrap (rd x1 x140)))))) % 4294967296)) x1 x5 x7 ((IntKind.u64.wrap (x10 + (IntKind.u64.wrap ((IntKind.u64.wrap (rd x0 x140)) + (IntKind.u64.wrap (rd x1 x140)))))) / 4294967296) x139 (wrap64 (x140 + 1))) else (none)) else (none)) else (none)) else (if 0 ≤ x5 then (if x5 < (x0.length : Int) then (some ((IntKind.u64.wrap (x7 - 1)) % 4294967296, (x0.set (x5 : Int).toNat (((rd x0 x5) + ((x10) % 4294967296)) % 4294967296)))) else (none)) else (none))
def nat_digit.l0 : Nat → List Int → List Int → Int → Int → Int → Option (Int × List Int)
 | 0, _, _, _, _, _ => none
 | k + 1, x0, x1, x5, x7, x8 => if (x7 / 4294967296) > 0 then (nat_digit.j1 k x0 x1 x5 x7 x8 true) else (if 0 ≤ (wrap64 (x5 - 2)) then (if (wrap64 (x5 - 2)) < (x1.length : Int) then (if (wrap64 (x5 - 2)) < (x0.length : Int) then (nat_digit.j1 k x0 x1 x5 x7 x8 (decide ((IntKind.u64.wrap (x7 * (IntKind.u64.wrap (rd x1 (wrap64 (x5 - 2)))))) > (Go.bits .or .u64 (IntKind.u64.wrap (x8 * 4294967296)) (IntKind.u64.wrap (rd x0 (wrap64 (x5 - 2)))))))) else (none)) else (none)) else (none))
def nat_digit.j1 : Nat → List Int → List Int → Int → Int → Int → Bool → Option (Int × List Int)
 | 0, _, _, _, _, _, _ => none
 | k + 1, x0, x1, x5, x7, x8, x68 => if x68 = true then (if 0 ≤ (wrap64 (x5 - 1)) then (if (wrap64 (x5 - 1)) < (x1.length : Int) then (if ((IntKind.u64.wrap (x8 + (IntKind.u64.wrap (rd x1 (wrap64 (x5 - 1)))))) / 4294967296) > 0 then (nat_digit.j2 k x0 x1 x5 (IntKind.u64.wrap (x7 - 1))) else (nat_digit.l0 k x0 x1 x5 (IntKind.u64.wrap (x7 - 1)) (IntKind.u64.wrap (x8 + (IntKind.u64.wrap (rd x1 (wrap64 (x5 - 1)))))))) else (none)) else (none)) else (nat_digit.j2 k x0 x1 x5 x7)
end
def nat_digit.f (k : Nat) (l0 : List Int) (l1 : List Int) : Option (Int × List Int) := if 0 ≤ (l1.length : Int) then (if (l1.length : Int) < (l0.length : Int) then (if 0 ≤ (wrap64 ((l1.length : Int) - 1)) then (if (wrap64 ((l1.length : Int) - 1)) < (l0.length : Int) then (if (wrap64 ((l1.length : Int) - 1)) < (l1.length : Int) then (if (IntKind.u64.wrap (rd l1 (wrap64 ((l1.length : Int) - 1)))) = 0 then (none) else (nat_digit.l0 k l0 l1 (l1.length : Int) (IntKind.u64.wrap (Int.tdiv (Go.bits .or .u64 (IntKind.u64.wrap ((IntKind.u64.wrap (rd l0 (l1.length : Int))) * 4294967296)) (IntKind.u64.wrap (rd l0 (wrap64 ((l1.length : Int) - 1))))) (IntKind.u64.wrap (rd l1 (wrap64 ((l1.length : Int) - 1)))))) (Int.tmod (Go.bits .or .u64 (IntKind.u64.wrap ((IntKind.u64.wrap (rd l0 (l1.length : Int))) * 4294967296)) (IntKind.u64.wrap (rd l0 (wrap64 ((l1.length : Int) - 1))))) (IntKind.u64.wrap (rd l1 (wrap64 ((l1.length : Int) - 1))))))) else (none)) else (none)) else (none)) else (none)) else (none)
set_option maxHeartbeats 8000000 in
set_option maxRecDepth 100000 in
theorem nat_digit.callsW (pr_ po_ : List Int) (nW_ cW_ : Nat) (k : Nat) (P0_ : Nat → Prop) (u9000_ : Value) (l0 : List Int) (A1 : Option Addr) (c1 : Nat) (l1 : List Int) (r1 : Int) (r2 : List Int) (w0 w : World) (hB : Below w0.heap.size w0 w) (ho0 : Wd pr_ po_ nW_ cW_ .u32 73 w w0.heap.size P0_ u9000_ l0) (hr1 : ∀ W_, Kept w W_ (fun k_ => P0_ k_) → Kd.C (Kd.int .u32) W_ A1 l1.length l1) (hc1 : l1.length ≤ c1) (h : nat_digit.f k l0 l1 = some (r1, r2)) :
  Calls Tryz.prog 96 #[u9000_, .slice A1 l1.length c1] w fun e w' => e = .returned (.int .u32 r1) ∧ Wd pr_ po_ nW_ cW_ .u32 73 w' w0.heap.size (fun k_ => (P0_ k_ ∨ w.heap.size ≤ k_)) u9000_ r2 ∧ Below w0.heap.size w0 w' ∧ Kept w w' (fun k_ => P0_ k_) := by
 have HO0 := am (show Wd pr_ po_ nW_ cW_ .u32 73 w w0.heap.size (fun k_ => (P0_ k_ ∨ w.heap.size ≤ k_)) u9000_ l0 from Wd_mono ho0 (fun k_ hk => (.inl hk)))
 have HR1 := am hr1
 have HC1 := am hc1
 clear hr1 hc1
 have HK := am (Kept.refl w (fun k_ => P0_ k_))
 have HW0 := am hB.size
 have HB := am hB
 clear hB
 have H : (if 0 ≤ (l1.length : Int) then (if (l1.length : Int) < (l0.length : Int) then (if 0 ≤ (wrap64 ((l1.length : Int) - 1)) then (if (wrap64 ((l1.length : Int) - 1)) < (l0.length : Int) then (if (wrap64 ((l1.length : Int) - 1)) < (l1.length : Int) then (if (IntKind.u64.wrap (rd l1 (wrap64 ((l1.length : Int) - 1)))) = 0 then (none) else (nat_digit.l0 k l0 l1 (l1.length : Int) (IntKind.u64.wrap (Int.tdiv (Go.bits .or .u64 (IntKind.u64.wrap ((IntKind.u64.wrap (rd l0 (l1.length : Int))) * 4294967296)) (IntKind.u64.wrap (rd l0 (wrap64 ((l1.length : Int) - 1))))) (IntKind.u64.wrap (rd l1 (wrap64 ((l1.length : Int) - 1)))))) (Int.tmod (Go.bits .or .u64 (IntKind.u64.wrap ((IntKind.u64.wrap (rd l0 (l1.length : Int))) * 4294967296)) (IntKind.u64.wrap (rd l0 (wrap64 ((l1.length : Int) - 1))))) (IntKind.u64.wrap (rd l1 (wrap64 ((l1.length : Int) - 1))))))) else (none)) else (none)) else (none)) else (none)) else (none)) = some (r1, r2) := h
 clear h
 replace H := zn H
 obtain ⟨c3, H⟩ := H
 have c3b0 := decide_eq_true c3
 have c3b1 : decide (0 ≤ l1.length) = true := decide_eq_true (by omega)
 clear c3
 replace H := zn H
 obtain ⟨c4, H⟩ := H
 have c4b0 := decide_eq_true c4
 have c4b1 : decide (l1.length < l0.length) = true := decide_eq_true (Int.ofNat_lt.mp c4)
 clear c4
 obtain ⟨ji5, hji5⟩ : ∃ j_ : Int, (wrap64 ((l1.length : Int) - 1)) = j_ := ⟨_, rfl⟩
 replace H : (if 0 ≤ (ji5) then (if (ji5) < (l0.length : Int) then (if (ji5) < (l1.length : Int) then (if (IntKind.u64.wrap (rd l1 (ji5))) = 0 then (none) else (nat_digit.l0 k l0 l1 (l1.length : Int) (IntKind.u64.wrap (Int.tdiv (Go.bits .or .u64 (IntKind.u64.wrap ((IntKind.u64.wrap (rd l0 (l1.length : Int))) * 4294967296)) (IntKind.u64.wrap (rd l0 (ji5)))) (IntKind.u64.wrap (rd l1 (ji5))))) (Int.tmod (Go.bits .or .u64 (IntKind.u64.wrap ((IntKind.u64.wrap (rd l0 (l1.length : Int))) * 4294967296)) (IntKind.u64.wrap (rd l0 (ji5)))) (IntKind.u64.wrap (rd l1 (ji5)))))) else (none)) else (none)) else (none)) = some (r1, r2) := by first | (rw [hji5] at H; exact H) | (simp only [hji5] at H ⊢; exact H)
 have hji5w : (IntKind.i64.wrap ((l1.length : Int) - 1)) = ji5 := (i64_w _).trans hji5
 replace H := zn H
 obtain ⟨c6, H⟩ := H
 have c6b0 := decide_eq_true c6
 clear c6
 replace H := zn H
 obtain ⟨c7, H⟩ := H
 have c7b0 := decide_eq_true c7
 clear c7
 replace H := zn H
 obtain ⟨c8, H⟩ := H
 have c8b0 := decide_eq_true c8
 clear c8
 replace H := zo H
 obtain ⟨c9, H⟩ := H
 have c9b0 : ((IntKind.u64.wrap (rd l1 (ji5))) == 0) = false := beq_eq_false_iff_ne.mpr c9
 have c9b1 : ((IntKind.u64.wrap (rd l1 (ji5))) != 0) = true := bne_iff_ne.mpr c9
 have HC10 := am H
 clear H
 obtain ⟨Ao11, co11, eo11⟩ := Wd_slice HO0.out
 subst eo11
 have p156 : 0 ≤ ((l1.length : Int) : Int) := zq6
 have q156 : (l1.length : Int) < (l0.length : Int) := zq6
 obtain ⟨ad156, e156, hx156_0⟩ := Kd.at_int (Wd_reads' HO0.out).2.2 (l1.length : Int) p156 q156
 cases e156
 (try simp only [Go.IntWalk.toNatUp] at hx156_0)
 replace p156 := eq_true p156
 replace q156 := eq_true q156
 have p157 : 0 ≤ ((ji5) : Int) := zq6
 have q157 : (ji5) < (l0.length : Int) := zq6
 obtain ⟨ad157, e157, hx157_0⟩ := Kd.at_int (Wd_reads' HO0.out).2.2 (ji5) p157 q157
 obtain rfl : ad156 = ad157 := (by injection e157)
 replace p157 := eq_true p157
 replace q157 := eq_true q157
 have p158 : 0 ≤ ((ji5) : Int) := zq6
 have q158 : (ji5) < (l1.length : Int) := zq6
 obtain ⟨ad158, e158, hx158_0⟩ := Kd.at_int (Kd.C_kept_now HR1.out HK.out) (ji5) p158 q158
 cases e158
 replace p158 := eq_true p158
 replace q158 := eq_true q158
 have p159 : 0 ≤ ((ji5) : Int) := zq6
 have q159 : (ji5) < (l1.length : Int) := zq6
 obtain ⟨ad159, e159, hx159_0⟩ := Kd.at_int (Kd.C_kept_now HR1.out HK.out) (ji5) p159 q159
 obtain rfl : ad158 = ad159 := (by injection e159)
 replace p159 := eq_true p159
 replace q159 := eq_true q159
 go_enter Tryz.func96, Tryz.ntmps96
 go_upto_block 0 with (fail)
 repeat (go_quiet (fail); go_upto_block 0 with (fail))
 go_cut [7] (fun v7 wc => ∃ (kq : Nat) (x7_9 : Int), v7 = .int .u64 x7_9 ∧ Aside0 (nat_digit.j2 kq l0 l1 (l1.length : Int) x7_9 = some (r1, r2)) ∧ Aside0 (kq ≤ k) ∧ Aside0 (Wd pr_ po_ nW_ cW_ .u32 73 wc w0.heap.size (fun k_ => (P0_ k_ ∨ w.heap.size ≤ k_)) (.slice (some ad156) l0.length co11) l0) ∧ Aside0 (Kept w wc (fun k_ => P0_ k_)) ∧ Aside0 (Below w0.heap.size w0 wc))
 case first =>
  have H := HC10.out
  clear HC10
  have H' := am H
  clear H
  go_wp2
  repeat (go_quiet (fail); try go_wp2)
  go_loopg [7, 8] k (fun kq v7 v8 w' => ∃ (x7_1 : Int) (x8_1 : Int), v7 = .int .u64 x7_1 ∧ v8 = .int .u64 x8_1 ∧ Aside0 (nat_digit.l0 kq l0 l1 (l1.length : Int) x7_1 x8_1 = some (r1, r2)) ∧ Aside0 (kq ≤ k) ∧ Aside0 (Wd pr_ po_ nW_ cW_ .u32 73 w' w0.heap.size (fun k_ => (P0_ k_ ∨ w.heap.size ≤ k_)) (.slice (some ad156) l0.length co11) l0) ∧ Aside0 (Kept w w' (fun k_ => P0_ k_)) ∧ Aside0 (Below w0.heap.size w0 w'))
  case atStart => exact ⟨(IntKind.u64.wrap (Int.tdiv (Go.bits .or .u64 (IntKind.u64.wrap ((IntKind.u64.wrap (rd l0 (l1.length : Int))) * 4294967296)) (IntKind.u64.wrap (rd l0 (ji5)))) (IntKind.u64.wrap (rd l1 (ji5))))), (Int.tmod (Go.bits .or .u64 (IntKind.u64.wrap ((IntKind.u64.wrap (rd l0 (l1.length : Int))) * 4294967296)) (IntKind.u64.wrap (rd l0 (ji5)))) (IntKind.u64.wrap (rd l1 (ji5)))), (by first | rfl | (simp; done) | (simp only [← hji5] <;> (first | rfl | simp)) | (simp [*]; done)), (by first | rfl | (simp; done) | (simp only [← hji5] <;> (first | rfl | simp)) | (simp [*]; done)), H', ⟨Nat.le_refl _⟩, ⟨by (with_reducible repeat (first | apply Wd_alloc | apply Wd_drewN | apply Wd_drew)); exact HO0.out⟩, ⟨by repeat (first | (with_reducible first | exact HK.out | apply Kept.alloc | apply Kept.drewN | apply Kept.drew) | exact HK.out)⟩, ⟨zq1⟩⟩
  case round =>
   clear H'
   obtain ⟨x7_1, x8_1, rfl, rfl, HA, HK1, HO_0, HK, HB⟩ := hrel
   cases gk with
   | zero => exact absurd HA.out (by simp [nat_digit.l0])
   | succ k1 =>
    have H := HA.out
    clear HA
    simp only [nat_digit.l0] at H
    have HC12 := am H
    clear H
    go_upto_region 4 with (fail)
    repeat (go_quiet (fail); go_upto_region 4 with (fail))
    go_cut [68] (fun v68 wc => ∃ (kq : Nat) (x68_11 : Bool), v68 = .bool x68_11 ∧ Aside0 (nat_digit.j1 kq l0 l1 (l1.length : Int) x7_1 x8_1 x68_11 = some (r1, r2)) ∧ Aside0 (kq ≤ k1) ∧ Aside0 (Wd pr_ po_ nW_ cW_ .u32 73 wc w0.heap.size (fun k_ => (P0_ k_ ∨ w.heap.size ≤ k_)) (.slice (some ad156) l0.length co11) l0) ∧ Aside0 (Kept w wc (fun k_ => P0_ k_)) ∧ Aside0 (Below w0.heap.size w0 wc))
    case first =>
     have H := HC12.out
     clear HC12
     by_cases c13 : (x7_1 / 4294967296) > 0
     ·rw [if_pos c13] at H
      have c13b0 : decide (0 < (x7_1 / 4294967296)) = true := decide_eq_true c13
      clear c13
      (first | rw [c13b0] | (simp only [i64_w, i32_w]; rw [c13b0]) | skip)
      have H' := am H
      clear H
      go_wp2
      repeat (go_quiet (fail); try go_wp2)
      go_meet
      case rel => exact ⟨_, (true), zq8, (by first | exact H' | (rw [hji5]; exact H')), ⟨by have := HK1.out; first | omega | exact Nat.le_refl _⟩, ⟨by (with_reducible repeat (first | apply Wd_alloc | apply Wd_drewN | apply Wd_drew)); exact HO_0.out⟩, ⟨by repeat (first | (with_reducible first | exact HK.out | apply Kept.alloc | apply Kept.drewN | apply Kept.drew) | exact HK.out)⟩, ⟨zq1⟩⟩
     ·rw [if_neg c13] at H
      have c13b0 : decide (0 < (x7_1 / 4294967296)) = false := decide_eq_false c13
      clear c13
      (first | rw [c13b0] | (simp only [i64_w, i32_w]; rw [c13b0]) | skip)
      obtain ⟨ji14, hji14⟩ : ∃ j_ : Int, (wrap64 ((l1.length : Int) - 2)) = j_ := ⟨_, rfl⟩
      replace H : (if 0 ≤ (ji14) then (if (ji14) < (l1.length : Int) then (if (ji14) < (l0.length : Int) then (nat_digit.j1 k1 l0 l1 (l1.length : Int) x7_1 x8_1 (decide ((IntKind.u64.wrap (x7_1 * (IntKind.u64.wrap (rd l1 (ji14))))) > (Go.bits .or .u64 (IntKind.u64.wrap (x8_1 * 4294967296)) (IntKind.u64.wrap (rd l0 (ji14))))))) else (none)) else (none)) else (none)) = some (r1, r2) := by first | (rw [hji14] at H; exact H) | (simp only [hji14] at H ⊢; exact H)
      have hji14w : (IntKind.i64.wrap ((l1.length : Int) - 2)) = ji14 := (i64_w _).trans hji14
      replace H := zn H
      obtain ⟨c15, H⟩ := H
      have c15b0 := decide_eq_true c15
      clear c15
      replace H := zn H
      obtain ⟨c16, H⟩ := H
      have c16b0 := decide_eq_true c16
      clear c16
      replace H := zn H
      obtain ⟨c17, H⟩ := H
      have c17b0 := decide_eq_true c17
      clear c17
      have H' := am H
      clear H
      have p160 : 0 ≤ ((ji14) : Int) := zq6
      have q160 : (ji14) < (l1.length : Int) := zq6
      obtain ⟨ad160, e160, hx160_0⟩ := Kd.at_int (Kd.C_kept_now HR1.out HK.out) (ji14) p160 q160
      obtain rfl : ad158 = ad160 := (by injection e160)
      replace p160 := eq_true p160
      replace q160 := eq_true q160
      have p161 : 0 ≤ ((ji14) : Int) := zq6
      have q161 : (ji14) < (l0.length : Int) := zq6
      obtain ⟨ad161, e161, hx161_0⟩ := Kd.at_int (Wd_reads' HO_0.out).2.2 (ji14) p161 q161
      obtain rfl : ad156 = ad161 := (by injection e161)
      replace p161 := eq_true p161
      replace q161 := eq_true q161
      go_wp2
      repeat (go_quiet (fail); try go_wp2)
      go_meet
      case rel => exact ⟨_, (decide ((IntKind.u64.wrap (x7_1 * (IntKind.u64.wrap (rd l1 (ji14))))) > (Go.bits .or .u64 (IntKind.u64.wrap (x8_1 * 4294967296)) (IntKind.u64.wrap (rd l0 (ji14)))))), (by first | rfl | (simp; done) | (simp only [← hji14] <;> (first | rfl | simp)) | (simp [*]; done)), (by first | exact H' | (rw [hji5]; exact H') | (rw [hji14]; exact H')), ⟨by have := HK1.out; first | omega | exact Nat.le_refl _⟩, ⟨by (with_reducible repeat (first | apply Wd_alloc | apply Wd_drewN | apply Wd_drew)); exact HO_0.out⟩, ⟨by repeat (first | (with_reducible first | exact HK.out | apply Kept.alloc | apply Kept.drewN | apply Kept.drew) | exact HK.out)⟩, ⟨zq1⟩⟩
    case rest =>
     clear HC12
     obtain ⟨kq, x68_11, rfl, HA, HJ11, HO_0, HK, HB⟩ := hcut
     cases kq with
     | zero => exact absurd HA.out (by simp [nat_digit.j1])
     | succ kj11 =>
      have H := HA.out
      clear HA
      simp only [nat_digit.j1] at H
      by_cases c18 : x68_11 = true
      ·subst c18
       have H1 : (if 0 ≤ (wrap64 ((l1.length : Int) - 1)) then (if (wrap64 ((l1.length : Int) - 1)) < (l1.length : Int) then (if ((IntKind.u64.wrap (x8_1 + (IntKind.u64.wrap (rd l1 (wrap64 ((l1.length : Int) - 1)))))) / 4294967296) > 0 then (nat_digit.j2 kj11 l0 l1 (l1.length : Int) (IntKind.u64.wrap (x7_1 - 1))) else (nat_digit.l0 kj11 l0 l1 (l1.length : Int) (IntKind.u64.wrap (x7_1 - 1)) (IntKind.u64.wrap (x8_1 + (IntKind.u64.wrap (rd l1 (wrap64 ((l1.length : Int) - 1)))))))) else (none)) else (none)) = some (r1, r2) := by rw [if_pos rfl] at H; exact H
       clear H
       have H := H1
       clear H1
       obtain ⟨ji19, hji19⟩ : ∃ j_ : Int, (wrap64 ((l1.length : Int) - 1)) = j_ := ⟨_, rfl⟩
       (try clear hji5w); (try clear hji5)
       replace H : (if 0 ≤ (ji19) then (if (ji19) < (l1.length : Int) then (if ((IntKind.u64.wrap (x8_1 + (IntKind.u64.wrap (rd l1 (ji19))))) / 4294967296) > 0 then (nat_digit.j2 kj11 l0 l1 (l1.length : Int) (IntKind.u64.wrap (x7_1 - 1))) else (nat_digit.l0 kj11 l0 l1 (l1.length : Int) (IntKind.u64.wrap (x7_1 - 1)) (IntKind.u64.wrap (x8_1 + (IntKind.u64.wrap (rd l1 (ji19))))))) else (none)) else (none)) = some (r1, r2) := by first | (rw [hji19] at H; exact H) | (simp only [hji19] at H ⊢; exact H)
       have hji19w : (IntKind.i64.wrap ((l1.length : Int) - 1)) = ji19 := (i64_w _).trans hji19
       replace H := zn H
       obtain ⟨c20, H⟩ := H
       have c20b0 := decide_eq_true c20
       clear c20
       replace H := zn H
       obtain ⟨c21, H⟩ := H
       have c21b0 := decide_eq_true c21
       clear c21
       by_cases c22 : ((IntKind.u64.wrap (x8_1 + (IntKind.u64.wrap (rd l1 (ji19))))) / 4294967296) > 0
       ·rw [if_pos c22] at H
        have c22b0 : decide (0 < ((IntKind.u64.wrap (x8_1 + (IntKind.u64.wrap (rd l1 (ji19))))) / 4294967296)) = true := decide_eq_true c22
        clear c22
        have H' := am H
        clear H
        have p162 : 0 ≤ ((ji19) : Int) := zq6
        have q162 : (ji19) < (l1.length : Int) := zq6
        obtain ⟨ad162, e162, hx162_0⟩ := Kd.at_int (Kd.C_kept_now HR1.out HK.out) (ji19) p162 q162
        obtain rfl : ad158 = ad162 := (by injection e162)
        replace p162 := eq_true p162
        replace q162 := eq_true q162
        go_wp2
        repeat (go_quiet (fail); try go_wp2)
        go_meet
        case rel => exact ⟨_, (IntKind.u64.wrap (x7_1 - 1)), zq8, (by first | exact H' | (rw [hji5]; exact H') | (rw [hji19]; exact H')), ⟨by have := HK1.out; have := HJ11.out; first | omega | exact Nat.le_refl _⟩, ⟨by (with_reducible repeat (first | apply Wd_alloc | apply Wd_drewN | apply Wd_drew)); exact HO_0.out⟩, ⟨by repeat (first | (with_reducible first | exact HK.out | apply Kept.alloc | apply Kept.drewN | apply Kept.drew) | exact HK.out)⟩, ⟨zq1⟩⟩
       ·rw [if_neg c22] at H
        have c22b0 : decide (0 < ((IntKind.u64.wrap (x8_1 + (IntKind.u64.wrap (rd l1 (ji19))))) / 4294967296)) = false := decide_eq_false c22
        clear c22
        have H' := am H
        clear H
        have p162 : 0 ≤ ((ji19) : Int) := zq6
        have q162 : (ji19) < (l1.length : Int) := zq6
        obtain ⟨ad162, e162, hx162_0⟩ := Kd.at_int (Kd.C_kept_now HR1.out HK.out) (ji19) p162 q162
        obtain rfl : ad158 = ad162 := (by injection e162)
        replace p162 := eq_true p162
        replace q162 := eq_true q162
        go_wp2
        repeat (go_quiet (fail); try go_wp2)
        go_roundg kj11
        case measure => have := HK1.out; have := HJ11.out; omega
        case rel => exact ⟨(IntKind.u64.wrap (x7_1 - 1)), (IntKind.u64.wrap (x8_1 + (IntKind.u64.wrap (rd l1 (ji19))))), zq8, (by first | rfl | (simp; done) | (simp only [← hji19] <;> (first | rfl | simp)) | (simp [*]; done)), (by first | exact H' | (rw [hji5]; exact H') | (rw [hji19]; exact H')), ⟨by have := HK1.out; have := HJ11.out; omega⟩, ⟨by (with_reducible repeat (first | apply Wd_alloc | apply Wd_drewN | apply Wd_drew)); exact HO_0.out⟩, ⟨by repeat (first | (with_reducible first | exact HK.out | apply Kept.alloc | apply Kept.drewN | apply Kept.drew) | exact HK.out)⟩, ⟨zq1⟩⟩
      ·replace c18 := Bool.eq_false_iff.mpr c18
       subst c18
       have H1 : (nat_digit.j2 kj11 l0 l1 (l1.length : Int) x7_1) = some (r1, r2) := by rw [if_neg (show ¬ (false = true) by decide)] at H; exact H
       clear H
       have H := H1
       clear H1
       have H' := am H
       clear H
       go_wp2
       repeat (go_quiet (fail); try go_wp2)
       go_meet
       case rel => exact ⟨_, (x7_1), zq8, (by first | exact H' | (rw [hji5]; exact H')), ⟨by have := HK1.out; have := HJ11.out; first | omega | exact Nat.le_refl _⟩, ⟨by (with_reducible repeat (first | apply Wd_alloc | apply Wd_drewN | apply Wd_drew)); exact HO_0.out⟩, ⟨by repeat (first | (with_reducible first | exact HK.out | apply Kept.alloc | apply Kept.drewN | apply Kept.drew) | exact HK.out)⟩, ⟨zq1⟩⟩
 case rest =>
  clear HC10
  obtain ⟨kq, x7_9, rfl, HA, HJ9, HO_0, HK, HB⟩ := hcut
  cases kq with
  | zero => exact absurd HA.out (by simp [nat_digit.j2])
  | succ kj9 =>
   have H := HA.out
   clear HA
   simp only [nat_digit.j2] at H
   have H' := am H
   clear H
   go_wp2
   repeat (go_quiet (fail); try go_wp2)
   go_loopg [9, 10, 84] kj9 (fun kq v9 v10 v84 w' => ∃ (x0_2 : List Int) (x9_2 : Int) (x10_2 : Int) (x84_2 : Int), v9 = .int .u64 x9_2 ∧ v10 = .int .u64 x10_2 ∧ v84 = .int .i64 x84_2 ∧ Aside0 (nat_digit.l1 kq x0_2 l1 (l1.length : Int) x7_9 x9_2 x10_2 (l1.length : Int) x84_2 = some (r1, r2)) ∧ Aside0 (kq ≤ kj9) ∧ Aside0 (Wd pr_ po_ nW_ cW_ .u32 73 w' w0.heap.size (fun k_ => (P0_ k_ ∨ w.heap.size ≤ k_)) (.slice (some ad156) l0.length co11) x0_2) ∧ Aside0 (Kept w w' (fun k_ => P0_ k_)) ∧ Aside0 (Below w0.heap.size w0 w'))
   case atStart => exact ⟨(l0), (0), (0), (0), zq8, zq8, zq8, H', ⟨Nat.le_refl _⟩, ⟨by (with_reducible repeat (first | apply Wd_alloc | apply Wd_drewN | apply Wd_drew)); exact HO_0.out⟩, ⟨by repeat (first | (with_reducible first | exact HK.out | apply Kept.alloc | apply Kept.drewN | apply Kept.drew) | exact HK.out)⟩, ⟨zq1⟩⟩
   case round =>
    clear H'
    obtain ⟨x0_2, x9_2, x10_2, x84_2, rfl, rfl, rfl, HA, HK2, HO_0, HK, HB⟩ := hrel
    have hl0_2 := (Wd_reads' HO_0.out).1
    rw [hl0_2] at HO_0
    (try simp only [hl0_2])
    cases gk with
    | zero => exact absurd HA.out (by simp [nat_digit.l1])
    | succ k2 =>
     have H := HA.out
     clear HA
     simp only [nat_digit.l1] at H
     by_cases c23 : x84_2 < (l1.length : Int)
     ·rw [if_pos c23] at H
      have c23b0 := decide_eq_true c23
      clear c23
      replace H := zn H
      obtain ⟨c24, H⟩ := H
      have c24b0 := decide_eq_true c24
      clear c24
      replace H := zn H
      obtain ⟨c25, H⟩ := H
      have c25b0 := decide_eq_true c25
      clear c25
      replace H := zn H
      obtain ⟨c26, H⟩ := H
      have c26b0 := decide_eq_true c26
      clear c26
      obtain ⟨y165, hy165⟩ : ∃ y_ : List Int, y_ = (x0_2.set (x84_2 : Int).toNat ((IntKind.u64.wrap ((IntKind.u64.wrap ((IntKind.u64.wrap (rd x0_2 x84_2)) - ((IntKind.u64.wrap (x10_2 + (IntKind.u64.wrap (x7_9 * (IntKind.u64.wrap (rd l1 x84_2)))))) % 4294967296))) - x9_2)) % 4294967296)) := ⟨_, rfl⟩
      replace H : (nat_digit.l1 k2 y165 l1 (l1.length : Int) x7_9 (Go.bits .and .u64 ((IntKind.u64.wrap ((IntKind.u64.wrap ((IntKind.u64.wrap (rd x0_2 x84_2)) - ((IntKind.u64.wrap (x10_2 + (IntKind.u64.wrap (x7_9 * (IntKind.u64.wrap (rd l1 x84_2)))))) % 4294967296))) - x9_2)) / 4294967296) 1) ((IntKind.u64.wrap (x10_2 + (IntKind.u64.wrap (x7_9 * (IntKind.u64.wrap (rd l1 x84_2)))))) / 4294967296) (l1.length : Int) (wrap64 (x84_2 + 1))) = some (r1, r2) := by first | (rw [hy165]; with_reducible exact H) | (have H2_ := (Option.bind_some _ _).symm.trans H; rw [hy165]; with_reducible exact H2_) | (have H2_ := (Option.bind_some _ _).symm.trans H; with_reducible exact H2_) | with_reducible exact H | (rw [hy165]; exact H) | exact H
      have Ny165 := am hy165
      clear hy165
      have H' := am H
      clear H
      have p163 : 0 ≤ (x84_2 : Int) := zq6
      have q163 : x84_2 < (l1.length : Int) := zq6
      obtain ⟨ad163, e163, hx163_0⟩ := Kd.at_int (Kd.C_kept_now HR1.out HK.out) x84_2 p163 q163
      obtain rfl : ad158 = ad163 := (by injection e163)
      replace p163 := eq_true p163
      replace q163 := eq_true q163
      have p164 : 0 ≤ (x84_2 : Int) := zq6
      have q164 : x84_2 < (x0_2.length : Int) := zq6
      obtain ⟨ad164, e164, hx164_0⟩ := Kd.at_int (Wd_reads' HO_0.out).2.2 x84_2 p164 q164
      obtain rfl : ad156 = ad164 := (by injection e164)
      replace p164 := eq_true p164
      replace q164 := eq_true q164
      have p27 : 0 ≤ (x84_2 : Int) := zq6
      have q27 : (x84_2 : Int) < ((x0_2.length : Int) : Int) := zq6
      have gb27 := Wd_blk HO_0.out
      have gl27 := trivial
      have HG27 := trivial
      have GB27 := am gb27
      have GG27 := am HG27
      clear gb27 gl27 HG27
      have HMgo27 := am (show (P0_ ad156.block ∨ w.heap.size ≤ ad156.block) from (Wd_ok HO_0.out))
      (first | simp only [add_plain] at hx156_0 | skip)
      (first | simp only [add_plain] at hx157_0 | skip)
      (first | simp only [add_plain] at hx161_0 | skip)
      (first | simp only [add_plain] at hx164_0 | skip)
      obtain ⟨hx27_0, hf27_0⟩ := Wd_celln 0 HO_0.out (x84_2 : Int) p27 q27
      (try simp only [Int.toNat_natCast] at hx27_0 hf27_0)
      replace p27 := eq_true p27
      replace q27 := eq_true q27
      have HP28 := Wd_putg HO_0.out (x84_2 : Int) ((IntKind.u64.wrap ((IntKind.u64.wrap ((IntKind.u64.wrap (rd x0_2 x84_2)) - ((IntKind.u64.wrap (x10_2 + (IntKind.u64.wrap (x7_9 * (IntKind.u64.wrap (rd l1 x84_2)))))) % 4294967296))) - x9_2)) % 4294967296) zq7 zq7
      go_wp2_with (first | ((with_reducible refine gate_store (t := 73) (p := 111) rfl ?_); (try (rw [drewN_self wr]; generalize hq_ : World.drewN wr _ = wr; refine zt3 (Wd_at hq_ HO_0.out) (kept_at hq_ HK.out) (below_at hq_ HB.out) ?_; clear hq_ HO_0 HK HB; intro HO_0 HK HB; (try (have HP28 := Wd_putg HO_0.out (x84_2 : Int) ((IntKind.u64.wrap ((IntKind.u64.wrap ((IntKind.u64.wrap (rd x0_2 x84_2)) - ((IntKind.u64.wrap (x10_2 + (IntKind.u64.wrap (x7_9 * (IntKind.u64.wrap (rd l1 x84_2)))))) % 4294967296))) - x9_2)) % 4294967296) zq7 zq7; have hzz_ := Wd_celln 0 HO_0.out (x84_2 : Int) zq7 zq7; have hzx_ := hzz_.1; have hzf_ := hzz_.2; clear hzz_; (try simp only [Int.toNat_natCast] at hzx_ hzf_))))); refine zstore (t := 73) (p := 111) (w1 := (wr.setCell (ad156.add (x84_2 : Int).toNat) (.int .u32 ((IntKind.u64.wrap ((IntKind.u64.wrap ((IntKind.u64.wrap (rd x0_2 x84_2)) - ((IntKind.u64.wrap (x10_2 + (IntKind.u64.wrap (x7_9 * (IntKind.u64.wrap (rd l1 x84_2)))))) % 4294967296))) - x9_2)) % 4294967296)))) ?_; intro w29 hw; have hg : wr.grownBy w29 (some ad156.block) := (by rw [hw]; exact HP28.2); have hp_ : Wd pr_ po_ nW_ cW_ .u32 73 w29 w0.heap.size (fun k_ => (P0_ k_ ∨ w.heap.size ≤ k_)) (.slice (some ad156) x0_2.length co11) y165 := (by rw [hw, Ny165.out]; exact HP28.1); clear HP28; refine zt3 (hp_) ((by rw [hw]; exact below_setW (HB.out) GB27.out : Below w0.heap.size w0 w29)) (Kept.of_grown (S := (fun k_ => P0_ k_)) hg (by repeat (first | (with_reducible first | exact HK.out | apply Kept.alloc | apply Kept.drewN | apply Kept.drew) | exact HK.out)) (fun k_ e_ => (Option.some.inj e_ ▸ Wd_ok HO_0.out))) ?_; clear HO_0 HB HK; intro HO_0 HB HK; clear hg hw hp_))
      repeat (go_quiet (first | ((with_reducible refine gate_store (t := 73) (p := 111) rfl ?_); (try (rw [drewN_self wr]; generalize hq_ : World.drewN wr _ = wr; refine zt3 (Wd_at hq_ HO_0.out) (kept_at hq_ HK.out) (below_at hq_ HB.out) ?_; clear hq_ HO_0 HK HB; intro HO_0 HK HB; (try (have HP28 := Wd_putg HO_0.out (x84_2 : Int) ((IntKind.u64.wrap ((IntKind.u64.wrap ((IntKind.u64.wrap (rd x0_2 x84_2)) - ((IntKind.u64.wrap (x10_2 + (IntKind.u64.wrap (x7_9 * (IntKind.u64.wrap (rd l1 x84_2)))))) % 4294967296))) - x9_2)) % 4294967296) zq7 zq7; have hzz_ := Wd_celln 0 HO_0.out (x84_2 : Int) zq7 zq7; have hzx_ := hzz_.1; have hzf_ := hzz_.2; clear hzz_; (try simp only [Int.toNat_natCast] at hzx_ hzf_))))); refine zstore (t := 73) (p := 111) (w1 := (wr.setCell (ad156.add (x84_2 : Int).toNat) (.int .u32 ((IntKind.u64.wrap ((IntKind.u64.wrap ((IntKind.u64.wrap (rd x0_2 x84_2)) - ((IntKind.u64.wrap (x10_2 + (IntKind.u64.wrap (x7_9 * (IntKind.u64.wrap (rd l1 x84_2)))))) % 4294967296))) - x9_2)) % 4294967296)))) ?_; intro w29 hw; have hg : wr.grownBy w29 (some ad156.block) := (by rw [hw]; exact HP28.2); have hp_ : Wd pr_ po_ nW_ cW_ .u32 73 w29 w0.heap.size (fun k_ => (P0_ k_ ∨ w.heap.size ≤ k_)) (.slice (some ad156) x0_2.length co11) y165 := (by rw [hw, Ny165.out]; exact HP28.1); clear HP28; refine zt3 (hp_) ((by rw [hw]; exact below_setW (HB.out) GB27.out : Below w0.heap.size w0 w29)) (Kept.of_grown (S := (fun k_ => P0_ k_)) hg (by repeat (first | (with_reducible first | exact HK.out | apply Kept.alloc | apply Kept.drewN | apply Kept.drew) | exact HK.out)) (fun k_ e_ => (Option.some.inj e_ ▸ Wd_ok HO_0.out))) ?_; clear HO_0 HB HK; intro HO_0 HB HK; clear hg hw hp_)); try go_wp2_with (first | ((with_reducible refine gate_store (t := 73) (p := 111) rfl ?_); (try (rw [drewN_self wr]; generalize hq_ : World.drewN wr _ = wr; refine zt3 (Wd_at hq_ HO_0.out) (kept_at hq_ HK.out) (below_at hq_ HB.out) ?_; clear hq_ HO_0 HK HB; intro HO_0 HK HB; (try (have HP28 := Wd_putg HO_0.out (x84_2 : Int) ((IntKind.u64.wrap ((IntKind.u64.wrap ((IntKind.u64.wrap (rd x0_2 x84_2)) - ((IntKind.u64.wrap (x10_2 + (IntKind.u64.wrap (x7_9 * (IntKind.u64.wrap (rd l1 x84_2)))))) % 4294967296))) - x9_2)) % 4294967296) zq7 zq7; have hzz_ := Wd_celln 0 HO_0.out (x84_2 : Int) zq7 zq7; have hzx_ := hzz_.1; have hzf_ := hzz_.2; clear hzz_; (try simp only [Int.toNat_natCast] at hzx_ hzf_))))); refine zstore (t := 73) (p := 111) (w1 := (wr.setCell (ad156.add (x84_2 : Int).toNat) (.int .u32 ((IntKind.u64.wrap ((IntKind.u64.wrap ((IntKind.u64.wrap (rd x0_2 x84_2)) - ((IntKind.u64.wrap (x10_2 + (IntKind.u64.wrap (x7_9 * (IntKind.u64.wrap (rd l1 x84_2)))))) % 4294967296))) - x9_2)) % 4294967296)))) ?_; intro w29 hw; have hg : wr.grownBy w29 (some ad156.block) := (by rw [hw]; exact HP28.2); have hp_ : Wd pr_ po_ nW_ cW_ .u32 73 w29 w0.heap.size (fun k_ => (P0_ k_ ∨ w.heap.size ≤ k_)) (.slice (some ad156) x0_2.length co11) y165 := (by rw [hw, Ny165.out]; exact HP28.1); clear HP28; refine zt3 (hp_) ((by rw [hw]; exact below_setW (HB.out) GB27.out : Below w0.heap.size w0 w29)) (Kept.of_grown (S := (fun k_ => P0_ k_)) hg (by repeat (first | (with_reducible first | exact HK.out | apply Kept.alloc | apply Kept.drewN | apply Kept.drew) | exact HK.out)) (fun k_ e_ => (Option.some.inj e_ ▸ Wd_ok HO_0.out))) ?_; clear HO_0 HB HK; intro HO_0 HB HK; clear hg hw hp_)))
      (try simp only [← hl0_2])
      go_roundg k2
      case measure => have := HJ9.out; have := HK2.out; omega
      case rel => exact ⟨(y165), (Go.bits .and .u64 ((IntKind.u64.wrap ((IntKind.u64.wrap ((IntKind.u64.wrap (rd x0_2 x84_2)) - ((IntKind.u64.wrap (x10_2 + (IntKind.u64.wrap (x7_9 * (IntKind.u64.wrap (rd l1 x84_2)))))) % 4294967296))) - x9_2)) / 4294967296) 1), ((IntKind.u64.wrap (x10_2 + (IntKind.u64.wrap (x7_9 * (IntKind.u64.wrap (rd l1 x84_2)))))) / 4294967296), (wrap64 (x84_2 + 1)), zq8, zq8, zq8, (by first | exact H' | (rw [hji5]; exact H')), ⟨by have := HJ9.out; have := HK2.out; omega⟩, ⟨by (try simp only [hl0_2]); (with_reducible repeat (first | apply Wd_alloc | apply Wd_drewN | apply Wd_drew)); exact HO_0.out⟩, ⟨by repeat (first | (with_reducible first | exact HK.out | apply Kept.alloc | apply Kept.drewN | apply Kept.drew) | exact HK.out)⟩, ⟨zq1⟩⟩
     ·rw [if_neg c23] at H
      have c23b0 := decide_eq_false c23
      (try (have c23b0x := c23b0; rw [hl0_2] at c23b0x))
      clear c23
      replace H := zn H
      obtain ⟨c30, H⟩ := H
      have c30b0 := decide_eq_true c30
      have c30b1 : decide (0 ≤ l1.length) = true := decide_eq_true (by omega)
      clear c30
      replace H := zn H
      obtain ⟨c31, H⟩ := H
      have c31b0 := decide_eq_true c31
      have c31b1 : decide (l1.length < x0_2.length) = true := decide_eq_true (Int.ofNat_lt.mp c31)
      clear c31
      obtain ⟨y167, hy167⟩ : ∃ y_ : List Int, y_ = (x0_2.set ((l1.length : Int) : Int).toNat ((IntKind.u64.wrap ((IntKind.u64.wrap ((IntKind.u64.wrap (rd x0_2 (l1.length : Int))) - x10_2)) - x9_2)) % 4294967296)) := ⟨_, rfl⟩
      replace H : (if (Go.bits .and .u64 ((IntKind.u64.wrap ((IntKind.u64.wrap ((IntKind.u64.wrap (rd x0_2 (l1.length : Int))) - x10_2)) - x9_2)) / 4294967296) 1) = 0 then (some ((x7_9) % 4294967296, y167)) else (nat_digit.l2 k2 y167 l1 (l1.length : Int) x7_9 0 (l1.length : Int) 0)) = some (r1, r2) := by first | (rw [hy167]; with_reducible exact H) | (have H2_ := (Option.bind_some _ _).symm.trans H; rw [hy167]; with_reducible exact H2_) | (have H2_ := (Option.bind_some _ _).symm.trans H; with_reducible exact H2_) | with_reducible exact H | (rw [hy167]; exact H) | exact H
      have Ny167 := am hy167
      clear hy167
      by_cases c33 : (Go.bits .and .u64 ((IntKind.u64.wrap ((IntKind.u64.wrap ((IntKind.u64.wrap (rd x0_2 (l1.length : Int))) - x10_2)) - x9_2)) / 4294967296) 1) = 0
      ·rw [if_pos c33] at H
       have c33b0 : ((Go.bits .and .u64 ((IntKind.u64.wrap ((IntKind.u64.wrap ((IntKind.u64.wrap (rd x0_2 (l1.length : Int))) - x10_2)) - x9_2)) / 4294967296) 1) == 0) = true := beq_iff_eq.mpr c33
       have c33b1 : ((Go.bits .and .u64 ((IntKind.u64.wrap ((IntKind.u64.wrap ((IntKind.u64.wrap (rd x0_2 (l1.length : Int))) - x10_2)) - x9_2)) / 4294967296) 1) != 0) = false := bne_eq_false_iff_eq.mpr c33
       clear c33
       simp only [Option.some.injEq, Prod.mk.injEq] at H
       obtain ⟨rfl, rfl⟩ := H
       have p166 : 0 ≤ ((l1.length : Int) : Int) := zq6
       have q166 : (l1.length : Int) < (x0_2.length : Int) := zq6
       obtain ⟨ad166, e166, hx166_0⟩ := Kd.at_int (Wd_reads' HO_0.out).2.2 (l1.length : Int) p166 q166
       obtain rfl : ad156 = ad166 := (by injection e166)
       (try simp only [Go.IntWalk.toNatUp] at hx166_0)
       (try simp only [hl0_2] at p166)
       (try simp only [hl0_2] at q166)
       (try simp only [hl0_2] at hx166_0)
       replace p166 := eq_true p166
       replace q166 := eq_true q166
       have p32 : 0 ≤ ((l1.length : Int) : Int) := zq6
       have q32 : ((l1.length : Int) : Int) < ((x0_2.length : Int) : Int) := zq6
       have gb32 := Wd_blk HO_0.out
       have gl32 := trivial
       have HG32 := trivial
       have GB32 := am gb32
       have GG32 := am HG32
       clear gb32 gl32 HG32
       have HMgo32 := am (show (P0_ ad156.block ∨ w.heap.size ≤ ad156.block) from (Wd_ok HO_0.out))
       (first | simp only [add_plain] at hx166_0 | skip)
       obtain ⟨hx32_0, hf32_0⟩ := Wd_celln 0 HO_0.out ((l1.length : Int) : Int) p32 q32
       (try simp only [Int.toNat_natCast] at hx32_0 hf32_0)
       replace p32 := eq_true p32
       replace q32 := eq_true q32
       have HP34 := Wd_putg HO_0.out ((l1.length : Int) : Int) ((IntKind.u64.wrap ((IntKind.u64.wrap ((IntKind.u64.wrap (rd x0_2 (l1.length : Int))) - x10_2)) - x9_2)) % 4294967296) zq7 zq7
       go_wp2_with (first | ((with_reducible refine gate_store (t := 73) (p := 131) rfl ?_); (try (rw [drewN_self wr]; generalize hq_ : World.drewN wr _ = wr; refine zt3 (Wd_at hq_ HO_0.out) (kept_at hq_ HK.out) (below_at hq_ HB.out) ?_; clear hq_ HO_0 HK HB; intro HO_0 HK HB; (try (have HP34 := Wd_putg HO_0.out ((l1.length : Int) : Int) ((IntKind.u64.wrap ((IntKind.u64.wrap ((IntKind.u64.wrap (rd x0_2 (l1.length : Int))) - x10_2)) - x9_2)) % 4294967296) zq7 zq7; have hzz_ := Wd_celln 0 HO_0.out ((l1.length : Int) : Int) zq7 zq7; have hzx_ := hzz_.1; have hzf_ := hzz_.2; clear hzz_; (try simp only [Int.toNat_natCast] at hzx_ hzf_))))); refine zstore (t := 73) (p := 131) (w1 := (wr.setCell (ad156.add ((l1.length : Int) : Int).toNat) (.int .u32 ((IntKind.u64.wrap ((IntKind.u64.wrap ((IntKind.u64.wrap (rd x0_2 (l1.length : Int))) - x10_2)) - x9_2)) % 4294967296)))) ?_; intro w35 hw; have hg : wr.grownBy w35 (some ad156.block) := (by rw [hw]; exact HP34.2); have hp_ : Wd pr_ po_ nW_ cW_ .u32 73 w35 w0.heap.size (fun k_ => (P0_ k_ ∨ w.heap.size ≤ k_)) (.slice (some ad156) x0_2.length co11) y167 := (by rw [hw, Ny167.out]; exact HP34.1); clear HP34; refine zt3 (hp_) ((by rw [hw]; exact below_setW (HB.out) GB32.out : Below w0.heap.size w0 w35)) (Kept.of_grown (S := (fun k_ => P0_ k_)) hg (by repeat (first | (with_reducible first | exact HK.out | apply Kept.alloc | apply Kept.drewN | apply Kept.drew) | exact HK.out)) (fun k_ e_ => (Option.some.inj e_ ▸ Wd_ok HO_0.out))) ?_; clear HO_0 HB HK; intro HO_0 HB HK; clear hg hw hp_))
       repeat (go_quiet (first | ((with_reducible refine gate_store (t := 73) (p := 131) rfl ?_); (try (rw [drewN_self wr]; generalize hq_ : World.drewN wr _ = wr; refine zt3 (Wd_at hq_ HO_0.out) (kept_at hq_ HK.out) (below_at hq_ HB.out) ?_; clear hq_ HO_0 HK HB; intro HO_0 HK HB; (try (have HP34 := Wd_putg HO_0.out ((l1.length : Int) : Int) ((IntKind.u64.wrap ((IntKind.u64.wrap ((IntKind.u64.wrap (rd x0_2 (l1.length : Int))) - x10_2)) - x9_2)) % 4294967296) zq7 zq7; have hzz_ := Wd_celln 0 HO_0.out ((l1.length : Int) : Int) zq7 zq7; have hzx_ := hzz_.1; have hzf_ := hzz_.2; clear hzz_; (try simp only [Int.toNat_natCast] at hzx_ hzf_))))); refine zstore (t := 73) (p := 131) (w1 := (wr.setCell (ad156.add ((l1.length : Int) : Int).toNat) (.int .u32 ((IntKind.u64.wrap ((IntKind.u64.wrap ((IntKind.u64.wrap (rd x0_2 (l1.length : Int))) - x10_2)) - x9_2)) % 4294967296)))) ?_; intro w35 hw; have hg : wr.grownBy w35 (some ad156.block) := (by rw [hw]; exact HP34.2); have hp_ : Wd pr_ po_ nW_ cW_ .u32 73 w35 w0.heap.size (fun k_ => (P0_ k_ ∨ w.heap.size ≤ k_)) (.slice (some ad156) x0_2.length co11) y167 := (by rw [hw, Ny167.out]; exact HP34.1); clear HP34; refine zt3 (hp_) ((by rw [hw]; exact below_setW (HB.out) GB32.out : Below w0.heap.size w0 w35)) (Kept.of_grown (S := (fun k_ => P0_ k_)) hg (by repeat (first | (with_reducible first | exact HK.out | apply Kept.alloc | apply Kept.drewN | apply Kept.drew) | exact HK.out)) (fun k_ e_ => (Option.some.inj e_ ▸ Wd_ok HO_0.out))) ?_; clear HO_0 HB HK; intro HO_0 HB HK; clear hg hw hp_)); try go_wp2_with (first | ((with_reducible refine gate_store (t := 73) (p := 131) rfl ?_); (try (rw [drewN_self wr]; generalize hq_ : World.drewN wr _ = wr; refine zt3 (Wd_at hq_ HO_0.out) (kept_at hq_ HK.out) (below_at hq_ HB.out) ?_; clear hq_ HO_0 HK HB; intro HO_0 HK HB; (try (have HP34 := Wd_putg HO_0.out ((l1.length : Int) : Int) ((IntKind.u64.wrap ((IntKind.u64.wrap ((IntKind.u64.wrap (rd x0_2 (l1.length : Int))) - x10_2)) - x9_2)) % 4294967296) zq7 zq7; have hzz_ := Wd_celln 0 HO_0.out ((l1.length : Int) : Int) zq7 zq7; have hzx_ := hzz_.1; have hzf_ := hzz_.2; clear hzz_; (try simp only [Int.toNat_natCast] at hzx_ hzf_))))); refine zstore (t := 73) (p := 131) (w1 := (wr.setCell (ad156.add ((l1.length : Int) : Int).toNat) (.int .u32 ((IntKind.u64.wrap ((IntKind.u64.wrap ((IntKind.u64.wrap (rd x0_2 (l1.length : Int))) - x10_2)) - x9_2)) % 4294967296)))) ?_; intro w35 hw; have hg : wr.grownBy w35 (some ad156.block) := (by rw [hw]; exact HP34.2); have hp_ : Wd pr_ po_ nW_ cW_ .u32 73 w35 w0.heap.size (fun k_ => (P0_ k_ ∨ w.heap.size ≤ k_)) (.slice (some ad156) x0_2.length co11) y167 := (by rw [hw, Ny167.out]; exact HP34.1); clear HP34; refine zt3 (hp_) ((by rw [hw]; exact below_setW (HB.out) GB32.out : Below w0.heap.size w0 w35)) (Kept.of_grown (S := (fun k_ => P0_ k_)) hg (by repeat (first | (with_reducible first | exact HK.out | apply Kept.alloc | apply Kept.drewN | apply Kept.drew) | exact HK.out)) (fun k_ e_ => (Option.some.inj e_ ▸ Wd_ok HO_0.out))) ?_; clear HO_0 HB HK; intro HO_0 HB HK; clear hg hw hp_)))
       go_ret
       exact ⟨by first | rfl | (simp [errW_none, errW_some] <;> rfl) | (simp only [← hji5]; first | rfl | (simp [errW_none, errW_some] <;> rfl)) | (simp [*, errW_none, errW_some] <;> rfl), (by first | exact (by (with_reducible repeat (first | apply Wd_alloc | apply Wd_drewN | apply Wd_drew)); exact HO_0.out) | (simp only [hl0_2]; exact (by (with_reducible repeat (first | apply Wd_alloc | apply Wd_drewN | apply Wd_drew)); exact HO_0.out))), zq1, by repeat (first | (with_reducible first | exact HK.out | apply Kept.alloc | apply Kept.drewN | apply Kept.drew) | exact HK.out)⟩
      ·rw [if_neg c33] at H
       have c33b0 : ((Go.bits .and .u64 ((IntKind.u64.wrap ((IntKind.u64.wrap ((IntKind.u64.wrap (rd x0_2 (l1.length : Int))) - x10_2)) - x9_2)) / 4294967296) 1) == 0) = false := beq_eq_false_iff_ne.mpr c33
       have c33b1 : ((Go.bits .and .u64 ((IntKind.u64.wrap ((IntKind.u64.wrap ((IntKind.u64.wrap (rd x0_2 (l1.length : Int))) - x10_2)) - x9_2)) / 4294967296) 1) != 0) = true := bne_iff_ne.mpr c33
       have H' := am H
       clear H
       have p166 : 0 ≤ ((l1.length : Int) : Int) := zq6
       have q166 : (l1.length : Int) < (x0_2.length : Int) := zq6
       obtain ⟨ad166, e166, hx166_0⟩ := Kd.at_int (Wd_reads' HO_0.out).2.2 (l1.length : Int) p166 q166
       obtain rfl : ad156 = ad166 := (by injection e166)
       (try simp only [Go.IntWalk.toNatUp] at hx166_0)
       (try simp only [hl0_2] at p166)
       (try simp only [hl0_2] at q166)
       (try simp only [hl0_2] at hx166_0)
       replace p166 := eq_true p166
       replace q166 := eq_true q166
       have p32 : 0 ≤ ((l1.length : Int) : Int) := zq6
       have q32 : ((l1.length : Int) : Int) < ((x0_2.length : Int) : Int) := zq6
       have gb32 := Wd_blk HO_0.out
       have gl32 := trivial
       have HG32 := trivial
       have GB32 := am gb32
       have GG32 := am HG32
       clear gb32 gl32 HG32
       have HMgo32 := am (show (P0_ ad156.block ∨ w.heap.size ≤ ad156.block) from (Wd_ok HO_0.out))
       (first | simp only [add_plain] at hx166_0 | skip)
       obtain ⟨hx32_0, hf32_0⟩ := Wd_celln 0 HO_0.out ((l1.length : Int) : Int) p32 q32
       (try simp only [Int.toNat_natCast] at hx32_0 hf32_0)
       replace p32 := eq_true p32
       replace q32 := eq_true q32
       have HP36 := Wd_putg HO_0.out ((l1.length : Int) : Int) ((IntKind.u64.wrap ((IntKind.u64.wrap ((IntKind.u64.wrap (rd x0_2 (l1.length : Int))) - x10_2)) - x9_2)) % 4294967296) zq7 zq7
       go_wp2_with (first | ((with_reducible refine gate_store (t := 73) (p := 131) rfl ?_); (try (rw [drewN_self wr]; generalize hq_ : World.drewN wr _ = wr; refine zt3 (Wd_at hq_ HO_0.out) (kept_at hq_ HK.out) (below_at hq_ HB.out) ?_; clear hq_ HO_0 HK HB; intro HO_0 HK HB; (try (have HP36 := Wd_putg HO_0.out ((l1.length : Int) : Int) ((IntKind.u64.wrap ((IntKind.u64.wrap ((IntKind.u64.wrap (rd x0_2 (l1.length : Int))) - x10_2)) - x9_2)) % 4294967296) zq7 zq7; have hzz_ := Wd_celln 0 HO_0.out ((l1.length : Int) : Int) zq7 zq7; have hzx_ := hzz_.1; have hzf_ := hzz_.2; clear hzz_; (try simp only [Int.toNat_natCast] at hzx_ hzf_))))); refine zstore (t := 73) (p := 131) (w1 := (wr.setCell (ad156.add ((l1.length : Int) : Int).toNat) (.int .u32 ((IntKind.u64.wrap ((IntKind.u64.wrap ((IntKind.u64.wrap (rd x0_2 (l1.length : Int))) - x10_2)) - x9_2)) % 4294967296)))) ?_; intro w37 hw; have hg : wr.grownBy w37 (some ad156.block) := (by rw [hw]; exact HP36.2); have hp_ : Wd pr_ po_ nW_ cW_ .u32 73 w37 w0.heap.size (fun k_ => (P0_ k_ ∨ w.heap.size ≤ k_)) (.slice (some ad156) x0_2.length co11) y167 := (by rw [hw, Ny167.out]; exact HP36.1); clear HP36; refine zt3 (hp_) ((by rw [hw]; exact below_setW (HB.out) GB32.out : Below w0.heap.size w0 w37)) (Kept.of_grown (S := (fun k_ => P0_ k_)) hg (by repeat (first | (with_reducible first | exact HK.out | apply Kept.alloc | apply Kept.drewN | apply Kept.drew) | exact HK.out)) (fun k_ e_ => (Option.some.inj e_ ▸ Wd_ok HO_0.out))) ?_; clear HO_0 HB HK; intro HO_0 HB HK; clear hg hw hp_))
       repeat (go_quiet (first | ((with_reducible refine gate_store (t := 73) (p := 131) rfl ?_); (try (rw [drewN_self wr]; generalize hq_ : World.drewN wr _ = wr; refine zt3 (Wd_at hq_ HO_0.out) (kept_at hq_ HK.out) (below_at hq_ HB.out) ?_; clear hq_ HO_0 HK HB; intro HO_0 HK HB; (try (have HP36 := Wd_putg HO_0.out ((l1.length : Int) : Int) ((IntKind.u64.wrap ((IntKind.u64.wrap ((IntKind.u64.wrap (rd x0_2 (l1.length : Int))) - x10_2)) - x9_2)) % 4294967296) zq7 zq7; have hzz_ := Wd_celln 0 HO_0.out ((l1.length : Int) : Int) zq7 zq7; have hzx_ := hzz_.1; have hzf_ := hzz_.2; clear hzz_; (try simp only [Int.toNat_natCast] at hzx_ hzf_))))); refine zstore (t := 73) (p := 131) (w1 := (wr.setCell (ad156.add ((l1.length : Int) : Int).toNat) (.int .u32 ((IntKind.u64.wrap ((IntKind.u64.wrap ((IntKind.u64.wrap (rd x0_2 (l1.length : Int))) - x10_2)) - x9_2)) % 4294967296)))) ?_; intro w37 hw; have hg : wr.grownBy w37 (some ad156.block) := (by rw [hw]; exact HP36.2); have hp_ : Wd pr_ po_ nW_ cW_ .u32 73 w37 w0.heap.size (fun k_ => (P0_ k_ ∨ w.heap.size ≤ k_)) (.slice (some ad156) x0_2.length co11) y167 := (by rw [hw, Ny167.out]; exact HP36.1); clear HP36; refine zt3 (hp_) ((by rw [hw]; exact below_setW (HB.out) GB32.out : Below w0.heap.size w0 w37)) (Kept.of_grown (S := (fun k_ => P0_ k_)) hg (by repeat (first | (with_reducible first | exact HK.out | apply Kept.alloc | apply Kept.drewN | apply Kept.drew) | exact HK.out)) (fun k_ e_ => (Option.some.inj e_ ▸ Wd_ok HO_0.out))) ?_; clear HO_0 HB HK; intro HO_0 HB HK; clear hg hw hp_)); try go_wp2_with (first | ((with_reducible refine gate_store (t := 73) (p := 131) rfl ?_); (try (rw [drewN_self wr]; generalize hq_ : World.drewN wr _ = wr; refine zt3 (Wd_at hq_ HO_0.out) (kept_at hq_ HK.out) (below_at hq_ HB.out) ?_; clear hq_ HO_0 HK HB; intro HO_0 HK HB; (try (have HP36 := Wd_putg HO_0.out ((l1.length : Int) : Int) ((IntKind.u64.wrap ((IntKind.u64.wrap ((IntKind.u64.wrap (rd x0_2 (l1.length : Int))) - x10_2)) - x9_2)) % 4294967296) zq7 zq7; have hzz_ := Wd_celln 0 HO_0.out ((l1.length : Int) : Int) zq7 zq7; have hzx_ := hzz_.1; have hzf_ := hzz_.2; clear hzz_; (try simp only [Int.toNat_natCast] at hzx_ hzf_))))); refine zstore (t := 73) (p := 131) (w1 := (wr.setCell (ad156.add ((l1.length : Int) : Int).toNat) (.int .u32 ((IntKind.u64.wrap ((IntKind.u64.wrap ((IntKind.u64.wrap (rd x0_2 (l1.length : Int))) - x10_2)) - x9_2)) % 4294967296)))) ?_; intro w37 hw; have hg : wr.grownBy w37 (some ad156.block) := (by rw [hw]; exact HP36.2); have hp_ : Wd pr_ po_ nW_ cW_ .u32 73 w37 w0.heap.size (fun k_ => (P0_ k_ ∨ w.heap.size ≤ k_)) (.slice (some ad156) x0_2.length co11) y167 := (by rw [hw, Ny167.out]; exact HP36.1); clear HP36; refine zt3 (hp_) ((by rw [hw]; exact below_setW (HB.out) GB32.out : Below w0.heap.size w0 w37)) (Kept.of_grown (S := (fun k_ => P0_ k_)) hg (by repeat (first | (with_reducible first | exact HK.out | apply Kept.alloc | apply Kept.drewN | apply Kept.drew) | exact HK.out)) (fun k_ e_ => (Option.some.inj e_ ▸ Wd_ok HO_0.out))) ?_; clear HO_0 HB HK; intro HO_0 HB HK; clear hg hw hp_)))
       go_loopg [10, 140] k2 (fun kq v10 v140 w' => ∃ (x0_3 : List Int) (x10_3 : Int) (x140_3 : Int), v10 = .int .u64 x10_3 ∧ v140 = .int .i64 x140_3 ∧ Aside0 (nat_digit.l2 kq x0_3 l1 (l1.length : Int) x7_9 x10_3 (l1.length : Int) x140_3 = some (r1, r2)) ∧ Aside0 (kq ≤ k2) ∧ Aside0 (Wd pr_ po_ nW_ cW_ .u32 73 w' w0.heap.size (fun k_ => (P0_ k_ ∨ w.heap.size ≤ k_)) (.slice (some ad156) x0_2.length co11) x0_3) ∧ Aside0 (Kept w w' (fun k_ => P0_ k_)) ∧ Aside0 (Below w0.heap.size w0 w'))
       case atStart => exact ⟨(y167), (0), (0), zq8, zq8, H', ⟨Nat.le_refl _⟩, ⟨by (try simp only [hl0_2]); (with_reducible repeat (first | apply Wd_alloc | apply Wd_drewN | apply Wd_drew)); exact HO_0.out⟩, ⟨by repeat (first | (with_reducible first | exact HK.out | apply Kept.alloc | apply Kept.drewN | apply Kept.drew) | exact HK.out)⟩, ⟨zq1⟩⟩
       case round =>
        clear H'
        obtain ⟨x0_3, x10_3, x140_3, rfl, rfl, HA, HK3, HO_0, HK, HB⟩ := hrel
        have hl0_3 := (Wd_reads' HO_0.out).1
        rw [hl0_3] at HO_0
        (try simp only [hl0_3])
        cases gk with
        | zero => exact absurd HA.out (by simp [nat_digit.l2])
        | succ k3 =>
         have H := HA.out
         clear HA
         simp only [nat_digit.l2] at H
         by_cases c38 : x140_3 < (l1.length : Int)
         ·rw [if_pos c38] at H
          have c38b0 := decide_eq_true c38
          clear c38
          replace H := zn H
          obtain ⟨c39, H⟩ := H
          have c39b0 := decide_eq_true c39
          clear c39
          replace H := zn H
          obtain ⟨c40, H⟩ := H
          have c40b0 := decide_eq_true c40
          clear c40
          replace H := zn H
          obtain ⟨c41, H⟩ := H
          have c41b0 := decide_eq_true c41
          clear c41
          obtain ⟨y170, hy170⟩ : ∃ y_ : List Int, y_ = (x0_3.set (x140_3 : Int).toNat ((IntKind.u64.wrap (x10_3 + (IntKind.u64.wrap ((IntKind.u64.wrap (rd x0_3 x140_3)) + (IntKind.u64.wrap (rd l1 x140_3)))))) % 4294967296)) := ⟨_, rfl⟩
          replace H : (nat_digit.l2 k3 y170 l1 (l1.length : Int) x7_9 ((IntKind.u64.wrap (x10_3 + (IntKind.u64.wrap ((IntKind.u64.wrap (rd x0_3 x140_3)) + (IntKind.u64.wrap (rd l1 x140_3)))))) / 4294967296) (l1.length : Int) (wrap64 (x140_3 + 1))) = some (r1, r2) := by first | (rw [hy170]; with_reducible exact H) | (have H2_ := (Option.bind_some _ _).symm.trans H; rw [hy170]; with_reducible exact H2_) | (have H2_ := (Option.bind_some _ _).symm.trans H; with_reducible exact H2_) | with_reducible exact H | (rw [hy170]; exact H) | exact H
          have Ny170 := am hy170
          clear hy170
          have H' := am H
          clear H
          have p168 : 0 ≤ (x140_3 : Int) := zq6
          have q168 : x140_3 < (x0_3.length : Int) := zq6
          obtain ⟨ad168, e168, hx168_0⟩ := Kd.at_int (Wd_reads' HO_0.out).2.2 x140_3 p168 q168
          obtain rfl : (ad156 : Addr) = ad168 := (by injection e168)
          (first | simp only [add_plain] at hx168_0 | simp only [add_at] at hx168_0 | simp only [Addr.add, Nat.zero_add] at hx168_0 | skip)
          replace p168 := eq_true p168
          replace q168 := eq_true q168
          have p169 : 0 ≤ (x140_3 : Int) := zq6
          have q169 : x140_3 < (l1.length : Int) := zq6
          obtain ⟨ad169, e169, hx169_0⟩ := Kd.at_int (Kd.C_kept_now HR1.out HK.out) x140_3 p169 q169
          obtain rfl : ad158 = ad169 := (by injection e169)
          replace p169 := eq_true p169
          replace q169 := eq_true q169
          have p42 : 0 ≤ (x140_3 : Int) := zq6
          have q42 : (x140_3 : Int) < ((x0_3.length : Int) : Int) := zq6
          obtain ⟨hx42_0, hf42_0⟩ := Wd_celln 0 HO_0.out (x140_3 : Int) p42 q42
          (try simp only [Int.toNat_natCast] at hx42_0 hf42_0)
          replace p42 := eq_true p42
          replace q42 := eq_true q42
          have HP43 := Wd_putg HO_0.out (x140_3 : Int) ((IntKind.u64.wrap (x10_3 + (IntKind.u64.wrap ((IntKind.u64.wrap (rd x0_3 x140_3)) + (IntKind.u64.wrap (rd l1 x140_3)))))) % 4294967296) zq7 zq7
          go_wp2_with (first | ((with_reducible refine gate_store (t := 73) (p := 160) rfl ?_); (try (rw [drewN_self wr]; generalize hq_ : World.drewN wr _ = wr; refine zt3 (Wd_at hq_ HO_0.out) (kept_at hq_ HK.out) (below_at hq_ HB.out) ?_; clear hq_ HO_0 HK HB; intro HO_0 HK HB; (try (have HP43 := Wd_putg HO_0.out (x140_3 : Int) ((IntKind.u64.wrap (x10_3 + (IntKind.u64.wrap ((IntKind.u64.wrap (rd x0_3 x140_3)) + (IntKind.u64.wrap (rd l1 x140_3)))))) % 4294967296) zq7 zq7; have hzz_ := Wd_celln 0 HO_0.out (x140_3 : Int) zq7 zq7; have hzx_ := hzz_.1; have hzf_ := hzz_.2; clear hzz_; (try simp only [Int.toNat_natCast] at hzx_ hzf_))))); refine zstore (t := 73) (p := 160) (w1 := (wr.setCell (ad156.add (x140_3 : Int).toNat) (.int .u32 ((IntKind.u64.wrap (x10_3 + (IntKind.u64.wrap ((IntKind.u64.wrap (rd x0_3 x140_3)) + (IntKind.u64.wrap (rd l1 x140_3)))))) % 4294967296)))) ?_; intro w44 hw; have hg : wr.grownBy w44 (some ad156.block) := (by rw [hw]; exact HP43.2); have hp_ : Wd pr_ po_ nW_ cW_ .u32 73 w44 w0.heap.size (fun k_ => (P0_ k_ ∨ w.heap.size ≤ k_)) (.slice (some ad156) x0_3.length co11) y170 := (by rw [hw, Ny170.out]; exact HP43.1); clear HP43; refine zt3 (hp_) ((by rw [hw]; exact below_setW (HB.out) GB32.out : Below w0.heap.size w0 w44)) (Kept.of_grown (S := (fun k_ => P0_ k_)) hg (by repeat (first | (with_reducible first | exact HK.out | apply Kept.alloc | apply Kept.drewN | apply Kept.drew) | exact HK.out)) (fun k_ e_ => (Option.some.inj e_ ▸ Wd_ok HO_0.out))) ?_; clear HO_0 HB HK; intro HO_0 HB HK; clear hg hw hp_))
          repeat (go_quiet (first | ((with_reducible refine gate_store (t := 73) (p := 160) rfl ?_); (try (rw [drewN_self wr]; generalize hq_ : World.drewN wr _ = wr; refine zt3 (Wd_at hq_ HO_0.out) (kept_at hq_ HK.out) (below_at hq_ HB.out) ?_; clear hq_ HO_0 HK HB; intro HO_0 HK HB; (try (have HP43 := Wd_putg HO_0.out (x140_3 : Int) ((IntKind.u64.wrap (x10_3 + (IntKind.u64.wrap ((IntKind.u64.wrap (rd x0_3 x140_3)) + (IntKind.u64.wrap (rd l1 x140_3)))))) % 4294967296) zq7 zq7; have hzz_ := Wd_celln 0 HO_0.out (x140_3 : Int) zq7 zq7; have hzx_ := hzz_.1; have hzf_ := hzz_.2; clear hzz_; (try simp only [Int.toNat_natCast] at hzx_ hzf_))))); refine zstore (t := 73) (p := 160) (w1 := (wr.setCell (ad156.add (x140_3 : Int).toNat) (.int .u32 ((IntKind.u64.wrap (x10_3 + (IntKind.u64.wrap ((IntKind.u64.wrap (rd x0_3 x140_3)) + (IntKind.u64.wrap (rd l1 x140_3)))))) % 4294967296)))) ?_; intro w44 hw; have hg : wr.grownBy w44 (some ad156.block) := (by rw [hw]; exact HP43.2); have hp_ : Wd pr_ po_ nW_ cW_ .u32 73 w44 w0.heap.size (fun k_ => (P0_ k_ ∨ w.heap.size ≤ k_)) (.slice (some ad156) x0_3.length co11) y170 := (by rw [hw, Ny170.out]; exact HP43.1); clear HP43; refine zt3 (hp_) ((by rw [hw]; exact below_setW (HB.out) GB32.out : Below w0.heap.size w0 w44)) (Kept.of_grown (S := (fun k_ => P0_ k_)) hg (by repeat (first | (with_reducible first | exact HK.out | apply Kept.alloc | apply Kept.drewN | apply Kept.drew) | exact HK.out)) (fun k_ e_ => (Option.some.inj e_ ▸ Wd_ok HO_0.out))) ?_; clear HO_0 HB HK; intro HO_0 HB HK; clear hg hw hp_)); try go_wp2_with (first | ((with_reducible refine gate_store (t := 73) (p := 160) rfl ?_); (try (rw [drewN_self wr]; generalize hq_ : World.drewN wr _ = wr; refine zt3 (Wd_at hq_ HO_0.out) (kept_at hq_ HK.out) (below_at hq_ HB.out) ?_; clear hq_ HO_0 HK HB; intro HO_0 HK HB; (try (have HP43 := Wd_putg HO_0.out (x140_3 : Int) ((IntKind.u64.wrap (x10_3 + (IntKind.u64.wrap ((IntKind.u64.wrap (rd x0_3 x140_3)) + (IntKind.u64.wrap (rd l1 x140_3)))))) % 4294967296) zq7 zq7; have hzz_ := Wd_celln 0 HO_0.out (x140_3 : Int) zq7 zq7; have hzx_ := hzz_.1; have hzf_ := hzz_.2; clear hzz_; (try simp only [Int.toNat_natCast] at hzx_ hzf_))))); refine zstore (t := 73) (p := 160) (w1 := (wr.setCell (ad156.add (x140_3 : Int).toNat) (.int .u32 ((IntKind.u64.wrap (x10_3 + (IntKind.u64.wrap ((IntKind.u64.wrap (rd x0_3 x140_3)) + (IntKind.u64.wrap (rd l1 x140_3)))))) % 4294967296)))) ?_; intro w44 hw; have hg : wr.grownBy w44 (some ad156.block) := (by rw [hw]; exact HP43.2); have hp_ : Wd pr_ po_ nW_ cW_ .u32 73 w44 w0.heap.size (fun k_ => (P0_ k_ ∨ w.heap.size ≤ k_)) (.slice (some ad156) x0_3.length co11) y170 := (by rw [hw, Ny170.out]; exact HP43.1); clear HP43; refine zt3 (hp_) ((by rw [hw]; exact below_setW (HB.out) GB32.out : Below w0.heap.size w0 w44)) (Kept.of_grown (S := (fun k_ => P0_ k_)) hg (by repeat (first | (with_reducible first | exact HK.out | apply Kept.alloc | apply Kept.drewN | apply Kept.drew) | exact HK.out)) (fun k_ e_ => (Option.some.inj e_ ▸ Wd_ok HO_0.out))) ?_; clear HO_0 HB HK; intro HO_0 HB HK; clear hg hw hp_)))
          (try simp only [← hl0_3])
          go_roundg k3
          case measure => have := HJ9.out; have := HK2.out; have := HK3.out; omega
          case rel => exact ⟨(y170), ((IntKind.u64.wrap (x10_3 + (IntKind.u64.wrap ((IntKind.u64.wrap (rd x0_3 x140_3)) + (IntKind.u64.wrap (rd l1 x140_3)))))) / 4294967296), (wrap64 (x140_3 + 1)), zq8, zq8, (by first | exact H' | (rw [hji5]; exact H')), ⟨by have := HJ9.out; have := HK2.out; have := HK3.out; omega⟩, ⟨by (try simp only [hl0_2]); (try simp only [hl0_3]); (with_reducible repeat (first | apply Wd_alloc | apply Wd_drewN | apply Wd_drew)); exact HO_0.out⟩, ⟨by repeat (first | (with_reducible first | exact HK.out | apply Kept.alloc | apply Kept.drewN | apply Kept.drew) | exact HK.out)⟩, ⟨zq1⟩⟩
         ·rw [if_neg c38] at H
          have c38b0 := decide_eq_false c38
          (try (have c38b0x := c38b0; rw [hl0_2] at c38b0x))
          (try (have c38b0x := c38b0; rw [hl0_3] at c38b0x))
          clear c38
          replace H := zn H
          obtain ⟨c45, H⟩ := H
          have c45b0 := decide_eq_true c45
          have c45b1 : decide (0 ≤ l1.length) = true := decide_eq_true (by omega)
          clear c45
          replace H := zn H
          obtain ⟨c46, H⟩ := H
          have c46b0 := decide_eq_true c46
          have c46b1 : decide (l1.length < x0_3.length) = true := decide_eq_true (Int.ofNat_lt.mp c46)
          clear c46
          obtain ⟨y172, hy172⟩ : ∃ y_ : List Int, y_ = (x0_3.set ((l1.length : Int) : Int).toNat (((rd x0_3 (l1.length : Int)) + ((x10_3) % 4294967296)) % 4294967296)) := ⟨_, rfl⟩
          replace H : (some ((IntKind.u64.wrap (x7_9 - 1)) % 4294967296, y172)) = some (r1, r2) := by first | (rw [hy172]; with_reducible exact H) | (have H2_ := (Option.bind_some _ _).symm.trans H; rw [hy172]; with_reducible exact H2_) | (have H2_ := (Option.bind_some _ _).symm.trans H; with_reducible exact H2_) | with_reducible exact H | (rw [hy172]; exact H) | exact H
          have Ny172 := am hy172
          clear hy172
          simp only [Option.some.injEq, Prod.mk.injEq] at H
          obtain ⟨rfl, rfl⟩ := H
          have p171 : 0 ≤ ((l1.length : Int) : Int) := zq6
          have q171 : (l1.length : Int) < (x0_3.length : Int) := zq6
          obtain ⟨ad171, e171, hx171_0⟩ := Kd.at_int (Wd_reads' HO_0.out).2.2 (l1.length : Int) p171 q171
          obtain rfl : (ad156 : Addr) = ad171 := (by injection e171)
          (first | simp only [add_plain] at hx171_0 | simp only [add_at] at hx171_0 | simp only [Addr.add, Nat.zero_add] at hx171_0 | skip)
          (try simp only [Go.IntWalk.toNatUp] at hx171_0)
          (try simp only [hl0_2, hl0_3] at p171)
          (try simp only [hl0_2, hl0_3] at q171)
          (try simp only [hl0_2, hl0_3] at hx171_0)
          replace p171 := eq_true p171
          replace q171 := eq_true q171
          have p47 : 0 ≤ ((l1.length : Int) : Int) := zq6
          have q47 : ((l1.length : Int) : Int) < ((x0_3.length : Int) : Int) := zq6
          obtain ⟨hx47_0, hf47_0⟩ := Wd_celln 0 HO_0.out ((l1.length : Int) : Int) p47 q47
          (try simp only [Int.toNat_natCast] at hx47_0 hf47_0)
          replace p47 := eq_true p47
          replace q47 := eq_true q47
          have HP48 := Wd_putg HO_0.out ((l1.length : Int) : Int) (((rd x0_3 (l1.length : Int)) + ((x10_3) % 4294967296)) % 4294967296) zq7 zq7
          go_wp2_with (first | ((with_reducible refine gate_store (t := 73) (p := 171) rfl ?_); (try (rw [drewN_self wr]; generalize hq_ : World.drewN wr _ = wr; refine zt3 (Wd_at hq_ HO_0.out) (kept_at hq_ HK.out) (below_at hq_ HB.out) ?_; clear hq_ HO_0 HK HB; intro HO_0 HK HB; (try (have HP48 := Wd_putg HO_0.out ((l1.length : Int) : Int) (((rd x0_3 (l1.length : Int)) + ((x10_3) % 4294967296)) % 4294967296) zq7 zq7; have hzz_ := Wd_celln 0 HO_0.out ((l1.length : Int) : Int) zq7 zq7; have hzx_ := hzz_.1; have hzf_ := hzz_.2; clear hzz_; (try simp only [Int.toNat_natCast] at hzx_ hzf_))))); refine zstore (t := 73) (p := 171) (w1 := (wr.setCell (ad156.add ((l1.length : Int) : Int).toNat) (.int .u32 (((rd x0_3 (l1.length : Int)) + ((x10_3) % 4294967296)) % 4294967296)))) ?_; intro w49 hw; have hg : wr.grownBy w49 (some ad156.block) := (by rw [hw]; exact HP48.2); have hp_ : Wd pr_ po_ nW_ cW_ .u32 73 w49 w0.heap.size (fun k_ => (P0_ k_ ∨ w.heap.size ≤ k_)) (.slice (some ad156) x0_3.length co11) y172 := (by rw [hw, Ny172.out]; exact HP48.1); clear HP48; refine zt3 (hp_) ((by rw [hw]; exact below_setW (HB.out) GB32.out : Below w0.heap.size w0 w49)) (Kept.of_grown (S := (fun k_ => P0_ k_)) hg (by repeat (first | (with_reducible first | exact HK.out | apply Kept.alloc | apply Kept.drewN | apply Kept.drew) | exact HK.out)) (fun k_ e_ => (Option.some.inj e_ ▸ Wd_ok HO_0.out))) ?_; clear HO_0 HB HK; intro HO_0 HB HK; clear hg hw hp_))
          repeat (go_quiet (first | ((with_reducible refine gate_store (t := 73) (p := 171) rfl ?_); (try (rw [drewN_self wr]; generalize hq_ : World.drewN wr _ = wr; refine zt3 (Wd_at hq_ HO_0.out) (kept_at hq_ HK.out) (below_at hq_ HB.out) ?_; clear hq_ HO_0 HK HB; intro HO_0 HK HB; (try (have HP48 := Wd_putg HO_0.out ((l1.length : Int) : Int) (((rd x0_3 (l1.length : Int)) + ((x10_3) % 4294967296)) % 4294967296) zq7 zq7; have hzz_ := Wd_celln 0 HO_0.out ((l1.length : Int) : Int) zq7 zq7; have hzx_ := hzz_.1; have hzf_ := hzz_.2; clear hzz_; (try simp only [Int.toNat_natCast] at hzx_ hzf_))))); refine zstore (t := 73) (p := 171) (w1 := (wr.setCell (ad156.add ((l1.length : Int) : Int).toNat) (.int .u32 (((rd x0_3 (l1.length : Int)) + ((x10_3) % 4294967296)) % 4294967296)))) ?_; intro w49 hw; have hg : wr.grownBy w49 (some ad156.block) := (by rw [hw]; exact HP48.2); have hp_ : Wd pr_ po_ nW_ cW_ .u32 73 w49 w0.heap.size (fun k_ => (P0_ k_ ∨ w.heap.size ≤ k_)) (.slice (some ad156) x0_3.length co11) y172 := (by rw [hw, Ny172.out]; exact HP48.1); clear HP48; refine zt3 (hp_) ((by rw [hw]; exact below_setW (HB.out) GB32.out : Below w0.heap.size w0 w49)) (Kept.of_grown (S := (fun k_ => P0_ k_)) hg (by repeat (first | (with_reducible first | exact HK.out | apply Kept.alloc | apply Kept.drewN | apply Kept.drew) | exact HK.out)) (fun k_ e_ => (Option.some.inj e_ ▸ Wd_ok HO_0.out))) ?_; clear HO_0 HB HK; intro HO_0 HB HK; clear hg hw hp_)); try go_wp2_with (first | ((with_reducible refine gate_store (t := 73) (p := 171) rfl ?_); (try (rw [drewN_self wr]; generalize hq_ : World.drewN wr _ = wr; refine zt3 (Wd_at hq_ HO_0.out) (kept_at hq_ HK.out) (below_at hq_ HB.out) ?_; clear hq_ HO_0 HK HB; intro HO_0 HK HB; (try (have HP48 := Wd_putg HO_0.out ((l1.length : Int) : Int) (((rd x0_3 (l1.length : Int)) + ((x10_3) % 4294967296)) % 4294967296) zq7 zq7; have hzz_ := Wd_celln 0 HO_0.out ((l1.length : Int) : Int) zq7 zq7; have hzx_ := hzz_.1; have hzf_ := hzz_.2; clear hzz_; (try simp only [Int.toNat_natCast] at hzx_ hzf_))))); refine zstore (t := 73) (p := 171) (w1 := (wr.setCell (ad156.add ((l1.length : Int) : Int).toNat) (.int .u32 (((rd x0_3 (l1.length : Int)) + ((x10_3) % 4294967296)) % 4294967296)))) ?_; intro w49 hw; have hg : wr.grownBy w49 (some ad156.block) := (by rw [hw]; exact HP48.2); have hp_ : Wd pr_ po_ nW_ cW_ .u32 73 w49 w0.heap.size (fun k_ => (P0_ k_ ∨ w.heap.size ≤ k_)) (.slice (some ad156) x0_3.length co11) y172 := (by rw [hw, Ny172.out]; exact HP48.1); clear HP48; refine zt3 (hp_) ((by rw [hw]; exact below_setW (HB.out) GB32.out : Below w0.heap.size w0 w49)) (Kept.of_grown (S := (fun k_ => P0_ k_)) hg (by repeat (first | (with_reducible first | exact HK.out | apply Kept.alloc | apply Kept.drewN | apply Kept.drew) | exact HK.out)) (fun k_ e_ => (Option.some.inj e_ ▸ Wd_ok HO_0.out))) ?_; clear HO_0 HB HK; intro HO_0 HB HK; clear hg hw hp_)))
          go_ret
          exact ⟨by first | rfl | (simp [errW_none, errW_some] <;> rfl) | (simp only [← hji5]; first | rfl | (simp [errW_none, errW_some] <;> rfl)) | (simp [*, errW_none, errW_some] <;> rfl), (by first | exact (by (with_reducible repeat (first | apply Wd_alloc | apply Wd_drewN | apply Wd_drew)); exact HO_0.out) | (simp only [hl0_2, hl0_3]; exact (by (with_reducible repeat (first | apply Wd_alloc | apply Wd_drewN | apply Wd_drew)); exact HO_0.out))), zq1, by repeat (first | (with_reducible first | exact HK.out | apply Kept.alloc | apply Kept.drewN | apply Kept.drew) | exact HK.out)⟩
def nat_digit_at.f (k : Nat) (l0 : List Int) (a1 : Int) (a2 : Int) (l3 : List Int) : Option (Int × List Int) := if 0 ≤ a1 then (if a1 < a2 then (if a2 ≤ (l0.length : Int) then ((nat_digit.f k ((l0.take a2.toNat).drop a1.toNat) l3).bind fun b => some (b.1, l0.take a1.toNat ++ b.2 ++ l0.drop a2.toNat)) else none) else none) else none
theorem nat_digit_at.calls (k : Nat) (P0_ : Nat → Prop) (u9000_ : Value) (l0 : List Int) (a1 : Int) (a2 : Int) (A3 : Option Addr) (c3 : Nat) (l3 : List Int) (r1 : Int) (r2 : List Int) (w0 w : World) (hB : Below w0.heap.size w0 w) (ho0 : Kd.R (Kd.int .u32) 73 w w0.heap.size P0_ u9000_ l0) (hr3 : ∀ W_, Kept w W_ (fun k_ => P0_ k_) → Kd.C (Kd.int .u32) W_ A3 l3.length l3) (hc3 : l3.length ≤ c3) (h : nat_digit_at.f k l0 a1 a2 l3 = some (r1, r2))
  (A0 : Option Addr) (n0 c0 : Nat) (hu : u9000_ = .slice A0 n0 c0) (AW : Option Addr) (cW : Nat) (hA : AW = if c0 = a1.toNat then A0 else A0.map (·.add (a1.toNat * 1))) (yW : List Int) (hy : yW = (l0.take a2.toNat).drop a1.toNat) :
  Calls Tryz.prog 96 #[.slice AW yW.length cW, .slice A3 l3.length c3] w fun e w' => e = .returned (.int .u32 r1) ∧ Kd.R (Kd.int .u32) 73 w' w0.heap.size (fun k_ => (P0_ k_ ∨ w.heap.size ≤ k_)) u9000_ r2 ∧ Below w0.heap.size w0 w' ∧ Kept w w' (fun k_ => P0_ k_) := by
 unfold nat_digit_at.f at h
 split at h
 ·split at h
  ·split at h
   ·rename_i h0 h1 h2
    obtain ⟨⟨b1, b2⟩, hb, h⟩ := Option.bind_eq_some_iff.1 h
    simp only [Option.some.injEq, Prod.mk.injEq] at h
    obtain ⟨rfl, rfl⟩ := h
    subst hu
    rw [← hy] at hb
    obtain ⟨g, rfl, hAW, hW⟩ := win_start ho0 a1 a2 h0 h1 h2 hA hy cW
    refine (nat_digit.callsW (l0.take a1.toNat) (l0.drop a2.toNat) n0 c0 k P0_ (.slice AW yW.length cW) yW A3 c3 l3 b1 b2 w0 w hB hW hr3 hc3 hb).mono ?_
    rintro e w' ⟨rfl, q1, q2, q3⟩
    rw [hAW] at q1
    exact ⟨rfl, win_end q1, q2, q3⟩
   ·cases h
  ·cases h
 ·cases h
def nat_DivMod.l0 : Nat → List Int → Int → List Int → List Int → Int → Int → Option (List Int × List Int)
 | 0, _, _, _, _, _, _ => none
 | k + 1, x4, x8, x9, x10, x11, x12 => if x12 ≥ 0 then (if 0 ≤ x12 then (if x12 ≤ (wrap64 ((wrap64 (x12 + x11)) + 1)) then (if (wrap64 ((wrap64 (x12 + x11)) + 1)) ≤ (x10.length : Int) then ((nat_digit_at.f k x10 x12 (wrap64 ((wrap64 (x12 + x11)) + 1)) x9).bind fun bt205 => (if x12 < (x4.length : Int) then (nat_DivMod.l0 k (x4.set (x12 : Int).toNat bt205.1) x8 x9 bt205.2 x11 (wrap64 (x12 - 1))) else (none))) else (none)) else (none)) else (none)) else ((nat_Trim.f k x10).bind fun t208 => ((nat_Shr.f k t208 x8).bind fun bt211 => ((nat_Trim.f k x4).bind fun t215 => (some (t215, bt211.1)))))
def nat_DivMod.f (k : Nat) (l0 : List Int) (l1 : List Int) : Option (List Int × List Int) := (nat_Compare.f k l0 l1).bind fun t173 => (if t173 < 0 then ((slices_Clone_uint32_uint32.f l0).bind fun t174 => (some (([] : List Int), t174))) else (if (l1.length : Int) = 1 then (if 0 < (l1.length : Int) then ((nat_DivSmall.f k l0 (rd l1 0)).bind fun bt178 => ((nat_Of.f k (IntKind.u64.wrap (bt178.2))).bind fun t182 => (some (bt178.1, t182)))) else (none)) else (if 0 ≤ (wrap64 ((l1.length : Int) - 1)) then (if (wrap64 ((l1.length : Int) - 1)) < (l1.length : Int) then ((bits_LeadingZeros32.f (rd l1 (wrap64 ((l1.length : Int) - 1)))).bind fun t186 => ((nat_Shl.f k l1 t186).bind fun t187 => (if 0 ≤ (wrap64 ((l0.length : Int) + 1)) then (if (wrap64 ((l0.length : Int) + 1) : Int).toNat ≤ 70368744177664 then ((some (List.replicate (wrap64 ((l0.length : Int) + 1) : Int).toNat 0 : List Int)).bind fun y190 => ((nat_Shl.f k l0 t186).bind fun t193 => ((copy_e73.f y190 t193).bind fun bt196 => (if 0 ≤ (wrap64 ((y190.length : Int) - (t187.length : Int))) then (if (wrap64 ((y190.length : Int) - (t187.length : Int)) : Int).toNat ≤ 70368744177664 then ((some (List.replicate (wrap64 ((y190.length : Int) - (t187.length : Int)) : Int).toNat 0 : List Int)).bind fun y198 => (nat_DivMod.l0 k y198 t186 t187 bt196.2 (t187.length : Int) (wrap64 ((y198.length : Int) - 1)))) else (none)) else (none))))) else (none)) else (none)))) else (none)) else (none))))
set_option maxHeartbeats 8000000 in
set_option maxRecDepth 100000 in
theorem nat_DivMod.calls (k : Nat) (A0 : Option Addr) (c0 : Nat) (l0 : List Int) (A1 : Option Addr) (c1 : Nat) (l1 : List Int) (r1 : List Int) (r2 : List Int) (w : World) (hr0 : Kd.C (Kd.int .u32) w A0 l0.length l0) (hc0 : l0.length ≤ c0) (hr1 : Kd.C (Kd.int .u32) w A1 l1.length l1) (hc1 : l1.length ≤ c1) (h : nat_DivMod.f k l0 l1 = some (r1, r2)) :
  Calls Tryz.prog 66 #[.slice A0 l0.length c0, .slice A1 l1.length c1] w fun e w' => ∃ v0_ v1_ : Value, e = .returned (.tuple #[v0_, v1_]) ∧ Kd.V (Kd.int .u32) 73 w' w.heap.size (fun k_ => (w.heap.size ≤ k_)) v0_ r1 ∧ Kd.V (Kd.int .u32) 73 w' w.heap.size (fun k_ => (w.heap.size ≤ k_)) v1_ r2 ∧ Below w.heap.size w w' := by
 have HR0 := am hr0
 have HC0 := am hc0
 clear hr0 hc0
 have HR1 := am hr1
 have HC1 := am hc1
 clear hr1 hc1
 have HB := am (Below.refl w.heap.size w)
 have H := h
 unfold nat_DivMod.f at H
 clear h
 replace H := zj H
 obtain ⟨t173, A3, H⟩ := H
 replace H : (if t173 < 0 then ((slices_Clone_uint32_uint32.f l0).bind fun t174 => (some (([] : List Int), t174))) else (if (l1.length : Int) = 1 then (if 0 < (l1.length : Int) then ((nat_DivSmall.f k l0 (rd l1 0)).bind fun bt178 => ((nat_Of.f k (IntKind.u64.wrap (bt178.2))).bind fun t182 => (some (bt178.1, t182)))) else (none)) else (if 0 ≤ (wrap64 ((l1.length : Int) - 1)) then (if (wrap64 ((l1.length : Int) - 1)) < (l1.length : Int) then ((bits_LeadingZeros32.f (rd l1 (wrap64 ((l1.length : Int) - 1)))).bind fun t186 => ((nat_Shl.f k l1 t186).bind fun t187 => (if 0 ≤ (wrap64 ((l0.length : Int) + 1)) then (if (wrap64 ((l0.length : Int) + 1) : Int).toNat ≤ 70368744177664 then ((some (List.replicate (wrap64 ((l0.length : Int) + 1) : Int).toNat 0 : List Int)).bind fun y190 => ((nat_Shl.f k l0 t186).bind fun t193 => ((copy_e73.f y190 t193).bind fun bt196 => (if 0 ≤ (wrap64 ((y190.length : Int) - (t187.length : Int))) then (if (wrap64 ((y190.length : Int) - (t187.length : Int)) : Int).toNat ≤ 70368744177664 then ((some (List.replicate (wrap64 ((y190.length : Int) - (t187.length : Int)) : Int).toNat 0 : List Int)).bind fun y198 => (nat_DivMod.l0 k y198 t186 t187 bt196.2 (t187.length : Int) (wrap64 ((y198.length : Int) - 1)))) else (none)) else (none))))) else (none)) else (none)))) else (none)) else (none)))) = some (r1, r2) := H
 by_cases c4 : t173 < 0
 ·rw [if_pos c4] at H
  have c4b0 := decide_eq_true c4
  clear c4
  replace H := zj H
  obtain ⟨t174, A5, H⟩ := H
  replace H : (some (([] : List Int), t174)) = some (r1, r2) := H
  simp only [Option.some.injEq, Prod.mk.injEq] at H
  obtain ⟨rfl, rfl⟩ := H
  go_enter Tryz.func66, Tryz.ntmps66
  go_wp2_with (first | ((with_reducible refine gate_callee (f := 67) rfl ?_); refine goesL_ (some 15) rfl rfl Tryz.func67 (by kernel_rfl) rfl #[.slice A0 l0.length c0, .slice A1 l1.length c1] rfl zq5 ?_; (with_reducible refine (nat_Compare.calls k _ _ l0 _ _ l1 t173 _ ?side1 ?side2 ?side3 ?side4 A3.out).mono ?_); (case side1 => exact zc (HR0.out)); (case side2 => exact HC0.out); (case side3 => exact zc (HR1.out)); (case side4 => exact HC1.out); rintro e w' ⟨rfl, ⟨nd, rfl⟩⟩; refine ⟨_, rfl, ?_⟩) | ((with_reducible refine gate_callee (f := 88) rfl ?_); refine goesL_ (some 18) rfl rfl Tryz.func88 (by kernel_rfl) rfl #[.slice A0 l0.length c0] rfl zq5 ?_; (with_reducible refine (slices_Clone_uint32_uint32.calls _ _ l0 t174 _ ?side1 ?side2 A5.out).mono ?_); (case side1 => exact zc (HR0.out)); (case side2 => exact HC0.out); rintro e w6 ⟨v175, rfl, ho0, hb⟩; refine ⟨_, rfl, ?_⟩; refine zt2 (Kd.R_lower (Kd.R_newM (M := fun k_ => (w.heap.size ≤ k_)) ho0 (below_size zq1) (fun k_ h_ => h_)) (below_size zq1)) (below_step zq1 hb) ?_; clear HB; intro HO176 HB))
  go_ret2
  exact ⟨_, _, zq9, Kd.V_nil _ _ _ _ _, Kd.R_V (zwR (h := by exact Kd.R_mono HO176.out (fun _ hk => hk.1))), zq1⟩
 ·rw [if_neg c4] at H
  have c4b0 := decide_eq_false c4
  clear c4
  by_cases c7 : (l1.length : Int) = 1
  ·rw [if_pos c7] at H
   have c7b0 : ((l1.length : Int) == 1) = true := beq_iff_eq.mpr c7
   have c7b1 : ((l1.length : Int) != 1) = false := bne_eq_false_iff_eq.mpr c7
   clear c7
   replace H := zn H
   obtain ⟨c8, H⟩ := H
   have c8b0 := decide_eq_true c8
   have c8b1 : decide (0 < l1.length) = true := decide_eq_true (by omega)
   clear c8
   replace H := zj H
   obtain ⟨⟨t178, t181⟩, A9, H⟩ := H
   replace H : ((nat_Of.f k (IntKind.u64.wrap (t181))).bind fun t182 => (some (t178, t182))) = some (r1, r2) := H
   replace H := zj H
   obtain ⟨t182, A10, H⟩ := H
   replace H : (some (t178, t182)) = some (r1, r2) := H
   simp only [Option.some.injEq, Prod.mk.injEq] at H
   obtain ⟨rfl, rfl⟩ := H
   go_enter Tryz.func66, Tryz.ntmps66
   go_wp2_with (first | ((with_reducible refine gate_callee (f := 67) rfl ?_); refine goesL_ (some 15) rfl rfl Tryz.func67 (by kernel_rfl) rfl #[.slice A0 l0.length c0, .slice A1 l1.length c1] rfl zq5 ?_; (with_reducible refine (nat_Compare.calls k _ _ l0 _ _ l1 t173 _ ?side1 ?side2 ?side3 ?side4 A3.out).mono ?_); (case side1 => exact zc (HR0.out)); (case side2 => exact HC0.out); (case side3 => exact zc (HR1.out)); (case side4 => exact HC1.out); rintro e w' ⟨rfl, ⟨nd, rfl⟩⟩; refine ⟨_, rfl, ?_⟩; have p177 : 0 ≤ (0 : Int) := (by omega); have q177 : 0 < (l1.length : Int) := zq6; obtain ⟨ad177, e177, hx177_0⟩ := Kd.at_int HR1.out 0 p177 q177; cases e177; have qi177 : (0 < l1.length) = True := eq_true (by omega); (try rw [show ((0 : Int)).toNat = 0 from rfl] at hx177_0); (try rw [Addr.add_zero'] at hx177_0); replace p177 := eq_true p177; replace q177 := eq_true q177) | ((with_reducible refine gate_callee (f := 94) rfl ?_); refine goesL_ (some 27) rfl rfl Tryz.func94 (by kernel_rfl) rfl #[.slice A0 l0.length c0, .int .u32 (rd l1 0)] rfl zq5 ?_; (with_reducible refine (nat_DivSmall.calls k _ _ l0 (rd l1 0) t178 t181 _ ?side1 ?side2 A9.out).mono ?_); (case side1 => exact zc (HR0.out)); (case side2 => exact HC0.out); rintro e w11 ⟨v179, rfl, ho0, hb⟩; refine ⟨_, rfl, ?_⟩; refine zt2 (Kd.V_lower (Kd.V_mono (ok' := fun k_ => (w.heap.size ≤ k_)) ho0 (fun k_ hk_ => (Nat.le_trans (below_size zq1) hk_))) (below_size zq1)) (below_step zq1 hb) ?_; clear HB; intro HO180 HB) | ((with_reducible refine gate_callee (f := 54) rfl ?_); refine goesL_ (some 33) rfl rfl Tryz.func54 (by kernel_rfl) rfl #[.int .u64 (IntKind.u64.wrap (t181))] rfl zq5 ?_; (with_reducible refine (nat_Of.calls k (IntKind.u64.wrap (t181)) t182 _ A10.out).mono ?_); rintro e w12 ⟨v183, rfl, ho0, hb⟩; refine ⟨_, rfl, ?_⟩; refine zt3 (vb HO180 hb) (Kd.V_lower (Kd.V_mono (ok' := fun k_ => (w.heap.size ≤ k_)) ho0 (fun k_ hk_ => (Nat.le_trans (below_size zq1) hk_))) (below_size zq1)) (below_step zq1 hb) ?_; clear HO180 HB; intro HO180 HO184 HB))
   go_ret2
   exact ⟨_, _, zq9, zq3 HO180.out, zq3 HO184.out, zq1⟩
  ·rw [if_neg c7] at H
   have c7b0 : ((l1.length : Int) == 1) = false := beq_eq_false_iff_ne.mpr c7
   have c7b1 : ((l1.length : Int) != 1) = true := bne_iff_ne.mpr c7
   obtain ⟨ji13, hji13⟩ : ∃ j_ : Int, (wrap64 ((l1.length : Int) - 1)) = j_ := ⟨_, rfl⟩
   replace H : (if 0 ≤ (ji13) then (if (ji13) < (l1.length : Int) then ((bits_LeadingZeros32.f (rd l1 (ji13))).bind fun t186 => ((nat_Shl.f k l1 t186).bind fun t187 => (if 0 ≤ (wrap64 ((l0.length : Int) + 1)) then (if (wrap64 ((l0.length : Int) + 1) : Int).toNat ≤ 70368744177664 then ((some (List.replicate (wrap64 ((l0.length : Int) + 1) : Int).toNat 0 : List Int)).bind fun y190 => ((nat_Shl.f k l0 t186).bind fun t193 => ((copy_e73.f y190 t193).bind fun bt196 => (if 0 ≤ (wrap64 ((y190.length : Int) - (t187.length : Int))) then (if (wrap64 ((y190.length : Int) - (t187.length : Int)) : Int).toNat ≤ 70368744177664 then ((some (List.replicate (wrap64 ((y190.length : Int) - (t187.length : Int)) : Int).toNat 0 : List Int)).bind fun y198 => (nat_DivMod.l0 k y198 t186 t187 bt196.2 (t187.length : Int) (wrap64 ((y198.length : Int) - 1)))) else (none)) else (none))))) else (none)) else (none)))) else (none)) else (none)) = some (r1, r2) := by first | (rw [hji13] at H; exact H) | (simp only [hji13] at H ⊢; exact H)
   (try rw [hji13] at A3)
   have hji13w : (IntKind.i64.wrap ((l1.length : Int) - 1)) = ji13 := (i64_w _).trans hji13
   replace H := zn H
   obtain ⟨c14, H⟩ := H
   have c14b0 := decide_eq_true c14
   clear c14
   replace H := zn H
   obtain ⟨c15, H⟩ := H
   have c15b0 := decide_eq_true c15
   clear c15
   replace H := zj H
   obtain ⟨t186, A16, H⟩ := H
   replace H : ((nat_Shl.f k l1 t186).bind fun t187 => (if 0 ≤ (wrap64 ((l0.length : Int) + 1)) then (if (wrap64 ((l0.length : Int) + 1) : Int).toNat ≤ 70368744177664 then ((some (List.replicate (wrap64 ((l0.length : Int) + 1) : Int).toNat 0 : List Int)).bind fun y190 => ((nat_Shl.f k l0 t186).bind fun t193 => ((copy_e73.f y190 t193).bind fun bt196 => (if 0 ≤ (wrap64 ((y190.length : Int) - (t187.length : Int))) then (if (wrap64 ((y190.length : Int) - (t187.length : Int)) : Int).toNat ≤ 70368744177664 then ((some (List.replicate (wrap64 ((y190.length : Int) - (t187.length : Int)) : Int).toNat 0 : List Int)).bind fun y198 => (nat_DivMod.l0 k y198 t186 t187 bt196.2 (t187.length : Int) (wrap64 ((y198.length : Int) - 1)))) else (none)) else (none))))) else (none)) else (none))) = some (r1, r2) := H
   replace H := zj H
   obtain ⟨t187, A17, H⟩ := H
   replace H : (if 0 ≤ (wrap64 ((l0.length : Int) + 1)) then (if (wrap64 ((l0.length : Int) + 1) : Int).toNat ≤ 70368744177664 then ((some (List.replicate (wrap64 ((l0.length : Int) + 1) : Int).toNat 0 : List Int)).bind fun y190 => ((nat_Shl.f k l0 t186).bind fun t193 => ((copy_e73.f y190 t193).bind fun bt196 => (if 0 ≤ (wrap64 ((y190.length : Int) - (t187.length : Int))) then (if (wrap64 ((y190.length : Int) - (t187.length : Int)) : Int).toNat ≤ 70368744177664 then ((some (List.replicate (wrap64 ((y190.length : Int) - (t187.length : Int)) : Int).toNat 0 : List Int)).bind fun y198 => (nat_DivMod.l0 k y198 t186 t187 bt196.2 (t187.length : Int) (wrap64 ((y198.length : Int) - 1)))) else (none)) else (none))))) else (none)) else (none)) = some (r1, r2) := H
   obtain ⟨ji18, hji18⟩ : ∃ j_ : Int, (wrap64 ((l0.length : Int) + 1)) = j_ := ⟨_, rfl⟩
   replace H : (if 0 ≤ (ji18) then (if (ji18 : Int).toNat ≤ 70368744177664 then ((some (List.replicate (ji18 : Int).toNat 0 : List Int)).bind fun y190 => ((nat_Shl.f k l0 t186).bind fun t193 => ((copy_e73.f y190 t193).bind fun bt196 => (if 0 ≤ (wrap64 ((y190.length : Int) - (t187.length : Int))) then (if (wrap64 ((y190.length : Int) - (t187.length : Int)) : Int).toNat ≤ 70368744177664 then ((some (List.replicate (wrap64 ((y190.length : Int) - (t187.length : Int)) : Int).toNat 0 : List Int)).bind fun y198 => (nat_DivMod.l0 k y198 t186 t187 bt196.2 (t187.length : Int) (wrap64 ((y198.length : Int) - 1)))) else (none)) else (none))))) else (none)) else (none)) = some (r1, r2) := by first | (rw [hji18] at H; exact H) | (simp only [hji18] at H ⊢; exact H)
   (try rw [hji18] at A3)
   (try rw [hji18] at A16)
   (try rw [hji18] at A17)
   have hji18w : (IntKind.i64.wrap ((l0.length : Int) + 1)) = ji18 := (i64_w _).trans hji18
   replace H := zn H
   obtain ⟨c19, H⟩ := H
   have c19b0 := eq_true c19
   have c19b1 := decide_eq_true c19
   clear c19
   replace H := zn H
   obtain ⟨c20, H⟩ := H
   have c20b0 := eq_true c20
   have c20b1 := decide_eq_true c20
   clear c20
   obtain ⟨y190, hy190⟩ : ∃ y_ : List Int, y_ = (List.replicate (ji18 : Int).toNat 0) := ⟨_, rfl⟩
   replace H : ((nat_Shl.f k l0 t186).bind fun t193 => ((copy_e73.f y190 t193).bind fun bt196 => (if 0 ≤ (wrap64 ((y190.length : Int) - (t187.length : Int))) then (if (wrap64 ((y190.length : Int) - (t187.length : Int)) : Int).toNat ≤ 70368744177664 then ((some (List.replicate (wrap64 ((y190.length : Int) - (t187.length : Int)) : Int).toNat 0 : List Int)).bind fun y198 => (nat_DivMod.l0 k y198 t186 t187 bt196.2 (t187.length : Int) (wrap64 ((y198.length : Int) - 1)))) else (none)) else (none)))) = some (r1, r2) := by first | (rw [hy190]; with_reducible exact H) | (have H2_ := (Option.bind_some _ _).symm.trans H; rw [hy190]; with_reducible exact H2_) | (have H2_ := (Option.bind_some _ _).symm.trans H; with_reducible exact H2_) | with_reducible exact H | (rw [hy190]; exact H) | exact H
   have Ny190 := am hy190
   clear hy190
   replace H := zj H
   obtain ⟨t193, A21, H⟩ := H
   replace H : ((copy_e73.f y190 t193).bind fun bt196 => (if 0 ≤ (wrap64 ((y190.length : Int) - (t187.length : Int))) then (if (wrap64 ((y190.length : Int) - (t187.length : Int)) : Int).toNat ≤ 70368744177664 then ((some (List.replicate (wrap64 ((y190.length : Int) - (t187.length : Int)) : Int).toNat 0 : List Int)).bind fun y198 => (nat_DivMod.l0 k y198 t186 t187 bt196.2 (t187.length : Int) (wrap64 ((y198.length : Int) - 1)))) else (none)) else (none))) = some (r1, r2) := H
   replace H := zj H
   obtain ⟨⟨t196, t197⟩, A22, H⟩ := H
   replace H : (if 0 ≤ (wrap64 ((y190.length : Int) - (t187.length : Int))) then (if (wrap64 ((y190.length : Int) - (t187.length : Int)) : Int).toNat ≤ 70368744177664 then ((some (List.replicate (wrap64 ((y190.length : Int) - (t187.length : Int)) : Int).toNat 0 : List Int)).bind fun y198 => (nat_DivMod.l0 k y198 t186 t187 t197 (t187.length : Int) (wrap64 ((y198.length : Int) - 1)))) else (none)) else (none)) = some (r1, r2) := H
   obtain ⟨ji23, hji23⟩ : ∃ j_ : Int, (wrap64 ((y190.length : Int) - (t187.length : Int))) = j_ := ⟨_, rfl⟩
   replace H : (if 0 ≤ (ji23) then (if (ji23 : Int).toNat ≤ 70368744177664 then ((some (List.replicate (ji23 : Int).toNat 0 : List Int)).bind fun y198 => (nat_DivMod.l0 k y198 t186 t187 t197 (t187.length : Int) (wrap64 ((y198.length : Int) - 1)))) else (none)) else (none)) = some (r1, r2) := by first | (rw [hji23] at H; exact H) | (simp only [hji23] at H ⊢; exact H)
   (try rw [hji23] at A3)
   (try rw [hji23] at A16)
   (try rw [hji23] at A17)
   (try rw [hji23] at A21)
   (try rw [hji23] at A22)
   have hji23w : (IntKind.i64.wrap ((y190.length : Int) - (t187.length : Int))) = ji23 := (i64_w _).trans hji23
   replace H := zn H
   obtain ⟨c24, H⟩ := H
   have c24b0 := eq_true c24
   have c24b1 := decide_eq_true c24
   clear c24
   replace H := zn H
   obtain ⟨c25, H⟩ := H
   have c25b0 := eq_true c25
   have c25b1 := decide_eq_true c25
   clear c25
   obtain ⟨y198, hy198⟩ : ∃ y_ : List Int, y_ = (List.replicate (ji23 : Int).toNat 0) := ⟨_, rfl⟩
   replace H : (nat_DivMod.l0 k y198 t186 t187 t197 (t187.length : Int) (wrap64 ((y198.length : Int) - 1))) = some (r1, r2) := by first | (rw [hy198]; with_reducible exact H) | (have H2_ := (Option.bind_some _ _).symm.trans H; rw [hy198]; with_reducible exact H2_) | (have H2_ := (Option.bind_some _ _).symm.trans H; with_reducible exact H2_) | with_reducible exact H | (rw [hy198]; exact H) | exact H
   have Ny198 := am hy198
   clear hy198
   have H' := am H
   clear H
   go_enter Tryz.func66, Tryz.ntmps66
   go_wp2_with (first | ((with_reducible refine gate_callee (f := 67) rfl ?_); refine goesL_ (some 15) rfl rfl Tryz.func67 (by kernel_rfl) rfl #[.slice A0 l0.length c0, .slice A1 l1.length c1] rfl zq5 ?_; (with_reducible refine (nat_Compare.calls k _ _ l0 _ _ l1 t173 _ ?side1 ?side2 ?side3 ?side4 A3.out).mono ?_); (case side1 => exact zc (HR0.out)); (case side2 => exact HC0.out); (case side3 => exact zc (HR1.out)); (case side4 => exact HC1.out); rintro e w' ⟨rfl, ⟨nd, rfl⟩⟩; refine ⟨_, rfl, ?_⟩; have p185 : 0 ≤ ((ji13) : Int) := zq6; have q185 : (ji13) < (l1.length : Int) := zq6; obtain ⟨ad185, e185, hx185_0⟩ := Kd.at_int HR1.out (ji13) p185 q185; cases e185; replace p185 := eq_true p185; replace q185 := eq_true q185) | ((with_reducible refine gate_callee (f := 95) rfl ?_); refine goesL_ (some 40) rfl rfl Tryz.func95 (by kernel_rfl) rfl #[.int .u32 (rd l1 (ji13))] rfl (by (try simp only [List.map_toArray, List.map_cons, List.map_nil]); first | done | (simp only [hji13]; rfl) | rfl | (simp only [List.length_drop, List.length_take]; rfl)) ?_; (with_reducible refine (bits_LeadingZeros32.calls (rd l1 (ji13)) t186 _ A16.out).mono ?_); rintro e w' ⟨rfl, ⟨nd, rfl⟩⟩; refine ⟨_, rfl, ?_⟩) | ((with_reducible refine gate_callee (f := 55) rfl ?_); refine goesL_ (some 43) rfl rfl Tryz.func55 (by kernel_rfl) rfl #[.slice (some ad185) l1.length c1, .int .i64 t186] rfl zq5 ?_; (with_reducible refine (nat_Shl.calls k _ _ l1 t186 t187 _ ?side1 ?side2 A17.out).mono ?_); (case side1 => exact zc (HR1.out)); (case side2 => exact HC1.out); rintro e w26 ⟨v188, rfl, ho0, hb⟩; refine ⟨_, rfl, ?_⟩; refine zt2 (Kd.V_lower (Kd.V_mono (ok' := fun k_ => (w.heap.size ≤ k_)) ho0 (fun k_ hk_ => (Nat.le_trans (below_size zq1) hk_))) (below_size zq1)) (below_step zq1 hb) ?_; clear HB; intro HO189 HB) | ((with_reducible refine gate_dst (N := 47) rfl ?_); refine Kd.R_make (Kd.int .u32) _ 73 rfl (N := 47) rfl 22 _ _ rfl ji18 rfl rfl Tryz.underlying22 (.int .u32 0) 4 info73 rfl (by decide) (by omega) 0 (ok := fun _ => True) (okp := fun _ => True) rfl (fun _ hk => hk) trivial zq6 (Nat.le_trans (Nat.mul_le_mul_right _ (zq6 : ji18.toNat ≤ 70368744177664)) (by omega)) (Below.refl _ _) (Nat.le_refl _) ?_; intro v191 w27 ho28 hb hg_ hnew_; clear hg_ hnew_; (first | rw [← Ny190.out] at ho28 | (simp only [Int.reduceToNat] at ho28; rw [← Ny190.out] at ho28)); refine zt3 (Kd.V_elder' (zq3 HO189.out) (Kd.R_base ho28) hb) (Kd.R_lower (Kd.R_newM (M := fun k_ => (w.heap.size ≤ k_)) ho28 (below_size zq1) (fun k_ h_ => h_)) (below_size zq1)) (below_step zq1 hb) ?_; clear HO189 HB; intro HO189 HO192 HB; clear hb ho28) | ((with_reducible refine gate_callee (f := 55) rfl ?_); refine goesL_ (some 51) rfl rfl Tryz.func55 (by kernel_rfl) rfl #[.slice A0 l0.length c0, .int .i64 t186] rfl zq5 ?_; (with_reducible refine (nat_Shl.calls k _ _ l0 t186 t193 _ ?side1 ?side2 A21.out).mono ?_); (case side1 => exact zc (Kd.C_below HR0.out HB.out)); (case side2 => exact HC0.out); rintro e w29 ⟨v194, rfl, ho0, hb⟩; refine ⟨_, rfl, ?_⟩; refine zt4 (vb HO189 hb) (rb HO192 hb) (Kd.V_lower (Kd.V_mono (ok' := fun k_ => (w.heap.size ≤ k_) ∧ some k_ ≠ (v191 : Value).ownBlock) ho0 (fun k_ hk_ => ⟨(Nat.le_trans (below_size zq1) hk_), (Kd.fresh' (Kd.R_lt (zq4 HO192.out)) k_ hk_)⟩)) (below_size zq1)) (below_step zq1 hb) ?_; clear HO189 HO192 HB; intro HO189 HO192 HO195 HB; obtain ⟨Ao30, co30, eo30⟩ := Kd.R_slice HO192.out; subst eo30; obtain ⟨Ao31, co31, eo31⟩ := Kd.V_slice HO195.out; subst eo31) | ((with_reducible refine gate_builtin (b := .copy) rfl ?_); refine copyL_ (some 52) rfl rfl #[.slice Ao30 y190.length co30, .slice Ao31 t193.length co31] rfl zq5 ?_; (with_reducible refine (copy_e73.calls (fun k_ => some k_ = (.slice Ao30 y190.length co30 : Value).ownBlock) (.slice Ao30 y190.length co30) y190 _ _ t193 t196 t197 w _ ?side1 ?side2 ?side3 ?side4 A22.out).mono ?_); (case side1 => repeat (first | (with_reducible first | exact HB.out | apply below_alloc | apply pw_below_drewN | apply below_drew1) | exact HB.out)); (case side2 => exact Kd.R_tight rfl HO192.out); (case side3 => exact Kd.C_kept_ownV (HO195.out) (fun k_ hk_ hs_ => (hk_.2) hs_)); (case side4 => exact (Kd.V_reads' HO195.out).2.1); rintro e w32 ⟨rfl, hy0, hb, hkp⟩; refine ⟨_, rfl, ?_⟩; refine zt4 (Kd.V_mono (ok' := fun k_ => (w.heap.size ≤ k_) ∧ some k_ ≠ (.slice Ao30 y190.length co30 : Value).ownBlock) (Kd.V_keptB (HO189.out) hkp (fun k_ hk_ hs_ => (hk_.2) hs_)) (fun k_ hk_ => ⟨hk_.1.1, hk_.1.2⟩)) (Kd.R_reok rfl hy0 (fun k_ e_ => HO192.out.1 k_ e_)) (Kd.V_mono (ok' := fun k_ => (w.heap.size ≤ k_) ∧ some k_ ≠ (.slice Ao30 y190.length co30 : Value).ownBlock) (Kd.V_keptB (HO195.out) hkp (fun k_ hk_ hs_ => (hk_.2) hs_)) (fun k_ hk_ => ⟨hk_.1.1, hk_.1.2⟩)) (hb) ?_; clear HO189 HO192 HO195 HB; intro HO189 HO192 HO195 HB; (try clear hb); (try clear hkp); (try clear hy0); obtain ⟨Ao33, co33, eo33⟩ := Kd.V_slice HO189.out; subst eo33) | ((with_reducible refine gate_dst (N := 59) rfl ?_); refine Kd.R_make (Kd.int .u32) _ 73 rfl (N := 59) rfl 22 _ _ rfl ji23 rfl rfl Tryz.underlying22 (.int .u32 0) 4 info73 rfl (by decide) (by omega) 0 (ok := fun _ => True) (okp := fun _ => True) rfl (fun _ hk => hk) trivial zq6 (Nat.le_trans (Nat.mul_le_mul_right _ (zq6 : ji23.toNat ≤ 70368744177664)) (by omega)) (Below.refl _ _) (Nat.le_refl _) ?_; intro v199 w34 ho35 hb hg_ hnew_; clear hg_ hnew_; (first | rw [← Ny198.out] at ho35 | (simp only [Int.reduceToNat] at ho35; rw [← Ny198.out] at ho35)); refine zt5 (Kd.V_elder' (zq3 HO189.out) (Kd.R_base ho35) hb) (Kd.R_elder' (zq4 HO192.out) (Kd.R_base ho35) hb) (Kd.V_elder' (zq3 HO195.out) (Kd.R_base ho35) hb) (Kd.R_lower (Kd.R_new' (Kd.R_newM (M := fun k_ => (w.heap.size ≤ k_)) ho35 (below_size zq1) (fun k_ h_ => h_)) (Kd.R_lt (zq4 HO192.out))) (below_size zq1)) (below_step zq1 hb) ?_; clear HO189 HO192 HO195 HB; intro HO189 HO192 HO195 HO200 HB; clear hb ho35; obtain ⟨Ao36, co36, eo36⟩ := Kd.R_slice HO200.out; subst eo36))
   go_loopg [12] k (fun kq v12 w' => ∃ (x4_1 : List Int) (x9_1 : List Int) (x10_1 : List Int) (x12_1 : Int), v12 = .int .i64 x12_1 ∧ Aside0 (nat_DivMod.l0 kq x4_1 t186 x9_1 x10_1 (t187.length : Int) x12_1 = some (r1, r2)) ∧ Aside0 (kq ≤ k) ∧ Aside0 (Kd.R (Kd.int .u32) 73 w' w.heap.size (fun k_ => (w.heap.size ≤ k_) ∧ some k_ ≠ ((.slice Ao30 y190.length co30) : Value).ownBlock) (.slice Ao36 y198.length co36) x4_1) ∧ Aside0 (Kd.V (Kd.int .u32) 73 w' w.heap.size (fun k_ => (w.heap.size ≤ k_) ∧ some k_ ≠ ((.slice Ao36 y198.length co36) : Value).ownBlock ∧ some k_ ≠ ((.slice Ao30 y190.length co30) : Value).ownBlock) (.slice Ao33 t187.length co33) x9_1) ∧ Aside0 (Kd.R (Kd.int .u32) 73 w' w.heap.size (fun k_ => (w.heap.size ≤ k_) ∧ some k_ ≠ ((.slice Ao36 y198.length co36) : Value).ownBlock) (.slice Ao30 y190.length co30) x10_1) ∧ Aside0 (Below w.heap.size w w'))
   case atStart => exact ⟨(y198), (t187), (t197), (wrap64 ((y198.length : Int) - 1)), zq8, H', ⟨Nat.le_refl _⟩, ⟨zwR (h := by exact Kd.R_mono HO200.out (fun _ hk => ⟨hk.1.1, hk.2⟩))⟩, ⟨zwV (h := by exact Kd.V_mono HO189.out (fun _ hk => ⟨hk.1.1, ⟨hk.2, hk.1.2⟩⟩))⟩, ⟨zwR (h := by exact Kd.R_mono HO192.out (fun _ hk => ⟨hk.1.1, hk.2⟩))⟩, ⟨zq1⟩⟩
   case round =>
    clear H'
    obtain ⟨x4_1, x9_1, x10_1, x12_1, rfl, HA, HK1, HO_4, HO_9, HO_10, HB⟩ := hrel
    have hl4_1 := (Kd.R_reads' HO_4.out).1
    rw [hl4_1] at HO_4
    (try simp only [hl4_1])
    (try simp only [hl4_1] at HO_9)
    (try simp only [hl4_1] at HO_10)
    have hl9_1 := (Kd.V_reads' HO_9.out).1
    rw [hl9_1] at HO_9
    (try simp only [hl9_1])
    (try simp only [hl9_1] at HO_4)
    (try simp only [hl9_1] at HO_10)
    have hl10_1 := (Kd.R_reads' HO_10.out).1
    rw [hl10_1] at HO_10
    (try simp only [hl10_1])
    (try simp only [hl10_1] at HO_4)
    (try simp only [hl10_1] at HO_9)
    cases gk with
    | zero => exact absurd HA.out (by simp [nat_DivMod.l0])
    | succ k1 =>
     have H := HA.out
     clear HA
     simp only [nat_DivMod.l0] at H
     by_cases c37 : x12_1 ≥ 0
     ·rw [if_pos c37] at H
      have c37b0 : decide (0 ≤ x12_1) = true := decide_eq_true c37
      clear c37
      replace H := zn H
      obtain ⟨c38, H⟩ := H
      have c38b0 := eq_true c38
      have c38b1 := decide_eq_true c38
      clear c38
      replace H := zn H
      obtain ⟨c39, H⟩ := H
      have c39b0 := eq_true c39
      have c39b1 := decide_eq_true c39
      replace H := zn H
      obtain ⟨c40, H⟩ := H
      have c40b0 := eq_true c40
      have c40b1 := decide_eq_true c40
      obtain ⟨y201, hy201⟩ : ∃ y_ : List Int, y_ = ((x10_1.take ((wrap64 ((wrap64 (x12_1 + (t187.length : Int))) + 1)) : Int).toNat).drop (x12_1 : Int).toNat) := ⟨_, rfl⟩
      replace H : ((nat_digit_at.f k1 x10_1 x12_1 (wrap64 ((wrap64 (x12_1 + (t187.length : Int))) + 1)) x9_1).bind fun bt205 => (if x12_1 < (x4_1.length : Int) then (nat_DivMod.l0 k1 (x4_1.set (x12_1 : Int).toNat bt205.1) t186 x9_1 bt205.2 (t187.length : Int) (wrap64 (x12_1 - 1))) else (none))) = some (r1, r2) := by first | (rw [hy201]; with_reducible exact H) | (have H2_ := (Option.bind_some _ _).symm.trans H; rw [hy201]; with_reducible exact H2_) | (have H2_ := (Option.bind_some _ _).symm.trans H; with_reducible exact H2_) | with_reducible exact H | (rw [hy201]; exact H) | exact H
      have Ny201 := am hy201
      clear hy201
      replace H := zj H
      obtain ⟨⟨t205, t206⟩, A41, H⟩ := H
      replace H : (if x12_1 < (x4_1.length : Int) then (nat_DivMod.l0 k1 (x4_1.set (x12_1 : Int).toNat t205) t186 x9_1 t206 (t187.length : Int) (wrap64 (x12_1 - 1))) else (none)) = some (r1, r2) := H
      replace H := zn H
      obtain ⟨c42, H⟩ := H
      have c42b0 := decide_eq_true c42
      clear c42
      obtain ⟨y207, hy207⟩ : ∃ y_ : List Int, y_ = (x4_1.set (x12_1 : Int).toNat t205) := ⟨_, rfl⟩
      replace H : (nat_DivMod.l0 k1 y207 t186 x9_1 t206 (t187.length : Int) (wrap64 (x12_1 - 1))) = some (r1, r2) := by first | (rw [hy207]; with_reducible exact H) | (have H2_ := (Option.bind_some _ _).symm.trans H; rw [hy207]; with_reducible exact H2_) | (have H2_ := (Option.bind_some _ _).symm.trans H; with_reducible exact H2_) | with_reducible exact H | (rw [hy207]; exact H) | exact H
      have Ny207 := am hy207
      clear hy207
      have H' := am H
      clear H
      have q44 : ((wrap64 ((wrap64 (x12_1 + (t187.length : Int))) + 1)) : Int) ≤ ((x10_1.length : Int) : Int) := zq6
      obtain ⟨i044, hi044, _, hsz44, _⟩ := info_parts info73
      have hroom44 : x10_1.length ≤ co30 := (Kd.R_reads' HO_10.out).2.1
      have hC44 : Kd.C (Kd.int .u32) _ Ao30 x10_1.length x10_1 := (Kd.R_reads' HO_10.out).2.2
      have ql44 : (x12_1 : Int) ≤ ((wrap64 ((wrap64 (x12_1 + (t187.length : Int))) + 1)) : Int) := zq6
      have q044 : (0 : Int) ≤ (x12_1 : Int) := zq6
      have hcut44 := cut_mid (P := Tryz.prog) 22 73 .i64 .i64 Tryz.underlying22 hi044 1 hsz44 Ao30 x10_1.length co30 x12_1 (wrap64 ((wrap64 (x12_1 + (t187.length : Int))) + 1)) q044 ql44 q44 hroom44
      have hr44 := Kd.C_mid (lo := (x12_1 : Int).toNat) (hi := ((wrap64 ((wrap64 (x12_1 + (t187.length : Int))) + 1)) : Int).toNat) (c := co30) hC44 (by omega) (by omega) hroom44
      obtain ⟨A44, hA44⟩ : ∃ A1, A1 = (if co30 = (x12_1 : Int).toNat then Ao30 else (Ao30 : Option Addr).map (·.add ((x12_1 : Int).toNat * 1))) := ⟨_, rfl⟩
      obtain ⟨c44, hc44⟩ : ∃ c1, c1 = co30 - (x12_1 : Int).toNat := ⟨_, rfl⟩
      have hy44 : y201.length = ((wrap64 ((wrap64 (x12_1 + (t187.length : Int))) + 1)) : Int).toNat - (x12_1 : Int).toNat := (by rw [Ny201.out, List.length_drop, List.length_take] <;> omega)
      rw [show ((x10_1).take ((wrap64 ((wrap64 (x12_1 + (t187.length : Int))) + 1)) : Int).toNat).drop (x12_1 : Int).toNat = y201 from Ny201.out.symm] at hr44
      replace hr44 : Kd.C (Kd.int .u32) _ A44 y201.length y201 := (by rw [hA44]; exact hr44)
      rw [← hy44, ← hA44, ← hc44] at hcut44
      (try simp only [hl9_1] at hcut44)
      have HR204 := am hr44
      have HC204 := am (show y201.length ≤ c44 from by rw [hy44, hc44]; exact Nat.sub_le_sub_right (Nat.le_trans (by omega) hroom44) _)
      clear hr44 hC44 hroom44 hi044 hsz44 hc44
      have KY44 := am hy44
      have KA44 := am hA44
      clear hy44 hA44
      have KL44 := am (show ((wrap64 ((wrap64 (x12_1 + (t187.length : Int))) + 1)) : Int).toNat ≤ x10_1.length from by omega)
      have KM44 := am (show (x12_1 : Int).toNat ≤ ((wrap64 ((wrap64 (x12_1 + (t187.length : Int))) + 1)) : Int).toNat from by omega)
      replace q44 := eq_true q44
      go_wp2_with (first | ((with_reducible refine gate_callee (f := 96) rfl ?_); refine goesL_ (some 77) rfl rfl Tryz.func96 (by kernel_rfl) rfl #[.slice A44 y201.length c44, .slice Ao33 x9_1.length co33] rfl zq5 ?_; (with_reducible refine (nat_digit_at.calls k1 (fun k_ => some k_ = (.slice Ao30 x10_1.length co30 : Value).ownBlock) (.slice Ao30 x10_1.length co30) x10_1 x12_1 (wrap64 ((wrap64 (x12_1 + (t187.length : Int))) + 1)) _ _ x9_1 t205 t206 w _ ?side1 ?side2 ?side3 ?side4 A41.out _ _ _ rfl _ _ KA44.out _ Ny201.out).mono ?_); (case side1 => repeat (first | (with_reducible first | exact HB.out | apply below_alloc | apply pw_below_drewN | apply below_drew1) | exact HB.out)); (case side2 => exact Kd.R_tight rfl HO_10.out); (case side3 => exact Kd.C_kept_ownV (HO_9.out) (fun k_ hk_ hs_ => (hk_.2.2) hs_)); (case side4 => exact (Kd.V_reads' HO_9.out).2.1); rintro e w45 ⟨rfl, hy0, hb, hkp⟩; refine ⟨_, rfl, ?_⟩; refine zt4 (Kd.R_mono (ok' := fun k_ => (w.heap.size ≤ k_) ∧ some k_ ≠ (.slice Ao30 x10_1.length co30 : Value).ownBlock) (Kd.R_keptB (HO_4.out) hkp (fun k_ hk_ hs_ => (hk_.2) hs_)) (fun k_ hk_ => ⟨hk_.1.1, hk_.1.2⟩)) (Kd.V_mono (ok' := fun k_ => (w.heap.size ≤ k_) ∧ some k_ ≠ (.slice Ao36 x4_1.length co36 : Value).ownBlock ∧ some k_ ≠ (.slice Ao30 x10_1.length co30 : Value).ownBlock) (Kd.V_keptB (HO_9.out) hkp (fun k_ hk_ hs_ => (hk_.2.2) hs_)) (fun k_ hk_ => ⟨hk_.1.1, hk_.1.2.1, hk_.1.2.2⟩)) (Kd.R_reok rfl hy0 (fun k_ e_ => HO_10.out.1 k_ e_)) (hb) ?_; clear HO_4 HO_9 HO_10 HB; intro HO_4 HO_9 HO_10 HB; (try clear hb); (try clear hkp); (try clear hy0); have p43 : 0 ≤ (x12_1 : Int) := zq6; have q43 : (x12_1 : Int) < ((x4_1.length : Int) : Int) := zq6; obtain ⟨go43, co43, eo43, gb43, gl43, cl43, HG43⟩ := Kd.R_form HO_4.out (by omega); (first | cases eo43 | (injection eo43 with ea_ en_ ec_; (first | subst ea_ | (injection ea_ with ea_; subst ea_)); subst ec_; clear en_)); have GB43 := am gb43; have GG43 := am HG43; clear gb43 gl43 HG43; obtain ⟨hx43_0, hf43_0⟩ := Kd.R_celln 0 HO_4.out (x12_1 : Int) p43 q43; replace p43 := eq_true p43; replace q43 := eq_true q43; obtain ⟨hy46_, hz46_⟩ := Kd.R_celln 0 HO_4.out (x12_1 : Int) zq6 zq6; have HP46 := Kd.R_putg HO_4.out (x12_1 : Int) t205) | ((with_reducible refine gate_store (t := 73) (p := 78) rfl ?_); refine zstore (t := 73) (p := 78) (w1 := (w45.setCell ⟨go43, (x12_1 : Int).toNat, none⟩ (.int .u32 t205))) ?_; intro w47 hw; have hg : w45.grownBy w47 (some go43) := (by rw [hw]; exact HP46.2); have hp_ : Kd.R (Kd.int .u32) 73 w47 w.heap.size (fun k_ => (w.heap.size ≤ k_) ∧ some k_ ≠ (.slice Ao30 x10_1.length co30 : Value).ownBlock) (.slice (some ⟨go43, 0, none⟩) x4_1.length co36) y207 := (by rw [hw, Ny207.out]; exact HP46.1); clear HP46; refine zt4 (hp_) (Kd.V_afterv (v := (.slice (some ⟨go43, 0, none⟩) x4_1.length co36)) (v1 := (.slice (some ⟨go43, 0, none⟩) x4_1.length co36)) (ok := (fun k_ => (w.heap.size ≤ k_) ∧ some k_ ≠ (.slice Ao30 x10_1.length co30 : Value).ownBlock)) (zwV (h := by exact Kd.V_mono HO_9.out (fun _ hk => ⟨⟨hk.1, hk.2.2⟩, hk.2.1⟩))) hg (.inl rfl)) (Kd.R_after (v := (.slice (some ⟨go43, 0, none⟩) x4_1.length co36)) (v1 := (.slice (some ⟨go43, 0, none⟩) x4_1.length co36)) (ok := (fun k_ => (w.heap.size ≤ k_))) (zq4 HO_10.out) hg (.inl rfl)) ((by rw [hw]; exact below_set (HB.out) GB43.out : Below w.heap.size w w47)) ?_; clear HO_4 HO_9 HO_10 HB; intro HO_4 HO_9 HO_10 HB; clear hg hw hp_))
      (try simp only [← hl4_1, ← hl9_1, ← hl10_1])
      go_roundg k1
      case measure => have := HK1.out; omega
      case rel => exact ⟨(y207), (x9_1), (t206), (wrap64 (x12_1 - 1)), zq8, (by first | exact H' | (rw [hji13]; exact H') | (rw [hji18]; exact H') | (rw [hji23]; exact H')), ⟨by have := HK1.out; omega⟩, ⟨by (try simp only [hl4_1]); (try simp only [hl9_1]); (try simp only [hl10_1]); (with_reducible repeat (first | apply Kd.R_alloc | apply Kd.R_drewN | apply Kd.R_drew)); exact HO_4.out⟩, ⟨by (try simp only [hl4_1]); (try simp only [hl9_1]); (try simp only [hl10_1]); (with_reducible repeat (first | apply Kd.V_alloc | apply Kd.V_drewN | apply Kd.V_drew)); exact Kd.V_mono HO_9.out (fun _ hk => ⟨hk.1.1, ⟨hk.2, hk.1.2⟩⟩)⟩, ⟨by (try simp only [hl4_1]); (try simp only [hl9_1]); (try simp only [hl10_1]); (with_reducible repeat (first | apply Kd.R_alloc | apply Kd.R_drewN | apply Kd.R_drew)); exact HO_10.out⟩, ⟨zq1⟩⟩
     ·rw [if_neg c37] at H
      have c37b0 : decide (0 ≤ x12_1) = false := decide_eq_false c37
      clear c37
      replace H := zj H
      obtain ⟨t208, A48, H⟩ := H
      replace H : ((nat_Shr.f k1 t208 t186).bind fun bt211 => ((nat_Trim.f k1 x4_1).bind fun t215 => (some (t215, bt211.1)))) = some (r1, r2) := H
      replace H := zj H
      obtain ⟨⟨t211, t214⟩, A49, H⟩ := H
      replace H : ((nat_Trim.f k1 x4_1).bind fun t215 => (some (t215, t211))) = some (r1, r2) := H
      replace H := zj H
      obtain ⟨t215, A50, H⟩ := H
      replace H : (some (t215, t211)) = some (r1, r2) := H
      simp only [Option.some.injEq, Prod.mk.injEq] at H
      obtain ⟨rfl, rfl⟩ := H
      go_wp2_with (first | ((with_reducible refine gate_callee (f := 62) rfl ?_); refine goesL_ (some 81) rfl rfl Tryz.func62 (by kernel_rfl) rfl #[.slice Ao30 x10_1.length co30] rfl zq5 ?_; (with_reducible refine (nat_Trim.calls k1 (fun k_ => some k_ = (.slice Ao30 x10_1.length co30 : Value).ownBlock) _ _ x10_1 t208 _ ?side1 A48.out).mono ?_); (case side1 => exact Kd.R_V (Kd.R_tight rfl (HO_10.out))); rintro e w51 ⟨v209, rfl, ho0, hb⟩; refine ⟨_, rfl, ?_⟩; refine zt5 (rb HO_4 hb) (vb HO_9 hb) (rb HO_10 hb) (Kd.V_lower (Kd.V_mono (ok' := fun k_ => (w.heap.size ≤ k_) ∧ some k_ ≠ (.slice Ao36 x4_1.length co36 : Value).ownBlock) ho0 (fun k_ hk_ => ⟨Or.elim hk_ (fun hs_ => ((HO_10.out).1 k_ hs_.symm).1) (fun hn_ => (Nat.le_trans (below_size zq1) hn_)), Or.elim hk_ (fun hs_ => ((HO_10.out).1 k_ hs_.symm).2) (fun hn_ => (Kd.fresh' (Kd.R_lt (zq4 HO_4.out)) k_ hn_))⟩)) (below_size zq1)) (below_step zq1 hb) ?_; clear HO_4 HO_9 HO_10 HB; intro HO_4 HO_9 HO_10 HO210 HB; obtain ⟨Ao52, co52, eo52⟩ := Kd.V_slice HO210.out; subst eo52) | ((with_reducible refine gate_callee (f := 56) rfl ?_); refine goesL_ (some 83) rfl rfl Tryz.func56 (by kernel_rfl) rfl #[.slice Ao52 t208.length co52, .int .i64 t186] rfl zq5 ?_; (with_reducible refine (nat_Shr.calls k1 _ _ t208 t186 t211 t214 _ ?side1 ?side2 A49.out).mono ?_); (case side1 => exact zc ((Kd.V_reads' HO210.out).2.2)); (case side2 => exact (Kd.V_reads' HO210.out).2.1); rintro e w53 ⟨v212, rfl, ho0, hb⟩; refine ⟨_, rfl, ?_⟩; refine zt6 (rb HO_4 hb) (vb HO_9 hb) (rb HO_10 hb) (vb HO210 hb) (Kd.V_lower (Kd.V_mono (ok' := fun k_ => (w.heap.size ≤ k_) ∧ some k_ ≠ (.slice Ao36 x4_1.length co36 : Value).ownBlock ∧ some k_ ≠ (.slice Ao30 x10_1.length co30 : Value).ownBlock) ho0 (fun k_ hk_ => ⟨(Nat.le_trans (below_size zq1) hk_), (Kd.fresh' (Kd.R_lt (zq4 HO_4.out)) k_ hk_), (Kd.fresh' (Kd.R_lt (zq4 HO_10.out)) k_ hk_)⟩)) (below_size zq1)) (below_step zq1 hb) ?_; clear HO_4 HO_9 HO_10 HO210 HB; intro HO_4 HO_9 HO_10 HO210 HO213 HB) | ((with_reducible refine gate_callee (f := 62) rfl ?_); refine goesL_ (some 87) rfl rfl Tryz.func62 (by kernel_rfl) rfl #[.slice Ao36 x4_1.length co36] rfl zq5 ?_; (with_reducible refine (nat_Trim.calls k1 (fun k_ => some k_ = (.slice Ao36 x4_1.length co36 : Value).ownBlock) _ _ x4_1 t215 _ ?side1 A50.out).mono ?_); (case side1 => exact Kd.R_V (Kd.R_tight rfl (HO_4.out))); rintro e w54 ⟨v216, rfl, ho0, hb⟩; refine ⟨_, rfl, ?_⟩; refine zt7 (rb HO_4 hb) (vb HO_9 hb) (rb HO_10 hb) (vb HO210 hb) (vb HO213 hb) (Kd.V_lower (Kd.V_mono (ok' := fun k_ => (w.heap.size ≤ k_) ∧ some k_ ≠ (.slice Ao30 x10_1.length co30 : Value).ownBlock) ho0 (fun k_ hk_ => ⟨Or.elim hk_ (fun hs_ => ((HO_4.out).1 k_ hs_.symm).1) (fun hn_ => (Nat.le_trans (below_size zq1) hn_)), Or.elim hk_ (fun hs_ => ((HO_4.out).1 k_ hs_.symm).2) (fun hn_ => (Kd.fresh' (Kd.R_lt (zq4 HO_10.out)) k_ hn_))⟩)) (below_size zq1)) (below_step zq1 hb) ?_; clear HO_4 HO_9 HO_10 HO210 HO213 HB; intro HO_4 HO_9 HO_10 HO210 HO213 HO217 HB))
      go_ret2
      exact ⟨_, _, by first | rfl | (simp [errW_none, errW_some] <;> rfl) | (simp only [← hji13, ← hji18, ← hji23]; first | rfl | (simp [errW_none, errW_some] <;> rfl)) | (simp [*, errW_none, errW_some] <;> rfl), zwV (h := by exact Kd.V_mono HO217.out (fun _ hk => hk.1)), zwV (h := by exact Kd.V_mono HO213.out (fun _ hk => hk.1)), zq1⟩
def nat_Gcd.l0 : Nat → List Int → List Int → Option (List Int)
 | 0, _, _ => none
 | k + 1, x0, x1 => if (x1.length : Int) > 0 then ((nat_DivMod.f k x0 x1).bind fun bt218 => (nat_Gcd.l0 k x1 bt218.2)) else ((slices_Clone_uint32_uint32.f x0).bind fun t224 => (some t224))
def nat_Gcd.f (k : Nat) (l0 : List Int) (l1 : List Int) : Option (List Int) := nat_Gcd.l0 k l0 l1
set_option maxHeartbeats 8000000 in
set_option maxRecDepth 100000 in
theorem nat_Gcd.calls (k : Nat) (P0_ : Nat → Prop) (A0 : Option Addr) (c0 : Nat) (l0 : List Int) (P1_ : Nat → Prop) (A1 : Option Addr) (c1 : Nat) (l1 : List Int) (r : List Int) (w : World) (hs0 : Kd.V (Kd.int .u32) 73 w w.heap.size (fun k_ => P0_ k_) (.slice A0 l0.length c0) l0) (hs1 : Kd.V (Kd.int .u32) 73 w w.heap.size (fun k_ => P1_ k_) (.slice A1 l1.length c1) l1) (h : nat_Gcd.f k l0 l1 = some r) :
  Calls Tryz.prog 51 #[.slice A0 l0.length c0, .slice A1 l1.length c1] w fun e w' => ∃ v0_ : Value, e = .returned (v0_) ∧ Kd.R (Kd.int .u32) 73 w' w.heap.size (fun k_ => (w.heap.size ≤ k_)) v0_ r ∧ Below w.heap.size w w' := by
 have HO0 := am (show Kd.V (Kd.int .u32) 73 w w.heap.size (fun k_ => ((P0_ k_ ∨ P1_ k_) ∨ w.heap.size ≤ k_)) (.slice A0 l0.length c0) l0 from Kd.V_mono hs0 (fun k_ hk => .inl (.inl hk)))
 have HO1 := am (show Kd.V (Kd.int .u32) 73 w w.heap.size (fun k_ => ((P0_ k_ ∨ P1_ k_) ∨ w.heap.size ≤ k_)) (.slice A1 l1.length c1) l1 from Kd.V_mono hs1 (fun k_ hk => .inl (.inr hk)))
 have HB := am (Below.refl w.heap.size w)
 have H := h
 unfold nat_Gcd.f at H
 clear h
 have H' := am H
 clear H
 go_enter Tryz.func51, Tryz.ntmps51
 go_wp2
 go_loopg [0, 1] k (fun kq v0 v1 w' => ∃ (x0_1 : List Int) (x1_1 : List Int), Aside0 (nat_Gcd.l0 kq x0_1 x1_1 = some r) ∧ Aside0 (kq ≤ k) ∧ Aside0 (Kd.V (Kd.int .u32) 73 w' w.heap.size (fun k_ => ((P0_ k_ ∨ P1_ k_) ∨ w.heap.size ≤ k_)) v0 x0_1) ∧ Aside0 (Kd.V (Kd.int .u32) 73 w' w.heap.size (fun k_ => ((P0_ k_ ∨ P1_ k_) ∨ w.heap.size ≤ k_)) v1 x1_1) ∧ Aside0 (Below w.heap.size w w'))
 case atStart => exact ⟨(l0), (l1), H', ⟨Nat.le_refl _⟩, ⟨zq3 HO0.out⟩, ⟨zq3 HO1.out⟩, ⟨zq1⟩⟩
 case round =>
  clear H'
  obtain ⟨x0_1, x1_1, HA, HK1, HO_0, HO_1, HB⟩ := hrel
  cases gk with
  | zero => exact absurd HA.out (by simp [nat_Gcd.l0])
  | succ k1 =>
   have H := HA.out
   clear HA
   simp only [nat_Gcd.l0] at H
   by_cases c3 : (x1_1.length : Int) > 0
   ·rw [if_pos c3] at H
    have c3b0 : decide (0 < (x1_1.length : Int)) = true := decide_eq_true c3
    have c3b1 : decide (0 < x1_1.length) = true := decide_eq_true (by omega)
    clear c3
    replace H := zj H
    obtain ⟨⟨t218, t221⟩, A4, H⟩ := H
    try dsimp only at H
    have H' := am H
    clear H
    obtain ⟨Ao5, co5, eo5⟩ := Kd.V_slice HO_1.out
    subst eo5
    obtain ⟨Ao6, co6, eo6⟩ := Kd.V_slice HO_0.out
    subst eo6
    go_wp2_with (first | ((with_reducible refine gate_callee (f := 66) rfl ?_); refine goesL_ (some 13) rfl rfl Tryz.func66 (by kernel_rfl) rfl #[.slice Ao6 x0_1.length co6, .slice Ao5 x1_1.length co5] rfl zq5 ?_; (with_reducible refine (nat_DivMod.calls k1 _ _ x0_1 _ _ x1_1 t218 t221 _ ?side1 ?side2 ?side3 ?side4 A4.out).mono ?_); (case side1 => exact zc ((Kd.V_reads' HO_0.out).2.2)); (case side2 => exact (Kd.V_reads' HO_0.out).2.1); (case side3 => exact zc ((Kd.V_reads' HO_1.out).2.2)); (case side4 => exact (Kd.V_reads' HO_1.out).2.1); rintro e w7 ⟨v219, v222, rfl, ho0, ho1, hb⟩; refine ⟨_, rfl, ?_⟩; refine zt5 (vb HO_0 hb) (vb HO_1 hb) (Kd.V_lower (Kd.V_mono (ok' := fun k_ => ((P0_ k_ ∨ P1_ k_) ∨ w.heap.size ≤ k_)) ho0 (fun k_ hk_ => (.inr (Nat.le_trans (below_size zq1) hk_)))) (below_size zq1)) (Kd.V_lower (Kd.V_mono (ok' := fun k_ => ((P0_ k_ ∨ P1_ k_) ∨ w.heap.size ≤ k_)) ho1 (fun k_ hk_ => (.inr (Nat.le_trans (below_size zq1) hk_)))) (below_size zq1)) (below_step zq1 hb) ?_; clear HO_0 HO_1 HB; intro HO_0 HO_1 HO220 HO223 HB; (try clear ho1)))
    go_roundg k1
    case measure => have := HK1.out; omega
    case rel => exact ⟨(x1_1), (t221), H', ⟨by have := HK1.out; omega⟩, ⟨zq3 HO_1.out⟩, ⟨zq3 HO223.out⟩, ⟨zq1⟩⟩
   ·rw [if_neg c3] at H
    have c3b0 : decide (0 < (x1_1.length : Int)) = false := decide_eq_false c3
    have c3b1 : decide (0 < x1_1.length) = false := decide_eq_false (by omega)
    clear c3
    replace H := zj H
    obtain ⟨t224, A8, H⟩ := H
    obtain rfl := Option.some.inj H
    obtain ⟨Ao9, co9, eo9⟩ := Kd.V_slice HO_1.out
    subst eo9
    obtain ⟨Ao10, co10, eo10⟩ := Kd.V_slice HO_0.out
    subst eo10
    go_wp2_with (first | ((with_reducible refine gate_callee (f := 88) rfl ?_); refine goesL_ (some 19) rfl rfl Tryz.func88 (by kernel_rfl) rfl #[.slice Ao10 x0_1.length co10] rfl zq5 ?_; (with_reducible refine (slices_Clone_uint32_uint32.calls _ _ x0_1 t224 _ ?side1 ?side2 A8.out).mono ?_); (case side1 => exact zc ((Kd.V_reads' HO_0.out).2.2)); (case side2 => exact (Kd.V_reads' HO_0.out).2.1); rintro e w11 ⟨v225, rfl, ho0, hb⟩; refine ⟨_, rfl, ?_⟩; refine zt4 (Kd.V_elder' (zq3 HO_0.out) (Kd.R_base ho0) hb) (Kd.V_elder' (zq3 HO_1.out) (Kd.R_base ho0) hb) (Kd.R_lower (Kd.R_newM (M := fun k_ => (w.heap.size ≤ k_)) ho0 (below_size zq1) (fun k_ h_ => h_)) (below_size zq1)) (below_step zq1 hb) ?_; clear HO_0 HO_1 HB; intro HO_0 HO_1 HO226 HB))
    go_ret
    exact ⟨_, zq9, zwR (h := by exact Kd.R_mono HO226.out (fun _ hk => hk.1)), zq1⟩
def nat_IsOne.f (l0 : List Int) : Option (Bool) := if (l0.length : Int) = 1 then (if 0 < (l0.length : Int) then (some ((rd l0 0) == 1)) else (none)) else (some false)
set_option maxHeartbeats 8000000 in
set_option maxRecDepth 100000 in
theorem nat_IsOne.calls (A0 : Option Addr) (c0 : Nat) (l0 : List Int) (r : Bool) (w : World) (hr0 : Kd.C (Kd.int .u32) w A0 l0.length l0) (hc0 : l0.length ≤ c0) (h : nat_IsOne.f l0 = some r) :
  Calls Tryz.prog 64 #[.slice A0 l0.length c0] w fun e w' => e = .returned (.bool r) ∧ Drawn0 w w' := by
 have HR0 := am hr0
 have HC0 := am hc0
 clear hr0 hc0
 have H := h
 unfold nat_IsOne.f at H
 clear h
 by_cases c2 : (l0.length : Int) = 1
 ·rw [if_pos c2] at H
  have c2b0 : ((l0.length : Int) == 1) = true := beq_iff_eq.mpr c2
  have c2b1 : ((l0.length : Int) != 1) = false := bne_eq_false_iff_eq.mpr c2
  clear c2
  replace H := zn H
  obtain ⟨c3, H⟩ := H
  have c3b0 := decide_eq_true c3
  have c3b1 : decide (0 < l0.length) = true := decide_eq_true (by omega)
  clear c3
  obtain rfl := Option.some.inj H
  have p227 : 0 ≤ (0 : Int) := (by omega)
  have q227 : 0 < (l0.length : Int) := zq6
  obtain ⟨ad227, e227, hx227_0⟩ := Kd.at_int HR0.out 0 p227 q227
  cases e227
  have qi227 : (0 < l0.length) = True := eq_true (by omega)
  (try rw [show ((0 : Int)).toNat = 0 from rfl] at hx227_0)
  (try rw [Addr.add_zero'] at hx227_0)
  replace p227 := eq_true p227
  replace q227 := eq_true q227
  go_enter Tryz.func64, Tryz.ntmps64
  go_wp2
  go_ret
  exact ⟨by first | rfl | (simp; done) | (simp [*]; done), by repeat (first | exact Drawn0.refl _ | apply Drawn0.step)⟩
 ·rw [if_neg c2] at H
  have c2b0 : ((l0.length : Int) == 1) = false := beq_eq_false_iff_ne.mpr c2
  have c2b1 : ((l0.length : Int) != 1) = true := bne_iff_ne.mpr c2
  obtain rfl := Option.some.inj H
  go_enter Tryz.func64, Tryz.ntmps64
  go_wp2
  go_ret
  exact ⟨by first | rfl | (simp; done) | (simp [*]; done), by repeat (first | exact Drawn0.refl _ | apply Drawn0.step)⟩
def number_Check_1.f (l0 : List Int) : Option (Bool) := if (l0.length : Int) > 0 then (if 0 ≤ (wrap64 ((l0.length : Int) - 1)) then (if (wrap64 ((l0.length : Int) - 1)) < (l0.length : Int) then (some ((rd l0 (wrap64 ((l0.length : Int) - 1))) == 0)) else (none)) else (none)) else (some false)
set_option maxHeartbeats 8000000 in
set_option maxRecDepth 100000 in
theorem number_Check_1.calls (A0 : Option Addr) (c0 : Nat) (l0 : List Int) (r : Bool) (w : World) (hr0 : Kd.C (Kd.int .u32) w A0 l0.length l0) (hc0 : l0.length ≤ c0) (h : number_Check_1.f l0 = some r) :
  Calls Tryz.prog 89 #[.slice A0 l0.length c0] w fun e w' => e = .returned (.bool r) ∧ Drawn0 w w' := by
 have HR0 := am hr0
 have HC0 := am hc0
 clear hr0 hc0
 have H := h
 unfold number_Check_1.f at H
 clear h
 by_cases c2 : (l0.length : Int) > 0
 ·rw [if_pos c2] at H
  have c2b0 : decide (0 < (l0.length : Int)) = true := decide_eq_true c2
  have c2b1 : decide (0 < l0.length) = true := decide_eq_true (by omega)
  clear c2
  obtain ⟨ji3, hji3⟩ : ∃ j_ : Int, (wrap64 ((l0.length : Int) - 1)) = j_ := ⟨_, rfl⟩
  replace H : (if 0 ≤ (ji3) then (if (ji3) < (l0.length : Int) then (some ((rd l0 (ji3)) == 0)) else (none)) else (none)) = some r := by first | (rw [hji3] at H; exact H) | (simp only [hji3] at H ⊢; exact H)
  have hji3w : (IntKind.i64.wrap ((l0.length : Int) - 1)) = ji3 := (i64_w _).trans hji3
  replace H := zn H
  obtain ⟨c4, H⟩ := H
  have c4b0 := decide_eq_true c4
  clear c4
  replace H := zn H
  obtain ⟨c5, H⟩ := H
  have c5b0 := decide_eq_true c5
  clear c5
  obtain rfl := Option.some.inj H
  have p228 : 0 ≤ ((ji3) : Int) := zq6
  have q228 : (ji3) < (l0.length : Int) := zq6
  obtain ⟨ad228, e228, hx228_0⟩ := Kd.at_int HR0.out (ji3) p228 q228
  cases e228
  replace p228 := eq_true p228
  replace q228 := eq_true q228
  go_enter Tryz.func89, Tryz.ntmps89
  go_wp2
  go_ret
  exact ⟨by first | rfl | (simp; done) | (simp only [← hji3] <;> (first | rfl | simp)) | (simp [*]; done), by repeat (first | exact Drawn0.refl _ | apply Drawn0.step)⟩
 ·rw [if_neg c2] at H
  have c2b0 : decide (0 < (l0.length : Int)) = false := decide_eq_false c2
  have c2b1 : decide (0 < l0.length) = false := decide_eq_false (by omega)
  clear c2
  obtain rfl := Option.some.inj H
  go_enter Tryz.func89, Tryz.ntmps89
  go_wp2
  go_ret
  exact ⟨by first | rfl | (simp; done) | (simp [*]; done), by repeat (first | exact Drawn0.refl _ | apply Drawn0.step)⟩
end Go.Proofs.YtemnjgkicndmjaaGreatDoor.Q

namespace Go.Proofs.YtemnjgkicndmjaaGreatDoor.Q
open Go.RowKit Go.Proofs.YtemnjgkicndmjaaGreatDoorW.PrintWords Go.Proofs.YtemnjgkicndmjaaGreatDoorW.PrintLast Go.Proofs.YtemnjgkicndmjaaGreatDoorW.PrintMore
attribute [local go_sem] max2_int min2_int max_two min_two max_three min_three max_four min_four
set_option linter.unusedVariables false
set_option linter.unusedSimpArgs false
mutual
def number_Check.j0 : Nat → Bool → Bool → List Int → List Int → Option (Int)
 | 0, _, _, _, _ => none
 | k + 1, x13, x230000, x230001, x230002 => if x13 = true then (some 3) else ((number_Check_1.f x230001).bind fun t230 => (if t230 = true then (number_Check.j1 k true x230000 x230001 x230002) else ((number_Check_1.f x230002).bind fun t231 => (if t231 = true then (number_Check.j1 k true x230000 x230001 x230002) else (number_Check.j1 k ((x230002.length : Int) == 0) x230000 x230001 x230002)))))
def number_Check.j1 : Nat → Bool → Bool → List Int → List Int → Option (Int)
 | 0, _, _, _, _ => none
 | k + 1, x14, x230000, x230001, x230002 => if x14 = true then (some 2) else (if (x230001.length : Int) = 0 then (if x230000 = true then (number_Check.j2 k true x230000 x230001 x230002) else ((nat_IsOne.f x230002).bind fun t232 => (number_Check.j2 k (!t232) x230000 x230001 x230002))) else (number_Check.j2 k false x230000 x230001 x230002))
def number_Check.j2 : Nat → Bool → Bool → List Int → List Int → Option (Int)
 | 0, _, _, _, _ => none
 | k + 1, x31, x230000, x230001, x230002 => if x31 = true then (some 2) else ((nat_IsOne.f x230002).bind fun t233 => (if t233 = true then (some 0) else ((nat_IsOne.f x230001).bind fun t234 => (if t234 = true then (some 0) else ((nat_Gcd.f k x230001 x230002).bind fun t235 => ((nat_IsOne.f t235).bind fun t238 => (if t238 = true then (some 0) else (some 2))))))))
end
def number_Check.f (k : Nat) (a0_0 : Bool) (l0_1 : List Int) (l0_2 : List Int) : Option (Int) := if (l0_1.length : Int) > 128 then (number_Check.j0 k true a0_0 l0_1 l0_2) else (number_Check.j0 k (decide ((l0_2.length : Int) > 128)) a0_0 l0_1 l0_2)
set_option maxHeartbeats 8000000 in
set_option maxRecDepth 100000 in
theorem number_Check.calls (k : Nat) (a0_0 : Bool) (A0_1 : Option Addr) (c0_1 : Nat) (l0_1 : List Int) (A0_2 : Option Addr) (c0_2 : Nat) (l0_2 : List Int) (r : Int) (w : World) (hr0_1 : Kd.C (Kd.int .u32) w A0_1 l0_1.length l0_1) (hc0_1 : l0_1.length ≤ c0_1) (hr0_2 : Kd.C (Kd.int .u32) w A0_2 l0_2.length l0_2) (hc0_2 : l0_2.length ≤ c0_2) (h : number_Check.f k a0_0 l0_1 l0_2 = some r) :
  Calls Tryz.prog 52 #[.agg #[.bool a0_0, .slice A0_1 l0_1.length c0_1, .slice A0_2 l0_2.length c0_2]] w fun e w' => e = .returned (.int .i64 r) ∧ Below w.heap.size w w' := by
 have hu24 := Tryz.underlying24
 have HR0_1 := am hr0_1
 have HC0_1 := am hc0_1
 clear hr0_1 hc0_1
 have HR0_2 := am hr0_2
 have HC0_2 := am hc0_2
 clear hr0_2 hc0_2
 have HB := am (Below.refl w.heap.size w)
 have H := h
 unfold number_Check.f at H
 clear h
 have HC2 := am H
 clear H
 go_enter Tryz.func52, Tryz.ntmps52
 go_upto_region 1 with (first | ((with_reducible refine gate_dst (N := 1) rfl ?_); (try (refine gate_guard (by rfl) ?_; dsimp only)); refine zbox (N := 1) (cs := #[.bool a0_0, .slice A0_1 l0_1.length c0_1, .slice A0_2 l0_2.length c0_2]) (t := 24) ?_; intro gb229 hg w3 hbox hb; refine zt3 (below_step zq1 hb) (hbox) ((zs hg (below_size zq1) : w.heap.size ≤ gb229)) ?_; clear HB; intro HB BK229 GW229; have GE229 := GW229; clear hb hbox hg))
 (try simp only [Act.put, List.setIfInBounds_toArray, List.set_cons_zero, List.set_cons_succ])
 go_cut [13] (fun v13 wc => ∃ (kq : Nat) (x13_1 : Bool), v13 = .bool x13_1 ∧ Aside0 (number_Check.j0 kq x13_1 a0_0 l0_1 l0_2 = some r) ∧ Aside0 (kq ≤ k) ∧ Aside0 (wc.heap[gb229]? = some (.cells #[.bool a0_0, (.slice A0_1 l0_1.length c0_1), (.slice A0_2 l0_2.length c0_2)] 24 (0, 0))) ∧ Aside0 (Below w.heap.size w wc))
 case first =>
  have H := HC2.out
  clear HC2
  by_cases c4 : (l0_1.length : Int) > 128
  ·rw [if_pos c4] at H
   have c4b0 : decide (128 < (l0_1.length : Int)) = true := decide_eq_true c4
   have c4b1 : decide (128 < l0_1.length) = true := decide_eq_true (by omega)
   clear c4
   (first | rw [c4b0] | (simp only [i64_w, i32_w]; rw [c4b0]) | skip)
   have H' := am H
   clear H
   have hcz5_0 := bc BK229.out 0 (.bool a0_0)
   have hcz5_1 := bc BK229.out 1 (.slice A0_1 l0_1.length c0_1)
   have hcz5_2 := bc BK229.out 2 (.slice A0_2 l0_2.length c0_2)
   have hfz5_0 := blk_frozen BK229.out 0
   have hfz5_1 := blk_frozen BK229.out 1
   have hfz5_2 := blk_frozen BK229.out 2
   go_wp2
   go_meet
   case rel => exact ⟨_, (true), zq8, H', ⟨by first | omega | exact Nat.le_refl _⟩, ⟨zq2 BK229.out⟩, ⟨zb1 GE229.out⟩⟩
  ·rw [if_neg c4] at H
   have c4b0 : decide (128 < (l0_1.length : Int)) = false := decide_eq_false c4
   have c4b1 : decide (128 < l0_1.length) = false := decide_eq_false (by omega)
   clear c4
   (first | rw [c4b0] | (simp only [i64_w, i32_w]; rw [c4b0]) | skip)
   have H' := am H
   clear H
   have hcz6_0 := bc BK229.out 0 (.bool a0_0)
   have hcz6_1 := bc BK229.out 1 (.slice A0_1 l0_1.length c0_1)
   have hcz6_2 := bc BK229.out 2 (.slice A0_2 l0_2.length c0_2)
   have hfz6_0 := blk_frozen BK229.out 0
   have hfz6_1 := blk_frozen BK229.out 1
   have hfz6_2 := blk_frozen BK229.out 2
   go_wp2
   go_meet
   case rel => exact ⟨_, (decide ((l0_2.length : Int) > 128)), zq8, H', ⟨by first | omega | exact Nat.le_refl _⟩, ⟨zq2 BK229.out⟩, ⟨zb1 GE229.out⟩⟩
 case rest =>
  clear HC2
  obtain ⟨kq, x13_1, rfl, HA, HJ1, BK229, HB⟩ := hcut
  cases kq with
  | zero => exact absurd HA.out (by simp [number_Check.j0])
  | succ kj1 =>
   have H := HA.out
   clear HA
   simp only [number_Check.j0] at H
   by_cases c7 : x13_1 = true
   ·subst c7
    have H1 : (some 3) = some r := by rw [if_pos rfl] at H; exact H
    clear H
    have H := H1
    clear H1
    obtain rfl := Option.some.inj H
    go_wp2
    go_ret
    exact ⟨zq9, zb1 GE229.out⟩
   ·replace c7 := Bool.eq_false_iff.mpr c7
    subst c7
    have H1 : ((number_Check_1.f l0_1).bind fun t230 => (if t230 = true then (number_Check.j1 kj1 true a0_0 l0_1 l0_2) else ((number_Check_1.f l0_2).bind fun t231 => (if t231 = true then (number_Check.j1 kj1 true a0_0 l0_1 l0_2) else (number_Check.j1 kj1 ((l0_2.length : Int) == 0) a0_0 l0_1 l0_2))))) = some r := by rw [if_neg (show ¬ (false = true) by decide)] at H; exact H
    clear H
    have H := H1
    clear H1
    have HC8 := am H
    clear H
    go_upto_region 4 with (fail)
    go_cut [14] (fun v14 wc => ∃ (kq : Nat) (x14_7 : Bool), v14 = .bool x14_7 ∧ Aside0 (number_Check.j1 kq x14_7 a0_0 l0_1 l0_2 = some r) ∧ Aside0 (kq ≤ kj1) ∧ Aside0 (wc.heap[gb229]? = some (.cells #[.bool a0_0, (.slice A0_1 l0_1.length c0_1), (.slice A0_2 l0_2.length c0_2)] 24 (0, 0))) ∧ Aside0 (Below w.heap.size w wc))
    case first =>
     have H := HC8.out
     clear HC8
     replace H := zj H
     obtain ⟨t230, A9, H⟩ := H
     by_cases c10 : t230 = true
     ·subst c10
      have H1 : (number_Check.j1 kj1 true a0_0 l0_1 l0_2) = some r := by rw [if_pos rfl] at H; exact H
      clear H
      have H := H1
      clear H1
      have H' := am H
      clear H
      have hcz11_0 := bc BK229.out 0 (.bool a0_0)
      have hcz11_1 := bc BK229.out 1 (.slice A0_1 l0_1.length c0_1)
      have hcz11_2 := bc BK229.out 2 (.slice A0_2 l0_2.length c0_2)
      have hfz11_0 := blk_frozen BK229.out 0
      have hfz11_1 := blk_frozen BK229.out 1
      have hfz11_2 := blk_frozen BK229.out 2
      go_wp2_with (first | (go_at_call 89; (with_reducible refine (number_Check_1.calls _ _ l0_1 true _ ?side1 ?side2 A9.out).mono ?_); (case side1 => exact zc (Kd.C_below HR0_1.out HB.out)); (case side2 => exact HC0_1.out); rintro e w' ⟨rfl, ⟨nd, rfl⟩⟩))
      go_meet
      case rel => exact ⟨_, (true), zq8, H', ⟨by have := HJ1.out; first | omega | exact Nat.le_refl _⟩, ⟨zq2 BK229.out⟩, ⟨zb1 GE229.out⟩⟩
     ·replace c10 := Bool.eq_false_iff.mpr c10
      subst c10
      have H1 : ((number_Check_1.f l0_2).bind fun t231 => (if t231 = true then (number_Check.j1 kj1 true a0_0 l0_1 l0_2) else (number_Check.j1 kj1 ((l0_2.length : Int) == 0) a0_0 l0_1 l0_2))) = some r := by rw [if_neg (show ¬ (false = true) by decide)] at H; exact H
      clear H
      have H := H1
      clear H1
      replace H := zj H
      obtain ⟨t231, A12, H⟩ := H
      by_cases c13 : t231 = true
      ·subst c13
       have H1 : (number_Check.j1 kj1 true a0_0 l0_1 l0_2) = some r := by rw [if_pos rfl] at H; exact H
       clear H
       have H := H1
       clear H1
       have H' := am H
       clear H
       have hcz14_0 := bc BK229.out 0 (.bool a0_0)
       have hcz14_1 := bc BK229.out 1 (.slice A0_1 l0_1.length c0_1)
       have hcz14_2 := bc BK229.out 2 (.slice A0_2 l0_2.length c0_2)
       have hfz14_0 := blk_frozen BK229.out 0
       have hfz14_1 := blk_frozen BK229.out 1
       have hfz14_2 := blk_frozen BK229.out 2
       go_wp2_with (first | (go_at_call 89; (with_reducible refine (number_Check_1.calls _ _ l0_1 false _ ?side1 ?side2 A9.out).mono ?_); (case side1 => exact zc (Kd.C_below HR0_1.out HB.out)); (case side2 => exact HC0_1.out); rintro e w' ⟨rfl, ⟨nd, rfl⟩⟩) | (go_at_call 89; (with_reducible refine (number_Check_1.calls _ _ l0_2 true _ ?side1 ?side2 A12.out).mono ?_); (case side1 => exact zc (Kd.C_below HR0_2.out (zb1 GE229.out))); (case side2 => exact HC0_2.out); rintro e w' ⟨rfl, ⟨nd, rfl⟩⟩))
       go_meet
       case rel => exact ⟨_, (true), zq8, H', ⟨by have := HJ1.out; first | omega | exact Nat.le_refl _⟩, ⟨zq2 BK229.out⟩, ⟨zb1 GE229.out⟩⟩
      ·replace c13 := Bool.eq_false_iff.mpr c13
       subst c13
       have H1 : (number_Check.j1 kj1 ((l0_2.length : Int) == 0) a0_0 l0_1 l0_2) = some r := by rw [if_neg (show ¬ (false = true) by decide)] at H; exact H
       clear H
       have H := H1
       clear H1
       have H' := am H
       clear H
       have hcz15_0 := bc BK229.out 0 (.bool a0_0)
       have hcz15_1 := bc BK229.out 1 (.slice A0_1 l0_1.length c0_1)
       have hcz15_2 := bc BK229.out 2 (.slice A0_2 l0_2.length c0_2)
       have hfz15_0 := blk_frozen BK229.out 0
       have hfz15_1 := blk_frozen BK229.out 1
       have hfz15_2 := blk_frozen BK229.out 2
       go_wp2_with (first | (go_at_call 89; (with_reducible refine (number_Check_1.calls _ _ l0_1 false _ ?side1 ?side2 A9.out).mono ?_); (case side1 => exact zc (Kd.C_below HR0_1.out HB.out)); (case side2 => exact HC0_1.out); rintro e w' ⟨rfl, ⟨nd, rfl⟩⟩) | (go_at_call 89; (with_reducible refine (number_Check_1.calls _ _ l0_2 false _ ?side1 ?side2 A12.out).mono ?_); (case side1 => exact zc (Kd.C_below HR0_2.out (zb1 GE229.out))); (case side2 => exact HC0_2.out); rintro e w' ⟨rfl, ⟨nd, rfl⟩⟩))
       go_meet
       case rel => exact ⟨_, (((l0_2.length : Int) == 0)), zq8, H', ⟨by have := HJ1.out; first | omega | exact Nat.le_refl _⟩, ⟨zq2 BK229.out⟩, ⟨zb1 GE229.out⟩⟩
    case rest =>
     clear HC8
     obtain ⟨kq, x14_7, rfl, HA, HJ7, BK229, HB⟩ := hcut
     cases kq with
     | zero => exact absurd HA.out (by simp [number_Check.j1])
     | succ kj7 =>
      have H := HA.out
      clear HA
      simp only [number_Check.j1] at H
      by_cases c16 : x14_7 = true
      ·subst c16
       have H1 : (some 2) = some r := by rw [if_pos rfl] at H; exact H
       clear H
       have H := H1
       clear H1
       obtain rfl := Option.some.inj H
       go_wp2
       go_ret
       exact ⟨zq9, zb1 GE229.out⟩
      ·replace c16 := Bool.eq_false_iff.mpr c16
       subst c16
       have H1 : (if (l0_1.length : Int) = 0 then (if a0_0 = true then (number_Check.j2 kj7 true a0_0 l0_1 l0_2) else ((nat_IsOne.f l0_2).bind fun t232 => (number_Check.j2 kj7 (!t232) a0_0 l0_1 l0_2))) else (number_Check.j2 kj7 false a0_0 l0_1 l0_2)) = some r := by rw [if_neg (show ¬ (false = true) by decide)] at H; exact H
       clear H
       have H := H1
       clear H1
       have HC17 := am H
       clear H
       go_upto_region 6 with (fail)
       go_cut [31] (fun v31 wc => ∃ (kq : Nat) (x31_16 : Bool), v31 = .bool x31_16 ∧ Aside0 (number_Check.j2 kq x31_16 a0_0 l0_1 l0_2 = some r) ∧ Aside0 (kq ≤ kj7) ∧ Aside0 (wc.heap[gb229]? = some (.cells #[.bool a0_0, (.slice A0_1 l0_1.length c0_1), (.slice A0_2 l0_2.length c0_2)] 24 (0, 0))) ∧ Aside0 (Below w.heap.size w wc))
       case first =>
        have H := HC17.out
        clear HC17
        by_cases c18 : (l0_1.length : Int) = 0
        ·rw [if_pos c18] at H
         have c18b0 : ((l0_1.length : Int) == 0) = true := beq_iff_eq.mpr c18
         have c18b1 : ((l0_1.length : Int) != 0) = false := bne_eq_false_iff_eq.mpr c18
         clear c18
         (first | rw [c18b0] | (simp only [i64_w, i32_w]; rw [c18b0]) | skip)
         by_cases c19 : a0_0 = true
         ·subst c19
          have H1 : (number_Check.j2 kj7 true true l0_1 l0_2) = some r := by rw [if_pos rfl] at H; exact H
          clear H
          have H := H1
          clear H1
          have H' := am H
          clear H
          have hcz20_0 := bc BK229.out 0 (.bool true)
          have hcz20_1 := bc BK229.out 1 (.slice A0_1 l0_1.length c0_1)
          have hcz20_2 := bc BK229.out 2 (.slice A0_2 l0_2.length c0_2)
          have hfz20_0 := blk_frozen BK229.out 0
          have hfz20_1 := blk_frozen BK229.out 1
          have hfz20_2 := blk_frozen BK229.out 2
          go_wp2
          go_meet
          case rel => exact ⟨_, (true), zq8, H', ⟨by have := HJ1.out; have := HJ7.out; first | omega | exact Nat.le_refl _⟩, ⟨zq2 BK229.out⟩, ⟨zb1 GE229.out⟩⟩
         ·replace c19 := Bool.eq_false_iff.mpr c19
          subst c19
          have H1 : ((nat_IsOne.f l0_2).bind fun t232 => (number_Check.j2 kj7 (!t232) false l0_1 l0_2)) = some r := by rw [if_neg (show ¬ (false = true) by decide)] at H; exact H
          clear H
          have H := H1
          clear H1
          replace H := zj H
          obtain ⟨t232, A21, H⟩ := H
          have H' := am H
          clear H
          have hcz22_0 := bc BK229.out 0 (.bool false)
          have hcz22_1 := bc BK229.out 1 (.slice A0_1 l0_1.length c0_1)
          have hcz22_2 := bc BK229.out 2 (.slice A0_2 l0_2.length c0_2)
          have hfz22_0 := blk_frozen BK229.out 0
          have hfz22_1 := blk_frozen BK229.out 1
          have hfz22_2 := blk_frozen BK229.out 2
          go_wp2_with (first | (go_at_call 64; (with_reducible refine (nat_IsOne.calls _ _ l0_2 t232 _ ?side1 ?side2 A21.out).mono ?_); (case side1 => exact zc (Kd.C_below HR0_2.out HB.out)); (case side2 => exact HC0_2.out); rintro e w' ⟨rfl, ⟨nd, rfl⟩⟩))
          go_meet
          case rel => exact ⟨_, (!t232), zq8, H', ⟨by have := HJ1.out; have := HJ7.out; first | omega | exact Nat.le_refl _⟩, ⟨zq2 BK229.out⟩, ⟨zb1 GE229.out⟩⟩
        ·rw [if_neg c18] at H
         have c18b0 : ((l0_1.length : Int) == 0) = false := beq_eq_false_iff_ne.mpr c18
         have c18b1 : ((l0_1.length : Int) != 0) = true := bne_iff_ne.mpr c18
         have c18b2 : ¬ (l0_1 = []) := fun h_ => c18 (by rw [h_]; rfl)
         (first | rw [c18b0] | (simp only [i64_w, i32_w]; rw [c18b0]) | skip)
         have H' := am H
         clear H
         have hcz23_0 := bc BK229.out 0 (.bool a0_0)
         have hcz23_1 := bc BK229.out 1 (.slice A0_1 l0_1.length c0_1)
         have hcz23_2 := bc BK229.out 2 (.slice A0_2 l0_2.length c0_2)
         have hfz23_0 := blk_frozen BK229.out 0
         have hfz23_1 := blk_frozen BK229.out 1
         have hfz23_2 := blk_frozen BK229.out 2
         go_wp2
         go_meet
         case rel => exact ⟨_, (false), zq8, H', ⟨by have := HJ1.out; have := HJ7.out; first | omega | exact Nat.le_refl _⟩, ⟨zq2 BK229.out⟩, ⟨zb1 GE229.out⟩⟩
       case rest =>
        clear HC17
        obtain ⟨kq, x31_16, rfl, HA, HJ16, BK229, HB⟩ := hcut
        cases kq with
        | zero => exact absurd HA.out (by simp [number_Check.j2])
        | succ kj16 =>
         have H := HA.out
         clear HA
         simp only [number_Check.j2] at H
         by_cases c24 : x31_16 = true
         ·subst c24
          have H1 : (some 2) = some r := by rw [if_pos rfl] at H; exact H
          clear H
          have H := H1
          clear H1
          obtain rfl := Option.some.inj H
          go_wp2
          go_ret
          exact ⟨zq9, zb1 GE229.out⟩
         ·replace c24 := Bool.eq_false_iff.mpr c24
          subst c24
          have H1 : ((nat_IsOne.f l0_2).bind fun t233 => (if t233 = true then (some 0) else ((nat_IsOne.f l0_1).bind fun t234 => (if t234 = true then (some 0) else ((nat_Gcd.f kj16 l0_1 l0_2).bind fun t235 => ((nat_IsOne.f t235).bind fun t238 => (if t238 = true then (some 0) else (some 2)))))))) = some r := by rw [if_neg (show ¬ (false = true) by decide)] at H; exact H
          clear H
          have H := H1
          clear H1
          replace H := zj H
          obtain ⟨t233, A25, H⟩ := H
          by_cases c26 : t233 = true
          ·subst c26
           have H1 : (some 0) = some r := by rw [if_pos rfl] at H; exact H
           clear H
           have H := H1
           clear H1
           obtain rfl := Option.some.inj H
           have hcz27_0 := bc BK229.out 0 (.bool a0_0)
           have hcz27_1 := bc BK229.out 1 (.slice A0_1 l0_1.length c0_1)
           have hcz27_2 := bc BK229.out 2 (.slice A0_2 l0_2.length c0_2)
           have hfz27_0 := blk_frozen BK229.out 0
           have hfz27_1 := blk_frozen BK229.out 1
           have hfz27_2 := blk_frozen BK229.out 2
           go_wp2_with (first | ((with_reducible refine gate_callee (f := 64) rfl ?_); refine goesL_ (some 49) rfl rfl Tryz.func64 (by kernel_rfl) rfl #[.slice A0_2 l0_2.length c0_2] rfl zq5 ?_; (with_reducible refine (nat_IsOne.calls _ _ l0_2 true _ ?side1 ?side2 A25.out).mono ?_); (case side1 => exact zc (Kd.C_below HR0_2.out HB.out)); (case side2 => exact HC0_2.out); rintro e w' ⟨rfl, ⟨nd, rfl⟩⟩; refine ⟨_, rfl, ?_⟩))
           go_ret
           exact ⟨zq9, zb1 GE229.out⟩
          ·replace c26 := Bool.eq_false_iff.mpr c26
           subst c26
           have H1 : ((nat_IsOne.f l0_1).bind fun t234 => (if t234 = true then (some 0) else ((nat_Gcd.f kj16 l0_1 l0_2).bind fun t235 => ((nat_IsOne.f t235).bind fun t238 => (if t238 = true then (some 0) else (some 2)))))) = some r := by rw [if_neg (show ¬ (false = true) by decide)] at H; exact H
           clear H
           have H := H1
           clear H1
           replace H := zj H
           obtain ⟨t234, A28, H⟩ := H
           by_cases c29 : t234 = true
           ·subst c29
            have H1 : (some 0) = some r := by rw [if_pos rfl] at H; exact H
            clear H
            have H := H1
            clear H1
            obtain rfl := Option.some.inj H
            have hcz30_0 := bc BK229.out 0 (.bool a0_0)
            have hcz30_1 := bc BK229.out 1 (.slice A0_1 l0_1.length c0_1)
            have hcz30_2 := bc BK229.out 2 (.slice A0_2 l0_2.length c0_2)
            have hfz30_0 := blk_frozen BK229.out 0
            have hfz30_1 := blk_frozen BK229.out 1
            have hfz30_2 := blk_frozen BK229.out 2
            go_wp2_with (first | ((with_reducible refine gate_callee (f := 64) rfl ?_); refine goesL_ (some 49) rfl rfl Tryz.func64 (by kernel_rfl) rfl #[.slice A0_2 l0_2.length c0_2] rfl zq5 ?_; (with_reducible refine (nat_IsOne.calls _ _ l0_2 false _ ?side1 ?side2 A25.out).mono ?_); (case side1 => exact zc (Kd.C_below HR0_2.out HB.out)); (case side2 => exact HC0_2.out); rintro e w' ⟨rfl, ⟨nd, rfl⟩⟩; refine ⟨_, rfl, ?_⟩) | (go_at_call 64; (with_reducible refine (nat_IsOne.calls _ _ l0_1 true _ ?side1 ?side2 A28.out).mono ?_); (case side1 => exact zc (Kd.C_below HR0_1.out (zb1 GE229.out))); (case side2 => exact HC0_1.out); rintro e w' ⟨rfl, ⟨nd, rfl⟩⟩))
            go_ret
            exact ⟨zq9, zb1 GE229.out⟩
           ·replace c29 := Bool.eq_false_iff.mpr c29
            subst c29
            have H1 : ((nat_Gcd.f kj16 l0_1 l0_2).bind fun t235 => ((nat_IsOne.f t235).bind fun t238 => (if t238 = true then (some 0) else (some 2)))) = some r := by rw [if_neg (show ¬ (false = true) by decide)] at H; exact H
            clear H
            have H := H1
            clear H1
            replace H := zj H
            obtain ⟨t235, A31, H⟩ := H
            replace H := zj H
            obtain ⟨t238, A32, H⟩ := H
            by_cases c33 : t238 = true
            ·subst c33
             have H1 : (some 0) = some r := by rw [if_pos rfl] at H; exact H
             clear H
             have H := H1
             clear H1
             obtain rfl := Option.some.inj H
             have hcz34_0 := bc BK229.out 0 (.bool a0_0)
             have hcz34_1 := bc BK229.out 1 (.slice A0_1 l0_1.length c0_1)
             have hcz34_2 := bc BK229.out 2 (.slice A0_2 l0_2.length c0_2)
             have hfz34_0 := blk_frozen BK229.out 0
             have hfz34_1 := blk_frozen BK229.out 1
             have hfz34_2 := blk_frozen BK229.out 2
             go_wp2_with (first | ((with_reducible refine gate_callee (f := 64) rfl ?_); refine goesL_ (some 49) rfl rfl Tryz.func64 (by kernel_rfl) rfl #[.slice A0_2 l0_2.length c0_2] rfl zq5 ?_; (with_reducible refine (nat_IsOne.calls _ _ l0_2 false _ ?side1 ?side2 A25.out).mono ?_); (case side1 => exact zc (Kd.C_below HR0_2.out HB.out)); (case side2 => exact HC0_2.out); rintro e w' ⟨rfl, ⟨nd, rfl⟩⟩; refine ⟨_, rfl, ?_⟩) | (go_at_call 64; (with_reducible refine (nat_IsOne.calls _ _ l0_1 false _ ?side1 ?side2 A28.out).mono ?_); (case side1 => exact zc (Kd.C_below HR0_1.out (zb1 GE229.out))); (case side2 => exact HC0_1.out); rintro e w' ⟨rfl, ⟨nd, rfl⟩⟩) | (go_at_call 51; (with_reducible refine (nat_Gcd.calls kj16 (fun k_ => k_ < w.heap.size) _ _ l0_1 (fun k_ => k_ < w.heap.size) _ _ l0_2 t235 _ ?side1 ?side2 A31.out).mono ?_); (case side1 => exact Kd.V_mk HC0_1.out (Kd.F_below (Kd.C_F (Kd.heap_int .u32) HR0_1.out) (zb1 GE229.out))); (case side2 => exact Kd.V_mk HC0_2.out (Kd.F_below (Kd.C_F (Kd.heap_int .u32) HR0_2.out) (zb1 GE229.out))); rintro e w35 ⟨v236, rfl, ho0, hb⟩; refine zt3 (Kd.R_lower (Kd.R_mono (ok' := fun k_ => True) ho0 (fun _ hk_ => trivial)) (below_size (zb1 GE229.out))) (bb BK229.out hb) (below_step (zb1 GE229.out) hb) ?_; clear BK229 HB; intro HO237 BK229 HB; obtain ⟨Ao36, co36, eo36⟩ := Kd.R_slice HO237.out; subst eo36) | (go_at_call 64; (with_reducible refine (nat_IsOne.calls _ _ t235 true _ ?side1 ?side2 A32.out).mono ?_); (case side1 => exact zc ((Kd.R_reads' HO237.out).2.2)); (case side2 => exact (Kd.R_reads' HO237.out).2.1); rintro e w' ⟨rfl, ⟨nd, rfl⟩⟩))
             go_ret
             exact ⟨zq9, zb1 GE229.out⟩
            ·replace c33 := Bool.eq_false_iff.mpr c33
             subst c33
             have H1 : (some 2) = some r := by rw [if_neg (show ¬ (false = true) by decide)] at H; exact H
             clear H
             have H := H1
             clear H1
             obtain rfl := Option.some.inj H
             have hcz37_0 := bc BK229.out 0 (.bool a0_0)
             have hcz37_1 := bc BK229.out 1 (.slice A0_1 l0_1.length c0_1)
             have hcz37_2 := bc BK229.out 2 (.slice A0_2 l0_2.length c0_2)
             have hfz37_0 := blk_frozen BK229.out 0
             have hfz37_1 := blk_frozen BK229.out 1
             have hfz37_2 := blk_frozen BK229.out 2
             go_wp2_with (first | ((with_reducible refine gate_callee (f := 64) rfl ?_); refine goesL_ (some 49) rfl rfl Tryz.func64 (by kernel_rfl) rfl #[.slice A0_2 l0_2.length c0_2] rfl zq5 ?_; (with_reducible refine (nat_IsOne.calls _ _ l0_2 false _ ?side1 ?side2 A25.out).mono ?_); (case side1 => exact zc (Kd.C_below HR0_2.out HB.out)); (case side2 => exact HC0_2.out); rintro e w' ⟨rfl, ⟨nd, rfl⟩⟩; refine ⟨_, rfl, ?_⟩) | (go_at_call 64; (with_reducible refine (nat_IsOne.calls _ _ l0_1 false _ ?side1 ?side2 A28.out).mono ?_); (case side1 => exact zc (Kd.C_below HR0_1.out (zb1 GE229.out))); (case side2 => exact HC0_1.out); rintro e w' ⟨rfl, ⟨nd, rfl⟩⟩) | (go_at_call 51; (with_reducible refine (nat_Gcd.calls kj16 (fun k_ => k_ < w.heap.size) _ _ l0_1 (fun k_ => k_ < w.heap.size) _ _ l0_2 t235 _ ?side1 ?side2 A31.out).mono ?_); (case side1 => exact Kd.V_mk HC0_1.out (Kd.F_below (Kd.C_F (Kd.heap_int .u32) HR0_1.out) (zb1 GE229.out))); (case side2 => exact Kd.V_mk HC0_2.out (Kd.F_below (Kd.C_F (Kd.heap_int .u32) HR0_2.out) (zb1 GE229.out))); rintro e w38 ⟨v236, rfl, ho0, hb⟩; refine zt3 (Kd.R_lower (Kd.R_mono (ok' := fun k_ => True) ho0 (fun _ hk_ => trivial)) (below_size (zb1 GE229.out))) (bb BK229.out hb) (below_step (zb1 GE229.out) hb) ?_; clear BK229 HB; intro HO237 BK229 HB; obtain ⟨Ao39, co39, eo39⟩ := Kd.R_slice HO237.out; subst eo39) | (go_at_call 64; (with_reducible refine (nat_IsOne.calls _ _ t235 false _ ?side1 ?side2 A32.out).mono ?_); (case side1 => exact zc ((Kd.R_reads' HO237.out).2.2)); (case side2 => exact (Kd.R_reads' HO237.out).2.1); rintro e w' ⟨rfl, ⟨nd, rfl⟩⟩))
             go_ret
             exact ⟨zq9, zb1 GE229.out⟩
end Go.Proofs.YtemnjgkicndmjaaGreatDoor.Q
namespace Go.Proofs.YtemnjgkicndmjaaGreatDoor.Q
open Go.RowKit Go.Proofs.YtemnjgkicndmjaaGreatDoorW.PrintWords Go.Proofs.YtemnjgkicndmjaaGreatDoorW.PrintLast Go.Proofs.YtemnjgkicndmjaaGreatDoorW.PrintMore
def val (B : Int) : List Int → Int
  | [] => 0
  | x :: xs => x + B * val B xs
def Lim (B : Int) (xs : List Int) : Prop := ∀ x, x ∈ xs → 0 ≤ x ∧ x < B
def Nrm (xs : List Int) : Prop := ∀ x, xs.getLast? = some x → x ≠ 0
theorem lim_nil (B : Int) : Lim B [] := by intro x h; cases h
theorem lim_cons {B x : Int} {xs : List Int} : Lim B (x :: xs) ↔ (0 ≤ x ∧ x < B) ∧ Lim B xs := by
  constructor
  · intro h; exact ⟨h x (by simp), fun y hy => h y (by simp [hy])⟩
  · rintro ⟨h1, h2⟩ y hy
    rcases List.mem_cons.1 hy with rfl | hy
    · exact h1
    · exact h2 y hy
theorem lim_append {B : Int} {xs ys : List Int} : Lim B (xs ++ ys) ↔ Lim B xs ∧ Lim B ys := by
  constructor
  · intro h; exact ⟨fun y hy => h y (by simp [hy]), fun y hy => h y (by simp [hy])⟩
  · rintro ⟨h1, h2⟩ y hy
    rcases List.mem_append.1 hy with hy | hy
    · exact h1 y hy
    · exact h2 y hy
theorem Lim.take {B : Int} {xs : List Int} (h : Lim B xs) (n : Nat) : Lim B (xs.take n) := fun y hy => h y (List.mem_of_mem_take hy)
theorem Lim.drop {B : Int} {xs : List Int} (h : Lim B xs) (n : Nat) : Lim B (xs.drop n) := fun y hy => h y (List.mem_of_mem_drop hy)
theorem Lim.set {B : Int} {xs : List Int} (h : Lim B xs) (n : Nat) {v : Int} (hv : 0 ≤ v ∧ v < B) : Lim B (xs.set n v) := by
  intro y hy
  rcases List.mem_or_eq_of_mem_set hy with hy | rfl
  · exact h y hy
  · exact hv
theorem lim_replicate {B : Int} (hB : 0 < B) (n : Nat) : Lim B (List.replicate n 0) := by
  intro y hy
  have := List.eq_of_mem_replicate hy
  subst this
  exact ⟨Int.le_refl _, hB⟩
theorem Lim.getD {B : Int} {xs : List Int} (hB : 0 < B) (h : Lim B xs) (n : Nat) : 0 ≤ xs.getD n 0 ∧ xs.getD n 0 < B := by
  rw [List.getD_eq_getElem?_getD]
  rcases Nat.lt_or_ge n xs.length with hn | hn
  · rw [List.getElem?_eq_getElem hn]; exact h _ (List.getElem_mem hn)
  · rw [List.getElem?_eq_none hn]; exact ⟨Int.le_refl _, hB⟩
theorem val_append (B : Int) (xs ys : List Int) : val B (xs ++ ys) = val B xs + B ^ xs.length * val B ys := by
  induction xs with
  | nil => simp [val]
  | cons x xs ih => simp only [List.cons_append, val, ih, List.length_cons, Int.pow_succ]; grind
theorem val_snoc (B : Int) (xs : List Int) (x : Int) : val B (xs ++ [x]) = val B xs + B ^ xs.length * x := by
  rw [val_append]; simp [val]
theorem val_replicate (B : Int) (n : Nat) : val B (List.replicate n 0) = 0 := by
  induction n with
  | zero => rfl
  | succ n ih => simp [List.replicate_succ, val, ih]
theorem pow_pos' {B : Int} (hB : 0 < B) (n : Nat) : 0 < B ^ n := Int.pow_pos hB
theorem pow_mono' {B : Int} (hB : 0 < B) {m n : Nat} (h : m ≤ n) : B ^ m ≤ B ^ n := by
  induction h with
  | refl => exact Int.le_refl _
  | step _ ih =>
    rw [Int.pow_succ]
    have := pow_pos' hB
    rename_i n _
    have h2 : B ^ n * 1 ≤ B ^ n * B := Int.mul_le_mul_of_nonneg_left (by omega) (Int.le_of_lt (this n))
    omega
theorem val_nonneg {B : Int} (hB : 0 < B) {xs : List Int} (h : Lim B xs) : 0 ≤ val B xs := by
  induction xs with
  | nil => exact Int.le_refl _
  | cons x xs ih =>
    obtain ⟨h1, h2⟩ := lim_cons.1 h
    have := Int.mul_nonneg (Int.le_of_lt hB) (ih h2)
    simp only [val]; omega
theorem val_lt {B : Int} (hB : 0 < B) {xs : List Int} (h : Lim B xs) : val B xs < B ^ xs.length := by
  induction xs with
  | nil => simp [val]
  | cons x xs ih =>
    obtain ⟨h1, h2⟩ := lim_cons.1 h
    have h3 := ih h2
    have h4 : B * (val B xs + 1) ≤ B * B ^ xs.length := Int.mul_le_mul_of_nonneg_left (by omega) (by omega)
    simp only [val, List.length_cons, Int.pow_succ]
    grind
theorem nrm_nil : Nrm [] := by intro x h; cases h
theorem nrm_snoc {xs : List Int} {x : Int} : Nrm (xs ++ [x]) ↔ x ≠ 0 := by
  simp [Nrm]
theorem nrm_cons {x : Int} {xs : List Int} (h : Nrm (x :: xs)) : Nrm xs := by
  intro y hy
  refine h y ?_
  rw [List.getLast?_cons, hy]; simp
theorem val_ge {B : Int} (hB : 0 < B) {xs : List Int} (h : Lim B xs) (hn : Nrm xs) (h0 : xs ≠ []) : B ^ (xs.length - 1) ≤ val B xs := by
  obtain ⟨ys, y, rfl⟩ : ∃ ys y, xs = ys ++ [y] := ⟨xs.dropLast, xs.getLast h0, (List.dropLast_concat_getLast h0).symm⟩
  have hy := nrm_snoc.1 hn
  obtain ⟨h1, h2⟩ := lim_append.1 h
  have h3 := (lim_cons.1 h2).1
  have h4 := val_nonneg hB h1
  rw [val_snoc]
  have h5 : B ^ ys.length * 1 ≤ B ^ ys.length * y := Int.mul_le_mul_of_nonneg_left (by omega) (Int.le_of_lt (pow_pos' hB _))
  simp only [List.length_append, List.length_singleton, Nat.add_sub_cancel]
  omega
theorem val_eq_zero {B : Int} (hB : 0 < B) {xs : List Int} (h : Lim B xs) (hn : Nrm xs) : val B xs = 0 ↔ xs = [] := by
  constructor
  · intro h0
    by_cases e : xs = []
    · exact e
    · have := val_ge hB h hn e
      have := pow_pos' hB (xs.length - 1)
      omega
  · rintro rfl; rfl
theorem val_pos {B : Int} (hB : 0 < B) {xs : List Int} (h : Lim B xs) (hn : Nrm xs) (h0 : xs ≠ []) : 0 < val B xs := by
  have := val_ge hB h hn h0
  have := pow_pos' hB (xs.length - 1)
  omega
theorem digit_unique {B x y a b : Int} (hx : 0 ≤ x ∧ x < B) (hy : 0 ≤ y ∧ y < B) (h : x + B * a = y + B * b) : x = y ∧ a = b := by
  have hB : 0 < B := by omega
  have e1 : (x + B * a) % B = x := by rw [Int.add_mul_emod_self_left, Int.emod_eq_of_lt hx.1 hx.2]
  have e2 : (y + B * b) % B = y := by rw [Int.add_mul_emod_self_left, Int.emod_eq_of_lt hy.1 hy.2]
  have e : x = y := by rw [← e1, ← e2, h]
  refine ⟨e, ?_⟩
  subst e
  have : B * a = B * b := by omega
  exact Int.eq_of_mul_eq_mul_left (by omega) this
theorem val_inj {B : Int} (hB : 0 < B) {xs ys : List Int} (hx : Lim B xs) (hy : Lim B ys) (nx : Nrm xs) (ny : Nrm ys) (h : val B xs = val B ys) : xs = ys := by
  induction xs generalizing ys with
  | nil => exact ((val_eq_zero hB hy ny).1 h.symm).symm
  | cons x xs ih =>
    cases ys with
    | nil => exact (val_eq_zero hB hx nx).1 h
    | cons y ys =>
      obtain ⟨a1, a2⟩ := lim_cons.1 hx
      obtain ⟨b1, b2⟩ := lim_cons.1 hy
      obtain ⟨e, e'⟩ := digit_unique a1 b1 h
      rw [e, ih a2 b2 (nrm_cons nx) (nrm_cons ny) e']
theorem val_split (B : Int) (xs : List Int) (i : Nat) (h : i ≤ xs.length) : val B xs = val B (xs.take i) + B ^ i * val B (xs.drop i) := by
  have := val_append B (xs.take i) (xs.drop i)
  rw [List.take_append_drop, List.length_take, Nat.min_eq_left h] at this
  exact this
theorem take_succ' (xs : List Int) (i : Nat) (h : i < xs.length) : xs.take (i + 1) = xs.take i ++ [xs.getD i 0] := by
  rw [List.take_succ_eq_append_getElem h, List.getD_eq_getElem?_getD, List.getElem?_eq_getElem h]; rfl
theorem drop_cons' (xs : List Int) (i : Nat) (h : i < xs.length) : xs.drop i = xs.getD i 0 :: xs.drop (i + 1) := by
  rw [List.drop_eq_getElem_cons h, List.getD_eq_getElem?_getD, List.getElem?_eq_getElem h]; rfl
theorem val_take_succ (B : Int) (xs : List Int) (i : Nat) (h : i < xs.length) : val B (xs.take (i + 1)) = val B (xs.take i) + B ^ i * xs.getD i 0 := by
  rw [take_succ' xs i h, val_snoc, List.length_take, Nat.min_eq_left (by omega)]
theorem val_drop (B : Int) (xs : List Int) (i : Nat) (h : i < xs.length) : val B (xs.drop i) = xs.getD i 0 + B * val B (xs.drop (i + 1)) := by
  rw [drop_cons' xs i h]; rfl
theorem val_set (B : Int) (xs : List Int) (i : Nat) (v : Int) (h : i < xs.length) : val B (xs.set i v) = val B xs + B ^ i * (v - xs.getD i 0) := by
  induction xs generalizing i with
  | nil => simp at h
  | cons x xs ih =>
    cases i with
    | zero => simp [val]; omega
    | succ i =>
      simp only [List.length_cons, Nat.add_lt_add_iff_right] at h
      simp only [List.set_cons_succ, val, ih i h, Int.pow_succ, List.getD_cons_succ]
      grind
def trim (xs : List Int) : List Int := (xs.reverse.dropWhile (· == 0)).reverse
theorem trim_snoc_zero (xs : List Int) : trim (xs ++ [0]) = trim xs := by simp [trim]
theorem trim_snoc (xs : List Int) {x : Int} (h : x ≠ 0) : trim (xs ++ [x]) = xs ++ [x] := by simp [trim, h]
theorem snoc_induction {P : List Int → Prop} (h0 : P []) (h1 : ∀ xs x, P xs → P (xs ++ [x])) (xs : List Int) : P xs := by
  have key : ∀ n, ∀ xs : List Int, xs.length = n → P xs := by
    intro n
    induction n with
    | zero => intro xs h; rw [List.eq_nil_of_length_eq_zero h]; exact h0
    | succ n ih =>
      intro xs h
      have h2 : xs ≠ [] := by rintro rfl; simp at h
      rw [← List.dropLast_concat_getLast h2]
      exact h1 _ _ (ih _ (by simp [h]))
  exact key _ xs rfl
theorem val_trim (B : Int) (xs : List Int) : val B (trim xs) = val B xs := by
  induction xs using snoc_induction with
  | h0 => rfl
  | h1 xs x ih =>
    by_cases h : x = 0
    · subst h; rw [trim_snoc_zero, ih, val_snoc]; simp
    · rw [trim_snoc xs h]
theorem nrm_trim (xs : List Int) : Nrm (trim xs) := by
  induction xs using snoc_induction with
  | h0 => exact nrm_nil
  | h1 xs x ih =>
    by_cases h : x = 0
    · subst h; rw [trim_snoc_zero]; exact ih
    · rw [trim_snoc xs h]; exact nrm_snoc.2 h
theorem trim_prefix (xs : List Int) : ∃ n, trim xs = xs.take n := by
  induction xs using snoc_induction with
  | h0 => exact ⟨0, rfl⟩
  | h1 xs x ih =>
    by_cases h : x = 0
    · subst h
      obtain ⟨n, hn⟩ := ih
      refine ⟨min n xs.length, ?_⟩
      rw [trim_snoc_zero, hn, List.take_append_of_le_length (by omega)]
      rw [List.take_eq_take_min]
    · refine ⟨xs.length + 1, ?_⟩
      rw [trim_snoc xs h, List.take_of_length_le (by simp)]
theorem lim_trim {B : Int} {xs : List Int} (h : Lim B xs) : Lim B (trim xs) := by
  obtain ⟨n, hn⟩ := trim_prefix xs
  rw [hn]; exact h.take n
theorem length_trim (xs : List Int) : (trim xs).length ≤ xs.length := by
  obtain ⟨n, hn⟩ := trim_prefix xs
  rw [hn, List.length_take]; omega
theorem val_split' (B : Int) (zs : List Int) (i : Nat) : val B zs = val B (zs.take i) + B ^ i * val B (zs.drop i) := by
  by_cases h : i ≤ zs.length
  · exact val_split _ zs i h
  · rw [List.take_of_length_le (by omega), List.drop_of_length_le (by omega)]; simp [val]
theorem val_take_succ' (B : Int) (zs : List Int) (i : Nat) : val B (zs.take (i + 1)) = val B (zs.take i) + B ^ i * zs.getD i 0 := by
  by_cases h : i < zs.length
  · exact val_take_succ _ zs i h
  · rw [List.take_of_length_le (by omega), List.take_of_length_le (by omega), List.getD_eq_getElem?_getD, List.getElem?_eq_none (by omega)]; simp
theorem val_drop' (B : Int) (zs : List Int) (i : Nat) : val B (zs.drop i) = zs.getD i 0 + B * val B (zs.drop (i + 1)) := by
  by_cases h : i < zs.length
  · exact val_drop _ zs i h
  · rw [List.drop_of_length_le (by omega), List.drop_of_length_le (by omega), List.getD_eq_getElem?_getD, List.getElem?_eq_none (by omega)]; simp [val]
theorem lim_nrm_snoc {B : Int} {xs : List Int} {x : Int} (h : Lim B xs) (hx : 0 ≤ x ∧ x < B) : Lim B (xs ++ [x]) := lim_append.2 ⟨h, by intro y hy; rw [List.mem_singleton] at hy; rw [hy]; exact hx⟩
theorem w64 {x : Int} (h1 : -9223372036854775808 ≤ x) (h2 : x ≤ 9223372036854775807) : wrap64 x = x := by unfold wrap64; omega
theorem u64w (n : Int) : IntKind.u64.wrap n = n % 18446744073709551616 := by simp [IntKind.wrap, IntKind.bits, IntKind.signed]
theorem u64_id {x : Int} (h1 : 0 ≤ x) (h2 : x < 18446744073709551616) : IntKind.u64.wrap x = x := by rw [u64w]; omega
theorem bits_or_shift {a b : Int} (ha0 : 0 ≤ a) (ha : a < 4294967296) (hb0 : 0 ≤ b) (hb : b < 4294967296) : Go.bits .or .u64 (a * 4294967296) b = a * 4294967296 + b := by
  rw [u64_or _ _ (by omega) (by omega) hb0 (by omega), nat_join 32 _ _ (by omega) (by omega)]
  omega
theorem bits_or_shift' {a b : Int} (ha0 : 0 ≤ a) (ha : a < 4294967296) (hb0 : 0 ≤ b) (hb : b < 4294967296) : Go.bits .or .u64 b (a * 4294967296) = a * 4294967296 + b := by
  rw [u64_or _ _ hb0 (by omega) (by omega) (by omega), Nat.or_comm, nat_join 32 _ _ (by omega) (by omega)]
  omega
theorem bits_and_one {x : Int} (h0 : 0 ≤ x) (h1 : x < 18446744073709551616) : Go.bits .and .u64 x 1 = x % 2 := by
  rw [u64_and _ _ h0 h1 (by omega) (by omega)]
  have : (1 : Int).toNat = 1 := rfl
  rw [this, Nat.and_one_is_mod]
  omega
theorem Ev.ret {α : Type} {g : Nat → Option α} {r : α} (h : ∀ k, g k = some r) : Ev g r := ⟨0, fun k _ => h k⟩
theorem Ev.unique {α : Type} {g : Nat → Option α} {r r' : α} (h : Ev g r) (h' : Ev g r') : r = r' := by
  obtain ⟨K, hK⟩ := h
  obtain ⟨K', hK'⟩ := h'
  have h1 := hK (max K K') (by omega)
  have h2 := hK' (max K K') (by omega)
  rw [h1] at h2
  exact Option.some.inj h2
theorem Ev.const {α : Type} {a : Option α} {r : α} (h : a = some r) : Ev (fun _ => a) r := ⟨0, fun _ _ => h⟩
theorem Ev.eq {α : Type} {g : Nat → Option α} {r r' : α} (h : Ev g r) (e : r = r') : Ev g r' := e ▸ h
theorem rd_getD (xs : List Int) (i : Nat) : rd xs (i : Int) = xs.getD i 0 := by simp [rd]
theorem Lim.rd {B : Int} {xs : List Int} (hB : 0 < B) (h : Lim B xs) (i : Int) : 0 ≤ rd xs i ∧ rd xs i < B := h.getD hB _
end Go.Proofs.YtemnjgkicndmjaaGreatDoor.Q
namespace Go.Proofs.YtemnjgkicndmjaaGreatDoor.Q
open Go.RowKit Go.Proofs.YtemnjgkicndmjaaGreatDoorW.PrintWords Go.Proofs.YtemnjgkicndmjaaGreatDoorW.PrintLast Go.Proofs.YtemnjgkicndmjaaGreatDoorW.PrintMore
set_option linter.unusedVariables false
theorem trim_ev (xs : List Int) : xs.length ≤ 1099511627776 → Ev (fun k => nat_Trim.l0 k xs) (trim xs) := by
  induction xs using snoc_induction with
  | h0 => intro _; exact Ev.step (f := fun _ => some []) (fun k => by simp [nat_Trim.l0]) (Ev.now _)
  | h1 xs x ih =>
    intro hl
    simp only [List.length_append, List.length_singleton] at hl
    have hw : wrap64 (((xs ++ [x]).length : Int) - 1) = xs.length := by simp only [List.length_append, List.length_singleton]; unfold wrap64; omega
    have hr : rd (xs ++ [x]) (xs.length : Int) = x := by rw [rd_getD]; simp
    have h1 : ((xs ++ [x]).length : Int) > 0 := by simp only [List.length_append, List.length_singleton]; omega
    have h2 : (xs.length : Int) < ((xs ++ [x]).length : Int) := by simp only [List.length_append, List.length_singleton]; omega
    by_cases hx : x = 0
    · subst hx
      rw [trim_snoc_zero]
      refine Ev.step (f := fun k => nat_Trim.l0 k xs) (fun k => ?_) (ih (by omega))
      simp only [nat_Trim.l0]
      rw [hw, if_pos h1, if_pos (by omega), if_pos h2, hr, if_pos rfl, if_pos (by omega)]
      simp
    · rw [trim_snoc xs hx]
      refine Ev.step (f := fun _ => some (xs ++ [x])) (fun k => ?_) (Ev.now _)
      simp only [nat_Trim.l0]
      rw [hw, if_pos h1, if_pos (by omega), if_pos h2, hr, if_neg hx]
theorem Trim_ev (xs : List Int) (h : xs.length ≤ 1099511627776) : Ev (fun k => nat_Trim.f k xs) (trim xs) := trim_ev xs h
theorem IsOne_eq (xs : List Int) : nat_IsOne.f xs = some (decide (xs = [1])) := by
  unfold nat_IsOne.f
  match xs with
  | [] => simp
  | [x] => simp [rd]; rw [Bool.eq_iff_iff]; simp
  | x :: y :: l => rw [if_neg (by simp; omega)]; simp
theorem val_of2 (x y : Int) : val 4294967296 [x, y] = x + 4294967296 * y := by simp [val]
theorem Of_ev (n : Int) (h0 : 0 ≤ n) (h1 : n < 18446744073709551616) : ∃ r, Ev (fun k => nat_Of.f k n) r ∧ Lim 4294967296 r ∧ Nrm r ∧ val 4294967296 r = n ∧ r.length ≤ 2 := by
  refine ⟨trim [n % 4294967296, n / 4294967296 % 4294967296], ?_, ?_, nrm_trim _, ?_, Nat.le_trans (length_trim _) (by simp)⟩
  · unfold nat_Of.f
    exact Ev.bind (f := fun _ t => some t) (Trim_ev _ (by simp)) (Ev.now _)
  · refine lim_trim ?_
    rw [lim_cons, lim_cons]
    exact ⟨by omega, by omega, lim_nil _⟩
  · rw [val_trim, val_of2]; omega
theorem sign_eq (n : Int) : nat_sign.f n = some (if n < 0 then -1 else if n > 0 then 1 else 0) := by unfold nat_sign.f; split <;> (try split) <;> simp_all
def cmpI (a b : Int) : Int := if a < b then -1 else if a > b then 1 else 0
theorem compare_loop (xs ys : List Int) (hx : Lim 4294967296 xs) (hy : Lim 4294967296 ys) (hl : xs.length = ys.length) (hb : xs.length ≤ 1099511627776) : ∀ i : Nat, i ≤ xs.length → xs.drop i = ys.drop i →
    Ev (fun k => nat_Compare.l0 k xs ys ((i : Int) - 1)) (cmpI (val 4294967296 xs) (val 4294967296 ys)) := by
  intro i
  induction i with
  | zero =>
    intro _ h
    simp only [List.drop_zero] at h
    subst h
    refine Ev.step (f := fun _ => some 0) (fun k => ?_) ?_
    · simp [nat_Compare.l0]
    · unfold cmpI; rw [if_neg (by omega), if_neg (by omega)]; exact Ev.now _
  | succ i ih =>
    intro hi h
    have e1 : (((i + 1 : Nat) : Int) - 1) = (i : Int) := by omega
    rw [e1]
    have hB : (0 : Int) < 4294967296 := by decide
    by_cases heq : xs.getD i 0 = ys.getD i 0
    · refine Ev.step (f := fun k => nat_Compare.l0 k xs ys ((i : Int) - 1)) (fun k => ?_) (ih (by omega) ?_)
      · simp only [nat_Compare.l0]
        rw [if_pos (by omega), if_pos (by omega), if_pos (by omega), if_pos (by omega), rd_getD, rd_getD, if_pos heq, w64 (by omega) (by omega)]
      · rw [drop_cons' xs i (by omega), drop_cons' ys i (by omega), heq, h]
    · have a1 := val_split 4294967296 xs i (by omega)
      have a2 := val_split 4294967296 ys i (by omega)
      rw [val_drop 4294967296 xs i (by omega)] at a1
      rw [val_drop 4294967296 ys i (by omega), ← h] at a2
      have b1 := val_lt hB (hx.take i)
      have b2 := val_lt hB (hy.take i)
      rw [List.length_take, Nat.min_eq_left (by omega)] at b1 b2
      have c1 := val_nonneg hB (hx.take i)
      have c2 := val_nonneg hB (hy.take i)
      have hP : (0 : Int) < (4294967296 : Int) ^ i := pow_pos' hB i
      generalize 4294967296 * val 4294967296 (xs.drop (i + 1)) = T at a1 a2
      rw [Int.mul_add] at a1 a2
      generalize 4294967296 ^ i * T = U at a1 a2
      have key : ∀ p q s t : Int, p < q → s < 4294967296 ^ i → 0 ≤ t → s + (4294967296 ^ i * p + U) < t + (4294967296 ^ i * q + U) := by
        intro p q s t hpq hs ht
        have : 4294967296 ^ i * (p + 1) ≤ 4294967296 ^ i * q := Int.mul_le_mul_of_nonneg_left (by omega) (by omega)
        rw [Int.mul_add, Int.mul_one] at this
        omega
      by_cases hlt : xs.getD i 0 < ys.getD i 0
      · refine Ev.step (f := fun _ => some (-1)) (fun k => ?_) ?_
        · simp only [nat_Compare.l0]
          rw [if_pos (by omega), if_pos (by omega), if_pos (by omega), if_pos (by omega), rd_getD, rd_getD, if_neg heq, if_pos hlt]
        · have := key _ _ _ _ hlt b1 c2
          unfold cmpI; rw [if_pos (by omega)]; exact Ev.now _
      · refine Ev.step (f := fun _ => some 1) (fun k => ?_) ?_
        · simp only [nat_Compare.l0]
          rw [if_pos (by omega), if_pos (by omega), if_pos (by omega), if_pos (by omega), rd_getD, rd_getD, if_neg heq, if_neg hlt]
        · have := key _ _ _ _ (show ys.getD i 0 < xs.getD i 0 by omega) b2 c1
          unfold cmpI; rw [if_neg (by omega), if_pos (by omega)]; exact Ev.now _
theorem len_lt_val {B : Int} (hB : 0 < B) {xs ys : List Int} (hx : Lim B xs) (hy : Lim B ys) (ny : Nrm ys) (h : xs.length < ys.length) : val B xs < val B ys := by
  have h1 := val_lt hB hx
  have h2 := val_ge hB hy ny (by rintro rfl; simp at h)
  have h3 : B ^ xs.length ≤ B ^ (ys.length - 1) := pow_mono' hB (by omega)
  omega
theorem Compare_ev (xs ys : List Int) (hx : Lim 4294967296 xs) (hy : Lim 4294967296 ys) (nx : Nrm xs) (ny : Nrm ys) (hb : xs.length ≤ 1099511627776) (hb' : ys.length ≤ 1099511627776) : Ev (fun k => nat_Compare.f k xs ys) (cmpI (val 4294967296 xs) (val 4294967296 ys)) := by
  have hB : (0 : Int) < 4294967296 := by decide
  unfold nat_Compare.f
  by_cases hl : xs.length = ys.length
  · have := compare_loop xs ys hx hy hl hb xs.length (by omega) (by rw [List.drop_length, hl, List.drop_length])
    refine Ev.congr (fun k => ?_) this
    rw [if_pos (by omega), w64 (by omega) (by omega)]
  · refine Ev.ret fun k => ?_
    rw [if_neg (by omega), w64 (by omega) (by omega), sign_eq]
    unfold cmpI
    rcases Nat.lt_or_ge xs.length ys.length with h | h
    · have := len_lt_val hB hx hy ny h
      rw [if_pos (by omega), if_pos (by omega)]; rfl
    · have := len_lt_val hB hy hx nx (by omega)
      rw [if_neg (by omega), if_pos (by omega), if_neg (by omega), if_pos (by omega)]; rfl
theorem divsmall_loop (xs : List Int) (d : Int) (hx : Lim 4294967296 xs) (hd0 : 0 < d) (hd : d < 4294967296) (hb : xs.length ≤ 1099511627776) : ∀ (i : Nat) (out : List Int) (rest : Int), i ≤ xs.length → out.length = xs.length → Lim 4294967296 out → out.take i = List.replicate i 0 → 0 ≤ rest → rest < d →
    ∃ r, Ev (fun k => nat_DivSmall.l0 k xs d out rest ((i : Int) - 1)) (trim r, val 4294967296 (xs.take i) + 4294967296 ^ i * rest - d * ((val 4294967296 (xs.take i) + 4294967296 ^ i * rest) / d)) ∧ r.length = xs.length ∧ Lim 4294967296 r ∧ val 4294967296 r = val 4294967296 out + (val 4294967296 (xs.take i) + 4294967296 ^ i * rest) / d := by
  intro i
  have hB : (0 : Int) < 4294967296 := by decide
  induction i with
  | zero =>
    intro out rest _ hlen ho hz h0 h1
    refine ⟨out, ?_, hlen, ho, ?_⟩
    · refine Ev.step (f := fun k => (nat_Trim.f k out).bind fun t => some (t, rest % 4294967296)) (fun k => ?_) ?_
      · simp [nat_DivSmall.l0]
      · refine Ev.bind (f := fun _ t => some (t, rest % 4294967296)) (Trim_ev out (by omega)) (Ev.eq (Ev.now _) ?_)
        have e1 : rest / d = 0 := Int.ediv_eq_zero_of_lt h0 h1
        simp only [List.take_zero, val, Int.pow_zero, Int.one_mul, Int.zero_add, e1, Int.mul_zero, Int.sub_zero]
        congr 1
        exact Int.emod_eq_of_lt h0 (by omega)
    · have e1 : rest / d = 0 := Int.ediv_eq_zero_of_lt h0 h1
      simp [val, e1]
  | succ i ih =>
    intro out rest hi hlen ho hz h0 h1
    have e1 : (((i + 1 : Nat) : Int) - 1) = (i : Int) := by omega
    have hxi := hx.rd hB (i : Int)
    have hxg : rd xs (i : Int) = xs.getD i 0 := rd_getD xs i
    generalize hy : rd xs (i : Int) = y at hxi hxg
    have hcur : rest * 4294967296 + y < 18446744073709551616 := by omega
    have hq0 : 0 ≤ (rest * 4294967296 + y) / d := Int.ediv_nonneg (by omega) (by omega)
    have hq1 : (rest * 4294967296 + y) / d < 4294967296 := by
      refine Int.ediv_lt_of_lt_mul hd0 ?_
      have : (rest + 1) * 4294967296 ≤ d * 4294967296 := Int.mul_le_mul_of_nonneg_right (by omega) (by decide)
      rw [Int.mul_comm d] at this
      have e : (rest + 1) * 4294967296 = rest * 4294967296 + 4294967296 := by grind
      omega
    have hr0 : 0 ≤ (rest * 4294967296 + y) % d := Int.emod_nonneg _ (by omega)
    have hr1 : (rest * 4294967296 + y) % d < d := Int.emod_lt_of_pos _ hd0
    have hdm := Int.mul_ediv_add_emod (rest * 4294967296 + y) d
    generalize hQ : (rest * 4294967296 + y) / d = q at *
    generalize hR : (rest * 4294967296 + y) % d = s at *
    have hoi : out.getD i 0 = 0 := by
      have : (out.take (i + 1)).getD i 0 = 0 := by rw [hz]; simp [List.getD_eq_getElem?_getD]
      rw [List.getD_eq_getElem?_getD, List.getElem?_take, if_pos (by omega)] at this
      rw [List.getD_eq_getElem?_getD]; exact this
    obtain ⟨r, hev, hrl, hrL, hrv⟩ := ih (out.set i q) s (by omega) (by simp [hlen]) (ho.set i ⟨hq0, hq1⟩) (by
      rw [List.take_set_of_le (by omega)]
      have := congrArg (List.take i) hz
      rw [List.take_take, Nat.min_eq_left (by omega), List.take_replicate, Nat.min_eq_left (by omega)] at this
      exact this) hr0 hr1
    have hval : val 4294967296 (xs.take (i + 1)) + 4294967296 ^ (i + 1) * rest = d * (4294967296 ^ i * q) + (val 4294967296 (xs.take i) + 4294967296 ^ i * s) := by
      rw [val_take_succ 4294967296 xs i (by omega), ← hxg, Int.pow_succ]
      have : (rest * 4294967296 + y) = d * q + s := by rw [← hdm]
      grind
    have hdiv : (val 4294967296 (xs.take (i + 1)) + 4294967296 ^ (i + 1) * rest) / d = 4294967296 ^ i * q + (val 4294967296 (xs.take i) + 4294967296 ^ i * s) / d := by
      rw [hval, Int.mul_add_ediv_left _ _ (by omega)]
    refine ⟨r, ?_, hrl, hrL, ?_⟩
    · refine Ev.step (f := fun k => nat_DivSmall.l0 k xs d (out.set i q) s ((i : Int) - 1)) (fun k => ?_) (Ev.eq hev ?_)
      · rw [e1]
        simp only [nat_DivSmall.l0]
        rw [if_pos (by omega), if_pos (by omega), if_pos (by omega), u64_id (x := d) (by omega) (by omega), if_neg (by omega), if_pos (by omega), hy,
          u64_id (x := rest * 4294967296) (by omega) (by omega), u64_id (x := y) (by omega) (by omega), bits_or_shift h0 (by omega) hxi.1 hxi.2,
          Int.tdiv_eq_ediv_of_nonneg (by omega), Int.tmod_eq_emod_of_nonneg (by omega), hQ, hR, u64_id hq0 (by omega), w64 (by omega) (by omega), Int.emod_eq_of_lt hq0 hq1]
        simp
      · congr 1
        rw [hdiv, hval]
        grind
    · rw [hrv, hdiv, val_set 4294967296 out i q (by omega), hoi]
      grind
theorem DivSmall_ev (xs : List Int) (d : Int) (hx : Lim 4294967296 xs) (hd0 : 0 < d) (hd : d < 4294967296) (hb : xs.length ≤ 1099511627776) :
    ∃ r, Ev (fun k => nat_DivSmall.f k xs d) (r, val 4294967296 xs % d) ∧ Lim 4294967296 r ∧ Nrm r ∧ val 4294967296 r = val 4294967296 xs / d ∧ r.length ≤ xs.length := by
  obtain ⟨r, h1, h2, h3, h4⟩ := divsmall_loop xs d hx hd0 hd hb xs.length (List.replicate xs.length 0) 0 (by omega) (by simp) (lim_replicate (by decide) _) (by rw [List.take_of_length_le (by simp)]) (by omega) hd0
  rw [List.take_of_length_le (Nat.le_refl _), Int.mul_zero, Int.add_zero] at h1 h4
  refine ⟨trim r, ?_, lim_trim h3, nrm_trim _, by rw [val_trim, h4, val_replicate, Int.zero_add], Nat.le_trans (length_trim _) (by omega)⟩
  refine Ev.congr (fun k => ?_) (Ev.eq h1 ?_)
  · unfold nat_DivSmall.f
    rw [if_pos (by omega), if_pos (by omega), w64 (by omega) (by omega)]
    simp
  · congr 1
    have := Int.mul_ediv_add_emod (val 4294967296 xs) d
    omega
def len8 : ByteArray := (⟨#[0, 1, 2, 2, 3, 3, 3, 3, 4, 4, 4, 4, 4, 4, 4, 4, 5, 5, 5, 5, 5, 5, 5, 5, 5, 5, 5, 5, 5, 5, 5, 5, 6, 6, 6, 6, 6, 6, 6, 6, 6, 6, 6, 6, 6, 6, 6, 6, 6, 6, 6, 6, 6, 6, 6, 6, 6, 6, 6, 6, 6, 6, 6, 6, 7, 7, 7, 7, 7, 7, 7, 7, 7, 7, 7, 7, 7, 7, 7, 7, 7, 7, 7, 7, 7, 7, 7, 7, 7, 7, 7, 7, 7, 7, 7, 7, 7, 7, 7, 7, 7, 7, 7, 7, 7, 7, 7, 7, 7, 7, 7, 7, 7, 7, 7, 7, 7, 7, 7, 7, 7, 7, 7, 7, 7, 7, 7, 7, 8, 8, 8, 8, 8, 8, 8, 8, 8, 8, 8, 8, 8, 8, 8, 8, 8, 8, 8, 8, 8, 8, 8, 8, 8, 8, 8, 8, 8, 8, 8, 8, 8, 8, 8, 8, 8, 8, 8, 8, 8, 8, 8, 8, 8, 8, 8, 8, 8, 8, 8, 8, 8, 8, 8, 8, 8, 8, 8, 8, 8, 8, 8, 8, 8, 8, 8, 8, 8, 8, 8, 8, 8, 8, 8, 8, 8, 8, 8, 8, 8, 8, 8, 8, 8, 8, 8, 8, 8, 8, 8, 8, 8, 8, 8, 8, 8, 8, 8, 8, 8, 8, 8, 8, 8, 8, 8, 8, 8, 8, 8, 8, 8, 8, 8, 8, 8, 8, 8, 8, 8, 8, 8, 8, 8, 8, 8, 8]⟩ : ByteArray)
set_option maxRecDepth 100000 in
theorem len8_all : ∀ i : Fin 256, (0 ≤ bt len8 (i.val : Int) ∧ bt len8 (i.val : Int) ≤ 8 ∧ (i.val : Int) < 2 ^ (bt len8 (i.val : Int)).toNat ∧ (i.val = 0 ∨ (1 ≤ bt len8 (i.val : Int) ∧ (2 : Int) ^ ((bt len8 (i.val : Int)).toNat - 1) ≤ (i.val : Int)))) := by decide +kernel
theorem len8_at {x : Int} (h0 : 0 ≤ x) (h1 : x < 256) : 0 ≤ bt len8 x ∧ bt len8 x ≤ 8 ∧ x < 2 ^ (bt len8 x).toNat ∧ (x = 0 ∨ (1 ≤ bt len8 x ∧ (2 : Int) ^ ((bt len8 x).toNat - 1) ≤ x)) := by
  obtain ⟨n, rfl⟩ := Int.eq_ofNat_of_zero_le h0
  have := len8_all ⟨n, by omega⟩
  simp only at this
  refine ⟨this.1, this.2.1, this.2.2.1, ?_⟩
  rcases this.2.2.2 with h | h
  · left; omega
  · right; exact h
theorem Len32_unf (a : Int) : bits_Len32.f a = if a ≥ 65536 then (if (a / 65536) ≥ 256 then (if 0 ≤ (((a / 65536) / 256) % 256) then (if (((a / 65536) / 256) % 256) < 256 then (some (wrap64 ((16 + 8) + (wrap64 (bt len8 (((a / 65536) / 256) % 256)))))) else (none)) else (none)) else (if 0 ≤ ((a / 65536) % 256) then (if ((a / 65536) % 256) < 256 then (some (wrap64 (16 + (wrap64 (bt len8 ((a / 65536) % 256)))))) else (none)) else (none))) else (if a ≥ 256 then (if 0 ≤ ((a / 256) % 256) then (if ((a / 256) % 256) < 256 then (some (wrap64 ((0 + 8) + (wrap64 (bt len8 ((a / 256) % 256)))))) else (none)) else (none)) else (if 0 ≤ (a % 256) then (if (a % 256) < 256 then (some (wrap64 (0 + (wrap64 (bt len8 (a % 256)))))) else (none)) else (none))) := rfl
theorem len_part {a x : Int} {j : Nat} (hx0 : 0 ≤ x) (hx : x < 256) (hl : x * 2 ^ j ≤ a) (hu : a < (x + 1) * 2 ^ j) : ∃ n : Nat, bt len8 x = n ∧ n ≤ 8 ∧ a < 2 ^ (n + j) ∧ (x = 0 ∨ (1 ≤ n ∧ (2 : Int) ^ (n + j - 1) ≤ a)) := by
  obtain ⟨h1, h2, h3, h4⟩ := len8_at hx0 hx
  generalize bt len8 x = y at *
  obtain ⟨n, rfl⟩ := Int.eq_ofNat_of_zero_le h1
  rw [Int.toNat_natCast] at h3 h4
  have hP : (0 : Int) < 2 ^ j := Int.pow_pos (by decide)
  refine ⟨n, rfl, by omega, ?_, ?_⟩
  · rw [Int.pow_add]
    have : (x + 1) * 2 ^ j ≤ 2 ^ n * 2 ^ j := Int.mul_le_mul_of_nonneg_right (by omega) (by omega)
    omega
  · rcases h4 with h4 | ⟨h4, h5⟩
    · left; exact h4
    · right
      refine ⟨by omega, ?_⟩
      rw [show n + j - 1 = n - 1 + j by omega, Int.pow_add]
      have : 2 ^ (n - 1) * 2 ^ j ≤ x * 2 ^ j := Int.mul_le_mul_of_nonneg_right h5 (by omega)
      omega
set_option maxRecDepth 100000 in
theorem Len32_eq (a : Int) (h0 : 0 ≤ a) (h1 : a < 4294967296) : ∃ n : Nat, bits_Len32.f a = some (n : Int) ∧ n ≤ 32 ∧ a < 2 ^ n ∧ (a = 0 ∨ (1 ≤ n ∧ (2 : Int) ^ (n - 1) ≤ a)) := by
  rw [Len32_unf]
  by_cases c1 : a ≥ 65536
  · rw [if_pos c1]
    by_cases c2 : a / 65536 ≥ 256
    · rw [if_pos c2, if_pos (by omega), if_pos (by omega)]
      obtain ⟨n, e, hn, hu, hl⟩ := len_part (a := a) (x := a / 65536 / 256 % 256) (j := 24) (by omega) (by omega) (by omega) (by omega)
      rw [e]
      refine ⟨n + 24, ?_, by omega, hu, ?_⟩
      · rw [w64 (x := (n : Int)) (by omega) (by omega), w64 (by omega) (by omega)]; congr 1; omega
      · rcases hl with hl | hl
        · omega
        · right; exact ⟨by omega, hl.2⟩
    · rw [if_neg c2, if_pos (by omega), if_pos (by omega)]
      obtain ⟨n, e, hn, hu, hl⟩ := len_part (a := a) (x := a / 65536 % 256) (j := 16) (by omega) (by omega) (by omega) (by omega)
      rw [e]
      refine ⟨n + 16, ?_, by omega, hu, ?_⟩
      · rw [w64 (x := (n : Int)) (by omega) (by omega), w64 (by omega) (by omega)]; congr 1; omega
      · rcases hl with hl | hl
        · omega
        · right; exact ⟨by omega, hl.2⟩
  · rw [if_neg c1]
    by_cases c2 : a ≥ 256
    · rw [if_pos c2, if_pos (by omega), if_pos (by omega)]
      obtain ⟨n, e, hn, hu, hl⟩ := len_part (a := a) (x := a / 256 % 256) (j := 8) (by omega) (by omega) (by omega) (by omega)
      rw [e]
      refine ⟨n + 8, ?_, by omega, hu, ?_⟩
      · rw [w64 (x := (n : Int)) (by omega) (by omega), w64 (by omega) (by omega)]; congr 1; omega
      · rcases hl with hl | hl
        · omega
        · right; exact ⟨by omega, hl.2⟩
    · rw [if_neg c2, if_pos (by omega), if_pos (by omega)]
      obtain ⟨n, e, hn, hu, hl⟩ := len_part (a := a) (x := a % 256) (j := 0) (by omega) (by omega) (by omega) (by omega)
      rw [e]
      refine ⟨n, ?_, by omega, hu, ?_⟩
      · rw [w64 (x := (n : Int)) (by omega) (by omega), w64 (by omega) (by omega)]; congr 1; omega
      · rcases hl with hl | hl
        · left; omega
        · right; exact hl
theorem Lead_eq (a : Int) (h0 : 0 < a) (h1 : a < 4294967296) : ∃ s : Nat, bits_LeadingZeros32.f a = some (s : Int) ∧ s < 32 ∧ 2147483648 ≤ a * 2 ^ s ∧ a * 2 ^ s < 4294967296 := by
  obtain ⟨n, e, hn, hu, hl⟩ := Len32_eq a (by omega) h1
  rcases hl with hl | ⟨h2, hl⟩
  · omega
  · refine ⟨32 - n, ?_, by omega, ?_, ?_⟩
    · unfold bits_LeadingZeros32.f
      rw [e]
      simp only [Option.bind_some]
      rw [w64 (by omega) (by omega)]; congr 1; omega
    · have : (2 : Int) ^ (n - 1) * 2 ^ (32 - n) ≤ a * 2 ^ (32 - n) := Int.mul_le_mul_of_nonneg_right hl (Int.le_of_lt (Int.pow_pos (by decide)))
      rw [← Int.pow_add, show n - 1 + (32 - n) = 31 by omega] at this
      exact this
    · have : a * 2 ^ (32 - n) < (2 : Int) ^ n * 2 ^ (32 - n) := Int.mul_lt_mul_of_pos_right hu (Int.pow_pos (by decide))
      rw [← Int.pow_add, show n + (32 - n) = 32 by omega] at this
      exact this
theorem take_set_succ {xs : List Int} {i : Nat} {v : Int} (h : i < xs.length) : (xs.set i v).take (i + 1) = xs.take i ++ [v] := by
  rw [take_succ' _ _ (by simpa using h), List.take_set_of_le (by omega)]
  congr 2
  rw [List.getD_eq_getElem?_getD, List.getElem?_set_self h]; rfl
theorem drop_set_succ {xs : List Int} {i : Nat} {v : Int} : (xs.set i v).drop (i + 1) = xs.drop (i + 1) := by
  rw [List.drop_set_of_lt (by omega)]
theorem getD_set_self {xs : List Int} {i : Nat} {v : Int} (h : i < xs.length) : (xs.set i v).getD i 0 = v := by rw [List.getD_eq_getElem?_getD, List.getElem?_set_self h]; rfl
theorem getD_set_ne {xs : List Int} {i j : Nat} {v : Int} (h : i ≠ j) : (xs.set i v).getD j 0 = xs.getD j 0 := by rw [List.getD_eq_getElem?_getD, List.getElem?_set_ne h, List.getD_eq_getElem?_getD]
theorem pow_base {s : Nat} (h : s ≤ 32) : (2 : Int) ^ s * 2 ^ (32 - s) = 4294967296 := by
  rw [← Int.pow_add, show s + (32 - s) = 32 by omega]; rfl
theorem pow_lt_base {s : Nat} (h : s < 32) : (2 : Int) ^ s ≤ 2147483648 := by
  have := pow_mono' (B := 2) (by decide) (show s ≤ 31 by omega)
  exact this
theorem or_low {a c : Int} {s : Nat} (h : s < 32) (ha0 : 0 ≤ a) (ha : a < 4294967296) (hm : a % 2 ^ s = 0) (hc0 : 0 ≤ c) (hc : c < 2 ^ s) : Go.bits .or .u32 c a = c + a := by
  have hp := pow_lt_base h
  rw [u32_or _ _ hc0 (by omega) ha0 ha, Nat.or_comm, nat_join s]
  · omega
  · have : ((a.toNat % 2 ^ s : Nat) : Int) = 0 := by
      rw [Int.natCast_emod, Int.toNat_of_nonneg ha0, Int.natCast_pow]; exact hm
    omega
  · have : ((c.toNat : Nat) : Int) < ((2 ^ s : Nat) : Int) := by
      rw [Int.toNat_of_nonneg hc0, Int.natCast_pow]; exact hc
    omega
theorem shl64 {x : Int} {b : Nat} (hb : b < 32) (h0 : 0 ≤ x) (h1 : x < 4294967296) : shl .u64 (IntKind.u64.wrap x) (b : Int) = x * 2 ^ b ∧ 0 ≤ x * 2 ^ b ∧ x * 2 ^ b < 2 ^ b * 4294967296 := by
  have hp := pow_lt_base hb
  have hp0 : (0 : Int) < 2 ^ b := Int.pow_pos (by decide)
  have h2 : 0 ≤ x * 2 ^ b := Int.mul_nonneg h0 (by omega)
  have h3 : x * 2 ^ b < 4294967296 * 2 ^ b := Int.mul_lt_mul_of_pos_right h1 hp0
  rw [u64_id h0 (by omega)]
  unfold shl
  rw [Int.toNat_natCast, Nat.min_eq_left (by simp [IntKind.bits]; omega), u64_id h2 (by omega)]
  exact ⟨rfl, h2, by omega⟩
theorem shl_parts {x : Int} {b : Nat} (hb : b < 32) : (x * 2 ^ b) % 4294967296 % 2 ^ b = 0 ∧ (x * 2 ^ b) % 4294967296 + 2 ^ b ≤ 4294967296 := by
  have hp0 : (0 : Int) < 2 ^ b := Int.pow_pos (by decide)
  have hd : (2 : Int) ^ b ∣ 4294967296 := ⟨2 ^ (32 - b), (pow_base (by omega)).symm⟩
  have h1 : (x * 2 ^ b) % 4294967296 % 2 ^ b = 0 := by
    rw [Int.emod_emod_of_dvd _ hd, Int.mul_emod_left]
  refine ⟨h1, ?_⟩
  obtain ⟨c, hc⟩ := hd
  obtain ⟨e, he⟩ := Int.dvd_of_emod_eq_zero h1
  have hl : (x * 2 ^ b) % 4294967296 < 4294967296 := Int.emod_lt_of_pos _ (by decide)
  rw [he, hc] at *
  have : e < c := Int.lt_of_mul_lt_mul_left hl (by omega)
  have := Int.mul_le_mul_of_nonneg_left (show e + 1 ≤ c by omega) (Int.le_of_lt hp0)
  rw [Int.mul_add, Int.mul_one] at this
  exact this
theorem getD_zeros {out : List Int} {m j : Nat} (h : out.drop m = List.replicate (out.length - m) 0) (hj : m ≤ j) : out.getD j 0 = 0 := by
  have : (out.drop m).getD (j - m) 0 = 0 := by rw [h]; simp [List.getD_eq_getElem?_getD, List.getElem?_replicate]; split <;> rfl
  rw [List.getD_eq_getElem?_getD, List.getElem?_drop, show m + (j - m) = j by omega] at this
  rw [List.getD_eq_getElem?_getD]; exact this
theorem shl_step {x : Int} {b : Nat} (hb : b < 32) (h0 : 0 ≤ x) (h1 : x < 4294967296) : ∃ lo hi : Int, shl .u64 (IntKind.u64.wrap x) (b : Int) % 4294967296 = lo ∧ (shl .u64 (IntKind.u64.wrap x) (b : Int) / 4294967296) % 4294967296 = hi ∧ x * 2 ^ b = lo + 4294967296 * hi ∧ 0 ≤ lo ∧ 0 ≤ hi ∧ hi < 2 ^ b ∧ hi < 4294967296 ∧
    (∀ c : Int, 0 ≤ c → c < 2 ^ b → Go.bits .or .u32 c lo = c + lo ∧ c + lo < 4294967296) ∧ Go.bits .or .u32 0 hi = hi := by
  obtain ⟨s1, s2, s3⟩ := shl64 hb h0 h1
  obtain ⟨p1, p2⟩ := shl_parts (x := x) hb
  have hp := pow_lt_base hb
  have hp0 : (0 : Int) < 2 ^ b := Int.pow_pos (by decide)
  have hlo : 0 ≤ x * 2 ^ b % 4294967296 := Int.emod_nonneg _ (by decide)
  have hlo1 : x * 2 ^ b % 4294967296 < 4294967296 := Int.emod_lt_of_pos _ (by decide)
  have hhi0 : 0 ≤ x * 2 ^ b / 4294967296 := Int.ediv_nonneg s2 (by decide)
  have hhi : x * 2 ^ b / 4294967296 < 2 ^ b := Int.ediv_lt_of_lt_mul (by decide) s3
  have hdm := Int.mul_ediv_add_emod (x * 2 ^ b) 4294967296
  have hhi1 : x * 2 ^ b / 4294967296 < 4294967296 := Int.lt_trans hhi (Int.lt_of_le_of_lt hp (by decide))
  have hc2 : ∀ c : Int, 0 ≤ c → c < 2 ^ b → Go.bits .or .u32 c (x * 2 ^ b % 4294967296) = c + x * 2 ^ b % 4294967296 := fun c hc0 hc => or_low hb hlo hlo1 p1 hc0 hc
  clear p1 s2 s3 h0 h1
  rw [s1, Int.emod_eq_of_lt hhi0 hhi1]
  clear s1
  generalize x * 2 ^ b % 4294967296 = lo at *
  generalize x * 2 ^ b / 4294967296 = hi at *
  refine ⟨lo, hi, rfl, rfl, by rw [← hdm, Int.add_comm], hlo, hhi0, hhi, hhi1, fun c hc0 hc => ⟨hc2 c hc0 hc, by omega⟩, ?_⟩
  rw [u32_or _ _ (by decide) (by decide) hhi0 hhi1]
  simp only [Int.toNat_zero, Nat.zero_or]
  rw [Int.toNat_of_nonneg hhi0]
theorem getD_replicate (n i : Nat) : (List.replicate n (0 : Int)).getD i 0 = 0 := by
  rw [List.getD_eq_getElem?_getD, List.getElem?_replicate]; split <;> rfl
theorem shl_loop (xs : List Int) (w b : Nat) (hx : Lim 4294967296 xs) (hb : b < 32) (hL : xs.length + w ≤ 549755813888) : ∀ (d i : Nat) (out : List Int), d = xs.length - i → i ≤ xs.length → out.length = xs.length + w + 1 → Lim 4294967296 out →
    val 4294967296 out = 4294967296 ^ w * 2 ^ b * val 4294967296 (xs.take i) → out.drop (i + w + 1) = List.replicate (out.length - (i + w + 1)) 0 → out.getD (i + w) 0 < 2 ^ b →
    ∃ r, Ev (fun k => nat_Shl.l0 k (((32 * w + b : Nat)) : Int) out xs (xs.length : Int) (i : Int)) (trim r) ∧ r.length = xs.length + w + 1 ∧ Lim 4294967296 r ∧ val 4294967296 r = 4294967296 ^ w * 2 ^ b * val 4294967296 xs := by
  have hB : (0 : Int) < 4294967296 := by decide
  have e1 : ∀ _ : Unit, Int.tmod ((32 * w + b : Nat) : Int) 32 = b := fun _ => by rw [Int.tmod_eq_emod_of_nonneg (by omega)]; omega
  have e2 : ∀ _ : Unit, wrap64 (Int.tdiv ((32 * w + b : Nat) : Int) 32) = w := fun _ => by rw [Int.tdiv_eq_ediv_of_nonneg (by omega), w64 (by omega) (by omega)]; omega
  intro d
  induction d with
  | zero =>
    intro i out hd hi hlen ho hv hz ht
    have hii : i = xs.length := by omega
    subst hii
    refine ⟨out, ?_, hlen, ho, by rw [hv, List.take_of_length_le (Nat.le_refl _)]⟩
    refine Ev.step (f := fun k => (nat_Trim.f k out).bind fun t => some t) (fun k => ?_) ?_
    · simp only [nat_Shl.l0]; rw [if_neg (by omega)]
    · exact Ev.bind (f := fun _ t => some t) (Trim_ev out (by omega)) (Ev.now _)
  | succ d ih =>
    intro i out hd hi hlen ho hv hz ht
    have g1 : (i : Int) < (xs.length : Int) := by omega
    have g2 : (0 : Int) ≤ (i : Int) := by omega
    have g3 : (0 : Int) ≤ ((i + w : Nat) : Int) := by omega
    have g4 : ((i + w : Nat) : Int) < (out.length : Int) := by omega
    have g5 : (0 : Int) ≤ ((i + w + 1 : Nat) : Int) := by omega
    have g6 : ((i + w + 1 : Nat) : Int) < (out.length : Int) := by omega
    have g7 : ∀ _ : Unit, wrap64 ((i : Int) + 1) = ((i + 1 : Nat) : Int) := fun _ => by rw [w64 (by omega) (by omega)]; omega
    have g8 : (0 : Int) ≤ (b : Int) := by omega
    have g9 : i + w + 1 < out.length := by omega
    have g10 : i + w < out.length := by omega
    have g11 : i < xs.length := by omega
    have g12 : d = xs.length - (i + 1) := by omega
    have f1 : ∀ _ : Unit, wrap64 ((i : Int) + (w : Int)) = ((i + w : Nat) : Int) := fun _ => by rw [w64 (by omega) (by omega)]; omega
    have f2 : ∀ _ : Unit, wrap64 (((i + w : Nat) : Int) + 1) = ((i + w + 1 : Nat) : Int) := fun _ => by rw [w64 (by omega) (by omega)]; omega
    have hz1 : out.getD (i + w + 1) 0 = 0 := getD_zeros hz (by omega)
    have hxi := hx.rd hB (i : Int)
    have hxg : rd xs (i : Int) = xs.getD i 0 := rd_getD xs i
    generalize hy : rd xs (i : Int) = x at hxi hxg
    have hc := ho.getD hB (i + w)
    obtain ⟨lo, hi', s1, s2, s3, hlo, hhi0, hhi, hhi1, hor, hor0⟩ := shl_step hb hxi.1 hxi.2
    have hor2 := (hor _ hc.1 ht).2
    have hor1 := (hor _ hc.1 ht).1
    clear hor
    have hval : val 4294967296 ((out.set (i + w) (out.getD (i + w) 0 + lo)).set (i + w + 1) hi') = 4294967296 ^ w * 2 ^ b * val 4294967296 (xs.take (i + 1)) := by
      rw [val_set _ _ _ _ (by rw [List.length_set]; exact g9), val_set _ _ _ _ g10, hv, getD_set_ne (Nat.ne_of_lt (Nat.lt_succ_self _)), hz1, val_take_succ _ _ _ g11, ← hxg, Int.pow_succ, Int.pow_add]
      clear hv ht hc hhi hhi1 hhi0 hlo hor2 hor1 hor0 s1 s2 ih hz hx ho hy hxi
      grind
    obtain ⟨r, hev, hrl, hrL, hrv⟩ := ih (i + 1) ((out.set (i + w) (out.getD (i + w) 0 + lo)).set (i + w + 1) hi') g12 g11 (by simp [hlen])
      ((ho.set _ ⟨Int.add_nonneg hc.1 hlo, hor2⟩).set _ ⟨hhi0, hhi1⟩) hval (by
        rw [List.length_set, List.length_set, show i + 1 + w + 1 = (i + w + 1) + 1 from by rw [Nat.add_right_comm i 1 w], List.drop_set_of_lt (Nat.lt_succ_self _), List.drop_set_of_lt (Nat.lt_succ_of_lt (Nat.lt_succ_self _)), show List.drop (i + w + 1 + 1) out = (out.drop (i + w + 1)).drop 1 by rw [List.drop_drop], hz, List.drop_replicate]
        rfl) (by
        rw [show i + 1 + w = i + w + 1 from Nat.add_right_comm i 1 w, getD_set_self (by rw [List.length_set]; exact g9)]; exact hhi)
    refine ⟨r, ?_, hrl, hrL, hrv⟩
    refine Ev.step (f := fun k => nat_Shl.l0 k (((32 * w + b : Nat)) : Int) ((out.set (i + w) (out.getD (i + w) 0 + lo)).set (i + w + 1) hi') xs (xs.length : Int) ((i + 1 : Nat) : Int)) (fun k => ?_) hev
    simp only [nat_Shl.l0]
    rw [if_pos g1, if_pos g2, if_pos g1, e1 (), e2 (), if_pos g8, f1 (), if_pos g3, if_pos g4, f2 (), hy, s1, s2, rd_getD, hor1, Option.bind_some, if_pos g5, if_pos g6, rd_getD, Int.toNat_natCast, getD_set_ne (Nat.ne_of_lt (Nat.lt_succ_self _)), Int.toNat_natCast, hz1, hor0, g7 ()]
theorem Shl_ev (xs : List Int) (n : Nat) (hx : Lim 4294967296 xs) (hL : xs.length + n / 32 ≤ 549755813888) :
    ∃ r, Ev (fun k => nat_Shl.f k xs (n : Int)) r ∧ Lim 4294967296 r ∧ Nrm r ∧ val 4294967296 r = val 4294967296 xs * 2 ^ n ∧ r.length ≤ xs.length + n / 32 + 1 := by
  have hB : (0 : Int) < 4294967296 := by decide
  cases xs with
  | nil => exact ⟨[], Ev.const (by rfl), lim_nil _, nrm_nil, by simp [val], by simp⟩
  | cons x xs =>
    obtain ⟨r, h1, h2, h3, h4⟩ := shl_loop (x :: xs) (n / 32) (n % 32) hx (by omega) hL (x :: xs).length 0 (List.replicate ((x :: xs).length + n / 32 + 1) 0) (by omega) (by omega) (by simp) (lim_replicate hB _)
      (by rw [val_replicate, List.take_zero]; simp [val]) (by rw [List.drop_replicate, List.length_replicate]) (by
        have : (0 : Int) < 2 ^ (n % 32) := Int.pow_pos (by decide)
        rw [getD_replicate]; exact this)
    refine ⟨trim r, ?_, lim_trim h3, nrm_trim _, ?_, Nat.le_trans (length_trim _) (by omega)⟩
    · refine Ev.congr (fun k => ?_) h1
      unfold nat_Shl.f
      have e : wrap64 (wrap64 (((x :: xs).length : Int) + wrap64 (Int.tdiv (n : Int) 32)) + 1) = (((x :: xs).length + n / 32 + 1 : Nat) : Int) := by
        rw [Int.tdiv_eq_ediv_of_nonneg (by omega), w64 (x := (n : Int) / 32) (by omega) (by omega), w64 (x := ((x :: xs).length : Int) + (n : Int) / 32) (by omega) (by omega), w64 (by omega) (by omega)]
        omega
      rw [if_neg (by simp; omega), e, if_pos (by omega), if_pos (by omega), Int.toNat_natCast, show 32 * (n / 32) + n % 32 = n by omega]
      rfl
    · rw [val_trim, h4, show (4294967296 : Int) = 2 ^ 32 from rfl, ← Int.pow_mul, ← Int.pow_add, show 32 * (n / 32) + n % 32 = n by omega, Int.mul_comm]
theorem shr_digit {B P P' D0 D1 t : Int} (hP : 0 < P) (hP' : 0 < P') (hB : P * P' = B) (h0 : 0 ≤ D0) (h1 : D0 < B) :
    ((D0 + B * D1) / P) % B + B * ((D1 + B * t) / P) = (D0 + B * (D1 + B * t)) / P := by
  have hB0 : 0 < B := by rw [← hB]; exact Int.mul_pos hP hP'
  have hq := Int.mul_ediv_add_emod (D1 + B * t) P
  have hr0 : 0 ≤ (D1 + B * t) % P := Int.emod_nonneg _ (by omega)
  have hr1 : (D1 + B * t) % P < P := Int.emod_lt_of_pos _ hP
  generalize (D1 + B * t) / P = q at *
  generalize (D1 + B * t) % P = r at *
  have e1 : D0 + B * (D1 + B * t) = (D0 + B * r) + P * (B * q) := by rw [← hq]; grind
  have e2 : D0 + B * D1 = (D0 + B * r) + P * (B * (q - P' * t)) := by
    have : D1 = P * q + r - B * t := by omega
    rw [this]; grind
  rw [e1, e2, Int.add_mul_ediv_left _ _ (by omega), Int.add_mul_ediv_left _ _ (by omega), Int.add_mul_emod_self_left]
  rw [Int.emod_eq_of_lt (Int.ediv_nonneg (Int.add_nonneg h0 (Int.mul_nonneg (by omega) hr0)) (by omega))]
  refine Int.ediv_lt_of_lt_mul hP ?_
  have : B * (r + 1) ≤ B * P := Int.mul_le_mul_of_nonneg_left (by omega) (by omega)
  rw [Int.mul_add, Int.mul_one] at this
  omega
theorem shr64 {x : Int} {b : Nat} (hb : b < 32) : shr .u64 x (b : Int) = x / 2 ^ b := by
  unfold shr
  rw [Int.toNat_natCast, Nat.min_eq_left (by simp [IntKind.bits]; omega)]
theorem shr_at {x y : Int} {b : Nat} (hb : b < 32) (hx0 : 0 ≤ x) (hx : x < 4294967296) (hy0 : 0 ≤ y) (hy : y < 4294967296) :
    shr .u64 (Go.bits .or .u64 (IntKind.u64.wrap x) (IntKind.u64.wrap ((IntKind.u64.wrap y) * 4294967296))) (b : Int) % 4294967296 = ((x + 4294967296 * y) / 2 ^ b) % 4294967296 := by
  rw [shr64 hb, u64_id hx0 (by omega), u64_id hy0 (by omega), u64_id (by omega) (by omega), bits_or_shift' hy0 hy hx0 hx, show y * 4294967296 + x = x + 4294967296 * y by omega]
theorem shr_loop (xs : List Int) (w b : Nat) (hx : Lim 4294967296 xs) (hb : b < 32) (hw : w ≤ xs.length) (hL : xs.length + w ≤ 549755813888) (ex : Bool) : ∀ (d i : Nat) (out : List Int), d + i = xs.length - w → out.length = xs.length - w → Lim 4294967296 out →
    val 4294967296 (out.take i) + 4294967296 ^ i * (val 4294967296 ((xs.drop w).drop i) / 2 ^ b) = val 4294967296 (xs.drop w) / 2 ^ b →
    ∃ r, Ev (fun k => nat_Shr.l0 k xs (((32 * w + b : Nat)) : Int) out ex (w : Int) (out.length : Int) (i : Int)) (trim r, ex) ∧ r.length = xs.length - w ∧ Lim 4294967296 r ∧ val 4294967296 r = val 4294967296 (xs.drop w) / 2 ^ b := by
  have hB : (0 : Int) < 4294967296 := by decide
  have e1 : ∀ _ : Unit, Int.tmod ((32 * w + b : Nat) : Int) 32 = b := fun _ => by rw [Int.tmod_eq_emod_of_nonneg (by omega)]; omega
  intro d
  induction d with
  | zero =>
    intro i out hd hlen ho hv
    refine ⟨out, ?_, hlen, ho, ?_⟩
    · refine Ev.step (f := fun k => (nat_Trim.f k out).bind fun t => some (t, ex)) (fun k => ?_) ?_
      · simp only [nat_Shr.l0]; rw [if_neg (by omega)]
      · exact Ev.bind (f := fun _ t => some (t, ex)) (Trim_ev out (by omega)) (Ev.now _)
    · rw [List.take_of_length_le (by omega), List.drop_of_length_le (by rw [List.length_drop]; omega)] at hv
      simp only [val, Int.zero_ediv, Int.mul_zero, Int.add_zero] at hv
      exact hv
  | succ d ih =>
    intro i out hd hlen ho hv
    have g1 : (i : Int) < (out.length : Int) := by omega
    have g2 : (0 : Int) ≤ (i : Int) := by omega
    have g3 : (0 : Int) ≤ ((i + w : Nat) : Int) := by omega
    have g4 : ((i + w : Nat) : Int) < (xs.length : Int) := by omega
    have g5 : (0 : Int) ≤ ((i + w + 1 : Nat) : Int) := by omega
    have g7 : ∀ _ : Unit, wrap64 ((i : Int) + 1) = ((i + 1 : Nat) : Int) := fun _ => by rw [w64 (by omega) (by omega)]; omega
    have g8 : (0 : Int) ≤ (b : Int) := by omega
    have g9 : i < out.length := by omega
    have g10 : i < (xs.drop w).length := by rw [List.length_drop]; omega
    have f1 : ∀ _ : Unit, wrap64 ((i : Int) + (w : Int)) = ((i + w : Nat) : Int) := fun _ => by rw [w64 (by omega) (by omega)]; omega
    have f2 : ∀ _ : Unit, wrap64 (((i + w : Nat) : Int) + 1) = ((i + w + 1 : Nat) : Int) := fun _ => by rw [w64 (by omega) (by omega)]; omega
    have hg : (xs.drop w).getD i 0 = rd xs ((i + w : Nat) : Int) := by rw [rd_getD, List.getD_eq_getElem?_getD, List.getElem?_drop, List.getD_eq_getElem?_getD, Nat.add_comm]
    have hxi := hx.rd hB ((i + w : Nat) : Int)
    have hyi := hx.rd hB ((i + w + 1 : Nat) : Int)
    have hP0 : (0 : Int) < 2 ^ b := Int.pow_pos (by decide)
    have hP1 : (0 : Int) < 2 ^ (32 - b) := Int.pow_pos (by decide)
    have hs : ∀ (D1 t : Int), val 4294967296 ((xs.drop w).drop (i + 1)) = D1 + 4294967296 * t →
        val 4294967296 ((out.set i (((rd xs ((i + w : Nat) : Int) + 4294967296 * D1) / 2 ^ b) % 4294967296)).take (i + 1)) + 4294967296 ^ (i + 1) * (val 4294967296 ((xs.drop w).drop (i + 1)) / 2 ^ b) = val 4294967296 (xs.drop w) / 2 ^ b := by
      intro D1 t h
      have hd := shr_digit (t := t) (D1 := D1) hP0 hP1 (pow_base (show b ≤ 32 by omega)) hxi.1 hxi.2
      rw [take_set_succ g9, val_snoc, List.length_take, Nat.min_eq_left (by omega), ← hv, val_drop _ _ i g10, h, hg, ← hd, Int.pow_succ]
      grind
    have hset : ∀ v : Int, Lim 4294967296 (out.set i (v % 4294967296)) := fun v => ho.set _ ⟨Int.emod_nonneg _ (by decide), Int.emod_lt_of_pos _ (by decide)⟩
    by_cases c : i + w + 1 < xs.length
    · obtain ⟨r, hev, hrl, hrL, hrv⟩ := ih (i + 1) (out.set i (((rd xs ((i + w : Nat) : Int) + 4294967296 * rd xs ((i + w + 1 : Nat) : Int)) / 2 ^ b) % 4294967296)) (by omega) (by rw [List.length_set]; exact hlen) (hset _)
        (hs _ (val 4294967296 ((xs.drop w).drop (i + 2))) (by
          rw [val_drop _ _ (i + 1) (by rw [List.length_drop]; omega), rd_getD, List.getD_eq_getElem?_getD, List.getElem?_drop, List.getD_eq_getElem?_getD, show w + (i + 1) = i + w + 1 by omega]))
      refine ⟨r, ?_, hrl, hrL, hrv⟩
      rw [List.length_set] at hev
      refine Ev.step (f := fun k => nat_Shr.l0 k xs (((32 * w + b : Nat)) : Int) (out.set i (((rd xs ((i + w : Nat) : Int) + 4294967296 * rd xs ((i + w + 1 : Nat) : Int)) / 2 ^ b) % 4294967296)) ex (w : Int) (out.length : Int) ((i + 1 : Nat) : Int)) (fun k => ?_) hev
      simp only [nat_Shr.l0]
      have c' : ((i + w + 1 : Nat) : Int) < (xs.length : Int) := by omega
      rw [if_pos g1, f1 (), if_pos g3, if_pos g4, f2 (), if_pos c', if_pos g5, e1 (), if_pos g8, if_pos g2, if_pos g1, shr_at hb hxi.1 hxi.2 hyi.1 hyi.2, g7 (), Int.toNat_natCast]
    · obtain ⟨r, hev, hrl, hrL, hrv⟩ := ih (i + 1) (out.set i (((rd xs ((i + w : Nat) : Int) + 4294967296 * 0) / 2 ^ b) % 4294967296)) (by omega) (by rw [List.length_set]; exact hlen) (hset _)
        (hs 0 0 (by rw [List.drop_of_length_le (by rw [List.length_drop]; omega)]; rfl))
      refine ⟨r, ?_, hrl, hrL, hrv⟩
      rw [List.length_set, Int.mul_zero, Int.add_zero] at hev
      refine Ev.step (f := fun k => nat_Shr.l0 k xs (((32 * w + b : Nat)) : Int) (out.set i ((rd xs ((i + w : Nat) : Int) / 2 ^ b) % 4294967296)) ex (w : Int) (out.length : Int) ((i + 1 : Nat) : Int)) (fun k => ?_) hev
      simp only [nat_Shr.l0]
      have c' : ¬ ((i + w + 1 : Nat) : Int) < (xs.length : Int) := by omega
      rw [if_pos g1, f1 (), if_pos g3, if_pos g4, f2 (), if_neg c', e1 (), if_pos g8, if_pos g2, if_pos g1, u64_id hxi.1 (by omega), shr64 hb, g7 (), Int.toNat_natCast]
theorem and_low {x : Int} {b : Nat} (hb : b < 32) (h0 : 0 ≤ x) (h1 : x < 4294967296) : Go.bits .and .u32 x (((shl .u32 1 (b : Int)) - 1) % 4294967296) = x % 2 ^ b := by
  have hp := pow_lt_base hb
  have hp0 : (0 : Int) < 2 ^ b := Int.pow_pos (by decide)
  have e : shl .u32 1 (b : Int) = 2 ^ b := by
    unfold shl
    rw [Int.toNat_natCast, Nat.min_eq_left (by simp [IntKind.bits]; omega), Int.one_mul]
    simp [IntKind.wrap, IntKind.bits, IntKind.signed]
    exact Int.emod_eq_of_lt (by omega) (by omega)
  rw [e, Int.emod_eq_of_lt (by omega) (by omega), u32_and _ _ h0 h1 (by omega) (by omega)]
  have e2 : ((2 : Int) ^ b - 1).toNat = 2 ^ b - 1 := by
    have : ((2 ^ b : Nat) : Int) = (2 : Int) ^ b := by rw [Int.natCast_pow]; rfl
    omega
  rw [e2, Nat.and_two_pow_sub_one_eq_mod, Int.natCast_emod, Int.toNat_of_nonneg h0, Int.natCast_pow]; rfl
theorem Shr_ev (xs : List Int) (n : Nat) (hx : Lim 4294967296 xs) (hn : Nrm xs) (hL : xs.length ≤ 274877906944) (hn2 : n / 32 ≤ 274877906944) :
    ∃ r, Ev (fun k => nat_Shr.f k xs (n : Int)) (r, decide (val 4294967296 xs % 2 ^ n = 0)) ∧ Lim 4294967296 r ∧ Nrm r ∧ val 4294967296 r = val 4294967296 xs / 2 ^ n ∧ r.length ≤ xs.length := by
  have hB : (0 : Int) < 4294967296 := by decide
  have e0 : (2 : Int) ^ n = 4294967296 ^ (n / 32) * 2 ^ (n % 32) := by
    rw [show (4294967296 : Int) = 2 ^ 32 from rfl, ← Int.pow_mul, ← Int.pow_add, show 32 * (n / 32) + n % 32 = n by omega]
  have hP0 : (0 : Int) < 2 ^ (n % 32) := Int.pow_pos (by decide)
  have hW0 : (0 : Int) < 4294967296 ^ (n / 32) := Int.pow_pos (by decide)
  have e2 : ∀ _ : Unit, wrap64 (Int.tdiv (n : Int) 32) = ((n / 32 : Nat) : Int) := fun _ => by rw [Int.tdiv_eq_ediv_of_nonneg (by omega), w64 (by omega) (by omega)]; omega
  have en : n = 32 * (n / 32) + n % 32 := by omega
  have e1 : ∀ _ : Unit, Int.tmod (n : Int) 32 = ((n % 32 : Nat) : Int) := fun _ => by rw [Int.tmod_eq_emod_of_nonneg (by omega)]; omega
  have hb : n % 32 < 32 := by omega
  generalize hw : n / 32 = w at *
  generalize hbb : n % 32 = b at *
  by_cases c : w ≥ xs.length
  · have hv := val_lt hB hx
    have hv0 := val_nonneg hB hx
    have hm := pow_mono' hB c
    have hlt : val 4294967296 xs < 4294967296 ^ w * 2 ^ b := by
      have : 4294967296 ^ w * 1 ≤ (4294967296 : Int) ^ w * 2 ^ b := Int.mul_le_mul_of_nonneg_left (by omega) (by omega)
      omega
    refine ⟨[], ⟨0, fun k _ => ?_⟩, lim_nil _, nrm_nil, ?_, by simp⟩
    · simp only [nat_Shr.f]
      rw [e2 (), if_pos (by omega)]
      rw [e0, Int.emod_eq_of_lt hv0 hlt]
      have h8 : ((xs.length : Int) == 0) = decide (val 4294967296 xs = 0) := by
        have h9 := val_eq_zero hB hx hn
        by_cases h7 : xs = []
        · rw [decide_eq_true (h9.2 h7), h7]; rfl
        · rw [decide_eq_false (fun h => h7 (h9.1 h)), beq_eq_false_iff_ne]
          intro h; exact h7 (List.length_eq_zero_iff.1 (by omega))
      rw [h8]
    · rw [e0, Int.ediv_eq_zero_of_lt hv0 hlt]; rfl
  · have c1 : w < xs.length := by omega
    have hs := val_split 4294967296 xs w (by omega)
    have ht0 := val_nonneg hB (hx.take w)
    have ht1 := val_lt hB (hx.take w)
    rw [List.length_take, Nat.min_eq_left (by omega)] at ht1
    have hd0 := val_nonneg hB (hx.drop w)
    have hdiv : val 4294967296 xs / 2 ^ n = val 4294967296 (xs.drop w) / 2 ^ b := by
      rw [e0, ← Int.ediv_ediv_of_nonneg (by omega), hs, Int.add_mul_ediv_left _ _ (by omega), Int.ediv_eq_zero_of_lt ht0 ht1, Int.zero_add]
    have hmod : (val 4294967296 xs % 2 ^ n = 0) ↔ (val 4294967296 (xs.take w) = 0 ∧ val 4294967296 (xs.drop w) % 2 ^ b = 0) := by
      have hdm := Int.mul_ediv_add_emod (val 4294967296 (xs.drop w)) (2 ^ b)
      have hr0 : 0 ≤ val 4294967296 (xs.drop w) % 2 ^ b := Int.emod_nonneg _ (by omega)
      have hr1 : val 4294967296 (xs.drop w) % 2 ^ b < 2 ^ b := Int.emod_lt_of_pos _ hP0
      have h1 : val 4294967296 xs % 2 ^ n = val 4294967296 (xs.take w) + 4294967296 ^ w * (val 4294967296 (xs.drop w) % 2 ^ b) := by
        rw [e0, hs, ← hdm]
        generalize val 4294967296 (xs.drop w) / 2 ^ b = q at *
        generalize val 4294967296 (xs.drop w) % 2 ^ b = r at *
        rw [show val 4294967296 (xs.take w) + 4294967296 ^ w * (2 ^ b * q + r) = (val 4294967296 (xs.take w) + 4294967296 ^ w * r) + (4294967296 ^ w * 2 ^ b) * q by grind, Int.add_mul_emod_self_left]
        have h3 : 4294967296 ^ w * (r + 1) ≤ 4294967296 ^ w * 2 ^ b := Int.mul_le_mul_of_nonneg_left (by omega) (by omega)
        rw [Int.mul_add, Int.mul_one] at h3
        rw [show (2 ^ b * q + r) % 2 ^ b = r by rw [Int.add_comm, Int.add_mul_emod_self_left]; exact Int.emod_eq_of_lt hr0 hr1]
        exact Int.emod_eq_of_lt (Int.add_nonneg ht0 (Int.mul_nonneg (by omega) hr0)) (by omega)
      rw [h1]
      generalize val 4294967296 (xs.drop w) % 2 ^ b = r at *
      have h4 : 0 ≤ 4294967296 ^ w * r := Int.mul_nonneg (by omega) hr0
      constructor
      · intro h
        have h5 : 4294967296 ^ w * r = 0 := by omega
        rcases Int.mul_eq_zero.1 h5 with h6 | h6
        · omega
        · exact ⟨by omega, h6⟩
      · rintro ⟨h5, h6⟩
        rw [h5, h6]; simp
    have hl : ∀ ex : Bool, ∃ r, Ev (fun k => nat_Shr.j0 k xs (n : Int) ex (w : Int)) (trim r, ex) ∧ r.length = xs.length - w ∧ Lim 4294967296 r ∧ val 4294967296 r = val 4294967296 (xs.drop w) / 2 ^ b := by
      intro ex
      obtain ⟨r, h1, h2, h3, h4⟩ := shr_loop xs w b hx hb (by omega) (by omega) ex (xs.length - w) 0 (List.replicate (xs.length - w) 0) (by omega) (by simp) (lim_replicate hB _) (by simp [val])
      refine ⟨r, ?_, h2, h3, h4⟩
      rw [← en] at h1
      refine Ev.step (fun k => ?_) h1
      have e3 : wrap64 ((xs.length : Int) - (w : Int)) = ((xs.length - w : Nat) : Int) := by rw [w64 (by omega) (by omega)]; omega
      simp only [nat_Shr.j0]
      rw [e3, if_pos (by omega), Int.toNat_natCast, if_pos (by omega), Option.bind_some]
      rfl
    have hlow : val 4294967296 (xs.drop w) % 2 ^ b = rd xs (w : Int) % 2 ^ b := by
      rw [val_drop _ xs w c1, rd_getD]
      have : (4294967296 : Int) * val 4294967296 (xs.drop (w + 1)) = 2 ^ b * (2 ^ (32 - b) * val 4294967296 (xs.drop (w + 1))) := by rw [← pow_base (show b ≤ 32 by omega)]; grind
      rw [this, Int.add_mul_emod_self_left]
    obtain ⟨r, h1, h2, h3, h4⟩ := hl (decide (val 4294967296 xs % 2 ^ n = 0))
    refine ⟨trim r, ?_, lim_trim h3, nrm_trim _, by rw [val_trim, h4, hdiv], Nat.le_trans (length_trim _) (by omega)⟩
    have hcl : ∀ k, nat_Shr.f k xs (n : Int) = (nat_Trim.f k (xs.take w)).bind fun t143 => (if (t143.length : Int) = 0 then nat_Shr.j0 k xs (n : Int) (rd xs (w : Int) % 2 ^ b == 0) (w : Int) else nat_Shr.j0 k xs (n : Int) false (w : Int)) := by
      intro k
      have hxi := hx.rd hB (w : Int)
      simp only [nat_Shr.f, slices_Clone_uint32_uint32.f]
      rw [e2 (), e1 (), if_neg (by omega), if_pos (by omega), if_pos (by omega), Int.toNat_natCast, if_pos (by rw [List.length_take]; omega), Option.bind_some, if_pos (by omega), if_pos (by omega), and_low hb hxi.1 hxi.2]
    refine Ev.congr hcl (Ev.bind (f := fun k t143 => (if (List.length t143 : Int) = 0 then nat_Shr.j0 k xs (n : Int) (rd xs (w : Int) % 2 ^ b == 0) (w : Int) else nat_Shr.j0 k xs (n : Int) false (w : Int))) (Trim_ev (xs.take w) (by rw [List.length_take]; omega)) ?_)
    have hz : val 4294967296 (xs.take w) = 0 ↔ trim (xs.take w) = [] := by
      rw [← val_trim]; exact val_eq_zero hB (lim_trim (hx.take w)) (nrm_trim _)
    by_cases c2 : trim (xs.take w) = []
    · have : decide (val 4294967296 xs % 2 ^ n = 0) = (rd xs (w : Int) % 2 ^ b == 0) := by
        have h8 : (val 4294967296 xs % 2 ^ n = 0) ↔ (rd xs (w : Int) % 2 ^ b = 0) := by rw [hmod, hlow]; exact ⟨fun h => h.2, fun h => ⟨hz.2 c2, h⟩⟩
        by_cases h7 : rd xs (w : Int) % 2 ^ b = 0
        · rw [decide_eq_true (h8.2 h7), h7]; rfl
        · rw [decide_eq_false (fun h => h7 (h8.1 h)), eq_comm, beq_eq_false_iff_ne]; exact h7
      rw [this] at h1
      simp only [c2, List.length_nil, Int.natCast_zero, if_true]
      rw [this]
      exact h1
    · have : decide (val 4294967296 xs % 2 ^ n = 0) = false := by
        rw [decide_eq_false_iff_not, hmod]
        intro h
        exact c2 (hz.1 h.1)
      rw [this] at h1
      have h0 : ¬ ((trim (xs.take w)).length : Int) = 0 := by
        intro h
        exact c2 (List.length_eq_zero_iff.1 (by omega))
      simp only [if_neg h0]
      rw [this]
      exact h1
theorem knuth_ge {B q V U v12 top3 Pm Vl Ul : Int} (hV : V = v12 * Pm + Vl) (hVl : 0 ≤ Vl) (hU : U = top3 * Pm + Ul) (hUl : Ul < Pm) (hP : 0 < Pm) (hq : q * V ≤ U) (hq0 : 0 ≤ q) : q * v12 ≤ top3 := by
  have h1 : q * v12 * Pm ≤ U := by
    have : 0 ≤ q * Vl := Int.mul_nonneg hq0 hVl
    subst hV; grind
  have h2 : q * v12 * Pm < (top3 + 1) * Pm := by grind
  have := Int.lt_of_mul_lt_mul_right h2 (by omega)
  omega
theorem knuth_le {B g V U v12 top3 Pm Vl Ul q : Int} (hV : V = v12 * Pm + Vl) (hVl : Vl < Pm) (hU : U = top3 * Pm + Ul) (hUl : 0 ≤ Ul) (hP : 0 < Pm) (hg0 : 0 ≤ g) (hg : g < B) (h : g * v12 ≤ top3) (hBV : B * Pm ≤ V) (hq : U < (q + 1) * V) (hV0 : 0 < V) : g ≤ q + 1 := by
  have h1 : g * v12 * Pm ≤ top3 * Pm := Int.mul_le_mul_of_nonneg_right h (by omega)
  have h2 : g * Vl ≤ g * Pm := Int.mul_le_mul_of_nonneg_left (by omega) hg0
  have h3 : g * Pm < B * Pm := Int.mul_lt_mul_of_pos_right hg hP
  have h4 : (g - 1) * V < (q + 1) * V := by subst hV; grind
  have := Int.lt_of_mul_lt_mul_right h4 (by omega)
  omega
theorem sub_step {a lo w : Int} (ha0 : 0 ≤ a) (ha : a < 4294967296) (hl0 : 0 ≤ lo) (hl : lo < 4294967296) (hw0 : 0 ≤ w) (hw : w ≤ 1) :
    ∃ d b' : Int, IntKind.u64.wrap (IntKind.u64.wrap (IntKind.u64.wrap a - lo) - w) % 4294967296 = d ∧ Go.bits .and .u64 (IntKind.u64.wrap (IntKind.u64.wrap (IntKind.u64.wrap a - lo) - w) / 4294967296) 1 = b' ∧ 0 ≤ d ∧ d < 4294967296 ∧ 0 ≤ b' ∧ b' ≤ 1 ∧ d - 4294967296 * b' = a - lo - w := by
  rw [u64_id ha0 (by omega), u64w, u64w]
  by_cases h : a - lo - w < 0
  · have e : ((a - lo) % 18446744073709551616 - w) % 18446744073709551616 = a - lo - w + 18446744073709551616 := by omega
    rw [e, bits_and_one (by omega) (by omega)]
    exact ⟨_, _, rfl, rfl, by omega, by omega, by omega, by omega, by omega⟩
  · have e : ((a - lo) % 18446744073709551616 - w) % 18446744073709551616 = a - lo - w := by omega
    rw [e, bits_and_one (by omega) (by omega)]
    exact ⟨_, _, rfl, rfl, by omega, by omega, by omega, by omega, by omega⟩
theorem mul_lim {g b : Int} (hg0 : 0 ≤ g) (hg : g < 4294967296) (hb0 : 0 ≤ b) (hb : b < 4294967296) : 0 ≤ g * b ∧ g * b ≤ 18446744065119617025 := by
  refine ⟨Int.mul_nonneg hg0 hb0, ?_⟩
  have h1 : g * b ≤ g * 4294967295 := Int.mul_le_mul_of_nonneg_left (by omega) hg0
  omega
theorem mul_step {c g b : Int} (hc0 : 0 ≤ c) (hc : c < 4294967296) (hg0 : 0 ≤ g) (hg : g < 4294967296) (hb0 : 0 ≤ b) (hb : b < 4294967296) :
    ∃ lo c' : Int, IntKind.u64.wrap (c + IntKind.u64.wrap (g * IntKind.u64.wrap b)) % 4294967296 = lo ∧ IntKind.u64.wrap (c + IntKind.u64.wrap (g * IntKind.u64.wrap b)) / 4294967296 = c' ∧ 0 ≤ lo ∧ lo < 4294967296 ∧ 0 ≤ c' ∧ c' < 4294967296 ∧ c + g * b = lo + 4294967296 * c' := by
  obtain ⟨h1, h2⟩ := mul_lim hg0 hg hb0 hb
  rw [u64_id hb0 (by omega), u64_id (x := g * b) h1 (by omega), u64_id (by omega) (by omega)]
  generalize g * b = p at *
  exact ⟨_, _, rfl, rfl, by omega, by omega, by omega, by omega, by omega⟩
theorem add_step {c a b : Int} (hc0 : 0 ≤ c) (hc : c ≤ 1) (ha0 : 0 ≤ a) (ha : a < 4294967296) (hb0 : 0 ≤ b) (hb : b < 4294967296) :
    ∃ lo c' : Int, IntKind.u64.wrap (c + IntKind.u64.wrap (IntKind.u64.wrap a + IntKind.u64.wrap b)) % 4294967296 = lo ∧ IntKind.u64.wrap (c + IntKind.u64.wrap (IntKind.u64.wrap a + IntKind.u64.wrap b)) / 4294967296 = c' ∧ 0 ≤ lo ∧ lo < 4294967296 ∧ 0 ≤ c' ∧ c' ≤ 1 ∧ c + a + b = lo + 4294967296 * c' := by
  rw [u64_id ha0 (by omega), u64_id hb0 (by omega), u64_id (x := a + b) (by omega) (by omega), u64_id (by omega) (by omega)]
  exact ⟨_, _, rfl, rfl, by omega, by omega, by omega, by omega, by omega⟩
theorem digit_l2 (v : List Int) (g : Int) (hv : Lim 4294967296 v) (hL : v.length ≤ 549755813888) : ∀ (d i : Nat) (u0 u : List Int) (c : Int), d + i = v.length → u.length = v.length + 1 → Lim 4294967296 u → 0 ≤ c → c ≤ 1 →
    val 4294967296 (u.take i) + 4294967296 ^ i * c = val 4294967296 (u0.take i) + val 4294967296 (v.take i) → u.drop i = u0.drop i → u0.length = v.length + 1 →
    ∃ r, Ev (fun k => nat_digit.l2 k u v (v.length : Int) g c (v.length : Int) (i : Int)) (IntKind.u64.wrap (g - 1) % 4294967296, r) ∧ Lim 4294967296 r ∧ r.length = v.length + 1 ∧ ∃ z : Int, val 4294967296 r = val 4294967296 u0 + val 4294967296 v - 4294967296 ^ (v.length + 1) * z := by
  have hB : (0 : Int) < 4294967296 := by decide
  intro d
  induction d with
  | zero =>
    intro i u0 u c hd hl hu hc0 hc hval hdr hl0
    have hi : i = v.length := by omega
    subst hi
    have hxi := hu.rd hB (v.length : Int)
    have hx0 : rd u (v.length : Int) = u.getD v.length 0 := rd_getD u _
    have hx1 : u0.getD v.length 0 = u.getD v.length 0 := by
      have h1 : (u.drop v.length).getD 0 0 = (u0.drop v.length).getD 0 0 := by rw [hdr]
      rw [List.getD_eq_getElem?_getD, List.getElem?_drop, List.getD_eq_getElem?_getD, List.getElem?_drop] at h1
      rw [List.getD_eq_getElem?_getD, List.getD_eq_getElem?_getD]; exact h1.symm
    refine ⟨u.set v.length ((rd u (v.length : Int) + c) % 4294967296), Ev.step (f := fun _ => some (IntKind.u64.wrap (g - 1) % 4294967296, u.set v.length ((rd u (v.length : Int) + c) % 4294967296))) (fun k => ?_) (Ev.now _), hu.set _ ⟨Int.emod_nonneg _ (by decide), Int.emod_lt_of_pos _ hB⟩, by rw [List.length_set, hl], (rd u (v.length : Int) + c) / 4294967296, ?_⟩
    · simp only [nat_digit.l2]
      rw [if_neg (by omega), if_pos (by omega), if_pos (by omega), Int.emod_eq_of_lt hc0 (by omega : c < 4294967296), Int.toNat_natCast]
    · have hs1 := val_take_succ 4294967296 u v.length (by omega)
      have hs0 := val_take_succ 4294967296 u0 v.length (by omega)
      rw [List.take_of_length_le (by omega)] at hs1 hs0
      rw [List.take_of_length_le (Nat.le_refl _)] at hval
      rw [val_set _ _ _ _ (by omega), hs0, hx1]
      have hdm := Int.mul_ediv_add_emod (rd u (v.length : Int) + c) 4294967296
      rw [hx0] at hdm ⊢
      rw [hs1, Int.pow_succ]
      generalize (u.getD v.length 0 + c) / 4294967296 = z at *
      generalize (u.getD v.length 0 + c) % 4294967296 = y at *
      grind
  | succ d ih =>
    intro i u0 u c hd hl hu hc0 hc hval hdr hl0
    have g1 : (i : Int) < (v.length : Int) := by omega
    have g2 : (0 : Int) ≤ (i : Int) := by omega
    have g3 : (i : Int) < (u.length : Int) := by omega
    have g4 : i < v.length := by omega
    have g5 : i < u.length := by omega
    have g6 : i < u0.length := by omega
    have g7 : ∀ _ : Unit, wrap64 ((i : Int) + 1) = ((i + 1 : Nat) : Int) := fun _ => by rw [w64 (by omega) (by omega)]; omega
    have g8 : d + (i + 1) = v.length := by omega
    have hxi := hu.rd hB (i : Int)
    have hyi := hv.rd hB (i : Int)
    obtain ⟨lo, c', s1, s2, hlo0, hlo, hc'0, hc', hs⟩ := add_step hc0 hc hxi.1 hxi.2 hyi.1 hyi.2
    have hux : rd u (i : Int) = u0.getD i 0 := by
      rw [rd_getD]
      have h1 : (u.drop i).getD 0 0 = (u0.drop i).getD 0 0 := by rw [hdr]
      rw [List.getD_eq_getElem?_getD, List.getElem?_drop, List.getD_eq_getElem?_getD, List.getElem?_drop] at h1
      rw [List.getD_eq_getElem?_getD, List.getD_eq_getElem?_getD]; exact h1
    have hvx : rd v (i : Int) = v.getD i 0 := rd_getD v i
    obtain ⟨r, hev, h1, h2, h3⟩ := ih (i + 1) u0 (u.set i lo) c' g8 (by rw [List.length_set, hl]) (hu.set _ ⟨hlo0, hlo⟩) hc'0 hc' (by
        rw [take_set_succ g5, val_snoc, List.length_take, Nat.min_eq_left (Nat.le_of_lt g5), val_take_succ _ _ _ g4, val_take_succ _ _ _ g6, ← hux, ← hvx, Int.pow_succ]
        clear ih hdr hu hv s1 s2 hxi hyi hux hvx
        grind) (by rw [drop_set_succ, ← List.drop_drop, ← List.drop_drop, hdr]) hl0
    refine ⟨r, Ev.step (f := fun k => nat_digit.l2 k (u.set i lo) v (v.length : Int) g c' (v.length : Int) ((i + 1 : Nat) : Int)) (fun k => ?_) hev, h1, h2, h3⟩
    simp only [nat_digit.l2]
    rw [if_pos g1, if_pos g2, if_pos g3, if_pos g1, s1, s2, g7 (), Int.toNat_natCast]
theorem digit_l1 (v : List Int) (g : Int) (hg0 : 0 ≤ g) (hg : g < 4294967296) (hv : Lim 4294967296 v) (hL : v.length ≤ 549755813888) (q : Int) (u0 : List Int) (hu0 : Lim 4294967296 u0) (hl0 : u0.length = v.length + 1) (hq0 : 0 ≤ q) (hqV : q * val 4294967296 v ≤ val 4294967296 u0) (hqU : val 4294967296 u0 < (q + 1) * val 4294967296 v) (hqg : q ≤ g) (hgq : g ≤ q + 1) : ∀ (d i : Nat) (u : List Int) (b c : Int), d + i = v.length → u.length = v.length + 1 → Lim 4294967296 u → 0 ≤ b → b ≤ 1 → 0 ≤ c → c < 4294967296 →
    val 4294967296 (u.take i) - 4294967296 ^ i * b = val 4294967296 (u0.take i) - g * val 4294967296 (v.take i) + 4294967296 ^ i * c → u.drop i = u0.drop i →
    ∃ r, Ev (fun k => nat_digit.l1 k u v (v.length : Int) g b c (v.length : Int) (i : Int)) (q, r) ∧ Lim 4294967296 r ∧ r.length = v.length + 1 ∧ val 4294967296 r = val 4294967296 u0 - q * val 4294967296 v := by
  have hB : (0 : Int) < 4294967296 := by decide
  intro d
  induction d with
  | zero =>
    intro i u b c hd hl hu hb0 hb hc0 hc hval hdr
    have hi : i = v.length := by omega
    subst hi
    have hxi := hu.rd hB (v.length : Int)
    have hx0 : rd u (v.length : Int) = u.getD v.length 0 := rd_getD u _
    have hx1 : u0.getD v.length 0 = u.getD v.length 0 := by
      have h1 : (u.drop v.length).getD 0 0 = (u0.drop v.length).getD 0 0 := by rw [hdr]
      rw [List.getD_eq_getElem?_getD, List.getElem?_drop, List.getD_eq_getElem?_getD, List.getElem?_drop] at h1
      rw [List.getD_eq_getElem?_getD, List.getD_eq_getElem?_getD]; exact h1.symm
    obtain ⟨y, b', s1, s2, hy0, hy, hb'0, hb', hs⟩ := sub_step (lo := c) hxi.1 hxi.2 hc0 hc hb0 hb
    have hlen : v.length < u.length := by omega
    have hul : Lim 4294967296 (u.set v.length y) := hu.set _ ⟨hy0, hy⟩
    have hul1 : (u.set v.length y).length = v.length + 1 := by rw [List.length_set, hl]
    have hfin : val 4294967296 (u.set v.length y) - 4294967296 ^ (v.length + 1) * b' = val 4294967296 u0 - g * val 4294967296 v := by
      have hs1 := val_take_succ 4294967296 u v.length (by omega)
      have hs0 := val_take_succ 4294967296 u0 v.length (by omega)
      rw [List.take_of_length_le (by omega)] at hs1 hs0
      rw [List.take_of_length_le (Nat.le_refl _)] at hval
      rw [val_set _ _ _ _ hlen, hs0, hx1, hs1, Int.pow_succ]
      rw [hx0] at hs
      clear s1 s2 hu hdr hqV hqU hu0 hv hul
      grind
    have hn0 := val_nonneg hB hul
    have hn1 := val_lt hB hul
    rw [hul1] at hn1
    have g2 : (0 : Int) ≤ (v.length : Int) := by omega
    have g3 : ((v.length : Nat) : Int) < (u.length : Int) := by omega
    have g1 : ¬ (v.length : Int) < (v.length : Int) := by omega
    by_cases hbz : b' = 0
    · have hgq2 : g = q := by
        rw [hbz, Int.mul_zero, Int.sub_zero] at hfin
        have h5 : g * val 4294967296 v < (q + 1) * val 4294967296 v := by omega
        have hv0 := val_nonneg hB hv
        have := Int.lt_of_mul_lt_mul_right h5 hv0
        omega
      refine ⟨u.set v.length y, Ev.step (f := fun _ => some (q, u.set v.length y)) (fun k => ?_) (Ev.now _), hul, hul1, ?_⟩
      · simp only [nat_digit.l1]
        rw [if_neg g1, if_pos g2, if_pos g3, s1, s2, Option.bind_some, if_pos hbz, Int.emod_eq_of_lt hg0 hg, Int.toNat_natCast, hgq2]
      · rw [hbz, Int.mul_zero, Int.sub_zero, hgq2] at hfin
        exact hfin
    · have hb1 : b' = 1 := by omega
      rw [hb1, Int.mul_one] at hfin
      have hgq2 : g = q + 1 := by
        have h6 : q * val 4294967296 v < g * val 4294967296 v := by omega
        have hv0 := val_nonneg hB hv
        have := Int.lt_of_mul_lt_mul_right h6 hv0
        omega
      obtain ⟨r, hev, r1, r2, z, r3⟩ := digit_l2 v g hv hL v.length 0 (u.set v.length y) (u.set v.length y) 0 (by omega) hul1 hul (by omega) (by omega) (by simp [val]) rfl hul1
      refine ⟨r, Ev.step (f := fun k => nat_digit.l2 k (u.set v.length y) v (v.length : Int) g 0 (v.length : Int) 0) (fun k => ?_) (Ev.eq hev ?_), r1, r2, ?_⟩
      · simp only [nat_digit.l1]
        rw [if_neg g1, if_pos g2, if_pos g3, s1, s2, Option.bind_some, if_neg hbz, Int.toNat_natCast]
      · rw [u64_id (by omega) (by omega), hgq2, show q + 1 - 1 = q by omega, Int.emod_eq_of_lt hq0 (by omega)]
      · have m0 := val_nonneg hB r1
        have m1 := val_lt hB r1
        rw [r2] at m1
        have hVlt := val_lt hB hv
        have hpm := pow_mono' hB (show v.length ≤ v.length + 1 by omega)
        rw [hgq2] at hfin
        have e1 : (q + 1) * val 4294967296 v = q * val 4294967296 v + val 4294967296 v := by grind
        rw [e1] at hfin hqU
        have hz : z = 1 := by
          have e3 : val 4294967296 r = val 4294967296 u0 - q * val 4294967296 v + 4294967296 ^ (v.length + 1) * (1 - z) := by
            rw [r3, Int.mul_sub, Int.mul_one]; omega
          generalize (4294967296 : Int) ^ (v.length + 1) = M at *
          clear hev s1 s2 hs r3
          have h0 : 1 - z = 0 := by
            generalize 1 - z = y' at *
            rcases Int.lt_trichotomy y' 0 with h | h | h
            · have : M * y' ≤ M * (-1) := Int.mul_le_mul_of_nonneg_left (by omega) (by omega)
              omega
            · exact h
            · have : M * 1 ≤ M * y' := Int.mul_le_mul_of_nonneg_left (by omega) (by omega)
              omega
          omega
        rw [hz, Int.mul_one] at r3
        omega
  | succ d ih =>
    intro i u b c hd hl hu hb0 hb hc0 hc hval hdr
    have g1 : (i : Int) < (v.length : Int) := by omega
    have g2 : (0 : Int) ≤ (i : Int) := by omega
    have g3 : (i : Int) < (u.length : Int) := by omega
    have g4 : i < v.length := by omega
    have g5 : i < u.length := by omega
    have g6 : i < u0.length := by omega
    have g7 : ∀ _ : Unit, wrap64 ((i : Int) + 1) = ((i + 1 : Nat) : Int) := fun _ => by rw [w64 (by omega) (by omega)]; omega
    have g8 : d + (i + 1) = v.length := by omega
    have hxi := hu.rd hB (i : Int)
    have hyi := hv.rd hB (i : Int)
    obtain ⟨lo, c', s1, s2, hlo0, hlo, hc'0, hc', hs⟩ := mul_step hc0 hc hg0 hg hyi.1 hyi.2
    obtain ⟨y, b', t1, t2, hy0, hy, hb'0, hb', ht⟩ := sub_step hxi.1 hxi.2 hlo0 hlo hb0 hb
    have hux : rd u (i : Int) = u0.getD i 0 := by
      rw [rd_getD]
      have h1 : (u.drop i).getD 0 0 = (u0.drop i).getD 0 0 := by rw [hdr]
      rw [List.getD_eq_getElem?_getD, List.getElem?_drop, List.getD_eq_getElem?_getD, List.getElem?_drop] at h1
      rw [List.getD_eq_getElem?_getD, List.getD_eq_getElem?_getD]; exact h1
    have hvx : rd v (i : Int) = v.getD i 0 := rd_getD v i
    obtain ⟨r, hev, h1, h2, h3⟩ := ih (i + 1) (u.set i y) b' c' g8 (by rw [List.length_set, hl]) (hu.set _ ⟨hy0, hy⟩) hb'0 hb' hc'0 hc' (by
        rw [take_set_succ g5, val_snoc, List.length_take, Nat.min_eq_left (Nat.le_of_lt g5), val_take_succ _ _ _ g4, val_take_succ _ _ _ g6, ← hux, ← hvx, Int.pow_succ]
        clear ih hdr hu hv s1 s2 t1 t2 hxi hyi hux hvx hu0 hqV hqU
        grind) (by rw [drop_set_succ, ← List.drop_drop, ← List.drop_drop, hdr])
    refine ⟨r, Ev.step (f := fun k => nat_digit.l1 k (u.set i y) v (v.length : Int) g b' c' (v.length : Int) ((i + 1 : Nat) : Int)) (fun k => ?_) hev, h1, h2, h3⟩
    simp only [nat_digit.l1]
    rw [if_pos g1, if_pos g2, if_pos g1, if_pos g3, s1, s2, t1, t2, g7 (), Int.toNat_natCast]
theorem guess_loop (u v : List Int) (n : Nat) (hn : 2 ≤ n) (hnv : v.length = n) (hnu : u.length = n + 1) (hv : Lim 4294967296 v) (hu : Lim 4294967296 u) (hL : n ≤ 549755813888) (q top2 v1 v2 u2 : Int) (P : List Int → Prop)
    (ev1 : v1 = rd v ((n - 1 : Nat) : Int)) (ev2 : v2 = rd v ((n - 2 : Nat) : Int)) (eu2 : u2 = rd u ((n - 2 : Nat) : Int)) (hq0 : 0 ≤ q) (hqB : q < 4294967296) (ht0 : 0 ≤ top2) (ht1 : top2 ≤ v1 * 4294967296 + 4294967295)
    (hq12 : q * (v1 * 4294967296 + v2) ≤ top2 * 4294967296 + u2) (hle : ∀ g : Int, 0 ≤ g → g < 4294967296 → g * (v1 * 4294967296 + v2) ≤ top2 * 4294967296 + u2 → g ≤ q + 1)
    (hj2 : ∀ g : Int, 0 ≤ g → g < 4294967296 → q ≤ g → g ≤ q + 1 → ∃ r, Ev (fun k => nat_digit.j2 k u v (n : Int) g) (q, r) ∧ P r) :
    ∀ (m : Nat) (guess rest : Int), guess = q + m → guess ≤ 4294967297 → 0 ≤ rest → rest < 4294967296 → guess * v1 + rest = top2 → ∃ r, Ev (fun k => nat_digit.l0 k u v (n : Int) guess rest) (q, r) ∧ P r := by
  have hB : (0 : Int) < 4294967296 := by decide
  have h1 := hv.rd hB ((n - 1 : Nat) : Int)
  have h2 := hv.rd hB ((n - 2 : Nat) : Int)
  have h3 := hu.rd hB ((n - 2 : Nat) : Int)
  rw [← ev1] at h1; rw [← ev2] at h2; rw [← eu2] at h3
  have a1 : ∀ _ : Unit, wrap64 ((n : Int) - 1) = ((n - 1 : Nat) : Int) := fun _ => by rw [w64 (by omega) (by omega)]; omega
  have a2 : ∀ _ : Unit, wrap64 ((n : Int) - 2) = ((n - 2 : Nat) : Int) := fun _ => by rw [w64 (by omega) (by omega)]; omega
  have b0 : (0 : Int) ≤ ((n - 1 : Nat) : Int) := by omega
  have b1 : ((n - 1 : Nat) : Int) < (v.length : Int) := by omega
  have b2 : (0 : Int) ≤ ((n - 2 : Nat) : Int) := by omega
  have b3 : ((n - 2 : Nat) : Int) < (v.length : Int) := by omega
  have b4 : ((n - 2 : Nat) : Int) < (u.length : Int) := by omega
  have hdown : ∀ (guess rest : Int), q < guess → guess ≤ 4294967297 → 0 ≤ rest → rest < 4294967296 → guess * v1 + rest = top2 →
      (rest + v1 < 4294967296 → ∃ r, Ev (fun k => nat_digit.l0 k u v (n : Int) (guess - 1) (rest + v1)) (q, r) ∧ P r) → ∃ r, Ev (fun k => nat_digit.j1 k u v (n : Int) guess rest true) (q, r) ∧ P r := by
    intro guess rest hg hg1 hr0 hr1 hinv hind
    have e1 : IntKind.u64.wrap (rest + IntKind.u64.wrap v1) = rest + v1 := by rw [u64_id h1.1 (by omega), u64_id (by omega) (by omega)]
    have e2 : IntKind.u64.wrap (guess - 1) = guess - 1 := u64_id (by omega) (by omega)
    by_cases c : rest + v1 ≥ 4294967296
    · have hlim : guess - 1 < 4294967296 := by
        have h5 : (guess - 1) * v1 < 4294967296 * v1 := by
          have : (guess - 1) * v1 = guess * v1 - v1 := by grind
          have : (4294967296 : Int) * v1 = v1 * 4294967296 := Int.mul_comm _ _
          omega
        exact Int.lt_of_mul_lt_mul_right h5 h1.1
      have hup : (guess - 1) * (v1 * 4294967296 + v2) ≤ top2 * 4294967296 + u2 := by
        have h6 : (guess - 1) * v2 ≤ 4294967296 * 4294967295 := by
          have h61 : (guess - 1) * v2 ≤ (guess - 1) * 4294967295 := Int.mul_le_mul_of_nonneg_left (by omega) (by omega)
          omega
        have h7 : (guess - 1) * v1 = top2 - (rest + v1) := by
          have : (guess - 1) * v1 = guess * v1 - v1 := by grind
          omega
        have h8 : (guess - 1) * (v1 * 4294967296 + v2) = ((guess - 1) * v1) * 4294967296 + (guess - 1) * v2 := by grind
        rw [h8, h7]
        generalize (guess - 1) * v2 = z at *
        omega
      obtain ⟨r, hev, hp⟩ := hj2 (guess - 1) (by omega) hlim (by omega) (hle _ (by omega) hlim hup)
      refine ⟨r, Ev.step (f := fun k => nat_digit.j2 k u v (n : Int) (guess - 1)) (fun k => ?_) hev, hp⟩
      simp only [nat_digit.j1]
      rw [if_pos trivial, a1 (), if_pos b0, if_pos b1, ← ev1, e1, e2, if_pos (by omega)]
    · obtain ⟨r, hev, hp⟩ := hind (by omega)
      refine ⟨r, Ev.step (f := fun k => nat_digit.l0 k u v (n : Int) (guess - 1) (rest + v1)) (fun k => ?_) hev, hp⟩
      simp only [nat_digit.j1]
      rw [if_pos trivial, a1 (), if_pos b0, if_pos b1, ← ev1, e1, e2, if_neg (by omega)]
  intro m
  induction m with
  | zero =>
    intro guess rest hgm hg1 hr0 hr1 hinv
    have hgq : guess = q := by omega
    have hgB : ¬ guess / 4294967296 > 0 := by omega
    obtain ⟨p0, p1⟩ := mul_lim (g := guess) (b := v2) (by omega) (by omega) h2.1 h2.2
    have hno : ¬ guess * v2 > rest * 4294967296 + u2 := by
      have h8 : guess * (v1 * 4294967296 + v2) = (guess * v1) * 4294967296 + guess * v2 := by grind
      rw [← hgq, h8] at hq12
      generalize guess * v2 = z at *
      omega
    obtain ⟨r, hev, hp⟩ := hj2 guess (by omega) (by omega) (by omega) (by omega)
    have e1 : IntKind.u64.wrap (guess * IntKind.u64.wrap v2) = guess * v2 := by rw [u64_id h2.1 (by omega), u64_id p0 (by omega)]
    have e2 : Go.bits .or .u64 (IntKind.u64.wrap (rest * 4294967296)) (IntKind.u64.wrap u2) = rest * 4294967296 + u2 := by
      rw [u64_id (by omega) (by omega), u64_id h3.1 (by omega), bits_or_shift hr0 hr1 h3.1 h3.2]
    refine ⟨r, Ev.step (f := fun k => nat_digit.j1 k u v (n : Int) guess rest false) (fun k => ?_) (Ev.step (f := fun k => nat_digit.j2 k u v (n : Int) guess) (fun k => ?_) hev), hp⟩
    · simp only [nat_digit.l0]
      rw [if_neg hgB, a2 (), if_pos b2, if_pos b3, if_pos b4, ← ev2, ← eu2, e1, e2, decide_eq_false hno]
    · simp only [nat_digit.j1]
      rw [if_neg (by decide)]
  | succ m ih =>
    intro guess rest hgm hg1 hr0 hr1 hinv
    have hd := hdown guess rest (by omega) hg1 hr0 hr1 hinv (fun h => ih (guess - 1) (rest + v1) (by omega) (by omega) (by omega) h (by
      have : (guess - 1) * v1 = guess * v1 - v1 := by grind
      omega))
    by_cases hgB : guess / 4294967296 > 0
    · obtain ⟨r, hev, hp⟩ := hd
      refine ⟨r, Ev.step (f := fun k => nat_digit.j1 k u v (n : Int) guess rest true) (fun k => ?_) hev, hp⟩
      simp only [nat_digit.l0]
      rw [if_pos hgB]
    · have hgl : guess < 4294967296 := by omega
      obtain ⟨p0, p1⟩ := mul_lim (g := guess) (b := v2) (by omega) (by omega) h2.1 h2.2
      have e1 : IntKind.u64.wrap (guess * IntKind.u64.wrap v2) = guess * v2 := by rw [u64_id h2.1 (by omega), u64_id p0 (by omega)]
      have e2 : Go.bits .or .u64 (IntKind.u64.wrap (rest * 4294967296)) (IntKind.u64.wrap u2) = rest * 4294967296 + u2 := by
        rw [u64_id (by omega) (by omega), u64_id h3.1 (by omega), bits_or_shift hr0 hr1 h3.1 h3.2]
      by_cases c : guess * v2 > rest * 4294967296 + u2
      · obtain ⟨r, hev, hp⟩ := hd
        refine ⟨r, Ev.step (f := fun k => nat_digit.j1 k u v (n : Int) guess rest true) (fun k => ?_) hev, hp⟩
        simp only [nat_digit.l0]
        rw [if_neg hgB, a2 (), if_pos b2, if_pos b3, if_pos b4, ← ev2, ← eu2, e1, e2, decide_eq_true c]
      · have hup : guess * (v1 * 4294967296 + v2) ≤ top2 * 4294967296 + u2 := by
          have h8 : guess * (v1 * 4294967296 + v2) = (guess * v1) * 4294967296 + guess * v2 := by grind
          rw [h8]
          generalize guess * v2 = z at *
          omega
        obtain ⟨r, hev, hp⟩ := hj2 guess (by omega) hgl (by omega) (hle _ (by omega) hgl hup)
        refine ⟨r, Ev.step (f := fun k => nat_digit.j1 k u v (n : Int) guess rest false) (fun k => ?_) (Ev.step (f := fun k => nat_digit.j2 k u v (n : Int) guess) (fun k => ?_) hev), hp⟩
        · simp only [nat_digit.l0]
          rw [if_neg hgB, a2 (), if_pos b2, if_pos b3, if_pos b4, ← ev2, ← eu2, e1, e2, decide_eq_false c]
        · simp only [nat_digit.j1]
          rw [if_neg (by decide)]
theorem div_bounds {U V : Int} (hV : 0 < V) (hU : 0 ≤ U) : 0 ≤ U / V ∧ U / V * V ≤ U ∧ U < (U / V + 1) * V ∧ U % V = U - U / V * V := by
  have h1 := Int.mul_ediv_add_emod U V
  have h2 := Int.emod_nonneg U (show V ≠ 0 by omega)
  have h3 := Int.emod_lt_of_pos U hV
  refine ⟨Int.ediv_nonneg hU (by omega), ?_⟩
  rw [Int.add_mul, Int.one_mul, Int.mul_comm (U / V) V]
  omega
theorem digit_ev (u v : List Int) (n : Nat) (hn : 2 ≤ n) (hnv : v.length = n) (hnu : u.length = n + 1) (hv : Lim 4294967296 v) (hu : Lim 4294967296 u) (hL : n ≤ 549755813888) (htop : 2147483648 ≤ v.getD (n - 1) 0) (hlt : val 4294967296 u < 4294967296 * val 4294967296 v) :
    ∃ r, Ev (fun k => nat_digit.f k u v) (val 4294967296 u / val 4294967296 v, r) ∧ Lim 4294967296 r ∧ r.length = n + 1 ∧ val 4294967296 r = val 4294967296 u % val 4294967296 v := by
  have hB : (0 : Int) < 4294967296 := by decide
  have h1 := hv.rd hB ((n - 1 : Nat) : Int)
  have h2 := hv.rd hB ((n - 2 : Nat) : Int)
  have k0 := hu.rd hB (n : Int)
  have k1 := hu.rd hB ((n - 1 : Nat) : Int)
  have k2 := hu.rd hB ((n - 2 : Nat) : Int)
  have htop' : 2147483648 ≤ rd v ((n - 1 : Nat) : Int) := by rw [rd_getD]; exact htop
  have hP0 : (0 : Int) < 4294967296 ^ (n - 2) := Int.pow_pos (by decide)
  have hVl0 := val_nonneg hB (hv.take (n - 2))
  have hVl1 := val_lt hB (hv.take (n - 2))
  rw [List.length_take, Nat.min_eq_left (by omega)] at hVl1
  have hUl0 := val_nonneg hB (hu.take (n - 2))
  have hUl1 := val_lt hB (hu.take (n - 2))
  rw [List.length_take, Nat.min_eq_left (by omega)] at hUl1
  have hVe : val 4294967296 v = (rd v ((n - 1 : Nat) : Int) * 4294967296 + rd v ((n - 2 : Nat) : Int)) * 4294967296 ^ (n - 2) + val 4294967296 (v.take (n - 2)) := by
    have e1 := val_take_succ 4294967296 v (n - 1) (by omega)
    have e2 := val_take_succ 4294967296 v (n - 2) (by omega)
    rw [List.take_of_length_le (by omega)] at e1
    rw [show n - 2 + 1 = n - 1 by omega] at e2
    rw [e1, e2, rd_getD, rd_getD, show n - 1 = (n - 2) + 1 by omega, Int.pow_succ]
    grind
  have hUe : val 4294967296 u = ((rd u (n : Int) * 4294967296 + rd u ((n - 1 : Nat) : Int)) * 4294967296 + rd u ((n - 2 : Nat) : Int)) * 4294967296 ^ (n - 2) + val 4294967296 (u.take (n - 2)) := by
    have e0 := val_take_succ 4294967296 u n (by omega)
    have e1 := val_take_succ 4294967296 u (n - 1) (by omega)
    have e2 := val_take_succ 4294967296 u (n - 2) (by omega)
    rw [List.take_of_length_le (by omega)] at e0
    rw [show n - 2 + 1 = n - 1 by omega] at e2
    rw [show n - 1 + 1 = n by omega] at e1
    have p2 : (4294967296 : Int) ^ n = 4294967296 ^ (n - 2) * 4294967296 * 4294967296 := by
      rw [show (4294967296 : Int) ^ n = 4294967296 ^ ((n - 2) + 1 + 1) by congr 1; omega, Int.pow_succ, Int.pow_succ]
    have p1 : (4294967296 : Int) ^ (n - 1) = 4294967296 ^ (n - 2) * 4294967296 := by
      rw [show (4294967296 : Int) ^ (n - 1) = 4294967296 ^ ((n - 2) + 1) by congr 1; omega, Int.pow_succ]
    rw [e0, e1, e2, rd_getD, rd_getD, rd_getD, p1, p2]
    grind
  have hV0 : 0 < val 4294967296 v := by
    rw [hVe]
    have : 1 * 4294967296 ^ (n - 2) ≤ (rd v ((n - 1 : Nat) : Int) * 4294967296 + rd v ((n - 2 : Nat) : Int)) * 4294967296 ^ (n - 2) := Int.mul_le_mul_of_nonneg_right (by omega) (by omega)
    omega
  have hBV : 4294967296 * 4294967296 ^ (n - 2) ≤ val 4294967296 v := by
    rw [hVe]
    have : 4294967296 * 4294967296 ^ (n - 2) ≤ (rd v ((n - 1 : Nat) : Int) * 4294967296 + rd v ((n - 2 : Nat) : Int)) * 4294967296 ^ (n - 2) := Int.mul_le_mul_of_nonneg_right (by omega) (by omega)
    omega
  obtain ⟨hq0, hqV, hqU, hmod⟩ := div_bounds hV0 (val_nonneg hB hu)
  have hqB : val 4294967296 u / val 4294967296 v < 4294967296 := Int.ediv_lt_of_lt_mul hV0 hlt
  have hj2 : ∀ g : Int, 0 ≤ g → g < 4294967296 → val 4294967296 u / val 4294967296 v ≤ g → g ≤ val 4294967296 u / val 4294967296 v + 1 → ∃ r, Ev (fun k => nat_digit.j2 k u v (n : Int) g) (val 4294967296 u / val 4294967296 v, r) ∧ (Lim 4294967296 r ∧ r.length = n + 1 ∧ val 4294967296 r = val 4294967296 u % val 4294967296 v) := by
    intro g hg0 hg hqg hgq
    obtain ⟨r, hev, r1, r2, r3⟩ := digit_l1 v g hg0 hg hv (by omega) (val 4294967296 u / val 4294967296 v) u hu (by omega) hq0 hqV hqU hqg hgq v.length 0 u 0 0 (by omega) (by omega) hu (by omega) (by omega) (by omega) (by omega) (by simp [val]) rfl
    rw [hnv] at hev
    refine ⟨r, Ev.step (f := fun k => nat_digit.l1 k u v (n : Int) g 0 0 (n : Int) ((0 : Nat) : Int)) (fun k => ?_) hev, r1, by omega, by rw [r3, hmod]⟩
    simp only [nat_digit.j2]
    rw [hnv]; rfl
  have hq12 := knuth_ge (B := 4294967296) hVe hVl0 hUe hUl1 hP0 hqV hq0
  have hle : ∀ g : Int, 0 ≤ g → g < 4294967296 → g * (rd v ((n - 1 : Nat) : Int) * 4294967296 + rd v ((n - 2 : Nat) : Int)) ≤ (rd u (n : Int) * 4294967296 + rd u ((n - 1 : Nat) : Int)) * 4294967296 + rd u ((n - 2 : Nat) : Int) → g ≤ val 4294967296 u / val 4294967296 v + 1 :=
    fun g hg0 hg h => knuth_le hVe hVl1 hUe hUl0 hP0 hg0 hg h hBV hqU hV0
  have ht3 : (rd u (n : Int) * 4294967296 + rd u ((n - 1 : Nat) : Int)) * 4294967296 + rd u ((n - 2 : Nat) : Int) < 4294967296 * (rd v ((n - 1 : Nat) : Int) * 4294967296 + rd v ((n - 2 : Nat) : Int) + 1) := by
    have h5 : ((rd u (n : Int) * 4294967296 + rd u ((n - 1 : Nat) : Int)) * 4294967296 + rd u ((n - 2 : Nat) : Int)) * 4294967296 ^ (n - 2) < (4294967296 * (rd v ((n - 1 : Nat) : Int) * 4294967296 + rd v ((n - 2 : Nat) : Int) + 1)) * 4294967296 ^ (n - 2) := by
      have h6 : (4294967296 * (rd v ((n - 1 : Nat) : Int) * 4294967296 + rd v ((n - 2 : Nat) : Int) + 1)) * 4294967296 ^ (n - 2) = 4294967296 * ((rd v ((n - 1 : Nat) : Int) * 4294967296 + rd v ((n - 2 : Nat) : Int)) * 4294967296 ^ (n - 2)) + 4294967296 * 4294967296 ^ (n - 2) := by grind
      rw [h6]
      generalize (rd v ((n - 1 : Nat) : Int) * 4294967296 + rd v ((n - 2 : Nat) : Int)) * 4294967296 ^ (n - 2) = X at *
      generalize ((rd u (n : Int) * 4294967296 + rd u ((n - 1 : Nat) : Int)) * 4294967296 + rd u ((n - 2 : Nat) : Int)) * 4294967296 ^ (n - 2) = Y at *
      clear hj2 hle hq12
      omega
    exact Int.lt_of_mul_lt_mul_right h5 (by omega)
  clear hqV hqU hmod hUl0 hUl1 hVl0 hVl1 hVe hUe hBV
  generalize hQ : val 4294967296 u / val 4294967296 v = q at *
  generalize hR : val 4294967296 u % val 4294967296 v = rr at *
  generalize hu0 : rd u (n : Int) = x0 at *
  generalize hu1 : rd u ((n - 1 : Nat) : Int) = x1 at *
  have ht0 : 0 ≤ x0 * 4294967296 + x1 := by omega
  have ht1 : x0 * 4294967296 + x1 ≤ rd v ((n - 1 : Nat) : Int) * 4294967296 + 4294967295 := by omega
  have ht2 : x0 * 4294967296 + x1 < 18446744073709551616 := by omega
  have hdv0 : 0 < rd v ((n - 1 : Nat) : Int) := by omega
  obtain ⟨d0, d1, d2, d3⟩ := div_bounds hdv0 ht0
  have d4 := Int.emod_nonneg (x0 * 4294967296 + x1) (show rd v ((n - 1 : Nat) : Int) ≠ 0 by omega)
  have d5 := Int.emod_lt_of_pos (x0 * 4294967296 + x1) hdv0
  have hgq : q ≤ (x0 * 4294967296 + x1) / rd v ((n - 1 : Nat) : Int) := by
    rw [Int.le_ediv_iff_mul_le hdv0]
    have h6 : 0 ≤ q * rd v ((n - 2 : Nat) : Int) := Int.mul_nonneg hq0 h2.1
    have h8 : q * (rd v ((n - 1 : Nat) : Int) * 4294967296 + rd v ((n - 2 : Nat) : Int)) = (q * rd v ((n - 1 : Nat) : Int)) * 4294967296 + q * rd v ((n - 2 : Nat) : Int) := by grind
    rw [h8] at hq12
    generalize q * rd v ((n - 2 : Nat) : Int) = z at *
    generalize q * rd v ((n - 1 : Nat) : Int) = z' at *
    clear hle hj2 d1 d2 d3 d4 d5 h8
    omega
  have hgB : (x0 * 4294967296 + x1) / rd v ((n - 1 : Nat) : Int) ≤ 4294967297 := by
    have : (x0 * 4294967296 + x1) / rd v ((n - 1 : Nat) : Int) < 4294967298 := by
      refine Int.ediv_lt_of_lt_mul hdv0 ?_
      omega
    omega
  generalize hG : (x0 * 4294967296 + x1) / rd v ((n - 1 : Nat) : Int) = g at *
  generalize hE : (x0 * 4294967296 + x1) % rd v ((n - 1 : Nat) : Int) = e at *
  obtain ⟨m, hm⟩ := Int.eq_ofNat_of_zero_le (show 0 ≤ g - q by omega)
  obtain ⟨r, hev, r1, r2, r3⟩ := guess_loop u v n hn hnv hnu hv hu hL q (x0 * 4294967296 + x1) _ _ _ (fun r => Lim 4294967296 r ∧ r.length = n + 1 ∧ val 4294967296 r = rr) rfl rfl rfl hq0 hqB ht0 ht1 hq12 hle hj2 m g e (by omega) hgB d4 (by omega) (by omega)
  refine ⟨r, Ev.congr (fun k => ?_) hev, r1, r2, r3⟩
  have a1 : wrap64 ((n : Int) - 1) = ((n - 1 : Nat) : Int) := by rw [w64 (by omega) (by omega)]; omega
  have b0 : (0 : Int) ≤ ((n - 1 : Nat) : Int) := by omega
  have b1 : ((n - 1 : Nat) : Int) < (v.length : Int) := by omega
  have b2 : ((n - 1 : Nat) : Int) < (u.length : Int) := by omega
  have b3 : (n : Int) < (u.length : Int) := by omega
  have b4 : (0 : Int) ≤ (n : Int) := by omega
  have e1 : Go.bits .or .u64 (IntKind.u64.wrap (IntKind.u64.wrap x0 * 4294967296)) (IntKind.u64.wrap x1) = x0 * 4294967296 + x1 := by
    rw [u64_id k0.1 (by omega), u64_id (by omega) (by omega), u64_id k1.1 (by omega), bits_or_shift k0.1 k0.2 k1.1 k1.2]
  have e2 : IntKind.u64.wrap (rd v ((n - 1 : Nat) : Int)) = rd v ((n - 1 : Nat) : Int) := u64_id h1.1 (by omega)
  have e3 : IntKind.u64.wrap g = g := u64_id (by omega) (by omega)
  simp only [nat_digit.f]
  rw [hnv]
  rw [if_pos b4, if_pos b3, a1, if_pos b0, if_pos b2, ← hnv, if_pos (by rw [hnv]; rw [hnv] at b1; exact b1), hnv, e2, if_neg (by omega), hu0, hu1, e1, Int.tdiv_eq_ediv_of_nonneg ht0, Int.tmod_eq_emod_of_nonneg ht0, hG, hE, e3]
theorem digit_at_ev (u v : List Int) (n j : Nat) (hn : 2 ≤ n) (hnv : v.length = n) (hj : j + n + 1 ≤ u.length) (hv : Lim 4294967296 v) (hu : Lim 4294967296 u) (hL : n ≤ 549755813888) (htop : 2147483648 ≤ v.getD (n - 1) 0) (hlt : val 4294967296 (u.drop (j + 1)) < val 4294967296 v) :
    ∃ r, Ev (fun k => nat_digit_at.f k u (j : Int) ((j + n + 1 : Nat) : Int) v) (val 4294967296 (u.drop j) / val 4294967296 v, r) ∧ Lim 4294967296 r ∧ r.length = u.length ∧ val 4294967296 r = val 4294967296 u - 4294967296 ^ j * (val 4294967296 (u.drop j) / val 4294967296 v * val 4294967296 v) ∧ val 4294967296 (r.drop j) < val 4294967296 v ∧ r.take j = u.take j := by
  have hB : (0 : Int) < 4294967296 := by decide
  have hvn := val_lt hB hv
  rw [hnv] at hvn
  have hs := val_split 4294967296 (u.drop (j + 1)) n (by rw [List.length_drop]; omega)
  have t0 := val_nonneg hB ((hu.drop (j + 1)).take n)
  have t1 := val_nonneg hB ((hu.drop (j + 1)).drop n)
  have hz : val 4294967296 (u.drop (j + n + 1)) = 0 := by
    rw [List.drop_drop, show j + 1 + n = j + n + 1 by omega] at hs t1
    generalize val 4294967296 (u.drop (j + n + 1)) = z at *
    have hp : (0 : Int) < 4294967296 ^ n := Int.pow_pos (by decide)
    rcases Int.lt_trichotomy z 0 with h | h | h
    · omega
    · exact h
    · have : 4294967296 ^ n * 1 ≤ (4294967296 : Int) ^ n * z := Int.mul_le_mul_of_nonneg_left (by omega) (by omega)
      omega
  have hwl : ((u.take (j + n + 1)).drop j).length = n + 1 := by rw [List.length_drop, List.length_take]; omega
  have hdj : u.drop j = (u.take (j + n + 1)).drop j ++ u.drop (j + n + 1) := by
    have h5 : u = u.take (j + n + 1) ++ u.drop (j + n + 1) := (List.take_append_drop _ _).symm
    have h6 : u.drop j = (u.take (j + n + 1) ++ u.drop (j + n + 1)).drop j := by rw [← h5]
    rw [h6, List.drop_append_of_le_length (by rw [List.length_take]; omega)]
  have hw : val 4294967296 ((u.take (j + n + 1)).drop j) = val 4294967296 (u.drop j) := by
    rw [hdj, val_append, hz, Int.mul_zero, Int.add_zero]
  have hx := hu.getD hB j
  have hlt' : val 4294967296 (u.drop j) < 4294967296 * val 4294967296 v := by
    rw [val_drop _ _ j (by omega)]
    omega
  obtain ⟨r, hev, r1, r2, r3⟩ := digit_ev ((u.take (j + n + 1)).drop j) v n hn hnv hwl hv ((hu.take _).drop _) hL htop (by rw [hw]; exact hlt')
  rw [hw] at hev r3
  have hu0 := val_nonneg hB (hu.drop j)
  have hv0 : 0 < val 4294967296 v := by omega
  obtain ⟨q0, q1, q2, q3⟩ := div_bounds hv0 hu0
  have hlj : (u.take j).length = j := by rw [List.length_take]; omega
  have hdr : (u.take j ++ r ++ u.drop (j + n + 1)).drop j = r ++ u.drop (j + n + 1) := by
    rw [List.append_assoc, List.drop_append_of_le_length (by omega), List.drop_of_length_le (by omega), List.nil_append]
  refine ⟨u.take j ++ r ++ u.drop (j + n + 1), ?_, lim_append.2 ⟨lim_append.2 ⟨hu.take _, r1⟩, hu.drop _⟩, ?_, ?_, ?_, ?_⟩
  · refine Ev.congr (f := fun k => (nat_digit.f k ((u.take (j + n + 1)).drop j) v).bind fun b => some (b.1, u.take j ++ b.2 ++ u.drop (j + n + 1))) (fun k => ?_) (Ev.bind (f := fun _ b => some (b.1, u.take j ++ b.2 ++ u.drop (j + n + 1))) hev (Ev.now _))
    simp only [nat_digit_at.f]
    rw [if_pos (by omega), if_pos (by omega), if_pos (by omega), Int.toNat_natCast, Int.toNat_natCast]
  · rw [List.length_append, List.length_append, hlj, r2, List.length_drop]; omega
  · rw [val_append, val_append, hz, Int.mul_zero, Int.add_zero, hlj, val_split 4294967296 u j (by omega), r3, q3]
    grind
  · rw [hdr, val_append, hz, Int.mul_zero, Int.add_zero, r3]
    exact Int.emod_lt_of_pos _ hv0
  · rw [List.append_assoc, List.take_append_of_le_length (by omega), List.take_of_length_le (by omega)]
theorem divmod_loop (v : List Int) (n : Nat) (s : Nat) (hs : s < 32) (hn : 2 ≤ n) (hnv : v.length = n) (hv : Lim 4294967296 v) (hL : n ≤ 68719476736) (htop : 2147483648 ≤ v.getD (n - 1) 0) (m : Nat) (hm : m ≤ 68719476736) (U : Int) : ∀ (i : Nat) (quot u : List Int), i ≤ m → quot.length = m → u.length = m + n → Lim 4294967296 u → Lim 4294967296 quot →
    quot.take i = List.replicate i 0 → val 4294967296 (u.drop i) < val 4294967296 v → val 4294967296 u + val 4294967296 v * val 4294967296 quot = U →
    ∃ q r, Ev (fun k => nat_DivMod.l0 k quot (s : Int) v u (n : Int) ((i : Int) - 1)) (q, r) ∧ Lim 4294967296 q ∧ Nrm q ∧ Lim 4294967296 r ∧ Nrm r ∧ val 4294967296 q = U / val 4294967296 v ∧ val 4294967296 r = (U % val 4294967296 v) / 2 ^ s ∧ q.length ≤ m ∧ r.length ≤ m + n := by
  have hB : (0 : Int) < 4294967296 := by decide
  intro i
  induction i with
  | zero =>
    intro quot u hi hq hu hul hql hz hlt hU
    rw [List.drop_zero] at hlt
    have hu0 := val_nonneg hB hul
    have hdiv : U / val 4294967296 v = val 4294967296 quot := by
      rw [← hU, Int.add_mul_ediv_left _ _ (by omega), Int.ediv_eq_zero_of_lt hu0 hlt, Int.zero_add]
    have hmod : U % val 4294967296 v = val 4294967296 u := by
      rw [← hU, Int.add_mul_emod_self_left, Int.emod_eq_of_lt hu0 hlt]
    obtain ⟨r, h1, h2, h3, h4, h5⟩ := Shr_ev (trim u) s (lim_trim hul) (nrm_trim u) (Nat.le_trans (length_trim u) (by omega)) (by omega)
    have hlt2 := length_trim u
    refine ⟨trim quot, r, ?_, lim_trim hql, nrm_trim _, h2, h3, by rw [val_trim, hdiv], by rw [h4, val_trim, hmod], Nat.le_trans (length_trim _) (by omega), by omega⟩
    refine Ev.step (f := fun k => (nat_Trim.f k u).bind fun t210 => (nat_Shr.f k t210 (s : Int)).bind fun bt213 => (nat_Trim.f k quot).bind fun t217 => some (t217, bt213.1)) (fun k => ?_) ?_
    · simp only [nat_DivMod.l0]
      rw [if_neg (by omega)]
    · refine Ev.bind (f := fun k t210 => (nat_Shr.f k t210 (s : Int)).bind fun bt213 => (nat_Trim.f k quot).bind fun t217 => some (t217, bt213.1)) (Trim_ev u (by omega)) ?_
      refine Ev.bind (f := fun k (bt213 : List Int × Bool) => (nat_Trim.f k quot).bind fun t217 => some (t217, bt213.1)) h1 ?_
      exact Ev.bind (f := fun _ t217 => some (t217, r)) (Trim_ev quot (by omega)) (Ev.now _)
  | succ i ih =>
    intro quot u hi hq hu hul hql hz hlt hU
    obtain ⟨r, hev, r1, r2, r3, r4, r5⟩ := digit_at_ev u v n i hn hnv (by omega) hv hul (by omega) htop hlt
    have hv0 : 0 < val 4294967296 v := Int.lt_of_le_of_lt (val_nonneg hB (hul.drop (i + 1))) hlt
    obtain ⟨q0, q1, q2, q3⟩ := div_bounds hv0 (val_nonneg hB (hul.drop i))
    have hq4 : val 4294967296 (u.drop i) / val 4294967296 v < 4294967296 := by
      refine Int.ediv_lt_of_lt_mul hv0 ?_
      have hx := hul.getD hB i
      rw [val_drop _ _ i (by omega)]
      clear q1 q2 q3 r3 hev
      omega
    have hqi : quot.getD i 0 = 0 := by
      have : (quot.take (i + 1)).getD i 0 = 0 := by rw [hz, getD_replicate]
      rw [List.getD_eq_getElem?_getD, List.getElem?_take, if_pos (by omega)] at this
      rw [List.getD_eq_getElem?_getD]; exact this
    clear q1 q2 q3
    generalize val 4294967296 (u.drop i) / val 4294967296 v = dgt at *
    obtain ⟨q, rr, hev2, h⟩ := ih (quot.set i dgt) r (by omega) (by rw [List.length_set, hq]) (by omega) r1 (hql.set _ ⟨q0, hq4⟩) (by
        rw [List.take_set_of_le (Nat.le_refl _)]
        have := congrArg (List.take i) hz
        rw [List.take_take, Nat.min_eq_left (by omega), List.take_replicate, Nat.min_eq_left (by omega)] at this
        exact this) r4 (by
        rw [val_set _ _ _ _ (by omega), hqi, r3, ← hU]
        clear hev r3 r4 hlt
        grind)
    refine ⟨q, rr, ?_, h⟩
    refine Ev.step (f := fun k => (nat_digit_at.f k u (i : Int) ((i + n + 1 : Nat) : Int) v).bind fun bt207 => nat_DivMod.l0 k (quot.set i bt207.1) (s : Int) v bt207.2 (n : Int) ((i : Int) - 1)) (fun k => ?_) ?_
    · have e1 : (((i + 1 : Nat) : Int) - 1) = (i : Int) := by omega
      have e2 : ∀ _ : Unit, wrap64 (wrap64 ((i : Int) + (n : Int)) + 1) = ((i + n + 1 : Nat) : Int) := fun _ => by rw [w64 (x := (i : Int) + (n : Int)) (by omega) (by omega), w64 (by omega) (by omega)]; omega
      have e3 : ∀ _ : Unit, wrap64 ((i : Int) - 1) = (i : Int) - 1 := fun _ => w64 (by omega) (by omega)
      have b1 : (i : Int) ≤ ((i + n + 1 : Nat) : Int) := by omega
      have b2 : ((i + n + 1 : Nat) : Int) ≤ (u.length : Int) := by omega
      have b3 : (i : Int) < (quot.length : Int) := by omega
      have b4 : (i : Int) ≥ 0 := by omega
      have b5 : 0 ≤ (i : Int) := b4
      simp only [nat_DivMod.l0]
      rw [e1, if_pos b4, if_pos b5, e2 (), if_pos b1, if_pos b2]
      simp only [if_pos b3, e3 (), Int.toNat_natCast]
    · exact Ev.bind (f := fun k (bt207 : Int × List Int) => nat_DivMod.l0 k (quot.set i bt207.1) (s : Int) v bt207.2 (n : Int) ((i : Int) - 1)) hev hev2
theorem len_of_val {xs : List Int} {n : Nat} (hx : Lim 4294967296 xs) (hn : Nrm xs) (h1 : (4294967296 : Int) ^ n ≤ val 4294967296 xs) (h2 : val 4294967296 xs < 4294967296 ^ (n + 1)) : xs.length = n + 1 := by
  have hB : (0 : Int) < 4294967296 := by decide
  rcases Nat.lt_trichotomy xs.length (n + 1) with h | h | h
  · have h3 := val_lt hB hx
    have h4 := pow_mono' hB (show xs.length ≤ n by omega)
    omega
  · exact h
  · have hne : xs ≠ [] := by rintro rfl; simp at h
    have h3 := val_ge hB hx hn hne
    have h4 := pow_mono' hB (show n + 1 ≤ xs.length - 1 by omega)
    omega
theorem val_copy {xs : List Int} {m : Nat} (h : xs.length ≤ m) : xs.take m ++ (List.replicate m (0 : Int)).drop xs.length = xs ++ List.replicate (m - xs.length) 0 := by
  rw [List.take_of_length_le h, List.drop_replicate]
theorem DivMod_ev (a b : List Int) (ha : Lim 4294967296 a) (hb : Lim 4294967296 b) (na : Nrm a) (nb : Nrm b) (hb0 : b ≠ []) (hLa : a.length ≤ 34359738368) (hLb : b.length ≤ 34359738368) :
    ∃ q r, Ev (fun k => nat_DivMod.f k a b) (q, r) ∧ Lim 4294967296 q ∧ Nrm q ∧ Lim 4294967296 r ∧ Nrm r ∧ val 4294967296 q = val 4294967296 a / val 4294967296 b ∧ val 4294967296 r = val 4294967296 a % val 4294967296 b ∧ q.length ≤ a.length + 1 := by
  have hB : (0 : Int) < 4294967296 := by decide
  have va0 := val_nonneg hB ha
  have vb0 := val_pos hB hb nb hb0
  by_cases hlt : val 4294967296 a < val 4294967296 b
  · refine ⟨[], a, ?_, lim_nil _, nrm_nil, ha, na, ?_, ?_, by simp⟩
    · refine Ev.bind (f := fun k t175 => _) (Compare_ev a b ha hb na nb (by omega) (by omega)) ?_
      rw [show cmpI (val 4294967296 a) (val 4294967296 b) = -1 by unfold cmpI; rw [if_pos hlt]]
      refine Ev.congr (f := fun _ => some ([], a)) (fun k => ?_) (Ev.now _)
      rw [if_pos (by decide)]
      unfold slices_Clone_uint32_uint32.f
      rw [if_pos (by omega)]
      rfl
    · rw [Int.ediv_eq_zero_of_lt va0 hlt]; rfl
    · rw [Int.emod_eq_of_lt va0 hlt]
  · have hcmp : ¬ cmpI (val 4294967296 a) (val 4294967296 b) < 0 := by
      unfold cmpI; rw [if_neg hlt]; split <;> decide
    have hlab : b.length ≤ a.length := by
      rcases Nat.lt_or_ge a.length b.length with h | h
      · have := len_lt_val hB ha hb nb h; omega
      · exact h
    by_cases hl1 : b.length = 1
    · obtain ⟨d, rfl⟩ := List.length_eq_one_iff.1 hl1
      have hd := hb d (by simp)
      have hdv : val 4294967296 [d] = d := by simp [val]
      rw [hdv] at vb0
      obtain ⟨q, h1, h2, h3, h4, h5⟩ := DivSmall_ev a d ha vb0 hd.2 (by omega)
      have m0 := Int.emod_nonneg (val 4294967296 a) (show d ≠ 0 by omega)
      have m1 := Int.emod_lt_of_pos (val 4294967296 a) vb0
      obtain ⟨r, g1, g2, g3, g4, g5⟩ := Of_ev (val 4294967296 a % d) m0 (by omega)
      refine ⟨q, r, ?_, h2, h3, g2, g3, by rw [h4, hdv], by rw [g4, hdv], by omega⟩
      refine Ev.bind (f := fun k t175 => _) (Compare_ev a [d] ha hb na nb (by omega) (by omega)) ?_
      refine Ev.congr (f := fun k => (nat_DivSmall.f k a d).bind fun bt180 => (nat_Of.f k (IntKind.u64.wrap bt180.2)).bind fun t184 => some (bt180.1, t184)) (fun k => ?_) ?_
      · rw [if_neg hcmp, if_pos (by rfl), if_pos (by simp)]
        rfl
      · refine Ev.bind (f := fun k (bt180 : List Int × Int) => (nat_Of.f k (IntKind.u64.wrap bt180.2)).bind fun t184 => some (bt180.1, t184)) h1 ?_
        refine Ev.bind (f := fun _ t184 => some (q, t184)) ?_ (Ev.now _)
        refine Ev.congr (fun k => ?_) g1
        rw [u64_id m0 (by omega)]
    · have hbl : 2 ≤ b.length := by
        have : b.length ≠ 0 := fun h => hb0 (List.length_eq_zero_iff.1 h)
        omega
      have htx := hb.rd hB ((b.length - 1 : Nat) : Int)
      have hsp := val_split 4294967296 b (b.length - 1) (by omega)
      have hdl : b.drop (b.length - 1) = [b.getD (b.length - 1) 0] := by
        rw [drop_cons' _ _ (by omega), List.drop_of_length_le (by omega)]
      have hbr : rd b ((b.length - 1 : Nat) : Int) = b.getD (b.length - 1) 0 := rd_getD _ _
      rw [hdl] at hsp
      have hv1 : val 4294967296 [b.getD (b.length - 1) 0] = b.getD (b.length - 1) 0 := by simp [val]
      rw [hv1, ← hbr] at hsp
      have ht0 := val_nonneg hB (hb.take (b.length - 1))
      have ht1 := val_lt hB (hb.take (b.length - 1))
      rw [List.length_take, Nat.min_eq_left (by omega)] at ht1
      have hge := val_ge hB hb nb hb0
      have hpb : (0 : Int) < 4294967296 ^ (b.length - 1) := Int.pow_pos (by decide)
      generalize ht : rd b ((b.length - 1 : Nat) : Int) = t at *
      have htpos : 0 < t := by
        rcases Int.lt_trichotomy t 0 with h | h | h
        · omega
        · rw [h, Int.mul_zero] at hsp; omega
        · exact h
      obtain ⟨s, hse, hs32, hs1, hs2⟩ := Lead_eq t htpos htx.2
      have hp := pow_lt_base hs32
      have hp0 : (0 : Int) < 2 ^ s := Int.pow_pos (by decide)
      obtain ⟨v, v1, v2, v3, v4, v5⟩ := Shl_ev b s hb (by omega)
      obtain ⟨u, u1, u2, u3, u4, u5⟩ := Shl_ev a s ha (by omega)
      rw [show s / 32 = 0 by omega] at v5 u5
      have hvlow : 4294967296 ^ (b.length - 1) * 2147483648 ≤ val 4294967296 v := by
        rw [v4, hsp]
        have h5 : 4294967296 ^ (b.length - 1) * 2147483648 ≤ 4294967296 ^ (b.length - 1) * (t * 2 ^ s) := Int.mul_le_mul_of_nonneg_left hs1 (by omega)
        have h6 : 0 ≤ val 4294967296 (b.take (b.length - 1)) * 2 ^ s := Int.mul_nonneg ht0 (by omega)
        rw [Int.add_mul, Int.mul_assoc]
        omega
      have hvhigh : val 4294967296 v < 4294967296 ^ (b.length - 1 + 1) := by
        rw [v4, hsp, Int.pow_succ]
        have h6 : (t + 1) * 2 ^ s ≤ 4294967296 := by
          have hpb := pow_base (show s ≤ 32 by omega)
          have h7 : t < 2 ^ (32 - s) := by
            refine Int.lt_of_mul_lt_mul_left (a := 2 ^ s) ?_ (by omega)
            rw [hpb, Int.mul_comm]; exact hs2
          have h8 : (t + 1) * 2 ^ s ≤ 2 ^ (32 - s) * 2 ^ s := Int.mul_le_mul_of_nonneg_right (by omega) (by omega)
          rw [Int.mul_comm (2 ^ (32 - s)), hpb] at h8
          exact h8
        have h9 : (val 4294967296 (b.take (b.length - 1)) + 4294967296 ^ (b.length - 1) * t) * 2 ^ s < (4294967296 ^ (b.length - 1) * (t + 1)) * 2 ^ s := by
          refine Int.mul_lt_mul_of_pos_right ?_ hp0
          rw [Int.mul_add, Int.mul_one]; omega
        have h10 : (4294967296 ^ (b.length - 1) * (t + 1)) * 2 ^ s ≤ 4294967296 ^ (b.length - 1) * 4294967296 := by
          rw [Int.mul_assoc]
          exact Int.mul_le_mul_of_nonneg_left h6 (by omega)
        omega
      have hvn : v.length = b.length := by
        have := len_of_val v2 v3 (n := b.length - 1) (by omega) hvhigh
        omega
      have htop : 2147483648 ≤ v.getD (b.length - 1) 0 := by
        have e5 := val_split 4294967296 v (b.length - 1) (by omega)
        rw [show v.drop (b.length - 1) = [v.getD (b.length - 1) 0] by rw [drop_cons' _ _ (by omega), List.drop_of_length_le (by omega)]] at e5
        have e6 : val 4294967296 [v.getD (b.length - 1) 0] = v.getD (b.length - 1) 0 := by simp [val]
        rw [e6] at e5
        have e7 := val_lt hB (v2.take (b.length - 1))
        rw [List.length_take, Nat.min_eq_left (by omega)] at e7
        rcases Int.lt_or_le (v.getD (b.length - 1) 0) 2147483648 with h | h
        · have h11 : 4294967296 ^ (b.length - 1) * (v.getD (b.length - 1) 0 + 1) ≤ 4294967296 ^ (b.length - 1) * 2147483648 := Int.mul_le_mul_of_nonneg_left (by omega) (by omega)
          rw [Int.mul_add, Int.mul_one] at h11
          omega
        · exact h
      have hul : u.length ≤ a.length + 1 := by omega
      have hUv : val 4294967296 (u ++ List.replicate (a.length + 1 - u.length) 0) = val 4294967296 a * 2 ^ s := by
        rw [val_append, val_replicate, Int.mul_zero, Int.add_zero, u4]
      have hUl : (u ++ List.replicate (a.length + 1 - u.length) (0 : Int)).length = (a.length + 1 - b.length) + b.length := by
        rw [List.length_append, List.length_replicate]; omega
      have hUL : Lim 4294967296 (u ++ List.replicate (a.length + 1 - u.length) 0) := lim_append.2 ⟨u2, lim_replicate hB _⟩
      have hUd : val 4294967296 ((u ++ List.replicate (a.length + 1 - u.length) 0).drop (a.length + 1 - b.length)) < val 4294967296 v := by
        have e5 := val_split 4294967296 (u ++ List.replicate (a.length + 1 - u.length) 0) (a.length + 1 - b.length) (by rw [hUl]; omega)
        have e6 := val_nonneg hB (hUL.take (a.length + 1 - b.length))
        have e7 := val_lt hB ha
        rw [hUv] at e5
        generalize val 4294967296 ((u ++ List.replicate (a.length + 1 - u.length) 0).drop (a.length + 1 - b.length)) = z at *
        have e8 : 4294967296 ^ (a.length + 1 - b.length) * z ≤ val 4294967296 a * 2 ^ s := by omega
        have e9 : val 4294967296 a * 2 ^ s < 4294967296 ^ a.length * 2 ^ s := Int.mul_lt_mul_of_pos_right e7 hp0
        have e10 : (4294967296 : Int) ^ a.length = 4294967296 ^ (a.length + 1 - b.length) * 4294967296 ^ (b.length - 1) := by
          rw [← Int.pow_add]; congr 1; omega
        have e11 : (0 : Int) < 4294967296 ^ (a.length + 1 - b.length) := Int.pow_pos (by decide)
        have e12 : z < 4294967296 ^ (b.length - 1) * 2 ^ s := by
          refine Int.lt_of_mul_lt_mul_left (a := 4294967296 ^ (a.length + 1 - b.length)) ?_ (by omega)
          rw [← Int.mul_assoc, ← e10]; omega
        have e13 : 4294967296 ^ (b.length - 1) * 2 ^ s ≤ (4294967296 : Int) ^ (b.length - 1) * 2147483648 := Int.mul_le_mul_of_nonneg_left hp (by omega)
        omega
      obtain ⟨q, r, h1, h2, h3, h4, h5, h6, h7, h8, h9⟩ := divmod_loop v b.length s hs32 hbl hvn v2 (by omega) htop (a.length + 1 - b.length) (by omega) (val 4294967296 a * 2 ^ s) (a.length + 1 - b.length) (List.replicate (a.length + 1 - b.length) 0) (u ++ List.replicate (a.length + 1 - u.length) 0)
        (Nat.le_refl _) (by simp) hUl hUL (lim_replicate hB _) (by rw [List.take_of_length_le (by simp)]) hUd (by rw [hUv, val_replicate, Int.mul_zero, Int.add_zero])
      refine ⟨q, r, ?_, h2, h3, h4, h5, ?_, ?_, by omega⟩
      · refine Ev.bind (f := fun k t175 => _) (Compare_ev a b ha hb na nb (by omega) (by omega)) ?_
        have w1 : ∀ _ : Unit, wrap64 ((b.length : Int) - 1) = ((b.length - 1 : Nat) : Int) := fun _ => by rw [w64 (by omega) (by omega)]; omega
        have w2 : ∀ _ : Unit, wrap64 ((a.length : Int) + 1) = ((a.length + 1 : Nat) : Int) := fun _ => by rw [w64 (by omega) (by omega)]; omega
        have w3 : ∀ _ : Unit, wrap64 (((List.replicate (a.length + 1) (0 : Int)).length : Int) - (v.length : Int)) = ((a.length + 1 - b.length : Nat) : Int) := fun _ => by rw [List.length_replicate, hvn, w64 (by omega) (by omega)]; omega
        have w4 : ∀ _ : Unit, wrap64 (((List.replicate (a.length + 1 - b.length) (0 : Int)).length : Int) - 1) = ((a.length + 1 - b.length : Nat) : Int) - 1 := fun _ => by rw [List.length_replicate, w64 (by omega) (by omega)]
        have b1 : ¬ (b.length : Int) = 1 := by omega
        have b2 : (0 : Int) ≤ ((b.length - 1 : Nat) : Int) := by omega
        have b3 : ((b.length - 1 : Nat) : Int) < (b.length : Int) := by omega
        have b4 : (0 : Int) ≤ ((a.length + 1 : Nat) : Int) := by omega
        have b5 : a.length + 1 ≤ 70368744177664 := by omega
        have b6 : (0 : Int) ≤ ((a.length + 1 - b.length : Nat) : Int) := by omega
        have b7 : a.length + 1 - b.length ≤ 70368744177664 := by omega
        refine Ev.congr (f := fun k => (nat_Shl.f k b (s : Int)).bind fun t189 => ((nat_Shl.f k a (s : Int)).bind fun t195 => ((copy_e73.f (List.replicate (a.length + 1) (0 : Int)) t195).bind fun bt198 => (if 0 ≤ (wrap64 (((List.replicate (a.length + 1) (0 : Int)).length : Int) - (t189.length : Int))) then (if (wrap64 (((List.replicate (a.length + 1) (0 : Int)).length : Int) - (t189.length : Int)) : Int).toNat ≤ 70368744177664 then ((some (List.replicate (wrap64 (((List.replicate (a.length + 1) (0 : Int)).length : Int) - (t189.length : Int)) : Int).toNat 0 : List Int)).bind fun y200 => (nat_DivMod.l0 k y200 (s : Int) t189 bt198.2 (t189.length : Int) (wrap64 ((y200.length : Int) - 1)))) else (none)) else (none))))) (fun k => ?_) ?_
        · rw [if_neg hcmp, if_neg b1, w1 (), if_pos b2, if_pos b3, ht, hse, Option.bind_some]
          simp only [w2 (), if_pos b4, if_pos b5, Option.bind_some, Int.toNat_natCast]
        · refine Ev.bind (f := fun k t189 => ((nat_Shl.f k a (s : Int)).bind fun t195 => ((copy_e73.f (List.replicate (a.length + 1) (0 : Int)) t195).bind fun bt198 => (if 0 ≤ (wrap64 (((List.replicate (a.length + 1) (0 : Int)).length : Int) - (List.length t189 : Int))) then (if (wrap64 (((List.replicate (a.length + 1) (0 : Int)).length : Int) - (List.length t189 : Int)) : Int).toNat ≤ 70368744177664 then ((some (List.replicate (wrap64 (((List.replicate (a.length + 1) (0 : Int)).length : Int) - (List.length t189 : Int)) : Int).toNat 0 : List Int)).bind fun y200 => (nat_DivMod.l0 k y200 (s : Int) t189 bt198.2 (List.length t189 : Int) (wrap64 ((y200.length : Int) - 1)))) else (none)) else (none))))) v1 ?_
          rw [w3 ()]
          refine Ev.bind (f := fun k t195 => ((copy_e73.f (List.replicate (a.length + 1) (0 : Int)) t195).bind fun bt198 => (if (0 : Int) ≤ ((a.length + 1 - b.length : Nat) : Int) then (if (((a.length + 1 - b.length : Nat) : Int)).toNat ≤ 70368744177664 then ((some (List.replicate (((a.length + 1 - b.length : Nat) : Int)).toNat 0 : List Int)).bind fun y200 => (nat_DivMod.l0 k y200 (s : Int) v bt198.2 (v.length : Int) (wrap64 ((y200.length : Int) - 1)))) else (none)) else (none)))) u1 ?_
          refine Ev.congr (fun k => ?_) h1
          unfold copy_e73.f
          simp only [Option.bind_some, if_pos b6, if_pos b7, List.length_replicate, Int.toNat_natCast, val_copy hul]
          rw [hvn]
          have w5 := w4 ()
          rw [List.length_replicate] at w5
          rw [w5]
      · rw [h6, v4]
        exact Int.mul_ediv_mul_of_pos_left _ _ hp0
      · rw [h7, v4, Int.mul_comm (val 4294967296 a), Int.mul_comm (val 4294967296 b), Int.mul_emod_mul_of_pos _ _ hp0, Int.mul_ediv_cancel_left _ (by omega)]
theorem gcd_loop : ∀ (m : Nat) (a b : List Int), val 4294967296 b ≤ m → Lim 4294967296 a → Lim 4294967296 b → Nrm a → Nrm b → a.length ≤ 34359738368 → b.length ≤ 34359738368 →
    ∃ r, Ev (fun k => nat_Gcd.l0 k a b) r ∧ Lim 4294967296 r ∧ Nrm r ∧ val 4294967296 r = (Nat.gcd (val 4294967296 a).toNat (val 4294967296 b).toNat : Nat) := by
  have hB : (0 : Int) < 4294967296 := by decide
  intro m
  induction m with
  | zero =>
    intro a b hm ha hb na nb hLa hLb
    have hb0 := val_nonneg hB hb
    have hbn : b = [] := (val_eq_zero hB hb nb).1 (by omega)
    subst hbn
    refine ⟨a, Ev.step (f := fun _ => some a) (fun k => ?_) (Ev.now _), ha, na, ?_⟩
    · simp only [nat_Gcd.l0]
      rw [if_neg (by simp)]
      unfold slices_Clone_uint32_uint32.f
      rw [if_pos (by omega)]
      rfl
    · simp only [val, Int.toNat_zero, Nat.gcd_zero_right]
      rw [Int.toNat_of_nonneg (val_nonneg hB ha)]
  | succ m ih =>
    intro a b hm ha hb na nb hLa hLb
    by_cases hbn : b = []
    · subst hbn
      exact ih a [] (by simp [val]) ha hb na nb hLa hLb
    · have hb0 := val_pos hB hb nb hbn
      have ha0 := val_nonneg hB ha
      obtain ⟨q, r, h1, h2, h3, h4, h5, h6, h7, h8⟩ := DivMod_ev a b ha hb na nb hbn hLa hLb
      have hr0 := Int.emod_nonneg (val 4294967296 a) (show val 4294967296 b ≠ 0 by omega)
      have hr1 := Int.emod_lt_of_pos (val 4294967296 a) hb0
      have hrl : r.length ≤ b.length := by
        rcases Nat.lt_or_ge b.length r.length with h | h
        · have := len_lt_val hB hb h4 h5 h; omega
        · exact h
      obtain ⟨g, g1, g2, g3, g4⟩ := ih b r (by omega) hb h4 nb h5 hLb (by omega)
      refine ⟨g, Ev.step (f := fun k => (nat_DivMod.f k a b).bind fun bt220 => nat_Gcd.l0 k b bt220.2) (fun k => ?_) (Ev.bind (f := fun k (bt220 : List Int × List Int) => nat_Gcd.l0 k b bt220.2) h1 g1), g2, g3, ?_⟩
      · have hbl : b.length ≠ 0 := fun h => hbn (List.length_eq_zero_iff.1 h)
        simp only [nat_Gcd.l0]
        rw [if_pos (by omega)]
      · rw [g4, h7, Nat.gcd_comm (val 4294967296 a).toNat, Nat.gcd_rec (val 4294967296 b).toNat (val 4294967296 a).toNat, Nat.gcd_comm]
        congr 2
        rw [Int.toNat_emod ha0 (by omega)]
theorem Gcd_ev (a b : List Int) (ha : Lim 4294967296 a) (hb : Lim 4294967296 b) (na : Nrm a) (nb : Nrm b) (hLa : a.length ≤ 34359738368) (hLb : b.length ≤ 34359738368) :
    ∃ r, Ev (fun k => nat_Gcd.f k a b) r ∧ Lim 4294967296 r ∧ Nrm r ∧ val 4294967296 r = (Nat.gcd (val 4294967296 a).toNat (val 4294967296 b).toNat : Nat) :=
  gcd_loop (val 4294967296 b).toNat a b (by have := val_nonneg (show (0 : Int) < 4294967296 by decide) hb; omega) ha hb na nb hLa hLb
structure Can (neg : Bool) (num den : List Int) : Prop where
  ln : num.length ≤ 128
  ld : den.length ≤ 128
  nn : Nrm num
  nd : Nrm den
  d0 : den ≠ []
  ng : num = [] → neg = false
  gc : Nat.gcd (val 4294967296 num).toNat (val 4294967296 den).toNat = 1
open Classical in
noncomputable def fault (neg : Bool) (num den : List Int) : Int := if num.length > 128 ∨ den.length > 128 then 3 else if Can neg num den then 0 else 2
theorem fault_size {neg : Bool} {num den : List Int} (h : num.length > 128 ∨ den.length > 128) : fault neg num den = 3 := by unfold fault; rw [if_pos h]
theorem fault_can {neg : Bool} {num den : List Int} (h : Can neg num den) : fault neg num den = 0 := by
  unfold fault; rw [if_neg (by have := h.ln; have := h.ld; omega), if_pos h]
theorem fault_bad {neg : Bool} {num den : List Int} (h1 : num.length ≤ 128) (h2 : den.length ≤ 128) (h : ¬ Can neg num den) : fault neg num den = 2 := by
  unfold fault; rw [if_neg (by omega), if_neg h]
theorem nrm_last {xs : List Int} (h : xs ≠ []) : Nrm xs ↔ ¬ xs.getD (xs.length - 1) 0 = 0 := by
  have hl : xs.length ≠ 0 := fun h' => h (List.length_eq_zero_iff.1 h')
  have h1 : xs.getLast? = some (xs.getD (xs.length - 1) 0) := by
    rw [List.getLast?_eq_getElem?, List.getD_eq_getElem?_getD, List.getElem?_eq_getElem (by omega)]; rfl
  unfold Nrm
  rw [h1]
  constructor
  · intro h2; exact h2 _ rfl
  · intro h2 x hx; rw [Option.some.inj hx] at h2; exact h2
theorem last_at {xs : List Int} (h : xs ≠ []) (hL : xs.length ≤ 1099511627776) : wrap64 ((xs.length : Int) - 1) = ((xs.length - 1 : Nat) : Int) := by
  have hl : xs.length ≠ 0 := fun h' => h (List.length_eq_zero_iff.1 h')
  rw [w64 (by omega) (by omega)]; omega
theorem Check1_eq (xs : List Int) (hL : xs.length ≤ 1099511627776) : ∃ b : Bool, number_Check_1.f xs = some b ∧ (b = true ↔ ¬ Nrm xs) := by
  unfold number_Check_1.f
  by_cases c : xs = []
  · subst c
    exact ⟨false, rfl, by simp [nrm_nil]⟩
  · have hl : xs.length ≠ 0 := fun h' => c (List.length_eq_zero_iff.1 h')
    refine ⟨xs.getD (xs.length - 1) 0 == 0, ?_, ?_⟩
    · rw [if_pos (by omega), last_at c hL, if_pos (by omega), if_pos (by omega), rd_getD]
    · rw [nrm_last c, Decidable.not_not, beq_iff_eq]
theorem one_nrm : Nrm [1] := by intro x h; simp at h; omega
theorem one_lim {B : Int} (h : 1 < B) : Lim B [1] := by intro x hx; rw [List.mem_singleton] at hx; omega
theorem val_one (B : Int) : val B [1] = 1 := by simp [val]
theorem eq_one {B : Int} (hB : 1 < B) {xs : List Int} (hx : Lim B xs) (hn : Nrm xs) : val B xs = 1 ↔ xs = [1] :=
  ⟨fun h => val_inj (by omega) hx (one_lim hB) hn one_nrm (by rw [h, val_one]), fun h => by rw [h, val_one]⟩
theorem Check_ev (neg : Bool) (num den : List Int) (hn : Lim 4294967296 num) (hd : Lim 4294967296 den) : Ev (fun k => number_Check.f k neg num den) (fault neg num den) := by
  have hB : (0 : Int) < 4294967296 := by decide
  by_cases s1 : num.length > 128
  · rw [fault_size (Or.inl s1)]
    refine Ev.congr (f := fun k => number_Check.j0 k true neg num den) (fun k => ?_) (Ev.step (f := fun _ => some 3) (fun k => ?_) (Ev.now _))
    · unfold number_Check.f; rw [if_pos (by omega)]
    · simp only [number_Check.j0]; rw [if_pos trivial]
  · by_cases s2 : den.length > 128
    · rw [fault_size (Or.inr s2)]
      refine Ev.congr (f := fun k => number_Check.j0 k true neg num den) (fun k => ?_) (Ev.step (f := fun _ => some 3) (fun k => ?_) (Ev.now _))
      · unfold number_Check.f; rw [if_neg (by omega), decide_eq_true (by omega)]
      · simp only [number_Check.j0]; rw [if_pos trivial]
    · obtain ⟨b1, e1, i1⟩ := Check1_eq num (by omega)
      obtain ⟨b2, e2, i2⟩ := Check1_eq den (by omega)
      have hj0 : ∀ r, Ev (fun k => number_Check.j0 k false neg num den) r → Ev (fun k => number_Check.f k neg num den) r := fun r h =>
        Ev.congr (fun k => by unfold number_Check.f; rw [if_neg (by omega), decide_eq_false (by omega)]) h
      have hbad : Ev (fun k => number_Check.j1 k true neg num den) 2 := Ev.step (f := fun _ => some 2) (fun k => by simp only [number_Check.j1]; rw [if_pos trivial]) (Ev.now _)
      have hbad2 : Ev (fun k => number_Check.j2 k true neg num den) 2 := Ev.step (f := fun _ => some 2) (fun k => by simp only [number_Check.j2]; rw [if_pos trivial]) (Ev.now _)
      by_cases c1 : Nrm num
      · have e1' : b1 = false := by cases b1 with | false => rfl | true => exact absurd c1 (i1.1 rfl)
        by_cases c2 : Nrm den
        · have e2' : b2 = false := by cases b2 with | false => rfl | true => exact absurd c2 (i2.1 rfl)
          have hs : ∀ k, number_Check.j0 (k + 1) false neg num den = number_Check.j1 k ((den.length : Int) == 0) neg num den := by
            intro k
            simp only [number_Check.j0]
            rw [if_neg (by decide), e1, Option.bind_some, e1', if_neg (by decide), e2, Option.bind_some, e2', if_neg (by decide)]
          by_cases c3 : den = []
          · rw [fault_bad (by omega) (by omega) (fun h => h.d0 c3)]
            refine hj0 _ (Ev.step hs ?_)
            subst c3
            exact hbad
          · have hdl : den.length ≠ 0 := fun h' => c3 (List.length_eq_zero_iff.1 h')
            have hz : ((den.length : Int) == 0) = false := by rw [beq_eq_false_iff_ne]; omega
            refine hj0 _ (Ev.step hs ?_)
            rw [hz]
            have hone : Nat.gcd (val 4294967296 num).toNat (val 4294967296 den).toNat = 1 → (num = [] → neg = false) → Ev (fun k => number_Check.j2 k false neg num den) 0 := by
              intro hg hng
              obtain ⟨g, g1, g2, g3, g4⟩ := Gcd_ev num den hn hd c1 c2 (by omega) (by omega)
              have hg1 : g = [1] := (eq_one (by decide) g2 g3).1 (by rw [g4, hg]; rfl)
              refine Ev.step (f := fun k => (if decide (den = [1]) = true then (some 0) else ((nat_IsOne.f num).bind fun t234 => (if t234 = true then (some 0) else ((nat_Gcd.f k num den).bind fun t235 => ((nat_IsOne.f t235).bind fun t238 => (if t238 = true then (some 0) else (some 2)))))))) (fun k => ?_) ?_
              · simp only [number_Check.j2]
                rw [if_neg (by decide), IsOne_eq, Option.bind_some]
              · by_cases o1 : den = [1]
                · exact Ev.congr (fun k => by rw [if_pos (decide_eq_true o1)]) (Ev.now 0)
                · refine Ev.congr (f := fun k => if decide (num = [1]) = true then some 0 else ((nat_Gcd.f k num den).bind fun t235 => ((nat_IsOne.f t235).bind fun t238 => (if t238 = true then (some 0) else (some 2))))) (fun k => ?_) ?_
                  · rw [if_neg (by rw [decide_eq_true_iff]; exact o1), IsOne_eq, Option.bind_some]
                  · by_cases o2 : num = [1]
                    · exact Ev.congr (fun k => by rw [if_pos (decide_eq_true o2)]) (Ev.now 0)
                    · refine Ev.congr (fun k => by rw [if_neg (by rw [decide_eq_true_iff]; exact o2)]) (Ev.bind (f := fun _ t235 => ((nat_IsOne.f t235).bind fun t238 => (if t238 = true then (some 0) else (some 2)))) g1 ?_)
                      refine Ev.congr (fun k => ?_) (Ev.now 0)
                      rw [IsOne_eq, Option.bind_some, if_pos (decide_eq_true hg1)]
            have hmore : ¬ Nat.gcd (val 4294967296 num).toNat (val 4294967296 den).toNat = 1 → Ev (fun k => number_Check.j2 k false neg num den) 2 := by
              intro hg
              obtain ⟨g, g1, g2, g3, g4⟩ := Gcd_ev num den hn hd c1 c2 (by omega) (by omega)
              have hg1 : ¬ g = [1] := fun h => hg (by rw [h, val_one] at g4; omega)
              have o1 : ¬ den = [1] := fun h => hg (by rw [h, val_one]; exact Nat.gcd_one_right _)
              have o2 : ¬ num = [1] := fun h => hg (by rw [h, val_one]; exact Nat.gcd_one_left _)
              refine Ev.step (f := fun k => ((nat_Gcd.f k num den).bind fun t235 => ((nat_IsOne.f t235).bind fun t238 => (if t238 = true then (some 0) else (some 2))))) (fun k => ?_) ?_
              · simp only [number_Check.j2]
                rw [if_neg (by decide), IsOne_eq, Option.bind_some, if_neg (by rw [decide_eq_true_iff]; exact o1), IsOne_eq, Option.bind_some, if_neg (by rw [decide_eq_true_iff]; exact o2)]
              · refine Ev.bind (f := fun _ t235 => ((nat_IsOne.f t235).bind fun t238 => (if t238 = true then (some 0) else (some 2)))) g1 ?_
                refine Ev.congr (fun k => ?_) (Ev.now 2)
                rw [IsOne_eq, Option.bind_some, if_neg (by rw [decide_eq_true_iff]; exact hg1)]
            by_cases c4 : num = []
            · have hv0 : val 4294967296 num = 0 := by rw [c4]; rfl
              have hge : Nat.gcd (val 4294967296 num).toNat (val 4294967296 den).toNat = 1 ↔ den = [1] := by
                rw [hv0, Int.toNat_zero, Nat.gcd_zero_left, ← eq_one (B := 4294967296) (by decide) hd c2]
                have := val_nonneg hB hd
                omega
              by_cases c5 : neg = true
              · rw [fault_bad (by omega) (by omega) (fun h => by have := h.ng c4; rw [c5] at this; cases this)]
                refine Ev.step (fun k => ?_) hbad2
                simp only [number_Check.j1]
                rw [if_neg (by decide), c4, if_pos (by rfl), if_pos c5]
              · have hs2 : ∀ k, number_Check.j1 (k + 1) false neg num den = number_Check.j2 k (!decide (den = [1])) neg num den := by
                  intro k
                  simp only [number_Check.j1]
                  rw [if_neg (by decide), c4, if_pos (by rfl), if_neg c5, IsOne_eq, Option.bind_some]
                refine Ev.step hs2 ?_
                by_cases c6 : den = [1]
                · rw [fault_can ⟨by omega, by omega, c1, c2, c3, fun _ => by cases neg <;> simp_all, hge.2 c6⟩, decide_eq_true c6]
                  exact hone (hge.2 c6) (fun _ => by cases neg <;> simp_all)
                · rw [fault_bad (by omega) (by omega) (fun h => c6 (hge.1 h.gc)), decide_eq_false c6]
                  exact hbad2
            · have hnl : num.length ≠ 0 := fun h' => c4 (List.length_eq_zero_iff.1 h')
              refine Ev.step (f := fun k => number_Check.j2 k false neg num den) (fun k => ?_) ?_
              · simp only [number_Check.j1]
                rw [if_neg (by decide), if_neg (by omega)]
              · by_cases c6 : Nat.gcd (val 4294967296 num).toNat (val 4294967296 den).toNat = 1
                · rw [fault_can ⟨by omega, by omega, c1, c2, c3, fun h => absurd h c4, c6⟩]
                  exact hone c6 (fun h => absurd h c4)
                · rw [fault_bad (by omega) (by omega) (fun h => c6 h.gc)]
                  exact hmore c6
        · rw [fault_bad (by omega) (by omega) (fun h => c2 h.nd)]
          refine hj0 _ (Ev.step (fun k => ?_) hbad)
          simp only [number_Check.j0]
          rw [if_neg (by decide), e1, Option.bind_some, e1', if_neg (by decide), e2, Option.bind_some, if_pos (i2.2 c2)]
      · rw [fault_bad (by omega) (by omega) (fun h => c1 h.nn)]
        refine hj0 _ (Ev.step (fun k => ?_) hbad)
        simp only [number_Check.j0]
        rw [if_neg (by decide), e1, Option.bind_some, if_pos (i1.2 c1)]
theorem mul_inner (a b : List Int) (hb : Lim 4294967296 b) (L i : Nat) (ai : Int) (h0 : 0 ≤ ai) (h1 : ai < 4294967296) (hL : L ≤ 549755813888) (hi : i + b.length < L) :
    ∀ (d j : Nat) (out : List Int) (c : Int), d + j = b.length → out.length = L → Lim 4294967296 out → 0 ≤ c → c < 4294967296 → out.getD (i + b.length) 0 = 0 →
    ∃ r, r.length = L ∧ Lim 4294967296 r ∧ val 4294967296 r = val 4294967296 out + 4294967296 ^ (i + j) * (c + ai * val 4294967296 (b.drop j)) ∧ (∀ p, i + b.length < p → r.getD p 0 = out.getD p 0) ∧
      ∀ (R : List Int), Ev (fun k => nat_Mul.l0 k b r a (a.length : Int) ((i + 1 : Nat) : Int)) R → Ev (fun k => nat_Mul.l1 k b out (i : Int) ai c a (a.length : Int) (i : Int) b (b.length : Int) (j : Int)) R := by
  have hB : (0 : Int) < 4294967296 := by decide
  intro d
  induction d with
  | zero =>
    intro j out c hd hl ho hc0 hc hz
    have hj : j = b.length := by omega
    subst hj
    have g1 : ∀ _ : Unit, wrap64 ((i : Int) + (b.length : Int)) = ((i + b.length : Nat) : Int) := fun _ => by rw [w64 (by omega) (by omega)]; omega
    have g2 : ∀ _ : Unit, wrap64 ((i : Int) + 1) = ((i + 1 : Nat) : Int) := fun _ => by rw [w64 (by omega) (by omega)]; omega
    have g3 : (0 : Int) ≤ ((i + b.length : Nat) : Int) := by omega
    have g4 : ((i + b.length : Nat) : Int) < (out.length : Int) := by omega
    have g5 : c % 4294967296 = c := by omega
    refine ⟨out.set (i + b.length) c, by rw [List.length_set, hl], ho.set _ ⟨hc0, hc⟩, ?_, ?_, fun R hR => ?_⟩
    · rw [val_set _ _ _ _ (by omega), hz, List.drop_length]
      simp [val]
    · intro p hp
      rw [List.getD_eq_getElem?_getD, List.getD_eq_getElem?_getD, List.getElem?_set_ne (by omega)]
    · refine Ev.step (f := fun k => nat_Mul.l0 k b (out.set (i + b.length) c) a (a.length : Int) ((i + 1 : Nat) : Int)) (fun k => ?_) hR
      simp only [nat_Mul.l1]
      rw [if_neg (by omega), g1 (), if_pos g3, if_pos g4, g2 (), g5, Int.toNat_natCast]
  | succ d ih =>
    intro j out c hd hl ho hc0 hc hz
    have g0 : d + (j + 1) = b.length := by omega
    have g1 : (j : Int) < (b.length : Int) := by omega
    have g2 : (0 : Int) ≤ (j : Int) := by omega
    have gj : j < b.length := by omega
    have g3 : i + j < out.length := by omega
    have g4 : ((i + j : Nat) : Int) < (out.length : Int) := by omega
    have g5 : (0 : Int) ≤ ((i + j : Nat) : Int) := by omega
    have g6 : i + j ≠ i + b.length := by omega
    have gw : ∀ _ : Unit, wrap64 ((j : Int) + 1) = ((j + 1 : Nat) : Int) := fun _ => by rw [w64 (by omega) (by omega)]; omega
    have gv : ∀ _ : Unit, wrap64 ((i : Int) + (j : Int)) = ((i + j : Nat) : Int) := fun _ => by rw [w64 (by omega) (by omega)]; omega
    have hb1 := hb.rd hB (j : Int)
    have hbg : rd b (j : Int) = b.getD j 0 := rd_getD b j
    generalize rd b (j : Int) = y at hb1 hbg
    have ho1 := ho.rd hB ((i + j : Nat) : Int)
    have hog : rd out ((i + j : Nat) : Int) = out.getD (i + j) 0 := rd_getD out (i + j)
    generalize rd out ((i + j : Nat) : Int) = o at ho1 hog
    obtain ⟨m1, m2⟩ := mul_lim h0 h1 hb1.1 hb1.2
    have e : IntKind.u64.wrap (c + IntKind.u64.wrap (IntKind.u64.wrap (IntKind.u64.wrap ai * IntKind.u64.wrap y) + IntKind.u64.wrap o)) = c + ai * y + o := by
      rw [u64_id h0 (by omega), u64_id hb1.1 (by omega), u64_id m1 (by omega), u64_id ho1.1 (by omega), u64_id (x := ai * y + o) (by omega) (by omega), u64_id (by omega) (by omega), Int.add_assoc]
    obtain ⟨q, t, hq, ht, q1, q2, q3, q4, q5⟩ : ∃ q t : Int, (c + ai * y + o) % 4294967296 = t ∧ (c + ai * y + o) / 4294967296 = q ∧ 0 ≤ t ∧ t < 4294967296 ∧ 0 ≤ q ∧ q < 4294967296 ∧ t = c + ai * y + o - 4294967296 * q := by
      generalize ai * y = p at m1 m2
      exact ⟨_, _, rfl, rfl, by omega, by omega, by omega, by omega, by omega⟩
    obtain ⟨r, r1, r2, r3, r4, r5⟩ := ih (j + 1) (out.set (i + j) t) q g0 (by rw [List.length_set, hl]) (ho.set _ ⟨q1, q2⟩) q3 q4 (by
      rw [List.getD_eq_getElem?_getD, List.getElem?_set_ne g6, ← List.getD_eq_getElem?_getD, hz])
    refine ⟨r, r1, r2, ?_, ?_, fun R hR => ?_⟩
    · rw [r3, val_set _ _ _ _ g3, ← hog, val_drop _ b j gj, ← hbg, q5, ← Nat.add_assoc, Int.pow_succ]
      generalize val 4294967296 (b.drop (j + 1)) = v
      generalize (4294967296 : Int) ^ (i + j) = p
      clear q5 ht hq e m1 m2 r3 r5 r4
      grind
    · intro p hp
      rw [r4 p hp, List.getD_eq_getElem?_getD, List.getD_eq_getElem?_getD, List.getElem?_set_ne (by omega)]
    · refine Ev.step (f := fun k => nat_Mul.l1 k b (out.set (i + j) t) (i : Int) ai q a (a.length : Int) (i : Int) b (b.length : Int) ((j + 1 : Nat) : Int)) (fun k => ?_) (r5 R hR)
      simp only [nat_Mul.l1]
      rw [if_pos g1, if_pos g2, if_pos g1, gv (), if_pos g5, if_pos g4, rd_getD b j, ← hbg, rd_getD out (i + j), ← hog, e, hq, ht, gw (), Int.toNat_natCast]
theorem mul_outer (a b : List Int) (ha : Lim 4294967296 a) (hb : Lim 4294967296 b) (hL : a.length + b.length ≤ 549755813888) :
    ∀ (d i : Nat) (out : List Int), d + i = a.length → out.length = a.length + b.length → Lim 4294967296 out → (∀ p, i + b.length ≤ p → out.getD p 0 = 0) →
    ∃ r, Ev (fun k => nat_Mul.l0 k b out a (a.length : Int) (i : Int)) (trim r) ∧ r.length = a.length + b.length ∧ Lim 4294967296 r ∧ val 4294967296 r = val 4294967296 out + 4294967296 ^ i * (val 4294967296 (a.drop i) * val 4294967296 b) := by
  have hB : (0 : Int) < 4294967296 := by decide
  intro d
  induction d with
  | zero =>
    intro i out hd hl ho hz
    have hi : i = a.length := by omega
    subst hi
    refine ⟨out, Ev.step (f := fun k => (nat_Trim.f k out).bind fun t => some t) (fun k => ?_) (Ev.bind (f := fun _ t => some t) (Trim_ev out (by omega)) (Ev.now _)), hl, ho, ?_⟩
    · simp only [nat_Mul.l0]; rw [if_neg (by omega)]
    · rw [List.drop_length]; simp [val]
  | succ d ih =>
    intro i out hd hl ho hz
    have g0 : d + (i + 1) = a.length := by omega
    have g1 : (i : Int) < (a.length : Int) := by omega
    have g2 : (0 : Int) ≤ (i : Int) := by omega
    have gi : i < a.length := by omega
    have ha1 := ha.rd hB (i : Int)
    have hag : rd a (i : Int) = a.getD i 0 := rd_getD a i
    obtain ⟨r, r1, r2, r3, r4, r5⟩ := mul_inner a b hb (a.length + b.length) i (rd a (i : Int)) ha1.1 ha1.2 hL (by omega) b.length 0 out 0 (by omega) hl ho (by decide) (by decide) (hz _ (Nat.le_refl _))
    obtain ⟨s, s1, s2, s3, s4⟩ := ih (i + 1) r g0 r1 r2 (by
      intro p hp
      rw [r4 p (by omega)]
      exact hz p (by omega))
    refine ⟨s, Ev.step (f := fun k => nat_Mul.l1 k b out (i : Int) (rd a (i : Int)) 0 a (a.length : Int) (i : Int) b (b.length : Int) 0) (fun k => ?_) (r5 _ s1), s2, s3, ?_⟩
    · simp only [nat_Mul.l0]
      rw [if_pos g1, if_pos g2, if_pos g1]
    · rw [s4, r3, val_drop _ a i gi, ← hag, List.drop_zero, Nat.add_zero, Int.pow_succ]
      generalize val 4294967296 (a.drop (i + 1)) = v
      generalize val 4294967296 b = u
      generalize (4294967296 : Int) ^ i = p
      clear s4 r3 r5 r4 s1
      grind
theorem Mul_ev (a b : List Int) (ha : Lim 4294967296 a) (hb : Lim 4294967296 b) (hL : a.length + b.length ≤ 549755813888) :
    ∃ r, Ev (fun k => nat_Mul.f k a b) r ∧ Lim 4294967296 r ∧ Nrm r ∧ val 4294967296 r = val 4294967296 a * val 4294967296 b ∧ r.length ≤ a.length + b.length := by
  have e1 : wrap64 ((a.length : Int) + (b.length : Int)) = ((a.length + b.length : Nat) : Int) := by rw [w64 (by omega) (by omega)]; omega
  obtain ⟨r, h1, h2, h3, h4⟩ := mul_outer a b ha hb hL a.length 0 (List.replicate (a.length + b.length) 0) (by omega) (by simp) (lim_replicate (by decide) _) (fun p _ => by
    rw [List.getD_eq_getElem?_getD]
    rcases Nat.lt_or_ge p (a.length + b.length) with h | h
    · rw [List.getElem?_replicate_of_lt h]; rfl
    · rw [List.getElem?_eq_none (by simpa using h)]; rfl)
  refine ⟨trim r, Ev.congr (fun k => ?_) h1, lim_trim h3, nrm_trim _, by rw [val_trim, h4, val_replicate, List.drop_zero]; simp, by rw [← h2]; exact length_trim r⟩
  unfold nat_Mul.f
  rw [e1, if_pos (by omega), if_pos (by omega), Int.toNat_natCast]
  rfl
end Go.Proofs.YtemnjgkicndmjaaGreatDoor.Q
namespace Go.Proofs.YtemnjgkicndmjaaGreatDoor.E
open Go.RowKit Go.Proofs.YtemnjgkicndmjaaGreatDoorW.PrintWords
set_option linter.unusedVariables false
set_option linter.unusedSimpArgs false
inductive AV where
  | any | bool (b : Bool) | int (k : IntKind) (n : Int) | str (s : ByteArray) | nil
  | z0 | pnil | mnil | fnil
  | row (k : IntKind) (l : List Int) | arr (sz : Nat) (l : List AV) | at_ (l : List AV) | ptr (h off : Nat) | sl (s h n : Nat) | mp (h : Nat) | fn (f : Nat) (l : List AV)
  | agg (l : List AV) | tup (l : List AV) | mc (ks vs : List AV) (bs : List Nat) (clock : Nat)
instance : Inhabited AV := ⟨.any⟩
def Reads (a : Addr) (vs : List Value) (W : World) : Prop := ∀ i u, vs[i]? = some u → W.cell? (a.add i) = some u
mutual
def Rep (φ : Nat → Option (Nat × Nat)) (W : World) (ok : Nat → Prop) : AV → Value → Prop
  | .any, _ => True
  | .bool b, v => v = .bool b
  | .int k n, v => v = .int k n
  | .str s, v => v = .string s
  | .nil, v => v = .slice none 0 0
  | .row k l, v => ∃ A c, v = .slice A l.length c ∧ l.length ≤ c ∧ Kd.F (Kd.int k) W ok A l.length l
  | .arr sz l, v => ∃ a n c vs, v = .slice (some a) n c ∧ n ≤ c ∧ n * sz = l.length ∧ n ≤ 9223372036854775807 ∧ Foot (Reads a vs) W ok ∧ Reps φ W ok l vs
  | .at_ l, v => ∃ a vs, v = .pointer (some a) ∧ a.spot = none ∧ Foot (Reads a vs) W ok ∧ Reps φ W ok l vs
  | .z0, v => ∃ A, v = .slice A 0 0
  | .pnil, v => v = .pointer none
  | .mnil, v => v = .map none
  | .fnil, v => v = .nilFunc
  | .ptr h off, v => ∃ b t, φ h = some (b, t) ∧ v = .pointer (some ⟨b, off, none⟩)
  | .sl s h n, v => ∃ b c, φ h = some (b, c * s) ∧ v = .slice (some ⟨b, 0, none⟩) n c ∧ n ≤ c ∧ c ≤ 9223372036854775807
  | .mp h, v => ∃ b, φ h = some (b, 0) ∧ v = .map (some b)
  | .fn f l, v => ∃ cs, v = .func (.func f) #[] cs ∧ Reps φ W ok l cs.toList
  | .agg l, v => ∃ cs, v = .agg cs ∧ Reps φ W ok l cs.toList
  | .tup l, v => ∃ cs, v = .tuple cs ∧ Reps φ W ok l cs.toList
  | .mc _ _ _ _, _ => False
def Reps (φ : Nat → Option (Nat × Nat)) (W : World) (ok : Nat → Prop) : List AV → List Value → Prop
  | [], vs => vs = []
  | x :: l, vs => ∃ v vs', vs = v :: vs' ∧ Rep φ W ok x v ∧ Reps φ W ok l vs'
end
mutual
def noPtr : AV → Bool
  | .ptr _ _ | .sl _ _ _ | .mp _ | .mc _ _ _ _ => false
  | .arr _ l | .at_ l | .agg l | .tup l | .fn _ l => noPtrs l
  | _ => true
def noPtrs : List AV → Bool
  | [] => true
  | x :: l => noPtr x && noPtrs l
end
def atom : AV → Bool
  | .agg _ | .tup _ | .any | .mc _ _ _ _ => false
  | _ => true
section
variable {φ φ' : Nat → Option (Nat × Nat)} {W W1 : World} {ok ok' : Nat → Prop}
theorem Foot_move {p : World → Prop} (h : Foot p W ok) (hok : ∀ k, ok k → k < W.heap.size → ok' k) (hm : ∀ k, ok k → k < W.heap.size → W1.heap[k]? = W.heap[k]?) : Foot p W1 ok' :=
  ((h.bound).step (fun k hk hl => hm k hk.1 hl)).mono (fun k hk => hok k hk.1 hk.2)
mutual
theorem Rep.move (hφ : ∀ h b, φ h = some b → φ' h = some b) (hok : ∀ k, ok k → k < W.heap.size → ok' k) (hm : ∀ k, ok k → k < W.heap.size → W1.heap[k]? = W.heap[k]?) : ∀ (x : AV) {v : Value}, Rep φ W ok x v → Rep φ' W1 ok' x v
  | .any, _, h => by simp only [Rep]
  | .bool b, _, h => by simpa only [Rep] using h
  | .int k n, _, h => by simpa only [Rep] using h
  | .str s, _, h => by simpa only [Rep] using h
  | .nil, _, h => by simpa only [Rep] using h
  | .row k l, _, h => by
    simp only [Rep] at h ⊢
    obtain ⟨A, c, h1, h2, h3⟩ := h
    exact ⟨A, c, h1, h2, Foot_move h3 hok hm⟩
  | .arr sz l, _, h => by
    simp only [Rep] at h ⊢
    obtain ⟨a, n, c, vs, h1, h2, h3, h4, h5, h6⟩ := h
    exact ⟨a, n, c, vs, h1, h2, h3, h4, Foot_move h5 hok hm, Reps.move hφ hok hm l h6⟩
  | .at_ l, _, h => by
    simp only [Rep] at h ⊢
    obtain ⟨a, vs, h1, h2, h3, h4⟩ := h
    exact ⟨a, vs, h1, h2, Foot_move h3 hok hm, Reps.move hφ hok hm l h4⟩
  | .z0, _, h => by simpa only [Rep] using h
  | .pnil, _, h => by simpa only [Rep] using h
  | .mnil, _, h => by simpa only [Rep] using h
  | .fnil, _, h => by simpa only [Rep] using h
  | .mc _ _ _ _, _, h => by simp only [Rep] at h
  | .ptr h off, _, hh => by
    simp only [Rep] at hh ⊢
    obtain ⟨b, t, h1, h2⟩ := hh
    exact ⟨b, t, hφ _ _ h1, h2⟩
  | .sl s h n, _, hh => by
    simp only [Rep] at hh ⊢
    obtain ⟨b, c, h1, h2⟩ := hh
    exact ⟨b, c, hφ _ _ h1, h2⟩
  | .mp h, _, hh => by
    simp only [Rep] at hh ⊢
    obtain ⟨b, h1, h2⟩ := hh
    exact ⟨b, hφ _ _ h1, h2⟩
  | .fn f l, _, h => by
    simp only [Rep] at h ⊢
    obtain ⟨cs, h1, h2⟩ := h
    exact ⟨cs, h1, Reps.move hφ hok hm l h2⟩
  | .agg l, _, h => by
    simp only [Rep] at h ⊢
    obtain ⟨cs, h1, h2⟩ := h
    exact ⟨cs, h1, Reps.move hφ hok hm l h2⟩
  | .tup l, _, h => by
    simp only [Rep] at h ⊢
    obtain ⟨cs, h1, h2⟩ := h
    exact ⟨cs, h1, Reps.move hφ hok hm l h2⟩
theorem Reps.move (hφ : ∀ h b, φ h = some b → φ' h = some b) (hok : ∀ k, ok k → k < W.heap.size → ok' k) (hm : ∀ k, ok k → k < W.heap.size → W1.heap[k]? = W.heap[k]?) : ∀ (l : List AV) {vs : List Value}, Reps φ W ok l vs → Reps φ' W1 ok' l vs
  | [], _, h => by simpa only [Reps] using h
  | x :: l, _, h => by
    simp only [Reps] at h ⊢
    obtain ⟨v, vs', h1, h2, h3⟩ := h
    exact ⟨v, vs', h1, Rep.move hφ hok hm x h2, Reps.move hφ hok hm l h3⟩
end
mutual
theorem Rep.free : ∀ (x : AV) {v : Value}, noPtr x = true → Rep φ W ok x v → Rep φ' W ok x v
  | .any, _, _, h => by simp only [Rep]
  | .bool b, _, _, h => by simpa only [Rep] using h
  | .int k n, _, _, h => by simpa only [Rep] using h
  | .str s, _, _, h => by simpa only [Rep] using h
  | .nil, _, _, h => by simpa only [Rep] using h
  | .row k l, _, _, h => by simpa only [Rep] using h
  | .arr sz l, _, hn, h => by
    simp only [Rep] at h ⊢; simp only [noPtr] at hn
    obtain ⟨a, n, c, vs, h1, h2, h3, h4, h5, h6⟩ := h
    exact ⟨a, n, c, vs, h1, h2, h3, h4, h5, Reps.free l hn h6⟩
  | .at_ l, _, hn, h => by
    simp only [Rep] at h ⊢; simp only [noPtr] at hn
    obtain ⟨a, vs, h1, h2, h3, h4⟩ := h
    exact ⟨a, vs, h1, h2, h3, Reps.free l hn h4⟩
  | .z0, _, _, h => by simpa only [Rep] using h
  | .pnil, _, _, h => by simpa only [Rep] using h
  | .mnil, _, _, h => by simpa only [Rep] using h
  | .fnil, _, _, h => by simpa only [Rep] using h
  | .mc _ _ _ _, _, hn, _ => by simp [noPtr] at hn
  | .ptr h off, _, hn, _ => by simp [noPtr] at hn
  | .sl _ _ _, _, hn, _ => by simp [noPtr] at hn
  | .mp _, _, hn, _ => by simp [noPtr] at hn
  | .fn f l, _, hn, h => by
    simp only [Rep] at h ⊢; simp only [noPtr] at hn
    obtain ⟨cs, h1, h2⟩ := h
    exact ⟨cs, h1, Reps.free l hn h2⟩
  | .agg l, _, hn, h => by
    simp only [Rep] at h ⊢; simp only [noPtr] at hn
    obtain ⟨cs, h1, h2⟩ := h
    exact ⟨cs, h1, Reps.free l hn h2⟩
  | .tup l, _, hn, h => by
    simp only [Rep] at h ⊢; simp only [noPtr] at hn
    obtain ⟨cs, h1, h2⟩ := h
    exact ⟨cs, h1, Reps.free l hn h2⟩
theorem Reps.free : ∀ (l : List AV) {vs : List Value}, noPtrs l = true → Reps φ W ok l vs → Reps φ' W ok l vs
  | [], _, _, h => by simpa only [Reps] using h
  | x :: l, _, hn, h => by
    simp only [Reps] at h ⊢; simp only [noPtrs, Bool.and_eq_true] at hn
    obtain ⟨v, vs', h1, h2, h3⟩ := h
    exact ⟨v, vs', h1, Rep.free x hn.1 h2, Reps.free l hn.2 h3⟩
end
theorem Reps.length : ∀ {l : List AV} {vs : List Value}, Reps φ W ok l vs → vs.length = l.length
  | [], _, h => by simp only [Reps] at h; subst h; rfl
  | x :: l, _, h => by
    simp only [Reps] at h
    obtain ⟨v, vs', rfl, _, h3⟩ := h
    simp [Reps.length h3]
theorem Reps.get : ∀ {l : List AV} {vs : List Value} (i : Nat) {x : AV}, Reps φ W ok l vs → l[i]? = some x → ∃ v, vs[i]? = some v ∧ Rep φ W ok x v
  | [], _, i, _, _, hx => by simp at hx
  | y :: l, _, i, x, h, hx => by
    simp only [Reps] at h
    obtain ⟨v, vs', rfl, h2, h3⟩ := h
    cases i with
    | zero => simp at hx; subst hx; exact ⟨v, rfl, h2⟩
    | succ i => simpa using Reps.get i h3 (by simpa using hx)
theorem Reps.drop : ∀ {l : List AV} {vs : List Value} (i : Nat), Reps φ W ok l vs → Reps φ W ok (l.drop i) (vs.drop i)
  | [], _, i, h => by simp only [Reps] at h; subst h; simp [Reps]
  | y :: l, _, i, h => by
    have h' := h
    simp only [Reps] at h
    obtain ⟨v, vs', rfl, h2, h3⟩ := h
    cases i with
    | zero => exact h'
    | succ i => simpa using Reps.drop i h3
theorem Reps.take : ∀ {l : List AV} {vs : List Value} (i : Nat), Reps φ W ok l vs → Reps φ W ok (l.take i) (vs.take i)
  | [], _, i, h => by simp only [Reps] at h; subst h; simp [Reps]
  | y :: l, _, i, h => by
    simp only [Reps] at h
    obtain ⟨v, vs', rfl, h2, h3⟩ := h
    cases i with
    | zero => simp [Reps]
    | succ i => simp only [List.take_succ_cons, Reps]; exact ⟨_, _, rfl, h2, Reps.take i h3⟩
theorem Reps.append : ∀ {l l' : List AV} {vs vs' : List Value}, Reps φ W ok l vs → Reps φ W ok l' vs' → Reps φ W ok (l ++ l') (vs ++ vs')
  | [], _, _, _, h, h' => by simp only [Reps] at h; subst h; simpa using h'
  | y :: l, _, _, _, h, h' => by
    simp only [Reps] at h
    obtain ⟨v, vs', rfl, h2, h3⟩ := h
    simp only [List.cons_append, Reps]; exact ⟨_, _, rfl, h2, Reps.append h3 h'⟩
theorem Rep.one {x : AV} {v : Value} (ha : atom x = true) (h : Rep φ W ok x v) : v.oneCell' = true ∧ v.cells = #[v] := by
  cases x <;> simp only [atom] at ha <;> first | cases ha | skip
  all_goals (simp only [Rep] at h)
  all_goals first
    | (subst h; exact ⟨rfl, rfl⟩)
    | (obtain ⟨_, _, rfl, _⟩ := h; exact ⟨rfl, rfl⟩)
    | (obtain ⟨_, rfl, _⟩ := h; exact ⟨rfl, rfl⟩)
    | (obtain ⟨_, _, _, _, rfl, _⟩ := h; exact ⟨rfl, rfl⟩)
    | (obtain ⟨_, _, rfl⟩ := h; exact ⟨rfl, rfl⟩)
    | (obtain ⟨_, rfl⟩ := h; exact ⟨rfl, rfl⟩)
    | (obtain ⟨_, _, _, rfl, _⟩ := h; exact ⟨rfl, rfl⟩)
    | (obtain ⟨_, _, _, rfl⟩ := h; exact ⟨rfl, rfl⟩)
end
end Go.Proofs.YtemnjgkicndmjaaGreatDoor.E
