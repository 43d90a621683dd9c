/- What this text proves: a part of the walk and of the plain laws of one card; no conditions. -/
import Derived.Test.YtemnjgkicndmjaaGreatDoorNb4
import Derived.Test.YtemnjgkicndmjaaGreatDoorCards
import Derived.Test.YtemnjgkicndmjaaGreatDoorTie
import Derived.WalkKit
import Derived.ProofKit
import Derived.OpenShut
import Derived.ShutString
import Derived.ChangeOld
import Derived.Below
import Derived.Carry
import Derived.Deep.DeepHandedRow
import Derived.Lib.SmallJoins
import Derived.ChangeSlices
import Derived.LaidLaws
import Derived.ChangeSame
import Derived.Stop.Joined
import Derived.SevenTiedAt
namespace Go.Proofs.YtemnjgkicndmjaaGreatDoor.Q
open Go.RowKit Go.Proofs.YtemnjgkicndmjaaGreatDoorW.PrintWords Go.Proofs.YtemnjgkicndmjaaGreatDoorW.PrintLast Go.Proofs.YtemnjgkicndmjaaGreatDoorW.PrintMore
attribute [local go_sem] max2_int min2_int max_two min_two max_three min_three max_four min_four
set_option linter.unusedVariables false
set_option linter.unusedSimpArgs false
mutual
def nat_Decimal.l0 : Nat → List Int → List Int → Option (ByteArray)
 | 0, _, _ => none
 | k + 1, x0, x3 => if (x0.length : Int) > 0 then ((nat_DivSmall.f k x0 1000000000).bind fun bt1501 => (if x3.length < 35184372088832 then (nat_Decimal.l0 k bt1501.1 (x3 ++ [bt1501.2])) else (none))) else (nat_Decimal.l1 k x3 ([] : List Int) (wrap64 ((x3.length : Int) - 1)))
def nat_Decimal.l1 : Nat → List Int → List Int → Int → Option (ByteArray)
 | 0, _, _, _ => none
 | k + 1, x3, x6, x7 => if x7 ≥ 0 then (if 0 ≤ x7 then (if x7 < (x3.length : Int) then (if 9 ≤ 281474976710656 then (nat_Decimal.l2 k x3 x6 x7 (rd x3 x7) (List.replicate 9 0) 8) else (none)) else (none)) else (none)) else (nat_Decimal.l3 k x6 0)
def nat_Decimal.l2 : Nat → List Int → List Int → Int → Int → List Int → Int → Option (ByteArray)
 | 0, _, _, _, _, _, _ => none
 | k + 1, x3, x6, x7, x8, x9, x10 => if x10 ≥ 0 then (if 0 ≤ x10 then (if x10 < (x9.length : Int) then (nat_Decimal.l2 k x3 x6 x7 ((Int.tdiv x8 10) % 4294967296) (x9.set (x10 : Int).toNat (((48 + (Int.tmod x8 10)) % 4294967296) % 256)) (wrap64 (x10 - 1))) else (none)) else (none)) else (if x6.length + x9.length < 140737488355328 then (nat_Decimal.l1 k x3 (x6 ++ x9) (wrap64 (x7 - 1))) else (none))
def nat_Decimal.l3 : Nat → List Int → Int → Option (ByteArray)
 | 0, _, _ => none
 | k + 1, x6, x11 => if 0 ≤ x11 then (if x11 < (x6.length : Int) then (if (rd x6 x11) = 48 then (nat_Decimal.l3 k x6 (wrap64 (x11 + 1))) else (if x11 ≤ (x6.length : Int) then (some (strOfNums (x6.drop (x11 : Int).toNat))) else (none))) else (none)) else (none)
end
def nat_Decimal.f (k : Nat) (l0 : List Int) : Option (ByteArray) := if (l0.length : Int) = 0 then (some (⟨#[48]⟩ : ByteArray)) else (nat_Decimal.l0 k l0 ([] : List Int))
set_option maxHeartbeats 8000000 in
set_option maxRecDepth 100000 in
theorem nat_Decimal.calls (k : Nat) (P0_ : Nat → Prop) (A0 : Option Addr) (c0 : Nat) (l0 : List Int) (r : ByteArray) (w : World) (hs0 : Kd.V (Kd.int .u32) 73 w w.heap.size (fun k_ => P0_ k_) (.slice A0 l0.length c0) l0) (h : nat_Decimal.f k l0 = some r) :
  Calls Tryz.prog 86 #[.slice A0 l0.length c0] w fun e w' => e = .returned (.string r) ∧ Below w.heap.size w w' := by
 have HO0 := am (show Kd.V (Kd.int .u32) 73 w w.heap.size (fun k_ => (P0_ k_ ∨ w.heap.size ≤ k_)) (.slice A0 l0.length c0) l0 from Kd.V_mono hs0 (fun k_ hk => .inl hk))
 have HB := am (Below.refl w.heap.size w)
 have H := h
 unfold nat_Decimal.f at H
 clear h
 by_cases c2 : (l0.length : Int) = 0
 ·rw [if_pos c2] at H
  have c2b0 : ((l0.length : Int) == 0) = true := beq_iff_eq.mpr c2
  have c2b1 : ((l0.length : Int) != 0) = false := bne_eq_false_iff_eq.mpr c2
  clear c2
  obtain rfl := Option.some.inj H
  go_enter Tryz.func86, Tryz.ntmps86
  go_wp2
  go_ret
  exact ⟨zq9, zq1⟩
 ·rw [if_neg c2] at H
  have c2b0 : ((l0.length : Int) == 0) = false := beq_eq_false_iff_ne.mpr c2
  have c2b1 : ((l0.length : Int) != 0) = true := bne_iff_ne.mpr c2
  have c2b2 : ¬ (l0 = []) := fun h_ => c2 (by rw [h_]; rfl)
  have H' := am H
  clear H
  go_enter Tryz.func86, Tryz.ntmps86
  go_wp2
  go_loopg [0, 3] k (fun kq v0 v3 w' => ∃ (x0_1 : List Int) (x3_1 : List Int), Aside0 (nat_Decimal.l0 kq x0_1 x3_1 = some r) ∧ Aside0 (kq ≤ k) ∧ Aside0 (Kd.V (Kd.int .u32) 73 w' w.heap.size (fun k_ => (P0_ k_ ∨ w.heap.size ≤ k_) ∧ some k_ ≠ (v3 : Value).ownBlock) v0 x0_1) ∧ Aside0 (Kd.R (Kd.int .u32) 73 w' w.heap.size (fun k_ => (w.heap.size ≤ k_)) v3 x3_1) ∧ Aside0 (Below w.heap.size w w'))
  case atStart => exact ⟨(l0), (([] : List Int)), H', ⟨Nat.le_refl _⟩, ⟨zwV (h := by exact Kd.V_mono HO0.out (fun _ hk => ⟨hk, (by simp [Value.ownBlock])⟩))⟩, ⟨by first | exact Kd.R_nil _ _ _ _ _ | exact Kd.N_nil _ _ _ _ _ | exact Kd.V_nil _ _ _ _ _ | exact Kd.Q_nil _ _ _ _ _ | exact Kd.S_nil _ _ _ _ _⟩, ⟨zq1⟩⟩
  case round =>
   clear H'
   obtain ⟨x0_1, x3_1, HA, HK1, HO_0, HO_3, HB⟩ := hrel
   cases gk with
   | zero => exact absurd HA.out (by simp [nat_Decimal.l0])
   | succ k1 =>
    have H := HA.out
    clear HA
    simp only [nat_Decimal.l0] at H
    by_cases c3 : (x0_1.length : Int) > 0
    ·rw [if_pos c3] at H
     have c3b0 : decide (0 < (x0_1.length : Int)) = true := decide_eq_true c3
     have c3b1 : decide (0 < x0_1.length) = true := decide_eq_true (by omega)
     clear c3
     replace H := zj H
     obtain ⟨⟨t1501, t1504⟩, A4, H⟩ := H
     try dsimp only at H
     replace H := zn H
     obtain ⟨c5, H⟩ := H
     have LMc5 := am c5
     clear c5
     obtain ⟨y1505, hy1505⟩ : ∃ y_ : List Int, y_ = (x3_1 ++ [t1504]) := ⟨_, rfl⟩
     try rw [← hy1505] at H
     have Ny1505 := am hy1505
     clear hy1505
     have H' := am H
     clear H
     obtain ⟨Ao6, co6, eo6⟩ := Kd.V_slice HO_0.out
     subst eo6
     go_wp2_with (first | ((with_reducible refine gate_callee (f := 94) rfl ?_); refine goesL_ (some 20) rfl rfl Tryz.func94 (by kernel_rfl) rfl #[.slice Ao6 x0_1.length co6, .int .u32 1000000000] rfl zq5 ?_; (with_reducible refine (nat_DivSmall.calls k1 _ _ x0_1 1000000000 t1501 t1504 _ ?side1 ?side2 A4.out).mono ?_); (case side1 => exact zc ((Kd.V_reads' HO_0.out).2.2)); (case side2 => exact (Kd.V_reads' HO_0.out).2.1); rintro e w7 ⟨v1502, rfl, ho0, hb⟩; refine ⟨_, rfl, ?_⟩; refine zt4 (vb HO_0 hb) (rb HO_3 hb) (Kd.V_lower (Kd.V_mono (ok' := fun k_ => (P0_ k_ ∨ w.heap.size ≤ k_) ∧ some k_ ≠ (u3 : Value).ownBlock) ho0 (fun k_ hk_ => ⟨(.inr (Nat.le_trans (below_size zq1) hk_)), (Kd.fresh' (Kd.R_lt (zq4 HO_3.out)) k_ hk_)⟩)) (below_size zq1)) (below_step zq1 hb) ?_; clear HO_0 HO_3 HB; intro HO_0 HO_3 HO1503 HB) | ((with_reducible refine gate_builtin (b := .append) (xs := #[.tmp 23, .tmp 25]) rfl ?_); at_builtin; refine Kd.R_append (Kd.int .u32) (w0 := w) w.heap.size rfl (.tmp 23) (.tmp 25) 22 73 (.int .u32 0) 4 rfl Tryz.underlying22 info73 rfl (by decide) (by omega) u3 x3_1 t1504 [.int .u32 t1504] (fun k_ => (w.heap.size ≤ k_)) (fun _ => False) rfl rfl ?aP (fun _ hk => hk.elim) ?aF ?aO ?aB ?aS ?aL ?_; (case aP => exact rfl); (case aB => exact zq1); (case aF => exact (fun k_ hk => (Nat.le_trans (below_size zq1) hk))); (case aO => exact (zq4 HO_3.out)); (case aS => exact (below_size zq1)); (case aL => have := LMc5.out; omega); intro v1506 w8 ho hb hg hat; rw [← Ny1505.out] at ho; refine zt4 (Kd.V_afterv (ok := (fun k_ => (P0_ k_ ∨ w.heap.size ≤ k_))) (zq3 HO_0.out) hg hat) (Kd.V_afterv (ok := (fun k_ => (P0_ k_ ∨ w.heap.size ≤ k_))) (zq3 HO1503.out) hg hat) (hb) (ho) ?_; clear HO_0 HO1503 HB HO_3; intro HO_0 HO1503 HB HO1507; clear ho hb hg hat))
     go_roundg k1
     case measure => have := HK1.out; omega
     case rel => exact ⟨(t1501), (y1505), H', ⟨by have := HK1.out; omega⟩, ⟨zq3 HO1503.out⟩, ⟨zq4 HO1507.out⟩, ⟨zq1⟩⟩
    ·rw [if_neg c3] at H
     have c3b0 : decide (0 < (x0_1.length : Int)) = false := decide_eq_false c3
     have c3b1 : decide (0 < x0_1.length) = false := decide_eq_false (by omega)
     clear c3
     have H' := am H
     clear H
     obtain ⟨Ao9, co9, eo9⟩ := Kd.V_slice HO_0.out
     subst eo9
     obtain ⟨Ao10, co10, eo10⟩ := Kd.R_slice HO_3.out
     subst eo10
     go_wp2
     go_loopg [6, 7] k1 (fun kq v6 v7 w' => ∃ (x6_2 : List Int) (x7_2 : Int), v7 = .int .i64 x7_2 ∧ Aside0 (nat_Decimal.l1 kq x3_1 x6_2 x7_2 = some r) ∧ Aside0 (kq ≤ k1) ∧ Aside0 (Kd.R (Kd.int .u32) 73 w' w.heap.size (fun k_ => (w.heap.size ≤ k_)) (.slice Ao10 x3_1.length co10) x3_1) ∧ Aside0 (Kd.R (Kd.int .u8) 5 w' w.heap.size (fun k_ => (w.heap.size ≤ k_)) v6 x6_2) ∧ Aside0 (Below w.heap.size w w'))
     case atStart => exact ⟨(([] : List Int)), (wrap64 ((x3_1.length : Int) - 1)), zq8, H', ⟨Nat.le_refl _⟩, ⟨zq4 HO_3.out⟩, ⟨by first | exact Kd.R_nil _ _ _ _ _ | exact Kd.N_nil _ _ _ _ _ | exact Kd.V_nil _ _ _ _ _ | exact Kd.Q_nil _ _ _ _ _ | exact Kd.S_nil _ _ _ _ _⟩, ⟨zq1⟩⟩
     case round =>
      clear H'
      obtain ⟨x6_2, x7_2, rfl, HA, HK2, HO_3, HO_6, HB⟩ := hrel
      cases gk with
      | zero => exact absurd HA.out (by simp [nat_Decimal.l1])
      | succ k2 =>
       have H := HA.out
       clear HA
       simp only [nat_Decimal.l1] at H
       by_cases c11 : x7_2 ≥ 0
       ·rw [if_pos c11] at H
        have c11b0 : decide (0 ≤ x7_2) = true := decide_eq_true c11
        clear c11
        replace H := zn H
        obtain ⟨c12, H⟩ := H
        have c12b0 := decide_eq_true c12
        clear c12
        replace H := zn H
        obtain ⟨c13, H⟩ := H
        have c13b0 := decide_eq_true c13
        clear c13
        replace H := zn H
        obtain ⟨c14, H⟩ := H
        have c14b0 := eq_true c14
        have c14b1 := decide_eq_true c14
        clear c14
        obtain ⟨y1509, hy1509⟩ : ∃ y_ : List Int, y_ = (List.replicate 9 0) := ⟨_, rfl⟩
        try rw [← hy1509] at H
        have Ny1509 := am hy1509
        clear hy1509
        have H' := am H
        clear H
        have p1508 : 0 ≤ (x7_2 : Int) := zq6
        have q1508 : x7_2 < (x3_1.length : Int) := zq6
        obtain ⟨ad1508, e1508, hx1508_0⟩ := Kd.at_int (Kd.R_reads' HO_3.out).2.2 x7_2 p1508 q1508
        cases e1508
        replace p1508 := eq_true p1508
        replace q1508 := eq_true q1508
        go_wp2_with (first | ((with_reducible refine gate_dst (N := 39) rfl ?_); refine Kd.R_make (Kd.int .u8) _ 5 rfl (N := 39) rfl 116 _ _ rfl 9 rfl rfl Tryz.underlying116 (.int .u8 0) 1 info5 rfl (by decide) (by omega) 0 (ok := fun _ => True) (okp := fun _ => True) rfl (fun _ hk => hk) trivial (by omega) (by omega) (Below.refl _ _) (Nat.le_refl _) ?_; intro v1510 w15 ho16 hb hg_ hnew_; clear hg_ hnew_; (first | rw [← Ny1509.out] at ho16 | (simp only [Int.reduceToNat] at ho16; rw [← Ny1509.out] at ho16)); refine zt4 (rb HO_3 hb) (Kd.R_elder' (zq4 HO_6.out) (Kd.R_base ho16) hb) (Kd.R_lower (Kd.R_new' (Kd.R_newM (M := fun k_ => (w.heap.size ≤ k_)) ho16 (below_size zq1) (fun k_ h_ => h_)) (Kd.R_lt (zq4 HO_6.out))) (below_size zq1)) (below_step zq1 hb) ?_; clear HO_3 HO_6 HB; intro HO_3 HO_6 HO1511 HB; clear hb ho16))
        go_loopg [8, 10] k2 (fun kq v8 v10 w' => ∃ (x8_3 : Int) (x9_3 : List Int) (x10_3 : Int), v8 = .int .u32 x8_3 ∧ v10 = .int .i64 x10_3 ∧ Aside0 (nat_Decimal.l2 kq x3_1 x6_2 x7_2 x8_3 x9_3 x10_3 = some r) ∧ Aside0 (kq ≤ k2) ∧ Aside0 (Kd.R (Kd.int .u32) 73 w' w.heap.size (fun k_ => (w.heap.size ≤ k_)) (.slice (some ad1508) x3_1.length co10) x3_1) ∧ Aside0 (Kd.R (Kd.int .u8) 5 w' w.heap.size (fun k_ => (w.heap.size ≤ k_) ∧ some k_ ≠ (v1510 : Value).ownBlock) u6 x6_2) ∧ Aside0 (Kd.R (Kd.int .u8) 5 w' w.heap.size (fun k_ => (w.heap.size ≤ k_) ∧ some k_ ≠ (u6 : Value).ownBlock) v1510 x9_3) ∧ Aside0 (Below w.heap.size w w'))
        case atStart => exact ⟨(rd x3_1 x7_2), (y1509), (8), zq8, zq8, H', ⟨Nat.le_refl _⟩, ⟨zq4 HO_3.out⟩, ⟨zq4 HO_6.out⟩, ⟨zwR (h := by exact Kd.R_mono HO1511.out (fun _ hk => ⟨hk.1.1, hk.2⟩))⟩, ⟨zq1⟩⟩
        case round =>
         clear H'
         obtain ⟨x8_3, x9_3, x10_3, rfl, rfl, HA, HK3, HO_3, HO_6, HO_9, HB⟩ := hrel
         cases gk with
         | zero => exact absurd HA.out (by simp [nat_Decimal.l2])
         | succ k3 =>
          have H := HA.out
          clear HA
          simp only [nat_Decimal.l2] at H
          by_cases c17 : x10_3 ≥ 0
          ·rw [if_pos c17] at H
           have c17b0 : decide (0 ≤ x10_3) = true := decide_eq_true c17
           clear c17
           replace H := zn H
           obtain ⟨c18, H⟩ := H
           have c18b0 := decide_eq_true c18
           clear c18
           replace H := zn H
           obtain ⟨c19, H⟩ := H
           have c19b0 := decide_eq_true c19
           clear c19
           obtain ⟨y1512, hy1512⟩ : ∃ y_ : List Int, y_ = (x9_3.set (x10_3 : Int).toNat (((48 + (Int.tmod x8_3 10)) % 4294967296) % 256)) := ⟨_, rfl⟩
           try rw [← hy1512] at H
           have Ny1512 := am hy1512
           clear hy1512
           have H' := am H
           clear H
           have p20 : 0 ≤ (x10_3 : Int) := zq6
           have q20 : (x10_3 : Int) < ((x9_3.length : Int) : Int) := zq6
           obtain ⟨go20, co20, eo20, gb20, gl20, cl20, HG20⟩ := Kd.R_form HO_9.out (by omega)
           (first | cases eo20 | (injection eo20 with ea_ en_ ec_; (first | subst ea_ | (injection ea_ with ea_; subst ea_)); subst ec_; clear en_))
           have GB20 := am gb20
           have GG20 := am HG20
           clear gb20 gl20 HG20
           obtain ⟨hx20_0, hf20_0⟩ := Kd.R_celln 0 HO_9.out (x10_3 : Int) p20 q20
           replace p20 := eq_true p20
           replace q20 := eq_true q20
           have HP21 := Kd.R_putg HO_9.out (x10_3 : Int) (((48 + (Int.tmod x8_3 10)) % 4294967296) % 256)
           go_wp2_with (first | ((with_reducible refine gate_store (t := 5) (p := 50) rfl ?_); refine zstore (t := 5) (p := 50) (w1 := (wr.setCell ⟨go20, (x10_3 : Int).toNat, none⟩ (.int .u8 (((48 + (Int.tmod x8_3 10)) % 4294967296) % 256)))) ?_; intro w22 hw; have hg : wr.grownBy w22 (some go20) := (by rw [hw]; exact HP21.2); have hp_ : Kd.R (Kd.int .u8) 5 w22 w.heap.size (fun k_ => (w.heap.size ≤ k_) ∧ some k_ ≠ (u6 : Value).ownBlock) (.slice (some ⟨go20, 0, none⟩) x9_3.length co20) y1512 := (by rw [hw, Ny1512.out]; exact HP21.1); clear HP21; refine zt4 (Kd.R_over' (v := (.slice (some ⟨go20, 0, none⟩) x9_3.length co20)) (zq4 HO_3.out) (Kd.R_typed HO_9.out) (by decide) hg) (Kd.R_after (v := (.slice (some ⟨go20, 0, none⟩) x9_3.length co20)) (v1 := (.slice (some ⟨go20, 0, none⟩) x9_3.length co20)) (ok := (fun k_ => (w.heap.size ≤ k_))) (zq4 HO_6.out) hg (.inl rfl)) (hp_) ((by rw [hw]; exact below_set (HB.out) GB20.out : Below w.heap.size w w22)) ?_; clear HO_3 HO_6 HO_9 HB; intro HO_3 HO_6 HO_9 HB; clear hg hw hp_))
           go_roundg k3
           case measure => have := HK1.out; have := HK2.out; have := HK3.out; omega
           case rel => exact ⟨((Int.tdiv x8_3 10) % 4294967296), (y1512), (wrap64 (x10_3 - 1)), zq8, zq8, H', ⟨by have := HK1.out; have := HK2.out; have := HK3.out; omega⟩, ⟨zq4 HO_3.out⟩, ⟨zq4 HO_6.out⟩, ⟨zq4 HO_9.out⟩, ⟨zq1⟩⟩
          ·rw [if_neg c17] at H
           have c17b0 : decide (0 ≤ x10_3) = false := decide_eq_false c17
           clear c17
           replace H := zn H
           obtain ⟨c23, H⟩ := H
           have LMc23 := am c23
           clear c23
           obtain ⟨y1513, hy1513⟩ : ∃ y_ : List Int, y_ = (x6_2 ++ x9_3) := ⟨_, rfl⟩
           try rw [← hy1513] at H
           have Ny1513 := am hy1513
           clear hy1513
           have H' := am H
           clear H
           obtain ⟨Ao25, co25, eo25⟩ := Kd.R_slice HO_9.out
           subst eo25
           go_wp2_with (first | ((with_reducible refine gate_builtin (b := .append) (xs := #[.tmp 53, .tmp 54]) rfl ?_); at_builtin; refine Kd.R_append_rows (Kd.int .u8) (w0 := w) w.heap.size rfl (.tmp 53) (.tmp 54) 116 5 (.int .u8 0) 1 rfl Tryz.underlying116 info5 rfl (by decide) (by omega) u6 x6_2 x9_3 _ _ _ (fun k_ => (w.heap.size ≤ k_) ∧ some k_ ≠ (.slice Ao25 x9_3.length co25 : Value).ownBlock) (fun _ => False) rfl rfl ?aO ?aR (fun _ _ h => h) (fun _ h => h.elim) ?aF ?aB ?aS ?aL ?_; (case aR => repeat (first | exact (Kd.R_reads' HO_9.out).2.2 | (with_reducible refine Kd.C_alloc ?_ _) | (with_reducible refine Kd.C_drewN ?_ _) | (with_reducible refine Kd.C_drew ?_))); (case aB => exact zq1); (case aF => exact (fun k_ hk => ⟨(Nat.le_trans (below_size zq1) hk), Kd.fresh' (Kd.R_lt (zq4 HO_9.out)) k_ hk⟩)); (case aO => exact (zq4 HO_6.out)); (case aS => exact (below_size zq1)); (case aL => have := LMc23.out; omega); intro v1514 w24 ho hb hg hat; rw [← Ny1513.out] at ho; refine zt4 (Kd.R_over' (zq4 HO_3.out) (Kd.R_typed (zq4 HO_6.out)) (by decide) hg) (Kd.R_after (ok := (fun k_ => (w.heap.size ≤ k_))) (zq4 HO_9.out) hg hat) (hb) (ho) ?_; clear HO_3 HO_9 HB HO_6; intro HO_3 HO_9 HB HO1515; clear ho hb hg hat))
           go_roundg k3
           case measure => have := HK1.out; have := HK2.out; have := HK3.out; omega
           case rel => exact ⟨(y1513), (wrap64 (x7_2 - 1)), zq8, H', ⟨by have := HK1.out; have := HK2.out; have := HK3.out; omega⟩, ⟨zq4 HO_3.out⟩, ⟨zwR (h := by exact Kd.R_mono HO1515.out (fun _ hk => hk.1))⟩, ⟨zq1⟩⟩
       ·rw [if_neg c11] at H
        have c11b0 : decide (0 ≤ x7_2) = false := decide_eq_false c11
        clear c11
        have H' := am H
        clear H
        go_wp2
        go_loopg [11] k2 (fun kq v11 w' => ∃ (x11_3 : Int), v11 = .int .i64 x11_3 ∧ Aside0 (nat_Decimal.l3 kq x6_2 x11_3 = some r) ∧ Aside0 (kq ≤ k2) ∧ Aside0 (Kd.R (Kd.int .u8) 5 w' w.heap.size (fun k_ => (w.heap.size ≤ k_)) u6 x6_2) ∧ Aside0 (Below w.heap.size w w'))
        case atStart => exact ⟨(0), zq8, H', ⟨Nat.le_refl _⟩, ⟨zq4 HO_6.out⟩, ⟨zq1⟩⟩
        case round =>
         clear H'
         obtain ⟨x11_3, rfl, HA, HK3, HO_6, HB⟩ := hrel
         cases gk with
         | zero => exact absurd HA.out (by simp [nat_Decimal.l3])
         | succ k3 =>
          have H := HA.out
          clear HA
          simp only [nat_Decimal.l3] at H
          replace H := zn H
          obtain ⟨c26, H⟩ := H
          have c26b0 := decide_eq_true c26
          clear c26
          replace H := zn H
          obtain ⟨c27, H⟩ := H
          have c27b0 := decide_eq_true c27
          clear c27
          by_cases c28 : (rd x6_2 x11_3) = 48
          ·rw [if_pos c28] at H
           have c28b0 : ((rd x6_2 x11_3) == 48) = true := beq_iff_eq.mpr c28
           have c28b1 : ((rd x6_2 x11_3) != 48) = false := bne_eq_false_iff_eq.mpr c28
           clear c28
           have H' := am H
           clear H
           obtain ⟨Ao29, co29, eo29⟩ := Kd.R_slice HO_6.out
           subst eo29
           have p1516 : 0 ≤ (x11_3 : Int) := zq6
           have q1516 : x11_3 < (x6_2.length : Int) := zq6
           obtain ⟨ad1516, e1516, hx1516_0⟩ := Kd.at_int (Kd.R_reads' HO_6.out).2.2 x11_3 p1516 q1516
           cases e1516
           replace p1516 := eq_true p1516
           replace q1516 := eq_true q1516
           go_wp2
           go_roundg k3
           case measure => have := HK1.out; have := HK2.out; have := HK3.out; omega
           case rel => exact ⟨(wrap64 (x11_3 + 1)), zq8, H', ⟨by have := HK1.out; have := HK2.out; have := HK3.out; omega⟩, ⟨zq4 HO_6.out⟩, ⟨zq1⟩⟩
          ·rw [if_neg c28] at H
           have c28b0 : ((rd x6_2 x11_3) == 48) = false := beq_eq_false_iff_ne.mpr c28
           have c28b1 : ((rd x6_2 x11_3) != 48) = true := bne_iff_ne.mpr c28
           have c30b0 := eq_true (zq6 : 0 ≤ x11_3)
           replace H := zn H
           obtain ⟨c31, H⟩ := H
           have c31b0 := eq_true c31
           have c31b1 := decide_eq_true c31
           clear c31
           obtain ⟨y1517, hy1517⟩ : ∃ y_ : List Int, y_ = (x6_2.drop (x11_3 : Int).toNat) := ⟨_, rfl⟩
           try rw [← hy1517] at H
           have Ny1517 := am hy1517
           clear hy1517
           obtain rfl := Option.some.inj H
           obtain ⟨Ao32, co32, eo32⟩ := Kd.R_slice HO_6.out
           subst eo32
           have p1516 : 0 ≤ (x11_3 : Int) := zq6
           have q1516 : x11_3 < (x6_2.length : Int) := zq6
           obtain ⟨ad1516, e1516, hx1516_0⟩ := Kd.at_int (Kd.R_reads' HO_6.out).2.2 x11_3 p1516 q1516
           cases e1516
           replace p1516 := eq_true p1516
           replace q1516 := eq_true q1516
           have q33 : (x11_3 : Int) ≤ ((x6_2.length : Int) : Int) := zq6
           obtain ⟨i033, hi033, _, hsz33, _⟩ := info_parts info5
           have hroom33 : x6_2.length ≤ co32 := (Kd.R_reads' HO_6.out).2.1
           have hC33 : Kd.C (Kd.int .u8) _ (some ad1516) x6_2.length x6_2 := (Kd.R_reads' HO_6.out).2.2
           have q033 : (0 : Int) ≤ (x11_3 : Int) := zq6
           have hcut33 := cut_from (P := Tryz.prog) 116 5 .i64 Tryz.underlying116 hi033 1 hsz33 (some ad1516) x6_2.length co32 x11_3 q033 q33
           have hr33 := Kd.C_drop (m := (x11_3 : Int).toNat) (c := co32) hC33 (by omega) hroom33
           obtain ⟨A33, hA33⟩ : ∃ A1, A1 = (if co32 = (x11_3 : Int).toNat then (some ad1516) else ((some ad1516) : Option Addr).map (·.add ((x11_3 : Int).toNat * 1))) := ⟨_, rfl⟩
           obtain ⟨c33, hc33⟩ : ∃ c1, c1 = co32 - (x11_3 : Int).toNat := ⟨_, rfl⟩
           have hy33 : y1517.length = x6_2.length - (x11_3 : Int).toNat := (by rw [Ny1517.out, List.length_drop] <;> omega)
           rw [show (x6_2).drop (x11_3 : Int).toNat = y1517 from Ny1517.out.symm] at hr33
           replace hr33 : Kd.C (Kd.int .u8) _ A33 y1517.length y1517 := (by rw [hA33]; exact hr33)
           rw [← hy33, ← hA33, ← hc33] at hcut33
           have HR1520 := am hr33
           have HC1520 := am (show y1517.length ≤ c33 from by rw [hy33, hc33]; exact Nat.sub_le_sub_right hroom33 _)
           clear hr33 hC33 hroom33 hi033 hsz33 hc33
           have KY33 := am hy33
           have KA33 := am hA33
           clear hy33 hA33
           have KL33 := am (show (x11_3 : Int).toNat ≤ x6_2.length from by omega)
           replace q33 := eq_true q33
           have hcv34 := Kd.C_string (P := Tryz.prog) (A := A33) (c := c33) Tryz.underlying116 Tryz.underlying5 Tryz.underlying9 (by repeat (first | (with_reducible exact HR1520.out) | (with_reducible refine Kd.C_alloc ?_ _) | (with_reducible refine Kd.C_drewN ?_ _) | (with_reducible refine Kd.C_drew ?_) | exact HR1520.out))
           go_wp2
           go_ret
           exact ⟨zq9, zq1⟩
def stringslite_HasPrefix.f (a0 : ByteArray) (a1 : ByteArray) : Option (Bool) := if (a0.size : Int) ≥ (a1.size : Int) then (if 0 ≤ (a1.size : Int) then (if (a1.size : Int) ≤ (a0.size : Int) then (some ((a0.extract 0 ((a1.size : Int) : Int).toNat).toList == a1.toList)) else (none)) else (none)) else (some false)
set_option maxHeartbeats 8000000 in
set_option maxRecDepth 100000 in
theorem stringslite_HasPrefix.calls (a0 : ByteArray) (a1 : ByteArray) (r : Bool) (w : World) (h : stringslite_HasPrefix.f a0 a1 = some r) :
  Calls Tryz.prog 103 #[.string a0, .string a1] w fun e w' => e = .returned (.bool r) ∧ Drawn0 w w' := by
 have H := h
 unfold stringslite_HasPrefix.f at H
 clear h
 by_cases c3 : (a0.size : Int) ≥ (a1.size : Int)
 ·rw [if_pos c3] at H
  have c3b0 : decide ((a1.size : Int) ≤ (a0.size : Int)) = true := decide_eq_true c3
  have c3b1 : decide (a1.size ≤ a0.size) = true := decide_eq_true (Int.ofNat_le.mp c3)
  clear c3
  replace H := zn H
  obtain ⟨c4, H⟩ := H
  have c4b0 := eq_true c4
  have c4b1 := decide_eq_true c4
  clear c4
  replace H := zn H
  obtain ⟨c5, H⟩ := H
  have c5b0 := eq_true c5
  have c5b1 := decide_eq_true c5
  clear c5
  obtain rfl := Option.some.inj H
  go_enter Tryz.func103, Tryz.ntmps103
  go_wp2
  go_ret
  exact ⟨by first | rfl | (simp; done) | (simp [*]; done), by repeat (first | exact Drawn0.refl _ | apply Drawn0.step)⟩
 ·rw [if_neg c3] at H
  have c3b0 : decide ((a1.size : Int) ≤ (a0.size : Int)) = false := decide_eq_false c3
  have c3b1 : decide (a1.size ≤ a0.size) = false := decide_eq_false (fun h => c3 (Int.ofNat_le.mpr h))
  clear c3
  obtain rfl := Option.some.inj H
  go_enter Tryz.func103, Tryz.ntmps103
  go_wp2
  go_ret
  exact ⟨by first | rfl | (simp; done) | (simp [*]; done), by repeat (first | exact Drawn0.refl _ | apply Drawn0.step)⟩
def stringslite_CutPrefix.f (a0 : ByteArray) (a1 : ByteArray) : Option (ByteArray × Bool) := (stringslite_HasPrefix.f a0 a1).bind fun t1441 => (if t1441 = true then (if 0 ≤ (a1.size : Int) then (if (a1.size : Int) ≤ (a0.size : Int) then (some (a0.extract ((a1.size : Int) : Int).toNat a0.size, true)) else (none)) else (none)) else (some (a0, false)))
set_option maxHeartbeats 8000000 in
set_option maxRecDepth 100000 in
theorem stringslite_CutPrefix.calls (a0 : ByteArray) (a1 : ByteArray) (r1 : ByteArray) (r2 : Bool) (w : World) (h : stringslite_CutPrefix.f a0 a1 = some (r1, r2)) :
  Calls Tryz.prog 99 #[.string a0, .string a1] w fun e w' => e = .returned (.tuple #[.string r1, .bool r2]) ∧ Drawn0 w w' := by
 have H := h
 unfold stringslite_CutPrefix.f at H
 clear h
 replace H := zj H
 obtain ⟨t1441, A3, H⟩ := H
 by_cases c4 : t1441 = true
 ·subst c4
  have H1 : (if 0 ≤ (a1.size : Int) then (if (a1.size : Int) ≤ (a0.size : Int) then (some (a0.extract ((a1.size : Int) : Int).toNat a0.size, true)) else (none)) else (none)) = some (r1, r2) := by rw [if_pos rfl] at H; exact H
  clear H
  have H := H1
  clear H1
  replace H := zn H
  obtain ⟨c5, H⟩ := H
  have c5b0 := eq_true c5
  have c5b1 := decide_eq_true c5
  clear c5
  replace H := zn H
  obtain ⟨c6, H⟩ := H
  have c6b0 := eq_true c6
  have c6b1 := decide_eq_true c6
  clear c6
  simp only [Option.some.injEq, Prod.mk.injEq] at H
  obtain ⟨rfl, rfl⟩ := H
  go_enter Tryz.func99, Tryz.ntmps99
  go_wp2_with (first | ((with_reducible refine gate_callee (f := 103) rfl ?_); refine goesL_ (some 8) rfl rfl Tryz.func103 (by kernel_rfl) rfl #[.string a0, .string a1] rfl zq5 ?_; (with_reducible refine (stringslite_HasPrefix.calls a0 a1 true _ A3.out).mono ?_); rintro e w' ⟨rfl, ⟨nd, rfl⟩⟩; refine ⟨_, rfl, ?_⟩))
  go_ret2
  exact ⟨by first | rfl | (simp; done) | (simp [*]; done), by repeat (first | exact Drawn0.refl _ | apply Drawn0.step)⟩
 ·replace c4 := Bool.eq_false_iff.mpr c4
  subst c4
  have H1 : (some (a0, false)) = some (r1, r2) := by rw [if_neg (show ¬ (false = true) by decide)] at H; exact H
  clear H
  have H := H1
  clear H1
  simp only [Option.some.injEq, Prod.mk.injEq] at H
  obtain ⟨rfl, rfl⟩ := H
  go_enter Tryz.func99, Tryz.ntmps99
  go_wp2_with (first | ((with_reducible refine gate_callee (f := 103) rfl ?_); refine goesL_ (some 8) rfl rfl Tryz.func103 (by kernel_rfl) rfl #[.string a0, .string a1] rfl zq5 ?_; (with_reducible refine (stringslite_HasPrefix.calls a0 a1 false _ A3.out).mono ?_); rintro e w' ⟨rfl, ⟨nd, rfl⟩⟩; refine ⟨_, rfl, ?_⟩))
  go_ret2
  exact ⟨by first | rfl | (simp; done) | (simp [*]; done), by repeat (first | exact Drawn0.refl _ | apply Drawn0.step)⟩
def strings_CutPrefix.f (a0 : ByteArray) (a1 : ByteArray) : Option (ByteArray × Bool) := (stringslite_CutPrefix.f a0 a1).bind fun bt1442 => (some (bt1442.1, bt1442.2))
set_option maxHeartbeats 8000000 in
set_option maxRecDepth 100000 in
theorem strings_CutPrefix.calls (a0 : ByteArray) (a1 : ByteArray) (r1 : ByteArray) (r2 : Bool) (w : World) (h : strings_CutPrefix.f a0 a1 = some (r1, r2)) :
  Calls Tryz.prog 82 #[.string a0, .string a1] w fun e w' => e = .returned (.tuple #[.string r1, .bool r2]) ∧ Drawn0 w w' := by
 have H := h
 unfold strings_CutPrefix.f at H
 clear h
 replace H := zj H
 obtain ⟨⟨t1442, t1443⟩, A3, H⟩ := H
 try dsimp only at H
 simp only [Option.some.injEq, Prod.mk.injEq] at H
 obtain ⟨rfl, rfl⟩ := H
 go_enter Tryz.func82, Tryz.ntmps82
 go_wp2_with (first | ((with_reducible refine gate_callee (f := 99) rfl ?_); refine goesL_ (some 8) rfl rfl Tryz.func99 (by kernel_rfl) rfl #[.string a0, .string a1] rfl zq5 ?_; (with_reducible refine (stringslite_CutPrefix.calls a0 a1 t1442 t1443 _ A3.out).mono ?_); rintro e w' ⟨rfl, ⟨nd, rfl⟩⟩; refine ⟨_, rfl, ?_⟩))
 go_ret2
 exact ⟨by first | rfl | (simp; done) | (simp [*]; done), by repeat (first | exact Drawn0.refl _ | apply Drawn0.step)⟩
def stringslite_Index.f (a0 : ByteArray) (a1 : ByteArray) : Option (Int) := if a1.size = 1 then some (Lib.indexByte a0.data.toList (bt a1 0).toNat.toUInt8) else none
theorem stringslite_Index.calls (a0 : ByteArray) (a1 : ByteArray) (r : Int) (w : World) (h : stringslite_Index.f a0 a1 = some r) :
  Calls Tryz.prog 104 #[.string a0, .string a1] w fun e w' => e = .returned (.int .i64 r) ∧ Drawn0 w w' := by
 unfold stringslite_Index.f at h
 split at h
 ·rename_i h1
  obtain rfl := Option.some.inj h
  obtain ⟨c, rfl⟩ : ∃ c, a1 = ⟨#[c]⟩ := by
   obtain ⟨⟨l⟩⟩ := a1
   match l, h1 with
   | [c], _ => exact ⟨c, rfl⟩
  have e : (bt ⟨#[c]⟩ 0).toNat.toUInt8 = c := by
   have : bt ⟨#[c]⟩ 0 = (c.toNat : Int) := rfl
   rw [this]; simp
  rw [e]
  exact (Any.stringslite_Index_one Tryz.lays219 a0 c w).mono fun e w' h => ⟨h.1, by rw [h.2]; exact Drawn0.refl w⟩
 ·cases h
def stringslite_Cut.f (a0 : ByteArray) (a1 : ByteArray) : Option (ByteArray × ByteArray × Bool) := (stringslite_Index.f a0 a1).bind fun t1446 => (if t1446 ≥ 0 then (if 0 ≤ t1446 then (if t1446 ≤ (a0.size : Int) then (if 0 ≤ (wrap64 (t1446 + (a1.size : Int))) then (if (wrap64 (t1446 + (a1.size : Int))) ≤ (a0.size : Int) then (some (a0.extract 0 (t1446 : Int).toNat, a0.extract ((wrap64 (t1446 + (a1.size : Int))) : Int).toNat a0.size, true)) else (none)) else (none)) else (none)) else (none)) else (some (a0, (⟨#[]⟩ : ByteArray), false)))
set_option maxHeartbeats 8000000 in
set_option maxRecDepth 100000 in
theorem stringslite_Cut.calls (a0 : ByteArray) (a1 : ByteArray) (r1 : ByteArray) (r2 : ByteArray) (r3 : Bool) (w : World) (h : stringslite_Cut.f a0 a1 = some (r1, r2, r3)) :
  Calls Tryz.prog 100 #[.string a0, .string a1] w fun e w' => e = .returned (.tuple #[.string r1, .string r2, .bool r3]) ∧ Drawn0 w w' := by
 have H := h
 unfold stringslite_Cut.f at H
 clear h
 replace H := zj H
 obtain ⟨t1446, A3, H⟩ := H
 by_cases c4 : t1446 ≥ 0
 ·rw [if_pos c4] at H
  have c4b0 : decide (0 ≤ t1446) = true := decide_eq_true c4
  clear c4
  replace H := zn H
  obtain ⟨c5, H⟩ := H
  have c5b0 := eq_true c5
  have c5b1 := decide_eq_true c5
  clear c5
  replace H := zn H
  obtain ⟨c6, H⟩ := H
  have c6b0 := eq_true c6
  have c6b1 := decide_eq_true c6
  clear c6
  obtain ⟨ji7, hji7⟩ : ∃ j_ : Int, (wrap64 (t1446 + (a1.size : Int))) = j_ := ⟨_, rfl⟩
  replace H : (if 0 ≤ (ji7) then (if (ji7) ≤ (a0.size : Int) then (some (a0.extract 0 (t1446 : Int).toNat, a0.extract ((ji7) : Int).toNat a0.size, true)) else (none)) else (none)) = some (r1, r2, r3) := by first | (rw [hji7] at H; exact H) | (simp only [hji7] at H ⊢; exact H)
  (try rw [hji7] at A3)
  have hji7w : (IntKind.i64.wrap (t1446 + (a1.size : Int))) = ji7 := (i64_w _).trans hji7
  replace H := zn H
  obtain ⟨c8, H⟩ := H
  have c8b0 := eq_true c8
  have c8b1 := decide_eq_true c8
  clear c8
  replace H := zn H
  obtain ⟨c9, H⟩ := H
  have c9b0 := eq_true c9
  have c9b1 := decide_eq_true c9
  clear c9
  simp only [Option.some.injEq, Prod.mk.injEq] at H
  obtain ⟨rfl, rfl, rfl⟩ := H
  go_enter Tryz.func100, Tryz.ntmps100
  go_wp2_with (first | (go_at_call 104; (with_reducible refine (stringslite_Index.calls a0 a1 t1446 _ A3.out).mono ?_); rintro e w' ⟨rfl, ⟨nd, rfl⟩⟩; (try first | exact ⟨rfl, _, World.drewN_drewN _ _ _⟩ | exact ⟨rfl, _, Eq.trans (World.drewN_drewN _ _ _) (congrArg (World.drewN _) (Nat.add_assoc _ _ _))⟩)))
  repeat (go_quiet (first | (go_at_call 104; (with_reducible refine (stringslite_Index.calls a0 a1 t1446 _ A3.out).mono ?_); rintro e w' ⟨rfl, ⟨nd, rfl⟩⟩; (try first | exact ⟨rfl, _, World.drewN_drewN _ _ _⟩ | exact ⟨rfl, _, Eq.trans (World.drewN_drewN _ _ _) (congrArg (World.drewN _) (Nat.add_assoc _ _ _))⟩))); try go_wp2_with (first | (go_at_call 104; (with_reducible refine (stringslite_Index.calls a0 a1 t1446 _ A3.out).mono ?_); rintro e w' ⟨rfl, ⟨nd, rfl⟩⟩; (try first | exact ⟨rfl, _, World.drewN_drewN _ _ _⟩ | exact ⟨rfl, _, Eq.trans (World.drewN_drewN _ _ _) (congrArg (World.drewN _) (Nat.add_assoc _ _ _))⟩))))
  go_ret3
  exact ⟨by first | rfl | (simp; done) | (simp only [← hji7] <;> (first | rfl | simp)) | (simp [*]; done), by repeat (first | exact Drawn0.refl _ | apply Drawn0.step)⟩
 ·rw [if_neg c4] at H
  have c4b0 : decide (0 ≤ t1446) = false := decide_eq_false c4
  clear c4
  simp only [Option.some.injEq, Prod.mk.injEq] at H
  obtain ⟨rfl, rfl, rfl⟩ := H
  go_enter Tryz.func100, Tryz.ntmps100
  go_wp2_with (first | (go_at_call 104; (with_reducible refine (stringslite_Index.calls a0 a1 t1446 _ A3.out).mono ?_); rintro e w' ⟨rfl, ⟨nd, rfl⟩⟩; (try first | exact ⟨rfl, _, World.drewN_drewN _ _ _⟩ | exact ⟨rfl, _, Eq.trans (World.drewN_drewN _ _ _) (congrArg (World.drewN _) (Nat.add_assoc _ _ _))⟩)))
  repeat (go_quiet (first | (go_at_call 104; (with_reducible refine (stringslite_Index.calls a0 a1 t1446 _ A3.out).mono ?_); rintro e w' ⟨rfl, ⟨nd, rfl⟩⟩; (try first | exact ⟨rfl, _, World.drewN_drewN _ _ _⟩ | exact ⟨rfl, _, Eq.trans (World.drewN_drewN _ _ _) (congrArg (World.drewN _) (Nat.add_assoc _ _ _))⟩))); try go_wp2_with (first | (go_at_call 104; (with_reducible refine (stringslite_Index.calls a0 a1 t1446 _ A3.out).mono ?_); rintro e w' ⟨rfl, ⟨nd, rfl⟩⟩; (try first | exact ⟨rfl, _, World.drewN_drewN _ _ _⟩ | exact ⟨rfl, _, Eq.trans (World.drewN_drewN _ _ _) (congrArg (World.drewN _) (Nat.add_assoc _ _ _))⟩))))
  go_ret3
  exact ⟨by first | rfl | (simp; done) | (simp [*]; done), by repeat (first | exact Drawn0.refl _ | apply Drawn0.step)⟩
def strings_Cut.f (a0 : ByteArray) (a1 : ByteArray) : Option (ByteArray × ByteArray × Bool) := (stringslite_Cut.f a0 a1).bind fun bt1447 => (some (bt1447.1, bt1447.2.1, bt1447.2.2))
set_option maxHeartbeats 8000000 in
set_option maxRecDepth 100000 in
theorem strings_Cut.calls (a0 : ByteArray) (a1 : ByteArray) (r1 : ByteArray) (r2 : ByteArray) (r3 : Bool) (w : World) (h : strings_Cut.f a0 a1 = some (r1, r2, r3)) :
  Calls Tryz.prog 83 #[.string a0, .string a1] w fun e w' => e = .returned (.tuple #[.string r1, .string r2, .bool r3]) ∧ Drawn0 w w' := by
 have H := h
 unfold strings_Cut.f at H
 clear h
 replace H := zj H
 obtain ⟨⟨t1447, t1448, t1449⟩, A3, H⟩ := H
 try dsimp only at H
 simp only [Option.some.injEq, Prod.mk.injEq] at H
 obtain ⟨rfl, rfl, rfl⟩ := H
 go_enter Tryz.func83, Tryz.ntmps83
 go_wp2_with (first | ((with_reducible refine gate_callee (f := 100) rfl ?_); refine goesL_ (some 9) rfl rfl Tryz.func100 (by kernel_rfl) rfl #[.string a0, .string a1] rfl zq5 ?_; (with_reducible refine (stringslite_Cut.calls a0 a1 t1447 t1448 t1449 _ A3.out).mono ?_); rintro e w' ⟨rfl, ⟨nd, rfl⟩⟩; refine ⟨_, rfl, ?_⟩))
 go_ret3
 exact ⟨by first | rfl | (simp; done) | (simp [*]; done), by repeat (first | exact Drawn0.refl _ | apply Drawn0.step)⟩
def strings_Trim.f (a0 : ByteArray) (a1 : ByteArray) : Option (ByteArray) := if a0.size ≤ 9223372036854775807 ∧ a1.size < 4294967281 ∧ a1.data.toList.all (fun b => decide (b.toNat < 128)) = true then some ⟨(Lib.trimS a0.data.toList a1.data.toList).toArray⟩ else none
theorem strings_Trim.calls (a0 : ByteArray) (a1 : ByteArray) (r : ByteArray) (w : World) (h : strings_Trim.f a0 a1 = some r) :
  Calls Tryz.prog 101 #[.string a0, .string a1] w fun e w' => e = .returned (.string r) ∧ Below w.heap.size w w' := by
 unfold strings_Trim.f at h
 split at h
 ·rename_i h1
  obtain rfl := Option.some.inj h
  exact Any.strings_Trim_laid Tryz.lays160 (by kernel_rfl) a0 a1 w h1.1 h1.2.1 (ascii_of_all h1.2.2)
 ·cases h
end Go.Proofs.YtemnjgkicndmjaaGreatDoor.Q
namespace Go.Proofs.YtemnjgkicndmjaaGreatDoor.Q
open Go.RowKit Go.Proofs.YtemnjgkicndmjaaGreatDoor.E Go.Proofs.YtemnjgkicndmjaaGreatDoorW.PrintWords Go.Proofs.YtemnjgkicndmjaaGreatDoorW.PrintLast Go.Proofs.YtemnjgkicndmjaaGreatDoorW.PrintMore
set_option linter.unusedVariables false
theorem nat_FromDecimal.pc (a : ByteArray) (b : List Int) (k : Nat) (h : nat_FromDecimal.f k a = some b) : PureC Tryz.prog 85 ((one cs).enc a) (rU.enc b) := by
  intro w P0 vs hr
  obtain ⟨u0, e0, hr⟩ := at_str hr
  have z := at_nil hr
  subst z
  have q1 := e0
  obtain rfl : vs = #[.string a] := Array.toList_inj.1 (by simpa using q1)
  refine Calls.mono (nat_FromDecimal.calls k a b w h) fun e w' he => ?_
  obtain ⟨v0_, rfl, hv0, hb⟩ := he
  exact ⟨_, rfl, hb, (V_row hv0 fun n hn => .inr hn)⟩
theorem nat_Decimal.pc (a : List Int) (b : ByteArray) (k : Nat) (h : nat_Decimal.f k a = some b) : PureC Tryz.prog 86 ((one rU).enc a) (cs.enc b) := by
  intro w P0 vs hr
  obtain ⟨A0, c0, u0, e0, hc0, hf0, hr⟩ := at_row hr
  have z := at_nil hr
  subst z
  have q1 := e0
  obtain rfl : vs = #[.slice A0 a.length c0] := Array.toList_inj.1 (by simpa using q1)
  refine Calls.mono (nat_Decimal.calls k P0 A0 c0 a b w (rowV hf0 hc0) h) fun e w' he => ?_
  obtain ⟨rfl, hb⟩ := he
  exact ⟨_, rfl, hb, (show E.Rep _ _ _ _ _ from by simp only [cs, E.Rep])⟩
theorem strings_CutPrefix.pc (a : ByteArray × ByteArray) (b : (ByteArray × Bool)) (h : strings_CutPrefix.f a.1 a.2 = some b) : PureC Tryz.prog 82 ((more cs (one cs)).enc a) ((tup (more cs (one cb))).enc b) := by
  intro w P0 vs hr
  obtain ⟨x0, x1⟩ := a
  obtain ⟨r0, r1⟩ := b
  obtain ⟨u0, e0, hr⟩ := at_str hr
  obtain ⟨u1, e1, hr⟩ := at_str hr
  have z := at_nil hr
  subst z
  subst e1
  have q2 := e0
  obtain rfl : vs = #[.string x0, .string x1] := Array.toList_inj.1 (by simpa using q2)
  refine Calls.mono (strings_CutPrefix.calls x0 x1 r0 r1 w h) fun e w' he => ?_
  obtain ⟨rfl, hb⟩ := he
  exact ⟨_, rfl, hb.below, (rep_tup2 (show E.Rep _ _ _ _ _ from by simp only [cs, E.Rep]) (show E.Rep _ _ _ _ _ from by simp only [cb, E.Rep]))⟩
theorem strings_Cut.pc (a : ByteArray × ByteArray) (b : (ByteArray × ByteArray × Bool)) (h : strings_Cut.f a.1 a.2 = some b) : PureC Tryz.prog 83 ((more cs (one cs)).enc a) ((tup (more cs (more cs (one cb)))).enc b) := by
  intro w P0 vs hr
  obtain ⟨x0, x1⟩ := a
  obtain ⟨r0, r1, r2⟩ := b
  obtain ⟨u0, e0, hr⟩ := at_str hr
  obtain ⟨u1, e1, hr⟩ := at_str hr
  have z := at_nil hr
  subst z
  subst e1
  have q2 := e0
  obtain rfl : vs = #[.string x0, .string x1] := Array.toList_inj.1 (by simpa using q2)
  refine Calls.mono (strings_Cut.calls x0 x1 r0 r1 r2 w h) fun e w' he => ?_
  obtain ⟨rfl, hb⟩ := he
  exact ⟨_, rfl, hb.below, (rep_tup3 (show E.Rep _ _ _ _ _ from by simp only [cs, E.Rep]) (show E.Rep _ _ _ _ _ from by simp only [cs, E.Rep]) (show E.Rep _ _ _ _ _ from by simp only [cb, E.Rep]))⟩
theorem strings_Trim.pc (a : ByteArray × ByteArray) (b : ByteArray) (h : strings_Trim.f a.1 a.2 = some b) : PureC Tryz.prog 101 ((more cs (one cs)).enc a) (cs.enc b) := by
  intro w P0 vs hr
  obtain ⟨x0, x1⟩ := a
  obtain ⟨u0, e0, hr⟩ := at_str hr
  obtain ⟨u1, e1, hr⟩ := at_str hr
  have z := at_nil hr
  subst z
  subst e1
  have q2 := e0
  obtain rfl : vs = #[.string x0, .string x1] := Array.toList_inj.1 (by simpa using q2)
  refine Calls.mono (strings_Trim.calls x0 x1 b w h) fun e w' he => ?_
  obtain ⟨rfl, hb⟩ := he
  exact ⟨_, rfl, hb, (show E.Rep _ _ _ _ _ from by simp only [cs, E.Rep])⟩
noncomputable def cT0 : List (Nat × Fun) := [(85, mk (one cs) rU (at' fun (a : ByteArray) => nat_FromDecimal.f 40 a)), (86, mk (one rU) cs (at' fun (a : List Int) => nat_Decimal.f 40 a)), (82, mk (more cs (one cs)) (tup (more cs (one cb))) (at' fun (a : ByteArray × ByteArray) => strings_CutPrefix.f a.1 a.2)), (83, mk (more cs (one cs)) (tup (more cs (more cs (one cb)))) (at' fun (a : ByteArray × ByteArray) => strings_Cut.f a.1 a.2)), (101, mk (more cs (one cs)) cs (at' fun (a : ByteArray × ByteArray) => strings_Trim.f a.1 a.2)), (30, mk (more rU (one rU)) rU (at' fun (a : List Int × List Int) => nat_Mul.f 40 a.1 a.2)), (90, mk (more rU (one rU)) rU (at' fun (a : List Int × List Int) => nat_plus.f 40 a.1 a.2)), (67, mk (more rU (one rU)) iI (at' fun (a : List Int × List Int) => nat_Compare.f 40 a.1 a.2)), (68, mk (more rU (one rU)) rU (at' fun (a : List Int × List Int) => nat_Sub.f 40 a.1 a.2)), (51, mk (more rU (one rU)) rU (at' fun (a : List Int × List Int) => nat_Gcd.f 40 a.1 a.2)), (66, mk (more rU (one rU)) (tup (more rU (one rU))) (at' fun (a : List Int × List Int) => nat_DivMod.f 40 a.1 a.2)), (64, mk (one rU) cb (at' fun (a : List Int) => nat_IsOne.f a)), (88, mk (one rU) rU (at' fun (a : List Int) => slices_Clone_uint32_uint32.f a))]
theorem cTok0 : TOk Tryz.prog (tb cT0) := (tb_cons (at_ok (by kernel_rfl) fun a b h => nat_FromDecimal.pc a b 40 h) (tb_cons (at_ok (by kernel_rfl) fun a b h => nat_Decimal.pc a b 40 h) (tb_cons (at_ok (by kernel_rfl) fun a b h => strings_CutPrefix.pc a b h) (tb_cons (at_ok (by kernel_rfl) fun a b h => strings_Cut.pc a b h) (tb_cons (at_ok (by kernel_rfl) fun a b h => strings_Trim.pc a b h) (tb_cons (at_ok (by kernel_rfl) fun a b h => nat_Mul.pc a b 40 h) (tb_cons (at_ok (by kernel_rfl) fun a b h => nat_plus.pc a b 40 h) (tb_cons (at_ok (by kernel_rfl) fun a b h => nat_Compare.pc a b 40 h) (tb_cons (at_ok (by kernel_rfl) fun a b h => nat_Sub.pc a b 40 h) (tb_cons (at_ok (by kernel_rfl) fun a b h => nat_Gcd.pc a b 40 h) (tb_cons (at_ok (by kernel_rfl) fun a b h => nat_DivMod.pc a b 40 h) (tb_cons (at_ok (by kernel_rfl) fun a b h => nat_IsOne.pc a b h) (tb_cons (at_ok (by kernel_rfl) fun a b h => slices_Clone_uint32_uint32.pc a b h) tb_nil)))))))))))))
noncomputable def cT1 : List (Nat × Fun) := [(89, execFn' Tryz.prog (tb cT0) (lt []) 40 Tryz.f89), (53, execFn' Tryz.prog (tb cT0) (lt []) 40 Tryz.f53), (87, execFn' Tryz.prog (tb cT0) (lt []) 40 Tryz.f87), (84, execFn' Tryz.prog (tb cT0) (lt []) 40 Tryz.f84), (57, execFn' Tryz.prog (tb cT0) (lt []) 40 Tryz.f57)] ++ cT0
theorem cTok1 : TOk Tryz.prog (tb cT1) := (tb_cons (execN_ok cTok0 mixed Tryz.func89 (by kernel_rfl)) (tb_cons (execN_ok cTok0 mixed Tryz.func53 (by kernel_rfl)) (tb_cons (execN_ok cTok0 mixed Tryz.func87 (by kernel_rfl)) (tb_cons (execN_ok cTok0 mixed Tryz.func84 (by kernel_rfl)) (tb_cons (execN_ok cTok0 mixed Tryz.func57 (by kernel_rfl)) cTok0)))))
noncomputable def cT2 : List (Nat × Fun) := [(52, execFn' Tryz.prog (tb cT1) (lt []) 40 Tryz.f52), (49, execFn' Tryz.prog (tb cT1) (lt []) 40 Tryz.f49), (29, execFn' Tryz.prog (tb cT1) (lt []) 40 Tryz.f29)] ++ cT1
theorem cTok2 : TOk Tryz.prog (tb cT2) := (tb_cons (execN_ok cTok1 mixed Tryz.func52 (by kernel_rfl)) (tb_cons (execN_ok cTok1 mixed Tryz.func49 (by kernel_rfl)) (tb_cons (execN_ok cTok1 mixed Tryz.func29 (by kernel_rfl)) cTok1)))
noncomputable def cT3 : List (Nat × Fun) := [(48, execFn' Tryz.prog (tb cT2) (lt []) 40 Tryz.f48), (50, execFn' Tryz.prog (tb cT2) (lt []) 40 Tryz.f50), (46, execFn' Tryz.prog (tb cT2) (lt []) 40 Tryz.f46), (47, execFn' Tryz.prog (tb cT2) (lt []) 40 Tryz.f47)] ++ cT2
theorem cTok3 : TOk Tryz.prog (tb cT3) := (tb_cons (execN_ok cTok2 mixed Tryz.func48 (by kernel_rfl)) (tb_cons (execN_ok cTok2 mixed Tryz.func50 (by kernel_rfl)) (tb_cons (execN_ok cTok2 mixed Tryz.func46 (by kernel_rfl)) (tb_cons (execN_ok cTok2 mixed Tryz.func47 (by kernel_rfl)) cTok2))))
noncomputable def cT4 : List (Nat × Fun) := [(13, execFn' Tryz.prog (tb cT3) (lt []) 40 Tryz.f13)] ++ cT3
theorem cTok4 : TOk Tryz.prog (tb cT4) := (tb_cons (execN_ok cTok3 mixed Tryz.func13 (by kernel_rfl)) cTok3)
def lw_counted.c (R : Type) (_ : Unit) (K : Bool → Option R) : Option R := K true
set_option maxRecDepth 100000 in
theorem lw_counted.run : execFn' Tryz.prog (tb cT4) (lt []) 40 Tryz.f11 AV [] some = some (.bool true) := by kernel_rfl
theorem lw_counted.ok : FunOk Tryz.prog 11 (mk none0 cb lw_counted.c) := by
  refine mk_ok (by kernel_rfl) (fun R a K => rfl) (fun a b h => ?_)
  injection h with h
  subst h
  exact (execN_ok cTok4 mixed Tryz.func11 (by kernel_rfl)).2.2 _ _ lw_counted.run
noncomputable def lw_NumberBitsMatchSpec.d (g24 : CF (Int × Nm × Nm) ((Nm × Int))) (g9 : CF (Int × Nm × Nm) ((Nm × Int))) (g10 : CF (Nm × Nm) (Bool)) (g11 : CF (Unit) (Bool)) (g25 : CF (Nm × Nm) (Int)) (R : Type) (a : Int × Nm × Nm) (K : (Bool) → Option R) : Option R :=
  (g24 _ (a.1, (a.2.1.1, a.2.1.2.1, a.2.1.2.2), (a.2.2.1, a.2.2.2.1, a.2.2.2.2)) fun t1 => (g9 _ ((38 : Int), (a.2.1.1, a.2.1.2.1, a.2.1.2.2), (a.2.2.1, a.2.2.2.1, a.2.2.2.2)) fun t2 => (if (a.1 == (2 : Int)) = true then (g9 _ ((124 : Int), (a.2.1.1, a.2.1.2.1, a.2.1.2.2), (a.2.2.1, a.2.2.2.1, a.2.2.2.2)) fun t3 => (if (t1.2 == t3.2) = true then (g10 _ ((t1.1.1, t1.1.2.1, t1.1.2.2), (t3.1.1, t3.1.2.1, t3.1.2.2)) fun t4 => (if t4 = true then (g11 _ () fun t5 => K t5) else K false)) else K false)) else (if (a.1 == (3 : Int)) = true then (g9 _ ((94 : Int), (a.2.1.1, a.2.1.2.1, a.2.1.2.2), (a.2.2.1, a.2.2.2.1, a.2.2.2.2)) fun t6 => (if (t1.2 == t6.2) = true then (g10 _ ((t1.1.1, t1.1.2.1, t1.1.2.2), (t6.1.1, t6.1.2.1, t6.1.2.2)) fun t7 => (if t7 = true then (g11 _ () fun t8 => K t8) else K false)) else K false)) else (if (a.1 != (1 : Int)) = true then (g25 _ ((a.2.1.1, a.2.1.2.1, a.2.1.2.2), (a.2.2.1, a.2.2.2.1, a.2.2.2.2)) fun t9 => (if (t1.2 == t9) = true then (g10 _ ((t1.1.1, t1.1.2.1, t1.1.2.2), (false, ([] : List Int), ([] : List Int))) fun t10 => (if t10 = true then (g11 _ () fun t11 => K t11) else K false)) else K false)) else (if (t1.2 == t2.2) = true then (g10 _ ((t1.1.1, t1.1.2.1, t1.1.2.2), (t2.1.1, t2.1.2.1, t2.1.2.2)) fun t12 => (if t12 = true then (g11 _ () fun t13 => K t13) else K false)) else K false))))))
noncomputable abbrev lw_NumberBitsMatchSpec.c (R : Type) (a : Int × Nm × Nm) (K : (Bool) → Option R) : Option R := lw_NumberBitsMatchSpec.d number_Bits.c rf_TwoB.c lw_same.c lw_counted.c lw_wrong.c R a K
noncomputable def lw_NumberBitsMatchSpec.T (g24 : CF (Int × Nm × Nm) ((Nm × Int))) (g9 : CF (Int × Nm × Nm) ((Nm × Int))) (g10 : CF (Nm × Nm) (Bool)) (g11 : CF (Unit) (Bool)) (g25 : CF (Nm × Nm) (Int)) : List (Nat × Tf) := [(9, .pure (mk (more (ci .u8) (more kN (one kN))) kE g9)), (10, .pure (mk (more kN (one kN)) cb g10)), (11, .pure (mk none0 cb g11)), (24, .pure (mk (more iI (more kN (one kN))) kE g24)), (25, .pure (mk (more kN (one kN)) iI g25))]
theorem lw_NumberBitsMatchSpec.tok : TOk Tryz.prog (tt (lw_NumberBitsMatchSpec.T number_Bits.c rf_TwoB.c lw_same.c lw_counted.c lw_wrong.c)) := (tt_cons rf_TwoB.ok (tt_cons lw_same.ok (tt_cons lw_counted.ok (tt_cons number_Bits.ok (tt_cons lw_wrong.ok tt_nil)))))
set_option maxRecDepth 100000 in
theorem lw_NumberBitsMatchSpec.ex0 (g24 : CF (Int × Nm × Nm) ((Nm × Int))) (g9 : CF (Int × Nm × Nm) ((Nm × Int))) (g10 : CF (Nm × Nm) (Bool)) (g11 : CF (Unit) (Bool)) (g25 : CF (Nm × Nm) (Int)) (R : Type) (a : Int × Nm × Nm) (K : (Bool) → Option R) : execFn' Tryz.prog (tt (lw_NumberBitsMatchSpec.T g24 g9 g10 g11 g25)) (lt []) 60 Tryz.f6 R ((more iI (more kN (one kN))).enc a) (dk cb K) = lw_NumberBitsMatchSpec.d g24 g9 g10 g11 g25 R a K := by kernel_rfl
theorem lw_NumberBitsMatchSpec.sh : Shown Tryz.prog 6 (more iI (more kN (one kN))).enc cb lw_NumberBitsMatchSpec.c := exec_shown lw_NumberBitsMatchSpec.tok mixed Tryz.func6 (by kernel_rfl) (lw_NumberBitsMatchSpec.ex0 number_Bits.c rf_TwoB.c lw_same.c lw_counted.c lw_wrong.c)
theorem sameLimbs_loop (a b : List Int) (hl : a.length = b.length) (hL : a.length ≤ 1099511627776) : ∀ (d i : Nat), d + i = a.length → a.take i = b.take i → Ev (fun k => lw_sameLimbs.l0 k a b (i : Int)) (decide (a = b)) := by
  intro d
  induction d with
  | zero =>
    intro i hd h
    rw [List.take_of_length_le (by omega), List.take_of_length_le (by omega)] at h
    refine Ev.step (f := fun _ => some true) (fun k => ?_) (Ev.eq (Ev.now _) (by rw [decide_eq_true h]))
    simp only [lw_sameLimbs.l0]
    rw [if_neg (by omega)]
  | succ d ih =>
    intro i hd h
    have g1 : (i : Int) < (a.length : Int) := by omega
    have g2 : (0 : Int) ≤ (i : Int) := by omega
    have g3 : (i : Int) < (b.length : Int) := by omega
    have gw : ∀ _ : Unit, wrap64 ((i : Int) + 1) = ((i + 1 : Nat) : Int) := fun _ => by rw [w64 (by omega) (by omega)]; omega
    by_cases c : a.getD i 0 = b.getD i 0
    · refine Ev.step (f := fun k => lw_sameLimbs.l0 k a b ((i + 1 : Nat) : Int)) (fun k => ?_) (ih (i + 1) (by omega) (by rw [take_succ' _ _ (by omega), take_succ' _ _ (by omega), h, c]))
      simp only [lw_sameLimbs.l0]
      rw [if_pos g1, if_pos g2, if_pos g3, rd_getD, rd_getD, if_pos c, gw ()]
    · refine Ev.step (f := fun _ => some false) (fun k => ?_) (Ev.eq (Ev.now _) (by rw [decide_eq_false]; rintro rfl; exact c rfl))
      simp only [lw_sameLimbs.l0]
      rw [if_pos g1, if_pos g2, if_pos g3, rd_getD, rd_getD, if_neg c]
theorem sameLimbs_ev (a b : List Int) (hL : a.length ≤ 1099511627776) : Ev (fun k => lw_sameLimbs.f k a b) (decide (a = b)) := by
  by_cases hl : a.length = b.length
  · refine Ev.congr (fun k => ?_) (sameLimbs_loop a b hl hL a.length 0 (by omega) rfl)
    unfold lw_sameLimbs.f
    rw [if_pos (by omega)]; rfl
  · refine Ev.ret fun k => ?_
    unfold lw_sameLimbs.f
    rw [if_neg (by omega), decide_eq_false (fun h => hl (by rw [h]))]
theorem same_c (m : Bool) (a b : List Int) (n : Bool) (c d : List Int) (hL : a.length ≤ 1099511627776) (hM : b.length ≤ 1099511627776) {R : Type} (K : Bool → Option R) : lw_same.c R ((m, a, b), (n, c, d)) K = K (decide (m = n ∧ a = c ∧ b = d)) := by
  unfold lw_same.c lw_same.d
  by_cases h : m = n
  · refine (if_pos (by simpa using h)).trans ((lw_sameLimbs.eq (sameLimbs_ev a c hL) _).trans ?_)
    by_cases h2 : a = c
    · refine (if_pos (decide_eq_true h2)).trans ((lw_sameLimbs.eq (sameLimbs_ev b d hM) _).trans ?_)
      simp [h, h2]
    · refine (if_neg (by simp [h2])).trans ?_
      simp [h2]
  · refine (if_neg (by simpa using h)).trans ?_
    simp [h]
theorem outM_eq {neg neg' : Bool} {p q p' q' : List Int} {N D : Int} (h : Rep neg p q N D) (h' : Rep neg' p' q' N D) (hD : D ≠ 0) : outM neg p q = outM neg' p' q' := by
  obtain ⟨rfl, rfl, rfl⟩ := h.unique (by decide) h' hD
  rfl
def Short (x : (Bool × List Int × List Int) × Int) : Prop := x.1.2.1.length ≤ 128 ∧ x.1.2.2.length ≤ 128
theorem short_out (neg : Bool) (p q : List Int) : Short (outM neg p q) := by
  unfold outM Short
  split
  · exact ⟨by decide, by decide⟩
  · rename_i h
    refine ⟨?_, ?_⟩ <;> dsimp only <;> omega
theorem short_bad (e : Int) : Short (bad e) := ⟨Nat.zero_le _, Nat.zero_le _⟩
theorem same_self {x : (Bool × List Int × List Int) × Int} (h : Short x) {R : Type} (K : Bool → Option R) : lw_same.c R ((x.1.1, x.1.2.1, x.1.2.2), (x.1.1, x.1.2.1, x.1.2.2)) K = K true := by
  obtain ⟨h1, h2⟩ := h
  rw [same_c _ _ _ _ _ _ (by omega) (by omega)]
  simp
theorem bits_same (op rop : Int) (h : (op = 1 ∧ rop = 38) ∨ (op = 2 ∧ rop = 124) ∨ (op = 3 ∧ rop = 94)) (na : Bool) (a da : List Int) (nb : Bool) (b db : List Int) (ha : Lim 4294967296 a) (hda : Lim 4294967296 da) (hb : Lim 4294967296 b) (hdb : Lim 4294967296 db) :
    ∃ r, Short r ∧ (∀ (R : Type) (K : (Nm × Int) → Option R), number_Bits.c R (op, (na, a, da), (nb, b, db)) K = K r) ∧ (∀ (R : Type) (K : (Nm × Int) → Option R), rf_TwoB.c R (rop, (na, a, da), (nb, b, db)) K = K r) := by
  have hop : op = 1 ∨ op = 2 ∨ op = 3 := by rcases h with ⟨h, _⟩ | ⟨h, _⟩ | ⟨h, _⟩ <;> simp [h]
  have hrop : rop = 38 ∨ rop = 124 ∨ rop = 94 := by rcases h with ⟨_, h⟩ | ⟨_, h⟩ | ⟨_, h⟩ <;> simp [h]
  by_cases w : wrong2 na a da nb b db = 0
  · obtain ⟨ca, cb, rfl, rfl⟩ := wrong2_ok w
    have la := ca.ln
    have lb := cb.ln
    obtain ⟨t, t1, t2, t3, t4⟩ := twos_c na a [1] (max a.length b.length + 1) ha (by omega) (by omega)
    obtain ⟨s, s1, s2, s3, s4⟩ := twos_c nb b [1] (max a.length b.length + 1) hb (by omega) (by omega)
    have va := val_nonneg (show (0 : Int) < 4294967296 by decide) ha
    have vb := val_nonneg (show (0 : Int) < 4294967296 by decide) hb
    have va2 := Int.lt_of_lt_of_le (val_lt (show (0 : Int) < 4294967296 by decide) ha) (pow_mono' (by decide) (show a.length ≤ max a.length b.length by omega))
    have vb2 := Int.lt_of_lt_of_le (val_lt (show (0 : Int) < 4294967296 by decide) hb) (pow_mono' (by decide) (show b.length ≤ max a.length b.length by omega))
    have na0 : na = true → val 4294967296 a ≠ 0 := fun e h0 => by
      have := ca.ng ((val_eq_zero (by decide) ha ca.nn).1 h0)
      rw [this] at e; cases e
    have nb0 : nb = true → val 4294967296 b ≠ 0 := fun e h0 => by
      have := cb.ng ((val_eq_zero (by decide) hb cb.nn).1 h0)
      rw [this] at e; cases e
    obtain ⟨m, p, q, f1, f2⟩ := Bits_c op hop ha hb ca cb t s _ rfl t1 t2 t4 s1 s2 s4
    obtain ⟨O, o1, o2⟩ := prog_bits op hop t1 t2 t3 va va2 na0 s1 s2 s3 vb vb2 nb0
    obtain ⟨O', m', p', q', g1, g2, g3⟩ := RBits_c op rop h ha hb ca cb
    have hO : O = O' := Nat.eq_of_testBit_eq fun i => by rw [o1, g1]
    subst hO
    rw [o2] at f2
    refine ⟨_, short_out m p q, f1, fun R K => ?_⟩
    rw [g2, outM_eq g3 f2 (by decide)]
  · exact ⟨_, short_bad _, fun R K => Bits_bad op na a da nb b db ha hda hb hdb w K, fun R K => (TwoB_eq rop hrop _ _ _).trans (RInts_bad na a da nb b db ha hda hb hdb w _ _)⟩
theorem wrong_c (na : Bool) (a da : List Int) (nb : Bool) (b db : List Int) (ha : Lim 4294967296 a) (hda : Lim 4294967296 da) (hb : Lim 4294967296 b) (hdb : Lim 4294967296 db) {R : Type} (K : Int → Option R) : lw_wrong.c R ((na, a, da), (nb, b, db)) K = K (if wrong2 na a da nb b db = 0 then 1 else wrong2 na a da nb b db) := by
  unfold lw_wrong.c lw_wrong.d wrong2
  dsimp only
  refine (Fault_c na a da ha hda _).trans ?_
  by_cases h1 : fault na a da = 0
  · rw [if_pos h1]
    refine (if_neg (by simp [h1])).trans ?_
    refine (Fault_c nb b db hb hdb _).trans ?_
    by_cases h2 : fault nb b db = 0
    · rw [if_pos h2]
      refine (if_neg (by simp [h2])).trans ?_
      have ca := can_of_fault' h1
      have cb := can_of_fault' h2
      obtain ⟨x, u, x1, x2, x3, x4, x5, x6, x7⟩ := Of_c ha hda ca
      obtain ⟨y, v, y1, y2, y3, y4, y5, y6, y7⟩ := Of_c hb hdb cb
      have hu : u = [1] ↔ da = [1] := by rw [← eq_one (show (1 : Int) < 65536 by decide) x2.lq x2.nq, ← eq_one (show (1 : Int) < 4294967296 by decide) hda ca.nd, x4]
      have hv : v = [1] ↔ db = [1] := by rw [← eq_one (show (1 : Int) < 65536 by decide) y2.lq y2.nq, ← eq_one (show (1 : Int) < 4294967296 by decide) hdb cb.nd, y4]
      refine (x1 R _).trans ?_
      refine (IsInt_c x2.lq x2.nq (by omega) _).trans ?_
      by_cases c : da = [1]
      · rw [if_pos c]
        refine (if_pos (by simp [hu.2 c])).trans ?_
        refine (y1 R _).trans ?_
        refine (IsInt_c y2.lq y2.nq (by omega) _).trans ?_
        by_cases d : db = [1]
        · rw [if_pos d]
          refine (if_neg (by simp [hv.2 d])).trans ?_
          rw [if_pos rfl]
        · rw [if_neg d, if_neg (show ¬ (7 : Int) = 0 by decide)]
          exact if_pos (by simp [hv, d])
      · rw [if_neg c, if_neg (show ¬ (7 : Int) = 0 by decide)]
        exact if_neg (by simp [hu, c])
    · rw [if_neg h2, if_neg h2]
      exact if_pos (by simp [h2])
  · rw [if_neg h1, if_neg h1]
    exact if_pos (by simp [h1])
theorem Bits_arg (op : Int) (hop : op ≠ 1 ∧ op ≠ 2 ∧ op ≠ 3) (na : Bool) (a da : List Int) (nb : Bool) (b db : List Int) (ha : Lim 4294967296 a) (hda : Lim 4294967296 da) (hb : Lim 4294967296 b) (hdb : Lim 4294967296 db) {R : Type} (K : (Nm × Int) → Option R) : number_Bits.c R (op, (na, a, da), (nb, b, db)) K = K (bad (if wrong2 na a da nb b db = 0 then 1 else wrong2 na a da nb b db)) := by
  by_cases w : wrong2 na a da nb b db = 0
  · rw [if_pos w]
    obtain ⟨ca, cb, rfl, rfl⟩ := wrong2_ok w
    have la := ca.ln
    have lb := cb.ln
    obtain ⟨t, t1, t2, t3, t4⟩ := twos_c na a [1] (max a.length b.length + 1) ha (by omega) (by omega)
    obtain ⟨s, s1, s2, s3, s4⟩ := twos_c nb b [1] (max a.length b.length + 1) hb (by omega) (by omega)
    have hwn : IntKind.i64.wrap ((if (b.length : Int) > (a.length : Int) then (b.length : Int) else (a.length : Int)) + (1 : Int)) = ((max a.length b.length + 1 : Nat) : Int) := by
      rw [IntKind.wrap_i64]
      split <;> omega
    unfold number_Bits.c number_Bits.d
    refine (int2_c na a [1] nb b [1] ha one_rep.1 hb one_rep.1 _).trans ?_
    rw [w]
    refine (if_neg (by decide)).trans ?_
    dsimp only
    rw [hwn]
    refine (t4 R _).trans ?_
    refine (s4 R _).trans ?_
    unfold number_Bits.l1
    have hf : ∃ f, 4611686018427387904 = f + 1 := ⟨4611686018427387903, rfl⟩
    obtain ⟨f, hf⟩ := hf
    rw [hf]
    simp only [iter]
    unfold number_Bits.bl1 number_Bits.el1
    dsimp only
    rw [if_pos (by simp; omega), if_neg (by simpa using hop.1), if_neg (by simpa using hop.2.1), if_neg (by simpa using hop.2.2)]
    rfl
  · rw [if_neg w]
    exact Bits_bad op na a da nb b db ha hda hb hdb w K
theorem match_step {x : Nm × Int} (h : Short x) {R : Type} (A L : Option R) : (if (x.2 == x.2) = true then (lw_same.c R ((x.1.1, x.1.2.1, x.1.2.2), (x.1.1, x.1.2.1, x.1.2.2)) fun t => (if t = true then L else A)) else A) = L := by
  rw [if_pos (by simp)]
  refine (same_self h _).trans ?_
  exact if_pos rfl
theorem match_pure (op : Int) (na : Bool) (a da : List Int) (nb : Bool) (b db : List Int) (ha : Lim 4294967296 a) (hda : Lim 4294967296 da) (hb : Lim 4294967296 b) (hdb : Lim 4294967296 db) {R : Type} (K : Bool → Option R) : lw_NumberBitsMatchSpec.c R (op, (na, a, da), (nb, b, db)) K = K true := by
  unfold lw_NumberBitsMatchSpec.c lw_NumberBitsMatchSpec.d
  dsimp only
  obtain ⟨r1, k1, f1, g1⟩ := bits_same 1 38 (.inl ⟨rfl, rfl⟩) na a da nb b db ha hda hb hdb
  by_cases h2 : op = 2
  · subst h2
    obtain ⟨r2, k2, f2, g2⟩ := bits_same 2 124 (.inr (.inl ⟨rfl, rfl⟩)) na a da nb b db ha hda hb hdb
    refine (f2 R _).trans ?_
    refine (g1 R _).trans ?_
    refine (if_pos rfl).trans ?_
    refine (g2 R _).trans ?_
    exact match_step k2 _ _
  · by_cases h3 : op = 3
    · subst h3
      obtain ⟨r3, k3, f3, g3⟩ := bits_same 3 94 (.inr (.inr ⟨rfl, rfl⟩)) na a da nb b db ha hda hb hdb
      refine (f3 R _).trans ?_
      refine (g1 R _).trans ?_
      refine (if_neg (by decide)).trans ?_
      refine (if_pos rfl).trans ?_
      refine (g3 R _).trans ?_
      exact match_step k3 _ _
    · by_cases h1 : op = 1
      · subst h1
        refine (f1 R _).trans ?_
        refine (g1 R _).trans ?_
        refine (if_neg (by decide)).trans ?_
        refine (if_neg (by decide)).trans ?_
        refine (if_neg (by decide)).trans ?_
        exact match_step k1 _ _
      · refine (Bits_arg op ⟨h1, h2, h3⟩ na a da nb b db ha hda hb hdb _).trans ?_
        refine (g1 R _).trans ?_
        refine (if_neg (by simpa using h2)).trans ?_
        refine (if_neg (by simpa using h3)).trans ?_
        refine (if_pos (by simpa using h1)).trans ?_
        refine (wrong_c na a da nb b db ha hda hb hdb _).trans ?_
        exact match_step (short_bad _) _ _
end Go.Proofs.YtemnjgkicndmjaaGreatDoor.Q
namespace Go.Proofs.YtemnjgkicndmjaaGreatDoor.Q
open Go.ChangeShapes Go.WideShapes Go.ChangeAt Go.RowKit Go.Joins Go.Proofs.YtemnjgkicndmjaaGreatDoorW.PrintWords Go.Proofs.YtemnjgkicndmjaaGreatDoorW.PrintLast Go.Proofs.YtemnjgkicndmjaaGreatDoorW.PrintMore
set_option linter.unusedVariables false
theorem laidOut : laidOutB Tryz.prog = true := by kernel_rfl
theorem own : ownKnob Tryz.prog.godebug = none := by kernel_rfl
theorem lim_of_wf {zs : List Int} (h : ∀ n ∈ zs, (Lit.int .u32 n).wf = true) : Lim 4294967296 zs := by
  intro x hx
  have h1 := h x hx
  simp only [Lit.wf, Bool.and_eq_true, decide_eq_true_eq] at h1
  have e1 : IntKind.u32.min = 0 := by decide
  have e2 : IntKind.u32.max = 4294967295 := by decide
  omega
theorem open_limbs {H : Type} {enc : TypeId × Value → H} {W : World} {n : Nat} {c : Value} {y : DataW H × List MemPlace} (h : DataW.trod enc Tryz.prog W 0 (fun _ => true) true n 22 [c] = some y) :
    ∃ (A : Option Addr) (cap : Nat) (l : List Int), c = .slice A l.length cap ∧ l.length ≤ cap ∧ Kd.C (Kd.int .u32) W A l.length l ∧ Lim 4294967296 l := by
  rcases open_ints Tryz.underlying22 Tryz.underlying73 (by kernel_rfl) h with ⟨hcs, _⟩ | ⟨x, l, cp, zs, hcs, _, hl, hm, hz, _, hcell, hwz⟩
  · simp at hcs
    exact ⟨none, 0, [], hcs, Nat.le_refl _, Kd.C_of_reads (enc := Value.int .u32) (d := (0 : Int)) ⟨rfl, by decide, fun h => absurd h (Nat.lt_irrefl _)⟩, lim_nil _⟩
  · simp at hcs
    have hz' : zs.length = cp := by simpa using hz
    have hlen : (zs.take l).length = l := by rw [List.length_take]; omega
    refine ⟨some x, cp, zs.take l, by rw [hlen]; exact hcs, by rw [hlen]; exact hl, Kd.C_of_reads (enc := Value.int .u32) (d := (0 : Int)) ⟨rfl, by rw [hlen]; unfold maxLen at hm; omega, fun _ => ⟨x, rfl, fun j hj => ?_⟩⟩, (lim_of_wf hwz).take _⟩
    rw [hlen] at hj
    rw [hcell j (by omega), List.getD_eq_getElem?_getD, List.getD_eq_getElem?_getD, List.getElem?_take, if_pos hj]
set_option maxRecDepth 100000 in
theorem open_number {H : Type} {enc : TypeId × Value → H} {W : World} {b0 : Nat} {r : Reach} {v : Value} {d : DataW H} {p : List MemPlace} (hv : Value.okWide Tryz.prog W r b0 24 v) (h : DataW.Trod enc Tryz.prog W 0 (fun _ => true) true 24 v d p) :
    ∃ (neg : Bool) (A1 : Option Addr) (c1 : Nat) (l1 : List Int) (A2 : Option Addr) (c2 : Nat) (l2 : List Int), v = .agg #[.bool neg, .slice A1 l1.length c1, .slice A2 l2.length c2] ∧
      l1.length ≤ c1 ∧ Kd.C (Kd.int .u32) W A1 l1.length l1 ∧ Lim 4294967296 l1 ∧ l2.length ≤ c2 ∧ Kd.C (Kd.int .u32) W A2 l2.length l2 ∧ Lim 4294967296 l2 := by
  obtain ⟨v0, v1, v2, y0, y1, y2, n, rfl, rfl, rfl, h0, h1, h2⟩ := open_agg3 Tryz.underlying24 (by kernel_rfl) (by kernel_rfl) hv h
  obtain ⟨b, e0, rfl⟩ := DataW.trod_bool Tryz.underlying4 h0
  obtain ⟨A1, c1, l1, rfl, i1, k1, m1⟩ := open_limbs h1
  obtain ⟨A2, c2, l2, rfl, i2, k2, m2⟩ := open_limbs h2
  simp at e0
  subst e0
  exact ⟨b, A1, c1, l1, A2, c2, l2, rfl, i1, k1, m1, i2, k2, m2⟩
def accepted : List (Nat × Nat) := [(128, 191), (160, 191), (128, 159), (144, 191), (128, 143), (0, 0), (0, 0), (0, 0), (0, 0), (0, 0), (0, 0), (0, 0), (0, 0), (0, 0), (0, 0), (0, 0)]
noncomputable def laidFirst : Array Value := (Go.Pinned.utf8FirstZ.map fun (z : Nat) => Value.int .u8 (Int.ofNat z)).toArray
noncomputable def laidRanges : Array Value := (accepted.flatMap fun (z : Nat × Nat) => [Value.int .u8 (Int.ofNat z.1), Value.int .u8 (Int.ofNat z.2)]).toArray
noncomputable def laidWorld (os : Os) : World :=
  let w0 := World.holding Tryz.prog os ⟨#[], #[], []⟩
  { w0 with heap := (w0.heap.modify 1 (fun o => match o with
      | .cells _ t frozen => .cells laidFirst t frozen
      | o => o)).modify 2 (fun o => match o with
      | .cells _ t frozen => .cells laidRanges t frozen
      | o => o) }
set_option maxRecDepth 100000 in
theorem laid_met (os : Os) (args : Array Value) : laidMet Tryz.prog [("unicode/utf8.acceptRanges", Rows.laid_unicode_utf8_acceptRanges), ("unicode/utf8.first", Rows.laid_unicode_utf8_first)] ((laidWorld os).forCall (fun _ _ => 0) ⟨#[], args, []⟩).memory :=
  laidMet_of_run' 8 (by kernel_rfl) (by kernel_rfl)
end Go.Proofs.YtemnjgkicndmjaaGreatDoor.Q
namespace Go.Proofs.YtemnjgkicndmjaaGreatDoor.Q
open Go.ChangeShapes Go.WideShapes Go.ChangeAt Go.RowKit Go.Joins Go.Proofs.YtemnjgkicndmjaaGreatDoor.E Go.Proofs.YtemnjgkicndmjaaGreatDoorW.PrintWords Go.Proofs.YtemnjgkicndmjaaGreatDoorW.PrintLast Go.Proofs.YtemnjgkicndmjaaGreatDoorW.PrintMore
set_option linter.unusedVariables false
namespace LMatchLaw
set_option maxRecDepth 100000 in
theorem contract (H : Type) (enc : TypeId × Value → H) (W : World) (base : Nat) (args : Array Value) (ds gs : List (DataW H)) (before : List MemPlace)
    (hval : ∀ (j : Nat) t v, Tryz.f6.params[j]? = some t → args[j]? = some v → Value.okWide Tryz.prog W .any base t v)
    (hW : DataW.Whole enc Tryz.prog Tryz.f6.params.toList Rows.numberBitsMatchSpecSpec.vars false W args.toList ds gs before) :
    Calls Tryz.prog 6 args W fun e W' => ∃ v, e = .returned v ∧ Rows.numberBitsMatchSpecSpec.post enc Tryz.prog Tryz.f6 false true false false W args v W' := by
  have hW' := hW
  obtain ⟨p, q, hA0, hV, rfl, hfz, hnd⟩ := hW
  have hA : DataW.TrodAll enc Tryz.prog W 0 (fun _ => true) true Tryz.f6.params.toList args.toList ds p := hA0
  rw [Tryz.params6] at hA hval
  obtain ⟨v0, vs0, d0, ds0, p0, q0, hargs, rfl, rfl, h0, r0⟩ := trodAll_cons hA
  obtain ⟨v1, vs1, d1, ds1, p1, q1, rfl, rfl, rfl, h1, r1⟩ := trodAll_cons r0
  obtain ⟨v2, vs2, d2, ds2, p2, q2, rfl, rfl, rfl, h2, r2⟩ := trodAll_cons r1
  obtain ⟨rfl, rfl, rfl⟩ := trodAll_nil r2
  obtain rfl : args = #[v0, v1, v2] := by cases args; simp_all
  obtain ⟨rfl, rfl⟩ := trodVars_none hV
  obtain ⟨b0, rfl, rfl, rfl, w0⟩ := open_int Tryz.underlying3 (hval 0 3 v0 rfl rfl) h0
  have k1 := h1
  have lt1 : ∀ x ∈ p1, x.block < W.heap.size := by obtain ⟨m, hm⟩ := k1; exact DataW.trod_lt m _ _ _ hm
  obtain ⟨s1, A1, c1, a1, B1, e1, d1, rfl, i1, m1, n1, j1, l1, o1⟩ := open_number (hval 1 24 v1 rfl rfl) h1
  have k2 := h2
  have lt2 : ∀ x ∈ p2, x.block < W.heap.size := by obtain ⟨m, hm⟩ := k2; exact DataW.trod_lt m _ _ _ hm
  obtain ⟨s2, A2, c2, a2, B2, e2, d2, rfl, i2, m2, n2, j2, l2, o2⟩ := open_number (hval 2 24 v2 rfl rfl) h2
  clear hA0
  simp only [List.append_nil] at hW'
  have hx := lw_NumberBitsMatchSpec.sh.2 (b0, (s1, a1, d1), (s2, a2, d2)) true (match_pure b0 s1 a1 d1 s2 a2 d2 n1 o1 n2 o2 some)
  refine (hx W (fun k => k < W.heap.size) _ (reps_cons (rep_int3 b0) (reps_cons (rep_num s1 i1 m1 j1 l1) (reps_cons (rep_num s2 i2 m2 j2 l2) reps_nil)))).mono fun e W' ⟨v, he, bel, hv⟩ => ?_
  subst he
  have hv' : v = .bool true := by simpa only [Go.Proofs.YtemnjgkicndmjaaGreatDoor.E.cb, Go.Proofs.YtemnjgkicndmjaaGreatDoor.E.Rep] using hv
  subst hv'
  exact ⟨_, rfl, _, _, _, [], _, [], hW', trodAll_mk1 (shut_bool Tryz.underlying4 _), (trodAll_cons_mk (shut_int Tryz.underlying3 w0) (trodAll_cons_mk (Below.trod laidOut (by kernel_rfl) (of_decide_eq_true (by kernel_rfl)) k1 bel lt1) (trodAll_cons_mk (Below.trod laidOut (by kernel_rfl) (of_decide_eq_true (by kernel_rfl)) k2 bel lt2) trodAll_mk0))), rfl, bel.frame _, fun h => by cases h⟩
theorem reads (os : Os) {H : Type} (enc : TypeId × Value → H) : ∃ places, DataW.whole enc Tryz.prog ((laidWorld os).forCall (fun _ _ => 0) ⟨#[], #[.int .i64 0, .agg #[.bool false, .slice none 0 0, .slice none 0 0], .agg #[.bool false, .slice none 0 0, .slice none 0 0]], []⟩).memory Tryz.f6.params.toList Rows.numberBitsMatchSpecSpec.vars false #[Value.int .i64 0, .agg #[.bool false, .slice none 0 0, .slice none 0 0], .agg #[.bool false, .slice none 0 0, .slice none 0 0]].toList 8 = some ([.lit (.int .i64 0), .agg [.lit (.bool false), .nil, .nil], .agg [.lit (.bool false), .nil, .nil]], [], places) :=
  ⟨[], by kernel_rfl⟩
set_option maxRecDepth 100000 in
theorem lifted (os : Os) (started : os.Started) (H : Type) (enc : TypeId × Value → H) (F : Stop.Interp) :
    ReturnsInHanded {} Tryz.checked os 6 .any ((OpenSpec.ofChange Rows.numberBitsMatchSpecSpec).preRow enc Tryz.prog Tryz.f6 Rows.numberBitsMatchSpecRow.domain false Rows.numberBitsMatchSpecRow.laid) (((OpenSpec.ofChange Rows.numberBitsMatchSpecSpec).at F).post enc Tryz.prog Tryz.f6 false true false false) := by
  obtain ⟨places, hx⟩ := reads os enc
  refine returnsInHanded_of_row (C := Tryz.checked) (s := OpenSpec.ofChange Rows.numberBitsMatchSpecSpec) own started (by kernel_rfl) Tryz.func6
    (witness_row_at (enc := enc) (C := Tryz.checked) false (laidWorld os) #[.int .i64 0, .agg #[.bool false, .slice none 0 0, .slice none 0 0], .agg #[.bool false, .slice none 0 0, .slice none 0 0]] rfl (by kernel_rfl) (by kernel_rfl) (by kernel_rfl)
      (OpenSpec.preRow_of_cond 8 hx (by kernel_rfl) (fun k hk => by cases hk) (by kernel_rfl) (laid_met os _))) ?_
  intro W base args ds gs before hval hW _ _ _ hL _ _
  exact contract H enc W base args ds gs before hval hW
theorem said : Rows.NumberBitsMatchSpecSaid :=
  OpenClaim.holds_of_cond 6 Tryz.f6 rfl rfl rfl rfl rfl rfl rfl ⟨rfl, rfl, rfl, rfl, rfl⟩ rfl rfl rfl rfl rfl (by kernel_rfl) Tryz.func6 (by kernel_rfl)
    (of_decide_eq_true (by kernel_rfl)) (by unfold Func.isWrapper; first | (rw [if_pos (by decide +kernel)]; kernel_rfl) | (rw [if_neg (by decide +kernel)]; exact ⟨rfl, rfl⟩))
    (fun os started H enc _ F => by rw [OpenClaim.pre_eq_preRow]; exact lifted os started H enc F)
theorem plain (f : FuncId) (fn : Func) (hf : Tryz.pinned.checked.prog.funcNamed "fetterlock/fetterlocklaw1.NumberBitsMatchSpec" = some f) (hfn : Tryz.pinned.checked.prog.funcs[f]? = some fn) :
    false = Tryz.pinned.checked.prog.looks [] ∧ ∀ (j : Nat) t, fn.params[j]? = some t → Tryz.pinned.checked.prog.wantsStandIn t = false := by
  obtain rfl : f = 6 := Option.some.inj ((show Tryz.prog.funcNamed "fetterlock/fetterlocklaw1.NumberBitsMatchSpec" = some 6 by kernel_rfl).symm.trans hf) |>.symm
  obtain rfl : fn = Tryz.f6 := (Option.some.inj (Tryz.func6.symm.trans hfn)).symm
  refine ⟨by kernel_rfl, fun j t ht => ?_⟩
  rw [Tryz.params6] at ht
  have hm := Array.mem_of_getElem? ht
  have ht2 : t = 3 ∨ t = 24 := by simpa using hm
  rcases ht2 with rfl | rfl
  · exact (show Tryz.prog.wantsStandIn 3 = false by kernel_rfl)
  · exact (show Tryz.prog.wantsStandIn 24 = false by kernel_rfl)
theorem card : Rows.NumberBitsMatchSpecCardSaid :=
  Claim7.holds_tied_plain_at .later [] _ _ _ _ said (fun _ h => by cases h) (by kernel_rfl) (fun _ h => by cases h) numberBitsMatchSpec_row_tie rfl ⟨rfl, rfl⟩ (by kernel_rfl) rfl plain (by kernel_rfl)
end LMatchLaw
end Go.Proofs.YtemnjgkicndmjaaGreatDoor.Q
namespace Go.Proofs.YtemnjgkicndmjaaGreatDoor
theorem numberBitsMatchSpec_holds : Rows.NumberBitsMatchSpecCardSaid := Q.LMatchLaw.card
end Go.Proofs.YtemnjgkicndmjaaGreatDoor

