/- What this text proves: a part of the walk and of the plain laws of one card; no conditions. -/
import Derived.Test.YtemnjgkicndmjaaDoorWb3
namespace Go.Proofs.YtemnjgkicndmjaaDoor.Q
open Go.RowKit Go.Proofs.YtemnjgkicndmjaaDoorW.PrintWords Go.Proofs.YtemnjgkicndmjaaDoorW.PrintLast Go.Proofs.YtemnjgkicndmjaaDoorW.PrintMore
attribute [local go_sem] max2_int min2_int max_two min_two max_three min_three max_four min_four
set_option linter.unusedVariables false
set_option linter.unusedSimpArgs false
mutual
def nat_Decimal.l0 : Nat → List Int → List Int → Option (ByteArray)
 | 0, _, _ => none
 | k + 1, x0, x3 => if (x0.length : Int) > 0 then ((nat_DivSmall.f k x0 1000000000).bind fun bt239 => (if x3.length < 35184372088832 then (nat_Decimal.l0 k bt239.1 (x3 ++ [bt239.2])) else (none))) else (nat_Decimal.l1 k x3 ([] : List Int) (wrap64 ((x3.length : Int) - 1)))
def nat_Decimal.l1 : Nat → List Int → List Int → Int → Option (ByteArray)
 | 0, _, _, _ => none
 | k + 1, x3, x6, x7 => if x7 ≥ 0 then (if 0 ≤ x7 then (if x7 < (x3.length : Int) then (if 9 ≤ 281474976710656 then (nat_Decimal.l2 k x3 x6 x7 (rd x3 x7) (List.replicate 9 0) 8) else (none)) else (none)) else (none)) else (nat_Decimal.l3 k x6 0)
def nat_Decimal.l2 : Nat → List Int → List Int → Int → Int → List Int → Int → Option (ByteArray)
 | 0, _, _, _, _, _, _ => none
 | k + 1, x3, x6, x7, x8, x9, x10 => if x10 ≥ 0 then (if 0 ≤ x10 then (if x10 < (x9.length : Int) then (nat_Decimal.l2 k x3 x6 x7 ((Int.tdiv x8 10) % 4294967296) (x9.set (x10 : Int).toNat (((48 + (Int.tmod x8 10)) % 4294967296) % 256)) (wrap64 (x10 - 1))) else (none)) else (none)) else (if x6.length + x9.length < 140737488355328 then (nat_Decimal.l1 k x3 (x6 ++ x9) (wrap64 (x7 - 1))) else (none))
def nat_Decimal.l3 : Nat → List Int → Int → Option (ByteArray)
 | 0, _, _ => none
 | k + 1, x6, x11 => if 0 ≤ x11 then (if x11 < (x6.length : Int) then (if (rd x6 x11) = 48 then (nat_Decimal.l3 k x6 (wrap64 (x11 + 1))) else (if x11 ≤ (x6.length : Int) then (some (strOfNums (x6.drop (x11 : Int).toNat))) else (none))) else (none)) else (none)
end
def nat_Decimal.f (k : Nat) (l0 : List Int) : Option (ByteArray) := if (l0.length : Int) = 0 then (some (⟨#[48]⟩ : ByteArray)) else (nat_Decimal.l0 k l0 ([] : List Int))
theorem nat_Decimal.mono_l : ∀ k, (∀ y0 y1, LeO (nat_Decimal.l0 k y0 y1) (nat_Decimal.l0 (k + 1) y0 y1)) ∧ (∀ y0 y1 y2, LeO (nat_Decimal.l1 k y0 y1 y2) (nat_Decimal.l1 (k + 1) y0 y1 y2)) ∧ (∀ y0 y1 y2 y3 y4 y5, LeO (nat_Decimal.l2 k y0 y1 y2 y3 y4 y5) (nat_Decimal.l2 (k + 1) y0 y1 y2 y3 y4 y5)) ∧ (∀ y0 y1, LeO (nat_Decimal.l3 k y0 y1) (nat_Decimal.l3 (k + 1) y0 y1))
 | 0 => ⟨fun _ _ r h => by simp [nat_Decimal.l0] at h, fun _ _ _ r h => by simp [nat_Decimal.l1] at h, fun _ _ _ _ _ _ r h => by simp [nat_Decimal.l2] at h, fun _ _ r h => by simp [nat_Decimal.l3] at h⟩
 | k + 1 => by
  obtain ⟨ih0, ih1, ih2, ih3⟩ := nat_Decimal.mono_l k
  refine ⟨?_, ?_, ?_, ?_⟩
  ·intro y0 y1
   unfold nat_Decimal.l0
   have m0 := ih0
   have m1 := ih1
   have m2 := ih2
   have m3 := ih3
   have m4 := @nat_DivSmall.mono
   exact zm
  ·intro y0 y1 y2
   unfold nat_Decimal.l1
   have m0 := ih0
   have m1 := ih1
   have m2 := ih2
   have m3 := ih3
   have m4 := @nat_DivSmall.mono
   exact zm
  ·intro y0 y1 y2 y3 y4 y5
   unfold nat_Decimal.l2
   have m0 := ih0
   have m1 := ih1
   have m2 := ih2
   have m3 := ih3
   have m4 := @nat_DivSmall.mono
   exact zm
  ·intro y0 y1
   unfold nat_Decimal.l3
   have m0 := ih0
   have m1 := ih1
   have m2 := ih2
   have m3 := ih3
   have m4 := @nat_DivSmall.mono
   exact zm
theorem nat_Decimal.mono : ∀ a0 k, LeO (nat_Decimal.f k a0) (nat_Decimal.f (k + 1) a0) := by
 intro a0 k
 obtain ⟨ih0, ih1, ih2, ih3⟩ := nat_Decimal.mono_l k
 unfold nat_Decimal.f
 have m0 := ih0
 have m1 := ih1
 have m2 := ih2
 have m3 := ih3
 have m4 := @nat_DivSmall.mono
 exact zm
set_option maxHeartbeats 8000000 in
set_option maxRecDepth 100000 in
theorem nat_Decimal.calls (k : Nat) (P0_ : Nat → Prop) (A0 : Option Addr) (c0 : Nat) (l0 : List Int) (r : ByteArray) (w : World) (hs0 : Kd.V (Kd.int .u32) 55 w w.heap.size (fun k_ => P0_ k_) (.slice A0 l0.length c0) l0) (h : nat_Decimal.f k l0 = some r) :
  Calls Tryd.prog 48 #[.slice A0 l0.length c0] w fun e w' => e = .returned (.string r) ∧ Below w.heap.size w w' := by
 have HO0 := am (show Kd.V (Kd.int .u32) 55 w w.heap.size (fun k_ => (P0_ k_ ∨ w.heap.size ≤ k_)) (.slice A0 l0.length c0) l0 from Kd.V_mono hs0 (fun k_ hk => .inl hk))
 have HB := am (Below.refl w.heap.size w)
 have H := h
 unfold nat_Decimal.f at H
 clear h
 by_cases c2 : (l0.length : Int) = 0
 ·rw [if_pos c2] at H
  have c2b0 : ((l0.length : Int) == 0) = true := beq_iff_eq.mpr c2
  have c2b1 : ((l0.length : Int) != 0) = false := bne_eq_false_iff_eq.mpr c2
  clear c2
  obtain rfl := Option.some.inj H
  go_enter Tryd.func48, Tryd.ntmps48
  go_wp2
  go_ret
  exact ⟨zq9, zq1⟩
 ·rw [if_neg c2] at H
  have c2b0 : ((l0.length : Int) == 0) = false := beq_eq_false_iff_ne.mpr c2
  have c2b1 : ((l0.length : Int) != 0) = true := bne_iff_ne.mpr c2
  have c2b2 : ¬ (l0 = []) := fun h_ => c2 (by rw [h_]; rfl)
  have H' := am H
  clear H
  go_enter Tryd.func48, Tryd.ntmps48
  go_wp2
  go_loopg [0, 3] k (fun kq v0 v3 w' => ∃ (x0_1 : List Int) (x3_1 : List Int), Aside0 (nat_Decimal.l0 kq x0_1 x3_1 = some r) ∧ Aside0 (kq ≤ k) ∧ Aside0 (Kd.V (Kd.int .u32) 55 w' w.heap.size (fun k_ => (P0_ k_ ∨ w.heap.size ≤ k_) ∧ some k_ ≠ (v3 : Value).ownBlock) v0 x0_1) ∧ Aside0 (Kd.R (Kd.int .u32) 55 w' w.heap.size (fun k_ => (w.heap.size ≤ k_)) v3 x3_1) ∧ Aside0 (Below w.heap.size w w'))
  case atStart => exact ⟨(l0), (([] : List Int)), H', ⟨Nat.le_refl _⟩, ⟨zwV (h := by exact Kd.V_mono HO0.out (fun _ hk => ⟨hk, (by simp [Value.ownBlock])⟩))⟩, ⟨by first | exact Kd.R_nil _ _ _ _ _ | exact Kd.N_nil _ _ _ _ _ | exact Kd.V_nil _ _ _ _ _ | exact Kd.Q_nil _ _ _ _ _ | exact Kd.S_nil _ _ _ _ _⟩, ⟨zq1⟩⟩
  case round =>
   clear H'
   obtain ⟨x0_1, x3_1, HA, HK1, HO_0, HO_3, HB⟩ := hrel
   cases gk with
   | zero => exact absurd HA.out (by simp [nat_Decimal.l0])
   | succ k1 =>
    have H := HA.out
    clear HA
    simp only [nat_Decimal.l0] at H
    by_cases c3 : (x0_1.length : Int) > 0
    ·rw [if_pos c3] at H
     have c3b0 : decide (0 < (x0_1.length : Int)) = true := decide_eq_true c3
     have c3b1 : decide (0 < x0_1.length) = true := decide_eq_true (by omega)
     clear c3
     replace H := zj H
     obtain ⟨⟨t239, t242⟩, A4, H⟩ := H
     try dsimp only at H
     replace H := zn H
     obtain ⟨c5, H⟩ := H
     have LMc5 := am c5
     clear c5
     obtain ⟨y243, hy243⟩ : ∃ y_ : List Int, y_ = (x3_1 ++ [t242]) := ⟨_, rfl⟩
     try rw [← hy243] at H
     have Ny243 := am hy243
     clear hy243
     have H' := am H
     clear H
     obtain ⟨Ao6, co6, eo6⟩ := Kd.V_slice HO_0.out
     subst eo6
     go_wp2_with (first | ((with_reducible refine gate_callee (f := 100) rfl ?_); refine goesL_ (some 20) rfl rfl Tryd.func100 (by kernel_rfl) rfl #[.slice Ao6 x0_1.length co6, .int .u32 1000000000] rfl zq5 ?_; (with_reducible refine (nat_DivSmall.calls k1 _ _ x0_1 1000000000 t239 t242 _ ?side1 ?side2 A4.out).mono ?_); (case side1 => exact zc ((Kd.V_reads' HO_0.out).2.2)); (case side2 => exact (Kd.V_reads' HO_0.out).2.1); rintro e w7 ⟨v240, rfl, ho0, hb⟩; refine ⟨_, rfl, ?_⟩; refine zt4 (vb HO_0 hb) (rb HO_3 hb) (Kd.V_lower (Kd.V_mono (ok' := fun k_ => (P0_ k_ ∨ w.heap.size ≤ k_) ∧ some k_ ≠ (u3 : Value).ownBlock) ho0 (fun k_ hk_ => ⟨(.inr (Nat.le_trans (below_size zq1) hk_)), (Kd.fresh' (Kd.R_lt (zq4 HO_3.out)) k_ hk_)⟩)) (below_size zq1)) (below_step zq1 hb) ?_; clear HO_0 HO_3 HB; intro HO_0 HO_3 HO241 HB) | ((with_reducible refine gate_builtin (b := .append) (xs := #[.tmp 23, .tmp 25]) rfl ?_); at_builtin; refine Kd.R_append (Kd.int .u32) (w0 := w) w.heap.size rfl (.tmp 23) (.tmp 25) 22 55 (.int .u32 0) 4 rfl Tryd.underlying22 info55 rfl (by decide) (by omega) u3 x3_1 t242 [.int .u32 t242] (fun k_ => (w.heap.size ≤ k_)) (fun _ => False) rfl rfl ?aP (fun _ hk => hk.elim) ?aF ?aO ?aB ?aS ?aL ?_; (case aP => exact rfl); (case aB => exact zq1); (case aF => exact (fun k_ hk => (Nat.le_trans (below_size zq1) hk))); (case aO => exact (zq4 HO_3.out)); (case aS => exact (below_size zq1)); (case aL => have := LMc5.out; omega); intro v244 w8 ho hb hg hat; rw [← Ny243.out] at ho; refine zt4 (Kd.V_afterv (ok := (fun k_ => (P0_ k_ ∨ w.heap.size ≤ k_))) (zq3 HO_0.out) hg hat) (Kd.V_afterv (ok := (fun k_ => (P0_ k_ ∨ w.heap.size ≤ k_))) (zq3 HO241.out) hg hat) (hb) (ho) ?_; clear HO_0 HO241 HB HO_3; intro HO_0 HO241 HB HO245; clear ho hb hg hat))
     go_roundg k1
     case measure => have := HK1.out; omega
     case rel => exact ⟨(t239), (y243), H', ⟨by have := HK1.out; omega⟩, ⟨zq3 HO241.out⟩, ⟨zq4 HO245.out⟩, ⟨zq1⟩⟩
    ·rw [if_neg c3] at H
     have c3b0 : decide (0 < (x0_1.length : Int)) = false := decide_eq_false c3
     have c3b1 : decide (0 < x0_1.length) = false := decide_eq_false (by omega)
     clear c3
     have H' := am H
     clear H
     obtain ⟨Ao9, co9, eo9⟩ := Kd.V_slice HO_0.out
     subst eo9
     obtain ⟨Ao10, co10, eo10⟩ := Kd.R_slice HO_3.out
     subst eo10
     go_wp2
     go_loopg [6, 7] k1 (fun kq v6 v7 w' => ∃ (x6_2 : List Int) (x7_2 : Int), v7 = .int .i64 x7_2 ∧ Aside0 (nat_Decimal.l1 kq x3_1 x6_2 x7_2 = some r) ∧ Aside0 (kq ≤ k1) ∧ Aside0 (Kd.R (Kd.int .u32) 55 w' w.heap.size (fun k_ => (w.heap.size ≤ k_)) (.slice Ao10 x3_1.length co10) x3_1) ∧ Aside0 (Kd.R (Kd.int .u8) 5 w' w.heap.size (fun k_ => (w.heap.size ≤ k_)) v6 x6_2) ∧ Aside0 (Below w.heap.size w w'))
     case atStart => exact ⟨(([] : List Int)), (wrap64 ((x3_1.length : Int) - 1)), zq8, H', ⟨Nat.le_refl _⟩, ⟨zq4 HO_3.out⟩, ⟨by first | exact Kd.R_nil _ _ _ _ _ | exact Kd.N_nil _ _ _ _ _ | exact Kd.V_nil _ _ _ _ _ | exact Kd.Q_nil _ _ _ _ _ | exact Kd.S_nil _ _ _ _ _⟩, ⟨zq1⟩⟩
     case round =>
      clear H'
      obtain ⟨x6_2, x7_2, rfl, HA, HK2, HO_3, HO_6, HB⟩ := hrel
      cases gk with
      | zero => exact absurd HA.out (by simp [nat_Decimal.l1])
      | succ k2 =>
       have H := HA.out
       clear HA
       simp only [nat_Decimal.l1] at H
       by_cases c11 : x7_2 ≥ 0
       ·rw [if_pos c11] at H
        have c11b0 : decide (0 ≤ x7_2) = true := decide_eq_true c11
        clear c11
        replace H := zn H
        obtain ⟨c12, H⟩ := H
        have c12b0 := decide_eq_true c12
        clear c12
        replace H := zn H
        obtain ⟨c13, H⟩ := H
        have c13b0 := decide_eq_true c13
        clear c13
        replace H := zn H
        obtain ⟨c14, H⟩ := H
        have c14b0 := eq_true c14
        have c14b1 := decide_eq_true c14
        clear c14
        obtain ⟨y247, hy247⟩ : ∃ y_ : List Int, y_ = (List.replicate 9 0) := ⟨_, rfl⟩
        try rw [← hy247] at H
        have Ny247 := am hy247
        clear hy247
        have H' := am H
        clear H
        have p246 : 0 ≤ (x7_2 : Int) := zq6
        have q246 : x7_2 < (x3_1.length : Int) := zq6
        obtain ⟨ad246, e246, hx246_0⟩ := Kd.at_int (Kd.R_reads' HO_3.out).2.2 x7_2 p246 q246
        cases e246
        replace p246 := eq_true p246
        replace q246 := eq_true q246
        go_wp2_with (first | ((with_reducible refine gate_dst (N := 39) rfl ?_); refine Kd.R_make (Kd.int .u8) _ 5 rfl (N := 39) rfl 105 _ _ rfl 9 rfl rfl Tryd.underlying105 (.int .u8 0) 1 info5 rfl (by decide) (by omega) 0 (ok := fun _ => True) (okp := fun _ => True) rfl (fun _ hk => hk) trivial (by omega) (by omega) (Below.refl _ _) (Nat.le_refl _) ?_; intro v248 w15 ho16 hb hg_ hnew_; clear hg_ hnew_; (first | rw [← Ny247.out] at ho16 | (simp only [Int.reduceToNat] at ho16; rw [← Ny247.out] at ho16)); refine zt4 (rb HO_3 hb) (Kd.R_elder' (zq4 HO_6.out) (Kd.R_base ho16) hb) (Kd.R_lower (Kd.R_new' (Kd.R_newM (M := fun k_ => (w.heap.size ≤ k_)) ho16 (below_size zq1) (fun k_ h_ => h_)) (Kd.R_lt (zq4 HO_6.out))) (below_size zq1)) (below_step zq1 hb) ?_; clear HO_3 HO_6 HB; intro HO_3 HO_6 HO249 HB; clear hb ho16))
        go_loopg [8, 10] k2 (fun kq v8 v10 w' => ∃ (x8_3 : Int) (x9_3 : List Int) (x10_3 : Int), v8 = .int .u32 x8_3 ∧ v10 = .int .i64 x10_3 ∧ Aside0 (nat_Decimal.l2 kq x3_1 x6_2 x7_2 x8_3 x9_3 x10_3 = some r) ∧ Aside0 (kq ≤ k2) ∧ Aside0 (Kd.R (Kd.int .u32) 55 w' w.heap.size (fun k_ => (w.heap.size ≤ k_)) (.slice (some ad246) x3_1.length co10) x3_1) ∧ Aside0 (Kd.R (Kd.int .u8) 5 w' w.heap.size (fun k_ => (w.heap.size ≤ k_) ∧ some k_ ≠ (v248 : Value).ownBlock) u6 x6_2) ∧ Aside0 (Kd.R (Kd.int .u8) 5 w' w.heap.size (fun k_ => (w.heap.size ≤ k_) ∧ some k_ ≠ (u6 : Value).ownBlock) v248 x9_3) ∧ Aside0 (Below w.heap.size w w'))
        case atStart => exact ⟨(rd x3_1 x7_2), (y247), (8), zq8, zq8, H', ⟨Nat.le_refl _⟩, ⟨zq4 HO_3.out⟩, ⟨zq4 HO_6.out⟩, ⟨zwR (h := by exact Kd.R_mono HO249.out (fun _ hk => ⟨hk.1.1, hk.2⟩))⟩, ⟨zq1⟩⟩
        case round =>
         clear H'
         obtain ⟨x8_3, x9_3, x10_3, rfl, rfl, HA, HK3, HO_3, HO_6, HO_9, HB⟩ := hrel
         cases gk with
         | zero => exact absurd HA.out (by simp [nat_Decimal.l2])
         | succ k3 =>
          have H := HA.out
          clear HA
          simp only [nat_Decimal.l2] at H
          by_cases c17 : x10_3 ≥ 0
          ·rw [if_pos c17] at H
           have c17b0 : decide (0 ≤ x10_3) = true := decide_eq_true c17
           clear c17
           replace H := zn H
           obtain ⟨c18, H⟩ := H
           have c18b0 := decide_eq_true c18
           clear c18
           replace H := zn H
           obtain ⟨c19, H⟩ := H
           have c19b0 := decide_eq_true c19
           clear c19
           obtain ⟨y250, hy250⟩ : ∃ y_ : List Int, y_ = (x9_3.set (x10_3 : Int).toNat (((48 + (Int.tmod x8_3 10)) % 4294967296) % 256)) := ⟨_, rfl⟩
           try rw [← hy250] at H
           have Ny250 := am hy250
           clear hy250
           have H' := am H
           clear H
           have p20 : 0 ≤ (x10_3 : Int) := zq6
           have q20 : (x10_3 : Int) < ((x9_3.length : Int) : Int) := zq6
           obtain ⟨go20, co20, eo20, gb20, gl20, cl20, HG20⟩ := Kd.R_form HO_9.out (by omega)
           (first | cases eo20 | (injection eo20 with ea_ en_ ec_; (first | subst ea_ | (injection ea_ with ea_; subst ea_)); subst ec_; clear en_))
           have GB20 := am gb20
           have GG20 := am HG20
           clear gb20 gl20 HG20
           obtain ⟨hx20_0, hf20_0⟩ := Kd.R_celln 0 HO_9.out (x10_3 : Int) p20 q20
           replace p20 := eq_true p20
           replace q20 := eq_true q20
           have HP21 := Kd.R_putg HO_9.out (x10_3 : Int) (((48 + (Int.tmod x8_3 10)) % 4294967296) % 256)
           go_wp2_with (first | ((with_reducible refine gate_store (t := 5) (p := 50) rfl ?_); refine zstore (t := 5) (p := 50) (w1 := (wr.setCell ⟨go20, (x10_3 : Int).toNat, none⟩ (.int .u8 (((48 + (Int.tmod x8_3 10)) % 4294967296) % 256)))) ?_; intro w22 hw; have hg : wr.grownBy w22 (some go20) := (by rw [hw]; exact HP21.2); have hp_ : Kd.R (Kd.int .u8) 5 w22 w.heap.size (fun k_ => (w.heap.size ≤ k_) ∧ some k_ ≠ (u6 : Value).ownBlock) (.slice (some ⟨go20, 0, none⟩) x9_3.length co20) y250 := (by rw [hw, Ny250.out]; exact HP21.1); clear HP21; refine zt4 (Kd.R_over' (v := (.slice (some ⟨go20, 0, none⟩) x9_3.length co20)) (zq4 HO_3.out) (Kd.R_typed HO_9.out) (by decide) hg) (Kd.R_after (v := (.slice (some ⟨go20, 0, none⟩) x9_3.length co20)) (v1 := (.slice (some ⟨go20, 0, none⟩) x9_3.length co20)) (ok := (fun k_ => (w.heap.size ≤ k_))) (zq4 HO_6.out) hg (.inl rfl)) (hp_) ((by rw [hw]; exact below_set (HB.out) GB20.out : Below w.heap.size w w22)) ?_; clear HO_3 HO_6 HO_9 HB; intro HO_3 HO_6 HO_9 HB; clear hg hw hp_))
           go_roundg k3
           case measure => have := HK1.out; have := HK2.out; have := HK3.out; omega
           case rel => exact ⟨((Int.tdiv x8_3 10) % 4294967296), (y250), (wrap64 (x10_3 - 1)), zq8, zq8, H', ⟨by have := HK1.out; have := HK2.out; have := HK3.out; omega⟩, ⟨zq4 HO_3.out⟩, ⟨zq4 HO_6.out⟩, ⟨zq4 HO_9.out⟩, ⟨zq1⟩⟩
          ·rw [if_neg c17] at H
           have c17b0 : decide (0 ≤ x10_3) = false := decide_eq_false c17
           clear c17
           replace H := zn H
           obtain ⟨c23, H⟩ := H
           have LMc23 := am c23
           clear c23
           obtain ⟨y251, hy251⟩ : ∃ y_ : List Int, y_ = (x6_2 ++ x9_3) := ⟨_, rfl⟩
           try rw [← hy251] at H
           have Ny251 := am hy251
           clear hy251
           have H' := am H
           clear H
           obtain ⟨Ao25, co25, eo25⟩ := Kd.R_slice HO_9.out
           subst eo25
           go_wp2_with (first | ((with_reducible refine gate_builtin (b := .append) (xs := #[.tmp 53, .tmp 54]) rfl ?_); at_builtin; refine Kd.R_append_rows (Kd.int .u8) (w0 := w) w.heap.size rfl (.tmp 53) (.tmp 54) 105 5 (.int .u8 0) 1 rfl Tryd.underlying105 info5 rfl (by decide) (by omega) u6 x6_2 x9_3 _ _ _ (fun k_ => (w.heap.size ≤ k_) ∧ some k_ ≠ (.slice Ao25 x9_3.length co25 : Value).ownBlock) (fun _ => False) rfl rfl ?aO ?aR (fun _ _ h => h) (fun _ h => h.elim) ?aF ?aB ?aS ?aL ?_; (case aR => repeat (first | exact (Kd.R_reads' HO_9.out).2.2 | (with_reducible refine Kd.C_alloc ?_ _) | (with_reducible refine Kd.C_drewN ?_ _) | (with_reducible refine Kd.C_drew ?_))); (case aB => exact zq1); (case aF => exact (fun k_ hk => ⟨(Nat.le_trans (below_size zq1) hk), Kd.fresh' (Kd.R_lt (zq4 HO_9.out)) k_ hk⟩)); (case aO => exact (zq4 HO_6.out)); (case aS => exact (below_size zq1)); (case aL => have := LMc23.out; omega); intro v252 w24 ho hb hg hat; rw [← Ny251.out] at ho; refine zt4 (Kd.R_over' (zq4 HO_3.out) (Kd.R_typed (zq4 HO_6.out)) (by decide) hg) (Kd.R_after (ok := (fun k_ => (w.heap.size ≤ k_))) (zq4 HO_9.out) hg hat) (hb) (ho) ?_; clear HO_3 HO_9 HB HO_6; intro HO_3 HO_9 HB HO253; clear ho hb hg hat))
           go_roundg k3
           case measure => have := HK1.out; have := HK2.out; have := HK3.out; omega
           case rel => exact ⟨(y251), (wrap64 (x7_2 - 1)), zq8, H', ⟨by have := HK1.out; have := HK2.out; have := HK3.out; omega⟩, ⟨zq4 HO_3.out⟩, ⟨zwR (h := by exact Kd.R_mono HO253.out (fun _ hk => hk.1))⟩, ⟨zq1⟩⟩
       ·rw [if_neg c11] at H
        have c11b0 : decide (0 ≤ x7_2) = false := decide_eq_false c11
        clear c11
        have H' := am H
        clear H
        go_wp2
        go_loopg [11] k2 (fun kq v11 w' => ∃ (x11_3 : Int), v11 = .int .i64 x11_3 ∧ Aside0 (nat_Decimal.l3 kq x6_2 x11_3 = some r) ∧ Aside0 (kq ≤ k2) ∧ Aside0 (Kd.R (Kd.int .u8) 5 w' w.heap.size (fun k_ => (w.heap.size ≤ k_)) u6 x6_2) ∧ Aside0 (Below w.heap.size w w'))
        case atStart => exact ⟨(0), zq8, H', ⟨Nat.le_refl _⟩, ⟨zq4 HO_6.out⟩, ⟨zq1⟩⟩
        case round =>
         clear H'
         obtain ⟨x11_3, rfl, HA, HK3, HO_6, HB⟩ := hrel
         cases gk with
         | zero => exact absurd HA.out (by simp [nat_Decimal.l3])
         | succ k3 =>
          have H := HA.out
          clear HA
          simp only [nat_Decimal.l3] at H
          replace H := zn H
          obtain ⟨c26, H⟩ := H
          have c26b0 := decide_eq_true c26
          clear c26
          replace H := zn H
          obtain ⟨c27, H⟩ := H
          have c27b0 := decide_eq_true c27
          clear c27
          by_cases c28 : (rd x6_2 x11_3) = 48
          ·rw [if_pos c28] at H
           have c28b0 : ((rd x6_2 x11_3) == 48) = true := beq_iff_eq.mpr c28
           have c28b1 : ((rd x6_2 x11_3) != 48) = false := bne_eq_false_iff_eq.mpr c28
           clear c28
           have H' := am H
           clear H
           obtain ⟨Ao29, co29, eo29⟩ := Kd.R_slice HO_6.out
           subst eo29
           have p254 : 0 ≤ (x11_3 : Int) := zq6
           have q254 : x11_3 < (x6_2.length : Int) := zq6
           obtain ⟨ad254, e254, hx254_0⟩ := Kd.at_int (Kd.R_reads' HO_6.out).2.2 x11_3 p254 q254
           cases e254
           replace p254 := eq_true p254
           replace q254 := eq_true q254
           go_wp2
           go_roundg k3
           case measure => have := HK1.out; have := HK2.out; have := HK3.out; omega
           case rel => exact ⟨(wrap64 (x11_3 + 1)), zq8, H', ⟨by have := HK1.out; have := HK2.out; have := HK3.out; omega⟩, ⟨zq4 HO_6.out⟩, ⟨zq1⟩⟩
          ·rw [if_neg c28] at H
           have c28b0 : ((rd x6_2 x11_3) == 48) = false := beq_eq_false_iff_ne.mpr c28
           have c28b1 : ((rd x6_2 x11_3) != 48) = true := bne_iff_ne.mpr c28
           have c30b0 := eq_true (zq6 : 0 ≤ x11_3)
           replace H := zn H
           obtain ⟨c31, H⟩ := H
           have c31b0 := eq_true c31
           have c31b1 := decide_eq_true c31
           clear c31
           obtain ⟨y255, hy255⟩ : ∃ y_ : List Int, y_ = (x6_2.drop (x11_3 : Int).toNat) := ⟨_, rfl⟩
           try rw [← hy255] at H
           have Ny255 := am hy255
           clear hy255
           obtain rfl := Option.some.inj H
           obtain ⟨Ao32, co32, eo32⟩ := Kd.R_slice HO_6.out
           subst eo32
           have p254 : 0 ≤ (x11_3 : Int) := zq6
           have q254 : x11_3 < (x6_2.length : Int) := zq6
           obtain ⟨ad254, e254, hx254_0⟩ := Kd.at_int (Kd.R_reads' HO_6.out).2.2 x11_3 p254 q254
           cases e254
           replace p254 := eq_true p254
           replace q254 := eq_true q254
           have q33 : (x11_3 : Int) ≤ ((x6_2.length : Int) : Int) := zq6
           obtain ⟨i033, hi033, _, hsz33, _⟩ := info_parts info5
           have hroom33 : x6_2.length ≤ co32 := (Kd.R_reads' HO_6.out).2.1
           have hC33 : Kd.C (Kd.int .u8) _ (some ad254) x6_2.length x6_2 := (Kd.R_reads' HO_6.out).2.2
           have q033 : (0 : Int) ≤ (x11_3 : Int) := zq6
           have hcut33 := cut_from (P := Tryd.prog) 105 5 .i64 Tryd.underlying105 hi033 1 hsz33 (some ad254) x6_2.length co32 x11_3 q033 q33
           have hr33 := Kd.C_drop (m := (x11_3 : Int).toNat) (c := co32) hC33 (by omega) hroom33
           obtain ⟨A33, hA33⟩ : ∃ A1, A1 = (if co32 = (x11_3 : Int).toNat then (some ad254) else ((some ad254) : Option Addr).map (·.add ((x11_3 : Int).toNat * 1))) := ⟨_, rfl⟩
           obtain ⟨c33, hc33⟩ : ∃ c1, c1 = co32 - (x11_3 : Int).toNat := ⟨_, rfl⟩
           have hy33 : y255.length = x6_2.length - (x11_3 : Int).toNat := (by rw [Ny255.out, List.length_drop] <;> omega)
           rw [show (x6_2).drop (x11_3 : Int).toNat = y255 from Ny255.out.symm] at hr33
           replace hr33 : Kd.C (Kd.int .u8) _ A33 y255.length y255 := (by rw [hA33]; exact hr33)
           rw [← hy33, ← hA33, ← hc33] at hcut33
           have HR258 := am hr33
           have HC258 := am (show y255.length ≤ c33 from by rw [hy33, hc33]; exact Nat.sub_le_sub_right hroom33 _)
           clear hr33 hC33 hroom33 hi033 hsz33 hc33
           have KY33 := am hy33
           have KA33 := am hA33
           clear hy33 hA33
           have KL33 := am (show (x11_3 : Int).toNat ≤ x6_2.length from by omega)
           replace q33 := eq_true q33
           have hcv34 := Kd.C_string (P := Tryd.prog) (A := A33) (c := c33) Tryd.underlying105 Tryd.underlying5 Tryd.underlying9 (by repeat (first | (with_reducible exact HR258.out) | (with_reducible refine Kd.C_alloc ?_ _) | (with_reducible refine Kd.C_drewN ?_ _) | (with_reducible refine Kd.C_drew ?_) | exact HR258.out))
           go_wp2
           go_ret
           exact ⟨zq9, zq1⟩
def stringslite_HasPrefix.f (a0 : ByteArray) (a1 : ByteArray) : Option (Bool) := if (a0.size : Int) ≥ (a1.size : Int) then (if 0 ≤ (a1.size : Int) then (if (a1.size : Int) ≤ (a0.size : Int) then (some ((a0.extract 0 ((a1.size : Int) : Int).toNat).toList == a1.toList)) else (none)) else (none)) else (some false)
set_option maxHeartbeats 8000000 in
set_option maxRecDepth 100000 in
theorem stringslite_HasPrefix.calls (a0 : ByteArray) (a1 : ByteArray) (r : Bool) (w : World) (h : stringslite_HasPrefix.f a0 a1 = some r) :
  Calls Tryd.prog 122 #[.string a0, .string a1] w fun e w' => e = .returned (.bool r) ∧ Drawn0 w w' := by
 have H := h
 unfold stringslite_HasPrefix.f at H
 clear h
 by_cases c3 : (a0.size : Int) ≥ (a1.size : Int)
 ·rw [if_pos c3] at H
  have c3b0 : decide ((a1.size : Int) ≤ (a0.size : Int)) = true := decide_eq_true c3
  have c3b1 : decide (a1.size ≤ a0.size) = true := decide_eq_true (Int.ofNat_le.mp c3)
  clear c3
  replace H := zn H
  obtain ⟨c4, H⟩ := H
  have c4b0 := eq_true c4
  have c4b1 := decide_eq_true c4
  clear c4
  replace H := zn H
  obtain ⟨c5, H⟩ := H
  have c5b0 := eq_true c5
  have c5b1 := decide_eq_true c5
  clear c5
  obtain rfl := Option.some.inj H
  go_enter Tryd.func122, Tryd.ntmps122
  go_wp2
  go_ret
  exact ⟨by first | rfl | (simp; done) | (simp [*]; done), by repeat (first | exact Drawn0.refl _ | apply Drawn0.step)⟩
 ·rw [if_neg c3] at H
  have c3b0 : decide ((a1.size : Int) ≤ (a0.size : Int)) = false := decide_eq_false c3
  have c3b1 : decide (a1.size ≤ a0.size) = false := decide_eq_false (fun h => c3 (Int.ofNat_le.mpr h))
  clear c3
  obtain rfl := Option.some.inj H
  go_enter Tryd.func122, Tryd.ntmps122
  go_wp2
  go_ret
  exact ⟨by first | rfl | (simp; done) | (simp [*]; done), by repeat (first | exact Drawn0.refl _ | apply Drawn0.step)⟩
def stringslite_CutPrefix.f (a0 : ByteArray) (a1 : ByteArray) : Option (ByteArray × Bool) := (stringslite_HasPrefix.f a0 a1).bind fun t264 => (if t264 = true then (if 0 ≤ (a1.size : Int) then (if (a1.size : Int) ≤ (a0.size : Int) then (some (a0.extract ((a1.size : Int) : Int).toNat a0.size, true)) else (none)) else (none)) else (some (a0, false)))
set_option maxHeartbeats 8000000 in
set_option maxRecDepth 100000 in
theorem stringslite_CutPrefix.calls (a0 : ByteArray) (a1 : ByteArray) (r1 : ByteArray) (r2 : Bool) (w : World) (h : stringslite_CutPrefix.f a0 a1 = some (r1, r2)) :
  Calls Tryd.prog 102 #[.string a0, .string a1] w fun e w' => e = .returned (.tuple #[.string r1, .bool r2]) ∧ Drawn0 w w' := by
 have H := h
 unfold stringslite_CutPrefix.f at H
 clear h
 replace H := zj H
 obtain ⟨t264, A3, H⟩ := H
 by_cases c4 : t264 = true
 ·subst c4
  have H1 : (if 0 ≤ (a1.size : Int) then (if (a1.size : Int) ≤ (a0.size : Int) then (some (a0.extract ((a1.size : Int) : Int).toNat a0.size, true)) else (none)) else (none)) = some (r1, r2) := by rw [if_pos rfl] at H; exact H
  clear H
  have H := H1
  clear H1
  replace H := zn H
  obtain ⟨c5, H⟩ := H
  have c5b0 := eq_true c5
  have c5b1 := decide_eq_true c5
  clear c5
  replace H := zn H
  obtain ⟨c6, H⟩ := H
  have c6b0 := eq_true c6
  have c6b1 := decide_eq_true c6
  clear c6
  simp only [Option.some.injEq, Prod.mk.injEq] at H
  obtain ⟨rfl, rfl⟩ := H
  go_enter Tryd.func102, Tryd.ntmps102
  go_wp2_with (first | ((with_reducible refine gate_callee (f := 122) rfl ?_); refine goesL_ (some 8) rfl rfl Tryd.func122 (by kernel_rfl) rfl #[.string a0, .string a1] rfl zq5 ?_; (with_reducible refine (stringslite_HasPrefix.calls a0 a1 true _ A3.out).mono ?_); rintro e w' ⟨rfl, ⟨nd, rfl⟩⟩; refine ⟨_, rfl, ?_⟩))
  go_ret2
  exact ⟨by first | rfl | (simp; done) | (simp [*]; done), by repeat (first | exact Drawn0.refl _ | apply Drawn0.step)⟩
 ·replace c4 := Bool.eq_false_iff.mpr c4
  subst c4
  have H1 : (some (a0, false)) = some (r1, r2) := by rw [if_neg (show ¬ (false = true) by decide)] at H; exact H
  clear H
  have H := H1
  clear H1
  simp only [Option.some.injEq, Prod.mk.injEq] at H
  obtain ⟨rfl, rfl⟩ := H
  go_enter Tryd.func102, Tryd.ntmps102
  go_wp2_with (first | ((with_reducible refine gate_callee (f := 122) rfl ?_); refine goesL_ (some 8) rfl rfl Tryd.func122 (by kernel_rfl) rfl #[.string a0, .string a1] rfl zq5 ?_; (with_reducible refine (stringslite_HasPrefix.calls a0 a1 false _ A3.out).mono ?_); rintro e w' ⟨rfl, ⟨nd, rfl⟩⟩; refine ⟨_, rfl, ?_⟩))
  go_ret2
  exact ⟨by first | rfl | (simp; done) | (simp [*]; done), by repeat (first | exact Drawn0.refl _ | apply Drawn0.step)⟩
def strings_CutPrefix.f (a0 : ByteArray) (a1 : ByteArray) : Option (ByteArray × Bool) := (stringslite_CutPrefix.f a0 a1).bind fun bt265 => (some (bt265.1, bt265.2))
set_option maxHeartbeats 8000000 in
set_option maxRecDepth 100000 in
theorem strings_CutPrefix.calls (a0 : ByteArray) (a1 : ByteArray) (r1 : ByteArray) (r2 : Bool) (w : World) (h : strings_CutPrefix.f a0 a1 = some (r1, r2)) :
  Calls Tryd.prog 50 #[.string a0, .string a1] w fun e w' => e = .returned (.tuple #[.string r1, .bool r2]) ∧ Drawn0 w w' := by
 have H := h
 unfold strings_CutPrefix.f at H
 clear h
 replace H := zj H
 obtain ⟨⟨t265, t266⟩, A3, H⟩ := H
 try dsimp only at H
 simp only [Option.some.injEq, Prod.mk.injEq] at H
 obtain ⟨rfl, rfl⟩ := H
 go_enter Tryd.func50, Tryd.ntmps50
 go_wp2_with (first | ((with_reducible refine gate_callee (f := 102) rfl ?_); refine goesL_ (some 8) rfl rfl Tryd.func102 (by kernel_rfl) rfl #[.string a0, .string a1] rfl zq5 ?_; (with_reducible refine (stringslite_CutPrefix.calls a0 a1 t265 t266 _ A3.out).mono ?_); rintro e w' ⟨rfl, ⟨nd, rfl⟩⟩; refine ⟨_, rfl, ?_⟩))
 go_ret2
 exact ⟨by first | rfl | (simp; done) | (simp [*]; done), by repeat (first | exact Drawn0.refl _ | apply Drawn0.step)⟩
def stringslite_Index.f (a0 : ByteArray) (a1 : ByteArray) : Option (Int) := if a1.size = 1 then some (Lib.indexByte a0.data.toList (bt a1 0).toNat.toUInt8) else none
theorem stringslite_Index.calls (a0 : ByteArray) (a1 : ByteArray) (r : Int) (w : World) (h : stringslite_Index.f a0 a1 = some r) :
  Calls Tryd.prog 123 #[.string a0, .string a1] w fun e w' => e = .returned (.int .i64 r) ∧ Drawn0 w w' := by
 unfold stringslite_Index.f at h
 split at h
 ·rename_i h1
  obtain rfl := Option.some.inj h
  obtain ⟨c, rfl⟩ : ∃ c, a1 = ⟨#[c]⟩ := by
   obtain ⟨⟨l⟩⟩ := a1
   match l, h1 with
   | [c], _ => exact ⟨c, rfl⟩
  have e : (bt ⟨#[c]⟩ 0).toNat.toUInt8 = c := by
   have : bt ⟨#[c]⟩ 0 = (c.toNat : Int) := rfl
   rw [this]; simp
  rw [e]
  exact (Any.stringslite_Index_one Tryd.lays219 a0 c w).mono fun e w' h => ⟨h.1, by rw [h.2]; exact Drawn0.refl w⟩
 ·cases h
def stringslite_Cut.f (a0 : ByteArray) (a1 : ByteArray) : Option (ByteArray × ByteArray × Bool) := (stringslite_Index.f a0 a1).bind fun t269 => (if t269 ≥ 0 then (if 0 ≤ t269 then (if t269 ≤ (a0.size : Int) then (if 0 ≤ (wrap64 (t269 + (a1.size : Int))) then (if (wrap64 (t269 + (a1.size : Int))) ≤ (a0.size : Int) then (some (a0.extract 0 (t269 : Int).toNat, a0.extract ((wrap64 (t269 + (a1.size : Int))) : Int).toNat a0.size, true)) else (none)) else (none)) else (none)) else (none)) else (some (a0, (⟨#[]⟩ : ByteArray), false)))
set_option maxHeartbeats 8000000 in
set_option maxRecDepth 100000 in
theorem stringslite_Cut.calls (a0 : ByteArray) (a1 : ByteArray) (r1 : ByteArray) (r2 : ByteArray) (r3 : Bool) (w : World) (h : stringslite_Cut.f a0 a1 = some (r1, r2, r3)) :
  Calls Tryd.prog 103 #[.string a0, .string a1] w fun e w' => e = .returned (.tuple #[.string r1, .string r2, .bool r3]) ∧ Drawn0 w w' := by
 have H := h
 unfold stringslite_Cut.f at H
 clear h
 replace H := zj H
 obtain ⟨t269, A3, H⟩ := H
 by_cases c4 : t269 ≥ 0
 ·rw [if_pos c4] at H
  have c4b0 : decide (0 ≤ t269) = true := decide_eq_true c4
  clear c4
  replace H := zn H
  obtain ⟨c5, H⟩ := H
  have c5b0 := eq_true c5
  have c5b1 := decide_eq_true c5
  clear c5
  replace H := zn H
  obtain ⟨c6, H⟩ := H
  have c6b0 := eq_true c6
  have c6b1 := decide_eq_true c6
  clear c6
  obtain ⟨ji7, hji7⟩ : ∃ j_ : Int, (wrap64 (t269 + (a1.size : Int))) = j_ := ⟨_, rfl⟩
  replace H : (if 0 ≤ (ji7) then (if (ji7) ≤ (a0.size : Int) then (some (a0.extract 0 (t269 : Int).toNat, a0.extract ((ji7) : Int).toNat a0.size, true)) else (none)) else (none)) = some (r1, r2, r3) := by first | (rw [hji7] at H; exact H) | (simp only [hji7] at H ⊢; exact H)
  (try rw [hji7] at A3)
  have hji7w : (IntKind.i64.wrap (t269 + (a1.size : Int))) = ji7 := (i64_w _).trans hji7
  replace H := zn H
  obtain ⟨c8, H⟩ := H
  have c8b0 := eq_true c8
  have c8b1 := decide_eq_true c8
  clear c8
  replace H := zn H
  obtain ⟨c9, H⟩ := H
  have c9b0 := eq_true c9
  have c9b1 := decide_eq_true c9
  clear c9
  simp only [Option.some.injEq, Prod.mk.injEq] at H
  obtain ⟨rfl, rfl, rfl⟩ := H
  go_enter Tryd.func103, Tryd.ntmps103
  go_wp2_with (first | (go_at_call 123; (with_reducible refine (stringslite_Index.calls a0 a1 t269 _ A3.out).mono ?_); rintro e w' ⟨rfl, ⟨nd, rfl⟩⟩; (try first | exact ⟨rfl, _, World.drewN_drewN _ _ _⟩ | exact ⟨rfl, _, Eq.trans (World.drewN_drewN _ _ _) (congrArg (World.drewN _) (Nat.add_assoc _ _ _))⟩)))
  repeat (go_quiet (first | (go_at_call 123; (with_reducible refine (stringslite_Index.calls a0 a1 t269 _ A3.out).mono ?_); rintro e w' ⟨rfl, ⟨nd, rfl⟩⟩; (try first | exact ⟨rfl, _, World.drewN_drewN _ _ _⟩ | exact ⟨rfl, _, Eq.trans (World.drewN_drewN _ _ _) (congrArg (World.drewN _) (Nat.add_assoc _ _ _))⟩))); try go_wp2_with (first | (go_at_call 123; (with_reducible refine (stringslite_Index.calls a0 a1 t269 _ A3.out).mono ?_); rintro e w' ⟨rfl, ⟨nd, rfl⟩⟩; (try first | exact ⟨rfl, _, World.drewN_drewN _ _ _⟩ | exact ⟨rfl, _, Eq.trans (World.drewN_drewN _ _ _) (congrArg (World.drewN _) (Nat.add_assoc _ _ _))⟩))))
  go_ret3
  exact ⟨by first | rfl | (simp; done) | (simp only [← hji7] <;> (first | rfl | simp)) | (simp [*]; done), by repeat (first | exact Drawn0.refl _ | apply Drawn0.step)⟩
 ·rw [if_neg c4] at H
  have c4b0 : decide (0 ≤ t269) = false := decide_eq_false c4
  clear c4
  simp only [Option.some.injEq, Prod.mk.injEq] at H
  obtain ⟨rfl, rfl, rfl⟩ := H
  go_enter Tryd.func103, Tryd.ntmps103
  go_wp2_with (first | (go_at_call 123; (with_reducible refine (stringslite_Index.calls a0 a1 t269 _ A3.out).mono ?_); rintro e w' ⟨rfl, ⟨nd, rfl⟩⟩; (try first | exact ⟨rfl, _, World.drewN_drewN _ _ _⟩ | exact ⟨rfl, _, Eq.trans (World.drewN_drewN _ _ _) (congrArg (World.drewN _) (Nat.add_assoc _ _ _))⟩)))
  repeat (go_quiet (first | (go_at_call 123; (with_reducible refine (stringslite_Index.calls a0 a1 t269 _ A3.out).mono ?_); rintro e w' ⟨rfl, ⟨nd, rfl⟩⟩; (try first | exact ⟨rfl, _, World.drewN_drewN _ _ _⟩ | exact ⟨rfl, _, Eq.trans (World.drewN_drewN _ _ _) (congrArg (World.drewN _) (Nat.add_assoc _ _ _))⟩))); try go_wp2_with (first | (go_at_call 123; (with_reducible refine (stringslite_Index.calls a0 a1 t269 _ A3.out).mono ?_); rintro e w' ⟨rfl, ⟨nd, rfl⟩⟩; (try first | exact ⟨rfl, _, World.drewN_drewN _ _ _⟩ | exact ⟨rfl, _, Eq.trans (World.drewN_drewN _ _ _) (congrArg (World.drewN _) (Nat.add_assoc _ _ _))⟩))))
  go_ret3
  exact ⟨by first | rfl | (simp; done) | (simp [*]; done), by repeat (first | exact Drawn0.refl _ | apply Drawn0.step)⟩
def strings_Cut.f (a0 : ByteArray) (a1 : ByteArray) : Option (ByteArray × ByteArray × Bool) := (stringslite_Cut.f a0 a1).bind fun bt270 => (some (bt270.1, bt270.2.1, bt270.2.2))
set_option maxHeartbeats 8000000 in
set_option maxRecDepth 100000 in
theorem strings_Cut.calls (a0 : ByteArray) (a1 : ByteArray) (r1 : ByteArray) (r2 : ByteArray) (r3 : Bool) (w : World) (h : strings_Cut.f a0 a1 = some (r1, r2, r3)) :
  Calls Tryd.prog 51 #[.string a0, .string a1] w fun e w' => e = .returned (.tuple #[.string r1, .string r2, .bool r3]) ∧ Drawn0 w w' := by
 have H := h
 unfold strings_Cut.f at H
 clear h
 replace H := zj H
 obtain ⟨⟨t270, t271, t272⟩, A3, H⟩ := H
 try dsimp only at H
 simp only [Option.some.injEq, Prod.mk.injEq] at H
 obtain ⟨rfl, rfl, rfl⟩ := H
 go_enter Tryd.func51, Tryd.ntmps51
 go_wp2_with (first | ((with_reducible refine gate_callee (f := 103) rfl ?_); refine goesL_ (some 9) rfl rfl Tryd.func103 (by kernel_rfl) rfl #[.string a0, .string a1] rfl zq5 ?_; (with_reducible refine (stringslite_Cut.calls a0 a1 t270 t271 t272 _ A3.out).mono ?_); rintro e w' ⟨rfl, ⟨nd, rfl⟩⟩; refine ⟨_, rfl, ?_⟩))
 go_ret3
 exact ⟨by first | rfl | (simp; done) | (simp [*]; done), by repeat (first | exact Drawn0.refl _ | apply Drawn0.step)⟩
def strings_Trim.f (a0 : ByteArray) (a1 : ByteArray) : Option (ByteArray) := if a0.size ≤ 9223372036854775807 ∧ a1.size < 4294967281 ∧ a1.data.toList.all (fun b => decide (b.toNat < 128)) = true then some ⟨(Lib.trimS a0.data.toList a1.data.toList).toArray⟩ else none
theorem strings_Trim.calls (a0 : ByteArray) (a1 : ByteArray) (r : ByteArray) (w : World) (h : strings_Trim.f a0 a1 = some r) :
  Calls Tryd.prog 104 #[.string a0, .string a1] w fun e w' => e = .returned (.string r) ∧ Below w.heap.size w w' := by
 unfold strings_Trim.f at h
 split at h
 ·rename_i h1
  obtain rfl := Option.some.inj h
  exact Any.strings_Trim_laid Tryd.lays160 (by kernel_rfl) a0 a1 w h1.1 h1.2.1 (ascii_of_all h1.2.2)
 ·cases h
end Go.Proofs.YtemnjgkicndmjaaDoor.Q
namespace Go.Proofs.YtemnjgkicndmjaaDoor.Q
open Go.RowKit Go.Proofs.YtemnjgkicndmjaaDoor.E Go.Proofs.YtemnjgkicndmjaaDoorW.PrintWords Go.Proofs.YtemnjgkicndmjaaDoorW.PrintLast Go.Proofs.YtemnjgkicndmjaaDoorW.PrintMore
set_option linter.unusedVariables false
noncomputable def nat_FromDecimal.c : (R : Type) → (ByteArray) → ((List Int) → Option R) → Option R := fun R a => lm (fun (a : ByteArray) k => nat_FromDecimal.f k a) R a
theorem nat_FromDecimal.pc (a : ByteArray) (b : List Int) (k : Nat) (h : nat_FromDecimal.f k a = some b) : PureC Tryd.prog 53 ((one cs).enc a) (rU.enc b) := by
  intro w P0 vs hr
  obtain ⟨u0, e0, hr⟩ := at_str hr
  have z := at_nil hr
  subst z
  have q1 := e0
  obtain rfl : vs = #[.string a] := Array.toList_inj.1 (by simpa using q1)
  refine Calls.mono (nat_FromDecimal.calls k a b w h) fun e w' he => ?_
  obtain ⟨v0_, rfl, hv0, hb⟩ := he
  exact ⟨_, rfl, hb, (V_row hv0 fun n hn => .inr hn)⟩
theorem nat_FromDecimal.ok : FunOk Tryd.prog 53 (mk (one cs) rU nat_FromDecimal.c) := lm_ok (by kernel_rfl) nat_FromDecimal.pc
theorem nat_FromDecimal.eq {x0 : ByteArray} {b : List Int} (h : Ev (fun k => nat_FromDecimal.f k x0) b) {R : Type} (K : (List Int) → Option R) : nat_FromDecimal.c R x0 K = K b := lm_ev (g := fun (a : ByteArray) k => nat_FromDecimal.f k a) (a := x0) h K
noncomputable def nat_Decimal.c : (R : Type) → (List Int) → ((ByteArray) → Option R) → Option R := fun R a => lm (fun (a : List Int) k => nat_Decimal.f k a) R a
theorem nat_Decimal.pc (a : List Int) (b : ByteArray) (k : Nat) (h : nat_Decimal.f k a = some b) : PureC Tryd.prog 48 ((one rU).enc a) (cs.enc b) := by
  intro w P0 vs hr
  obtain ⟨A0, c0, u0, e0, hc0, hf0, hr⟩ := at_row hr
  have z := at_nil hr
  subst z
  have q1 := e0
  obtain rfl : vs = #[.slice A0 a.length c0] := Array.toList_inj.1 (by simpa using q1)
  refine Calls.mono (nat_Decimal.calls k P0 A0 c0 a b w (rowV hf0 hc0) h) fun e w' he => ?_
  obtain ⟨rfl, hb⟩ := he
  exact ⟨_, rfl, hb, (show E.Rep _ _ _ _ _ from by simp only [cs, E.Rep])⟩
theorem nat_Decimal.ok : FunOk Tryd.prog 48 (mk (one rU) cs nat_Decimal.c) := lm_ok (by kernel_rfl) nat_Decimal.pc
theorem nat_Decimal.eq {x0 : List Int} {b : ByteArray} (h : Ev (fun k => nat_Decimal.f k x0) b) {R : Type} (K : (ByteArray) → Option R) : nat_Decimal.c R x0 K = K b := lm_ev (g := fun (a : List Int) k => nat_Decimal.f k a) (a := x0) h K
def strings_CutPrefix.c : (R : Type) → (ByteArray × ByteArray) → (((ByteArray × Bool)) → Option R) → Option R := fun R a => at' (fun (a : ByteArray × ByteArray) => strings_CutPrefix.f a.1 a.2) R a
theorem strings_CutPrefix.pc (a : ByteArray × ByteArray) (b : (ByteArray × Bool)) (h : strings_CutPrefix.f a.1 a.2 = some b) : PureC Tryd.prog 50 ((more cs (one cs)).enc a) ((tup (more cs (one cb))).enc b) := by
  intro w P0 vs hr
  obtain ⟨x0, x1⟩ := a
  obtain ⟨r0, r1⟩ := b
  obtain ⟨u0, e0, hr⟩ := at_str hr
  obtain ⟨u1, e1, hr⟩ := at_str hr
  have z := at_nil hr
  subst z
  subst e1
  have q2 := e0
  obtain rfl : vs = #[.string x0, .string x1] := Array.toList_inj.1 (by simpa using q2)
  refine Calls.mono (strings_CutPrefix.calls x0 x1 r0 r1 w h) fun e w' he => ?_
  obtain ⟨rfl, hb⟩ := he
  exact ⟨_, rfl, hb.below, (rep_tup2 (show E.Rep _ _ _ _ _ from by simp only [cs, E.Rep]) (show E.Rep _ _ _ _ _ from by simp only [cb, E.Rep]))⟩
theorem strings_CutPrefix.ok : FunOk Tryd.prog 50 (mk (more cs (one cs)) (tup (more cs (one cb))) strings_CutPrefix.c) := at_ok (by kernel_rfl) strings_CutPrefix.pc
theorem strings_CutPrefix.eq {x0 : ByteArray} {x1 : ByteArray} {b : (ByteArray × Bool)} (h : strings_CutPrefix.f x0 x1 = some b) {R : Type} (K : ((ByteArray × Bool)) → Option R) : strings_CutPrefix.c R (x0, x1) K = K b := at_eq (g := fun (a : ByteArray × ByteArray) => strings_CutPrefix.f a.1 a.2) (a := (x0, x1)) h K
def strings_Cut.c : (R : Type) → (ByteArray × ByteArray) → (((ByteArray × ByteArray × Bool)) → Option R) → Option R := fun R a => at' (fun (a : ByteArray × ByteArray) => strings_Cut.f a.1 a.2) R a
theorem strings_Cut.pc (a : ByteArray × ByteArray) (b : (ByteArray × ByteArray × Bool)) (h : strings_Cut.f a.1 a.2 = some b) : PureC Tryd.prog 51 ((more cs (one cs)).enc a) ((tup (more cs (more cs (one cb)))).enc b) := by
  intro w P0 vs hr
  obtain ⟨x0, x1⟩ := a
  obtain ⟨r0, r1, r2⟩ := b
  obtain ⟨u0, e0, hr⟩ := at_str hr
  obtain ⟨u1, e1, hr⟩ := at_str hr
  have z := at_nil hr
  subst z
  subst e1
  have q2 := e0
  obtain rfl : vs = #[.string x0, .string x1] := Array.toList_inj.1 (by simpa using q2)
  refine Calls.mono (strings_Cut.calls x0 x1 r0 r1 r2 w h) fun e w' he => ?_
  obtain ⟨rfl, hb⟩ := he
  exact ⟨_, rfl, hb.below, (rep_tup3 (show E.Rep _ _ _ _ _ from by simp only [cs, E.Rep]) (show E.Rep _ _ _ _ _ from by simp only [cs, E.Rep]) (show E.Rep _ _ _ _ _ from by simp only [cb, E.Rep]))⟩
theorem strings_Cut.ok : FunOk Tryd.prog 51 (mk (more cs (one cs)) (tup (more cs (more cs (one cb)))) strings_Cut.c) := at_ok (by kernel_rfl) strings_Cut.pc
theorem strings_Cut.eq {x0 : ByteArray} {x1 : ByteArray} {b : (ByteArray × ByteArray × Bool)} (h : strings_Cut.f x0 x1 = some b) {R : Type} (K : ((ByteArray × ByteArray × Bool)) → Option R) : strings_Cut.c R (x0, x1) K = K b := at_eq (g := fun (a : ByteArray × ByteArray) => strings_Cut.f a.1 a.2) (a := (x0, x1)) h K
def strings_Trim.c : (R : Type) → (ByteArray × ByteArray) → ((ByteArray) → Option R) → Option R := fun R a => at' (fun (a : ByteArray × ByteArray) => strings_Trim.f a.1 a.2) R a
theorem strings_Trim.pc (a : ByteArray × ByteArray) (b : ByteArray) (h : strings_Trim.f a.1 a.2 = some b) : PureC Tryd.prog 104 ((more cs (one cs)).enc a) (cs.enc b) := by
  intro w P0 vs hr
  obtain ⟨x0, x1⟩ := a
  obtain ⟨u0, e0, hr⟩ := at_str hr
  obtain ⟨u1, e1, hr⟩ := at_str hr
  have z := at_nil hr
  subst z
  subst e1
  have q2 := e0
  obtain rfl : vs = #[.string x0, .string x1] := Array.toList_inj.1 (by simpa using q2)
  refine Calls.mono (strings_Trim.calls x0 x1 b w h) fun e w' he => ?_
  obtain ⟨rfl, hb⟩ := he
  exact ⟨_, rfl, hb, (show E.Rep _ _ _ _ _ from by simp only [cs, E.Rep])⟩
theorem strings_Trim.ok : FunOk Tryd.prog 104 (mk (more cs (one cs)) cs strings_Trim.c) := at_ok (by kernel_rfl) strings_Trim.pc
theorem strings_Trim.eq {x0 : ByteArray} {x1 : ByteArray} {b : ByteArray} (h : strings_Trim.f x0 x1 = some b) {R : Type} (K : (ByteArray) → Option R) : strings_Trim.c R (x0, x1) K = K b := at_eq (g := fun (a : ByteArray × ByteArray) => strings_Trim.f a.1 a.2) (a := (x0, x1)) h K
noncomputable def cT0 : List (Nat × Fun) := [(53, mk (one cs) rU (at' fun (a : ByteArray) => nat_FromDecimal.f 40 a)), (48, mk (one rU) cs (at' fun (a : List Int) => nat_Decimal.f 40 a)), (50, mk (more cs (one cs)) (tup (more cs (one cb))) (at' fun (a : ByteArray × ByteArray) => strings_CutPrefix.f a.1 a.2)), (51, mk (more cs (one cs)) (tup (more cs (more cs (one cb)))) (at' fun (a : ByteArray × ByteArray) => strings_Cut.f a.1 a.2)), (104, mk (more cs (one cs)) cs (at' fun (a : ByteArray × ByteArray) => strings_Trim.f a.1 a.2)), (77, mk (more rU (one rU)) rU (at' fun (a : List Int × List Int) => nat_Mul.f 40 a.1 a.2)), (105, mk (more rU (one rU)) rU (at' fun (a : List Int × List Int) => nat_plus.f 40 a.1 a.2)), (109, mk (more rU (one rU)) iI (at' fun (a : List Int × List Int) => nat_Compare.f 40 a.1 a.2)), (132, mk (more rU (one rU)) rU (at' fun (a : List Int × List Int) => nat_Sub.f 40 a.1 a.2)), (44, mk (more rU (one rU)) rU (at' fun (a : List Int × List Int) => nat_Gcd.f 40 a.1 a.2)), (94, mk (more rU (one rU)) (tup (more rU (one rU))) (at' fun (a : List Int × List Int) => nat_DivMod.f 40 a.1 a.2)), (43, mk (one rU) cb (at' fun (a : List Int) => nat_IsOne.f a)), (95, mk (one rU) rU (at' fun (a : List Int) => slices_Clone_uint32_uint32.f a))]
theorem cTok0 : TOk Tryd.prog (tb cT0) := (tb_cons (at_ok (by kernel_rfl) fun a b h => nat_FromDecimal.pc a b 40 h) (tb_cons (at_ok (by kernel_rfl) fun a b h => nat_Decimal.pc a b 40 h) (tb_cons (at_ok (by kernel_rfl) fun a b h => strings_CutPrefix.pc a b h) (tb_cons (at_ok (by kernel_rfl) fun a b h => strings_Cut.pc a b h) (tb_cons (at_ok (by kernel_rfl) fun a b h => strings_Trim.pc a b h) (tb_cons (at_ok (by kernel_rfl) fun a b h => nat_Mul.pc a b 40 h) (tb_cons (at_ok (by kernel_rfl) fun a b h => nat_plus.pc a b 40 h) (tb_cons (at_ok (by kernel_rfl) fun a b h => nat_Compare.pc a b 40 h) (tb_cons (at_ok (by kernel_rfl) fun a b h => nat_Sub.pc a b 40 h) (tb_cons (at_ok (by kernel_rfl) fun a b h => nat_Gcd.pc a b 40 h) (tb_cons (at_ok (by kernel_rfl) fun a b h => nat_DivMod.pc a b 40 h) (tb_cons (at_ok (by kernel_rfl) fun a b h => nat_IsOne.pc a b h) (tb_cons (at_ok (by kernel_rfl) fun a b h => slices_Clone_uint32_uint32.pc a b h) tb_nil)))))))))))))
noncomputable def cT1 : List (Nat × Fun) := [(42, execFn' Tryd.prog (tb cT0) 40 Tryd.f42), (78, execFn' Tryd.prog (tb cT0) 40 Tryd.f78), (106, execFn' Tryd.prog (tb cT0) 40 Tryd.f106), (52, execFn' Tryd.prog (tb cT0) 40 Tryd.f52), (93, execFn' Tryd.prog (tb cT0) 40 Tryd.f93)] ++ cT0
theorem cTok1 : TOk Tryd.prog (tb cT1) := (tb_cons (execFn'_ok cTok0 mixed Tryd.func42 (by kernel_rfl)) (tb_cons (execFn'_ok cTok0 mixed Tryd.func78 (by kernel_rfl)) (tb_cons (execFn'_ok cTok0 mixed Tryd.func106 (by kernel_rfl)) (tb_cons (execFn'_ok cTok0 mixed Tryd.func52 (by kernel_rfl)) (tb_cons (execFn'_ok cTok0 mixed Tryd.func93 (by kernel_rfl)) cTok0)))))
noncomputable def cT2 : List (Nat × Fun) := [(14, execFn' Tryd.prog (tb cT1) 40 Tryd.f14), (54, execFn' Tryd.prog (tb cT1) 40 Tryd.f54), (110, execFn' Tryd.prog (tb cT1) 40 Tryd.f110)] ++ cT1
theorem cTok2 : TOk Tryd.prog (tb cT2) := (tb_cons (execFn'_ok cTok1 mixed Tryd.func14 (by kernel_rfl)) (tb_cons (execFn'_ok cTok1 mixed Tryd.func54 (by kernel_rfl)) (tb_cons (execFn'_ok cTok1 mixed Tryd.func110 (by kernel_rfl)) cTok1)))
noncomputable def cT3 : List (Nat × Fun) := [(61, execFn' Tryd.prog (tb cT2) 40 Tryd.f61), (64, execFn' Tryd.prog (tb cT2) 40 Tryd.f64), (19, execFn' Tryd.prog (tb cT2) 40 Tryd.f19), (17, execFn' Tryd.prog (tb cT2) 40 Tryd.f17)] ++ cT2
theorem cTok3 : TOk Tryd.prog (tb cT3) := (tb_cons (execFn'_ok cTok2 mixed Tryd.func61 (by kernel_rfl)) (tb_cons (execFn'_ok cTok2 mixed Tryd.func64 (by kernel_rfl)) (tb_cons (execFn'_ok cTok2 mixed Tryd.func19 (by kernel_rfl)) (tb_cons (execFn'_ok cTok2 mixed Tryd.func17 (by kernel_rfl)) cTok2))))
noncomputable def cT4 : List (Nat × Fun) := [(25, execFn' Tryd.prog (tb cT3) 40 Tryd.f25)] ++ cT3
theorem cTok4 : TOk Tryd.prog (tb cT4) := (tb_cons (execFn'_ok cTok3 mixed Tryd.func25 (by kernel_rfl)) cTok3)
def lw_counted.c (R : Type) (_ : Unit) (K : Bool → Option R) : Option R := K true
set_option maxRecDepth 100000 in
theorem lw_counted.run : execFn' Tryd.prog (tb cT4) 40 Tryd.f16 AV [] some = some (.bool true) := by kernel_rfl
theorem lw_counted.ok : FunOk Tryd.prog 16 (mk none0 cb lw_counted.c) := by
  refine mk_ok (by kernel_rfl) (fun R a K => rfl) (fun a b h => ?_)
  injection h with h
  subst h
  exact (execFn'_ok cTok4 mixed Tryd.func16 (by kernel_rfl)).2.2 _ _ lw_counted.run
end Go.Proofs.YtemnjgkicndmjaaDoor.Q
namespace Go.Proofs.YtemnjgkicndmjaaDoor.Q
open Go.RowKit Go.Proofs.YtemnjgkicndmjaaDoorW.PrintWords Go.Proofs.YtemnjgkicndmjaaDoorW.PrintLast Go.Proofs.YtemnjgkicndmjaaDoorW.PrintMore
attribute [local go_sem] max2_int min2_int max_two min_two max_three min_three max_four min_four
set_option linter.unusedVariables false
set_option linter.unusedSimpArgs false
def rf_natOf.l0 : Nat → List Int → List Int → Int → Int → Option (List Int)
 | 0, _, _, _, _ => none
 | k + 1, x3, x6, x7, x8 => if x8 < x7 then (if 0 ≤ x8 then (if x8 < (x6.length : Int) then ((some (([wrap64 (Go.bits .and .u32 (rd x6 x8) 65535), wrap64 ((rd x6 x8) / 65536)] : List Int) : List Int)).bind fun y527 => (if x3.length + y527.length < 17592186044416 then (rf_natOf.l0 k (x3 ++ y527) x6 x7 (wrap64 (x8 + 1))) else (none))) else (none)) else (none)) else ((rf_trim.f k x3).bind fun t533 => (some t533))
def rf_natOf.f (k : Nat) (l0 : List Int) : Option (List Int) := rf_natOf.l0 k ([] : List Int) l0 (l0.length : Int) 0
theorem rf_natOf.mono_l : ∀ k, (∀ y0 y1 y2 y3, LeO (rf_natOf.l0 k y0 y1 y2 y3) (rf_natOf.l0 (k + 1) y0 y1 y2 y3))
 | 0 => fun _ _ _ _ r h => by simp [rf_natOf.l0] at h
 | k + 1 => by
  have ih0 := rf_natOf.mono_l k
  ·intro y0 y1 y2 y3
   unfold rf_natOf.l0
   have m0 := ih0
   have m1 := @rf_trim.mono
   exact zm
theorem rf_natOf.mono : ∀ a0 k, LeO (rf_natOf.f k a0) (rf_natOf.f (k + 1) a0) := by
 intro a0 k
 have ih0 := rf_natOf.mono_l k
 unfold rf_natOf.f
 have m0 := ih0
 have m1 := @rf_trim.mono
 exact zm
set_option maxHeartbeats 8000000 in
set_option maxRecDepth 100000 in
theorem rf_natOf.calls (k : Nat) (A0 : Option Addr) (c0 : Nat) (l0 : List Int) (r : List Int) (w : World) (hr0 : Kd.C (Kd.int .u32) w A0 l0.length l0) (hc0 : l0.length ≤ c0) (h : rf_natOf.f k l0 = some r) :
  Calls Tryd.prog 45 #[.slice A0 l0.length c0] w fun e w' => ∃ v0_ : Value, e = .returned (v0_) ∧ Kd.V (Kd.int .i64) 3 w' w.heap.size (fun k_ => (w.heap.size ≤ k_)) v0_ r ∧ Below w.heap.size w w' := by
 have HR0 := am hr0
 have HC0 := am hc0
 clear hr0 hc0
 have HB := am (Below.refl w.heap.size w)
 have H := h
 unfold rf_natOf.f at H
 clear h
 have H' := am H
 clear H
 go_enter Tryd.func45, Tryd.ntmps45
 go_wp2
 go_loopg [3, 8] k (fun kq v3 v8 w' => ∃ (x3_1 : List Int) (x8_1 : Int), v8 = .int .i64 x8_1 ∧ Aside0 (rf_natOf.l0 kq x3_1 l0 (l0.length : Int) x8_1 = some r) ∧ Aside0 (kq ≤ k) ∧ Aside0 (Kd.R (Kd.int .i64) 3 w' w.heap.size (fun k_ => (w.heap.size ≤ k_)) v3 x3_1) ∧ Aside0 (Below w.heap.size w w'))
 case atStart => exact ⟨(([] : List Int)), (0), zq8, H', ⟨Nat.le_refl _⟩, ⟨by first | exact Kd.R_nil _ _ _ _ _ | exact Kd.N_nil _ _ _ _ _ | exact Kd.V_nil _ _ _ _ _ | exact Kd.Q_nil _ _ _ _ _ | exact Kd.S_nil _ _ _ _ _⟩, ⟨zq1⟩⟩
 case round =>
  clear H'
  obtain ⟨x3_1, x8_1, rfl, HA, HK1, HO_3, HB⟩ := hrel
  cases gk with
  | zero => exact absurd HA.out (by simp [rf_natOf.l0])
  | succ k1 =>
   have H := HA.out
   clear HA
   simp only [rf_natOf.l0] at H
   by_cases c2 : x8_1 < (l0.length : Int)
   ·rw [if_pos c2] at H
    have c2b0 := decide_eq_true c2
    clear c2
    replace H := zn H
    obtain ⟨c3, H⟩ := H
    have c3b0 := decide_eq_true c3
    clear c3
    replace H := zn H
    obtain ⟨c4, H⟩ := H
    have c4b0 := decide_eq_true c4
    clear c4
    obtain ⟨y527, hy527⟩ : ∃ y_ : List Int, y_ = (([wrap64 (Go.bits .and .u32 (rd l0 x8_1) 65535), wrap64 ((rd l0 x8_1) / 65536)] : List Int)) := ⟨_, rfl⟩
    try rw [← hy527] at H
    have Ny527 := am hy527
    clear hy527
    replace H := zn H
    obtain ⟨c5, H⟩ := H
    have LMc5 := am c5
    clear c5
    obtain ⟨y530, hy530⟩ : ∃ y_ : List Int, y_ = (x3_1 ++ y527) := ⟨_, rfl⟩
    try rw [← hy530] at H
    have Ny530 := am hy530
    clear hy530
    have H' := am H
    clear H
    have p526 : 0 ≤ (x8_1 : Int) := zq6
    have q526 : x8_1 < (l0.length : Int) := zq6
    obtain ⟨ad526, e526, hx526_0⟩ := Kd.at_int HR0.out x8_1 p526 q526
    cases e526
    replace hx526_0 := (HB.out.cell (World.block_lt_of_cell? w _ hx526_0)).trans hx526_0
    replace p526 := eq_true p526
    replace q526 := eq_true q526
    go_wp2_with (first | ((with_reducible refine gate_dst (N := 19) rfl ?_); refine Kd.R_lit (Kd.int .i64) _ 3 ?hg (N := 19) ?hd (xs := ([wrap64 (Go.bits .and .u32 (rd l0 x8_1) 65535), wrap64 ((rd l0 x8_1) / 65536)] : List Int)) (inner := [.int .i64 (wrap64 (Go.bits .and .u32 (rd l0 x8_1) 65535)), .int .i64 (wrap64 ((rd l0 x8_1) / 65536))]) (ok := fun _ => True) (okp := fun _ => True) ?hr ?hp (fun _ hk => hk) trivial (Below.refl _ _) (Nat.le_refl _) (by simp) ?_; (case hd => rfl); (case hg => rfl); (case hr => exact zr); (case hp => exact (Reps.one (show Kd.M (Kd.int .i64) _ _ _ (wrap64 (Go.bits .and .u32 (rd l0 x8_1) 65535)) [.int .i64 (wrap64 (Go.bits .and .u32 (rd l0 x8_1) 65535))] from rfl) (Reps.one (show Kd.M (Kd.int .i64) _ _ _ (wrap64 ((rd l0 x8_1) / 65536)) [.int .i64 (wrap64 ((rd l0 x8_1) / 65536))] from rfl) (Reps.none _ _)))); intro v528 w6 ho7 hb hg_ hnew_; clear hg_ hnew_; (first | rw [← Ny527.out] at ho7 | (simp only [Int.reduceToNat] at ho7; rw [← Ny527.out] at ho7)); refine zt3 (Kd.R_elder' (zq4 HO_3.out) (Kd.R_base ho7) hb) (Kd.R_lower (Kd.R_new' (Kd.R_newM (M := fun k_ => (w.heap.size ≤ k_)) ho7 (below_size zq1) (fun k_ h_ => h_)) (Kd.R_lt (zq4 HO_3.out))) (below_size zq1)) (below_step zq1 hb) ?_; clear HO_3 HB; intro HO_3 HO529 HB; clear hb ho7; obtain ⟨Ao9, co9, eo9⟩ := Kd.R_slice HO529.out; subst eo9) | ((with_reducible refine gate_builtin (b := .append) (xs := #[.tmp 12, .tmp 19]) rfl ?_); at_builtin; refine Kd.R_append_rows (Kd.int .i64) (w0 := w) w.heap.size rfl (.tmp 12) (.tmp 19) 39 3 (.int .i64 0) 8 rfl Tryd.underlying39 info3 rfl (by decide) (by omega) u3 x3_1 y527 _ _ _ (fun k_ => (w.heap.size ≤ k_) ∧ some k_ ≠ (.slice Ao9 y527.length co9 : Value).ownBlock) (fun _ => False) rfl rfl ?aO ?aR (fun _ _ h => h) (fun _ h => h.elim) ?aF ?aB ?aS ?aL ?_; (case aR => repeat (first | exact (Kd.R_reads' HO529.out).2.2 | (with_reducible refine Kd.C_alloc ?_ _) | (with_reducible refine Kd.C_drewN ?_ _) | (with_reducible refine Kd.C_drew ?_))); (case aB => exact zq1); (case aF => exact (fun k_ hk => ⟨(Nat.le_trans (below_size zq1) hk), Kd.fresh' (Kd.R_lt (zq4 HO529.out)) k_ hk⟩)); (case aO => exact (zq4 HO_3.out)); (case aS => exact (below_size zq1)); (case aL => have := LMc5.out; omega); intro v531 w8 ho hb hg hat; rw [← Ny530.out] at ho; refine zt3 (Kd.R_after (ok := (fun k_ => (w.heap.size ≤ k_))) (zwR (h := by exact Kd.R_mono HO529.out (fun _ hk => ⟨hk.1.1, hk.2⟩))) hg hat) (hb) (ho) ?_; clear HO529 HB HO_3; intro HO529 HB HO532; clear ho hb hg hat))
    go_roundg k1
    case measure => have := HK1.out; omega
    case rel => exact ⟨(y530), (wrap64 (x8_1 + 1)), zq8, H', ⟨by have := HK1.out; omega⟩, ⟨zwR (h := by exact Kd.R_mono HO532.out (fun _ hk => hk.1))⟩, ⟨zq1⟩⟩
   ·rw [if_neg c2] at H
    have c2b0 := decide_eq_false c2
    clear c2
    replace H := zj H
    obtain ⟨t533, A10, H⟩ := H
    obtain rfl := Option.some.inj H
    obtain ⟨Ao11, co11, eo11⟩ := Kd.R_slice HO_3.out
    subst eo11
    go_wp2_with (first | ((with_reducible refine gate_callee (f := 96) rfl ?_); refine goesL_ (some 23) rfl rfl Tryd.func96 (by kernel_rfl) rfl #[.slice Ao11 x3_1.length co11] rfl zq5 ?_; (with_reducible refine (rf_trim.calls k1 (fun k_ => some k_ = (.slice Ao11 x3_1.length co11 : Value).ownBlock) _ _ x3_1 t533 _ ?side1 A10.out).mono ?_); (case side1 => exact Kd.R_V (Kd.R_tight rfl (HO_3.out))); rintro e w12 ⟨v534, rfl, ho0, hb⟩; refine ⟨_, rfl, ?_⟩; refine zt3 (rb HO_3 hb) (Kd.V_lower (Kd.V_mono (ok' := fun k_ => (w.heap.size ≤ k_)) ho0 (fun k_ hk_ => Or.elim hk_ (fun hs_ => ((HO_3.out).1 k_ hs_.symm)) (fun hn_ => (Nat.le_trans (below_size zq1) hn_)))) (below_size zq1)) (below_step zq1 hb) ?_; clear HO_3 HB; intro HO_3 HO535 HB))
    go_ret
    exact ⟨_, zq9, zq3 HO535.out, zq1⟩
def rf_CmpNat.l0 : Nat → List Int → List Int → Int → Option (Int)
 | 0, _, _, _ => none
 | k + 1, x0, x1, x5 => if x5 ≥ 0 then ((rf_digit.f x0 x5).bind fun t537 => ((rf_digit.f x1 x5).bind fun t538 => (if t537 < t538 then (some (-1)) else (if t537 > t538 then (some 1) else (rf_CmpNat.l0 k x0 x1 (wrap64 (x5 - 1))))))) else (some 0)
def rf_CmpNat.f (k : Nat) (l0 : List Int) (l1 : List Int) : Option (Int) := rf_CmpNat.l0 k l0 l1 (wrap64 ((mx (l0.length : Int) (l1.length : Int)) - 1))
theorem rf_CmpNat.mono_l : ∀ k, (∀ y0 y1 y2, LeO (rf_CmpNat.l0 k y0 y1 y2) (rf_CmpNat.l0 (k + 1) y0 y1 y2))
 | 0 => fun _ _ _ r h => by simp [rf_CmpNat.l0] at h
 | k + 1 => by
  have ih0 := rf_CmpNat.mono_l k
  ·intro y0 y1 y2
   unfold rf_CmpNat.l0
   have m0 := ih0
   exact zm
theorem rf_CmpNat.mono : ∀ a0 a1 k, LeO (rf_CmpNat.f k a0 a1) (rf_CmpNat.f (k + 1) a0 a1) := by
 intro a0 a1 k
 have ih0 := rf_CmpNat.mono_l k
 unfold rf_CmpNat.f
 have m0 := ih0
 exact zm
set_option maxHeartbeats 8000000 in
set_option maxRecDepth 100000 in
theorem rf_CmpNat.calls (k : Nat) (A0 : Option Addr) (c0 : Nat) (l0 : List Int) (A1 : Option Addr) (c1 : Nat) (l1 : List Int) (r : Int) (w : World) (hr0 : Kd.C (Kd.int .i64) w A0 l0.length l0) (hc0 : l0.length ≤ c0) (hr1 : Kd.C (Kd.int .i64) w A1 l1.length l1) (hc1 : l1.length ≤ c1) (h : rf_CmpNat.f k l0 l1 = some r) :
  Calls Tryd.prog 46 #[.slice A0 l0.length c0, .slice A1 l1.length c1] w fun e w' => e = .returned (.int .i64 r) ∧ Below w.heap.size w w' := by
 have HR0 := am hr0
 have HC0 := am hc0
 clear hr0 hc0
 have HR1 := am hr1
 have HC1 := am hc1
 clear hr1 hc1
 have HB := am (Below.refl w.heap.size w)
 have H := h
 unfold rf_CmpNat.f at H
 clear h
 obtain ⟨ji3, hji3⟩ : ∃ j_ : Int, (mx (l0.length : Int) (l1.length : Int)) = j_ := ⟨_, rfl⟩
 replace H : (rf_CmpNat.l0 k l0 l1 (wrap64 ((ji3) - 1))) = some r := by first | (rw [hji3] at H; exact H) | (simp only [hji3] at H ⊢; exact H)
 (try (have hji3l : 0 ≤ ji3 := by (rw [← hji3]; unfold mx; (repeat' split) <;> omega)))
 (try (have hji3m : 0 ≤ ji3 := by omega))
 have hji3_ : (if (l0.length : Int) < (l1.length : Int) then (l1.length : Int) else (l0.length : Int)) = ji3 := hji3
 (try (have hji3__ : (if l0.length < l1.length then (l1.length : Int) else (l0.length : Int)) = ji3 := by rw [← hji3_]; simp only [Int.ofNat_lt]))
 have H' := am H
 clear H
 go_enter Tryd.func46, Tryd.ntmps46
 go_wp2
 go_loopg [5] k (fun kq v5 w' => ∃ (x5_1 : Int), v5 = .int .i64 x5_1 ∧ Aside0 (rf_CmpNat.l0 kq l0 l1 x5_1 = some r) ∧ Aside0 (kq ≤ k) ∧ Aside0 (Below w.heap.size w w'))
 case atStart => exact ⟨(wrap64 ((ji3) - 1)), (by first | rfl | (simp; done) | (simp only [← hji3] <;> (first | rfl | simp)) | (simp [*]; done)), H', ⟨Nat.le_refl _⟩, ⟨zq1⟩⟩
 case round =>
  clear H'
  obtain ⟨x5_1, rfl, HA, HK1, HB⟩ := hrel
  cases gk with
  | zero => exact absurd HA.out (by simp [rf_CmpNat.l0])
  | succ k1 =>
   have H := HA.out
   clear HA
   simp only [rf_CmpNat.l0] at H
   by_cases c4 : x5_1 ≥ 0
   ·rw [if_pos c4] at H
    have c4b0 : decide (0 ≤ x5_1) = true := decide_eq_true c4
    clear c4
    replace H := zj H
    obtain ⟨t537, A5, H⟩ := H
    replace H := zj H
    obtain ⟨t538, A6, H⟩ := H
    by_cases c7 : t537 < t538
    ·rw [if_pos c7] at H
     have c7b0 := decide_eq_true c7
     clear c7
     obtain rfl := Option.some.inj H
     go_wp2_with (first | ((with_reducible refine gate_callee (f := 97) rfl ?_); refine goesL_ (some 20) rfl rfl Tryd.func97 (by kernel_rfl) rfl #[.slice A0 l0.length c0, .int .i64 x5_1] rfl zq5 ?_; (with_reducible refine (rf_digit.calls _ _ l0 x5_1 t537 _ ?side1 ?side2 A5.out).mono ?_); (case side1 => exact zc (Kd.C_below HR0.out HB.out)); (case side2 => exact HC0.out); rintro e w' ⟨rfl, ⟨nd, rfl⟩⟩; refine ⟨_, rfl, ?_⟩) | ((with_reducible refine gate_callee (f := 97) rfl ?_); refine goesL_ (some 23) rfl rfl Tryd.func97 (by kernel_rfl) rfl #[.slice A1 l1.length c1, .int .i64 x5_1] rfl zq5 ?_; (with_reducible refine (rf_digit.calls _ _ l1 x5_1 t538 _ ?side1 ?side2 A6.out).mono ?_); (case side1 => exact zc (Kd.C_below HR1.out zq1)); (case side2 => exact HC1.out); rintro e w' ⟨rfl, ⟨nd, rfl⟩⟩; refine ⟨_, rfl, ?_⟩))
     go_ret
     exact ⟨by first | rfl | (simp [errW_none, errW_some] <;> rfl) | (simp only [← hji3]; first | rfl | (simp [errW_none, errW_some] <;> rfl)) | (simp [*, errW_none, errW_some] <;> rfl), zq1⟩
    ·rw [if_neg c7] at H
     have c7b0 := decide_eq_false c7
     clear c7
     by_cases c8 : t537 > t538
     ·rw [if_pos c8] at H
      have c8b0 : decide (t538 < t537) = true := decide_eq_true c8
      clear c8
      obtain rfl := Option.some.inj H
      go_wp2_with (first | ((with_reducible refine gate_callee (f := 97) rfl ?_); refine goesL_ (some 20) rfl rfl Tryd.func97 (by kernel_rfl) rfl #[.slice A0 l0.length c0, .int .i64 x5_1] rfl zq5 ?_; (with_reducible refine (rf_digit.calls _ _ l0 x5_1 t537 _ ?side1 ?side2 A5.out).mono ?_); (case side1 => exact zc (Kd.C_below HR0.out HB.out)); (case side2 => exact HC0.out); rintro e w' ⟨rfl, ⟨nd, rfl⟩⟩; refine ⟨_, rfl, ?_⟩) | ((with_reducible refine gate_callee (f := 97) rfl ?_); refine goesL_ (some 23) rfl rfl Tryd.func97 (by kernel_rfl) rfl #[.slice A1 l1.length c1, .int .i64 x5_1] rfl zq5 ?_; (with_reducible refine (rf_digit.calls _ _ l1 x5_1 t538 _ ?side1 ?side2 A6.out).mono ?_); (case side1 => exact zc (Kd.C_below HR1.out zq1)); (case side2 => exact HC1.out); rintro e w' ⟨rfl, ⟨nd, rfl⟩⟩; refine ⟨_, rfl, ?_⟩))
      go_ret
      exact ⟨by first | rfl | (simp [errW_none, errW_some] <;> rfl) | (simp only [← hji3]; first | rfl | (simp [errW_none, errW_some] <;> rfl)) | (simp [*, errW_none, errW_some] <;> rfl), zq1⟩
     ·rw [if_neg c8] at H
      have c8b0 : decide (t538 < t537) = false := decide_eq_false c8
      clear c8
      have H' := am H
      clear H
      go_wp2_with (first | ((with_reducible refine gate_callee (f := 97) rfl ?_); refine goesL_ (some 20) rfl rfl Tryd.func97 (by kernel_rfl) rfl #[.slice A0 l0.length c0, .int .i64 x5_1] rfl zq5 ?_; (with_reducible refine (rf_digit.calls _ _ l0 x5_1 t537 _ ?side1 ?side2 A5.out).mono ?_); (case side1 => exact zc (Kd.C_below HR0.out HB.out)); (case side2 => exact HC0.out); rintro e w' ⟨rfl, ⟨nd, rfl⟩⟩; refine ⟨_, rfl, ?_⟩) | ((with_reducible refine gate_callee (f := 97) rfl ?_); refine goesL_ (some 23) rfl rfl Tryd.func97 (by kernel_rfl) rfl #[.slice A1 l1.length c1, .int .i64 x5_1] rfl zq5 ?_; (with_reducible refine (rf_digit.calls _ _ l1 x5_1 t538 _ ?side1 ?side2 A6.out).mono ?_); (case side1 => exact zc (Kd.C_below HR1.out zq1)); (case side2 => exact HC1.out); rintro e w' ⟨rfl, ⟨nd, rfl⟩⟩; refine ⟨_, rfl, ?_⟩))
      go_roundg k1
      case measure => have := HK1.out; omega
      case rel => exact ⟨(wrap64 (x5_1 - 1)), zq8, (by first | exact H' | (rw [hji3]; exact H')), ⟨by have := HK1.out; omega⟩, ⟨zq1⟩⟩
   ·rw [if_neg c4] at H
    have c4b0 : decide (0 ≤ x5_1) = false := decide_eq_false c4
    clear c4
    obtain rfl := Option.some.inj H
    go_wp2
    go_ret
    exact ⟨by first | rfl | (simp [errW_none, errW_some] <;> rfl) | (simp only [← hji3]; first | rfl | (simp [errW_none, errW_some] <;> rfl)) | (simp [*, errW_none, errW_some] <;> rfl), zq1⟩
def rf_ShlNat.l0 : Nat → Int → List Int → Int → List Int → Int → Int → Option (List Int)
 | 0, _, _, _, _, _, _ => none
 | k + 1, x1, x5, x6, x16, x17, x18 => if x18 < x17 then (if 0 ≤ x18 then (if x18 < (x16.length : Int) then (if 0 ≤ (Int.tmod x1 16) then (if x5.length < 17592186044416 then (rf_ShlNat.l0 k x1 (x5 ++ [Int.tmod (Go.bits .or .i64 (shl .i64 (rd x16 x18) (Int.tmod x1 16)) x6) 65536]) (wrap64 (Int.tdiv (Go.bits .or .i64 (shl .i64 (rd x16 x18) (Int.tmod x1 16)) x6) 65536)) x16 x17 (wrap64 (x18 + 1))) else (none)) else (none)) else (none)) else (none)) else (if x5.length < 17592186044416 then ((rf_trim.f k (x5 ++ [x6])).bind fun t549 => (some t549)) else (none))
def rf_ShlNat.f (k : Nat) (l0 : List Int) (a1 : Int) : Option (List Int) := if (l0.length : Int) = 0 then (some ([] : List Int)) else (if 0 ≤ (wrap64 (Int.tdiv a1 16)) then (if (wrap64 (Int.tdiv a1 16) : Int).toNat ≤ 35184372088832 then (rf_ShlNat.l0 k a1 (List.replicate (wrap64 (Int.tdiv a1 16) : Int).toNat 0) 0 l0 (l0.length : Int) 0) else (none)) else (none))
theorem rf_ShlNat.mono_l : ∀ k, (∀ y0 y1 y2 y3 y4 y5, LeO (rf_ShlNat.l0 k y0 y1 y2 y3 y4 y5) (rf_ShlNat.l0 (k + 1) y0 y1 y2 y3 y4 y5))
 | 0 => fun _ _ _ _ _ _ r h => by simp [rf_ShlNat.l0] at h
 | k + 1 => by
  have ih0 := rf_ShlNat.mono_l k
  ·intro y0 y1 y2 y3 y4 y5
   unfold rf_ShlNat.l0
   have m0 := ih0
   have m1 := @rf_trim.mono
   exact zm
theorem rf_ShlNat.mono : ∀ a0 a1 k, LeO (rf_ShlNat.f k a0 a1) (rf_ShlNat.f (k + 1) a0 a1) := by
 intro a0 a1 k
 have ih0 := rf_ShlNat.mono_l k
 unfold rf_ShlNat.f
 have m0 := ih0
 have m1 := @rf_trim.mono
 exact zm
set_option maxHeartbeats 8000000 in
set_option maxRecDepth 100000 in
theorem rf_ShlNat.calls (k : Nat) (A0 : Option Addr) (c0 : Nat) (l0 : List Int) (a1 : Int) (r : List Int) (w : World) (hr0 : Kd.C (Kd.int .i64) w A0 l0.length l0) (hc0 : l0.length ≤ c0) (h : rf_ShlNat.f k l0 a1 = some r) :
  Calls Tryd.prog 82 #[.slice A0 l0.length c0, .int .i64 a1] w fun e w' => ∃ v0_ : Value, e = .returned (v0_) ∧ Kd.V (Kd.int .i64) 3 w' w.heap.size (fun k_ => (w.heap.size ≤ k_)) v0_ r ∧ Below w.heap.size w w' := by
 have HR0 := am hr0
 have HC0 := am hc0
 clear hr0 hc0
 have HB := am (Below.refl w.heap.size w)
 have H := h
 unfold rf_ShlNat.f at H
 clear h
 by_cases c3 : (l0.length : Int) = 0
 ·rw [if_pos c3] at H
  have c3b0 : ((l0.length : Int) == 0) = true := beq_iff_eq.mpr c3
  have c3b1 : ((l0.length : Int) != 0) = false := bne_eq_false_iff_eq.mpr c3
  clear c3
  obtain rfl := Option.some.inj H
  go_enter Tryd.func82, Tryd.ntmps82
  go_wp2
  go_ret
  exact ⟨_, zq9, Kd.V_nil _ _ _ _ _, zq1⟩
 ·rw [if_neg c3] at H
  have c3b0 : ((l0.length : Int) == 0) = false := beq_eq_false_iff_ne.mpr c3
  have c3b1 : ((l0.length : Int) != 0) = true := bne_iff_ne.mpr c3
  have c3b2 : ¬ (l0 = []) := fun h_ => c3 (by rw [h_]; rfl)
  obtain ⟨ji4, hji4⟩ : ∃ j_ : Int, (wrap64 (Int.tdiv a1 16)) = j_ := ⟨_, rfl⟩
  replace H : (if 0 ≤ (ji4) then (if (ji4 : Int).toNat ≤ 35184372088832 then (rf_ShlNat.l0 k a1 (List.replicate (ji4 : Int).toNat 0) 0 l0 (l0.length : Int) 0) else (none)) else (none)) = some r := by first | (rw [hji4] at H; exact H) | (simp only [hji4] at H ⊢; exact H)
  have hji4w : (IntKind.i64.wrap (Int.tdiv a1 16)) = ji4 := (i64_w _).trans hji4
  replace H := zn H
  obtain ⟨c5, H⟩ := H
  have c5b0 := eq_true c5
  have c5b1 := decide_eq_true c5
  clear c5
  replace H := zn H
  obtain ⟨c6, H⟩ := H
  have c6b0 := eq_true c6
  have c6b1 := decide_eq_true c6
  clear c6
  obtain ⟨y539, hy539⟩ : ∃ y_ : List Int, y_ = (List.replicate (ji4 : Int).toNat 0) := ⟨_, rfl⟩
  try rw [← hy539] at H
  have Ny539 := am hy539
  clear hy539
  have H' := am H
  clear H
  go_enter Tryd.func82, Tryd.ntmps82
  go_wp2_with (first | ((with_reducible refine gate_dst (N := 15) rfl ?_); refine Kd.R_make (Kd.int .i64) _ 3 rfl (N := 15) rfl 39 _ _ rfl ji4 rfl rfl Tryd.underlying39 (.int .i64 0) 8 info3 rfl (by decide) (by omega) 0 (ok := fun _ => True) (okp := fun _ => True) rfl (fun _ hk => hk) trivial zq6 (Nat.le_trans (Nat.mul_le_mul_right _ (zq6 : ji4.toNat ≤ 35184372088832)) (by omega)) (Below.refl _ _) (Nat.le_refl _) ?_; intro v540 w7 ho8 hb hg_ hnew_; clear hg_ hnew_; (first | rw [← Ny539.out] at ho8 | (simp only [Int.reduceToNat] at ho8; rw [← Ny539.out] at ho8)); refine zt2 (Kd.R_lower (Kd.R_newM (M := fun k_ => (w.heap.size ≤ k_)) ho8 (below_size zq1) (fun k_ h_ => h_)) (below_size zq1)) (below_step zq1 hb) ?_; clear HB; intro HO541 HB; clear hb ho8))
  go_loopg [5, 6, 18] k (fun kq v5 v6 v18 w' => ∃ (x5_1 : List Int) (x6_1 : Int) (x18_1 : Int), v6 = .int .i64 x6_1 ∧ v18 = .int .i64 x18_1 ∧ Aside0 (rf_ShlNat.l0 kq a1 x5_1 x6_1 l0 (l0.length : Int) x18_1 = some r) ∧ Aside0 (kq ≤ k) ∧ Aside0 (Kd.R (Kd.int .i64) 3 w' w.heap.size (fun k_ => (w.heap.size ≤ k_)) v5 x5_1) ∧ Aside0 (Below w.heap.size w w'))
  case atStart => exact ⟨(y539), (0), (0), zq8, zq8, H', ⟨Nat.le_refl _⟩, ⟨zwR (h := by exact Kd.R_mono HO541.out (fun _ hk => hk.1))⟩, ⟨zq1⟩⟩
  case round =>
   clear H'
   obtain ⟨x5_1, x6_1, x18_1, rfl, rfl, HA, HK1, HO_5, HB⟩ := hrel
   cases gk with
   | zero => exact absurd HA.out (by simp [rf_ShlNat.l0])
   | succ k1 =>
    have H := HA.out
    clear HA
    simp only [rf_ShlNat.l0] at H
    by_cases c9 : x18_1 < (l0.length : Int)
    ·rw [if_pos c9] at H
     have c9b0 := decide_eq_true c9
     clear c9
     replace H := zn H
     obtain ⟨c10, H⟩ := H
     have c10b0 := decide_eq_true c10
     clear c10
     replace H := zn H
     obtain ⟨c11, H⟩ := H
     have c11b0 := decide_eq_true c11
     clear c11
     obtain ⟨ji12, hji12⟩ : ∃ j_ : Int, (Int.tmod a1 16) = j_ := ⟨_, rfl⟩
     replace H : (if 0 ≤ (ji12) then (if x5_1.length < 17592186044416 then (rf_ShlNat.l0 k1 a1 (x5_1 ++ [Int.tmod (Go.bits .or .i64 (shl .i64 (rd l0 x18_1) (ji12)) x6_1) 65536]) (wrap64 (Int.tdiv (Go.bits .or .i64 (shl .i64 (rd l0 x18_1) (ji12)) x6_1) 65536)) l0 (l0.length : Int) (wrap64 (x18_1 + 1))) else (none)) else (none)) = some r := by first | (rw [hji12] at H; exact H) | (simp only [hji12] at H ⊢; exact H)
     replace H := zn H
     obtain ⟨c13, H⟩ := H
     have c13b0 := eq_true c13
     have c13b1 := decide_eq_true c13
     clear c13
     obtain ⟨ji14, hji14⟩ : ∃ j_ : Int, (shl .i64 (rd l0 x18_1) (ji12)) = j_ := ⟨_, rfl⟩
     replace H : (if x5_1.length < 17592186044416 then (rf_ShlNat.l0 k1 a1 (x5_1 ++ [Int.tmod (Go.bits .or .i64 (ji14) x6_1) 65536]) (wrap64 (Int.tdiv (Go.bits .or .i64 (ji14) x6_1) 65536)) l0 (l0.length : Int) (wrap64 (x18_1 + 1))) else (none)) = some r := by first | (rw [hji14] at H; exact H) | (simp only [hji14] at H ⊢; exact H)
     have hji14_ : (IntKind.i64.wrap ((rd l0 x18_1) * 2 ^ min (ji12).toNat 64)) = ji14 := hji14
     have hji14z : (ji12) ≤ 64 → (IntKind.i64.wrap ((rd l0 x18_1) * 2 ^ (ji12).toNat)) = ji14 := shl_small hji14
     have hji14y : (wrap64 ((rd l0 x18_1) * 2 ^ min (ji12).toNat 64)) = ji14 := (i64_w _).symm.trans hji14_
     have hji14x : (ji12) ≤ 64 → (wrap64 ((rd l0 x18_1) * 2 ^ (ji12).toNat)) = ji14 := fun h_ => (i64_w _).symm.trans (hji14z h_)
     replace H := zn H
     obtain ⟨c15, H⟩ := H
     have LMc15 := am c15
     clear c15
     obtain ⟨y543, hy543⟩ : ∃ y_ : List Int, y_ = (x5_1 ++ [Int.tmod (Go.bits .or .i64 (ji14) x6_1) 65536]) := ⟨_, rfl⟩
     try rw [← hy543] at H
     have Ny543 := am hy543
     clear hy543
     have H' := am H
     clear H
     have p542 : 0 ≤ (x18_1 : Int) := zq6
     have q542 : x18_1 < (l0.length : Int) := zq6
     obtain ⟨ad542, e542, hx542_0⟩ := Kd.at_int HR0.out x18_1 p542 q542
     cases e542
     replace hx542_0 := (HB.out.cell (World.block_lt_of_cell? w _ hx542_0)).trans hx542_0
     replace p542 := eq_true p542
     replace q542 := eq_true q542
     go_wp2_with (first | ((with_reducible refine gate_builtin (b := .append) (xs := #[.tmp 28, .tmp 31]) rfl ?_); at_builtin; refine Kd.R_append (Kd.int .i64) (w0 := w) w.heap.size rfl (.tmp 28) (.tmp 31) 39 3 (.int .i64 0) 8 rfl Tryd.underlying39 info3 rfl (by decide) (by omega) u5 x5_1 (Int.tmod (Go.bits .or .i64 (ji14) x6_1) 65536) [.int .i64 (Int.tmod (Go.bits .or .i64 (ji14) x6_1) 65536)] (fun k_ => (w.heap.size ≤ k_)) (fun _ => False) rfl rfl ?aP (fun _ hk => hk.elim) ?aF ?aO ?aB ?aS ?aL ?_; (case aP => exact rfl); (case aB => exact zq1); (case aF => exact (fun k_ hk => (Nat.le_trans (below_size zq1) hk))); (case aO => exact (zq4 HO_5.out)); (case aS => exact (below_size zq1)); (case aL => have := LMc15.out; omega); intro v544 w16 ho hb hg hat; rw [← Ny543.out] at ho; refine zt2 (hb) (ho) ?_; clear HB HO_5; intro HB HO545; clear ho hb hg hat))
     go_roundg k1
     case measure => have := HK1.out; omega
     case rel => exact ⟨(y543), (wrap64 (Int.tdiv (Go.bits .or .i64 (ji14) x6_1) 65536)), (wrap64 (x18_1 + 1)), (by first | rfl | (simp; done) | (simp only [← hji14] <;> (first | rfl | simp)) | (simp [*]; done)), zq8, (by first | exact H' | (rw [hji4]; exact H') | (rw [hji12]; exact H') | (rw [hji14]; exact H')), ⟨by have := HK1.out; omega⟩, ⟨zq4 HO545.out⟩, ⟨zq1⟩⟩
    ·rw [if_neg c9] at H
     have c9b0 := decide_eq_false c9
     clear c9
     replace H := zn H
     obtain ⟨c17, H⟩ := H
     have LMc17 := am c17
     clear c17
     obtain ⟨y546, hy546⟩ : ∃ y_ : List Int, y_ = (x5_1 ++ [x6_1]) := ⟨_, rfl⟩
     try rw [← hy546] at H
     have Ny546 := am hy546
     clear hy546
     replace H := zj H
     obtain ⟨t549, A18, H⟩ := H
     obtain rfl := Option.some.inj H
     go_wp2_with (first | ((with_reducible refine gate_builtin (b := .append) (xs := #[.tmp 36, .tmp 38]) rfl ?_); at_builtin; refine Kd.R_append (Kd.int .i64) (w0 := w) w.heap.size rfl (.tmp 36) (.tmp 38) 39 3 (.int .i64 0) 8 rfl Tryd.underlying39 info3 rfl (by decide) (by omega) u5 x5_1 x6_1 [.int .i64 x6_1] (fun k_ => (w.heap.size ≤ k_)) (fun _ => False) rfl rfl ?aP (fun _ hk => hk.elim) ?aF ?aO ?aB ?aS ?aL ?_; (case aP => exact rfl); (case aB => exact zq1); (case aF => exact (fun k_ hk => (Nat.le_trans (below_size zq1) hk))); (case aO => exact (zq4 HO_5.out)); (case aS => exact (below_size zq1)); (case aL => have := LMc17.out; omega); intro v547 w19 ho hb hg hat; rw [← Ny546.out] at ho; refine zt2 (hb) (ho) ?_; clear HB HO_5; intro HB HO548; clear ho hb hg hat; obtain ⟨Ao20, co20, eo20⟩ := Kd.R_slice HO548.out; subst eo20) | ((with_reducible refine gate_callee (f := 96) rfl ?_); refine goesL_ (some 40) rfl rfl Tryd.func96 (by kernel_rfl) rfl #[.slice Ao20 y546.length co20] rfl zq5 ?_; (with_reducible refine (rf_trim.calls k1 (fun k_ => some k_ = (.slice Ao20 y546.length co20 : Value).ownBlock) _ _ y546 t549 _ ?side1 A18.out).mono ?_); (case side1 => exact Kd.R_V (Kd.R_tight rfl (HO548.out))); rintro e w21 ⟨v550, rfl, ho0, hb⟩; refine ⟨_, rfl, ?_⟩; refine zt3 (rb HO548 hb) (Kd.V_lower (Kd.V_mono (ok' := fun k_ => (w.heap.size ≤ k_)) ho0 (fun k_ hk_ => Or.elim hk_ (fun hs_ => ((HO548.out).1 k_ hs_.symm)) (fun hn_ => (Nat.le_trans (below_size zq1) hn_)))) (below_size zq1)) (below_step zq1 hb) ?_; clear HO548 HB; intro HO548 HO551 HB))
     go_ret
     exact ⟨_, by first | rfl | (simp [errW_none, errW_some] <;> rfl) | (simp only [← hji4]; first | rfl | (simp [errW_none, errW_some] <;> rfl)) | (simp [*, errW_none, errW_some] <;> rfl), zq3 HO551.out, zq1⟩
def rf_SubNat.l0 : Nat → List Int → List Int → List Int → Int → Int → Int → Option (List Int)
 | 0, _, _, _, _, _, _ => none
 | k + 1, x0, x1, x5, x6, x10, x11 => if x11 < x10 then (if 0 ≤ x11 then (if x11 < (x0.length : Int) then ((rf_digit.f x1 x11).bind fun t553 => (if (wrap64 ((wrap64 ((rd x0 x11) - t553)) - x6)) < 0 then (if x5.length < 17592186044416 then (rf_SubNat.l0 k x0 x1 (x5 ++ [wrap64 ((wrap64 ((wrap64 ((rd x0 x11) - t553)) - x6)) + 65536)]) 1 x10 (wrap64 (x11 + 1))) else (none)) else (if x5.length < 17592186044416 then (rf_SubNat.l0 k x0 x1 (x5 ++ [wrap64 ((wrap64 ((rd x0 x11) - t553)) - x6)]) 0 x10 (wrap64 (x11 + 1))) else (none)))) else (none)) else (none)) else ((rf_trim.f k x5).bind fun t560 => (some t560))
def rf_SubNat.f (k : Nat) (l0 : List Int) (l1 : List Int) : Option (List Int) := rf_SubNat.l0 k l0 l1 ([] : List Int) 0 (l0.length : Int) 0
theorem rf_SubNat.mono_l : ∀ k, (∀ y0 y1 y2 y3 y4 y5, LeO (rf_SubNat.l0 k y0 y1 y2 y3 y4 y5) (rf_SubNat.l0 (k + 1) y0 y1 y2 y3 y4 y5))
 | 0 => fun _ _ _ _ _ _ r h => by simp [rf_SubNat.l0] at h
 | k + 1 => by
  have ih0 := rf_SubNat.mono_l k
  ·intro y0 y1 y2 y3 y4 y5
   unfold rf_SubNat.l0
   have m0 := ih0
   have m1 := @rf_trim.mono
   exact zm
theorem rf_SubNat.mono : ∀ a0 a1 k, LeO (rf_SubNat.f k a0 a1) (rf_SubNat.f (k + 1) a0 a1) := by
 intro a0 a1 k
 have ih0 := rf_SubNat.mono_l k
 unfold rf_SubNat.f
 have m0 := ih0
 have m1 := @rf_trim.mono
 exact zm
set_option maxHeartbeats 8000000 in
set_option maxRecDepth 100000 in
theorem rf_SubNat.calls (k : Nat) (A0 : Option Addr) (c0 : Nat) (l0 : List Int) (A1 : Option Addr) (c1 : Nat) (l1 : List Int) (r : List Int) (w : World) (hr0 : Kd.C (Kd.int .i64) w A0 l0.length l0) (hc0 : l0.length ≤ c0) (hr1 : Kd.C (Kd.int .i64) w A1 l1.length l1) (hc1 : l1.length ≤ c1) (h : rf_SubNat.f k l0 l1 = some r) :
  Calls Tryd.prog 83 #[.slice A0 l0.length c0, .slice A1 l1.length c1] w fun e w' => ∃ v0_ : Value, e = .returned (v0_) ∧ Kd.V (Kd.int .i64) 3 w' w.heap.size (fun k_ => (w.heap.size ≤ k_)) v0_ r ∧ Below w.heap.size w w' := by
 have HR0 := am hr0
 have HC0 := am hc0
 clear hr0 hc0
 have HR1 := am hr1
 have HC1 := am hc1
 clear hr1 hc1
 have HB := am (Below.refl w.heap.size w)
 have H := h
 unfold rf_SubNat.f at H
 clear h
 have H' := am H
 clear H
 go_enter Tryd.func83, Tryd.ntmps83
 go_wp2
 repeat (go_quiet (fail); try go_wp2)
 go_loopg [5, 6, 11] k (fun kq v5 v6 v11 w' => ∃ (x5_1 : List Int) (x6_1 : Int) (x11_1 : Int), v6 = .int .i64 x6_1 ∧ v11 = .int .i64 x11_1 ∧ Aside0 (rf_SubNat.l0 kq l0 l1 x5_1 x6_1 (l0.length : Int) x11_1 = some r) ∧ Aside0 (kq ≤ k) ∧ Aside0 (Kd.R (Kd.int .i64) 3 w' w.heap.size (fun k_ => (w.heap.size ≤ k_)) v5 x5_1) ∧ Aside0 (Below w.heap.size w w'))
 case atStart => exact ⟨(([] : List Int)), (0), (0), zq8, zq8, H', ⟨Nat.le_refl _⟩, ⟨by first | exact Kd.R_nil _ _ _ _ _ | exact Kd.N_nil _ _ _ _ _ | exact Kd.V_nil _ _ _ _ _ | exact Kd.Q_nil _ _ _ _ _ | exact Kd.S_nil _ _ _ _ _⟩, ⟨zq1⟩⟩
 case round =>
  clear H'
  obtain ⟨x5_1, x6_1, x11_1, rfl, rfl, HA, HK1, HO_5, HB⟩ := hrel
  cases gk with
  | zero => exact absurd HA.out (by simp [rf_SubNat.l0])
  | succ k1 =>
   have H := HA.out
   clear HA
   simp only [rf_SubNat.l0] at H
   by_cases c3 : x11_1 < (l0.length : Int)
   ·rw [if_pos c3] at H
    have c3b0 := decide_eq_true c3
    clear c3
    replace H := zn H
    obtain ⟨c4, H⟩ := H
    have c4b0 := decide_eq_true c4
    clear c4
    replace H := zn H
    obtain ⟨c5, H⟩ := H
    have c5b0 := decide_eq_true c5
    clear c5
    replace H := zj H
    obtain ⟨t553, A6, H⟩ := H
    by_cases c7 : (wrap64 ((wrap64 ((rd l0 x11_1) - t553)) - x6_1)) < 0
    ·rw [if_pos c7] at H
     have c7b0 := decide_eq_true c7
     clear c7
     replace H := zn H
     obtain ⟨c8, H⟩ := H
     have LMc8 := am c8
     clear c8
     obtain ⟨y554, hy554⟩ : ∃ y_ : List Int, y_ = (x5_1 ++ [wrap64 ((wrap64 ((wrap64 ((rd l0 x11_1) - t553)) - x6_1)) + 65536)]) := ⟨_, rfl⟩
     try rw [← hy554] at H
     have Ny554 := am hy554
     clear hy554
     have H' := am H
     clear H
     have p552 : 0 ≤ (x11_1 : Int) := zq6
     have q552 : x11_1 < (l0.length : Int) := zq6
     obtain ⟨ad552, e552, hx552_0⟩ := Kd.at_int HR0.out x11_1 p552 q552
     cases e552
     replace hx552_0 := (HB.out.cell (World.block_lt_of_cell? w _ hx552_0)).trans hx552_0
     replace p552 := eq_true p552
     replace q552 := eq_true q552
     go_wp2_with (first | (go_at_call 97; (with_reducible refine (rf_digit.calls _ _ l1 x11_1 t553 _ ?side1 ?side2 A6.out).mono ?_); (case side1 => exact zc (Kd.C_below HR1.out HB.out)); (case side2 => exact HC1.out); rintro e w' ⟨rfl, ⟨nd, rfl⟩⟩; (try first | exact ⟨rfl, _, World.drewN_drewN _ _ _⟩ | exact ⟨rfl, _, Eq.trans (World.drewN_drewN _ _ _) (congrArg (World.drewN _) (Nat.add_assoc _ _ _))⟩)) | ((with_reducible refine gate_builtin (b := .append) (xs := #[.tmp 28, .tmp 30]) rfl ?_); at_builtin; refine Kd.R_append (Kd.int .i64) (w0 := w) w.heap.size rfl (.tmp 28) (.tmp 30) 39 3 (.int .i64 0) 8 rfl Tryd.underlying39 info3 rfl (by decide) (by omega) u5 x5_1 (wrap64 ((wrap64 ((wrap64 ((rd l0 x11_1) - t553)) - x6_1)) + 65536)) [.int .i64 (wrap64 ((wrap64 ((wrap64 ((rd l0 x11_1) - t553)) - x6_1)) + 65536))] (fun k_ => (w.heap.size ≤ k_)) (fun _ => False) rfl rfl ?aP (fun _ hk => hk.elim) ?aF ?aO ?aB ?aS ?aL ?_; (case aP => exact rfl); (case aB => exact zq1); (case aF => exact (fun k_ hk => (Nat.le_trans (below_size zq1) hk))); (case aO => exact (zq4 HO_5.out)); (case aS => exact (below_size zq1)); (case aL => have := LMc8.out; omega); intro v555 w9 ho hb hg hat; rw [← Ny554.out] at ho; refine zt2 (hb) (ho) ?_; clear HB HO_5; intro HB HO556; clear ho hb hg hat))
     repeat (go_quiet (first | (go_at_call 97; (with_reducible refine (rf_digit.calls _ _ l1 x11_1 t553 _ ?side1 ?side2 A6.out).mono ?_); (case side1 => exact zc (Kd.C_below HR1.out HB.out)); (case side2 => exact HC1.out); rintro e w' ⟨rfl, ⟨nd, rfl⟩⟩; (try first | exact ⟨rfl, _, World.drewN_drewN _ _ _⟩ | exact ⟨rfl, _, Eq.trans (World.drewN_drewN _ _ _) (congrArg (World.drewN _) (Nat.add_assoc _ _ _))⟩)) | ((with_reducible refine gate_builtin (b := .append) (xs := #[.tmp 28, .tmp 30]) rfl ?_); at_builtin; refine Kd.R_append (Kd.int .i64) (w0 := w) w.heap.size rfl (.tmp 28) (.tmp 30) 39 3 (.int .i64 0) 8 rfl Tryd.underlying39 info3 rfl (by decide) (by omega) u5 x5_1 (wrap64 ((wrap64 ((wrap64 ((rd l0 x11_1) - t553)) - x6_1)) + 65536)) [.int .i64 (wrap64 ((wrap64 ((wrap64 ((rd l0 x11_1) - t553)) - x6_1)) + 65536))] (fun k_ => (w.heap.size ≤ k_)) (fun _ => False) rfl rfl ?aP (fun _ hk => hk.elim) ?aF ?aO ?aB ?aS ?aL ?_; (case aP => exact rfl); (case aB => exact zq1); (case aF => exact (fun k_ hk => (Nat.le_trans (below_size zq1) hk))); (case aO => exact (zq4 HO_5.out)); (case aS => exact (below_size zq1)); (case aL => have := LMc8.out; omega); intro v555 w9 ho hb hg hat; rw [← Ny554.out] at ho; refine zt2 (hb) (ho) ?_; clear HB HO_5; intro HB HO556; clear ho hb hg hat)); try go_wp2_with (first | (go_at_call 97; (with_reducible refine (rf_digit.calls _ _ l1 x11_1 t553 _ ?side1 ?side2 A6.out).mono ?_); (case side1 => exact zc (Kd.C_below HR1.out HB.out)); (case side2 => exact HC1.out); rintro e w' ⟨rfl, ⟨nd, rfl⟩⟩; (try first | exact ⟨rfl, _, World.drewN_drewN _ _ _⟩ | exact ⟨rfl, _, Eq.trans (World.drewN_drewN _ _ _) (congrArg (World.drewN _) (Nat.add_assoc _ _ _))⟩)) | ((with_reducible refine gate_builtin (b := .append) (xs := #[.tmp 28, .tmp 30]) rfl ?_); at_builtin; refine Kd.R_append (Kd.int .i64) (w0 := w) w.heap.size rfl (.tmp 28) (.tmp 30) 39 3 (.int .i64 0) 8 rfl Tryd.underlying39 info3 rfl (by decide) (by omega) u5 x5_1 (wrap64 ((wrap64 ((wrap64 ((rd l0 x11_1) - t553)) - x6_1)) + 65536)) [.int .i64 (wrap64 ((wrap64 ((wrap64 ((rd l0 x11_1) - t553)) - x6_1)) + 65536))] (fun k_ => (w.heap.size ≤ k_)) (fun _ => False) rfl rfl ?aP (fun _ hk => hk.elim) ?aF ?aO ?aB ?aS ?aL ?_; (case aP => exact rfl); (case aB => exact zq1); (case aF => exact (fun k_ hk => (Nat.le_trans (below_size zq1) hk))); (case aO => exact (zq4 HO_5.out)); (case aS => exact (below_size zq1)); (case aL => have := LMc8.out; omega); intro v555 w9 ho hb hg hat; rw [← Ny554.out] at ho; refine zt2 (hb) (ho) ?_; clear HB HO_5; intro HB HO556; clear ho hb hg hat)))
     go_roundg k1
     case measure => have := HK1.out; omega
     case rel => exact ⟨(y554), (1), (wrap64 (x11_1 + 1)), zq8, zq8, H', ⟨by have := HK1.out; omega⟩, ⟨zq4 HO556.out⟩, ⟨zq1⟩⟩
    ·rw [if_neg c7] at H
     have c7b0 := decide_eq_false c7
     clear c7
     replace H := zn H
     obtain ⟨c10, H⟩ := H
     have LMc10 := am c10
     clear c10
     obtain ⟨y557, hy557⟩ : ∃ y_ : List Int, y_ = (x5_1 ++ [wrap64 ((wrap64 ((rd l0 x11_1) - t553)) - x6_1)]) := ⟨_, rfl⟩
     try rw [← hy557] at H
     have Ny557 := am hy557
     clear hy557
     have H' := am H
     clear H
     have p552 : 0 ≤ (x11_1 : Int) := zq6
     have q552 : x11_1 < (l0.length : Int) := zq6
     obtain ⟨ad552, e552, hx552_0⟩ := Kd.at_int HR0.out x11_1 p552 q552
     cases e552
     replace hx552_0 := (HB.out.cell (World.block_lt_of_cell? w _ hx552_0)).trans hx552_0
     replace p552 := eq_true p552
     replace q552 := eq_true q552
     go_wp2_with (first | (go_at_call 97; (with_reducible refine (rf_digit.calls _ _ l1 x11_1 t553 _ ?side1 ?side2 A6.out).mono ?_); (case side1 => exact zc (Kd.C_below HR1.out HB.out)); (case side2 => exact HC1.out); rintro e w' ⟨rfl, ⟨nd, rfl⟩⟩; (try first | exact ⟨rfl, _, World.drewN_drewN _ _ _⟩ | exact ⟨rfl, _, Eq.trans (World.drewN_drewN _ _ _) (congrArg (World.drewN _) (Nat.add_assoc _ _ _))⟩)) | ((with_reducible refine gate_builtin (b := .append) (xs := #[.tmp 28, .tmp 30]) rfl ?_); at_builtin; refine Kd.R_append (Kd.int .i64) (w0 := w) w.heap.size rfl (.tmp 28) (.tmp 30) 39 3 (.int .i64 0) 8 rfl Tryd.underlying39 info3 rfl (by decide) (by omega) u5 x5_1 (wrap64 ((wrap64 ((rd l0 x11_1) - t553)) - x6_1)) [.int .i64 (wrap64 ((wrap64 ((rd l0 x11_1) - t553)) - x6_1))] (fun k_ => (w.heap.size ≤ k_)) (fun _ => False) rfl rfl ?aP (fun _ hk => hk.elim) ?aF ?aO ?aB ?aS ?aL ?_; (case aP => exact rfl); (case aB => exact zq1); (case aF => exact (fun k_ hk => (Nat.le_trans (below_size zq1) hk))); (case aO => exact (zq4 HO_5.out)); (case aS => exact (below_size zq1)); (case aL => have := LMc10.out; omega); intro v558 w11 ho hb hg hat; rw [← Ny557.out] at ho; refine zt2 (hb) (ho) ?_; clear HB HO_5; intro HB HO559; clear ho hb hg hat))
     repeat (go_quiet (first | (go_at_call 97; (with_reducible refine (rf_digit.calls _ _ l1 x11_1 t553 _ ?side1 ?side2 A6.out).mono ?_); (case side1 => exact zc (Kd.C_below HR1.out HB.out)); (case side2 => exact HC1.out); rintro e w' ⟨rfl, ⟨nd, rfl⟩⟩; (try first | exact ⟨rfl, _, World.drewN_drewN _ _ _⟩ | exact ⟨rfl, _, Eq.trans (World.drewN_drewN _ _ _) (congrArg (World.drewN _) (Nat.add_assoc _ _ _))⟩)) | ((with_reducible refine gate_builtin (b := .append) (xs := #[.tmp 28, .tmp 30]) rfl ?_); at_builtin; refine Kd.R_append (Kd.int .i64) (w0 := w) w.heap.size rfl (.tmp 28) (.tmp 30) 39 3 (.int .i64 0) 8 rfl Tryd.underlying39 info3 rfl (by decide) (by omega) u5 x5_1 (wrap64 ((wrap64 ((rd l0 x11_1) - t553)) - x6_1)) [.int .i64 (wrap64 ((wrap64 ((rd l0 x11_1) - t553)) - x6_1))] (fun k_ => (w.heap.size ≤ k_)) (fun _ => False) rfl rfl ?aP (fun _ hk => hk.elim) ?aF ?aO ?aB ?aS ?aL ?_; (case aP => exact rfl); (case aB => exact zq1); (case aF => exact (fun k_ hk => (Nat.le_trans (below_size zq1) hk))); (case aO => exact (zq4 HO_5.out)); (case aS => exact (below_size zq1)); (case aL => have := LMc10.out; omega); intro v558 w11 ho hb hg hat; rw [← Ny557.out] at ho; refine zt2 (hb) (ho) ?_; clear HB HO_5; intro HB HO559; clear ho hb hg hat)); try go_wp2_with (first | (go_at_call 97; (with_reducible refine (rf_digit.calls _ _ l1 x11_1 t553 _ ?side1 ?side2 A6.out).mono ?_); (case side1 => exact zc (Kd.C_below HR1.out HB.out)); (case side2 => exact HC1.out); rintro e w' ⟨rfl, ⟨nd, rfl⟩⟩; (try first | exact ⟨rfl, _, World.drewN_drewN _ _ _⟩ | exact ⟨rfl, _, Eq.trans (World.drewN_drewN _ _ _) (congrArg (World.drewN _) (Nat.add_assoc _ _ _))⟩)) | ((with_reducible refine gate_builtin (b := .append) (xs := #[.tmp 28, .tmp 30]) rfl ?_); at_builtin; refine Kd.R_append (Kd.int .i64) (w0 := w) w.heap.size rfl (.tmp 28) (.tmp 30) 39 3 (.int .i64 0) 8 rfl Tryd.underlying39 info3 rfl (by decide) (by omega) u5 x5_1 (wrap64 ((wrap64 ((rd l0 x11_1) - t553)) - x6_1)) [.int .i64 (wrap64 ((wrap64 ((rd l0 x11_1) - t553)) - x6_1))] (fun k_ => (w.heap.size ≤ k_)) (fun _ => False) rfl rfl ?aP (fun _ hk => hk.elim) ?aF ?aO ?aB ?aS ?aL ?_; (case aP => exact rfl); (case aB => exact zq1); (case aF => exact (fun k_ hk => (Nat.le_trans (below_size zq1) hk))); (case aO => exact (zq4 HO_5.out)); (case aS => exact (below_size zq1)); (case aL => have := LMc10.out; omega); intro v558 w11 ho hb hg hat; rw [← Ny557.out] at ho; refine zt2 (hb) (ho) ?_; clear HB HO_5; intro HB HO559; clear ho hb hg hat)))
     go_roundg k1
     case measure => have := HK1.out; omega
     case rel => exact ⟨(y557), (0), (wrap64 (x11_1 + 1)), zq8, zq8, H', ⟨by have := HK1.out; omega⟩, ⟨zq4 HO559.out⟩, ⟨zq1⟩⟩
   ·rw [if_neg c3] at H
    have c3b0 := decide_eq_false c3
    clear c3
    replace H := zj H
    obtain ⟨t560, A12, H⟩ := H
    obtain rfl := Option.some.inj H
    obtain ⟨Ao13, co13, eo13⟩ := Kd.R_slice HO_5.out
    subst eo13
    go_wp2_with (first | (go_at_call 96; (with_reducible refine (rf_trim.calls k1 (fun k_ => some k_ = (.slice Ao13 x5_1.length co13 : Value).ownBlock) _ _ x5_1 t560 _ ?side1 A12.out).mono ?_); (case side1 => exact Kd.R_V (Kd.R_tight rfl (HO_5.out))); rintro e w14 ⟨v561, rfl, ho0, hb⟩; refine zt3 (rb HO_5 hb) (Kd.V_lower (Kd.V_mono (ok' := fun k_ => (w.heap.size ≤ k_)) ho0 (fun k_ hk_ => Or.elim hk_ (fun hs_ => ((HO_5.out).1 k_ hs_.symm)) (fun hn_ => (Nat.le_trans (below_size zq1) hn_)))) (below_size zq1)) (below_step zq1 hb) ?_; clear HO_5 HB; intro HO_5 HO562 HB))
    repeat (go_quiet (first | (go_at_call 96; (with_reducible refine (rf_trim.calls k1 (fun k_ => some k_ = (.slice Ao13 x5_1.length co13 : Value).ownBlock) _ _ x5_1 t560 _ ?side1 A12.out).mono ?_); (case side1 => exact Kd.R_V (Kd.R_tight rfl (HO_5.out))); rintro e w14 ⟨v561, rfl, ho0, hb⟩; refine zt3 (rb HO_5 hb) (Kd.V_lower (Kd.V_mono (ok' := fun k_ => (w.heap.size ≤ k_)) ho0 (fun k_ hk_ => Or.elim hk_ (fun hs_ => ((HO_5.out).1 k_ hs_.symm)) (fun hn_ => (Nat.le_trans (below_size zq1) hn_)))) (below_size zq1)) (below_step zq1 hb) ?_; clear HO_5 HB; intro HO_5 HO562 HB)); try go_wp2_with (first | (go_at_call 96; (with_reducible refine (rf_trim.calls k1 (fun k_ => some k_ = (.slice Ao13 x5_1.length co13 : Value).ownBlock) _ _ x5_1 t560 _ ?side1 A12.out).mono ?_); (case side1 => exact Kd.R_V (Kd.R_tight rfl (HO_5.out))); rintro e w14 ⟨v561, rfl, ho0, hb⟩; refine zt3 (rb HO_5 hb) (Kd.V_lower (Kd.V_mono (ok' := fun k_ => (w.heap.size ≤ k_)) ho0 (fun k_ hk_ => Or.elim hk_ (fun hs_ => ((HO_5.out).1 k_ hs_.symm)) (fun hn_ => (Nat.le_trans (below_size zq1) hn_)))) (below_size zq1)) (below_step zq1 hb) ?_; clear HO_5 HB; intro HO_5 HO562 HB)))
    go_ret
    exact ⟨_, zq9, zq3 HO562.out, zq1⟩
def rf_bit.f (l0 : List Int) (a1 : Int) : Option (Int) := (rf_digit.f l0 (wrap64 (Int.tdiv a1 16))).bind fun t563 => (if 0 ≤ (Int.tmod a1 16) then (some (Go.bits .and .i64 (shr .i64 t563 (Int.tmod a1 16)) 1)) else (none))
set_option maxHeartbeats 8000000 in
set_option maxRecDepth 100000 in
theorem rf_bit.calls (A0 : Option Addr) (c0 : Nat) (l0 : List Int) (a1 : Int) (r : Int) (w : World) (hr0 : Kd.C (Kd.int .i64) w A0 l0.length l0) (hc0 : l0.length ≤ c0) (h : rf_bit.f l0 a1 = some r) :
  Calls Tryd.prog 98 #[.slice A0 l0.length c0, .int .i64 a1] w fun e w' => e = .returned (.int .i64 r) ∧ Drawn0 w w' := by
 have HR0 := am hr0
 have HC0 := am hc0
 clear hr0 hc0
 have H := h
 unfold rf_bit.f at H
 clear h
 replace H := zj H
 obtain ⟨t563, A3, H⟩ := H
 obtain ⟨ji4, hji4⟩ : ∃ j_ : Int, (Int.tmod a1 16) = j_ := ⟨_, rfl⟩
 replace H : (if 0 ≤ (ji4) then (some (Go.bits .and .i64 (shr .i64 t563 (ji4)) 1)) else (none)) = some r := by first | (rw [hji4] at H; exact H) | (simp only [hji4] at H ⊢; exact H)
 (try rw [hji4] at A3)
 replace H := zn H
 obtain ⟨c5, H⟩ := H
 have c5b0 := eq_true c5
 have c5b1 := decide_eq_true c5
 clear c5
 obtain ⟨ji6, hji6⟩ : ∃ j_ : Int, (shr .i64 t563 (ji4)) = j_ := ⟨_, rfl⟩
 replace H : (some (Go.bits .and .i64 (ji6) 1)) = some r := by first | (rw [hji6] at H; exact H) | (simp only [hji6] at H ⊢; exact H)
 (try rw [hji6] at A3)
 have hji6_ : (t563 / 2 ^ min (ji4).toNat 64) = ji6 := hji6
 have hji6z : (ji4) ≤ 64 → (t563 / 2 ^ (ji4).toNat) = ji6 := shr_small hji6
 obtain rfl := Option.some.inj H
 go_enter Tryd.func98, Tryd.ntmps98
 go_wp2_with (first | ((with_reducible refine gate_callee (f := 97) rfl ?_); refine goesL_ (some 8) rfl rfl Tryd.func97 (by kernel_rfl) rfl #[.slice A0 l0.length c0, .int .i64 (wrap64 (Int.tdiv a1 16))] rfl zq5 ?_; (with_reducible refine (rf_digit.calls _ _ l0 (wrap64 (Int.tdiv a1 16)) t563 _ ?side1 ?side2 A3.out).mono ?_); (case side1 => exact zc (HR0.out)); (case side2 => exact HC0.out); rintro e w' ⟨rfl, ⟨nd, rfl⟩⟩; refine ⟨_, rfl, ?_⟩))
 go_ret
 exact ⟨by first | rfl | (simp; done) | (simp only [← hji4, ← hji6] <;> (first | rfl | simp)) | (simp [*]; done), by repeat (first | exact Drawn0.refl _ | apply Drawn0.step)⟩
def rf_half.l0 : Nat → List Int → List Int → Int → Int → Option (List Int)
 | 0, _, _, _, _ => none
 | k + 1, x0, x3, x9, x10 => if x10 < x9 then (if 0 ≤ x10 then (if x10 < (x0.length : Int) then ((rf_digit.f x0 (wrap64 (x10 + 1))).bind fun t568 => (if x10 < (x3.length : Int) then (rf_half.l0 k x0 (x3.set (x10 : Int).toNat (Go.bits .or .i64 ((rd x0 x10) / 2) (wrap64 ((Go.bits .and .i64 t568 1) * 32768)))) x9 (wrap64 (x10 + 1))) else (none))) else (none)) else (none)) else ((rf_trim.f k x3).bind fun t570 => (some t570))
def rf_half.f (k : Nat) (l0 : List Int) : Option (List Int) := if 0 ≤ (l0.length : Int) then (if ((l0.length : Int) : Int).toNat ≤ 35184372088832 then (rf_half.l0 k l0 (List.replicate ((l0.length : Int) : Int).toNat 0) (l0.length : Int) 0) else (none)) else (none)
theorem rf_half.mono_l : ∀ k, (∀ y0 y1 y2 y3, LeO (rf_half.l0 k y0 y1 y2 y3) (rf_half.l0 (k + 1) y0 y1 y2 y3))
 | 0 => fun _ _ _ _ r h => by simp [rf_half.l0] at h
 | k + 1 => by
  have ih0 := rf_half.mono_l k
  ·intro y0 y1 y2 y3
   unfold rf_half.l0
   have m0 := ih0
   have m1 := @rf_trim.mono
   exact zm
theorem rf_half.mono : ∀ a0 k, LeO (rf_half.f k a0) (rf_half.f (k + 1) a0) := by
 intro a0 k
 have ih0 := rf_half.mono_l k
 unfold rf_half.f
 have m0 := ih0
 have m1 := @rf_trim.mono
 exact zm
def rf_half.T5 : Bool × List (List Nat × List Nat) := (true, [([], []), ([], []), ([], []), ([], []), ([2, 3], [2, 3]), ([4], [4]), ([5], [5]), ([], []), ([], []), ([8], [8]), ([7, 9], [7, 9]), ([10], [10]), ([11], [11]), ([6, 12], [6, 12]), ([0, 1, 0, 1, 2, 3, 4, 5, 6, 7, 8, 9, 10, 11, 12, 13], [0, 1]), ([14, 13, 10, 0, 1, 2, 3, 4, 5, 6, 7, 8, 9, 10, 11, 12, 13], [13, 14])])
def rf_half.B5 : List Nat := [0, 0, 0, 0, 12, 28, 60, 0, 0, 256, 896, 1920, 3968, 8188, 16383, 32767]
theorem rf_half.tab5 : rtab .any (opsOf Tryd.f99 5) = rf_half.T5 := by kernel_rfl
theorem rf_half.bits5 : waitsOk rf_half.T5.2 rf_half.B5 = true := by kernel_rfl
set_option maxHeartbeats 8000000 in
set_option maxRecDepth 100000 in
theorem rf_half.calls (k : Nat) (A0 : Option Addr) (c0 : Nat) (l0 : List Int) (r : List Int) (w : World) (hr0 : Kd.C (Kd.int .i64) w A0 l0.length l0) (hc0 : l0.length ≤ c0) (h : rf_half.f k l0 = some r) :
  Calls Tryd.prog 99 #[.slice A0 l0.length c0] w fun e w' => ∃ v0_ : Value, e = .returned (v0_) ∧ Kd.V (Kd.int .i64) 3 w' w.heap.size (fun k_ => (w.heap.size ≤ k_)) v0_ r ∧ Below w.heap.size w w' := by
 have HR0 := am hr0
 have HC0 := am hc0
 clear hr0 hc0
 have HB := am (Below.refl w.heap.size w)
 have H := h
 unfold rf_half.f at H
 clear h
 replace H := zn H
 obtain ⟨c2, H⟩ := H
 have c2b0 := eq_true c2
 have c2b1 := decide_eq_true c2
 clear c2
 replace H := zn H
 obtain ⟨c3, H⟩ := H
 have c3b0 := eq_true c3
 have c3b1 := decide_eq_true c3
 clear c3
 obtain ⟨y564, hy564⟩ : ∃ y_ : List Int, y_ = (List.replicate ((l0.length : Int) : Int).toNat 0) := ⟨_, rfl⟩
 try rw [← hy564] at H
 have Ny564 := am hy564
 clear hy564
 have H' := am H
 clear H
 go_enter Tryd.func99, Tryd.ntmps99
 go_wp2_with (first | ((with_reducible refine gate_dst (N := 7) rfl ?_); refine Kd.R_make (Kd.int .i64) _ 3 rfl (N := 7) rfl 39 _ _ rfl (l0.length : Int) rfl rfl Tryd.underlying39 (.int .i64 0) 8 info3 rfl (by decide) (by omega) 0 (ok := fun _ => True) (okp := fun _ => True) rfl (fun _ hk => hk) trivial zq6 (Nat.le_trans (Nat.mul_le_mul_right _ (zq6 : (l0.length : Int).toNat ≤ 35184372088832)) (by omega)) (Below.refl _ _) (Nat.le_refl _) ?_; intro v565 w4 ho5 hb hg_ hnew_; clear hg_ hnew_; (first | rw [← Ny564.out] at ho5 | (simp only [Int.reduceToNat] at ho5; rw [← Ny564.out] at ho5)); refine zt2 (Kd.R_lower (Kd.R_newM (M := fun k_ => (w.heap.size ≤ k_)) ho5 (below_size zq1) (fun k_ h_ => h_)) (below_size zq1)) (below_step zq1 hb) ?_; clear HB; intro HO566 HB; clear hb ho5))
 go_loopg [10] k (fun kq v10 w' => ∃ (x3_1 : List Int) (x10_1 : Int), v10 = .int .i64 x10_1 ∧ Aside0 (rf_half.l0 kq l0 x3_1 (l0.length : Int) x10_1 = some r) ∧ Aside0 (kq ≤ k) ∧ Aside0 (Kd.R (Kd.int .i64) 3 w' w.heap.size (fun k_ => (w.heap.size ≤ k_)) v565 x3_1) ∧ Aside0 (Below w.heap.size w w'))
 case atStart => exact ⟨(y564), (0), zq8, H', ⟨Nat.le_refl _⟩, ⟨zwR (h := by exact Kd.R_mono HO566.out (fun _ hk => hk.1))⟩, ⟨zq1⟩⟩
 case round =>
  clear H'
  obtain ⟨x3_1, x10_1, rfl, HA, HK1, HO_3, HB⟩ := hrel
  cases gk with
  | zero => exact absurd HA.out (by simp [rf_half.l0])
  | succ k1 =>
   have H := HA.out
   clear HA
   simp only [rf_half.l0] at H
   by_cases c6 : x10_1 < (l0.length : Int)
   ·rw [if_pos c6] at H
    have c6b0 := decide_eq_true c6
    clear c6
    replace H := zn H
    obtain ⟨c7, H⟩ := H
    have c7b0 := decide_eq_true c7
    clear c7
    replace H := zn H
    obtain ⟨c8, H⟩ := H
    have c8b0 := decide_eq_true c8
    clear c8
    replace H := zj H
    obtain ⟨t568, A9, H⟩ := H
    replace H := zn H
    obtain ⟨c10, H⟩ := H
    have c10b0 := decide_eq_true c10
    clear c10
    obtain ⟨y569, hy569⟩ : ∃ y_ : List Int, y_ = (x3_1.set (x10_1 : Int).toNat (Go.bits .or .i64 ((rd l0 x10_1) / 2) (wrap64 ((Go.bits .and .i64 t568 1) * 32768)))) := ⟨_, rfl⟩
    try rw [← hy569] at H
    have Ny569 := am hy569
    clear hy569
    have H' := am H
    clear H
    try go_wp2
    refine zt2 (Kd.R_drew HO_3.out) (below_drew1 HB.out) ?_
    clear HO_3 HB
    intro HO_3 HB
    have p567 : 0 ≤ (x10_1 : Int) := zq6
    have q567 : x10_1 < (l0.length : Int) := zq6
    obtain ⟨ad567, e567, hx567_0⟩ := Kd.at_int HR0.out x10_1 p567 q567
    have hw567_0 := hx567_0
    cases e567
    replace hx567_0 := (HB.out.cell (World.block_lt_of_cell? w _ hx567_0)).trans hx567_0
    replace p567 := eq_true p567
    replace q567 := eq_true q567
    refine start_ (n := 16) (S := fun w' => w'.cell? (ad567.add (x10_1).toNat) = some (.int .i64 (rd l0 x10_1))) (ds := [15]) #[false, false, false, false, false, false, false, false, false, false, false, false, false, false, false, false] (by kernel_rfl) rfl rfl (((HB.out.cell (World.block_lt_of_cell? w _ hw567_0)).trans hw567_0)) (fun hHeld => ?_); refine with_tabW rf_half.tab5 rf_half.bits5 (fun HT_ HW_ => ?_)
    generalize wr.drew = w12 at HO_3 HB hx567_0 hHeld ⊢
    refine pz_ (i := 0) (N := some 13) (zmt 16 [0]) ?_
    refine pz_ (i := 1) (N := some 14) (zmt 16 [0, 1]) ?_
    refine pz_ (i := 2) (N := some 15) (zmt 16 [0, 1, 2]) ?_
    refine pz_ (i := 3) (N := some 16) (zmt 16 [0, 1, 2, 3]) ?_
    refine pz_ (i := 4) (N := some 17) (zmt 16 [0, 1, 2, 3, 4]) ?_
    refine pz_ (i := 7) (N := some 20) (zmt 16 [0, 1, 2, 3, 4, 7]) ?_
    refine pz_ (i := 8) (N := some 21) (zmt 16 [0, 1, 2, 3, 4, 7, 8]) ?_
    refine pz_ (i := 9) (N := some 22) (zmt 16 [0, 1, 2, 3, 4, 7, 8, 9]) ?_
    refine tz1 (i := 5) (N := some 18) (zmf 16 [6, 10, 11, 12, 13, 14, 15]) ?_
    refine pz_ (i := 6) (N := some 19) (zmf 16 [10, 11, 12, 13, 14, 15]) ?_
    refine one_ (i := 10) (N := some 23) (zmf 16 [11, 12, 13, 14, 15]) rfl rfl (one_of HT_.out (by kernel_rfl)) (by decide) (fun K hK => ?_)
    refine goes_ Tryd.func97 (by kernel_rfl) rfl #[.slice (some ad567) l0.length c0, .int .i64 (wrap64 (x10_1 + 1))] (by rfl) rfl rfl zq5 ?_
    with_reducible refine (rf_digit.calls _ _ l0 (wrap64 (x10_1 + 1)) t568 _ ?side1 ?side2 A9.out).mono ?_
    (case side1 => exact zc (Kd.C_below HR0.out HB.out))
    (case side2 => exact HC0.out)
    rintro e w' ⟨rfl, ⟨nd, rfl⟩⟩
    refine ⟨_, rfl, ?_⟩
    have p11 : 0 ≤ (x10_1 : Int) := zq6
    have q11 : (x10_1 : Int) < ((x3_1.length : Int) : Int) := zq6
    obtain ⟨go11, co11, eo11, gb11, gl11, cl11, HG11⟩ := Kd.R_form HO_3.out (by omega)
    (first | cases eo11 | (injection eo11 with ea_ en_ ec_; (first | subst ea_ | (injection ea_ with ea_; subst ea_)); subst ec_; clear en_))
    have GB11 := am gb11
    have GG11 := am HG11
    clear gb11 gl11 HG11
    obtain ⟨hx11_0, hf11_0⟩ := Kd.R_celln 0 HO_3.out (x10_1 : Int) p11 q11
    replace p11 := eq_true p11
    replace q11 := eq_true q11
    have HP13 := Kd.R_putn HO_3.out (x10_1 : Int) (Go.bits .or .i64 ((rd l0 x10_1) / 2) (wrap64 ((Go.bits .and .i64 t568 1) * 32768)))
    rw [← Ny569.out] at HP13
    have HQ13 := am HP13
    clear HP13
    refine hK.out _ _ (((HB.out.cell (World.block_lt_of_cell? w _ hw567_0)).trans hw567_0)) (fun hHeld => ?_)
    clear hK K
    refine nz_ (N := (some 23)) ?_
    refine pz_ (i := 11) (N := some 24) (zmf 16 [12, 13, 14, 15]) ?_
    refine pz_ (i := 12) (N := some 25) (zmf 16 [13, 14, 15]) ?_
    refine pz_ (i := 13) (N := some 26) (zmf 16 [14, 15]) ?_
    refine pz_ (i := 14) (N := some 27) (zmf 16 [15]) ?_
    refine last_ (i := 15) (N := none) (zmf 16 []) rfl rfl (one_of HT_.out (by kernel_rfl)) (by decide) (fun K hK => ?_)
    refine skip_ (w1 := ?_) (by rfl) rfl ?_ ?_
    rotate_left
    ·go_simp
     rfl
    refine hK.out _ _ ?_
    clear hK K
    refine done_ (done_of HT_.out (by kernel_rfl)) ?_
    try go_wp2
    go_roundg k1
    case measure => have := HK1.out; omega
    case rel => exact ⟨(y569), (wrap64 (x10_1 + 1)), zq8, H', ⟨by have := HK1.out; omega⟩, ⟨zq4 HQ13.out⟩, ⟨zb1 GB11.out⟩⟩
   ·rw [if_neg c6] at H
    have c6b0 := decide_eq_false c6
    clear c6
    replace H := zj H
    obtain ⟨t570, A14, H⟩ := H
    obtain rfl := Option.some.inj H
    obtain ⟨Ao15, co15, eo15⟩ := Kd.R_slice HO_3.out
    subst eo15
    go_wp2_with (first | ((with_reducible refine gate_callee (f := 96) rfl ?_); refine goesL_ (some 30) rfl rfl Tryd.func96 (by kernel_rfl) rfl #[.slice Ao15 x3_1.length co15] rfl zq5 ?_; (with_reducible refine (rf_trim.calls k1 (fun k_ => some k_ = (.slice Ao15 x3_1.length co15 : Value).ownBlock) _ _ x3_1 t570 _ ?side1 A14.out).mono ?_); (case side1 => exact Kd.R_V (Kd.R_tight rfl (HO_3.out))); rintro e w16 ⟨v571, rfl, ho0, hb⟩; refine ⟨_, rfl, ?_⟩; refine zt3 (rb HO_3 hb) (Kd.V_lower (Kd.V_mono (ok' := fun k_ => (w.heap.size ≤ k_)) ho0 (fun k_ hk_ => Or.elim hk_ (fun hs_ => ((HO_3.out).1 k_ hs_.symm)) (fun hn_ => (Nat.le_trans (below_size zq1) hn_)))) (below_size zq1)) (below_step zq1 hb) ?_; clear HO_3 HB; intro HO_3 HO572 HB))
    go_ret
    exact ⟨_, zq9, zq3 HO572.out, zq1⟩
end Go.Proofs.YtemnjgkicndmjaaDoor.Q

namespace Go.Proofs.YtemnjgkicndmjaaDoor.Q
open Go.RowKit Go.Proofs.YtemnjgkicndmjaaDoorW.PrintWords Go.Proofs.YtemnjgkicndmjaaDoorW.PrintLast Go.Proofs.YtemnjgkicndmjaaDoorW.PrintMore
attribute [local go_sem] max2_int min2_int max_two min_two max_three min_three max_four min_four
set_option linter.unusedVariables false
set_option linter.unusedSimpArgs false
mutual
def rf_GcdNat.l0 : Nat → List Int → List Int → Int → Option (List Int)
 | 0, _, _, _ => none
 | k + 1, x0, x1, x5 => (rf_bit.f x0 0).bind fun t573 => (if t573 = 0 then ((rf_bit.f x1 0).bind fun t574 => (rf_GcdNat.j1 k x0 x1 x5 (t574 == 0))) else (rf_GcdNat.j1 k x0 x1 x5 false))
def rf_GcdNat.j1 : Nat → List Int → List Int → Int → Bool → Option (List Int)
 | 0, _, _, _, _ => none
 | k + 1, x0, x1, x5, x22 => if x22 = true then ((rf_half.f k x0).bind fun t575 => ((rf_half.f k x1).bind fun t578 => (rf_GcdNat.l0 k t575 t578 (wrap64 (x5 + 1))))) else (rf_GcdNat.l1 k x0 x1 x5)
def rf_GcdNat.l1 : Nat → List Int → List Int → Int → Option (List Int)
 | 0, _, _, _ => none
 | k + 1, x0, x1, x5 => if (x0.length : Int) > 0 then (rf_GcdNat.l2 k x0 x1 x5) else ((rf_ShlNat.f k x1 x5).bind fun t581 => (some t581))
def rf_GcdNat.l2 : Nat → List Int → List Int → Int → Option (List Int)
 | 0, _, _, _ => none
 | k + 1, x0, x1, x5 => (rf_bit.f x0 0).bind fun t584 => (if t584 = 0 then ((rf_half.f k x0).bind fun t585 => (rf_GcdNat.l2 k t585 x1 x5)) else (rf_GcdNat.l3 k x0 x1 x5))
def rf_GcdNat.l3 : Nat → List Int → List Int → Int → Option (List Int)
 | 0, _, _, _ => none
 | k + 1, x0, x1, x5 => (rf_bit.f x1 0).bind fun t588 => (if t588 = 0 then ((rf_half.f k x1).bind fun t589 => (rf_GcdNat.l3 k x0 t589 x5)) else ((rf_CmpNat.f k x0 x1).bind fun t592 => (if t592 < 0 then ((rf_SubNat.f k x1 x0).bind fun t593 => (rf_GcdNat.l1 k t593 x0 x5)) else ((rf_SubNat.f k x0 x1).bind fun t596 => (rf_GcdNat.l1 k t596 x1 x5)))))
end
def rf_GcdNat.f (k : Nat) (l0 : List Int) (l1 : List Int) : Option (List Int) := if (l0.length : Int) = 0 then (some l1) else (if (l1.length : Int) = 0 then (some l0) else (rf_GcdNat.l0 k l0 l1 0))
theorem rf_GcdNat.mono_l : ∀ k, (∀ y0 y1 y2, LeO (rf_GcdNat.l0 k y0 y1 y2) (rf_GcdNat.l0 (k + 1) y0 y1 y2)) ∧ (∀ y0 y1 y2 y3, LeO (rf_GcdNat.j1 k y0 y1 y2 y3) (rf_GcdNat.j1 (k + 1) y0 y1 y2 y3)) ∧ (∀ y0 y1 y2, LeO (rf_GcdNat.l1 k y0 y1 y2) (rf_GcdNat.l1 (k + 1) y0 y1 y2)) ∧ (∀ y0 y1 y2, LeO (rf_GcdNat.l2 k y0 y1 y2) (rf_GcdNat.l2 (k + 1) y0 y1 y2)) ∧ (∀ y0 y1 y2, LeO (rf_GcdNat.l3 k y0 y1 y2) (rf_GcdNat.l3 (k + 1) y0 y1 y2))
 | 0 => ⟨fun _ _ _ r h => by simp [rf_GcdNat.l0] at h, fun _ _ _ _ r h => by simp [rf_GcdNat.j1] at h, fun _ _ _ r h => by simp [rf_GcdNat.l1] at h, fun _ _ _ r h => by simp [rf_GcdNat.l2] at h, fun _ _ _ r h => by simp [rf_GcdNat.l3] at h⟩
 | k + 1 => by
  obtain ⟨ih0, ih1, ih2, ih3, ih4⟩ := rf_GcdNat.mono_l k
  refine ⟨?_, ?_, ?_, ?_, ?_⟩
  ·intro y0 y1 y2
   unfold rf_GcdNat.l0
   repeat' first
   | (with_reducible exact ih0 _ _ _)
   | (with_reducible exact ih1 _ _ _ _)
   | (with_reducible exact ih2 _ _ _)
   | (with_reducible exact ih3 _ _ _)
   | (with_reducible exact ih4 _ _ _)
   | (with_reducible exact rf_CmpNat.mono _ _ _)
   | (with_reducible exact rf_ShlNat.mono _ _ _)
   | (with_reducible exact rf_SubNat.mono _ _ _)
   | (with_reducible exact rf_half.mono _ _)
   | (with_reducible exact LeO.refl _)
   | (with_reducible exact LeO.none _)
   | (with_reducible refine LeO.ite ?_ ?_)
   | (with_reducible refine LeO.bind ?_ (fun _ => ?_))
   | exact ih0 _ _ _
   | exact ih1 _ _ _ _
   | exact ih2 _ _ _
   | exact ih3 _ _ _
   | exact ih4 _ _ _
   | exact rf_CmpNat.mono _ _ _
   | exact rf_ShlNat.mono _ _ _
   | exact rf_SubNat.mono _ _ _
   | exact rf_half.mono _ _
   | exact LeO.none _
   | refine LeO.ite ?_ ?_
   | refine LeO.bind ?_ (fun _ => ?_)
  ·intro y0 y1 y2 y3
   unfold rf_GcdNat.j1
   repeat' first
   | (with_reducible exact ih0 _ _ _)
   | (with_reducible exact ih1 _ _ _ _)
   | (with_reducible exact ih2 _ _ _)
   | (with_reducible exact ih3 _ _ _)
   | (with_reducible exact ih4 _ _ _)
   | (with_reducible exact rf_CmpNat.mono _ _ _)
   | (with_reducible exact rf_ShlNat.mono _ _ _)
   | (with_reducible exact rf_SubNat.mono _ _ _)
   | (with_reducible exact rf_half.mono _ _)
   | (with_reducible exact LeO.refl _)
   | (with_reducible exact LeO.none _)
   | (with_reducible refine LeO.ite ?_ ?_)
   | (with_reducible refine LeO.bind ?_ (fun _ => ?_))
   | exact ih0 _ _ _
   | exact ih1 _ _ _ _
   | exact ih2 _ _ _
   | exact ih3 _ _ _
   | exact ih4 _ _ _
   | exact rf_CmpNat.mono _ _ _
   | exact rf_ShlNat.mono _ _ _
   | exact rf_SubNat.mono _ _ _
   | exact rf_half.mono _ _
   | exact LeO.none _
   | refine LeO.ite ?_ ?_
   | refine LeO.bind ?_ (fun _ => ?_)
  ·intro y0 y1 y2
   unfold rf_GcdNat.l1
   repeat' first
   | (with_reducible exact ih0 _ _ _)
   | (with_reducible exact ih1 _ _ _ _)
   | (with_reducible exact ih2 _ _ _)
   | (with_reducible exact ih3 _ _ _)
   | (with_reducible exact ih4 _ _ _)
   | (with_reducible exact rf_CmpNat.mono _ _ _)
   | (with_reducible exact rf_ShlNat.mono _ _ _)
   | (with_reducible exact rf_SubNat.mono _ _ _)
   | (with_reducible exact rf_half.mono _ _)
   | (with_reducible exact LeO.refl _)
   | (with_reducible exact LeO.none _)
   | (with_reducible refine LeO.ite ?_ ?_)
   | (with_reducible refine LeO.bind ?_ (fun _ => ?_))
   | exact ih0 _ _ _
   | exact ih1 _ _ _ _
   | exact ih2 _ _ _
   | exact ih3 _ _ _
   | exact ih4 _ _ _
   | exact rf_CmpNat.mono _ _ _
   | exact rf_ShlNat.mono _ _ _
   | exact rf_SubNat.mono _ _ _
   | exact rf_half.mono _ _
   | exact LeO.none _
   | refine LeO.ite ?_ ?_
   | refine LeO.bind ?_ (fun _ => ?_)
  ·intro y0 y1 y2
   unfold rf_GcdNat.l2
   repeat' first
   | (with_reducible exact ih0 _ _ _)
   | (with_reducible exact ih1 _ _ _ _)
   | (with_reducible exact ih2 _ _ _)
   | (with_reducible exact ih3 _ _ _)
   | (with_reducible exact ih4 _ _ _)
   | (with_reducible exact rf_CmpNat.mono _ _ _)
   | (with_reducible exact rf_ShlNat.mono _ _ _)
   | (with_reducible exact rf_SubNat.mono _ _ _)
   | (with_reducible exact rf_half.mono _ _)
   | (with_reducible exact LeO.refl _)
   | (with_reducible exact LeO.none _)
   | (with_reducible refine LeO.ite ?_ ?_)
   | (with_reducible refine LeO.bind ?_ (fun _ => ?_))
   | exact ih0 _ _ _
   | exact ih1 _ _ _ _
   | exact ih2 _ _ _
   | exact ih3 _ _ _
   | exact ih4 _ _ _
   | exact rf_CmpNat.mono _ _ _
   | exact rf_ShlNat.mono _ _ _
   | exact rf_SubNat.mono _ _ _
   | exact rf_half.mono _ _
   | exact LeO.none _
   | refine LeO.ite ?_ ?_
   | refine LeO.bind ?_ (fun _ => ?_)
  ·intro y0 y1 y2
   unfold rf_GcdNat.l3
   repeat' first
   | (with_reducible exact ih0 _ _ _)
   | (with_reducible exact ih1 _ _ _ _)
   | (with_reducible exact ih2 _ _ _)
   | (with_reducible exact ih3 _ _ _)
   | (with_reducible exact ih4 _ _ _)
   | (with_reducible exact rf_CmpNat.mono _ _ _)
   | (with_reducible exact rf_ShlNat.mono _ _ _)
   | (with_reducible exact rf_SubNat.mono _ _ _)
   | (with_reducible exact rf_half.mono _ _)
   | (with_reducible exact LeO.refl _)
   | (with_reducible exact LeO.none _)
   | (with_reducible refine LeO.ite ?_ ?_)
   | (with_reducible refine LeO.bind ?_ (fun _ => ?_))
   | exact ih0 _ _ _
   | exact ih1 _ _ _ _
   | exact ih2 _ _ _
   | exact ih3 _ _ _
   | exact ih4 _ _ _
   | exact rf_CmpNat.mono _ _ _
   | exact rf_ShlNat.mono _ _ _
   | exact rf_SubNat.mono _ _ _
   | exact rf_half.mono _ _
   | exact LeO.none _
   | refine LeO.ite ?_ ?_
   | refine LeO.bind ?_ (fun _ => ?_)
theorem rf_GcdNat.mono : ∀ a0 a1 k, LeO (rf_GcdNat.f k a0 a1) (rf_GcdNat.f (k + 1) a0 a1) := by
 intro a0 a1 k
 obtain ⟨ih0, ih1, ih2, ih3, ih4⟩ := rf_GcdNat.mono_l k
 unfold rf_GcdNat.f
 repeat' first
   | (with_reducible exact ih0 _ _ _)
   | (with_reducible exact ih1 _ _ _ _)
   | (with_reducible exact ih2 _ _ _)
   | (with_reducible exact ih3 _ _ _)
   | (with_reducible exact ih4 _ _ _)
   | (with_reducible exact rf_CmpNat.mono _ _ _)
   | (with_reducible exact rf_ShlNat.mono _ _ _)
   | (with_reducible exact rf_SubNat.mono _ _ _)
   | (with_reducible exact rf_half.mono _ _)
   | (with_reducible exact LeO.refl _)
   | (with_reducible exact LeO.none _)
   | (with_reducible refine LeO.ite ?_ ?_)
   | (with_reducible refine LeO.bind ?_ (fun _ => ?_))
   | exact ih0 _ _ _
   | exact ih1 _ _ _ _
   | exact ih2 _ _ _
   | exact ih3 _ _ _
   | exact ih4 _ _ _
   | exact rf_CmpNat.mono _ _ _
   | exact rf_ShlNat.mono _ _ _
   | exact rf_SubNat.mono _ _ _
   | exact rf_half.mono _ _
   | exact LeO.none _
   | refine LeO.ite ?_ ?_
   | refine LeO.bind ?_ (fun _ => ?_)
set_option maxHeartbeats 8000000 in
set_option maxRecDepth 100000 in
theorem rf_GcdNat.calls (k : Nat) (P0_ : Nat → Prop) (A0 : Option Addr) (c0 : Nat) (l0 : List Int) (P1_ : Nat → Prop) (A1 : Option Addr) (c1 : Nat) (l1 : List Int) (r : List Int) (w : World) (hs0 : Kd.V (Kd.int .i64) 3 w w.heap.size (fun k_ => P0_ k_) (.slice A0 l0.length c0) l0) (hs1 : Kd.V (Kd.int .i64) 3 w w.heap.size (fun k_ => P1_ k_) (.slice A1 l1.length c1) l1) (h : rf_GcdNat.f k l0 l1 = some r) :
  Calls Tryd.prog 47 #[.slice A0 l0.length c0, .slice A1 l1.length c1] w fun e w' => ∃ v0_ : Value, e = .returned (v0_) ∧ Kd.V (Kd.int .i64) 3 w' w.heap.size (fun k_ => ((P0_ k_ ∨ P1_ k_) ∨ w.heap.size ≤ k_)) v0_ r ∧ Below w.heap.size w w' := by
 have HO0 := am (show Kd.V (Kd.int .i64) 3 w w.heap.size (fun k_ => ((P0_ k_ ∨ P1_ k_) ∨ w.heap.size ≤ k_)) (.slice A0 l0.length c0) l0 from Kd.V_mono hs0 (fun k_ hk => .inl (.inl hk)))
 have HO1 := am (show Kd.V (Kd.int .i64) 3 w w.heap.size (fun k_ => ((P0_ k_ ∨ P1_ k_) ∨ w.heap.size ≤ k_)) (.slice A1 l1.length c1) l1 from Kd.V_mono hs1 (fun k_ hk => .inl (.inr hk)))
 have HB := am (Below.refl w.heap.size w)
 have H := h
 unfold rf_GcdNat.f at H
 clear h
 by_cases c3 : (l0.length : Int) = 0
 ·rw [if_pos c3] at H
  have c3b0 : ((l0.length : Int) == 0) = true := beq_iff_eq.mpr c3
  have c3b1 : ((l0.length : Int) != 0) = false := bne_eq_false_iff_eq.mpr c3
  clear c3
  obtain rfl := Option.some.inj H
  go_enter Tryd.func47, Tryd.ntmps47
  go_wp2
  go_ret
  exact ⟨_, zq9, zq3 HO1.out, zq1⟩
 ·rw [if_neg c3] at H
  have c3b0 : ((l0.length : Int) == 0) = false := beq_eq_false_iff_ne.mpr c3
  have c3b1 : ((l0.length : Int) != 0) = true := bne_iff_ne.mpr c3
  have c3b2 : ¬ (l0 = []) := fun h_ => c3 (by rw [h_]; rfl)
  by_cases c4 : (l1.length : Int) = 0
  ·rw [if_pos c4] at H
   have c4b0 : ((l1.length : Int) == 0) = true := beq_iff_eq.mpr c4
   have c4b1 : ((l1.length : Int) != 0) = false := bne_eq_false_iff_eq.mpr c4
   clear c4
   obtain rfl := Option.some.inj H
   go_enter Tryd.func47, Tryd.ntmps47
   go_wp2
   go_ret
   exact ⟨_, zq9, zq3 HO0.out, zq1⟩
  ·rw [if_neg c4] at H
   have c4b0 : ((l1.length : Int) == 0) = false := beq_eq_false_iff_ne.mpr c4
   have c4b1 : ((l1.length : Int) != 0) = true := bne_iff_ne.mpr c4
   have c4b2 : ¬ (l1 = []) := fun h_ => c4 (by rw [h_]; rfl)
   have H' := am H
   clear H
   go_enter Tryd.func47, Tryd.ntmps47
   go_wp2
   go_loopg [0, 1, 5] k (fun kq v0 v1 v5 w' => ∃ (x0_1 : List Int) (x1_1 : List Int) (x5_1 : Int), v5 = .int .i64 x5_1 ∧ Aside0 (rf_GcdNat.l0 kq x0_1 x1_1 x5_1 = some r) ∧ Aside0 (kq ≤ k) ∧ Aside0 (Kd.V (Kd.int .i64) 3 w' w.heap.size (fun k_ => ((P0_ k_ ∨ P1_ k_) ∨ w.heap.size ≤ k_)) v0 x0_1) ∧ Aside0 (Kd.V (Kd.int .i64) 3 w' w.heap.size (fun k_ => ((P0_ k_ ∨ P1_ k_) ∨ w.heap.size ≤ k_)) v1 x1_1) ∧ Aside0 (Below w.heap.size w w'))
   case atStart => exact ⟨(l0), (l1), (0), zq8, H', ⟨Nat.le_refl _⟩, ⟨zq3 HO0.out⟩, ⟨zq3 HO1.out⟩, ⟨zq1⟩⟩
   case round =>
    clear H'
    obtain ⟨x0_1, x1_1, x5_1, rfl, HA, HK1, HO_0, HO_1, HB⟩ := hrel
    cases gk with
    | zero => exact absurd HA.out (by simp [rf_GcdNat.l0])
    | succ k1 =>
     have H := HA.out
     clear HA
     simp only [rf_GcdNat.l0] at H
     have HC5 := am H
     clear H
     go_upto_region 6 with (fail)
     go_cut [22] (fun v22 wc => ∃ (kq : Nat) (x22_4 : Bool), v22 = .bool x22_4 ∧ Aside0 (rf_GcdNat.j1 kq x0_1 x1_1 x5_1 x22_4 = some r) ∧ Aside0 (kq ≤ k1) ∧ Aside0 (Kd.V (Kd.int .i64) 3 wc w.heap.size (fun k_ => ((P0_ k_ ∨ P1_ k_) ∨ w.heap.size ≤ k_)) u0 x0_1) ∧ Aside0 (Kd.V (Kd.int .i64) 3 wc w.heap.size (fun k_ => ((P0_ k_ ∨ P1_ k_) ∨ w.heap.size ≤ k_)) u1 x1_1) ∧ Aside0 (Below w.heap.size w wc))
     case first =>
      have H := HC5.out
      clear HC5
      replace H := zj H
      obtain ⟨t573, A6, H⟩ := H
      by_cases c7 : t573 = 0
      ·rw [if_pos c7] at H
       have c7b0 : (t573 == 0) = true := beq_iff_eq.mpr c7
       have c7b1 : (t573 != 0) = false := bne_eq_false_iff_eq.mpr c7
       clear c7
       (first | rw [c7b0] | (simp only [i64_w, i32_w]; rw [c7b0]) | skip)
       replace H := zj H
       obtain ⟨t574, A8, H⟩ := H
       have H' := am H
       clear H
       obtain ⟨Ao9, co9, eo9⟩ := Kd.V_slice HO_0.out
       subst eo9
       go_wp2_with (first | ((with_reducible refine gate_callee (f := 98) rfl ?_); refine goesL_ (some 16) rfl rfl Tryd.func98 (by kernel_rfl) rfl #[.slice Ao9 x0_1.length co9, .int .i64 0] rfl zq5 ?_; (with_reducible refine (rf_bit.calls _ _ x0_1 0 t573 _ ?side1 ?side2 A6.out).mono ?_); (case side1 => exact zc ((Kd.V_reads' HO_0.out).2.2)); (case side2 => exact (Kd.V_reads' HO_0.out).2.1); rintro e w' ⟨rfl, ⟨nd, rfl⟩⟩; refine ⟨_, rfl, ?_⟩; obtain ⟨Ao10, co10, eo10⟩ := Kd.V_slice HO_1.out; subst eo10) | (go_at_call 98; (with_reducible refine (rf_bit.calls _ _ x1_1 0 t574 _ ?side1 ?side2 A8.out).mono ?_); (case side1 => exact zc ((Kd.V_reads' HO_1.out).2.2)); (case side2 => exact (Kd.V_reads' HO_1.out).2.1); rintro e w' ⟨rfl, ⟨nd, rfl⟩⟩))
       go_meet
       case rel => exact ⟨_, ((t574 == 0)), zq8, H', ⟨by have := HK1.out; first | omega | exact Nat.le_refl _⟩, ⟨zq3 HO_0.out⟩, ⟨zq3 HO_1.out⟩, ⟨zq1⟩⟩
      ·rw [if_neg c7] at H
       have c7b0 : (t573 == 0) = false := beq_eq_false_iff_ne.mpr c7
       have c7b1 : (t573 != 0) = true := bne_iff_ne.mpr c7
       (first | rw [c7b0] | (simp only [i64_w, i32_w]; rw [c7b0]) | skip)
       have H' := am H
       clear H
       obtain ⟨Ao11, co11, eo11⟩ := Kd.V_slice HO_0.out
       subst eo11
       go_wp2_with (first | ((with_reducible refine gate_callee (f := 98) rfl ?_); refine goesL_ (some 16) rfl rfl Tryd.func98 (by kernel_rfl) rfl #[.slice Ao11 x0_1.length co11, .int .i64 0] rfl zq5 ?_; (with_reducible refine (rf_bit.calls _ _ x0_1 0 t573 _ ?side1 ?side2 A6.out).mono ?_); (case side1 => exact zc ((Kd.V_reads' HO_0.out).2.2)); (case side2 => exact (Kd.V_reads' HO_0.out).2.1); rintro e w' ⟨rfl, ⟨nd, rfl⟩⟩; refine ⟨_, rfl, ?_⟩))
       go_meet
       case rel => exact ⟨_, (false), zq8, H', ⟨by have := HK1.out; first | omega | exact Nat.le_refl _⟩, ⟨zq3 HO_0.out⟩, ⟨zq3 HO_1.out⟩, ⟨zq1⟩⟩
     case rest =>
      clear HC5
      obtain ⟨kq, x22_4, rfl, HA, HJ4, HO_0, HO_1, HB⟩ := hcut
      cases kq with
      | zero => exact absurd HA.out (by simp [rf_GcdNat.j1])
      | succ kj4 =>
       have H := HA.out
       clear HA
       simp only [rf_GcdNat.j1] at H
       by_cases c12 : x22_4 = true
       ·subst c12
        have H1 : ((rf_half.f kj4 x0_1).bind fun t575 => ((rf_half.f kj4 x1_1).bind fun t578 => (rf_GcdNat.l0 kj4 t575 t578 (wrap64 (x5_1 + 1))))) = some r := by rw [if_pos rfl] at H; exact H
        clear H
        have H := H1
        clear H1
        replace H := zj H
        obtain ⟨t575, A13, H⟩ := H
        replace H := zj H
        obtain ⟨t578, A14, H⟩ := H
        have H' := am H
        clear H
        obtain ⟨Ao15, co15, eo15⟩ := Kd.V_slice HO_0.out
        subst eo15
        go_wp2_with (first | ((with_reducible refine gate_callee (f := 99) rfl ?_); refine goesL_ (some 24) rfl rfl Tryd.func99 (by kernel_rfl) rfl #[.slice Ao15 x0_1.length co15] rfl zq5 ?_; (with_reducible refine (rf_half.calls kj4 _ _ x0_1 t575 _ ?side1 ?side2 A13.out).mono ?_); (case side1 => exact zc ((Kd.V_reads' HO_0.out).2.2)); (case side2 => exact (Kd.V_reads' HO_0.out).2.1); rintro e w16 ⟨v576, rfl, ho0, hb⟩; refine ⟨_, rfl, ?_⟩; refine zt4 (vb HO_0 hb) (vb HO_1 hb) (Kd.V_lower (Kd.V_mono (ok' := fun k_ => ((P0_ k_ ∨ P1_ k_) ∨ w.heap.size ≤ k_)) ho0 (fun k_ hk_ => (.inr (Nat.le_trans (below_size zq1) hk_)))) (below_size zq1)) (below_step zq1 hb) ?_; clear HO_0 HO_1 HB; intro HO_0 HO_1 HO577 HB; obtain ⟨Ao17, co17, eo17⟩ := Kd.V_slice HO_1.out; subst eo17) | ((with_reducible refine gate_callee (f := 99) rfl ?_); refine goesL_ (some 26) rfl rfl Tryd.func99 (by kernel_rfl) rfl #[.slice Ao17 x1_1.length co17] rfl zq5 ?_; (with_reducible refine (rf_half.calls kj4 _ _ x1_1 t578 _ ?side1 ?side2 A14.out).mono ?_); (case side1 => exact zc ((Kd.V_reads' HO_1.out).2.2)); (case side2 => exact (Kd.V_reads' HO_1.out).2.1); rintro e w18 ⟨v579, rfl, ho0, hb⟩; refine ⟨_, rfl, ?_⟩; refine zt5 (vb HO_0 hb) (vb HO_1 hb) (vb HO577 hb) (Kd.V_lower (Kd.V_mono (ok' := fun k_ => ((P0_ k_ ∨ P1_ k_) ∨ w.heap.size ≤ k_)) ho0 (fun k_ hk_ => (.inr (Nat.le_trans (below_size zq1) hk_)))) (below_size zq1)) (below_step zq1 hb) ?_; clear HO_0 HO_1 HO577 HB; intro HO_0 HO_1 HO577 HO580 HB))
        go_roundg kj4
        case measure => have := HK1.out; have := HJ4.out; omega
        case rel => exact ⟨(t575), (t578), (wrap64 (x5_1 + 1)), zq8, H', ⟨by have := HK1.out; have := HJ4.out; omega⟩, ⟨zq3 HO577.out⟩, ⟨zq3 HO580.out⟩, ⟨zq1⟩⟩
       ·replace c12 := Bool.eq_false_iff.mpr c12
        subst c12
        have H1 : (rf_GcdNat.l1 kj4 x0_1 x1_1 x5_1) = some r := by rw [if_neg (show ¬ (false = true) by decide)] at H; exact H
        clear H
        have H := H1
        clear H1
        have H' := am H
        clear H
        go_wp2
        go_loopg [0, 1] kj4 (fun kq v0 v1 w' => ∃ (x0_3 : List Int) (x1_3 : List Int), Aside0 (rf_GcdNat.l1 kq x0_3 x1_3 x5_1 = some r) ∧ Aside0 (kq ≤ kj4) ∧ Aside0 (Kd.V (Kd.int .i64) 3 w' w.heap.size (fun k_ => ((P0_ k_ ∨ P1_ k_) ∨ w.heap.size ≤ k_)) v0 x0_3) ∧ Aside0 (Kd.V (Kd.int .i64) 3 w' w.heap.size (fun k_ => ((P0_ k_ ∨ P1_ k_) ∨ w.heap.size ≤ k_)) v1 x1_3) ∧ Aside0 (Below w.heap.size w w'))
        case atStart => exact ⟨(x0_1), (x1_1), H', ⟨Nat.le_refl _⟩, ⟨zq3 HO_0.out⟩, ⟨zq3 HO_1.out⟩, ⟨zq1⟩⟩
        case round =>
         clear H'
         obtain ⟨x0_3, x1_3, HA, HK3, HO_0, HO_1, HB⟩ := hrel
         cases gk with
         | zero => exact absurd HA.out (by simp [rf_GcdNat.l1])
         | succ k3 =>
          have H := HA.out
          clear HA
          simp only [rf_GcdNat.l1] at H
          by_cases c19 : (x0_3.length : Int) > 0
          ·rw [if_pos c19] at H
           have c19b0 : decide (0 < (x0_3.length : Int)) = true := decide_eq_true c19
           have c19b1 : decide (0 < x0_3.length) = true := decide_eq_true (by omega)
           clear c19
           have H' := am H
           clear H
           obtain ⟨Ao20, co20, eo20⟩ := Kd.V_slice HO_0.out
           subst eo20
           go_wp2
           go_loopg [0] k3 (fun kq v0 w' => ∃ (x0_4 : List Int), Aside0 (rf_GcdNat.l2 kq x0_4 x1_3 x5_1 = some r) ∧ Aside0 (kq ≤ k3) ∧ Aside0 (Kd.V (Kd.int .i64) 3 w' w.heap.size (fun k_ => ((P0_ k_ ∨ P1_ k_) ∨ w.heap.size ≤ k_)) v0 x0_4) ∧ Aside0 (Kd.V (Kd.int .i64) 3 w' w.heap.size (fun k_ => ((P0_ k_ ∨ P1_ k_) ∨ w.heap.size ≤ k_)) u1 x1_3) ∧ Aside0 (Below w.heap.size w w'))
           case atStart => exact ⟨(x0_3), H', ⟨Nat.le_refl _⟩, ⟨zq3 HO_0.out⟩, ⟨zq3 HO_1.out⟩, ⟨zq1⟩⟩
           case round =>
            clear H'
            obtain ⟨x0_4, HA, HK4, HO_0, HO_1, HB⟩ := hrel
            cases gk with
            | zero => exact absurd HA.out (by simp [rf_GcdNat.l2])
            | succ k4 =>
             have H := HA.out
             clear HA
             simp only [rf_GcdNat.l2] at H
             replace H := zj H
             obtain ⟨t584, A21, H⟩ := H
             by_cases c22 : t584 = 0
             ·rw [if_pos c22] at H
              have c22b0 : (t584 == 0) = true := beq_iff_eq.mpr c22
              have c22b1 : (t584 != 0) = false := bne_eq_false_iff_eq.mpr c22
              clear c22
              replace H := zj H
              obtain ⟨t585, A23, H⟩ := H
              have H' := am H
              clear H
              obtain ⟨Ao24, co24, eo24⟩ := Kd.V_slice HO_0.out
              subst eo24
              go_wp2_with (first | ((with_reducible refine gate_callee (f := 98) rfl ?_); refine goesL_ (some 33) rfl rfl Tryd.func98 (by kernel_rfl) rfl #[.slice Ao24 x0_4.length co24, .int .i64 0] rfl zq5 ?_; (with_reducible refine (rf_bit.calls _ _ x0_4 0 t584 _ ?side1 ?side2 A21.out).mono ?_); (case side1 => exact zc ((Kd.V_reads' HO_0.out).2.2)); (case side2 => exact (Kd.V_reads' HO_0.out).2.1); rintro e w' ⟨rfl, ⟨nd, rfl⟩⟩; refine ⟨_, rfl, ?_⟩) | ((with_reducible refine gate_callee (f := 99) rfl ?_); refine goesL_ (some 36) rfl rfl Tryd.func99 (by kernel_rfl) rfl #[.slice Ao24 x0_4.length co24] rfl zq5 ?_; (with_reducible refine (rf_half.calls k4 _ _ x0_4 t585 _ ?side1 ?side2 A23.out).mono ?_); (case side1 => exact zc ((Kd.V_reads' HO_0.out).2.2)); (case side2 => exact (Kd.V_reads' HO_0.out).2.1); rintro e w25 ⟨v586, rfl, ho0, hb⟩; refine ⟨_, rfl, ?_⟩; refine zt4 (vb HO_0 hb) (vb HO_1 hb) (Kd.V_lower (Kd.V_mono (ok' := fun k_ => ((P0_ k_ ∨ P1_ k_) ∨ w.heap.size ≤ k_)) ho0 (fun k_ hk_ => (.inr (Nat.le_trans (below_size zq1) hk_)))) (below_size zq1)) (below_step zq1 hb) ?_; clear HO_0 HO_1 HB; intro HO_0 HO_1 HO587 HB))
              go_roundg k4
              case measure => have := HK1.out; have := HJ4.out; have := HK3.out; have := HK4.out; omega
              case rel => exact ⟨(t585), H', ⟨by have := HK1.out; have := HJ4.out; have := HK3.out; have := HK4.out; omega⟩, ⟨zq3 HO587.out⟩, ⟨zq3 HO_1.out⟩, ⟨zq1⟩⟩
             ·rw [if_neg c22] at H
              have c22b0 : (t584 == 0) = false := beq_eq_false_iff_ne.mpr c22
              have c22b1 : (t584 != 0) = true := bne_iff_ne.mpr c22
              have H' := am H
              clear H
              obtain ⟨Ao26, co26, eo26⟩ := Kd.V_slice HO_0.out
              subst eo26
              go_wp2_with (first | ((with_reducible refine gate_callee (f := 98) rfl ?_); refine goesL_ (some 33) rfl rfl Tryd.func98 (by kernel_rfl) rfl #[.slice Ao26 x0_4.length co26, .int .i64 0] rfl zq5 ?_; (with_reducible refine (rf_bit.calls _ _ x0_4 0 t584 _ ?side1 ?side2 A21.out).mono ?_); (case side1 => exact zc ((Kd.V_reads' HO_0.out).2.2)); (case side2 => exact (Kd.V_reads' HO_0.out).2.1); rintro e w' ⟨rfl, ⟨nd, rfl⟩⟩; refine ⟨_, rfl, ?_⟩))
              go_loopg [1] k4 (fun kq v1 w' => ∃ (x1_5 : List Int), Aside0 (rf_GcdNat.l3 kq x0_4 x1_5 x5_1 = some r) ∧ Aside0 (kq ≤ k4) ∧ Aside0 (Kd.V (Kd.int .i64) 3 w' w.heap.size (fun k_ => ((P0_ k_ ∨ P1_ k_) ∨ w.heap.size ≤ k_)) (.slice Ao26 x0_4.length co26) x0_4) ∧ Aside0 (Kd.V (Kd.int .i64) 3 w' w.heap.size (fun k_ => ((P0_ k_ ∨ P1_ k_) ∨ w.heap.size ≤ k_)) v1 x1_5) ∧ Aside0 (Below w.heap.size w w'))
              case atStart => exact ⟨(x1_3), H', ⟨Nat.le_refl _⟩, ⟨zq3 HO_0.out⟩, ⟨zq3 HO_1.out⟩, ⟨zq1⟩⟩
              case round =>
               clear H'
               obtain ⟨x1_5, HA, HK5, HO_0, HO_1, HB⟩ := hrel
               cases gk with
               | zero => exact absurd HA.out (by simp [rf_GcdNat.l3])
               | succ k5 =>
                have H := HA.out
                clear HA
                simp only [rf_GcdNat.l3] at H
                replace H := zj H
                obtain ⟨t588, A27, H⟩ := H
                by_cases c28 : t588 = 0
                ·rw [if_pos c28] at H
                 have c28b0 : (t588 == 0) = true := beq_iff_eq.mpr c28
                 have c28b1 : (t588 != 0) = false := bne_eq_false_iff_eq.mpr c28
                 clear c28
                 replace H := zj H
                 obtain ⟨t589, A29, H⟩ := H
                 have H' := am H
                 clear H
                 obtain ⟨Ao30, co30, eo30⟩ := Kd.V_slice HO_1.out
                 subst eo30
                 go_wp2_with (first | ((with_reducible refine gate_callee (f := 98) rfl ?_); refine goesL_ (some 38) rfl rfl Tryd.func98 (by kernel_rfl) rfl #[.slice Ao30 x1_5.length co30, .int .i64 0] rfl zq5 ?_; (with_reducible refine (rf_bit.calls _ _ x1_5 0 t588 _ ?side1 ?side2 A27.out).mono ?_); (case side1 => exact zc ((Kd.V_reads' HO_1.out).2.2)); (case side2 => exact (Kd.V_reads' HO_1.out).2.1); rintro e w' ⟨rfl, ⟨nd, rfl⟩⟩; refine ⟨_, rfl, ?_⟩) | ((with_reducible refine gate_callee (f := 99) rfl ?_); refine goesL_ (some 41) rfl rfl Tryd.func99 (by kernel_rfl) rfl #[.slice Ao30 x1_5.length co30] rfl zq5 ?_; (with_reducible refine (rf_half.calls k5 _ _ x1_5 t589 _ ?side1 ?side2 A29.out).mono ?_); (case side1 => exact zc ((Kd.V_reads' HO_1.out).2.2)); (case side2 => exact (Kd.V_reads' HO_1.out).2.1); rintro e w31 ⟨v590, rfl, ho0, hb⟩; refine ⟨_, rfl, ?_⟩; refine zt4 (vb HO_0 hb) (vb HO_1 hb) (Kd.V_lower (Kd.V_mono (ok' := fun k_ => ((P0_ k_ ∨ P1_ k_) ∨ w.heap.size ≤ k_)) ho0 (fun k_ hk_ => (.inr (Nat.le_trans (below_size zq1) hk_)))) (below_size zq1)) (below_step zq1 hb) ?_; clear HO_0 HO_1 HB; intro HO_0 HO_1 HO591 HB))
                 go_roundg k5
                 case measure => have := HK1.out; have := HJ4.out; have := HK3.out; have := HK4.out; have := HK5.out; omega
                 case rel => exact ⟨(t589), H', ⟨by have := HK1.out; have := HJ4.out; have := HK3.out; have := HK4.out; have := HK5.out; omega⟩, ⟨zq3 HO_0.out⟩, ⟨zq3 HO591.out⟩, ⟨zq1⟩⟩
                ·rw [if_neg c28] at H
                 have c28b0 : (t588 == 0) = false := beq_eq_false_iff_ne.mpr c28
                 have c28b1 : (t588 != 0) = true := bne_iff_ne.mpr c28
                 replace H := zj H
                 obtain ⟨t592, A32, H⟩ := H
                 by_cases c33 : t592 < 0
                 ·rw [if_pos c33] at H
                  have c33b0 := decide_eq_true c33
                  clear c33
                  replace H := zj H
                  obtain ⟨t593, A34, H⟩ := H
                  have H' := am H
                  clear H
                  obtain ⟨Ao35, co35, eo35⟩ := Kd.V_slice HO_1.out
                  subst eo35
                  go_wp2_with (first | ((with_reducible refine gate_callee (f := 98) rfl ?_); refine goesL_ (some 38) rfl rfl Tryd.func98 (by kernel_rfl) rfl #[.slice Ao35 x1_5.length co35, .int .i64 0] rfl zq5 ?_; (with_reducible refine (rf_bit.calls _ _ x1_5 0 t588 _ ?side1 ?side2 A27.out).mono ?_); (case side1 => exact zc ((Kd.V_reads' HO_1.out).2.2)); (case side2 => exact (Kd.V_reads' HO_1.out).2.1); rintro e w' ⟨rfl, ⟨nd, rfl⟩⟩; refine ⟨_, rfl, ?_⟩) | ((with_reducible refine gate_callee (f := 46) rfl ?_); refine goesL_ (some 44) rfl rfl Tryd.func46 (by kernel_rfl) rfl #[.slice Ao26 x0_4.length co26, .slice Ao35 x1_5.length co35] rfl zq5 ?_; (with_reducible refine (rf_CmpNat.calls k5 _ _ x0_4 _ _ x1_5 t592 _ ?side1 ?side2 ?side3 ?side4 A32.out).mono ?_); (case side1 => exact zc ((Kd.V_reads' HO_0.out).2.2)); (case side2 => exact (Kd.V_reads' HO_0.out).2.1); (case side3 => exact zc ((Kd.V_reads' HO_1.out).2.2)); (case side4 => exact (Kd.V_reads' HO_1.out).2.1); rintro e w36 ⟨rfl, hb⟩; refine ⟨_, rfl, ?_⟩; refine zt3 (vb HO_0 hb) (vb HO_1 hb) (below_step zq1 hb) ?_; clear HO_0 HO_1 HB; intro HO_0 HO_1 HB; (try clear hb); (try clear hb2); (try clear hk); (try clear hi)) | ((with_reducible refine gate_callee (f := 83) rfl ?_); refine goesL_ (some 51) rfl rfl Tryd.func83 (by kernel_rfl) rfl #[.slice Ao35 x1_5.length co35, .slice Ao26 x0_4.length co26] rfl zq5 ?_; (with_reducible refine (rf_SubNat.calls k5 _ _ x1_5 _ _ x0_4 t593 _ ?side1 ?side2 ?side3 ?side4 A34.out).mono ?_); (case side1 => exact zc ((Kd.V_reads' HO_1.out).2.2)); (case side2 => exact (Kd.V_reads' HO_1.out).2.1); (case side3 => exact zc ((Kd.V_reads' HO_0.out).2.2)); (case side4 => exact (Kd.V_reads' HO_0.out).2.1); rintro e w37 ⟨v594, rfl, ho0, hb⟩; refine ⟨_, rfl, ?_⟩; refine zt4 (vb HO_0 hb) (vb HO_1 hb) (Kd.V_lower (Kd.V_mono (ok' := fun k_ => ((P0_ k_ ∨ P1_ k_) ∨ w.heap.size ≤ k_)) ho0 (fun k_ hk_ => (.inr (Nat.le_trans (below_size zq1) hk_)))) (below_size zq1)) (below_step zq1 hb) ?_; clear HO_0 HO_1 HB; intro HO_0 HO_1 HO595 HB))
                  go_roundg k5
                  case measure => have := HK1.out; have := HJ4.out; have := HK3.out; have := HK4.out; have := HK5.out; omega
                  case rel => exact ⟨(t593), (x0_4), H', ⟨by have := HK1.out; have := HJ4.out; have := HK3.out; have := HK4.out; have := HK5.out; omega⟩, ⟨zq3 HO595.out⟩, ⟨zq3 HO_0.out⟩, ⟨zq1⟩⟩
                 ·rw [if_neg c33] at H
                  have c33b0 := decide_eq_false c33
                  clear c33
                  replace H := zj H
                  obtain ⟨t596, A38, H⟩ := H
                  have H' := am H
                  clear H
                  obtain ⟨Ao39, co39, eo39⟩ := Kd.V_slice HO_1.out
                  subst eo39
                  go_wp2_with (first | ((with_reducible refine gate_callee (f := 98) rfl ?_); refine goesL_ (some 38) rfl rfl Tryd.func98 (by kernel_rfl) rfl #[.slice Ao39 x1_5.length co39, .int .i64 0] rfl zq5 ?_; (with_reducible refine (rf_bit.calls _ _ x1_5 0 t588 _ ?side1 ?side2 A27.out).mono ?_); (case side1 => exact zc ((Kd.V_reads' HO_1.out).2.2)); (case side2 => exact (Kd.V_reads' HO_1.out).2.1); rintro e w' ⟨rfl, ⟨nd, rfl⟩⟩; refine ⟨_, rfl, ?_⟩) | ((with_reducible refine gate_callee (f := 46) rfl ?_); refine goesL_ (some 44) rfl rfl Tryd.func46 (by kernel_rfl) rfl #[.slice Ao26 x0_4.length co26, .slice Ao39 x1_5.length co39] rfl zq5 ?_; (with_reducible refine (rf_CmpNat.calls k5 _ _ x0_4 _ _ x1_5 t592 _ ?side1 ?side2 ?side3 ?side4 A32.out).mono ?_); (case side1 => exact zc ((Kd.V_reads' HO_0.out).2.2)); (case side2 => exact (Kd.V_reads' HO_0.out).2.1); (case side3 => exact zc ((Kd.V_reads' HO_1.out).2.2)); (case side4 => exact (Kd.V_reads' HO_1.out).2.1); rintro e w40 ⟨rfl, hb⟩; refine ⟨_, rfl, ?_⟩; refine zt3 (vb HO_0 hb) (vb HO_1 hb) (below_step zq1 hb) ?_; clear HO_0 HO_1 HB; intro HO_0 HO_1 HB; (try clear hb); (try clear hb2); (try clear hk); (try clear hi)) | ((with_reducible refine gate_callee (f := 83) rfl ?_); refine goesL_ (some 51) rfl rfl Tryd.func83 (by kernel_rfl) rfl #[.slice Ao26 x0_4.length co26, .slice Ao39 x1_5.length co39] rfl zq5 ?_; (with_reducible refine (rf_SubNat.calls k5 _ _ x0_4 _ _ x1_5 t596 _ ?side1 ?side2 ?side3 ?side4 A38.out).mono ?_); (case side1 => exact zc ((Kd.V_reads' HO_0.out).2.2)); (case side2 => exact (Kd.V_reads' HO_0.out).2.1); (case side3 => exact zc ((Kd.V_reads' HO_1.out).2.2)); (case side4 => exact (Kd.V_reads' HO_1.out).2.1); rintro e w41 ⟨v597, rfl, ho0, hb⟩; refine ⟨_, rfl, ?_⟩; refine zt4 (vb HO_0 hb) (vb HO_1 hb) (Kd.V_lower (Kd.V_mono (ok' := fun k_ => ((P0_ k_ ∨ P1_ k_) ∨ w.heap.size ≤ k_)) ho0 (fun k_ hk_ => (.inr (Nat.le_trans (below_size zq1) hk_)))) (below_size zq1)) (below_step zq1 hb) ?_; clear HO_0 HO_1 HB; intro HO_0 HO_1 HO598 HB))
                  go_roundg k5
                  case measure => have := HK1.out; have := HJ4.out; have := HK3.out; have := HK4.out; have := HK5.out; omega
                  case rel => exact ⟨(t596), (x1_5), H', ⟨by have := HK1.out; have := HJ4.out; have := HK3.out; have := HK4.out; have := HK5.out; omega⟩, ⟨zq3 HO598.out⟩, ⟨zq3 HO_1.out⟩, ⟨zq1⟩⟩
          ·rw [if_neg c19] at H
           have c19b0 : decide (0 < (x0_3.length : Int)) = false := decide_eq_false c19
           have c19b1 : decide (0 < x0_3.length) = false := decide_eq_false (by omega)
           clear c19
           replace H := zj H
           obtain ⟨t581, A42, H⟩ := H
           obtain rfl := Option.some.inj H
           obtain ⟨Ao43, co43, eo43⟩ := Kd.V_slice HO_0.out
           subst eo43
           obtain ⟨Ao44, co44, eo44⟩ := Kd.V_slice HO_1.out
           subst eo44
           go_wp2_with (first | ((with_reducible refine gate_callee (f := 82) rfl ?_); refine goesL_ (some 54) rfl rfl Tryd.func82 (by kernel_rfl) rfl #[.slice Ao44 x1_3.length co44, .int .i64 x5_1] rfl zq5 ?_; (with_reducible refine (rf_ShlNat.calls k3 _ _ x1_3 x5_1 t581 _ ?side1 ?side2 A42.out).mono ?_); (case side1 => exact zc ((Kd.V_reads' HO_1.out).2.2)); (case side2 => exact (Kd.V_reads' HO_1.out).2.1); rintro e w45 ⟨v582, rfl, ho0, hb⟩; refine ⟨_, rfl, ?_⟩; refine zt4 (vb HO_0 hb) (vb HO_1 hb) (Kd.V_lower (Kd.V_mono (ok' := fun k_ => ((P0_ k_ ∨ P1_ k_) ∨ w.heap.size ≤ k_)) ho0 (fun k_ hk_ => (.inr (Nat.le_trans (below_size zq1) hk_)))) (below_size zq1)) (below_step zq1 hb) ?_; clear HO_0 HO_1 HB; intro HO_0 HO_1 HO583 HB))
           go_ret
           exact ⟨_, zq9, zq3 HO583.out, zq1⟩
mutual
def rf_Fault.j0 : Nat → Bool → Bool → List Int → List Int → Option (Int)
 | 0, _, _, _, _ => none
 | k + 1, x14, x600000, x600001, x600002 => if x14 = true then (some 3) else (if (x600002.length : Int) = 0 then (rf_Fault.j1 k true x600000 x600001 x600002) else (if 0 ≤ (wrap64 ((x600002.length : Int) - 1)) then (if (wrap64 ((x600002.length : Int) - 1)) < (x600002.length : Int) then (if (rd x600002 (wrap64 ((x600002.length : Int) - 1))) = 0 then (rf_Fault.j1 k true x600000 x600001 x600002) else (if (x600001.length : Int) > 0 then (if 0 ≤ (wrap64 ((x600001.length : Int) - 1)) then (if (wrap64 ((x600001.length : Int) - 1)) < (x600001.length : Int) then (rf_Fault.j1 k ((rd x600001 (wrap64 ((x600001.length : Int) - 1))) == 0) x600000 x600001 x600002) else (none)) else (none)) else (rf_Fault.j1 k false x600000 x600001 x600002))) else (none)) else (none)))
def rf_Fault.j1 : Nat → Bool → Bool → List Int → List Int → Option (Int)
 | 0, _, _, _, _ => none
 | k + 1, x46, x600000, x600001, x600002 => if x46 = true then (some 2) else ((rf_natOf.f k x600001).bind fun t602 => ((rf_natOf.f k x600002).bind fun t605 => (if (t602.length : Int) = 0 then (if x600000 = true then (rf_Fault.j2 k t602 t605 true) else ((rf_CmpNat.f k t605 (([1] : List Int))).bind fun t611 => (rf_Fault.j2 k t602 t605 (t611 != 0)))) else (rf_Fault.j2 k t602 t605 false))))
def rf_Fault.j2 : Nat → List Int → List Int → Bool → Option (Int)
 | 0, _, _, _ => none
 | k + 1, x3, x4, x65 => if x65 = true then (some 2) else ((rf_GcdNat.f k x3 x4).bind fun t612 => ((rf_CmpNat.f k t612 (([1] : List Int))).bind fun t618 => (if t618 = 0 then (some 0) else (some 2))))
end
def rf_Fault.f (k : Nat) (a0_0 : Bool) (l0_1 : List Int) (l0_2 : List Int) : Option (Int) := if (l0_1.length : Int) > 128 then (rf_Fault.j0 k true a0_0 l0_1 l0_2) else (rf_Fault.j0 k (decide ((l0_2.length : Int) > 128)) a0_0 l0_1 l0_2)
theorem rf_Fault.mono_l : ∀ k, (∀ y0 y1 y2 y3, LeO (rf_Fault.j0 k y0 y1 y2 y3) (rf_Fault.j0 (k + 1) y0 y1 y2 y3)) ∧ (∀ y0 y1 y2 y3, LeO (rf_Fault.j1 k y0 y1 y2 y3) (rf_Fault.j1 (k + 1) y0 y1 y2 y3)) ∧ (∀ y0 y1 y2, LeO (rf_Fault.j2 k y0 y1 y2) (rf_Fault.j2 (k + 1) y0 y1 y2))
 | 0 => ⟨fun _ _ _ _ r h => by simp [rf_Fault.j0] at h, fun _ _ _ _ r h => by simp [rf_Fault.j1] at h, fun _ _ _ r h => by simp [rf_Fault.j2] at h⟩
 | k + 1 => by
  obtain ⟨ih0, ih1, ih2⟩ := rf_Fault.mono_l k
  refine ⟨?_, ?_, ?_⟩
  ·intro y0 y1 y2 y3
   unfold rf_Fault.j0
   have m0 := ih0
   have m1 := ih1
   have m2 := ih2
   have m3 := @rf_CmpNat.mono
   have m4 := @rf_GcdNat.mono
   have m5 := @rf_natOf.mono
   exact zm
  ·intro y0 y1 y2 y3
   unfold rf_Fault.j1
   have m0 := ih0
   have m1 := ih1
   have m2 := ih2
   have m3 := @rf_CmpNat.mono
   have m4 := @rf_GcdNat.mono
   have m5 := @rf_natOf.mono
   exact zm
  ·intro y0 y1 y2
   unfold rf_Fault.j2
   have m0 := ih0
   have m1 := ih1
   have m2 := ih2
   have m3 := @rf_CmpNat.mono
   have m4 := @rf_GcdNat.mono
   have m5 := @rf_natOf.mono
   exact zm
theorem rf_Fault.mono : ∀ a0 a1 a2 k, LeO (rf_Fault.f k a0 a1 a2) (rf_Fault.f (k + 1) a0 a1 a2) := by
 intro a0 a1 a2 k
 obtain ⟨ih0, ih1, ih2⟩ := rf_Fault.mono_l k
 unfold rf_Fault.f
 have m0 := ih0
 have m1 := ih1
 have m2 := ih2
 have m3 := @rf_CmpNat.mono
 have m4 := @rf_GcdNat.mono
 have m5 := @rf_natOf.mono
 exact zm
def rf_Fault.T5 : Bool × List (List Nat × List Nat) := (true, [([], []), ([0], [0]), ([1], [1]), ([], []), ([3], [3]), ([4, 2], [4]), ([2, 5, 0, 1, 2], [2]), ([5, 6, 0, 1, 2, 3, 4, 5, 6], [5])])
def rf_Fault.B5 : List Nat := [0, 1, 3, 0, 8, 31, 63, 127]
theorem rf_Fault.tab5 : rtab .any (opsOf Tryd.f15 5) = rf_Fault.T5 := by kernel_rfl
theorem rf_Fault.bits5 : waitsOk rf_Fault.T5.2 rf_Fault.B5 = true := by kernel_rfl
set_option maxHeartbeats 8000000 in
set_option maxRecDepth 100000 in
theorem rf_Fault.calls (k : Nat) (a0_0 : Bool) (A0_1 : Option Addr) (c0_1 : Nat) (l0_1 : List Int) (A0_2 : Option Addr) (c0_2 : Nat) (l0_2 : List Int) (r : Int) (w : World) (hr0_1 : Kd.C (Kd.int .u32) w A0_1 l0_1.length l0_1) (hc0_1 : l0_1.length ≤ c0_1) (hr0_2 : Kd.C (Kd.int .u32) w A0_2 l0_2.length l0_2) (hc0_2 : l0_2.length ≤ c0_2) (h : rf_Fault.f k a0_0 l0_1 l0_2 = some r) :
  Calls Tryd.prog 15 #[.agg #[.bool a0_0, .slice A0_1 l0_1.length c0_1, .slice A0_2 l0_2.length c0_2]] w fun e w' => e = .returned (.int .i64 r) ∧ Below w.heap.size w w' := by
 have hu24 := Tryd.underlying24
 have HR0_1 := am hr0_1
 have HC0_1 := am hc0_1
 clear hr0_1 hc0_1
 have HR0_2 := am hr0_2
 have HC0_2 := am hc0_2
 clear hr0_2 hc0_2
 have HB := am (Below.refl w.heap.size w)
 have H := h
 unfold rf_Fault.f at H
 clear h
 have HC2 := am H
 clear H
 go_enter Tryd.func15, Tryd.ntmps15
 go_upto_region 1 with (first | ((with_reducible refine gate_dst (N := 1) rfl ?_); (try (refine gate_guard (by rfl) ?_; dsimp only)); refine zbox (N := 1) (cs := #[.bool a0_0, .slice A0_1 l0_1.length c0_1, .slice A0_2 l0_2.length c0_2]) (t := 24) ?_; intro gb599 hg w3 hbox hb; refine zt3 (below_step zq1 hb) (hbox) ((zs hg (below_size zq1) : w.heap.size ≤ gb599)) ?_; clear HB; intro HB BK599 GW599; have GE599 := GW599; clear hb hbox hg))
 (try simp only [Act.put, List.setIfInBounds_toArray, List.set_cons_zero, List.set_cons_succ])
 go_cut [14] (fun v14 wc => ∃ (kq : Nat) (x14_1 : Bool), v14 = .bool x14_1 ∧ Aside0 (rf_Fault.j0 kq x14_1 a0_0 l0_1 l0_2 = some r) ∧ Aside0 (kq ≤ k) ∧ Aside0 (wc.heap[gb599]? = some (.cells #[.bool a0_0, (.slice A0_1 l0_1.length c0_1), (.slice A0_2 l0_2.length c0_2)] 24 (0, 0))) ∧ Aside0 (Below w.heap.size w wc))
 case first =>
  have H := HC2.out
  clear HC2
  by_cases c4 : (l0_1.length : Int) > 128
  ·rw [if_pos c4] at H
   have c4b0 : decide (128 < (l0_1.length : Int)) = true := decide_eq_true c4
   have c4b1 : decide (128 < l0_1.length) = true := decide_eq_true (by omega)
   clear c4
   (first | rw [c4b0] | (simp only [i64_w, i32_w]; rw [c4b0]) | skip)
   have H' := am H
   clear H
   have hcz5_0 := bc BK599.out 0 (.bool a0_0)
   have hcz5_1 := bc BK599.out 1 (.slice A0_1 l0_1.length c0_1)
   have hcz5_2 := bc BK599.out 2 (.slice A0_2 l0_2.length c0_2)
   have hfz5_0 := blk_frozen BK599.out 0
   have hfz5_1 := blk_frozen BK599.out 1
   have hfz5_2 := blk_frozen BK599.out 2
   go_wp2
   go_meet
   case rel => exact ⟨_, (true), zq8, H', ⟨by first | omega | exact Nat.le_refl _⟩, ⟨zq2 BK599.out⟩, ⟨zb1 GE599.out⟩⟩
  ·rw [if_neg c4] at H
   have c4b0 : decide (128 < (l0_1.length : Int)) = false := decide_eq_false c4
   have c4b1 : decide (128 < l0_1.length) = false := decide_eq_false (by omega)
   clear c4
   (first | rw [c4b0] | (simp only [i64_w, i32_w]; rw [c4b0]) | skip)
   have H' := am H
   clear H
   have hcz6_0 := bc BK599.out 0 (.bool a0_0)
   have hcz6_1 := bc BK599.out 1 (.slice A0_1 l0_1.length c0_1)
   have hcz6_2 := bc BK599.out 2 (.slice A0_2 l0_2.length c0_2)
   have hfz6_0 := blk_frozen BK599.out 0
   have hfz6_1 := blk_frozen BK599.out 1
   have hfz6_2 := blk_frozen BK599.out 2
   go_wp2
   go_meet
   case rel => exact ⟨_, (decide ((l0_2.length : Int) > 128)), zq8, H', ⟨by first | omega | exact Nat.le_refl _⟩, ⟨zq2 BK599.out⟩, ⟨zb1 GE599.out⟩⟩
 case rest =>
  clear HC2
  obtain ⟨kq, x14_1, rfl, HA, HJ1, BK599, HB⟩ := hcut
  cases kq with
  | zero => exact absurd HA.out (by simp [rf_Fault.j0])
  | succ kj1 =>
   have H := HA.out
   clear HA
   simp only [rf_Fault.j0] at H
   by_cases c7 : x14_1 = true
   ·subst c7
    have H1 : (some 3) = some r := by rw [if_pos rfl] at H; exact H
    clear H
    have H := H1
    clear H1
    obtain rfl := Option.some.inj H
    go_wp2
    go_ret
    exact ⟨zq9, zb1 GE599.out⟩
   ·replace c7 := Bool.eq_false_iff.mpr c7
    subst c7
    have H1 : (if (l0_2.length : Int) = 0 then (rf_Fault.j1 kj1 true a0_0 l0_1 l0_2) else (if 0 ≤ (wrap64 ((l0_2.length : Int) - 1)) then (if (wrap64 ((l0_2.length : Int) - 1)) < (l0_2.length : Int) then (if (rd l0_2 (wrap64 ((l0_2.length : Int) - 1))) = 0 then (rf_Fault.j1 kj1 true a0_0 l0_1 l0_2) else (if (l0_1.length : Int) > 0 then (if 0 ≤ (wrap64 ((l0_1.length : Int) - 1)) then (if (wrap64 ((l0_1.length : Int) - 1)) < (l0_1.length : Int) then (rf_Fault.j1 kj1 ((rd l0_1 (wrap64 ((l0_1.length : Int) - 1))) == 0) a0_0 l0_1 l0_2) else (none)) else (none)) else (rf_Fault.j1 kj1 false a0_0 l0_1 l0_2))) else (none)) else (none))) = some r := by rw [if_neg (show ¬ (false = true) by decide)] at H; exact H
    clear H
    have H := H1
    clear H1
    have HC8 := am H
    clear H
    go_upto_region 3 with (fail)
    go_cut [46] (fun v46 wc => ∃ (kq : Nat) (x46_7 : Bool), v46 = .bool x46_7 ∧ Aside0 (rf_Fault.j1 kq x46_7 a0_0 l0_1 l0_2 = some r) ∧ Aside0 (kq ≤ kj1) ∧ Aside0 (wc.heap[gb599]? = some (.cells #[.bool a0_0, (.slice A0_1 l0_1.length c0_1), (.slice A0_2 l0_2.length c0_2)] 24 (0, 0))) ∧ Aside0 (Below w.heap.size w wc))
    case first =>
     have H := HC8.out
     clear HC8
     by_cases c9 : (l0_2.length : Int) = 0
     ·rw [if_pos c9] at H
      have c9b0 : ((l0_2.length : Int) == 0) = true := beq_iff_eq.mpr c9
      have c9b1 : ((l0_2.length : Int) != 0) = false := bne_eq_false_iff_eq.mpr c9
      clear c9
      (first | rw [c9b0] | (simp only [i64_w, i32_w]; rw [c9b0]) | skip)
      have H' := am H
      clear H
      have hcz10_0 := bc BK599.out 0 (.bool a0_0)
      have hcz10_1 := bc BK599.out 1 (.slice A0_1 l0_1.length c0_1)
      have hcz10_2 := bc BK599.out 2 (.slice A0_2 l0_2.length c0_2)
      have hfz10_0 := blk_frozen BK599.out 0
      have hfz10_1 := blk_frozen BK599.out 1
      have hfz10_2 := blk_frozen BK599.out 2
      go_wp2
      go_meet
      case rel => exact ⟨_, (true), zq8, H', ⟨by have := HJ1.out; first | omega | exact Nat.le_refl _⟩, ⟨zq2 BK599.out⟩, ⟨zb1 GE599.out⟩⟩
     ·rw [if_neg c9] at H
      have c9b0 : ((l0_2.length : Int) == 0) = false := beq_eq_false_iff_ne.mpr c9
      have c9b1 : ((l0_2.length : Int) != 0) = true := bne_iff_ne.mpr c9
      have c9b2 : ¬ (l0_2 = []) := fun h_ => c9 (by rw [h_]; rfl)
      (first | rw [c9b0] | (simp only [i64_w, i32_w]; rw [c9b0]) | skip)
      obtain ⟨ji11, hji11⟩ : ∃ j_ : Int, (wrap64 ((l0_2.length : Int) - 1)) = j_ := ⟨_, rfl⟩
      replace H : (if 0 ≤ (ji11) then (if (ji11) < (l0_2.length : Int) then (if (rd l0_2 (ji11)) = 0 then (rf_Fault.j1 kj1 true a0_0 l0_1 l0_2) else (if (l0_1.length : Int) > 0 then (if 0 ≤ (wrap64 ((l0_1.length : Int) - 1)) then (if (wrap64 ((l0_1.length : Int) - 1)) < (l0_1.length : Int) then (rf_Fault.j1 kj1 ((rd l0_1 (wrap64 ((l0_1.length : Int) - 1))) == 0) a0_0 l0_1 l0_2) else (none)) else (none)) else (rf_Fault.j1 kj1 false a0_0 l0_1 l0_2))) else (none)) else (none)) = some r := by first | (rw [hji11] at H; exact H) | (simp only [hji11] at H ⊢; exact H)
      have hji11w : (IntKind.i64.wrap ((l0_2.length : Int) - 1)) = ji11 := (i64_w _).trans hji11
      replace H := zn H
      obtain ⟨c12, H⟩ := H
      have c12b0 := decide_eq_true c12
      clear c12
      replace H := zn H
      obtain ⟨c13, H⟩ := H
      have c13b0 := decide_eq_true c13
      clear c13
      by_cases c14 : (rd l0_2 (ji11)) = 0
      ·rw [if_pos c14] at H
       have c14b0 : ((rd l0_2 (ji11)) == 0) = true := beq_iff_eq.mpr c14
       have c14b1 : ((rd l0_2 (ji11)) != 0) = false := bne_eq_false_iff_eq.mpr c14
       clear c14
       have H' := am H
       clear H
       have hcz15_0 := bc BK599.out 0 (.bool a0_0)
       have hcz15_1 := bc BK599.out 1 (.slice A0_1 l0_1.length c0_1)
       have hcz15_2 := bc BK599.out 2 (.slice A0_2 l0_2.length c0_2)
       have hfz15_0 := blk_frozen BK599.out 0
       have hfz15_1 := blk_frozen BK599.out 1
       have hfz15_2 := blk_frozen BK599.out 2
       have p600 : 0 ≤ ((ji11) : Int) := zq6
       have q600 : (ji11) < (l0_2.length : Int) := zq6
       obtain ⟨ad600, e600, hx600_0⟩ := Kd.at_int HR0_2.out (ji11) p600 q600
       cases e600
       replace hx600_0 := (HB.out.cell (World.block_lt_of_cell? w _ hx600_0)).trans hx600_0
       replace p600 := eq_true p600
       replace q600 := eq_true q600
       go_wp2
       go_meet
       case rel => exact ⟨_, (true), zq8, (by first | exact H' | (rw [hji11]; exact H')), ⟨by have := HJ1.out; first | omega | exact Nat.le_refl _⟩, ⟨zq2 BK599.out⟩, ⟨zb1 GE599.out⟩⟩
      ·rw [if_neg c14] at H
       have c14b0 : ((rd l0_2 (ji11)) == 0) = false := beq_eq_false_iff_ne.mpr c14
       have c14b1 : ((rd l0_2 (ji11)) != 0) = true := bne_iff_ne.mpr c14
       by_cases c16 : (l0_1.length : Int) > 0
       ·rw [if_pos c16] at H
        have c16b0 : decide (0 < (l0_1.length : Int)) = true := decide_eq_true c16
        have c16b1 : decide (0 < l0_1.length) = true := decide_eq_true (by omega)
        clear c16
        obtain ⟨ji17, hji17⟩ : ∃ j_ : Int, (wrap64 ((l0_1.length : Int) - 1)) = j_ := ⟨_, rfl⟩
        replace H : (if 0 ≤ (ji17) then (if (ji17) < (l0_1.length : Int) then (rf_Fault.j1 kj1 ((rd l0_1 (ji17)) == 0) a0_0 l0_1 l0_2) else (none)) else (none)) = some r := by first | (rw [hji17] at H; exact H) | (simp only [hji17] at H ⊢; exact H)
        have hji17w : (IntKind.i64.wrap ((l0_1.length : Int) - 1)) = ji17 := (i64_w _).trans hji17
        replace H := zn H
        obtain ⟨c18, H⟩ := H
        have c18b0 := decide_eq_true c18
        clear c18
        replace H := zn H
        obtain ⟨c19, H⟩ := H
        have c19b0 := decide_eq_true c19
        clear c19
        have H' := am H
        clear H
        have hcz20_0 := bc BK599.out 0 (.bool a0_0)
        have hcz20_1 := bc BK599.out 1 (.slice A0_1 l0_1.length c0_1)
        have hcz20_2 := bc BK599.out 2 (.slice A0_2 l0_2.length c0_2)
        have hfz20_0 := blk_frozen BK599.out 0
        have hfz20_1 := blk_frozen BK599.out 1
        have hfz20_2 := blk_frozen BK599.out 2
        have p600 : 0 ≤ ((ji11) : Int) := zq6
        have q600 : (ji11) < (l0_2.length : Int) := zq6
        obtain ⟨ad600, e600, hx600_0⟩ := Kd.at_int HR0_2.out (ji11) p600 q600
        cases e600
        replace hx600_0 := (HB.out.cell (World.block_lt_of_cell? w _ hx600_0)).trans hx600_0
        replace p600 := eq_true p600
        replace q600 := eq_true q600
        have p601 : 0 ≤ ((ji17) : Int) := zq6
        have q601 : (ji17) < (l0_1.length : Int) := zq6
        obtain ⟨ad601, e601, hx601_0⟩ := Kd.at_int HR0_1.out (ji17) p601 q601
        cases e601
        replace hx601_0 := (HB.out.cell (World.block_lt_of_cell? w _ hx601_0)).trans hx601_0
        replace p601 := eq_true p601
        replace q601 := eq_true q601
        go_wp2
        go_meet
        case rel => exact ⟨_, (((rd l0_1 (ji17)) == 0)), (by first | rfl | (simp; done) | (simp only [← hji17] <;> (first | rfl | simp)) | (simp [*]; done)), (by first | exact H' | (rw [hji11]; exact H') | (rw [hji17]; exact H')), ⟨by have := HJ1.out; first | omega | exact Nat.le_refl _⟩, ⟨zq2 BK599.out⟩, ⟨zb1 GE599.out⟩⟩
       ·rw [if_neg c16] at H
        have c16b0 : decide (0 < (l0_1.length : Int)) = false := decide_eq_false c16
        have c16b1 : decide (0 < l0_1.length) = false := decide_eq_false (by omega)
        clear c16
        have H' := am H
        clear H
        have hcz21_0 := bc BK599.out 0 (.bool a0_0)
        have hcz21_1 := bc BK599.out 1 (.slice A0_1 l0_1.length c0_1)
        have hcz21_2 := bc BK599.out 2 (.slice A0_2 l0_2.length c0_2)
        have hfz21_0 := blk_frozen BK599.out 0
        have hfz21_1 := blk_frozen BK599.out 1
        have hfz21_2 := blk_frozen BK599.out 2
        have p600 : 0 ≤ ((ji11) : Int) := zq6
        have q600 : (ji11) < (l0_2.length : Int) := zq6
        obtain ⟨ad600, e600, hx600_0⟩ := Kd.at_int HR0_2.out (ji11) p600 q600
        cases e600
        replace hx600_0 := (HB.out.cell (World.block_lt_of_cell? w _ hx600_0)).trans hx600_0
        replace p600 := eq_true p600
        replace q600 := eq_true q600
        go_wp2
        go_meet
        case rel => exact ⟨_, (false), zq8, (by first | exact H' | (rw [hji11]; exact H')), ⟨by have := HJ1.out; first | omega | exact Nat.le_refl _⟩, ⟨zq2 BK599.out⟩, ⟨zb1 GE599.out⟩⟩
    case rest =>
     clear HC8
     obtain ⟨kq, x46_7, rfl, HA, HJ7, BK599, HB⟩ := hcut
     cases kq with
     | zero => exact absurd HA.out (by simp [rf_Fault.j1])
     | succ kj7 =>
      have H := HA.out
      clear HA
      simp only [rf_Fault.j1] at H
      by_cases c22 : x46_7 = true
      ·subst c22
       have H1 : (some 2) = some r := by rw [if_pos rfl] at H; exact H
       clear H
       have H := H1
       clear H1
       obtain rfl := Option.some.inj H
       go_wp2
       go_ret
       exact ⟨zq9, zb1 GE599.out⟩
      ·replace c22 := Bool.eq_false_iff.mpr c22
       subst c22
       have H1 : ((rf_natOf.f kj7 l0_1).bind fun t602 => ((rf_natOf.f kj7 l0_2).bind fun t605 => (if (t602.length : Int) = 0 then (if a0_0 = true then (rf_Fault.j2 kj7 t602 t605 true) else ((rf_CmpNat.f kj7 t605 (([1] : List Int))).bind fun t611 => (rf_Fault.j2 kj7 t602 t605 (t611 != 0)))) else (rf_Fault.j2 kj7 t602 t605 false)))) = some r := by rw [if_neg (show ¬ (false = true) by decide)] at H; exact H
       clear H
       have H := H1
       clear H1
       replace H := zj H
       obtain ⟨t602, A23, H⟩ := H
       replace H := zj H
       obtain ⟨t605, A24, H⟩ := H
       have HC25 := am H
       clear H
       try go_wp2
       refine zt2 (blk_drew BK599.out) (below_drew1 HB.out) ?_
       clear BK599 HB
       intro BK599 HB
       refine start_ (n := 8) (S := fun w' => w'.cell? ⟨gb599, 0, none⟩ = some (.bool a0_0) ∧ w'.cell? ⟨gb599, 1, none⟩ = some (.slice A0_1 l0_1.length c0_1) ∧ w'.cell? ⟨gb599, 2, none⟩ = some (.slice A0_2 l0_2.length c0_2)) (ds := []) #[false, false, false, false, false, false, false, false] (by kernel_rfl) rfl rfl ⟨(blk_cell BK599.out 0).trans rfl, (blk_cell BK599.out 1).trans rfl, (blk_cell BK599.out 2).trans rfl⟩ (fun hHeld => ?_); refine with_tabW rf_Fault.tab5 rf_Fault.bits5 (fun HT_ HW_ => ?_)
       generalize wc.drew = w26 at BK599 HB hHeld ⊢
       refine pz_ (i := 0) (N := some 47) (zmt 8 [0]) ?_
       refine pz_ (i := 3) (N := some 50) (zmt 8 [0, 3]) ?_
       refine tz3 (i := 1) (N := some 48) (zmt 8 [0, 1, 3]) ?_
       refine tz3 (i := 4) (N := some 51) (zmt 8 [0, 1, 3, 4]) ?_
       refine one_ (i := 2) (N := some 49) (zmf 8 [5, 6, 7]) rfl rfl (one_of HT_.out (by kernel_rfl)) (by decide) (fun K hK => ?_)
       refine goes_ Tryd.func45 (by kernel_rfl) rfl #[.slice A0_1 l0_1.length c0_1] (by rfl) rfl rfl zq5 ?_
       with_reducible refine (rf_natOf.calls kj7 _ _ l0_1 t602 _ ?side1 ?side2 A23.out).mono ?_
       (case side1 => exact zc (Kd.C_below HR0_1.out HB.out))
       (case side2 => exact HC0_1.out)
       rintro e w27 ⟨v603, rfl, ho0, hb⟩
       refine ⟨_, rfl, ?_⟩
       refine zt3 (Kd.V_lower (Kd.V_mono (ok' := fun k_ => k_ ≠ gb599) ho0 (fun k_ hk_ => (Kd.freshB (g := gb599) (o := .cells #[.bool a0_0, .slice A0_1 l0_1.length c0_1, .slice A0_2 l0_2.length c0_2] 24 (0, 0)) (zq2 BK599.out) k_ hk_))) (below_size (zb1 GE599.out))) (bb BK599.out hb) (below_step (zb1 GE599.out) hb) ?_
       clear BK599 HB
       intro HO604 BK599 HB
       refine hK.out _ _ ⟨(blk_cell BK599.out 0).trans rfl, (blk_cell BK599.out 1).trans rfl, (blk_cell BK599.out 2).trans rfl⟩ (fun hHeld => ?_)
       clear hK K
       refine nz_ (N := (some 49)) ?_
       refine one_ (i := 5) (N := some 52) (zmf 8 [6, 7]) rfl rfl (one_of HT_.out (by kernel_rfl)) (by decide) (fun K hK => ?_)
       refine goes_ Tryd.func45 (by kernel_rfl) rfl #[.slice A0_2 l0_2.length c0_2] (by rfl) rfl rfl zq5 ?_
       with_reducible refine (rf_natOf.calls kj7 _ _ l0_2 t605 _ ?side1 ?side2 A24.out).mono ?_
       (case side1 => exact zc (Kd.C_below HR0_2.out HB.out))
       (case side2 => exact HC0_2.out)
       rintro e w28 ⟨v606, rfl, ho0, hb⟩
       refine ⟨_, rfl, ?_⟩
       refine zt4 (vb HO604 hb) (Kd.V_lower (Kd.V_mono (ok' := fun k_ => k_ ≠ gb599) ho0 (fun k_ hk_ => (Kd.freshB (g := gb599) (o := .cells #[.bool a0_0, .slice A0_1 l0_1.length c0_1, .slice A0_2 l0_2.length c0_2] 24 (0, 0)) (zq2 BK599.out) k_ hk_))) (below_size (zb1 GE599.out))) (bb BK599.out hb) (below_step (zb1 GE599.out) hb) ?_
       clear HO604 BK599 HB
       intro HO604 HO607 BK599 HB
       refine hK.out _ _ ⟨(blk_cell BK599.out 0).trans rfl, (blk_cell BK599.out 1).trans rfl, (blk_cell BK599.out 2).trans rfl⟩ (fun hHeld => ?_)
       clear hK K
       refine nz_ (N := (some 52)) ?_
       refine pz_ (i := 6) (N := some 3) (zmf 8 [7]) ?_
       refine pz_ (i := 7) (N := some 4) (zmf 8 []) ?_
       refine done_ (done_of HT_.out (by kernel_rfl)) ?_
       go_upto_region 6 with (fail)
       go_cut [65] (fun v65 wc => ∃ (kq : Nat) (x65_24 : Bool), v65 = .bool x65_24 ∧ Aside0 (rf_Fault.j2 kq t602 t605 x65_24 = some r) ∧ Aside0 (kq ≤ kj7) ∧ Aside0 (Kd.V (Kd.int .i64) 3 wc w.heap.size (fun k_ => k_ ≠ gb599) v603 t602) ∧ Aside0 (Kd.V (Kd.int .i64) 3 wc w.heap.size (fun k_ => k_ ≠ gb599) v606 t605) ∧ Aside0 (wc.heap[gb599]? = some (.cells #[.bool a0_0, (.slice A0_1 l0_1.length c0_1), (.slice A0_2 l0_2.length c0_2)] 24 (0, 0))) ∧ Aside0 (Below w.heap.size w wc))
       case first =>
        have H := HC25.out
        clear HC25
        by_cases c29 : (t602.length : Int) = 0
        ·rw [if_pos c29] at H
         have c29b0 : ((t602.length : Int) == 0) = true := beq_iff_eq.mpr c29
         have c29b1 : ((t602.length : Int) != 0) = false := bne_eq_false_iff_eq.mpr c29
         clear c29
         (first | rw [c29b0] | (simp only [i64_w, i32_w]; rw [c29b0]) | skip)
         by_cases c30 : a0_0 = true
         ·subst c30
          have H1 : (rf_Fault.j2 kj7 t602 t605 true) = some r := by rw [if_pos rfl] at H; exact H
          clear H
          have H := H1
          clear H1
          have H' := am H
          clear H
          obtain ⟨Ao31, co31, eo31⟩ := Kd.V_slice HO604.out
          subst eo31
          have hcz32_0 := bc BK599.out 0 (.bool true)
          have hcz32_1 := bc BK599.out 1 (.slice A0_1 l0_1.length c0_1)
          have hcz32_2 := bc BK599.out 2 (.slice A0_2 l0_2.length c0_2)
          have hfz32_0 := blk_frozen BK599.out 0
          have hfz32_1 := blk_frozen BK599.out 1
          have hfz32_2 := blk_frozen BK599.out 2
          go_wp2
          go_meet
          case rel => exact ⟨_, (true), zq8, H', ⟨by have := HJ1.out; have := HJ7.out; first | omega | exact Nat.le_refl _⟩, ⟨zq3 HO604.out⟩, ⟨zq3 HO607.out⟩, ⟨zq2 BK599.out⟩, ⟨zb1 GE599.out⟩⟩
         ·replace c30 := Bool.eq_false_iff.mpr c30
          subst c30
          have H1 : ((rf_CmpNat.f kj7 t605 (([1] : List Int))).bind fun t611 => (rf_Fault.j2 kj7 t602 t605 (t611 != 0))) = some r := by rw [if_neg (show ¬ (false = true) by decide)] at H; exact H
          clear H
          have H := H1
          clear H1
          obtain ⟨y608, hy608⟩ : ∃ y_ : List Int, y_ = (([1] : List Int)) := ⟨_, rfl⟩
          try rw [← hy608] at H
          have Ny608 := am hy608
          clear hy608
          replace H := zj H
          obtain ⟨t611, A33, H⟩ := H
          have H' := am H
          clear H
          obtain ⟨Ao34, co34, eo34⟩ := Kd.V_slice HO604.out
          subst eo34
          have hcz35_0 := bc BK599.out 0 (.bool false)
          have hcz35_1 := bc BK599.out 1 (.slice A0_1 l0_1.length c0_1)
          have hcz35_2 := bc BK599.out 2 (.slice A0_2 l0_2.length c0_2)
          have hfz35_0 := blk_frozen BK599.out 0
          have hfz35_1 := blk_frozen BK599.out 1
          have hfz35_2 := blk_frozen BK599.out 2
          go_wp2_with (first | ((with_reducible refine gate_dst (N := 61) rfl ?_); (try (refine gate_guard (by rfl) ?_; dsimp only)); refine Kd.R_lit (Kd.int .i64) _ 3 ?hg (N := 61) ?hd (xs := ([1] : List Int)) (inner := [.int .i64 1]) (ok := fun _ => True) (okp := fun _ => True) ?hr ?hp (fun _ hk => hk) trivial (Below.refl _ _) (Nat.le_refl _) (by simp) ?_; (case hd => rfl); (case hg => rfl); (case hr => exact zr); (case hp => exact (Reps.one (show Kd.M (Kd.int .i64) _ _ _ 1 [.int .i64 1] from rfl) (Reps.none _ _))); intro v609 w36 ho37 hb hg_ hnew_; clear hg_ hnew_; (first | rw [← Ny608.out] at ho37 | (simp only [Int.reduceToNat] at ho37; rw [← Ny608.out] at ho37)); refine zt5 (Kd.V_elder' (zq3 HO604.out) (Kd.R_base ho37) hb) (Kd.V_elder' (zq3 HO607.out) (Kd.R_base ho37) hb) (Kd.R_lower ho37 (below_size (zb1 GE599.out))) (bb BK599.out hb) (below_step (zb1 GE599.out) hb) ?_; clear HO604 HO607 BK599 HB; intro HO604 HO607 HO610 BK599 HB; clear hb ho37; obtain ⟨Ao38, co38, eo38⟩ := Kd.V_slice HO607.out; subst eo38; obtain ⟨Ao39, co39, eo39⟩ := Kd.R_slice HO610.out; subst eo39) | (go_at_call 46; (with_reducible refine (rf_CmpNat.calls kj7 _ _ t605 _ _ y608 t611 _ ?side1 ?side2 ?side3 ?side4 A33.out).mono ?_); (case side1 => exact zc ((Kd.V_reads' HO607.out).2.2)); (case side2 => exact (Kd.V_reads' HO607.out).2.1); (case side3 => exact zc ((Kd.R_reads' HO610.out).2.2)); (case side4 => exact (Kd.R_reads' HO610.out).2.1); rintro e w40 ⟨rfl, hb⟩; refine zt5 (vb HO604 hb) (vb HO607 hb) (rb HO610 hb) (bb BK599.out hb) (below_step (zb1 GE599.out) hb) ?_; clear HO604 HO607 HO610 BK599 HB; intro HO604 HO607 HO610 BK599 HB; (try clear hb); (try clear hb2); (try clear hk); (try clear hi)))
          go_meet
          case rel => exact ⟨_, ((t611 != 0)), zq8, H', ⟨by have := HJ1.out; have := HJ7.out; first | omega | exact Nat.le_refl _⟩, ⟨zwV (h := by exact Kd.V_mono HO604.out (fun _ hk => hk.1))⟩, ⟨zwV (h := by exact Kd.V_mono HO607.out (fun _ hk => hk.1))⟩, ⟨zq2 BK599.out⟩, ⟨zb1 GE599.out⟩⟩
        ·rw [if_neg c29] at H
         have c29b0 : ((t602.length : Int) == 0) = false := beq_eq_false_iff_ne.mpr c29
         have c29b1 : ((t602.length : Int) != 0) = true := bne_iff_ne.mpr c29
         have c29b2 : ¬ (t602 = []) := fun h_ => c29 (by rw [h_]; rfl)
         (first | rw [c29b0] | (simp only [i64_w, i32_w]; rw [c29b0]) | skip)
         have H' := am H
         clear H
         obtain ⟨Ao41, co41, eo41⟩ := Kd.V_slice HO604.out
         subst eo41
         go_wp2
         go_meet
         case rel => exact ⟨_, (false), zq8, H', ⟨by have := HJ1.out; have := HJ7.out; first | omega | exact Nat.le_refl _⟩, ⟨zq3 HO604.out⟩, ⟨zq3 HO607.out⟩, ⟨zq2 BK599.out⟩, ⟨zb1 GE599.out⟩⟩
       case rest =>
        clear HC25
        obtain ⟨kq, x65_24, rfl, HA, HJ24, HO_3, HO_4, BK599, HB⟩ := hcut
        cases kq with
        | zero => exact absurd HA.out (by simp [rf_Fault.j2])
        | succ kj24 =>
         have H := HA.out
         clear HA
         simp only [rf_Fault.j2] at H
         by_cases c42 : x65_24 = true
         ·subst c42
          have H1 : (some 2) = some r := by rw [if_pos rfl] at H; exact H
          clear H
          have H := H1
          clear H1
          obtain rfl := Option.some.inj H
          go_wp2
          go_ret
          exact ⟨zq9, zb1 GE599.out⟩
         ·replace c42 := Bool.eq_false_iff.mpr c42
          subst c42
          have H1 : ((rf_GcdNat.f kj24 t602 t605).bind fun t612 => ((rf_CmpNat.f kj24 t612 (([1] : List Int))).bind fun t618 => (if t618 = 0 then (some 0) else (some 2)))) = some r := by rw [if_neg (show ¬ (false = true) by decide)] at H; exact H
          clear H
          have H := H1
          clear H1
          replace H := zj H
          obtain ⟨t612, A43, H⟩ := H
          obtain ⟨y615, hy615⟩ : ∃ y_ : List Int, y_ = (([1] : List Int)) := ⟨_, rfl⟩
          try rw [← hy615] at H
          have Ny615 := am hy615
          clear hy615
          replace H := zj H
          obtain ⟨t618, A44, H⟩ := H
          by_cases c45 : t618 = 0
          ·rw [if_pos c45] at H
           have c45b0 : (t618 == 0) = true := beq_iff_eq.mpr c45
           have c45b1 : (t618 != 0) = false := bne_eq_false_iff_eq.mpr c45
           clear c45
           obtain rfl := Option.some.inj H
           obtain ⟨Ao46, co46, eo46⟩ := Kd.V_slice HO_3.out
           subst eo46
           obtain ⟨Ao47, co47, eo47⟩ := Kd.V_slice HO_4.out
           subst eo47
           go_wp2_with (first | ((with_reducible refine gate_callee (f := 47) rfl ?_); refine goesL_ (some 68) rfl rfl Tryd.func47 (by kernel_rfl) rfl #[.slice Ao46 t602.length co46, .slice Ao47 t605.length co47] rfl zq5 ?_; (with_reducible refine (rf_GcdNat.calls kj24 (fun k_ => k_ ≠ gb599) _ _ t602 (fun k_ => k_ ≠ gb599) _ _ t605 t612 _ ?side1 ?side2 A43.out).mono ?_); (case side1 => exact HO_3.out); (case side2 => exact HO_4.out); rintro e w48 ⟨v613, rfl, ho0, hb⟩; refine ⟨_, rfl, ?_⟩; refine zt5 (vb HO_3 hb) (vb HO_4 hb) (Kd.V_lower (Kd.V_mono (ok' := fun k_ => k_ ≠ gb599) ho0 (fun k_ hk_ => Or.elim hk_ (fun hs_ => Or.elim hs_ (fun hs_ => hs_) (fun hs_ => hs_)) (fun hn_ => (Kd.freshB (g := gb599) (o := .cells #[.bool a0_0, .slice A0_1 l0_1.length c0_1, .slice A0_2 l0_2.length c0_2] 24 (0, 0)) (zq2 BK599.out) k_ hn_)))) (below_size (zb1 GE599.out))) (bb BK599.out hb) (below_step (zb1 GE599.out) hb) ?_; clear HO_3 HO_4 BK599 HB; intro HO_3 HO_4 HO614 BK599 HB) | ((with_reducible refine gate_dst (N := 69) rfl ?_); (try (refine gate_guard (by rfl) ?_; dsimp only)); refine Kd.R_lit (Kd.int .i64) _ 3 ?hg (N := 69) ?hd (xs := ([1] : List Int)) (inner := [.int .i64 1]) (ok := fun _ => True) (okp := fun _ => True) ?hr ?hp (fun _ hk => hk) trivial (Below.refl _ _) (Nat.le_refl _) (by simp) ?_; (case hd => rfl); (case hg => rfl); (case hr => exact zr); (case hp => exact (Reps.one (show Kd.M (Kd.int .i64) _ _ _ 1 [.int .i64 1] from rfl) (Reps.none _ _))); intro v616 w49 ho50 hb hg_ hnew_; clear hg_ hnew_; (first | rw [← Ny615.out] at ho50 | (simp only [Int.reduceToNat] at ho50; rw [← Ny615.out] at ho50)); refine zt6 (Kd.V_elder' (zq3 HO_3.out) (Kd.R_base ho50) hb) (Kd.V_elder' (zq3 HO_4.out) (Kd.R_base ho50) hb) (Kd.V_elder' (zq3 HO614.out) (Kd.R_base ho50) hb) (Kd.R_lower ho50 (below_size (zb1 GE599.out))) (bb BK599.out hb) (below_step (zb1 GE599.out) hb) ?_; clear HO_3 HO_4 HO614 BK599 HB; intro HO_3 HO_4 HO614 HO617 BK599 HB; clear hb ho50; obtain ⟨Ao51, co51, eo51⟩ := Kd.V_slice HO614.out; subst eo51; obtain ⟨Ao52, co52, eo52⟩ := Kd.R_slice HO617.out; subst eo52) | ((with_reducible refine gate_callee (f := 46) rfl ?_); refine goesL_ (some 70) rfl rfl Tryd.func46 (by kernel_rfl) rfl #[.slice Ao51 t612.length co51, .slice Ao52 y615.length co52] rfl zq5 ?_; (with_reducible refine (rf_CmpNat.calls kj24 _ _ t612 _ _ y615 t618 _ ?side1 ?side2 ?side3 ?side4 A44.out).mono ?_); (case side1 => exact zc ((Kd.V_reads' HO614.out).2.2)); (case side2 => exact (Kd.V_reads' HO614.out).2.1); (case side3 => exact zc ((Kd.R_reads' HO617.out).2.2)); (case side4 => exact (Kd.R_reads' HO617.out).2.1); rintro e w53 ⟨rfl, hb⟩; refine ⟨_, rfl, ?_⟩; refine zt6 (vb HO_3 hb) (vb HO_4 hb) (vb HO614 hb) (rb HO617 hb) (bb BK599.out hb) (below_step (zb1 GE599.out) hb) ?_; clear HO_3 HO_4 HO614 HO617 BK599 HB; intro HO_3 HO_4 HO614 HO617 BK599 HB; (try clear hb); (try clear hb2); (try clear hk); (try clear hi)))
           go_ret
           exact ⟨zq9, zb1 GE599.out⟩
          ·rw [if_neg c45] at H
           have c45b0 : (t618 == 0) = false := beq_eq_false_iff_ne.mpr c45
           have c45b1 : (t618 != 0) = true := bne_iff_ne.mpr c45
           obtain rfl := Option.some.inj H
           obtain ⟨Ao54, co54, eo54⟩ := Kd.V_slice HO_3.out
           subst eo54
           obtain ⟨Ao55, co55, eo55⟩ := Kd.V_slice HO_4.out
           subst eo55
           go_wp2_with (first | ((with_reducible refine gate_callee (f := 47) rfl ?_); refine goesL_ (some 68) rfl rfl Tryd.func47 (by kernel_rfl) rfl #[.slice Ao54 t602.length co54, .slice Ao55 t605.length co55] rfl zq5 ?_; (with_reducible refine (rf_GcdNat.calls kj24 (fun k_ => k_ ≠ gb599) _ _ t602 (fun k_ => k_ ≠ gb599) _ _ t605 t612 _ ?side1 ?side2 A43.out).mono ?_); (case side1 => exact HO_3.out); (case side2 => exact HO_4.out); rintro e w56 ⟨v613, rfl, ho0, hb⟩; refine ⟨_, rfl, ?_⟩; refine zt5 (vb HO_3 hb) (vb HO_4 hb) (Kd.V_lower (Kd.V_mono (ok' := fun k_ => k_ ≠ gb599) ho0 (fun k_ hk_ => Or.elim hk_ (fun hs_ => Or.elim hs_ (fun hs_ => hs_) (fun hs_ => hs_)) (fun hn_ => (Kd.freshB (g := gb599) (o := .cells #[.bool a0_0, .slice A0_1 l0_1.length c0_1, .slice A0_2 l0_2.length c0_2] 24 (0, 0)) (zq2 BK599.out) k_ hn_)))) (below_size (zb1 GE599.out))) (bb BK599.out hb) (below_step (zb1 GE599.out) hb) ?_; clear HO_3 HO_4 BK599 HB; intro HO_3 HO_4 HO614 BK599 HB) | ((with_reducible refine gate_dst (N := 69) rfl ?_); (try (refine gate_guard (by rfl) ?_; dsimp only)); refine Kd.R_lit (Kd.int .i64) _ 3 ?hg (N := 69) ?hd (xs := ([1] : List Int)) (inner := [.int .i64 1]) (ok := fun _ => True) (okp := fun _ => True) ?hr ?hp (fun _ hk => hk) trivial (Below.refl _ _) (Nat.le_refl _) (by simp) ?_; (case hd => rfl); (case hg => rfl); (case hr => exact zr); (case hp => exact (Reps.one (show Kd.M (Kd.int .i64) _ _ _ 1 [.int .i64 1] from rfl) (Reps.none _ _))); intro v616 w57 ho58 hb hg_ hnew_; clear hg_ hnew_; (first | rw [← Ny615.out] at ho58 | (simp only [Int.reduceToNat] at ho58; rw [← Ny615.out] at ho58)); refine zt6 (Kd.V_elder' (zq3 HO_3.out) (Kd.R_base ho58) hb) (Kd.V_elder' (zq3 HO_4.out) (Kd.R_base ho58) hb) (Kd.V_elder' (zq3 HO614.out) (Kd.R_base ho58) hb) (Kd.R_lower ho58 (below_size (zb1 GE599.out))) (bb BK599.out hb) (below_step (zb1 GE599.out) hb) ?_; clear HO_3 HO_4 HO614 BK599 HB; intro HO_3 HO_4 HO614 HO617 BK599 HB; clear hb ho58; obtain ⟨Ao59, co59, eo59⟩ := Kd.V_slice HO614.out; subst eo59; obtain ⟨Ao60, co60, eo60⟩ := Kd.R_slice HO617.out; subst eo60) | ((with_reducible refine gate_callee (f := 46) rfl ?_); refine goesL_ (some 70) rfl rfl Tryd.func46 (by kernel_rfl) rfl #[.slice Ao59 t612.length co59, .slice Ao60 y615.length co60] rfl zq5 ?_; (with_reducible refine (rf_CmpNat.calls kj24 _ _ t612 _ _ y615 t618 _ ?side1 ?side2 ?side3 ?side4 A44.out).mono ?_); (case side1 => exact zc ((Kd.V_reads' HO614.out).2.2)); (case side2 => exact (Kd.V_reads' HO614.out).2.1); (case side3 => exact zc ((Kd.R_reads' HO617.out).2.2)); (case side4 => exact (Kd.R_reads' HO617.out).2.1); rintro e w61 ⟨rfl, hb⟩; refine ⟨_, rfl, ?_⟩; refine zt6 (vb HO_3 hb) (vb HO_4 hb) (vb HO614 hb) (rb HO617 hb) (bb BK599.out hb) (below_step (zb1 GE599.out) hb) ?_; clear HO_3 HO_4 HO614 HO617 BK599 HB; intro HO_3 HO_4 HO614 HO617 BK599 HB; (try clear hb); (try clear hb2); (try clear hk); (try clear hi)))
           go_ret
           exact ⟨zq9, zb1 GE599.out⟩
mutual
def rf_MulNat.l0 : Nat → List Int → List Int → List Int → Int → Int → Option (List Int)
 | 0, _, _, _, _, _ => none
 | k + 1, x0, x1, x5, x18, x19 => if x19 < x18 then (rf_MulNat.l1 k x0 x1 x5 x19 0 0 x18 x19) else ((rf_trim.f k x5).bind fun t701 => (some t701))
def rf_MulNat.l1 : Nat → List Int → List Int → List Int → Int → Int → Int → Int → Int → Option (List Int)
 | 0, _, _, _, _, _, _, _, _ => none
 | k + 1, x0, x1, x5, x6, x7, x8, x18, x19 => if x8 < (x1.length : Int) then (if 0 ≤ (wrap64 (x6 + x8)) then (if (wrap64 (x6 + x8)) < (x5.length : Int) then (if 0 ≤ x6 then (if x6 < (x0.length : Int) then ((rf_digit.f x1 x8).bind fun t706 => (rf_MulNat.l1 k x0 x1 (x5.set ((wrap64 (x6 + x8)) : Int).toNat (Int.tmod (wrap64 ((wrap64 ((rd x5 (wrap64 (x6 + x8))) + (wrap64 ((rd x0 x6) * t706)))) + x7)) 65536)) x6 (wrap64 (Int.tdiv (wrap64 ((wrap64 ((rd x5 (wrap64 (x6 + x8))) + (wrap64 ((rd x0 x6) * t706)))) + x7)) 65536)) (wrap64 (x8 + 1)) x18 x19)) else (none)) else (none)) else (none)) else (none)) else (if x7 > 0 then (if 0 ≤ (wrap64 (x6 + x8)) then (if (wrap64 (x6 + x8)) < (x5.length : Int) then (if 0 ≤ x6 then (if x6 < (x0.length : Int) then ((rf_digit.f x1 x8).bind fun t710 => (rf_MulNat.l1 k x0 x1 (x5.set ((wrap64 (x6 + x8)) : Int).toNat (Int.tmod (wrap64 ((wrap64 ((rd x5 (wrap64 (x6 + x8))) + (wrap64 ((rd x0 x6) * t710)))) + x7)) 65536)) x6 (wrap64 (Int.tdiv (wrap64 ((wrap64 ((rd x5 (wrap64 (x6 + x8))) + (wrap64 ((rd x0 x6) * t710)))) + x7)) 65536)) (wrap64 (x8 + 1)) x18 x19)) else (none)) else (none)) else (none)) else (none)) else (rf_MulNat.l0 k x0 x1 x5 x18 (wrap64 (x19 + 1))))
end
def rf_MulNat.f (k : Nat) (l0 : List Int) (l1 : List Int) : Option (List Int) := if 0 ≤ (wrap64 ((wrap64 ((l0.length : Int) + (l1.length : Int))) + 1)) then (if (wrap64 ((wrap64 ((l0.length : Int) + (l1.length : Int))) + 1) : Int).toNat ≤ 35184372088832 then (rf_MulNat.l0 k l0 l1 (List.replicate (wrap64 ((wrap64 ((l0.length : Int) + (l1.length : Int))) + 1) : Int).toNat 0) (l0.length : Int) 0) else (none)) else (none)
theorem rf_MulNat.mono_l : ∀ k, (∀ y0 y1 y2 y3 y4, LeO (rf_MulNat.l0 k y0 y1 y2 y3 y4) (rf_MulNat.l0 (k + 1) y0 y1 y2 y3 y4)) ∧ (∀ y0 y1 y2 y3 y4 y5 y6 y7, LeO (rf_MulNat.l1 k y0 y1 y2 y3 y4 y5 y6 y7) (rf_MulNat.l1 (k + 1) y0 y1 y2 y3 y4 y5 y6 y7))
 | 0 => ⟨fun _ _ _ _ _ r h => by simp [rf_MulNat.l0] at h, fun _ _ _ _ _ _ _ _ r h => by simp [rf_MulNat.l1] at h⟩
 | k + 1 => by
  obtain ⟨ih0, ih1⟩ := rf_MulNat.mono_l k
  refine ⟨?_, ?_⟩
  ·intro y0 y1 y2 y3 y4
   unfold rf_MulNat.l0
   have m0 := ih0
   have m1 := ih1
   have m2 := @rf_trim.mono
   exact zm
  ·intro y0 y1 y2 y3 y4 y5 y6 y7
   unfold rf_MulNat.l1
   have m0 := ih0
   have m1 := ih1
   have m2 := @rf_trim.mono
   exact zm
theorem rf_MulNat.mono : ∀ a0 a1 k, LeO (rf_MulNat.f k a0 a1) (rf_MulNat.f (k + 1) a0 a1) := by
 intro a0 a1 k
 obtain ⟨ih0, ih1⟩ := rf_MulNat.mono_l k
 unfold rf_MulNat.f
 have m0 := ih0
 have m1 := ih1
 have m2 := @rf_trim.mono
 exact zm
set_option maxHeartbeats 8000000 in
set_option maxRecDepth 100000 in
theorem rf_MulNat.calls (k : Nat) (A0 : Option Addr) (c0 : Nat) (l0 : List Int) (A1 : Option Addr) (c1 : Nat) (l1 : List Int) (r : List Int) (w : World) (hr0 : Kd.C (Kd.int .i64) w A0 l0.length l0) (hc0 : l0.length ≤ c0) (hr1 : Kd.C (Kd.int .i64) w A1 l1.length l1) (hc1 : l1.length ≤ c1) (h : rf_MulNat.f k l0 l1 = some r) :
  Calls Tryd.prog 63 #[.slice A0 l0.length c0, .slice A1 l1.length c1] w fun e w' => ∃ v0_ : Value, e = .returned (v0_) ∧ Kd.V (Kd.int .i64) 3 w' w.heap.size (fun k_ => (w.heap.size ≤ k_)) v0_ r ∧ Below w.heap.size w w' := by
 have HR0 := am hr0
 have HC0 := am hc0
 clear hr0 hc0
 have HR1 := am hr1
 have HC1 := am hc1
 clear hr1 hc1
 have HB := am (Below.refl w.heap.size w)
 have H := h
 unfold rf_MulNat.f at H
 clear h
 obtain ⟨ji3, hji3⟩ : ∃ j_ : Int, (wrap64 ((wrap64 ((l0.length : Int) + (l1.length : Int))) + 1)) = j_ := ⟨_, rfl⟩
 replace H : (if 0 ≤ (ji3) then (if (ji3 : Int).toNat ≤ 35184372088832 then (rf_MulNat.l0 k l0 l1 (List.replicate (ji3 : Int).toNat 0) (l0.length : Int) 0) else (none)) else (none)) = some r := by first | (rw [hji3] at H; exact H) | (simp only [hji3] at H ⊢; exact H)
 have hji3w : (IntKind.i64.wrap ((wrap64 ((l0.length : Int) + (l1.length : Int))) + 1)) = ji3 := (i64_w _).trans hji3
 replace H := zn H
 obtain ⟨c4, H⟩ := H
 have c4b0 := eq_true c4
 have c4b1 := decide_eq_true c4
 clear c4
 replace H := zn H
 obtain ⟨c5, H⟩ := H
 have c5b0 := eq_true c5
 have c5b1 := decide_eq_true c5
 clear c5
 obtain ⟨y698, hy698⟩ : ∃ y_ : List Int, y_ = (List.replicate (ji3 : Int).toNat 0) := ⟨_, rfl⟩
 try rw [← hy698] at H
 have Ny698 := am hy698
 clear hy698
 have H' := am H
 clear H
 go_enter Tryd.func63, Tryd.ntmps63
 go_wp2_with (first | ((with_reducible refine gate_dst (N := 16) rfl ?_); refine Kd.R_make (Kd.int .i64) _ 3 rfl (N := 16) rfl 39 _ _ rfl ji3 rfl rfl Tryd.underlying39 (.int .i64 0) 8 info3 rfl (by decide) (by omega) 0 (ok := fun _ => True) (okp := fun _ => True) rfl (fun _ hk => hk) trivial zq6 (Nat.le_trans (Nat.mul_le_mul_right _ (zq6 : ji3.toNat ≤ 35184372088832)) (by omega)) (Below.refl _ _) (Nat.le_refl _) ?_; intro v699 w6 ho7 hb hg_ hnew_; clear hg_ hnew_; (first | rw [← Ny698.out] at ho7 | (simp only [Int.reduceToNat] at ho7; rw [← Ny698.out] at ho7)); refine zt2 (Kd.R_lower (Kd.R_newM (M := fun k_ => (w.heap.size ≤ k_)) ho7 (below_size zq1) (fun k_ h_ => h_)) (below_size zq1)) (below_step zq1 hb) ?_; clear HB; intro HO700 HB; clear hb ho7))
 repeat (go_quiet (first | ((with_reducible refine gate_dst (N := 16) rfl ?_); refine Kd.R_make (Kd.int .i64) _ 3 rfl (N := 16) rfl 39 _ _ rfl ji3 rfl rfl Tryd.underlying39 (.int .i64 0) 8 info3 rfl (by decide) (by omega) 0 (ok := fun _ => True) (okp := fun _ => True) rfl (fun _ hk => hk) trivial zq6 (Nat.le_trans (Nat.mul_le_mul_right _ (zq6 : ji3.toNat ≤ 35184372088832)) (by omega)) (Below.refl _ _) (Nat.le_refl _) ?_; intro v699 w6 ho7 hb hg_ hnew_; clear hg_ hnew_; (first | rw [← Ny698.out] at ho7 | (simp only [Int.reduceToNat] at ho7; rw [← Ny698.out] at ho7)); refine zt2 (Kd.R_lower (Kd.R_newM (M := fun k_ => (w.heap.size ≤ k_)) ho7 (below_size zq1) (fun k_ h_ => h_)) (below_size zq1)) (below_step zq1 hb) ?_; clear HB; intro HO700 HB; clear hb ho7)); try go_wp2_with (first | ((with_reducible refine gate_dst (N := 16) rfl ?_); refine Kd.R_make (Kd.int .i64) _ 3 rfl (N := 16) rfl 39 _ _ rfl ji3 rfl rfl Tryd.underlying39 (.int .i64 0) 8 info3 rfl (by decide) (by omega) 0 (ok := fun _ => True) (okp := fun _ => True) rfl (fun _ hk => hk) trivial zq6 (Nat.le_trans (Nat.mul_le_mul_right _ (zq6 : ji3.toNat ≤ 35184372088832)) (by omega)) (Below.refl _ _) (Nat.le_refl _) ?_; intro v699 w6 ho7 hb hg_ hnew_; clear hg_ hnew_; (first | rw [← Ny698.out] at ho7 | (simp only [Int.reduceToNat] at ho7; rw [← Ny698.out] at ho7)); refine zt2 (Kd.R_lower (Kd.R_newM (M := fun k_ => (w.heap.size ≤ k_)) ho7 (below_size zq1) (fun k_ h_ => h_)) (below_size zq1)) (below_step zq1 hb) ?_; clear HB; intro HO700 HB; clear hb ho7)))
 go_loopg [19] k (fun kq v19 w' => ∃ (x5_1 : List Int) (x19_1 : Int), v19 = .int .i64 x19_1 ∧ Aside0 (rf_MulNat.l0 kq l0 l1 x5_1 (l0.length : Int) x19_1 = some r) ∧ Aside0 (kq ≤ k) ∧ Aside0 (Kd.R (Kd.int .i64) 3 w' w.heap.size (fun k_ => (w.heap.size ≤ k_)) v699 x5_1) ∧ Aside0 (Below w.heap.size w w'))
 case atStart => exact ⟨(y698), (0), zq8, H', ⟨Nat.le_refl _⟩, ⟨zwR (h := by exact Kd.R_mono HO700.out (fun _ hk => hk.1))⟩, ⟨zq1⟩⟩
 case round =>
  clear H'
  obtain ⟨x5_1, x19_1, rfl, HA, HK1, HO_5, HB⟩ := hrel
  cases gk with
  | zero => exact absurd HA.out (by simp [rf_MulNat.l0])
  | succ k1 =>
   have H := HA.out
   clear HA
   simp only [rf_MulNat.l0] at H
   by_cases c8 : x19_1 < (l0.length : Int)
   ·rw [if_pos c8] at H
    have c8b0 := decide_eq_true c8
    clear c8
    have H' := am H
    clear H
    go_wp2
    repeat (go_quiet (fail); try go_wp2)
    go_loopg [7, 8] k1 (fun kq v7 v8 w' => ∃ (x5_2 : List Int) (x7_2 : Int) (x8_2 : Int), v7 = .int .i64 x7_2 ∧ v8 = .int .i64 x8_2 ∧ Aside0 (rf_MulNat.l1 kq l0 l1 x5_2 x19_1 x7_2 x8_2 (l0.length : Int) x19_1 = some r) ∧ Aside0 (kq ≤ k1) ∧ Aside0 (Kd.R (Kd.int .i64) 3 w' w.heap.size (fun k_ => (w.heap.size ≤ k_)) v699 x5_2) ∧ Aside0 (Below w.heap.size w w'))
    case atStart => exact ⟨(x5_1), (0), (0), zq8, zq8, H', ⟨Nat.le_refl _⟩, ⟨zq4 HO_5.out⟩, ⟨zq1⟩⟩
    case round =>
     clear H'
     obtain ⟨x5_2, x7_2, x8_2, rfl, rfl, HA, HK2, HO_5, HB⟩ := hrel
     cases gk with
     | zero => exact absurd HA.out (by simp [rf_MulNat.l1])
     | succ k2 =>
      have H := HA.out
      clear HA
      simp only [rf_MulNat.l1] at H
      by_cases c9 : x8_2 < (l1.length : Int)
      ·rw [if_pos c9] at H
       have c9b0 := decide_eq_true c9
       clear c9
       obtain ⟨ji10, hji10⟩ : ∃ j_ : Int, (wrap64 (x19_1 + x8_2)) = j_ := ⟨_, rfl⟩
       replace H : (if 0 ≤ (ji10) then (if (ji10) < (x5_2.length : Int) then (if 0 ≤ x19_1 then (if x19_1 < (l0.length : Int) then ((rf_digit.f l1 x8_2).bind fun t706 => (rf_MulNat.l1 k2 l0 l1 (x5_2.set ((ji10) : Int).toNat (Int.tmod (wrap64 ((wrap64 ((rd x5_2 (ji10)) + (wrap64 ((rd l0 x19_1) * t706)))) + x7_2)) 65536)) x19_1 (wrap64 (Int.tdiv (wrap64 ((wrap64 ((rd x5_2 (ji10)) + (wrap64 ((rd l0 x19_1) * t706)))) + x7_2)) 65536)) (wrap64 (x8_2 + 1)) (l0.length : Int) x19_1)) else (none)) else (none)) else (none)) else (none)) = some r := by first | (rw [hji10] at H; exact H) | (simp only [hji10] at H ⊢; exact H)
       have hji10w : (IntKind.i64.wrap (x19_1 + x8_2)) = ji10 := (i64_w _).trans hji10
       replace H := zn H
       obtain ⟨c11, H⟩ := H
       have c11b0 := decide_eq_true c11
       clear c11
       replace H := zn H
       obtain ⟨c12, H⟩ := H
       have c12b0 := decide_eq_true c12
       clear c12
       replace H := zn H
       obtain ⟨c13, H⟩ := H
       have c13b0 := decide_eq_true c13
       clear c13
       replace H := zn H
       obtain ⟨c14, H⟩ := H
       have c14b0 := decide_eq_true c14
       clear c14
       replace H := zj H
       obtain ⟨t706, A15, H⟩ := H
       obtain ⟨y707, hy707⟩ : ∃ y_ : List Int, y_ = (x5_2.set ((ji10) : Int).toNat (Int.tmod (wrap64 ((wrap64 ((rd x5_2 (ji10)) + (wrap64 ((rd l0 x19_1) * t706)))) + x7_2)) 65536)) := ⟨_, rfl⟩
       try rw [← hy707] at H
       have Ny707 := am hy707
       clear hy707
       have H' := am H
       clear H
       obtain ⟨Ao17, co17, eo17⟩ := Kd.R_slice HO_5.out
       subst eo17
       have p704 : 0 ≤ ((ji10) : Int) := zq6
       have q704 : (ji10) < (x5_2.length : Int) := zq6
       obtain ⟨ad704, e704, hx704_0⟩ := Kd.at_int (Kd.R_reads' HO_5.out).2.2 (ji10) p704 q704
       cases e704
       replace p704 := eq_true p704
       replace q704 := eq_true q704
       have p705 : 0 ≤ (x19_1 : Int) := zq6
       have q705 : x19_1 < (l0.length : Int) := zq6
       obtain ⟨ad705, e705, hx705_0⟩ := Kd.at_int HR0.out x19_1 p705 q705
       cases e705
       replace hx705_0 := (HB.out.cell (World.block_lt_of_cell? w _ hx705_0)).trans hx705_0
       replace p705 := eq_true p705
       replace q705 := eq_true q705
       go_wp2_with (first | (go_at_call 97; (with_reducible refine (rf_digit.calls _ _ l1 x8_2 t706 _ ?side1 ?side2 A15.out).mono ?_); (case side1 => exact zc (Kd.C_below HR1.out HB.out)); (case side2 => exact HC1.out); rintro e w' ⟨rfl, ⟨nd, rfl⟩⟩; (try first | exact ⟨rfl, _, World.drewN_drewN _ _ _⟩ | exact ⟨rfl, _, Eq.trans (World.drewN_drewN _ _ _) (congrArg (World.drewN _) (Nat.add_assoc _ _ _))⟩); have p16 : 0 ≤ ((ji10) : Int) := zq6; have q16 : ((ji10) : Int) < ((x5_2.length : Int) : Int) := zq6; obtain ⟨go16, co16, eo16, gb16, gl16, cl16, HG16⟩ := Kd.R_form HO_5.out (by omega); (first | cases eo16 | (injection eo16 with ea_ en_ ec_; (first | subst ea_ | (injection ea_ with ea_; subst ea_)); subst ec_; clear en_)); have GB16 := am gb16; have GG16 := am HG16; clear gb16 gl16 HG16; (first | simp only [add_plain] at hx704_0 | skip); obtain ⟨hx16_0, hf16_0⟩ := Kd.R_celln 0 HO_5.out ((ji10) : Int) p16 q16; replace p16 := eq_true p16; replace q16 := eq_true q16; obtain ⟨hy18_, hz18_⟩ := Kd.R_celln 0 HO_5.out ((ji10) : Int) zq6 zq6; have HP18 := Kd.R_putg HO_5.out ((ji10) : Int) (Int.tmod (wrap64 ((wrap64 ((rd x5_2 (ji10)) + (wrap64 ((rd l0 x19_1) * t706)))) + x7_2)) 65536)) | ((with_reducible refine gate_store (t := 3) (p := 55) rfl ?_); (try (rw [drewN_self wr]; generalize hq_ : World.drewN wr _ = wr; refine zt2 (Kd.R_at hq_ HO_5.out) (below_at hq_ HB.out) ?_; clear hq_ HO_5 HB; intro HO_5 HB; (try (obtain ⟨hy18_, hz18_⟩ := Kd.R_celln 0 HO_5.out ((ji10) : Int) zq6 zq6)); (try (have HP18 := Kd.R_putg HO_5.out ((ji10) : Int) (Int.tmod (wrap64 ((wrap64 ((rd x5_2 (ji10)) + (wrap64 ((rd l0 x19_1) * t706)))) + x7_2)) 65536))))); refine zstore (t := 3) (p := 55) (w1 := (wr.setCell ⟨go16, ((ji10) : Int).toNat, none⟩ (.int .i64 (Int.tmod (wrap64 ((wrap64 ((rd x5_2 (ji10)) + (wrap64 ((rd l0 x19_1) * t706)))) + x7_2)) 65536)))) ?_; intro w19 hw; have hg : wr.grownBy w19 (some go16) := (by rw [hw]; exact HP18.2); have hp_ : Kd.R (Kd.int .i64) 3 w19 w.heap.size (fun k_ => (w.heap.size ≤ k_)) (.slice (some ⟨go16, 0, none⟩) x5_2.length co17) y707 := (by rw [hw, Ny707.out]; exact HP18.1); clear HP18; refine zt2 (hp_) ((by rw [hw]; exact below_set (HB.out) GB16.out : Below w.heap.size w w19)) ?_; clear HO_5 HB; intro HO_5 HB; clear hg hw hp_))
       repeat (go_quiet (first | (go_at_call 97; (with_reducible refine (rf_digit.calls _ _ l1 x8_2 t706 _ ?side1 ?side2 A15.out).mono ?_); (case side1 => exact zc (Kd.C_below HR1.out HB.out)); (case side2 => exact HC1.out); rintro e w' ⟨rfl, ⟨nd, rfl⟩⟩; (try first | exact ⟨rfl, _, World.drewN_drewN _ _ _⟩ | exact ⟨rfl, _, Eq.trans (World.drewN_drewN _ _ _) (congrArg (World.drewN _) (Nat.add_assoc _ _ _))⟩); have p16 : 0 ≤ ((ji10) : Int) := zq6; have q16 : ((ji10) : Int) < ((x5_2.length : Int) : Int) := zq6; obtain ⟨go16, co16, eo16, gb16, gl16, cl16, HG16⟩ := Kd.R_form HO_5.out (by omega); (first | cases eo16 | (injection eo16 with ea_ en_ ec_; (first | subst ea_ | (injection ea_ with ea_; subst ea_)); subst ec_; clear en_)); have GB16 := am gb16; have GG16 := am HG16; clear gb16 gl16 HG16; (first | simp only [add_plain] at hx704_0 | skip); obtain ⟨hx16_0, hf16_0⟩ := Kd.R_celln 0 HO_5.out ((ji10) : Int) p16 q16; replace p16 := eq_true p16; replace q16 := eq_true q16; obtain ⟨hy18_, hz18_⟩ := Kd.R_celln 0 HO_5.out ((ji10) : Int) zq6 zq6; have HP18 := Kd.R_putg HO_5.out ((ji10) : Int) (Int.tmod (wrap64 ((wrap64 ((rd x5_2 (ji10)) + (wrap64 ((rd l0 x19_1) * t706)))) + x7_2)) 65536)) | ((with_reducible refine gate_store (t := 3) (p := 55) rfl ?_); (try (rw [drewN_self wr]; generalize hq_ : World.drewN wr _ = wr; refine zt2 (Kd.R_at hq_ HO_5.out) (below_at hq_ HB.out) ?_; clear hq_ HO_5 HB; intro HO_5 HB; (try (obtain ⟨hy18_, hz18_⟩ := Kd.R_celln 0 HO_5.out ((ji10) : Int) zq6 zq6)); (try (have HP18 := Kd.R_putg HO_5.out ((ji10) : Int) (Int.tmod (wrap64 ((wrap64 ((rd x5_2 (ji10)) + (wrap64 ((rd l0 x19_1) * t706)))) + x7_2)) 65536))))); refine zstore (t := 3) (p := 55) (w1 := (wr.setCell ⟨go16, ((ji10) : Int).toNat, none⟩ (.int .i64 (Int.tmod (wrap64 ((wrap64 ((rd x5_2 (ji10)) + (wrap64 ((rd l0 x19_1) * t706)))) + x7_2)) 65536)))) ?_; intro w19 hw; have hg : wr.grownBy w19 (some go16) := (by rw [hw]; exact HP18.2); have hp_ : Kd.R (Kd.int .i64) 3 w19 w.heap.size (fun k_ => (w.heap.size ≤ k_)) (.slice (some ⟨go16, 0, none⟩) x5_2.length co17) y707 := (by rw [hw, Ny707.out]; exact HP18.1); clear HP18; refine zt2 (hp_) ((by rw [hw]; exact below_set (HB.out) GB16.out : Below w.heap.size w w19)) ?_; clear HO_5 HB; intro HO_5 HB; clear hg hw hp_)); try go_wp2_with (first | (go_at_call 97; (with_reducible refine (rf_digit.calls _ _ l1 x8_2 t706 _ ?side1 ?side2 A15.out).mono ?_); (case side1 => exact zc (Kd.C_below HR1.out HB.out)); (case side2 => exact HC1.out); rintro e w' ⟨rfl, ⟨nd, rfl⟩⟩; (try first | exact ⟨rfl, _, World.drewN_drewN _ _ _⟩ | exact ⟨rfl, _, Eq.trans (World.drewN_drewN _ _ _) (congrArg (World.drewN _) (Nat.add_assoc _ _ _))⟩); have p16 : 0 ≤ ((ji10) : Int) := zq6; have q16 : ((ji10) : Int) < ((x5_2.length : Int) : Int) := zq6; obtain ⟨go16, co16, eo16, gb16, gl16, cl16, HG16⟩ := Kd.R_form HO_5.out (by omega); (first | cases eo16 | (injection eo16 with ea_ en_ ec_; (first | subst ea_ | (injection ea_ with ea_; subst ea_)); subst ec_; clear en_)); have GB16 := am gb16; have GG16 := am HG16; clear gb16 gl16 HG16; (first | simp only [add_plain] at hx704_0 | skip); obtain ⟨hx16_0, hf16_0⟩ := Kd.R_celln 0 HO_5.out ((ji10) : Int) p16 q16; replace p16 := eq_true p16; replace q16 := eq_true q16; obtain ⟨hy18_, hz18_⟩ := Kd.R_celln 0 HO_5.out ((ji10) : Int) zq6 zq6; have HP18 := Kd.R_putg HO_5.out ((ji10) : Int) (Int.tmod (wrap64 ((wrap64 ((rd x5_2 (ji10)) + (wrap64 ((rd l0 x19_1) * t706)))) + x7_2)) 65536)) | ((with_reducible refine gate_store (t := 3) (p := 55) rfl ?_); (try (rw [drewN_self wr]; generalize hq_ : World.drewN wr _ = wr; refine zt2 (Kd.R_at hq_ HO_5.out) (below_at hq_ HB.out) ?_; clear hq_ HO_5 HB; intro HO_5 HB; (try (obtain ⟨hy18_, hz18_⟩ := Kd.R_celln 0 HO_5.out ((ji10) : Int) zq6 zq6)); (try (have HP18 := Kd.R_putg HO_5.out ((ji10) : Int) (Int.tmod (wrap64 ((wrap64 ((rd x5_2 (ji10)) + (wrap64 ((rd l0 x19_1) * t706)))) + x7_2)) 65536))))); refine zstore (t := 3) (p := 55) (w1 := (wr.setCell ⟨go16, ((ji10) : Int).toNat, none⟩ (.int .i64 (Int.tmod (wrap64 ((wrap64 ((rd x5_2 (ji10)) + (wrap64 ((rd l0 x19_1) * t706)))) + x7_2)) 65536)))) ?_; intro w19 hw; have hg : wr.grownBy w19 (some go16) := (by rw [hw]; exact HP18.2); have hp_ : Kd.R (Kd.int .i64) 3 w19 w.heap.size (fun k_ => (w.heap.size ≤ k_)) (.slice (some ⟨go16, 0, none⟩) x5_2.length co17) y707 := (by rw [hw, Ny707.out]; exact HP18.1); clear HP18; refine zt2 (hp_) ((by rw [hw]; exact below_set (HB.out) GB16.out : Below w.heap.size w w19)) ?_; clear HO_5 HB; intro HO_5 HB; clear hg hw hp_)))
       go_roundg k2
       case measure => have := HK1.out; have := HK2.out; omega
       case rel => exact ⟨(y707), (wrap64 (Int.tdiv (wrap64 ((wrap64 ((rd x5_2 (ji10)) + (wrap64 ((rd l0 x19_1) * t706)))) + x7_2)) 65536)), (wrap64 (x8_2 + 1)), (by first | rfl | (simp; done) | (simp only [← hji10] <;> (first | rfl | simp)) | (simp [*]; done)), zq8, (by first | exact H' | (rw [hji3]; exact H') | (rw [hji10]; exact H')), ⟨by have := HK1.out; have := HK2.out; omega⟩, ⟨zq4 HO_5.out⟩, ⟨zq1⟩⟩
      ·rw [if_neg c9] at H
       have c9b0 := decide_eq_false c9
       clear c9
       by_cases c20 : x7_2 > 0
       ·rw [if_pos c20] at H
        have c20b0 : decide (0 < x7_2) = true := decide_eq_true c20
        clear c20
        obtain ⟨ji21, hji21⟩ : ∃ j_ : Int, (wrap64 (x19_1 + x8_2)) = j_ := ⟨_, rfl⟩
        replace H : (if 0 ≤ (ji21) then (if (ji21) < (x5_2.length : Int) then (if 0 ≤ x19_1 then (if x19_1 < (l0.length : Int) then ((rf_digit.f l1 x8_2).bind fun t710 => (rf_MulNat.l1 k2 l0 l1 (x5_2.set ((ji21) : Int).toNat (Int.tmod (wrap64 ((wrap64 ((rd x5_2 (ji21)) + (wrap64 ((rd l0 x19_1) * t710)))) + x7_2)) 65536)) x19_1 (wrap64 (Int.tdiv (wrap64 ((wrap64 ((rd x5_2 (ji21)) + (wrap64 ((rd l0 x19_1) * t710)))) + x7_2)) 65536)) (wrap64 (x8_2 + 1)) (l0.length : Int) x19_1)) else (none)) else (none)) else (none)) else (none)) = some r := by first | (rw [hji21] at H; exact H) | (simp only [hji21] at H ⊢; exact H)
        have hji21w : (IntKind.i64.wrap (x19_1 + x8_2)) = ji21 := (i64_w _).trans hji21
        replace H := zn H
        obtain ⟨c22, H⟩ := H
        have c22b0 := decide_eq_true c22
        clear c22
        replace H := zn H
        obtain ⟨c23, H⟩ := H
        have c23b0 := decide_eq_true c23
        clear c23
        replace H := zn H
        obtain ⟨c24, H⟩ := H
        have c24b0 := decide_eq_true c24
        clear c24
        replace H := zn H
        obtain ⟨c25, H⟩ := H
        have c25b0 := decide_eq_true c25
        clear c25
        replace H := zj H
        obtain ⟨t710, A26, H⟩ := H
        obtain ⟨y711, hy711⟩ : ∃ y_ : List Int, y_ = (x5_2.set ((ji21) : Int).toNat (Int.tmod (wrap64 ((wrap64 ((rd x5_2 (ji21)) + (wrap64 ((rd l0 x19_1) * t710)))) + x7_2)) 65536)) := ⟨_, rfl⟩
        try rw [← hy711] at H
        have Ny711 := am hy711
        clear hy711
        have H' := am H
        clear H
        obtain ⟨Ao28, co28, eo28⟩ := Kd.R_slice HO_5.out
        subst eo28
        have p708 : 0 ≤ ((ji21) : Int) := zq6
        have q708 : (ji21) < (x5_2.length : Int) := zq6
        obtain ⟨ad708, e708, hx708_0⟩ := Kd.at_int (Kd.R_reads' HO_5.out).2.2 (ji21) p708 q708
        cases e708
        replace p708 := eq_true p708
        replace q708 := eq_true q708
        have p709 : 0 ≤ (x19_1 : Int) := zq6
        have q709 : x19_1 < (l0.length : Int) := zq6
        obtain ⟨ad709, e709, hx709_0⟩ := Kd.at_int HR0.out x19_1 p709 q709
        cases e709
        replace hx709_0 := (HB.out.cell (World.block_lt_of_cell? w _ hx709_0)).trans hx709_0
        replace p709 := eq_true p709
        replace q709 := eq_true q709
        go_wp2_with (first | (go_at_call 97; (with_reducible refine (rf_digit.calls _ _ l1 x8_2 t710 _ ?side1 ?side2 A26.out).mono ?_); (case side1 => exact zc (Kd.C_below HR1.out HB.out)); (case side2 => exact HC1.out); rintro e w' ⟨rfl, ⟨nd, rfl⟩⟩; (try first | exact ⟨rfl, _, World.drewN_drewN _ _ _⟩ | exact ⟨rfl, _, Eq.trans (World.drewN_drewN _ _ _) (congrArg (World.drewN _) (Nat.add_assoc _ _ _))⟩); have p27 : 0 ≤ ((ji21) : Int) := zq6; have q27 : ((ji21) : Int) < ((x5_2.length : Int) : Int) := zq6; obtain ⟨go27, co27, eo27, gb27, gl27, cl27, HG27⟩ := Kd.R_form HO_5.out (by omega); (first | cases eo27 | (injection eo27 with ea_ en_ ec_; (first | subst ea_ | (injection ea_ with ea_; subst ea_)); subst ec_; clear en_)); have GB27 := am gb27; have GG27 := am HG27; clear gb27 gl27 HG27; (first | simp only [add_plain] at hx708_0 | skip); obtain ⟨hx27_0, hf27_0⟩ := Kd.R_celln 0 HO_5.out ((ji21) : Int) p27 q27; replace p27 := eq_true p27; replace q27 := eq_true q27; obtain ⟨hy29_, hz29_⟩ := Kd.R_celln 0 HO_5.out ((ji21) : Int) zq6 zq6; have HP29 := Kd.R_putg HO_5.out ((ji21) : Int) (Int.tmod (wrap64 ((wrap64 ((rd x5_2 (ji21)) + (wrap64 ((rd l0 x19_1) * t710)))) + x7_2)) 65536)) | ((with_reducible refine gate_store (t := 3) (p := 55) rfl ?_); (try (rw [drewN_self wr]; generalize hq_ : World.drewN wr _ = wr; refine zt2 (Kd.R_at hq_ HO_5.out) (below_at hq_ HB.out) ?_; clear hq_ HO_5 HB; intro HO_5 HB; (try (obtain ⟨hy29_, hz29_⟩ := Kd.R_celln 0 HO_5.out ((ji21) : Int) zq6 zq6)); (try (have HP29 := Kd.R_putg HO_5.out ((ji21) : Int) (Int.tmod (wrap64 ((wrap64 ((rd x5_2 (ji21)) + (wrap64 ((rd l0 x19_1) * t710)))) + x7_2)) 65536))))); refine zstore (t := 3) (p := 55) (w1 := (wr.setCell ⟨go27, ((ji21) : Int).toNat, none⟩ (.int .i64 (Int.tmod (wrap64 ((wrap64 ((rd x5_2 (ji21)) + (wrap64 ((rd l0 x19_1) * t710)))) + x7_2)) 65536)))) ?_; intro w30 hw; have hg : wr.grownBy w30 (some go27) := (by rw [hw]; exact HP29.2); have hp_ : Kd.R (Kd.int .i64) 3 w30 w.heap.size (fun k_ => (w.heap.size ≤ k_)) (.slice (some ⟨go27, 0, none⟩) x5_2.length co28) y711 := (by rw [hw, Ny711.out]; exact HP29.1); clear HP29; refine zt2 (hp_) ((by rw [hw]; exact below_set (HB.out) GB27.out : Below w.heap.size w w30)) ?_; clear HO_5 HB; intro HO_5 HB; clear hg hw hp_))
        repeat (go_quiet (first | (go_at_call 97; (with_reducible refine (rf_digit.calls _ _ l1 x8_2 t710 _ ?side1 ?side2 A26.out).mono ?_); (case side1 => exact zc (Kd.C_below HR1.out HB.out)); (case side2 => exact HC1.out); rintro e w' ⟨rfl, ⟨nd, rfl⟩⟩; (try first | exact ⟨rfl, _, World.drewN_drewN _ _ _⟩ | exact ⟨rfl, _, Eq.trans (World.drewN_drewN _ _ _) (congrArg (World.drewN _) (Nat.add_assoc _ _ _))⟩); have p27 : 0 ≤ ((ji21) : Int) := zq6; have q27 : ((ji21) : Int) < ((x5_2.length : Int) : Int) := zq6; obtain ⟨go27, co27, eo27, gb27, gl27, cl27, HG27⟩ := Kd.R_form HO_5.out (by omega); (first | cases eo27 | (injection eo27 with ea_ en_ ec_; (first | subst ea_ | (injection ea_ with ea_; subst ea_)); subst ec_; clear en_)); have GB27 := am gb27; have GG27 := am HG27; clear gb27 gl27 HG27; (first | simp only [add_plain] at hx708_0 | skip); obtain ⟨hx27_0, hf27_0⟩ := Kd.R_celln 0 HO_5.out ((ji21) : Int) p27 q27; replace p27 := eq_true p27; replace q27 := eq_true q27; obtain ⟨hy29_, hz29_⟩ := Kd.R_celln 0 HO_5.out ((ji21) : Int) zq6 zq6; have HP29 := Kd.R_putg HO_5.out ((ji21) : Int) (Int.tmod (wrap64 ((wrap64 ((rd x5_2 (ji21)) + (wrap64 ((rd l0 x19_1) * t710)))) + x7_2)) 65536)) | ((with_reducible refine gate_store (t := 3) (p := 55) rfl ?_); (try (rw [drewN_self wr]; generalize hq_ : World.drewN wr _ = wr; refine zt2 (Kd.R_at hq_ HO_5.out) (below_at hq_ HB.out) ?_; clear hq_ HO_5 HB; intro HO_5 HB; (try (obtain ⟨hy29_, hz29_⟩ := Kd.R_celln 0 HO_5.out ((ji21) : Int) zq6 zq6)); (try (have HP29 := Kd.R_putg HO_5.out ((ji21) : Int) (Int.tmod (wrap64 ((wrap64 ((rd x5_2 (ji21)) + (wrap64 ((rd l0 x19_1) * t710)))) + x7_2)) 65536))))); refine zstore (t := 3) (p := 55) (w1 := (wr.setCell ⟨go27, ((ji21) : Int).toNat, none⟩ (.int .i64 (Int.tmod (wrap64 ((wrap64 ((rd x5_2 (ji21)) + (wrap64 ((rd l0 x19_1) * t710)))) + x7_2)) 65536)))) ?_; intro w30 hw; have hg : wr.grownBy w30 (some go27) := (by rw [hw]; exact HP29.2); have hp_ : Kd.R (Kd.int .i64) 3 w30 w.heap.size (fun k_ => (w.heap.size ≤ k_)) (.slice (some ⟨go27, 0, none⟩) x5_2.length co28) y711 := (by rw [hw, Ny711.out]; exact HP29.1); clear HP29; refine zt2 (hp_) ((by rw [hw]; exact below_set (HB.out) GB27.out : Below w.heap.size w w30)) ?_; clear HO_5 HB; intro HO_5 HB; clear hg hw hp_)); try go_wp2_with (first | (go_at_call 97; (with_reducible refine (rf_digit.calls _ _ l1 x8_2 t710 _ ?side1 ?side2 A26.out).mono ?_); (case side1 => exact zc (Kd.C_below HR1.out HB.out)); (case side2 => exact HC1.out); rintro e w' ⟨rfl, ⟨nd, rfl⟩⟩; (try first | exact ⟨rfl, _, World.drewN_drewN _ _ _⟩ | exact ⟨rfl, _, Eq.trans (World.drewN_drewN _ _ _) (congrArg (World.drewN _) (Nat.add_assoc _ _ _))⟩); have p27 : 0 ≤ ((ji21) : Int) := zq6; have q27 : ((ji21) : Int) < ((x5_2.length : Int) : Int) := zq6; obtain ⟨go27, co27, eo27, gb27, gl27, cl27, HG27⟩ := Kd.R_form HO_5.out (by omega); (first | cases eo27 | (injection eo27 with ea_ en_ ec_; (first | subst ea_ | (injection ea_ with ea_; subst ea_)); subst ec_; clear en_)); have GB27 := am gb27; have GG27 := am HG27; clear gb27 gl27 HG27; (first | simp only [add_plain] at hx708_0 | skip); obtain ⟨hx27_0, hf27_0⟩ := Kd.R_celln 0 HO_5.out ((ji21) : Int) p27 q27; replace p27 := eq_true p27; replace q27 := eq_true q27; obtain ⟨hy29_, hz29_⟩ := Kd.R_celln 0 HO_5.out ((ji21) : Int) zq6 zq6; have HP29 := Kd.R_putg HO_5.out ((ji21) : Int) (Int.tmod (wrap64 ((wrap64 ((rd x5_2 (ji21)) + (wrap64 ((rd l0 x19_1) * t710)))) + x7_2)) 65536)) | ((with_reducible refine gate_store (t := 3) (p := 55) rfl ?_); (try (rw [drewN_self wr]; generalize hq_ : World.drewN wr _ = wr; refine zt2 (Kd.R_at hq_ HO_5.out) (below_at hq_ HB.out) ?_; clear hq_ HO_5 HB; intro HO_5 HB; (try (obtain ⟨hy29_, hz29_⟩ := Kd.R_celln 0 HO_5.out ((ji21) : Int) zq6 zq6)); (try (have HP29 := Kd.R_putg HO_5.out ((ji21) : Int) (Int.tmod (wrap64 ((wrap64 ((rd x5_2 (ji21)) + (wrap64 ((rd l0 x19_1) * t710)))) + x7_2)) 65536))))); refine zstore (t := 3) (p := 55) (w1 := (wr.setCell ⟨go27, ((ji21) : Int).toNat, none⟩ (.int .i64 (Int.tmod (wrap64 ((wrap64 ((rd x5_2 (ji21)) + (wrap64 ((rd l0 x19_1) * t710)))) + x7_2)) 65536)))) ?_; intro w30 hw; have hg : wr.grownBy w30 (some go27) := (by rw [hw]; exact HP29.2); have hp_ : Kd.R (Kd.int .i64) 3 w30 w.heap.size (fun k_ => (w.heap.size ≤ k_)) (.slice (some ⟨go27, 0, none⟩) x5_2.length co28) y711 := (by rw [hw, Ny711.out]; exact HP29.1); clear HP29; refine zt2 (hp_) ((by rw [hw]; exact below_set (HB.out) GB27.out : Below w.heap.size w w30)) ?_; clear HO_5 HB; intro HO_5 HB; clear hg hw hp_)))
        go_roundg k2
        case measure => have := HK1.out; have := HK2.out; omega
        case rel => exact ⟨(y711), (wrap64 (Int.tdiv (wrap64 ((wrap64 ((rd x5_2 (ji21)) + (wrap64 ((rd l0 x19_1) * t710)))) + x7_2)) 65536)), (wrap64 (x8_2 + 1)), (by first | rfl | (simp; done) | (simp only [← hji21] <;> (first | rfl | simp)) | (simp [*]; done)), zq8, (by first | exact H' | (rw [hji3]; exact H') | (rw [hji21]; exact H')), ⟨by have := HK1.out; have := HK2.out; omega⟩, ⟨zq4 HO_5.out⟩, ⟨zq1⟩⟩
       ·rw [if_neg c20] at H
        have c20b0 : decide (0 < x7_2) = false := decide_eq_false c20
        clear c20
        have H' := am H
        clear H
        go_wp2
        repeat (go_quiet (fail); try go_wp2)
        go_roundg k2
        case measure => have := HK1.out; have := HK2.out; omega
        case rel => exact ⟨(x5_2), (wrap64 (x19_1 + 1)), zq8, (by first | exact H' | (rw [hji3]; exact H')), ⟨by have := HK1.out; have := HK2.out; omega⟩, ⟨zq4 HO_5.out⟩, ⟨zq1⟩⟩
   ·rw [if_neg c8] at H
    have c8b0 := decide_eq_false c8
    clear c8
    replace H := zj H
    obtain ⟨t701, A31, H⟩ := H
    obtain rfl := Option.some.inj H
    obtain ⟨Ao32, co32, eo32⟩ := Kd.R_slice HO_5.out
    subst eo32
    go_wp2_with (first | (go_at_call 96; (with_reducible refine (rf_trim.calls k1 (fun k_ => some k_ = (.slice Ao32 x5_1.length co32 : Value).ownBlock) _ _ x5_1 t701 _ ?side1 A31.out).mono ?_); (case side1 => exact Kd.R_V (Kd.R_tight rfl (HO_5.out))); rintro e w33 ⟨v702, rfl, ho0, hb⟩; refine zt3 (rb HO_5 hb) (Kd.V_lower (Kd.V_mono (ok' := fun k_ => (w.heap.size ≤ k_)) ho0 (fun k_ hk_ => Or.elim hk_ (fun hs_ => ((HO_5.out).1 k_ hs_.symm)) (fun hn_ => (Nat.le_trans (below_size zq1) hn_)))) (below_size zq1)) (below_step zq1 hb) ?_; clear HO_5 HB; intro HO_5 HO703 HB))
    repeat (go_quiet (first | (go_at_call 96; (with_reducible refine (rf_trim.calls k1 (fun k_ => some k_ = (.slice Ao32 x5_1.length co32 : Value).ownBlock) _ _ x5_1 t701 _ ?side1 A31.out).mono ?_); (case side1 => exact Kd.R_V (Kd.R_tight rfl (HO_5.out))); rintro e w33 ⟨v702, rfl, ho0, hb⟩; refine zt3 (rb HO_5 hb) (Kd.V_lower (Kd.V_mono (ok' := fun k_ => (w.heap.size ≤ k_)) ho0 (fun k_ hk_ => Or.elim hk_ (fun hs_ => ((HO_5.out).1 k_ hs_.symm)) (fun hn_ => (Nat.le_trans (below_size zq1) hn_)))) (below_size zq1)) (below_step zq1 hb) ?_; clear HO_5 HB; intro HO_5 HO703 HB)); try go_wp2_with (first | (go_at_call 96; (with_reducible refine (rf_trim.calls k1 (fun k_ => some k_ = (.slice Ao32 x5_1.length co32 : Value).ownBlock) _ _ x5_1 t701 _ ?side1 A31.out).mono ?_); (case side1 => exact Kd.R_V (Kd.R_tight rfl (HO_5.out))); rintro e w33 ⟨v702, rfl, ho0, hb⟩; refine zt3 (rb HO_5 hb) (Kd.V_lower (Kd.V_mono (ok' := fun k_ => (w.heap.size ≤ k_)) ho0 (fun k_ hk_ => Or.elim hk_ (fun hs_ => ((HO_5.out).1 k_ hs_.symm)) (fun hn_ => (Nat.le_trans (below_size zq1) hn_)))) (below_size zq1)) (below_step zq1 hb) ?_; clear HO_5 HB; intro HO_5 HO703 HB)))
    go_ret
    exact ⟨_, by first | rfl | (simp [errW_none, errW_some] <;> rfl) | (simp only [← hji3]; first | rfl | (simp [errW_none, errW_some] <;> rfl)) | (simp [*, errW_none, errW_some] <;> rfl), zq3 HO703.out, zq1⟩
mutual
def rf_AddNat.l0 : Nat → List Int → List Int → List Int → Int → Int → Option (List Int)
 | 0, _, _, _, _, _ => none
 | k + 1, x0, x1, x5, x6, x7 => if x7 < (x0.length : Int) then (rf_AddNat.j1 k x0 x1 x5 x6 x7 true) else (if x7 < (x1.length : Int) then (rf_AddNat.j1 k x0 x1 x5 x6 x7 true) else (rf_AddNat.j1 k x0 x1 x5 x6 x7 (decide (x6 > 0))))
def rf_AddNat.j1 : Nat → List Int → List Int → List Int → Int → Int → Bool → Option (List Int)
 | 0, _, _, _, _, _, _ => none
 | k + 1, x0, x1, x5, x6, x7, x22 => if x22 = true then ((rf_digit.f x0 x7).bind fun t646 => ((rf_digit.f x1 x7).bind fun t647 => (if x5.length < 17592186044416 then (rf_AddNat.l0 k x0 x1 (x5 ++ [Int.tmod (wrap64 ((wrap64 (t646 + t647)) + x6)) 65536]) (wrap64 (Int.tdiv (wrap64 ((wrap64 (t646 + t647)) + x6)) 65536)) (wrap64 (x7 + 1))) else (none)))) else ((rf_trim.f k x5).bind fun t651 => (some t651))
end
def rf_AddNat.f (k : Nat) (l0 : List Int) (l1 : List Int) : Option (List Int) := rf_AddNat.l0 k l0 l1 ([] : List Int) 0 0
theorem rf_AddNat.mono_l : ∀ k, (∀ y0 y1 y2 y3 y4, LeO (rf_AddNat.l0 k y0 y1 y2 y3 y4) (rf_AddNat.l0 (k + 1) y0 y1 y2 y3 y4)) ∧ (∀ y0 y1 y2 y3 y4 y5, LeO (rf_AddNat.j1 k y0 y1 y2 y3 y4 y5) (rf_AddNat.j1 (k + 1) y0 y1 y2 y3 y4 y5))
 | 0 => ⟨fun _ _ _ _ _ r h => by simp [rf_AddNat.l0] at h, fun _ _ _ _ _ _ r h => by simp [rf_AddNat.j1] at h⟩
 | k + 1 => by
  obtain ⟨ih0, ih1⟩ := rf_AddNat.mono_l k
  refine ⟨?_, ?_⟩
  ·intro y0 y1 y2 y3 y4
   unfold rf_AddNat.l0
   have m0 := ih0
   have m1 := ih1
   have m2 := @rf_trim.mono
   exact zm
  ·intro y0 y1 y2 y3 y4 y5
   unfold rf_AddNat.j1
   have m0 := ih0
   have m1 := ih1
   have m2 := @rf_trim.mono
   exact zm
theorem rf_AddNat.mono : ∀ a0 a1 k, LeO (rf_AddNat.f k a0 a1) (rf_AddNat.f (k + 1) a0 a1) := by
 intro a0 a1 k
 obtain ⟨ih0, ih1⟩ := rf_AddNat.mono_l k
 unfold rf_AddNat.f
 have m0 := ih0
 have m1 := ih1
 have m2 := @rf_trim.mono
 exact zm
set_option maxHeartbeats 8000000 in
set_option maxRecDepth 100000 in
theorem rf_AddNat.calls (k : Nat) (A0 : Option Addr) (c0 : Nat) (l0 : List Int) (A1 : Option Addr) (c1 : Nat) (l1 : List Int) (r : List Int) (w : World) (hr0 : Kd.C (Kd.int .i64) w A0 l0.length l0) (hc0 : l0.length ≤ c0) (hr1 : Kd.C (Kd.int .i64) w A1 l1.length l1) (hc1 : l1.length ≤ c1) (h : rf_AddNat.f k l0 l1 = some r) :
  Calls Tryd.prog 90 #[.slice A0 l0.length c0, .slice A1 l1.length c1] w fun e w' => ∃ v0_ : Value, e = .returned (v0_) ∧ Kd.V (Kd.int .i64) 3 w' w.heap.size (fun k_ => (w.heap.size ≤ k_)) v0_ r ∧ Below w.heap.size w w' := by
 have HR0 := am hr0
 have HC0 := am hc0
 clear hr0 hc0
 have HR1 := am hr1
 have HC1 := am hc1
 clear hr1 hc1
 have HB := am (Below.refl w.heap.size w)
 have H := h
 unfold rf_AddNat.f at H
 clear h
 have H' := am H
 clear H
 go_enter Tryd.func90, Tryd.ntmps90
 go_wp2
 go_loopg [5, 6, 7] k (fun kq v5 v6 v7 w' => ∃ (x5_1 : List Int) (x6_1 : Int) (x7_1 : Int), v6 = .int .i64 x6_1 ∧ v7 = .int .i64 x7_1 ∧ Aside0 (rf_AddNat.l0 kq l0 l1 x5_1 x6_1 x7_1 = some r) ∧ Aside0 (kq ≤ k) ∧ Aside0 (Kd.R (Kd.int .i64) 3 w' w.heap.size (fun k_ => (w.heap.size ≤ k_)) v5 x5_1) ∧ Aside0 (Below w.heap.size w w'))
 case atStart => exact ⟨(([] : List Int)), (0), (0), zq8, zq8, H', ⟨Nat.le_refl _⟩, ⟨by first | exact Kd.R_nil _ _ _ _ _ | exact Kd.N_nil _ _ _ _ _ | exact Kd.V_nil _ _ _ _ _ | exact Kd.Q_nil _ _ _ _ _ | exact Kd.S_nil _ _ _ _ _⟩, ⟨zq1⟩⟩
 case round =>
  clear H'
  obtain ⟨x5_1, x6_1, x7_1, rfl, rfl, HA, HK1, HO_5, HB⟩ := hrel
  cases gk with
  | zero => exact absurd HA.out (by simp [rf_AddNat.l0])
  | succ k1 =>
   have H := HA.out
   clear HA
   simp only [rf_AddNat.l0] at H
   have HC3 := am H
   clear H
   go_upto_region 4 with (fail)
   go_cut [22] (fun v22 wc => ∃ (kq : Nat) (x22_2 : Bool), v22 = .bool x22_2 ∧ Aside0 (rf_AddNat.j1 kq l0 l1 x5_1 x6_1 x7_1 x22_2 = some r) ∧ Aside0 (kq ≤ k1) ∧ Aside0 (Kd.R (Kd.int .i64) 3 wc w.heap.size (fun k_ => (w.heap.size ≤ k_)) u5 x5_1) ∧ Aside0 (Below w.heap.size w wc))
   case first =>
    have H := HC3.out
    clear HC3
    by_cases c4 : x7_1 < (l0.length : Int)
    ·rw [if_pos c4] at H
     have c4b0 := decide_eq_true c4
     clear c4
     (first | rw [c4b0] | (simp only [i64_w, i32_w]; rw [c4b0]) | skip)
     have H' := am H
     clear H
     go_wp2
     go_meet
     case rel => exact ⟨_, (true), zq8, H', ⟨by have := HK1.out; first | omega | exact Nat.le_refl _⟩, ⟨zq4 HO_5.out⟩, ⟨zq1⟩⟩
    ·rw [if_neg c4] at H
     have c4b0 := decide_eq_false c4
     clear c4
     (first | rw [c4b0] | (simp only [i64_w, i32_w]; rw [c4b0]) | skip)
     by_cases c5 : x7_1 < (l1.length : Int)
     ·rw [if_pos c5] at H
      have c5b0 := decide_eq_true c5
      clear c5
      have H' := am H
      clear H
      go_wp2
      go_meet
      case rel => exact ⟨_, (true), zq8, H', ⟨by have := HK1.out; first | omega | exact Nat.le_refl _⟩, ⟨zq4 HO_5.out⟩, ⟨zq1⟩⟩
     ·rw [if_neg c5] at H
      have c5b0 := decide_eq_false c5
      clear c5
      have H' := am H
      clear H
      go_wp2
      go_meet
      case rel => exact ⟨_, (decide (x6_1 > 0)), zq8, H', ⟨by have := HK1.out; first | omega | exact Nat.le_refl _⟩, ⟨zq4 HO_5.out⟩, ⟨zq1⟩⟩
   case rest =>
    clear HC3
    obtain ⟨kq, x22_2, rfl, HA, HJ2, HO_5, HB⟩ := hcut
    cases kq with
    | zero => exact absurd HA.out (by simp [rf_AddNat.j1])
    | succ kj2 =>
     have H := HA.out
     clear HA
     simp only [rf_AddNat.j1] at H
     by_cases c6 : x22_2 = true
     ·subst c6
      have H1 : ((rf_digit.f l0 x7_1).bind fun t646 => ((rf_digit.f l1 x7_1).bind fun t647 => (if x5_1.length < 17592186044416 then (rf_AddNat.l0 kj2 l0 l1 (x5_1 ++ [Int.tmod (wrap64 ((wrap64 (t646 + t647)) + x6_1)) 65536]) (wrap64 (Int.tdiv (wrap64 ((wrap64 (t646 + t647)) + x6_1)) 65536)) (wrap64 (x7_1 + 1))) else (none)))) = some r := by rw [if_pos rfl] at H; exact H
      clear H
      have H := H1
      clear H1
      replace H := zj H
      obtain ⟨t646, A7, H⟩ := H
      replace H := zj H
      obtain ⟨t647, A8, H⟩ := H
      replace H := zn H
      obtain ⟨c9, H⟩ := H
      have LMc9 := am c9
      clear c9
      obtain ⟨y648, hy648⟩ : ∃ y_ : List Int, y_ = (x5_1 ++ [Int.tmod (wrap64 ((wrap64 (t646 + t647)) + x6_1)) 65536]) := ⟨_, rfl⟩
      try rw [← hy648] at H
      have Ny648 := am hy648
      clear hy648
      have H' := am H
      clear H
      go_wp2_with (first | ((with_reducible refine gate_callee (f := 97) rfl ?_); refine goesL_ (some 27) rfl rfl Tryd.func97 (by kernel_rfl) rfl #[.slice A0 l0.length c0, .int .i64 x7_1] rfl zq5 ?_; (with_reducible refine (rf_digit.calls _ _ l0 x7_1 t646 _ ?side1 ?side2 A7.out).mono ?_); (case side1 => exact zc (Kd.C_below HR0.out HB.out)); (case side2 => exact HC0.out); rintro e w' ⟨rfl, ⟨nd, rfl⟩⟩; refine ⟨_, rfl, ?_⟩) | ((with_reducible refine gate_callee (f := 97) rfl ?_); refine goesL_ (some 30) rfl rfl Tryd.func97 (by kernel_rfl) rfl #[.slice A1 l1.length c1, .int .i64 x7_1] rfl zq5 ?_; (with_reducible refine (rf_digit.calls _ _ l1 x7_1 t647 _ ?side1 ?side2 A8.out).mono ?_); (case side1 => exact zc (Kd.C_below HR1.out zq1)); (case side2 => exact HC1.out); rintro e w' ⟨rfl, ⟨nd, rfl⟩⟩; refine ⟨_, rfl, ?_⟩) | ((with_reducible refine gate_builtin (b := .append) (xs := #[.tmp 34, .tmp 37]) rfl ?_); (try (refine gate_guard (by rfl) ?_; dsimp only)); at_builtin; refine Kd.R_append (Kd.int .i64) (w0 := w) w.heap.size rfl (.tmp 34) (.tmp 37) 39 3 (.int .i64 0) 8 rfl Tryd.underlying39 info3 rfl (by decide) (by omega) u5 x5_1 (Int.tmod (wrap64 ((wrap64 (t646 + t647)) + x6_1)) 65536) [.int .i64 (Int.tmod (wrap64 ((wrap64 (t646 + t647)) + x6_1)) 65536)] (fun k_ => (w.heap.size ≤ k_)) (fun _ => False) rfl rfl ?aP (fun _ hk => hk.elim) ?aF ?aO ?aB ?aS ?aL ?_; (case aP => exact rfl); (case aB => exact zq1); (case aF => exact (fun k_ hk => (Nat.le_trans (below_size zq1) hk))); (case aO => exact (zq4 HO_5.out)); (case aS => exact (below_size zq1)); (case aL => have := LMc9.out; omega); intro v649 w10 ho hb hg hat; rw [← Ny648.out] at ho; refine zt2 (hb) (ho) ?_; clear HB HO_5; intro HB HO650; clear ho hb hg hat))
      go_roundg kj2
      case measure => have := HK1.out; have := HJ2.out; omega
      case rel => exact ⟨(y648), (wrap64 (Int.tdiv (wrap64 ((wrap64 (t646 + t647)) + x6_1)) 65536)), (wrap64 (x7_1 + 1)), zq8, zq8, H', ⟨by have := HK1.out; have := HJ2.out; omega⟩, ⟨zq4 HO650.out⟩, ⟨zq1⟩⟩
     ·replace c6 := Bool.eq_false_iff.mpr c6
      subst c6
      have H1 : ((rf_trim.f kj2 x5_1).bind fun t651 => (some t651)) = some r := by rw [if_neg (show ¬ (false = true) by decide)] at H; exact H
      clear H
      have H := H1
      clear H1
      replace H := zj H
      obtain ⟨t651, A11, H⟩ := H
      obtain rfl := Option.some.inj H
      obtain ⟨Ao12, co12, eo12⟩ := Kd.R_slice HO_5.out
      subst eo12
      go_wp2_with (first | ((with_reducible refine gate_callee (f := 96) rfl ?_); refine goesL_ (some 42) rfl rfl Tryd.func96 (by kernel_rfl) rfl #[.slice Ao12 x5_1.length co12] rfl zq5 ?_; (with_reducible refine (rf_trim.calls kj2 (fun k_ => some k_ = (.slice Ao12 x5_1.length co12 : Value).ownBlock) _ _ x5_1 t651 _ ?side1 A11.out).mono ?_); (case side1 => exact Kd.R_V (Kd.R_tight rfl (HO_5.out))); rintro e w13 ⟨v652, rfl, ho0, hb⟩; refine ⟨_, rfl, ?_⟩; refine zt3 (rb HO_5 hb) (Kd.V_lower (Kd.V_mono (ok' := fun k_ => (w.heap.size ≤ k_)) ho0 (fun k_ hk_ => Or.elim hk_ (fun hs_ => ((HO_5.out).1 k_ hs_.symm)) (fun hn_ => (Nat.le_trans (below_size zq1) hn_)))) (below_size zq1)) (below_step zq1 hb) ?_; clear HO_5 HB; intro HO_5 HO653 HB))
      go_ret
      exact ⟨_, zq9, zq3 HO653.out, zq1⟩
def rf_LenNat.l0 : Nat → Int → Int → Option (Int)
 | 0, _, _ => none
 | k + 1, x3, x4 => if x4 > 0 then (rf_LenNat.l0 k (wrap64 (x3 + 1)) (x4 / 2)) else (some x3)
def rf_LenNat.f (k : Nat) (l0 : List Int) : Option (Int) := if (l0.length : Int) > 0 then (if 0 ≤ (wrap64 ((l0.length : Int) - 1)) then (if (wrap64 ((l0.length : Int) - 1)) < (l0.length : Int) then (rf_LenNat.l0 k (wrap64 (16 * (wrap64 ((l0.length : Int) - 1)))) (rd l0 (wrap64 ((l0.length : Int) - 1)))) else (none)) else (none)) else (some 0)
theorem rf_LenNat.mono_l : ∀ k, (∀ y0 y1, LeO (rf_LenNat.l0 k y0 y1) (rf_LenNat.l0 (k + 1) y0 y1))
 | 0 => fun _ _ r h => by simp [rf_LenNat.l0] at h
 | k + 1 => by
  have ih0 := rf_LenNat.mono_l k
  ·intro y0 y1
   unfold rf_LenNat.l0
   have m0 := ih0
   exact zm
theorem rf_LenNat.mono : ∀ a0 k, LeO (rf_LenNat.f k a0) (rf_LenNat.f (k + 1) a0) := by
 intro a0 k
 have ih0 := rf_LenNat.mono_l k
 unfold rf_LenNat.f
 have m0 := ih0
 exact zm
set_option maxHeartbeats 8000000 in
set_option maxRecDepth 100000 in
theorem rf_LenNat.calls (k : Nat) (A0 : Option Addr) (c0 : Nat) (l0 : List Int) (r : Int) (w : World) (hr0 : Kd.C (Kd.int .i64) w A0 l0.length l0) (hc0 : l0.length ≤ c0) (h : rf_LenNat.f k l0 = some r) :
  Calls Tryd.prog 113 #[.slice A0 l0.length c0] w fun e w' => e = .returned (.int .i64 r) ∧ Drawn0 w w' := by
 have HR0 := am hr0
 have HC0 := am hc0
 clear hr0 hc0
 have H := h
 unfold rf_LenNat.f at H
 clear h
 by_cases c2 : (l0.length : Int) > 0
 ·rw [if_pos c2] at H
  have c2b0 : decide (0 < (l0.length : Int)) = true := decide_eq_true c2
  have c2b1 : decide (0 < l0.length) = true := decide_eq_true (by omega)
  clear c2
  obtain ⟨ji3, hji3⟩ : ∃ j_ : Int, (wrap64 ((l0.length : Int) - 1)) = j_ := ⟨_, rfl⟩
  replace H : (if 0 ≤ (ji3) then (if (ji3) < (l0.length : Int) then (rf_LenNat.l0 k (wrap64 (16 * (ji3))) (rd l0 (ji3))) else (none)) else (none)) = some r := by first | (rw [hji3] at H; exact H) | (simp only [hji3] at H ⊢; exact H)
  have hji3w : (IntKind.i64.wrap ((l0.length : Int) - 1)) = ji3 := (i64_w _).trans hji3
  replace H := zn H
  obtain ⟨c4, H⟩ := H
  have c4b0 := decide_eq_true c4
  clear c4
  replace H := zn H
  obtain ⟨c5, H⟩ := H
  have c5b0 := decide_eq_true c5
  clear c5
  have H' := am H
  clear H
  have p654 : 0 ≤ ((ji3) : Int) := zq6
  have q654 : (ji3) < (l0.length : Int) := zq6
  obtain ⟨ad654, e654, hx654_0⟩ := Kd.at_int HR0.out (ji3) p654 q654
  cases e654
  replace p654 := eq_true p654
  replace q654 := eq_true q654
  go_enter Tryd.func113, Tryd.ntmps113
  go_wp2
  go_loopg [3, 4] k (fun kq v3 v4 w' => ∃ (x3_1 : Int) (x4_1 : Int), v3 = .int .i64 x3_1 ∧ v4 = .int .i64 x4_1 ∧ Aside0 (rf_LenNat.l0 kq x3_1 x4_1 = some r) ∧ Aside0 (kq ≤ k) ∧ Drawn0 w w')
  case atStart => exact ⟨(wrap64 (16 * (ji3))), (rd l0 (ji3)), (by first | rfl | (simp; done) | (simp only [← hji3] <;> (first | rfl | simp)) | (simp [*]; done)), (by first | rfl | (simp; done) | (simp only [← hji3] <;> (first | rfl | simp)) | (simp [*]; done)), H', ⟨Nat.le_refl _⟩, by repeat (first | exact Drawn0.refl _ | apply Drawn0.step)⟩
  case round =>
   clear H'
   obtain ⟨x3_1, x4_1, rfl, rfl, HA, HK1, ⟨m1, rfl⟩⟩ := hrel
   cases gk with
   | zero => exact absurd HA.out (by simp [rf_LenNat.l0])
   | succ k1 =>
    have H := HA.out
    clear HA
    simp only [rf_LenNat.l0] at H
    by_cases c6 : x4_1 > 0
    ·rw [if_pos c6] at H
     have c6b0 : decide (0 < x4_1) = true := decide_eq_true c6
     clear c6
     have H' := am H
     clear H
     go_wp2
     go_roundg k1
     case measure => have := HK1.out; omega
     case rel => exact ⟨(wrap64 (x3_1 + 1)), (x4_1 / 2), zq8, zq8, (by first | exact H' | (rw [hji3]; exact H')), ⟨by have := HK1.out; omega⟩, by repeat (first | exact Drawn0.refl _ | apply Drawn0.step)⟩
    ·rw [if_neg c6] at H
     have c6b0 : decide (0 < x4_1) = false := decide_eq_false c6
     clear c6
     obtain rfl := Option.some.inj H
     go_wp2
     go_ret
     exact ⟨by first | rfl | (simp; done) | (simp only [← hji3] <;> (first | rfl | simp)) | (simp [*]; done), by repeat (first | exact Drawn0.refl _ | apply Drawn0.step)⟩
 ·rw [if_neg c2] at H
  have c2b0 : decide (0 < (l0.length : Int)) = false := decide_eq_false c2
  have c2b1 : decide (0 < l0.length) = false := decide_eq_false (by omega)
  clear c2
  obtain rfl := Option.some.inj H
  go_enter Tryd.func113, Tryd.ntmps113
  go_wp2
  go_ret
  exact ⟨by first | rfl | (simp; done) | (simp [*]; done), by repeat (first | exact Drawn0.refl _ | apply Drawn0.step)⟩
mutual
def rf_DivNat.l0 : Nat → List Int → List Int → List Int → List Int → Int → Option (List Int × List Int)
 | 0, _, _, _, _, _ => none
 | k + 1, x0, x1, x6, x7, x8 => if x8 ≥ 0 then ((rf_ShlNat.f k x7 1).bind fun t662 => ((rf_bit.f x0 x8).bind fun t665 => (if t665 = 1 then ((rf_AddNat.f k t662 (([1] : List Int))).bind fun t669 => (rf_DivNat.j1 k x0 x1 x6 t669 x8)) else (rf_DivNat.j1 k x0 x1 x6 t662 x8)))) else ((rf_trim.f k x6).bind fun t659 => (some (t659, x7)))
def rf_DivNat.j1 : Nat → List Int → List Int → List Int → List Int → Int → Option (List Int × List Int)
 | 0, _, _, _, _, _ => none
 | k + 1, x0, x1, x6, x7, x8 => (rf_CmpNat.f k x7 x1).bind fun t672 => (if t672 ≥ 0 then ((rf_SubNat.f k x7 x1).bind fun t673 => (if 0 ≤ (wrap64 (Int.tdiv x8 16)) then (if (wrap64 (Int.tdiv x8 16)) < (x6.length : Int) then (if 0 ≤ (Int.tmod x8 16) then (rf_DivNat.l0 k x0 x1 (x6.set ((wrap64 (Int.tdiv x8 16)) : Int).toNat (Go.bits .or .i64 (rd x6 (wrap64 (Int.tdiv x8 16))) (shl .i64 1 (Int.tmod x8 16)))) t673 (wrap64 (x8 - 1))) else (none)) else (none)) else (none))) else (rf_DivNat.l0 k x0 x1 x6 x7 (wrap64 (x8 - 1))))
end
def rf_DivNat.f (k : Nat) (l0 : List Int) (l1 : List Int) : Option (List Int × List Int) := if 0 ≤ (l0.length : Int) then (if ((l0.length : Int) : Int).toNat ≤ 35184372088832 then ((rf_LenNat.f k l0).bind fun t658 => (rf_DivNat.l0 k l0 l1 (List.replicate ((l0.length : Int) : Int).toNat 0) ([] : List Int) (wrap64 (t658 - 1)))) else (none)) else (none)
theorem rf_DivNat.mono_l : ∀ k, (∀ y0 y1 y2 y3 y4, LeO (rf_DivNat.l0 k y0 y1 y2 y3 y4) (rf_DivNat.l0 (k + 1) y0 y1 y2 y3 y4)) ∧ (∀ y0 y1 y2 y3 y4, LeO (rf_DivNat.j1 k y0 y1 y2 y3 y4) (rf_DivNat.j1 (k + 1) y0 y1 y2 y3 y4))
 | 0 => ⟨fun _ _ _ _ _ r h => by simp [rf_DivNat.l0] at h, fun _ _ _ _ _ r h => by simp [rf_DivNat.j1] at h⟩
 | k + 1 => by
  obtain ⟨ih0, ih1⟩ := rf_DivNat.mono_l k
  refine ⟨?_, ?_⟩
  ·intro y0 y1 y2 y3 y4
   unfold rf_DivNat.l0
   have m0 := ih0
   have m1 := ih1
   have m2 := @rf_AddNat.mono
   have m3 := @rf_CmpNat.mono
   have m4 := @rf_LenNat.mono
   have m5 := @rf_ShlNat.mono
   have m6 := @rf_SubNat.mono
   have m7 := @rf_trim.mono
   exact zm
  ·intro y0 y1 y2 y3 y4
   unfold rf_DivNat.j1
   have m0 := ih0
   have m1 := ih1
   have m2 := @rf_AddNat.mono
   have m3 := @rf_CmpNat.mono
   have m4 := @rf_LenNat.mono
   have m5 := @rf_ShlNat.mono
   have m6 := @rf_SubNat.mono
   have m7 := @rf_trim.mono
   exact zm
theorem rf_DivNat.mono : ∀ a0 a1 k, LeO (rf_DivNat.f k a0 a1) (rf_DivNat.f (k + 1) a0 a1) := by
 intro a0 a1 k
 obtain ⟨ih0, ih1⟩ := rf_DivNat.mono_l k
 unfold rf_DivNat.f
 have m0 := ih0
 have m1 := ih1
 have m2 := @rf_AddNat.mono
 have m3 := @rf_CmpNat.mono
 have m4 := @rf_LenNat.mono
 have m5 := @rf_ShlNat.mono
 have m6 := @rf_SubNat.mono
 have m7 := @rf_trim.mono
 exact zm
def rf_DivNat.T11 : Bool × List (List Nat × List Nat) := (true, [([], []), ([], []), ([1], [1]), ([0, 2], [0, 2]), ([3], [3]), ([], []), ([5], [5]), ([6], [6]), ([4, 7], [4, 7]), ([0, 2, 0, 1, 2, 3, 4, 5, 6, 7, 8], [0, 2]), ([9, 8, 0, 1, 2, 3, 4, 5, 6, 7, 8], [8, 9])])
def rf_DivNat.B11 : List Nat := [0, 0, 2, 7, 15, 0, 32, 96, 255, 511, 1023]
theorem rf_DivNat.tab11 : rtab .any (opsOf Tryd.f76 11) = rf_DivNat.T11 := by kernel_rfl
theorem rf_DivNat.bits11 : waitsOk rf_DivNat.T11.2 rf_DivNat.B11 = true := by kernel_rfl
set_option maxHeartbeats 8000000 in
set_option maxRecDepth 100000 in
theorem rf_DivNat.calls (k : Nat) (A0 : Option Addr) (c0 : Nat) (l0 : List Int) (A1 : Option Addr) (c1 : Nat) (l1 : List Int) (r1 : List Int) (r2 : List Int) (w : World) (hr0 : Kd.C (Kd.int .i64) w A0 l0.length l0) (hc0 : l0.length ≤ c0) (hr1 : Kd.C (Kd.int .i64) w A1 l1.length l1) (hc1 : l1.length ≤ c1) (h : rf_DivNat.f k l0 l1 = some (r1, r2)) :
  Calls Tryd.prog 76 #[.slice A0 l0.length c0, .slice A1 l1.length c1] w fun e w' => ∃ v0_ v1_ : Value, e = .returned (.tuple #[v0_, v1_]) ∧ Kd.V (Kd.int .i64) 3 w' w.heap.size (fun k_ => (w.heap.size ≤ k_)) v0_ r1 ∧ Kd.V (Kd.int .i64) 3 w' w.heap.size (fun k_ => (w.heap.size ≤ k_)) v1_ r2 ∧ Below w.heap.size w w' := by
 have HR0 := am hr0
 have HC0 := am hc0
 clear hr0 hc0
 have HR1 := am hr1
 have HC1 := am hc1
 clear hr1 hc1
 have HB := am (Below.refl w.heap.size w)
 have H := h
 unfold rf_DivNat.f at H
 clear h
 replace H := zn H
 obtain ⟨c3, H⟩ := H
 have c3b0 := eq_true c3
 have c3b1 := decide_eq_true c3
 clear c3
 replace H := zn H
 obtain ⟨c4, H⟩ := H
 have c4b0 := eq_true c4
 have c4b1 := decide_eq_true c4
 clear c4
 obtain ⟨y655, hy655⟩ : ∃ y_ : List Int, y_ = (List.replicate ((l0.length : Int) : Int).toNat 0) := ⟨_, rfl⟩
 try rw [← hy655] at H
 have Ny655 := am hy655
 clear hy655
 replace H := zj H
 obtain ⟨t658, A5, H⟩ := H
 have H' := am H
 clear H
 go_enter Tryd.func76, Tryd.ntmps76
 go_wp2_with (first | ((with_reducible refine gate_dst (N := 11) rfl ?_); refine Kd.R_make (Kd.int .i64) _ 3 rfl (N := 11) rfl 39 _ _ rfl (l0.length : Int) rfl rfl Tryd.underlying39 (.int .i64 0) 8 info3 rfl (by decide) (by omega) 0 (ok := fun _ => True) (okp := fun _ => True) rfl (fun _ hk => hk) trivial zq6 (Nat.le_trans (Nat.mul_le_mul_right _ (zq6 : (l0.length : Int).toNat ≤ 35184372088832)) (by omega)) (Below.refl _ _) (Nat.le_refl _) ?_; intro v656 w6 ho7 hb hg_ hnew_; clear hg_ hnew_; (first | rw [← Ny655.out] at ho7 | (simp only [Int.reduceToNat] at ho7; rw [← Ny655.out] at ho7)); refine zt2 (Kd.R_lower (Kd.R_newM (M := fun k_ => (w.heap.size ≤ k_)) ho7 (below_size zq1) (fun k_ h_ => h_)) (below_size zq1)) (below_step zq1 hb) ?_; clear HB; intro HO657 HB; clear hb ho7) | ((with_reducible refine gate_callee (f := 113) rfl ?_); refine goesL_ (some 13) rfl rfl Tryd.func113 (by kernel_rfl) rfl #[.slice A0 l0.length c0] rfl zq5 ?_; (with_reducible refine (rf_LenNat.calls k _ _ l0 t658 _ ?side1 ?side2 A5.out).mono ?_); (case side1 => exact zc (Kd.C_below HR0.out HB.out)); (case side2 => exact HC0.out); rintro e w' ⟨rfl, ⟨nd, rfl⟩⟩; refine ⟨_, rfl, ?_⟩))
 go_loopg [7, 8] k (fun kq v7 v8 w' => ∃ (x6_1 : List Int) (x7_1 : List Int) (x8_1 : Int), v8 = .int .i64 x8_1 ∧ Aside0 (rf_DivNat.l0 kq l0 l1 x6_1 x7_1 x8_1 = some (r1, r2)) ∧ Aside0 (kq ≤ k) ∧ Aside0 (Kd.R (Kd.int .i64) 3 w' w.heap.size (fun k_ => (w.heap.size ≤ k_)) v656 x6_1) ∧ Aside0 (Kd.V (Kd.int .i64) 3 w' w.heap.size (fun k_ => (w.heap.size ≤ k_) ∧ some k_ ≠ (v656 : Value).ownBlock) v7 x7_1) ∧ Aside0 (Below w.heap.size w w'))
 case atStart => exact ⟨(y655), (([] : List Int)), (wrap64 (t658 - 1)), zq8, H', ⟨Nat.le_refl _⟩, ⟨zwR (h := by exact Kd.R_mono HO657.out (fun _ hk => hk.1))⟩, ⟨Kd.V_nil _ _ _ _ _⟩, ⟨zq1⟩⟩
 case round =>
  clear H'
  obtain ⟨x6_1, x7_1, x8_1, rfl, HA, HK1, HO_6, HO_7, HB⟩ := hrel
  cases gk with
  | zero => exact absurd HA.out (by simp [rf_DivNat.l0])
  | succ k1 =>
   have H := HA.out
   clear HA
   simp only [rf_DivNat.l0] at H
   by_cases c8 : x8_1 ≥ 0
   ·rw [if_pos c8] at H
    have c8b0 : decide (0 ≤ x8_1) = true := decide_eq_true c8
    clear c8
    replace H := zj H
    obtain ⟨t662, A9, H⟩ := H
    replace H := zj H
    obtain ⟨t665, A10, H⟩ := H
    have HC11 := am H
    clear H
    obtain ⟨Ao12, co12, eo12⟩ := Kd.V_slice HO_7.out
    subst eo12
    go_upto_if 24 with (first | ((with_reducible refine gate_callee (f := 82) rfl ?_); refine goesL_ (some 20) rfl rfl Tryd.func82 (by kernel_rfl) rfl #[.slice Ao12 x7_1.length co12, .int .i64 1] rfl zq5 ?_; (with_reducible refine (rf_ShlNat.calls k1 _ _ x7_1 1 t662 _ ?side1 ?side2 A9.out).mono ?_); (case side1 => exact zc ((Kd.V_reads' HO_7.out).2.2)); (case side2 => exact (Kd.V_reads' HO_7.out).2.1); rintro e w13 ⟨v663, rfl, ho0, hb⟩; refine ⟨_, rfl, ?_⟩; refine zt4 (rb HO_6 hb) (vb HO_7 hb) (Kd.V_lower (Kd.V_mono (ok' := fun k_ => (w.heap.size ≤ k_) ∧ some k_ ≠ (v656 : Value).ownBlock) ho0 (fun k_ hk_ => ⟨(Nat.le_trans (below_size zq1) hk_), (Kd.fresh' (Kd.R_lt (zq4 HO_6.out)) k_ hk_)⟩)) (below_size zq1)) (below_step zq1 hb) ?_; clear HO_6 HO_7 HB; intro HO_6 HO_7 HO664 HB) | ((with_reducible refine gate_callee (f := 98) rfl ?_); refine goesL_ (some 23) rfl rfl Tryd.func98 (by kernel_rfl) rfl #[.slice A0 l0.length c0, .int .i64 x8_1] rfl zq5 ?_; (with_reducible refine (rf_bit.calls _ _ l0 x8_1 t665 _ ?side1 ?side2 A10.out).mono ?_); (case side1 => exact zc (Kd.C_below HR0.out HB.out)); (case side2 => exact HC0.out); rintro e w' ⟨rfl, ⟨nd, rfl⟩⟩; refine ⟨_, rfl, ?_⟩))
    (try simp only [Act.put, List.setIfInBounds_toArray, List.set_cons_zero, List.set_cons_succ])
    go_cut [7] (fun v7 wc => ∃ (kq : Nat) (x7_10 : List Int), Aside0 (rf_DivNat.j1 kq l0 l1 x6_1 x7_10 x8_1 = some (r1, r2)) ∧ Aside0 (kq ≤ k1) ∧ Aside0 (Kd.R (Kd.int .i64) 3 wc w.heap.size (fun k_ => (w.heap.size ≤ k_)) v656 x6_1) ∧ Aside0 (Kd.V (Kd.int .i64) 3 wc w.heap.size (fun k_ => (w.heap.size ≤ k_) ∧ some k_ ≠ (v656 : Value).ownBlock) v7 x7_10) ∧ Aside0 (Below w.heap.size w wc))
    case first =>
     have H := HC11.out
     clear HC11
     by_cases c14 : t665 = 1
     ·rw [if_pos c14] at H
      have c14b0 : (t665 == 1) = true := beq_iff_eq.mpr c14
      have c14b1 : (t665 != 1) = false := bne_eq_false_iff_eq.mpr c14
      clear c14
      (first | rw [c14b0] | (simp only [i64_w, i32_w]; rw [c14b0]) | skip)
      obtain ⟨y666, hy666⟩ : ∃ y_ : List Int, y_ = (([1] : List Int)) := ⟨_, rfl⟩
      try rw [← hy666] at H
      have Ny666 := am hy666
      clear hy666
      replace H := zj H
      obtain ⟨t669, A15, H⟩ := H
      have H' := am H
      clear H
      go_wp2_with (first | ((with_reducible refine gate_dst (N := 26) rfl ?_); refine Kd.R_lit (Kd.int .i64) _ 3 ?hg (N := 26) ?hd (xs := ([1] : List Int)) (inner := [.int .i64 1]) (ok := fun _ => True) (okp := fun _ => True) ?hr ?hp (fun _ hk => hk) trivial (Below.refl _ _) (Nat.le_refl _) (by simp) ?_; (case hd => rfl); (case hg => rfl); (case hr => exact zr); (case hp => exact (Reps.one (show Kd.M (Kd.int .i64) _ _ _ 1 [.int .i64 1] from rfl) (Reps.none _ _))); intro v667 w16 ho17 hb hg_ hnew_; clear hg_ hnew_; (first | rw [← Ny666.out] at ho17 | (simp only [Int.reduceToNat] at ho17; rw [← Ny666.out] at ho17)); refine zt5 (Kd.R_elder' (zq4 HO_6.out) (Kd.R_base ho17) hb) (Kd.V_elder' (zq3 HO_7.out) (Kd.R_base ho17) hb) (Kd.V_elder' (zq3 HO664.out) (Kd.R_base ho17) hb) (Kd.R_lower (Kd.R_new' (Kd.R_newM (M := fun k_ => (w.heap.size ≤ k_)) ho17 (below_size zq1) (fun k_ h_ => h_)) (Kd.R_lt (zq4 HO_6.out))) (below_size zq1)) (below_step zq1 hb) ?_; clear HO_6 HO_7 HO664 HB; intro HO_6 HO_7 HO664 HO668 HB; clear hb ho17; obtain ⟨Ao18, co18, eo18⟩ := Kd.V_slice HO664.out; subst eo18; obtain ⟨Ao19, co19, eo19⟩ := Kd.R_slice HO668.out; subst eo19) | ((with_reducible refine gate_callee (f := 90) rfl ?_); refine goesL_ (some 27) rfl rfl Tryd.func90 (by kernel_rfl) rfl #[.slice Ao18 t662.length co18, .slice Ao19 y666.length co19] rfl zq5 ?_; (with_reducible refine (rf_AddNat.calls k1 _ _ t662 _ _ y666 t669 _ ?side1 ?side2 ?side3 ?side4 A15.out).mono ?_); (case side1 => exact zc ((Kd.V_reads' HO664.out).2.2)); (case side2 => exact (Kd.V_reads' HO664.out).2.1); (case side3 => exact zc ((Kd.R_reads' HO668.out).2.2)); (case side4 => exact (Kd.R_reads' HO668.out).2.1); rintro e w20 ⟨v670, rfl, ho0, hb⟩; refine ⟨_, rfl, ?_⟩; refine zt6 (rb HO_6 hb) (vb HO_7 hb) (vb HO664 hb) (rb HO668 hb) (Kd.V_lower (Kd.V_mono (ok' := fun k_ => (w.heap.size ≤ k_) ∧ some k_ ≠ (v656 : Value).ownBlock ∧ some k_ ≠ (.slice Ao19 y666.length co19 : Value).ownBlock) ho0 (fun k_ hk_ => ⟨(Nat.le_trans (below_size zq1) hk_), (Kd.fresh' (Kd.R_lt (zq4 HO_6.out)) k_ hk_), (Kd.fresh' (Kd.R_lt (zq4 HO668.out)) k_ hk_)⟩)) (below_size zq1)) (below_step zq1 hb) ?_; clear HO_6 HO_7 HO664 HO668 HB; intro HO_6 HO_7 HO664 HO668 HO671 HB))
      go_meet
      case rel => exact ⟨_, (t669), H', ⟨by have := HK1.out; first | omega | exact Nat.le_refl _⟩, ⟨zwR (h := by exact Kd.R_mono HO_6.out (fun _ hk => hk.1))⟩, ⟨zwV (h := by exact Kd.V_mono HO671.out (fun _ hk => ⟨hk.1, hk.2.1⟩))⟩, ⟨zq1⟩⟩
     ·rw [if_neg c14] at H
      have c14b0 : (t665 == 1) = false := beq_eq_false_iff_ne.mpr c14
      have c14b1 : (t665 != 1) = true := bne_iff_ne.mpr c14
      (first | rw [c14b0] | (simp only [i64_w, i32_w]; rw [c14b0]) | skip)
      have H' := am H
      clear H
      go_wp2
      go_meet
      case rel => exact ⟨_, (t662), H', ⟨by have := HK1.out; first | omega | exact Nat.le_refl _⟩, ⟨zq4 HO_6.out⟩, ⟨zq3 HO664.out⟩, ⟨zq1⟩⟩
    case rest =>
     clear HC11
     obtain ⟨kq, x7_10, HA, HJ10, HO_6, HO_7, HB⟩ := hcut
     cases kq with
     | zero => exact absurd HA.out (by simp [rf_DivNat.j1])
     | succ kj10 =>
      have H := HA.out
      clear HA
      simp only [rf_DivNat.j1] at H
      replace H := zj H
      obtain ⟨t672, A21, H⟩ := H
      by_cases c22 : t672 ≥ 0
      ·rw [if_pos c22] at H
       have c22b0 : decide (0 ≤ t672) = true := decide_eq_true c22
       clear c22
       replace H := zj H
       obtain ⟨t673, A23, H⟩ := H
       obtain ⟨ji24, hji24⟩ : ∃ j_ : Int, (wrap64 (Int.tdiv x8_1 16)) = j_ := ⟨_, rfl⟩
       replace H : (if 0 ≤ (ji24) then (if (ji24) < (x6_1.length : Int) then (if 0 ≤ (Int.tmod x8_1 16) then (rf_DivNat.l0 kj10 l0 l1 (x6_1.set ((ji24) : Int).toNat (Go.bits .or .i64 (rd x6_1 (ji24)) (shl .i64 1 (Int.tmod x8_1 16)))) t673 (wrap64 (x8_1 - 1))) else (none)) else (none)) else (none)) = some (r1, r2) := by first | (rw [hji24] at H; exact H) | (simp only [hji24] at H ⊢; exact H)
       (try rw [hji24] at A21)
       (try rw [hji24] at A23)
       have hji24w : (IntKind.i64.wrap (Int.tdiv x8_1 16)) = ji24 := (i64_w _).trans hji24
       replace H := zn H
       obtain ⟨c25, H⟩ := H
       have c25b0 := decide_eq_true c25
       clear c25
       replace H := zn H
       obtain ⟨c26, H⟩ := H
       have c26b0 := decide_eq_true c26
       clear c26
       obtain ⟨ji27, hji27⟩ : ∃ j_ : Int, (Int.tmod x8_1 16) = j_ := ⟨_, rfl⟩
       replace H : (if 0 ≤ (ji27) then (rf_DivNat.l0 kj10 l0 l1 (x6_1.set ((ji24) : Int).toNat (Go.bits .or .i64 (rd x6_1 (ji24)) (shl .i64 1 (ji27)))) t673 (wrap64 (x8_1 - 1))) else (none)) = some (r1, r2) := by first | (rw [hji27] at H; exact H) | (simp only [hji27] at H ⊢; exact H)
       (try rw [hji27] at A21)
       (try rw [hji27] at A23)
       replace H := zn H
       obtain ⟨c28, H⟩ := H
       have c28b0 := eq_true c28
       have c28b1 := decide_eq_true c28
       clear c28
       obtain ⟨ji29, hji29⟩ : ∃ j_ : Int, (shl .i64 1 (ji27)) = j_ := ⟨_, rfl⟩
       replace H : (rf_DivNat.l0 kj10 l0 l1 (x6_1.set ((ji24) : Int).toNat (Go.bits .or .i64 (rd x6_1 (ji24)) (ji29))) t673 (wrap64 (x8_1 - 1))) = some (r1, r2) := by first | (rw [hji29] at H; exact H) | (simp only [hji29] at H ⊢; exact H)
       (try rw [hji29] at A21)
       (try rw [hji29] at A23)
       have hji29_ : (IntKind.i64.wrap (1 * 2 ^ min (ji27).toNat 64)) = ji29 := hji29
       have hji29z : (ji27) ≤ 64 → (IntKind.i64.wrap (1 * 2 ^ (ji27).toNat)) = ji29 := shl_small hji29
       have hji29u : (IntKind.i64.wrap (2 ^ min (ji27).toNat 64)) = ji29 := by have h_ := hji29_; rw [Int.one_mul] at h_; exact h_
       have hji29v : (ji27) ≤ 64 → (IntKind.i64.wrap (2 ^ (ji27).toNat)) = ji29 := fun hle_ => by have h_ := hji29z hle_; rw [Int.one_mul] at h_; exact h_
       have hji29y : (wrap64 (1 * 2 ^ min (ji27).toNat 64)) = ji29 := (i64_w _).symm.trans hji29_
       have hji29x : (ji27) ≤ 64 → (wrap64 (1 * 2 ^ (ji27).toNat)) = ji29 := fun h_ => (i64_w _).symm.trans (hji29z h_)
       obtain ⟨y677, hy677⟩ : ∃ y_ : List Int, y_ = (x6_1.set ((ji24) : Int).toNat (Go.bits .or .i64 (rd x6_1 (ji24)) (ji29))) := ⟨_, rfl⟩
       try rw [← hy677] at H
       have Ny677 := am hy677
       clear hy677
       have H' := am H
       clear H
       obtain ⟨Ao31, co31, eo31⟩ := Kd.V_slice HO_7.out
       subst eo31
       try go_wp2_with (first | ((with_reducible refine gate_callee (f := 46) rfl ?_); refine goesL_ (some 30) rfl rfl Tryd.func46 (by kernel_rfl) rfl #[.slice Ao31 x7_10.length co31, .slice A1 l1.length c1] rfl zq5 ?_; (with_reducible refine (rf_CmpNat.calls kj10 _ _ x7_10 _ _ l1 t672 _ ?side1 ?side2 ?side3 ?side4 A21.out).mono ?_); (case side1 => exact zc ((Kd.V_reads' HO_7.out).2.2)); (case side2 => exact (Kd.V_reads' HO_7.out).2.1); (case side3 => exact zc (Kd.C_below HR1.out HB.out)); (case side4 => exact HC1.out); rintro e w32 ⟨rfl, hb⟩; refine ⟨_, rfl, ?_⟩; refine zt3 (rb HO_6 hb) (vb HO_7 hb) (below_step zq1 hb) ?_; clear HO_6 HO_7 HB; intro HO_6 HO_7 HB; (try clear hb); (try clear hb2); (try clear hk); (try clear hi)) | ((with_reducible refine gate_callee (f := 83) rfl ?_); refine goesL_ (some 34) rfl rfl Tryd.func83 (by kernel_rfl) rfl #[.slice Ao31 x7_10.length co31, .slice A1 l1.length c1] rfl zq5 ?_; (with_reducible refine (rf_SubNat.calls kj10 _ _ x7_10 _ _ l1 t673 _ ?side1 ?side2 ?side3 ?side4 A23.out).mono ?_); (case side1 => exact zc ((Kd.V_reads' HO_7.out).2.2)); (case side2 => exact (Kd.V_reads' HO_7.out).2.1); (case side3 => exact zc (Kd.C_below HR1.out HB.out)); (case side4 => exact HC1.out); rintro e w33 ⟨v674, rfl, ho0, hb⟩; refine ⟨_, rfl, ?_⟩; refine zt4 (rb HO_6 hb) (vb HO_7 hb) (Kd.V_lower (Kd.V_mono (ok' := fun k_ => (w.heap.size ≤ k_) ∧ some k_ ≠ (v656 : Value).ownBlock) ho0 (fun k_ hk_ => ⟨(Nat.le_trans (below_size zq1) hk_), (Kd.fresh' (Kd.R_lt (zq4 HO_6.out)) k_ hk_)⟩)) (below_size zq1)) (below_step zq1 hb) ?_; clear HO_6 HO_7 HB; intro HO_6 HO_7 HO675 HB))
       refine zt4 (Kd.R_drew HO_6.out) (Kd.V_drew HO_7.out) (Kd.V_drew HO675.out) (below_drew1 HB.out) ?_
       clear HO_6 HO_7 HO675 HB
       intro HO_6 HO_7 HO675 HB
       obtain ⟨Ao35, co35, eo35⟩ := Kd.R_slice HO_6.out
       (first | subst eo35 | (injection eo35 with f1_ f2_ f3_; have f4_ := f1_.symm; have f5_ := f3_.symm; clear f1_ f2_ f3_; subst f4_; subst f5_))
       have p676 : 0 ≤ ((ji24) : Int) := zq6
       have q676 : (ji24) < (x6_1.length : Int) := zq6
       obtain ⟨ad676, e676, hx676_0⟩ := Kd.at_int (Kd.R_reads' HO_6.out).2.2 (ji24) p676 q676
       cases e676
       replace p676 := eq_true p676
       replace q676 := eq_true q676
       have p30 : 0 ≤ ((ji24) : Int) := zq6
       have q30 : ((ji24) : Int) < ((x6_1.length : Int) : Int) := zq6
       obtain ⟨go30, co30, eo30, gb30, gl30, cl30, HG30⟩ := Kd.R_form HO_6.out (by omega)
       (first | cases eo30 | (injection eo30 with ea_ en_ ec_; (first | subst ea_ | (injection ea_ with ea_; subst ea_)); subst ec_; clear en_))
       have GB30 := am gb30
       have GG30 := am HG30
       clear gb30 gl30 HG30
       (first | simp only [add_plain] at hx676_0 | skip)
       obtain ⟨hx30_0, hf30_0⟩ := Kd.R_celln 0 HO_6.out ((ji24) : Int) p30 q30
       replace p30 := eq_true p30
       replace q30 := eq_true q30
       have HP36 := Kd.R_putn HO_6.out ((ji24) : Int) (Go.bits .or .i64 (rd x6_1 (ji24)) (ji29))
       rw [← Ny677.out] at HP36
       have HQ36 := am HP36
       clear HP36
       refine start_ (n := 11) (S := fun w' => w'.cell? ⟨go30, ((ji24)).toNat, none⟩ = some (.int .i64 (rd x6_1 (ji24)))) (ds := [10]) #[false, false, false, false, false, false, false, false, false, false, false] (by kernel_rfl) rfl rfl (hx676_0) (fun hHeld => ?_); refine with_tabW rf_DivNat.tab11 rf_DivNat.bits11 (fun HT_ HW_ => ?_)
       generalize w33.drew = w34 at HO_6 HO_7 HO675 HB GG30 HQ36 hf30_0 hx30_0 hx676_0 hHeld ⊢
       refine pz_ (i := 0) (N := some 35) (zmt 11 [0]) ?_
       refine pz_ (i := 1) (N := some 36) (zmt 11 [0, 1]) ?_
       refine pz_ (i := 2) (N := some 37) (zmt 11 [0, 1, 2]) ?_
       refine pz_ (i := 3) (N := some 38) (zmt 11 [0, 1, 2, 3]) ?_
       refine pz_ (i := 5) (N := some 40) (zmt 11 [0, 1, 2, 3, 5]) ?_
       refine pz_ (i := 6) (N := some 41) (zmf 11 [4, 7, 8, 9, 10]) ?_
       refine pz_ (i := 7) (N := some 42) (zmf 11 [4, 8, 9, 10]) ?_
       refine tz1 (i := 4) (N := some 39) (zmf 11 [8, 9, 10]) ?_
       refine pz_ (i := 8) (N := some 43) (zmf 11 [9, 10]) ?_
       refine pz_ (i := 9) (N := some 44) (zmf 11 [10]) ?_
       refine last_ (i := 10) (N := none) (zmf 11 []) rfl rfl (one_of HT_.out (by kernel_rfl)) (by decide) (fun K hK => ?_)
       refine skip_ (w1 := ?_) (by rfl) rfl ?_ ?_
       rotate_left
       ·go_simp
        rfl
       refine hK.out _ _ ?_
       clear hK K
       refine done_ (done_of HT_.out (by kernel_rfl)) ?_
       try go_wp2
       go_roundg kj10
       case measure => have := HK1.out; have := HJ10.out; omega
       case rel => exact ⟨(y677), (t673), (wrap64 (x8_1 - 1)), zq8, (by first | exact H' | (rw [hji24]; exact H') | (rw [hji27]; exact H') | (rw [hji29]; exact H')), ⟨by have := HK1.out; have := HJ10.out; omega⟩, ⟨zq4 HQ36.out⟩, ⟨zwV (h := by exact Kd.V_mono (Kd.V_far (p := ⟨go30, ((ji24) : Int).toNat, none⟩) (Kd.V_mono HO675.out (fun k_ hk => (⟨hk, fun e_ => hk.2 (by rw [e_]; rfl)⟩ : _ ∧ k_ ≠ go30))) (fun _ hk => hk.2) (.int .i64 (Go.bits .or .i64 (rd x6_1 (ji24)) (ji29)))) (fun _ hk => ⟨hk.1.1, hk.1.2⟩))⟩, ⟨zb1 GB30.out⟩⟩
      ·rw [if_neg c22] at H
       have c22b0 : decide (0 ≤ t672) = false := decide_eq_false c22
       clear c22
       have H' := am H
       clear H
       obtain ⟨Ao37, co37, eo37⟩ := Kd.V_slice HO_7.out
       subst eo37
       go_wp2_with (first | ((with_reducible refine gate_callee (f := 46) rfl ?_); refine goesL_ (some 30) rfl rfl Tryd.func46 (by kernel_rfl) rfl #[.slice Ao37 x7_10.length co37, .slice A1 l1.length c1] rfl zq5 ?_; (with_reducible refine (rf_CmpNat.calls kj10 _ _ x7_10 _ _ l1 t672 _ ?side1 ?side2 ?side3 ?side4 A21.out).mono ?_); (case side1 => exact zc ((Kd.V_reads' HO_7.out).2.2)); (case side2 => exact (Kd.V_reads' HO_7.out).2.1); (case side3 => exact zc (Kd.C_below HR1.out HB.out)); (case side4 => exact HC1.out); rintro e w38 ⟨rfl, hb⟩; refine ⟨_, rfl, ?_⟩; refine zt3 (rb HO_6 hb) (vb HO_7 hb) (below_step zq1 hb) ?_; clear HO_6 HO_7 HB; intro HO_6 HO_7 HB; (try clear hb); (try clear hb2); (try clear hk); (try clear hi)))
       go_roundg kj10
       case measure => have := HK1.out; have := HJ10.out; omega
       case rel => exact ⟨(x6_1), (x7_10), (wrap64 (x8_1 - 1)), zq8, H', ⟨by have := HK1.out; have := HJ10.out; omega⟩, ⟨zq4 HO_6.out⟩, ⟨zq3 HO_7.out⟩, ⟨zq1⟩⟩
   ·rw [if_neg c8] at H
    have c8b0 : decide (0 ≤ x8_1) = false := decide_eq_false c8
    clear c8
    replace H := zj H
    obtain ⟨t659, A39, H⟩ := H
    simp only [Option.some.injEq, Prod.mk.injEq] at H
    obtain ⟨rfl, rfl⟩ := H
    obtain ⟨Ao40, co40, eo40⟩ := Kd.R_slice HO_6.out
    subst eo40
    go_wp2_with (first | ((with_reducible refine gate_callee (f := 96) rfl ?_); refine goesL_ (some 46) rfl rfl Tryd.func96 (by kernel_rfl) rfl #[.slice Ao40 x6_1.length co40] rfl zq5 ?_; (with_reducible refine (rf_trim.calls k1 (fun k_ => some k_ = (.slice Ao40 x6_1.length co40 : Value).ownBlock) _ _ x6_1 t659 _ ?side1 A39.out).mono ?_); (case side1 => exact Kd.R_V (Kd.R_tight rfl (HO_6.out))); rintro e w41 ⟨v660, rfl, ho0, hb⟩; refine ⟨_, rfl, ?_⟩; refine zt4 (rb HO_6 hb) (vb HO_7 hb) (Kd.V_lower (Kd.V_mono (ok' := fun k_ => (w.heap.size ≤ k_)) ho0 (fun k_ hk_ => Or.elim hk_ (fun hs_ => ((HO_6.out).1 k_ hs_.symm)) (fun hn_ => (Nat.le_trans (below_size zq1) hn_)))) (below_size zq1)) (below_step zq1 hb) ?_; clear HO_6 HO_7 HB; intro HO_6 HO_7 HO661 HB))
    go_ret2
    exact ⟨_, _, zq9, zq3 HO661.out, zwV (h := by exact Kd.V_mono HO_7.out (fun _ hk => hk.1)), zq1⟩
def rf_limbs.l0 : Nat → List Int → List Int → Int → Option (List Int)
 | 0, _, _, _ => none
 | k + 1, x0, x3, x4 => if x4 < (x0.length : Int) then (if 0 ≤ x4 then ((rf_digit.f x0 (wrap64 (x4 + 1))).bind fun t628 => (if x3.length < 35184372088832 then (rf_limbs.l0 k x0 (x3 ++ [Go.bits .or .u32 ((rd x0 x4) % 4294967296) ((((t628) % 4294967296) * 65536) % 4294967296)]) (wrap64 (x4 + 2))) else (none))) else (none)) else (some x3)
def rf_limbs.f (k : Nat) (l0 : List Int) : Option (List Int) := rf_limbs.l0 k l0 ([] : List Int) 0
theorem rf_limbs.mono_l : ∀ k, (∀ y0 y1 y2, LeO (rf_limbs.l0 k y0 y1 y2) (rf_limbs.l0 (k + 1) y0 y1 y2))
 | 0 => fun _ _ _ r h => by simp [rf_limbs.l0] at h
 | k + 1 => by
  have ih0 := rf_limbs.mono_l k
  ·intro y0 y1 y2
   unfold rf_limbs.l0
   have m0 := ih0
   exact zm
theorem rf_limbs.mono : ∀ a0 k, LeO (rf_limbs.f k a0) (rf_limbs.f (k + 1) a0) := by
 intro a0 k
 have ih0 := rf_limbs.mono_l k
 unfold rf_limbs.f
 have m0 := ih0
 exact zm
def rf_limbs.T5 : Bool × List (List Nat × List Nat) := (true, [([], []), ([], []), ([], []), ([1, 2], [1, 2]), ([3], [3]), ([4], [4]), ([], []), ([], []), ([7], [7]), ([6, 8], [6, 8]), ([9], [9]), ([10], [10]), ([5, 11], [5, 11]), ([12], [12]), ([0, 13, 9], [0, 13]), ([14, 14, 0, 1, 2, 3, 4, 5, 6, 7, 8, 9, 10, 11, 12, 13, 14], [0, 14])])
def rf_limbs.B5 : List Nat := [0, 0, 0, 6, 14, 30, 0, 0, 128, 448, 960, 1984, 4094, 8190, 16383, 32767]
theorem rf_limbs.tab5 : rtab .any (opsOf Tryd.f108 5) = rf_limbs.T5 := by kernel_rfl
theorem rf_limbs.bits5 : waitsOk rf_limbs.T5.2 rf_limbs.B5 = true := by kernel_rfl
set_option maxHeartbeats 8000000 in
set_option maxRecDepth 100000 in
theorem rf_limbs.calls (k : Nat) (A0 : Option Addr) (c0 : Nat) (l0 : List Int) (r : List Int) (w : World) (hr0 : Kd.C (Kd.int .i64) w A0 l0.length l0) (hc0 : l0.length ≤ c0) (h : rf_limbs.f k l0 = some r) :
  Calls Tryd.prog 108 #[.slice A0 l0.length c0] w fun e w' => ∃ v0_ : Value, e = .returned (v0_) ∧ Kd.R (Kd.int .u32) 55 w' w.heap.size (fun _ => True) v0_ r ∧ Below w.heap.size w w' := by
 have HR0 := am hr0
 have HC0 := am hc0
 clear hr0 hc0
 have HB := am (Below.refl w.heap.size w)
 have H := h
 unfold rf_limbs.f at H
 clear h
 have H' := am H
 clear H
 go_enter Tryd.func108, Tryd.ntmps108
 go_wp2
 go_loopg [3, 4] k (fun kq v3 v4 w' => ∃ (x3_1 : List Int) (x4_1 : Int), v4 = .int .i64 x4_1 ∧ Aside0 (rf_limbs.l0 kq l0 x3_1 x4_1 = some r) ∧ Aside0 (kq ≤ k) ∧ Aside0 (Kd.R (Kd.int .u32) 55 w' w.heap.size (fun _ => True) v3 x3_1) ∧ Aside0 (Below w.heap.size w w'))
 case atStart => exact ⟨(([] : List Int)), (0), zq8, H', ⟨Nat.le_refl _⟩, ⟨by first | exact Kd.R_nil _ _ _ _ _ | exact Kd.N_nil _ _ _ _ _ | exact Kd.V_nil _ _ _ _ _ | exact Kd.Q_nil _ _ _ _ _ | exact Kd.S_nil _ _ _ _ _⟩, ⟨zq1⟩⟩
 case round =>
  clear H'
  obtain ⟨x3_1, x4_1, rfl, HA, HK1, HO_3, HB⟩ := hrel
  cases gk with
  | zero => exact absurd HA.out (by simp [rf_limbs.l0])
  | succ k1 =>
   have H := HA.out
   clear HA
   simp only [rf_limbs.l0] at H
   by_cases c2 : x4_1 < (l0.length : Int)
   ·rw [if_pos c2] at H
    have c2b0 := decide_eq_true c2
    clear c2
    replace H := zn H
    obtain ⟨c3, H⟩ := H
    have c3b0 := decide_eq_true c3
    clear c3
    replace H := zj H
    obtain ⟨t628, A4, H⟩ := H
    replace H := zn H
    obtain ⟨c5, H⟩ := H
    have LMc5 := am c5
    clear c5
    obtain ⟨y629, hy629⟩ : ∃ y_ : List Int, y_ = (x3_1 ++ [Go.bits .or .u32 ((rd l0 x4_1) % 4294967296) ((((t628) % 4294967296) * 65536) % 4294967296)]) := ⟨_, rfl⟩
    try rw [← hy629] at H
    have Ny629 := am hy629
    clear hy629
    have H' := am H
    clear H
    try go_wp2
    refine zt2 (Kd.R_drew HO_3.out) (below_drew1 HB.out) ?_
    clear HO_3 HB
    intro HO_3 HB
    have p627 : 0 ≤ (x4_1 : Int) := zq6
    have q627 : x4_1 < (l0.length : Int) := zq6
    obtain ⟨ad627, e627, hx627_0⟩ := Kd.at_int HR0.out x4_1 p627 q627
    have hw627_0 := hx627_0
    cases e627
    replace hx627_0 := (HB.out.cell (World.block_lt_of_cell? w _ hx627_0)).trans hx627_0
    replace p627 := eq_true p627
    replace q627 := eq_true q627
    refine start_ (n := 16) (S := fun w' => w'.cell? (ad627.add (x4_1).toNat) = some (.int .i64 (rd l0 x4_1))) (ds := []) #[false, false, false, false, false, false, false, false, false, false, false, false, false, false, false, false] (by kernel_rfl) rfl rfl (((HB.out.cell (World.block_lt_of_cell? w _ hw627_0)).trans hw627_0)) (fun hHeld => ?_); refine with_tabW rf_limbs.tab5 rf_limbs.bits5 (fun HT_ HW_ => ?_)
    generalize wr.drew = w6 at HO_3 HB hx627_0 hHeld ⊢
    refine pz_ (i := 0) (N := some 11) (zmt 16 [0]) ?_
    refine pz_ (i := 1) (N := some 12) (zmt 16 [0, 1]) ?_
    refine pz_ (i := 2) (N := some 13) (zmt 16 [0, 1, 2]) ?_
    refine pz_ (i := 3) (N := some 14) (zmt 16 [0, 1, 2, 3]) ?_
    refine pz_ (i := 6) (N := some 17) (zmt 16 [0, 1, 2, 3, 6]) ?_
    refine pz_ (i := 7) (N := some 18) (zmt 16 [0, 1, 2, 3, 6, 7]) ?_
    refine pz_ (i := 8) (N := some 19) (zmt 16 [0, 1, 2, 3, 6, 7, 8]) ?_
    refine tz1 (i := 4) (N := some 15) (zmt 16 [0, 1, 2, 3, 4, 6, 7, 8]) ?_
    refine pz_ (i := 5) (N := some 16) (zmf 16 [9, 10, 11, 12, 13, 14, 15]) ?_
    refine one_ (i := 9) (N := some 20) (zmf 16 [10, 11, 12, 13, 14, 15]) rfl rfl (one_of HT_.out (by kernel_rfl)) (by decide) (fun K hK => ?_)
    refine goes_ Tryd.func97 (by kernel_rfl) rfl #[.slice (some ad627) l0.length c0, .int .i64 (wrap64 (x4_1 + 1))] (by rfl) rfl rfl zq5 ?_
    with_reducible refine (rf_digit.calls _ _ l0 (wrap64 (x4_1 + 1)) t628 _ ?side1 ?side2 A4.out).mono ?_
    (case side1 => exact zc (Kd.C_below HR0.out HB.out))
    (case side2 => exact HC0.out)
    rintro e w' ⟨rfl, ⟨nd, rfl⟩⟩
    refine ⟨_, rfl, ?_⟩
    refine hK.out _ _ (((HB.out.cell (World.block_lt_of_cell? w _ hw627_0)).trans hw627_0)) (fun hHeld => ?_)
    clear hK K
    refine nz_ (N := (some 20)) ?_
    refine pz_ (i := 10) (N := some 21) (zmf 16 [11, 12, 13, 14, 15]) ?_
    refine pz_ (i := 11) (N := some 22) (zmf 16 [12, 13, 14, 15]) ?_
    refine pz_ (i := 12) (N := some 23) (zmf 16 [13, 14, 15]) ?_
    refine one_ (i := 13) (N := some 24) (zmf 16 [14, 15]) rfl rfl (one_of HT_.out (by kernel_rfl)) (by decide) (fun K hK => ?_)
    refine value_ (w1 := ?_) (v := ?_) (by rfl) rfl ?_ ?_
    rotate_left 2
    ·go_simp
     constructor
     ·rfl
     ·rfl
    refine hK.out _ _ ((World.cell?_alloc_lt _ _ _ (World.block_lt_of_cell? _ _ (((HB.out.cell (World.block_lt_of_cell? w _ hw627_0)).trans hw627_0)))).trans (((HB.out.cell (World.block_lt_of_cell? w _ hw627_0)).trans hw627_0))) (fun hHeld => ?_)
    clear hK K
    refine nz_ (N := (some 24)) ?_
    refine one_ (i := 14) (N := some 25) (zmf 16 [15]) rfl rfl (one_of HT_.out (by kernel_rfl)) (by decide) (fun K hK => ?_)
    refine Kd.R_append_step (Kd.int .u32) (w0 := w) w.heap.size (by rfl) (.tmp 11) (.tmp 24) 22 55 (.int .u32 0) 4 rfl Tryd.underlying22 info55 rfl (by decide) (by omega) u3 x3_1 (Go.bits .or .u32 ((rd l0 x4_1) % 4294967296) ((((t628) % 4294967296) * 65536) % 4294967296)) [.int .u32 (Go.bits .or .u32 ((rd l0 x4_1) % 4294967296) ((((t628) % 4294967296) * 65536) % 4294967296))] (fun _ => True) (fun _ => False) rfl rfl ?aP (fun _ hk => hk.elim) ?aF ?aO ?aB ?aS ?aL ?_
    (case aP => exact rfl)
    (case aB => exact zq1)
    (case aF => exact (fun _ _ => trivial))
    (case aO => exact (zq4 HO_3.out))
    (case aS => exact (below_size zq1))
    (case aL => have := LMc5.out; omega)
    intro v630 w7 ho hb hg hat
    rw [← Ny629.out] at ho
    refine zt2 (hb) (ho) ?_
    clear HB HO_3
    intro HB HO631
    clear ho hb hg hat
    refine hK.out _ _ (((HB.out.cell (World.block_lt_of_cell? w _ hw627_0)).trans hw627_0)) (fun hHeld => ?_)
    clear hK K
    refine nz_ (N := (some 25)) ?_
    refine pz_ (i := 15) (N := some 3) (zmf 16 []) ?_
    refine done_ (done_of HT_.out (by kernel_rfl)) ?_
    try go_wp2
    go_roundg k1
    case measure => have := HK1.out; omega
    case rel => exact ⟨(y629), (wrap64 (x4_1 + 2)), zq8, H', ⟨by have := HK1.out; omega⟩, ⟨zq4 HO631.out⟩, ⟨zq1⟩⟩
   ·rw [if_neg c2] at H
    have c2b0 := decide_eq_false c2
    clear c2
    obtain rfl := Option.some.inj H
    go_wp2
    go_ret
    exact ⟨_, zq9, zq4 HO_3.out, zq1⟩
def lw_sameLimbs.l0 : Nat → List Int → List Int → Int → Option (Bool)
 | 0, _, _, _ => none
 | k + 1, x0, x1, x5 => if x5 < (x0.length : Int) then (if 0 ≤ x5 then (if x5 < (x1.length : Int) then (if (rd x0 x5) = (rd x1 x5) then (lw_sameLimbs.l0 k x0 x1 (wrap64 (x5 + 1))) else (some false)) else (none)) else (none)) else (some true)
def lw_sameLimbs.f (k : Nat) (l0 : List Int) (l1 : List Int) : Option (Bool) := if (l0.length : Int) = (l1.length : Int) then (lw_sameLimbs.l0 k l0 l1 0) else (some false)
theorem lw_sameLimbs.mono_l : ∀ k, (∀ y0 y1 y2, LeO (lw_sameLimbs.l0 k y0 y1 y2) (lw_sameLimbs.l0 (k + 1) y0 y1 y2))
 | 0 => fun _ _ _ r h => by simp [lw_sameLimbs.l0] at h
 | k + 1 => by
  have ih0 := lw_sameLimbs.mono_l k
  ·intro y0 y1 y2
   unfold lw_sameLimbs.l0
   have m0 := ih0
   exact zm
theorem lw_sameLimbs.mono : ∀ a0 a1 k, LeO (lw_sameLimbs.f k a0 a1) (lw_sameLimbs.f (k + 1) a0 a1) := by
 intro a0 a1 k
 have ih0 := lw_sameLimbs.mono_l k
 unfold lw_sameLimbs.f
 have m0 := ih0
 exact zm
set_option maxHeartbeats 8000000 in
set_option maxRecDepth 100000 in
theorem lw_sameLimbs.calls (k : Nat) (A0 : Option Addr) (c0 : Nat) (l0 : List Int) (A1 : Option Addr) (c1 : Nat) (l1 : List Int) (r : Bool) (w : World) (hr0 : Kd.C (Kd.int .u32) w A0 l0.length l0) (hc0 : l0.length ≤ c0) (hr1 : Kd.C (Kd.int .u32) w A1 l1.length l1) (hc1 : l1.length ≤ c1) (h : lw_sameLimbs.f k l0 l1 = some r) :
  Calls Tryd.prog 55 #[.slice A0 l0.length c0, .slice A1 l1.length c1] w fun e w' => e = .returned (.bool r) ∧ Drawn0 w w' := by
 have HR0 := am hr0
 have HC0 := am hc0
 clear hr0 hc0
 have HR1 := am hr1
 have HC1 := am hc1
 clear hr1 hc1
 have H := h
 unfold lw_sameLimbs.f at H
 clear h
 by_cases c3 : (l0.length : Int) = (l1.length : Int)
 ·rw [if_pos c3] at H
  have c3b0 : ((l0.length : Int) == (l1.length : Int)) = true := beq_iff_eq.mpr c3
  have c3b1 : ((l0.length : Int) != (l1.length : Int)) = false := bne_eq_false_iff_eq.mpr c3
  have c3b2 : (l0.length == l1.length) = true := by first | simpa using c3 | (simp at c3 ⊢; omega)
  clear c3
  have H' := am H
  clear H
  go_enter Tryd.func55, Tryd.ntmps55
  go_wp2
  repeat (go_quiet (fail); try go_wp2)
  go_loopg [5] k (fun kq v5 w' => ∃ (x5_1 : Int), v5 = .int .i64 x5_1 ∧ Aside0 (lw_sameLimbs.l0 kq l0 l1 x5_1 = some r) ∧ Aside0 (kq ≤ k) ∧ Drawn0 w w')
  case atStart => exact ⟨(0), zq8, H', ⟨Nat.le_refl _⟩, by repeat (first | exact Drawn0.refl _ | apply Drawn0.step)⟩
  case round =>
   clear H'
   obtain ⟨x5_1, rfl, HA, HK1, ⟨m1, rfl⟩⟩ := hrel
   cases gk with
   | zero => exact absurd HA.out (by simp [lw_sameLimbs.l0])
   | succ k1 =>
    have H := HA.out
    clear HA
    simp only [lw_sameLimbs.l0] at H
    by_cases c4 : x5_1 < (l0.length : Int)
    ·rw [if_pos c4] at H
     have c4b0 := decide_eq_true c4
     clear c4
     replace H := zn H
     obtain ⟨c5, H⟩ := H
     have c5b0 := decide_eq_true c5
     clear c5
     replace H := zn H
     obtain ⟨c6, H⟩ := H
     have c6b0 := decide_eq_true c6
     clear c6
     by_cases c7 : (rd l0 x5_1) = (rd l1 x5_1)
     ·rw [if_pos c7] at H
      have c7b0 : ((rd l0 x5_1) == (rd l1 x5_1)) = true := beq_iff_eq.mpr c7
      have c7b1 : ((rd l0 x5_1) != (rd l1 x5_1)) = false := bne_eq_false_iff_eq.mpr c7
      clear c7
      have H' := am H
      clear H
      have p514 : 0 ≤ (x5_1 : Int) := zq6
      have q514 : x5_1 < (l0.length : Int) := zq6
      obtain ⟨ad514, e514, hx514_0⟩ := Kd.at_int HR0.out x5_1 p514 q514
      cases e514
      replace p514 := eq_true p514
      replace q514 := eq_true q514
      have p515 : 0 ≤ (x5_1 : Int) := zq6
      have q515 : x5_1 < (l1.length : Int) := zq6
      obtain ⟨ad515, e515, hx515_0⟩ := Kd.at_int HR1.out x5_1 p515 q515
      cases e515
      replace p515 := eq_true p515
      replace q515 := eq_true q515
      go_wp2
      repeat (go_quiet (fail); try go_wp2)
      go_roundg k1
      case measure => have := HK1.out; omega
      case rel => exact ⟨(wrap64 (x5_1 + 1)), zq8, H', ⟨by have := HK1.out; omega⟩, by repeat (first | exact Drawn0.refl _ | apply Drawn0.step)⟩
     ·rw [if_neg c7] at H
      have c7b0 : ((rd l0 x5_1) == (rd l1 x5_1)) = false := beq_eq_false_iff_ne.mpr c7
      have c7b1 : ((rd l0 x5_1) != (rd l1 x5_1)) = true := bne_iff_ne.mpr c7
      obtain rfl := Option.some.inj H
      have p514 : 0 ≤ (x5_1 : Int) := zq6
      have q514 : x5_1 < (l0.length : Int) := zq6
      obtain ⟨ad514, e514, hx514_0⟩ := Kd.at_int HR0.out x5_1 p514 q514
      cases e514
      replace p514 := eq_true p514
      replace q514 := eq_true q514
      have p515 : 0 ≤ (x5_1 : Int) := zq6
      have q515 : x5_1 < (l1.length : Int) := zq6
      obtain ⟨ad515, e515, hx515_0⟩ := Kd.at_int HR1.out x5_1 p515 q515
      cases e515
      replace p515 := eq_true p515
      replace q515 := eq_true q515
      go_wp2
      repeat (go_quiet (fail); try go_wp2)
      go_ret
      exact ⟨by first | rfl | (simp; done) | (simp [*]; done), by repeat (first | exact Drawn0.refl _ | apply Drawn0.step)⟩
    ·rw [if_neg c4] at H
     have c4b0 := decide_eq_false c4
     clear c4
     obtain rfl := Option.some.inj H
     go_wp2
     repeat (go_quiet (fail); try go_wp2)
     go_ret
     exact ⟨by first | rfl | (simp; done) | (simp [*]; done), by repeat (first | exact Drawn0.refl _ | apply Drawn0.step)⟩
 ·rw [if_neg c3] at H
  have c3b0 : ((l0.length : Int) == (l1.length : Int)) = false := beq_eq_false_iff_ne.mpr c3
  have c3b1 : ((l0.length : Int) != (l1.length : Int)) = true := bne_iff_ne.mpr c3
  have c3b2 : (l0.length == l1.length) = false := by first | simpa using c3 | (simp at c3 ⊢; omega)
  obtain rfl := Option.some.inj H
  go_enter Tryd.func55, Tryd.ntmps55
  go_wp2
  repeat (go_quiet (fail); try go_wp2)
  go_ret
  exact ⟨by first | rfl | (simp; done) | (simp [*]; done), by repeat (first | exact Drawn0.refl _ | apply Drawn0.step)⟩
def strings_IndexByte.f (a0 : ByteArray) (a1 : Int) : Option (Int) := some (Lib.indexByte a0.data.toList a1.toNat.toUInt8)
theorem strings_IndexByte.calls (a0 : ByteArray) (a1 : Int) (r : Int) (w : World) (h : strings_IndexByte.f a0 a1 = some r) :
  Calls Tryd.prog 65 #[.string a0, .int .u8 a1] w fun e w' => e = .returned (.int .i64 r) ∧ Drawn0 w w' := by
 obtain rfl := Option.some.inj h
 exact (Any.strings_IndexByte Tryd.lays137 a0 a1 w).mono fun e w' h => ⟨h.1, by rw [h.2]; exact Drawn0.refl w⟩
end Go.Proofs.YtemnjgkicndmjaaDoor.Q
namespace Go.Proofs.YtemnjgkicndmjaaDoor.Q
open Go.RowKit Go.Proofs.YtemnjgkicndmjaaDoor.E Go.Proofs.YtemnjgkicndmjaaDoorW.PrintWords Go.Proofs.YtemnjgkicndmjaaDoorW.PrintLast Go.Proofs.YtemnjgkicndmjaaDoorW.PrintMore
set_option linter.unusedVariables false
noncomputable def rf_Fault.c : (R : Type) → (Nm) → ((Int) → Option R) → Option R := fun R a => lm (fun (a : Nm) k => rf_Fault.f k a.1 a.2.1 a.2.2) R a
theorem rf_Fault.pc (a : Nm) (b : Int) (k : Nat) (h : rf_Fault.f k a.1 a.2.1 a.2.2 = some b) : PureC Tryd.prog 15 ((one kN).enc a) (iI.enc b) := by
  intro w P0 vs hr
  obtain ⟨x0, x1, x2⟩ := a
  obtain ⟨d0, u0, e0, hg0, hr⟩ := at_agg hr
  obtain ⟨u1, e1, hg0⟩ := at_bool hg0
  obtain ⟨A2, c2, u2, e2, hc2, hf2, hg0⟩ := at_row hg0
  obtain ⟨A3, c3, u3, e3, hc3, hf3, hg0⟩ := at_row hg0
  have z := at_nil hg0
  subst z
  subst e3
  subst e2
  have q4 := e1
  obtain rfl : d0 = #[.bool x0, .slice A2 x1.length c2, .slice A3 x2.length c3] := Array.toList_inj.1 (by simpa using q4)
  have z := at_nil hr
  subst z
  have q5 := e0
  obtain rfl : vs = #[.agg #[.bool x0, .slice A2 x1.length c2, .slice A3 x2.length c3]] := Array.toList_inj.1 (by simpa using q5)
  refine Calls.mono (rf_Fault.calls k x0 A2 c2 x1 A3 c3 x2 b w (now hf2) hc2 (now hf3) hc3 h) fun e w' he => ?_
  obtain ⟨rfl, hb⟩ := he
  exact ⟨_, rfl, hb, (show E.Rep _ _ _ _ _ from by simp only [iI, ci, E.Rep])⟩
theorem rf_Fault.ok : FunOk Tryd.prog 15 (mk (one kN) iI rf_Fault.c) := lm_ok (by kernel_rfl) rf_Fault.pc
theorem rf_Fault.eq {x0 : Bool} {x1 : List Int} {x2 : List Int} {b : Int} (h : Ev (fun k => rf_Fault.f k x0 x1 x2) b) {R : Type} (K : (Int) → Option R) : rf_Fault.c R (x0, x1, x2) K = K b := lm_ev (g := fun (a : Nm) k => rf_Fault.f k a.1 a.2.1 a.2.2) (a := (x0, x1, x2)) h K
noncomputable def rf_natOf.c : (R : Type) → (List Int) → ((List Int) → Option R) → Option R := fun R a => lm (fun (a : List Int) k => rf_natOf.f k a) R a
theorem rf_natOf.pc (a : List Int) (b : List Int) (k : Nat) (h : rf_natOf.f k a = some b) : PureC Tryd.prog 45 ((one rU).enc a) (rI.enc b) := by
  intro w P0 vs hr
  obtain ⟨A0, c0, u0, e0, hc0, hf0, hr⟩ := at_row hr
  have z := at_nil hr
  subst z
  have q1 := e0
  obtain rfl : vs = #[.slice A0 a.length c0] := Array.toList_inj.1 (by simpa using q1)
  refine Calls.mono (rf_natOf.calls k A0 c0 a b w (now hf0) hc0 h) fun e w' he => ?_
  obtain ⟨v0_, rfl, hv0, hb⟩ := he
  exact ⟨_, rfl, hb, (V_row hv0 fun n hn => .inr hn)⟩
theorem rf_natOf.ok : FunOk Tryd.prog 45 (mk (one rU) rI rf_natOf.c) := lm_ok (by kernel_rfl) rf_natOf.pc
theorem rf_natOf.eq {x0 : List Int} {b : List Int} (h : Ev (fun k => rf_natOf.f k x0) b) {R : Type} (K : (List Int) → Option R) : rf_natOf.c R x0 K = K b := lm_ev (g := fun (a : List Int) k => rf_natOf.f k a) (a := x0) h K
noncomputable def rf_CmpNat.c : (R : Type) → (List Int × List Int) → ((Int) → Option R) → Option R := fun R a => lm (fun (a : List Int × List Int) k => rf_CmpNat.f k a.1 a.2) R a
theorem rf_CmpNat.pc (a : List Int × List Int) (b : Int) (k : Nat) (h : rf_CmpNat.f k a.1 a.2 = some b) : PureC Tryd.prog 46 ((more rI (one rI)).enc a) (iI.enc b) := by
  intro w P0 vs hr
  obtain ⟨x0, x1⟩ := a
  obtain ⟨A0, c0, u0, e0, hc0, hf0, hr⟩ := at_row hr
  obtain ⟨A1, c1, u1, e1, hc1, hf1, hr⟩ := at_row hr
  have z := at_nil hr
  subst z
  subst e1
  have q2 := e0
  obtain rfl : vs = #[.slice A0 x0.length c0, .slice A1 x1.length c1] := Array.toList_inj.1 (by simpa using q2)
  refine Calls.mono (rf_CmpNat.calls k A0 c0 x0 A1 c1 x1 b w (now hf0) hc0 (now hf1) hc1 h) fun e w' he => ?_
  obtain ⟨rfl, hb⟩ := he
  exact ⟨_, rfl, hb, (show E.Rep _ _ _ _ _ from by simp only [iI, ci, E.Rep])⟩
theorem rf_CmpNat.ok : FunOk Tryd.prog 46 (mk (more rI (one rI)) iI rf_CmpNat.c) := lm_ok (by kernel_rfl) rf_CmpNat.pc
theorem rf_CmpNat.eq {x0 : List Int} {x1 : List Int} {b : Int} (h : Ev (fun k => rf_CmpNat.f k x0 x1) b) {R : Type} (K : (Int) → Option R) : rf_CmpNat.c R (x0, x1) K = K b := lm_ev (g := fun (a : List Int × List Int) k => rf_CmpNat.f k a.1 a.2) (a := (x0, x1)) h K
noncomputable def rf_MulNat.c : (R : Type) → (List Int × List Int) → ((List Int) → Option R) → Option R := fun R a => lm (fun (a : List Int × List Int) k => rf_MulNat.f k a.1 a.2) R a
theorem rf_MulNat.pc (a : List Int × List Int) (b : List Int) (k : Nat) (h : rf_MulNat.f k a.1 a.2 = some b) : PureC Tryd.prog 63 ((more rI (one rI)).enc a) (rI.enc b) := by
  intro w P0 vs hr
  obtain ⟨x0, x1⟩ := a
  obtain ⟨A0, c0, u0, e0, hc0, hf0, hr⟩ := at_row hr
  obtain ⟨A1, c1, u1, e1, hc1, hf1, hr⟩ := at_row hr
  have z := at_nil hr
  subst z
  subst e1
  have q2 := e0
  obtain rfl : vs = #[.slice A0 x0.length c0, .slice A1 x1.length c1] := Array.toList_inj.1 (by simpa using q2)
  refine Calls.mono (rf_MulNat.calls k A0 c0 x0 A1 c1 x1 b w (now hf0) hc0 (now hf1) hc1 h) fun e w' he => ?_
  obtain ⟨v0_, rfl, hv0, hb⟩ := he
  exact ⟨_, rfl, hb, (V_row hv0 fun n hn => .inr hn)⟩
theorem rf_MulNat.ok : FunOk Tryd.prog 63 (mk (more rI (one rI)) rI rf_MulNat.c) := lm_ok (by kernel_rfl) rf_MulNat.pc
theorem rf_MulNat.eq {x0 : List Int} {x1 : List Int} {b : List Int} (h : Ev (fun k => rf_MulNat.f k x0 x1) b) {R : Type} (K : (List Int) → Option R) : rf_MulNat.c R (x0, x1) K = K b := lm_ev (g := fun (a : List Int × List Int) k => rf_MulNat.f k a.1 a.2) (a := (x0, x1)) h K
noncomputable def rf_AddNat.c : (R : Type) → (List Int × List Int) → ((List Int) → Option R) → Option R := fun R a => lm (fun (a : List Int × List Int) k => rf_AddNat.f k a.1 a.2) R a
theorem rf_AddNat.pc (a : List Int × List Int) (b : List Int) (k : Nat) (h : rf_AddNat.f k a.1 a.2 = some b) : PureC Tryd.prog 90 ((more rI (one rI)).enc a) (rI.enc b) := by
  intro w P0 vs hr
  obtain ⟨x0, x1⟩ := a
  obtain ⟨A0, c0, u0, e0, hc0, hf0, hr⟩ := at_row hr
  obtain ⟨A1, c1, u1, e1, hc1, hf1, hr⟩ := at_row hr
  have z := at_nil hr
  subst z
  subst e1
  have q2 := e0
  obtain rfl : vs = #[.slice A0 x0.length c0, .slice A1 x1.length c1] := Array.toList_inj.1 (by simpa using q2)
  refine Calls.mono (rf_AddNat.calls k A0 c0 x0 A1 c1 x1 b w (now hf0) hc0 (now hf1) hc1 h) fun e w' he => ?_
  obtain ⟨v0_, rfl, hv0, hb⟩ := he
  exact ⟨_, rfl, hb, (V_row hv0 fun n hn => .inr hn)⟩
theorem rf_AddNat.ok : FunOk Tryd.prog 90 (mk (more rI (one rI)) rI rf_AddNat.c) := lm_ok (by kernel_rfl) rf_AddNat.pc
theorem rf_AddNat.eq {x0 : List Int} {x1 : List Int} {b : List Int} (h : Ev (fun k => rf_AddNat.f k x0 x1) b) {R : Type} (K : (List Int) → Option R) : rf_AddNat.c R (x0, x1) K = K b := lm_ev (g := fun (a : List Int × List Int) k => rf_AddNat.f k a.1 a.2) (a := (x0, x1)) h K
noncomputable def rf_SubNat.c : (R : Type) → (List Int × List Int) → ((List Int) → Option R) → Option R := fun R a => lm (fun (a : List Int × List Int) k => rf_SubNat.f k a.1 a.2) R a
theorem rf_SubNat.pc (a : List Int × List Int) (b : List Int) (k : Nat) (h : rf_SubNat.f k a.1 a.2 = some b) : PureC Tryd.prog 83 ((more rI (one rI)).enc a) (rI.enc b) := by
  intro w P0 vs hr
  obtain ⟨x0, x1⟩ := a
  obtain ⟨A0, c0, u0, e0, hc0, hf0, hr⟩ := at_row hr
  obtain ⟨A1, c1, u1, e1, hc1, hf1, hr⟩ := at_row hr
  have z := at_nil hr
  subst z
  subst e1
  have q2 := e0
  obtain rfl : vs = #[.slice A0 x0.length c0, .slice A1 x1.length c1] := Array.toList_inj.1 (by simpa using q2)
  refine Calls.mono (rf_SubNat.calls k A0 c0 x0 A1 c1 x1 b w (now hf0) hc0 (now hf1) hc1 h) fun e w' he => ?_
  obtain ⟨v0_, rfl, hv0, hb⟩ := he
  exact ⟨_, rfl, hb, (V_row hv0 fun n hn => .inr hn)⟩
theorem rf_SubNat.ok : FunOk Tryd.prog 83 (mk (more rI (one rI)) rI rf_SubNat.c) := lm_ok (by kernel_rfl) rf_SubNat.pc
theorem rf_SubNat.eq {x0 : List Int} {x1 : List Int} {b : List Int} (h : Ev (fun k => rf_SubNat.f k x0 x1) b) {R : Type} (K : (List Int) → Option R) : rf_SubNat.c R (x0, x1) K = K b := lm_ev (g := fun (a : List Int × List Int) k => rf_SubNat.f k a.1 a.2) (a := (x0, x1)) h K
noncomputable def rf_GcdNat.c : (R : Type) → (List Int × List Int) → ((List Int) → Option R) → Option R := fun R a => lm (fun (a : List Int × List Int) k => rf_GcdNat.f k a.1 a.2) R a
theorem rf_GcdNat.pc (a : List Int × List Int) (b : List Int) (k : Nat) (h : rf_GcdNat.f k a.1 a.2 = some b) : PureC Tryd.prog 47 ((more rI (one rI)).enc a) (rI.enc b) := by
  intro w P0 vs hr
  obtain ⟨x0, x1⟩ := a
  obtain ⟨A0, c0, u0, e0, hc0, hf0, hr⟩ := at_row hr
  obtain ⟨A1, c1, u1, e1, hc1, hf1, hr⟩ := at_row hr
  have z := at_nil hr
  subst z
  subst e1
  have q2 := e0
  obtain rfl : vs = #[.slice A0 x0.length c0, .slice A1 x1.length c1] := Array.toList_inj.1 (by simpa using q2)
  refine Calls.mono (rf_GcdNat.calls k P0 A0 c0 x0 P0 A1 c1 x1 b w (rowV hf0 hc0) (rowV hf1 hc1) h) fun e w' he => ?_
  obtain ⟨v0_, rfl, hv0, hb⟩ := he
  exact ⟨_, rfl, hb, (V_row hv0 fun n hn => hn.elim (fun h => h.elim .inl .inl) .inr)⟩
theorem rf_GcdNat.ok : FunOk Tryd.prog 47 (mk (more rI (one rI)) rI rf_GcdNat.c) := lm_ok (by kernel_rfl) rf_GcdNat.pc
theorem rf_GcdNat.eq {x0 : List Int} {x1 : List Int} {b : List Int} (h : Ev (fun k => rf_GcdNat.f k x0 x1) b) {R : Type} (K : (List Int) → Option R) : rf_GcdNat.c R (x0, x1) K = K b := lm_ev (g := fun (a : List Int × List Int) k => rf_GcdNat.f k a.1 a.2) (a := (x0, x1)) h K
noncomputable def rf_DivNat.c : (R : Type) → (List Int × List Int) → (((List Int × List Int)) → Option R) → Option R := fun R a => lm (fun (a : List Int × List Int) k => rf_DivNat.f k a.1 a.2) R a
theorem rf_DivNat.pc (a : List Int × List Int) (b : (List Int × List Int)) (k : Nat) (h : rf_DivNat.f k a.1 a.2 = some b) : PureC Tryd.prog 76 ((more rI (one rI)).enc a) ((tup (more rI (one rI))).enc b) := by
  intro w P0 vs hr
  obtain ⟨x0, x1⟩ := a
  obtain ⟨r0, r1⟩ := b
  obtain ⟨A0, c0, u0, e0, hc0, hf0, hr⟩ := at_row hr
  obtain ⟨A1, c1, u1, e1, hc1, hf1, hr⟩ := at_row hr
  have z := at_nil hr
  subst z
  subst e1
  have q2 := e0
  obtain rfl : vs = #[.slice A0 x0.length c0, .slice A1 x1.length c1] := Array.toList_inj.1 (by simpa using q2)
  refine Calls.mono (rf_DivNat.calls k A0 c0 x0 A1 c1 x1 r0 r1 w (now hf0) hc0 (now hf1) hc1 h) fun e w' he => ?_
  obtain ⟨v0_, v1_, rfl, hv0, hv1, hb⟩ := he
  exact ⟨_, rfl, hb, (rep_tup2 (V_row hv0 fun n hn => .inr hn) (V_row hv1 fun n hn => .inr hn))⟩
theorem rf_DivNat.ok : FunOk Tryd.prog 76 (mk (more rI (one rI)) (tup (more rI (one rI))) rf_DivNat.c) := lm_ok (by kernel_rfl) rf_DivNat.pc
theorem rf_DivNat.eq {x0 : List Int} {x1 : List Int} {b : (List Int × List Int)} (h : Ev (fun k => rf_DivNat.f k x0 x1) b) {R : Type} (K : ((List Int × List Int)) → Option R) : rf_DivNat.c R (x0, x1) K = K b := lm_ev (g := fun (a : List Int × List Int) k => rf_DivNat.f k a.1 a.2) (a := (x0, x1)) h K
noncomputable def rf_limbs.c : (R : Type) → (List Int) → ((List Int) → Option R) → Option R := fun R a => lm (fun (a : List Int) k => rf_limbs.f k a) R a
theorem rf_limbs.pc (a : List Int) (b : List Int) (k : Nat) (h : rf_limbs.f k a = some b) : PureC Tryd.prog 108 ((one rI).enc a) (rU.enc b) := by
  intro w P0 vs hr
  obtain ⟨A0, c0, u0, e0, hc0, hf0, hr⟩ := at_row hr
  have z := at_nil hr
  subst z
  have q1 := e0
  obtain rfl : vs = #[.slice A0 a.length c0] := Array.toList_inj.1 (by simpa using q1)
  refine Calls.mono (rf_limbs.calls k A0 c0 a b w (now hf0) hc0 h) fun e w' he => ?_
  obtain ⟨v0_, rfl, hv0, hb⟩ := he
  exact ⟨_, rfl, hb, (R_new hv0 fun n hn => .inr hn)⟩
theorem rf_limbs.ok : FunOk Tryd.prog 108 (mk (one rI) rU rf_limbs.c) := lm_ok (by kernel_rfl) rf_limbs.pc
theorem rf_limbs.eq {x0 : List Int} {b : List Int} (h : Ev (fun k => rf_limbs.f k x0) b) {R : Type} (K : (List Int) → Option R) : rf_limbs.c R x0 K = K b := lm_ev (g := fun (a : List Int) k => rf_limbs.f k a) (a := x0) h K
noncomputable def lw_sameLimbs.c : (R : Type) → (List Int × List Int) → ((Bool) → Option R) → Option R := fun R a => lm (fun (a : List Int × List Int) k => lw_sameLimbs.f k a.1 a.2) R a
theorem lw_sameLimbs.pc (a : List Int × List Int) (b : Bool) (k : Nat) (h : lw_sameLimbs.f k a.1 a.2 = some b) : PureC Tryd.prog 55 ((more rU (one rU)).enc a) (cb.enc b) := by
  intro w P0 vs hr
  obtain ⟨x0, x1⟩ := a
  obtain ⟨A0, c0, u0, e0, hc0, hf0, hr⟩ := at_row hr
  obtain ⟨A1, c1, u1, e1, hc1, hf1, hr⟩ := at_row hr
  have z := at_nil hr
  subst z
  subst e1
  have q2 := e0
  obtain rfl : vs = #[.slice A0 x0.length c0, .slice A1 x1.length c1] := Array.toList_inj.1 (by simpa using q2)
  refine Calls.mono (lw_sameLimbs.calls k A0 c0 x0 A1 c1 x1 b w (now hf0) hc0 (now hf1) hc1 h) fun e w' he => ?_
  obtain ⟨rfl, hb⟩ := he
  exact ⟨_, rfl, hb.below, (show E.Rep _ _ _ _ _ from by simp only [cb, E.Rep])⟩
theorem lw_sameLimbs.ok : FunOk Tryd.prog 55 (mk (more rU (one rU)) cb lw_sameLimbs.c) := lm_ok (by kernel_rfl) lw_sameLimbs.pc
theorem lw_sameLimbs.eq {x0 : List Int} {x1 : List Int} {b : Bool} (h : Ev (fun k => lw_sameLimbs.f k x0 x1) b) {R : Type} (K : (Bool) → Option R) : lw_sameLimbs.c R (x0, x1) K = K b := lm_ev (g := fun (a : List Int × List Int) k => lw_sameLimbs.f k a.1 a.2) (a := (x0, x1)) h K
def strings_IndexByte.c : (R : Type) → (ByteArray × Int) → ((Int) → Option R) → Option R := fun R a => at' (fun (a : ByteArray × Int) => strings_IndexByte.f a.1 a.2) R a
theorem strings_IndexByte.pc (a : ByteArray × Int) (b : Int) (h : strings_IndexByte.f a.1 a.2 = some b) : PureC Tryd.prog 65 ((more cs (one (ci .u8))).enc a) (iI.enc b) := by
  intro w P0 vs hr
  obtain ⟨x0, x1⟩ := a
  obtain ⟨u0, e0, hr⟩ := at_str hr
  obtain ⟨u1, e1, hr⟩ := at_int hr
  have z := at_nil hr
  subst z
  subst e1
  have q2 := e0
  obtain rfl : vs = #[.string x0, .int .u8 x1] := Array.toList_inj.1 (by simpa using q2)
  refine Calls.mono (strings_IndexByte.calls x0 x1 b w h) fun e w' he => ?_
  obtain ⟨rfl, hb⟩ := he
  exact ⟨_, rfl, hb.below, (show E.Rep _ _ _ _ _ from by simp only [iI, ci, E.Rep])⟩
theorem strings_IndexByte.ok : FunOk Tryd.prog 65 (mk (more cs (one (ci .u8))) iI strings_IndexByte.c) := at_ok (by kernel_rfl) strings_IndexByte.pc
theorem strings_IndexByte.eq {x0 : ByteArray} {x1 : Int} {b : Int} (h : strings_IndexByte.f x0 x1 = some b) {R : Type} (K : (Int) → Option R) : strings_IndexByte.c R (x0, x1) K = K b := at_eq (g := fun (a : ByteArray × Int) => strings_IndexByte.f a.1 a.2) (a := (x0, x1)) h K
end Go.Proofs.YtemnjgkicndmjaaDoor.Q
