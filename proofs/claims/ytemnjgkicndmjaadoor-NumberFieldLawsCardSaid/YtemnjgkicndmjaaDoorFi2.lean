/- What this text proves: a part of the walk and of the plain laws of one card; no conditions. -/
import Derived.Test.YtemnjgkicndmjaaDoorFi1
namespace Go.Proofs.YtemnjgkicndmjaaDoor.Q
open Go.RowKit Go.Proofs.YtemnjgkicndmjaaDoorW.PrintWords Go.Proofs.YtemnjgkicndmjaaDoorW.PrintLast Go.Proofs.YtemnjgkicndmjaaDoorW.PrintMore
set_option linter.unusedVariables false
theorem sameLimbs_loop (a b : List Int) (hl : a.length = b.length) (hL : a.length ≤ 1099511627776) : ∀ (d i : Nat), d + i = a.length → a.take i = b.take i → Ev (fun k => lw_sameLimbs.l0 k a b (i : Int)) (decide (a = b)) := by
  intro d
  induction d with
  | zero =>
    intro i hd h
    rw [List.take_of_length_le (by omega), List.take_of_length_le (by omega)] at h
    refine Ev.step (f := fun _ => some true) (fun k => ?_) (Ev.eq (Ev.now _) (by rw [decide_eq_true h]))
    simp only [lw_sameLimbs.l0]
    rw [if_neg (by omega)]
  | succ d ih =>
    intro i hd h
    have g1 : (i : Int) < (a.length : Int) := by omega
    have g2 : (0 : Int) ≤ (i : Int) := by omega
    have g3 : (i : Int) < (b.length : Int) := by omega
    have gw : ∀ _ : Unit, wrap64 ((i : Int) + 1) = ((i + 1 : Nat) : Int) := fun _ => by rw [w64 (by omega) (by omega)]; omega
    by_cases c : a.getD i 0 = b.getD i 0
    · refine Ev.step (f := fun k => lw_sameLimbs.l0 k a b ((i + 1 : Nat) : Int)) (fun k => ?_) (ih (i + 1) (by omega) (by rw [take_succ' _ _ (by omega), take_succ' _ _ (by omega), h, c]))
      simp only [lw_sameLimbs.l0]
      rw [if_pos g1, if_pos g2, if_pos g3, rd_getD, rd_getD, if_pos c, gw ()]
    · refine Ev.step (f := fun _ => some false) (fun k => ?_) (Ev.eq (Ev.now _) (by rw [decide_eq_false]; rintro rfl; exact c rfl))
      simp only [lw_sameLimbs.l0]
      rw [if_pos g1, if_pos g2, if_pos g3, rd_getD, rd_getD, if_neg c]
theorem sameLimbs_ev (a b : List Int) (hL : a.length ≤ 1099511627776) : Ev (fun k => lw_sameLimbs.f k a b) (decide (a = b)) := by
  by_cases hl : a.length = b.length
  · refine Ev.congr (fun k => ?_) (sameLimbs_loop a b hl hL a.length 0 (by omega) rfl)
    unfold lw_sameLimbs.f
    rw [if_pos (by omega)]; rfl
  · refine Ev.ret fun k => ?_
    unfold lw_sameLimbs.f
    rw [if_neg (by omega), decide_eq_false (fun h => hl (by rw [h]))]
theorem same_ev (m : Bool) (a b : List Int) (n : Bool) (c d : List Int) (hL : a.length ≤ 1099511627776) (hM : b.length ≤ 1099511627776) : Ev (fun k => lw_same.f k m a b n c d) (decide (m = n ∧ a = c ∧ b = d)) := by
  by_cases h : m = n
  · refine Ev.congr (f := fun k => (lw_sameLimbs.f k a c).bind fun t518 => (if t518 = true then ((lw_sameLimbs.f k b d).bind fun t519 => (some t519)) else (some false))) (fun k => by unfold lw_same.f; rw [if_pos (by simpa using h)]) ?_
    refine Ev.bind (f := fun k t518 => (if t518 = true then ((lw_sameLimbs.f k b d).bind fun t519 => (some t519)) else (some false))) (sameLimbs_ev a c hL) ?_
    by_cases h2 : a = c
    · refine Ev.congr (f := fun k => (lw_sameLimbs.f k b d).bind fun t519 => (some t519)) (fun k => by rw [if_pos (decide_eq_true h2)]) ?_
      refine Ev.bind (f := fun _ t519 => some t519) (sameLimbs_ev b d hM) (Ev.eq (Ev.now _) ?_)
      simp [h, h2]
    · exact Ev.ret fun k => by rw [if_neg (by simp [h2])]; simp [h2]
  · exact Ev.ret fun k => by unfold lw_same.f; rw [if_neg (by simpa using h)]; simp [h]
theorem clone_eq' (a : List Int) (h : a.length ≤ 1099511627776) : slices_Clone_uint32_uint32.f a = some a := by unfold slices_Clone_uint32_uint32.f; rw [if_pos (by omega)]
theorem raw_ev (neg : Bool) (a b : List Int) (ha : Lim 4294967296 a) (na : Nrm a) (hb : Lim 4294967296 b) (nb : Nrm b) (b0 : b ≠ []) (la : a.length ≤ 1048575) (lb : b.length ≤ 1048575) :
    ∃ p q, Ev (fun k => number_raw.f k neg a b) (neg && decide (p ≠ []), p, q) ∧ Lim 4294967296 p ∧ Nrm p ∧ Lim 4294967296 q ∧ Nrm q ∧ p.length ≤ 1048576 ∧ q.length ≤ 1048576 ∧
      val 4294967296 p = val 4294967296 a / (Nat.gcd (val 4294967296 a).toNat (val 4294967296 b).toNat : Nat) ∧ val 4294967296 q = val 4294967296 b / (Nat.gcd (val 4294967296 a).toNat (val 4294967296 b).toNat : Nat) := by
  have hB : (0 : Int) < 4294967296 := by decide
  have pb := val_pos hB hb nb b0
  have pa := val_nonneg hB ha
  by_cases h0 : a = []
  · subst h0
    refine ⟨[], [1], Ev.ret fun k => ?_, lim_nil _, nrm_nil, one_lim (by decide), one_nrm, by decide, by decide, ?_, ?_⟩
    · unfold number_raw.f; simp
    · rw [show val 4294967296 [] = 0 from rfl, Int.zero_ediv]
    · have h2 : (val 4294967296 []).toNat = 0 := rfl
      rw [h2, Nat.gcd_zero_left, val_one, Int.toNat_of_nonneg (by omega), Int.ediv_self (by omega)]
  · have hl : ¬ (a.length : Int) = 0 := by
      have : a.length ≠ 0 := fun h' => h0 (List.length_eq_zero_iff.1 h')
      omega
    by_cases c : b = [1]
    · refine ⟨a, b, Ev.ret fun k => ?_, ha, na, hb, nb, by omega, by omega, ?_, ?_⟩
      · unfold number_raw.f
        rw [if_neg hl, IsOne_eq, Option.bind_some, if_pos (decide_eq_true c), clone_eq' a (by omega), Option.bind_some, clone_eq' b (by omega), Option.bind_some]
        simp [h0]
      · rw [c, val_one]
        have h2 : (1 : Int).toNat = 1 := rfl
        rw [h2, Nat.gcd_one_right]; simp
      · rw [c, val_one]
        have h2 : (1 : Int).toNat = 1 := rfl
        rw [h2, Nat.gcd_one_right]; simp
    · obtain ⟨g, g1, g2, g3, g4⟩ := Gcd_ev a b ha hb na nb (by omega) (by omega)
      have e0 : ∀ k, number_raw.f k neg a b = (nat_Gcd.f k a b).bind fun t334 => ((nat_IsOne.f t334).bind fun t337 => (if t337 = true then ((slices_Clone_uint32_uint32.f a).bind fun t338 => ((slices_Clone_uint32_uint32.f b).bind fun t341 => (some (neg, t338, t341)))) else ((nat_DivMod.f k a t334).bind fun bt344 => ((nat_DivMod.f k b t334).bind fun bt350 => ((slices_Clone_uint32_uint32.f bt344.1).bind fun t356 => ((slices_Clone_uint32_uint32.f bt350.1).bind fun t359 => (some (neg, t356, t359)))))))) := by
        intro k
        unfold number_raw.f
        rw [if_neg hl, IsOne_eq, Option.bind_some, if_neg (by simp [c])]
      by_cases c2 : g = [1]
      · subst c2
        rw [val_one] at g4
        refine ⟨a, b, ?_, ha, na, hb, nb, by omega, by omega, by rw [← g4, Int.ediv_one], by rw [← g4, Int.ediv_one]⟩
        refine Ev.congr e0 (Ev.bind (f := fun k t334 => ((nat_IsOne.f t334).bind fun t337 => (if t337 = true then ((slices_Clone_uint32_uint32.f a).bind fun t338 => ((slices_Clone_uint32_uint32.f b).bind fun t341 => (some (neg, t338, t341)))) else ((nat_DivMod.f k a t334).bind fun bt344 => ((nat_DivMod.f k b t334).bind fun bt350 => ((slices_Clone_uint32_uint32.f bt344.1).bind fun t356 => ((slices_Clone_uint32_uint32.f bt350.1).bind fun t359 => (some (neg, t356, t359))))))))) g1 (Ev.ret fun k => ?_))
        rw [IsOne_eq, Option.bind_some, if_pos (by decide), clone_eq' a (by omega), Option.bind_some, clone_eq' b (by omega), Option.bind_some]
        simp [h0]
      · have hg0 : g ≠ [] := by
          rintro rfl
          have h2 : Nat.gcd (val 4294967296 a).toNat (val 4294967296 b).toNat ≠ 0 := by
            intro h3
            have := (Nat.gcd_eq_zero_iff.1 h3).2
            omega
          simp [val] at g4
          omega
        have hgl : g.length ≤ b.length := by
          rcases Nat.lt_or_ge b.length g.length with h | h
          · have h1 := len_lt_val hB hb g2 g3 h
            have h2 : Nat.gcd (val 4294967296 a).toNat (val 4294967296 b).toNat ≤ (val 4294967296 b).toNat := Nat.gcd_le_right _ (by omega)
            omega
          · exact h
        obtain ⟨p, r1, p1, p2, p3, p4, p5, p6, p7, p8⟩ := DivMod_ev a g ha g2 na g3 hg0 (by omega) (by omega)
        obtain ⟨q, r2, q1, q2, q3, q4, q5, q6, q7, q8⟩ := DivMod_ev b g hb g2 nb g3 hg0 (by omega) (by omega)
        have hp0 : p ≠ [] := by
          rintro rfl
          have h1 : 0 < val 4294967296 a := val_pos hB ha na h0
          have h2 : Nat.gcd (val 4294967296 a).toNat (val 4294967296 b).toNat ≤ (val 4294967296 a).toNat := Nat.gcd_le_left _ (by omega)
          have h3 : 0 < val 4294967296 g := val_pos hB g2 g3 hg0
          have h4 : val 4294967296 a / val 4294967296 g = 0 := by rw [← p6]; rfl
          have h5 : 1 ≤ val 4294967296 a / val 4294967296 g := Int.le_ediv_of_mul_le h3 (by rw [Int.one_mul]; omega)
          omega
        refine ⟨p, q, ?_, p2, p3, q2, q3, by omega, by omega, by rw [p6, g4], by rw [q6, g4]⟩
        refine Ev.congr e0 (Ev.bind (f := fun k t334 => ((nat_IsOne.f t334).bind fun t337 => (if t337 = true then ((slices_Clone_uint32_uint32.f a).bind fun t338 => ((slices_Clone_uint32_uint32.f b).bind fun t341 => (some (neg, t338, t341)))) else ((nat_DivMod.f k a t334).bind fun bt344 => ((nat_DivMod.f k b t334).bind fun bt350 => ((slices_Clone_uint32_uint32.f bt344.1).bind fun t356 => ((slices_Clone_uint32_uint32.f bt350.1).bind fun t359 => (some (neg, t356, t359))))))))) g1 ?_)
        refine Ev.congr (f := fun k => (nat_DivMod.f k a g).bind fun bt344 => ((nat_DivMod.f k b g).bind fun bt350 => ((slices_Clone_uint32_uint32.f bt344.1).bind fun t356 => ((slices_Clone_uint32_uint32.f bt350.1).bind fun t359 => (some (neg, t356, t359)))))) (fun k => by rw [IsOne_eq, Option.bind_some, if_neg (by simp [c2])]) ?_
        refine Ev.bind (f := fun k bt344 => ((nat_DivMod.f k b g).bind fun bt350 => ((slices_Clone_uint32_uint32.f bt344.1).bind fun t356 => ((slices_Clone_uint32_uint32.f bt350.1).bind fun t359 => (some (neg, t356, t359)))))) p1 ?_
        refine Ev.bind (f := fun _ bt350 => ((slices_Clone_uint32_uint32.f p).bind fun t356 => ((slices_Clone_uint32_uint32.f bt350.1).bind fun t359 => (some (neg, t356, t359))))) q1 (Ev.ret fun k => ?_)
        rw [clone_eq' p (by omega), Option.bind_some, clone_eq' q (by omega), Option.bind_some]
        simp [hp0]
def outN (neg : Bool) (p q : List Int) : Bool × List Int × List Int × Int := if p.length > 128 ∨ q.length > 128 then (false, [], [], 3) else (neg, p, q, 0)
theorem made_ev (neg : Bool) (a b : List Int) (ha : Lim 4294967296 a) (na : Nrm a) (hb : Lim 4294967296 b) (nb : Nrm b) (b0 : b ≠ []) (la : a.length ≤ 1048575) (lb : b.length ≤ 1048575) :
    ∃ p q, Ev (fun k => number_made.f k neg a b) (outN (neg && decide (p ≠ [])) p q) ∧ Lim 4294967296 p ∧ Nrm p ∧ Lim 4294967296 q ∧ Nrm q ∧
      val 4294967296 p = val 4294967296 a / (Nat.gcd (val 4294967296 a).toNat (val 4294967296 b).toNat : Nat) ∧ val 4294967296 q = val 4294967296 b / (Nat.gcd (val 4294967296 a).toNat (val 4294967296 b).toNat : Nat) := by
  obtain ⟨p, q, h1, p1, p2, q1, q2, lp, lq, p3, q3⟩ := raw_ev neg a b ha na hb nb b0 la lb
  refine ⟨p, q, ?_, p1, p2, q1, q2, p3, q3⟩
  refine Ev.bind (f := fun k bt365 => ((number_fits.f bt365.1 bt365.2.1 bt365.2.2).bind fun bt372 => (some (bt372.1, bt372.2.1, bt372.2.2.1, bt372.2.2.2)))) h1 (Ev.ret fun k => ?_)
  have e : number_fits.f (neg && decide (p ≠ [])) p q = some (outN (neg && decide (p ≠ [])) p q) := by
    unfold number_fits.f outN
    by_cases c1 : p.length > 128
    · rw [if_pos (by omega), if_pos (Or.inl c1)]
    · rw [if_neg (by omega)]
      by_cases c2 : q.length > 128
      · rw [if_pos (by omega), if_pos (Or.inr c2)]
      · rw [if_neg (by omega), if_neg (by omega)]
  show (number_fits.f (neg && decide (p ≠ [])) p q).bind _ = _
  rw [e]; rfl
theorem plus_same : ∀ (k : Nat) (b x : List Int) (c n i : Int), nat_plus.l1000 k b x c n i = nat_plus.l0 k b x c n i := by
  intro k
  induction k with
  | zero => intros; rfl
  | succ k ih => intro b x c n i; simp only [nat_plus.l1000, nat_plus.l0, ih]
theorem plus_loop (b : List Int) (hb : Lim 4294967296 b) (N : Nat) (hN : N ≤ 549755813888) (hbN : b.length ≤ N) (T : Int) (hT : T < 4294967296 ^ N) : ∀ (d i : Nat) (x : List Int) (c : Int), d + i = N → x.length = N → Lim 4294967296 x → 0 ≤ c → c ≤ 1 →
    val 4294967296 x + 4294967296 ^ i * c + (val 4294967296 b - val 4294967296 (b.take i)) = T →
    ∃ r, Ev (fun k => nat_plus.l0 k b x c (N : Int) (i : Int)) (trim r) ∧ r.length = N ∧ Lim 4294967296 r ∧ val 4294967296 r = T := by
  have hB : (0 : Int) < 4294967296 := by decide
  intro d
  induction d with
  | zero =>
    intro i x c hd hl hx hc0 hc hv
    have hi : i = N := by omega
    subst hi
    refine ⟨x, Ev.step (f := fun k => (nat_Trim.f k x).bind fun t => some t) (fun k => ?_) (Ev.bind (f := fun _ t => some t) (Trim_ev x (by omega)) (Ev.now _)), hl, hx, ?_⟩
    · simp only [nat_plus.l0]; rw [if_neg (by omega)]
    · rw [List.take_of_length_le (by omega), Int.sub_self, Int.add_zero] at hv
      have h1 := val_nonneg hB hx
      by_cases h : c = 0
      · rw [h, Int.mul_zero] at hv; omega
      · have e : c = 1 := by omega
        rw [e, Int.mul_one] at hv
        generalize (4294967296 : Int) ^ i = p at *
        omega
  | succ d ih =>
    intro i x c hd hl hx hc0 hc hv
    have g1 : (i : Int) < (N : Int) := by omega
    have g2 : (0 : Int) ≤ (i : Int) := by omega
    have g3 : i < x.length := by omega
    have g4 : (i : Int) < (x.length : Int) := by omega
    have g5 : d + (i + 1) = N := by omega
    have gw : ∀ _ : Unit, wrap64 ((i : Int) + 1) = ((i + 1 : Nat) : Int) := fun _ => by rw [w64 (by omega) (by omega)]; omega
    have hxi := hx.rd hB (i : Int)
    have hxg : rd x (i : Int) = x.getD i 0 := rd_getD x i
    generalize rd x (i : Int) = a at hxi hxg
    have key : ∀ y : Int, 0 ≤ y → y < 4294967296 → b.getD i 0 = y → ∃ r, Ev (fun k => nat_plus.l0 k b (x.set i ((c + a + y) % 4294967296)) ((c + a + y) / 4294967296) (N : Int) ((i + 1 : Nat) : Int)) (trim r) ∧ r.length = N ∧ Lim 4294967296 r ∧ val 4294967296 r = T := by
      intro y hy0 hy hyb
      refine ih (i + 1) _ _ g5 (by rw [List.length_set, hl]) (hx.set i ⟨by omega, by omega⟩) (by omega) (by omega) ?_
      rw [val_set _ _ _ _ g3, ← hxg, val_take_succ', hyb, Int.pow_succ]
      have e : (c + a + y) % 4294967296 = c + a + y - 4294967296 * ((c + a + y) / 4294967296) := by omega
      rw [e]
      generalize (c + a + y) / 4294967296 = q
      generalize (4294967296 : Int) ^ i = p at *
      grind
    by_cases hi : i < b.length
    · have hb1 := hb.rd hB (i : Int)
      have hbg : rd b (i : Int) = b.getD i 0 := rd_getD b i
      have g6 : (i : Int) < (b.length : Int) := by omega
      generalize rd b (i : Int) = y at hb1 hbg
      obtain ⟨r, hr, h⟩ := key y hb1.1 hb1.2 hbg.symm
      have e : IntKind.u64.wrap (IntKind.u64.wrap (c + IntKind.u64.wrap a) + IntKind.u64.wrap y) = c + a + y := by
        rw [u64_id hxi.1 (by omega), u64_id hb1.1 (by omega), u64_id (x := c + a) (by omega) (by omega), u64_id (by omega) (by omega)]
      refine ⟨r, Ev.step (f := fun k => nat_plus.l0 k b (x.set i ((c + a + y) % 4294967296)) ((c + a + y) / 4294967296) (N : Int) ((i + 1 : Nat) : Int)) (fun k => ?_) hr, h⟩
      simp only [nat_plus.l0]
      rw [if_pos g1, if_pos g2, if_pos g4, if_pos g6, rd_getD x i, rd_getD b i, ← hxg, ← hbg, e, gw (), Int.toNat_natCast]
    · have g6 : ¬ (i : Int) < (b.length : Int) := by omega
      obtain ⟨r, hr, h⟩ := key 0 (by omega) (by omega) (by rw [List.getD_eq_getElem?_getD, List.getElem?_eq_none (by omega)]; rfl)
      have e : IntKind.u64.wrap (c + IntKind.u64.wrap a) = c + a + 0 := by
        rw [u64_id hxi.1 (by omega), u64_id (x := c + a) (by omega) (by omega), Int.add_zero]
      refine ⟨r, Ev.step (f := fun k => nat_plus.l0 k b (x.set i ((c + a + 0) % 4294967296)) ((c + a + 0) / 4294967296) (N : Int) ((i + 1 : Nat) : Int)) (fun k => ?_) hr, h⟩
      simp only [nat_plus.l0]
      rw [if_pos g1, if_pos g2, if_pos g4, if_neg g6, rd_getD x i, ← hxg, e, gw (), Int.toNat_natCast]
theorem plus_half (a b : List Int) (ha : Lim 4294967296 a) (hb : Lim 4294967296 b) (hL : a.length ≤ 274877906944) (hab : b.length ≤ a.length) :
    ∃ r, Ev (fun k => if (0 : Int) ≤ wrap64 ((a.length : Int) + 1) then (if (wrap64 ((a.length : Int) + 1) : Int).toNat ≤ 70368744177664 then ((some (List.replicate (wrap64 ((a.length : Int) + 1) : Int).toNat 0 : List Int)).bind fun y => ((copy_e55.f y a).bind fun bt => nat_plus.l0 k b bt.2 0 (y.length : Int) 0)) else none) else none) r ∧ Lim 4294967296 r ∧ Nrm r ∧ val 4294967296 r = val 4294967296 a + val 4294967296 b ∧ r.length ≤ a.length + 1 := by
  have hB : (0 : Int) < 4294967296 := by decide
  have e1 : wrap64 ((a.length : Int) + 1) = ((a.length + 1 : Nat) : Int) := by rw [w64 (by omega) (by omega)]; omega
  have va := val_lt hB ha
  have vb := val_lt hB hb
  have pm := pow_mono' hB hab
  have e0 : a ++ (List.replicate (a.length + 1) (0 : Int)).drop a.length = a ++ [0] := by
    rw [List.drop_replicate, Nat.add_sub_cancel_left]; rfl
  obtain ⟨r, h1, h2, h3, h4⟩ := plus_loop b hb (a.length + 1) (by omega) (by omega) (val 4294967296 a + val 4294967296 b) (by
      rw [Int.pow_succ]
      have pp := pow_pos' hB a.length
      generalize (4294967296 : Int) ^ a.length = p at *
      omega) (a.length + 1) 0 (a ++ [0]) 0 (by omega) (by simp) (lim_nrm_snoc ha ⟨by decide, by decide⟩) (by decide) (by decide) (by rw [val_snoc]; simp [val])
  refine ⟨trim r, Ev.congr (fun k => ?_) h1, lim_trim h3, nrm_trim _, by rw [val_trim, h4], by rw [← h2]; exact length_trim r⟩
  rw [e1, if_pos (by omega), if_pos (by omega), Int.toNat_natCast, Option.bind_some]
  unfold copy_e55.f
  simp only [Option.bind_some, List.length_replicate]
  rw [List.take_of_length_le (by omega), e0]; rfl
theorem plus_ev (a b : List Int) (ha : Lim 4294967296 a) (hb : Lim 4294967296 b) (hL : a.length ≤ 274877906944) (hM : b.length ≤ 274877906944) :
    ∃ r, Ev (fun k => nat_plus.f k a b) r ∧ Lim 4294967296 r ∧ Nrm r ∧ val 4294967296 r = val 4294967296 a + val 4294967296 b ∧ r.length ≤ max a.length b.length + 1 := by
  by_cases c : a.length < b.length
  · obtain ⟨r, h1, h2, h3, h4, h5⟩ := plus_half b a hb ha hM (by omega)
    refine ⟨r, Ev.congr (fun k => ?_) h1, h2, h3, by rw [h4, Int.add_comm], by omega⟩
    unfold nat_plus.f
    rw [if_pos (by omega)]
  · obtain ⟨r, h1, h2, h3, h4, h5⟩ := plus_half a b ha hb hL (by omega)
    refine ⟨r, Ev.congr (fun k => ?_) h1, h2, h3, h4, by omega⟩
    unfold nat_plus.f
    rw [if_neg (by omega)]
    simp only [plus_same]
theorem sub_loop (b : List Int) (hb : Lim 4294967296 b) (N : Nat) (hN : N ≤ 549755813888) (hbN : b.length ≤ N) (T : Int) (hT : 0 ≤ T) : ∀ (d i : Nat) (x : List Int) (c : Int), d + i = N → x.length = N → Lim 4294967296 x → 0 ≤ c → c ≤ 1 →
    val 4294967296 x - 4294967296 ^ i * c - (val 4294967296 b - val 4294967296 (b.take i)) = T →
    ∃ r, Ev (fun k => nat_Sub.l0 k b x c (N : Int) (i : Int)) (trim r) ∧ r.length = N ∧ Lim 4294967296 r ∧ val 4294967296 r = T := by
  have hB : (0 : Int) < 4294967296 := by decide
  intro d
  induction d with
  | zero =>
    intro i x c hd hl hx hc0 hc hv
    have hi : i = N := by omega
    subst hi
    refine ⟨x, Ev.step (f := fun k => (nat_Trim.f k x).bind fun t => some t) (fun k => ?_) (Ev.bind (f := fun _ t => some t) (Trim_ev x (by omega)) (Ev.now _)), hl, hx, ?_⟩
    · simp only [nat_Sub.l0]; rw [if_neg (by omega)]
    · rw [List.take_of_length_le (by omega), Int.sub_self, Int.sub_zero] at hv
      have h1 := val_lt hB hx
      rw [hl] at h1
      by_cases h : c = 0
      · rw [h, Int.mul_zero] at hv; omega
      · have e : c = 1 := by omega
        rw [e, Int.mul_one] at hv
        generalize (4294967296 : Int) ^ i = p at *
        omega
  | succ d ih =>
    intro i x c hd hl hx hc0 hc hv
    have g1 : (i : Int) < (N : Int) := by omega
    have g2 : (0 : Int) ≤ (i : Int) := by omega
    have g3 : i < x.length := by omega
    have g4 : (i : Int) < (x.length : Int) := by omega
    have g5 : d + (i + 1) = N := by omega
    have gw : ∀ _ : Unit, wrap64 ((i : Int) + 1) = ((i + 1 : Nat) : Int) := fun _ => by rw [w64 (by omega) (by omega)]; omega
    have hxi := hx.rd hB (i : Int)
    have hxg : rd x (i : Int) = x.getD i 0 := rd_getD x i
    generalize rd x (i : Int) = a at hxi hxg
    have key : ∀ y dd b' : Int, 0 ≤ dd → dd < 4294967296 → 0 ≤ b' → b' ≤ 1 → dd - 4294967296 * b' = a - c - y → b.getD i 0 = y → ∃ r, Ev (fun k => nat_Sub.l0 k b (x.set i dd) b' (N : Int) ((i + 1 : Nat) : Int)) (trim r) ∧ r.length = N ∧ Lim 4294967296 r ∧ val 4294967296 r = T := by
      intro y dd b' hd0 hd1 hb0 hb1 he hyb
      refine ih (i + 1) _ _ g5 (by rw [List.length_set, hl]) (hx.set i ⟨hd0, hd1⟩) hb0 hb1 ?_
      rw [val_set _ _ _ _ g3, ← hxg, val_take_succ', hyb, Int.pow_succ]
      have e : dd = a - c - y + 4294967296 * b' := by omega
      rw [e]
      generalize (4294967296 : Int) ^ i = p at *
      grind
    by_cases hi : i < b.length
    · have hb1 := hb.rd hB (i : Int)
      have hbg : rd b (i : Int) = b.getD i 0 := rd_getD b i
      have g6 : (i : Int) < (b.length : Int) := by omega
      generalize rd b (i : Int) = y at hb1 hbg
      obtain ⟨dd, b', e1, e2, p1, p2, p3, p4, p5⟩ : ∃ dd b' : Int, IntKind.u64.wrap (IntKind.u64.wrap (IntKind.u64.wrap a - c) - IntKind.u64.wrap y) % 4294967296 = dd ∧ Go.bits .and .u64 (IntKind.u64.wrap (IntKind.u64.wrap (IntKind.u64.wrap a - c) - IntKind.u64.wrap y) / 4294967296) 1 = b' ∧ 0 ≤ dd ∧ dd < 4294967296 ∧ 0 ≤ b' ∧ b' ≤ 1 ∧ dd - 4294967296 * b' = a - c - y := by
        rw [u64_id hxi.1 (by omega), u64_id hb1.1 (by omega), u64w, u64w]
        by_cases h : a - c - y < 0
        · have e : ((a - c) % 18446744073709551616 - y) % 18446744073709551616 = a - c - y + 18446744073709551616 := by omega
          rw [e, bits_and_one (by omega) (by omega)]
          exact ⟨_, _, rfl, rfl, by omega, by omega, by omega, by omega, by omega⟩
        · have e : ((a - c) % 18446744073709551616 - y) % 18446744073709551616 = a - c - y := by omega
          rw [e, bits_and_one (by omega) (by omega)]
          exact ⟨_, _, rfl, rfl, by omega, by omega, by omega, by omega, by omega⟩
      obtain ⟨r, hr, h⟩ := key y dd b' p1 p2 p3 p4 p5 hbg.symm
      refine ⟨r, Ev.step (f := fun k => nat_Sub.l0 k b (x.set i dd) b' (N : Int) ((i + 1 : Nat) : Int)) (fun k => ?_) hr, h⟩
      simp only [nat_Sub.l0]
      rw [if_pos g1, if_pos g2, if_pos g4, if_pos g6, rd_getD x i, rd_getD b i, ← hxg, ← hbg, e1, e2, gw (), Int.toNat_natCast]
    · have g6 : ¬ (i : Int) < (b.length : Int) := by omega
      obtain ⟨dd, b', e1, e2, p1, p2, p3, p4, p5⟩ : ∃ dd b' : Int, IntKind.u64.wrap (IntKind.u64.wrap a - c) % 4294967296 = dd ∧ Go.bits .and .u64 (IntKind.u64.wrap (IntKind.u64.wrap a - c) / 4294967296) 1 = b' ∧ 0 ≤ dd ∧ dd < 4294967296 ∧ 0 ≤ b' ∧ b' ≤ 1 ∧ dd - 4294967296 * b' = a - c - 0 := by
        rw [u64_id hxi.1 (by omega), u64w]
        by_cases h : a - c < 0
        · have e : (a - c) % 18446744073709551616 = a - c + 18446744073709551616 := by omega
          rw [e, bits_and_one (by omega) (by omega)]
          exact ⟨_, _, rfl, rfl, by omega, by omega, by omega, by omega, by omega⟩
        · have e : (a - c) % 18446744073709551616 = a - c := by omega
          rw [e, bits_and_one (by omega) (by omega)]
          exact ⟨_, _, rfl, rfl, by omega, by omega, by omega, by omega, by omega⟩
      obtain ⟨r, hr, h⟩ := key 0 dd b' p1 p2 p3 p4 p5 (by rw [List.getD_eq_getElem?_getD, List.getElem?_eq_none (by omega)]; rfl)
      refine ⟨r, Ev.step (f := fun k => nat_Sub.l0 k b (x.set i dd) b' (N : Int) ((i + 1 : Nat) : Int)) (fun k => ?_) hr, h⟩
      simp only [nat_Sub.l0]
      rw [if_pos g1, if_pos g2, if_pos g4, if_neg g6, rd_getD x i, ← hxg, e1, e2, gw (), Int.toNat_natCast]
theorem Sub_ev (a b : List Int) (ha : Lim 4294967296 a) (hb : Lim 4294967296 b) (hL : a.length ≤ 274877906944) (hab : b.length ≤ a.length) (hv : val 4294967296 b ≤ val 4294967296 a) :
    ∃ r, Ev (fun k => nat_Sub.f k a b) r ∧ Lim 4294967296 r ∧ Nrm r ∧ val 4294967296 r = val 4294967296 a - val 4294967296 b ∧ r.length ≤ a.length := by
  obtain ⟨r, h1, h2, h3, h4⟩ := sub_loop b hb a.length (by omega) hab (val 4294967296 a - val 4294967296 b) (by omega) a.length 0 a 0 (by omega) rfl ha (by decide) (by decide) (by simp [val])
  refine ⟨trim r, Ev.congr (fun k => ?_) h1, lim_trim h3, nrm_trim _, by rw [val_trim, h4], by rw [← h2]; exact length_trim r⟩
  unfold nat_Sub.f slices_Clone_uint32_uint32.f
  rw [if_pos (by omega)]; rfl
theorem mul_inner (a b : List Int) (hb : Lim 4294967296 b) (L i : Nat) (ai : Int) (h0 : 0 ≤ ai) (h1 : ai < 4294967296) (hL : L ≤ 549755813888) (hi : i + b.length < L) :
    ∀ (d j : Nat) (out : List Int) (c : Int), d + j = b.length → out.length = L → Lim 4294967296 out → 0 ≤ c → c < 4294967296 → out.getD (i + b.length) 0 = 0 →
    ∃ r, r.length = L ∧ Lim 4294967296 r ∧ val 4294967296 r = val 4294967296 out + 4294967296 ^ (i + j) * (c + ai * val 4294967296 (b.drop j)) ∧ (∀ p, i + b.length < p → r.getD p 0 = out.getD p 0) ∧
      ∀ (R : List Int), Ev (fun k => nat_Mul.l0 k b r a (a.length : Int) ((i + 1 : Nat) : Int)) R → Ev (fun k => nat_Mul.l1 k b out (i : Int) ai c a (a.length : Int) (i : Int) b (b.length : Int) (j : Int)) R := by
  have hB : (0 : Int) < 4294967296 := by decide
  intro d
  induction d with
  | zero =>
    intro j out c hd hl ho hc0 hc hz
    have hj : j = b.length := by omega
    subst hj
    have g1 : ∀ _ : Unit, wrap64 ((i : Int) + (b.length : Int)) = ((i + b.length : Nat) : Int) := fun _ => by rw [w64 (by omega) (by omega)]; omega
    have g2 : ∀ _ : Unit, wrap64 ((i : Int) + 1) = ((i + 1 : Nat) : Int) := fun _ => by rw [w64 (by omega) (by omega)]; omega
    have g3 : (0 : Int) ≤ ((i + b.length : Nat) : Int) := by omega
    have g4 : ((i + b.length : Nat) : Int) < (out.length : Int) := by omega
    have g5 : c % 4294967296 = c := by omega
    refine ⟨out.set (i + b.length) c, by rw [List.length_set, hl], ho.set _ ⟨hc0, hc⟩, ?_, ?_, fun R hR => ?_⟩
    · rw [val_set _ _ _ _ (by omega), hz, List.drop_length]
      simp [val]
    · intro p hp
      rw [List.getD_eq_getElem?_getD, List.getD_eq_getElem?_getD, List.getElem?_set_ne (by omega)]
    · refine Ev.step (f := fun k => nat_Mul.l0 k b (out.set (i + b.length) c) a (a.length : Int) ((i + 1 : Nat) : Int)) (fun k => ?_) hR
      simp only [nat_Mul.l1]
      rw [if_neg (by omega), g1 (), if_pos g3, if_pos g4, g2 (), g5, Int.toNat_natCast]
  | succ d ih =>
    intro j out c hd hl ho hc0 hc hz
    have g0 : d + (j + 1) = b.length := by omega
    have g1 : (j : Int) < (b.length : Int) := by omega
    have g2 : (0 : Int) ≤ (j : Int) := by omega
    have gj : j < b.length := by omega
    have g3 : i + j < out.length := by omega
    have g4 : ((i + j : Nat) : Int) < (out.length : Int) := by omega
    have g5 : (0 : Int) ≤ ((i + j : Nat) : Int) := by omega
    have g6 : i + j ≠ i + b.length := by omega
    have gw : ∀ _ : Unit, wrap64 ((j : Int) + 1) = ((j + 1 : Nat) : Int) := fun _ => by rw [w64 (by omega) (by omega)]; omega
    have gv : ∀ _ : Unit, wrap64 ((i : Int) + (j : Int)) = ((i + j : Nat) : Int) := fun _ => by rw [w64 (by omega) (by omega)]; omega
    have hb1 := hb.rd hB (j : Int)
    have hbg : rd b (j : Int) = b.getD j 0 := rd_getD b j
    generalize rd b (j : Int) = y at hb1 hbg
    have ho1 := ho.rd hB ((i + j : Nat) : Int)
    have hog : rd out ((i + j : Nat) : Int) = out.getD (i + j) 0 := rd_getD out (i + j)
    generalize rd out ((i + j : Nat) : Int) = o at ho1 hog
    obtain ⟨m1, m2⟩ := mul_lim h0 h1 hb1.1 hb1.2
    have e : IntKind.u64.wrap (c + IntKind.u64.wrap (IntKind.u64.wrap (IntKind.u64.wrap ai * IntKind.u64.wrap y) + IntKind.u64.wrap o)) = c + ai * y + o := by
      rw [u64_id h0 (by omega), u64_id hb1.1 (by omega), u64_id m1 (by omega), u64_id ho1.1 (by omega), u64_id (x := ai * y + o) (by omega) (by omega), u64_id (by omega) (by omega), Int.add_assoc]
    obtain ⟨q, t, hq, ht, q1, q2, q3, q4, q5⟩ : ∃ q t : Int, (c + ai * y + o) % 4294967296 = t ∧ (c + ai * y + o) / 4294967296 = q ∧ 0 ≤ t ∧ t < 4294967296 ∧ 0 ≤ q ∧ q < 4294967296 ∧ t = c + ai * y + o - 4294967296 * q := by
      generalize ai * y = p at m1 m2
      exact ⟨_, _, rfl, rfl, by omega, by omega, by omega, by omega, by omega⟩
    obtain ⟨r, r1, r2, r3, r4, r5⟩ := ih (j + 1) (out.set (i + j) t) q g0 (by rw [List.length_set, hl]) (ho.set _ ⟨q1, q2⟩) q3 q4 (by
      rw [List.getD_eq_getElem?_getD, List.getElem?_set_ne g6, ← List.getD_eq_getElem?_getD, hz])
    refine ⟨r, r1, r2, ?_, ?_, fun R hR => ?_⟩
    · rw [r3, val_set _ _ _ _ g3, ← hog, val_drop _ b j gj, ← hbg, q5, ← Nat.add_assoc, Int.pow_succ]
      generalize val 4294967296 (b.drop (j + 1)) = v
      generalize (4294967296 : Int) ^ (i + j) = p
      clear q5 ht hq e m1 m2 r3 r5 r4
      grind
    · intro p hp
      rw [r4 p hp, List.getD_eq_getElem?_getD, List.getD_eq_getElem?_getD, List.getElem?_set_ne (by omega)]
    · refine Ev.step (f := fun k => nat_Mul.l1 k b (out.set (i + j) t) (i : Int) ai q a (a.length : Int) (i : Int) b (b.length : Int) ((j + 1 : Nat) : Int)) (fun k => ?_) (r5 R hR)
      simp only [nat_Mul.l1]
      rw [if_pos g1, if_pos g2, if_pos g1, gv (), if_pos g5, if_pos g4, rd_getD b j, ← hbg, rd_getD out (i + j), ← hog, e, hq, ht, gw (), Int.toNat_natCast]
theorem mul_outer (a b : List Int) (ha : Lim 4294967296 a) (hb : Lim 4294967296 b) (hL : a.length + b.length ≤ 549755813888) :
    ∀ (d i : Nat) (out : List Int), d + i = a.length → out.length = a.length + b.length → Lim 4294967296 out → (∀ p, i + b.length ≤ p → out.getD p 0 = 0) →
    ∃ r, Ev (fun k => nat_Mul.l0 k b out a (a.length : Int) (i : Int)) (trim r) ∧ r.length = a.length + b.length ∧ Lim 4294967296 r ∧ val 4294967296 r = val 4294967296 out + 4294967296 ^ i * (val 4294967296 (a.drop i) * val 4294967296 b) := by
  have hB : (0 : Int) < 4294967296 := by decide
  intro d
  induction d with
  | zero =>
    intro i out hd hl ho hz
    have hi : i = a.length := by omega
    subst hi
    refine ⟨out, Ev.step (f := fun k => (nat_Trim.f k out).bind fun t => some t) (fun k => ?_) (Ev.bind (f := fun _ t => some t) (Trim_ev out (by omega)) (Ev.now _)), hl, ho, ?_⟩
    · simp only [nat_Mul.l0]; rw [if_neg (by omega)]
    · rw [List.drop_length]; simp [val]
  | succ d ih =>
    intro i out hd hl ho hz
    have g0 : d + (i + 1) = a.length := by omega
    have g1 : (i : Int) < (a.length : Int) := by omega
    have g2 : (0 : Int) ≤ (i : Int) := by omega
    have gi : i < a.length := by omega
    have ha1 := ha.rd hB (i : Int)
    have hag : rd a (i : Int) = a.getD i 0 := rd_getD a i
    obtain ⟨r, r1, r2, r3, r4, r5⟩ := mul_inner a b hb (a.length + b.length) i (rd a (i : Int)) ha1.1 ha1.2 hL (by omega) b.length 0 out 0 (by omega) hl ho (by decide) (by decide) (hz _ (Nat.le_refl _))
    obtain ⟨s, s1, s2, s3, s4⟩ := ih (i + 1) r g0 r1 r2 (by
      intro p hp
      rw [r4 p (by omega)]
      exact hz p (by omega))
    refine ⟨s, Ev.step (f := fun k => nat_Mul.l1 k b out (i : Int) (rd a (i : Int)) 0 a (a.length : Int) (i : Int) b (b.length : Int) 0) (fun k => ?_) (r5 _ s1), s2, s3, ?_⟩
    · simp only [nat_Mul.l0]
      rw [if_pos g1, if_pos g2, if_pos g1]
    · rw [s4, r3, val_drop _ a i gi, ← hag, List.drop_zero, Nat.add_zero, Int.pow_succ]
      generalize val 4294967296 (a.drop (i + 1)) = v
      generalize val 4294967296 b = u
      generalize (4294967296 : Int) ^ i = p
      clear s4 r3 r5 r4 s1
      grind
theorem Mul_ev (a b : List Int) (ha : Lim 4294967296 a) (hb : Lim 4294967296 b) (hL : a.length + b.length ≤ 549755813888) :
    ∃ r, Ev (fun k => nat_Mul.f k a b) r ∧ Lim 4294967296 r ∧ Nrm r ∧ val 4294967296 r = val 4294967296 a * val 4294967296 b ∧ r.length ≤ a.length + b.length := by
  have e1 : wrap64 ((a.length : Int) + (b.length : Int)) = ((a.length + b.length : Nat) : Int) := by rw [w64 (by omega) (by omega)]; omega
  obtain ⟨r, h1, h2, h3, h4⟩ := mul_outer a b ha hb hL a.length 0 (List.replicate (a.length + b.length) 0) (by omega) (by simp) (lim_replicate (by decide) _) (fun p _ => by
    rw [List.getD_eq_getElem?_getD]
    rcases Nat.lt_or_ge p (a.length + b.length) with h | h
    · rw [List.getElem?_replicate_of_lt h]; rfl
    · rw [List.getElem?_eq_none (by simpa using h)]; rfl)
  refine ⟨trim r, Ev.congr (fun k => ?_) h1, lim_trim h3, nrm_trim _, by rw [val_trim, h4, val_replicate, List.drop_zero]; simp, by rw [← h2]; exact length_trim r⟩
  unfold nat_Mul.f
  rw [e1, if_pos (by omega), if_pos (by omega), Int.toNat_natCast]
  rfl
theorem can_of_fault' {neg : Bool} {num den : List Int} (h : fault neg num den = 0) : Can neg num den := by
  unfold fault at h
  by_cases c : num.length > 128 ∨ den.length > 128
  · rw [if_pos c] at h; omega
  · rw [if_neg c] at h
    by_cases d : Can neg num den
    · exact d
    · rw [if_neg d] at h; omega
theorem cmpI_neg (x y : Int) : cmpI (-x) (-y) = -cmpI x y := by
  unfold cmpI
  by_cases h : x < y
  · rw [if_neg (by omega), if_pos (by omega), if_pos h]; rfl
  · by_cases h2 : x > y
    · rw [if_pos (by omega), if_neg h, if_pos h2]
    · rw [if_neg (by omega), if_neg (by omega), if_neg h, if_neg h2]; rfl
theorem cmpI_swap (x y : Int) : cmpI y x = -cmpI x y := by
  unfold cmpI
  by_cases h : x < y
  · rw [if_neg (by omega), if_pos (by omega), if_pos h]; rfl
  · by_cases h2 : x > y
    · rw [if_pos (by omega), if_neg h, if_pos h2]
    · rw [if_neg (by omega), if_neg (by omega), if_neg h, if_neg h2]; rfl
theorem cmpI_range (x y : Int) : -1 ≤ cmpI x y ∧ cmpI x y ≤ 1 := by unfold cmpI; split <;> (try split) <;> omega
theorem cmpI_lt {x y : Int} : cmpI x y < 0 ↔ x < y := by unfold cmpI; split <;> (try split) <;> omega
theorem cmpI_le {x y : Int} : cmpI x y ≤ 0 ↔ x ≤ y := by unfold cmpI; split <;> (try split) <;> omega
theorem cmpI_eq {x y : Int} : cmpI x y = 0 ↔ x = y := by unfold cmpI; split <;> (try split) <;> omega
theorem cmpI_of_lt {x y : Int} (h : x < y) : cmpI x y = -1 := if_pos h
theorem cmpI_of_gt {x y : Int} (h : y < x) : cmpI x y = 1 := by unfold cmpI; rw [if_neg (by omega), if_pos h]
def sgn (n : Bool) (v : Int) : Int := if n = true then -v else v
def ordI (na : Bool) (va da : Int) (nb : Bool) (vb db : Int) : Int := cmpI (sgn na va * db) (sgn nb vb * da)
theorem ordI_diff {na nb : Bool} {va da vb db : Int} (h : na ≠ nb) (a0 : 0 ≤ va) (b0 : 0 ≤ vb) (ha : na = true → 0 < va) (hb : nb = true → 0 < vb) (pa : 0 < da) (pb : 0 < db) : ordI na va da nb vb db = if na = true then -1 else 1 := by
  unfold ordI sgn
  cases na with
  | true =>
    cases nb with
    | true => exact absurd rfl h
    | false =>
      rw [if_pos rfl, if_pos rfl, if_neg (by decide)]
      refine cmpI_of_lt ?_
      have h1 : 0 < va * db := Int.mul_pos (ha rfl) pb
      have h2 : 0 ≤ vb * da := Int.mul_nonneg b0 (by omega)
      rw [Int.neg_mul]; omega
  | false =>
    cases nb with
    | false => exact absurd rfl h
    | true =>
      show cmpI (va * db) (-vb * da) = 1
      refine cmpI_of_gt ?_
      have h1 : 0 < vb * da := Int.mul_pos (hb rfl) pa
      have h2 : 0 ≤ va * db := Int.mul_nonneg a0 (by omega)
      rw [Int.neg_mul]; omega
theorem ordI_same (n : Bool) (va da vb db : Int) : ordI n va da n vb db = if n = true then -cmpI (va * db) (vb * da) else cmpI (va * db) (vb * da) := by
  unfold ordI sgn
  cases n with
  | true => rw [if_pos rfl, if_pos rfl, if_pos rfl, Int.neg_mul, Int.neg_mul, cmpI_neg]
  | false => rw [if_neg (by decide), if_neg (by decide), if_neg (by decide)]
theorem Can.pos {neg : Bool} {num den : List Int} (h : Can neg num den) (hd : Lim 4294967296 den) : 0 < val 4294967296 den := val_pos (by decide) hd h.nd h.d0
theorem Can.neg_pos {neg : Bool} {num den : List Int} (h : Can neg num den) (hn : Lim 4294967296 num) (e : neg = true) : 0 < val 4294967296 num :=
  val_pos (by decide) hn h.nn (fun h0 => by rw [h.ng h0] at e; cases e)
theorem w11 : wrap64 (1 + 1) = 2 := by decide +kernel
theorem wr01 : wrap64 (0 + 1) = 1 := by decide +kernel
theorem check2_ev (na : Bool) (a da : List Int) (nb : Bool) (b db : List Int) (ha : Lim 4294967296 a) (hda : Lim 4294967296 da) (hb : Lim 4294967296 b) (hdb : Lim 4294967296 db) :
    Ev (fun k => number_check.f k [⟨na, a, da⟩, ⟨nb, b, db⟩]) (if fault na a da = 0 then fault nb b db else fault na a da) := by
  show Ev (fun k => number_check.l0 k [⟨na, a, da⟩, ⟨nb, b, db⟩] 2 0) _
  refine Ev.step (f := fun k => (number_Check.f k na a da).bind fun t418 => (if t418 = 0 then (number_check.l0 k [⟨na, a, da⟩, ⟨nb, b, db⟩] 2 1) else (some t418))) (fun k => ?_) ?_
  · simp only [number_check.l0]
    rw [if_pos (by decide), if_pos (by decide), if_pos (by simp), wr01]; rfl
  · refine Ev.bind (f := fun k t418 => (if t418 = 0 then (number_check.l0 k [⟨na, a, da⟩, ⟨nb, b, db⟩] 2 1) else (some t418))) (Check_ev na a da ha hda) ?_
    by_cases h : fault na a da = 0
    · rw [if_pos h]
      refine Ev.congr (f := fun k => number_check.l0 k [⟨na, a, da⟩, ⟨nb, b, db⟩] 2 1) (fun k => if_pos h) ?_
      refine Ev.step (f := fun k => (number_Check.f k nb b db).bind fun t418 => (if t418 = 0 then (number_check.l0 k [⟨na, a, da⟩, ⟨nb, b, db⟩] 2 2) else (some t418))) (fun k => ?_) ?_
      · simp only [number_check.l0]
        rw [if_pos (by decide), if_pos (by decide), if_pos (by simp), w11]; rfl
      · refine Ev.bind (f := fun k t418 => (if t418 = 0 then (number_check.l0 k [⟨na, a, da⟩, ⟨nb, b, db⟩] 2 2) else (some t418))) (Check_ev nb b db hb hdb) ?_
        by_cases h2 : fault nb b db = 0
        · refine Ev.congr (f := fun k => number_check.l0 k [⟨na, a, da⟩, ⟨nb, b, db⟩] 2 2) (fun k => if_pos h2) (Ev.step (f := fun _ => some 0) (fun k => ?_) (Ev.eq (Ev.now _) h2.symm))
          simp only [number_check.l0]
          rw [if_neg (by decide)]
        · exact Ev.ret fun k => if_neg h2
    · rw [if_neg h]
      exact Ev.ret fun k => if_neg h
theorem nat_frac {p q r s : Nat} (h1 : Nat.gcd p q = 1) (h2 : Nat.gcd r s = 1) (hq : 0 < q) (hs : 0 < s) (h : p * s = r * q) : p = r ∧ q = s := by
  have d1 : q ∣ s := (Nat.Coprime.dvd_of_dvd_mul_left (show Nat.Coprime q p by rw [Nat.Coprime, Nat.gcd_comm]; exact h1) ⟨r, by rw [h, Nat.mul_comm]⟩)
  have d2 : s ∣ q := (Nat.Coprime.dvd_of_dvd_mul_left (show Nat.Coprime s r by rw [Nat.Coprime, Nat.gcd_comm]; exact h2) ⟨p, by rw [← h, Nat.mul_comm]⟩)
  have e : q = s := Nat.dvd_antisymm d1 d2
  subst e
  exact ⟨Nat.eq_of_mul_eq_mul_right hq h, rfl⟩
structure Rep (neg : Bool) (p q : List Int) (N D : Int) : Prop where
  lp : Lim 4294967296 p
  np : Nrm p
  lq : Lim 4294967296 q
  nq : Nrm q
  q0 : q ≠ []
  gc : Nat.gcd (val 4294967296 p).toNat (val 4294967296 q).toNat = 1
  ng : p = [] → neg = false
  eq : sgn neg (val 4294967296 p) * D = N * val 4294967296 q
theorem Rep.pos {neg : Bool} {p q : List Int} {N D : Int} (h : Rep neg p q N D) : 0 < val 4294967296 q := val_pos (by decide) h.lq h.nq h.q0
theorem Rep.negpos {neg : Bool} {p q : List Int} {N D : Int} (h : Rep neg p q N D) (e : neg = true) : 0 < val 4294967296 p :=
  val_pos (by decide) h.lp h.np (fun h0 => by rw [h.ng h0] at e; cases e)
theorem Rep.can {neg : Bool} {p q : List Int} {N D : Int} (h : Rep neg p q N D) (l1 : p.length ≤ 128) (l2 : q.length ≤ 128) : Can neg p q := ⟨l1, l2, h.np, h.nq, h.q0, h.ng, h.gc⟩
theorem Can.rep {neg : Bool} {p q : List Int} (h : Can neg p q) (lp : Lim 4294967296 p) (lq : Lim 4294967296 q) : Rep neg p q (sgn neg (val 4294967296 p)) (val 4294967296 q) := ⟨lp, h.nn, lq, h.nd, h.d0, h.gc, h.ng, rfl⟩
theorem Rep.turn {neg : Bool} {p q : List Int} {N D N' D' : Int} (h : Rep neg p q N D) (hD : D ≠ 0) (e : N * D' = N' * D) : Rep neg p q N' D' := by
  refine ⟨h.lp, h.np, h.lq, h.nq, h.q0, h.gc, h.ng, ?_⟩
  have h1 := h.eq
  refine Int.eq_of_mul_eq_mul_right hD ?_
  generalize sgn neg (val 4294967296 p) = s at *
  generalize val 4294967296 q = v at *
  have h2 : s * D * D' = N * v * D' := by rw [h1]
  have h3 : N * D' * v = N' * D * v := by rw [e]
  grind
theorem Rep.unique {neg neg' : Bool} {p q p' q' : List Int} {N D : Int} (h : Rep neg p q N D) (h' : Rep neg' p' q' N D) (hD : D ≠ 0) : neg = neg' ∧ p = p' ∧ q = q' := by
  have v0 := val_nonneg (by decide) h.lp
  have v0' := val_nonneg (by decide) h'.lp
  have w0 := h.pos
  have w0' := h'.pos
  have e : sgn neg (val 4294967296 p) * val 4294967296 q' = sgn neg' (val 4294967296 p') * val 4294967296 q := by
    have h1 := h.eq
    have h2 := h'.eq
    refine Int.eq_of_mul_eq_mul_right hD ?_
    generalize sgn neg (val 4294967296 p) = s at *
    generalize sgn neg' (val 4294967296 p') = s' at *
    generalize val 4294967296 q = v at *
    generalize val 4294967296 q' = v' at *
    have h3 : s * D * v' = N * v * v' := by rw [h1]
    have h4 : s' * D * v = N * v' * v := by rw [h2]
    grind
  have hn : neg = neg' := by
    cases hn : neg with
    | true =>
      cases hn' : neg' with
      | true => rfl
      | false =>
        have a1 := h.negpos hn
        rw [hn, hn'] at e
        unfold sgn at e
        rw [if_pos rfl, if_neg (by decide), Int.neg_mul] at e
        have a2 : 0 < val 4294967296 p * val 4294967296 q' := Int.mul_pos a1 w0'
        have a3 : 0 ≤ val 4294967296 p' * val 4294967296 q := Int.mul_nonneg v0' (by omega)
        omega
    | false =>
      cases hn' : neg' with
      | false => rfl
      | true =>
        have a1 := h'.negpos hn'
        rw [hn, hn'] at e
        unfold sgn at e
        rw [if_pos rfl, if_neg (by decide), Int.neg_mul] at e
        have a2 : 0 < val 4294967296 p' * val 4294967296 q := Int.mul_pos a1 w0
        have a3 : 0 ≤ val 4294967296 p * val 4294967296 q' := Int.mul_nonneg v0 (by omega)
        omega
  subst hn
  have e2 : val 4294967296 p * val 4294967296 q' = val 4294967296 p' * val 4294967296 q := by
    unfold sgn at e
    cases neg with
    | true => rw [if_pos rfl, if_pos rfl, Int.neg_mul, Int.neg_mul] at e; omega
    | false => rw [if_neg (by decide), if_neg (by decide)] at e; exact e
  have e3 : (val 4294967296 p).toNat * (val 4294967296 q').toNat = (val 4294967296 p').toNat * (val 4294967296 q).toNat := by
    rw [← Int.toNat_mul v0 (by omega), ← Int.toNat_mul v0' (by omega), e2]
  obtain ⟨e4, e5⟩ := nat_frac h.gc h'.gc (by omega) (by omega) e3
  exact ⟨rfl, val_inj (by decide) h.lp h'.lp h.np h'.np (by omega), val_inj (by decide) h.lq h'.lq h.nq h'.nq (by omega)⟩
structure Res (R : Bool × List Int × List Int × Int) (ok : Prop) (N D : Int) : Prop where
  l1 : Lim 4294967296 R.2.1
  l2 : Lim 4294967296 R.2.2.1
  fine : R.2.2.2 = 0 → ok ∧ Can R.1 R.2.1 R.2.2.1 ∧ Rep R.1 R.2.1 R.2.2.1 N D
  told : ok → ∀ (neg : Bool) (p q : List Int), Rep neg p q N D → p.length ≤ 128 → q.length ≤ 128 → R = (neg, p, q, 0)
theorem res_bad (e : Int) (he : e ≠ 0) (ok : Prop) (hok : ¬ ok) (N D : Int) : Res (false, [], [], e) ok N D := ⟨lim_nil _, lim_nil _, fun h => absurd h he, fun h => absurd h hok⟩
theorem res_out {neg : Bool} {p q : List Int} {N D : Int} (h : Rep neg p q N D) (hD : D ≠ 0) (ok : Prop) (hok : ok) : Res (outN neg p q) ok N D := by
  unfold outN
  by_cases c : p.length > 128 ∨ q.length > 128
  · rw [if_pos c]
    refine ⟨lim_nil _, lim_nil _, fun h => absurd h (by decide), fun _ neg' p' q' h' b1 b2 => ?_⟩
    obtain ⟨_, rfl, rfl⟩ := h.unique h' hD
    omega
  · rw [if_neg c]
    refine ⟨h.lp, h.lq, fun _ => ⟨hok, h.can (by omega) (by omega), h⟩, fun _ neg' p' q' h' b1 b2 => ?_⟩
    obtain ⟨rfl, rfl, rfl⟩ := h.unique h' hD
    rfl
theorem toNat_div {x : Int} (h : 0 ≤ x) (g : Nat) : (x / (g : Int)).toNat = x.toNat / g := by
  obtain ⟨A, rfl⟩ := Int.eq_ofNat_of_zero_le h
  rw [← Int.natCast_ediv, Int.toNat_natCast, Int.toNat_natCast]
theorem made_rep (neg : Bool) (a b : List Int) (ha : Lim 4294967296 a) (na : Nrm a) (hb : Lim 4294967296 b) (nb : Nrm b) (b0 : b ≠ []) (la : a.length ≤ 1048575) (lb : b.length ≤ 1048575) :
    ∃ neg' p q, Ev (fun k => number_made.f k neg a b) (outN neg' p q) ∧ Rep neg' p q (sgn neg (val 4294967296 a)) (val 4294967296 b) := by
  obtain ⟨p, q, h1, p1, p2, q1, q2, p3, q3⟩ := made_ev neg a b ha na hb nb b0 la lb
  have va := val_nonneg (by decide) ha
  have vb := val_pos (by decide) hb nb b0
  obtain ⟨g, hg⟩ : ∃ g, g = Nat.gcd (val 4294967296 a).toNat (val 4294967296 b).toNat := ⟨_, rfl⟩
  have g0 : 0 < g := by rw [hg]; exact Nat.gcd_pos_of_pos_right _ (by omega)
  have d1 : (g : Int) ∣ val 4294967296 a := by
    have : g ∣ (val 4294967296 a).toNat := by rw [hg]; exact Nat.gcd_dvd_left _ _
    have := Int.ofNat_dvd.2 this
    rwa [Int.toNat_of_nonneg va] at this
  have d2 : (g : Int) ∣ val 4294967296 b := by
    have : g ∣ (val 4294967296 b).toNat := by rw [hg]; exact Nat.gcd_dvd_right _ _
    have := Int.ofNat_dvd.2 this
    rwa [Int.toNat_of_nonneg (by omega)] at this
  rw [← hg] at p3 q3
  have ea : val 4294967296 p * g = val 4294967296 a := by rw [p3]; exact Int.ediv_mul_cancel d1
  have eb : val 4294967296 q * g = val 4294967296 b := by rw [q3]; exact Int.ediv_mul_cancel d2
  have hq0 : q ≠ [] := by
    rintro rfl
    have : val 4294967296 [] = 0 := rfl
    rw [this, Int.zero_mul] at eb
    omega
  refine ⟨neg && decide (p ≠ []), p, q, h1, p1, p2, q1, q2, hq0, ?_, fun h => by simp [h], ?_⟩
  · have hp : (val 4294967296 p).toNat = (val 4294967296 a).toNat / g := by rw [p3]; exact toNat_div va g
    have hq : (val 4294967296 q).toNat = (val 4294967296 b).toNat / g := by rw [q3]; exact toNat_div (by omega) g
    rw [hp, hq, hg]
    exact Nat.coprime_div_gcd_div_gcd (by rw [← hg]; exact g0)
  · have hs : sgn (neg && decide (p ≠ [])) (val 4294967296 p) = sgn neg (val 4294967296 p) := by
      by_cases c : p = []
      · subst c
        have : val 4294967296 [] = 0 := rfl
        rw [this]
        unfold sgn
        cases neg <;> simp
      · simp [c]
    rw [hs, ← ea, ← eb]
    unfold sgn
    cases neg with
    | true => rw [if_pos rfl, if_pos rfl]; generalize val 4294967296 p = x; generalize val 4294967296 q = y; grind
    | false => rw [if_neg (by decide), if_neg (by decide)]; generalize val 4294967296 p = x; generalize val 4294967296 q = y; grind
theorem nil_bound {x : List Int} (h : x.length ≤ 300) : x.length ≤ 274877906944 := by omega
theorem nadd_ev (x y : List Int) (hx : Lim 4294967296 x) (hy : Lim 4294967296 y) (lx : x.length ≤ 300) (ly : y.length ≤ 300) :
    ∃ r, Ev (fun k => nat_Add.f k [x, y]) r ∧ Lim 4294967296 r ∧ Nrm r ∧ val 4294967296 r = val 4294967296 x + val 4294967296 y ∧ r.length ≤ 302 := by
  obtain ⟨r, r1, r2, r3, r4, r5⟩ := plus_ev [] x (lim_nil _) hx (by decide) (nil_bound lx)
  obtain ⟨s, s1, s2, s3, s4, s5⟩ := plus_ev r y r2 hy (by simp only [List.length_nil] at r5; omega) (nil_bound ly)
  refine ⟨s, ?_, s2, s3, by rw [s4, r4]; simp [val], by simp only [List.length_nil] at r5; omega⟩
  show Ev (fun k => nat_Add.l0 k [] [x, y] 2 0) s
  refine Ev.step (f := fun k => (nat_plus.f k [] x).bind fun t420 => (nat_Add.l0 k t420 [x, y] 2 1)) (fun k => ?_) ?_
  · simp only [nat_Add.l0]
    rw [if_pos (by decide), if_pos (by decide), if_pos (by simp), show wrap64 (0 + 1) = 1 by decide +kernel]; rfl
  · refine Ev.bind (f := fun k t420 => nat_Add.l0 k t420 [x, y] 2 1) r1 ?_
    refine Ev.step (f := fun k => (nat_plus.f k r y).bind fun t420 => (nat_Add.l0 k t420 [x, y] 2 2)) (fun k => ?_) ?_
    · simp only [nat_Add.l0]
      rw [if_pos (by decide), if_pos (by decide), if_pos (by simp), show wrap64 (1 + 1) = 2 by decide +kernel]; rfl
    · refine Ev.bind (f := fun k t420 => nat_Add.l0 k t420 [x, y] 2 2) s1 ?_
      refine Ev.step (f := fun _ => some s) (fun k => ?_) (Ev.now _)
      simp only [nat_Add.l0]
      rw [if_neg (by decide)]
theorem len_of_le {x y : List Int} (hx : Lim 4294967296 x) (hy : Lim 4294967296 y) (ny : Nrm y) (h : val 4294967296 y ≤ val 4294967296 x) : y.length ≤ x.length := by
  rcases Nat.lt_or_ge x.length y.length with c | c
  · have := len_lt_val (by decide) hx hy ny c
    omega
  · exact c
theorem sum_ev (m n : Bool) (x y : List Int) (hx : Lim 4294967296 x) (nx : Nrm x) (hy : Lim 4294967296 y) (ny : Nrm y) (lx : x.length ≤ 300) (ly : y.length ≤ 300) :
    ∃ neg s, Ev (fun k => number_sum.f k m x n y) (neg, s) ∧ Lim 4294967296 s ∧ Nrm s ∧ s.length ≤ 302 ∧ sgn neg (val 4294967296 s) = sgn m (val 4294967296 x) + sgn n (val 4294967296 y) := by
  by_cases h : m = n
  · subst h
    obtain ⟨r, r1, r2, r3, r4, r5⟩ := nadd_ev x y hx hy lx ly
    refine ⟨m, r, Ev.congr (f := fun k => (nat_Add.f k [x, y]).bind fun t436 => some (m, t436)) (fun k => by unfold number_sum.f; rw [if_pos (by simp)]) (Ev.bind (f := fun _ t436 => some (m, t436)) r1 (Ev.now _)), r2, r3, r5, ?_⟩
    rw [r4]
    unfold sgn
    cases m with
    | true => rw [if_pos rfl, if_pos rfl, if_pos rfl]; omega
    | false => rw [if_neg (by decide), if_neg (by decide), if_neg (by decide)]
  · have hc := Compare_ev x y hx hy nx ny (by omega) (by omega)
    have hn : n = !m := by cases m <;> cases n <;> simp_all
    subst hn
    have e0 : ∀ k, number_sum.f k m x (!m) y = (nat_Compare.f k x y).bind fun t439 => (if t439 ≥ 0 then ((nat_Sub.f k x y).bind fun t440 => (some (m, t440))) else ((nat_Sub.f k y x).bind fun t443 => (some (!m, t443)))) := by
      intro k
      unfold number_sum.f
      rw [if_neg (by cases m <;> simp)]
    by_cases c : val 4294967296 x < val 4294967296 y
    · obtain ⟨r, r1, r2, r3, r4, r5⟩ := Sub_ev y x hy hx (by omega) (len_of_le hy hx nx (by omega)) (by omega)
      refine ⟨!m, r, Ev.congr e0 (Ev.bind (f := fun k t439 => (if t439 ≥ 0 then ((nat_Sub.f k x y).bind fun t440 => (some (m, t440))) else ((nat_Sub.f k y x).bind fun t443 => (some (!m, t443))))) hc ?_), r2, r3, by omega, ?_⟩
      · have h1 : cmpI (val 4294967296 x) (val 4294967296 y) = -1 := if_pos c
        rw [h1]
        exact Ev.congr (f := fun k => (nat_Sub.f k y x).bind fun t443 => (some (!m, t443))) (fun k => if_neg (by decide)) (Ev.bind (f := fun _ t443 => some (!m, t443)) r1 (Ev.now _))
      · rw [r4]
        unfold sgn
        cases m with
        | true => simp; omega
        | false => simp; omega
    · obtain ⟨r, r1, r2, r3, r4, r5⟩ := Sub_ev x y hx hy (by omega) (len_of_le hx hy ny (by omega)) (by omega)
      refine ⟨m, r, Ev.congr e0 (Ev.bind (f := fun k t439 => (if t439 ≥ 0 then ((nat_Sub.f k x y).bind fun t440 => (some (m, t440))) else ((nat_Sub.f k y x).bind fun t443 => (some (!m, t443))))) hc ?_), r2, r3, by omega, ?_⟩
      · have h1 : cmpI (val 4294967296 x) (val 4294967296 y) ≥ 0 := by unfold cmpI; rw [if_neg c]; split <;> omega
        exact Ev.congr (f := fun k => (nat_Sub.f k x y).bind fun t440 => (some (m, t440))) (fun k => if_pos h1) (Ev.bind (f := fun _ t440 => some (m, t440)) r1 (Ev.now _))
      · rw [r4]
        unfold sgn
        cases m with
        | true => simp; omega
        | false => simp; omega
theorem sgn_mul (m n : Bool) (x y : Int) : sgn (m != n) (x * y) = sgn m x * sgn n y := by
  unfold sgn
  cases m <;> cases n <;> simp [Int.neg_mul, Int.mul_neg]
theorem sgn_mul_r (m : Bool) (x y : Int) : sgn m (x * y) = sgn m x * y := by
  unfold sgn
  cases m <;> simp [Int.neg_mul]
def Ok2 (na : Bool) (a da : List Int) (nb : Bool) (b db : List Int) : Prop := Can na a da ∧ Can nb b db
theorem bad2 {na : Bool} {a da : List Int} {nb : Bool} {b db : List Int} (h : ¬ (if fault na a da = 0 then fault nb b db else fault na a da) = 0) : ¬ Ok2 na a da nb b db := by
  rintro ⟨h1, h2⟩
  rw [fault_can h1, fault_can h2, if_pos rfl] at h
  exact h rfl
theorem good2 {na : Bool} {a da : List Int} {nb : Bool} {b db : List Int} (h : (if fault na a da = 0 then fault nb b db else fault na a da) = 0) : Ok2 na a da nb b db := by
  by_cases h1 : fault na a da = 0
  · rw [if_pos h1] at h
    exact ⟨can_of_fault' h1, can_of_fault' h⟩
  · rw [if_neg h1] at h
    exact absurd h h1
theorem add_res (minus : Bool) (na : Bool) (a da : List Int) (nb : Bool) (b db : List Int) (ha : Lim 4294967296 a) (hda : Lim 4294967296 da) (hb : Lim 4294967296 b) (hdb : Lim 4294967296 db) (ca : Can na a da) (cb : Can nb b db) (ok : Prop) (hok : ok) :
    ∃ R, Ev (fun k => number_add.f k na a da nb b db minus) R ∧ Res R ok (sgn na (val 4294967296 a) * val 4294967296 db + sgn (nb != minus) (val 4294967296 b) * val 4294967296 da) (val 4294967296 da * val 4294967296 db) := by
  have l1 := ca.ln
  have l2 := ca.ld
  have l3 := cb.ln
  have l4 := cb.ld
  have pa := ca.pos hda
  have pb := cb.pos hdb
  obtain ⟨x, x1, x2, x3, x4, x5⟩ := Mul_ev a db ha hdb (by omega)
  obtain ⟨y, y1, y2, y3, y4, y5⟩ := Mul_ev b da hb hda (by omega)
  obtain ⟨d, d1, d2, d3, d4, d5⟩ := Mul_ev da db hda hdb (by omega)
  obtain ⟨neg, s, s1, s2, s3, s4, s5⟩ := sum_ev na (nb != minus) x y x2 x3 y2 y3 (by omega) (by omega)
  have dp : 0 < val 4294967296 d := by rw [d4]; exact Int.mul_pos pa pb
  have d0 : d ≠ [] := by rintro rfl; exact absurd dp (by decide)
  obtain ⟨neg', p, q, m1, m2⟩ := made_rep neg s d s2 s3 d2 d3 d0 (by omega) (by omega)
  rw [s5, x4, y4, sgn_mul_r, sgn_mul_r, d4] at m2
  refine ⟨outN neg' p q, ?_, res_out m2 (by rw [← d4]; omega) ok hok⟩
  refine Ev.bind (f := fun k t449 => ((nat_Mul.f k b da).bind fun t452 => ((number_sum.f k na t449 (nb != minus) t452).bind fun bt455 => ((nat_Mul.f k da db).bind fun t459 => ((number_made.f k bt455.1 bt455.2 t459).bind fun bt462 => (some (bt462.1, bt462.2.1, bt462.2.2.1, bt462.2.2.2))))))) x1 ?_
  refine Ev.bind (f := fun k t452 => ((number_sum.f k na x (nb != minus) t452).bind fun bt455 => ((nat_Mul.f k da db).bind fun t459 => ((number_made.f k bt455.1 bt455.2 t459).bind fun bt462 => (some (bt462.1, bt462.2.1, bt462.2.2.1, bt462.2.2.2)))))) y1 ?_
  refine Ev.bind (f := fun k bt455 => ((nat_Mul.f k da db).bind fun t459 => ((number_made.f k bt455.1 bt455.2 t459).bind fun bt462 => (some (bt462.1, bt462.2.1, bt462.2.2.1, bt462.2.2.2))))) s1 ?_
  refine Ev.bind (f := fun k t459 => ((number_made.f k neg s t459).bind fun bt462 => (some (bt462.1, bt462.2.1, bt462.2.2.1, bt462.2.2.2)))) d1 ?_
  exact Ev.bind (f := fun _ bt462 => some (bt462.1, bt462.2.1, bt462.2.2.1, bt462.2.2.2)) m1 (Ev.now _)
theorem Add_res (na : Bool) (a da : List Int) (nb : Bool) (b db : List Int) (ha : Lim 4294967296 a) (hda : Lim 4294967296 da) (hb : Lim 4294967296 b) (hdb : Lim 4294967296 db) :
    ∃ R, Ev (fun k => number_Add.f k na a da nb b db) R ∧ Res R (Ok2 na a da nb b db) (sgn na (val 4294967296 a) * val 4294967296 db + sgn nb (val 4294967296 b) * val 4294967296 da) (val 4294967296 da * val 4294967296 db) := by
  have h0 := check2_ev na a da nb b db ha hda hb hdb
  by_cases h : (if fault na a da = 0 then fault nb b db else fault na a da) = 0
  · obtain ⟨ca, cb⟩ := good2 h
    obtain ⟨R, r1, r2⟩ := add_res false na a da nb b db ha hda hb hdb ca cb (Ok2 na a da nb b db) ⟨ca, cb⟩
    rw [show (nb != false) = nb by cases nb <;> rfl] at r2
    refine ⟨R, Ev.bind (f := fun k t476 => (if t476 = 0 then ((number_add.f k na a da nb b db false).bind fun bt477 => (some (bt477.1, bt477.2.1, bt477.2.2.1, bt477.2.2.2))) else (some (false, ([] : List Int), ([] : List Int), t476)))) h0 ?_, r2⟩
    exact Ev.congr (f := fun k => (number_add.f k na a da nb b db false).bind fun bt477 => (some (bt477.1, bt477.2.1, bt477.2.2.1, bt477.2.2.2))) (fun k => if_pos h) (Ev.bind (f := fun _ bt477 => some (bt477.1, bt477.2.1, bt477.2.2.1, bt477.2.2.2)) r1 (Ev.now _))
  · exact ⟨_, Ev.bind (f := fun k t476 => (if t476 = 0 then ((number_add.f k na a da nb b db false).bind fun bt477 => (some (bt477.1, bt477.2.1, bt477.2.2.1, bt477.2.2.2))) else (some (false, ([] : List Int), ([] : List Int), t476)))) h0 (Ev.ret fun k => if_neg h), res_bad _ h _ (bad2 h) _ _⟩
theorem Sub_res (na : Bool) (a da : List Int) (nb : Bool) (b db : List Int) (ha : Lim 4294967296 a) (hda : Lim 4294967296 da) (hb : Lim 4294967296 b) (hdb : Lim 4294967296 db) :
    ∃ R, Ev (fun k => number_Sub.f k na a da nb b db) R ∧ Res R (Ok2 na a da nb b db) (sgn na (val 4294967296 a) * val 4294967296 db - sgn nb (val 4294967296 b) * val 4294967296 da) (val 4294967296 da * val 4294967296 db) := by
  have h0 := check2_ev na a da nb b db ha hda hb hdb
  by_cases h : (if fault na a da = 0 then fault nb b db else fault na a da) = 0
  · obtain ⟨ca, cb⟩ := good2 h
    obtain ⟨R, r1, r2⟩ := add_res true na a da nb b db ha hda hb hdb ca cb (Ok2 na a da nb b db) ⟨ca, cb⟩
    have e : sgn (nb != true) (val 4294967296 b) = -sgn nb (val 4294967296 b) := by unfold sgn; cases nb <;> simp
    rw [e, Int.neg_mul, ← Int.sub_eq_add_neg] at r2
    refine ⟨R, Ev.bind (f := fun k t1274 => (if t1274 = 0 then ((number_add.f k na a da nb b db true).bind fun bt1275 => (some (bt1275.1, bt1275.2.1, bt1275.2.2.1, bt1275.2.2.2))) else (some (false, ([] : List Int), ([] : List Int), t1274)))) h0 ?_, r2⟩
    exact Ev.congr (f := fun k => (number_add.f k na a da nb b db true).bind fun bt1275 => (some (bt1275.1, bt1275.2.1, bt1275.2.2.1, bt1275.2.2.2))) (fun k => if_pos h) (Ev.bind (f := fun _ bt1275 => some (bt1275.1, bt1275.2.1, bt1275.2.2.1, bt1275.2.2.2)) r1 (Ev.now _))
  · exact ⟨_, Ev.bind (f := fun k t1274 => (if t1274 = 0 then ((number_add.f k na a da nb b db true).bind fun bt1275 => (some (bt1275.1, bt1275.2.1, bt1275.2.2.1, bt1275.2.2.2))) else (some (false, ([] : List Int), ([] : List Int), t1274)))) h0 (Ev.ret fun k => if_neg h), res_bad _ h _ (bad2 h) _ _⟩
theorem Mul_res (na : Bool) (a da : List Int) (nb : Bool) (b db : List Int) (ha : Lim 4294967296 a) (hda : Lim 4294967296 da) (hb : Lim 4294967296 b) (hdb : Lim 4294967296 db) :
    ∃ R, Ev (fun k => number_Mul.f k na a da nb b db) R ∧ Res R (Ok2 na a da nb b db) (sgn na (val 4294967296 a) * sgn nb (val 4294967296 b)) (val 4294967296 da * val 4294967296 db) := by
  have h0 := check2_ev na a da nb b db ha hda hb hdb
  by_cases h : (if fault na a da = 0 then fault nb b db else fault na a da) = 0
  · obtain ⟨ca, cb⟩ := good2 h
    have l1 := ca.ln
    have l2 := ca.ld
    have l3 := cb.ln
    have l4 := cb.ld
    obtain ⟨x, x1, x2, x3, x4, x5⟩ := Mul_ev a b ha hb (by omega)
    obtain ⟨d, d1, d2, d3, d4, d5⟩ := Mul_ev da db hda hdb (by omega)
    have dp : 0 < val 4294967296 d := by rw [d4]; exact Int.mul_pos (ca.pos hda) (cb.pos hdb)
    have d0 : d ≠ [] := by rintro rfl; exact absurd dp (by decide)
    obtain ⟨neg', p, q, m1, m2⟩ := made_rep (na != nb) x d x2 x3 d2 d3 d0 (by omega) (by omega)
    rw [x4, sgn_mul, d4] at m2
    refine ⟨outN neg' p q, Ev.bind (f := fun k t1289 => (if t1289 = 0 then ((nat_Mul.f k a b).bind fun t1290 => ((nat_Mul.f k da db).bind fun t1293 => ((number_made.f k (na != nb) t1290 t1293).bind fun bt1296 => (some (bt1296.1, bt1296.2.1, bt1296.2.2.1, bt1296.2.2.2))))) else (some (false, ([] : List Int), ([] : List Int), t1289)))) h0 ?_, res_out m2 (by rw [← d4]; omega) _ ⟨ca, cb⟩⟩
    refine Ev.congr (f := fun k => (nat_Mul.f k a b).bind fun t1290 => ((nat_Mul.f k da db).bind fun t1293 => ((number_made.f k (na != nb) t1290 t1293).bind fun bt1296 => (some (bt1296.1, bt1296.2.1, bt1296.2.2.1, bt1296.2.2.2))))) (fun k => if_pos h) ?_
    refine Ev.bind (f := fun k t1290 => ((nat_Mul.f k da db).bind fun t1293 => ((number_made.f k (na != nb) t1290 t1293).bind fun bt1296 => (some (bt1296.1, bt1296.2.1, bt1296.2.2.1, bt1296.2.2.2))))) x1 ?_
    refine Ev.bind (f := fun k t1293 => ((number_made.f k (na != nb) x t1293).bind fun bt1296 => (some (bt1296.1, bt1296.2.1, bt1296.2.2.1, bt1296.2.2.2)))) d1 ?_
    exact Ev.bind (f := fun _ bt1296 => some (bt1296.1, bt1296.2.1, bt1296.2.2.1, bt1296.2.2.2)) m1 (Ev.now _)
  · exact ⟨_, Ev.bind (f := fun k t1289 => (if t1289 = 0 then ((nat_Mul.f k a b).bind fun t1290 => ((nat_Mul.f k da db).bind fun t1293 => ((number_made.f k (na != nb) t1290 t1293).bind fun bt1296 => (some (bt1296.1, bt1296.2.1, bt1296.2.2.1, bt1296.2.2.2))))) else (some (false, ([] : List Int), ([] : List Int), t1289)))) h0 (Ev.ret fun k => if_neg h), res_bad _ h _ (bad2 h) _ _⟩
theorem Div_res (na : Bool) (a da : List Int) (nb : Bool) (b db : List Int) (ha : Lim 4294967296 a) (hda : Lim 4294967296 da) (hb : Lim 4294967296 b) (hdb : Lim 4294967296 db) (ca : Can na a da) (cb : Can nb b db) (b0 : b ≠ []) :
    ∃ R, Ev (fun k => number_Div.f k na a da nb b db) R ∧ Res R True (sgn na (val 4294967296 a) * val 4294967296 db) (val 4294967296 da * sgn nb (val 4294967296 b)) := by
  have h0 := check2_ev na a da nb b db ha hda hb hdb
  rw [fault_can ca, fault_can cb, if_pos rfl] at h0
  have l1 := ca.ln
  have l2 := ca.ld
  have l3 := cb.ln
  have l4 := cb.ld
  have pb := val_pos (by decide) hb cb.nn b0
  obtain ⟨x, x1, x2, x3, x4, x5⟩ := Mul_ev a db ha hdb (by omega)
  obtain ⟨d, d1, d2, d3, d4, d5⟩ := Mul_ev da b hda hb (by omega)
  have dp : 0 < val 4294967296 d := by rw [d4]; exact Int.mul_pos (ca.pos hda) pb
  have d0 : d ≠ [] := by rintro rfl; exact absurd dp (by decide)
  obtain ⟨neg', p, q, m1, m2⟩ := made_rep (na != nb) x d x2 x3 d2 d3 d0 (by omega) (by omega)
  rw [x4, d4] at m2
  have m3 : Rep neg' p q (sgn na (val 4294967296 a) * val 4294967296 db) (val 4294967296 da * sgn nb (val 4294967296 b)) := by
    refine m2.turn (by rw [← d4]; omega) ?_
    unfold sgn
    generalize val 4294967296 a = x
    generalize val 4294967296 da = y
    generalize val 4294967296 b = z
    generalize val 4294967296 db = u
    cases na <;> cases nb <;> simp <;> grind
  have hD : val 4294967296 da * sgn nb (val 4294967296 b) ≠ 0 := by
    rw [d4] at dp
    unfold sgn
    cases nb with
    | true => rw [if_pos rfl, Int.mul_neg]; omega
    | false => rw [if_neg (by decide)]; omega
  refine ⟨outN neg' p q, Ev.bind (f := fun k t1310 => (if t1310 = 0 then (if (b.length : Int) = 0 then (some (false, ([] : List Int), ([] : List Int), 10)) else ((nat_Mul.f k a db).bind fun t1311 => ((nat_Mul.f k da b).bind fun t1314 => ((number_made.f k (na != nb) t1311 t1314).bind fun bt1317 => (some (bt1317.1, bt1317.2.1, bt1317.2.2.1, bt1317.2.2.2)))))) else (some (false, ([] : List Int), ([] : List Int), t1310)))) h0 ?_, res_out m3 hD _ trivial⟩
  have hbl : ¬ (b.length : Int) = 0 := by
    have : b.length ≠ 0 := fun h' => b0 (List.length_eq_zero_iff.1 h')
    omega
  refine Ev.congr (f := fun k => (nat_Mul.f k a db).bind fun t1311 => ((nat_Mul.f k da b).bind fun t1314 => ((number_made.f k (na != nb) t1311 t1314).bind fun bt1317 => (some (bt1317.1, bt1317.2.1, bt1317.2.2.1, bt1317.2.2.2))))) (fun k => by rw [if_pos rfl, if_neg hbl]) ?_
  refine Ev.bind (f := fun k t1311 => ((nat_Mul.f k da b).bind fun t1314 => ((number_made.f k (na != nb) t1311 t1314).bind fun bt1317 => (some (bt1317.1, bt1317.2.1, bt1317.2.2.1, bt1317.2.2.2))))) x1 ?_
  refine Ev.bind (f := fun k t1314 => ((number_made.f k (na != nb) x t1314).bind fun bt1317 => (some (bt1317.1, bt1317.2.1, bt1317.2.2.1, bt1317.2.2.2)))) d1 ?_
  exact Ev.bind (f := fun _ bt1317 => some (bt1317.1, bt1317.2.1, bt1317.2.2.1, bt1317.2.2.2)) m1 (Ev.now _)
theorem Sign_ev (neg : Bool) (num den : List Int) (hn : Lim 4294967296 num) (hd : Lim 4294967296 den) :
    Ev (fun k => number_Sign.f k neg num den) (if fault neg num den = 0 then cmpI (sgn neg (val 4294967296 num)) 0 else 0, fault neg num den) := by
  refine Ev.bind (f := fun k t1543 => (if t1543 = 0 then (number_Sign.j0 k t1543 ((num.length : Int) == 0) neg num den) else (number_Sign.j0 k t1543 true neg num den))) (Check_ev neg num den hn hd) ?_
  by_cases h : fault neg num den = 0
  · have hc := can_of_fault' h
    rw [if_pos h]
    refine Ev.congr (f := fun k => number_Sign.j0 k 0 ((num.length : Int) == 0) neg num den) (fun k => by rw [if_pos h, h]) ?_
    rw [h]
    by_cases c : num = []
    · have e : ((num.length : Int) == 0) = true := by rw [c]; rfl
      have e2 : sgn neg (val 4294967296 num) = 0 := by rw [c]; unfold sgn; cases neg <;> rfl
      rw [e, e2]
      refine Ev.step (f := fun _ => some (0, 0)) (fun k => ?_) (Ev.now _)
      simp only [number_Sign.j0]
      rw [if_pos trivial]
    · have e : ((num.length : Int) == 0) = false := by
        have : num.length ≠ 0 := fun h' => c (List.length_eq_zero_iff.1 h')
        simp [this]
      have hp := val_pos (by decide) hn hc.nn c
      rw [e]
      cases neg with
      | true =>
        have e2 : cmpI (sgn true (val 4294967296 num)) 0 = -1 := cmpI_of_lt (by unfold sgn; rw [if_pos rfl]; omega)
        rw [e2]
        refine Ev.step (f := fun _ => some (-1, 0)) (fun k => ?_) (Ev.now _)
        simp only [number_Sign.j0]
        rw [if_neg (by decide), if_pos trivial]
      | false =>
        have e2 : cmpI (sgn false (val 4294967296 num)) 0 = 1 := cmpI_of_gt (by unfold sgn; rw [if_neg (by decide)]; omega)
        rw [e2]
        refine Ev.step (f := fun _ => some (1, 0)) (fun k => ?_) (Ev.now _)
        simp only [number_Sign.j0]
        rw [if_neg (by decide), if_neg (by decide)]
  · rw [if_neg h]
    refine Ev.congr (f := fun k => number_Sign.j0 k (fault neg num den) true neg num den) (fun k => if_neg h) (Ev.step (f := fun _ => some (0, fault neg num den)) (fun k => ?_) (Ev.now _))
    simp only [number_Sign.j0]
    rw [if_pos trivial]
theorem cancel {x y z : Int} (hz : z ≠ 0) (h : x * z = y * z) : x = y := Int.eq_of_mul_eq_mul_right hz h
theorem field_cnt : Ev (fun k => (lw_counted.f k).bind fun t => some t) true := Ev.bind (f := fun _ t => some t) counted_ev (Ev.now _)
theorem field_j2 (na : Bool) (a da : List Int) (nc : Bool) (c dc : List Int) (nx : Bool) (x dx : List Int) (ha : Lim 4294967296 a) (hda : Lim 4294967296 da) (hc : Lim 4294967296 c) (hdc : Lim 4294967296 dc) (hx : Lim 4294967296 x) (hdx : Lim 4294967296 dx) (ca : Can na a da) (cc : Can nc c dc) (cx : Can nx x dx)
    (rx : Rep nx x dx (sgn na (val 4294967296 a) * sgn nc (val 4294967296 c)) (val 4294967296 da * val 4294967296 dc)) (b : Bool) (hb : b = false → c ≠ []) : Ev (fun k => lw_NumberFieldLaws.j2 k 0 b na a da nc c dc nx x dx) true := by
  cases b with
  | true =>
    refine Ev.step (f := fun k => (lw_counted.f k).bind fun t => some t) (fun k => ?_) field_cnt
    simp only [lw_NumberFieldLaws.j2]
    rw [if_pos trivial, if_pos trivial]
  | false =>
    have c0 := hb rfl
    obtain ⟨R, r1, r2⟩ := Div_res nx x dx nc c dc hx hdx hc hdc cx cc c0
    have pc := val_pos (by decide) hc cc.nn c0
    have pda := ca.pos hda
    have pdc := cc.pos hdc
    have pdx := cx.pos hdx
    have hs : sgn nc (val 4294967296 c) ≠ 0 := by unfold sgn; cases nc <;> simp <;> omega
    have e : R = (na, a, da, 0) := by
      refine r2.told trivial na a da ?_ ca.ln ca.ld
      refine (ca.rep ha hda).turn (by omega) ?_
      have h1 := rx.eq
      generalize sgn na (val 4294967296 a) = A at *
      generalize sgn nc (val 4294967296 c) = C at *
      generalize sgn nx (val 4294967296 x) = X at *
      generalize val 4294967296 da = u at *
      generalize val 4294967296 dc = v at *
      generalize val 4294967296 dx = w at *
      grind
    rw [e] at r1
    refine Ev.step (f := fun k => (number_Div.f k nx x dx nc c dc).bind fun bt1607 => (if bt1607.2.2.2 = 0 then ((lw_same.f k bt1607.1 bt1607.2.1 bt1607.2.2.1 na a da).bind fun t1616 => (if t1616 = true then ((lw_counted.f k).bind fun t1617 => (some t1617)) else (some false))) else (some false))) (fun k => by simp only [lw_NumberFieldLaws.j2]; rw [if_neg (by decide)]) ?_
    refine Ev.bind (f := fun k bt1607 => (if bt1607.2.2.2 = 0 then ((lw_same.f k bt1607.1 bt1607.2.1 bt1607.2.2.1 na a da).bind fun t1616 => (if t1616 = true then ((lw_counted.f k).bind fun t1617 => (some t1617)) else (some false))) else (some false))) r1 ?_
    have l1 := ca.ln
    have l2 := ca.ld
    refine Ev.congr (f := fun k => (lw_same.f k na a da na a da).bind fun t1616 => (if t1616 = true then ((lw_counted.f k).bind fun t1617 => (some t1617)) else (some false))) (fun k => if_pos rfl) ?_
    refine Ev.bind (f := fun k t1616 => (if t1616 = true then ((lw_counted.f k).bind fun t1617 => (some t1617)) else (some false))) (same_ev na a da na a da (by omega) (by omega)) ?_
    exact Ev.congr (fun k => if_pos (by simp)) field_cnt
theorem field_j1 (na : Bool) (a da : List Int) (nc : Bool) (c dc : List Int) (nx : Bool) (x dx : List Int) (ha : Lim 4294967296 a) (hda : Lim 4294967296 da) (hc : Lim 4294967296 c) (hdc : Lim 4294967296 dc) (hx : Lim 4294967296 x) (hdx : Lim 4294967296 dx) (ca : Can na a da) (cc : Can nc c dc) (cx : Can nx x dx)
    (rx : Rep nx x dx (sgn na (val 4294967296 a) * sgn nc (val 4294967296 c)) (val 4294967296 da * val 4294967296 dc)) : Ev (fun k => lw_NumberFieldLaws.j1 k false na a da nc c dc nx x dx) true := by
  have hs := Sign_ev nc c dc hc hdc
  rw [fault_can cc, if_pos rfl] at hs
  refine Ev.step (f := fun k => (number_Sign.f k nc c dc).bind fun bt1604 => (if bt1604.2 = 0 then (lw_NumberFieldLaws.j2 k bt1604.2 (bt1604.1 == 0) na a da nc c dc nx x dx) else (lw_NumberFieldLaws.j2 k bt1604.2 true na a da nc c dc nx x dx))) (fun k => by simp only [lw_NumberFieldLaws.j1]; rw [if_neg (by decide)]) ?_
  refine Ev.bind (f := fun k bt1604 => (if bt1604.2 = 0 then (lw_NumberFieldLaws.j2 k bt1604.2 (bt1604.1 == 0) na a da nc c dc nx x dx) else (lw_NumberFieldLaws.j2 k bt1604.2 true na a da nc c dc nx x dx))) hs ?_
  refine Ev.congr (f := fun k => lw_NumberFieldLaws.j2 k 0 (cmpI (sgn nc (val 4294967296 c)) 0 == 0) na a da nc c dc nx x dx) (fun k => if_pos rfl) ?_
  refine field_j2 na a da nc c dc nx x dx ha hda hc hdc hx hdx ca cc cx rx _ (fun hb => ?_)
  rintro rfl
  have : cmpI (sgn nc (val 4294967296 [])) 0 = 0 := by
    have : sgn nc (val 4294967296 []) = 0 := by unfold sgn; cases nc <;> rfl
    rw [this]; rfl
  rw [this] at hb
  exact absurd hb (by decide)
set_option maxHeartbeats 4000000 in
theorem field_j0 (na : Bool) (a da : List Int) (nb : Bool) (b db : List Int) (nc : Bool) (c dc : List Int) (ns : Bool) (s ds : List Int) (nl : Bool) (l dl : List Int) (nx : Bool) (x dx : List Int) (ny : Bool) (y dy : List Int)
    (ha : Lim 4294967296 a) (hda : Lim 4294967296 da) (hb : Lim 4294967296 b) (hdb : Lim 4294967296 db) (hc : Lim 4294967296 c) (hdc : Lim 4294967296 dc)
    (hs : Lim 4294967296 s) (hds : Lim 4294967296 ds) (hl : Lim 4294967296 l) (hdl : Lim 4294967296 dl) (hx : Lim 4294967296 x) (hdx : Lim 4294967296 dx) (hy : Lim 4294967296 y) (hdy : Lim 4294967296 dy)
    (ca : Can na a da) (cb : Can nb b db) (cc : Can nc c dc) (cs : Can ns s ds) (cl : Can nl l dl) (cx : Can nx x dx) (cy : Can ny y dy)
    (rs : Rep ns s ds (sgn na (val 4294967296 a) * val 4294967296 db + sgn nb (val 4294967296 b) * val 4294967296 da) (val 4294967296 da * val 4294967296 db))
    (rl : Rep nl l dl (sgn ns (val 4294967296 s) * sgn nc (val 4294967296 c)) (val 4294967296 ds * val 4294967296 dc))
    (rx : Rep nx x dx (sgn na (val 4294967296 a) * sgn nc (val 4294967296 c)) (val 4294967296 da * val 4294967296 dc))
    (ry : Rep ny y dy (sgn nb (val 4294967296 b) * sgn nc (val 4294967296 c)) (val 4294967296 db * val 4294967296 dc)) :
    Ev (fun k => lw_NumberFieldLaws.j0 k false na a da nb b db nc c dc ns s ds nl l dl nx x dx ny y dy) true := by
  have pa := ca.pos hda
  have pb := cb.pos hdb
  have pc := cc.pos hdc
  have ps := cs.pos hds
  have pl := cl.pos hdl
  have px := cx.pos hdx
  have py := cy.pos hdy
  obtain ⟨R, r1, r2⟩ := Add_res nx x dx ny y dy hx hdx hy hdy
  obtain ⟨B, b1, b2⟩ := Sub_res ns s ds nb b db hs hds hb hdb
  have eR : R = (nl, l, dl, 0) := by
    refine r2.told ⟨cx, cy⟩ nl l dl ?_ cl.ln cl.ld
    have d1 : val 4294967296 ds * val 4294967296 dc ≠ 0 := by have := Int.mul_pos ps pc; omega
    refine rl.turn d1 ?_
    have e1 := rs.eq
    have e2 := rx.eq
    have e3 := ry.eq
    have z1 : val 4294967296 da * val 4294967296 db * val 4294967296 dc ≠ 0 := by have := Int.mul_pos (Int.mul_pos pa pb) pc; omega
    generalize sgn na (val 4294967296 a) = A at *
    generalize sgn nb (val 4294967296 b) = B' at *
    generalize sgn nc (val 4294967296 c) = C at *
    generalize sgn ns (val 4294967296 s) = S at *
    generalize sgn nx (val 4294967296 x) = X at *
    generalize sgn ny (val 4294967296 y) = Y at *
    generalize val 4294967296 da = u at *
    generalize val 4294967296 db = v at *
    generalize val 4294967296 dc = w at *
    generalize val 4294967296 ds = p at *
    generalize val 4294967296 dx = q at *
    generalize val 4294967296 dy = t at *
    clear r1 r2 b1 b2 rs rl rx ry
    refine cancel z1 ?_
    have h1 : S * C * (q * t) * (u * v * w) = C * (q * t) * w * (S * (u * v)) := by grind
    have h2 : (X * t + Y * q) * (p * w) * (u * v * w) = p * w * (t * v * (X * (u * w)) + q * u * (Y * (v * w))) := by grind
    rw [h1, h2, e1, e2, e3]
    grind
  have eB : B = (na, a, da, 0) := by
    refine b2.told ⟨cs, cb⟩ na a da ?_ ca.ln ca.ld
    refine (ca.rep ha hda).turn (by omega) ?_
    have e1 := rs.eq
    have z1 : val 4294967296 db ≠ 0 := by omega
    generalize sgn na (val 4294967296 a) = A at *
    generalize sgn nb (val 4294967296 b) = B' at *
    generalize sgn ns (val 4294967296 s) = S at *
    generalize val 4294967296 da = u at *
    generalize val 4294967296 db = v at *
    generalize val 4294967296 ds = p at *
    clear r1 r2 b1 b2 rs rl rx ry
    have h1 : (S * v - B' * p) * u = S * (u * v) - B' * p * u := by grind
    rw [h1, e1]
    grind
  rw [eR] at r1
  rw [eB] at b1
  have l1 := ca.ln
  have l2 := ca.ld
  have l3 := cl.ln
  have l4 := cl.ld
  refine Ev.step (f := fun k => (number_Add.f k nx x dx ny y dy).bind fun bt1584 => ((number_Sub.f k ns s ds nb b db).bind fun bt1593 => (if bt1584.2.2.2 = 0 then (if bt1593.2.2.2 = 0 then ((lw_same.f k nl l dl bt1584.1 bt1584.2.1 bt1584.2.2.1).bind fun t1602 => (if t1602 = true then ((lw_same.f k bt1593.1 bt1593.2.1 bt1593.2.2.1 na a da).bind fun t1603 => (lw_NumberFieldLaws.j1 k (!t1603) na a da nc c dc nx x dx)) else (lw_NumberFieldLaws.j1 k true na a da nc c dc nx x dx))) else (lw_NumberFieldLaws.j1 k true na a da nc c dc nx x dx)) else (lw_NumberFieldLaws.j1 k true na a da nc c dc nx x dx)))) (fun k => by simp only [lw_NumberFieldLaws.j0]; rw [if_neg (by decide)]) ?_
  refine Ev.bind (f := fun k bt1584 => ((number_Sub.f k ns s ds nb b db).bind fun bt1593 => (if bt1584.2.2.2 = 0 then (if bt1593.2.2.2 = 0 then ((lw_same.f k nl l dl bt1584.1 bt1584.2.1 bt1584.2.2.1).bind fun t1602 => (if t1602 = true then ((lw_same.f k bt1593.1 bt1593.2.1 bt1593.2.2.1 na a da).bind fun t1603 => (lw_NumberFieldLaws.j1 k (!t1603) na a da nc c dc nx x dx)) else (lw_NumberFieldLaws.j1 k true na a da nc c dc nx x dx))) else (lw_NumberFieldLaws.j1 k true na a da nc c dc nx x dx)) else (lw_NumberFieldLaws.j1 k true na a da nc c dc nx x dx)))) r1 ?_
  refine Ev.bind (f := fun k bt1593 => (if (0 : Int) = 0 then (if bt1593.2.2.2 = 0 then ((lw_same.f k nl l dl nl l dl).bind fun t1602 => (if t1602 = true then ((lw_same.f k bt1593.1 bt1593.2.1 bt1593.2.2.1 na a da).bind fun t1603 => (lw_NumberFieldLaws.j1 k (!t1603) na a da nc c dc nx x dx)) else (lw_NumberFieldLaws.j1 k true na a da nc c dc nx x dx))) else (lw_NumberFieldLaws.j1 k true na a da nc c dc nx x dx)) else (lw_NumberFieldLaws.j1 k true na a da nc c dc nx x dx))) b1 ?_
  refine Ev.congr (f := fun k => (lw_same.f k nl l dl nl l dl).bind fun t1602 => (if t1602 = true then ((lw_same.f k na a da na a da).bind fun t1603 => (lw_NumberFieldLaws.j1 k (!t1603) na a da nc c dc nx x dx)) else (lw_NumberFieldLaws.j1 k true na a da nc c dc nx x dx))) (fun k => by rw [if_pos rfl, if_pos rfl]) ?_
  refine Ev.bind (f := fun k t1602 => (if t1602 = true then ((lw_same.f k na a da na a da).bind fun t1603 => (lw_NumberFieldLaws.j1 k (!t1603) na a da nc c dc nx x dx)) else (lw_NumberFieldLaws.j1 k true na a da nc c dc nx x dx))) (same_ev nl l dl nl l dl (by omega) (by omega)) ?_
  refine Ev.congr (f := fun k => (lw_same.f k na a da na a da).bind fun t1603 => (lw_NumberFieldLaws.j1 k (!t1603) na a da nc c dc nx x dx)) (fun k => if_pos (by simp)) ?_
  refine Ev.bind (f := fun k t1603 => (lw_NumberFieldLaws.j1 k (!t1603) na a da nc c dc nx x dx)) (same_ev na a da na a da (by omega) (by omega)) ?_
  have hf : (!decide (na = na ∧ a = a ∧ da = da)) = false := by simp
  rw [hf]
  exact field_j1 na a da nc c dc nx x dx ha hda hc hdc hx hdx ca cc cx rx
set_option maxHeartbeats 4000000 in
theorem field_pure (na : Bool) (a da : List Int) (nb : Bool) (b db : List Int) (nc : Bool) (c dc : List Int) (ha : Lim 4294967296 a) (hda : Lim 4294967296 da) (hb : Lim 4294967296 b) (hdb : Lim 4294967296 db) (hc : Lim 4294967296 c) (hdc : Lim 4294967296 dc) :
    ∃ k, lw_NumberFieldLaws.f k na a da nb b db nc c dc = some true := by
  refine ev_rounds (g := fun k => lw_NumberFieldLaws.f k na a da nb b db nc c dc) ?_
  obtain ⟨⟨ns, s, ds, es⟩, s1, s2⟩ := Add_res na a da nb b db ha hda hb hdb
  obtain ⟨⟨nl, l, dl, el⟩, l1, l2⟩ := Mul_res ns s ds nc c dc s2.l1 s2.l2 hc hdc
  obtain ⟨⟨nx, x, dx, ex⟩, x1, x2⟩ := Mul_res na a da nc c dc ha hda hc hdc
  obtain ⟨⟨ny, y, dy, ey⟩, y1, y2⟩ := Mul_res nb b db nc c dc hb hdb hc hdc
  have jt : Ev (fun k => lw_NumberFieldLaws.j0 k true na a da nb b db nc c dc ns s ds nl l dl nx x dx ny y dy) true :=
    Ev.step (f := fun k => (lw_counted.f k).bind fun t => some t) (fun k => by simp only [lw_NumberFieldLaws.j0]; rw [if_pos trivial]) field_cnt
  refine Ev.bind s1 (Ev.bind l1 (Ev.bind x1 (Ev.bind y1 ?_)))
  show Ev (fun k => if es = 0 then (if el = 0 then (if ex = 0 then (lw_NumberFieldLaws.j0 k (ey != 0) na a da nb b db nc c dc ns s ds nl l dl nx x dx ny y dy) else (lw_NumberFieldLaws.j0 k true na a da nb b db nc c dc ns s ds nl l dl nx x dx ny y dy)) else (lw_NumberFieldLaws.j0 k true na a da nb b db nc c dc ns s ds nl l dl nx x dx ny y dy)) else (lw_NumberFieldLaws.j0 k true na a da nb b db nc c dc ns s ds nl l dl nx x dx ny y dy)) true
  by_cases h1 : es = 0
  · by_cases h2 : el = 0
    · by_cases h3 : ex = 0
      · refine Ev.congr (f := fun k => lw_NumberFieldLaws.j0 k (ey != 0) na a da nb b db nc c dc ns s ds nl l dl nx x dx ny y dy) (fun k => by rw [if_pos h1, if_pos h2, if_pos h3]) ?_
        by_cases h4 : ey = 0
        · obtain ⟨o1, c1, p1⟩ := s2.fine h1
          obtain ⟨o2, c2, p2⟩ := l2.fine h2
          obtain ⟨o3, c3, p3⟩ := x2.fine h3
          obtain ⟨o4, c4, p4⟩ := y2.fine h4
          have e : (ey != 0) = false := by rw [h4]; rfl
          rw [e]
          exact field_j0 na a da nb b db nc c dc ns s ds nl l dl nx x dx ny y dy ha hda hb hdb hc hdc s2.l1 s2.l2 l2.l1 l2.l2 x2.l1 x2.l2 y2.l1 y2.l2 o1.1 o1.2 o3.2 c1 c2 c3 c4 p1 p2 p3 p4
        · have e : (ey != 0) = true := by simpa using h4
          rw [e]; exact jt
      · exact Ev.congr (fun k => by rw [if_pos h1, if_pos h2, if_neg h3]) jt
    · exact Ev.congr (fun k => by rw [if_pos h1, if_neg h2]) jt
  · exact Ev.congr (fun k => by rw [if_neg h1]) jt
end Go.Proofs.YtemnjgkicndmjaaDoor.Q
namespace Go.Proofs.YtemnjgkicndmjaaDoor.Q
open Go.ChangeShapes Go.WideShapes Go.ChangeAt Go.RowKit Go.Joins Go.Proofs.YtemnjgkicndmjaaDoorW.PrintWords Go.Proofs.YtemnjgkicndmjaaDoorW.PrintLast Go.Proofs.YtemnjgkicndmjaaDoorW.PrintMore
set_option linter.unusedVariables false
namespace FieldLaw
set_option maxRecDepth 100000 in
theorem contract (H : Type) (enc : TypeId × Value → H) (W : World) (base : Nat) (args : Array Value) (ds gs : List (DataW H)) (before : List MemPlace)
    (hval : ∀ (j : Nat) t v, Tryd.f8.params[j]? = some t → args[j]? = some v → Value.okWide Tryd.prog W .any base t v)
    (hW : DataW.Whole enc Tryd.prog Tryd.f8.params.toList Rows.numberFieldLawsSpec.vars false W args.toList ds gs before) :
    Calls Tryd.prog 8 args W fun e W' => ∃ v, e = .returned v ∧ Rows.numberFieldLawsSpec.post enc Tryd.prog Tryd.f8 false true false false W args v W' := by
  have hW' := hW
  obtain ⟨p, q, hA0, hV, rfl, hfz, hnd⟩ := hW
  have hA : DataW.TrodAll enc Tryd.prog W 0 (fun _ => true) true Tryd.f8.params.toList args.toList ds p := hA0
  rw [Tryd.params8] at hA hval
  obtain ⟨v0, vs0, d0, ds0, p0, q0, hargs, rfl, rfl, h0, r0⟩ := trodAll_cons hA
  obtain ⟨v1, vs1, d1, ds1, p1, q1, rfl, rfl, rfl, h1, r1⟩ := trodAll_cons r0
  obtain ⟨v2, vs2, d2, ds2, p2, q2, rfl, rfl, rfl, h2, r2⟩ := trodAll_cons r1
  obtain ⟨rfl, rfl, rfl⟩ := trodAll_nil r2
  obtain rfl : args = #[v0, v1, v2] := by cases args; simp_all
  obtain ⟨rfl, rfl⟩ := trodVars_none hV
  have k0 := h0
  have lt0 : ∀ x ∈ p0, x.block < W.heap.size := by obtain ⟨m, hm⟩ := k0; exact DataW.trod_lt m _ _ _ hm
  have k1 := h1
  have lt1 : ∀ x ∈ p1, x.block < W.heap.size := by obtain ⟨m, hm⟩ := k1; exact DataW.trod_lt m _ _ _ hm
  have k2 := h2
  have lt2 : ∀ x ∈ p2, x.block < W.heap.size := by obtain ⟨m, hm⟩ := k2; exact DataW.trod_lt m _ _ _ hm
  obtain ⟨na, A1, c1, a, A2, c2, da, rfl, i1, m1, n1, i2, m2, n2⟩ := open_number (hval 0 24 v0 rfl rfl) h0
  obtain ⟨nb, A3, c3, b, A4, c4, db, rfl, i3, m3, n3, i4, m4, n4⟩ := open_number (hval 1 24 v1 rfl rfl) h1
  obtain ⟨nc, A5, c5, c, A6, c6, dc, rfl, i5, m5, n5, i6, m6, n6⟩ := open_number (hval 2 24 v2 rfl rfl) h2
  clear hA0
  simp only [List.append_nil] at hW'
  obtain ⟨k, hk⟩ := field_pure na a da nb b db nc c dc n1 n2 n3 n4 n5 n6
  refine (lw_NumberFieldLaws.calls k na A1 c1 a A2 c2 da nb A3 c3 b A4 c4 db nc A5 c5 c A6 c6 dc true W m1 i1 m2 i2 m3 i3 m4 i4 m5 i5 m6 i6 hk rfl).mono fun e W' ⟨he, bel⟩ => ?_
  subst he
  exact ⟨_, rfl, _, _, _, [], _, [], hW', trodAll_mk1 (shut_bool Tryd.underlying4 _), (trodAll_cons_mk (Below.trod laidOut (by kernel_rfl) (of_decide_eq_true (by kernel_rfl)) k0 bel lt0) (trodAll_cons_mk (Below.trod laidOut (by kernel_rfl) (of_decide_eq_true (by kernel_rfl)) k1 bel lt1) (trodAll_cons_mk (Below.trod laidOut (by kernel_rfl) (of_decide_eq_true (by kernel_rfl)) k2 bel lt2) trodAll_mk0))), rfl, bel.frame _, fun h => by cases h⟩
theorem reads (os : Os) {H : Type} (enc : TypeId × Value → H) : ∃ places, DataW.whole enc Tryd.prog ((laidWorld os).forCall (fun _ _ => 0) ⟨#[], #[.agg #[.bool false, .slice none 0 0, .slice none 0 0], .agg #[.bool false, .slice none 0 0, .slice none 0 0], .agg #[.bool false, .slice none 0 0, .slice none 0 0]], []⟩).memory Tryd.f8.params.toList Rows.numberFieldLawsSpec.vars false #[Value.agg #[.bool false, .slice none 0 0, .slice none 0 0], .agg #[.bool false, .slice none 0 0, .slice none 0 0], .agg #[.bool false, .slice none 0 0, .slice none 0 0]].toList 8 = some ([.agg [.lit (.bool false), .nil, .nil], .agg [.lit (.bool false), .nil, .nil], .agg [.lit (.bool false), .nil, .nil]], [], places) :=
  ⟨[], by kernel_rfl⟩
set_option maxRecDepth 100000 in
theorem lifted (os : Os) (started : os.Started) (H : Type) (enc : TypeId × Value → H) (F : Stop.Interp) :
    ReturnsInHanded {} Tryd.checked os 8 .any ((OpenSpec.ofChange Rows.numberFieldLawsSpec).preRow enc Tryd.prog Tryd.f8 Rows.numberFieldLawsRow.domain false Rows.numberFieldLawsRow.laid) (((OpenSpec.ofChange Rows.numberFieldLawsSpec).at F).post enc Tryd.prog Tryd.f8 false true false false) := by
  obtain ⟨places, hx⟩ := reads os enc
  refine returnsInHanded_of_row (C := Tryd.checked) (s := OpenSpec.ofChange Rows.numberFieldLawsSpec) own started (by kernel_rfl) Tryd.func8
    (witness_row_at (enc := enc) (C := Tryd.checked) false (laidWorld os) #[.agg #[.bool false, .slice none 0 0, .slice none 0 0], .agg #[.bool false, .slice none 0 0, .slice none 0 0], .agg #[.bool false, .slice none 0 0, .slice none 0 0]] rfl (by kernel_rfl) (by kernel_rfl) (by kernel_rfl)
      (OpenSpec.preRow_of_cond 8 hx (by kernel_rfl) (fun k hk => by cases hk) (by kernel_rfl) (laid_met os _))) ?_
  intro W base args ds gs before hval hW _ _ _ hL _ _
  exact contract H enc W base args ds gs before hval hW
theorem said : Rows.NumberFieldLawsSaid :=
  OpenClaim.holds_of_cond 8 Tryd.f8 rfl rfl rfl rfl rfl rfl rfl ⟨rfl, rfl, rfl, rfl, rfl⟩ rfl rfl rfl rfl rfl (by kernel_rfl) Tryd.func8 (by kernel_rfl)
    (of_decide_eq_true (by kernel_rfl)) (by unfold Func.isWrapper; first | (rw [if_pos (by decide +kernel)]; kernel_rfl) | (rw [if_neg (by decide +kernel)]; exact ⟨rfl, rfl⟩))
    (fun os started H enc _ F => by rw [OpenClaim.pre_eq_preRow]; exact lifted os started H enc F)
theorem plain (f : FuncId) (fn : Func) (hf : Tryd.pinned.checked.prog.funcNamed "fetterlock/fetterlocklaw1.NumberFieldLaws" = some f) (hfn : Tryd.pinned.checked.prog.funcs[f]? = some fn) :
    false = Tryd.pinned.checked.prog.looks [] ∧ ∀ (j : Nat) t, fn.params[j]? = some t → Tryd.pinned.checked.prog.wantsStandIn t = false := by
  obtain rfl : f = 8 := Option.some.inj ((show Tryd.prog.funcNamed "fetterlock/fetterlocklaw1.NumberFieldLaws" = some 8 by kernel_rfl).symm.trans hf) |>.symm
  obtain rfl : fn = Tryd.f8 := (Option.some.inj (Tryd.func8.symm.trans hfn)).symm
  refine ⟨by kernel_rfl, fun j t ht => ?_⟩
  rw [Tryd.params8] at ht
  obtain rfl : t = 24 := by simpa using Array.mem_of_getElem? ht
  exact (show Tryd.prog.wantsStandIn 24 = false by kernel_rfl)
theorem card : Rows.NumberFieldLawsCardSaid :=
  Claim7.holds_tied_plain_at .later [] _ _ _ _ said (fun _ h => by cases h) (by kernel_rfl) (fun _ h => by cases h) numberFieldLaws_row_tie rfl ⟨rfl, rfl⟩ (by kernel_rfl) rfl plain (by kernel_rfl)
end FieldLaw
end Go.Proofs.YtemnjgkicndmjaaDoor.Q
namespace Go.Proofs.YtemnjgkicndmjaaDoor
theorem numberFieldLaws_holds : Rows.NumberFieldLawsCardSaid := Q.FieldLaw.card
end Go.Proofs.YtemnjgkicndmjaaDoor

