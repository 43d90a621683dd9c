/- What this text proves: a part of the walk and of the plain laws of one card; no conditions. -/
import Derived.Test.YtemnjgkicndmjaaGreatDoorHb4
namespace Go.Proofs.YtemnjgkicndmjaaGreatDoor.Q
open Go.RowKit Go.Proofs.YtemnjgkicndmjaaGreatDoorW.PrintWords Go.Proofs.YtemnjgkicndmjaaGreatDoorW.PrintLast Go.Proofs.YtemnjgkicndmjaaGreatDoorW.PrintMore
set_option linter.unusedVariables false
theorem plus_same : ∀ (k : Nat) (b x : List Int) (c n i : Int), nat_plus.l1000 k b x c n i = nat_plus.l0 k b x c n i := by
  intro k
  induction k with
  | zero => intros; rfl
  | succ k ih => intro b x c n i; simp only [nat_plus.l1000, nat_plus.l0, ih]
theorem plus_loop (b : List Int) (hb : Lim 4294967296 b) (N : Nat) (hN : N ≤ 549755813888) (hbN : b.length ≤ N) (T : Int) (hT : T < 4294967296 ^ N) : ∀ (d i : Nat) (x : List Int) (c : Int), d + i = N → x.length = N → Lim 4294967296 x → 0 ≤ c → c ≤ 1 →
    val 4294967296 x + 4294967296 ^ i * c + (val 4294967296 b - val 4294967296 (b.take i)) = T →
    ∃ r, Ev (fun k => nat_plus.l0 k b x c (N : Int) (i : Int)) (trim r) ∧ r.length = N ∧ Lim 4294967296 r ∧ val 4294967296 r = T := by
  have hB : (0 : Int) < 4294967296 := by decide
  intro d
  induction d with
  | zero =>
    intro i x c hd hl hx hc0 hc hv
    have hi : i = N := by omega
    subst hi
    refine ⟨x, Ev.step (f := fun k => (nat_Trim.f k x).bind fun t => some t) (fun k => ?_) (Ev.bind (f := fun _ t => some t) (Trim_ev x (by omega)) (Ev.now _)), hl, hx, ?_⟩
    · simp only [nat_plus.l0]; rw [if_neg (by omega)]
    · rw [List.take_of_length_le (by omega), Int.sub_self, Int.add_zero] at hv
      have h1 := val_nonneg hB hx
      by_cases h : c = 0
      · rw [h, Int.mul_zero] at hv; omega
      · have e : c = 1 := by omega
        rw [e, Int.mul_one] at hv
        generalize (4294967296 : Int) ^ i = p at *
        omega
  | succ d ih =>
    intro i x c hd hl hx hc0 hc hv
    have g1 : (i : Int) < (N : Int) := by omega
    have g2 : (0 : Int) ≤ (i : Int) := by omega
    have g3 : i < x.length := by omega
    have g4 : (i : Int) < (x.length : Int) := by omega
    have g5 : d + (i + 1) = N := by omega
    have gw : ∀ _ : Unit, wrap64 ((i : Int) + 1) = ((i + 1 : Nat) : Int) := fun _ => by rw [w64 (by omega) (by omega)]; omega
    have hxi := hx.rd hB (i : Int)
    have hxg : rd x (i : Int) = x.getD i 0 := rd_getD x i
    generalize rd x (i : Int) = a at hxi hxg
    have key : ∀ y : Int, 0 ≤ y → y < 4294967296 → b.getD i 0 = y → ∃ r, Ev (fun k => nat_plus.l0 k b (x.set i ((c + a + y) % 4294967296)) ((c + a + y) / 4294967296) (N : Int) ((i + 1 : Nat) : Int)) (trim r) ∧ r.length = N ∧ Lim 4294967296 r ∧ val 4294967296 r = T := by
      intro y hy0 hy hyb
      refine ih (i + 1) _ _ g5 (by rw [List.length_set, hl]) (hx.set i ⟨by omega, by omega⟩) (by omega) (by omega) ?_
      rw [val_set _ _ _ _ g3, ← hxg, val_take_succ', hyb, Int.pow_succ]
      have e : (c + a + y) % 4294967296 = c + a + y - 4294967296 * ((c + a + y) / 4294967296) := by omega
      rw [e]
      generalize (c + a + y) / 4294967296 = q
      generalize (4294967296 : Int) ^ i = p at *
      grind
    by_cases hi : i < b.length
    · have hb1 := hb.rd hB (i : Int)
      have hbg : rd b (i : Int) = b.getD i 0 := rd_getD b i
      have g6 : (i : Int) < (b.length : Int) := by omega
      generalize rd b (i : Int) = y at hb1 hbg
      obtain ⟨r, hr, h⟩ := key y hb1.1 hb1.2 hbg.symm
      have e : IntKind.u64.wrap (IntKind.u64.wrap (c + IntKind.u64.wrap a) + IntKind.u64.wrap y) = c + a + y := by
        rw [u64_id hxi.1 (by omega), u64_id hb1.1 (by omega), u64_id (x := c + a) (by omega) (by omega), u64_id (by omega) (by omega)]
      refine ⟨r, Ev.step (f := fun k => nat_plus.l0 k b (x.set i ((c + a + y) % 4294967296)) ((c + a + y) / 4294967296) (N : Int) ((i + 1 : Nat) : Int)) (fun k => ?_) hr, h⟩
      simp only [nat_plus.l0]
      rw [if_pos g1, if_pos g2, if_pos g4, if_pos g6, rd_getD x i, rd_getD b i, ← hxg, ← hbg, e, gw (), Int.toNat_natCast]
    · have g6 : ¬ (i : Int) < (b.length : Int) := by omega
      obtain ⟨r, hr, h⟩ := key 0 (by omega) (by omega) (by rw [List.getD_eq_getElem?_getD, List.getElem?_eq_none (by omega)]; rfl)
      have e : IntKind.u64.wrap (c + IntKind.u64.wrap a) = c + a + 0 := by
        rw [u64_id hxi.1 (by omega), u64_id (x := c + a) (by omega) (by omega), Int.add_zero]
      refine ⟨r, Ev.step (f := fun k => nat_plus.l0 k b (x.set i ((c + a + 0) % 4294967296)) ((c + a + 0) / 4294967296) (N : Int) ((i + 1 : Nat) : Int)) (fun k => ?_) hr, h⟩
      simp only [nat_plus.l0]
      rw [if_pos g1, if_pos g2, if_pos g4, if_neg g6, rd_getD x i, ← hxg, e, gw (), Int.toNat_natCast]
theorem plus_half (a b : List Int) (ha : Lim 4294967296 a) (hb : Lim 4294967296 b) (hL : a.length ≤ 274877906944) (hab : b.length ≤ a.length) :
    ∃ r, Ev (fun k => if (0 : Int) ≤ wrap64 ((a.length : Int) + 1) then (if (wrap64 ((a.length : Int) + 1) : Int).toNat ≤ 70368744177664 then ((some (List.replicate (wrap64 ((a.length : Int) + 1) : Int).toNat 0 : List Int)).bind fun y => ((copy_e73.f y a).bind fun bt => nat_plus.l0 k b bt.2 0 (y.length : Int) 0)) else none) else none) r ∧ Lim 4294967296 r ∧ Nrm r ∧ val 4294967296 r = val 4294967296 a + val 4294967296 b ∧ r.length ≤ a.length + 1 := by
  have hB : (0 : Int) < 4294967296 := by decide
  have e1 : wrap64 ((a.length : Int) + 1) = ((a.length + 1 : Nat) : Int) := by rw [w64 (by omega) (by omega)]; omega
  have va := val_lt hB ha
  have vb := val_lt hB hb
  have pm := pow_mono' hB hab
  have e0 : a ++ (List.replicate (a.length + 1) (0 : Int)).drop a.length = a ++ [0] := by
    rw [List.drop_replicate, Nat.add_sub_cancel_left]; rfl
  obtain ⟨r, h1, h2, h3, h4⟩ := plus_loop b hb (a.length + 1) (by omega) (by omega) (val 4294967296 a + val 4294967296 b) (by
      rw [Int.pow_succ]
      have pp := pow_pos' hB a.length
      generalize (4294967296 : Int) ^ a.length = p at *
      omega) (a.length + 1) 0 (a ++ [0]) 0 (by omega) (by simp) (lim_nrm_snoc ha ⟨by decide, by decide⟩) (by decide) (by decide) (by rw [val_snoc]; simp [val])
  refine ⟨trim r, Ev.congr (fun k => ?_) h1, lim_trim h3, nrm_trim _, by rw [val_trim, h4], by rw [← h2]; exact length_trim r⟩
  rw [e1, if_pos (by omega), if_pos (by omega), Int.toNat_natCast, Option.bind_some]
  unfold copy_e73.f
  simp only [Option.bind_some, List.length_replicate]
  rw [List.take_of_length_le (by omega), e0]; rfl
theorem plus_ev (a b : List Int) (ha : Lim 4294967296 a) (hb : Lim 4294967296 b) (hL : a.length ≤ 274877906944) (hM : b.length ≤ 274877906944) :
    ∃ r, Ev (fun k => nat_plus.f k a b) r ∧ Lim 4294967296 r ∧ Nrm r ∧ val 4294967296 r = val 4294967296 a + val 4294967296 b ∧ r.length ≤ max a.length b.length + 1 := by
  by_cases c : a.length < b.length
  · obtain ⟨r, h1, h2, h3, h4, h5⟩ := plus_half b a hb ha hM (by omega)
    refine ⟨r, Ev.congr (fun k => ?_) h1, h2, h3, by rw [h4, Int.add_comm], by omega⟩
    unfold nat_plus.f
    rw [if_pos (by omega)]
  · obtain ⟨r, h1, h2, h3, h4, h5⟩ := plus_half a b ha hb hL (by omega)
    refine ⟨r, Ev.congr (fun k => ?_) h1, h2, h3, h4, by omega⟩
    unfold nat_plus.f
    rw [if_neg (by omega)]
    simp only [plus_same]
end Go.Proofs.YtemnjgkicndmjaaGreatDoor.Q
namespace Go.Proofs.YtemnjgkicndmjaaGreatDoor.Q
open Go.RowKit Go.Proofs.YtemnjgkicndmjaaGreatDoor.E Go.Proofs.YtemnjgkicndmjaaGreatDoorW.PrintWords Go.Proofs.YtemnjgkicndmjaaGreatDoorW.PrintLast Go.Proofs.YtemnjgkicndmjaaGreatDoorW.PrintMore
set_option linter.unusedVariables false
theorem clone_c (a : List Int) (h : a.length ≤ 1099511627776) {R : Type} (K : List Int → Option R) : slices_Clone_uint32_uint32.c R a K = K a :=
  slices_Clone_uint32_uint32.eq (by unfold slices_Clone_uint32_uint32.f; rw [if_pos (by omega)]) K
theorem isone_c (a : List Int) {R : Type} (K : Bool → Option R) : nat_IsOne.c R a K = K (decide (a = [1])) := nat_IsOne.eq (IsOne_eq a) K
theorem raw_c (neg : Bool) (a b : List Int) (ha : Lim 4294967296 a) (na : Nrm a) (hb : Lim 4294967296 b) (nb : Nrm b) (b0 : b ≠ []) (la : a.length ≤ 1048575) (lb : b.length ≤ 1048575) :
    ∃ p q, (∀ (R : Type) (K : (Bool × List Int × List Int) → Option R), number_raw.c R (neg, a, b) K = K (neg && decide (p ≠ []), p, q)) ∧ Lim 4294967296 p ∧ Nrm p ∧ Lim 4294967296 q ∧ Nrm q ∧
      val 4294967296 p = val 4294967296 a / (Nat.gcd (val 4294967296 a).toNat (val 4294967296 b).toNat : Nat) ∧ val 4294967296 q = val 4294967296 b / (Nat.gcd (val 4294967296 a).toNat (val 4294967296 b).toNat : Nat) := by
  have hB : (0 : Int) < 4294967296 := by decide
  have pb := val_pos hB hb nb b0
  have pa := val_nonneg hB ha
  by_cases h0 : a = []
  · subst h0
    refine ⟨[], [1], fun R K => ?_, lim_nil _, nrm_nil, one_lim (by decide), one_nrm, ?_, ?_⟩
    · unfold number_raw.c; simp
    · rw [show val 4294967296 [] = 0 from rfl, Int.zero_ediv]
    · have h2 : (val 4294967296 []).toNat = 0 := rfl
      rw [h2, Nat.gcd_zero_left, val_one, Int.toNat_of_nonneg (by omega), Int.ediv_self (by omega)]
  · have hl : ¬ ((a.length : Int) == 0) = true := by
      have : a.length ≠ 0 := fun h' => h0 (List.length_eq_zero_iff.1 h')
      simp; exact h0
    have hn : (neg && decide (a ≠ [])) = neg := by simp [h0]
    by_cases c : b = [1]
    · refine ⟨a, b, fun R K => ?_, ha, na, hb, nb, ?_, ?_⟩
      · rw [hn]
        unfold number_raw.c
        refine (if_neg hl).trans ((isone_c b _).trans ((if_neg (by simp [c])).trans ((clone_c a (by omega) _).trans (clone_c b (by omega) _))))
      · rw [c, val_one]
        have h2 : (1 : Int).toNat = 1 := rfl
        rw [h2, Nat.gcd_one_right]; simp
      · rw [c, val_one]
        have h2 : (1 : Int).toNat = 1 := rfl
        rw [h2, Nat.gcd_one_right]; simp
    · obtain ⟨g, g1, g2, g3, g4⟩ := Gcd_ev a b ha hb na nb (by omega) (by omega)
      by_cases c2 : g = [1]
      · subst c2
        rw [val_one] at g4
        refine ⟨a, b, fun R K => ?_, ha, na, hb, nb, by rw [← g4, Int.ediv_one], by rw [← g4, Int.ediv_one]⟩
        rw [hn]
        unfold number_raw.c
        refine (if_neg hl).trans ((isone_c b _).trans ((if_pos (by simp [c])).trans ((nat_Gcd.eq g1 _).trans ((isone_c _ _).trans ((if_neg (by simp)).trans ((clone_c a (by omega) _).trans (clone_c b (by omega) _)))))))
      · have hg0 : g ≠ [] := by
          rintro rfl
          have h2 : Nat.gcd (val 4294967296 a).toNat (val 4294967296 b).toNat ≠ 0 := by
            intro h3
            have := (Nat.gcd_eq_zero_iff.1 h3).2
            omega
          simp [val] at g4
          omega
        have hgl : g.length ≤ b.length := by
          rcases Nat.lt_or_ge b.length g.length with h | h
          · have h1 := len_lt_val hB hb g2 g3 h
            have h2 : Nat.gcd (val 4294967296 a).toNat (val 4294967296 b).toNat ≤ (val 4294967296 b).toNat := Nat.gcd_le_right _ (by omega)
            omega
          · exact h
        obtain ⟨p, r1, p1, p2, p3, p4, p5, p6, p7, p8⟩ := DivMod_ev a g ha g2 na g3 hg0 (by omega) (by omega)
        obtain ⟨q, r2, q1, q2, q3, q4, q5, q6, q7, q8⟩ := DivMod_ev b g hb g2 nb g3 hg0 (by omega) (by omega)
        have hp0 : p ≠ [] := by
          rintro rfl
          have h1 : 0 < val 4294967296 a := val_pos hB ha na h0
          have h2 : Nat.gcd (val 4294967296 a).toNat (val 4294967296 b).toNat ≤ (val 4294967296 a).toNat := Nat.gcd_le_left _ (by omega)
          have h3 : 0 < val 4294967296 g := val_pos hB g2 g3 hg0
          have h4 : val 4294967296 a / val 4294967296 g = 0 := by rw [← p6]; rfl
          have h5 : 1 ≤ val 4294967296 a / val 4294967296 g := Int.le_ediv_of_mul_le h3 (by rw [Int.one_mul]; omega)
          omega
        refine ⟨p, q, fun R K => ?_, p2, p3, q2, q3, by rw [p6, g4], by rw [q6, g4]⟩
        rw [show (neg && decide (p ≠ [])) = neg by simp [hp0]]
        unfold number_raw.c
        refine (if_neg hl).trans ((isone_c b _).trans ((if_pos (by simp [c])).trans ((nat_Gcd.eq g1 _).trans ((isone_c _ _).trans ((if_pos (by simp [c2])).trans ((nat_DivMod.eq p1 _).trans ((nat_DivMod.eq q1 _).trans ((clone_c p (by omega) _).trans (clone_c q (by omega) _)))))))))
theorem fits_c (neg : Bool) (p q : List Int) {R : Type} (K : ((Bool × List Int × List Int) × Int) → Option R) : number_fits.c R (neg, p, q) K = K (outM neg p q) := by
  unfold number_fits.c outM
  by_cases c1 : p.length > 128
  · rw [if_neg (by simp; omega), if_pos (Or.inl c1)]
  · by_cases c2 : q.length > 128
    · rw [if_pos (by simp; omega), if_pos (by simp; omega), if_pos (Or.inr c2)]
    · rw [if_pos (by simp; omega), if_neg (by simp; omega), if_neg (by omega)]
theorem made_c (neg : Bool) (a b : List Int) (ha : Lim 4294967296 a) (na : Nrm a) (hb : Lim 4294967296 b) (nb : Nrm b) (b0 : b ≠ []) (la : a.length ≤ 1048575) (lb : b.length ≤ 1048575) :
    ∃ neg' p q, (∀ (R : Type) (K : ((Bool × List Int × List Int) × Int) → Option R), number_made.c R (neg, a, b) K = K (outM neg' p q)) ∧ Rep neg' p q (sgn neg (val 4294967296 a)) (val 4294967296 b) := by
  obtain ⟨p, q, h1, p1, p2, q1, q2, p3, q3⟩ := raw_c neg a b ha na hb nb b0 la lb
  exact ⟨neg && decide (p ≠ []), p, q, fun R K => (h1 R _).trans (fits_c _ _ _ _), Rp.made (by decide) ha hb nb b0 p1 p2 q1 q2 rfl p3 q3⟩
theorem check_c (neg : Bool) (num den : List Int) (hn : Lim 4294967296 num) (hd : Lim 4294967296 den) {R : Type} (K : Int → Option R) : number_Check.c R (neg, num, den) K = K (fault neg num den) := number_Check.eq (Check_ev neg num den hn hd) K
theorem check2_c (na : Bool) (a da : List Int) (nb : Bool) (b db : List Int) (ha : Lim 4294967296 a) (hda : Lim 4294967296 da) (hb : Lim 4294967296 b) (hdb : Lim 4294967296 db) {R : Type} (K : Int → Option R) :
    number_check2.c R (na, a, da, nb, b, db) K = K (if fault na a da = 0 then fault nb b db else fault na a da) := by
  unfold number_check2.c
  refine (check_c na a da ha hda _).trans ?_
  by_cases h : fault na a da = 0
  · rw [if_pos h]
    refine (if_neg (by simp [h])).trans ((check_c nb b db hb hdb _).trans ?_)
    by_cases h2 : fault nb b db = 0
    · rw [h2]; rfl
    · exact if_pos (by simp [h2])
  · rw [if_neg h]
    exact if_pos (by simp [h])
theorem nadd_c (x y : List Int) (hx : Lim 4294967296 x) (hy : Lim 4294967296 y) (lx : x.length ≤ 300) (ly : y.length ≤ 300) :
    ∃ r, (∀ (R : Type) (K : List Int → Option R), (nat_plus.c R ([], x) fun t => nat_plus.c R (t, y) K) = K r) ∧ Lim 4294967296 r ∧ Nrm r ∧ val 4294967296 r = val 4294967296 x + val 4294967296 y ∧ r.length ≤ 302 := by
  obtain ⟨r, r1, r2, r3, r4, r5⟩ := plus_ev [] x (lim_nil _) hx (by decide) (nil_bound lx)
  obtain ⟨s, s1, s2, s3, s4, s5⟩ := plus_ev r y r2 hy (by simp only [List.length_nil] at r5; omega) (nil_bound ly)
  exact ⟨s, fun R K => (nat_plus.eq r1 _).trans (nat_plus.eq s1 _), s2, s3, by rw [s4, r4]; simp [val], by simp only [List.length_nil] at r5; omega⟩
def bad (e : Int) : (Bool × List Int × List Int) × Int := ((false, [], []), e)
noncomputable def wrong2 (na : Bool) (a da : List Int) (nb : Bool) (b db : List Int) : Int := if fault na a da = 0 then (if fault nb b db = 0 then (if da = [1] then (if db = [1] then 0 else 7) else 7) else fault nb b db) else fault na a da
theorem int2_c (na : Bool) (a da : List Int) (nb : Bool) (b db : List Int) (ha : Lim 4294967296 a) (hda : Lim 4294967296 da) (hb : Lim 4294967296 b) (hdb : Lim 4294967296 db) {R : Type} (K : Int → Option R) :
    number_integers2.c R (na, a, da, nb, b, db) K = K (wrong2 na a da nb b db) := by
  unfold number_integers2.c wrong2
  refine (check2_c na a da nb b db ha hda hb hdb _).trans ?_
  by_cases h : fault na a da = 0
  · rw [if_pos h, if_pos h]
    by_cases h2 : fault nb b db = 0
    · rw [if_pos h2, h2]
      refine (if_neg (by decide)).trans ?_
      refine (isone_c da _).trans ?_
      by_cases c : da = [1]
      · rw [if_pos c]
        refine (if_neg (by simp [c])).trans ?_
        refine (isone_c db _).trans ?_
        by_cases d : db = [1]
        · rw [if_pos d]
          exact if_neg (by simp [d])
        · rw [if_neg d]
          exact if_pos (by simp [d])
      · rw [if_neg c]
        exact if_pos (by simp [c])
    · rw [if_neg h2]
      exact if_pos (by simp [h2])
  · rw [if_neg h, if_neg h]
    exact if_pos (by simp [h])
theorem wrong2_ok {na : Bool} {a da : List Int} {nb : Bool} {b db : List Int} (h : wrong2 na a da nb b db = 0) : Can na a da ∧ Can nb b db ∧ da = [1] ∧ db = [1] := by
  unfold wrong2 at h
  by_cases h1 : fault na a da = 0
  · rw [if_pos h1] at h
    by_cases h2 : fault nb b db = 0
    · rw [if_pos h2] at h
      by_cases c : da = [1]
      · rw [if_pos c] at h
        by_cases d : db = [1]
        · exact ⟨can_of_fault' h1, can_of_fault' h2, c, d⟩
        · rw [if_neg d] at h; omega
      · rw [if_neg c] at h; omega
    · rw [if_neg h2] at h; exact absurd h h2
  · rw [if_neg h1] at h; exact absurd h h1
theorem wrong2_can {na : Bool} {a : List Int} {nb : Bool} {b : List Int} (ca : Can na a [1]) (cb : Can nb b [1]) : wrong2 na a [1] nb b [1] = 0 := by
  unfold wrong2
  rw [if_pos (fault_can ca), if_pos (fault_can cb), if_pos rfl, if_pos rfl]
theorem one_rep : Lim 4294967296 [1] ∧ Nrm [1] ∧ val 4294967296 [1] = 1 := ⟨one_lim (by decide), one_nrm, val_one _⟩
theorem whole_c (neg : Bool) (n : List Int) (hn : Lim 4294967296 n) (nn : Nrm n) (ln : n.length ≤ 1048575) :
    ∃ neg' p q, (∀ (R : Type) (K : ((Bool × List Int × List Int) × Int) → Option R), number_whole.c R (neg, n) K = K (outM neg' p q)) ∧ Rep neg' p q (sgn neg (val 4294967296 n)) 1 := by
  obtain ⟨neg', p, q, h1, h2⟩ := made_c neg n [1] hn nn one_rep.1 one_rep.2.1 (by decide) ln (by decide)
  rw [one_rep.2.2] at h2
  exact ⟨neg', p, q, fun R K => h1 R _, h2⟩
noncomputable def rf_Floor.c (R : Type) (a : Nm) (K : (Nm) → Option R) : Option R :=
  (rf_DivNat.c _ (a.2.1, a.2.2) fun t1 => (if a.1 = true then (if (decide ((t1.2.length : Int) > (0 : Int))) = true then (rf_AddNat.c _ (t1.1, ([(1 : Int)] : List Int)) fun t2 => (if a.1 = true then K ((decide ((t2.length : Int) > (0 : Int))), t2, ([(1 : Int)] : List Int)) else K (false, t2, ([(1 : Int)] : List Int)))) else (if a.1 = true then K ((decide ((t1.1.length : Int) > (0 : Int))), t1.1, ([(1 : Int)] : List Int)) else K (false, t1.1, ([(1 : Int)] : List Int)))) else (if a.1 = true then K ((decide ((t1.1.length : Int) > (0 : Int))), t1.1, ([(1 : Int)] : List Int)) else K (false, t1.1, ([(1 : Int)] : List Int)))))
noncomputable def rf_Floor.T38 (g44 : CF (List Int × List Int) ((List Int × List Int))) (g73 : CF (List Int × List Int) (List Int)) : List (Nat × Fun) := []
theorem rf_Floor.tok38 : TOk Tryz.prog (tb (rf_Floor.T38 rf_DivNat.c rf_AddNat.c)) := tb_nil
noncomputable def rf_Floor.T (g44 : CF (List Int × List Int) ((List Int × List Int))) (g73 : CF (List Int × List Int) (List Int)) : List (Nat × Fun) := [(38, execFn' Tryz.prog (tb (rf_Floor.T38 g44 g73)) 60 Tryz.f38), (44, mk (more rI (one rI)) (tup (more rI (one rI))) g44), (73, mk (more rI (one rI)) rI g73)]
theorem rf_Floor.tok : TOk Tryz.prog (tb (rf_Floor.T rf_DivNat.c rf_AddNat.c)) := (tb_cons (execFn'_ok rf_Floor.tok38 mixed Tryz.func38 (by kernel_rfl)) (tb_cons rf_DivNat.ok (tb_cons rf_AddNat.ok tb_nil)))
set_option maxRecDepth 100000 in
theorem rf_Floor.ex0 (g44 : CF (List Int × List Int) ((List Int × List Int))) (g73 : CF (List Int × List Int) (List Int)) (R : Type) (a : Nm) (K : (Nm) → Option R) : execFn' Tryz.prog (tb (rf_Floor.T g44 g73)) 60 Tryz.f43 R ((one kQ).enc a) (dk kQ K) = (g44 _ (a.2.1, a.2.2) fun t1 => (if a.1 = true then (if (decide ((t1.2.length : Int) > (0 : Int))) = true then (g73 _ (t1.1, ([(1 : Int)] : List Int)) fun t2 => (if a.1 = true then K ((decide ((t2.length : Int) > (0 : Int))), t2, ([(1 : Int)] : List Int)) else K (false, t2, ([(1 : Int)] : List Int)))) else (if a.1 = true then K ((decide ((t1.1.length : Int) > (0 : Int))), t1.1, ([(1 : Int)] : List Int)) else K (false, t1.1, ([(1 : Int)] : List Int)))) else (if a.1 = true then K ((decide ((t1.1.length : Int) > (0 : Int))), t1.1, ([(1 : Int)] : List Int)) else K (false, t1.1, ([(1 : Int)] : List Int))))) := by kernel_rfl
theorem rf_Floor.sh : Shown Tryz.prog 43 (one kQ).enc kQ rf_Floor.c := exec_shown rf_Floor.tok mixed Tryz.func43 (by kernel_rfl) (rf_Floor.ex0 rf_DivNat.c rf_AddNat.c)
theorem rf_Floor.ok : FunOk Tryz.prog 43 (mk (one kQ) kQ rf_Floor.c) := rf_Floor.sh.ok (by kernel_rfl)
noncomputable def rf_Two103.c (R : Type) (a : Nm × Nm) (K : ((Nm × Int)) → Option R) : Option R :=
  (rf_Fault.c _ (a.1.1, a.1.2.1, a.1.2.2) fun t1 => (if (t1 != (0 : Int)) = true then K ((false, ([] : List Int), ([] : List Int)), t1) else (rf_Fault.c _ (a.2.1, a.2.2.1, a.2.2.2) fun t2 => (if (t2 != (0 : Int)) = true then K ((false, ([] : List Int), ([] : List Int)), t2) else (rf_Of.c _ (a.1.1, a.1.2.1, a.1.2.2) fun t3 => (rf_Of.c _ (a.2.1, a.2.2.1, a.2.2.2) fun t4 => (rf_IsInt.c _ (t3.1, t3.2.1, t3.2.2) fun t5 => (if (!t5) = false then (rf_IsInt.c _ (t4.1, t4.2.1, t4.2.2) fun t6 => (if (!t6) = false then (rf_GcdNat.c _ (t3.2.1, t4.2.1) fun t7 => (rf_Made.c _ (false, t7, ([(1 : Int)] : List Int)) fun t8 => K ((t8.1.1, t8.1.2.1, t8.1.2.2), t8.2))) else K ((false, ([] : List Int), ([] : List Int)), (7 : Int)))) else K ((false, ([] : List Int), ([] : List Int)), (7 : Int))))))))))
noncomputable def rf_Two103.T38 (g20 : CF (Nm) (Int)) (g22 : CF (Nm) (Nm)) (g21 : CF (Nm) (Bool)) (g39 : CF (List Int × List Int) (List Int)) (g33 : CF (Nm) ((Nm × Int))) : List (Nat × Fun) := []
theorem rf_Two103.tok38 : TOk Tryz.prog (tb (rf_Two103.T38 rf_Fault.c rf_Of.c rf_IsInt.c rf_GcdNat.c rf_Made.c)) := tb_nil
noncomputable def rf_Two103.T (g20 : CF (Nm) (Int)) (g22 : CF (Nm) (Nm)) (g21 : CF (Nm) (Bool)) (g39 : CF (List Int × List Int) (List Int)) (g33 : CF (Nm) ((Nm × Int))) : List (Nat × Fun) := [(20, mk (one kN) iI g20), (21, mk (one kQ) cb g21), (22, mk (one kN) kQ g22), (32, mk (more cs (one (ci .u8))) iI strings_IndexByte.c), (33, mk (one kQ) kE g33), (38, execFn' Tryz.prog (tb (rf_Two103.T38 g20 g22 g21 g39 g33)) 60 Tryz.f38), (39, mk (more rI (one rI)) rI g39)]
theorem rf_Two103.tok : TOk Tryz.prog (tb (rf_Two103.T rf_Fault.c rf_Of.c rf_IsInt.c rf_GcdNat.c rf_Made.c)) := (tb_cons rf_Fault.ok (tb_cons rf_IsInt.ok (tb_cons rf_Of.ok (tb_cons strings_IndexByte.ok (tb_cons rf_Made.ok (tb_cons (execFn'_ok rf_Two103.tok38 mixed Tryz.func38 (by kernel_rfl)) (tb_cons rf_GcdNat.ok tb_nil)))))))
set_option maxRecDepth 100000 in
theorem rf_Two103.ex0 (g20 : CF (Nm) (Int)) (g22 : CF (Nm) (Nm)) (g21 : CF (Nm) (Bool)) (g39 : CF (List Int × List Int) (List Int)) (g33 : CF (Nm) ((Nm × Int))) (R : Type) (a : Nm × Nm) (K : ((Nm × Int)) → Option R) : execFn' Tryz.prog (tb (rf_Two103.T g20 g22 g21 g39 g33)) 60 Tryz.f9 R [.int .u8 (103 : Int), .agg [.bool a.1.1, .row .u32 a.1.2.1, .row .u32 a.1.2.2], .agg [.bool a.2.1, .row .u32 a.2.2.1, .row .u32 a.2.2.2]] (dk kE K) = (g20 _ (a.1.1, a.1.2.1, a.1.2.2) fun t1 => (if (t1 != (0 : Int)) = true then K ((false, ([] : List Int), ([] : List Int)), t1) else (g20 _ (a.2.1, a.2.2.1, a.2.2.2) fun t2 => (if (t2 != (0 : Int)) = true then K ((false, ([] : List Int), ([] : List Int)), t2) else (g22 _ (a.1.1, a.1.2.1, a.1.2.2) fun t3 => (g22 _ (a.2.1, a.2.2.1, a.2.2.2) fun t4 => (g21 _ (t3.1, t3.2.1, t3.2.2) fun t5 => (if (!t5) = false then (g21 _ (t4.1, t4.2.1, t4.2.2) fun t6 => (if (!t6) = false then (g39 _ (t3.2.1, t4.2.1) fun t7 => (g33 _ (false, t7, ([(1 : Int)] : List Int)) fun t8 => K ((t8.1.1, t8.1.2.1, t8.1.2.2), t8.2))) else K ((false, ([] : List Int), ([] : List Int)), (7 : Int)))) else K ((false, ([] : List Int), ([] : List Int)), (7 : Int)))))))))) := by kernel_rfl
theorem rf_Two103.sh : Shown Tryz.prog 9 (fun (a : Nm × Nm) => [.int .u8 (103 : Int), .agg [.bool a.1.1, .row .u32 a.1.2.1, .row .u32 a.1.2.2], .agg [.bool a.2.1, .row .u32 a.2.2.1, .row .u32 a.2.2.2]]) kE rf_Two103.c := exec_shown rf_Two103.tok mixed Tryz.func9 (by kernel_rfl) (rf_Two103.ex0 rf_Fault.c rf_Of.c rf_IsInt.c rf_GcdNat.c rf_Made.c)
noncomputable def rf_Two113.c (R : Type) (a : Nm × Nm) (K : ((Nm × Int)) → Option R) : Option R :=
  (rf_Fault.c _ (a.1.1, a.1.2.1, a.1.2.2) fun t1 => (if (t1 != (0 : Int)) = true then K ((false, ([] : List Int), ([] : List Int)), t1) else (rf_Fault.c _ (a.2.1, a.2.2.1, a.2.2.2) fun t2 => (if (t2 != (0 : Int)) = true then K ((false, ([] : List Int), ([] : List Int)), t2) else (rf_Of.c _ (a.1.1, a.1.2.1, a.1.2.2) fun t3 => (rf_Of.c _ (a.2.1, a.2.2.1, a.2.2.2) fun t4 => (rf_IsInt.c _ (t3.1, t3.2.1, t3.2.2) fun t5 => (if (!t5) = false then (rf_IsInt.c _ (t4.1, t4.2.1, t4.2.2) fun t6 => (if (!t6) = false then (if ((t4.2.1.length : Int) == (0 : Int)) = false then (rf_Inverse.c _ (t4.1, t4.2.1, t4.2.2) fun t7 => (rf_Product.c _ ((t3.1, t3.2.1, t3.2.2), (t7.1, t7.2.1, t7.2.2)) fun t8 => (rf_Floor.c _ (t8.1, t8.2.1, t8.2.2) fun t9 => (rf_Made.c _ (t9.1, t9.2.1, t9.2.2) fun t10 => K ((t10.1.1, t10.1.2.1, t10.1.2.2), t10.2))))) else K ((false, ([] : List Int), ([] : List Int)), (10 : Int))) else K ((false, ([] : List Int), ([] : List Int)), (7 : Int)))) else K ((false, ([] : List Int), ([] : List Int)), (7 : Int))))))))))
noncomputable def rf_Two113.T (g20 : CF (Nm) (Int)) (g22 : CF (Nm) (Nm)) (g21 : CF (Nm) (Bool)) (g37 : CF (Nm) (Nm)) (g36 : CF (Nm × Nm) (Nm)) (g43 : CF (Nm) (Nm)) (g33 : CF (Nm) ((Nm × Int))) : List (Nat × Fun) := [(20, mk (one kN) iI g20), (21, mk (one kQ) cb g21), (22, mk (one kN) kQ g22), (32, mk (more cs (one (ci .u8))) iI strings_IndexByte.c), (33, mk (one kQ) kE g33), (36, mk (more kQ (one kQ)) kQ g36), (37, mk (one kQ) kQ g37), (43, mk (one kQ) kQ g43)]
theorem rf_Two113.tok : TOk Tryz.prog (tb (rf_Two113.T rf_Fault.c rf_Of.c rf_IsInt.c rf_Inverse.c rf_Product.c rf_Floor.c rf_Made.c)) := (tb_cons rf_Fault.ok (tb_cons rf_IsInt.ok (tb_cons rf_Of.ok (tb_cons strings_IndexByte.ok (tb_cons rf_Made.ok (tb_cons rf_Product.ok (tb_cons rf_Inverse.ok (tb_cons rf_Floor.ok tb_nil))))))))
set_option maxRecDepth 100000 in
theorem rf_Two113.ex0 (g20 : CF (Nm) (Int)) (g22 : CF (Nm) (Nm)) (g21 : CF (Nm) (Bool)) (g37 : CF (Nm) (Nm)) (g36 : CF (Nm × Nm) (Nm)) (g43 : CF (Nm) (Nm)) (g33 : CF (Nm) ((Nm × Int))) (R : Type) (a : Nm × Nm) (K : ((Nm × Int)) → Option R) : execFn' Tryz.prog (tb (rf_Two113.T g20 g22 g21 g37 g36 g43 g33)) 60 Tryz.f9 R [.int .u8 (113 : Int), .agg [.bool a.1.1, .row .u32 a.1.2.1, .row .u32 a.1.2.2], .agg [.bool a.2.1, .row .u32 a.2.2.1, .row .u32 a.2.2.2]] (dk kE K) = (g20 _ (a.1.1, a.1.2.1, a.1.2.2) fun t1 => (if (t1 != (0 : Int)) = true then K ((false, ([] : List Int), ([] : List Int)), t1) else (g20 _ (a.2.1, a.2.2.1, a.2.2.2) fun t2 => (if (t2 != (0 : Int)) = true then K ((false, ([] : List Int), ([] : List Int)), t2) else (g22 _ (a.1.1, a.1.2.1, a.1.2.2) fun t3 => (g22 _ (a.2.1, a.2.2.1, a.2.2.2) fun t4 => (g21 _ (t3.1, t3.2.1, t3.2.2) fun t5 => (if (!t5) = false then (g21 _ (t4.1, t4.2.1, t4.2.2) fun t6 => (if (!t6) = false then (if ((t4.2.1.length : Int) == (0 : Int)) = false then (g37 _ (t4.1, t4.2.1, t4.2.2) fun t7 => (g36 _ ((t3.1, t3.2.1, t3.2.2), (t7.1, t7.2.1, t7.2.2)) fun t8 => (g43 _ (t8.1, t8.2.1, t8.2.2) fun t9 => (g33 _ (t9.1, t9.2.1, t9.2.2) fun t10 => K ((t10.1.1, t10.1.2.1, t10.1.2.2), t10.2))))) else K ((false, ([] : List Int), ([] : List Int)), (10 : Int))) else K ((false, ([] : List Int), ([] : List Int)), (7 : Int)))) else K ((false, ([] : List Int), ([] : List Int)), (7 : Int)))))))))) := by kernel_rfl
theorem rf_Two113.sh : Shown Tryz.prog 9 (fun (a : Nm × Nm) => [.int .u8 (113 : Int), .agg [.bool a.1.1, .row .u32 a.1.2.1, .row .u32 a.1.2.2], .agg [.bool a.2.1, .row .u32 a.2.2.1, .row .u32 a.2.2.2]]) kE rf_Two113.c := exec_shown rf_Two113.tok mixed Tryz.func9 (by kernel_rfl) (rf_Two113.ex0 rf_Fault.c rf_Of.c rf_IsInt.c rf_Inverse.c rf_Product.c rf_Floor.c rf_Made.c)
noncomputable def rf_Two114.c (R : Type) (a : Nm × Nm) (K : ((Nm × Int)) → Option R) : Option R :=
  (rf_Fault.c _ (a.1.1, a.1.2.1, a.1.2.2) fun t1 => (if (t1 != (0 : Int)) = true then K ((false, ([] : List Int), ([] : List Int)), t1) else (rf_Fault.c _ (a.2.1, a.2.2.1, a.2.2.2) fun t2 => (if (t2 != (0 : Int)) = true then K ((false, ([] : List Int), ([] : List Int)), t2) else (rf_Of.c _ (a.1.1, a.1.2.1, a.1.2.2) fun t3 => (rf_Of.c _ (a.2.1, a.2.2.1, a.2.2.2) fun t4 => (rf_IsInt.c _ (t3.1, t3.2.1, t3.2.2) fun t5 => (if (!t5) = false then (rf_IsInt.c _ (t4.1, t4.2.1, t4.2.2) fun t6 => (if (!t6) = false then (if ((t4.2.1.length : Int) == (0 : Int)) = false then (rf_Inverse.c _ (t4.1, t4.2.1, t4.2.2) fun t7 => (rf_Product.c _ ((t3.1, t3.2.1, t3.2.2), (t7.1, t7.2.1, t7.2.2)) fun t8 => (rf_Floor.c _ (t8.1, t8.2.1, t8.2.2) fun t9 => (rf_Product.c _ ((t9.1, t9.2.1, t9.2.2), (t4.1, t4.2.1, t4.2.2)) fun t10 => (rf_Minus.c _ (t10.1, t10.2.1, t10.2.2) fun t11 => (rf_Plus.c _ ((t3.1, t3.2.1, t3.2.2), (t11.1, t11.2.1, t11.2.2)) fun t12 => (rf_Made.c _ (t12.1, t12.2.1, t12.2.2) fun t13 => K ((t13.1.1, t13.1.2.1, t13.1.2.2), t13.2)))))))) else K ((false, ([] : List Int), ([] : List Int)), (10 : Int))) else K ((false, ([] : List Int), ([] : List Int)), (7 : Int)))) else K ((false, ([] : List Int), ([] : List Int)), (7 : Int))))))))))
noncomputable def rf_Two114.T (g20 : CF (Nm) (Int)) (g22 : CF (Nm) (Nm)) (g21 : CF (Nm) (Bool)) (g37 : CF (Nm) (Nm)) (g36 : CF (Nm × Nm) (Nm)) (g43 : CF (Nm) (Nm)) (g35 : CF (Nm) (Nm)) (g34 : CF (Nm × Nm) (Nm)) (g33 : CF (Nm) ((Nm × Int))) : List (Nat × Fun) := [(20, mk (one kN) iI g20), (21, mk (one kQ) cb g21), (22, mk (one kN) kQ g22), (32, mk (more cs (one (ci .u8))) iI strings_IndexByte.c), (33, mk (one kQ) kE g33), (34, mk (more kQ (one kQ)) kQ g34), (35, mk (one kQ) kQ g35), (36, mk (more kQ (one kQ)) kQ g36), (37, mk (one kQ) kQ g37), (43, mk (one kQ) kQ g43)]
theorem rf_Two114.tok : TOk Tryz.prog (tb (rf_Two114.T rf_Fault.c rf_Of.c rf_IsInt.c rf_Inverse.c rf_Product.c rf_Floor.c rf_Minus.c rf_Plus.c rf_Made.c)) := (tb_cons rf_Fault.ok (tb_cons rf_IsInt.ok (tb_cons rf_Of.ok (tb_cons strings_IndexByte.ok (tb_cons rf_Made.ok (tb_cons rf_Plus.ok (tb_cons rf_Minus.ok (tb_cons rf_Product.ok (tb_cons rf_Inverse.ok (tb_cons rf_Floor.ok tb_nil))))))))))
set_option maxRecDepth 100000 in
theorem rf_Two114.ex0 (g20 : CF (Nm) (Int)) (g22 : CF (Nm) (Nm)) (g21 : CF (Nm) (Bool)) (g37 : CF (Nm) (Nm)) (g36 : CF (Nm × Nm) (Nm)) (g43 : CF (Nm) (Nm)) (g35 : CF (Nm) (Nm)) (g34 : CF (Nm × Nm) (Nm)) (g33 : CF (Nm) ((Nm × Int))) (R : Type) (a : Nm × Nm) (K : ((Nm × Int)) → Option R) : execFn' Tryz.prog (tb (rf_Two114.T g20 g22 g21 g37 g36 g43 g35 g34 g33)) 60 Tryz.f9 R [.int .u8 (114 : Int), .agg [.bool a.1.1, .row .u32 a.1.2.1, .row .u32 a.1.2.2], .agg [.bool a.2.1, .row .u32 a.2.2.1, .row .u32 a.2.2.2]] (dk kE K) = (g20 _ (a.1.1, a.1.2.1, a.1.2.2) fun t1 => (if (t1 != (0 : Int)) = true then K ((false, ([] : List Int), ([] : List Int)), t1) else (g20 _ (a.2.1, a.2.2.1, a.2.2.2) fun t2 => (if (t2 != (0 : Int)) = true then K ((false, ([] : List Int), ([] : List Int)), t2) else (g22 _ (a.1.1, a.1.2.1, a.1.2.2) fun t3 => (g22 _ (a.2.1, a.2.2.1, a.2.2.2) fun t4 => (g21 _ (t3.1, t3.2.1, t3.2.2) fun t5 => (if (!t5) = false then (g21 _ (t4.1, t4.2.1, t4.2.2) fun t6 => (if (!t6) = false then (if ((t4.2.1.length : Int) == (0 : Int)) = false then (g37 _ (t4.1, t4.2.1, t4.2.2) fun t7 => (g36 _ ((t3.1, t3.2.1, t3.2.2), (t7.1, t7.2.1, t7.2.2)) fun t8 => (g43 _ (t8.1, t8.2.1, t8.2.2) fun t9 => (g36 _ ((t9.1, t9.2.1, t9.2.2), (t4.1, t4.2.1, t4.2.2)) fun t10 => (g35 _ (t10.1, t10.2.1, t10.2.2) fun t11 => (g34 _ ((t3.1, t3.2.1, t3.2.2), (t11.1, t11.2.1, t11.2.2)) fun t12 => (g33 _ (t12.1, t12.2.1, t12.2.2) fun t13 => K ((t13.1.1, t13.1.2.1, t13.1.2.2), t13.2)))))))) else K ((false, ([] : List Int), ([] : List Int)), (10 : Int))) else K ((false, ([] : List Int), ([] : List Int)), (7 : Int)))) else K ((false, ([] : List Int), ([] : List Int)), (7 : Int)))))))))) := by kernel_rfl
theorem rf_Two114.sh : Shown Tryz.prog 9 (fun (a : Nm × Nm) => [.int .u8 (114 : Int), .agg [.bool a.1.1, .row .u32 a.1.2.1, .row .u32 a.1.2.2], .agg [.bool a.2.1, .row .u32 a.2.2.1, .row .u32 a.2.2.2]]) kE rf_Two114.c := exec_shown rf_Two114.tok mixed Tryz.func9 (by kernel_rfl) (rf_Two114.ex0 rf_Fault.c rf_Of.c rf_IsInt.c rf_Inverse.c rf_Product.c rf_Floor.c rf_Minus.c rf_Plus.c rf_Made.c)
noncomputable def rf_Two81.c (R : Type) (a : Nm × Nm) (K : ((Nm × Int)) → Option R) : Option R :=
  (rf_Fault.c _ (a.1.1, a.1.2.1, a.1.2.2) fun t1 => (if (t1 != (0 : Int)) = true then K ((false, ([] : List Int), ([] : List Int)), t1) else (rf_Fault.c _ (a.2.1, a.2.2.1, a.2.2.2) fun t2 => (if (t2 != (0 : Int)) = true then K ((false, ([] : List Int), ([] : List Int)), t2) else (rf_Of.c _ (a.1.1, a.1.2.1, a.1.2.2) fun t3 => (rf_Of.c _ (a.2.1, a.2.2.1, a.2.2.2) fun t4 => (rf_IsInt.c _ (t3.1, t3.2.1, t3.2.2) fun t5 => (if (!t5) = false then (rf_IsInt.c _ (t4.1, t4.2.1, t4.2.2) fun t6 => (if (!t6) = false then (if ((t4.2.1.length : Int) == (0 : Int)) = false then (rf_Inverse.c _ (t4.1, t4.2.1, t4.2.2) fun t7 => (rf_Product.c _ ((t3.1, t3.2.1, t3.2.2), (t7.1, t7.2.1, t7.2.2)) fun t8 => (rf_Floor.c _ (t8.1, t8.2.1, t8.2.2) fun t9 => (rf_DivNat.c _ (t3.2.1, t4.2.1) fun t10 => (if (!(t3.1 == t4.1)) = true then (rf_Made.c _ ((decide ((t10.1.length : Int) > (0 : Int))), t10.1, ([(1 : Int)] : List Int)) fun t11 => K ((t11.1.1, t11.1.2.1, t11.1.2.2), t11.2)) else (rf_Made.c _ (false, t10.1, ([(1 : Int)] : List Int)) fun t12 => K ((t12.1.1, t12.1.2.1, t12.1.2.2), t12.2))))))) else K ((false, ([] : List Int), ([] : List Int)), (10 : Int))) else K ((false, ([] : List Int), ([] : List Int)), (7 : Int)))) else K ((false, ([] : List Int), ([] : List Int)), (7 : Int))))))))))
noncomputable def rf_Two81.T38 (g20 : CF (Nm) (Int)) (g22 : CF (Nm) (Nm)) (g21 : CF (Nm) (Bool)) (g37 : CF (Nm) (Nm)) (g36 : CF (Nm × Nm) (Nm)) (g43 : CF (Nm) (Nm)) (g44 : CF (List Int × List Int) ((List Int × List Int))) (g33 : CF (Nm) ((Nm × Int))) : List (Nat × Fun) := []
theorem rf_Two81.tok38 : TOk Tryz.prog (tb (rf_Two81.T38 rf_Fault.c rf_Of.c rf_IsInt.c rf_Inverse.c rf_Product.c rf_Floor.c rf_DivNat.c rf_Made.c)) := tb_nil
noncomputable def rf_Two81.T (g20 : CF (Nm) (Int)) (g22 : CF (Nm) (Nm)) (g21 : CF (Nm) (Bool)) (g37 : CF (Nm) (Nm)) (g36 : CF (Nm × Nm) (Nm)) (g43 : CF (Nm) (Nm)) (g44 : CF (List Int × List Int) ((List Int × List Int))) (g33 : CF (Nm) ((Nm × Int))) : List (Nat × Fun) := [(20, mk (one kN) iI g20), (21, mk (one kQ) cb g21), (22, mk (one kN) kQ g22), (32, mk (more cs (one (ci .u8))) iI strings_IndexByte.c), (33, mk (one kQ) kE g33), (36, mk (more kQ (one kQ)) kQ g36), (37, mk (one kQ) kQ g37), (38, execFn' Tryz.prog (tb (rf_Two81.T38 g20 g22 g21 g37 g36 g43 g44 g33)) 60 Tryz.f38), (43, mk (one kQ) kQ g43), (44, mk (more rI (one rI)) (tup (more rI (one rI))) g44)]
theorem rf_Two81.tok : TOk Tryz.prog (tb (rf_Two81.T rf_Fault.c rf_Of.c rf_IsInt.c rf_Inverse.c rf_Product.c rf_Floor.c rf_DivNat.c rf_Made.c)) := (tb_cons rf_Fault.ok (tb_cons rf_IsInt.ok (tb_cons rf_Of.ok (tb_cons strings_IndexByte.ok (tb_cons rf_Made.ok (tb_cons rf_Product.ok (tb_cons rf_Inverse.ok (tb_cons (execFn'_ok rf_Two81.tok38 mixed Tryz.func38 (by kernel_rfl)) (tb_cons rf_Floor.ok (tb_cons rf_DivNat.ok tb_nil))))))))))
set_option maxRecDepth 100000 in
theorem rf_Two81.ex0 (g20 : CF (Nm) (Int)) (g22 : CF (Nm) (Nm)) (g21 : CF (Nm) (Bool)) (g37 : CF (Nm) (Nm)) (g36 : CF (Nm × Nm) (Nm)) (g43 : CF (Nm) (Nm)) (g44 : CF (List Int × List Int) ((List Int × List Int))) (g33 : CF (Nm) ((Nm × Int))) (R : Type) (a : Nm × Nm) (K : ((Nm × Int)) → Option R) : execFn' Tryz.prog (tb (rf_Two81.T g20 g22 g21 g37 g36 g43 g44 g33)) 60 Tryz.f9 R [.int .u8 (81 : Int), .agg [.bool a.1.1, .row .u32 a.1.2.1, .row .u32 a.1.2.2], .agg [.bool a.2.1, .row .u32 a.2.2.1, .row .u32 a.2.2.2]] (dk kE K) = (g20 _ (a.1.1, a.1.2.1, a.1.2.2) fun t1 => (if (t1 != (0 : Int)) = true then K ((false, ([] : List Int), ([] : List Int)), t1) else (g20 _ (a.2.1, a.2.2.1, a.2.2.2) fun t2 => (if (t2 != (0 : Int)) = true then K ((false, ([] : List Int), ([] : List Int)), t2) else (g22 _ (a.1.1, a.1.2.1, a.1.2.2) fun t3 => (g22 _ (a.2.1, a.2.2.1, a.2.2.2) fun t4 => (g21 _ (t3.1, t3.2.1, t3.2.2) fun t5 => (if (!t5) = false then (g21 _ (t4.1, t4.2.1, t4.2.2) fun t6 => (if (!t6) = false then (if ((t4.2.1.length : Int) == (0 : Int)) = false then (g37 _ (t4.1, t4.2.1, t4.2.2) fun t7 => (g36 _ ((t3.1, t3.2.1, t3.2.2), (t7.1, t7.2.1, t7.2.2)) fun t8 => (g43 _ (t8.1, t8.2.1, t8.2.2) fun t9 => (g44 _ (t3.2.1, t4.2.1) fun t10 => (if (!(t3.1 == t4.1)) = true then (g33 _ ((decide ((t10.1.length : Int) > (0 : Int))), t10.1, ([(1 : Int)] : List Int)) fun t11 => K ((t11.1.1, t11.1.2.1, t11.1.2.2), t11.2)) else (g33 _ (false, t10.1, ([(1 : Int)] : List Int)) fun t12 => K ((t12.1.1, t12.1.2.1, t12.1.2.2), t12.2))))))) else K ((false, ([] : List Int), ([] : List Int)), (10 : Int))) else K ((false, ([] : List Int), ([] : List Int)), (7 : Int)))) else K ((false, ([] : List Int), ([] : List Int)), (7 : Int)))))))))) := by kernel_rfl
theorem rf_Two81.sh : Shown Tryz.prog 9 (fun (a : Nm × Nm) => [.int .u8 (81 : Int), .agg [.bool a.1.1, .row .u32 a.1.2.1, .row .u32 a.1.2.2], .agg [.bool a.2.1, .row .u32 a.2.2.1, .row .u32 a.2.2.2]]) kE rf_Two81.c := exec_shown rf_Two81.tok mixed Tryz.func9 (by kernel_rfl) (rf_Two81.ex0 rf_Fault.c rf_Of.c rf_IsInt.c rf_Inverse.c rf_Product.c rf_Floor.c rf_DivNat.c rf_Made.c)
noncomputable def rf_Two82.c (R : Type) (a : Nm × Nm) (K : ((Nm × Int)) → Option R) : Option R :=
  (rf_Fault.c _ (a.1.1, a.1.2.1, a.1.2.2) fun t1 => (if (t1 != (0 : Int)) = true then K ((false, ([] : List Int), ([] : List Int)), t1) else (rf_Fault.c _ (a.2.1, a.2.2.1, a.2.2.2) fun t2 => (if (t2 != (0 : Int)) = true then K ((false, ([] : List Int), ([] : List Int)), t2) else (rf_Of.c _ (a.1.1, a.1.2.1, a.1.2.2) fun t3 => (rf_Of.c _ (a.2.1, a.2.2.1, a.2.2.2) fun t4 => (rf_IsInt.c _ (t3.1, t3.2.1, t3.2.2) fun t5 => (if (!t5) = false then (rf_IsInt.c _ (t4.1, t4.2.1, t4.2.2) fun t6 => (if (!t6) = false then (if ((t4.2.1.length : Int) == (0 : Int)) = false then (rf_Inverse.c _ (t4.1, t4.2.1, t4.2.2) fun t7 => (rf_Product.c _ ((t3.1, t3.2.1, t3.2.2), (t7.1, t7.2.1, t7.2.2)) fun t8 => (rf_Floor.c _ (t8.1, t8.2.1, t8.2.2) fun t9 => (rf_DivNat.c _ (t3.2.1, t4.2.1) fun t10 => (if (!(t3.1 == t4.1)) = true then (rf_Product.c _ (((decide ((t10.1.length : Int) > (0 : Int))), t10.1, ([(1 : Int)] : List Int)), (t4.1, t4.2.1, t4.2.2)) fun t11 => (rf_Minus.c _ (t11.1, t11.2.1, t11.2.2) fun t12 => (rf_Plus.c _ ((t3.1, t3.2.1, t3.2.2), (t12.1, t12.2.1, t12.2.2)) fun t13 => (rf_Made.c _ (t13.1, t13.2.1, t13.2.2) fun t14 => K ((t14.1.1, t14.1.2.1, t14.1.2.2), t14.2))))) else (rf_Product.c _ ((false, t10.1, ([(1 : Int)] : List Int)), (t4.1, t4.2.1, t4.2.2)) fun t15 => (rf_Minus.c _ (t15.1, t15.2.1, t15.2.2) fun t16 => (rf_Plus.c _ ((t3.1, t3.2.1, t3.2.2), (t16.1, t16.2.1, t16.2.2)) fun t17 => (rf_Made.c _ (t17.1, t17.2.1, t17.2.2) fun t18 => K ((t18.1.1, t18.1.2.1, t18.1.2.2), t18.2)))))))))) else K ((false, ([] : List Int), ([] : List Int)), (10 : Int))) else K ((false, ([] : List Int), ([] : List Int)), (7 : Int)))) else K ((false, ([] : List Int), ([] : List Int)), (7 : Int))))))))))
noncomputable def rf_Two82.T38 (g20 : CF (Nm) (Int)) (g22 : CF (Nm) (Nm)) (g21 : CF (Nm) (Bool)) (g37 : CF (Nm) (Nm)) (g36 : CF (Nm × Nm) (Nm)) (g43 : CF (Nm) (Nm)) (g44 : CF (List Int × List Int) ((List Int × List Int))) (g35 : CF (Nm) (Nm)) (g34 : CF (Nm × Nm) (Nm)) (g33 : CF (Nm) ((Nm × Int))) : List (Nat × Fun) := []
theorem rf_Two82.tok38 : TOk Tryz.prog (tb (rf_Two82.T38 rf_Fault.c rf_Of.c rf_IsInt.c rf_Inverse.c rf_Product.c rf_Floor.c rf_DivNat.c rf_Minus.c rf_Plus.c rf_Made.c)) := tb_nil
noncomputable def rf_Two82.T (g20 : CF (Nm) (Int)) (g22 : CF (Nm) (Nm)) (g21 : CF (Nm) (Bool)) (g37 : CF (Nm) (Nm)) (g36 : CF (Nm × Nm) (Nm)) (g43 : CF (Nm) (Nm)) (g44 : CF (List Int × List Int) ((List Int × List Int))) (g35 : CF (Nm) (Nm)) (g34 : CF (Nm × Nm) (Nm)) (g33 : CF (Nm) ((Nm × Int))) : List (Nat × Fun) := [(20, mk (one kN) iI g20), (21, mk (one kQ) cb g21), (22, mk (one kN) kQ g22), (32, mk (more cs (one (ci .u8))) iI strings_IndexByte.c), (33, mk (one kQ) kE g33), (34, mk (more kQ (one kQ)) kQ g34), (35, mk (one kQ) kQ g35), (36, mk (more kQ (one kQ)) kQ g36), (37, mk (one kQ) kQ g37), (38, execFn' Tryz.prog (tb (rf_Two82.T38 g20 g22 g21 g37 g36 g43 g44 g35 g34 g33)) 60 Tryz.f38), (43, mk (one kQ) kQ g43), (44, mk (more rI (one rI)) (tup (more rI (one rI))) g44)]
theorem rf_Two82.tok : TOk Tryz.prog (tb (rf_Two82.T rf_Fault.c rf_Of.c rf_IsInt.c rf_Inverse.c rf_Product.c rf_Floor.c rf_DivNat.c rf_Minus.c rf_Plus.c rf_Made.c)) := (tb_cons rf_Fault.ok (tb_cons rf_IsInt.ok (tb_cons rf_Of.ok (tb_cons strings_IndexByte.ok (tb_cons rf_Made.ok (tb_cons rf_Plus.ok (tb_cons rf_Minus.ok (tb_cons rf_Product.ok (tb_cons rf_Inverse.ok (tb_cons (execFn'_ok rf_Two82.tok38 mixed Tryz.func38 (by kernel_rfl)) (tb_cons rf_Floor.ok (tb_cons rf_DivNat.ok tb_nil))))))))))))
set_option maxRecDepth 100000 in
theorem rf_Two82.ex0 (g20 : CF (Nm) (Int)) (g22 : CF (Nm) (Nm)) (g21 : CF (Nm) (Bool)) (g37 : CF (Nm) (Nm)) (g36 : CF (Nm × Nm) (Nm)) (g43 : CF (Nm) (Nm)) (g44 : CF (List Int × List Int) ((List Int × List Int))) (g35 : CF (Nm) (Nm)) (g34 : CF (Nm × Nm) (Nm)) (g33 : CF (Nm) ((Nm × Int))) (R : Type) (a : Nm × Nm) (K : ((Nm × Int)) → Option R) : execFn' Tryz.prog (tb (rf_Two82.T g20 g22 g21 g37 g36 g43 g44 g35 g34 g33)) 60 Tryz.f9 R [.int .u8 (82 : Int), .agg [.bool a.1.1, .row .u32 a.1.2.1, .row .u32 a.1.2.2], .agg [.bool a.2.1, .row .u32 a.2.2.1, .row .u32 a.2.2.2]] (dk kE K) = (g20 _ (a.1.1, a.1.2.1, a.1.2.2) fun t1 => (if (t1 != (0 : Int)) = true then K ((false, ([] : List Int), ([] : List Int)), t1) else (g20 _ (a.2.1, a.2.2.1, a.2.2.2) fun t2 => (if (t2 != (0 : Int)) = true then K ((false, ([] : List Int), ([] : List Int)), t2) else (g22 _ (a.1.1, a.1.2.1, a.1.2.2) fun t3 => (g22 _ (a.2.1, a.2.2.1, a.2.2.2) fun t4 => (g21 _ (t3.1, t3.2.1, t3.2.2) fun t5 => (if (!t5) = false then (g21 _ (t4.1, t4.2.1, t4.2.2) fun t6 => (if (!t6) = false then (if ((t4.2.1.length : Int) == (0 : Int)) = false then (g37 _ (t4.1, t4.2.1, t4.2.2) fun t7 => (g36 _ ((t3.1, t3.2.1, t3.2.2), (t7.1, t7.2.1, t7.2.2)) fun t8 => (g43 _ (t8.1, t8.2.1, t8.2.2) fun t9 => (g44 _ (t3.2.1, t4.2.1) fun t10 => (if (!(t3.1 == t4.1)) = true then (g36 _ (((decide ((t10.1.length : Int) > (0 : Int))), t10.1, ([(1 : Int)] : List Int)), (t4.1, t4.2.1, t4.2.2)) fun t11 => (g35 _ (t11.1, t11.2.1, t11.2.2) fun t12 => (g34 _ ((t3.1, t3.2.1, t3.2.2), (t12.1, t12.2.1, t12.2.2)) fun t13 => (g33 _ (t13.1, t13.2.1, t13.2.2) fun t14 => K ((t14.1.1, t14.1.2.1, t14.1.2.2), t14.2))))) else (g36 _ ((false, t10.1, ([(1 : Int)] : List Int)), (t4.1, t4.2.1, t4.2.2)) fun t15 => (g35 _ (t15.1, t15.2.1, t15.2.2) fun t16 => (g34 _ ((t3.1, t3.2.1, t3.2.2), (t16.1, t16.2.1, t16.2.2)) fun t17 => (g33 _ (t17.1, t17.2.1, t17.2.2) fun t18 => K ((t18.1.1, t18.1.2.1, t18.1.2.2), t18.2)))))))))) else K ((false, ([] : List Int), ([] : List Int)), (10 : Int))) else K ((false, ([] : List Int), ([] : List Int)), (7 : Int)))) else K ((false, ([] : List Int), ([] : List Int)), (7 : Int)))))))))) := by kernel_rfl
theorem rf_Two82.sh : Shown Tryz.prog 9 (fun (a : Nm × Nm) => [.int .u8 (82 : Int), .agg [.bool a.1.1, .row .u32 a.1.2.1, .row .u32 a.1.2.2], .agg [.bool a.2.1, .row .u32 a.2.2.1, .row .u32 a.2.2.2]]) kE rf_Two82.c := exec_shown rf_Two82.tok mixed Tryz.func9 (by kernel_rfl) (rf_Two82.ex0 rf_Fault.c rf_Of.c rf_IsInt.c rf_Inverse.c rf_Product.c rf_Floor.c rf_DivNat.c rf_Minus.c rf_Plus.c rf_Made.c)
noncomputable def rf_TwoG.c (R : Type) (a : Int × Nm × Nm) (K : ((Nm × Int)) → Option R) : Option R := if a.1 = 103 then rf_Two103.c R a.2 K else none
theorem rf_TwoG.ok : FunOk Tryz.prog 9 (mk (more (ci .u8) (more kN (one kN))) kE rf_TwoG.c) := by
  refine mk_ok (by kernel_rfl) (fun R a K => ?_) (fun a b h => ?_)
  · unfold rf_TwoG.c
    by_cases h : a.1 = 103
    · rw [if_pos h, if_pos h]; exact rf_Two103.sh.1 R a.2 K
    rw [if_neg h, if_neg h]; clear h
    rfl
  · obtain ⟨op, a⟩ := a
    unfold rf_TwoG.c at h
    by_cases c : op = 103
    · subst c; rw [if_pos rfl] at h; exact rf_Two103.sh.2 a b h
    rw [if_neg c] at h; clear c
    cases h
noncomputable def rf_TwoD.c (R : Type) (a : Int × Nm × Nm) (K : ((Nm × Int)) → Option R) : Option R := if a.1 = 113 then rf_Two113.c R a.2 K else if a.1 = 114 then rf_Two114.c R a.2 K else if a.1 = 81 then rf_Two81.c R a.2 K else if a.1 = 82 then rf_Two82.c R a.2 K else none
theorem rf_TwoD.ok : FunOk Tryz.prog 9 (mk (more (ci .u8) (more kN (one kN))) kE rf_TwoD.c) := by
  refine mk_ok (by kernel_rfl) (fun R a K => ?_) (fun a b h => ?_)
  · unfold rf_TwoD.c
    by_cases h : a.1 = 113
    · rw [if_pos h, if_pos h]; exact rf_Two113.sh.1 R a.2 K
    rw [if_neg h, if_neg h]; clear h
    by_cases h : a.1 = 114
    · rw [if_pos h, if_pos h]; exact rf_Two114.sh.1 R a.2 K
    rw [if_neg h, if_neg h]; clear h
    by_cases h : a.1 = 81
    · rw [if_pos h, if_pos h]; exact rf_Two81.sh.1 R a.2 K
    rw [if_neg h, if_neg h]; clear h
    by_cases h : a.1 = 82
    · rw [if_pos h, if_pos h]; exact rf_Two82.sh.1 R a.2 K
    rw [if_neg h, if_neg h]; clear h
    rfl
  · obtain ⟨op, a⟩ := a
    unfold rf_TwoD.c at h
    by_cases c : op = 113
    · subst c; rw [if_pos rfl] at h; exact rf_Two113.sh.2 a b h
    rw [if_neg c] at h; clear c
    by_cases c : op = 114
    · subst c; rw [if_pos rfl] at h; exact rf_Two114.sh.2 a b h
    rw [if_neg c] at h; clear c
    by_cases c : op = 81
    · subst c; rw [if_pos rfl] at h; exact rf_Two81.sh.2 a b h
    rw [if_neg c] at h; clear c
    by_cases c : op = 82
    · subst c; rw [if_pos rfl] at h; exact rf_Two82.sh.2 a b h
    rw [if_neg c] at h; clear c
    cases h
theorem ROne : Lim 65536 [1] ∧ Nrm [1] ∧ val 65536 [1] = 1 := ⟨one_lim (by decide), one_nrm, val_one _⟩
theorem IsInt_c {neg : Bool} {p q : List Int} (hq : Lim 65536 q) (nq : Nrm q) (lq : q.length ≤ 1000000) {R : Type} (K : Bool → Option R) : rf_IsInt.c R (neg, p, q) K = K (decide (q = [1])) := by
  have hc := CmpNat_ev q [1] hq ROne.1 (by omega) (by decide)
  rw [ROne.2.2] at hc
  refine (rf_CmpNat.eq hc _).trans ?_
  have e := eq_one (show (1 : Int) < 65536 by decide) hq nq
  have e2 : (cmpI (val 65536 q) 1 == 0) = decide (q = [1]) := by
    by_cases c : q = [1]
    · rw [e.2 c, decide_eq_true c]; rfl
    · have : val 65536 q ≠ 1 := fun h => c (e.1 h)
      rw [decide_eq_false c]
      have h2 : cmpI (val 65536 q) 1 ≠ 0 := fun h => this (cmpI_eq.1 h)
      simpa using h2
  rw [e2]
noncomputable def RInts (R : Type) (x y : Nm) (K : (Nm × Int) → Option R) (L : Nm → Nm → Option R) : Option R :=
  rf_Fault.c R (x.1, x.2.1, x.2.2) fun t1 => (if (t1 != (0 : Int)) = true then K ((false, ([] : List Int), ([] : List Int)), t1) else (rf_Fault.c R (y.1, y.2.1, y.2.2) fun t2 => (if (t2 != (0 : Int)) = true then K ((false, ([] : List Int), ([] : List Int)), t2) else (rf_Of.c R (x.1, x.2.1, x.2.2) fun t3 => (rf_Of.c R (y.1, y.2.1, y.2.2) fun t4 => (rf_IsInt.c R (t3.1, t3.2.1, t3.2.2) fun t5 => (if (!t5) = false then (rf_IsInt.c R (t4.1, t4.2.1, t4.2.2) fun t6 => (if (!t6) = false then L t3 t4 else K ((false, ([] : List Int), ([] : List Int)), (7 : Int)))) else K ((false, ([] : List Int), ([] : List Int)), (7 : Int)))))))))
theorem RInts_bad (na : Bool) (a da : List Int) (nb : Bool) (b db : List Int) (ha : Lim 4294967296 a) (hda : Lim 4294967296 da) (hb : Lim 4294967296 b) (hdb : Lim 4294967296 db) (h : wrong2 na a da nb b db ≠ 0) {R : Type} (K : (Nm × Int) → Option R) (L : Nm → Nm → Option R) :
    RInts R (na, a, da) (nb, b, db) K L = K (bad (wrong2 na a da nb b db)) := by
  unfold RInts
  refine (Fault_c na a da ha hda _).trans ?_
  unfold wrong2 at h ⊢
  by_cases h1 : fault na a da = 0
  · rw [if_pos h1] at h ⊢
    refine (if_neg (by simp [h1])).trans ?_
    refine (Fault_c nb b db hb hdb _).trans ?_
    by_cases h2 : fault nb b db = 0
    · rw [if_pos h2] at h ⊢
      refine (if_neg (by simp [h2])).trans ?_
      have ca := can_of_fault' h1
      have cb := can_of_fault' h2
      obtain ⟨x, u, x1, x2, x3, x4, x5, x6, x7⟩ := Of_c ha hda ca
      obtain ⟨y, v, y1, y2, y3, y4, y5, y6, y7⟩ := Of_c hb hdb cb
      have hu : u = [1] ↔ da = [1] := by rw [← eq_one (show (1 : Int) < 65536 by decide) x2.lq x2.nq, ← eq_one (show (1 : Int) < 4294967296 by decide) hda ca.nd, x4]
      have hv : v = [1] ↔ db = [1] := by rw [← eq_one (show (1 : Int) < 65536 by decide) y2.lq y2.nq, ← eq_one (show (1 : Int) < 4294967296 by decide) hdb cb.nd, y4]
      refine (x1 R _).trans ?_
      refine (y1 R _).trans ?_
      refine (IsInt_c x2.lq x2.nq (by omega) _).trans ?_
      by_cases c : da = [1]
      · rw [if_pos c] at h ⊢
        refine (if_pos (by simp [hu.2 c])).trans ?_
        refine (IsInt_c y2.lq y2.nq (by omega) _).trans ?_
        by_cases d : db = [1]
        · rw [if_pos d] at h; exact absurd rfl h
        · rw [if_neg d]
          exact if_neg (by simp [hv, d])
      · rw [if_neg c]
        exact if_neg (by simp [hu, c])
    · rw [if_neg h2]
      exact if_pos (by simp [h2])
  · rw [if_neg h1]
    exact if_pos (by simp [h1])
theorem RInts_ok {na : Bool} {a : List Int} {nb : Bool} {b : List Int} (ha : Lim 4294967296 a) (hb : Lim 4294967296 b) (ca : Can na a [1]) (cb : Can nb b [1]) :
    ∃ x y, (∀ (R : Type) (K : (Nm × Int) → Option R) (L : Nm → Nm → Option R), RInts R (na, a, [1]) (nb, b, [1]) K L = L (na, x, [1]) (nb, y, [1])) ∧ Lim 65536 x ∧ Nrm x ∧ Lim 65536 y ∧ Nrm y ∧ val 65536 x = val 4294967296 a ∧ val 65536 y = val 4294967296 b ∧ x.length ≤ 256 ∧ y.length ≤ 256 ∧ (x = [] ↔ a = []) ∧ (y = [] ↔ b = []) := by
  obtain ⟨x, u, x1, x2, x3, x4, x5, x6, x7⟩ := Of_c ha one_rep.1 ca
  obtain ⟨y, v, y1, y2, y3, y4, y5, y6, y7⟩ := Of_c hb one_rep.1 cb
  rw [one_rep.2.2] at x4 y4
  have hu : u = [1] := (eq_one (show (1 : Int) < 65536 by decide) x2.lq x2.nq).1 x4
  have hv : v = [1] := (eq_one (show (1 : Int) < 65536 by decide) y2.lq y2.nq).1 y4
  subst hu hv
  refine ⟨x, y, fun R K L => ?_, x2.lp, x2.np, y2.lp, y2.np, x3, y3, x5, y5, x7, y7⟩
  unfold RInts
  refine (Fault_c na a [1] ha one_rep.1 _).trans ?_
  rw [fault_can ca]
  refine (if_neg (by decide)).trans ?_
  refine (Fault_c nb b [1] hb one_rep.1 _).trans ?_
  rw [fault_can cb]
  refine (if_neg (by decide)).trans ?_
  refine (x1 R _).trans ?_
  refine (y1 R _).trans ?_
  refine (IsInt_c x2.lq x2.nq (by omega) _).trans ?_
  refine (if_pos (by simp)).trans ?_
  refine (IsInt_c y2.lq y2.nq (by omega) _).trans ?_
  exact if_pos (by simp)
theorem rr_int {neg : Bool} {n : List Int} (hn : Lim 65536 n) (nn : Nrm n) (h0 : n = [] → neg = false) : RR neg n [1] (sgn neg (val 65536 n)) 1 :=
  ⟨hn, nn, ROne.1, ROne.2.1, by decide, by rw [ROne.2.2]; exact Nat.gcd_one_right _, h0, by rw [ROne.2.2]⟩
end Go.Proofs.YtemnjgkicndmjaaGreatDoor.Q
namespace Go.Proofs.YtemnjgkicndmjaaGreatDoor.Q
open Go.RowKit Go.Proofs.YtemnjgkicndmjaaGreatDoorW.PrintWords Go.Proofs.YtemnjgkicndmjaaGreatDoorW.PrintLast Go.Proofs.YtemnjgkicndmjaaGreatDoorW.PrintMore
set_option linter.unusedVariables false
theorem small_len {B : Int} (hB : 1 < B) {xs : List Int} (h : Lim B xs) (hn : Nrm xs) {n : Nat} (hv : val B xs < B ^ n) : xs.length ≤ n := by
  rcases Nat.lt_or_ge n xs.length with c | c
  · have h0 : xs ≠ [] := by rintro rfl; simp at c
    have h1 := val_ge (by omega) h hn h0
    have h2 := pow_mono' (show 0 < B by omega) (show n ≤ xs.length - 1 by omega)
    omega
  · exact c
end Go.Proofs.YtemnjgkicndmjaaGreatDoor.Q
namespace Go.Proofs.YtemnjgkicndmjaaGreatDoor.Q
open Go.RowKit Go.Proofs.YtemnjgkicndmjaaGreatDoor.E Go.Proofs.YtemnjgkicndmjaaGreatDoorW.PrintWords Go.Proofs.YtemnjgkicndmjaaGreatDoorW.PrintLast Go.Proofs.YtemnjgkicndmjaaGreatDoorW.PrintMore
set_option linter.unusedVariables false
def Fl (neg : Bool) (A B : Int) (fl : Bool) : Int := if neg = true ∧ fl = true ∧ A % B ≠ 0 then A / B + 1 else A / B
theorem sgn_abs (m : Bool) (x : Int) : sgn m x = x ∨ sgn m x = -x := by
  unfold sgn
  cases m with
  | true => exact .inr (if_pos rfl)
  | false => exact .inl (if_neg (by decide))
theorem wend (neg : Bool) (p : List Int) {R : Type} (K : Nm → Option R) : (if neg = true then K (decide ((p.length : Int) > 0), p, [1]) else K (false, p, [1])) = K (neg && decide (p ≠ []), p, [1]) := by
  cases neg with
  | false => rfl
  | true =>
    rw [if_pos rfl]
    cases p with
    | nil => rfl
    | cons x xs => rw [decide_eq_true (by simp only [List.length_cons]; omega)]; simp
theorem sgn_cut' (m : Bool) (n : List Int) : sgn (m && decide (n ≠ [])) (val 65536 n) = sgn m (val 65536 n) := by
  by_cases h : n = []
  · subst h
    have : val 65536 [] = 0 := rfl
    rw [this]
    unfold sgn
    cases m <;> simp
  · simp [h]
theorem sgn_zero (m : Bool) : sgn m 0 = 0 := by unfold sgn; cases m <;> rfl
theorem Fl_zero (m : Bool) (B : Int) (fl : Bool) : Fl m 0 B fl = 0 := by unfold Fl; simp
end Go.Proofs.YtemnjgkicndmjaaGreatDoor.Q
namespace Go.Proofs.YtemnjgkicndmjaaGreatDoor.Q
open Go.RowKit Go.Proofs.YtemnjgkicndmjaaGreatDoorW.PrintWords Go.Proofs.YtemnjgkicndmjaaGreatDoorW.PrintLast Go.Proofs.YtemnjgkicndmjaaGreatDoorW.PrintMore
set_option linter.unusedVariables false
theorem mod_pow_succ {B : Int} (hB : 0 < B) (x : Int) (i : Nat) : x % B ^ (i + 1) = x % B ^ i + B ^ i * (x / B ^ i % B) := by
  have hp : 0 < B ^ i := Int.pow_pos hB
  have hq : 0 < B ^ (i + 1) := Int.pow_pos hB
  have h1 := Int.emod_add_mul_ediv x (B ^ i)
  have h2 := Int.emod_add_mul_ediv (x / B ^ i) B
  have a1 := Int.emod_nonneg x (show B ^ i ≠ 0 by omega)
  have a2 := Int.emod_lt_of_pos x hp
  have b1 := Int.emod_nonneg (x / B ^ i) (show B ≠ 0 by omega)
  have b2 := Int.emod_lt_of_pos (x / B ^ i) hB
  have hpow : B ^ (i + 1) = B ^ i * B := Int.pow_succ B i
  refine ((Int.ediv_emod_unique (r := x % B ^ i + B ^ i * (x / B ^ i % B)) (q := x / B ^ i / B) hq).2 ⟨?_, ?_, ?_⟩).2
  · rw [hpow]
    generalize B ^ i = p at *
    generalize x % p = r at *
    generalize x / p = q at *
    generalize q % B = s at *
    generalize q / B = t at *
    subst h1
    subst h2
    grind
  · have := Int.mul_nonneg (show 0 ≤ B ^ i by omega) b1
    omega
  · rw [hpow]
    have : B ^ i * (x / B ^ i % B) ≤ B ^ i * (B - 1) := Int.mul_le_mul_of_nonneg_left (by omega) (by omega)
    rw [Int.mul_sub, Int.mul_one] at this
    omega
theorem two_pow_pos (n : Nat) : (0 : Int) < 2 ^ n := Int.pow_pos (by decide)
theorem shr_lost (a : List Int) (ha : Lim 65536 a) (n : Nat) (hn : n ≤ 1000000) (hL : a.length ≤ 1000000) (R : List Int × Bool) (hj : Ev (fun k => rf_ShrNat.j1 k a (n : Int) (decide (val 65536 a % 2 ^ n ≠ 0))) R) :
    ∀ (d i : Nat), d + i = min n (16 * a.length) → Ev (fun k => rf_ShrNat.l0 k a (n : Int) (decide (val 65536 a % 2 ^ i ≠ 0)) (i : Int)) R := by
  have e16 : wrap64 (16 * (a.length : Int)) = ((16 * a.length : Nat) : Int) := by rw [w64 (by omega) (by omega)]; omega
  have hlt : val 65536 a < 2 ^ (16 * a.length) := by
    have := val_lt (show (0 : Int) < 65536 by decide) ha
    rwa [show (65536 : Int) = 2 ^ 16 from rfl, ← Int.pow_mul] at this
  have hv := val_nonneg (show (0 : Int) < 65536 by decide) ha
  intro d
  induction d with
  | zero =>
    intro i hi
    have he : (decide (val 65536 a % 2 ^ i ≠ 0)) = (decide (val 65536 a % 2 ^ n ≠ 0)) := by
      by_cases c : i = n
      · rw [c]
      · have h1 : i = 16 * a.length := by omega
        have h2 : (2 : Int) ^ i ≤ 2 ^ n := pow_mono' (by decide) (by omega)
        have h3 := h1
        rw [Int.emod_eq_of_lt hv (by rw [h1]; exact hlt), Int.emod_eq_of_lt hv (by rw [← h1] at hlt; omega)]
    rw [he]
    refine Ev.step (f := fun k => rf_ShrNat.j1 k a (n : Int) (decide (val 65536 a % 2 ^ n ≠ 0))) (fun k => ?_) hj
    simp only [rf_ShrNat.l0]
    rw [e16]
    by_cases c : (i : Int) < (n : Int)
    · rw [if_pos c, if_neg (by omega)]
    · rw [if_neg c]
  | succ d ih =>
    intro i hi
    have g1 : (i : Int) < (n : Int) := by omega
    have g2 : (i : Int) < ((16 * a.length : Nat) : Int) := by omega
    have gw : wrap64 ((i : Int) + 1) = ((i + 1 : Nat) : Int) := by rw [w64 (by omega) (by omega)]; omega
    have hs := mod_pow_succ (show (0 : Int) < 2 by decide) (val 65536 a) i
    have p0 := two_pow_pos i
    have r0 := Int.emod_nonneg (val 65536 a) (show (2 : Int) ^ i ≠ 0 by omega)
    have b0 := Int.emod_nonneg (val 65536 a / 2 ^ i) (show (2 : Int) ≠ 0 by decide)
    have b1 := Int.emod_lt_of_pos (val 65536 a / 2 ^ i) (show (0 : Int) < 2 by decide)
    have hb := rbit_ev ha i (by omega)
    have nn := Int.mul_nonneg (show (0 : Int) ≤ 2 ^ i by omega) b0
    by_cases c : val 65536 a % 2 ^ i ≠ 0
    · have hnext : (decide (val 65536 a % 2 ^ (i + 1) ≠ 0)) = true := decide_eq_true (by omega)
      have h := ih (i + 1) (by omega)
      rw [hnext] at h
      refine Ev.step (f := fun k => rf_ShrNat.l0 k a (n : Int) true ((i + 1 : Nat) : Int)) (fun k => ?_) h
      simp only [rf_ShrNat.l0]
      rw [if_pos g1, e16, if_pos g2, if_pos (decide_eq_true c), gw]
    · have h := ih (i + 1) (by omega)
      have hz : val 65536 a % 2 ^ i = 0 := Classical.not_not.1 c
      have hnext : (decide (val 65536 a % 2 ^ (i + 1) ≠ 0)) = (val 65536 a / 2 ^ i % 2 == 1) := by
        rw [hs, hz, Int.zero_add]
        generalize val 65536 a / 2 ^ i % 2 = t at *
        rcases (show t = 0 ∨ t = 1 by omega) with rfl | rfl
        · simp
        · rw [Int.mul_one, decide_eq_true (by omega)]; rfl
      rw [hnext] at h
      refine Ev.step (f := fun k => rf_ShrNat.l0 k a (n : Int) (val 65536 a / 2 ^ i % 2 == 1) ((i + 1 : Nat) : Int)) (fun k => ?_) h
      simp only [rf_ShrNat.l0]
      rw [if_pos g1, e16, if_pos g2, if_neg (by simp [hz]), hb, Option.bind_some, gw]
theorem shr_inner (a : List Int) (ha : Lim 65536 a) (lost : Bool) (out : List Int) (i : Nat) (hi : i ≤ 100000000) (ho : out.length < 17592186044416) (R : List Int × Bool) (hn : Ev (fun k => rf_ShrNat.l1 k a lost (out ++ [val 65536 a / 2 ^ i % 65536]) ((i + 16 : Nat) : Int)) R) :
    ∀ (d j : Nat), d + j = 16 → Ev (fun k => rf_ShrNat.l2 k a lost out (i : Int) (val 65536 a / 2 ^ i % 2 ^ j) (j : Int)) R := by
  intro d
  induction d with
  | zero =>
    intro j hj
    obtain rfl : j = 16 := by omega
    refine Ev.step (f := fun k => rf_ShrNat.l1 k a lost (out ++ [val 65536 a / 2 ^ i % 65536]) ((i + 16 : Nat) : Int)) (fun k => ?_) hn
    have gw : wrap64 ((i : Int) + 16) = ((i + 16 : Nat) : Int) := by rw [w64 (by omega) (by omega)]; omega
    simp only [rf_ShrNat.l2]
    rw [if_neg (by omega), if_pos ho, gw]
    rfl
  | succ d ih =>
    intro j hj
    have g1 : (j : Int) < 16 := by omega
    have gw : wrap64 ((i : Int) + (j : Int)) = ((i + j : Nat) : Int) := by rw [w64 (by omega) (by omega)]; omega
    have gw2 : wrap64 ((j : Int) + 1) = ((j + 1 : Nat) : Int) := by rw [w64 (by omega) (by omega)]; omega
    have hs := mod_pow_succ (show (0 : Int) < 2 by decide) (val 65536 a / 2 ^ i) j
    have hdd : val 65536 a / 2 ^ i / 2 ^ j = val 65536 a / 2 ^ (i + j) := by rw [Int.pow_add, Int.ediv_ediv_of_nonneg (by have := two_pow_pos i; omega)]
    rw [hdd] at hs
    have hb := rbit_ev ha (i + j) (by omega)
    have b0 := Int.emod_nonneg (val 65536 a / 2 ^ (i + j)) (show (2 : Int) ≠ 0 by decide)
    have b1 := Int.emod_lt_of_pos (val 65536 a / 2 ^ (i + j)) (show (0 : Int) < 2 by decide)
    have p0 := two_pow_pos j
    have p1 : (2 : Int) ^ j ≤ 2 ^ 15 := pow_mono' (by decide) (by omega)
    have r0 := Int.emod_nonneg (val 65536 a / 2 ^ i) (show (2 : Int) ^ j ≠ 0 by omega)
    have r1 := Int.emod_lt_of_pos (val 65536 a / 2 ^ i) p0
    have h := ih (j + 1) (by omega)
    rw [hs, Int.mul_comm (2 ^ j)] at h
    generalize val 65536 a / 2 ^ i % 2 ^ j = x at *
    generalize val 65536 a / 2 ^ (i + j) % 2 = t at *
    have ht : 0 ≤ t * 2 ^ j := Int.mul_nonneg b0 (by omega)
    have ht2 : t * 2 ^ j ≤ 1 * 2 ^ j := Int.mul_le_mul_of_nonneg_right (by omega) (by omega)
    have hsh : shl .i64 t (j : Int) = t * 2 ^ j := by
      unfold shl
      rw [Int.toNat_natCast, Nat.min_eq_left (by simp [IntKind.bits]; omega), i64w _ ht (by omega)]
    have hor : Go.bits .or .i64 x (t * 2 ^ j) = x + t * 2 ^ j := by
      rw [i64_or _ _ r0 (by omega) ht (by omega), Nat.or_comm, nat_join j]
      · omega
      · have : (((t * 2 ^ j).toNat % 2 ^ j : Nat) : Int) = 0 := by
          rw [Int.natCast_emod, Int.toNat_of_nonneg ht, Int.natCast_pow]
          exact Int.mul_emod_left _ _
        omega
      · have : ((x.toNat : Nat) : Int) < ((2 ^ j : Nat) : Int) := by
          rw [Int.toNat_of_nonneg r0, Int.natCast_pow]; exact r1
        omega
    refine Ev.step (f := fun k => rf_ShrNat.l2 k a lost out (i : Int) (x + t * 2 ^ j) ((j + 1 : Nat) : Int)) (fun k => ?_) h
    simp only [rf_ShrNat.l2]
    rw [if_pos g1, gw, hb, Option.bind_some, if_pos (by omega), hsh, hor, gw2]
theorem shr_outer (a : List Int) (ha : Lim 65536 a) (na : Nrm a) (lost : Bool) (n : Nat) (hn : n ≤ 1000000) (hL : a.length ≤ 1000000) (L : Nat) (hv : val 65536 a < 2 ^ L) (hev : Ev (fun k => rf_LenNat.f k a) (L : Int)) :
    ∀ (d j : Nat) (out : List Int), L ≤ n + 16 * (j + d) → j + d ≤ 1000000 → out.length = j → Lim 65536 out → val 65536 out = val 65536 a / 2 ^ n % 65536 ^ j →
      ∃ r, Ev (fun k => rf_ShrNat.l1 k a lost out ((n + 16 * j : Nat) : Int)) (r, lost) ∧ Lim 65536 r ∧ Nrm r ∧ val 65536 r = val 65536 a / 2 ^ n ∧ r.length ≤ j + d := by
  have v0 := val_nonneg (show (0 : Int) < 65536 by decide) ha
  have fin : ∀ (j : Nat) (out : List Int), L ≤ n + 16 * j → out.length = j → j ≤ 1000000 → Lim 65536 out → val 65536 out = val 65536 a / 2 ^ n % 65536 ^ j →
      ∃ r, Ev (fun k => rf_ShrNat.l1 k a lost out ((n + 16 * j : Nat) : Int)) (r, lost) ∧ Lim 65536 r ∧ Nrm r ∧ val 65536 r = val 65536 a / 2 ^ n ∧ r.length ≤ j := by
    intro j out h1 h2 h3 ho hval
    refine ⟨trim out, ?_, lim_trim ho, nrm_trim _, ?_, by rw [← h2]; exact length_trim out⟩
    · refine Ev.step (f := fun k => (rf_LenNat.f k a).bind fun t766 => (if ((n + 16 * j : Nat) : Int) < t766 then (rf_ShrNat.l2 k a lost out ((n + 16 * j : Nat) : Int) 0 0) else ((rf_trim.f k out).bind fun t767 => (some (t767, lost))))) (fun k => by simp only [rf_ShrNat.l1]) ?_
      refine Ev.bind (f := fun k t766 => (if ((n + 16 * j : Nat) : Int) < t766 then (rf_ShrNat.l2 k a lost out ((n + 16 * j : Nat) : Int) 0 0) else ((rf_trim.f k out).bind fun t767 => (some (t767, lost))))) hev ?_
      refine Ev.congr (f := fun k => (rf_trim.f k out).bind fun t767 => (some (t767, lost))) (fun k => if_neg (by omega)) ?_
      exact Ev.bind (f := fun _ t767 => some (t767, lost)) (rtrim_ev out (by omega)) (Ev.now _)
    · rw [val_trim, hval]
      refine Int.emod_eq_of_lt (Int.ediv_nonneg v0 (by have := two_pow_pos n; omega)) ?_
      refine Int.ediv_lt_of_lt_mul (two_pow_pos n) ?_
      rw [show (65536 : Int) = 2 ^ 16 from rfl, ← Int.pow_mul, ← Int.pow_add]
      exact Int.lt_of_lt_of_le hv (pow_mono' (by decide) (by omega))
  intro d
  induction d with
  | zero =>
    intro j out h1 h2 h3 ho hval
    obtain ⟨r, e1, e2, e3, e4, e5⟩ := fin j out (by omega) h3 (by omega) ho hval
    exact ⟨r, e1, e2, e3, e4, by omega⟩
  | succ d ih =>
    intro j out h1 h2 h3 ho hval
    by_cases c : n + 16 * j < L
    · have p0 : (0 : Int) < 65536 ^ j := Int.pow_pos (by decide)
      have x0 := Int.emod_nonneg (val 65536 a / 2 ^ (n + 16 * j)) (show (65536 : Int) ≠ 0 by decide)
      have x1 := Int.emod_lt_of_pos (val 65536 a / 2 ^ (n + 16 * j)) (show (0 : Int) < 65536 by decide)
      obtain ⟨r, e1, e2, e3, e4, e5⟩ := ih (j + 1) (out ++ [val 65536 a / 2 ^ (n + 16 * j) % 65536]) (by omega) (by omega) (by rw [List.length_append, List.length_singleton, h3]) (lim_nrm_snoc ho ⟨x0, x1⟩) (by
        rw [val_snoc, hval, h3, mod_pow_succ (show (0 : Int) < 65536 by decide)]
        congr 3
        rw [show (65536 : Int) ^ j = 2 ^ (16 * j) by rw [show (65536 : Int) = 2 ^ 16 from rfl, ← Int.pow_mul], Int.pow_add, Int.ediv_ediv_of_nonneg (by have := two_pow_pos n; omega)])
      refine ⟨r, ?_, e2, e3, e4, by omega⟩
      have hin := shr_inner a ha lost out (n + 16 * j) (by omega) (by omega) (r, lost) (by rw [show n + 16 * j + 16 = n + 16 * (j + 1) by omega]; exact e1) 16 0 (by omega)
      rw [Int.pow_zero, Int.emod_one] at hin
      refine Ev.step (f := fun k => (rf_LenNat.f k a).bind fun t766 => (if ((n + 16 * j : Nat) : Int) < t766 then (rf_ShrNat.l2 k a lost out ((n + 16 * j : Nat) : Int) 0 0) else ((rf_trim.f k out).bind fun t767 => (some (t767, lost))))) (fun k => by simp only [rf_ShrNat.l1]) ?_
      refine Ev.bind (f := fun k t766 => (if ((n + 16 * j : Nat) : Int) < t766 then (rf_ShrNat.l2 k a lost out ((n + 16 * j : Nat) : Int) 0 0) else ((rf_trim.f k out).bind fun t767 => (some (t767, lost))))) hev ?_
      exact Ev.congr (f := fun k => rf_ShrNat.l2 k a lost out ((n + 16 * j : Nat) : Int) 0 0) (fun k => if_pos (by omega)) hin
    · obtain ⟨r, e1, e2, e3, e4, e5⟩ := fin j out (by omega) h3 (by omega) ho hval
      exact ⟨r, e1, e2, e3, e4, by omega⟩
theorem ShrNat_ev (a : List Int) (n : Nat) (ha : Lim 65536 a) (na : Nrm a) (hL : a.length ≤ 1000000) (hn : n ≤ 1000000) :
    ∃ r, Ev (fun k => rf_ShrNat.f k a (n : Int)) (r, decide (val 65536 a % 2 ^ n ≠ 0)) ∧ Lim 65536 r ∧ Nrm r ∧ val 65536 r = val 65536 a / 2 ^ n ∧ r.length ≤ a.length := by
  obtain ⟨L, l1, l2, l3, l4⟩ := LenNat_ev a ha na (by omega)
  obtain ⟨r, e1, e2, e3, e4, e5⟩ := shr_outer a ha na (decide (val 65536 a % 2 ^ n ≠ 0)) n hn hL L l2 l4 a.length 0 [] (by omega) (by omega) rfl (lim_nil _) (by rw [Int.pow_zero, Int.emod_one]; rfl)
  refine ⟨r, ?_, e2, e3, e4, by omega⟩
  have h := shr_lost a ha n hn hL (r, decide (val 65536 a % 2 ^ n ≠ 0)) (Ev.step (f := fun k => rf_ShrNat.l1 k a (decide (val 65536 a % 2 ^ n ≠ 0)) ([] : List Int) (n : Int)) (fun k => by simp only [rf_ShrNat.j1]) e1) (min n (16 * a.length)) 0 (by omega)
  rw [Int.pow_zero, Int.emod_one] at h
  exact h
end Go.Proofs.YtemnjgkicndmjaaGreatDoor.Q
namespace Go.Proofs.YtemnjgkicndmjaaGreatDoor.Q
open Go.RowKit Go.Proofs.YtemnjgkicndmjaaGreatDoor.E Go.Proofs.YtemnjgkicndmjaaGreatDoorW.PrintWords Go.Proofs.YtemnjgkicndmjaaGreatDoorW.PrintLast Go.Proofs.YtemnjgkicndmjaaGreatDoorW.PrintMore
set_option linter.unusedVariables false
def byOf (M : Int) : Nat := min M.toNat 4097
def shV (neg : Bool) (A : Int) (left : Bool) (n : Nat) : Int := if left = true then A * 2 ^ n else Fl neg A (2 ^ n) true
noncomputable def NSh (R : Type) (na : Bool) (a : List Int) (nb : Bool) (n : Int) (K : (Nm × Int) → Option R) : Option R :=
  (if (!nb) = true then (nat_Shl.c R (a, n) fun t10 => (number_whole.c R (na, t10) K)) else (nat_Shr.c R (a, n) fun t12 => (if na = true then (if (!t12.2) = true then (nat_plus.c R (([] : List Int), t12.1) fun t13 => (nat_plus.c R (t13, ([(1 : Int)] : List Int)) fun t14 => (number_whole.c R (na, t14) K))) else (number_whole.c R (na, t12.1) K)) else (number_whole.c R (na, t12.1) K))))
theorem Shift_eq (R : Type) (a : Nm × Nm) (K : (Nm × Int) → Option R) : number_Shift.c R a K = number_integers2.c R (a.1.1, a.1.2.1, a.1.2.2, a.2.1, a.2.2.1, a.2.2.2) fun t1 => (if (t1 != (0 : Int)) = true then K ((false, ([] : List Int), ([] : List Int)), t1) else (if ((a.2.2.1.length : Int) == (0 : Int)) = true then NSh R a.1.1 a.1.2.1 a.2.1 0 K else (if ((a.2.2.1.length : Int) == (1 : Int)) = true then (if 0 ≤ (0 : Int) ∧ (0 : Int) < (a.2.2.1.length : Int) then NSh R a.1.1 a.1.2.1 a.2.1 (if (IntKind.i64.wrap (a.2.2.1.getD 0 0)) < (4097 : Int) then (IntKind.i64.wrap (a.2.2.1.getD 0 0)) else (4097 : Int)) K else none) else NSh R a.1.1 a.1.2.1 a.2.1 4097 K))) := rfl
theorem NSh_c (na : Bool) {a : List Int} (nb : Bool) (n : Nat) (hn : n ≤ 4097) (ha : Lim 4294967296 a) (an : Nrm a) (la : a.length ≤ 128) :
    ∃ m p q, (∀ (R : Type) (K : (Nm × Int) → Option R), NSh R na a nb (n : Int) K = K (outM m p q)) ∧ Rep m p q (sgn na (shV na (val 4294967296 a) (!nb) n)) 1 := by
  cases nb with
  | false =>
    obtain ⟨s, s1, s2, s3, s4, s5⟩ := Shl_ev a n ha (by omega)
    obtain ⟨m, p, q, w1, w2⟩ := whole_c na s s2 s3 (by omega)
    refine ⟨m, p, q, fun R K => ?_, by rw [s4] at w2; exact w2⟩
    unfold NSh
    refine (if_pos rfl).trans ?_
    refine (nat_Shl.eq s1 _).trans ?_
    exact w1 R K
  | true =>
    obtain ⟨s, s1, s2, s3, s4, s5⟩ := Shr_ev a n ha an (by omega) (by omega)
    obtain ⟨t, t1, t2, t3, t4, t5⟩ := nadd_c s [1] s2 one_rep.1 (by omega) (by decide)
    rw [one_rep.2.2] at t4
    by_cases c : na = true ∧ val 4294967296 a % 2 ^ n ≠ 0
    · obtain ⟨rfl, c2⟩ := c
      obtain ⟨m, p, q, w1, w2⟩ := whole_c true t t2 t3 (by omega)
      refine ⟨m, p, q, fun R K => ?_, ?_⟩
      · unfold NSh
        refine (if_neg (by decide)).trans ?_
        refine (nat_Shr.eq s1 _).trans ?_
        refine (if_pos rfl).trans ?_
        refine (if_pos (by simp [c2])).trans ?_
        refine (t1 R _).trans ?_
        exact w1 R K
      · rw [t4, s4] at w2
        unfold shV Fl
        rw [if_neg (by decide), if_pos ⟨rfl, rfl, c2⟩]
        exact w2
    · obtain ⟨m, p, q, w1, w2⟩ := whole_c na s s2 s3 (by omega)
      refine ⟨m, p, q, fun R K => ?_, ?_⟩
      · unfold NSh
        refine (if_neg (by decide)).trans ?_
        refine (nat_Shr.eq s1 _).trans ?_
        by_cases c1 : na = true
        · refine (if_pos c1).trans ?_
          have c2 : val 4294967296 a % 2 ^ n = 0 := Classical.not_not.1 fun c2 => c ⟨c1, c2⟩
          refine (if_neg (by simp [c2])).trans ?_
          exact w1 R K
        · refine (if_neg c1).trans ?_
          exact w1 R K
      · rw [s4] at w2
        unfold shV Fl
        rw [if_neg (by decide), if_neg (fun h => c ⟨h.1, h.2.2⟩)]
        exact w2
theorem Shift_bad (na : Bool) (a da : List Int) (nb : Bool) (b db : List Int) (ha : Lim 4294967296 a) (hda : Lim 4294967296 da) (hb : Lim 4294967296 b) (hdb : Lim 4294967296 db) (h : wrong2 na a da nb b db ≠ 0) {R : Type} (K : (Nm × Int) → Option R) :
    number_Shift.c R ((na, a, da), (nb, b, db)) K = K (bad (wrong2 na a da nb b db)) := by
  rw [Shift_eq]
  refine (int2_c na a da nb b db ha hda hb hdb _).trans ?_
  exact if_pos (by simpa using h)
theorem Shift_c {na : Bool} {a : List Int} {nb : Bool} {b : List Int} (ha : Lim 4294967296 a) (hb : Lim 4294967296 b) (ca : Can na a [1]) (cb : Can nb b [1]) :
    ∃ m p q, (∀ (R : Type) (K : (Nm × Int) → Option R), number_Shift.c R ((na, a, [1]), (nb, b, [1])) K = K (outM m p q)) ∧ Rep m p q (sgn na (shV na (val 4294967296 a) (!nb) (byOf (val 4294967296 b)))) 1 := by
  have la := ca.ln
  obtain ⟨m, p, q, h1, h2⟩ := NSh_c na nb (byOf (val 4294967296 b)) (by unfold byOf; omega) ha ca.nn la
  refine ⟨m, p, q, fun R K => ?_, h2⟩
  rw [Shift_eq]
  refine (int2_c na a [1] nb b [1] ha one_rep.1 hb one_rep.1 _).trans ?_
  rw [wrong2_can ca cb]
  refine (if_neg (by decide)).trans ?_
  have vb := val_nonneg (show (0 : Int) < 4294967296 by decide) hb
  cases b with
  | nil =>
    refine (if_pos rfl).trans ?_
    exact h1 R K
  | cons x xs =>
    refine (if_neg (fun h => by have h2 := beq_iff_eq.1 h; dsimp only at h2; simp only [List.length_cons] at h2; omega)).trans ?_
    have hx := hb x List.mem_cons_self
    cases xs with
    | nil =>
      have hv : val 4294967296 [x] = x := by simp [val]
      refine (if_pos rfl).trans ?_
      refine (if_pos (by simp)).trans ?_
      have e : (if (IntKind.i64.wrap (([x] : List Int).getD 0 0)) < (4097 : Int) then (IntKind.i64.wrap (([x] : List Int).getD 0 0)) else (4097 : Int)) = ((byOf (val 4294967296 [x]) : Nat) : Int) := by
        have h0 : ([x] : List Int).getD 0 0 = x := rfl
        have h3 : IntKind.i64.wrap x = x := by rw [i64_w]; exact w64 (x := x) (by omega) (by omega)
        rw [h0, h3, hv]
        unfold byOf
        split <;> omega
      rw [e]
      exact h1 R K
    | cons y ys =>
      refine (if_neg (fun h => by have h2 := beq_iff_eq.1 h; dsimp only at h2; simp only [List.length_cons] at h2; omega)).trans ?_
      have hbig := val_ge (show (0 : Int) < 4294967296 by decide) hb cb.nn (by simp)
      have h2 : (4294967296 : Int) ^ 1 ≤ 4294967296 ^ ((x :: y :: ys).length - 1) := pow_mono' (by decide) (by simp)
      have e : (4097 : Int) = ((byOf (val 4294967296 (x :: y :: ys)) : Nat) : Int) := by
        unfold byOf
        rw [Int.pow_succ, Int.pow_zero] at h2
        omega
      rw [e]
      exact h1 R K
theorem Len_c {a : List Int} (ha : Lim 4294967296 a) (na : Nrm a) (la : a.length ≤ 128) : ∃ L : Nat, (∀ (R : Type) (K : Int → Option R), nat_Len.c R a K = K (L : Int)) ∧ val 4294967296 a < 2 ^ L ∧ (0 < val 4294967296 a → 0 < L ∧ 2 ^ (L - 1) ≤ val 4294967296 a) ∧ (a = [] → L = 0) := by
  by_cases h : a = []
  · subst h
    exact ⟨0, fun R K => nat_Len.eq (b := 0) rfl K, by decide, fun h => absurd h (by decide), fun _ => rfl⟩
  · have hl : 0 < a.length := List.length_pos_iff.2 h
    obtain ⟨n, n1, n2, n3, n4⟩ := Len32_eq (a.getLast h) (ha _ (List.getLast_mem h)).1 (ha _ (List.getLast_mem h)).2
    have e1 : wrap64 ((a.length : Int) - 1) = ((a.length - 1 : Nat) : Int) := by rw [w64 (by omega) (by omega)]; omega
    have hrd : rd a ((a.length - 1 : Nat) : Int) = a.getLast h := by
      rw [rd_getD, List.getD_eq_getElem?_getD, ← List.getLast?_eq_getElem?, List.getLast?_eq_some_getLast h]
      rfl
    have hlast : a.getLast h ≠ 0 := by
      intro h0
      have hn := na
      rw [← List.dropLast_concat_getLast h, nrm_snoc] at hn
      exact hn h0
    have n5 : 1 ≤ n ∧ (2 : Int) ^ (n - 1) ≤ a.getLast h := by rcases n4 with h4 | h4; exact absurd h4 hlast; exact h4
    have hv : val 4294967296 a = val 4294967296 a.dropLast + 4294967296 ^ (a.length - 1) * a.getLast h := by
      conv => lhs; rw [← List.dropLast_concat_getLast h]
      rw [val_snoc, List.length_dropLast]
    have hd : Lim 4294967296 a.dropLast := fun x hx => ha x (List.dropLast_subset a hx)
    have d0 := val_nonneg (show (0 : Int) < 4294967296 by decide) hd
    have d1 := val_lt (show (0 : Int) < 4294967296 by decide) hd
    rw [List.length_dropLast] at d1
    have hp : (4294967296 : Int) ^ (a.length - 1) = 2 ^ (32 * (a.length - 1)) := by rw [show (4294967296 : Int) = 2 ^ 32 from rfl, ← Int.pow_mul]
    have p0 : (0 : Int) < 4294967296 ^ (a.length - 1) := Int.pow_pos (by decide)
    refine ⟨32 * (a.length - 1) + n, fun R K => nat_Len.eq (b := ((32 * (a.length - 1) + n : Nat) : Int)) ?_ K, ?_, fun _ => ⟨by omega, ?_⟩, fun h' => absurd h' h⟩
    · unfold nat_Len.f
      rw [if_neg (by omega), e1, if_pos (by omega), if_pos (by omega), hrd, n1, Option.bind_some, w64 (x := 32 * _) (by omega) (by omega), w64 (by omega) (by omega)]
      congr 1
    · rw [hv, Int.pow_add, ← hp]
      have : 4294967296 ^ (a.length - 1) * a.getLast h ≤ 4294967296 ^ (a.length - 1) * (2 ^ n - 1) := Int.mul_le_mul_of_nonneg_left (by omega) (by omega)
      rw [Int.mul_sub, Int.mul_one] at this
      omega
    · rw [hv, show 32 * (a.length - 1) + n - 1 = 32 * (a.length - 1) + (n - 1) by omega, Int.pow_add, ← hp]
      have : 4294967296 ^ (a.length - 1) * 2 ^ (n - 1) ≤ 4294967296 ^ (a.length - 1) * a.getLast h := Int.mul_le_mul_of_nonneg_left n5.2 (by omega)
      omega
theorem len_unique {A : Int} {L M : Nat} (hA : 0 ≤ A) (h1 : A < 2 ^ L) (h2 : 0 < A → 0 < L ∧ 2 ^ (L - 1) ≤ A) (h3 : A < 2 ^ M) (h4 : 0 < A → 0 < M ∧ 2 ^ (M - 1) ≤ A) (h0 : A = 0 → L = 0 ∧ M = 0) : L = M := by
  by_cases c : A = 0
  · have := h0 c; omega
  · obtain ⟨a1, a2⟩ := h2 (by omega)
    obtain ⟨b1, b2⟩ := h4 (by omega)
    rcases Nat.lt_trichotomy L M with h | h | h
    · have : (2 : Int) ^ L ≤ 2 ^ (M - 1) := pow_mono' (by decide) (by omega)
      omega
    · exact h
    · have : (2 : Int) ^ M ≤ 2 ^ (L - 1) := pow_mono' (by decide) (by omega)
      omega
noncomputable def wrong1 (na : Bool) (a da : List Int) : Int := if fault na a da = 0 then (if da = [1] then 0 else 7) else fault na a da
theorem int1_c (na : Bool) (a da : List Int) (ha : Lim 4294967296 a) (hda : Lim 4294967296 da) {R : Type} (K : Int → Option R) : number_integers1.c R (na, a, da) K = K (wrong1 na a da) := by
  have hc : ∀ (K : Int → Option R), number_check1.c R (na, a, da) K = K (fault na a da) := by
    intro K
    unfold number_check1.c
    refine (check_c na a da ha hda _).trans ?_
    by_cases h : fault na a da = 0
    · rw [h]; rfl
    · exact if_pos (by simpa using h)
  unfold number_integers1.c wrong1
  refine (hc _).trans ?_
  by_cases h : fault na a da = 0
  · rw [if_pos h, h]
    refine (if_neg (by decide)).trans ?_
    refine (isone_c da _).trans ?_
    by_cases c : da = [1]
    · rw [if_pos c]
      exact if_neg (by simp [c])
    · rw [if_neg c]
      exact if_pos (by simp [c])
  · rw [if_neg h]
    exact if_pos (by simpa using h)
theorem Length_bad {na : Bool} {a da : List Int} (ha : Lim 4294967296 a) (hda : Lim 4294967296 da) (h : wrong1 na a da ≠ 0) {R : Type} (K : Int × Int → Option R) : number_Length.c R (na, a, da) K = K (0, wrong1 na a da) := by
  unfold number_Length.c
  refine (int1_c na a da ha hda _).trans ?_
  exact if_pos (by simpa using h)
theorem Length_c {na : Bool} {a : List Int} (ha : Lim 4294967296 a) (ca : Can na a [1]) : ∃ L : Nat, (∀ (R : Type) (K : Int × Int → Option R), number_Length.c R (na, a, [1]) K = K ((L : Int), 0)) ∧ val 4294967296 a < 2 ^ L ∧ (0 < val 4294967296 a → 0 < L ∧ 2 ^ (L - 1) ≤ val 4294967296 a) ∧ (a = [] → L = 0) := by
  obtain ⟨L, l1, l2, l3, l4⟩ := Len_c ha ca.nn ca.ln
  refine ⟨L, fun R K => ?_, l2, l3, l4⟩
  unfold number_Length.c
  refine (int1_c na a [1] ha one_rep.1 _).trans ?_
  have hw : wrong1 na a [1] = 0 := by unfold wrong1; rw [if_pos (fault_can ca), if_pos rfl]
  rw [hw]
  refine (if_neg (by decide)).trans ?_
  exact l1 R _
theorem rdigit_c (l : List Int) (i : Nat) {R : Type} (K : Int → Option R) : rf_digit.c R (l, (i : Int)) K = K (l.getD i 0) := rf_digit.eq (rdigit l i) K
theorem val_small {y : List Int} (hy : Lim 65536 y) (ny : Nrm y) (h : val 65536 y < 1048576) : val 65536 y = y.getD 0 0 + y.getD 1 0 * 65536 := by
  have hl : y.length ≤ 2 := small_len (by decide) hy ny (by omega)
  match y, hl with
  | [], _ => rfl
  | [a], _ => simp [val]
  | [a, b], _ => simp [val]; omega
theorem small_c {neg : Bool} {y d : List Int} (hy : Lim 65536 y) (ny : Nrm y) (ly : y.length ≤ 256) :
    (val 65536 y < 1048576 → ∀ (R : Type) (K : Int × Bool → Option R), rf_small.c R (neg, y, d) K = K (val 65536 y, true)) ∧ (1048576 ≤ val 65536 y → ∀ (R : Type) (K : Int × Bool → Option R), rf_small.c R (neg, y, d) K = K (0, false)) := by
  obtain ⟨L, l1, l2, l3, l4⟩ := LenNat_ev y hy ny (by omega)
  have v0 := val_nonneg (show (0 : Int) < 65536 by decide) hy
  refine ⟨fun h R K => ?_, fun h R K => ?_⟩
  · have hL : ¬ 20 < L := by
      intro hL
      by_cases c : 0 < val 65536 y
      · have := (l3 c).2
        have h2 : (2 : Int) ^ 20 ≤ 2 ^ (L - 1) := pow_mono' (by decide) (by omega)
        omega
      · have : y = [] := (val_eq_zero (show (0 : Int) < 65536 by decide) hy ny).1 (by omega)
        subst this
        simp at l1
        omega
    have e := val_small hy ny h
    have d0 := hy.getD (by decide) 0
    have d1 := hy.getD (by decide) 1
    unfold rf_small.c
    refine (rf_LenNat.eq l4 _).trans ?_
    refine (if_neg (by simp; omega)).trans ?_
    refine (rdigit_c y 0 _).trans ?_
    refine (rdigit_c y 1 _).trans ?_
    have w1 : IntKind.i64.wrap (y.getD 1 0 * 65536) = y.getD 1 0 * 65536 := i64w _ (by omega) (by omega)
    have w2 : IntKind.i64.wrap (y.getD 0 0 + y.getD 1 0 * 65536) = val 65536 y := by rw [i64w _ (by omega) (by omega)]; exact e.symm
    rw [w1, w2]
  · have hL : 20 < L := by
      rcases Nat.lt_or_ge 20 L with h1 | h1
      · exact h1
      · have h2 : (2 : Int) ^ L ≤ 2 ^ 20 := pow_mono' (by decide) h1
        omega
    unfold rf_small.c
    refine (rf_LenNat.eq l4 _).trans ?_
    exact if_pos (by simp; omega)
theorem TwoL_eq {R : Type} (x y : Nm) (K : (Nm × Int) → Option R) : rf_TwoL.c R (108, x, y) K = RInts R x y K fun t3 t4 => rf_shift.c R (t3, t4) K := rfl
theorem rshift_c {na : Bool} {x : List Int} {nb : Bool} {y : List Int} (hx : Lim 65536 x) (nx : Nrm x) (hx0 : x = [] → na = false) (hy : Lim 65536 y) (ny : Nrm y) (lx : x.length ≤ 256) (ly : y.length ≤ 256) :
    (x = [] → ∃ m p q, (∀ (R : Type) (K : (Nm × Int) → Option R), rf_shift.c R ((na, x, [1]), (nb, y, [1])) K = K (outM m p q)) ∧ Rep m p q 0 1) ∧
    (x ≠ [] → val 65536 y ≤ 4096 → ∃ m p q, (∀ (R : Type) (K : (Nm × Int) → Option R), rf_shift.c R ((na, x, [1]), (nb, y, [1])) K = K (outM m p q)) ∧ Rep m p q (sgn na (shV na (val 65536 x) (!nb) (val 65536 y).toNat)) 1) ∧
    (x ≠ [] → 4096 < val 65536 y → (nb = false → ∀ (R : Type) (K : (Nm × Int) → Option R), rf_shift.c R ((na, x, [1]), (nb, y, [1])) K = K (bad 3)) ∧ (nb = true → ∃ m p q, (∀ (R : Type) (K : (Nm × Int) → Option R), rf_shift.c R ((na, x, [1]), (nb, y, [1])) K = K (outM m p q)) ∧ Rep m p q (if na = true then -1 else 0) 1)) := by
  have v0 := val_nonneg (show (0 : Int) < 65536 by decide) hy
  obtain ⟨sm1, sm2⟩ := small_c (neg := nb) (d := [1]) hy ny ly
  refine ⟨fun h => ?_, fun h hv => ?_, fun h hv => ⟨fun hn R K => ?_, fun hn => ?_⟩⟩
  · subst h
    obtain ⟨p, q, m1, m2⟩ := Made_c (rr_int hx nx hx0) (by omega) (by decide)
    have e : sgn na (val 65536 []) = 0 := sgn_zero na
    rw [e] at m2
    refine ⟨na, p, q, fun R K => ?_, m2⟩
    unfold rf_shift.c
    refine (if_pos rfl).trans ?_
    exact m1 R K
  · obtain ⟨M, hM⟩ := Int.eq_ofNat_of_zero_le v0
    have sm := sm1 (by omega)
    rw [hM] at sm hv ⊢
    rw [Int.toNat_natCast]
    cases nb with
    | false =>
      obtain ⟨s, s1, s2, s3, s4, s5⟩ := ShlNat_ev x M hx (by omega)
      obtain ⟨p, q, m1, m2⟩ := Made_c (rr_int (neg := na && decide (s ≠ [])) s2 s3 (fun h => by simp [h])) (by omega) (by decide)
      rw [sgn_cut', s4] at m2
      refine ⟨na && decide (s ≠ []), p, q, fun R K => ?_, m2⟩
      unfold rf_shift.c
      refine (if_neg (by simpa using h)).trans ?_
      refine (sm R _).trans ?_
      refine (if_neg (by simp)).trans ?_
      refine (if_pos (by simp)).trans ?_
      refine (if_neg (by simp; omega)).trans ?_
      refine (rf_ShlNat.eq s1 _).trans ?_
      refine (wend na s fun r => rf_Made.c R r K).trans ?_
      exact m1 R K
    | true =>
      obtain ⟨s, s1, s2, s3, s4, s5⟩ := ShrNat_ev x M hx nx (by omega) (by omega)
      obtain ⟨t, t1, t2, t3, t4, t5⟩ := AddNat_ev s [1] s2 ROne.1 (by omega) (by decide)
      rw [ROne.2.2] at t4
      have l1 : ([1] : List Int).length = 1 := rfl
      by_cases c : na = true ∧ val 65536 x % 2 ^ M ≠ 0
      · obtain ⟨rfl, c2⟩ := c
        obtain ⟨p, q, m1, m2⟩ := Made_c (rr_int (neg := true && decide (t ≠ [])) t2 t3 (fun h => by simp [h])) (by omega) (by decide)
        rw [sgn_cut', t4, s4] at m2
        refine ⟨true && decide (t ≠ []), p, q, fun R K => ?_, ?_⟩
        · unfold rf_shift.c
          refine (if_neg (by simpa using h)).trans ?_
          refine (sm R _).trans ?_
          refine (if_pos rfl).trans ?_
          refine (if_pos (by simp)).trans ?_
          refine (if_neg (by simp; omega)).trans ?_
          refine (rf_ShrNat.eq s1 _).trans ?_
          refine (if_pos rfl).trans ?_
          refine (if_pos (by simp [c2])).trans ?_
          refine (rf_AddNat.eq t1 _).trans ?_
          refine (wend true t fun r => rf_Made.c R r K).trans ?_
          exact m1 R K
        · unfold shV Fl
          rw [if_neg (by decide), if_pos ⟨rfl, rfl, c2⟩]
          exact m2
      · obtain ⟨p, q, m1, m2⟩ := Made_c (rr_int (neg := na && decide (s ≠ [])) s2 s3 (fun h => by simp [h])) (by omega) (by decide)
        rw [sgn_cut', s4] at m2
        refine ⟨na && decide (s ≠ []), p, q, fun R K => ?_, ?_⟩
        · unfold rf_shift.c
          refine (if_neg (by simpa using h)).trans ?_
          refine (sm R _).trans ?_
          refine (if_pos rfl).trans ?_
          refine (if_pos (by simp)).trans ?_
          refine (if_neg (by simp; omega)).trans ?_
          refine (rf_ShrNat.eq s1 _).trans ?_
          by_cases c1 : na = true
          · refine (if_pos c1).trans ?_
            have c2 : val 65536 x % 2 ^ M = 0 := Classical.not_not.1 fun c2 => c ⟨c1, c2⟩
            refine (if_neg (by simp [c2])).trans ?_
            refine (wend na s fun r => rf_Made.c R r K).trans ?_
            exact m1 R K
          · refine (if_neg c1).trans ?_
            refine (wend na s fun r => rf_Made.c R r K).trans ?_
            exact m1 R K
        · unfold shV Fl
          rw [if_neg (by decide), if_neg (fun h => c ⟨h.1, h.2.2⟩)]
          exact m2
  · subst hn
    unfold rf_shift.c
    refine (if_neg (by simpa using h)).trans ?_
    rcases (show val 65536 y < 1048576 ∨ 1048576 ≤ val 65536 y by omega) with c | c
    · refine (sm1 c R _).trans ?_
      refine (if_neg (by simp)).trans ?_
      refine (if_pos (by simp)).trans ?_
      exact if_pos (by simpa using hv)
    · refine (sm2 c R _).trans ?_
      refine (if_neg (by simp)).trans ?_
      exact if_neg (by simp)
  · subst hn
    have key : ∀ (R : Type) (K : (Nm × Int) → Option R), rf_shift.c R ((na, x, [1]), (true, y, [1])) K = if na = true then rf_Made.c R (true, [1], [1]) K else rf_Made.c R (false, [], [1]) K := by
      intro R K
      unfold rf_shift.c
      refine (if_neg (by simpa using h)).trans ?_
      rcases (show val 65536 y < 1048576 ∨ 1048576 ≤ val 65536 y by omega) with c | c
      · refine (sm1 c R _).trans ?_
        refine (if_pos rfl).trans ?_
        refine (if_pos (by simp)).trans ?_
        exact if_pos (by simpa using hv)
      · refine (sm2 c R _).trans ?_
        refine (if_pos rfl).trans ?_
        exact if_neg (by simp)
    cases na with
    | true =>
      obtain ⟨p, q, m1, m2⟩ := Made_c (rr_int (neg := true) ROne.1 ROne.2.1 (fun h => by cases h)) (by decide) (by decide)
      rw [ROne.2.2] at m2
      exact ⟨true, p, q, fun R K => (key R K).trans ((if_pos rfl).trans (m1 R K)), m2⟩
    | false =>
      obtain ⟨p, q, m1, m2⟩ := Made_c (rr_int (neg := false) (lim_nil 65536) nrm_nil (fun _ => rfl)) (by decide) (by decide)
      exact ⟨false, p, q, fun R K => (key R K).trans ((if_neg (by decide)).trans (m1 R K)), m2⟩
theorem sameLimbs_loop (a b : List Int) (hl : a.length = b.length) (hL : a.length ≤ 1099511627776) : ∀ (d i : Nat), d + i = a.length → a.take i = b.take i → Ev (fun k => lw_sameLimbs.l0 k a b (i : Int)) (decide (a = b)) := by
  intro d
  induction d with
  | zero =>
    intro i hd h
    rw [List.take_of_length_le (by omega), List.take_of_length_le (by omega)] at h
    refine Ev.step (f := fun _ => some true) (fun k => ?_) (Ev.eq (Ev.now _) (by rw [decide_eq_true h]))
    simp only [lw_sameLimbs.l0]
    rw [if_neg (by omega)]
  | succ d ih =>
    intro i hd h
    have g1 : (i : Int) < (a.length : Int) := by omega
    have g2 : (0 : Int) ≤ (i : Int) := by omega
    have g3 : (i : Int) < (b.length : Int) := by omega
    have gw : ∀ _ : Unit, wrap64 ((i : Int) + 1) = ((i + 1 : Nat) : Int) := fun _ => by rw [w64 (by omega) (by omega)]; omega
    by_cases c : a.getD i 0 = b.getD i 0
    · refine Ev.step (f := fun k => lw_sameLimbs.l0 k a b ((i + 1 : Nat) : Int)) (fun k => ?_) (ih (i + 1) (by omega) (by rw [take_succ' _ _ (by omega), take_succ' _ _ (by omega), h, c]))
      simp only [lw_sameLimbs.l0]
      rw [if_pos g1, if_pos g2, if_pos g3, rd_getD, rd_getD, if_pos c, gw ()]
    · refine Ev.step (f := fun _ => some false) (fun k => ?_) (Ev.eq (Ev.now _) (by rw [decide_eq_false]; rintro rfl; exact c rfl))
      simp only [lw_sameLimbs.l0]
      rw [if_pos g1, if_pos g2, if_pos g3, rd_getD, rd_getD, if_neg c]
theorem sameLimbs_ev (a b : List Int) (hL : a.length ≤ 1099511627776) : Ev (fun k => lw_sameLimbs.f k a b) (decide (a = b)) := by
  by_cases hl : a.length = b.length
  · refine Ev.congr (fun k => ?_) (sameLimbs_loop a b hl hL a.length 0 (by omega) rfl)
    unfold lw_sameLimbs.f
    rw [if_pos (by omega)]; rfl
  · refine Ev.ret fun k => ?_
    unfold lw_sameLimbs.f
    rw [if_neg (by omega), decide_eq_false (fun h => hl (by rw [h]))]
theorem same_c (m : Bool) (a b : List Int) (n : Bool) (c d : List Int) (hL : a.length ≤ 1099511627776) (hM : b.length ≤ 1099511627776) {R : Type} (K : Bool → Option R) : lw_same.c R ((m, a, b), (n, c, d)) K = K (decide (m = n ∧ a = c ∧ b = d)) := by
  unfold lw_same.c
  by_cases h : m = n
  · refine (if_pos (by simpa using h)).trans ((lw_sameLimbs.eq (sameLimbs_ev a c hL) _).trans ?_)
    by_cases h2 : a = c
    · refine (if_pos (decide_eq_true h2)).trans ((lw_sameLimbs.eq (sameLimbs_ev b d hM) _).trans ?_)
      simp [h, h2]
    · refine (if_neg (by simp [h2])).trans ?_
      simp [h2]
  · refine (if_neg (by simpa using h)).trans ?_
    simp [h]
theorem outM_eq {neg neg' : Bool} {p q p' q' : List Int} {N D : Int} (h : Rep neg p q N D) (h' : Rep neg' p' q' N D) (hD : D ≠ 0) : outM neg p q = outM neg' p' q' := by
  obtain ⟨rfl, rfl, rfl⟩ := h.unique (by decide) h' hD
  rfl
def Short (x : (Bool × List Int × List Int) × Int) : Prop := x.1.2.1.length ≤ 128 ∧ x.1.2.2.length ≤ 128
theorem short_out (neg : Bool) (p q : List Int) : Short (outM neg p q) := by
  unfold outM Short
  split
  · exact ⟨by decide, by decide⟩
  · rename_i h
    refine ⟨?_, ?_⟩ <;> dsimp only <;> omega
theorem short_bad (e : Int) : Short (bad e) := ⟨Nat.zero_le _, Nat.zero_le _⟩
theorem same_self {x : (Bool × List Int × List Int) × Int} (h : Short x) {R : Type} (K : Bool → Option R) : lw_same.c R ((x.1.1, x.1.2.1, x.1.2.2), (x.1.1, x.1.2.1, x.1.2.2)) K = K true := by
  obtain ⟨h1, h2⟩ := h
  rw [same_c _ _ _ _ _ _ (by omega) (by omega)]
  simp
theorem arith_step {x : (Bool × List Int × List Int) × Int} (h : Short x) {R : Type} (A B L : Option R) :
    (if (x.2 != x.2) = false then (lw_same.c R ((x.1.1, x.1.2.1, x.1.2.2), (x.1.1, x.1.2.1, x.1.2.2)) fun t => (if (!t) = true then A else L)) else B) = L := by
  rw [if_pos (by simp)]
  refine (same_self h _).trans ?_
  exact if_neg (by decide)
theorem outM_long {m : Bool} {p q : List Int} {N : Int} (h : Rep m p q N 1) (hN : 2 ^ 4096 ≤ N ∨ N ≤ -2 ^ 4096) : outM m p q = bad 3 := by
  have pq := h.pos (by decide)
  have pp := val_nonneg (show (0 : Int) < 4294967296 by decide) h.lp
  have e := h.eq
  rw [Int.mul_one] at e
  have hbig : (2 : Int) ^ 4096 ≤ val 4294967296 p := by
    have h1 : (1 : Int) ≤ val 4294967296 q := by omega
    rcases hN with h2 | h2
    · have h3 : 2 ^ 4096 * 1 ≤ N * val 4294967296 q := Int.mul_le_mul h2 h1 (by decide) (by have := two_pow_pos 4096; omega)
      rcases sgn_abs m (val 4294967296 p) with h4 | h4 <;> rw [h4] at e <;> have := two_pow_pos 4096 <;> omega
    · have h3 : 2 ^ 4096 * 1 ≤ (-N) * val 4294967296 q := Int.mul_le_mul (by omega) h1 (by decide) (by have := two_pow_pos 4096; omega)
      rw [Int.neg_mul] at h3
      rcases sgn_abs m (val 4294967296 p) with h4 | h4 <;> rw [h4] at e <;> have := two_pow_pos 4096 <;> omega
  have hl : 128 < p.length := by
    rcases Nat.lt_or_ge 128 p.length with h1 | h1
    · exact h1
    · have h2 := val_lt (show (0 : Int) < 4294967296 by decide) h.lp
      have h3 : (4294967296 : Int) ^ p.length ≤ 4294967296 ^ 128 := pow_mono' (by decide) h1
      have h4 : (4294967296 : Int) ^ 128 = 2 ^ 4096 := by rw [show (4294967296 : Int) = 2 ^ 32 from rfl, ← Int.pow_mul]
      omega
  unfold outM
  rw [if_pos (.inl hl)]
  rfl
theorem shV_zero (m l : Bool) (n : Nat) : shV m 0 l n = 0 := by
  unfold shV
  split
  · exact Int.zero_mul _
  · exact Fl_zero _ _ _
theorem shift_same {na : Bool} {a : List Int} {nb : Bool} {b : List Int} (ha : Lim 4294967296 a) (hb : Lim 4294967296 b) (ca : Can na a [1]) (cb : Can nb b [1]) :
    ∃ r, Short r ∧ (∀ (R : Type) (K : (Nm × Int) → Option R), number_Shift.c R ((na, a, [1]), (nb, b, [1])) K = K r) ∧ (∀ (R : Type) (K : (Nm × Int) → Option R), rf_TwoL.c R (108, (na, a, [1]), (nb, b, [1])) K = K r) := by
  obtain ⟨m, p, q, h1, h2⟩ := Shift_c ha hb ca cb
  obtain ⟨x, y, z1, hx, nx, hy, ny, vx, vy, lx, ly, x0, y0⟩ := RInts_ok ha hb ca cb
  obtain ⟨r1, r2, r3⟩ := rshift_c (na := na) (nb := nb) hx nx (fun h => ca.ng (x0.1 h)) hy ny lx ly
  have va := val_nonneg (show (0 : Int) < 4294967296 by decide) ha
  have vb := val_nonneg (show (0 : Int) < 4294967296 by decide) hb
  have hR : ∀ (R : Type) (K : (Nm × Int) → Option R), rf_TwoL.c R (108, (na, a, [1]), (nb, b, [1])) K = rf_shift.c R ((na, x, [1]), (nb, y, [1])) K := fun R K => (TwoL_eq _ _ _).trans (z1 R K _)
  by_cases a0 : x = []
  · obtain ⟨m', p', q', g1, g2⟩ := r1 a0
    have hz : val 4294967296 a = 0 := by rw [← vx, a0]; rfl
    rw [hz, shV_zero, sgn_zero] at h2
    exact ⟨_, short_out m p q, h1, fun R K => by rw [hR, g1, outM_eq g2 h2 (by decide)]⟩
  · have pa : 0 < val 4294967296 a := by rw [← vx]; exact val_pos (by decide) hx nx a0
    by_cases c : val 65536 y ≤ 4096
    · obtain ⟨m', p', q', g1, g2⟩ := r2 a0 c
      have hby : byOf (val 4294967296 b) = (val 65536 y).toNat := by unfold byOf; rw [← vy]; omega
      rw [hby, ← vx] at h2
      exact ⟨_, short_out m p q, h1, fun R K => by rw [hR, g1, outM_eq g2 h2 (by decide)]⟩
    · obtain ⟨g1, g2⟩ := r3 a0 (by omega)
      have hby : byOf (val 4294967296 b) = 4097 := by unfold byOf; rw [← vy]; omega
      rw [hby] at h2
      cases nb with
      | false =>
        have hb3 : outM m p q = bad 3 := by
          refine outM_long h2 ?_
          have e : shV na (val 4294967296 a) (!false) 4097 = val 4294967296 a * 2 ^ 4097 := if_pos rfl
          rw [e]
          have h3 : 1 * 2 ^ 4097 ≤ val 4294967296 a * 2 ^ 4097 := Int.mul_le_mul_of_nonneg_right (by omega) (by have := two_pow_pos 4097; omega)
          have h4 : (2 : Int) ^ 4096 ≤ 2 ^ 4097 := pow_mono' (by decide) (by decide)
          rcases sgn_abs na (val 4294967296 a * 2 ^ 4097) with h5 | h5 <;> rw [h5]
          · exact .inl (by omega)
          · exact .inr (by omega)
        rw [hb3] at h1
        exact ⟨bad 3, short_bad 3, h1, fun R K => by rw [hR, g1 rfl]⟩
      | true =>
        obtain ⟨m', p', q', g3, g4⟩ := g2 rfl
        have hlt : val 4294967296 a < 2 ^ 4097 := by
          have h3 := val_lt (show (0 : Int) < 4294967296 by decide) ha
          have h4 : (4294967296 : Int) ^ a.length ≤ 4294967296 ^ 128 := pow_mono' (by decide) ca.ln
          have h5 : (4294967296 : Int) ^ 128 = 2 ^ 4096 := by rw [show (4294967296 : Int) = 2 ^ 32 from rfl, ← Int.pow_mul]
          have h6 : (2 : Int) ^ 4096 ≤ 2 ^ 4097 := pow_mono' (by decide) (by decide)
          omega
        have hN : sgn na (shV na (val 4294967296 a) (!true) 4097) = if na = true then -1 else 0 := by
          have e : shV na (val 4294967296 a) (!true) 4097 = Fl na (val 4294967296 a) (2 ^ 4097) true := if_neg (by decide)
          rw [e]
          unfold Fl
          rw [Int.emod_eq_of_lt va hlt, Int.ediv_eq_zero_of_lt va hlt]
          cases na with
          | true => rw [if_pos ⟨rfl, rfl, by omega⟩]; rfl
          | false => rw [if_neg (by simp)]; rfl
        rw [hN] at h2
        exact ⟨_, short_out m p q, h1, fun R K => by rw [hR, g3, outM_eq g4 h2 (by decide)]⟩
theorem len_tail {na : Bool} {a da : List Int} (ha : Lim 4294967296 a) (hda : Lim 4294967296 da) {R : Type} (K : Bool → Option R) :
    (number_Length.c R (na, a, da) fun t4 => (rf_Fault.c R (na, a, da) fun t5 => (if (t5 == (0 : Int)) = true then (rf_Of.c R (na, a, da) fun t6 => (rf_IsInt.c R (t6.1, t6.2.1, t6.2.2) fun t7 => (if (!t7) = true then (if (t4.2 == (7 : Int)) = true then (if (t4.1 == (0 : Int)) = false then K false else (lw_counted.c R () fun t8 => K t8)) else K false) else (if (t4.2 == t5) = true then (if (t5 != (0 : Int)) = true then (if (t4.1 == (0 : Int)) = false then (if (t5 == (0 : Int)) = true then (rf_Of.c R (na, a, da) fun t9 => (rf_LenNat.c R t9.2.1 fun t10 => (if (t4.1 == t10) = true then (lw_counted.c R () fun t11 => K t11) else K false))) else K false) else (lw_counted.c R () fun t12 => K t12)) else (if (t5 == (0 : Int)) = true then (rf_Of.c R (na, a, da) fun t13 => (rf_LenNat.c R t13.2.1 fun t14 => (if (t4.1 == t14) = true then (lw_counted.c R () fun t15 => K t15) else K false))) else K false)) else K false)))) else (if (t4.2 == t5) = true then (if (t5 != (0 : Int)) = true then (if (t4.1 == (0 : Int)) = false then (if (t5 == (0 : Int)) = true then (rf_Of.c R (na, a, da) fun t16 => (rf_LenNat.c R t16.2.1 fun t17 => (if (t4.1 == t17) = true then (lw_counted.c R () fun t18 => K t18) else K false))) else K false) else (lw_counted.c R () fun t19 => K t19)) else (if (t5 == (0 : Int)) = true then (rf_Of.c R (na, a, da) fun t20 => (rf_LenNat.c R t20.2.1 fun t21 => (if (t4.1 == t21) = true then (lw_counted.c R () fun t22 => K t22) else K false))) else K false)) else K false)))) = K true := by
  by_cases h : fault na a da = 0
  · have ca := can_of_fault' h
    obtain ⟨x, u, x1, x2, x3, x4, x5, x6, x7⟩ := Of_c ha hda ca
    have hu : u = [1] ↔ da = [1] := by rw [← eq_one (show (1 : Int) < 65536 by decide) x2.lq x2.nq, ← eq_one (show (1 : Int) < 4294967296 by decide) hda ca.nd, x4]
    by_cases c : da = [1]
    · subst c
      obtain ⟨L, l1, l2, l3, l4⟩ := Length_c ha ca
      obtain ⟨M, m1, m2, m3, m4⟩ := LenNat_ev x x2.lp x2.np (by omega)
      have hLM : L = M := by
        refine len_unique (val_nonneg (show (0 : Int) < 4294967296 by decide) ha) l2 l3 (by rw [← x3]; exact m2) (by rw [← x3]; exact m3) (fun h0 => ?_)
        have ha0 := (val_eq_zero (show (0 : Int) < 4294967296 by decide) ha ca.nn).1 h0
        have hx0 := x7.2 ha0
        rw [hx0] at m1
        simp at m1
        exact ⟨l4 ha0, m1⟩
      refine (l1 R _).trans ?_
      refine (Fault_c na a [1] ha hda _).trans ?_
      rw [h]
      refine (if_pos rfl).trans ?_
      refine (x1 R _).trans ?_
      refine (IsInt_c x2.lq x2.nq (by omega) _).trans ?_
      refine (if_neg (by simp [hu])).trans ?_
      refine (if_pos rfl).trans ?_
      refine (if_neg (by decide)).trans ?_
      refine (if_pos rfl).trans ?_
      refine (x1 R _).trans ?_
      refine (rf_LenNat.eq m4 _).trans ?_
      exact if_pos (by simp [hLM])
    · have hw : wrong1 na a da = 7 := by unfold wrong1; rw [if_pos h, if_neg c]
      refine (Length_bad ha hda (by rw [hw]; decide) _).trans ?_
      rw [hw]
      refine (Fault_c na a da ha hda _).trans ?_
      rw [h]
      refine (if_pos rfl).trans ?_
      refine (x1 R _).trans ?_
      refine (IsInt_c x2.lq x2.nq (by omega) _).trans ?_
      refine (if_pos (by simp [hu, c])).trans ?_
      refine (if_pos rfl).trans ?_
      exact if_neg (by decide)
  · have hw : wrong1 na a da = fault na a da := by unfold wrong1; rw [if_neg h]
    refine (Length_bad ha hda (by rw [hw]; exact h) _).trans ?_
    rw [hw]
    refine (Fault_c na a da ha hda _).trans ?_
    refine (if_neg (by simpa using h)).trans ?_
    refine (if_pos (by simp)).trans ?_
    refine (if_pos (by simpa using h)).trans ?_
    exact if_neg (by simp)
theorem shift_pure (na : Bool) (a da : List Int) (nb : Bool) (b db : List Int) (ha : Lim 4294967296 a) (hda : Lim 4294967296 da) (hb : Lim 4294967296 b) (hdb : Lim 4294967296 db) {R : Type} (K : Bool → Option R) : lw_NumberShiftMatchesSpec.c R ((na, a, da), (nb, b, db)) K = K true := by
  have key : ∃ r, Short r ∧ (∀ (R : Type) (K : (Nm × Int) → Option R), number_Shift.c R ((na, a, da), (nb, b, db)) K = K r) ∧ (∀ (R : Type) (K : (Nm × Int) → Option R), rf_TwoL.c R (108, (na, a, da), (nb, b, db)) K = K r) := by
    by_cases h : wrong2 na a da nb b db = 0
    · obtain ⟨ca, cb, rfl, rfl⟩ := wrong2_ok h
      exact shift_same ha hb ca cb
    · exact ⟨_, short_bad _, fun R K => Shift_bad na a da nb b db ha hda hb hdb h K, fun R K => (TwoL_eq _ _ _).trans (RInts_bad na a da nb b db ha hda hb hdb h _ _)⟩
  obtain ⟨r, hs, h1, h2⟩ := key
  unfold lw_NumberShiftMatchesSpec.c
  refine (h1 R _).trans ?_
  refine (h2 R _).trans ?_
  refine (arith_step hs _ _ _).trans ?_
  exact len_tail ha hda K
end Go.Proofs.YtemnjgkicndmjaaGreatDoor.Q
namespace Go.Proofs.YtemnjgkicndmjaaGreatDoor.Q
open Go.ChangeShapes Go.WideShapes Go.ChangeAt Go.RowKit Go.Joins Go.Proofs.YtemnjgkicndmjaaGreatDoorW.PrintWords Go.Proofs.YtemnjgkicndmjaaGreatDoorW.PrintLast Go.Proofs.YtemnjgkicndmjaaGreatDoorW.PrintMore
set_option linter.unusedVariables false
theorem laidOut : laidOutB Tryz.prog = true := by kernel_rfl
theorem own : ownKnob Tryz.prog.godebug = none := by kernel_rfl
theorem lim_of_wf {zs : List Int} (h : ∀ n ∈ zs, (Lit.int .u32 n).wf = true) : Lim 4294967296 zs := by
  intro x hx
  have h1 := h x hx
  simp only [Lit.wf, Bool.and_eq_true, decide_eq_true_eq] at h1
  have e1 : IntKind.u32.min = 0 := by decide
  have e2 : IntKind.u32.max = 4294967295 := by decide
  omega
theorem open_limbs {H : Type} {enc : TypeId × Value → H} {W : World} {n : Nat} {c : Value} {y : DataW H × List MemPlace} (h : DataW.trod enc Tryz.prog W 0 (fun _ => true) true n 22 [c] = some y) :
    ∃ (A : Option Addr) (cap : Nat) (l : List Int), c = .slice A l.length cap ∧ l.length ≤ cap ∧ Kd.C (Kd.int .u32) W A l.length l ∧ Lim 4294967296 l := by
  rcases open_ints Tryz.underlying22 Tryz.underlying73 (by kernel_rfl) h with ⟨hcs, _⟩ | ⟨x, l, cp, zs, hcs, _, hl, hm, hz, _, hcell, hwz⟩
  · simp at hcs
    exact ⟨none, 0, [], hcs, Nat.le_refl _, Kd.C_of_reads (enc := Value.int .u32) (d := (0 : Int)) ⟨rfl, by decide, fun h => absurd h (Nat.lt_irrefl _)⟩, lim_nil _⟩
  · simp at hcs
    have hz' : zs.length = cp := by simpa using hz
    have hlen : (zs.take l).length = l := by rw [List.length_take]; omega
    refine ⟨some x, cp, zs.take l, by rw [hlen]; exact hcs, by rw [hlen]; exact hl, Kd.C_of_reads (enc := Value.int .u32) (d := (0 : Int)) ⟨rfl, by rw [hlen]; unfold maxLen at hm; omega, fun _ => ⟨x, rfl, fun j hj => ?_⟩⟩, (lim_of_wf hwz).take _⟩
    rw [hlen] at hj
    rw [hcell j (by omega), List.getD_eq_getElem?_getD, List.getD_eq_getElem?_getD, List.getElem?_take, if_pos hj]
set_option maxRecDepth 100000 in
theorem open_number {H : Type} {enc : TypeId × Value → H} {W : World} {b0 : Nat} {r : Reach} {v : Value} {d : DataW H} {p : List MemPlace} (hv : Value.okWide Tryz.prog W r b0 24 v) (h : DataW.Trod enc Tryz.prog W 0 (fun _ => true) true 24 v d p) :
    ∃ (neg : Bool) (A1 : Option Addr) (c1 : Nat) (l1 : List Int) (A2 : Option Addr) (c2 : Nat) (l2 : List Int), v = .agg #[.bool neg, .slice A1 l1.length c1, .slice A2 l2.length c2] ∧
      l1.length ≤ c1 ∧ Kd.C (Kd.int .u32) W A1 l1.length l1 ∧ Lim 4294967296 l1 ∧ l2.length ≤ c2 ∧ Kd.C (Kd.int .u32) W A2 l2.length l2 ∧ Lim 4294967296 l2 := by
  obtain ⟨v0, v1, v2, y0, y1, y2, n, rfl, rfl, rfl, h0, h1, h2⟩ := open_agg3 Tryz.underlying24 (by kernel_rfl) (by kernel_rfl) hv h
  obtain ⟨b, e0, rfl⟩ := DataW.trod_bool Tryz.underlying4 h0
  obtain ⟨A1, c1, l1, rfl, i1, k1, m1⟩ := open_limbs h1
  obtain ⟨A2, c2, l2, rfl, i2, k2, m2⟩ := open_limbs h2
  simp at e0
  subst e0
  exact ⟨b, A1, c1, l1, A2, c2, l2, rfl, i1, k1, m1, i2, k2, m2⟩
def accepted : List (Nat × Nat) := [(128, 191), (160, 191), (128, 159), (144, 191), (128, 143), (0, 0), (0, 0), (0, 0), (0, 0), (0, 0), (0, 0), (0, 0), (0, 0), (0, 0), (0, 0), (0, 0)]
noncomputable def laidFirst : Array Value := (Go.Pinned.utf8FirstZ.map fun (z : Nat) => Value.int .u8 (Int.ofNat z)).toArray
noncomputable def laidRanges : Array Value := (accepted.flatMap fun (z : Nat × Nat) => [Value.int .u8 (Int.ofNat z.1), Value.int .u8 (Int.ofNat z.2)]).toArray
noncomputable def laidWorld (os : Os) : World :=
  let w0 := World.holding Tryz.prog os ⟨#[], #[], []⟩
  { w0 with heap := (w0.heap.modify 1 (fun o => match o with
      | .cells _ t frozen => .cells laidFirst t frozen
      | o => o)).modify 2 (fun o => match o with
      | .cells _ t frozen => .cells laidRanges t frozen
      | o => o) }
set_option maxRecDepth 100000 in
theorem laid_met (os : Os) (args : Array Value) : laidMet Tryz.prog [("unicode/utf8.acceptRanges", Rows.laid_unicode_utf8_acceptRanges), ("unicode/utf8.first", Rows.laid_unicode_utf8_first)] ((laidWorld os).forCall (fun _ _ => 0) ⟨#[], args, []⟩).memory :=
  laidMet_of_run' 8 (by kernel_rfl) (by kernel_rfl)
end Go.Proofs.YtemnjgkicndmjaaGreatDoor.Q
namespace Go.Proofs.YtemnjgkicndmjaaGreatDoor.Q
open Go.ChangeShapes Go.WideShapes Go.ChangeAt Go.RowKit Go.Joins Go.Proofs.YtemnjgkicndmjaaGreatDoor.E Go.Proofs.YtemnjgkicndmjaaGreatDoorW.PrintWords Go.Proofs.YtemnjgkicndmjaaGreatDoorW.PrintLast Go.Proofs.YtemnjgkicndmjaaGreatDoorW.PrintMore
set_option linter.unusedVariables false
namespace LShiftLaw
set_option maxRecDepth 100000 in
theorem contract (H : Type) (enc : TypeId × Value → H) (W : World) (base : Nat) (args : Array Value) (ds gs : List (DataW H)) (before : List MemPlace)
    (hval : ∀ (j : Nat) t v, Tryz.f5.params[j]? = some t → args[j]? = some v → Value.okWide Tryz.prog W .any base t v)
    (hW : DataW.Whole enc Tryz.prog Tryz.f5.params.toList Rows.numberShiftMatchesSpecSpec.vars false W args.toList ds gs before) :
    Calls Tryz.prog 5 args W fun e W' => ∃ v, e = .returned v ∧ Rows.numberShiftMatchesSpecSpec.post enc Tryz.prog Tryz.f5 false true false false W args v W' := by
  have hW' := hW
  obtain ⟨p, q, hA0, hV, rfl, hfz, hnd⟩ := hW
  have hA : DataW.TrodAll enc Tryz.prog W 0 (fun _ => true) true Tryz.f5.params.toList args.toList ds p := hA0
  rw [Tryz.params5] at hA hval
  obtain ⟨v0, vs0, d0, ds0, p0, q0, hargs, rfl, rfl, h0, r0⟩ := trodAll_cons hA
  obtain ⟨v1, vs1, d1, ds1, p1, q1, rfl, rfl, rfl, h1, r1⟩ := trodAll_cons r0
  obtain ⟨rfl, rfl, rfl⟩ := trodAll_nil r1
  obtain rfl : args = #[v0, v1] := by cases args; simp_all
  obtain ⟨rfl, rfl⟩ := trodVars_none hV
  have k0 := h0
  have lt0 : ∀ x ∈ p0, x.block < W.heap.size := by obtain ⟨m, hm⟩ := k0; exact DataW.trod_lt m _ _ _ hm
  obtain ⟨s0, A0, c0, a0, B0, e0, d0, rfl, i0, m0, n0, j0, l0, o0⟩ := open_number (hval 0 24 v0 rfl rfl) h0
  have k1 := h1
  have lt1 : ∀ x ∈ p1, x.block < W.heap.size := by obtain ⟨m, hm⟩ := k1; exact DataW.trod_lt m _ _ _ hm
  obtain ⟨s1, A1, c1, a1, B1, e1, d1, rfl, i1, m1, n1, j1, l1, o1⟩ := open_number (hval 1 24 v1 rfl rfl) h1
  clear hA0
  simp only [List.append_nil] at hW'
  have hx := lw_NumberShiftMatchesSpec.sh.2 ((s0, a0, d0), (s1, a1, d1)) true (shift_pure s0 a0 d0 s1 a1 d1 n0 o0 n1 o1 some)
  refine (hx W (fun k => k < W.heap.size) _ (reps_cons (rep_num s0 i0 m0 j0 l0) (reps_cons (rep_num s1 i1 m1 j1 l1) reps_nil))).mono fun e W' ⟨v, he, bel, hv⟩ => ?_
  subst he
  have hv' : v = .bool true := by simpa only [Go.Proofs.YtemnjgkicndmjaaGreatDoor.E.cb, Go.Proofs.YtemnjgkicndmjaaGreatDoor.E.Rep] using hv
  subst hv'
  exact ⟨_, rfl, _, _, _, [], _, [], hW', trodAll_mk1 (shut_bool Tryz.underlying4 _), (trodAll_cons_mk (Below.trod laidOut (by kernel_rfl) (of_decide_eq_true (by kernel_rfl)) k0 bel lt0) (trodAll_cons_mk (Below.trod laidOut (by kernel_rfl) (of_decide_eq_true (by kernel_rfl)) k1 bel lt1) trodAll_mk0)), rfl, bel.frame _, fun h => by cases h⟩
theorem reads (os : Os) {H : Type} (enc : TypeId × Value → H) : ∃ places, DataW.whole enc Tryz.prog ((laidWorld os).forCall (fun _ _ => 0) ⟨#[], #[.agg #[.bool false, .slice none 0 0, .slice none 0 0], .agg #[.bool false, .slice none 0 0, .slice none 0 0]], []⟩).memory Tryz.f5.params.toList Rows.numberShiftMatchesSpecSpec.vars false #[Value.agg #[.bool false, .slice none 0 0, .slice none 0 0], .agg #[.bool false, .slice none 0 0, .slice none 0 0]].toList 8 = some ([.agg [.lit (.bool false), .nil, .nil], .agg [.lit (.bool false), .nil, .nil]], [], places) :=
  ⟨[], by kernel_rfl⟩
set_option maxRecDepth 100000 in
theorem lifted (os : Os) (started : os.Started) (H : Type) (enc : TypeId × Value → H) (F : Stop.Interp) :
    ReturnsInHanded {} Tryz.checked os 5 .any ((OpenSpec.ofChange Rows.numberShiftMatchesSpecSpec).preRow enc Tryz.prog Tryz.f5 Rows.numberShiftMatchesSpecRow.domain false Rows.numberShiftMatchesSpecRow.laid) (((OpenSpec.ofChange Rows.numberShiftMatchesSpecSpec).at F).post enc Tryz.prog Tryz.f5 false true false false) := by
  obtain ⟨places, hx⟩ := reads os enc
  refine returnsInHanded_of_row (C := Tryz.checked) (s := OpenSpec.ofChange Rows.numberShiftMatchesSpecSpec) own started (by kernel_rfl) Tryz.func5
    (witness_row_at (enc := enc) (C := Tryz.checked) false (laidWorld os) #[.agg #[.bool false, .slice none 0 0, .slice none 0 0], .agg #[.bool false, .slice none 0 0, .slice none 0 0]] rfl (by kernel_rfl) (by kernel_rfl) (by kernel_rfl)
      (OpenSpec.preRow_of_cond 8 hx (by kernel_rfl) (fun k hk => by cases hk) (by kernel_rfl) (laid_met os _))) ?_
  intro W base args ds gs before hval hW _ _ _ hL _ _
  exact contract H enc W base args ds gs before hval hW
theorem said : Rows.NumberShiftMatchesSpecSaid :=
  OpenClaim.holds_of_cond 5 Tryz.f5 rfl rfl rfl rfl rfl rfl rfl ⟨rfl, rfl, rfl, rfl, rfl⟩ rfl rfl rfl rfl rfl (by kernel_rfl) Tryz.func5 (by kernel_rfl)
    (of_decide_eq_true (by kernel_rfl)) (by unfold Func.isWrapper; first | (rw [if_pos (by decide +kernel)]; kernel_rfl) | (rw [if_neg (by decide +kernel)]; exact ⟨rfl, rfl⟩))
    (fun os started H enc _ F => by rw [OpenClaim.pre_eq_preRow]; exact lifted os started H enc F)
theorem plain (f : FuncId) (fn : Func) (hf : Tryz.pinned.checked.prog.funcNamed "fetterlock/fetterlocklaw1.NumberShiftMatchesSpec" = some f) (hfn : Tryz.pinned.checked.prog.funcs[f]? = some fn) :
    false = Tryz.pinned.checked.prog.looks [] ∧ ∀ (j : Nat) t, fn.params[j]? = some t → Tryz.pinned.checked.prog.wantsStandIn t = false := by
  obtain rfl : f = 5 := Option.some.inj ((show Tryz.prog.funcNamed "fetterlock/fetterlocklaw1.NumberShiftMatchesSpec" = some 5 by kernel_rfl).symm.trans hf) |>.symm
  obtain rfl : fn = Tryz.f5 := (Option.some.inj (Tryz.func5.symm.trans hfn)).symm
  refine ⟨by kernel_rfl, fun j t ht => ?_⟩
  rw [Tryz.params5] at ht
  have hm := Array.mem_of_getElem? ht
  obtain rfl : t = 24 := by simpa using hm
  exact (show Tryz.prog.wantsStandIn 24 = false by kernel_rfl)
theorem card : Rows.NumberShiftMatchesSpecCardSaid :=
  Claim7.holds_tied_plain_at .later [] _ _ _ _ said (fun _ h => by cases h) (by kernel_rfl) (fun _ h => by cases h) numberShiftMatchesSpec_row_tie rfl ⟨rfl, rfl⟩ (by kernel_rfl) rfl plain (by kernel_rfl)
end LShiftLaw
end Go.Proofs.YtemnjgkicndmjaaGreatDoor.Q
namespace Go.Proofs.YtemnjgkicndmjaaGreatDoor
theorem numberShiftMatchesSpec_holds : Rows.NumberShiftMatchesSpecCardSaid := Q.LShiftLaw.card
end Go.Proofs.YtemnjgkicndmjaaGreatDoor

