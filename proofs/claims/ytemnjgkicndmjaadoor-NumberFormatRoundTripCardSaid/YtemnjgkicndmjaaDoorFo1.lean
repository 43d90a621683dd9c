/- What this text proves: a part of the walk and of the plain laws of one card; no conditions. -/
import Derived.Test.YtemnjgkicndmjaaDoorFo0
namespace Go.Proofs.YtemnjgkicndmjaaDoor.Q
open Go.RowKit Go.Proofs.YtemnjgkicndmjaaDoorW.PrintWords Go.Proofs.YtemnjgkicndmjaaDoorW.PrintLast Go.Proofs.YtemnjgkicndmjaaDoorW.PrintMore
set_option linter.unusedVariables false
theorem rsub_loop (xs ys : List Int) (hx : Lim 65536 xs) (hy : Lim 65536 ys) (hge : val 65536 ys ≤ val 65536 xs) (hL : xs.length ≤ 1099511627776) : ∀ (d i : Nat) (out : List Int) (b : Int), d + i = xs.length → out.length = i → Lim 65536 out → 0 ≤ b → b ≤ 1 →
    val 65536 out - 65536 ^ i * b = val 65536 (xs.take i) - val 65536 (ys.take i) →
    ∃ r, Ev (fun k => rf_SubNat.l0 k xs ys out b (xs.length : Int) (i : Int)) (trim r) ∧ r.length = xs.length ∧ Lim 65536 r ∧ val 65536 r = val 65536 xs - val 65536 ys := by
  have hB : (0 : Int) < 65536 := by decide
  intro d
  induction d with
  | zero =>
    intro i out b hd hl ho hb0 hb hv
    refine ⟨out, Ev.step (f := fun k => (rf_trim.f k out).bind fun t => some t) (fun k => ?_) (Ev.bind (f := fun _ t => some t) (rtrim_ev out (by omega)) (Ev.now _)), by omega, ho, ?_⟩
    · simp only [rf_SubNat.l0]
      rw [if_neg (by omega)]
    · have h1 := val_lt hB hx
      have h2 := val_split' 65536 ys i
      have h3 := val_nonneg hB (hy.take i)
      have h4 := val_nonneg hB (hy.drop i)
      have h5 := val_lt hB ho
      have h6 := val_nonneg hB ho
      rw [List.take_of_length_le (by omega)] at hv
      rw [show xs.length = i by omega] at h1
      rw [hl] at h5
      have hp : (0 : Int) < 65536 ^ i := Int.pow_pos (by decide)
      generalize val 65536 (ys.drop i) = z at *
      have hz : z = 0 := by
        rcases Int.lt_or_le 0 z with h | h
        · have : 65536 ^ i * 1 ≤ 65536 ^ i * z := Int.mul_le_mul_of_nonneg_left (by omega) (by omega)
          omega
        · omega
      have hb1 : b = 0 := by
        rcases Int.lt_or_le 0 b with h | h
        · have e : b = 1 := by omega
          rw [e, Int.mul_one] at hv
          rw [hz, Int.mul_zero] at h2
          omega
        · omega
      rw [hb1, Int.mul_zero] at hv
      rw [hz, Int.mul_zero] at h2
      omega
  | succ d ih =>
    intro i out b hd hl ho hb0 hb hv
    have g1 : (i : Int) < (xs.length : Int) := by omega
    have g2 : (0 : Int) ≤ (i : Int) := by omega
    have g4 : out.length < 17592186044416 := by omega
    have g5 : d + (i + 1) = xs.length := by omega
    have g7 : ∀ _ : Unit, wrap64 ((i : Int) + 1) = ((i + 1 : Nat) : Int) := fun _ => by rw [w64 (by omega) (by omega)]; omega
    have hxi := hx.getD hB i
    have hyi := hy.getD hB i
    have tx := val_take_succ' 65536 xs i
    have ty := val_take_succ' 65536 ys i
    have hrd : rd xs (i : Int) = xs.getD i 0 := rd_getD xs i
    have hdg : rf_digit.f ys (i : Int) = some (ys.getD i 0) := rdigit ys i
    generalize xs.getD i 0 = x at *
    generalize ys.getD i 0 = y at *
    have e1 : ∀ _ : Unit, wrap64 (wrap64 (x - y) - b) = x - y - b := fun _ => by rw [w64 (x := x - y) (by omega) (by omega), w64 (by omega) (by omega)]
    have e2 : ∀ _ : Unit, wrap64 (x - y - b + 65536) = x - y - b + 65536 := fun _ => w64 (by omega) (by omega)
    by_cases c : x - y - b < 0
    · obtain ⟨r, hev, h⟩ := ih (i + 1) (out ++ [x - y - b + 65536]) 1 g5 (by rw [List.length_append, List.length_singleton, hl]) (lim_nrm_snoc ho ⟨by omega, by omega⟩) (by decide) (by decide) (by
        rw [val_snoc, hl, tx, ty, Int.pow_succ]
        grind)
      refine ⟨r, Ev.step (f := fun k => rf_SubNat.l0 k xs ys (out ++ [x - y - b + 65536]) 1 (xs.length : Int) ((i + 1 : Nat) : Int)) (fun k => ?_) hev, h⟩
      simp only [rf_SubNat.l0]
      rw [if_pos g1, if_pos g2, if_pos g1, hdg, Option.bind_some, hrd, e1 (), if_pos c, if_pos g4, e2 (), g7 ()]
    · obtain ⟨r, hev, h⟩ := ih (i + 1) (out ++ [x - y - b]) 0 g5 (by rw [List.length_append, List.length_singleton, hl]) (lim_nrm_snoc ho ⟨by omega, by omega⟩) (by decide) (by decide) (by
        rw [val_snoc, hl, tx, ty, Int.pow_succ]
        grind)
      refine ⟨r, Ev.step (f := fun k => rf_SubNat.l0 k xs ys (out ++ [x - y - b]) 0 (xs.length : Int) ((i + 1 : Nat) : Int)) (fun k => ?_) hev, h⟩
      simp only [rf_SubNat.l0]
      rw [if_pos g1, if_pos g2, if_pos g1, hdg, Option.bind_some, hrd, e1 (), if_neg c, if_pos g4, g7 ()]
theorem SubNat_ev (xs ys : List Int) (hx : Lim 65536 xs) (hy : Lim 65536 ys) (hge : val 65536 ys ≤ val 65536 xs) (hL : xs.length ≤ 1099511627776) :
    ∃ r, Ev (fun k => rf_SubNat.f k xs ys) r ∧ Lim 65536 r ∧ Nrm r ∧ val 65536 r = val 65536 xs - val 65536 ys ∧ r.length ≤ xs.length := by
  obtain ⟨r, h1, h2, h3, h4⟩ := rsub_loop xs ys hx hy hge hL xs.length 0 [] 0 (by omega) rfl (lim_nil _) (by decide) (by decide) (by simp [val])
  exact ⟨trim r, h1, lim_trim h3, nrm_trim _, by rw [val_trim, h4], by rw [← h2]; exact length_trim r⟩
theorem rhalf_loop (xs : List Int) (hx : Lim 65536 xs) (hL : xs.length ≤ 1099511627776) : ∀ (d i : Nat) (out : List Int), d + i = xs.length → out.length = xs.length → Lim 65536 out →
    val 65536 (out.take i) + 65536 ^ i * (val 65536 (xs.drop i) / 2) = val 65536 xs / 2 →
    ∃ r, Ev (fun k => rf_half.l0 k xs out (xs.length : Int) (i : Int)) (trim r) ∧ r.length = xs.length ∧ Lim 65536 r ∧ val 65536 r = val 65536 xs / 2 := by
  have hB : (0 : Int) < 65536 := by decide
  intro d
  induction d with
  | zero =>
    intro i out hd hl ho hv
    refine ⟨out, Ev.step (f := fun k => (rf_trim.f k out).bind fun t => some t) (fun k => ?_) (Ev.bind (f := fun _ t => some t) (rtrim_ev out (by omega)) (Ev.now _)), by omega, ho, ?_⟩
    · simp only [rf_half.l0]
      rw [if_neg (by omega)]
    · rw [List.take_of_length_le (by omega), List.drop_of_length_le (by omega)] at hv
      simp only [val, Int.zero_ediv, Int.mul_zero, Int.add_zero] at hv
      exact hv
  | succ d ih =>
    intro i out hd hl ho hv
    have g1 : (i : Int) < (xs.length : Int) := by omega
    have g2 : (0 : Int) ≤ (i : Int) := by omega
    have g3 : (i : Int) < (out.length : Int) := by omega
    have g4 : i < out.length := by omega
    have g5 : d + (i + 1) = xs.length := by omega
    have g7 : ∀ _ : Unit, wrap64 ((i : Int) + 1) = ((i + 1 : Nat) : Int) := fun _ => by rw [w64 (by omega) (by omega)]; omega
    have hxi := hx.getD hB i
    have hyi := hx.getD hB (i + 1)
    have d0 := val_drop' 65536 xs i
    have d1 := val_drop' 65536 xs (i + 1)
    have hrd : rd xs (i : Int) = xs.getD i 0 := rd_getD xs i
    have hsd := shr_digit (P := 2) (P' := 32768) (B := 65536) (D0 := xs.getD i 0) (D1 := xs.getD (i + 1) 0) (t := val 65536 (xs.drop (i + 1 + 1))) (by decide) (by decide) (by decide) hxi.1 hxi.2
    rw [← d1, ← d0] at hsd
    have hdg : xs.getD i 0 / 2 + xs.getD (i + 1) 0 % 2 * 32768 = ((xs.getD i 0 + 65536 * xs.getD (i + 1) 0) / 2) % 65536 := by
      generalize xs.getD i 0 = x at *
      generalize xs.getD (i + 1) 0 = y at *
      clear d0 d1 hsd hrd hv
      omega
    have hor : Go.bits .or .i64 (xs.getD i 0 / 2) (wrap64 (Go.bits .and .i64 (xs.getD (i + 1) 0) 1 * 32768)) = xs.getD i 0 / 2 + xs.getD (i + 1) 0 % 2 * 32768 := by
      generalize xs.getD i 0 = x at *
      generalize xs.getD (i + 1) 0 = y at *
      clear d0 d1 hsd hrd hv hdg
      rw [i64_and1 hyi.1 (by omega), w64 (by omega) (by omega), i64_or _ _ (by omega) (by omega) (by omega) (by omega), Nat.or_comm, nat_join 15]
      · omega
      · omega
      · omega
    have hlim : 0 ≤ xs.getD i 0 / 2 + xs.getD (i + 1) 0 % 2 * 32768 ∧ xs.getD i 0 / 2 + xs.getD (i + 1) 0 % 2 * 32768 < 65536 := by
      generalize xs.getD i 0 = x at *
      generalize xs.getD (i + 1) 0 = y at *
      clear d0 d1 hsd hrd hv hdg hor
      omega
    obtain ⟨r, hev, h⟩ := ih (i + 1) (out.set i (xs.getD i 0 / 2 + xs.getD (i + 1) 0 % 2 * 32768)) g5 (by rw [List.length_set, hl]) (ho.set _ hlim) (by
      rw [take_set_succ g4, val_snoc, List.length_take, Nat.min_eq_left (Nat.le_of_lt g4), hdg, ← hv, ← hsd, Int.pow_succ]
      grind)
    refine ⟨r, Ev.step (f := fun k => rf_half.l0 k xs (out.set i (xs.getD i 0 / 2 + xs.getD (i + 1) 0 % 2 * 32768)) (xs.length : Int) ((i + 1 : Nat) : Int)) (fun k => ?_) hev, h⟩
    simp only [rf_half.l0]
    rw [if_pos g1, if_pos g2, if_pos g1, g7 (), rdigit, Option.bind_some, if_pos g3, hrd, hor, Int.toNat_natCast]
theorem half_ev (xs : List Int) (hx : Lim 65536 xs) (hL : xs.length ≤ 1099511627776) :
    ∃ r, Ev (fun k => rf_half.f k xs) r ∧ Lim 65536 r ∧ Nrm r ∧ val 65536 r = val 65536 xs / 2 ∧ r.length ≤ xs.length := by
  obtain ⟨r, h1, h2, h3, h4⟩ := rhalf_loop xs hx hL xs.length 0 (List.replicate xs.length 0) (by omega) (by simp) (lim_replicate (by decide) _) (by simp [val])
  refine ⟨trim r, Ev.congr (fun k => ?_) h1, lim_trim h3, nrm_trim _, by rw [val_trim, h4], by rw [← h2]; exact length_trim r⟩
  unfold rf_half.f
  rw [if_pos (by omega), if_pos (by omega), Int.toNat_natCast]
  rfl
theorem rshl_loop (xs : List Int) (w b : Nat) (hx : Lim 65536 xs) (hb : b < 16) (hL : xs.length + w ≤ 549755813888) : ∀ (d i : Nat) (out : List Int) (c : Int), d + i = xs.length → out.length = w + i → Lim 65536 out → 0 ≤ c → c < 2 ^ b →
    val 65536 out + 65536 ^ (w + i) * c = 65536 ^ w * 2 ^ b * val 65536 (xs.take i) →
    ∃ r, Ev (fun k => rf_ShlNat.l0 k ((16 * w + b : Nat) : Int) out c xs (xs.length : Int) (i : Int)) (trim r) ∧ r.length = xs.length + w + 1 ∧ Lim 65536 r ∧ val 65536 r = 65536 ^ w * 2 ^ b * val 65536 xs := by
  have hB : (0 : Int) < 65536 := by decide
  have hp : (2 : Int) ^ b ≤ 32768 := by
    have := pow_mono' (B := 2) (by decide) (show b ≤ 15 by omega)
    exact this
  have hp0 : (0 : Int) < 2 ^ b := Int.pow_pos (by decide)
  have e1 : ∀ _ : Unit, Int.tmod ((16 * w + b : Nat) : Int) 16 = b := fun _ => by rw [Int.tmod_eq_emod_of_nonneg (by omega)]; omega
  intro d
  induction d with
  | zero =>
    intro i out c hd hl ho hc0 hc hv
    have hl2 : Lim 65536 (out ++ [c]) := lim_nrm_snoc ho ⟨hc0, by omega⟩
    refine ⟨out ++ [c], Ev.step (f := fun k => (rf_trim.f k (out ++ [c])).bind fun t => some t) (fun k => ?_) (Ev.bind (f := fun _ t => some t) (rtrim_ev (out ++ [c]) (by rw [List.length_append, List.length_singleton]; omega)) (Ev.now _)), by rw [List.length_append, List.length_singleton]; omega, hl2, ?_⟩
    · have g4 : out.length < 17592186044416 := by omega
      simp only [rf_ShlNat.l0]
      rw [if_neg (by omega), if_pos g4]
    · rw [val_snoc, hl, hv, List.take_of_length_le (by omega)]
  | succ d ih =>
    intro i out c hd hl ho hc0 hc hv
    have g1 : (i : Int) < (xs.length : Int) := by omega
    have g2 : (0 : Int) ≤ (i : Int) := by omega
    have g4 : out.length < 17592186044416 := by omega
    have g5 : d + (i + 1) = xs.length := by omega
    have g7 : ∀ _ : Unit, wrap64 ((i : Int) + 1) = ((i + 1 : Nat) : Int) := fun _ => by rw [w64 (by omega) (by omega)]; omega
    have g8 : (0 : Int) ≤ (b : Int) := by omega
    have hxi := hx.getD hB i
    have tx := val_take_succ' 65536 xs i
    have hrd : rd xs (i : Int) = xs.getD i 0 := rd_getD xs i
    generalize xs.getD i 0 = x at *
    have hx2 : 0 ≤ x * 2 ^ b := Int.mul_nonneg hxi.1 (by omega)
    have hx3 : x * 2 ^ b ≤ 65535 * 2 ^ b := Int.mul_le_mul_of_nonneg_right (by omega) (by omega)
    have hsh : shl .i64 x (b : Int) = x * 2 ^ b := by
      unfold shl
      rw [Int.toNat_natCast, Nat.min_eq_left (by simp [IntKind.bits]; omega), i64w _ hx2 (by omega)]
    have hor : Go.bits .or .i64 (x * 2 ^ b) c = x * 2 ^ b + c := by
      rw [i64_or _ _ hx2 (by omega) hc0 (by omega), nat_join b]
      · omega
      · have : (((x * 2 ^ b).toNat % 2 ^ b : Nat) : Int) = 0 := by
          rw [Int.natCast_emod, Int.toNat_of_nonneg hx2, Int.natCast_pow]
          exact Int.mul_emod_left _ _
        omega
      · have : ((c.toNat : Nat) : Int) < ((2 ^ b : Nat) : Int) := by
          rw [Int.toNat_of_nonneg hc0, Int.natCast_pow]; exact hc
        omega
    have hq : (x * 2 ^ b + c) / 65536 < 2 ^ b := Int.ediv_lt_of_lt_mul (by decide) (by omega)
    generalize hz : x * 2 ^ b + c = z at *
    have hz0 : 0 ≤ z := by omega
    have e3 : Int.tmod z 65536 = z % 65536 := Int.tmod_eq_emod_of_nonneg hz0
    have e4 : ∀ _ : Unit, wrap64 (Int.tdiv z 65536) = z / 65536 := fun _ => by rw [Int.tdiv_eq_ediv_of_nonneg hz0, w64 (by omega) (by omega)]
    have hz1 : 0 ≤ z / 65536 := by omega
    have hz2 : 0 ≤ z % 65536 ∧ z % 65536 < 65536 := by omega
    have hdm := Int.mul_ediv_add_emod z 65536
    generalize hzq : z / 65536 = q at *
    generalize hzr : z % 65536 = y at *
    obtain ⟨r, hev, h⟩ := ih (i + 1) (out ++ [y]) q g5 (by rw [List.length_append, List.length_singleton, hl, Nat.add_assoc]) (lim_nrm_snoc ho hz2) hz1 hq (by
      rw [val_snoc, hl, tx, ← Nat.add_assoc, Int.pow_succ]
      have e5 : (65536 : Int) ^ (w + i) = 65536 ^ w * 65536 ^ i := Int.pow_add _ _ _
      rw [e5] at hv ⊢
      clear hx3 hx2 hp hp0 hq hz0 hz1 hz2 hor hsh hrd
      grind)
    refine ⟨r, Ev.step (f := fun k => rf_ShlNat.l0 k ((16 * w + b : Nat) : Int) (out ++ [y]) q xs (xs.length : Int) ((i + 1 : Nat) : Int)) (fun k => ?_) hev, h⟩
    simp only [rf_ShlNat.l0]
    rw [if_pos g1, if_pos g2, if_pos g1, e1 (), if_pos g8, if_pos g4, hrd, hsh, hor, e3, e4 (), g7 ()]
theorem ShlNat_ev (xs : List Int) (n : Nat) (hx : Lim 65536 xs) (hL : xs.length + n / 16 ≤ 549755813888) :
    ∃ r, Ev (fun k => rf_ShlNat.f k xs (n : Int)) r ∧ Lim 65536 r ∧ Nrm r ∧ val 65536 r = val 65536 xs * 2 ^ n ∧ r.length ≤ xs.length + n / 16 + 1 := by
  have hB : (0 : Int) < 65536 := by decide
  by_cases hn : xs = []
  · subst hn
    exact ⟨[], Ev.const (by rfl), lim_nil _, nrm_nil, by simp [val], by simp⟩
  · obtain ⟨r, h1, h2, h3, h4⟩ := rshl_loop xs (n / 16) (n % 16) hx (by omega) hL xs.length 0 (List.replicate (n / 16) 0) 0 (by omega) (by simp) (lim_replicate hB _) (by decide) (Int.pow_pos (by decide))
      (by rw [val_replicate, List.take_zero]; simp [val])
    refine ⟨trim r, ?_, lim_trim h3, nrm_trim _, ?_, Nat.le_trans (length_trim _) (by omega)⟩
    · refine Ev.congr (fun k => ?_) h1
      unfold rf_ShlNat.f
      have hne : ¬ (xs.length : Int) = 0 := fun h => hn (List.length_eq_zero_iff.1 (by omega))
      have b1 : (0 : Int) ≤ ((n / 16 : Nat) : Int) := by omega
      have b2 : n / 16 ≤ 35184372088832 := by omega
      have en : 16 * (n / 16) + n % 16 = n := by omega
      have e : wrap64 (Int.tdiv (n : Int) 16) = ((n / 16 : Nat) : Int) := by
        rw [Int.tdiv_eq_ediv_of_nonneg (by omega), w64 (by omega) (by omega)]; omega
      rw [if_neg hne, e, if_pos b1, Int.toNat_natCast, if_pos b2, en]
      rfl
    · rw [val_trim, h4, show (65536 : Int) = 2 ^ 16 from rfl, ← Int.pow_mul, ← Int.pow_add, show 16 * (n / 16) + n % 16 = n by omega, Int.mul_comm]
theorem gcd_odd_half {a b : Nat} (h : Nat.gcd (2 * a) b % 2 = 1) : Nat.gcd (2 * a) b = Nat.gcd a b := by
  refine Nat.dvd_antisymm ?_ ?_
  · refine Nat.dvd_gcd ?_ (Nat.gcd_dvd_right _ _)
    have hc : Nat.Coprime (Nat.gcd (2 * a) b) 2 := by
      rw [Nat.coprime_comm]
      unfold Nat.Coprime
      rw [Nat.gcd_rec, h]
      decide
    exact hc.dvd_of_dvd_mul_left (Nat.gcd_dvd_left (2 * a) b)
  · exact Nat.dvd_gcd (Nat.dvd_trans (Nat.gcd_dvd_left a b) ⟨2, Nat.mul_comm 2 a⟩) (Nat.gcd_dvd_right a b)
structure GS (g N : Nat) (A B : List Int) (a b : Nat) : Prop where
  la : Lim 65536 A
  lb : Lim 65536 B
  na : Nrm A
  nb : Nrm B
  va : val 65536 A = a
  vb : val 65536 B = b
  sa : A.length ≤ N
  sb : B.length ≤ N
  gg : Nat.gcd a b = g
theorem gcdnat_loops (g N s : Nat) (hg : g % 2 = 1) (hN : N ≤ 4294967296) (hs : s ≤ 16 * N) : ∀ (m a b : Nat) (A B : List Int), a + b ≤ m → 0 < b → GS g N A B a b →
    (∃ r, Ev (fun k => rf_GcdNat.l1 k A B (s : Int)) r ∧ Lim 65536 r ∧ Nrm r ∧ val 65536 r = (g : Int) * 2 ^ s) ∧
    (0 < a → ∃ r, Ev (fun k => rf_GcdNat.l2 k A B (s : Int)) r ∧ Lim 65536 r ∧ Nrm r ∧ val 65536 r = (g : Int) * 2 ^ s) ∧
    (a % 2 = 1 → ∃ r, Ev (fun k => rf_GcdNat.l3 k A B (s : Int)) r ∧ Lim 65536 r ∧ Nrm r ∧ val 65536 r = (g : Int) * 2 ^ s) := by
  have hB : (0 : Int) < 65536 := by decide
  intro m
  induction m with
  | zero => intro a b A B hm hb0; omega
  | succ m ih =>
    intro a b A B hm hb0 H
    have h3 : a % 2 = 1 → ∃ r, Ev (fun k => rf_GcdNat.l3 k A B (s : Int)) r ∧ Lim 65536 r ∧ Nrm r ∧ val 65536 r = (g : Int) * 2 ^ s := by
      intro ha
      by_cases c : b % 2 = 0
      · obtain ⟨r, r1, r2, r3, r4, r5⟩ := half_ev B H.lb (by have := H.sb; omega)
        have hb2 : b = 2 * (b / 2) := by omega
        have hr4 : val 65536 r = ((b / 2 : Nat) : Int) := by rw [r4, H.vb]; omega
        have hgg : Nat.gcd a (b / 2) = g := by
          have h5 := H.gg
          rw [hb2, Nat.gcd_comm] at h5
          rw [Nat.gcd_comm, ← gcd_odd_half (by rw [h5]; exact hg), h5]
        obtain ⟨z, hz⟩ := (ih a (b / 2) A r (by omega) (by omega) ⟨H.la, r2, H.na, r3, H.va, hr4, H.sa, Nat.le_trans r5 H.sb, hgg⟩).2.2 ha
        refine ⟨z, Ev.step (f := fun k => (rf_half.f k B).bind fun t589 => rf_GcdNat.l3 k A t589 (s : Int)) (fun k => ?_) (Ev.bind (f := fun k t589 => rf_GcdNat.l3 k A t589 (s : Int)) r1 hz.1), hz.2⟩
        simp only [rf_GcdNat.l3]
        rw [rbit0 H.lb, Option.bind_some, H.vb, if_pos (by omega)]
      · have hbit : ∀ k, rf_GcdNat.l3 (k + 1) A B (s : Int) = ((rf_CmpNat.f k A B).bind fun t592 => (if t592 < 0 then ((rf_SubNat.f k B A).bind fun t593 => (rf_GcdNat.l1 k t593 A (s : Int))) else ((rf_SubNat.f k A B).bind fun t596 => (rf_GcdNat.l1 k t596 B (s : Int))))) := by
          intro k
          simp only [rf_GcdNat.l3]
          rw [rbit0 H.lb, Option.bind_some, H.vb, if_neg (by omega)]
        have hcmp := CmpNat_ev A B H.la H.lb (by have := H.sa; omega) (by have := H.sb; omega)
        rw [H.va, H.vb] at hcmp
        by_cases c2 : a < b
        · obtain ⟨r, r1, r2, r3, r4, r5⟩ := SubNat_ev B A H.lb H.la (by rw [H.va, H.vb]; omega) (by have := H.sb; omega)
          have hr4 : val 65536 r = ((b - a : Nat) : Int) := by rw [r4, H.va, H.vb]; omega
          have hgg : Nat.gcd (b - a) a = g := by
            rw [← H.gg, Nat.gcd_comm a b]
            exact Nat.gcd_sub_self_left (by omega)
          obtain ⟨z, hz⟩ := (ih (b - a) a r A (by omega) (by omega) ⟨r2, H.la, r3, H.na, hr4, H.va, Nat.le_trans r5 H.sb, H.sa, hgg⟩).1
          refine ⟨z, Ev.step hbit (Ev.bind (f := fun k t592 => (if t592 < 0 then ((rf_SubNat.f k B A).bind fun t593 => (rf_GcdNat.l1 k t593 A (s : Int))) else ((rf_SubNat.f k A B).bind fun t596 => (rf_GcdNat.l1 k t596 B (s : Int))))) hcmp ?_), hz.2⟩
          have e : cmpI (a : Int) (b : Int) = -1 := by unfold cmpI; rw [if_pos (by omega)]
          rw [e]
          exact Ev.congr (fun k => by rw [if_pos (by decide)]) (Ev.bind (f := fun k t593 => rf_GcdNat.l1 k t593 A (s : Int)) r1 hz.1)
        · obtain ⟨r, r1, r2, r3, r4, r5⟩ := SubNat_ev A B H.la H.lb (by rw [H.va, H.vb]; omega) (by have := H.sa; omega)
          have hr4 : val 65536 r = ((a - b : Nat) : Int) := by rw [r4, H.va, H.vb]; omega
          have hgg : Nat.gcd (a - b) b = g := by
            rw [← H.gg]
            exact Nat.gcd_sub_self_left (by omega)
          obtain ⟨z, hz⟩ := (ih (a - b) b r B (by omega) (by omega) ⟨r2, H.lb, r3, H.nb, hr4, H.vb, Nat.le_trans r5 H.sa, H.sb, hgg⟩).1
          refine ⟨z, Ev.step hbit (Ev.bind (f := fun k t592 => (if t592 < 0 then ((rf_SubNat.f k B A).bind fun t593 => (rf_GcdNat.l1 k t593 A (s : Int))) else ((rf_SubNat.f k A B).bind fun t596 => (rf_GcdNat.l1 k t596 B (s : Int))))) hcmp ?_), hz.2⟩
          have e : ¬ cmpI (a : Int) (b : Int) < 0 := by unfold cmpI; rw [if_neg (by omega)]; split <;> decide
          exact Ev.congr (fun k => by rw [if_neg e]) (Ev.bind (f := fun k t596 => rf_GcdNat.l1 k t596 B (s : Int)) r1 hz.1)
    have h2 : 0 < a → ∃ r, Ev (fun k => rf_GcdNat.l2 k A B (s : Int)) r ∧ Lim 65536 r ∧ Nrm r ∧ val 65536 r = (g : Int) * 2 ^ s := by
      intro ha0
      by_cases c : a % 2 = 0
      · obtain ⟨r, r1, r2, r3, r4, r5⟩ := half_ev A H.la (by have := H.sa; omega)
        have ha2 : a = 2 * (a / 2) := by omega
        have hr4 : val 65536 r = ((a / 2 : Nat) : Int) := by rw [r4, H.va]; omega
        have hgg : Nat.gcd (a / 2) b = g := by
          have h5 := H.gg
          rw [ha2] at h5
          rw [← gcd_odd_half (by rw [h5]; exact hg), h5]
        obtain ⟨z, hz⟩ := (ih (a / 2) b r B (by omega) hb0 ⟨r2, H.lb, r3, H.nb, hr4, H.vb, Nat.le_trans r5 H.sa, H.sb, hgg⟩).2.1 (by omega)
        refine ⟨z, Ev.step (f := fun k => (rf_half.f k A).bind fun t585 => rf_GcdNat.l2 k t585 B (s : Int)) (fun k => ?_) (Ev.bind (f := fun k t585 => rf_GcdNat.l2 k t585 B (s : Int)) r1 hz.1), hz.2⟩
        simp only [rf_GcdNat.l2]
        rw [rbit0 H.la, Option.bind_some, H.va, if_pos (by omega)]
      · obtain ⟨z, hz⟩ := h3 (by omega)
        refine ⟨z, Ev.step (f := fun k => rf_GcdNat.l3 k A B (s : Int)) (fun k => ?_) hz.1, hz.2⟩
        simp only [rf_GcdNat.l2]
        rw [rbit0 H.la, Option.bind_some, H.va, if_neg (by omega)]
    refine ⟨?_, h2, h3⟩
    by_cases c : a = 0
    · have hA : A = [] := (val_eq_zero hB H.la H.na).1 (by rw [H.va]; omega)
      have hbg : b = g := by
        have := H.gg
        rw [c, Nat.gcd_zero_left] at this
        exact this
      obtain ⟨r, r1, r2, r3, r4, r5⟩ := ShlNat_ev B s H.lb (by have := H.sb; omega)
      refine ⟨r, Ev.step (f := fun k => (rf_ShlNat.f k B (s : Int)).bind fun t => some t) (fun k => ?_) (Ev.bind (f := fun _ t => some t) r1 (Ev.now _)), r2, r3, by rw [r4, H.vb, hbg]⟩
      simp only [rf_GcdNat.l1]
      rw [hA, if_neg (by decide)]
    · obtain ⟨z, hz⟩ := h2 (by omega)
      have hA : A ≠ [] := by
        rintro rfl
        have h9 := H.va
        simp only [val] at h9
        clear ih h2 h3 hz
        exact c (by omega)
      have hAl : A.length ≠ 0 := fun h => hA (List.length_eq_zero_iff.1 h)
      refine ⟨z, Ev.step (f := fun k => rf_GcdNat.l2 k A B (s : Int)) (fun k => ?_) hz.1, hz.2⟩
      simp only [rf_GcdNat.l1]
      rw [if_pos (by omega)]
theorem gcdnat_l0 (N : Nat) (hN : N ≤ 4294967296) (G : Nat) : ∀ (m a b s : Nat) (A B : List Int), a + b ≤ m → 0 < a → 0 < b → GS (Nat.gcd a b) N A B a b → Nat.gcd a b * 2 ^ s = G → a * 2 ^ s < 2 ^ (16 * N) →
    ∃ r, Ev (fun k => rf_GcdNat.l0 k A B (s : Int)) r ∧ Lim 65536 r ∧ Nrm r ∧ val 65536 r = (G : Int) := by
  intro m
  induction m with
  | zero => intro a b s A B hm ha0; omega
  | succ m ih =>
    intro a b s A B hm ha0 hb0 H hG hs
    have hsN : s < 16 * N := by
      have h1 : 1 * 2 ^ s ≤ a * 2 ^ s := Nat.mul_le_mul_right _ (by omega)
      rw [Nat.one_mul] at h1
      exact (Nat.pow_lt_pow_iff_right (by omega : 1 < 2)).1 (Nat.lt_of_le_of_lt h1 hs)
    have hfin : Nat.gcd a b % 2 = 1 → ∃ r, Ev (fun k => rf_GcdNat.j1 k A B (s : Int) false) r ∧ Lim 65536 r ∧ Nrm r ∧ val 65536 r = (G : Int) := by
      intro hodd
      obtain ⟨r, r1, r2, r3, r4⟩ := (gcdnat_loops (Nat.gcd a b) N s hodd hN (by omega) (a + b) a b A B (Nat.le_refl _) hb0 H).1
      refine ⟨r, Ev.step (f := fun k => rf_GcdNat.l1 k A B (s : Int)) (fun k => ?_) r1, r2, r3, ?_⟩
      · simp only [rf_GcdNat.j1]
        rw [if_neg (by decide)]
      · rw [r4, ← hG, Int.natCast_mul, Int.natCast_pow]; rfl
    have hg2 : (a % 2 = 0 → b % 2 = 0 → False) → Nat.gcd a b % 2 = 1 := by
      intro h
      have h1 : ¬ 2 ∣ Nat.gcd a b := by
        intro hd
        exact h (Nat.mod_eq_zero_of_dvd (Nat.dvd_trans hd (Nat.gcd_dvd_left a b))) (Nat.mod_eq_zero_of_dvd (Nat.dvd_trans hd (Nat.gcd_dvd_right a b)))
      omega
    by_cases c : a % 2 = 0
    · by_cases c2 : b % 2 = 0
      · obtain ⟨r, r1, r2, r3, r4, r5⟩ := half_ev A H.la (by have := H.sa; omega)
        obtain ⟨t, t1, t2, t3, t4, t5⟩ := half_ev B H.lb (by have := H.sb; omega)
        have ha2 : a = 2 * (a / 2) := by omega
        have hb2 : b = 2 * (b / 2) := by omega
        have hr4 : val 65536 r = ((a / 2 : Nat) : Int) := by rw [r4, H.va]; omega
        have ht4 : val 65536 t = ((b / 2 : Nat) : Int) := by rw [t4, H.vb]; omega
        have hgg : Nat.gcd a b = 2 * Nat.gcd (a / 2) (b / 2) := by
          rw [← Nat.gcd_mul_left, ← ha2, ← hb2]
        obtain ⟨z, hz⟩ := ih (a / 2) (b / 2) (s + 1) r t (by omega) (by omega) (by omega) ⟨r2, t2, r3, t3, hr4, ht4, Nat.le_trans r5 H.sa, Nat.le_trans t5 H.sb, rfl⟩ (by
          rw [← hG, hgg, Nat.pow_succ]
          grind) (by
          rw [Nat.pow_succ]
          have : a / 2 * (2 ^ s * 2) = a * 2 ^ s := by
            conv => rhs; rw [ha2]
            grind
          omega)
        refine ⟨z, Ev.step (f := fun k => rf_GcdNat.j1 k A B (s : Int) true) (fun k => ?_) (Ev.step (f := fun k => (rf_half.f k A).bind fun t575 => (rf_half.f k B).bind fun t578 => rf_GcdNat.l0 k t575 t578 (((s + 1 : Nat)) : Int)) (fun k => ?_) (Ev.bind (f := fun k t575 => (rf_half.f k B).bind fun t578 => rf_GcdNat.l0 k t575 t578 (((s + 1 : Nat)) : Int)) r1 (Ev.bind (f := fun k t578 => rf_GcdNat.l0 k r t578 (((s + 1 : Nat)) : Int)) t1 hz.1))), hz.2⟩
        · simp only [rf_GcdNat.l0]
          rw [rbit0 H.la, Option.bind_some, H.va, if_pos (by omega), rbit0 H.lb, Option.bind_some, H.vb]
          have : ((b : Int) % 2 == 0) = true := by rw [beq_iff_eq]; omega
          rw [this]
        · have e : wrap64 ((s : Int) + 1) = ((s + 1 : Nat) : Int) := by rw [w64 (by omega) (by omega)]; omega
          simp only [rf_GcdNat.j1]
          rw [if_pos trivial, e]
      · obtain ⟨z, hz⟩ := hfin (hg2 (fun _ h => c2 h))
        refine ⟨z, Ev.step (f := fun k => rf_GcdNat.j1 k A B (s : Int) false) (fun k => ?_) hz.1, hz.2⟩
        simp only [rf_GcdNat.l0]
        rw [rbit0 H.la, Option.bind_some, H.va, if_pos (by omega), rbit0 H.lb, Option.bind_some, H.vb]
        have : ((b : Int) % 2 == 0) = false := by rw [beq_eq_false_iff_ne]; omega
        rw [this]
    · obtain ⟨z, hz⟩ := hfin (hg2 (fun h _ => c h))
      refine ⟨z, Ev.step (f := fun k => rf_GcdNat.j1 k A B (s : Int) false) (fun k => ?_) hz.1, hz.2⟩
      simp only [rf_GcdNat.l0]
      rw [rbit0 H.la, Option.bind_some, H.va, if_neg (by omega)]
theorem GcdNat_ev (A B : List Int) (hA : Lim 65536 A) (hB : Lim 65536 B) (nA : Nrm A) (nB : Nrm B) (sA : A.length ≤ 4294967296) (sB : B.length ≤ 4294967296) :
    ∃ r, Ev (fun k => rf_GcdNat.f k A B) r ∧ Lim 65536 r ∧ Nrm r ∧ val 65536 r = (Nat.gcd (val 65536 A).toNat (val 65536 B).toNat : Nat) := by
  have h0 : (0 : Int) < 65536 := by decide
  have a0 := val_nonneg h0 hA
  have b0 := val_nonneg h0 hB
  by_cases c : A = []
  · subst c
    refine ⟨B, Ev.congr (fun k => ?_) (Ev.now _), hB, nB, ?_⟩
    · unfold rf_GcdNat.f; rw [if_pos (by rfl)]
    · simp only [val, Int.toNat_zero, Nat.gcd_zero_left]; omega
  · by_cases c2 : B = []
    · subst c2
      refine ⟨A, Ev.congr (fun k => ?_) (Ev.now _), hA, nA, ?_⟩
      · have hl : A.length ≠ 0 := fun h => c (List.length_eq_zero_iff.1 h)
        unfold rf_GcdNat.f; rw [if_neg (by omega), if_pos (by rfl)]
      · simp only [val, Int.toNat_zero, Nat.gcd_zero_right]; omega
    · have a1 := val_pos h0 hA nA c
      have b1 := val_pos h0 hB nB c2
      have alt := val_lt h0 hA
      have hlA : A.length ≠ 0 := fun h => c (List.length_eq_zero_iff.1 h)
      have hlB : B.length ≠ 0 := fun h => c2 (List.length_eq_zero_iff.1 h)
      obtain ⟨r, r1, r2⟩ := gcdnat_l0 (max A.length B.length) (by omega) (Nat.gcd (val 65536 A).toNat (val 65536 B).toNat) ((val 65536 A).toNat + (val 65536 B).toNat) (val 65536 A).toNat (val 65536 B).toNat 0 A B (Nat.le_refl _) (by omega) (by omega)
        ⟨hA, hB, nA, nB, by omega, by omega, by omega, by omega, rfl⟩ (by rw [Nat.pow_zero, Nat.mul_one]) (by
          have h1 : (65536 : Int) ^ A.length ≤ 65536 ^ max A.length B.length := pow_mono' h0 (by omega)
          rw [Nat.pow_zero, Nat.mul_one, Nat.pow_mul]
          have h2 : (((2 ^ 16) ^ max A.length B.length : Nat) : Int) = (65536 : Int) ^ max A.length B.length := by rw [Int.natCast_pow]; rfl
          omega)
      refine ⟨r, Ev.congr (fun k => ?_) r1, r2⟩
      unfold rf_GcdNat.f
      rw [if_neg (by omega), if_neg (by omega)]
      rfl
theorem Fault_ev (neg : Bool) (num den : List Int) (hn : Lim 4294967296 num) (hd : Lim 4294967296 den) : Ev (fun k => rf_Fault.f k neg num den) (fault neg num den) := by
  have hB : (0 : Int) < 4294967296 := by decide
  by_cases s1 : num.length > 128
  · rw [fault_size (Or.inl s1)]
    refine Ev.congr (f := fun k => rf_Fault.j0 k true neg num den) (fun k => ?_) (Ev.step (f := fun _ => some 3) (fun k => ?_) (Ev.now _))
    · unfold rf_Fault.f; rw [if_pos (by omega)]
    · simp only [rf_Fault.j0]; rw [if_pos trivial]
  · by_cases s2 : den.length > 128
    · rw [fault_size (Or.inr s2)]
      refine Ev.congr (f := fun k => rf_Fault.j0 k true neg num den) (fun k => ?_) (Ev.step (f := fun _ => some 3) (fun k => ?_) (Ev.now _))
      · unfold rf_Fault.f; rw [if_neg (by omega), decide_eq_true (by omega)]
      · simp only [rf_Fault.j0]; rw [if_pos trivial]
    · have hj0 : ∀ r, Ev (fun k => rf_Fault.j0 k false neg num den) r → Ev (fun k => rf_Fault.f k neg num den) r := fun r h =>
        Ev.congr (fun k => by unfold rf_Fault.f; rw [if_neg (by omega), decide_eq_false (by omega)]) h
      have hbad : Ev (fun k => rf_Fault.j1 k true neg num den) 2 := Ev.step (f := fun _ => some 2) (fun k => by simp only [rf_Fault.j1]; rw [if_pos trivial]) (Ev.now _)
      by_cases c3 : den = []
      · rw [fault_bad (by omega) (by omega) (fun h => h.d0 c3)]
        refine hj0 _ (Ev.step (fun k => ?_) hbad)
        simp only [rf_Fault.j0]
        rw [if_neg (by decide), c3, if_pos (by rfl)]
      · have hdl : den.length ≠ 0 := fun h' => c3 (List.length_eq_zero_iff.1 h')
        by_cases c2 : Nrm den
        · have hs0 : ∀ k, rf_Fault.j0 (k + 1) false neg num den = (if (num.length : Int) > 0 then (if 0 ≤ (wrap64 ((num.length : Int) - 1)) then (if (wrap64 ((num.length : Int) - 1)) < (num.length : Int) then (rf_Fault.j1 k ((rd num (wrap64 ((num.length : Int) - 1))) == 0) neg num den) else (none)) else (none)) else (rf_Fault.j1 k false neg num den)) := by
            intro k
            simp only [rf_Fault.j0]
            rw [if_neg (by decide), if_neg (by omega), last_at c3 (by omega), if_pos (by omega), if_pos (by omega), rd_getD, if_neg ((nrm_last c3).1 c2)]
          by_cases c1 : Nrm num
          · have hs1 : ∀ k, rf_Fault.j0 (k + 1) false neg num den = rf_Fault.j1 k false neg num den := by
              intro k
              rw [hs0]
              by_cases c4 : num = []
              · rw [c4, if_neg (by decide)]
              · have hnl : num.length ≠ 0 := fun h' => c4 (List.length_eq_zero_iff.1 h')
                have hz : (num.getD (num.length - 1) 0 == 0) = false := by rw [beq_eq_false_iff_ne]; exact (nrm_last c4).1 c1
                rw [if_pos (by omega), last_at c4 (by omega), if_pos (by omega), if_pos (by omega), rd_getD, hz]
            refine hj0 _ (Ev.step hs1 ?_)
            obtain ⟨a, a1, a2, a3, a4, a5⟩ := natOf_ev num hn (by omega)
            obtain ⟨b, b1, b2, b3, b4, b5⟩ := natOf_ev den hd (by omega)
            have haz : a = [] ↔ num = [] := by rw [← val_eq_zero (by decide) a2 a3, a4, val_eq_zero hB hn c1]
            obtain ⟨g, g1, g2, g3, g4⟩ := GcdNat_ev a b a2 b2 a3 b3 (by omega) (by omega)
            rw [a4, b4] at g4
            have hdp := val_pos hB hd c2 c3
            have hgl : g.length ≤ b.length := by
              rcases Nat.lt_or_ge b.length g.length with h | h
              · have h5 := len_lt_val (B := 65536) (by decide) b2 g2 g3 h
                rw [g4, b4] at h5
                have h6 := Nat.gcd_le_right (val 4294967296 num).toNat (show 0 < (val 4294967296 den).toNat by omega)
                omega
              · exact h
            have hcg := CmpNat_ev g [1] g2 (one_lim (by decide)) (by omega) (by decide)
            rw [val_one, g4] at hcg
            have hcb := CmpNat_ev b [1] b2 (one_lim (by decide)) (by omega) (by decide)
            rw [val_one, b4] at hcb
            have hj2s : ∀ r : Int, (if cmpI ((Nat.gcd (val 4294967296 num).toNat (val 4294967296 den).toNat : Nat) : Int) 1 = 0 then (some 0 : Option Int) else some 2) = some r → Ev (fun k => rf_Fault.j2 k a b false) r := by
              intro r hr
              refine Ev.step (f := fun k => ((rf_GcdNat.f k a b).bind fun t612 => ((rf_CmpNat.f k t612 (([1] : List Int))).bind fun t618 => (if t618 = 0 then (some 0) else (some 2))))) (fun k => ?_) (Ev.bind (f := fun k t612 => ((rf_CmpNat.f k t612 (([1] : List Int))).bind fun t618 => (if t618 = 0 then (some 0) else (some 2)))) g1 (Ev.bind (f := fun _ t618 => (if t618 = 0 then (some 0) else (some 2))) hcg (Ev.const hr)))
              simp only [rf_Fault.j2]; rw [if_neg (by decide)]
            have hcz : cmpI ((Nat.gcd (val 4294967296 num).toNat (val 4294967296 den).toNat : Nat) : Int) 1 = 0 ↔ Nat.gcd (val 4294967296 num).toNat (val 4294967296 den).toNat = 1 := by
              unfold cmpI
              generalize Nat.gcd (val 4294967296 num).toNat (val 4294967296 den).toNat = z
              by_cases h2 : (z : Int) < 1
              · rw [if_pos h2]; omega
              · rw [if_neg h2]
                by_cases h3 : (z : Int) > 1
                · rw [if_pos h3]; omega
                · rw [if_neg h3]; omega
            have hj2a : Nat.gcd (val 4294967296 num).toNat (val 4294967296 den).toNat = 1 → Ev (fun k => rf_Fault.j2 k a b false) 0 := fun h => hj2s 0 (by rw [if_pos (hcz.2 h)])
            have hj2b : ¬ Nat.gcd (val 4294967296 num).toNat (val 4294967296 den).toNat = 1 → Ev (fun k => rf_Fault.j2 k a b false) 2 := fun h => hj2s 2 (by rw [if_neg (fun h' => h (hcz.1 h'))])
            have hj2t : Ev (fun k => rf_Fault.j2 k a b true) 2 := Ev.step (f := fun _ => some 2) (fun k => by simp only [rf_Fault.j2]; rw [if_pos trivial]) (Ev.now _)
            refine Ev.step (f := fun k => ((rf_natOf.f k num).bind fun t602 => ((rf_natOf.f k den).bind fun t605 => (if (t602.length : Int) = 0 then (if neg = true then (rf_Fault.j2 k t602 t605 true) else ((rf_CmpNat.f k t605 (([1] : List Int))).bind fun t611 => (rf_Fault.j2 k t602 t605 (t611 != 0)))) else (rf_Fault.j2 k t602 t605 false))))) (fun k => by simp only [rf_Fault.j1]; rw [if_neg (by decide)]) ?_
            refine Ev.bind (f := fun k t602 => ((rf_natOf.f k den).bind fun t605 => (if (List.length t602 : Int) = 0 then (if neg = true then (rf_Fault.j2 k t602 t605 true) else ((rf_CmpNat.f k t605 (([1] : List Int))).bind fun t611 => (rf_Fault.j2 k t602 t605 (t611 != 0)))) else (rf_Fault.j2 k t602 t605 false)))) a1 ?_
            refine Ev.bind (f := fun k t605 => (if (a.length : Int) = 0 then (if neg = true then (rf_Fault.j2 k a t605 true) else ((rf_CmpNat.f k t605 (([1] : List Int))).bind fun t611 => (rf_Fault.j2 k a t605 (t611 != 0)))) else (rf_Fault.j2 k a t605 false))) b1 ?_
            by_cases c4 : num = []
            · have ha0 : a = [] := haz.2 c4
              have hv0 : val 4294967296 num = 0 := by rw [c4]; rfl
              have hvd := val_nonneg hB hd
              have hl0 : (a.length : Int) = 0 := by rw [ha0]; rfl
              by_cases c5 : neg = true
              · rw [fault_bad (by omega) (by omega) (fun h => by have := h.ng c4; rw [c5] at this; cases this)]
                exact Ev.congr (fun k => by rw [if_pos hl0, if_pos c5]) hj2t
              · refine Ev.congr (fun k => by rw [if_pos hl0, if_neg c5]) (Ev.bind (f := fun k t611 => (rf_Fault.j2 k a b (t611 != 0))) hcb ?_)
                by_cases c6 : val 4294967296 den = 1
                · have hg1 : Nat.gcd (val 4294967296 num).toNat (val 4294967296 den).toNat = 1 := by rw [hv0, c6]; rfl
                  rw [fault_can ⟨by omega, by omega, c1, c2, c3, fun _ => by cases neg <;> simp_all, hg1⟩]
                  have e : (cmpI (val 4294967296 den) 1 != 0) = false := by rw [c6]; rfl
                  rw [e]
                  exact hj2a hg1
                · rw [fault_bad (by omega) (by omega) (fun h => c6 (by have := h.gc; rw [hv0, Int.toNat_zero, Nat.gcd_zero_left] at this; omega))]
                  have e : (cmpI (val 4294967296 den) 1 != 0) = true := by
                    unfold cmpI
                    by_cases h2 : val 4294967296 den < 1
                    · rw [if_pos h2]; rfl
                    · rw [if_neg h2, if_pos (by omega)]; rfl
                  rw [e]
                  exact hj2t
            · have ha0 : a ≠ [] := fun h => c4 (haz.1 h)
              have hl0 : ¬ (a.length : Int) = 0 := fun h => ha0 (List.length_eq_zero_iff.1 (by omega))
              refine Ev.congr (f := fun k => rf_Fault.j2 k a b false) (fun k => by rw [if_neg hl0]) ?_
              by_cases c6 : Nat.gcd (val 4294967296 num).toNat (val 4294967296 den).toNat = 1
              · rw [fault_can ⟨by omega, by omega, c1, c2, c3, fun h => absurd h c4, c6⟩]
                exact hj2a c6
              · rw [fault_bad (by omega) (by omega) (fun h => c6 h.gc)]
                exact hj2b c6
          · rw [fault_bad (by omega) (by omega) (fun h => c1 h.nn)]
            refine hj0 _ (Ev.step (fun k => ?_) hbad)
            rw [hs0]
            have c4 : num ≠ [] := fun h => c1 (by rw [h]; exact nrm_nil)
            have hnl : num.length ≠ 0 := fun h' => c4 (List.length_eq_zero_iff.1 h')
            have hz : (num.getD (num.length - 1) 0 == 0) = true := by
              rw [beq_iff_eq]; exact Decidable.not_not.1 (fun h => c1 ((nrm_last c4).2 h))
            rw [if_pos (by omega), last_at c4 (by omega), if_pos (by omega), if_pos (by omega), rd_getD, hz]
        · rw [fault_bad (by omega) (by omega) (fun h => c2 h.nd)]
          refine hj0 _ (Ev.step (fun k => ?_) hbad)
          simp only [rf_Fault.j0]
          rw [if_neg (by decide), if_neg (by omega), last_at c3 (by omega), if_pos (by omega), if_pos (by omega), rd_getD, if_pos (Decidable.not_not.1 (fun h => c2 ((nrm_last c3).2 h)))]
theorem ev_rounds {α : Type} {g : Nat → Option α} {r : α} (h : Ev g r) : ∃ k, g k = some r := by
  obtain ⟨K, hK⟩ := h
  exact ⟨K, hK K (Nat.le_refl _)⟩
theorem sameLimbs_loop (a b : List Int) (hl : a.length = b.length) (hL : a.length ≤ 1099511627776) : ∀ (d i : Nat), d + i = a.length → a.take i = b.take i → Ev (fun k => lw_sameLimbs.l0 k a b (i : Int)) (decide (a = b)) := by
  intro d
  induction d with
  | zero =>
    intro i hd h
    rw [List.take_of_length_le (by omega), List.take_of_length_le (by omega)] at h
    refine Ev.step (f := fun _ => some true) (fun k => ?_) (Ev.eq (Ev.now _) (by rw [decide_eq_true h]))
    simp only [lw_sameLimbs.l0]
    rw [if_neg (by omega)]
  | succ d ih =>
    intro i hd h
    have g1 : (i : Int) < (a.length : Int) := by omega
    have g2 : (0 : Int) ≤ (i : Int) := by omega
    have g3 : (i : Int) < (b.length : Int) := by omega
    have gw : ∀ _ : Unit, wrap64 ((i : Int) + 1) = ((i + 1 : Nat) : Int) := fun _ => by rw [w64 (by omega) (by omega)]; omega
    by_cases c : a.getD i 0 = b.getD i 0
    · refine Ev.step (f := fun k => lw_sameLimbs.l0 k a b ((i + 1 : Nat) : Int)) (fun k => ?_) (ih (i + 1) (by omega) (by rw [take_succ' _ _ (by omega), take_succ' _ _ (by omega), h, c]))
      simp only [lw_sameLimbs.l0]
      rw [if_pos g1, if_pos g2, if_pos g3, rd_getD, rd_getD, if_pos c, gw ()]
    · refine Ev.step (f := fun _ => some false) (fun k => ?_) (Ev.eq (Ev.now _) (by rw [decide_eq_false]; rintro rfl; exact c rfl))
      simp only [lw_sameLimbs.l0]
      rw [if_pos g1, if_pos g2, if_pos g3, rd_getD, rd_getD, if_neg c]
theorem sameLimbs_ev (a b : List Int) (hL : a.length ≤ 1099511627776) : Ev (fun k => lw_sameLimbs.f k a b) (decide (a = b)) := by
  by_cases hl : a.length = b.length
  · refine Ev.congr (fun k => ?_) (sameLimbs_loop a b hl hL a.length 0 (by omega) rfl)
    unfold lw_sameLimbs.f
    rw [if_pos (by omega)]; rfl
  · refine Ev.ret fun k => ?_
    unfold lw_sameLimbs.f
    rw [if_neg (by omega), decide_eq_false (fun h => hl (by rw [h]))]
theorem same_ev (m : Bool) (a b : List Int) (n : Bool) (c d : List Int) (hL : a.length ≤ 1099511627776) (hM : b.length ≤ 1099511627776) : Ev (fun k => lw_same.f k m a b n c d) (decide (m = n ∧ a = c ∧ b = d)) := by
  by_cases h : m = n
  · refine Ev.congr (f := fun k => (lw_sameLimbs.f k a c).bind fun t518 => (if t518 = true then ((lw_sameLimbs.f k b d).bind fun t519 => (some t519)) else (some false))) (fun k => by unfold lw_same.f; rw [if_pos (by simpa using h)]) ?_
    refine Ev.bind (f := fun k t518 => (if t518 = true then ((lw_sameLimbs.f k b d).bind fun t519 => (some t519)) else (some false))) (sameLimbs_ev a c hL) ?_
    by_cases h2 : a = c
    · refine Ev.congr (f := fun k => (lw_sameLimbs.f k b d).bind fun t519 => (some t519)) (fun k => by rw [if_pos (decide_eq_true h2)]) ?_
      refine Ev.bind (f := fun _ t519 => some t519) (sameLimbs_ev b d hM) (Ev.eq (Ev.now _) ?_)
      simp [h, h2]
    · exact Ev.ret fun k => by rw [if_neg (by simp [h2])]; simp [h2]
  · exact Ev.ret fun k => by unfold lw_same.f; rw [if_neg (by simpa using h)]; simp [h]
theorem small_len {B : Int} (hB : 1 < B) {xs : List Int} (h : Lim B xs) (hn : Nrm xs) {n : Nat} (hv : val B xs < B ^ n) : xs.length ≤ n := by
  rcases Nat.lt_or_ge n xs.length with c | c
  · have h0 : xs ≠ [] := by rintro rfl; simp at c
    have h1 := val_ge (by omega) h hn h0
    have h2 := pow_mono' (show 0 < B by omega) (show n ≤ xs.length - 1 by omega)
    omega
  · exact c
def dg : Nat → Int → List Int
  | 0, _ => []
  | n + 1, g => g % 10 :: dg n (g / 10)
theorem dg_length : ∀ (n : Nat) (g : Int), (dg n g).length = n
  | 0, _ => rfl
  | n + 1, g => by rw [dg, List.length_cons, dg_length n]
theorem dg_lim : ∀ (n : Nat) (g : Int), Lim 10 (dg n g)
  | 0, _ => lim_nil _
  | n + 1, g => lim_cons.2 ⟨⟨by omega, by omega⟩, dg_lim n _⟩
theorem dg_val : ∀ (n : Nat) (g : Int), 0 ≤ g → g < 10 ^ n → val 10 (dg n g) = g
  | 0, g, h0, h1 => by simp at h1; simp [dg, val]; omega
  | n + 1, g, h0, h1 => by
    rw [Int.pow_succ] at h1
    have h2 := dg_val n (g / 10) (by omega) (Int.ediv_lt_of_lt_mul (by decide) h1)
    rw [dg, val, h2]; omega
def fd : List Int → List Int
  | [] => []
  | g :: r => dg 9 g ++ fd r
theorem fd_lim : ∀ (G : List Int), Lim 10 (fd G)
  | [] => lim_nil _
  | g :: r => lim_append.2 ⟨dg_lim 9 g, fd_lim r⟩
theorem fd_val : ∀ (G : List Int), Lim 1000000000 G → val 10 (fd G) = val 1000000000 G
  | [], _ => rfl
  | g :: r, h => by
    obtain ⟨h1, h2⟩ := lim_cons.1 h
    rw [fd, val_append, dg_length, dg_val 9 g h1.1 (by have := h1.2; omega), fd_val r h2, val]
    rfl
theorem fd_length : ∀ (G : List Int), (fd G).length = 9 * G.length
  | [] => rfl
  | g :: r => by rw [fd, List.length_append, dg_length, fd_length r, List.length_cons]; omega
def chs (ds : List Int) : List Int := ds.reverse.map (48 + ·)
theorem chs_append (a b : List Int) : chs (a ++ b) = chs b ++ chs a := by simp [chs]
theorem chs_length (a : List Int) : (chs a).length = a.length := by simp [chs]
theorem rd_append_left (a b : List Int) (i : Nat) (h : i < a.length) : (a ++ b).getD i 0 = a.getD i 0 := by
  rw [List.getD_eq_getElem?_getD, List.getD_eq_getElem?_getD, List.getElem?_append_left h]
theorem decimal_l2 (G out : List Int) (i : Nat) (R : ByteArray) (hL : out.length + 9 < 140737488355328) (hi : i ≤ 2147483648) : ∀ (j : Nat) (h : Int) (p : List Int), j ≤ 9 → p.length = 9 → 0 ≤ h → h < 4294967296 →
    Ev (fun k => nat_Decimal.l1 k G (out ++ (chs (dg j h) ++ p.drop j)) ((i : Int) - 1)) R → Ev (fun k => nat_Decimal.l2 k G out (i : Int) h p ((j : Int) - 1)) R := by
  intro j
  induction j with
  | zero =>
    intro h p _ hp h0 h1 hR
    refine Ev.step (f := fun k => nat_Decimal.l1 k G (out ++ p) (wrap64 ((i : Int) - 1))) (fun k => ?_) ?_
    · simp only [nat_Decimal.l2]
      rw [if_neg (by decide), if_pos (by omega)]
    · rw [w64 (by omega) (by omega)]; exact hR
  | succ j ih =>
    intro h p hj hp h0 h1 hR
    have e1 : (((j + 1 : Nat) : Int) - 1) = (j : Int) := by omega
    have g1 : (j : Int) ≥ 0 := by omega
    have g2 : (j : Int) < (p.length : Int) := by omega
    have g3 : ∀ _ : Unit, wrap64 ((j : Int) - 1) = (j : Int) - 1 := fun _ => w64 (by omega) (by omega)
    have e2 : ∀ _ : Unit, (Int.tdiv h 10) % 4294967296 = h / 10 := fun _ => by rw [Int.tdiv_eq_ediv_of_nonneg h0]; omega
    have e3 : ∀ _ : Unit, ((48 + (Int.tmod h 10)) % 4294967296) % 256 = 48 + h % 10 := fun _ => by rw [Int.tmod_eq_emod_of_nonneg h0]; omega
    refine Ev.step (f := fun k => nat_Decimal.l2 k G out (i : Int) (h / 10) (p.set j (48 + h % 10)) ((j : Int) - 1)) (fun k => ?_) (ih (h / 10) (p.set j (48 + h % 10)) (by omega) (by rw [List.length_set, hp]) (by omega) (by omega) ?_)
    · simp only [nat_Decimal.l2]
      rw [e1, if_pos g1, if_pos g1, if_pos g2, e2 (), e3 (), g3 (), Int.toNat_natCast]
    · have e4 : chs (dg (j + 1) h) ++ p.drop (j + 1) = chs (dg j (h / 10)) ++ (p.set j (48 + h % 10)).drop j := by
        have e5 : (p.set j (48 + h % 10)).drop j = (48 + h % 10) :: p.drop (j + 1) := by
          rw [drop_cons' _ _ (by rw [List.length_set]; omega), List.getD_eq_getElem?_getD, List.getElem?_set_self (by omega), List.drop_set_of_lt (by omega)]; rfl
        rw [e5]
        simp [chs, dg]
      rw [← e4]; exact hR
theorem decimal_l1 (G : List Int) (hG : Lim 1000000000 G) (hL : G.length ≤ 2147483648) (R : ByteArray) : ∀ (i : Nat) (out : List Int), i ≤ G.length → out.length = 9 * (G.length - i) → out = chs (fd (G.drop i)) → Ev (fun k => nat_Decimal.l3 k (chs (fd G)) 0) R →
    Ev (fun k => nat_Decimal.l1 k G out ((i : Int) - 1)) R := by
  intro i
  induction i with
  | zero =>
    intro out _ hl ho hR
    rw [List.drop_zero] at ho
    refine Ev.step (f := fun k => nat_Decimal.l3 k out 0) (fun k => ?_) (by rw [ho]; exact hR)
    simp only [nat_Decimal.l1]
    rw [if_neg (by decide)]
  | succ i ih =>
    intro out hi hl ho hR
    have e1 : (((i + 1 : Nat) : Int) - 1) = (i : Int) := by omega
    have g1 : (i : Int) ≥ 0 := by omega
    have g2 : (i : Int) < (G.length : Int) := by omega
    have hx := hG.getD (by decide) i
    refine Ev.step (f := fun k => nat_Decimal.l2 k G out (i : Int) (G.getD i 0) (List.replicate 9 0) 8) (fun k => ?_) ?_
    · simp only [nat_Decimal.l1]
      rw [e1, if_pos g1, if_pos g1, if_pos g2, if_pos (by decide), rd_getD]
    · refine decimal_l2 G out i R (by omega) (by omega) 9 (G.getD i 0) (List.replicate 9 0) (Nat.le_refl _) (by simp) hx.1 (by omega) ?_
      have e2 : out ++ (chs (dg 9 (G.getD i 0)) ++ (List.replicate 9 (0 : Int)).drop 9) = chs (fd (G.drop i)) := by
        rw [List.drop_of_length_le (by simp), List.append_nil, ho, drop_cons' G i (by omega), fd, chs_append]
      rw [e2]
      exact ih _ (by omega) (by rw [chs_length, fd_length, List.length_drop]) rfl hR
theorem decimal_l3 : ∀ (out pre : List Int), (∃ x, x ∈ out ∧ x ≠ 48) → pre.length + out.length ≤ 1099511627776 → Ev (fun k => nat_Decimal.l3 k (pre ++ out) (pre.length : Int)) (strOfNums (out.dropWhile (· == 48))) := by
  intro out
  induction out with
  | nil => intro pre h; obtain ⟨x, hx, _⟩ := h; cases hx
  | cons x out ih =>
    intro pre h hL
    rw [List.length_cons] at hL
    have g1 : (0 : Int) ≤ (pre.length : Int) := by omega
    have g2 : (pre.length : Int) < ((pre ++ x :: out).length : Int) := by rw [List.length_append, List.length_cons]; omega
    have e1 : rd (pre ++ x :: out) (pre.length : Int) = x := by rw [rd_getD, List.getD_eq_getElem?_getD, List.getElem?_append_right (Nat.le_refl _)]; simp
    by_cases c : x = 48
    · have h2 : ∃ y, y ∈ out ∧ y ≠ 48 := by
        obtain ⟨y, hy, hne⟩ := h
        rcases List.mem_cons.1 hy with e | hy
        · exact absurd (e.trans c) hne
        · exact ⟨y, hy, hne⟩
      have h3 := ih (pre ++ [x]) h2 (by rw [List.length_append, List.length_singleton]; omega)
      rw [List.append_assoc, List.singleton_append, List.length_append, List.length_singleton] at h3
      have e2 : wrap64 ((pre.length : Int) + 1) = ((pre.length + 1 : Nat) : Int) := by rw [w64 (by omega) (by omega)]; omega
      refine Ev.step (f := fun k => nat_Decimal.l3 k (pre ++ x :: out) ((pre.length + 1 : Nat) : Int)) (fun k => ?_) (Ev.eq h3 (by rw [List.dropWhile_cons_of_pos (by simp [c])]))
      simp only [nat_Decimal.l3]
      rw [if_pos g1, if_pos g2, e1, if_pos c, e2]
    · refine Ev.step (f := fun _ => some (strOfNums (x :: out))) (fun k => ?_) (Ev.eq (Ev.now _) (by rw [List.dropWhile_cons_of_neg (by simp [c])]))
      simp only [nat_Decimal.l3]
      rw [if_pos g1, if_pos g2, e1, if_neg c, if_pos (Int.le_of_lt g2), Int.toNat_natCast, List.drop_left]
theorem chs_trim (ds : List Int) : (chs ds).dropWhile (· == 48) = chs (trim ds) := by
  unfold chs trim
  rw [List.reverse_reverse]
  induction ds.reverse with
  | nil => rfl
  | cons x xs ih =>
    by_cases c : x = 0
    · subst c
      rw [List.map_cons, List.dropWhile_cons_of_pos (by simp), ih, List.dropWhile_cons_of_pos (by simp)]
    · rw [List.map_cons, List.dropWhile_cons_of_neg (by simp; omega), List.dropWhile_cons_of_neg (by simpa using c), List.map_cons]
theorem decimal_l0 : ∀ (d : Nat) (x g : List Int), Lim 4294967296 x → Nrm x → x.length ≤ 1073741824 → val 4294967296 x < 1000000000 ^ d → g.length + d ≤ 2147483648 → Lim 1000000000 g →
    ∃ G, Lim 1000000000 G ∧ val 1000000000 G = val 1000000000 g + 1000000000 ^ g.length * val 4294967296 x ∧ G.length ≤ 2147483648 ∧ ∀ R, Ev (fun k => nat_Decimal.l1 k G [] ((G.length : Int) - 1)) R → Ev (fun k => nat_Decimal.l0 k x g) R := by
  have hB : (0 : Int) < 4294967296 := by decide
  have hend : ∀ g : List Int, g.length ≤ 2147483648 → Lim 1000000000 g → ∃ G, Lim 1000000000 G ∧ val 1000000000 G = val 1000000000 g + 1000000000 ^ g.length * val 4294967296 [] ∧ G.length ≤ 2147483648 ∧ ∀ R, Ev (fun k => nat_Decimal.l1 k G [] ((G.length : Int) - 1)) R → Ev (fun k => nat_Decimal.l0 k [] g) R := by
    intro g hl hg
    refine ⟨g, hg, by simp [val], hl, fun R hR => Ev.step (f := fun k => nat_Decimal.l1 k g [] ((g.length : Int) - 1)) (fun k => ?_) hR⟩
    simp only [nat_Decimal.l0]
    rw [if_neg (by decide), w64 (by omega) (by omega)]
  intro d
  induction d with
  | zero =>
    intro x g hx nx hl hv hL hg
    have e : x = [] := (val_eq_zero hB hx nx).1 (by have := val_nonneg hB hx; simp at hv; omega)
    subst e
    exact hend g (by omega) hg
  | succ d ih =>
    intro x g hx nx hl hv hL hg
    by_cases e : x = []
    · subst e
      exact hend g (by omega) hg
    · obtain ⟨q, q1, q2, q3, q4, q5⟩ := DivSmall_ev x 1000000000 hx (by decide) (by decide) (by omega)
      have h0 := val_nonneg hB hx
      have hlen : (x.length : Int) > 0 := by
        have : x.length ≠ 0 := fun h' => e (List.length_eq_zero_iff.1 h')
        omega
      have hv2 : val 4294967296 q < 1000000000 ^ d := by
        rw [q4]
        rw [Int.pow_succ] at hv
        exact Int.ediv_lt_of_lt_mul (by decide) hv
      obtain ⟨G, G1, G2, G3, G4⟩ := ih q (g ++ [val 4294967296 x % 1000000000]) q2 q3 (by omega) hv2 (by rw [List.length_append, List.length_singleton]; omega) (lim_nrm_snoc hg ⟨by omega, by omega⟩)
      refine ⟨G, G1, ?_, G3, fun R hR => ?_⟩
      · rw [G2, val_snoc, List.length_append, List.length_singleton, Int.pow_succ, q4]
        have e2 : val 4294967296 x = val 4294967296 x % 1000000000 + 1000000000 * (val 4294967296 x / 1000000000) := by omega
        generalize val 4294967296 x / 1000000000 = u at *
        generalize val 4294967296 x % 1000000000 = m at *
        rw [e2]
        generalize (1000000000 : Int) ^ g.length = p
        clear G4 q1 hv2 ih hend
        grind
      · refine Ev.step (f := fun k => (nat_DivSmall.f k x 1000000000).bind fun bt239 => (if g.length < 35184372088832 then (nat_Decimal.l0 k bt239.1 (g ++ [bt239.2])) else (none))) (fun k => by simp only [nat_Decimal.l0]; rw [if_pos hlen]) ?_
        refine Ev.bind (f := fun k bt239 => (if g.length < 35184372088832 then (nat_Decimal.l0 k bt239.1 (g ++ [bt239.2])) else (none))) q1 ?_
        exact Ev.congr (fun k => if_pos (by omega)) (G4 R hR)
theorem pow_left' {a b : Int} (h0 : 0 ≤ a) (h : a ≤ b) : ∀ n : Nat, a ^ n ≤ b ^ n
  | 0 => by simp
  | n + 1 => by
    rw [Int.pow_succ, Int.pow_succ]
    exact Int.mul_le_mul (pow_left' h0 h n) h h0 (Int.pow_nonneg (by omega))
theorem dropAll {α : Type} {p : α → Bool} : ∀ {l : List α}, (∀ x, x ∈ l → p x = true) → l.dropWhile p = []
  | [], _ => rfl
  | x :: l, h => by rw [List.dropWhile_cons_of_pos (h x (by simp))]; exact dropAll (fun y hy => h y (by simp [hy]))
def Dig (v : Int) (ds : List Int) : Prop := Lim 10 ds ∧ Nrm ds ∧ val 10 ds = v
theorem Dig.same {v : Int} {a b : List Int} (ha : Dig v a) (hb : Dig v b) : a = b := val_inj (by decide) ha.1 hb.1 ha.2.1 hb.2.1 (by rw [ha.2.2, hb.2.2])
theorem Decimal_ev (a : List Int) (ha : Lim 4294967296 a) (na : Nrm a) (hl : a.length ≤ 1073741824) (h0 : a ≠ []) :
    ∃ ds, Dig (val 4294967296 a) ds ∧ Ev (fun k => nat_Decimal.f k a) (strOfNums (chs ds)) := by
  have hB : (0 : Int) < 4294967296 := by decide
  have hp := val_pos hB ha na h0
  have hv : val 4294967296 a < 1000000000 ^ (2 * a.length) := by
    have h1 := val_lt hB ha
    have h2 : (4294967296 : Int) ^ a.length ≤ 1000000000 ^ (2 * a.length) := by
      rw [Int.pow_mul]
      exact pow_left' (by decide) (by decide) _
    omega
  obtain ⟨G, G1, G2, G3, G4⟩ := decimal_l0 (2 * a.length) a [] ha na hl hv (by simp; omega) (lim_nil _)
  have e1 : val 1000000000 G = val 4294967296 a := by rw [G2]; simp [val]
  have e2 : val 10 (fd G) = val 4294967296 a := by rw [fd_val G G1, e1]
  refine ⟨trim (fd G), ⟨lim_trim (fd_lim G), nrm_trim _, by rw [val_trim, e2]⟩, ?_⟩
  refine Ev.congr (f := fun k => nat_Decimal.l0 k a []) (fun k => by unfold nat_Decimal.f; rw [if_neg (by have : a.length ≠ 0 := fun h' => h0 (List.length_eq_zero_iff.1 h'); omega)]) ?_
  refine G4 _ (decimal_l1 G G1 G3 _ G.length [] (Nat.le_refl _) (by simp) (by rw [List.drop_length]; rfl) ?_)
  have h3 := decimal_l3 (chs (fd G)) [] ?_ (by rw [chs_length, fd_length]; simp; omega)
  · rw [chs_trim] at h3
    exact h3
  · have h4 : trim (fd G) ≠ [] := by
      intro h
      have := val_trim 10 (fd G)
      rw [h, e2] at this
      simp [val] at this
      omega
    refine Classical.byContradiction fun hc => h4 ?_
    have h5 : ∀ x ∈ chs (fd G), x = 48 := fun x hx => Classical.byContradiction fun h => hc ⟨x, hx, h⟩
    have h6 := chs_trim (fd G)
    have h7 : (chs (fd G)).dropWhile (· == 48) = [] := by
      exact dropAll (fun x hx => by simp [h5 x hx])
    rw [h7] at h6
    have := congrArg List.length h6
    rw [chs_length] at this
    exact List.length_eq_zero_iff.1 this.symm
theorem rdecimal_l2 (cs : List Int) (hL : cs.length ≤ 1099511627776) : ∀ (d i : Nat) (out : List Int), d + i = cs.length → out.length = cs.length → out.drop d = (cs.take i).reverse → Ev (fun k => rf_Decimal.l2 k cs out cs (cs.length : Int) (i : Int)) (strOfNums cs.reverse) := by
  intro d
  induction d with
  | zero =>
    intro i out hd hl h
    rw [List.drop_zero, List.take_of_length_le (by omega)] at h
    refine Ev.step (f := fun _ => some (strOfNums out)) (fun k => ?_) (Ev.eq (Ev.now _) (by rw [h]))
    simp only [rf_Decimal.l2]
    rw [if_neg (by omega)]
  | succ d ih =>
    intro i out hd hl h
    have g1 : (i : Int) < (cs.length : Int) := by omega
    have g2 : (0 : Int) ≤ (i : Int) := by omega
    have e1 : ∀ _ : Unit, wrap64 ((cs.length : Int) - 1) = (cs.length : Int) - 1 := fun _ => w64 (by omega) (by omega)
    have e2 : ∀ _ : Unit, wrap64 ((cs.length : Int) - 1 - (i : Int)) = (d : Int) := fun _ => by rw [w64 (by omega) (by omega)]; omega
    have e3 : ∀ _ : Unit, wrap64 ((i : Int) + 1) = ((i + 1 : Nat) : Int) := fun _ => by rw [w64 (by omega) (by omega)]; omega
    have g3 : (0 : Int) ≤ (d : Int) := by omega
    have g4 : (d : Int) < (out.length : Int) := by omega
    refine Ev.step (f := fun k => rf_Decimal.l2 k cs (out.set d (cs.getD i 0)) cs (cs.length : Int) ((i + 1 : Nat) : Int)) (fun k => ?_) (ih (i + 1) (out.set d (cs.getD i 0)) (by omega) (by rw [List.length_set, hl]) ?_)
    · simp only [rf_Decimal.l2]
      rw [if_pos g1, if_pos g2, if_pos g1, e1 (), e2 (), if_pos g3, if_pos g4, rd_getD, e3 (), Int.toNat_natCast]
    · rw [take_succ' cs i (by omega), List.reverse_append, List.reverse_singleton, ← h, drop_cons' _ d (by rw [List.length_set]; omega), List.getD_eq_getElem?_getD, List.getElem?_set_self (by omega), List.drop_set_of_lt (by omega)]
      rfl
theorem rdecimal_l1 (a cs : List Int) (ha : Lim 65536 a) (hL : a.length ≤ 1099511627776) (hc : cs.length < 140737488355328) : ∀ (i : Nat) (out : List Int) (rest : Int), i ≤ a.length → out.length = a.length → Lim 65536 out → 0 ≤ rest → rest < 10 →
    val 65536 (out.take i) = 0 → 10 * val 65536 (out.drop i) + rest = val 65536 (a.drop i) →
    ∃ q m, Lim 65536 q ∧ Nrm q ∧ q.length ≤ a.length ∧ 0 ≤ m ∧ m < 10 ∧ 10 * val 65536 q + m = val 65536 a ∧ ∀ R, Ev (fun k => rf_Decimal.l0 k q (cs ++ [48 + m])) R → Ev (fun k => rf_Decimal.l1 k a cs rest out ((i : Int) - 1)) R := by
  have hB : (0 : Int) < 65536 := by decide
  intro i
  induction i with
  | zero =>
    intro out rest _ hl ho h0 h1 _ hv
    rw [List.drop_zero, List.drop_zero] at hv
    refine ⟨trim out, rest, lim_trim ho, nrm_trim _, by rw [← hl]; exact length_trim _, h0, h1, by rw [val_trim, hv], fun R hR => ?_⟩
    refine Ev.step (f := fun k => (rf_trim.f k out).bind fun t => rf_Decimal.l0 k t (cs ++ [48 + rest])) (fun k => ?_) (Ev.bind (f := fun k t => rf_Decimal.l0 k t (cs ++ [48 + rest])) (rtrim_ev out (by omega)) hR)
    have e : (wrap64 (48 + rest)) % 256 = 48 + rest := by rw [w64 (by omega) (by omega)]; omega
    simp only [rf_Decimal.l1]
    rw [if_neg (by decide), if_pos hc, e]
  | succ i ih =>
    intro out rest hi hl ho h0 h1 hz hv
    have e1 : (((i + 1 : Nat) : Int) - 1) = (i : Int) := by omega
    have g1 : (i : Int) ≥ 0 := by omega
    have g2 : (i : Int) < (a.length : Int) := by omega
    have g3 : (i : Int) < (out.length : Int) := by omega
    have g4 : i < a.length := by omega
    have g5 : i < out.length := by omega
    have gw : ∀ _ : Unit, wrap64 ((i : Int) - 1) = (i : Int) - 1 := fun _ => w64 (by omega) (by omega)
    have hx := ha.getD hB i
    have ho2 := val_nonneg hB (ho.take i)
    have hoi := ho.getD hB i
    have e2 : ∀ _ : Unit, wrap64 (wrap64 (rest * 65536) + a.getD i 0) = rest * 65536 + a.getD i 0 := fun _ => by rw [w64 (x := rest * 65536) (by omega) (by omega), w64 (by omega) (by omega)]
    have e3 : ∀ _ : Unit, Int.tmod (rest * 65536 + a.getD i 0) 10 = (rest * 65536 + a.getD i 0) % 10 := fun _ => Int.tmod_eq_emod_of_nonneg (by omega)
    have e4 : ∀ _ : Unit, wrap64 (Int.tdiv (rest * 65536 + a.getD i 0) 10) = (rest * 65536 + a.getD i 0) / 10 := fun _ => by rw [Int.tdiv_eq_ediv_of_nonneg (by omega), w64 (by omega) (by omega)]
    have hz2 : val 65536 (out.take i) = 0 ∧ out.getD i 0 = 0 := by
      rw [val_take_succ _ _ _ g5] at hz
      have hp := pow_pos' hB i
      have h2 : 0 ≤ 65536 ^ i * out.getD i 0 := Int.mul_nonneg (by omega) hoi.1
      refine ⟨by omega, ?_⟩
      have h3 : (65536 : Int) ^ i * out.getD i 0 = 0 := by omega
      rcases Int.mul_eq_zero.1 h3 with h4 | h4
      · omega
      · exact h4
    obtain ⟨q, m, q1, q2, q3, q4, q5, q6, q7⟩ := ih (out.set i ((rest * 65536 + a.getD i 0) / 10)) ((rest * 65536 + a.getD i 0) % 10) (by omega) (by rw [List.length_set, hl]) (ho.set _ ⟨by omega, by omega⟩) (by omega) (by omega) (by rw [List.take_set_of_le (Nat.le_refl _)]; exact hz2.1) (by
      rw [drop_cons' (out.set i _) i (by rw [List.length_set]; omega), List.getD_eq_getElem?_getD, List.getElem?_set_self g5, List.drop_set_of_lt (by omega), val_drop _ a i g4, ← hv]
      simp only [val, Option.getD_some]
      omega)
    refine ⟨q, m, q1, q2, q3, q4, q5, q6, fun R hR => Ev.step (f := fun k => rf_Decimal.l1 k a cs ((rest * 65536 + a.getD i 0) % 10) (out.set i ((rest * 65536 + a.getD i 0) / 10)) ((i : Int) - 1)) (fun k => ?_) (q7 R hR)⟩
    simp only [rf_Decimal.l1]
    rw [e1, if_pos g1, if_pos g1, if_pos g2, if_pos g3, rd_getD, e2 (), e3 (), e4 (), gw (), Int.toNat_natCast]
theorem rdecimal_l0 : ∀ (d : Nat) (x ds : List Int), Lim 65536 x → Nrm x → x.length ≤ 1073741824 → val 65536 x < 10 ^ d → ds.length + d ≤ 34359738368 → Lim 10 ds → (x = [] → Nrm ds) →
    ∃ D, Lim 10 D ∧ Nrm D ∧ val 10 D = val 10 ds + 10 ^ ds.length * val 65536 x ∧ Ev (fun k => rf_Decimal.l0 k x (ds.map (48 + ·))) (strOfNums (chs D)) := by
  have hB : (0 : Int) < 65536 := by decide
  have hend : ∀ ds : List Int, ds.length ≤ 34359738368 → Lim 10 ds → Nrm ds → ∃ D, Lim 10 D ∧ Nrm D ∧ val 10 D = val 10 ds + 10 ^ ds.length * val 65536 [] ∧ Ev (fun k => rf_Decimal.l0 k [] (ds.map (48 + ·))) (strOfNums (chs D)) := by
    intro ds hl hd hn
    refine ⟨ds, hd, hn, by simp [val], ?_⟩
    have hm : (ds.map (48 + ·)).length = ds.length := by simp
    refine Ev.step (f := fun k => rf_Decimal.l2 k (ds.map (48 + ·)) (List.replicate (ds.map (48 + ·)).length 0) (ds.map (48 + ·)) ((ds.map (48 + ·)).length : Int) 0) (fun k => ?_) (Ev.eq (rdecimal_l2 (ds.map (48 + ·)) (by omega) (ds.map (48 + ·)).length 0 (List.replicate (ds.map (48 + ·)).length 0) (by omega) (by simp) (by rw [List.drop_of_length_le (by simp)]; rfl)) (by simp [chs]))
    simp only [rf_Decimal.l0]
    rw [if_neg (by decide), if_pos (by omega), if_pos (by omega), Int.toNat_natCast]
  intro d
  induction d with
  | zero =>
    intro x ds hx nx hl hv hL hd hn
    have e : x = [] := (val_eq_zero hB hx nx).1 (by have := val_nonneg hB hx; simp at hv; omega)
    subst e
    exact hend ds (by omega) hd (hn rfl)
  | succ d ih =>
    intro x ds hx nx hl hv hL hd hn
    by_cases e : x = []
    · subst e
      exact hend ds (by omega) hd (hn rfl)
    · have hl0 : x.length ≠ 0 := fun h' => e (List.length_eq_zero_iff.1 h')
      have hp := val_pos hB hx nx e
      have hm : (ds.map (48 + ·)).length = ds.length := by simp
      obtain ⟨q, m, q1, q2, q3, q4, q5, q6, q7⟩ := rdecimal_l1 x (ds.map (48 + ·)) hx (by omega) (by omega) x.length (List.replicate x.length 0) 0 (Nat.le_refl _) (by simp) (lim_replicate hB _) (by decide) (by decide) (by rw [List.take_of_length_le (by simp), val_replicate]) (by rw [List.drop_of_length_le (by simp), List.drop_of_length_le (Nat.le_refl _)]; simp [val])
      have hv2 : val 65536 q < 10 ^ d := by
        rw [Int.pow_succ] at hv
        omega
      have hq0 := val_nonneg hB q1
      obtain ⟨D, D1, D2, D3, D4⟩ := ih q (ds ++ [m]) q1 q2 (by omega) hv2 (by rw [List.length_append, List.length_singleton]; omega) (lim_nrm_snoc hd ⟨q4, q5⟩) (fun hq => nrm_snoc.2 (by subst hq; simp [val] at q6; omega))
      refine ⟨D, D1, D2, ?_, ?_⟩
      · rw [D3, val_snoc, List.length_append, List.length_singleton, Int.pow_succ, ← q6]
        generalize val 65536 q = u
        generalize (10 : Int) ^ ds.length = p
        clear D3 D4 q7 hv2 ih hend
        grind
      · rw [List.map_append, List.map_singleton] at D4
        refine Ev.step (f := fun k => rf_Decimal.l1 k x (ds.map (48 + ·)) 0 (List.replicate x.length 0) ((x.length : Int) - 1)) (fun k => ?_) (q7 _ D4)
        simp only [rf_Decimal.l0]
        rw [if_pos (by omega), if_pos (by omega), if_pos (by omega), w64 (by omega) (by omega), Int.toNat_natCast]
theorem RDecimal_ev (a : List Int) (ha : Lim 65536 a) (na : Nrm a) (hl : a.length ≤ 1073741824) (h0 : a ≠ []) :
    ∃ ds, Dig (val 65536 a) ds ∧ Ev (fun k => rf_Decimal.f k a) (strOfNums (chs ds)) := by
  have hB : (0 : Int) < 65536 := by decide
  have hv : val 65536 a < 10 ^ (5 * a.length) := by
    have h1 := val_lt hB ha
    have h2 : (65536 : Int) ^ a.length ≤ 10 ^ (5 * a.length) := by
      rw [Int.pow_mul]
      exact pow_left' (by decide) (by decide) _
    omega
  obtain ⟨D, D1, D2, D3, D4⟩ := rdecimal_l0 (5 * a.length) a [] ha na hl hv (by simp; omega) (lim_nil _) (fun _ => nrm_nil)
  refine ⟨D, ⟨D1, D2, by rw [D3]; simp [val]⟩, Ev.congr (fun k => ?_) D4⟩
  unfold rf_Decimal.f
  rw [if_neg (by have : a.length ≠ 0 := fun h' => h0 (List.length_eq_zero_iff.1 h'); omega)]
  rfl
theorem plus_same : ∀ (k : Nat) (b x : List Int) (c n i : Int), nat_plus.l1000 k b x c n i = nat_plus.l0 k b x c n i := by
  intro k
  induction k with
  | zero => intros; rfl
  | succ k ih => intro b x c n i; simp only [nat_plus.l1000, nat_plus.l0, ih]
theorem plus_loop (b : List Int) (hb : Lim 4294967296 b) (N : Nat) (hN : N ≤ 549755813888) (hbN : b.length ≤ N) (T : Int) (hT : T < 4294967296 ^ N) : ∀ (d i : Nat) (x : List Int) (c : Int), d + i = N → x.length = N → Lim 4294967296 x → 0 ≤ c → c ≤ 1 →
    val 4294967296 x + 4294967296 ^ i * c + (val 4294967296 b - val 4294967296 (b.take i)) = T →
    ∃ r, Ev (fun k => nat_plus.l0 k b x c (N : Int) (i : Int)) (trim r) ∧ r.length = N ∧ Lim 4294967296 r ∧ val 4294967296 r = T := by
  have hB : (0 : Int) < 4294967296 := by decide
  intro d
  induction d with
  | zero =>
    intro i x c hd hl hx hc0 hc hv
    have hi : i = N := by omega
    subst hi
    refine ⟨x, Ev.step (f := fun k => (nat_Trim.f k x).bind fun t => some t) (fun k => ?_) (Ev.bind (f := fun _ t => some t) (Trim_ev x (by omega)) (Ev.now _)), hl, hx, ?_⟩
    · simp only [nat_plus.l0]; rw [if_neg (by omega)]
    · rw [List.take_of_length_le (by omega), Int.sub_self, Int.add_zero] at hv
      have h1 := val_nonneg hB hx
      by_cases h : c = 0
      · rw [h, Int.mul_zero] at hv; omega
      · have e : c = 1 := by omega
        rw [e, Int.mul_one] at hv
        generalize (4294967296 : Int) ^ i = p at *
        omega
  | succ d ih =>
    intro i x c hd hl hx hc0 hc hv
    have g1 : (i : Int) < (N : Int) := by omega
    have g2 : (0 : Int) ≤ (i : Int) := by omega
    have g3 : i < x.length := by omega
    have g4 : (i : Int) < (x.length : Int) := by omega
    have g5 : d + (i + 1) = N := by omega
    have gw : ∀ _ : Unit, wrap64 ((i : Int) + 1) = ((i + 1 : Nat) : Int) := fun _ => by rw [w64 (by omega) (by omega)]; omega
    have hxi := hx.rd hB (i : Int)
    have hxg : rd x (i : Int) = x.getD i 0 := rd_getD x i
    generalize rd x (i : Int) = a at hxi hxg
    have key : ∀ y : Int, 0 ≤ y → y < 4294967296 → b.getD i 0 = y → ∃ r, Ev (fun k => nat_plus.l0 k b (x.set i ((c + a + y) % 4294967296)) ((c + a + y) / 4294967296) (N : Int) ((i + 1 : Nat) : Int)) (trim r) ∧ r.length = N ∧ Lim 4294967296 r ∧ val 4294967296 r = T := by
      intro y hy0 hy hyb
      refine ih (i + 1) _ _ g5 (by rw [List.length_set, hl]) (hx.set i ⟨by omega, by omega⟩) (by omega) (by omega) ?_
      rw [val_set _ _ _ _ g3, ← hxg, val_take_succ', hyb, Int.pow_succ]
      have e : (c + a + y) % 4294967296 = c + a + y - 4294967296 * ((c + a + y) / 4294967296) := by omega
      rw [e]
      generalize (c + a + y) / 4294967296 = q
      generalize (4294967296 : Int) ^ i = p at *
      grind
    by_cases hi : i < b.length
    · have hb1 := hb.rd hB (i : Int)
      have hbg : rd b (i : Int) = b.getD i 0 := rd_getD b i
      have g6 : (i : Int) < (b.length : Int) := by omega
      generalize rd b (i : Int) = y at hb1 hbg
      obtain ⟨r, hr, h⟩ := key y hb1.1 hb1.2 hbg.symm
      have e : IntKind.u64.wrap (IntKind.u64.wrap (c + IntKind.u64.wrap a) + IntKind.u64.wrap y) = c + a + y := by
        rw [u64_id hxi.1 (by omega), u64_id hb1.1 (by omega), u64_id (x := c + a) (by omega) (by omega), u64_id (by omega) (by omega)]
      refine ⟨r, Ev.step (f := fun k => nat_plus.l0 k b (x.set i ((c + a + y) % 4294967296)) ((c + a + y) / 4294967296) (N : Int) ((i + 1 : Nat) : Int)) (fun k => ?_) hr, h⟩
      simp only [nat_plus.l0]
      rw [if_pos g1, if_pos g2, if_pos g4, if_pos g6, rd_getD x i, rd_getD b i, ← hxg, ← hbg, e, gw (), Int.toNat_natCast]
    · have g6 : ¬ (i : Int) < (b.length : Int) := by omega
      obtain ⟨r, hr, h⟩ := key 0 (by omega) (by omega) (by rw [List.getD_eq_getElem?_getD, List.getElem?_eq_none (by omega)]; rfl)
      have e : IntKind.u64.wrap (c + IntKind.u64.wrap a) = c + a + 0 := by
        rw [u64_id hxi.1 (by omega), u64_id (x := c + a) (by omega) (by omega), Int.add_zero]
      refine ⟨r, Ev.step (f := fun k => nat_plus.l0 k b (x.set i ((c + a + 0) % 4294967296)) ((c + a + 0) / 4294967296) (N : Int) ((i + 1 : Nat) : Int)) (fun k => ?_) hr, h⟩
      simp only [nat_plus.l0]
      rw [if_pos g1, if_pos g2, if_pos g4, if_neg g6, rd_getD x i, ← hxg, e, gw (), Int.toNat_natCast]
theorem plus_half (a b : List Int) (ha : Lim 4294967296 a) (hb : Lim 4294967296 b) (hL : a.length ≤ 274877906944) (hab : b.length ≤ a.length) :
    ∃ r, Ev (fun k => if (0 : Int) ≤ wrap64 ((a.length : Int) + 1) then (if (wrap64 ((a.length : Int) + 1) : Int).toNat ≤ 70368744177664 then ((some (List.replicate (wrap64 ((a.length : Int) + 1) : Int).toNat 0 : List Int)).bind fun y => ((copy_e55.f y a).bind fun bt => nat_plus.l0 k b bt.2 0 (y.length : Int) 0)) else none) else none) r ∧ Lim 4294967296 r ∧ Nrm r ∧ val 4294967296 r = val 4294967296 a + val 4294967296 b ∧ r.length ≤ a.length + 1 := by
  have hB : (0 : Int) < 4294967296 := by decide
  have e1 : wrap64 ((a.length : Int) + 1) = ((a.length + 1 : Nat) : Int) := by rw [w64 (by omega) (by omega)]; omega
  have va := val_lt hB ha
  have vb := val_lt hB hb
  have pm := pow_mono' hB hab
  have e0 : a ++ (List.replicate (a.length + 1) (0 : Int)).drop a.length = a ++ [0] := by
    rw [List.drop_replicate, Nat.add_sub_cancel_left]; rfl
  obtain ⟨r, h1, h2, h3, h4⟩ := plus_loop b hb (a.length + 1) (by omega) (by omega) (val 4294967296 a + val 4294967296 b) (by
      rw [Int.pow_succ]
      have pp := pow_pos' hB a.length
      generalize (4294967296 : Int) ^ a.length = p at *
      omega) (a.length + 1) 0 (a ++ [0]) 0 (by omega) (by simp) (lim_nrm_snoc ha ⟨by decide, by decide⟩) (by decide) (by decide) (by rw [val_snoc]; simp [val])
  refine ⟨trim r, Ev.congr (fun k => ?_) h1, lim_trim h3, nrm_trim _, by rw [val_trim, h4], by rw [← h2]; exact length_trim r⟩
  rw [e1, if_pos (by omega), if_pos (by omega), Int.toNat_natCast, Option.bind_some]
  unfold copy_e55.f
  simp only [Option.bind_some, List.length_replicate]
  rw [List.take_of_length_le (by omega), e0]; rfl
theorem plus_ev (a b : List Int) (ha : Lim 4294967296 a) (hb : Lim 4294967296 b) (hL : a.length ≤ 274877906944) (hM : b.length ≤ 274877906944) :
    ∃ r, Ev (fun k => nat_plus.f k a b) r ∧ Lim 4294967296 r ∧ Nrm r ∧ val 4294967296 r = val 4294967296 a + val 4294967296 b ∧ r.length ≤ max a.length b.length + 1 := by
  by_cases c : a.length < b.length
  · obtain ⟨r, h1, h2, h3, h4, h5⟩ := plus_half b a hb ha hM (by omega)
    refine ⟨r, Ev.congr (fun k => ?_) h1, h2, h3, by rw [h4, Int.add_comm], by omega⟩
    unfold nat_plus.f
    rw [if_pos (by omega)]
  · obtain ⟨r, h1, h2, h3, h4, h5⟩ := plus_half a b ha hb hL (by omega)
    refine ⟨r, Ev.congr (fun k => ?_) h1, h2, h3, h4, by omega⟩
    unfold nat_plus.f
    rw [if_neg (by omega)]
    simp only [plus_same]
theorem sub_loop (b : List Int) (hb : Lim 4294967296 b) (N : Nat) (hN : N ≤ 549755813888) (hbN : b.length ≤ N) (T : Int) (hT : 0 ≤ T) : ∀ (d i : Nat) (x : List Int) (c : Int), d + i = N → x.length = N → Lim 4294967296 x → 0 ≤ c → c ≤ 1 →
    val 4294967296 x - 4294967296 ^ i * c - (val 4294967296 b - val 4294967296 (b.take i)) = T →
    ∃ r, Ev (fun k => nat_Sub.l0 k b x c (N : Int) (i : Int)) (trim r) ∧ r.length = N ∧ Lim 4294967296 r ∧ val 4294967296 r = T := by
  have hB : (0 : Int) < 4294967296 := by decide
  intro d
  induction d with
  | zero =>
    intro i x c hd hl hx hc0 hc hv
    have hi : i = N := by omega
    subst hi
    refine ⟨x, Ev.step (f := fun k => (nat_Trim.f k x).bind fun t => some t) (fun k => ?_) (Ev.bind (f := fun _ t => some t) (Trim_ev x (by omega)) (Ev.now _)), hl, hx, ?_⟩
    · simp only [nat_Sub.l0]; rw [if_neg (by omega)]
    · rw [List.take_of_length_le (by omega), Int.sub_self, Int.sub_zero] at hv
      have h1 := val_lt hB hx
      rw [hl] at h1
      by_cases h : c = 0
      · rw [h, Int.mul_zero] at hv; omega
      · have e : c = 1 := by omega
        rw [e, Int.mul_one] at hv
        generalize (4294967296 : Int) ^ i = p at *
        omega
  | succ d ih =>
    intro i x c hd hl hx hc0 hc hv
    have g1 : (i : Int) < (N : Int) := by omega
    have g2 : (0 : Int) ≤ (i : Int) := by omega
    have g3 : i < x.length := by omega
    have g4 : (i : Int) < (x.length : Int) := by omega
    have g5 : d + (i + 1) = N := by omega
    have gw : ∀ _ : Unit, wrap64 ((i : Int) + 1) = ((i + 1 : Nat) : Int) := fun _ => by rw [w64 (by omega) (by omega)]; omega
    have hxi := hx.rd hB (i : Int)
    have hxg : rd x (i : Int) = x.getD i 0 := rd_getD x i
    generalize rd x (i : Int) = a at hxi hxg
    have key : ∀ y dd b' : Int, 0 ≤ dd → dd < 4294967296 → 0 ≤ b' → b' ≤ 1 → dd - 4294967296 * b' = a - c - y → b.getD i 0 = y → ∃ r, Ev (fun k => nat_Sub.l0 k b (x.set i dd) b' (N : Int) ((i + 1 : Nat) : Int)) (trim r) ∧ r.length = N ∧ Lim 4294967296 r ∧ val 4294967296 r = T := by
      intro y dd b' hd0 hd1 hb0 hb1 he hyb
      refine ih (i + 1) _ _ g5 (by rw [List.length_set, hl]) (hx.set i ⟨hd0, hd1⟩) hb0 hb1 ?_
      rw [val_set _ _ _ _ g3, ← hxg, val_take_succ', hyb, Int.pow_succ]
      have e : dd = a - c - y + 4294967296 * b' := by omega
      rw [e]
      generalize (4294967296 : Int) ^ i = p at *
      grind
    by_cases hi : i < b.length
    · have hb1 := hb.rd hB (i : Int)
      have hbg : rd b (i : Int) = b.getD i 0 := rd_getD b i
      have g6 : (i : Int) < (b.length : Int) := by omega
      generalize rd b (i : Int) = y at hb1 hbg
      obtain ⟨dd, b', e1, e2, p1, p2, p3, p4, p5⟩ : ∃ dd b' : Int, IntKind.u64.wrap (IntKind.u64.wrap (IntKind.u64.wrap a - c) - IntKind.u64.wrap y) % 4294967296 = dd ∧ Go.bits .and .u64 (IntKind.u64.wrap (IntKind.u64.wrap (IntKind.u64.wrap a - c) - IntKind.u64.wrap y) / 4294967296) 1 = b' ∧ 0 ≤ dd ∧ dd < 4294967296 ∧ 0 ≤ b' ∧ b' ≤ 1 ∧ dd - 4294967296 * b' = a - c - y := by
        rw [u64_id hxi.1 (by omega), u64_id hb1.1 (by omega), u64w, u64w]
        by_cases h : a - c - y < 0
        · have e : ((a - c) % 18446744073709551616 - y) % 18446744073709551616 = a - c - y + 18446744073709551616 := by omega
          rw [e, bits_and_one (by omega) (by omega)]
          exact ⟨_, _, rfl, rfl, by omega, by omega, by omega, by omega, by omega⟩
        · have e : ((a - c) % 18446744073709551616 - y) % 18446744073709551616 = a - c - y := by omega
          rw [e, bits_and_one (by omega) (by omega)]
          exact ⟨_, _, rfl, rfl, by omega, by omega, by omega, by omega, by omega⟩
      obtain ⟨r, hr, h⟩ := key y dd b' p1 p2 p3 p4 p5 hbg.symm
      refine ⟨r, Ev.step (f := fun k => nat_Sub.l0 k b (x.set i dd) b' (N : Int) ((i + 1 : Nat) : Int)) (fun k => ?_) hr, h⟩
      simp only [nat_Sub.l0]
      rw [if_pos g1, if_pos g2, if_pos g4, if_pos g6, rd_getD x i, rd_getD b i, ← hxg, ← hbg, e1, e2, gw (), Int.toNat_natCast]
    · have g6 : ¬ (i : Int) < (b.length : Int) := by omega
      obtain ⟨dd, b', e1, e2, p1, p2, p3, p4, p5⟩ : ∃ dd b' : Int, IntKind.u64.wrap (IntKind.u64.wrap a - c) % 4294967296 = dd ∧ Go.bits .and .u64 (IntKind.u64.wrap (IntKind.u64.wrap a - c) / 4294967296) 1 = b' ∧ 0 ≤ dd ∧ dd < 4294967296 ∧ 0 ≤ b' ∧ b' ≤ 1 ∧ dd - 4294967296 * b' = a - c - 0 := by
        rw [u64_id hxi.1 (by omega), u64w]
        by_cases h : a - c < 0
        · have e : (a - c) % 18446744073709551616 = a - c + 18446744073709551616 := by omega
          rw [e, bits_and_one (by omega) (by omega)]
          exact ⟨_, _, rfl, rfl, by omega, by omega, by omega, by omega, by omega⟩
        · have e : (a - c) % 18446744073709551616 = a - c := by omega
          rw [e, bits_and_one (by omega) (by omega)]
          exact ⟨_, _, rfl, rfl, by omega, by omega, by omega, by omega, by omega⟩
      obtain ⟨r, hr, h⟩ := key 0 dd b' p1 p2 p3 p4 p5 (by rw [List.getD_eq_getElem?_getD, List.getElem?_eq_none (by omega)]; rfl)
      refine ⟨r, Ev.step (f := fun k => nat_Sub.l0 k b (x.set i dd) b' (N : Int) ((i + 1 : Nat) : Int)) (fun k => ?_) hr, h⟩
      simp only [nat_Sub.l0]
      rw [if_pos g1, if_pos g2, if_pos g4, if_neg g6, rd_getD x i, ← hxg, e1, e2, gw (), Int.toNat_natCast]
theorem Sub_ev (a b : List Int) (ha : Lim 4294967296 a) (hb : Lim 4294967296 b) (hL : a.length ≤ 274877906944) (hab : b.length ≤ a.length) (hv : val 4294967296 b ≤ val 4294967296 a) :
    ∃ r, Ev (fun k => nat_Sub.f k a b) r ∧ Lim 4294967296 r ∧ Nrm r ∧ val 4294967296 r = val 4294967296 a - val 4294967296 b ∧ r.length ≤ a.length := by
  obtain ⟨r, h1, h2, h3, h4⟩ := sub_loop b hb a.length (by omega) hab (val 4294967296 a - val 4294967296 b) (by omega) a.length 0 a 0 (by omega) rfl ha (by decide) (by decide) (by simp [val])
  refine ⟨trim r, Ev.congr (fun k => ?_) h1, lim_trim h3, nrm_trim _, by rw [val_trim, h4], by rw [← h2]; exact length_trim r⟩
  unfold nat_Sub.f slices_Clone_uint32_uint32.f
  rw [if_pos (by omega)]; rfl
theorem mul_inner (a b : List Int) (hb : Lim 4294967296 b) (L i : Nat) (ai : Int) (h0 : 0 ≤ ai) (h1 : ai < 4294967296) (hL : L ≤ 549755813888) (hi : i + b.length < L) :
    ∀ (d j : Nat) (out : List Int) (c : Int), d + j = b.length → out.length = L → Lim 4294967296 out → 0 ≤ c → c < 4294967296 → out.getD (i + b.length) 0 = 0 →
    ∃ r, r.length = L ∧ Lim 4294967296 r ∧ val 4294967296 r = val 4294967296 out + 4294967296 ^ (i + j) * (c + ai * val 4294967296 (b.drop j)) ∧ (∀ p, i + b.length < p → r.getD p 0 = out.getD p 0) ∧
      ∀ (R : List Int), Ev (fun k => nat_Mul.l0 k b r a (a.length : Int) ((i + 1 : Nat) : Int)) R → Ev (fun k => nat_Mul.l1 k b out (i : Int) ai c a (a.length : Int) (i : Int) b (b.length : Int) (j : Int)) R := by
  have hB : (0 : Int) < 4294967296 := by decide
  intro d
  induction d with
  | zero =>
    intro j out c hd hl ho hc0 hc hz
    have hj : j = b.length := by omega
    subst hj
    have g1 : ∀ _ : Unit, wrap64 ((i : Int) + (b.length : Int)) = ((i + b.length : Nat) : Int) := fun _ => by rw [w64 (by omega) (by omega)]; omega
    have g2 : ∀ _ : Unit, wrap64 ((i : Int) + 1) = ((i + 1 : Nat) : Int) := fun _ => by rw [w64 (by omega) (by omega)]; omega
    have g3 : (0 : Int) ≤ ((i + b.length : Nat) : Int) := by omega
    have g4 : ((i + b.length : Nat) : Int) < (out.length : Int) := by omega
    have g5 : c % 4294967296 = c := by omega
    refine ⟨out.set (i + b.length) c, by rw [List.length_set, hl], ho.set _ ⟨hc0, hc⟩, ?_, ?_, fun R hR => ?_⟩
    · rw [val_set _ _ _ _ (by omega), hz, List.drop_length]
      simp [val]
    · intro p hp
      rw [List.getD_eq_getElem?_getD, List.getD_eq_getElem?_getD, List.getElem?_set_ne (by omega)]
    · refine Ev.step (f := fun k => nat_Mul.l0 k b (out.set (i + b.length) c) a (a.length : Int) ((i + 1 : Nat) : Int)) (fun k => ?_) hR
      simp only [nat_Mul.l1]
      rw [if_neg (by omega), g1 (), if_pos g3, if_pos g4, g2 (), g5, Int.toNat_natCast]
  | succ d ih =>
    intro j out c hd hl ho hc0 hc hz
    have g0 : d + (j + 1) = b.length := by omega
    have g1 : (j : Int) < (b.length : Int) := by omega
    have g2 : (0 : Int) ≤ (j : Int) := by omega
    have gj : j < b.length := by omega
    have g3 : i + j < out.length := by omega
    have g4 : ((i + j : Nat) : Int) < (out.length : Int) := by omega
    have g5 : (0 : Int) ≤ ((i + j : Nat) : Int) := by omega
    have g6 : i + j ≠ i + b.length := by omega
    have gw : ∀ _ : Unit, wrap64 ((j : Int) + 1) = ((j + 1 : Nat) : Int) := fun _ => by rw [w64 (by omega) (by omega)]; omega
    have gv : ∀ _ : Unit, wrap64 ((i : Int) + (j : Int)) = ((i + j : Nat) : Int) := fun _ => by rw [w64 (by omega) (by omega)]; omega
    have hb1 := hb.rd hB (j : Int)
    have hbg : rd b (j : Int) = b.getD j 0 := rd_getD b j
    generalize rd b (j : Int) = y at hb1 hbg
    have ho1 := ho.rd hB ((i + j : Nat) : Int)
    have hog : rd out ((i + j : Nat) : Int) = out.getD (i + j) 0 := rd_getD out (i + j)
    generalize rd out ((i + j : Nat) : Int) = o at ho1 hog
    obtain ⟨m1, m2⟩ := mul_lim h0 h1 hb1.1 hb1.2
    have e : IntKind.u64.wrap (c + IntKind.u64.wrap (IntKind.u64.wrap (IntKind.u64.wrap ai * IntKind.u64.wrap y) + IntKind.u64.wrap o)) = c + ai * y + o := by
      rw [u64_id h0 (by omega), u64_id hb1.1 (by omega), u64_id m1 (by omega), u64_id ho1.1 (by omega), u64_id (x := ai * y + o) (by omega) (by omega), u64_id (by omega) (by omega), Int.add_assoc]
    obtain ⟨q, t, hq, ht, q1, q2, q3, q4, q5⟩ : ∃ q t : Int, (c + ai * y + o) % 4294967296 = t ∧ (c + ai * y + o) / 4294967296 = q ∧ 0 ≤ t ∧ t < 4294967296 ∧ 0 ≤ q ∧ q < 4294967296 ∧ t = c + ai * y + o - 4294967296 * q := by
      generalize ai * y = p at m1 m2
      exact ⟨_, _, rfl, rfl, by omega, by omega, by omega, by omega, by omega⟩
    obtain ⟨r, r1, r2, r3, r4, r5⟩ := ih (j + 1) (out.set (i + j) t) q g0 (by rw [List.length_set, hl]) (ho.set _ ⟨q1, q2⟩) q3 q4 (by
      rw [List.getD_eq_getElem?_getD, List.getElem?_set_ne g6, ← List.getD_eq_getElem?_getD, hz])
    refine ⟨r, r1, r2, ?_, ?_, fun R hR => ?_⟩
    · rw [r3, val_set _ _ _ _ g3, ← hog, val_drop _ b j gj, ← hbg, q5, ← Nat.add_assoc, Int.pow_succ]
      generalize val 4294967296 (b.drop (j + 1)) = v
      generalize (4294967296 : Int) ^ (i + j) = p
      clear q5 ht hq e m1 m2 r3 r5 r4
      grind
    · intro p hp
      rw [r4 p hp, List.getD_eq_getElem?_getD, List.getD_eq_getElem?_getD, List.getElem?_set_ne (by omega)]
    · refine Ev.step (f := fun k => nat_Mul.l1 k b (out.set (i + j) t) (i : Int) ai q a (a.length : Int) (i : Int) b (b.length : Int) ((j + 1 : Nat) : Int)) (fun k => ?_) (r5 R hR)
      simp only [nat_Mul.l1]
      rw [if_pos g1, if_pos g2, if_pos g1, gv (), if_pos g5, if_pos g4, rd_getD b j, ← hbg, rd_getD out (i + j), ← hog, e, hq, ht, gw (), Int.toNat_natCast]
theorem mul_outer (a b : List Int) (ha : Lim 4294967296 a) (hb : Lim 4294967296 b) (hL : a.length + b.length ≤ 549755813888) :
    ∀ (d i : Nat) (out : List Int), d + i = a.length → out.length = a.length + b.length → Lim 4294967296 out → (∀ p, i + b.length ≤ p → out.getD p 0 = 0) →
    ∃ r, Ev (fun k => nat_Mul.l0 k b out a (a.length : Int) (i : Int)) (trim r) ∧ r.length = a.length + b.length ∧ Lim 4294967296 r ∧ val 4294967296 r = val 4294967296 out + 4294967296 ^ i * (val 4294967296 (a.drop i) * val 4294967296 b) := by
  have hB : (0 : Int) < 4294967296 := by decide
  intro d
  induction d with
  | zero =>
    intro i out hd hl ho hz
    have hi : i = a.length := by omega
    subst hi
    refine ⟨out, Ev.step (f := fun k => (nat_Trim.f k out).bind fun t => some t) (fun k => ?_) (Ev.bind (f := fun _ t => some t) (Trim_ev out (by omega)) (Ev.now _)), hl, ho, ?_⟩
    · simp only [nat_Mul.l0]; rw [if_neg (by omega)]
    · rw [List.drop_length]; simp [val]
  | succ d ih =>
    intro i out hd hl ho hz
    have g0 : d + (i + 1) = a.length := by omega
    have g1 : (i : Int) < (a.length : Int) := by omega
    have g2 : (0 : Int) ≤ (i : Int) := by omega
    have gi : i < a.length := by omega
    have ha1 := ha.rd hB (i : Int)
    have hag : rd a (i : Int) = a.getD i 0 := rd_getD a i
    obtain ⟨r, r1, r2, r3, r4, r5⟩ := mul_inner a b hb (a.length + b.length) i (rd a (i : Int)) ha1.1 ha1.2 hL (by omega) b.length 0 out 0 (by omega) hl ho (by decide) (by decide) (hz _ (Nat.le_refl _))
    obtain ⟨s, s1, s2, s3, s4⟩ := ih (i + 1) r g0 r1 r2 (by
      intro p hp
      rw [r4 p (by omega)]
      exact hz p (by omega))
    refine ⟨s, Ev.step (f := fun k => nat_Mul.l1 k b out (i : Int) (rd a (i : Int)) 0 a (a.length : Int) (i : Int) b (b.length : Int) 0) (fun k => ?_) (r5 _ s1), s2, s3, ?_⟩
    · simp only [nat_Mul.l0]
      rw [if_pos g1, if_pos g2, if_pos g1]
    · rw [s4, r3, val_drop _ a i gi, ← hag, List.drop_zero, Nat.add_zero, Int.pow_succ]
      generalize val 4294967296 (a.drop (i + 1)) = v
      generalize val 4294967296 b = u
      generalize (4294967296 : Int) ^ i = p
      clear s4 r3 r5 r4 s1
      grind
theorem Mul_ev (a b : List Int) (ha : Lim 4294967296 a) (hb : Lim 4294967296 b) (hL : a.length + b.length ≤ 549755813888) :
    ∃ r, Ev (fun k => nat_Mul.f k a b) r ∧ Lim 4294967296 r ∧ Nrm r ∧ val 4294967296 r = val 4294967296 a * val 4294967296 b ∧ r.length ≤ a.length + b.length := by
  have e1 : wrap64 ((a.length : Int) + (b.length : Int)) = ((a.length + b.length : Nat) : Int) := by rw [w64 (by omega) (by omega)]; omega
  obtain ⟨r, h1, h2, h3, h4⟩ := mul_outer a b ha hb hL a.length 0 (List.replicate (a.length + b.length) 0) (by omega) (by simp) (lim_replicate (by decide) _) (fun p _ => by
    rw [List.getD_eq_getElem?_getD]
    rcases Nat.lt_or_ge p (a.length + b.length) with h | h
    · rw [List.getElem?_replicate_of_lt h]; rfl
    · rw [List.getElem?_eq_none (by simpa using h)]; rfl)
  refine ⟨trim r, Ev.congr (fun k => ?_) h1, lim_trim h3, nrm_trim _, by rw [val_trim, h4, val_replicate, List.drop_zero]; simp, by rw [← h2]; exact length_trim r⟩
  unfold nat_Mul.f
  rw [e1, if_pos (by omega), if_pos (by omega), Int.toNat_natCast]
  rfl
def BA (l : List UInt8) : ByteArray := ⟨l.toArray⟩
theorem BA_size (l : List UInt8) : (BA l).size = l.length := by simp [BA, ByteArray.size]
theorem BA_data (l : List UInt8) : (BA l).data.toList = l := rfl
theorem BA_list (l : List UInt8) : (BA l).toList = l := by rw [Go.Lib.toList_data]; rfl
theorem BA_of (s : ByteArray) : BA s.data.toList = s := Go.Lib.mk_data s
theorem BA_extract (l : List UInt8) (a b : Nat) : (BA l).extract a b = BA ((l.drop a).take (b - a)) := by
  rw [← BA_of ((BA l).extract a b), Go.Lib.extract_data]; rfl
theorem BA_append (a b : List UInt8) : BA a ++ BA b = BA (a ++ b) := by
  rw [← BA_of (BA a ++ BA b), ByteArray.data_append, Array.toList_append]; rfl
theorem bt_BA (l : List UInt8) (i : Nat) : bt (BA l) (i : Int) = ((l.getD i 0).toNat : Int) := by
  unfold bt
  by_cases h : i < l.length
  · rw [dif_pos (by rw [BA_size]; simpa using h)]
    have e : l.getD i 0 = l[i] := by rw [List.getD_eq_getElem?_getD, List.getElem?_eq_getElem h]; rfl
    rw [e]; rfl
  · rw [dif_neg (by rw [BA_size]; simpa using h), List.getD_eq_getElem?_getD, List.getElem?_eq_none (by omega)]; rfl
def isD (b : UInt8) : Prop := 48 ≤ b.toNat ∧ b.toNat ≤ 57
theorem contains_digit (b : UInt8) : ([48, 49, 50, 51, 52, 53, 54, 55, 56, 57] : List UInt8).contains b = true ↔ isD b := by
  unfold isD
  constructor
  · intro h
    simp only [List.contains_iff_mem, List.mem_cons, List.not_mem_nil, or_false] at h
    rcases h with rfl | rfl | rfl | rfl | rfl | rfl | rfl | rfl | rfl | rfl <;> decide
  · rintro ⟨h0, h1⟩
    have key : ∀ n : Nat, 48 ≤ n → n ≤ 57 → ([48, 49, 50, 51, 52, 53, 54, 55, 56, 57] : List UInt8).contains (UInt8.ofNat n) = true := by
      intro n a0 a1
      have : n = 48 ∨ n = 49 ∨ n = 50 ∨ n = 51 ∨ n = 52 ∨ n = 53 ∨ n = 54 ∨ n = 55 ∨ n = 56 ∨ n = 57 := by omega
      rcases this with rfl | rfl | rfl | rfl | rfl | rfl | rfl | rfl | rfl | rfl <;> decide
    have := key b.toNat h0 h1
    rwa [UInt8.ofNat_toNat] at this
theorem head_dropWhile {α : Type} {p : α → Bool} : ∀ {l : List α} {x : α} {r : List α}, l.dropWhile p = x :: r → p x = false
  | [], _, _, h => by cases h
  | y :: l, x, r, h => by
    by_cases c : p y = true
    · rw [List.dropWhile_cons_of_pos c] at h; exact head_dropWhile h
    · rw [List.dropWhile_cons_of_neg c] at h
      obtain ⟨rfl, _⟩ := List.cons.inj h
      simpa using c
theorem dropWhile_none {α : Type} {p : α → Bool} : ∀ {l : List α}, l.dropWhile p = [] → ∀ x, x ∈ l → p x = true
  | [], _, x, hx => by cases hx
  | y :: l, h, x, hx => by
    by_cases c : p y = true
    · rw [List.dropWhile_cons_of_pos c] at h
      rcases List.mem_cons.1 hx with rfl | hx
      · exact c
      · exact dropWhile_none h x hx
    · rw [List.dropWhile_cons_of_neg c] at h; cases h
theorem trimS_nil (l cs : List UInt8) : Go.Lib.trimS l cs = [] ↔ ∀ b, b ∈ l → cs.contains b = true := by
  constructor
  · intro h
    have h1 := dropWhile_none (p := (cs.contains ·)) h
    have h2 : l.reverse.dropWhile (cs.contains ·) = [] := by
      cases e : l.reverse.dropWhile (cs.contains ·) with
      | nil => rfl
      | cons x r =>
        have h3 := head_dropWhile e
        have h4 : x ∈ Go.Lib.trimRightS l cs := by unfold Go.Lib.trimRightS; rw [e]; simp
        have := h1 x h4
        simp only [h3] at this
        cases this
    intro b hb
    exact dropWhile_none h2 b (List.mem_reverse.2 hb)
  · intro h
    have h1 : Go.Lib.trimRightS l cs = [] := by
      unfold Go.Lib.trimRightS
      rw [dropAll (fun x hx => h x (List.mem_reverse.1 hx))]; rfl
    unfold Go.Lib.trimS
    rw [h1]; rfl
open Classical in
theorem digits_eq (l : List UInt8) (hl : l.length ≤ 4294967296) : number_digits.f (BA l) = some (decide (l ≠ [] ∧ ∀ b, b ∈ l → isD b)) := by
  unfold number_digits.f
  rw [BA_list]
  by_cases h : l = []
  · rw [if_pos h]; simp [h]
  · rw [if_neg h]
    unfold strings_Trim.f
    rw [if_pos ⟨by rw [BA_size]; omega, by decide, by decide⟩, Option.bind_some, BA_data]
    have e : (⟨(Go.Lib.trimS l [48, 49, 50, 51, 52, 53, 54, 55, 56, 57]).toArray⟩ : ByteArray).toList = Go.Lib.trimS l [48, 49, 50, 51, 52, 53, 54, 55, 56, 57] := BA_list _
    show some ((⟨(Go.Lib.trimS l [48, 49, 50, 51, 52, 53, 54, 55, 56, 57]).toArray⟩ : ByteArray).toList == []) = _
    rw [e]
    congr 1
    rw [Bool.eq_iff_iff, beq_iff_eq, trimS_nil, decide_eq_true_eq]
    simp only [contains_digit]
    exact ⟨fun hh => ⟨h, hh⟩, fun hh => hh.2⟩
def cutNeg (l : List UInt8) : List UInt8 × Bool := if l.head? = some 45 then (l.tail, true) else (l, false)
theorem cutNeg_cons (b : UInt8) (r : List UInt8) : cutNeg (b :: r) = if b = 45 then (r, true) else (b :: r, false) := by
  unfold cutNeg
  by_cases h : b = 45
  · rw [if_pos h, if_pos (by rw [h]; rfl)]; rfl
  · rw [if_neg h, if_neg (by simpa using h)]
theorem cutNeg_eq (l : List UInt8) (hl : l.length ≤ 4294967296) : strings_CutPrefix.f (BA l) ⟨#[45]⟩ = some (BA (cutNeg l).1, (cutNeg l).2) := by
  have s1 : ((⟨#[45]⟩ : ByteArray).size : Int) = 1 := rfl
  have t1 : (⟨#[45]⟩ : ByteArray).toList = [45] := BA_list [45]
  unfold strings_CutPrefix.f stringslite_CutPrefix.f stringslite_HasPrefix.f
  rw [s1, BA_size, t1]
  cases l with
  | nil => rfl
  | cons b r =>
    have e0 : ((BA (b :: r)).extract 0 ((1 : Int)).toNat).toList = [b] := by rw [BA_extract, BA_list]; rfl
    rw [if_pos (by simp only [List.length_cons]; omega), if_pos (by decide), if_pos (by simp only [List.length_cons]; omega), e0]
    by_cases h : b = 45
    · subst h
      have e1 : (BA (45 :: r)).extract ((1 : Int)).toNat (r.length + 1) = BA r := by
        rw [BA_extract]; congr 1
        show r.take (r.length + 1 - 1) = r
        rw [Nat.add_sub_cancel, List.take_of_length_le (Nat.le_refl _)]
      rw [cutNeg_cons, if_pos rfl]
      simp only [Option.bind_some, List.length_cons]
      rw [if_pos (by decide), if_pos (by decide), if_pos (by omega), e1]
      rfl
    · have e2 : ([b] == [45]) = false := by simpa using h
      rw [cutNeg_cons, if_neg h]
      simp only [Option.bind_some]
      rw [e2, if_neg (by decide)]
      rfl
theorem cutR_some (u v : List UInt8) (hu : ∀ b, b ∈ u → b ≠ 114) (hl : (u ++ 114 :: v).length ≤ 4294967296) : strings_Cut.f (BA (u ++ 114 :: v)) ⟨#[114]⟩ = some (BA u, BA v, true) := by
  have h1 : Go.Lib.indexByte (u ++ 114 :: v) 114 = (u.length : Int) := by
    induction u with
    | nil => rfl
    | cons b u ih =>
      have hb := hu b (by simp)
      have h2 := ih (fun x hx => hu x (by simp [hx])) (by simp only [List.cons_append, List.length_cons] at hl; omega)
      rw [List.cons_append, Go.Lib.indexByte, if_neg (by simpa using hb), h2, if_neg (by simp), List.length_cons]
      omega
  rw [List.length_append, List.length_cons] at hl
  have e0 : (bt (⟨#[114]⟩ : ByteArray) 0).toNat.toUInt8 = 114 := by decide
  have s1 : ((⟨#[114]⟩ : ByteArray).size : Int) = 1 := rfl
  have e1 : wrap64 ((u.length : Int) + 1) = ((u.length + 1 : Nat) : Int) := by rw [w64 (by omega) (by omega)]; omega
  have hs : (BA (u ++ 114 :: v)).size = u.length + (v.length + 1) := by rw [BA_size, List.length_append, List.length_cons]
  unfold strings_Cut.f stringslite_Cut.f stringslite_Index.f
  rw [if_pos (show (⟨#[114]⟩ : ByteArray).size = 1 from rfl), BA_data, e0, h1, Option.bind_some, s1, e1, hs, if_pos (by omega), if_pos (by omega), if_pos (by omega), if_pos (by omega), if_pos (by omega), Int.toNat_natCast, Int.toNat_natCast, BA_extract, BA_extract, Option.bind_some]
  have e2 : ((u ++ 114 :: v).drop 0).take (u.length - 0) = u := by rw [List.drop_zero, Nat.sub_zero, List.take_left]
  have e3 : ((u ++ 114 :: v).drop (u.length + 1)).take (u.length + (v.length + 1) - (u.length + 1)) = v := by
    have e4 : (u ++ 114 :: v).drop (u.length + 1) = v := by rw [← List.drop_drop, List.drop_left]; rfl
    rw [e4, List.take_of_length_le (by omega)]
  rw [e2, e3]
theorem cutR_none (l : List UInt8) (hu : ∀ b, b ∈ l → b ≠ 114) : strings_Cut.f (BA l) ⟨#[114]⟩ = some (BA l, BA [], false) := by
  have h1 : Go.Lib.indexByte l 114 = -1 := by
    induction l with
    | nil => rfl
    | cons b u ih =>
      have hb := hu b (by simp)
      rw [Go.Lib.indexByte, if_neg (by simpa using hb), ih (fun x hx => hu x (by simp [hx]))]
      rfl
  have e0 : (bt (⟨#[114]⟩ : ByteArray) 0).toNat.toUInt8 = 114 := by decide
  unfold strings_Cut.f stringslite_Cut.f stringslite_Index.f
  rw [if_pos (show (⟨#[114]⟩ : ByteArray).size = 1 from rfl), BA_data, e0, h1, Option.bind_some, if_neg (by decide)]
  rfl
def sv (v : Int) (l : List UInt8) : Int := l.foldl (fun v b => v * 10 + ((b.toNat : Int) - 48)) v
theorem sv_cons (v : Int) (b : UInt8) (l : List UInt8) : sv v (b :: l) = sv (v * 10 + ((b.toNat : Int) - 48)) l := rfl
theorem sv_append (v : Int) (a b : List UInt8) : sv v (a ++ b) = sv (sv v a) b := List.foldl_append
theorem sv_from (v : Int) (l : List UInt8) : sv v l = v * 10 ^ l.length + sv 0 l := by
  induction l generalizing v with
  | nil => simp [sv]
  | cons b l ih =>
    rw [sv_cons, ih, sv_cons, ih (0 * 10 + _), List.length_cons, Int.pow_succ]
    generalize (10 : Int) ^ l.length = p
    grind
theorem sv_bounds (l : List UInt8) (h : ∀ b, b ∈ l → isD b) : 0 ≤ sv 0 l ∧ sv 0 l < 10 ^ l.length := by
  induction l with
  | nil => simp [sv]
  | cons b l ih =>
    obtain ⟨h1, h2⟩ := ih (fun x hx => h x (by simp [hx]))
    have hb := h b (by simp)
    unfold isD at hb
    rw [sv_cons, sv_from, List.length_cons, Int.pow_succ]
    have hp : (0 : Int) < 10 ^ l.length := Int.pow_pos (by decide)
    have h3 : 0 ≤ (0 * 10 + ((b.toNat : Int) - 48)) * 10 ^ l.length := Int.mul_nonneg (by omega) (by omega)
    have h4 : (0 * 10 + ((b.toNat : Int) - 48)) * 10 ^ l.length ≤ 9 * 10 ^ l.length := Int.mul_le_mul_of_nonneg_right (by omega) (by omega)
    omega
theorem from_l1 (l : List UInt8) (hd : ∀ b, b ∈ l → isD b) (hl : l.length ≤ 1048576) (n : Nat) (hn : n ≤ 9) (hnl : n ≤ l.length) (out : List Int) (ho : Lim 4294967296 out) (no : Nrm out) (lo : out.length ≤ 1073741824) :
    ∃ q, Lim 4294967296 q ∧ Nrm q ∧ val 4294967296 q = val 4294967296 out * 10 ^ n + sv 0 (l.take n) ∧ q.length ≤ out.length + 3 ∧
      ∀ R, Ev (fun k => nat_FromDecimal.l0 k (BA (l.drop n)) q) R → ∀ (d i : Nat), d + i = n → Ev (fun k => nat_FromDecimal.l1 k (BA l) out (n : Int) (sv 0 (l.take i)) (10 ^ i) (n : Int) (i : Int)) R := by
  have hpow : ∀ i, i ≤ 9 → (10 : Int) ^ i ≤ 1000000000 ∧ 0 < (10 : Int) ^ i := fun i hi => ⟨by have := pow_mono' (B := 10) (by decide) hi; simpa using this, Int.pow_pos (by decide)⟩
  have hsv : ∀ i, i ≤ n → 0 ≤ sv 0 (l.take i) ∧ sv 0 (l.take i) < 10 ^ i := by
    intro i hi
    have h1 := sv_bounds (l.take i) (fun b hb => hd b (List.mem_of_mem_take hb))
    rw [List.length_take, Nat.min_eq_left (by omega)] at h1
    exact h1
  obtain ⟨p1, p2⟩ := hpow n hn
  obtain ⟨s1, s2⟩ := hsv n (Nat.le_refl _)
  obtain ⟨P, P1, P2, P3, P4, P5⟩ := Of_ev (10 ^ n) (by omega) (by omega)
  obtain ⟨S, S1, S2, S3, S4, S5⟩ := Of_ev (sv 0 (l.take n)) s1 (by omega)
  obtain ⟨m, m1, m2, m3, m4, m5⟩ := Mul_ev out P ho P2 (by omega)
  obtain ⟨q, q1, q2, q3, q4, q5⟩ := plus_ev m S m2 S2 (by omega) (by omega)
  refine ⟨q, q2, q3, by rw [q4, m4, P4, S4], by omega, fun R hR => ?_⟩
  intro d
  induction d with
  | zero =>
    intro i hd0
    have hi : i = n := by omega
    subst hi
    have hx : (BA l).extract i l.length = BA (l.drop i) := by rw [BA_extract, List.take_of_length_le (by simp)]
    refine Ev.step (f := fun k => (nat_Of.f k (10 ^ i)).bind fun t311 => ((nat_Mul.f k out t311).bind fun t314 => ((nat_Of.f k (sv 0 (l.take i))).bind fun t317 => ((nat_plus.f k t314 t317).bind fun t320 => nat_FromDecimal.l0 k (BA (l.drop i)) t320)))) (fun k => ?_) ?_
    · simp only [nat_FromDecimal.l1]
      have gA : (0 : Int) ≤ (i : Int) := by omega
      have gB : (i : Int) ≤ ((BA l).size : Int) := by rw [BA_size]; omega
      rw [if_neg (by omega)]
      simp only [if_pos gA, if_pos gB, Int.toNat_natCast]
      rw [BA_size, hx]
    · refine Ev.bind (f := fun k t311 => ((nat_Mul.f k out t311).bind fun t314 => ((nat_Of.f k (sv 0 (l.take i))).bind fun t317 => ((nat_plus.f k t314 t317).bind fun t320 => nat_FromDecimal.l0 k (BA (l.drop i)) t320)))) P1 ?_
      refine Ev.bind (f := fun k t314 => ((nat_Of.f k (sv 0 (l.take i))).bind fun t317 => ((nat_plus.f k t314 t317).bind fun t320 => nat_FromDecimal.l0 k (BA (l.drop i)) t320))) m1 ?_
      refine Ev.bind (f := fun k t317 => ((nat_plus.f k m t317).bind fun t320 => nat_FromDecimal.l0 k (BA (l.drop i)) t320)) S1 ?_
      exact Ev.bind (f := fun k t320 => nat_FromDecimal.l0 k (BA (l.drop i)) t320) q1 hR
  | succ d ih =>
    intro i hd0
    have h1 := ih (i + 1) (by omega)
    obtain ⟨a1, a2⟩ := hpow i (by omega)
    obtain ⟨a3, a4⟩ := hpow (i + 1) (by omega)
    obtain ⟨b1, b2⟩ := hsv i (by omega)
    obtain ⟨b3, b4⟩ := hsv (i + 1) (by omega)
    have gi : i < l.length := by omega
    have hb : isD (l.getD i 0) := by
      rw [List.getD_eq_getElem?_getD, List.getElem?_eq_getElem gi]
      exact hd _ (List.getElem_mem gi)
    unfold isD at hb
    have e1 : sv 0 (l.take (i + 1)) = sv 0 (l.take i) * 10 + (((l.getD i 0).toNat : Int) - 48) := by
      rw [List.take_succ_eq_append_getElem gi, sv_append, List.getD_eq_getElem?_getD, List.getElem?_eq_getElem gi]; rfl
    have e2 : ∀ _ : Unit, wrap64 ((i : Int) + 1) = ((i + 1 : Nat) : Int) := fun _ => by rw [w64 (by omega) (by omega)]; omega
    have e3 : IntKind.u64.wrap (IntKind.u64.wrap (sv 0 (l.take i) * 10) + ((((l.getD i 0).toNat : Int) - 48) % 256)) = sv 0 (l.take (i + 1)) := by
      rw [u64_id (x := sv 0 (l.take i) * 10) (by omega) (by omega), e1]
      have e4 : (((l.getD i 0).toNat : Int) - 48) % 256 = ((l.getD i 0).toNat : Int) - 48 := by omega
      rw [e4, u64_id (by omega) (by omega)]
    have e5 : IntKind.u64.wrap ((10 : Int) ^ i * 10) = 10 ^ (i + 1) := by
      rw [Int.pow_succ] at a3
      rw [Int.pow_succ, u64_id (by omega) (by omega)]
    refine Ev.step (f := fun k => nat_FromDecimal.l1 k (BA l) out (n : Int) (sv 0 (l.take (i + 1))) (10 ^ (i + 1)) (n : Int) ((i + 1 : Nat) : Int)) (fun k => ?_) h1
    simp only [nat_FromDecimal.l1]
    rw [if_pos (by omega), if_pos (by omega), if_pos (by rw [BA_size]; omega), bt_BA, e3, e5, e2 ()]
theorem from_l0 : ∀ (m : Nat) (l : List UInt8) (out : List Int), l.length ≤ m → m ≤ 1048576 → (∀ b, b ∈ l → isD b) → Lim 4294967296 out → Nrm out → out.length + 3 * l.length ≤ 16777216 →
    ∃ q, Lim 4294967296 q ∧ Nrm q ∧ val 4294967296 q = val 4294967296 out * 10 ^ l.length + sv 0 l ∧ q.length ≤ out.length + 3 * l.length ∧ Ev (fun k => nat_FromDecimal.l0 k (BA l) out) q := by
  intro m
  induction m with
  | zero =>
    intro l out h0 _ _ ho no _
    have e : l = [] := List.length_eq_zero_iff.1 (by omega)
    subst e
    refine ⟨out, ho, no, by simp [sv], by simp, Ev.step (f := fun _ => some out) (fun k => ?_) (Ev.now _)⟩
    simp only [nat_FromDecimal.l0]
    rw [if_neg (by decide)]
  | succ m ih =>
    intro l out h0 hm hd ho no hL
    by_cases c : l = []
    · subst c
      refine ⟨out, ho, no, by simp [sv], by simp, Ev.step (f := fun _ => some out) (fun k => ?_) (Ev.now _)⟩
      simp only [nat_FromDecimal.l0]
      rw [if_neg (by decide)]
    · have hl0 : l.length ≠ 0 := fun h' => c (List.length_eq_zero_iff.1 h')
      obtain ⟨n, hn⟩ : ∃ n, n = (l.length - 1) % 9 + 1 := ⟨_, rfl⟩
      have n1 : 1 ≤ n := by omega
      have n2 : n ≤ 9 := by omega
      have n3 : n ≤ l.length := by omega
      have e1 : wrap64 (Int.tmod (wrap64 ((l.length : Int) - 1)) 9 + 1) = (n : Int) := by
        have a1 : wrap64 ((l.length : Int) - 1) = (l.length : Int) - 1 := w64 (by omega) (by omega)
        have a2 : Int.tmod ((l.length : Int) - 1) 9 = ((l.length : Int) - 1) % 9 := Int.tmod_eq_emod_of_nonneg (by omega)
        rw [a1, a2, w64 (by omega) (by omega)]
        omega
      obtain ⟨q, q1, q2, q3, q4, q5⟩ := from_l1 l hd (by omega) n n2 n3 out ho no (by omega)
      have hdl : (l.drop n).length = l.length - n := List.length_drop
      obtain ⟨s, s1, s2, s3, s4, s5⟩ := ih (l.drop n) q (by omega) (by omega) (fun b hb => hd b (List.mem_of_mem_drop hb)) q1 q2 (by omega)
      refine ⟨s, s1, s2, ?_, by omega, ?_⟩
      · rw [s3, q3, hdl]
        have e2 : sv 0 l = sv 0 (l.take n) * 10 ^ (l.length - n) + sv 0 (l.drop n) := by
          have e3 : sv 0 l = sv 0 (l.take n ++ l.drop n) := by rw [List.take_append_drop]
          rw [e3, sv_append, sv_from, hdl]
        have e4 : (10 : Int) ^ l.length = 10 ^ n * 10 ^ (l.length - n) := by rw [← Int.pow_add]; congr 1; omega
        rw [e2, e4]
        generalize (10 : Int) ^ n = a
        generalize (10 : Int) ^ (l.length - n) = b
        clear q5 s5 ih
        grind
      · refine Ev.step (f := fun k => nat_FromDecimal.l1 k (BA l) out (n : Int) (sv 0 (l.take 0)) (10 ^ 0) (n : Int) ((0 : Nat) : Int)) (fun k => ?_) (q5 s s5 n 0 (by omega))
        simp only [nat_FromDecimal.l0]
        rw [BA_size, if_pos (by omega), e1]
        rfl
theorem FromDecimal_ev (l : List UInt8) (hd : ∀ b, b ∈ l → isD b) (hl : l.length ≤ 1048576) :
    ∃ q, Lim 4294967296 q ∧ Nrm q ∧ val 4294967296 q = sv 0 l ∧ q.length ≤ 3 * l.length ∧ Ev (fun k => nat_FromDecimal.f k (BA l)) q := by
  obtain ⟨q, q1, q2, q3, q4, q5⟩ := from_l0 l.length l [] (Nat.le_refl _) hl hd (lim_nil _) nrm_nil (by simp; omega)
  exact ⟨q, q1, q2, by rw [q3]; simp [val], by simpa using q4, q5⟩
def tb (ds : List Int) : List UInt8 := (chs ds).map fun n => UInt8.ofNat n.toNat
theorem tb_cons (d : Int) (ds : List Int) : tb (d :: ds) = tb ds ++ [UInt8.ofNat (48 + d).toNat] := by simp [tb, chs]
theorem tb_length (ds : List Int) : (tb ds).length = ds.length := by simp [tb, chs]
theorem ofNat_digit {d : Int} (h0 : 0 ≤ d) (h1 : d < 10) : ((UInt8.ofNat (48 + d).toNat).toNat : Int) = 48 + d := by
  rw [UInt8.toNat_ofNat']
  omega
theorem tb_digit : ∀ {ds : List Int}, Lim 10 ds → ∀ b, b ∈ tb ds → isD b
  | [], _, b, hb => by cases hb
  | d :: ds, h, b, hb => by
    obtain ⟨h1, h2⟩ := lim_cons.1 h
    rw [tb_cons] at hb
    rcases List.mem_append.1 hb with hb | hb
    · exact tb_digit h2 b hb
    · rw [List.mem_singleton] at hb
      have := ofNat_digit h1.1 h1.2
      rw [← hb] at this
      unfold isD
      omega
theorem tb_val : ∀ {ds : List Int}, Lim 10 ds → sv 0 (tb ds) = val 10 ds
  | [], _ => rfl
  | d :: ds, h => by
    obtain ⟨h1, h2⟩ := lim_cons.1 h
    rw [tb_cons, sv_append, tb_val h2, val]
    show val 10 ds * 10 + (((UInt8.ofNat (48 + d).toNat).toNat : Int) - 48) = _
    rw [ofNat_digit h1.1 h1.2]
    omega
theorem big_pow : (4294967296 : Int) ^ 128 < 10 ^ 1234 := by decide +kernel
theorem Decs_ev (a a' : List Int) (ha : Lim 4294967296 a) (na : Nrm a) (la : a.length ≤ 128) (ha' : Lim 65536 a') (na' : Nrm a') (la' : a'.length ≤ 1024) (hv : val 65536 a' = val 4294967296 a) :
    ∃ l, l ≠ [] ∧ (∀ b, b ∈ l → isD b) ∧ sv 0 l = val 4294967296 a ∧ l.length ≤ 1234 ∧ Ev (fun k => nat_Decimal.f k a) (BA l) ∧ Ev (fun k => rf_Decimal.f k a') (BA l) := by
  by_cases h : a = []
  · have h' : a' = [] := (val_eq_zero (by decide) ha' na').1 (by rw [hv, h]; rfl)
    subst h
    subst h'
    refine ⟨[48], by decide, fun b hb => by rw [List.mem_singleton] at hb; subst hb; unfold isD; decide, by decide, by decide, Ev.ret fun k => ?_, Ev.ret fun k => ?_⟩
    · unfold nat_Decimal.f; rfl
    · unfold rf_Decimal.f; rfl
  · have h' : a' ≠ [] := fun e => h ((val_eq_zero (by decide) ha na).1 (by rw [← hv, e]; rfl))
    obtain ⟨ds, d1, d2⟩ := Decimal_ev a ha na (by omega) h
    obtain ⟨es, e1, e2⟩ := RDecimal_ev a' ha' na' (by omega) h'
    rw [hv] at e1
    have := d1.same e1
    subst this
    have hlen : ds.length ≤ 1234 := by
      refine small_len (B := 10) (by decide) d1.1 d1.2.1 ?_
      rw [d1.2.2]
      have h1 := val_lt (by decide) ha
      have h2 := pow_mono' (B := 4294967296) (by decide) la
      have h3 := big_pow
      generalize (10 : Int) ^ 1234 = z at *
      generalize (4294967296 : Int) ^ 128 = y at *
      omega
    have hne : ds ≠ [] := by
      rintro rfl
      have h1 := val_pos (by decide) ha na h
      have h2 := d1.2.2
      simp [val] at h2
      omega
    refine ⟨tb ds, ?_, tb_digit d1.1, by rw [tb_val d1.1, d1.2.2], by rw [tb_length]; exact hlen, d2, e2⟩
    intro e
    have := tb_length ds
    rw [e] at this
    exact hne (List.length_eq_zero_iff.1 this.symm)
theorem can_of_fault {neg : Bool} {num den : List Int} (h : fault neg num den = 0) : Can neg num den := by
  unfold fault at h
  by_cases c : num.length > 128 ∨ den.length > 128
  · rw [if_pos c] at h; omega
  · rw [if_neg c] at h
    by_cases d : Can neg num den
    · exact d
    · rw [if_neg d] at h; omega
theorem clone_eq (a : List Int) (h : a.length ≤ 1099511627776) : slices_Clone_uint32_uint32.f a = some a := by unfold slices_Clone_uint32_uint32.f; rw [if_pos (by omega)]
theorem raw_can (neg : Bool) (num den : List Int) (hn : Lim 4294967296 num) (hd : Lim 4294967296 den) (h : Can neg num den) : Ev (fun k => number_raw.f k neg num den) (neg, num, den) := by
  have l1 := h.ln
  have l2 := h.ld
  have hd0 := val_nonneg (by decide) hd
  by_cases h0 : num = []
  · have e1 : den = [1] := by
      refine (eq_one (by decide) hd h.nd).1 ?_
      have := h.gc
      rw [h0] at this
      have h2 : (val 4294967296 []).toNat = 0 := rfl
      rw [h2, Nat.gcd_zero_left] at this
      omega
    have e2 := h.ng h0
    subst h0
    subst e1
    subst e2
    exact Ev.ret fun k => by unfold number_raw.f; rfl
  · have hl : ¬ (num.length : Int) = 0 := by
      have : num.length ≠ 0 := fun h' => h0 (List.length_eq_zero_iff.1 h')
      omega
    by_cases c : den = [1]
    · refine Ev.ret fun k => ?_
      unfold number_raw.f
      rw [if_neg hl, IsOne_eq, Option.bind_some, if_pos (decide_eq_true c), clone_eq num (by omega), Option.bind_some, clone_eq den (by omega), Option.bind_some]
    · obtain ⟨g, g1, g2, g3, g4⟩ := Gcd_ev num den hn hd h.nn h.nd (by omega) (by omega)
      have e1 : g = [1] := (eq_one (by decide) g2 g3).1 (by rw [g4, h.gc]; rfl)
      subst e1
      refine Ev.congr (f := fun k => (nat_Gcd.f k num den).bind fun t334 => ((nat_IsOne.f t334).bind fun t337 => (if t337 = true then ((slices_Clone_uint32_uint32.f num).bind fun t338 => ((slices_Clone_uint32_uint32.f den).bind fun t341 => (some (neg, t338, t341)))) else ((nat_DivMod.f k num t334).bind fun bt344 => ((nat_DivMod.f k den t334).bind fun bt350 => ((slices_Clone_uint32_uint32.f bt344.1).bind fun t356 => ((slices_Clone_uint32_uint32.f bt350.1).bind fun t359 => (some (neg, t356, t359))))))))) (fun k => by unfold number_raw.f; rw [if_neg hl, IsOne_eq, Option.bind_some, if_neg (by simp [c])]) ?_
      refine Ev.bind g1 (Ev.ret fun k => ?_)
      rw [IsOne_eq, Option.bind_some, if_pos (by decide), clone_eq num (by omega), Option.bind_some, clone_eq den (by omega), Option.bind_some]
theorem made_can (neg : Bool) (num den : List Int) (hn : Lim 4294967296 num) (hd : Lim 4294967296 den) (h : Can neg num den) : Ev (fun k => number_made.f k neg num den) (neg, num, den, 0) := by
  have l1 := h.ln
  have l2 := h.ld
  refine Ev.bind (f := fun k bt365 => ((number_fits.f bt365.1 bt365.2.1 bt365.2.2).bind fun bt372 => (some (bt372.1, bt372.2.1, bt372.2.2.1, bt372.2.2.2)))) (raw_can neg num den hn hd h) (Ev.ret fun k => ?_)
  have e : number_fits.f neg num den = some (neg, num, den, 0) := by
    unfold number_fits.f
    rw [if_neg (by omega), if_neg (by omega)]
  show (number_fits.f neg num den).bind _ = _
  rw [e]; rfl
theorem digits_true {l : List UInt8} (hl : l.length ≤ 4294967296) (h0 : l ≠ []) (hd : ∀ b, b ∈ l → isD b) : number_digits.f (BA l) = some true := by
  rw [digits_eq l hl]
  congr 1
  simp only [decide_eq_true_eq]
  exact ⟨h0, hd⟩
def txt (neg : Bool) (l : List UInt8) (one : Bool) (m : List UInt8) : List UInt8 := (if neg then [45] else []) ++ (l ++ (if one then [] else 114 :: m))
theorem not114 {b : UInt8} (h : isD b) : b ≠ 114 := by rintro rfl; unfold isD at h; revert h; decide
theorem not45 {b : UInt8} (h : isD b) : b ≠ 45 := by rintro rfl; unfold isD at h; revert h; decide
theorem parse_txt (neg : Bool) (num den : List Int) (hn : Lim 4294967296 num) (hd : Lim 4294967296 den) (h : Can neg num den) (l m : List UInt8) (l0 : l ≠ []) (ld : ∀ b, b ∈ l → isD b) (lv : sv 0 l = val 4294967296 num) (ll : l.length ≤ 1234)
    (m0 : m ≠ []) (md : ∀ b, b ∈ m → isD b) (mv : sv 0 m = val 4294967296 den) (ml : m.length ≤ 1234) : Ev (fun k => number_Parse.f k (BA (txt neg l (decide (den = [1])) m))) (neg, num, den, 0) := by
  obtain ⟨p, p1, p2, p3, p4, p5⟩ := FromDecimal_ev l ld (by omega)
  obtain ⟨q, q1, q2, q3, q4, q5⟩ := FromDecimal_ev m md (by omega)
  have ep : p = num := val_inj (by decide) p1 hn p2 h.nn (by rw [p3, lv])
  have eq : q = den := val_inj (by decide) q1 hd q2 h.nd (by rw [q3, mv])
  subst ep
  subst eq
  have hlen : (txt neg l (decide (q = [1])) m).length ≤ 2500 := by
    unfold txt
    simp only [List.length_append]
    have h1 : (if neg = true then [45] else ([] : List UInt8)).length ≤ 1 := by cases neg <;> simp
    have h2 : (if decide (q = [1]) = true then [] else 114 :: m).length ≤ 1235 := by split <;> simp; omega
    omega
  have hcut : cutNeg (txt neg l (decide (q = [1])) m) = (l ++ (if decide (q = [1]) = true then [] else 114 :: m), neg) := by
    unfold txt
    cases neg with
    | true => rfl
    | false =>
      cases l with
      | nil => exact absurd rfl l0
      | cons b r =>
        show cutNeg (b :: (r ++ _)) = _
        rw [cutNeg_cons, if_neg (not45 (ld b (by simp)))]; rfl
  have dl : number_digits.f (BA l) = some true := digits_true (by omega) l0 ld
  have dm : number_digits.f (BA m) = some true := digits_true (by omega) m0 md
  have hsz : ¬ ((BA (txt neg l (decide (q = [1])) m)).size : Int) > 2500 := by rw [BA_size]; omega
  have hm := made_can neg p q hn hd h
  by_cases c : q = [1]
  · have e1 : l ++ (if decide (q = [1]) = true then [] else 114 :: m) = l := by rw [if_pos (decide_eq_true c), List.append_nil]
    refine Ev.congr (f := fun k => number_Parse.j0 k (BA l) neg (BA []) false false) (fun k => ?_) ?_
    · unfold number_Parse.f
      rw [if_neg hsz, cutNeg_eq _ (by omega), hcut, e1, Option.bind_some]
      show (strings_Cut.f (BA l) _).bind _ = _
      rw [cutR_none l (fun b hb => not114 (ld b hb)), Option.bind_some, dl, Option.bind_some, if_pos rfl, if_neg (show ¬ (false = true) by decide)]
    · refine Ev.step (f := fun k => (nat_FromDecimal.f k (BA l)).bind fun t405 => ((number_made.f k neg t405 (([1] : List Int))).bind fun bt408 => (some (bt408.1, bt408.2.1, bt408.2.2.1, bt408.2.2.2)))) (fun k => by simp only [number_Parse.j0]; rw [if_neg (by decide), if_neg (by decide)]) ?_
      refine Ev.bind (f := fun k t405 => (number_made.f k neg t405 (([1] : List Int))).bind fun bt408 => (some (bt408.1, bt408.2.1, bt408.2.2.1, bt408.2.2.2))) p5 ?_
      subst c
      exact Ev.bind (f := fun _ bt408 => some (bt408.1, bt408.2.1, bt408.2.2.1, bt408.2.2.2)) hm (Ev.now _)
  · have e1 : l ++ (if decide (q = [1]) = true then [] else 114 :: m) = l ++ 114 :: m := by rw [if_neg (by simp [c])]
    have hq : ¬ (q.length : Int) = 0 := by
      have : q.length ≠ 0 := fun h' => h.d0 (List.length_eq_zero_iff.1 h')
      omega
    refine Ev.congr (f := fun k => number_Parse.j0 k (BA l) neg (BA m) true false) (fun k => ?_) ?_
    · unfold number_Parse.f
      rw [if_neg hsz, cutNeg_eq _ (by omega), hcut, e1, Option.bind_some]
      show (strings_Cut.f (BA (l ++ 114 :: m)) _).bind _ = _
      rw [cutR_some l m (fun b hb => not114 (ld b hb)) (by rw [List.length_append, List.length_cons]; omega), Option.bind_some, dl, Option.bind_some, if_pos rfl, if_pos rfl, dm]
      rfl
    · refine Ev.step (f := fun k => (nat_FromDecimal.f k (BA m)).bind fun t391 => (if (t391.length : Int) = 0 then (some (false, ([] : List Int), ([] : List Int), 10)) else ((nat_FromDecimal.f k (BA l)).bind fun t394 => ((number_made.f k neg t394 t391).bind fun bt397 => (some (bt397.1, bt397.2.1, bt397.2.2.1, bt397.2.2.2)))))) (fun k => by simp only [number_Parse.j0]; rw [if_neg (by decide), if_pos trivial]) ?_
      refine Ev.bind (f := fun k t391 => (if (t391.length : Int) = 0 then (some (false, ([] : List Int), ([] : List Int), 10)) else ((nat_FromDecimal.f k (BA l)).bind fun t394 => ((number_made.f k neg t394 t391).bind fun bt397 => (some (bt397.1, bt397.2.1, bt397.2.2.1, bt397.2.2.2)))))) q5 ?_
      refine Ev.congr (f := fun k => (nat_FromDecimal.f k (BA l)).bind fun t394 => ((number_made.f k neg t394 q).bind fun bt397 => (some (bt397.1, bt397.2.1, bt397.2.2.1, bt397.2.2.2)))) (fun k => if_neg hq) ?_
      refine Ev.bind (f := fun k t394 => (number_made.f k neg t394 q).bind fun bt397 => (some (bt397.1, bt397.2.1, bt397.2.2.1, bt397.2.2.2))) p5 ?_
      exact Ev.bind (f := fun _ bt397 => some (bt397.1, bt397.2.1, bt397.2.2.1, bt397.2.2.2)) hm (Ev.now _)
theorem format_txt (neg : Bool) (num den : List Int) (hn : Lim 4294967296 num) (hd : Lim 4294967296 den) (h : Can neg num den) (l m : List UInt8) (ll : l.length ≤ 1234) (ml : m.length ≤ 1234)
    (hl : Ev (fun k => nat_Decimal.f k num) (BA l)) (hm : Ev (fun k => nat_Decimal.f k den) (BA m)) : Ev (fun k => number_Format.f k neg num den) (BA (txt neg l (decide (den = [1])) m), 0) := by
  have h45 : (⟨#[45]⟩ : ByteArray) = BA [45] := rfl
  have h114 : (⟨#[114]⟩ : ByteArray) = BA [114] := rfl
  have tail : ∀ u : List UInt8, u.length ≤ 1235 → Ev (fun k => number_Format.j0 k (BA u) neg num den) (BA (u ++ (if decide (den = [1]) = true then [] else 114 :: m)), 0) := by
    intro u hu
    by_cases c : den = [1]
    · rw [if_pos (decide_eq_true c), List.append_nil]
      refine Ev.step (f := fun _ => some (BA u, 0)) (fun k => ?_) (Ev.now _)
      simp only [number_Format.j0]
      rw [IsOne_eq, Option.bind_some, if_pos (decide_eq_true c)]
    · rw [if_neg (by simp [c])]
      refine Ev.step (f := fun k => (nat_Decimal.f k den).bind fun t263 => (if 1 + t263.size ≤ 9223372036854775807 then (if (BA u).size + ((⟨#[114]⟩ : ByteArray) ++ t263).size ≤ 9223372036854775807 then (some (BA u ++ ((⟨#[114]⟩ : ByteArray) ++ t263), 0)) else (none)) else (none))) (fun k => ?_) ?_
      · simp only [number_Format.j0]
        rw [IsOne_eq, Option.bind_some, if_neg (by simp [c])]
      · refine Ev.bind (f := fun _ t263 => (if 1 + t263.size ≤ 9223372036854775807 then (if (BA u).size + ((⟨#[114]⟩ : ByteArray) ++ t263).size ≤ 9223372036854775807 then (some (BA u ++ ((⟨#[114]⟩ : ByteArray) ++ t263), 0)) else (none)) else (none))) hm (Ev.ret fun k => ?_)
        rw [h114, BA_append, BA_append, BA_size, BA_size, BA_size, if_pos (by omega), if_pos (by rw [List.length_append, List.length_singleton]; omega)]
        rfl
  refine Ev.bind (f := fun k t260 => (if t260 = 0 then ((nat_Decimal.f k num).bind fun t261 => (if neg = true then (if 1 + t261.size ≤ 9223372036854775807 then (number_Format.j0 k ((⟨#[45]⟩ : ByteArray) ++ t261) neg num den) else (none)) else (number_Format.j0 k t261 neg num den))) else (some ((⟨#[]⟩ : ByteArray), t260)))) (Check_ev neg num den hn hd) ?_
  rw [fault_can h]
  refine Ev.congr (f := fun k => (nat_Decimal.f k num).bind fun t261 => (if neg = true then (if 1 + t261.size ≤ 9223372036854775807 then (number_Format.j0 k ((⟨#[45]⟩ : ByteArray) ++ t261) neg num den) else (none)) else (number_Format.j0 k t261 neg num den))) (fun k => if_pos rfl) ?_
  refine Ev.bind (f := fun k t261 => (if neg = true then (if 1 + t261.size ≤ 9223372036854775807 then (number_Format.j0 k ((⟨#[45]⟩ : ByteArray) ++ t261) neg num den) else (none)) else (number_Format.j0 k t261 neg num den))) hl ?_
  by_cases hneg : neg = true
  · refine Ev.congr (f := fun k => number_Format.j0 k (BA ([45] ++ l)) neg num den) (fun k => by rw [if_pos hneg, BA_size, if_pos (by omega), h45, BA_append]) (Ev.eq (tail ([45] ++ l) (by rw [List.length_append, List.length_singleton]; omega)) ?_)
    unfold txt
    rw [if_pos hneg, List.append_assoc]
  · refine Ev.congr (f := fun k => number_Format.j0 k (BA l) neg num den) (fun k => if_neg hneg) (Ev.eq (tail l (by omega)) ?_)
    unfold txt
    rw [if_neg hneg, List.nil_append]
theorem isInt_ev (neg : Bool) (a b : List Int) (hb : Lim 65536 b) (nb : Nrm b) (lb : b.length ≤ 1048576) : Ev (fun k => rf_IsInt.f k neg a b) (decide (val 65536 b = 1)) := by
  refine Ev.bind (f := fun _ t645 => some (t645 == 0)) (CmpNat_ev b [1] hb (one_lim (by decide)) (by omega) (by decide)) (Ev.eq (Ev.now _) ?_)
  rw [val_one]
  unfold cmpI
  by_cases h : val 65536 b = 1
  · rw [h]; rfl
  · by_cases h2 : val 65536 b < 1
    · rw [if_pos h2, decide_eq_false h]; rfl
    · rw [if_neg h2, if_pos (by omega), decide_eq_false h]; rfl
theorem rformat_txt (neg : Bool) (num den : List Int) (hn : Lim 4294967296 num) (hd : Lim 4294967296 den) (h : Can neg num den) : ∃ l m, l ≠ [] ∧ (∀ b, b ∈ l → isD b) ∧ sv 0 l = val 4294967296 num ∧ l.length ≤ 1234 ∧ m ≠ [] ∧ (∀ b, b ∈ m → isD b) ∧ sv 0 m = val 4294967296 den ∧ m.length ≤ 1234 ∧
    Ev (fun k => nat_Decimal.f k num) (BA l) ∧ Ev (fun k => nat_Decimal.f k den) (BA m) ∧ Ev (fun k => rf_Format.f k neg num den) (BA (txt neg l (decide (den = [1])) m), 0) := by
  have l1 := h.ln
  have l2 := h.ld
  obtain ⟨p, p1, p2, p3, p4, p5⟩ := natOf_ev num hn (by omega)
  obtain ⟨q, q1, q2, q3, q4, q5⟩ := natOf_ev den hd (by omega)
  obtain ⟨l, a0, a1, a2, a3, a4, a5⟩ := Decs_ev num p hn h.nn l1 p2 p3 (by omega) p4
  obtain ⟨m, b0, b1, b2, b3, b4, b5⟩ := Decs_ev den q hd h.nd l2 q2 q3 (by omega) q4
  refine ⟨l, m, a0, a1, a2, a3, b0, b1, b2, b3, a4, b4, ?_⟩
  have h45 : (⟨#[45]⟩ : ByteArray) = BA [45] := rfl
  have h114 : (⟨#[114]⟩ : ByteArray) = BA [114] := rfl
  have hone : decide (val 65536 q = 1) = decide (den = [1]) := by
    rw [q4]
    congr 1
    exact propext (eq_one (by decide) hd h.nd)
  have tail : ∀ u : List UInt8, u.length ≤ 1235 → Ev (fun k => rf_Text.j0 k (BA u) neg p q) (BA (u ++ (if decide (den = [1]) = true then [] else 114 :: m))) := by
    intro u hu
    refine Ev.step (f := fun k => (rf_IsInt.f k neg p q).bind fun t1636 => (if t1636 = true then (some (BA u)) else ((rf_Decimal.f k q).bind fun t1637 => (if 1 + t1637.size ≤ 9223372036854775807 then (if (BA u).size + ((⟨#[114]⟩ : ByteArray) ++ t1637).size ≤ 9223372036854775807 then (some (BA u ++ ((⟨#[114]⟩ : ByteArray) ++ t1637))) else (none)) else (none))))) (fun k => by simp only [rf_Text.j0]) ?_
    refine Ev.bind (f := fun k t1636 => (if t1636 = true then (some (BA u)) else ((rf_Decimal.f k q).bind fun t1637 => (if 1 + t1637.size ≤ 9223372036854775807 then (if (BA u).size + ((⟨#[114]⟩ : ByteArray) ++ t1637).size ≤ 9223372036854775807 then (some (BA u ++ ((⟨#[114]⟩ : ByteArray) ++ t1637))) else (none)) else (none))))) (isInt_ev neg p q q2 q3 (by omega)) ?_
    rw [hone]
    by_cases c : den = [1]
    · rw [if_pos (decide_eq_true c), List.append_nil]
      exact Ev.ret fun k => if_pos (decide_eq_true c)
    · rw [if_neg (by simp [c])]
      refine Ev.congr (f := fun k => (rf_Decimal.f k q).bind fun t1637 => (if 1 + t1637.size ≤ 9223372036854775807 then (if (BA u).size + ((⟨#[114]⟩ : ByteArray) ++ t1637).size ≤ 9223372036854775807 then (some (BA u ++ ((⟨#[114]⟩ : ByteArray) ++ t1637))) else (none)) else (none))) (fun k => if_neg (by simp [c])) ?_
      refine Ev.bind (f := fun _ t1637 => (if 1 + t1637.size ≤ 9223372036854775807 then (if (BA u).size + ((⟨#[114]⟩ : ByteArray) ++ t1637).size ≤ 9223372036854775807 then (some (BA u ++ ((⟨#[114]⟩ : ByteArray) ++ t1637))) else (none)) else (none))) b5 (Ev.ret fun k => ?_)
      rw [h114, BA_append, BA_append, BA_size, BA_size, BA_size, if_pos (by omega), if_pos (by rw [List.length_append, List.length_singleton]; omega)]
      rfl
  have text : Ev (fun k => rf_Text.f k neg p q) (BA (txt neg l (decide (den = [1])) m)) := by
    refine Ev.bind (f := fun k t1635 => (if neg = true then (if 1 + t1635.size ≤ 9223372036854775807 then (rf_Text.j0 k ((⟨#[45]⟩ : ByteArray) ++ t1635) neg p q) else (none)) else (rf_Text.j0 k t1635 neg p q))) a5 ?_
    by_cases hneg : neg = true
    · refine Ev.congr (f := fun k => rf_Text.j0 k (BA ([45] ++ l)) neg p q) (fun k => by rw [if_pos hneg, BA_size, if_pos (by omega), h45, BA_append]) (Ev.eq (tail ([45] ++ l) (by rw [List.length_append, List.length_singleton]; omega)) ?_)
      unfold txt
      rw [if_pos hneg, List.append_assoc]
    · refine Ev.congr (f := fun k => rf_Text.j0 k (BA l) neg p q) (fun k => if_neg hneg) (Ev.eq (tail l (by omega)) ?_)
      unfold txt
      rw [if_neg hneg, List.nil_append]
  refine Ev.bind (f := fun k t1639 => (if t1639 = 0 then ((rf_Of.f k neg num den).bind fun bt1640 => ((rf_Text.f k bt1640.1 bt1640.2.1 bt1640.2.2).bind fun t1647 => (some (t1647, 0)))) else (some ((⟨#[]⟩ : ByteArray), t1639)))) (Fault_ev neg num den hn hd) ?_
  rw [fault_can h]
  refine Ev.congr (f := fun k => (rf_Of.f k neg num den).bind fun bt1640 => ((rf_Text.f k bt1640.1 bt1640.2.1 bt1640.2.2).bind fun t1647 => (some (t1647, 0)))) (fun k => if_pos rfl) ?_
  refine Ev.bind (f := fun k bt1640 => ((rf_Text.f k bt1640.1 bt1640.2.1 bt1640.2.2).bind fun t1647 => (some (t1647, 0)))) (a := (neg, p, q)) ?_ (Ev.bind (f := fun _ t1647 => some (t1647, (0 : Int))) text (Ev.now _))
  refine Ev.bind (f := fun k t621 => ((rf_natOf.f k den).bind fun t624 => (some (neg, t621, t624)))) p1 ?_
  exact Ev.bind (f := fun _ t624 => some (neg, p, t624)) q1 (Ev.now _)
theorem format_pure (neg : Bool) (num den : List Int) (hn : Lim 4294967296 num) (hd : Lim 4294967296 den) : ∃ k, lw_NumberFormatRoundTrip.f k neg num den = some true := by
  refine ev_rounds (g := fun k => lw_NumberFormatRoundTrip.f k neg num den) ?_
  by_cases h : fault neg num den = 0
  · have hc := can_of_fault h
    obtain ⟨l, m, a0, a1, a2, a3, b0, b1, b2, b3, a4, b4, hr⟩ := rformat_txt neg num den hn hd hc
    have hf := format_txt neg num den hn hd hc l m a3 b3 a4 b4
    have hp := parse_txt neg num den hn hd hc l m a0 a1 a2 a3 b0 b1 b2 b3
    have l1 := hc.ln
    have l2 := hc.ld
    generalize BA (txt neg l (decide (den = [1])) m) = s at hr hf hp
    refine Ev.bind (f := fun k bt1649 => ((rf_Format.f k neg num den).bind fun bt1651 => (if bt1649.2 = bt1651.2 then (lw_NumberFormatRoundTrip.j0 k bt1649.1 bt1649.2 (bt1649.1.toList != bt1651.1.toList) neg num den) else (lw_NumberFormatRoundTrip.j0 k bt1649.1 bt1649.2 true neg num den)))) hf ?_
    refine Ev.bind (f := fun k bt1651 => (if (0 : Int) = bt1651.2 then (lw_NumberFormatRoundTrip.j0 k s 0 (s.toList != bt1651.1.toList) neg num den) else (lw_NumberFormatRoundTrip.j0 k s 0 true neg num den))) hr ?_
    refine Ev.congr (f := fun k => lw_NumberFormatRoundTrip.j0 k s 0 false neg num den) (fun k => by rw [if_pos rfl]; simp) ?_
    refine Ev.step (f := fun k => (number_Parse.f k s).bind fun bt1653 => (if bt1653.2.2.2 = 0 then ((lw_same.f k neg num den bt1653.1 bt1653.2.1 bt1653.2.2.1).bind fun t1662 => (if t1662 = true then ((lw_counted.f k).bind fun t1663 => (some t1663)) else (some false))) else (some false))) (fun k => by simp only [lw_NumberFormatRoundTrip.j0]; rw [if_neg (by decide), if_pos trivial]) ?_
    refine Ev.bind (f := fun k bt1653 => (if bt1653.2.2.2 = 0 then ((lw_same.f k neg num den bt1653.1 bt1653.2.1 bt1653.2.2.1).bind fun t1662 => (if t1662 = true then ((lw_counted.f k).bind fun t1663 => (some t1663)) else (some false))) else (some false))) hp ?_
    refine Ev.congr (f := fun k => (lw_same.f k neg num den neg num den).bind fun t1662 => (if t1662 = true then ((lw_counted.f k).bind fun t1663 => (some t1663)) else (some false))) (fun k => if_pos rfl) ?_
    refine Ev.bind (f := fun k t1662 => (if t1662 = true then ((lw_counted.f k).bind fun t1663 => (some t1663)) else (some false))) (same_ev neg num den neg num den (by omega) (by omega)) ?_
    refine Ev.congr (f := fun k => (lw_counted.f k).bind fun t1663 => (some t1663)) (fun k => if_pos (by simp)) ?_
    exact Ev.bind (f := fun _ t => some t) counted_ev (Ev.now _)
  · have hf : Ev (fun k => number_Format.f k neg num den) ((⟨#[]⟩ : ByteArray), fault neg num den) := by
      refine Ev.bind (f := fun k t260 => (if t260 = 0 then ((nat_Decimal.f k num).bind fun t261 => (if neg = true then (if 1 + t261.size ≤ 9223372036854775807 then (number_Format.j0 k ((⟨#[45]⟩ : ByteArray) ++ t261) neg num den) else (none)) else (number_Format.j0 k t261 neg num den))) else (some ((⟨#[]⟩ : ByteArray), t260)))) (Check_ev neg num den hn hd) (Ev.ret fun k => if_neg h)
    have hr : Ev (fun k => rf_Format.f k neg num den) ((⟨#[]⟩ : ByteArray), fault neg num den) := by
      refine Ev.bind (f := fun k t1639 => (if t1639 = 0 then ((rf_Of.f k neg num den).bind fun bt1640 => ((rf_Text.f k bt1640.1 bt1640.2.1 bt1640.2.2).bind fun t1647 => (some (t1647, 0)))) else (some ((⟨#[]⟩ : ByteArray), t1639)))) (Fault_ev neg num den hn hd) (Ev.ret fun k => if_neg h)
    generalize fault neg num den = e at h hf hr
    refine Ev.bind (f := fun k bt1649 => ((rf_Format.f k neg num den).bind fun bt1651 => (if bt1649.2 = bt1651.2 then (lw_NumberFormatRoundTrip.j0 k bt1649.1 bt1649.2 (bt1649.1.toList != bt1651.1.toList) neg num den) else (lw_NumberFormatRoundTrip.j0 k bt1649.1 bt1649.2 true neg num den)))) hf ?_
    refine Ev.bind (f := fun k bt1651 => (if e = bt1651.2 then (lw_NumberFormatRoundTrip.j0 k ⟨#[]⟩ e ((⟨#[]⟩ : ByteArray).toList != bt1651.1.toList) neg num den) else (lw_NumberFormatRoundTrip.j0 k ⟨#[]⟩ e true neg num den))) hr ?_
    refine Ev.congr (f := fun k => lw_NumberFormatRoundTrip.j0 k ⟨#[]⟩ e false neg num den) (fun k => by rw [if_pos rfl]; simp) ?_
    refine Ev.step (f := fun k => (lw_counted.f k).bind fun t1664 => (some t1664)) (fun k => ?_) (Ev.bind (f := fun _ t => some t) counted_ev (Ev.now _))
    simp only [lw_NumberFormatRoundTrip.j0]
    rw [if_neg (by decide), if_neg h, if_pos (show (⟨#[]⟩ : ByteArray).toList = [] from BA_list [])]
end Go.Proofs.YtemnjgkicndmjaaDoor.Q
namespace Go.Proofs.YtemnjgkicndmjaaDoor.Q
open Go.ChangeShapes Go.WideShapes Go.ChangeAt Go.RowKit Go.Joins Go.Proofs.YtemnjgkicndmjaaDoorW.PrintWords Go.Proofs.YtemnjgkicndmjaaDoorW.PrintLast Go.Proofs.YtemnjgkicndmjaaDoorW.PrintMore
set_option linter.unusedVariables false
namespace FormatLaw
set_option maxRecDepth 100000 in
theorem contract (H : Type) (enc : TypeId × Value → H) (W : World) (base : Nat) (args : Array Value) (ds gs : List (DataW H)) (before : List MemPlace)
    (hval : ∀ (j : Nat) t v, Tryd.f4.params[j]? = some t → args[j]? = some v → Value.okWide Tryd.prog W .any base t v)
    (hW : DataW.Whole enc Tryd.prog Tryd.f4.params.toList Rows.numberFormatRoundTripSpec.vars false W args.toList ds gs before) :
    Calls Tryd.prog 4 args W fun e W' => ∃ v, e = .returned v ∧ Rows.numberFormatRoundTripSpec.post enc Tryd.prog Tryd.f4 false true false false W args v W' := by
  have hW' := hW
  obtain ⟨p, q, hA0, hV, rfl, hfz, hnd⟩ := hW
  have hA : DataW.TrodAll enc Tryd.prog W 0 (fun _ => true) true Tryd.f4.params.toList args.toList ds p := hA0
  rw [Tryd.params4] at hA hval
  obtain ⟨v0, vs0, d0, ds0, p0, q0, hargs, rfl, rfl, h0, r0⟩ := trodAll_cons hA
  obtain ⟨rfl, rfl, rfl⟩ := trodAll_nil r0
  obtain rfl : args = #[v0] := by cases args; simp_all
  obtain ⟨rfl, rfl⟩ := trodVars_none hV
  have k0 := h0
  have lt0 : ∀ x ∈ p0, x.block < W.heap.size := by obtain ⟨m, hm⟩ := k0; exact DataW.trod_lt m _ _ _ hm
  obtain ⟨neg, A1, c1, l1, A2, c2, l2, rfl, i1, m1, n1, i2, m2, n2⟩ := open_number (hval 0 24 v0 rfl rfl) h0
  clear hA0
  simp only [List.append_nil] at hW'
  obtain ⟨k, hk⟩ := format_pure neg l1 l2 n1 n2
  refine (lw_NumberFormatRoundTrip.calls k neg A1 c1 l1 A2 c2 l2 true W m1 i1 m2 i2 hk rfl).mono fun e W' ⟨he, bel⟩ => ?_
  subst he
  exact ⟨_, rfl, _, _, _, [], _, [], hW', trodAll_mk1 (shut_bool Tryd.underlying4 _), (trodAll_cons_mk (Below.trod laidOut (by kernel_rfl) (of_decide_eq_true (by kernel_rfl)) k0 bel lt0) trodAll_mk0), rfl, bel.frame _, fun h => by cases h⟩
theorem reads (os : Os) {H : Type} (enc : TypeId × Value → H) : ∃ places, DataW.whole enc Tryd.prog ((laidWorld os).forCall (fun _ _ => 0) ⟨#[], #[.agg #[.bool false, .slice none 0 0, .slice none 0 0]], []⟩).memory Tryd.f4.params.toList Rows.numberFormatRoundTripSpec.vars false #[Value.agg #[.bool false, .slice none 0 0, .slice none 0 0]].toList 8 = some ([.agg [.lit (.bool false), .nil, .nil]], [], places) :=
  ⟨[], by kernel_rfl⟩
set_option maxRecDepth 100000 in
theorem lifted (os : Os) (started : os.Started) (H : Type) (enc : TypeId × Value → H) (F : Stop.Interp) :
    ReturnsInHanded {} Tryd.checked os 4 .any ((OpenSpec.ofChange Rows.numberFormatRoundTripSpec).preRow enc Tryd.prog Tryd.f4 Rows.numberFormatRoundTripRow.domain false Rows.numberFormatRoundTripRow.laid) (((OpenSpec.ofChange Rows.numberFormatRoundTripSpec).at F).post enc Tryd.prog Tryd.f4 false true false false) := by
  obtain ⟨places, hx⟩ := reads os enc
  refine returnsInHanded_of_row (C := Tryd.checked) (s := OpenSpec.ofChange Rows.numberFormatRoundTripSpec) own started (by kernel_rfl) Tryd.func4
    (witness_row_at (enc := enc) (C := Tryd.checked) false (laidWorld os) #[.agg #[.bool false, .slice none 0 0, .slice none 0 0]] rfl (by kernel_rfl) (by kernel_rfl) (by kernel_rfl)
      (OpenSpec.preRow_of_cond 8 hx (by kernel_rfl) (fun k hk => by cases hk) (by kernel_rfl) (laid_met os _))) ?_
  intro W base args ds gs before hval hW _ _ _ hL _ _
  exact contract H enc W base args ds gs before hval hW
theorem said : Rows.NumberFormatRoundTripSaid :=
  OpenClaim.holds_of_cond 4 Tryd.f4 rfl rfl rfl rfl rfl rfl rfl ⟨rfl, rfl, rfl, rfl, rfl⟩ rfl rfl rfl rfl rfl (by kernel_rfl) Tryd.func4 (by kernel_rfl)
    (of_decide_eq_true (by kernel_rfl)) (by unfold Func.isWrapper; first | (rw [if_pos (by decide +kernel)]; kernel_rfl) | (rw [if_neg (by decide +kernel)]; exact ⟨rfl, rfl⟩))
    (fun os started H enc _ F => by rw [OpenClaim.pre_eq_preRow]; exact lifted os started H enc F)
theorem plain (f : FuncId) (fn : Func) (hf : Tryd.pinned.checked.prog.funcNamed "fetterlock/fetterlocklaw1.NumberFormatRoundTrip" = some f) (hfn : Tryd.pinned.checked.prog.funcs[f]? = some fn) :
    false = Tryd.pinned.checked.prog.looks [] ∧ ∀ (j : Nat) t, fn.params[j]? = some t → Tryd.pinned.checked.prog.wantsStandIn t = false := by
  obtain rfl : f = 4 := Option.some.inj ((show Tryd.prog.funcNamed "fetterlock/fetterlocklaw1.NumberFormatRoundTrip" = some 4 by kernel_rfl).symm.trans hf) |>.symm
  obtain rfl : fn = Tryd.f4 := (Option.some.inj (Tryd.func4.symm.trans hfn)).symm
  refine ⟨by kernel_rfl, fun j t ht => ?_⟩
  rw [Tryd.params4] at ht
  obtain rfl : t = 24 := by simpa using Array.mem_of_getElem? ht
  exact (show Tryd.prog.wantsStandIn 24 = false by kernel_rfl)
theorem card : Rows.NumberFormatRoundTripCardSaid :=
  Claim7.holds_tied_plain_at .later [] _ _ _ _ said (fun _ h => by cases h) (by kernel_rfl) (fun _ h => by cases h) numberFormatRoundTrip_row_tie rfl ⟨rfl, rfl⟩ (by kernel_rfl) rfl plain (by kernel_rfl)
end FormatLaw
end Go.Proofs.YtemnjgkicndmjaaDoor.Q
namespace Go.Proofs.YtemnjgkicndmjaaDoor
theorem numberFormatRoundTrip_holds : Rows.NumberFormatRoundTripCardSaid := Q.FormatLaw.card
end Go.Proofs.YtemnjgkicndmjaaDoor

