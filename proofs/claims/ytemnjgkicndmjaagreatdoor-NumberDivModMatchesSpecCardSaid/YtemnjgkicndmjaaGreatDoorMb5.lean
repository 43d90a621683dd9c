/- What this text proves: a part of the walk and of the plain laws of one card; no conditions. -/
import Derived.Test.YtemnjgkicndmjaaGreatDoorMb4
import Derived.Test.YtemnjgkicndmjaaGreatDoorCards
import Derived.Test.YtemnjgkicndmjaaGreatDoorTie
import Derived.WalkKit
import Derived.ProofKit
import Derived.OpenShut
import Derived.ShutString
import Derived.ChangeOld
import Derived.Below
import Derived.Carry
import Derived.Deep.DeepHandedRow
import Derived.Lib.SmallJoins
import Derived.ChangeSlices
import Derived.LaidLaws
import Derived.ChangeSame
import Derived.Stop.Joined
import Derived.SevenTiedAt
namespace Go.Proofs.YtemnjgkicndmjaaGreatDoor.Q
open Go.RowKit Go.Proofs.YtemnjgkicndmjaaGreatDoorW.PrintWords Go.Proofs.YtemnjgkicndmjaaGreatDoorW.PrintLast Go.Proofs.YtemnjgkicndmjaaGreatDoorW.PrintMore
set_option linter.unusedVariables false
theorem rsub_loop (xs ys : List Int) (hx : Lim 65536 xs) (hy : Lim 65536 ys) (hge : val 65536 ys ≤ val 65536 xs) (hL : xs.length ≤ 1099511627776) : ∀ (d i : Nat) (out : List Int) (b : Int), d + i = xs.length → out.length = i → Lim 65536 out → 0 ≤ b → b ≤ 1 →
    val 65536 out - 65536 ^ i * b = val 65536 (xs.take i) - val 65536 (ys.take i) →
    ∃ r, Ev (fun k => rf_SubNat.l0 k xs ys out b (xs.length : Int) (i : Int)) (trim r) ∧ r.length = xs.length ∧ Lim 65536 r ∧ val 65536 r = val 65536 xs - val 65536 ys := by
  have hB : (0 : Int) < 65536 := by decide
  intro d
  induction d with
  | zero =>
    intro i out b hd hl ho hb0 hb hv
    refine ⟨out, Ev.step (f := fun k => (rf_trim.f k out).bind fun t => some t) (fun k => ?_) (Ev.bind (f := fun _ t => some t) (rtrim_ev out (by omega)) (Ev.now _)), by omega, ho, ?_⟩
    · simp only [rf_SubNat.l0]
      rw [if_neg (by omega)]
    · have h1 := val_lt hB hx
      have h2 := val_split' 65536 ys i
      have h3 := val_nonneg hB (hy.take i)
      have h4 := val_nonneg hB (hy.drop i)
      have h5 := val_lt hB ho
      have h6 := val_nonneg hB ho
      rw [List.take_of_length_le (by omega)] at hv
      rw [show xs.length = i by omega] at h1
      rw [hl] at h5
      have hp : (0 : Int) < 65536 ^ i := Int.pow_pos (by decide)
      generalize val 65536 (ys.drop i) = z at *
      have hz : z = 0 := by
        rcases Int.lt_or_le 0 z with h | h
        · have : 65536 ^ i * 1 ≤ 65536 ^ i * z := Int.mul_le_mul_of_nonneg_left (by omega) (by omega)
          omega
        · omega
      have hb1 : b = 0 := by
        rcases Int.lt_or_le 0 b with h | h
        · have e : b = 1 := by omega
          rw [e, Int.mul_one] at hv
          rw [hz, Int.mul_zero] at h2
          omega
        · omega
      rw [hb1, Int.mul_zero] at hv
      rw [hz, Int.mul_zero] at h2
      omega
  | succ d ih =>
    intro i out b hd hl ho hb0 hb hv
    have g1 : (i : Int) < (xs.length : Int) := by omega
    have g2 : (0 : Int) ≤ (i : Int) := by omega
    have g4 : out.length < 17592186044416 := by omega
    have g5 : d + (i + 1) = xs.length := by omega
    have g7 : ∀ _ : Unit, wrap64 ((i : Int) + 1) = ((i + 1 : Nat) : Int) := fun _ => by rw [w64 (by omega) (by omega)]; omega
    have hxi := hx.getD hB i
    have hyi := hy.getD hB i
    have tx := val_take_succ' 65536 xs i
    have ty := val_take_succ' 65536 ys i
    have hrd : rd xs (i : Int) = xs.getD i 0 := rd_getD xs i
    have hdg : rf_digit.f ys (i : Int) = some (ys.getD i 0) := rdigit ys i
    generalize xs.getD i 0 = x at *
    generalize ys.getD i 0 = y at *
    have e1 : ∀ _ : Unit, wrap64 (wrap64 (x - y) - b) = x - y - b := fun _ => by rw [w64 (x := x - y) (by omega) (by omega), w64 (by omega) (by omega)]
    have e2 : ∀ _ : Unit, wrap64 (x - y - b + 65536) = x - y - b + 65536 := fun _ => w64 (by omega) (by omega)
    by_cases c : x - y - b < 0
    · obtain ⟨r, hev, h⟩ := ih (i + 1) (out ++ [x - y - b + 65536]) 1 g5 (by rw [List.length_append, List.length_singleton, hl]) (lim_nrm_snoc ho ⟨by omega, by omega⟩) (by decide) (by decide) (by
        rw [val_snoc, hl, tx, ty, Int.pow_succ]
        grind)
      refine ⟨r, Ev.step (f := fun k => rf_SubNat.l0 k xs ys (out ++ [x - y - b + 65536]) 1 (xs.length : Int) ((i + 1 : Nat) : Int)) (fun k => ?_) hev, h⟩
      simp only [rf_SubNat.l0]
      rw [if_pos g1, if_pos g2, if_pos g1, hdg, Option.bind_some, hrd, e1 (), if_pos c, if_pos g4, e2 (), g7 ()]
    · obtain ⟨r, hev, h⟩ := ih (i + 1) (out ++ [x - y - b]) 0 g5 (by rw [List.length_append, List.length_singleton, hl]) (lim_nrm_snoc ho ⟨by omega, by omega⟩) (by decide) (by decide) (by
        rw [val_snoc, hl, tx, ty, Int.pow_succ]
        grind)
      refine ⟨r, Ev.step (f := fun k => rf_SubNat.l0 k xs ys (out ++ [x - y - b]) 0 (xs.length : Int) ((i + 1 : Nat) : Int)) (fun k => ?_) hev, h⟩
      simp only [rf_SubNat.l0]
      rw [if_pos g1, if_pos g2, if_pos g1, hdg, Option.bind_some, hrd, e1 (), if_neg c, if_pos g4, g7 ()]
theorem SubNat_ev (xs ys : List Int) (hx : Lim 65536 xs) (hy : Lim 65536 ys) (hge : val 65536 ys ≤ val 65536 xs) (hL : xs.length ≤ 1099511627776) :
    ∃ r, Ev (fun k => rf_SubNat.f k xs ys) r ∧ Lim 65536 r ∧ Nrm r ∧ val 65536 r = val 65536 xs - val 65536 ys ∧ r.length ≤ xs.length := by
  obtain ⟨r, h1, h2, h3, h4⟩ := rsub_loop xs ys hx hy hge hL xs.length 0 [] 0 (by omega) rfl (lim_nil _) (by decide) (by decide) (by simp [val])
  exact ⟨trim r, h1, lim_trim h3, nrm_trim _, by rw [val_trim, h4], by rw [← h2]; exact length_trim r⟩
theorem rhalf_loop (xs : List Int) (hx : Lim 65536 xs) (hL : xs.length ≤ 1099511627776) : ∀ (d i : Nat) (out : List Int), d + i = xs.length → out.length = xs.length → Lim 65536 out →
    val 65536 (out.take i) + 65536 ^ i * (val 65536 (xs.drop i) / 2) = val 65536 xs / 2 →
    ∃ r, Ev (fun k => rf_half.l0 k xs out (xs.length : Int) (i : Int)) (trim r) ∧ r.length = xs.length ∧ Lim 65536 r ∧ val 65536 r = val 65536 xs / 2 := by
  have hB : (0 : Int) < 65536 := by decide
  intro d
  induction d with
  | zero =>
    intro i out hd hl ho hv
    refine ⟨out, Ev.step (f := fun k => (rf_trim.f k out).bind fun t => some t) (fun k => ?_) (Ev.bind (f := fun _ t => some t) (rtrim_ev out (by omega)) (Ev.now _)), by omega, ho, ?_⟩
    · simp only [rf_half.l0]
      rw [if_neg (by omega)]
    · rw [List.take_of_length_le (by omega), List.drop_of_length_le (by omega)] at hv
      simp only [val, Int.zero_ediv, Int.mul_zero, Int.add_zero] at hv
      exact hv
  | succ d ih =>
    intro i out hd hl ho hv
    have g1 : (i : Int) < (xs.length : Int) := by omega
    have g2 : (0 : Int) ≤ (i : Int) := by omega
    have g3 : (i : Int) < (out.length : Int) := by omega
    have g4 : i < out.length := by omega
    have g5 : d + (i + 1) = xs.length := by omega
    have g7 : ∀ _ : Unit, wrap64 ((i : Int) + 1) = ((i + 1 : Nat) : Int) := fun _ => by rw [w64 (by omega) (by omega)]; omega
    have hxi := hx.getD hB i
    have hyi := hx.getD hB (i + 1)
    have d0 := val_drop' 65536 xs i
    have d1 := val_drop' 65536 xs (i + 1)
    have hrd : rd xs (i : Int) = xs.getD i 0 := rd_getD xs i
    have hsd := shr_digit (P := 2) (P' := 32768) (B := 65536) (D0 := xs.getD i 0) (D1 := xs.getD (i + 1) 0) (t := val 65536 (xs.drop (i + 1 + 1))) (by decide) (by decide) (by decide) hxi.1 hxi.2
    rw [← d1, ← d0] at hsd
    have hdg : xs.getD i 0 / 2 + xs.getD (i + 1) 0 % 2 * 32768 = ((xs.getD i 0 + 65536 * xs.getD (i + 1) 0) / 2) % 65536 := by
      generalize xs.getD i 0 = x at *
      generalize xs.getD (i + 1) 0 = y at *
      clear d0 d1 hsd hrd hv
      omega
    have hor : Go.bits .or .i64 (xs.getD i 0 / 2) (wrap64 (Go.bits .and .i64 (xs.getD (i + 1) 0) 1 * 32768)) = xs.getD i 0 / 2 + xs.getD (i + 1) 0 % 2 * 32768 := by
      generalize xs.getD i 0 = x at *
      generalize xs.getD (i + 1) 0 = y at *
      clear d0 d1 hsd hrd hv hdg
      rw [i64_and1 hyi.1 (by omega), w64 (by omega) (by omega), i64_or _ _ (by omega) (by omega) (by omega) (by omega), Nat.or_comm, nat_join 15]
      · omega
      · omega
      · omega
    have hlim : 0 ≤ xs.getD i 0 / 2 + xs.getD (i + 1) 0 % 2 * 32768 ∧ xs.getD i 0 / 2 + xs.getD (i + 1) 0 % 2 * 32768 < 65536 := by
      generalize xs.getD i 0 = x at *
      generalize xs.getD (i + 1) 0 = y at *
      clear d0 d1 hsd hrd hv hdg hor
      omega
    obtain ⟨r, hev, h⟩ := ih (i + 1) (out.set i (xs.getD i 0 / 2 + xs.getD (i + 1) 0 % 2 * 32768)) g5 (by rw [List.length_set, hl]) (ho.set _ hlim) (by
      rw [take_set_succ g4, val_snoc, List.length_take, Nat.min_eq_left (Nat.le_of_lt g4), hdg, ← hv, ← hsd, Int.pow_succ]
      grind)
    refine ⟨r, Ev.step (f := fun k => rf_half.l0 k xs (out.set i (xs.getD i 0 / 2 + xs.getD (i + 1) 0 % 2 * 32768)) (xs.length : Int) ((i + 1 : Nat) : Int)) (fun k => ?_) hev, h⟩
    simp only [rf_half.l0]
    rw [if_pos g1, if_pos g2, if_pos g1, g7 (), rdigit, Option.bind_some, if_pos g3, hrd, hor, Int.toNat_natCast]
theorem half_ev (xs : List Int) (hx : Lim 65536 xs) (hL : xs.length ≤ 1099511627776) :
    ∃ r, Ev (fun k => rf_half.f k xs) r ∧ Lim 65536 r ∧ Nrm r ∧ val 65536 r = val 65536 xs / 2 ∧ r.length ≤ xs.length := by
  obtain ⟨r, h1, h2, h3, h4⟩ := rhalf_loop xs hx hL xs.length 0 (List.replicate xs.length 0) (by omega) (by simp) (lim_replicate (by decide) _) (by simp [val])
  refine ⟨trim r, Ev.congr (fun k => ?_) h1, lim_trim h3, nrm_trim _, by rw [val_trim, h4], by rw [← h2]; exact length_trim r⟩
  unfold rf_half.f
  rw [if_pos (by omega), if_pos (by omega), Int.toNat_natCast]
  rfl
theorem rshl_loop (xs : List Int) (w b : Nat) (hx : Lim 65536 xs) (hb : b < 16) (hL : xs.length + w ≤ 549755813888) : ∀ (d i : Nat) (out : List Int) (c : Int), d + i = xs.length → out.length = w + i → Lim 65536 out → 0 ≤ c → c < 2 ^ b →
    val 65536 out + 65536 ^ (w + i) * c = 65536 ^ w * 2 ^ b * val 65536 (xs.take i) →
    ∃ r, Ev (fun k => rf_ShlNat.l0 k ((16 * w + b : Nat) : Int) out c xs (xs.length : Int) (i : Int)) (trim r) ∧ r.length = xs.length + w + 1 ∧ Lim 65536 r ∧ val 65536 r = 65536 ^ w * 2 ^ b * val 65536 xs := by
  have hB : (0 : Int) < 65536 := by decide
  have hp : (2 : Int) ^ b ≤ 32768 := by
    have := pow_mono' (B := 2) (by decide) (show b ≤ 15 by omega)
    exact this
  have hp0 : (0 : Int) < 2 ^ b := Int.pow_pos (by decide)
  have e1 : ∀ _ : Unit, Int.tmod ((16 * w + b : Nat) : Int) 16 = b := fun _ => by rw [Int.tmod_eq_emod_of_nonneg (by omega)]; omega
  intro d
  induction d with
  | zero =>
    intro i out c hd hl ho hc0 hc hv
    have hl2 : Lim 65536 (out ++ [c]) := lim_nrm_snoc ho ⟨hc0, by omega⟩
    refine ⟨out ++ [c], Ev.step (f := fun k => (rf_trim.f k (out ++ [c])).bind fun t => some t) (fun k => ?_) (Ev.bind (f := fun _ t => some t) (rtrim_ev (out ++ [c]) (by rw [List.length_append, List.length_singleton]; omega)) (Ev.now _)), by rw [List.length_append, List.length_singleton]; omega, hl2, ?_⟩
    · have g4 : out.length < 17592186044416 := by omega
      simp only [rf_ShlNat.l0]
      rw [if_neg (by omega), if_pos g4]
    · rw [val_snoc, hl, hv, List.take_of_length_le (by omega)]
  | succ d ih =>
    intro i out c hd hl ho hc0 hc hv
    have g1 : (i : Int) < (xs.length : Int) := by omega
    have g2 : (0 : Int) ≤ (i : Int) := by omega
    have g4 : out.length < 17592186044416 := by omega
    have g5 : d + (i + 1) = xs.length := by omega
    have g7 : ∀ _ : Unit, wrap64 ((i : Int) + 1) = ((i + 1 : Nat) : Int) := fun _ => by rw [w64 (by omega) (by omega)]; omega
    have g8 : (0 : Int) ≤ (b : Int) := by omega
    have hxi := hx.getD hB i
    have tx := val_take_succ' 65536 xs i
    have hrd : rd xs (i : Int) = xs.getD i 0 := rd_getD xs i
    generalize xs.getD i 0 = x at *
    have hx2 : 0 ≤ x * 2 ^ b := Int.mul_nonneg hxi.1 (by omega)
    have hx3 : x * 2 ^ b ≤ 65535 * 2 ^ b := Int.mul_le_mul_of_nonneg_right (by omega) (by omega)
    have hsh : shl .i64 x (b : Int) = x * 2 ^ b := by
      unfold shl
      rw [Int.toNat_natCast, Nat.min_eq_left (by simp [IntKind.bits]; omega), i64w _ hx2 (by omega)]
    have hor : Go.bits .or .i64 (x * 2 ^ b) c = x * 2 ^ b + c := by
      rw [i64_or _ _ hx2 (by omega) hc0 (by omega), nat_join b]
      · omega
      · have : (((x * 2 ^ b).toNat % 2 ^ b : Nat) : Int) = 0 := by
          rw [Int.natCast_emod, Int.toNat_of_nonneg hx2, Int.natCast_pow]
          exact Int.mul_emod_left _ _
        omega
      · have : ((c.toNat : Nat) : Int) < ((2 ^ b : Nat) : Int) := by
          rw [Int.toNat_of_nonneg hc0, Int.natCast_pow]; exact hc
        omega
    have hq : (x * 2 ^ b + c) / 65536 < 2 ^ b := Int.ediv_lt_of_lt_mul (by decide) (by omega)
    generalize hz : x * 2 ^ b + c = z at *
    have hz0 : 0 ≤ z := by omega
    have e3 : Int.tmod z 65536 = z % 65536 := Int.tmod_eq_emod_of_nonneg hz0
    have e4 : ∀ _ : Unit, wrap64 (Int.tdiv z 65536) = z / 65536 := fun _ => by rw [Int.tdiv_eq_ediv_of_nonneg hz0, w64 (by omega) (by omega)]
    have hz1 : 0 ≤ z / 65536 := by omega
    have hz2 : 0 ≤ z % 65536 ∧ z % 65536 < 65536 := by omega
    have hdm := Int.mul_ediv_add_emod z 65536
    generalize hzq : z / 65536 = q at *
    generalize hzr : z % 65536 = y at *
    obtain ⟨r, hev, h⟩ := ih (i + 1) (out ++ [y]) q g5 (by rw [List.length_append, List.length_singleton, hl, Nat.add_assoc]) (lim_nrm_snoc ho hz2) hz1 hq (by
      rw [val_snoc, hl, tx, ← Nat.add_assoc, Int.pow_succ]
      have e5 : (65536 : Int) ^ (w + i) = 65536 ^ w * 65536 ^ i := Int.pow_add _ _ _
      rw [e5] at hv ⊢
      clear hx3 hx2 hp hp0 hq hz0 hz1 hz2 hor hsh hrd
      grind)
    refine ⟨r, Ev.step (f := fun k => rf_ShlNat.l0 k ((16 * w + b : Nat) : Int) (out ++ [y]) q xs (xs.length : Int) ((i + 1 : Nat) : Int)) (fun k => ?_) hev, h⟩
    simp only [rf_ShlNat.l0]
    rw [if_pos g1, if_pos g2, if_pos g1, e1 (), if_pos g8, if_pos g4, hrd, hsh, hor, e3, e4 (), g7 ()]
theorem ShlNat_ev (xs : List Int) (n : Nat) (hx : Lim 65536 xs) (hL : xs.length + n / 16 ≤ 549755813888) :
    ∃ r, Ev (fun k => rf_ShlNat.f k xs (n : Int)) r ∧ Lim 65536 r ∧ Nrm r ∧ val 65536 r = val 65536 xs * 2 ^ n ∧ r.length ≤ xs.length + n / 16 + 1 := by
  have hB : (0 : Int) < 65536 := by decide
  by_cases hn : xs = []
  · subst hn
    exact ⟨[], Ev.const (by rfl), lim_nil _, nrm_nil, by simp [val], by simp⟩
  · obtain ⟨r, h1, h2, h3, h4⟩ := rshl_loop xs (n / 16) (n % 16) hx (by omega) hL xs.length 0 (List.replicate (n / 16) 0) 0 (by omega) (by simp) (lim_replicate hB _) (by decide) (Int.pow_pos (by decide))
      (by rw [val_replicate, List.take_zero]; simp [val])
    refine ⟨trim r, ?_, lim_trim h3, nrm_trim _, ?_, Nat.le_trans (length_trim _) (by omega)⟩
    · refine Ev.congr (fun k => ?_) h1
      unfold rf_ShlNat.f
      have hne : ¬ (xs.length : Int) = 0 := fun h => hn (List.length_eq_zero_iff.1 (by omega))
      have b1 : (0 : Int) ≤ ((n / 16 : Nat) : Int) := by omega
      have b2 : n / 16 ≤ 35184372088832 := by omega
      have en : 16 * (n / 16) + n % 16 = n := by omega
      have e : wrap64 (Int.tdiv (n : Int) 16) = ((n / 16 : Nat) : Int) := by
        rw [Int.tdiv_eq_ediv_of_nonneg (by omega), w64 (by omega) (by omega)]; omega
      rw [if_neg hne, e, if_pos b1, Int.toNat_natCast, if_pos b2, en]
      rfl
    · rw [val_trim, h4, show (65536 : Int) = 2 ^ 16 from rfl, ← Int.pow_mul, ← Int.pow_add, show 16 * (n / 16) + n % 16 = n by omega, Int.mul_comm]
theorem gcd_odd_half {a b : Nat} (h : Nat.gcd (2 * a) b % 2 = 1) : Nat.gcd (2 * a) b = Nat.gcd a b := by
  refine Nat.dvd_antisymm ?_ ?_
  · refine Nat.dvd_gcd ?_ (Nat.gcd_dvd_right _ _)
    have hc : Nat.Coprime (Nat.gcd (2 * a) b) 2 := by
      rw [Nat.coprime_comm]
      unfold Nat.Coprime
      rw [Nat.gcd_rec, h]
      decide
    exact hc.dvd_of_dvd_mul_left (Nat.gcd_dvd_left (2 * a) b)
  · exact Nat.dvd_gcd (Nat.dvd_trans (Nat.gcd_dvd_left a b) ⟨2, Nat.mul_comm 2 a⟩) (Nat.gcd_dvd_right a b)
structure GS (g N : Nat) (A B : List Int) (a b : Nat) : Prop where
  la : Lim 65536 A
  lb : Lim 65536 B
  na : Nrm A
  nb : Nrm B
  va : val 65536 A = a
  vb : val 65536 B = b
  sa : A.length ≤ N
  sb : B.length ≤ N
  gg : Nat.gcd a b = g
theorem gcdnat_loops (g N s : Nat) (hg : g % 2 = 1) (hN : N ≤ 4294967296) (hs : s ≤ 16 * N) : ∀ (m a b : Nat) (A B : List Int), a + b ≤ m → 0 < b → GS g N A B a b →
    (∃ r, Ev (fun k => rf_GcdNat.l1 k A B (s : Int)) r ∧ Lim 65536 r ∧ Nrm r ∧ val 65536 r = (g : Int) * 2 ^ s) ∧
    (0 < a → ∃ r, Ev (fun k => rf_GcdNat.l2 k A B (s : Int)) r ∧ Lim 65536 r ∧ Nrm r ∧ val 65536 r = (g : Int) * 2 ^ s) ∧
    (a % 2 = 1 → ∃ r, Ev (fun k => rf_GcdNat.l3 k A B (s : Int)) r ∧ Lim 65536 r ∧ Nrm r ∧ val 65536 r = (g : Int) * 2 ^ s) := by
  have hB : (0 : Int) < 65536 := by decide
  intro m
  induction m with
  | zero => intro a b A B hm hb0; omega
  | succ m ih =>
    intro a b A B hm hb0 H
    have h3 : a % 2 = 1 → ∃ r, Ev (fun k => rf_GcdNat.l3 k A B (s : Int)) r ∧ Lim 65536 r ∧ Nrm r ∧ val 65536 r = (g : Int) * 2 ^ s := by
      intro ha
      by_cases c : b % 2 = 0
      · obtain ⟨r, r1, r2, r3, r4, r5⟩ := half_ev B H.lb (by have := H.sb; omega)
        have hb2 : b = 2 * (b / 2) := by omega
        have hr4 : val 65536 r = ((b / 2 : Nat) : Int) := by rw [r4, H.vb]; omega
        have hgg : Nat.gcd a (b / 2) = g := by
          have h5 := H.gg
          rw [hb2, Nat.gcd_comm] at h5
          rw [Nat.gcd_comm, ← gcd_odd_half (by rw [h5]; exact hg), h5]
        obtain ⟨z, hz⟩ := (ih a (b / 2) A r (by omega) (by omega) ⟨H.la, r2, H.na, r3, H.va, hr4, H.sa, Nat.le_trans r5 H.sb, hgg⟩).2.2 ha
        refine ⟨z, Ev.step (f := fun k => (rf_half.f k B).bind fun t589 => rf_GcdNat.l3 k A t589 (s : Int)) (fun k => ?_) (Ev.bind (f := fun k t589 => rf_GcdNat.l3 k A t589 (s : Int)) r1 hz.1), hz.2⟩
        simp only [rf_GcdNat.l3]
        rw [rbit0 H.lb, Option.bind_some, H.vb, if_pos (by omega)]
      · have hbit : ∀ k, rf_GcdNat.l3 (k + 1) A B (s : Int) = ((rf_CmpNat.f k A B).bind fun t592 => (if t592 < 0 then ((rf_SubNat.f k B A).bind fun t593 => (rf_GcdNat.l1 k t593 A (s : Int))) else ((rf_SubNat.f k A B).bind fun t596 => (rf_GcdNat.l1 k t596 B (s : Int))))) := by
          intro k
          simp only [rf_GcdNat.l3]
          rw [rbit0 H.lb, Option.bind_some, H.vb, if_neg (by omega)]
        have hcmp := CmpNat_ev A B H.la H.lb (by have := H.sa; omega) (by have := H.sb; omega)
        rw [H.va, H.vb] at hcmp
        by_cases c2 : a < b
        · obtain ⟨r, r1, r2, r3, r4, r5⟩ := SubNat_ev B A H.lb H.la (by rw [H.va, H.vb]; omega) (by have := H.sb; omega)
          have hr4 : val 65536 r = ((b - a : Nat) : Int) := by rw [r4, H.va, H.vb]; omega
          have hgg : Nat.gcd (b - a) a = g := by
            rw [← H.gg, Nat.gcd_comm a b]
            exact Nat.gcd_sub_self_left (by omega)
          obtain ⟨z, hz⟩ := (ih (b - a) a r A (by omega) (by omega) ⟨r2, H.la, r3, H.na, hr4, H.va, Nat.le_trans r5 H.sb, H.sa, hgg⟩).1
          refine ⟨z, Ev.step hbit (Ev.bind (f := fun k t592 => (if t592 < 0 then ((rf_SubNat.f k B A).bind fun t593 => (rf_GcdNat.l1 k t593 A (s : Int))) else ((rf_SubNat.f k A B).bind fun t596 => (rf_GcdNat.l1 k t596 B (s : Int))))) hcmp ?_), hz.2⟩
          have e : cmpI (a : Int) (b : Int) = -1 := by unfold cmpI; rw [if_pos (by omega)]
          rw [e]
          exact Ev.congr (fun k => by rw [if_pos (by decide)]) (Ev.bind (f := fun k t593 => rf_GcdNat.l1 k t593 A (s : Int)) r1 hz.1)
        · obtain ⟨r, r1, r2, r3, r4, r5⟩ := SubNat_ev A B H.la H.lb (by rw [H.va, H.vb]; omega) (by have := H.sa; omega)
          have hr4 : val 65536 r = ((a - b : Nat) : Int) := by rw [r4, H.va, H.vb]; omega
          have hgg : Nat.gcd (a - b) b = g := by
            rw [← H.gg]
            exact Nat.gcd_sub_self_left (by omega)
          obtain ⟨z, hz⟩ := (ih (a - b) b r B (by omega) (by omega) ⟨r2, H.lb, r3, H.nb, hr4, H.vb, Nat.le_trans r5 H.sa, H.sb, hgg⟩).1
          refine ⟨z, Ev.step hbit (Ev.bind (f := fun k t592 => (if t592 < 0 then ((rf_SubNat.f k B A).bind fun t593 => (rf_GcdNat.l1 k t593 A (s : Int))) else ((rf_SubNat.f k A B).bind fun t596 => (rf_GcdNat.l1 k t596 B (s : Int))))) hcmp ?_), hz.2⟩
          have e : ¬ cmpI (a : Int) (b : Int) < 0 := by unfold cmpI; rw [if_neg (by omega)]; split <;> decide
          exact Ev.congr (fun k => by rw [if_neg e]) (Ev.bind (f := fun k t596 => rf_GcdNat.l1 k t596 B (s : Int)) r1 hz.1)
    have h2 : 0 < a → ∃ r, Ev (fun k => rf_GcdNat.l2 k A B (s : Int)) r ∧ Lim 65536 r ∧ Nrm r ∧ val 65536 r = (g : Int) * 2 ^ s := by
      intro ha0
      by_cases c : a % 2 = 0
      · obtain ⟨r, r1, r2, r3, r4, r5⟩ := half_ev A H.la (by have := H.sa; omega)
        have ha2 : a = 2 * (a / 2) := by omega
        have hr4 : val 65536 r = ((a / 2 : Nat) : Int) := by rw [r4, H.va]; omega
        have hgg : Nat.gcd (a / 2) b = g := by
          have h5 := H.gg
          rw [ha2] at h5
          rw [← gcd_odd_half (by rw [h5]; exact hg), h5]
        obtain ⟨z, hz⟩ := (ih (a / 2) b r B (by omega) hb0 ⟨r2, H.lb, r3, H.nb, hr4, H.vb, Nat.le_trans r5 H.sa, H.sb, hgg⟩).2.1 (by omega)
        refine ⟨z, Ev.step (f := fun k => (rf_half.f k A).bind fun t585 => rf_GcdNat.l2 k t585 B (s : Int)) (fun k => ?_) (Ev.bind (f := fun k t585 => rf_GcdNat.l2 k t585 B (s : Int)) r1 hz.1), hz.2⟩
        simp only [rf_GcdNat.l2]
        rw [rbit0 H.la, Option.bind_some, H.va, if_pos (by omega)]
      · obtain ⟨z, hz⟩ := h3 (by omega)
        refine ⟨z, Ev.step (f := fun k => rf_GcdNat.l3 k A B (s : Int)) (fun k => ?_) hz.1, hz.2⟩
        simp only [rf_GcdNat.l2]
        rw [rbit0 H.la, Option.bind_some, H.va, if_neg (by omega)]
    refine ⟨?_, h2, h3⟩
    by_cases c : a = 0
    · have hA : A = [] := (val_eq_zero hB H.la H.na).1 (by rw [H.va]; omega)
      have hbg : b = g := by
        have := H.gg
        rw [c, Nat.gcd_zero_left] at this
        exact this
      obtain ⟨r, r1, r2, r3, r4, r5⟩ := ShlNat_ev B s H.lb (by have := H.sb; omega)
      refine ⟨r, Ev.step (f := fun k => (rf_ShlNat.f k B (s : Int)).bind fun t => some t) (fun k => ?_) (Ev.bind (f := fun _ t => some t) r1 (Ev.now _)), r2, r3, by rw [r4, H.vb, hbg]⟩
      simp only [rf_GcdNat.l1]
      rw [hA, if_neg (by decide)]
    · obtain ⟨z, hz⟩ := h2 (by omega)
      have hA : A ≠ [] := by
        rintro rfl
        have h9 := H.va
        simp only [val] at h9
        clear ih h2 h3 hz
        exact c (by omega)
      have hAl : A.length ≠ 0 := fun h => hA (List.length_eq_zero_iff.1 h)
      refine ⟨z, Ev.step (f := fun k => rf_GcdNat.l2 k A B (s : Int)) (fun k => ?_) hz.1, hz.2⟩
      simp only [rf_GcdNat.l1]
      rw [if_pos (by omega)]
theorem gcdnat_l0 (N : Nat) (hN : N ≤ 4294967296) (G : Nat) : ∀ (m a b s : Nat) (A B : List Int), a + b ≤ m → 0 < a → 0 < b → GS (Nat.gcd a b) N A B a b → Nat.gcd a b * 2 ^ s = G → a * 2 ^ s < 2 ^ (16 * N) →
    ∃ r, Ev (fun k => rf_GcdNat.l0 k A B (s : Int)) r ∧ Lim 65536 r ∧ Nrm r ∧ val 65536 r = (G : Int) := by
  intro m
  induction m with
  | zero => intro a b s A B hm ha0; omega
  | succ m ih =>
    intro a b s A B hm ha0 hb0 H hG hs
    have hsN : s < 16 * N := by
      have h1 : 1 * 2 ^ s ≤ a * 2 ^ s := Nat.mul_le_mul_right _ (by omega)
      rw [Nat.one_mul] at h1
      exact (Nat.pow_lt_pow_iff_right (by omega : 1 < 2)).1 (Nat.lt_of_le_of_lt h1 hs)
    have hfin : Nat.gcd a b % 2 = 1 → ∃ r, Ev (fun k => rf_GcdNat.j1 k A B (s : Int) false) r ∧ Lim 65536 r ∧ Nrm r ∧ val 65536 r = (G : Int) := by
      intro hodd
      obtain ⟨r, r1, r2, r3, r4⟩ := (gcdnat_loops (Nat.gcd a b) N s hodd hN (by omega) (a + b) a b A B (Nat.le_refl _) hb0 H).1
      refine ⟨r, Ev.step (f := fun k => rf_GcdNat.l1 k A B (s : Int)) (fun k => ?_) r1, r2, r3, ?_⟩
      · simp only [rf_GcdNat.j1]
        rw [if_neg (by decide)]
      · rw [r4, ← hG, Int.natCast_mul, Int.natCast_pow]; rfl
    have hg2 : (a % 2 = 0 → b % 2 = 0 → False) → Nat.gcd a b % 2 = 1 := by
      intro h
      have h1 : ¬ 2 ∣ Nat.gcd a b := by
        intro hd
        exact h (Nat.mod_eq_zero_of_dvd (Nat.dvd_trans hd (Nat.gcd_dvd_left a b))) (Nat.mod_eq_zero_of_dvd (Nat.dvd_trans hd (Nat.gcd_dvd_right a b)))
      omega
    by_cases c : a % 2 = 0
    · by_cases c2 : b % 2 = 0
      · obtain ⟨r, r1, r2, r3, r4, r5⟩ := half_ev A H.la (by have := H.sa; omega)
        obtain ⟨t, t1, t2, t3, t4, t5⟩ := half_ev B H.lb (by have := H.sb; omega)
        have ha2 : a = 2 * (a / 2) := by omega
        have hb2 : b = 2 * (b / 2) := by omega
        have hr4 : val 65536 r = ((a / 2 : Nat) : Int) := by rw [r4, H.va]; omega
        have ht4 : val 65536 t = ((b / 2 : Nat) : Int) := by rw [t4, H.vb]; omega
        have hgg : Nat.gcd a b = 2 * Nat.gcd (a / 2) (b / 2) := by
          rw [← Nat.gcd_mul_left, ← ha2, ← hb2]
        obtain ⟨z, hz⟩ := ih (a / 2) (b / 2) (s + 1) r t (by omega) (by omega) (by omega) ⟨r2, t2, r3, t3, hr4, ht4, Nat.le_trans r5 H.sa, Nat.le_trans t5 H.sb, rfl⟩ (by
          rw [← hG, hgg, Nat.pow_succ]
          grind) (by
          rw [Nat.pow_succ]
          have : a / 2 * (2 ^ s * 2) = a * 2 ^ s := by
            conv => rhs; rw [ha2]
            grind
          omega)
        refine ⟨z, Ev.step (f := fun k => rf_GcdNat.j1 k A B (s : Int) true) (fun k => ?_) (Ev.step (f := fun k => (rf_half.f k A).bind fun t575 => (rf_half.f k B).bind fun t578 => rf_GcdNat.l0 k t575 t578 (((s + 1 : Nat)) : Int)) (fun k => ?_) (Ev.bind (f := fun k t575 => (rf_half.f k B).bind fun t578 => rf_GcdNat.l0 k t575 t578 (((s + 1 : Nat)) : Int)) r1 (Ev.bind (f := fun k t578 => rf_GcdNat.l0 k r t578 (((s + 1 : Nat)) : Int)) t1 hz.1))), hz.2⟩
        · simp only [rf_GcdNat.l0]
          rw [rbit0 H.la, Option.bind_some, H.va, if_pos (by omega), rbit0 H.lb, Option.bind_some, H.vb]
          have : ((b : Int) % 2 == 0) = true := by rw [beq_iff_eq]; omega
          rw [this]
        · have e : wrap64 ((s : Int) + 1) = ((s + 1 : Nat) : Int) := by rw [w64 (by omega) (by omega)]; omega
          simp only [rf_GcdNat.j1]
          rw [if_pos trivial, e]
      · obtain ⟨z, hz⟩ := hfin (hg2 (fun _ h => c2 h))
        refine ⟨z, Ev.step (f := fun k => rf_GcdNat.j1 k A B (s : Int) false) (fun k => ?_) hz.1, hz.2⟩
        simp only [rf_GcdNat.l0]
        rw [rbit0 H.la, Option.bind_some, H.va, if_pos (by omega), rbit0 H.lb, Option.bind_some, H.vb]
        have : ((b : Int) % 2 == 0) = false := by rw [beq_eq_false_iff_ne]; omega
        rw [this]
    · obtain ⟨z, hz⟩ := hfin (hg2 (fun h _ => c h))
      refine ⟨z, Ev.step (f := fun k => rf_GcdNat.j1 k A B (s : Int) false) (fun k => ?_) hz.1, hz.2⟩
      simp only [rf_GcdNat.l0]
      rw [rbit0 H.la, Option.bind_some, H.va, if_neg (by omega)]
theorem GcdNat_ev (A B : List Int) (hA : Lim 65536 A) (hB : Lim 65536 B) (nA : Nrm A) (nB : Nrm B) (sA : A.length ≤ 4294967296) (sB : B.length ≤ 4294967296) :
    ∃ r, Ev (fun k => rf_GcdNat.f k A B) r ∧ Lim 65536 r ∧ Nrm r ∧ val 65536 r = (Nat.gcd (val 65536 A).toNat (val 65536 B).toNat : Nat) := by
  have h0 : (0 : Int) < 65536 := by decide
  have a0 := val_nonneg h0 hA
  have b0 := val_nonneg h0 hB
  by_cases c : A = []
  · subst c
    refine ⟨B, Ev.congr (fun k => ?_) (Ev.now _), hB, nB, ?_⟩
    · unfold rf_GcdNat.f; rw [if_pos (by rfl)]
    · simp only [val, Int.toNat_zero, Nat.gcd_zero_left]; omega
  · by_cases c2 : B = []
    · subst c2
      refine ⟨A, Ev.congr (fun k => ?_) (Ev.now _), hA, nA, ?_⟩
      · have hl : A.length ≠ 0 := fun h => c (List.length_eq_zero_iff.1 h)
        unfold rf_GcdNat.f; rw [if_neg (by omega), if_pos (by rfl)]
      · simp only [val, Int.toNat_zero, Nat.gcd_zero_right]; omega
    · have a1 := val_pos h0 hA nA c
      have b1 := val_pos h0 hB nB c2
      have alt := val_lt h0 hA
      have hlA : A.length ≠ 0 := fun h => c (List.length_eq_zero_iff.1 h)
      have hlB : B.length ≠ 0 := fun h => c2 (List.length_eq_zero_iff.1 h)
      obtain ⟨r, r1, r2⟩ := gcdnat_l0 (max A.length B.length) (by omega) (Nat.gcd (val 65536 A).toNat (val 65536 B).toNat) ((val 65536 A).toNat + (val 65536 B).toNat) (val 65536 A).toNat (val 65536 B).toNat 0 A B (Nat.le_refl _) (by omega) (by omega)
        ⟨hA, hB, nA, nB, by omega, by omega, by omega, by omega, rfl⟩ (by rw [Nat.pow_zero, Nat.mul_one]) (by
          have h1 : (65536 : Int) ^ A.length ≤ 65536 ^ max A.length B.length := pow_mono' h0 (by omega)
          rw [Nat.pow_zero, Nat.mul_one, Nat.pow_mul]
          have h2 : (((2 ^ 16) ^ max A.length B.length : Nat) : Int) = (65536 : Int) ^ max A.length B.length := by rw [Int.natCast_pow]; rfl
          omega)
      refine ⟨r, Ev.congr (fun k => ?_) r1, r2⟩
      unfold rf_GcdNat.f
      rw [if_neg (by omega), if_neg (by omega)]
      rfl
theorem Fault_ev (neg : Bool) (num den : List Int) (hn : Lim 4294967296 num) (hd : Lim 4294967296 den) : Ev (fun k => rf_Fault.f k neg num den) (fault neg num den) := by
  have hB : (0 : Int) < 4294967296 := by decide
  by_cases s1 : num.length > 128
  · rw [fault_size (Or.inl s1)]
    refine Ev.congr (f := fun k => rf_Fault.j0 k true neg num den) (fun k => ?_) (Ev.step (f := fun _ => some 3) (fun k => ?_) (Ev.now _))
    · unfold rf_Fault.f; rw [if_pos (by omega)]
    · simp only [rf_Fault.j0]; rw [if_pos trivial]
  · by_cases s2 : den.length > 128
    · rw [fault_size (Or.inr s2)]
      refine Ev.congr (f := fun k => rf_Fault.j0 k true neg num den) (fun k => ?_) (Ev.step (f := fun _ => some 3) (fun k => ?_) (Ev.now _))
      · unfold rf_Fault.f; rw [if_neg (by omega), decide_eq_true (by omega)]
      · simp only [rf_Fault.j0]; rw [if_pos trivial]
    · have hj0 : ∀ r, Ev (fun k => rf_Fault.j0 k false neg num den) r → Ev (fun k => rf_Fault.f k neg num den) r := fun r h =>
        Ev.congr (fun k => by unfold rf_Fault.f; rw [if_neg (by omega), decide_eq_false (by omega)]) h
      have hbad : Ev (fun k => rf_Fault.j1 k true neg num den) 2 := Ev.step (f := fun _ => some 2) (fun k => by simp only [rf_Fault.j1]; rw [if_pos trivial]) (Ev.now _)
      by_cases c3 : den = []
      · rw [fault_bad (by omega) (by omega) (fun h => h.d0 c3)]
        refine hj0 _ (Ev.step (fun k => ?_) hbad)
        simp only [rf_Fault.j0]
        rw [if_neg (by decide), c3, if_pos (by rfl)]
      · have hdl : den.length ≠ 0 := fun h' => c3 (List.length_eq_zero_iff.1 h')
        by_cases c2 : Nrm den
        · have hs0 : ∀ k, rf_Fault.j0 (k + 1) false neg num den = (if (num.length : Int) > 0 then (if 0 ≤ (wrap64 ((num.length : Int) - 1)) then (if (wrap64 ((num.length : Int) - 1)) < (num.length : Int) then (rf_Fault.j1 k ((rd num (wrap64 ((num.length : Int) - 1))) == 0) neg num den) else (none)) else (none)) else (rf_Fault.j1 k false neg num den)) := by
            intro k
            simp only [rf_Fault.j0]
            rw [if_neg (by decide), if_neg (by omega), last_at c3 (by omega), if_pos (by omega), if_pos (by omega), rd_getD, if_neg ((nrm_last c3).1 c2)]
          by_cases c1 : Nrm num
          · have hs1 : ∀ k, rf_Fault.j0 (k + 1) false neg num den = rf_Fault.j1 k false neg num den := by
              intro k
              rw [hs0]
              by_cases c4 : num = []
              · rw [c4, if_neg (by decide)]
              · have hnl : num.length ≠ 0 := fun h' => c4 (List.length_eq_zero_iff.1 h')
                have hz : (num.getD (num.length - 1) 0 == 0) = false := by rw [beq_eq_false_iff_ne]; exact (nrm_last c4).1 c1
                rw [if_pos (by omega), last_at c4 (by omega), if_pos (by omega), if_pos (by omega), rd_getD, hz]
            refine hj0 _ (Ev.step hs1 ?_)
            obtain ⟨a, a1, a2, a3, a4, a5⟩ := natOf_ev num hn (by omega)
            obtain ⟨b, b1, b2, b3, b4, b5⟩ := natOf_ev den hd (by omega)
            have haz : a = [] ↔ num = [] := by rw [← val_eq_zero (by decide) a2 a3, a4, val_eq_zero hB hn c1]
            obtain ⟨g, g1, g2, g3, g4⟩ := GcdNat_ev a b a2 b2 a3 b3 (by omega) (by omega)
            rw [a4, b4] at g4
            have hdp := val_pos hB hd c2 c3
            have hgl : g.length ≤ b.length := by
              rcases Nat.lt_or_ge b.length g.length with h | h
              · have h5 := len_lt_val (B := 65536) (by decide) b2 g2 g3 h
                rw [g4, b4] at h5
                have h6 := Nat.gcd_le_right (val 4294967296 num).toNat (show 0 < (val 4294967296 den).toNat by omega)
                omega
              · exact h
            have hcg := CmpNat_ev g [1] g2 (one_lim (by decide)) (by omega) (by decide)
            rw [val_one, g4] at hcg
            have hcb := CmpNat_ev b [1] b2 (one_lim (by decide)) (by omega) (by decide)
            rw [val_one, b4] at hcb
            have hj2s : ∀ r : Int, (if cmpI ((Nat.gcd (val 4294967296 num).toNat (val 4294967296 den).toNat : Nat) : Int) 1 = 0 then (some 0 : Option Int) else some 2) = some r → Ev (fun k => rf_Fault.j2 k a b false) r := by
              intro r hr
              refine Ev.step (f := fun k => ((rf_GcdNat.f k a b).bind fun t612 => ((rf_CmpNat.f k t612 (([1] : List Int))).bind fun t618 => (if t618 = 0 then (some 0) else (some 2))))) (fun k => ?_) (Ev.bind (f := fun k t612 => ((rf_CmpNat.f k t612 (([1] : List Int))).bind fun t618 => (if t618 = 0 then (some 0) else (some 2)))) g1 (Ev.bind (f := fun _ t618 => (if t618 = 0 then (some 0) else (some 2))) hcg (Ev.const hr)))
              simp only [rf_Fault.j2]; rw [if_neg (by decide)]
            have hcz : cmpI ((Nat.gcd (val 4294967296 num).toNat (val 4294967296 den).toNat : Nat) : Int) 1 = 0 ↔ Nat.gcd (val 4294967296 num).toNat (val 4294967296 den).toNat = 1 := by
              unfold cmpI
              generalize Nat.gcd (val 4294967296 num).toNat (val 4294967296 den).toNat = z
              by_cases h2 : (z : Int) < 1
              · rw [if_pos h2]; omega
              · rw [if_neg h2]
                by_cases h3 : (z : Int) > 1
                · rw [if_pos h3]; omega
                · rw [if_neg h3]; omega
            have hj2a : Nat.gcd (val 4294967296 num).toNat (val 4294967296 den).toNat = 1 → Ev (fun k => rf_Fault.j2 k a b false) 0 := fun h => hj2s 0 (by rw [if_pos (hcz.2 h)])
            have hj2b : ¬ Nat.gcd (val 4294967296 num).toNat (val 4294967296 den).toNat = 1 → Ev (fun k => rf_Fault.j2 k a b false) 2 := fun h => hj2s 2 (by rw [if_neg (fun h' => h (hcz.1 h'))])
            have hj2t : Ev (fun k => rf_Fault.j2 k a b true) 2 := Ev.step (f := fun _ => some 2) (fun k => by simp only [rf_Fault.j2]; rw [if_pos trivial]) (Ev.now _)
            refine Ev.step (f := fun k => ((rf_natOf.f k num).bind fun t602 => ((rf_natOf.f k den).bind fun t605 => (if (t602.length : Int) = 0 then (if neg = true then (rf_Fault.j2 k t602 t605 true) else ((rf_CmpNat.f k t605 (([1] : List Int))).bind fun t611 => (rf_Fault.j2 k t602 t605 (t611 != 0)))) else (rf_Fault.j2 k t602 t605 false))))) (fun k => by simp only [rf_Fault.j1]; rw [if_neg (by decide)]) ?_
            refine Ev.bind (f := fun k t602 => ((rf_natOf.f k den).bind fun t605 => (if (List.length t602 : Int) = 0 then (if neg = true then (rf_Fault.j2 k t602 t605 true) else ((rf_CmpNat.f k t605 (([1] : List Int))).bind fun t611 => (rf_Fault.j2 k t602 t605 (t611 != 0)))) else (rf_Fault.j2 k t602 t605 false)))) a1 ?_
            refine Ev.bind (f := fun k t605 => (if (a.length : Int) = 0 then (if neg = true then (rf_Fault.j2 k a t605 true) else ((rf_CmpNat.f k t605 (([1] : List Int))).bind fun t611 => (rf_Fault.j2 k a t605 (t611 != 0)))) else (rf_Fault.j2 k a t605 false))) b1 ?_
            by_cases c4 : num = []
            · have ha0 : a = [] := haz.2 c4
              have hv0 : val 4294967296 num = 0 := by rw [c4]; rfl
              have hvd := val_nonneg hB hd
              have hl0 : (a.length : Int) = 0 := by rw [ha0]; rfl
              by_cases c5 : neg = true
              · rw [fault_bad (by omega) (by omega) (fun h => by have := h.ng c4; rw [c5] at this; cases this)]
                exact Ev.congr (fun k => by rw [if_pos hl0, if_pos c5]) hj2t
              · refine Ev.congr (fun k => by rw [if_pos hl0, if_neg c5]) (Ev.bind (f := fun k t611 => (rf_Fault.j2 k a b (t611 != 0))) hcb ?_)
                by_cases c6 : val 4294967296 den = 1
                · have hg1 : Nat.gcd (val 4294967296 num).toNat (val 4294967296 den).toNat = 1 := by rw [hv0, c6]; rfl
                  rw [fault_can ⟨by omega, by omega, c1, c2, c3, fun _ => by cases neg <;> simp_all, hg1⟩]
                  have e : (cmpI (val 4294967296 den) 1 != 0) = false := by rw [c6]; rfl
                  rw [e]
                  exact hj2a hg1
                · rw [fault_bad (by omega) (by omega) (fun h => c6 (by have := h.gc; rw [hv0, Int.toNat_zero, Nat.gcd_zero_left] at this; omega))]
                  have e : (cmpI (val 4294967296 den) 1 != 0) = true := by
                    unfold cmpI
                    by_cases h2 : val 4294967296 den < 1
                    · rw [if_pos h2]; rfl
                    · rw [if_neg h2, if_pos (by omega)]; rfl
                  rw [e]
                  exact hj2t
            · have ha0 : a ≠ [] := fun h => c4 (haz.1 h)
              have hl0 : ¬ (a.length : Int) = 0 := fun h => ha0 (List.length_eq_zero_iff.1 (by omega))
              refine Ev.congr (f := fun k => rf_Fault.j2 k a b false) (fun k => by rw [if_neg hl0]) ?_
              by_cases c6 : Nat.gcd (val 4294967296 num).toNat (val 4294967296 den).toNat = 1
              · rw [fault_can ⟨by omega, by omega, c1, c2, c3, fun h => absurd h c4, c6⟩]
                exact hj2a c6
              · rw [fault_bad (by omega) (by omega) (fun h => c6 h.gc)]
                exact hj2b c6
          · rw [fault_bad (by omega) (by omega) (fun h => c1 h.nn)]
            refine hj0 _ (Ev.step (fun k => ?_) hbad)
            rw [hs0]
            have c4 : num ≠ [] := fun h => c1 (by rw [h]; exact nrm_nil)
            have hnl : num.length ≠ 0 := fun h' => c4 (List.length_eq_zero_iff.1 h')
            have hz : (num.getD (num.length - 1) 0 == 0) = true := by
              rw [beq_iff_eq]; exact Decidable.not_not.1 (fun h => c1 ((nrm_last c4).2 h))
            rw [if_pos (by omega), last_at c4 (by omega), if_pos (by omega), if_pos (by omega), rd_getD, hz]
        · rw [fault_bad (by omega) (by omega) (fun h => c2 h.nd)]
          refine hj0 _ (Ev.step (fun k => ?_) hbad)
          simp only [rf_Fault.j0]
          rw [if_neg (by decide), if_neg (by omega), last_at c3 (by omega), if_pos (by omega), if_pos (by omega), rd_getD, if_pos (Decidable.not_not.1 (fun h => c2 ((nrm_last c3).2 h)))]
theorem rmul_step {o x y c : Int} (o0 : 0 ≤ o) (o1 : o < 65536) (x0 : 0 ≤ x) (x1 : x < 65536) (y0 : 0 ≤ y) (y1 : y < 65536) (c0 : 0 ≤ c) (c1 : c < 65536) :
    ∃ t q : Int, Int.tmod (wrap64 (wrap64 (o + wrap64 (x * y)) + c)) 65536 = t ∧ wrap64 (Int.tdiv (wrap64 (wrap64 (o + wrap64 (x * y)) + c)) 65536) = q ∧ 0 ≤ t ∧ t < 65536 ∧ 0 ≤ q ∧ q < 65536 ∧ t = o + x * y + c - 65536 * q := by
  have h1 : 0 ≤ x * y := Int.mul_nonneg x0 y0
  have h2 : x * y ≤ x * 65535 := Int.mul_le_mul_of_nonneg_left (by omega) x0
  generalize x * y = p at *
  have e1 : wrap64 p = p := w64 (by omega) (by omega)
  have e2 : wrap64 (o + p) = o + p := w64 (by omega) (by omega)
  have e3 : wrap64 (o + p + c) = o + p + c := w64 (by omega) (by omega)
  rw [e1, e2, e3, Int.tmod_eq_emod_of_nonneg (by omega), Int.tdiv_eq_ediv_of_nonneg (by omega), w64 (by omega) (by omega)]
  exact ⟨_, _, rfl, rfl, by omega, by omega, by omega, by omega, by omega⟩
theorem rmul_inner (a b : List Int) (ha : Lim 65536 a) (hb : Lim 65536 b) (L i : Nat) (hia : i < a.length) (hL : L ≤ 549755813888) (hi : i + b.length < L) :
    ∀ (d j : Nat) (out : List Int) (c : Int), d + j = b.length → out.length = L → Lim 65536 out → 0 ≤ c → c < 65536 → out.getD (i + b.length) 0 = 0 →
    ∃ r, r.length = L ∧ Lim 65536 r ∧ val 65536 r = val 65536 out + 65536 ^ (i + j) * (c + a.getD i 0 * val 65536 (b.drop j)) ∧ (∀ p, i + b.length < p → r.getD p 0 = out.getD p 0) ∧
      ∀ (R : List Int), Ev (fun k => rf_MulNat.l0 k a b r (a.length : Int) ((i + 1 : Nat) : Int)) R → Ev (fun k => rf_MulNat.l1 k a b out (i : Int) c (j : Int) (a.length : Int) (i : Int)) R := by
  have hB : (0 : Int) < 65536 := by decide
  have hai := ha.getD hB i
  have gi0 : (0 : Int) ≤ (i : Int) := by omega
  have gi1 : (i : Int) < (a.length : Int) := by omega
  have gi2 : ∀ _ : Unit, wrap64 ((i : Int) + 1) = ((i + 1 : Nat) : Int) := fun _ => by rw [w64 (by omega) (by omega)]; omega
  intro d
  induction d with
  | zero =>
    intro j out c hd hl ho hc0 hc hz
    have hj : j = b.length := by omega
    subst hj
    have gv : ∀ _ : Unit, wrap64 ((i : Int) + (b.length : Int)) = ((i + b.length : Nat) : Int) := fun _ => by rw [w64 (by omega) (by omega)]; omega
    have g3 : (0 : Int) ≤ ((i + b.length : Nat) : Int) := by omega
    have g4 : ((i + b.length : Nat) : Int) < (out.length : Int) := by omega
    have g5 : i + b.length < out.length := by omega
    by_cases cz : c = 0
    · subst cz
      refine ⟨out, hl, ho, by rw [List.drop_length]; simp [val], fun p hp => rfl, fun R hR => ?_⟩
      refine Ev.step (f := fun k => rf_MulNat.l0 k a b out (a.length : Int) ((i + 1 : Nat) : Int)) (fun k => ?_) hR
      simp only [rf_MulNat.l1]
      rw [if_neg (by omega), if_neg (by omega), gi2 ()]
    · have gb : b.getD b.length 0 = 0 := by rw [List.getD_eq_getElem?_getD, List.getElem?_eq_none (Nat.le_refl _)]; rfl
      obtain ⟨t, q, ht, hq, q1, q2, q3, q4, q5⟩ := rmul_step (o := 0) (x := a.getD i 0) (y := 0) (c := c) (by decide) (by decide) hai.1 hai.2 (by decide) (by decide) hc0 hc
      rw [Int.mul_zero] at q5
      have eq0 : q = 0 := by omega
      have et : t = c := by omega
      have gw : ∀ _ : Unit, wrap64 ((b.length : Int) + 1) = ((b.length + 1 : Nat) : Int) := fun _ => by rw [w64 (by omega) (by omega)]; omega
      refine ⟨out.set (i + b.length) c, by rw [List.length_set, hl], ho.set _ ⟨hc0, hc⟩, ?_, ?_, fun R hR => ?_⟩
      · rw [val_set _ _ _ _ g5, hz, List.drop_length]
        simp [val]
      · intro p hp
        rw [List.getD_eq_getElem?_getD, List.getD_eq_getElem?_getD, List.getElem?_set_ne (by omega)]
      · refine Ev.step (f := fun k => rf_MulNat.l1 k a b (out.set (i + b.length) c) (i : Int) 0 ((b.length + 1 : Nat) : Int) (a.length : Int) (i : Int)) (fun k => ?_) (Ev.step (f := fun k => rf_MulNat.l0 k a b (out.set (i + b.length) c) (a.length : Int) ((i + 1 : Nat) : Int)) (fun k => ?_) hR)
        · simp only [rf_MulNat.l1]
          rw [if_neg (by omega), if_pos (by omega), gv (), if_pos g3, if_pos g4, if_pos gi0, if_pos gi1, rdigit, Option.bind_some, gb, rd_getD out, hz, rd_getD a, ht, hq, gw (), et, eq0, Int.toNat_natCast]
        · simp only [rf_MulNat.l1]
          rw [if_neg (by omega), if_neg (by decide), gi2 ()]
  | succ d ih =>
    intro j out c hd hl ho hc0 hc hz
    have g0 : d + (j + 1) = b.length := by omega
    have g1 : (j : Int) < (b.length : Int) := by omega
    have gj : j < b.length := by omega
    have g3 : i + j < out.length := by omega
    have g4 : ((i + j : Nat) : Int) < (out.length : Int) := by omega
    have g5 : (0 : Int) ≤ ((i + j : Nat) : Int) := by omega
    have g6 : i + j ≠ i + b.length := by omega
    have gw : ∀ _ : Unit, wrap64 ((j : Int) + 1) = ((j + 1 : Nat) : Int) := fun _ => by rw [w64 (by omega) (by omega)]; omega
    have gv : ∀ _ : Unit, wrap64 ((i : Int) + (j : Int)) = ((i + j : Nat) : Int) := fun _ => by rw [w64 (by omega) (by omega)]; omega
    have hb1 := hb.getD hB j
    have ho1 := ho.getD hB (i + j)
    obtain ⟨t, q, ht, hq, q1, q2, q3, q4, q5⟩ := rmul_step ho1.1 ho1.2 hai.1 hai.2 hb1.1 hb1.2 hc0 hc
    obtain ⟨r, r1, r2, r3, r4, r5⟩ := ih (j + 1) (out.set (i + j) t) q g0 (by rw [List.length_set, hl]) (ho.set _ ⟨q1, q2⟩) q3 q4 (by
      rw [List.getD_eq_getElem?_getD, List.getElem?_set_ne g6, ← List.getD_eq_getElem?_getD, hz])
    refine ⟨r, r1, r2, ?_, ?_, fun R hR => ?_⟩
    · rw [r3, val_set _ _ _ _ g3, val_drop _ b j gj, q5, ← Nat.add_assoc, Int.pow_succ]
      generalize val 65536 (b.drop (j + 1)) = v
      generalize (65536 : Int) ^ (i + j) = p
      clear q5 ht hq r3 r5 r4
      grind
    · intro p hp
      rw [r4 p hp, List.getD_eq_getElem?_getD, List.getD_eq_getElem?_getD, List.getElem?_set_ne (by omega)]
    · refine Ev.step (f := fun k => rf_MulNat.l1 k a b (out.set (i + j) t) (i : Int) q ((j + 1 : Nat) : Int) (a.length : Int) (i : Int)) (fun k => ?_) (r5 R hR)
      simp only [rf_MulNat.l1]
      rw [if_pos g1, gv (), if_pos g5, if_pos g4, if_pos gi0, if_pos gi1, rdigit, Option.bind_some, rd_getD out, rd_getD a, ht, hq, gw (), Int.toNat_natCast]
theorem rmul_outer (a b : List Int) (ha : Lim 65536 a) (hb : Lim 65536 b) (hL : a.length + b.length + 1 ≤ 549755813888) :
    ∀ (d i : Nat) (out : List Int), d + i = a.length → out.length = a.length + b.length + 1 → Lim 65536 out → (∀ p, i + b.length ≤ p → out.getD p 0 = 0) →
    ∃ r, Ev (fun k => rf_MulNat.l0 k a b out (a.length : Int) (i : Int)) (trim r) ∧ r.length = a.length + b.length + 1 ∧ Lim 65536 r ∧ val 65536 r = val 65536 out + 65536 ^ i * (val 65536 (a.drop i) * val 65536 b) := by
  have hB : (0 : Int) < 65536 := by decide
  intro d
  induction d with
  | zero =>
    intro i out hd hl ho hz
    have hi : i = a.length := by omega
    subst hi
    refine ⟨out, Ev.step (f := fun k => (rf_trim.f k out).bind fun t => some t) (fun k => ?_) (Ev.bind (f := fun _ t => some t) (rtrim_ev out (by omega)) (Ev.now _)), hl, ho, ?_⟩
    · simp only [rf_MulNat.l0]; rw [if_neg (by omega)]
    · rw [List.drop_length]; simp [val]
  | succ d ih =>
    intro i out hd hl ho hz
    have g1 : (i : Int) < (a.length : Int) := by omega
    have gi : i < a.length := by omega
    obtain ⟨r, r1, r2, r3, r4, r5⟩ := rmul_inner a b ha hb (a.length + b.length + 1) i gi hL (by omega) b.length 0 out 0 (by omega) hl ho (by decide) (by decide) (hz _ (Nat.le_refl _))
    obtain ⟨s, s1, s2, s3, s4⟩ := ih (i + 1) r (by omega) r1 r2 (by
      intro p hp
      rw [r4 p (by omega)]
      exact hz p (by omega))
    refine ⟨s, Ev.step (f := fun k => rf_MulNat.l1 k a b out (i : Int) 0 0 (a.length : Int) (i : Int)) (fun k => ?_) (r5 _ s1), s2, s3, ?_⟩
    · simp only [rf_MulNat.l0]
      rw [if_pos g1]
    · rw [s4, r3, val_drop _ a i gi, List.drop_zero, Nat.add_zero, Int.pow_succ]
      generalize val 65536 (a.drop (i + 1)) = v
      generalize val 65536 b = u
      generalize (65536 : Int) ^ i = p
      clear s4 r3 r5 r4 s1
      grind
theorem MulNat_ev (a b : List Int) (ha : Lim 65536 a) (hb : Lim 65536 b) (hL : a.length + b.length + 1 ≤ 1099511627) :
    ∃ r, Ev (fun k => rf_MulNat.f k a b) r ∧ Lim 65536 r ∧ Nrm r ∧ val 65536 r = val 65536 a * val 65536 b ∧ r.length ≤ a.length + b.length + 1 := by
  have e1 : wrap64 ((a.length : Int) + (b.length : Int)) = ((a.length + b.length : Nat) : Int) := by rw [w64 (by omega) (by omega)]; omega
  have e2 : wrap64 (((a.length + b.length : Nat) : Int) + 1) = ((a.length + b.length + 1 : Nat) : Int) := by rw [w64 (by omega) (by omega)]; omega
  obtain ⟨r, h1, h2, h3, h4⟩ := rmul_outer a b ha hb (by omega) a.length 0 (List.replicate (a.length + b.length + 1) 0) (by omega) (by simp) (lim_replicate (by decide) _) (fun p _ => by
    rw [List.getD_eq_getElem?_getD]
    rcases Nat.lt_or_ge p (a.length + b.length + 1) with h | h
    · rw [List.getElem?_replicate_of_lt h]; rfl
    · rw [List.getElem?_eq_none (by simpa using h)]; rfl)
  refine ⟨trim r, Ev.congr (fun k => ?_) h1, lim_trim h3, nrm_trim _, by rw [val_trim, h4, val_replicate, List.drop_zero]; simp, by rw [← h2]; exact length_trim r⟩
  unfold rf_MulNat.f
  rw [e1, e2, if_pos (by omega), if_pos (by omega), Int.toNat_natCast]
  rfl
end Go.Proofs.YtemnjgkicndmjaaGreatDoor.Q
namespace Go.Proofs.YtemnjgkicndmjaaGreatDoor.Q
open Go.RowKit Go.Proofs.YtemnjgkicndmjaaGreatDoorW.PrintWords Go.Proofs.YtemnjgkicndmjaaGreatDoorW.PrintLast Go.Proofs.YtemnjgkicndmjaaGreatDoorW.PrintMore
attribute [local go_sem] max2_int min2_int max_two min_two max_three min_three max_four min_four
set_option linter.unusedVariables false
set_option linter.unusedSimpArgs false
def rf_reduce.f (k : Nat) (a0 : Bool) (l1 : List Int) (l2 : List Int) : Option (Bool × List Int × List Int) := (rf_GcdNat.f k l1 l2).bind fun t599 => ((rf_CmpNat.f k t599 (([1] : List Int))).bind fun t605 => (if t605 = 0 then (if a0 = true then (if (l1.length : Int) > 0 then (some (true, l1, l2)) else (some (false, l1, l2))) else (some (false, l1, l2))) else ((rf_DivNat.f k l1 t599).bind fun bt606 => ((rf_DivNat.f k l2 t599).bind fun bt612 => (if a0 = true then (if (bt606.1.length : Int) > 0 then (some (true, bt606.1, bt612.1)) else (some (false, bt606.1, bt612.1))) else (some (false, bt606.1, bt612.1)))))))
theorem rf_reduce.mono : ∀ a0 a1 a2 k, LeO (rf_reduce.f k a0 a1 a2) (rf_reduce.f (k + 1) a0 a1 a2) := by
 intro a0 a1 a2 k
 unfold rf_reduce.f
 have m0 := @rf_CmpNat.mono
 have m1 := @rf_DivNat.mono
 have m2 := @rf_GcdNat.mono
 exact zm
end Go.Proofs.YtemnjgkicndmjaaGreatDoor.Q

namespace Go.Proofs.YtemnjgkicndmjaaGreatDoor.Q
open Go.RowKit Go.Proofs.YtemnjgkicndmjaaGreatDoorW.PrintWords Go.Proofs.YtemnjgkicndmjaaGreatDoorW.PrintLast Go.Proofs.YtemnjgkicndmjaaGreatDoorW.PrintMore
set_option linter.unusedVariables false
theorem radd_step (a b : List Int) (ha : Lim 65536 a) (hb : Lim 65536 b) (i : Nat) (hi : i ≤ 1099511627776) (out : List Int) (hl : out.length ≤ 1099511627777) (c : Int) (c0 : 0 ≤ c) (c1 : c ≤ 1) (R : List Int) (hc : i < a.length ∨ i < b.length ∨ 0 < c)
    (h : Ev (fun k => rf_AddNat.l0 k a b (out ++ [(a.getD i 0 + b.getD i 0 + c) % 65536]) ((a.getD i 0 + b.getD i 0 + c) / 65536) ((i + 1 : Nat) : Int)) R) : Ev (fun k => rf_AddNat.l0 k a b out c (i : Int)) R := by
  have hai := ha.getD (by decide) i
  have hbi := hb.getD (by decide) i
  have e1 : wrap64 (wrap64 (a.getD i 0 + b.getD i 0) + c) = a.getD i 0 + b.getD i 0 + c := by rw [w64 (x := a.getD i 0 + b.getD i 0) (by omega) (by omega), w64 (by omega) (by omega)]
  have e2 : Int.tmod (a.getD i 0 + b.getD i 0 + c) 65536 = (a.getD i 0 + b.getD i 0 + c) % 65536 := Int.tmod_eq_emod_of_nonneg (by omega)
  have e3 : wrap64 (Int.tdiv (a.getD i 0 + b.getD i 0 + c) 65536) = (a.getD i 0 + b.getD i 0 + c) / 65536 := by rw [Int.tdiv_eq_ediv_of_nonneg (by omega), w64 (by omega) (by omega)]
  have e4 : wrap64 ((i : Int) + 1) = ((i + 1 : Nat) : Int) := by rw [w64 (by omega) (by omega)]; omega
  have j1 : Ev (fun k => rf_AddNat.j1 k a b out c (i : Int) true) R := by
    refine Ev.step (f := fun k => rf_AddNat.l0 k a b (out ++ [(a.getD i 0 + b.getD i 0 + c) % 65536]) ((a.getD i 0 + b.getD i 0 + c) / 65536) ((i + 1 : Nat) : Int)) (fun k => ?_) h
    simp only [rf_AddNat.j1]
    rw [if_pos trivial, rdigit, rdigit, Option.bind_some, Option.bind_some, if_pos (by omega), e1, e2, e3, e4]
  refine Ev.step (f := fun k => rf_AddNat.j1 k a b out c (i : Int) true) (fun k => ?_) j1
  simp only [rf_AddNat.l0]
  by_cases h1 : (i : Int) < (a.length : Int)
  · rw [if_pos h1]
  · rw [if_neg h1]
    by_cases h2 : (i : Int) < (b.length : Int)
    · rw [if_pos h2]
    · rw [if_neg h2, decide_eq_true (show c > 0 by omega)]
theorem radd_end (a b : List Int) (i : Nat) (out : List Int) (hl : out.length ≤ 1099511627776) (hc : ¬ (i < a.length ∨ i < b.length)) : Ev (fun k => rf_AddNat.l0 k a b out 0 (i : Int)) (trim out) := by
  refine Ev.step (f := fun k => rf_AddNat.j1 k a b out 0 (i : Int) false) (fun k => ?_) (Ev.step (f := fun k => (rf_trim.f k out).bind fun t => some t) (fun k => ?_) (Ev.bind (f := fun _ t => some t) (rtrim_ev out hl) (Ev.now _)))
  · simp only [rf_AddNat.l0]
    rw [if_neg (by omega), if_neg (by omega)]; rfl
  · simp only [rf_AddNat.j1]
    rw [if_neg (by decide)]
theorem radd_loop (a b : List Int) (ha : Lim 65536 a) (hb : Lim 65536 b) (N : Nat) (hN : N ≤ 549755813888) (hab : max a.length b.length = N) : ∀ (d i : Nat) (out : List Int) (c : Int), d + i = N → out.length = i → Lim 65536 out → 0 ≤ c → c ≤ 1 →
    val 65536 out + 65536 ^ i * c = val 65536 (a.take i) + val 65536 (b.take i) →
    ∃ r, Ev (fun k => rf_AddNat.l0 k a b out c (i : Int)) (trim r) ∧ r.length ≤ N + 1 ∧ Lim 65536 r ∧ val 65536 r = val 65536 a + val 65536 b := by
  have hB : (0 : Int) < 65536 := by decide
  intro d
  induction d with
  | zero =>
    intro i out c hd hl ho c0 c1 hv
    have hi : i = N := by omega
    subst hi
    rw [List.take_of_length_le (by omega), List.take_of_length_le (by omega)] at hv
    by_cases hc : c = 0
    · subst hc
      refine ⟨out, radd_end a b i out (by omega) (by omega), by omega, ho, by simpa using hv⟩
    · have e : c = 1 := by omega
      subst e
      have ga : a.getD i 0 = 0 := by rw [List.getD_eq_getElem?_getD, List.getElem?_eq_none (by omega)]; rfl
      have gb : b.getD i 0 = 0 := by rw [List.getD_eq_getElem?_getD, List.getElem?_eq_none (by omega)]; rfl
      refine ⟨out ++ [1], radd_step a b ha hb i (by omega) out (by omega) 1 (by decide) (by decide) _ (by omega) ?_, by rw [List.length_append, List.length_singleton]; omega, lim_nrm_snoc ho ⟨by decide, by decide⟩, by rw [val_snoc, hl, hv]⟩
      rw [ga, gb]
      exact radd_end a b (i + 1) (out ++ [1]) (by rw [List.length_append, List.length_singleton]; omega) (by omega)
  | succ d ih =>
    intro i out c hd hl ho c0 c1 hv
    have hai := ha.getD hB i
    have hbi := hb.getD hB i
    obtain ⟨r, r1, r2⟩ := ih (i + 1) (out ++ [(a.getD i 0 + b.getD i 0 + c) % 65536]) ((a.getD i 0 + b.getD i 0 + c) / 65536) (by omega) (by rw [List.length_append, List.length_singleton, hl]) (lim_nrm_snoc ho ⟨by omega, by omega⟩) (by omega) (by omega) (by
      rw [val_snoc, val_take_succ', val_take_succ', hl, Int.pow_succ]
      have e : (a.getD i 0 + b.getD i 0 + c) % 65536 = a.getD i 0 + b.getD i 0 + c - 65536 * ((a.getD i 0 + b.getD i 0 + c) / 65536) := by omega
      rw [e]
      generalize (a.getD i 0 + b.getD i 0 + c) / 65536 = q
      generalize (65536 : Int) ^ i = p at *
      grind)
    exact ⟨r, radd_step a b ha hb i (by omega) out (by omega) c c0 c1 _ (by omega) r1, r2⟩
theorem AddNat_ev (a b : List Int) (ha : Lim 65536 a) (hb : Lim 65536 b) (hL : a.length ≤ 274877906944) (hM : b.length ≤ 274877906944) :
    ∃ r, Ev (fun k => rf_AddNat.f k a b) r ∧ Lim 65536 r ∧ Nrm r ∧ val 65536 r = val 65536 a + val 65536 b ∧ r.length ≤ max a.length b.length + 1 := by
  obtain ⟨r, h1, h2, h3, h4⟩ := radd_loop a b ha hb (max a.length b.length) (by omega) rfl (max a.length b.length) 0 [] 0 (by omega) rfl (lim_nil _) (by decide) (by decide) (by simp [val])
  exact ⟨trim r, h1, lim_trim h3, nrm_trim _, by rw [val_trim, h4], Nat.le_trans (length_trim r) h2⟩
theorem rlen_loop : ∀ (d : Nat) (x : Int) (n : Nat), 0 ≤ x → x < 2 ^ d → n + d ≤ 1099511627776 → ∃ L, L ≤ d ∧ x < 2 ^ L ∧ (0 < x → 0 < L ∧ 2 ^ (L - 1) ≤ x) ∧ Ev (fun k => rf_LenNat.l0 k (n : Int) x) ((n + L : Nat) : Int) := by
  intro d
  induction d with
  | zero =>
    intro x n h0 h1 _
    have e : x = 0 := by simp at h1; omega
    subst e
    refine ⟨0, Nat.le_refl _, by decide, fun h => absurd h (by decide), Ev.step (f := fun _ => some (n : Int)) (fun k => ?_) (Ev.now _)⟩
    simp only [rf_LenNat.l0]
    rw [if_neg (by decide)]
  | succ d ih =>
    intro x n h0 h1 hL
    by_cases e : x = 0
    · subst e
      refine ⟨0, by omega, by decide, fun h => absurd h (by decide), Ev.step (f := fun _ => some (n : Int)) (fun k => ?_) (Ev.now _)⟩
      simp only [rf_LenNat.l0]
      rw [if_neg (by decide)]
    · rw [Int.pow_succ] at h1
      obtain ⟨L, l1, l2, l3, l4⟩ := ih (x / 2) (n + 1) (by omega) (by omega) (by omega)
      have e2 : wrap64 ((n : Int) + 1) = ((n + 1 : Nat) : Int) := by rw [w64 (by omega) (by omega)]; omega
      refine ⟨L + 1, by omega, by rw [Int.pow_succ]; omega, fun h => ⟨by omega, ?_⟩, Ev.step (f := fun k => rf_LenNat.l0 k ((n + 1 : Nat) : Int) (x / 2)) (fun k => ?_) (Ev.eq l4 (by congr 1; omega))⟩
      · rw [Nat.add_sub_cancel]
        by_cases h2 : 0 < x / 2
        · obtain ⟨p1, p2⟩ := l3 h2
          have e3 : L = (L - 1) + 1 := by omega
          rw [e3, Int.pow_succ]; omega
        · have : x / 2 = 0 := by omega
          have hz : L = 0 := by
            rcases Nat.eq_zero_or_pos L with h3 | h3
            · exact h3
            · have h4 : x = 1 := by omega
              subst h4
              have h5 := Ev.unique l4 (r' := ((n + 1 : Nat) : Int)) (Ev.step (f := fun _ => some ((n + 1 : Nat) : Int)) (fun k => by simp only [rf_LenNat.l0]; rw [if_neg (by decide)]) (Ev.now _))
              omega
          rw [hz]; simp; omega
      · simp only [rf_LenNat.l0]
        rw [if_pos (by omega), e2]
theorem LenNat_ev (a : List Int) (ha : Lim 65536 a) (na : Nrm a) (hL : a.length ≤ 1073741824) : ∃ L : Nat, L ≤ 16 * a.length ∧ val 65536 a < 2 ^ L ∧ (0 < val 65536 a → 0 < L ∧ 2 ^ (L - 1) ≤ val 65536 a) ∧ Ev (fun k => rf_LenNat.f k a) (L : Int) := by
  by_cases h : a = []
  · subst h
    exact ⟨0, by simp, by decide, fun h => absurd h (by decide), Ev.ret fun k => by unfold rf_LenNat.f; rfl⟩
  · have hl0 : a.length ≠ 0 := fun h' => h (List.length_eq_zero_iff.1 h')
    have hx := ha.getD (by decide) (a.length - 1)
    have h0 : a.getD (a.length - 1) 0 ≠ 0 := by
      intro e
      rw [← List.dropLast_concat_getLast h] at na
      have h1 := nrm_snoc.1 na
      refine h1 ?_
      rw [← e, List.getLast_eq_getElem, List.getD_eq_getElem?_getD, List.getElem?_eq_getElem (by omega)]; rfl
    obtain ⟨L, l1, l2, l3, l4⟩ := rlen_loop 16 (a.getD (a.length - 1) 0) (16 * (a.length - 1)) hx.1 (by simpa using hx.2) (by omega)
    obtain ⟨p1, p2⟩ := l3 (by omega)
    have hv : val 65536 a = val 65536 (a.take (a.length - 1)) + 65536 ^ (a.length - 1) * a.getD (a.length - 1) 0 := by
      have h1 := val_take_succ 65536 a (a.length - 1) (by omega)
      rw [Nat.sub_add_cancel (by omega), List.take_of_length_le (Nat.le_refl _)] at h1
      exact h1
    have t0 := val_nonneg (B := 65536) (by decide) (ha.take (a.length - 1))
    have t1 := val_lt (B := 65536) (by decide) (ha.take (a.length - 1))
    rw [List.length_take, Nat.min_eq_left (by omega)] at t1
    have hp : (65536 : Int) ^ (a.length - 1) = 2 ^ (16 * (a.length - 1)) := by rw [Int.pow_mul]; rfl
    have pp : (0 : Int) < 65536 ^ (a.length - 1) := Int.pow_pos (by decide)
    have hup : val 65536 a < 2 ^ (16 * (a.length - 1) + L) := by
      rw [Int.pow_add, ← hp, hv]
      have : (65536 : Int) ^ (a.length - 1) * (a.getD (a.length - 1) 0 + 1) ≤ 65536 ^ (a.length - 1) * 2 ^ L := Int.mul_le_mul_of_nonneg_left (by omega) (by omega)
      rw [Int.mul_add, Int.mul_one] at this
      omega
    have hlo : 2 ^ (16 * (a.length - 1) + L - 1) ≤ val 65536 a := by
      have e : 16 * (a.length - 1) + L - 1 = 16 * (a.length - 1) + (L - 1) := by omega
      rw [e, Int.pow_add, ← hp, hv]
      have : (65536 : Int) ^ (a.length - 1) * 2 ^ (L - 1) ≤ 65536 ^ (a.length - 1) * a.getD (a.length - 1) 0 := Int.mul_le_mul_of_nonneg_left p2 (by omega)
      omega
    refine ⟨16 * (a.length - 1) + L, by omega, hup, fun _ => ⟨by omega, hlo⟩, Ev.congr (fun k => ?_) l4⟩
    have e1 : wrap64 ((a.length : Int) - 1) = ((a.length - 1 : Nat) : Int) := by rw [w64 (by omega) (by omega)]; omega
    have e2 : wrap64 (16 * ((a.length - 1 : Nat) : Int)) = ((16 * (a.length - 1) : Nat) : Int) := by rw [w64 (by omega) (by omega)]; omega
    unfold rf_LenNat.f
    rw [if_pos (by omega), e1, if_pos (by omega), if_pos (by omega), e2, rd_getD]
theorem rbit_ev {a : List Int} (ha : Lim 65536 a) (i : Nat) (hi : i ≤ 1099511627776) : rf_bit.f a (i : Int) = some (val 65536 a / 2 ^ i % 2) := by
  obtain ⟨w, hw⟩ : ∃ w, w = i / 16 := ⟨_, rfl⟩
  obtain ⟨b, hb⟩ : ∃ b, b = i % 16 := ⟨_, rfl⟩
  have hib : i = 16 * w + b := by omega
  have hx := ha.getD (by decide) w
  have e1 : wrap64 (Int.tdiv (i : Int) 16) = (w : Int) := by rw [Int.tdiv_eq_ediv_of_nonneg (by omega), w64 (by omega) (by omega)]; omega
  have e2 : Int.tmod (i : Int) 16 = (b : Int) := by rw [Int.tmod_eq_emod_of_nonneg (by omega)]; omega
  have e3 : shr .i64 (a.getD w 0) (b : Int) = a.getD w 0 / 2 ^ b := by
    unfold shr
    rw [show min (b : Int).toNat (IntKind.i64).bits = b by simp [IntKind.bits]; omega]
  have hq0 : 0 ≤ a.getD w 0 / 2 ^ b := Int.ediv_nonneg hx.1 (Int.le_of_lt (Int.pow_pos (by decide)))
  have hq1 : a.getD w 0 / 2 ^ b ≤ a.getD w 0 := Int.ediv_le_self _ hx.1
  unfold rf_bit.f
  rw [e1, rdigit, Option.bind_some, e2, if_pos (by omega), e3, i64_and1 hq0 (by omega)]
  congr 1
  have hs := val_split' 65536 a w
  have hd := val_drop' 65536 a w
  have t0 := val_nonneg (B := 65536) (by decide) (ha.take w)
  have t1 : val 65536 (a.take w) < 65536 ^ w := by
    have h1 := val_lt (B := 65536) (by decide) (ha.take w)
    have h2 := pow_mono' (B := 65536) (by decide) (show (a.take w).length ≤ w by rw [List.length_take]; omega)
    omega
  have hp : (2 : Int) ^ (16 * w) = 65536 ^ w := by rw [Int.pow_mul]; rfl
  have pp : (0 : Int) < 65536 ^ w := Int.pow_pos (by decide)
  have h3 : val 65536 a / 2 ^ i = val 65536 (a.drop w) / 2 ^ b := by
    rw [hib, Int.pow_add, hp, ← Int.ediv_ediv_of_nonneg (Int.le_of_lt pp), hs, Int.add_mul_ediv_left _ _ (by omega), Int.ediv_eq_zero_of_lt t0 t1, Int.zero_add]
  rw [h3, hd]
  have h4 : (65536 : Int) = 2 ^ b * (2 * 2 ^ (15 - b)) := by
    have : (65536 : Int) = 2 ^ (b + (1 + (15 - b))) := by rw [show b + (1 + (15 - b)) = 16 by omega]; rfl
    rw [this, Int.pow_add, Int.pow_add]; rfl
  have pb : (0 : Int) < 2 ^ b := Int.pow_pos (by decide)
  have h5 : (a.getD w 0 + 65536 * val 65536 (a.drop (w + 1))) / 2 ^ b = a.getD w 0 / 2 ^ b + 2 * (2 ^ (15 - b) * val 65536 (a.drop (w + 1))) := by
    have : a.getD w 0 + 65536 * val 65536 (a.drop (w + 1)) = a.getD w 0 + 2 ^ b * (2 * (2 ^ (15 - b) * val 65536 (a.drop (w + 1)))) := by
      generalize val 65536 (a.drop (w + 1)) = u
      rw [h4]; grind
    rw [this, Int.add_mul_ediv_left _ _ (by omega)]
  rw [h5, Int.add_mul_emod_self_left]
theorem ilt_or (a b : Int) : a < b ∨ b ≤ a := by omega
theorem rset_bit {q : List Int} (hq : Lim 65536 q) (i : Nat) (hi : i < 16 * q.length) (h : val 65536 q % 2 ^ (i + 1) = 0) :
    ∃ v : Int, Go.bits .or .i64 (q.getD (i / 16) 0) (shl .i64 1 ((i % 16 : Nat) : Int)) = v ∧ 0 ≤ v ∧ v < 65536 ∧ val 65536 (q.set (i / 16) v) = val 65536 q + 2 ^ i := by
  obtain ⟨w, hw⟩ : ∃ w, w = i / 16 := ⟨_, rfl⟩
  obtain ⟨b, hb⟩ : ∃ b, b = i % 16 := ⟨_, rfl⟩
  have hib : i = 16 * w + b := by omega
  rw [← hw, ← hb]
  have hx := hq.getD (by decide) w
  have pb : (0 : Int) < 2 ^ b := Int.pow_pos (by decide)
  have pb2 : (2 : Int) ^ b ≤ 32768 := by
    have := pow_mono' (B := 2) (by decide) (show b ≤ 15 by omega)
    simpa using this
  have e1 : shl .i64 1 (b : Int) = 2 ^ b := by
    unfold shl
    rw [Int.toNat_natCast, Nat.min_eq_left (by simp [IntKind.bits]; omega), Int.one_mul, i64w _ (by omega) (by omega)]
  have hs := val_split' 65536 q w
  have hd := val_drop' 65536 q w
  have t0 := val_nonneg (B := 65536) (by decide) (hq.take w)
  have t1 : val 65536 (q.take w) < 65536 ^ w := by
    have h1 := val_lt (B := 65536) (by decide) (hq.take w)
    have h2 := pow_mono' (B := 65536) (by decide) (show (q.take w).length ≤ w by rw [List.length_take]; omega)
    omega
  have hp : (2 : Int) ^ (16 * w) = 65536 ^ w := by rw [Int.pow_mul]; rfl
  have pp : (0 : Int) < 65536 ^ w := Int.pow_pos (by decide)
  obtain ⟨m, hm⟩ := Int.dvd_of_emod_eq_zero h
  have hpow : (2 : Int) ^ (i + 1) = 65536 ^ w * (2 ^ b * 2) := by rw [hib, Nat.add_assoc, Int.pow_add, hp, Int.pow_succ]
  have hz : val 65536 (q.take w) = 0 := by
    have h1 : val 65536 (q.take w) = 65536 ^ w * (2 ^ b * 2 * m - val 65536 (q.drop w)) := by
      rw [hpow] at hm
      rw [hm] at hs
      rw [Int.mul_sub, ← Int.mul_assoc]
      omega
    rcases ilt_or 0 (2 ^ b * 2 * m - val 65536 (q.drop w)) with h2 | h2
    · have h3 : 65536 ^ w * 1 ≤ 65536 ^ w * (2 ^ b * 2 * m - val 65536 (q.drop w)) := Int.mul_le_mul_of_nonneg_left (by omega) (by omega)
      omega
    · have h3 : 65536 ^ w * (2 ^ b * 2 * m - val 65536 (q.drop w)) ≤ 65536 ^ w * 0 := Int.mul_le_mul_of_nonneg_left (by omega) (by omega)
      omega
  have hdw : val 65536 (q.drop w) = 2 ^ b * 2 * m := by
    rw [hz, Int.zero_add, hm, hpow, Int.mul_assoc] at hs
    have := Int.eq_of_mul_eq_mul_left (by omega) hs
    omega
  have h4 : (65536 : Int) = 2 ^ b * 2 * 2 ^ (15 - b) := by
    have : (65536 : Int) = 2 ^ (b + (1 + (15 - b))) := by rw [show b + (1 + (15 - b)) = 16 by omega]; rfl
    rw [this, Int.pow_add, Int.pow_add, Int.mul_assoc]; rfl
  have hqw : q.getD w 0 = 2 ^ b * 2 * (m - 2 ^ (15 - b) * val 65536 (q.drop (w + 1))) := by
    rw [hdw] at hd
    rw [Int.mul_sub, ← Int.mul_assoc, ← h4]
    omega
  obtain ⟨z, hz2⟩ : ∃ z, z = m - 2 ^ (15 - b) * val 65536 (q.drop (w + 1)) := ⟨_, rfl⟩
  rw [← hz2] at hqw
  have hz0 : 0 ≤ z := by
    rcases ilt_or z 0 with h2 | h2
    · have h3 : 2 ^ b * 2 * z ≤ 2 ^ b * 2 * (-1) := Int.mul_le_mul_of_nonneg_left (by omega) (by omega)
      omega
    · exact h2
  have hor : Go.bits .or .i64 (q.getD w 0) (2 ^ b) = q.getD w 0 + 2 ^ b := by
    rw [i64_or _ _ hx.1 (by omega) (by omega) (by omega), nat_join (b + 1) _ _ ?_ ?_]
    · omega
    · obtain ⟨Z, rfl⟩ := Int.eq_ofNat_of_zero_le hz0
      have e : (q.getD w 0).toNat = 2 ^ (b + 1) * Z := by
        rw [hqw]
        have : (2 : Int) ^ b * 2 * (Z : Int) = ((2 ^ (b + 1) * Z : Nat) : Int) := by push_cast; rw [Int.pow_succ]
        rw [this, Int.toNat_natCast]
      rw [e, Nat.mul_mod_right]
    · have e : ((2 : Int) ^ b).toNat = 2 ^ b := by
        have : (2 : Int) ^ b = ((2 ^ b : Nat) : Int) := by push_cast; rfl
        rw [this, Int.toNat_natCast]
      rw [e]
      exact Nat.pow_lt_pow_right (by decide) (by omega)
  have hlt : q.getD w 0 + 2 ^ b < 65536 := by
    have h5 : z < 2 ^ (15 - b) := by
      rcases ilt_or z (2 ^ (15 - b)) with h2 | h2
      · exact h2
      · have h3 : 2 ^ b * 2 * 2 ^ (15 - b) ≤ 2 ^ b * 2 * z := Int.mul_le_mul_of_nonneg_left h2 (by omega)
        omega
    have h6 : 2 ^ b * 2 * (z + 1) ≤ 2 ^ b * 2 * 2 ^ (15 - b) := Int.mul_le_mul_of_nonneg_left (by omega) (by omega)
    rw [Int.mul_add, Int.mul_one, ← h4, ← hqw] at h6
    omega
  refine ⟨q.getD w 0 + 2 ^ b, by rw [e1, hor], by omega, hlt, ?_⟩
  rw [val_set _ _ _ _ (by omega), hib, Int.pow_add, hp]
  congr 2
  omega
theorem divnat_sub (a b : List Int) (hb : Lim 65536 b) (nb : Nrm b) (lb : b.length ≤ 1048576) (la : a.length ≤ 1048576) (i : Nat) (hi : i < 16 * a.length) (q u : List Int) (Q : Int) (hq : Lim 65536 q) (lq : q.length = a.length) (hQ : val 65536 q = Q * 2 ^ (i + 1))
    (hu : Lim 65536 u) (nu : Nrm u) (lu : u.length ≤ 1048578) (hu2 : val 65536 u < 2 * val 65536 b) (hA : val 65536 a / 2 ^ i = 2 * Q * val 65536 b + val 65536 u) (R : List Int × List Int)
    (hR : ∀ (q' r' : List Int) (Q' : Int), Lim 65536 q' → q'.length = a.length → Lim 65536 r' → Nrm r' → val 65536 r' < val 65536 b → val 65536 q' = Q' * 2 ^ i → val 65536 a / 2 ^ i = Q' * val 65536 b + val 65536 r' → Ev (fun k => rf_DivNat.l0 k a b q' r' ((i : Int) - 1)) R) :
    Ev (fun k => rf_DivNat.j1 k a b q u (i : Int)) R := by
  have e0 : wrap64 ((i : Int) - 1) = (i : Int) - 1 := w64 (by omega) (by omega)
  refine Ev.step (f := fun k => (rf_CmpNat.f k u b).bind fun t672 => (if t672 ≥ 0 then ((rf_SubNat.f k u b).bind fun t673 => (if 0 ≤ (wrap64 (Int.tdiv (i : Int) 16)) then (if (wrap64 (Int.tdiv (i : Int) 16)) < (q.length : Int) then (if 0 ≤ (Int.tmod (i : Int) 16) then (rf_DivNat.l0 k a b (q.set ((wrap64 (Int.tdiv (i : Int) 16)) : Int).toNat (Go.bits .or .i64 (rd q (wrap64 (Int.tdiv (i : Int) 16))) (shl .i64 1 (Int.tmod (i : Int) 16)))) t673 (wrap64 ((i : Int) - 1))) else (none)) else (none)) else (none))) else (rf_DivNat.l0 k a b q u (wrap64 ((i : Int) - 1))))) (fun k => by simp only [rf_DivNat.j1]) ?_
  refine Ev.bind (f := fun k t672 => (if t672 ≥ 0 then ((rf_SubNat.f k u b).bind fun t673 => (if 0 ≤ (wrap64 (Int.tdiv (i : Int) 16)) then (if (wrap64 (Int.tdiv (i : Int) 16)) < (q.length : Int) then (if 0 ≤ (Int.tmod (i : Int) 16) then (rf_DivNat.l0 k a b (q.set ((wrap64 (Int.tdiv (i : Int) 16)) : Int).toNat (Go.bits .or .i64 (rd q (wrap64 (Int.tdiv (i : Int) 16))) (shl .i64 1 (Int.tmod (i : Int) 16)))) t673 (wrap64 ((i : Int) - 1))) else (none)) else (none)) else (none))) else (rf_DivNat.l0 k a b q u (wrap64 ((i : Int) - 1))))) (CmpNat_ev u b hu hb (by omega) (by omega)) ?_
  by_cases c : val 65536 u < val 65536 b
  · refine Ev.congr (f := fun k => rf_DivNat.l0 k a b q u ((i : Int) - 1)) (fun k => ?_) (hR q u (2 * Q) hq lq hu nu c (by rw [hQ, Int.pow_succ]; generalize (2 : Int) ^ i = p; grind) hA)
    have h1 : cmpI (val 65536 u) (val 65536 b) = -1 := if_pos c
    rw [h1, if_neg (by decide), e0]
  · have h1 : cmpI (val 65536 u) (val 65536 b) ≥ 0 := by unfold cmpI; rw [if_neg c]; split <;> omega
    obtain ⟨s, s1, s2, s3, s4, s5⟩ := SubNat_ev u b hu hb (by omega) (by omega)
    obtain ⟨v, v1, v2, v3, v4⟩ := rset_bit hq i (by omega) (by rw [hQ]; exact Int.mul_emod_left _ _)
    have e1 : wrap64 (Int.tdiv (i : Int) 16) = ((i / 16 : Nat) : Int) := by rw [Int.tdiv_eq_ediv_of_nonneg (by omega), w64 (by omega) (by omega)]; omega
    have e2 : Int.tmod (i : Int) 16 = ((i % 16 : Nat) : Int) := by rw [Int.tmod_eq_emod_of_nonneg (by omega)]; omega
    refine Ev.congr (f := fun k => (rf_SubNat.f k u b).bind fun t673 => rf_DivNat.l0 k a b (q.set (i / 16) v) t673 ((i : Int) - 1)) (fun k => ?_) (Ev.bind (f := fun k t673 => rf_DivNat.l0 k a b (q.set (i / 16) v) t673 ((i : Int) - 1)) s1 (hR (q.set (i / 16) v) s (2 * Q + 1) (hq.set _ ⟨v2, v3⟩) (by rw [List.length_set, lq]) s2 s3 (by omega) (by rw [v4, hQ, Int.pow_succ]; generalize (2 : Int) ^ i = p; grind) (by rw [hA, s4]; generalize val 65536 u = x; generalize val 65536 b = y; grind)))
    have g1 : (0 : Int) ≤ ((i / 16 : Nat) : Int) := by omega
    have g2 : ((i / 16 : Nat) : Int) < (q.length : Int) := by omega
    have g3 : (0 : Int) ≤ ((i % 16 : Nat) : Int) := by omega
    rw [if_pos h1, e1, e2, e0]
    simp only [if_pos g1, if_pos g2, if_pos g3, rd_getD, v1, Int.toNat_natCast]
theorem same_val {B : Int} (hB : 0 < B) : ∀ {xs ys : List Int}, Lim B xs → Lim B ys → xs.length = ys.length → val B xs = val B ys → xs = ys
  | [], [], _, _, _, _ => rfl
  | [], _ :: _, _, _, h, _ => by cases h
  | _ :: _, [], _, _, h, _ => by cases h
  | x :: xs, y :: ys, hx, hy, h, hv => by
    obtain ⟨a1, a2⟩ := lim_cons.1 hx
    obtain ⟨b1, b2⟩ := lim_cons.1 hy
    obtain ⟨e, e'⟩ := digit_unique a1 b1 hv
    rw [e, same_val hB a2 b2 (by simpa using h) e']
theorem divnat_loop (a b : List Int) (ha : Lim 65536 a) (hb : Lim 65536 b) (nb : Nrm b) (lb : b.length ≤ 1048576) (la : a.length ≤ 1048576) : ∀ (i : Nat) (q r : List Int) (Q : Int), i ≤ 16 * a.length → Lim 65536 q → q.length = a.length → Lim 65536 r → Nrm r → val 65536 r < val 65536 b → val 65536 q = Q * 2 ^ i → val 65536 a / 2 ^ i = Q * val 65536 b + val 65536 r →
    ∃ q' r', Ev (fun k => rf_DivNat.l0 k a b q r ((i : Int) - 1)) (trim q', r') ∧ Lim 65536 q' ∧ q'.length = a.length ∧ Lim 65536 r' ∧ Nrm r' ∧ val 65536 r' < val 65536 b ∧ val 65536 a = val 65536 q' * val 65536 b + val 65536 r' := by
  have hB : (0 : Int) < 65536 := by decide
  intro i
  induction i with
  | zero =>
    intro q r Q _ hq lq hr nr hlt hQ hA
    rw [Int.pow_zero, Int.mul_one] at hQ
    rw [Int.pow_zero, Int.ediv_one] at hA
    refine ⟨q, r, Ev.step (f := fun k => (rf_trim.f k q).bind fun t => some (t, r)) (fun k => ?_) (Ev.bind (f := fun _ t => some (t, r)) (rtrim_ev q (by omega)) (Ev.now _)), hq, lq, hr, nr, hlt, by rw [hQ]; exact hA⟩
    simp only [rf_DivNat.l0]
    rw [if_neg (by decide)]
  | succ i ih =>
    intro q r Q hi hq lq hr nr hlt hQ hA
    have e1 : (((i + 1 : Nat) : Int) - 1) = (i : Int) := by omega
    have rl : r.length ≤ b.length := by
      rcases Nat.lt_or_ge b.length r.length with h | h
      · have := len_lt_val hB hb hr nr h
        omega
      · exact h
    have r0 := val_nonneg hB hr
    obtain ⟨s, s1, s2, s3, s4, s5⟩ := ShlNat_ev r 1 hr (by omega)
    rw [Int.pow_one] at s4
    have hbit := rbit_ev ha i (by omega)
    obtain ⟨x, hx⟩ : ∃ x, x = val 65536 a / 2 ^ i := ⟨_, rfl⟩
    have hx2 : val 65536 a / 2 ^ (i + 1) = x / 2 := by rw [hx, Int.pow_succ, Int.ediv_ediv_of_nonneg (Int.le_of_lt (Int.pow_pos (by decide)))]
    rw [hx2] at hA
    rw [← hx] at hbit
    have key : ∃ u, Lim 65536 u ∧ Nrm u ∧ u.length ≤ 1048578 ∧ val 65536 u = 2 * val 65536 r + x % 2 ∧ ∀ R, Ev (fun k => rf_DivNat.j1 k a b q u (i : Int)) R → Ev (fun k => if x % 2 = 1 then ((rf_AddNat.f k s (([1] : List Int))).bind fun t669 => (rf_DivNat.j1 k a b q t669 (i : Int))) else (rf_DivNat.j1 k a b q s (i : Int))) R := by
      by_cases c : x % 2 = 1
      · obtain ⟨u, u1, u2, u3, u4, u5⟩ := AddNat_ev s [1] s2 (fun y hy => by rw [List.mem_singleton] at hy; omega) (by omega) (by decide)
        refine ⟨u, u2, u3, ?_, ?_, fun R hR => Ev.congr (fun k => if_pos c) (Ev.bind (f := fun k t669 => rf_DivNat.j1 k a b q t669 (i : Int)) u1 hR)⟩
        · simp only [List.length_singleton] at u5; omega
        · rw [u4, s4]; simp [val]; omega
      · refine ⟨s, s2, s3, by omega, by omega, fun R hR => Ev.congr (fun k => if_neg c) hR⟩
    obtain ⟨u, u1, u2, u3, u4, u5⟩ := key
    have step : ∀ R, Ev (fun k => rf_DivNat.j1 k a b q u (i : Int)) R → Ev (fun k => rf_DivNat.l0 k a b q r (((i + 1 : Nat) : Int) - 1)) R := by
      intro R hR
      rw [e1]
      refine Ev.step (f := fun k => (rf_ShlNat.f k r 1).bind fun t662 => (if x % 2 = 1 then ((rf_AddNat.f k t662 (([1] : List Int))).bind fun t669 => (rf_DivNat.j1 k a b q t669 (i : Int))) else (rf_DivNat.j1 k a b q t662 (i : Int)))) (fun k => ?_) ?_
      · simp only [rf_DivNat.l0]
        rw [if_pos (by omega)]
        simp only [hbit, Option.bind_some]
      · exact Ev.bind (f := fun k t662 => (if x % 2 = 1 then ((rf_AddNat.f k t662 (([1] : List Int))).bind fun t669 => (rf_DivNat.j1 k a b q t669 (i : Int))) else (rf_DivNat.j1 k a b q t662 (i : Int)))) s1 (u5 R hR)
    have hxA : x = 2 * Q * val 65536 b + val 65536 u := by
      rw [u4]
      have h1 : x = 2 * (x / 2) + x % 2 := by omega
      rw [hA] at h1
      refine h1.trans ?_
      rw [Int.mul_add, ← Int.mul_assoc]
      omega
    by_cases c : val 65536 u < val 65536 b
    · obtain ⟨q', r', h1, h2⟩ := ih q u (2 * Q) (by omega) hq lq u1 u2 c (by rw [hQ, Int.pow_succ]; generalize (2 : Int) ^ i = p; grind) (by rw [← hx]; exact hxA)
      refine ⟨q', r', step _ (divnat_sub a b hb nb lb la i (by omega) q u Q hq lq hQ u1 u2 u3 (by omega) (by rw [← hx]; exact hxA) _ ?_), h2⟩
      intro q'' r'' Q'' a1 a2 a3 a4 a5 a6 a7
      have p2 : (0 : Int) < 2 ^ i := Int.pow_pos (by decide)
      have pr := val_nonneg hB a3
      have pu := val_nonneg hB u1
      have hQQ : Q'' = 2 * Q ∧ val 65536 r'' = val 65536 u := by
        rw [← hx, hxA] at a7
        have hb0 : 0 < val 65536 b := by omega
        have d1 : (2 * Q * val 65536 b + val 65536 u) / val 65536 b = 2 * Q := by rw [Int.add_comm, Int.add_mul_ediv_right _ _ (by omega), Int.ediv_eq_zero_of_lt pu c, Int.zero_add]
        have d2 : (Q'' * val 65536 b + val 65536 r'') / val 65536 b = Q'' := by rw [Int.add_comm, Int.add_mul_ediv_right _ _ (by omega), Int.ediv_eq_zero_of_lt pr a5, Int.zero_add]
        rw [a7, d2] at d1
        subst d1
        exact ⟨rfl, by omega⟩
      have eq1 : q'' = q := by
        refine same_val hB a1 hq (by rw [a2, lq]) ?_
        rw [a6, hQQ.1, hQ, Int.pow_succ]
        generalize (2 : Int) ^ i = p
        grind
      have eq2 : r'' = u := val_inj hB a3 u1 a4 u2 hQQ.2
      rw [eq1, eq2]
      exact h1
    · obtain ⟨s', t1, t2, t3, t4, t5⟩ := SubNat_ev u b u1 hb (by omega) (by omega)
      obtain ⟨v, v1, v2, v3, v4⟩ := rset_bit hq i (by omega) (by rw [hQ]; exact Int.mul_emod_left _ _)
      have pb := val_nonneg hB hb
      have hu2 : val 65536 u < 2 * val 65536 b := by omega
      obtain ⟨q', r', h1, h2⟩ := ih (q.set (i / 16) v) s' (2 * Q + 1) (by omega) (hq.set _ ⟨v2, v3⟩) (by rw [List.length_set, lq]) t2 t3 (by omega) (by rw [v4, hQ, Int.pow_succ]; generalize (2 : Int) ^ i = p; grind) (by rw [← hx, hxA, t4]; generalize val 65536 u = x; generalize val 65536 b = y; grind)
      refine ⟨q', r', step _ (divnat_sub a b hb nb lb la i (by omega) q u Q hq lq hQ u1 u2 u3 hu2 (by rw [← hx]; exact hxA) _ ?_), h2⟩
      intro q'' r'' Q'' a1 a2 a3 a4 a5 a6 a7
      have pr := val_nonneg hB a3
      have ps := val_nonneg hB t2
      have hQQ : Q'' = 2 * Q + 1 ∧ val 65536 r'' = val 65536 s' := by
        rw [← hx, hxA] at a7
        have hb0 : 0 < val 65536 b := by omega
        have e3 : 2 * Q * val 65536 b + val 65536 u = (2 * Q + 1) * val 65536 b + val 65536 s' := by rw [t4]; generalize val 65536 u = x; generalize val 65536 b = y; grind
        rw [e3] at a7
        have d1 : ((2 * Q + 1) * val 65536 b + val 65536 s') / val 65536 b = 2 * Q + 1 := by rw [Int.add_comm, Int.add_mul_ediv_right _ _ (by omega), Int.ediv_eq_zero_of_lt ps (by omega), Int.zero_add]
        have d2 : (Q'' * val 65536 b + val 65536 r'') / val 65536 b = Q'' := by rw [Int.add_comm, Int.add_mul_ediv_right _ _ (by omega), Int.ediv_eq_zero_of_lt pr a5, Int.zero_add]
        rw [a7, d2] at d1
        subst d1
        exact ⟨rfl, by omega⟩
      have eq1 : q'' = q.set (i / 16) v := by
        refine same_val hB a1 (hq.set _ ⟨v2, v3⟩) (by rw [a2, List.length_set, lq]) ?_
        rw [a6, hQQ.1, v4, hQ, Int.pow_succ]
        generalize (2 : Int) ^ i = p
        grind
      have eq2 : r'' = s' := val_inj hB a3 t2 a4 t3 hQQ.2
      rw [eq1, eq2]
      exact h1
theorem DivNat_ev (a b : List Int) (ha : Lim 65536 a) (na : Nrm a) (hb : Lim 65536 b) (nb : Nrm b) (b0 : b ≠ []) (la : a.length ≤ 1048576) (lb : b.length ≤ 1048576) :
    ∃ q r, Ev (fun k => rf_DivNat.f k a b) (q, r) ∧ Lim 65536 q ∧ Nrm q ∧ q.length ≤ a.length ∧ Lim 65536 r ∧ Nrm r ∧ val 65536 q = val 65536 a / val 65536 b ∧ val 65536 r = val 65536 a % val 65536 b := by
  have hB : (0 : Int) < 65536 := by decide
  have pb := val_pos hB hb nb b0
  have pa := val_nonneg hB ha
  obtain ⟨L, l1, l2, l3, l4⟩ := LenNat_ev a ha na (by omega)
  obtain ⟨q, r, h1, h2, h3, h4, h5, h6, h7⟩ := divnat_loop a b ha hb nb lb la L (List.replicate a.length 0) [] 0 l1 (lim_replicate hB _) (by simp) (lim_nil _) nrm_nil pb (by rw [val_replicate, Int.zero_mul]) (by rw [Int.ediv_eq_zero_of_lt pa l2]; simp [val])
  have hr0 := val_nonneg hB h4
  have d1 : val 65536 a / val 65536 b = val 65536 q := by rw [h7, Int.add_comm, Int.add_mul_ediv_right _ _ (by omega), Int.ediv_eq_zero_of_lt hr0 h6, Int.zero_add]
  have d2 : val 65536 a % val 65536 b = val 65536 r := by
    have := Int.mul_ediv_add_emod (val 65536 a) (val 65536 b)
    rw [d1, Int.mul_comm] at this
    omega
  refine ⟨trim q, r, ?_, lim_trim h2, nrm_trim _, by rw [← h3]; exact length_trim q, h4, h5, by rw [val_trim, d1], d2.symm⟩
  refine Ev.congr (f := fun k => (rf_LenNat.f k a).bind fun t658 => (rf_DivNat.l0 k a b (List.replicate a.length 0) ([] : List Int) (wrap64 (t658 - 1)))) (fun k => ?_) (Ev.bind (f := fun k t658 => (rf_DivNat.l0 k a b (List.replicate a.length 0) ([] : List Int) (wrap64 (t658 - 1)))) l4 ?_)
  · unfold rf_DivNat.f
    rw [if_pos (by omega), if_pos (by omega), Int.toNat_natCast]
  · rw [w64 (by omega) (by omega)]
    exact h1
theorem one_lim' : Lim 65536 [1] := fun y hy => by rw [List.mem_singleton] at hy; omega
end Go.Proofs.YtemnjgkicndmjaaGreatDoor.Q
namespace Go.Proofs.YtemnjgkicndmjaaGreatDoor.Q
open Go.RowKit Go.Proofs.YtemnjgkicndmjaaGreatDoor.E Go.Proofs.YtemnjgkicndmjaaGreatDoorW.PrintWords Go.Proofs.YtemnjgkicndmjaaGreatDoorW.PrintLast Go.Proofs.YtemnjgkicndmjaaGreatDoorW.PrintMore
set_option linter.unusedVariables false
abbrev RR := Rp 65536
theorem reduce_c (neg : Bool) (a b : List Int) (ha : Lim 65536 a) (na : Nrm a) (hb : Lim 65536 b) (nb : Nrm b) (b0 : b ≠ []) (la : a.length ≤ 1048576) (lb : b.length ≤ 1048576) :
    ∃ neg' p q, (∀ (R : Type) (K : (Bool × List Int × List Int) → Option R), rf_reduce.c R (neg, a, b) K = K (neg', p, q)) ∧ RR neg' p q (sgn neg (val 65536 a)) (val 65536 b) ∧ p.length ≤ a.length ∧ q.length ≤ b.length := by
  have hB : (0 : Int) < 65536 := by decide
  have pb := val_pos hB hb nb b0
  obtain ⟨g, g1, g2, g3, g4⟩ := GcdNat_ev a b ha hb na nb (by omega) (by omega)
  have hend : ∀ (p q : List Int) (R : Type) (K : (Bool × List Int × List Int) → Option R), (if neg = true then K (decide ((p.length : Int) > 0), p, q) else K (false, p, q)) = K (neg && decide (p ≠ []), p, q) := by
    intro p q R K
    cases neg with
    | false => rfl
    | true =>
      rw [if_pos rfl]
      cases p with
      | nil => rfl
      | cons x xs => rw [decide_eq_true (by simp only [List.length_cons]; omega)]; simp
  have hgl : g.length ≤ b.length := by
    rcases Nat.lt_or_ge b.length g.length with h | h
    · have h1 := len_lt_val hB hb g2 g3 h
      have h2 : Nat.gcd (val 65536 a).toNat (val 65536 b).toNat ≤ (val 65536 b).toNat := Nat.gcd_le_right _ (by omega)
      omega
    · exact h
  have hc := CmpNat_ev g [1] g2 one_lim' (by omega) (by decide)
  have hv1 : val 65536 [1] = 1 := by simp [val]
  rw [hv1] at hc
  by_cases c : val 65536 g = 1
  · have h0 : cmpI (val 65536 g) 1 = 0 := by rw [c]; rfl
    refine ⟨neg && decide (a ≠ []), a, b, fun R K => (rf_GcdNat.eq g1 _).trans ((rf_CmpNat.eq hc _).trans ((if_neg (by rw [h0]; decide)).trans (hend a b R K))), ?_, Nat.le_refl _, Nat.le_refl _⟩
    exact Rp.made hB ha hb nb b0 ha na hb nb rfl (by rw [← g4, c, Int.ediv_one]) (by rw [← g4, c, Int.ediv_one])
  · have h0 : ¬ cmpI (val 65536 g) 1 = 0 := by unfold cmpI; split <;> (try split) <;> omega
    have g0 : g ≠ [] := by
      rintro rfl
      have h2 : Nat.gcd (val 65536 a).toNat (val 65536 b).toNat ≠ 0 := by
        intro h3
        have := (Nat.gcd_eq_zero_iff.1 h3).2
        omega
      simp [val] at g4
      omega
    obtain ⟨p, r1, p1, p2, p3, p4, p5, p6, p7, p8⟩ := DivNat_ev a g ha na g2 g3 g0 la (by omega)
    obtain ⟨q, r2, q1, q2, q3, q4, q5, q6, q7, q8⟩ := DivNat_ev b g hb nb g2 g3 g0 lb (by omega)
    refine ⟨neg && decide (p ≠ []), p, q, fun R K => (rf_GcdNat.eq g1 _).trans ((rf_CmpNat.eq hc _).trans ((if_pos (by simpa using h0)).trans ((rf_DivNat.eq p1 _).trans ((rf_DivNat.eq q1 _).trans (hend p q R K))))), ?_, p4, q4⟩
    exact Rp.made hB ha hb nb b0 p2 p3 q2 q3 rfl (by rw [p7, g4]) (by rw [q7, g4])
theorem Made_c {neg : Bool} {p q : List Int} {N D : Int} (h : RR neg p q N D) (lp : p.length ≤ 137438953472) (lq : q.length ≤ 137438953472) :
    ∃ p' q', (∀ (R : Type) (K : ((Bool × List Int × List Int) × Int) → Option R), rf_Made.c R (neg, p, q) K = K (outM neg p' q')) ∧ Rep neg p' q' N D := by
  obtain ⟨x, x1, x2, x3, x4, x5⟩ := limbs_ev p h.lp h.np lp
  obtain ⟨y, y1, y2, y3, y4, y5⟩ := limbs_ev q h.lq h.nq lq
  refine ⟨x, y, fun R K => (rf_limbs.eq x1 _).trans ((rf_limbs.eq y1 _).trans ?_), x2, x3, y2, y3, ?_, by rw [x4, y4]; exact h.gc, ?_, by rw [x4, y4]; exact h.eq⟩
  · unfold outM
    by_cases c1 : x.length > 128
    · rw [if_neg (by simp; omega), if_pos (Or.inl c1)]
    · by_cases c2 : y.length > 128
      · rw [if_pos (by simp; omega), if_pos (by simp; omega), if_pos (Or.inr c2)]
      · rw [if_pos (by simp; omega), if_neg (by simp; omega), if_neg (by omega)]
  · rintro rfl
    have h1 := h.pos (by decide)
    rw [← y4] at h1
    exact absurd h1 (by decide)
  · rintro rfl
    refine h.ng ((val_eq_zero (by decide) h.lp h.np).1 ?_)
    rw [← x4]; rfl
theorem Fault_c (neg : Bool) (num den : List Int) (hn : Lim 4294967296 num) (hd : Lim 4294967296 den) {R : Type} (K : Int → Option R) : rf_Fault.c R (neg, num, den) K = K (fault neg num den) := rf_Fault.eq (Fault_ev neg num den hn hd) K
theorem Of_c {neg : Bool} {num den : List Int} (hn : Lim 4294967296 num) (hd : Lim 4294967296 den) (h : Can neg num den) :
    ∃ p q, (∀ (R : Type) (K : (Bool × List Int × List Int) → Option R), rf_Of.c R (neg, num, den) K = K (neg, p, q)) ∧ RR neg p q (sgn neg (val 4294967296 num)) (val 4294967296 den) ∧ val 65536 p = val 4294967296 num ∧ val 65536 q = val 4294967296 den ∧ p.length ≤ 256 ∧ q.length ≤ 256 ∧ (p = [] ↔ num = []) := by
  have l1 := h.ln
  have l2 := h.ld
  obtain ⟨p, p1, p2, p3, p4, p5⟩ := natOf_ev num hn (by omega)
  obtain ⟨q, q1, q2, q3, q4, q5⟩ := natOf_ev den hd (by omega)
  have hz : p = [] ↔ num = [] := by rw [← val_eq_zero (by decide) p2 p3, ← val_eq_zero (by decide) hn h.nn, p4]
  refine ⟨p, q, fun R K => (rf_natOf.eq p1 _).trans (rf_natOf.eq q1 _), ⟨p2, p3, q2, q3, ?_, by rw [p4, q4]; exact h.gc, fun h0 => h.ng (hz.1 h0), by rw [p4, q4]⟩, p4, q4, by omega, by omega, hz⟩
  rintro rfl
  have := h.pos hd
  rw [← q4] at this
  exact absurd this (by decide)
theorem Plus_c {na : Bool} {a da : List Int} {nb : Bool} {b db : List Int} {N D N' D' : Int} (ha : RR na a da N D) (hb : RR nb b db N' D') (l1 : a.length ≤ 200000) (l2 : da.length ≤ 200000) (l3 : b.length ≤ 200000) (l4 : db.length ≤ 200000) :
    ∃ neg p q, (∀ (R : Type) (K : (Bool × List Int × List Int) → Option R), rf_Plus.c R ((na, a, da), (nb, b, db)) K = K (neg, p, q)) ∧
      RR neg p q (sgn na (val 65536 a) * val 65536 db + sgn nb (val 65536 b) * val 65536 da) (val 65536 da * val 65536 db) ∧ p.length ≤ a.length + da.length + b.length + db.length + 4 ∧ q.length ≤ da.length + db.length + 1 := by
  have hB : (0 : Int) < 65536 := by decide
  have pa := ha.pos hB
  have pb := hb.pos hB
  obtain ⟨x, x1, x2, x3, x4, x5⟩ := MulNat_ev a db ha.lp hb.lq (by omega)
  obtain ⟨y, y1, y2, y3, y4, y5⟩ := MulNat_ev b da hb.lp ha.lq (by omega)
  obtain ⟨d, d1, d2, d3, d4, d5⟩ := MulNat_ev da db ha.lq hb.lq (by omega)
  have dp : 0 < val 65536 d := by rw [d4]; exact Int.mul_pos pa pb
  have d0 : d ≠ [] := by rintro rfl; exact absurd dp (by decide)
  by_cases h : na = nb
  · subst h
    obtain ⟨s, s1, s2, s3, s4, s5⟩ := AddNat_ev x y x2 y2 (by omega) (by omega)
    obtain ⟨neg, p, q, m1, m2, m3, m4⟩ := reduce_c na s d s2 s3 d2 d3 d0 (by omega) (by omega)
    refine ⟨neg, p, q, fun R K => (rf_MulNat.eq x1 _).trans ((rf_MulNat.eq y1 _).trans ((rf_MulNat.eq d1 _).trans ((if_pos (by simp)).trans ((rf_AddNat.eq s1 _).trans (m1 R _))))), ?_, by omega, by omega⟩
    have e : sgn na (val 65536 s) = sgn na (val 65536 a) * val 65536 db + sgn na (val 65536 b) * val 65536 da := by
      rw [s4, x4, y4]
      unfold sgn
      cases na with
      | true => rw [if_pos rfl, if_pos rfl, if_pos rfl, Int.neg_mul, Int.neg_mul]; omega
      | false => rw [if_neg (by decide), if_neg (by decide), if_neg (by decide)]
    rw [e, d4] at m2
    exact m2
  · have hn : nb = !na := by cases na <;> cases nb <;> simp_all
    subst hn
    have hc := CmpNat_ev x y x2 y2 (by omega) (by omega)
    by_cases c : val 65536 x < val 65536 y
    · have h1 : cmpI (val 65536 x) (val 65536 y) = -1 := if_pos c
      obtain ⟨s, s1, s2, s3, s4, s5⟩ := SubNat_ev y x y2 x2 (by omega) (by omega)
      obtain ⟨neg, p, q, m1, m2, m3, m4⟩ := reduce_c (!na) s d s2 s3 d2 d3 d0 (by omega) (by omega)
      refine ⟨neg, p, q, fun R K => (rf_MulNat.eq x1 _).trans ((rf_MulNat.eq y1 _).trans ((rf_MulNat.eq d1 _).trans ((if_neg (by cases na <;> simp)).trans ((rf_CmpNat.eq hc _).trans ((if_neg (by rw [h1]; decide)).trans ((rf_SubNat.eq s1 _).trans (m1 R _))))))), ?_, by omega, by omega⟩
      have e : sgn (!na) (val 65536 s) = sgn na (val 65536 a) * val 65536 db + sgn (!na) (val 65536 b) * val 65536 da := by
        rw [s4, x4, y4]
        unfold sgn
        cases na <;> simp [Int.neg_mul] <;> omega
      rw [e, d4] at m2
      exact m2
    · have h1 : cmpI (val 65536 x) (val 65536 y) ≥ 0 := by unfold cmpI; rw [if_neg c]; split <;> omega
      obtain ⟨s, s1, s2, s3, s4, s5⟩ := SubNat_ev x y x2 y2 (by omega) (by omega)
      obtain ⟨neg, p, q, m1, m2, m3, m4⟩ := reduce_c na s d s2 s3 d2 d3 d0 (by omega) (by omega)
      refine ⟨neg, p, q, fun R K => (rf_MulNat.eq x1 _).trans ((rf_MulNat.eq y1 _).trans ((rf_MulNat.eq d1 _).trans ((if_neg (by cases na <;> simp)).trans ((rf_CmpNat.eq hc _).trans ((if_pos (by simpa using h1)).trans ((rf_SubNat.eq s1 _).trans (m1 R _))))))), ?_, by omega, by omega⟩
      have e : sgn na (val 65536 s) = sgn na (val 65536 a) * val 65536 db + sgn (!na) (val 65536 b) * val 65536 da := by
        rw [s4, x4, y4]
        unfold sgn
        cases na <;> simp [Int.neg_mul] <;> omega
      rw [e, d4] at m2
      exact m2
theorem Product_c {na : Bool} {a da : List Int} {nb : Bool} {b db : List Int} (ha : Lim 65536 a) (hda : Lim 65536 da) (nda : Nrm da) (da0 : da ≠ []) (hb : Lim 65536 b) (hdb : Lim 65536 db) (ndb : Nrm db) (db0 : db ≠ []) (l1 : a.length ≤ 200000) (l2 : da.length ≤ 200000) (l3 : b.length ≤ 200000) (l4 : db.length ≤ 200000) :
    ∃ neg p q, (∀ (R : Type) (K : (Bool × List Int × List Int) → Option R), rf_Product.c R ((na, a, da), (nb, b, db)) K = K (neg, p, q)) ∧
      RR neg p q (sgn na (val 65536 a) * sgn nb (val 65536 b)) (val 65536 da * val 65536 db) ∧ p.length ≤ a.length + b.length + 1 ∧ q.length ≤ da.length + db.length + 1 := by
  have hB : (0 : Int) < 65536 := by decide
  have pa := val_pos hB hda nda da0
  have pb := val_pos hB hdb ndb db0
  obtain ⟨x, x1, x2, x3, x4, x5⟩ := MulNat_ev a b ha hb (by omega)
  obtain ⟨d, d1, d2, d3, d4, d5⟩ := MulNat_ev da db hda hdb (by omega)
  have dp : 0 < val 65536 d := by rw [d4]; exact Int.mul_pos pa pb
  have d0 : d ≠ [] := by rintro rfl; exact absurd dp (by decide)
  obtain ⟨neg, p, q, m1, m2, m3, m4⟩ := reduce_c (!(na == nb)) x d x2 x3 d2 d3 d0 (by omega) (by omega)
  refine ⟨neg, p, q, fun R K => (rf_MulNat.eq x1 _).trans ((rf_MulNat.eq d1 _).trans (m1 R _)), ?_, by omega, by omega⟩
  rw [x4, d4, show (!(na == nb)) = (na != nb) from rfl, sgn_mul] at m2
  exact m2
theorem Minus_c {na : Bool} {a da : List Int} {N D : Int} (h : RR na a da N D) : ∃ neg, (∀ (R : Type) (K : (Bool × List Int × List Int) → Option R), rf_Minus.c R (na, a, da) K = K (neg, a, da)) ∧ RR neg a da (-N) D ∧ sgn neg (val 65536 a) = -sgn na (val 65536 a) := by
  have key : ∀ neg : Bool, (a = [] → neg = false) → sgn neg (val 65536 a) = -sgn na (val 65536 a) → RR neg a da (-N) D ∧ sgn neg (val 65536 a) = -sgn na (val 65536 a) := fun neg h0 h1 => ⟨⟨h.lp, h.np, h.lq, h.nq, h.q0, h.gc, h0, by rw [h1, Int.neg_mul, Int.neg_mul, h.eq]⟩, h1⟩
  cases na with
  | true => exact ⟨false, fun R K => if_neg (by simp), key false (fun _ => rfl) (by unfold sgn; simp)⟩
  | false =>
    refine ⟨decide ((a.length : Int) > 0), fun R K => if_pos (by simp), key _ (fun h0 => by subst h0; rfl) ?_⟩
    by_cases h0 : a = []
    · subst h0; rfl
    · have : a.length ≠ 0 := fun h' => h0 (List.length_eq_zero_iff.1 h')
      rw [decide_eq_true (by omega)]
      unfold sgn
      simp
theorem ROne : Lim 65536 [1] ∧ Nrm [1] ∧ val 65536 [1] = 1 := ⟨one_lim (by decide), one_nrm, val_one _⟩
theorem IsInt_c {neg : Bool} {p q : List Int} (hq : Lim 65536 q) (nq : Nrm q) (lq : q.length ≤ 1000000) {R : Type} (K : Bool → Option R) : rf_IsInt.c R (neg, p, q) K = K (decide (q = [1])) := by
  have hc := CmpNat_ev q [1] hq ROne.1 (by omega) (by decide)
  rw [ROne.2.2] at hc
  refine (rf_CmpNat.eq hc _).trans ?_
  have e := eq_one (show (1 : Int) < 65536 by decide) hq nq
  have e2 : (cmpI (val 65536 q) 1 == 0) = decide (q = [1]) := by
    by_cases c : q = [1]
    · rw [e.2 c, decide_eq_true c]; rfl
    · have : val 65536 q ≠ 1 := fun h => c (e.1 h)
      rw [decide_eq_false c]
      have h2 : cmpI (val 65536 q) 1 ≠ 0 := fun h => this (cmpI_eq.1 h)
      simpa using h2
  rw [e2]
noncomputable def RInts (R : Type) (x y : Nm) (K : (Nm × Int) → Option R) (L : Nm → Nm → Option R) : Option R :=
  rf_Fault.c R (x.1, x.2.1, x.2.2) fun t1 => (if (t1 != (0 : Int)) = true then K ((false, ([] : List Int), ([] : List Int)), t1) else (rf_Fault.c R (y.1, y.2.1, y.2.2) fun t2 => (if (t2 != (0 : Int)) = true then K ((false, ([] : List Int), ([] : List Int)), t2) else (rf_Of.c R (x.1, x.2.1, x.2.2) fun t3 => (rf_Of.c R (y.1, y.2.1, y.2.2) fun t4 => (rf_IsInt.c R (t3.1, t3.2.1, t3.2.2) fun t5 => (if (!t5) = false then (rf_IsInt.c R (t4.1, t4.2.1, t4.2.2) fun t6 => (if (!t6) = false then L t3 t4 else K ((false, ([] : List Int), ([] : List Int)), (7 : Int)))) else K ((false, ([] : List Int), ([] : List Int)), (7 : Int)))))))))
theorem RInts_bad (na : Bool) (a da : List Int) (nb : Bool) (b db : List Int) (ha : Lim 4294967296 a) (hda : Lim 4294967296 da) (hb : Lim 4294967296 b) (hdb : Lim 4294967296 db) (h : wrong2 na a da nb b db ≠ 0) {R : Type} (K : (Nm × Int) → Option R) (L : Nm → Nm → Option R) :
    RInts R (na, a, da) (nb, b, db) K L = K (bad (wrong2 na a da nb b db)) := by
  unfold RInts
  refine (Fault_c na a da ha hda _).trans ?_
  unfold wrong2 at h ⊢
  by_cases h1 : fault na a da = 0
  · rw [if_pos h1] at h ⊢
    refine (if_neg (by simp [h1])).trans ?_
    refine (Fault_c nb b db hb hdb _).trans ?_
    by_cases h2 : fault nb b db = 0
    · rw [if_pos h2] at h ⊢
      refine (if_neg (by simp [h2])).trans ?_
      have ca := can_of_fault' h1
      have cb := can_of_fault' h2
      obtain ⟨x, u, x1, x2, x3, x4, x5, x6, x7⟩ := Of_c ha hda ca
      obtain ⟨y, v, y1, y2, y3, y4, y5, y6, y7⟩ := Of_c hb hdb cb
      have hu : u = [1] ↔ da = [1] := by rw [← eq_one (show (1 : Int) < 65536 by decide) x2.lq x2.nq, ← eq_one (show (1 : Int) < 4294967296 by decide) hda ca.nd, x4]
      have hv : v = [1] ↔ db = [1] := by rw [← eq_one (show (1 : Int) < 65536 by decide) y2.lq y2.nq, ← eq_one (show (1 : Int) < 4294967296 by decide) hdb cb.nd, y4]
      refine (x1 R _).trans ?_
      refine (y1 R _).trans ?_
      refine (IsInt_c x2.lq x2.nq (by omega) _).trans ?_
      by_cases c : da = [1]
      · rw [if_pos c] at h ⊢
        refine (if_pos (by simp [hu.2 c])).trans ?_
        refine (IsInt_c y2.lq y2.nq (by omega) _).trans ?_
        by_cases d : db = [1]
        · rw [if_pos d] at h; exact absurd rfl h
        · rw [if_neg d]
          exact if_neg (by simp [hv, d])
      · rw [if_neg c]
        exact if_neg (by simp [hu, c])
    · rw [if_neg h2]
      exact if_pos (by simp [h2])
  · rw [if_neg h1]
    exact if_pos (by simp [h1])
theorem RInts_ok {na : Bool} {a : List Int} {nb : Bool} {b : List Int} (ha : Lim 4294967296 a) (hb : Lim 4294967296 b) (ca : Can na a [1]) (cb : Can nb b [1]) :
    ∃ x y, (∀ (R : Type) (K : (Nm × Int) → Option R) (L : Nm → Nm → Option R), RInts R (na, a, [1]) (nb, b, [1]) K L = L (na, x, [1]) (nb, y, [1])) ∧ Lim 65536 x ∧ Nrm x ∧ Lim 65536 y ∧ Nrm y ∧ val 65536 x = val 4294967296 a ∧ val 65536 y = val 4294967296 b ∧ x.length ≤ 256 ∧ y.length ≤ 256 ∧ (x = [] ↔ a = []) ∧ (y = [] ↔ b = []) := by
  obtain ⟨x, u, x1, x2, x3, x4, x5, x6, x7⟩ := Of_c ha one_rep.1 ca
  obtain ⟨y, v, y1, y2, y3, y4, y5, y6, y7⟩ := Of_c hb one_rep.1 cb
  rw [one_rep.2.2] at x4 y4
  have hu : u = [1] := (eq_one (show (1 : Int) < 65536 by decide) x2.lq x2.nq).1 x4
  have hv : v = [1] := (eq_one (show (1 : Int) < 65536 by decide) y2.lq y2.nq).1 y4
  subst hu hv
  refine ⟨x, y, fun R K L => ?_, x2.lp, x2.np, y2.lp, y2.np, x3, y3, x5, y5, x7, y7⟩
  unfold RInts
  refine (Fault_c na a [1] ha one_rep.1 _).trans ?_
  rw [fault_can ca]
  refine (if_neg (by decide)).trans ?_
  refine (Fault_c nb b [1] hb one_rep.1 _).trans ?_
  rw [fault_can cb]
  refine (if_neg (by decide)).trans ?_
  refine (x1 R _).trans ?_
  refine (y1 R _).trans ?_
  refine (IsInt_c x2.lq x2.nq (by omega) _).trans ?_
  refine (if_pos (by simp)).trans ?_
  refine (IsInt_c y2.lq y2.nq (by omega) _).trans ?_
  exact if_pos (by simp)
theorem rr_int {neg : Bool} {n : List Int} (hn : Lim 65536 n) (nn : Nrm n) (h0 : n = [] → neg = false) : RR neg n [1] (sgn neg (val 65536 n)) 1 :=
  ⟨hn, nn, ROne.1, ROne.2.1, by decide, by rw [ROne.2.2]; exact Nat.gcd_one_right _, h0, by rw [ROne.2.2]⟩
theorem wend (neg : Bool) (p : List Int) {R : Type} (K : Nm → Option R) : (if neg = true then K (decide ((p.length : Int) > 0), p, [1]) else K (false, p, [1])) = K (neg && decide (p ≠ []), p, [1]) := by
  cases neg with
  | false => rfl
  | true =>
    rw [if_pos rfl]
    cases p with
    | nil => rfl
    | cons x xs => rw [decide_eq_true (by simp only [List.length_cons]; omega)]; simp
theorem sgn_cut' (m : Bool) (n : List Int) : sgn (m && decide (n ≠ [])) (val 65536 n) = sgn m (val 65536 n) := by
  by_cases h : n = []
  · subst h
    have : val 65536 [] = 0 := rfl
    rw [this]
    unfold sgn
    cases m <;> simp
  · simp [h]
theorem Floor_c {neg : Bool} {p q : List Int} (hp : Lim 65536 p) (np : Nrm p) (hq : Lim 65536 q) (nq : Nrm q) (q0 : q ≠ []) (lp : p.length ≤ 50000) (lq : q.length ≤ 50000) :
    ∃ n, (∀ (R : Type) (K : Nm → Option R), rf_Floor.c R (neg, p, q) K = K (neg && decide (n ≠ []), n, [1])) ∧ Lim 65536 n ∧ Nrm n ∧ val 65536 n = Fl neg (val 65536 p) (val 65536 q) true ∧ n.length ≤ 50001 := by
  obtain ⟨d, r, d1, d2, d3, d4, d5, d6, d7, d8⟩ := DivNat_ev p q hp np hq nq q0 (by omega) (by omega)
  have hr : r = [] ↔ val 65536 p % val 65536 q = 0 := by rw [← d8]; exact (val_eq_zero (by decide) d5 d6).symm
  obtain ⟨n, n1, n2, n3, n4, n5⟩ := AddNat_ev d [1] d2 ROne.1 (by omega) (by decide)
  rw [ROne.2.2] at n4
  by_cases h : neg = true ∧ val 65536 p % val 65536 q ≠ 0
  · obtain ⟨rfl, h3⟩ := h
    have hl : r.length ≠ 0 := fun h' => h3 (hr.1 (List.length_eq_zero_iff.1 h'))
    refine ⟨n, fun R K => ?_, n2, n3, ?_, by have : ([1] : List Int).length = 1 := rfl; omega⟩
    · unfold rf_Floor.c
      refine (rf_DivNat.eq d1 _).trans ?_
      refine (if_pos rfl).trans ?_
      refine (if_pos (decide_eq_true (by dsimp only; omega))).trans ?_
      refine (rf_AddNat.eq n1 _).trans ?_
      exact wend true n K
    · unfold Fl
      rw [if_pos ⟨rfl, rfl, h3⟩, n4, d7]
  · refine ⟨d, fun R K => ?_, d2, d3, ?_, by omega⟩
    · unfold rf_Floor.c
      refine (rf_DivNat.eq d1 _).trans ?_
      by_cases c1 : neg = true
      · subst c1
        refine (if_pos rfl).trans ?_
        have c3 : val 65536 p % val 65536 q = 0 := Classical.not_not.1 fun c3 => h ⟨rfl, c3⟩
        have : r = [] := hr.2 c3
        refine (if_neg (by rw [this]; simp)).trans ?_
        exact wend true d K
      · refine (if_neg c1).trans ?_
        exact wend neg d K
    · unfold Fl
      rw [if_neg (fun h' => h ⟨h'.1, h'.2.2⟩), d7]
theorem sgn_eq {m n : Bool} {U V : Int} (hU : 0 ≤ U) (hV : 0 ≤ V) (h : sgn m U = sgn n V) : U = V ∧ (V = 0 ∨ m = n) := by
  unfold sgn at h
  cases m <;> cases n <;> simp at h <;> simp <;> omega
theorem sgn_zero (m : Bool) : sgn m 0 = 0 := by unfold sgn; cases m <;> rfl
theorem Fl_scale {S T A B : Int} (hT : 0 < T) (hB : 0 < B) (h : S * B = A * T) (m : Bool) (fl : Bool) : Fl m S T fl = Fl m A B fl := by
  have e1 : S / T = A / B := by rw [← Int.mul_ediv_mul_of_pos_left S T hB, h, Int.mul_comm T B, Int.mul_ediv_mul_of_pos_left A B hT]
  have h2 : S % T * B = A % B * T := by
    have a1 := Int.emod_add_mul_ediv S T
    have a2 := Int.emod_add_mul_ediv A B
    rw [e1] at a1
    generalize A / B = z at *
    generalize S % T = u at *
    generalize A % B = v at *
    subst a1 a2
    grind
  have e2 : S % T ≠ 0 ↔ A % B ≠ 0 := by
    constructor
    · intro h3 h4
      rw [h4, Int.zero_mul] at h2
      rcases Int.mul_eq_zero.1 h2 with h5 | h5
      · exact h3 h5
      · omega
    · intro h3 h4
      rw [h4, Int.zero_mul] at h2
      rcases Int.mul_eq_zero.1 h2.symm with h5 | h5
      · exact h3 h5
      · omega
  unfold Fl
  rw [e1]
  by_cases c : A % B ≠ 0
  · have := e2.2 c
    simp [c, this]
  · have : ¬ S % T ≠ 0 := fun h => c (e2.1 h)
    simp only [ne_eq, Classical.not_not] at c this
    simp [c, this]
theorem Fl_zero (m : Bool) (B : Int) (fl : Bool) : Fl m 0 B fl = 0 := by unfold Fl; simp
theorem quot_c {na : Bool} {x : List Int} {nb : Bool} {y : List Int} (hx : Lim 65536 x) (nx : Nrm x) (hy : Lim 65536 y) (ny : Nrm y) (y0 : y ≠ []) (lx : x.length ≤ 256) (ly : y.length ≤ 256) :
    ∃ m n, (∀ (R : Type) (L : Nm → Option R), (rf_Inverse.c R (nb, y, [1]) fun t7 => (rf_Product.c R ((na, x, [1]), (t7.1, t7.2.1, t7.2.2)) fun t8 => (rf_Floor.c R (t8.1, t8.2.1, t8.2.2) L))) = L (m, n, [1])) ∧ Lim 65536 n ∧ Nrm n ∧ (n = [] → m = false) ∧
      sgn m (val 65536 n) = sgn (na != nb) (Fl (na != nb) (val 65536 x) (val 65536 y) true) ∧ n.length ≤ 50001 := by
  have hB : (0 : Int) < 65536 := by decide
  have vx := val_nonneg hB hx
  have vy := val_pos hB hy ny y0
  have l1 : ([1] : List Int).length = 1 := rfl
  obtain ⟨k, s, t, p1, p2, p3, p4⟩ := Product_c (na := na) (nb := nb) hx ROne.1 ROne.2.1 (by decide) ROne.1 hy ny y0 (by omega) (by decide) (by decide) (by omega)
  obtain ⟨n, f1, f2, f3, f4, f5⟩ := Floor_c (neg := k) p2.lp p2.np p2.lq p2.nq p2.q0 (by omega) (by omega)
  have vs := val_nonneg hB p2.lp
  have vt := p2.pos hB
  refine ⟨k && decide (n ≠ []), n, fun R L => ?_, f2, f3, fun h => by simp [h], ?_, f5⟩
  · refine (show _ = rf_Product.c R ((na, x, [1]), (nb, [1], y)) fun t8 => (rf_Floor.c R (t8.1, t8.2.1, t8.2.2) L) from rfl).trans ?_
    refine (p1 R _).trans ?_
    exact f1 R L
  · rw [sgn_cut', f4]
    have e := p2.eq
    rw [ROne.2.2, Int.one_mul, ← sgn_mul, Int.mul_one, ← sgn_mul_r, ← sgn_mul_r] at e
    obtain ⟨e1, e2⟩ := sgn_eq (Int.mul_nonneg vs (by omega)) (Int.mul_nonneg vx (by omega)) e
    rcases e2 with e2 | e2
    · have hx0 : val 65536 x = 0 := by
        rcases Int.mul_eq_zero.1 e2 with h | h
        · exact h
        · omega
      have hs0 : val 65536 s = 0 := by
        rw [e2] at e1
        rcases Int.mul_eq_zero.1 e1 with h | h
        · exact h
        · omega
      rw [hx0, hs0, Fl_zero, Fl_zero, sgn_zero, sgn_zero]
    · subst e2
      rw [Fl_scale vt vy e1]
theorem TwoD_q {R : Type} (x y : Nm) (K : (Nm × Int) → Option R) : rf_TwoD.c R (113, x, y) K = RInts R x y K fun t3 t4 => (if ((t4.2.1.length : Int) == (0 : Int)) = false then (rf_Inverse.c _ (t4.1, t4.2.1, t4.2.2) fun t7 => (rf_Product.c _ ((t3.1, t3.2.1, t3.2.2), (t7.1, t7.2.1, t7.2.2)) fun t8 => (rf_Floor.c _ (t8.1, t8.2.1, t8.2.2) fun t9 => (rf_Made.c _ (t9.1, t9.2.1, t9.2.2) K)))) else K ((false, ([] : List Int), ([] : List Int)), (10 : Int))) := rfl
noncomputable def RRest (R : Type) (r x y : Nm) (K : (Nm × Int) → Option R) : Option R :=
  rf_Product.c R (r, y) fun t11 => (rf_Minus.c R (t11.1, t11.2.1, t11.2.2) fun t12 => (rf_Plus.c R (x, (t12.1, t12.2.1, t12.2.2)) fun t13 => (rf_Made.c R (t13.1, t13.2.1, t13.2.2) K)))
theorem TwoD_r {R : Type} (x y : Nm) (K : (Nm × Int) → Option R) : rf_TwoD.c R (114, x, y) K = RInts R x y K fun t3 t4 => (if ((t4.2.1.length : Int) == (0 : Int)) = false then (rf_Inverse.c _ (t4.1, t4.2.1, t4.2.2) fun t7 => (rf_Product.c _ ((t3.1, t3.2.1, t3.2.2), (t7.1, t7.2.1, t7.2.2)) fun t8 => (rf_Floor.c _ (t8.1, t8.2.1, t8.2.2) fun t9 => RRest R (t9.1, t9.2.1, t9.2.2) (t3.1, t3.2.1, t3.2.2) (t4.1, t4.2.1, t4.2.2) K))) else K ((false, ([] : List Int), ([] : List Int)), (10 : Int))) := rfl
theorem TwoD_Q {R : Type} (x y : Nm) (K : (Nm × Int) → Option R) : rf_TwoD.c R (81, x, y) K = RInts R x y K fun t3 t4 => (if ((t4.2.1.length : Int) == (0 : Int)) = false then (rf_Inverse.c _ (t4.1, t4.2.1, t4.2.2) fun t7 => (rf_Product.c _ ((t3.1, t3.2.1, t3.2.2), (t7.1, t7.2.1, t7.2.2)) fun t8 => (rf_Floor.c _ (t8.1, t8.2.1, t8.2.2) fun t9 => (rf_DivNat.c _ (t3.2.1, t4.2.1) fun t10 => (if (!(t3.1 == t4.1)) = true then (rf_Made.c _ ((decide ((t10.1.length : Int) > (0 : Int))), t10.1, ([(1 : Int)] : List Int)) K) else (rf_Made.c _ (false, t10.1, ([(1 : Int)] : List Int)) K)))))) else K ((false, ([] : List Int), ([] : List Int)), (10 : Int))) := rfl
theorem TwoD_R {R : Type} (x y : Nm) (K : (Nm × Int) → Option R) : rf_TwoD.c R (82, x, y) K = RInts R x y K fun t3 t4 => (if ((t4.2.1.length : Int) == (0 : Int)) = false then (rf_Inverse.c _ (t4.1, t4.2.1, t4.2.2) fun t7 => (rf_Product.c _ ((t3.1, t3.2.1, t3.2.2), (t7.1, t7.2.1, t7.2.2)) fun t8 => (rf_Floor.c _ (t8.1, t8.2.1, t8.2.2) fun t9 => (rf_DivNat.c _ (t3.2.1, t4.2.1) fun t10 => (if (!(t3.1 == t4.1)) = true then RRest R ((decide ((t10.1.length : Int) > (0 : Int))), t10.1, ([(1 : Int)] : List Int)) (t3.1, t3.2.1, t3.2.2) (t4.1, t4.2.1, t4.2.2) K else RRest R (false, t10.1, ([(1 : Int)] : List Int)) (t3.1, t3.2.1, t3.2.2) (t4.1, t4.2.1, t4.2.2) K))))) else K ((false, ([] : List Int), ([] : List Int)), (10 : Int))) := rfl
def opQ (fl : Bool) : Int := if fl = true then 113 else 81
def opR (fl : Bool) : Int := if fl = true then 114 else 82
theorem RDiv_bad (fl : Bool) (na : Bool) (a da : List Int) (nb : Bool) (b db : List Int) (ha : Lim 4294967296 a) (hda : Lim 4294967296 da) (hb : Lim 4294967296 b) (hdb : Lim 4294967296 db) (h : wrong2 na a da nb b db ≠ 0) {R : Type} (K : (Nm × Int) → Option R) :
    rf_TwoD.c R (opQ fl, (na, a, da), (nb, b, db)) K = K (bad (wrong2 na a da nb b db)) ∧ rf_TwoD.c R (opR fl, (na, a, da), (nb, b, db)) K = K (bad (wrong2 na a da nb b db)) := by
  cases fl with
  | true => exact ⟨(TwoD_q _ _ _).trans (RInts_bad na a da nb b db ha hda hb hdb h _ _), (TwoD_r _ _ _).trans (RInts_bad na a da nb b db ha hda hb hdb h _ _)⟩
  | false => exact ⟨(TwoD_Q _ _ _).trans (RInts_bad na a da nb b db ha hda hb hdb h _ _), (TwoD_R _ _ _).trans (RInts_bad na a da nb b db ha hda hb hdb h _ _)⟩
theorem RDiv_zero (fl : Bool) {na : Bool} {a : List Int} {nb : Bool} (ha : Lim 4294967296 a) (ca : Can na a [1]) (cb : Can nb [] [1]) {R : Type} (K : (Nm × Int) → Option R) :
    rf_TwoD.c R (opQ fl, (na, a, [1]), (nb, [], [1])) K = K (bad 10) ∧ rf_TwoD.c R (opR fl, (na, a, [1]), (nb, [], [1])) K = K (bad 10) := by
  obtain ⟨x, y, h1, hx, nx, hy, ny, vx, vy, lx, ly, x0, y0⟩ := RInts_ok ha (lim_nil _) ca cb
  have hy0 : y = [] := y0.2 rfl
  subst hy0
  cases fl with
  | true => exact ⟨(TwoD_q _ _ _).trans ((h1 R _ _).trans (if_neg (by simp))), (TwoD_r _ _ _).trans ((h1 R _ _).trans (if_neg (by simp)))⟩
  | false => exact ⟨(TwoD_Q _ _ _).trans ((h1 R _ _).trans (if_neg (by simp))), (TwoD_R _ _ _).trans ((h1 R _ _).trans (if_neg (by simp)))⟩
theorem RDiv_begin (fl : Bool) {na : Bool} {a : List Int} {nb : Bool} {b : List Int} (ha : Lim 4294967296 a) (hb : Lim 4294967296 b) (ca : Can na a [1]) (cb : Can nb b [1]) (b0 : b ≠ []) :
    ∃ x y m n, (∀ (R : Type) (K : (Nm × Int) → Option R), rf_TwoD.c R (opQ fl, (na, a, [1]), (nb, b, [1])) K = rf_Made.c R (m, n, [1]) K) ∧ (∀ (R : Type) (K : (Nm × Int) → Option R), rf_TwoD.c R (opR fl, (na, a, [1]), (nb, b, [1])) K = RRest R (m, n, [1]) (na, x, [1]) (nb, y, [1]) K) ∧
      Lim 65536 n ∧ Nrm n ∧ (n = [] → m = false) ∧ n.length ≤ 50001 ∧ sgn m (val 65536 n) = sgn (na != nb) (Fl (na != nb) (val 4294967296 a) (val 4294967296 b) fl) ∧
      Lim 65536 x ∧ Nrm x ∧ (x = [] → na = false) ∧ val 65536 x = val 4294967296 a ∧ x.length ≤ 256 ∧ Lim 65536 y ∧ Nrm y ∧ val 65536 y = val 4294967296 b ∧ y.length ≤ 256 := by
  obtain ⟨x, y, h1, hx, nx, hy, ny, vx, vy, lx, ly, x0, y0⟩ := RInts_ok ha hb ca cb
  have hy0 : y ≠ [] := fun h => b0 (y0.1 h)
  obtain ⟨m, n, q1, q2, q3, q4, q5, q6⟩ := quot_c (na := na) (nb := nb) hx nx hy ny hy0 lx ly
  rw [vx, vy] at q5
  cases fl with
  | true =>
    refine ⟨x, y, m, n, fun R K => ?_, fun R K => ?_, q2, q3, q4, q6, q5, hx, nx, fun h => ca.ng (x0.1 h), vx, lx, hy, ny, vy, ly⟩
    · refine (TwoD_q _ _ _).trans ?_
      refine (h1 R _ _).trans ?_
      refine (if_pos (by simpa using hy0)).trans ?_
      exact q1 R fun t9 => (rf_Made.c _ (t9.1, t9.2.1, t9.2.2) K)
    · refine (TwoD_r _ _ _).trans ?_
      refine (h1 R _ _).trans ?_
      refine (if_pos (by simpa using hy0)).trans ?_
      exact q1 R fun t9 => RRest R (t9.1, t9.2.1, t9.2.2) (na, x, [1]) (nb, y, [1]) K
  | false =>
    obtain ⟨d, r, d1, d2, d3, d4, d5, d6, d7, d8⟩ := DivNat_ev x y hx nx hy ny hy0 (by omega) (by omega)
    refine ⟨x, y, (na != nb) && decide (d ≠ []), d, fun R K => ?_, fun R K => ?_, d2, d3, fun h => by simp [h], by omega, ?_, hx, nx, fun h => ca.ng (x0.1 h), vx, lx, hy, ny, vy, ly⟩
    · refine (TwoD_Q _ _ _).trans ?_
      refine (h1 R _ _).trans ?_
      refine (if_pos (by simpa using hy0)).trans ?_
      refine (q1 R _).trans ?_
      refine (rf_DivNat.eq d1 _).trans ?_
      exact wend (na != nb) d fun r => rf_Made.c R r K
    · refine (TwoD_R _ _ _).trans ?_
      refine (h1 R _ _).trans ?_
      refine (if_pos (by simpa using hy0)).trans ?_
      refine (q1 R _).trans ?_
      refine (rf_DivNat.eq d1 _).trans ?_
      exact wend (na != nb) d fun r => RRest R r (na, x, [1]) (nb, y, [1]) K
    · rw [sgn_cut', d7, vx, vy]
      congr 1
      unfold Fl
      rw [if_neg (by simp)]
theorem RDiv_c (fl : Bool) {na : Bool} {a : List Int} {nb : Bool} {b : List Int} (ha : Lim 4294967296 a) (hb : Lim 4294967296 b) (ca : Can na a [1]) (cb : Can nb b [1]) (b0 : b ≠ []) :
    ∃ n p q rn r s, (∀ (R : Type) (K : (Nm × Int) → Option R), rf_TwoD.c R (opQ fl, (na, a, [1]), (nb, b, [1])) K = K (outM n p q)) ∧ (∀ (R : Type) (K : (Nm × Int) → Option R), rf_TwoD.c R (opR fl, (na, a, [1]), (nb, b, [1])) K = K (outM rn r s)) ∧
      Rep n p q (sgn (na != nb) (Fl (na != nb) (val 4294967296 a) (val 4294967296 b) fl)) 1 ∧
      Rep rn r s (sgn na (val 4294967296 a) - sgn (na != nb) (Fl (na != nb) (val 4294967296 a) (val 4294967296 b) fl) * sgn nb (val 4294967296 b)) 1 := by
  obtain ⟨x, y, m, n, z1, z2, n1, n2, n3, n4, n5, x1, x2, x3, x4, x5, y1, y2, y3, y4⟩ := RDiv_begin fl ha hb ca cb b0
  obtain ⟨p, q, m1, m2⟩ := Made_c (rr_int n1 n2 n3) (by omega) (by decide)
  rw [n5] at m2
  have hq0 : sgn m (val 65536 n) = sgn m (val 65536 n) := rfl
  have hb' := n5
  have l1 : ([1] : List Int).length = 1 := rfl
  obtain ⟨k, s, t, p1, p2, p3, p4⟩ := Product_c (na := m) (nb := nb) n1 ROne.1 ROne.2.1 (by decide) y1 ROne.1 ROne.2.1 (by decide) (by omega) (by decide) (by omega) (by decide)
  obtain ⟨o, o1, o2, o3⟩ := Minus_c p2
  obtain ⟨g, u, v, g1, g2, g3, g4⟩ := Plus_c (rr_int x1 x2 x3) o2 (by omega) (by decide) (by omega) (by omega)
  obtain ⟨p', q', w1, w2⟩ := Made_c g2 (by omega) (by omega)
  refine ⟨m, p, q, g, p', q', fun R K => (z1 R K).trans (m1 R K), fun R K => ?_, m2, ?_⟩
  · refine (z2 R K).trans ?_
    refine (p1 R _).trans ?_
    refine (o1 R _).trans ?_
    refine (g1 R _).trans ?_
    exact w1 R K
  · have e := p2.eq
    have vt := p2.pos (show (0 : Int) < 65536 by decide)
    rw [ROne.2.2, Int.one_mul, Int.mul_one, n5, y3] at e
    refine w2.turn (by rw [ROne.2.2, Int.one_mul]; omega) ?_
    rw [o3, ROne.2.2, x4, e]
    generalize sgn na (val 4294967296 a) = A
    generalize sgn (na != nb) (Fl (na != nb) (val 4294967296 a) (val 4294967296 b) fl) * sgn nb (val 4294967296 b) = B
    generalize val 65536 t = T
    grind
theorem sameLimbs_loop (a b : List Int) (hl : a.length = b.length) (hL : a.length ≤ 1099511627776) : ∀ (d i : Nat), d + i = a.length → a.take i = b.take i → Ev (fun k => lw_sameLimbs.l0 k a b (i : Int)) (decide (a = b)) := by
  intro d
  induction d with
  | zero =>
    intro i hd h
    rw [List.take_of_length_le (by omega), List.take_of_length_le (by omega)] at h
    refine Ev.step (f := fun _ => some true) (fun k => ?_) (Ev.eq (Ev.now _) (by rw [decide_eq_true h]))
    simp only [lw_sameLimbs.l0]
    rw [if_neg (by omega)]
  | succ d ih =>
    intro i hd h
    have g1 : (i : Int) < (a.length : Int) := by omega
    have g2 : (0 : Int) ≤ (i : Int) := by omega
    have g3 : (i : Int) < (b.length : Int) := by omega
    have gw : ∀ _ : Unit, wrap64 ((i : Int) + 1) = ((i + 1 : Nat) : Int) := fun _ => by rw [w64 (by omega) (by omega)]; omega
    by_cases c : a.getD i 0 = b.getD i 0
    · refine Ev.step (f := fun k => lw_sameLimbs.l0 k a b ((i + 1 : Nat) : Int)) (fun k => ?_) (ih (i + 1) (by omega) (by rw [take_succ' _ _ (by omega), take_succ' _ _ (by omega), h, c]))
      simp only [lw_sameLimbs.l0]
      rw [if_pos g1, if_pos g2, if_pos g3, rd_getD, rd_getD, if_pos c, gw ()]
    · refine Ev.step (f := fun _ => some false) (fun k => ?_) (Ev.eq (Ev.now _) (by rw [decide_eq_false]; rintro rfl; exact c rfl))
      simp only [lw_sameLimbs.l0]
      rw [if_pos g1, if_pos g2, if_pos g3, rd_getD, rd_getD, if_neg c]
theorem sameLimbs_ev (a b : List Int) (hL : a.length ≤ 1099511627776) : Ev (fun k => lw_sameLimbs.f k a b) (decide (a = b)) := by
  by_cases hl : a.length = b.length
  · refine Ev.congr (fun k => ?_) (sameLimbs_loop a b hl hL a.length 0 (by omega) rfl)
    unfold lw_sameLimbs.f
    rw [if_pos (by omega)]; rfl
  · refine Ev.ret fun k => ?_
    unfold lw_sameLimbs.f
    rw [if_neg (by omega), decide_eq_false (fun h => hl (by rw [h]))]
theorem same_c (m : Bool) (a b : List Int) (n : Bool) (c d : List Int) (hL : a.length ≤ 1099511627776) (hM : b.length ≤ 1099511627776) {R : Type} (K : Bool → Option R) : lw_same.c R ((m, a, b), (n, c, d)) K = K (decide (m = n ∧ a = c ∧ b = d)) := by
  unfold lw_same.c
  by_cases h : m = n
  · refine (if_pos (by simpa using h)).trans ((lw_sameLimbs.eq (sameLimbs_ev a c hL) _).trans ?_)
    by_cases h2 : a = c
    · refine (if_pos (decide_eq_true h2)).trans ((lw_sameLimbs.eq (sameLimbs_ev b d hM) _).trans ?_)
      simp [h, h2]
    · refine (if_neg (by simp [h2])).trans ?_
      simp [h2]
  · refine (if_neg (by simpa using h)).trans ?_
    simp [h]
theorem outM_eq {neg neg' : Bool} {p q p' q' : List Int} {N D : Int} (h : Rep neg p q N D) (h' : Rep neg' p' q' N D) (hD : D ≠ 0) : outM neg p q = outM neg' p' q' := by
  obtain ⟨rfl, rfl, rfl⟩ := h.unique (by decide) h' hD
  rfl
def Short (x : (Bool × List Int × List Int) × Int) : Prop := x.1.2.1.length ≤ 128 ∧ x.1.2.2.length ≤ 128
theorem short_bad (e : Int) : Short (bad e) := ⟨Nat.zero_le _, Nat.zero_le _⟩
noncomputable def DMtail (R : Type) (a : Nm × Nm × Bool) (t1 : QR) (t2 t3 : Nm × Int) (K : Bool → Option R) : Option R :=
  (if (t1.2.2 != t2.2) = false then (lw_same.c R ((t1.1.1, t1.1.2.1, t1.1.2.2), (t2.1.1, t2.1.2.1, t2.1.2.2)) fun t4 => (if (!t4) = false then (if (t1.2.2 == (0 : Int)) = true then (lw_same.c R ((t1.2.1.1, t1.2.1.2.1, t1.2.1.2.2), (t3.1.1, t3.1.2.1, t3.1.2.2)) fun t5 => (if (!t5) = false then (if (t1.2.2 != (0 : Int)) = true then (lw_same.c R ((t1.2.1.1, t1.2.1.2.1, t1.2.1.2.2), (false, ([] : List Int), ([] : List Int))) fun t6 => (if (!t6) = true then K false else (if (t1.2.2 != (0 : Int)) = true then (lw_counted.c R () fun t7 => K t7) else (number_Mul.c R ((t1.1.1, t1.1.2.1, t1.1.2.2), (a.2.1.1, a.2.1.2.1, a.2.1.2.2)) fun t8 => (number_Add.c R ((t8.1.1, t8.1.2.1, t8.1.2.2), (t1.2.1.1, t1.2.1.2.1, t1.2.1.2.2)) fun t9 => (if (t8.2 != (0 : Int)) = false then (if (t9.2 == (0 : Int)) = true then (lw_same.c R ((t9.1.1, t9.1.2.1, t9.1.2.2), (a.1.1, a.1.2.1, a.1.2.2)) fun t10 => (if t10 = true then (lw_counted.c R () fun t11 => K t11) else K false)) else K false) else (lw_counted.c R () fun t12 => K t12))))))) else (if (t1.2.2 != (0 : Int)) = true then (lw_counted.c R () fun t13 => K t13) else (number_Mul.c R ((t1.1.1, t1.1.2.1, t1.1.2.2), (a.2.1.1, a.2.1.2.1, a.2.1.2.2)) fun t14 => (number_Add.c R ((t14.1.1, t14.1.2.1, t14.1.2.2), (t1.2.1.1, t1.2.1.2.1, t1.2.1.2.2)) fun t15 => (if (t14.2 != (0 : Int)) = false then (if (t15.2 == (0 : Int)) = true then (lw_same.c R ((t15.1.1, t15.1.2.1, t15.1.2.2), (a.1.1, a.1.2.1, a.1.2.2)) fun t16 => (if t16 = true then (lw_counted.c R () fun t17 => K t17) else K false)) else K false) else (lw_counted.c R () fun t18 => K t18)))))) else K false)) else (if (t1.2.2 != (0 : Int)) = true then (lw_same.c R ((t1.2.1.1, t1.2.1.2.1, t1.2.1.2.2), (false, ([] : List Int), ([] : List Int))) fun t19 => (if (!t19) = true then K false else (if (t1.2.2 != (0 : Int)) = true then (lw_counted.c R () fun t20 => K t20) else (number_Mul.c R ((t1.1.1, t1.1.2.1, t1.1.2.2), (a.2.1.1, a.2.1.2.1, a.2.1.2.2)) fun t21 => (number_Add.c R ((t21.1.1, t21.1.2.1, t21.1.2.2), (t1.2.1.1, t1.2.1.2.1, t1.2.1.2.2)) fun t22 => (if (t21.2 != (0 : Int)) = false then (if (t22.2 == (0 : Int)) = true then (lw_same.c R ((t22.1.1, t22.1.2.1, t22.1.2.2), (a.1.1, a.1.2.1, a.1.2.2)) fun t23 => (if t23 = true then (lw_counted.c R () fun t24 => K t24) else K false)) else K false) else (lw_counted.c R () fun t25 => K t25))))))) else (if (t1.2.2 != (0 : Int)) = true then (lw_counted.c R () fun t26 => K t26) else (number_Mul.c R ((t1.1.1, t1.1.2.1, t1.1.2.2), (a.2.1.1, a.2.1.2.1, a.2.1.2.2)) fun t27 => (number_Add.c R ((t27.1.1, t27.1.2.1, t27.1.2.2), (t1.2.1.1, t1.2.1.2.1, t1.2.1.2.2)) fun t28 => (if (t27.2 != (0 : Int)) = false then (if (t28.2 == (0 : Int)) = true then (lw_same.c R ((t28.1.1, t28.1.2.1, t28.1.2.2), (a.1.1, a.1.2.1, a.1.2.2)) fun t29 => (if t29 = true then (lw_counted.c R () fun t30 => K t30) else K false)) else K false) else (lw_counted.c R () fun t31 => K t31))))))) else K false)) else K false)
theorem DivMod_eq (R : Type) (a : Nm × Nm × Bool) (K : Bool → Option R) : lw_NumberDivModMatchesSpec.c R a K = number_DivMod.c R ((a.1.1, a.1.2.1, a.1.2.2), (a.2.1.1, a.2.1.2.1, a.2.1.2.2), a.2.2) fun t1 => (if a.2.2 = true then (rf_TwoD.c R (113, (a.1.1, a.1.2.1, a.1.2.2), (a.2.1.1, a.2.1.2.1, a.2.1.2.2)) fun t2 => (rf_TwoD.c R (114, (a.1.1, a.1.2.1, a.1.2.2), (a.2.1.1, a.2.1.2.1, a.2.1.2.2)) fun t3 => DMtail R a t1 t2 t3 K)) else (rf_TwoD.c R (81, (a.1.1, a.1.2.1, a.1.2.2), (a.2.1.1, a.2.1.2.1, a.2.1.2.2)) fun t2 => (rf_TwoD.c R (82, (a.1.1, a.1.2.1, a.1.2.2), (a.2.1.1, a.2.1.2.1, a.2.1.2.2)) fun t3 => DMtail R a t1 t2 t3 K))) := rfl
theorem DivMod_op (R : Type) (x y : Nm) (fl : Bool) (K : Bool → Option R) : lw_NumberDivModMatchesSpec.c R (x, y, fl) K = number_DivMod.c R (x, y, fl) fun t1 => (rf_TwoD.c R (opQ fl, x, y) fun t2 => (rf_TwoD.c R (opR fl, x, y) fun t3 => DMtail R (x, y, fl) t1 t2 t3 K)) := by
  refine (DivMod_eq R (x, y, fl) K).trans ?_
  have e : ∀ t1 : QR, (if fl = true then (rf_TwoD.c R (113, x, y) fun t2 => (rf_TwoD.c R (114, x, y) fun t3 => DMtail R (x, y, fl) t1 t2 t3 K)) else (rf_TwoD.c R (81, x, y) fun t2 => (rf_TwoD.c R (82, x, y) fun t3 => DMtail R (x, y, fl) t1 t2 t3 K))) = (rf_TwoD.c R (opQ fl, x, y) fun t2 => (rf_TwoD.c R (opR fl, x, y) fun t3 => DMtail R (x, y, fl) t1 t2 t3 K)) := by
    intro t1
    cases fl with
    | true => exact if_pos rfl
    | false => exact if_neg (by decide)
  exact congrArg (number_DivMod.c R (x, y, fl)) (funext e)
theorem DMtail_bad (a : Nm × Nm × Bool) (e : Int) (h : e ≠ 0) (t3 : Nm × Int) {R : Type} (K : Bool → Option R) : DMtail R a ((false, [], []), (false, [], []), e) (bad e) t3 K = K true := by
  unfold DMtail
  have hs := short_bad e
  refine (if_pos (by simp [bad])).trans ?_
  refine (same_c false [] [] false [] [] (by decide) (by decide) _).trans ?_
  refine (if_pos (by decide)).trans ?_
  refine (if_neg (by simpa using h)).trans ?_
  refine (if_pos (by simpa using h)).trans ?_
  refine (same_c false [] [] false [] [] (by decide) (by decide) _).trans ?_
  refine (if_neg (by decide)).trans ?_
  exact if_pos (by simpa using h)
theorem DMtail_good {na : Bool} {a : List Int} {nb : Bool} {b : List Int} (fl : Bool) (q r : Nm) (lq1 : q.2.1.length ≤ 128) (lq2 : q.2.2.length ≤ 128) (lr1 : r.2.1.length ≤ 128) (lr2 : r.2.2.length ≤ 128) (la : a.length ≤ 128)
    (hz : ∀ R (K : (Nm × Int) → Option R), ∃ z : Nm × Int, number_Mul.c R (q, (nb, b, [1])) K = K z ∧ (z.2 = 0 → ∀ R (K : (Nm × Int) → Option R), number_Add.c R (z.1, r) K = K ((na, a, [1]), 0)) ∧ (z.2 ≠ 0 → ∀ R (K : (Nm × Int) → Option R), ∃ w, number_Add.c R (z.1, r) K = K w)) {R : Type} (K : Bool → Option R) :
    DMtail R ((na, a, [1]), (nb, b, [1]), fl) (q, r, 0) (q, 0) (r, 0) K = K true := by
  unfold DMtail
  refine (if_pos (by simp)).trans ?_
  refine (same_c q.1 q.2.1 q.2.2 q.1 q.2.1 q.2.2 (by omega) (by omega) _).trans ?_
  refine (if_pos (by simp)).trans ?_
  refine (if_pos (by simp)).trans ?_
  refine (same_c r.1 r.2.1 r.2.2 r.1 r.2.1 r.2.2 (by omega) (by omega) _).trans ?_
  refine (if_pos (by simp)).trans ?_
  refine (if_neg (by simp)).trans ?_
  refine (if_neg (by simp)).trans ?_
  obtain ⟨z, z1, z2, z3⟩ := hz R _
  refine z1.trans ?_
  by_cases c : z.2 = 0
  · refine (z2 c R _).trans ?_
    refine (if_pos (by simpa using c)).trans ?_
    refine (if_pos (by simp)).trans ?_
    refine (same_c na a [1] na a [1] (by omega) (by decide) _).trans ?_
    exact if_pos (by simp)
  · obtain ⟨w, w1⟩ := z3 c R _
    refine w1.trans ?_
    exact if_neg (by simpa using c)
theorem divmod_pure (na : Bool) (a da : List Int) (nb : Bool) (b db : List Int) (fl : Bool) (ha : Lim 4294967296 a) (hda : Lim 4294967296 da) (hb : Lim 4294967296 b) (hdb : Lim 4294967296 db) {R : Type} (K : Bool → Option R) : lw_NumberDivModMatchesSpec.c R ((na, a, da), (nb, b, db), fl) K = K true := by
  rw [DivMod_op]
  by_cases h : wrong2 na a da nb b db = 0
  · obtain ⟨ca, cb, rfl, rfl⟩ := wrong2_ok h
    by_cases b0 : b = []
    · subst b0
      refine (DivMod_zero fl ha ca cb _).trans ?_
      refine (RDiv_zero fl ha ca cb _).1.trans ?_
      refine (RDiv_zero fl ha ca cb _).2.trans ?_
      exact DMtail_bad _ 10 (by decide) _ K
    · obtain ⟨n, p, q, rn, r, h1, h2, h3, h4⟩ := DivMod_c fl ha hb ca cb b0
      obtain ⟨n', p', q', rn', r', s', g1, g2, g3, g4⟩ := RDiv_c fl ha hb ca cb b0
      refine (h1 R _).trans ?_
      refine (g1 R _).trans ?_
      refine (g2 R _).trans ?_
      have e4 : sgn na (val 4294967296 a) - sgn (na != nb) (Fl (na != nb) (val 4294967296 a) (val 4294967296 b) fl) * sgn nb (val 4294967296 b) = sgn na (val 4294967296 a - Fl (na != nb) (val 4294967296 a) (val 4294967296 b) fl * val 4294967296 b) := by
        rw [← sgn_mul, show ((na != nb) != nb) = na by cases na <;> cases nb <;> rfl]
        generalize Fl (na != nb) (val 4294967296 a) (val 4294967296 b) fl * val 4294967296 b = z
        unfold sgn
        cases na with
        | true => rw [if_pos rfl, if_pos rfl, if_pos rfl]; omega
        | false => rw [if_neg (by decide), if_neg (by decide), if_neg (by decide)]
      rw [e4] at g4
      have eq : outM n' p' q' = outM n p q := outM_eq g3 h2 (by decide)
      have er : outM rn' r' s' = ((rn, r, [1]), 0) := by
        rw [outM_eq g4 h3 (by decide)]
        unfold outM
        rw [if_neg]
        rintro (h | h)
        · omega
        · exact absurd h (by decide)
      rw [eq, er]
      by_cases c : (outM n p q).2 = 0
      · have hs : ¬ (p.length > 128 ∨ q.length > 128) := by
          intro hc
          unfold outM at c
          rw [if_pos hc] at c
          exact absurd c (by decide)
        have eo : outM n p q = ((n, p, q), 0) := by unfold outM; rw [if_neg hs]
        rw [eo, if_pos rfl]
        have cq := h2.can (by omega) (by omega)
        have cr := h3.can (by omega) (by decide)
        refine DMtail_good fl (n, p, q) (rn, r, [1]) (by dsimp only; omega) (by dsimp only; omega) (by dsimp only; omega) (by dsimp only; decide) ca.ln (fun R K => ?_) K
        obtain ⟨zn, zp, zq, z1, z2⟩ := Mul_c n p q nb b [1] h2.lp h2.lq hb one_rep.1 cq cb
        refine ⟨outM zn zp zq, z1 R K, fun hz => ?_, fun hz => ?_⟩
        · have hs2 : ¬ (zp.length > 128 ∨ zq.length > 128) := by
            intro hc
            unfold outM at hz
            rw [if_pos hc] at hz
            exact absurd hz (by decide)
          have ez : outM zn zp zq = ((zn, zp, zq), 0) := by unfold outM; rw [if_neg hs2]
          have cz := z2.can (by omega) (by omega)
          obtain ⟨wn, wp, wq, w1, w2⟩ := Add_c zn zp zq rn r [1] z2.lp z2.lq h3.lp one_rep.1 cz cr
          rw [ez]
          intro R K
          rw [w1]
          congr 1
          have pzq := z2.pos (show (0 : Int) < 4294967296 by decide)
          have pq := h2.pos (show (0 : Int) < 4294967296 by decide)
          have hfin : Rep wn wp wq (sgn na (val 4294967296 a)) 1 := by
            refine w2.turn (by rw [one_rep.2.2, Int.mul_one]; omega) ?_
            have ze := z2.eq
            have qe := h2.eq
            have re := h3.eq
            rw [one_rep.2.2, Int.mul_one] at ze re ⊢
            rw [Int.mul_one] at qe
            rw [Int.mul_one] at re
            rw [← e4] at re
            generalize sgn na (val 4294967296 a) = A at *
            generalize sgn (na != nb) (Fl (na != nb) (val 4294967296 a) (val 4294967296 b) fl) = Q at *
            generalize sgn nb (val 4294967296 b) = B at *
            generalize sgn n (val 4294967296 p) = X at *
            generalize sgn zn (val 4294967296 zp) = Z at *
            generalize sgn rn (val 4294967296 r) = Y at *
            generalize val 4294967296 q = u at *
            generalize val 4294967296 zq = v at *
            subst re qe
            have hZ : Z = Q * B * v := by
              refine Int.eq_of_mul_eq_mul_right (show u ≠ 0 by omega) ?_
              rw [ze]
              grind
            subst hZ
            grind
          exact outM_int hfin ha ca.nn ca.ng rfl ca.ln
        · intro R K
          have hs2 : zp.length > 128 ∨ zq.length > 128 := by
            refine Classical.byContradiction fun hc => ?_
            unfold outM at hz
            rw [if_neg hc] at hz
            exact hz rfl
          have ez : outM zn zp zq = bad 3 := by unfold outM; rw [if_pos hs2]; rfl
          rw [ez]
          exact ⟨_, (Add_bad false [] [] rn r [1] (lim_nil _) (lim_nil _) h3.lp one_rep.1 (fun h => (good2 h).1.d0 rfl) K).1⟩
      · have eo : outM n p q = bad 3 := by
          unfold outM at c ⊢
          by_cases hc : p.length > 128 ∨ q.length > 128
          · rw [if_pos hc]; rfl
          · rw [if_neg hc] at c; exact absurd rfl c
        rw [if_neg c, eo]
        exact DMtail_bad _ 3 (by decide) _ K
  · refine (DivMod_bad na a da nb b db fl ha hda hb hdb h _).trans ?_
    refine (RDiv_bad fl na a da nb b db ha hda hb hdb h _).1.trans ?_
    refine (RDiv_bad fl na a da nb b db ha hda hb hdb h _).2.trans ?_
    exact DMtail_bad _ _ h _ K
end Go.Proofs.YtemnjgkicndmjaaGreatDoor.Q
namespace Go.Proofs.YtemnjgkicndmjaaGreatDoor.Q
open Go.ChangeShapes Go.WideShapes Go.ChangeAt Go.RowKit Go.Joins Go.Proofs.YtemnjgkicndmjaaGreatDoorW.PrintWords Go.Proofs.YtemnjgkicndmjaaGreatDoorW.PrintLast Go.Proofs.YtemnjgkicndmjaaGreatDoorW.PrintMore
set_option linter.unusedVariables false
theorem laidOut : laidOutB Tryz.prog = true := by kernel_rfl
theorem own : ownKnob Tryz.prog.godebug = none := by kernel_rfl
theorem lim_of_wf {zs : List Int} (h : ∀ n ∈ zs, (Lit.int .u32 n).wf = true) : Lim 4294967296 zs := by
  intro x hx
  have h1 := h x hx
  simp only [Lit.wf, Bool.and_eq_true, decide_eq_true_eq] at h1
  have e1 : IntKind.u32.min = 0 := by decide
  have e2 : IntKind.u32.max = 4294967295 := by decide
  omega
theorem open_limbs {H : Type} {enc : TypeId × Value → H} {W : World} {n : Nat} {c : Value} {y : DataW H × List MemPlace} (h : DataW.trod enc Tryz.prog W 0 (fun _ => true) true n 22 [c] = some y) :
    ∃ (A : Option Addr) (cap : Nat) (l : List Int), c = .slice A l.length cap ∧ l.length ≤ cap ∧ Kd.C (Kd.int .u32) W A l.length l ∧ Lim 4294967296 l := by
  rcases open_ints Tryz.underlying22 Tryz.underlying73 (by kernel_rfl) h with ⟨hcs, _⟩ | ⟨x, l, cp, zs, hcs, _, hl, hm, hz, _, hcell, hwz⟩
  · simp at hcs
    exact ⟨none, 0, [], hcs, Nat.le_refl _, Kd.C_of_reads (enc := Value.int .u32) (d := (0 : Int)) ⟨rfl, by decide, fun h => absurd h (Nat.lt_irrefl _)⟩, lim_nil _⟩
  · simp at hcs
    have hz' : zs.length = cp := by simpa using hz
    have hlen : (zs.take l).length = l := by rw [List.length_take]; omega
    refine ⟨some x, cp, zs.take l, by rw [hlen]; exact hcs, by rw [hlen]; exact hl, Kd.C_of_reads (enc := Value.int .u32) (d := (0 : Int)) ⟨rfl, by rw [hlen]; unfold maxLen at hm; omega, fun _ => ⟨x, rfl, fun j hj => ?_⟩⟩, (lim_of_wf hwz).take _⟩
    rw [hlen] at hj
    rw [hcell j (by omega), List.getD_eq_getElem?_getD, List.getD_eq_getElem?_getD, List.getElem?_take, if_pos hj]
set_option maxRecDepth 100000 in
theorem open_number {H : Type} {enc : TypeId × Value → H} {W : World} {b0 : Nat} {r : Reach} {v : Value} {d : DataW H} {p : List MemPlace} (hv : Value.okWide Tryz.prog W r b0 24 v) (h : DataW.Trod enc Tryz.prog W 0 (fun _ => true) true 24 v d p) :
    ∃ (neg : Bool) (A1 : Option Addr) (c1 : Nat) (l1 : List Int) (A2 : Option Addr) (c2 : Nat) (l2 : List Int), v = .agg #[.bool neg, .slice A1 l1.length c1, .slice A2 l2.length c2] ∧
      l1.length ≤ c1 ∧ Kd.C (Kd.int .u32) W A1 l1.length l1 ∧ Lim 4294967296 l1 ∧ l2.length ≤ c2 ∧ Kd.C (Kd.int .u32) W A2 l2.length l2 ∧ Lim 4294967296 l2 := by
  obtain ⟨v0, v1, v2, y0, y1, y2, n, rfl, rfl, rfl, h0, h1, h2⟩ := open_agg3 Tryz.underlying24 (by kernel_rfl) (by kernel_rfl) hv h
  obtain ⟨b, e0, rfl⟩ := DataW.trod_bool Tryz.underlying4 h0
  obtain ⟨A1, c1, l1, rfl, i1, k1, m1⟩ := open_limbs h1
  obtain ⟨A2, c2, l2, rfl, i2, k2, m2⟩ := open_limbs h2
  simp at e0
  subst e0
  exact ⟨b, A1, c1, l1, A2, c2, l2, rfl, i1, k1, m1, i2, k2, m2⟩
def accepted : List (Nat × Nat) := [(128, 191), (160, 191), (128, 159), (144, 191), (128, 143), (0, 0), (0, 0), (0, 0), (0, 0), (0, 0), (0, 0), (0, 0), (0, 0), (0, 0), (0, 0), (0, 0)]
noncomputable def laidFirst : Array Value := (Go.Pinned.utf8FirstZ.map fun (z : Nat) => Value.int .u8 (Int.ofNat z)).toArray
noncomputable def laidRanges : Array Value := (accepted.flatMap fun (z : Nat × Nat) => [Value.int .u8 (Int.ofNat z.1), Value.int .u8 (Int.ofNat z.2)]).toArray
noncomputable def laidWorld (os : Os) : World :=
  let w0 := World.holding Tryz.prog os ⟨#[], #[], []⟩
  { w0 with heap := (w0.heap.modify 1 (fun o => match o with
      | .cells _ t frozen => .cells laidFirst t frozen
      | o => o)).modify 2 (fun o => match o with
      | .cells _ t frozen => .cells laidRanges t frozen
      | o => o) }
set_option maxRecDepth 100000 in
theorem laid_met (os : Os) (args : Array Value) : laidMet Tryz.prog [("unicode/utf8.acceptRanges", Rows.laid_unicode_utf8_acceptRanges), ("unicode/utf8.first", Rows.laid_unicode_utf8_first)] ((laidWorld os).forCall (fun _ _ => 0) ⟨#[], args, []⟩).memory :=
  laidMet_of_run' 8 (by kernel_rfl) (by kernel_rfl)
end Go.Proofs.YtemnjgkicndmjaaGreatDoor.Q
namespace Go.Proofs.YtemnjgkicndmjaaGreatDoor.Q
open Go.ChangeShapes Go.WideShapes Go.ChangeAt Go.RowKit Go.Joins Go.Proofs.YtemnjgkicndmjaaGreatDoor.E Go.Proofs.YtemnjgkicndmjaaGreatDoorW.PrintWords Go.Proofs.YtemnjgkicndmjaaGreatDoorW.PrintLast Go.Proofs.YtemnjgkicndmjaaGreatDoorW.PrintMore
set_option linter.unusedVariables false
namespace LDivModLaw
set_option maxRecDepth 100000 in
theorem contract (H : Type) (enc : TypeId × Value → H) (W : World) (base : Nat) (args : Array Value) (ds gs : List (DataW H)) (before : List MemPlace)
    (hval : ∀ (j : Nat) t v, Tryz.f3.params[j]? = some t → args[j]? = some v → Value.okWide Tryz.prog W .any base t v)
    (hW : DataW.Whole enc Tryz.prog Tryz.f3.params.toList Rows.numberDivModMatchesSpecSpec.vars false W args.toList ds gs before) :
    Calls Tryz.prog 3 args W fun e W' => ∃ v, e = .returned v ∧ Rows.numberDivModMatchesSpecSpec.post enc Tryz.prog Tryz.f3 false true false false W args v W' := by
  have hW' := hW
  obtain ⟨p, q, hA0, hV, rfl, hfz, hnd⟩ := hW
  have hA : DataW.TrodAll enc Tryz.prog W 0 (fun _ => true) true Tryz.f3.params.toList args.toList ds p := hA0
  rw [Tryz.params3] at hA hval
  obtain ⟨v0, vs0, d0, ds0, p0, q0, hargs, rfl, rfl, h0, r0⟩ := trodAll_cons hA
  obtain ⟨v1, vs1, d1, ds1, p1, q1, rfl, rfl, rfl, h1, r1⟩ := trodAll_cons r0
  obtain ⟨v2, vs2, d2, ds2, p2, q2, rfl, rfl, rfl, h2, r2⟩ := trodAll_cons r1
  obtain ⟨rfl, rfl, rfl⟩ := trodAll_nil r2
  obtain rfl : args = #[v0, v1, v2] := by cases args; simp_all
  obtain ⟨rfl, rfl⟩ := trodVars_none hV
  have k0 := h0
  have lt0 : ∀ x ∈ p0, x.block < W.heap.size := by obtain ⟨m, hm⟩ := k0; exact DataW.trod_lt m _ _ _ hm
  obtain ⟨s0, A0, c0, a0, B0, e0, d0, rfl, i0, m0, n0, j0, l0, o0⟩ := open_number (hval 0 24 v0 rfl rfl) h0
  have k1 := h1
  have lt1 : ∀ x ∈ p1, x.block < W.heap.size := by obtain ⟨m, hm⟩ := k1; exact DataW.trod_lt m _ _ _ hm
  obtain ⟨s1, A1, c1, a1, B1, e1, d1, rfl, i1, m1, n1, j1, l1, o1⟩ := open_number (hval 1 24 v1 rfl rfl) h1
  obtain ⟨b2, rfl, rfl, rfl⟩ := open_bool Tryz.underlying4 (hval 2 4 v2 rfl rfl) h2
  clear hA0
  simp only [List.append_nil] at hW'
  have hx := lw_NumberDivModMatchesSpec.sh.2 ((s0, a0, d0), (s1, a1, d1), b2) true (divmod_pure s0 a0 d0 s1 a1 d1 b2 n0 o0 n1 o1 some)
  refine (hx W (fun k => k < W.heap.size) _ (reps_cons (rep_num s0 i0 m0 j0 l0) (reps_cons (rep_num s1 i1 m1 j1 l1) (reps_cons (rep_bool b2) reps_nil)))).mono fun e W' ⟨v, he, bel, hv⟩ => ?_
  subst he
  have hv' : v = .bool true := by simpa only [Go.Proofs.YtemnjgkicndmjaaGreatDoor.E.cb, Go.Proofs.YtemnjgkicndmjaaGreatDoor.E.Rep] using hv
  subst hv'
  exact ⟨_, rfl, _, _, _, [], _, [], hW', trodAll_mk1 (shut_bool Tryz.underlying4 _), (trodAll_cons_mk (Below.trod laidOut (by kernel_rfl) (of_decide_eq_true (by kernel_rfl)) k0 bel lt0) (trodAll_cons_mk (Below.trod laidOut (by kernel_rfl) (of_decide_eq_true (by kernel_rfl)) k1 bel lt1) (trodAll_cons_mk (shut_bool Tryz.underlying4 b2) trodAll_mk0))), rfl, bel.frame _, fun h => by cases h⟩
theorem reads (os : Os) {H : Type} (enc : TypeId × Value → H) : ∃ places, DataW.whole enc Tryz.prog ((laidWorld os).forCall (fun _ _ => 0) ⟨#[], #[.agg #[.bool false, .slice none 0 0, .slice none 0 0], .agg #[.bool false, .slice none 0 0, .slice none 0 0], .bool false], []⟩).memory Tryz.f3.params.toList Rows.numberDivModMatchesSpecSpec.vars false #[Value.agg #[.bool false, .slice none 0 0, .slice none 0 0], .agg #[.bool false, .slice none 0 0, .slice none 0 0], .bool false].toList 8 = some ([.agg [.lit (.bool false), .nil, .nil], .agg [.lit (.bool false), .nil, .nil], .lit (.bool false)], [], places) :=
  ⟨[], by kernel_rfl⟩
set_option maxRecDepth 100000 in
theorem lifted (os : Os) (started : os.Started) (H : Type) (enc : TypeId × Value → H) (F : Stop.Interp) :
    ReturnsInHanded {} Tryz.checked os 3 .any ((OpenSpec.ofChange Rows.numberDivModMatchesSpecSpec).preRow enc Tryz.prog Tryz.f3 Rows.numberDivModMatchesSpecRow.domain false Rows.numberDivModMatchesSpecRow.laid) (((OpenSpec.ofChange Rows.numberDivModMatchesSpecSpec).at F).post enc Tryz.prog Tryz.f3 false true false false) := by
  obtain ⟨places, hx⟩ := reads os enc
  refine returnsInHanded_of_row (C := Tryz.checked) (s := OpenSpec.ofChange Rows.numberDivModMatchesSpecSpec) own started (by kernel_rfl) Tryz.func3
    (witness_row_at (enc := enc) (C := Tryz.checked) false (laidWorld os) #[.agg #[.bool false, .slice none 0 0, .slice none 0 0], .agg #[.bool false, .slice none 0 0, .slice none 0 0], .bool false] rfl (by kernel_rfl) (by kernel_rfl) (by kernel_rfl)
      (OpenSpec.preRow_of_cond 8 hx (by kernel_rfl) (fun k hk => by cases hk) (by kernel_rfl) (laid_met os _))) ?_
  intro W base args ds gs before hval hW _ _ _ hL _ _
  exact contract H enc W base args ds gs before hval hW
theorem said : Rows.NumberDivModMatchesSpecSaid :=
  OpenClaim.holds_of_cond 3 Tryz.f3 rfl rfl rfl rfl rfl rfl rfl ⟨rfl, rfl, rfl, rfl, rfl⟩ rfl rfl rfl rfl rfl (by kernel_rfl) Tryz.func3 (by kernel_rfl)
    (of_decide_eq_true (by kernel_rfl)) (by unfold Func.isWrapper; first | (rw [if_pos (by decide +kernel)]; kernel_rfl) | (rw [if_neg (by decide +kernel)]; exact ⟨rfl, rfl⟩))
    (fun os started H enc _ F => by rw [OpenClaim.pre_eq_preRow]; exact lifted os started H enc F)
theorem plain (f : FuncId) (fn : Func) (hf : Tryz.pinned.checked.prog.funcNamed "fetterlock/fetterlocklaw1.NumberDivModMatchesSpec" = some f) (hfn : Tryz.pinned.checked.prog.funcs[f]? = some fn) :
    false = Tryz.pinned.checked.prog.looks [] ∧ ∀ (j : Nat) t, fn.params[j]? = some t → Tryz.pinned.checked.prog.wantsStandIn t = false := by
  obtain rfl : f = 3 := Option.some.inj ((show Tryz.prog.funcNamed "fetterlock/fetterlocklaw1.NumberDivModMatchesSpec" = some 3 by kernel_rfl).symm.trans hf) |>.symm
  obtain rfl : fn = Tryz.f3 := (Option.some.inj (Tryz.func3.symm.trans hfn)).symm
  refine ⟨by kernel_rfl, fun j t ht => ?_⟩
  rw [Tryz.params3] at ht
  have hm := Array.mem_of_getElem? ht
  have ht2 : t = 24 ∨ t = 4 := by simpa using hm
  rcases ht2 with rfl | rfl
  · exact (show Tryz.prog.wantsStandIn 24 = false by kernel_rfl)
  · exact (show Tryz.prog.wantsStandIn 4 = false by kernel_rfl)
theorem card : Rows.NumberDivModMatchesSpecCardSaid :=
  Claim7.holds_tied_plain_at .later [] _ _ _ _ said (fun _ h => by cases h) (by kernel_rfl) (fun _ h => by cases h) numberDivModMatchesSpec_row_tie rfl ⟨rfl, rfl⟩ (by kernel_rfl) rfl plain (by kernel_rfl)
end LDivModLaw
end Go.Proofs.YtemnjgkicndmjaaGreatDoor.Q
namespace Go.Proofs.YtemnjgkicndmjaaGreatDoor
theorem numberDivModMatchesSpec_holds : Rows.NumberDivModMatchesSpecCardSaid := Q.LDivModLaw.card
end Go.Proofs.YtemnjgkicndmjaaGreatDoor

