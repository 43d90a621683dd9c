/- What this text proves: a part of the walk and of the plain laws of one card; no conditions. -/
import Derived.Test.YtemnjgkicndmjaaDoorOb4
import Derived.Test.YtemnjgkicndmjaaDoorCards
import Derived.Test.YtemnjgkicndmjaaDoorTie
import Derived.WalkKit
import Derived.ProofKit
import Derived.OpenShut
import Derived.ShutString
import Derived.ChangeOld
import Derived.Below
import Derived.Carry
import Derived.Deep.DeepHandedRow
import Derived.Lib.SmallJoins
import Derived.ChangeSlices
import Derived.LaidLaws
import Derived.ChangeSame
import Derived.Stop.Joined
import Derived.SevenTiedAt
namespace Go.Proofs.YtemnjgkicndmjaaDoor.Q
open Go.RowKit Go.Proofs.YtemnjgkicndmjaaDoorW.PrintWords Go.Proofs.YtemnjgkicndmjaaDoorW.PrintLast Go.Proofs.YtemnjgkicndmjaaDoorW.PrintMore
set_option linter.unusedVariables false
theorem rsub_loop (xs ys : List Int) (hx : Lim 65536 xs) (hy : Lim 65536 ys) (hge : val 65536 ys ≤ val 65536 xs) (hL : xs.length ≤ 1099511627776) : ∀ (d i : Nat) (out : List Int) (b : Int), d + i = xs.length → out.length = i → Lim 65536 out → 0 ≤ b → b ≤ 1 →
    val 65536 out - 65536 ^ i * b = val 65536 (xs.take i) - val 65536 (ys.take i) →
    ∃ r, Ev (fun k => rf_SubNat.l0 k xs ys out b (xs.length : Int) (i : Int)) (trim r) ∧ r.length = xs.length ∧ Lim 65536 r ∧ val 65536 r = val 65536 xs - val 65536 ys := by
  have hB : (0 : Int) < 65536 := by decide
  intro d
  induction d with
  | zero =>
    intro i out b hd hl ho hb0 hb hv
    refine ⟨out, Ev.step (f := fun k => (rf_trim.f k out).bind fun t => some t) (fun k => ?_) (Ev.bind (f := fun _ t => some t) (rtrim_ev out (by omega)) (Ev.now _)), by omega, ho, ?_⟩
    · simp only [rf_SubNat.l0]
      rw [if_neg (by omega)]
    · have h1 := val_lt hB hx
      have h2 := val_split' 65536 ys i
      have h3 := val_nonneg hB (hy.take i)
      have h4 := val_nonneg hB (hy.drop i)
      have h5 := val_lt hB ho
      have h6 := val_nonneg hB ho
      rw [List.take_of_length_le (by omega)] at hv
      rw [show xs.length = i by omega] at h1
      rw [hl] at h5
      have hp : (0 : Int) < 65536 ^ i := Int.pow_pos (by decide)
      generalize val 65536 (ys.drop i) = z at *
      have hz : z = 0 := by
        rcases Int.lt_or_le 0 z with h | h
        · have : 65536 ^ i * 1 ≤ 65536 ^ i * z := Int.mul_le_mul_of_nonneg_left (by omega) (by omega)
          omega
        · omega
      have hb1 : b = 0 := by
        rcases Int.lt_or_le 0 b with h | h
        · have e : b = 1 := by omega
          rw [e, Int.mul_one] at hv
          rw [hz, Int.mul_zero] at h2
          omega
        · omega
      rw [hb1, Int.mul_zero] at hv
      rw [hz, Int.mul_zero] at h2
      omega
  | succ d ih =>
    intro i out b hd hl ho hb0 hb hv
    have g1 : (i : Int) < (xs.length : Int) := by omega
    have g2 : (0 : Int) ≤ (i : Int) := by omega
    have g4 : out.length < 17592186044416 := by omega
    have g5 : d + (i + 1) = xs.length := by omega
    have g7 : ∀ _ : Unit, wrap64 ((i : Int) + 1) = ((i + 1 : Nat) : Int) := fun _ => by rw [w64 (by omega) (by omega)]; omega
    have hxi := hx.getD hB i
    have hyi := hy.getD hB i
    have tx := val_take_succ' 65536 xs i
    have ty := val_take_succ' 65536 ys i
    have hrd : rd xs (i : Int) = xs.getD i 0 := rd_getD xs i
    have hdg : rf_digit.f ys (i : Int) = some (ys.getD i 0) := rdigit ys i
    generalize xs.getD i 0 = x at *
    generalize ys.getD i 0 = y at *
    have e1 : ∀ _ : Unit, wrap64 (wrap64 (x - y) - b) = x - y - b := fun _ => by rw [w64 (x := x - y) (by omega) (by omega), w64 (by omega) (by omega)]
    have e2 : ∀ _ : Unit, wrap64 (x - y - b + 65536) = x - y - b + 65536 := fun _ => w64 (by omega) (by omega)
    by_cases c : x - y - b < 0
    · obtain ⟨r, hev, h⟩ := ih (i + 1) (out ++ [x - y - b + 65536]) 1 g5 (by rw [List.length_append, List.length_singleton, hl]) (lim_nrm_snoc ho ⟨by omega, by omega⟩) (by decide) (by decide) (by
        rw [val_snoc, hl, tx, ty, Int.pow_succ]
        grind)
      refine ⟨r, Ev.step (f := fun k => rf_SubNat.l0 k xs ys (out ++ [x - y - b + 65536]) 1 (xs.length : Int) ((i + 1 : Nat) : Int)) (fun k => ?_) hev, h⟩
      simp only [rf_SubNat.l0]
      rw [if_pos g1, if_pos g2, if_pos g1, hdg, Option.bind_some, hrd, e1 (), if_pos c, if_pos g4, e2 (), g7 ()]
    · obtain ⟨r, hev, h⟩ := ih (i + 1) (out ++ [x - y - b]) 0 g5 (by rw [List.length_append, List.length_singleton, hl]) (lim_nrm_snoc ho ⟨by omega, by omega⟩) (by decide) (by decide) (by
        rw [val_snoc, hl, tx, ty, Int.pow_succ]
        grind)
      refine ⟨r, Ev.step (f := fun k => rf_SubNat.l0 k xs ys (out ++ [x - y - b]) 0 (xs.length : Int) ((i + 1 : Nat) : Int)) (fun k => ?_) hev, h⟩
      simp only [rf_SubNat.l0]
      rw [if_pos g1, if_pos g2, if_pos g1, hdg, Option.bind_some, hrd, e1 (), if_neg c, if_pos g4, g7 ()]
theorem SubNat_ev (xs ys : List Int) (hx : Lim 65536 xs) (hy : Lim 65536 ys) (hge : val 65536 ys ≤ val 65536 xs) (hL : xs.length ≤ 1099511627776) :
    ∃ r, Ev (fun k => rf_SubNat.f k xs ys) r ∧ Lim 65536 r ∧ Nrm r ∧ val 65536 r = val 65536 xs - val 65536 ys ∧ r.length ≤ xs.length := by
  obtain ⟨r, h1, h2, h3, h4⟩ := rsub_loop xs ys hx hy hge hL xs.length 0 [] 0 (by omega) rfl (lim_nil _) (by decide) (by decide) (by simp [val])
  exact ⟨trim r, h1, lim_trim h3, nrm_trim _, by rw [val_trim, h4], by rw [← h2]; exact length_trim r⟩
theorem rhalf_loop (xs : List Int) (hx : Lim 65536 xs) (hL : xs.length ≤ 1099511627776) : ∀ (d i : Nat) (out : List Int), d + i = xs.length → out.length = xs.length → Lim 65536 out →
    val 65536 (out.take i) + 65536 ^ i * (val 65536 (xs.drop i) / 2) = val 65536 xs / 2 →
    ∃ r, Ev (fun k => rf_half.l0 k xs out (xs.length : Int) (i : Int)) (trim r) ∧ r.length = xs.length ∧ Lim 65536 r ∧ val 65536 r = val 65536 xs / 2 := by
  have hB : (0 : Int) < 65536 := by decide
  intro d
  induction d with
  | zero =>
    intro i out hd hl ho hv
    refine ⟨out, Ev.step (f := fun k => (rf_trim.f k out).bind fun t => some t) (fun k => ?_) (Ev.bind (f := fun _ t => some t) (rtrim_ev out (by omega)) (Ev.now _)), by omega, ho, ?_⟩
    · simp only [rf_half.l0]
      rw [if_neg (by omega)]
    · rw [List.take_of_length_le (by omega), List.drop_of_length_le (by omega)] at hv
      simp only [val, Int.zero_ediv, Int.mul_zero, Int.add_zero] at hv
      exact hv
  | succ d ih =>
    intro i out hd hl ho hv
    have g1 : (i : Int) < (xs.length : Int) := by omega
    have g2 : (0 : Int) ≤ (i : Int) := by omega
    have g3 : (i : Int) < (out.length : Int) := by omega
    have g4 : i < out.length := by omega
    have g5 : d + (i + 1) = xs.length := by omega
    have g7 : ∀ _ : Unit, wrap64 ((i : Int) + 1) = ((i + 1 : Nat) : Int) := fun _ => by rw [w64 (by omega) (by omega)]; omega
    have hxi := hx.getD hB i
    have hyi := hx.getD hB (i + 1)
    have d0 := val_drop' 65536 xs i
    have d1 := val_drop' 65536 xs (i + 1)
    have hrd : rd xs (i : Int) = xs.getD i 0 := rd_getD xs i
    have hsd := shr_digit (P := 2) (P' := 32768) (B := 65536) (D0 := xs.getD i 0) (D1 := xs.getD (i + 1) 0) (t := val 65536 (xs.drop (i + 1 + 1))) (by decide) (by decide) (by decide) hxi.1 hxi.2
    rw [← d1, ← d0] at hsd
    have hdg : xs.getD i 0 / 2 + xs.getD (i + 1) 0 % 2 * 32768 = ((xs.getD i 0 + 65536 * xs.getD (i + 1) 0) / 2) % 65536 := by
      generalize xs.getD i 0 = x at *
      generalize xs.getD (i + 1) 0 = y at *
      clear d0 d1 hsd hrd hv
      omega
    have hor : Go.bits .or .i64 (xs.getD i 0 / 2) (wrap64 (Go.bits .and .i64 (xs.getD (i + 1) 0) 1 * 32768)) = xs.getD i 0 / 2 + xs.getD (i + 1) 0 % 2 * 32768 := by
      generalize xs.getD i 0 = x at *
      generalize xs.getD (i + 1) 0 = y at *
      clear d0 d1 hsd hrd hv hdg
      rw [i64_and1 hyi.1 (by omega), w64 (by omega) (by omega), i64_or _ _ (by omega) (by omega) (by omega) (by omega), Nat.or_comm, nat_join 15]
      · omega
      · omega
      · omega
    have hlim : 0 ≤ xs.getD i 0 / 2 + xs.getD (i + 1) 0 % 2 * 32768 ∧ xs.getD i 0 / 2 + xs.getD (i + 1) 0 % 2 * 32768 < 65536 := by
      generalize xs.getD i 0 = x at *
      generalize xs.getD (i + 1) 0 = y at *
      clear d0 d1 hsd hrd hv hdg hor
      omega
    obtain ⟨r, hev, h⟩ := ih (i + 1) (out.set i (xs.getD i 0 / 2 + xs.getD (i + 1) 0 % 2 * 32768)) g5 (by rw [List.length_set, hl]) (ho.set _ hlim) (by
      rw [take_set_succ g4, val_snoc, List.length_take, Nat.min_eq_left (Nat.le_of_lt g4), hdg, ← hv, ← hsd, Int.pow_succ]
      grind)
    refine ⟨r, Ev.step (f := fun k => rf_half.l0 k xs (out.set i (xs.getD i 0 / 2 + xs.getD (i + 1) 0 % 2 * 32768)) (xs.length : Int) ((i + 1 : Nat) : Int)) (fun k => ?_) hev, h⟩
    simp only [rf_half.l0]
    rw [if_pos g1, if_pos g2, if_pos g1, g7 (), rdigit, Option.bind_some, if_pos g3, hrd, hor, Int.toNat_natCast]
theorem half_ev (xs : List Int) (hx : Lim 65536 xs) (hL : xs.length ≤ 1099511627776) :
    ∃ r, Ev (fun k => rf_half.f k xs) r ∧ Lim 65536 r ∧ Nrm r ∧ val 65536 r = val 65536 xs / 2 ∧ r.length ≤ xs.length := by
  obtain ⟨r, h1, h2, h3, h4⟩ := rhalf_loop xs hx hL xs.length 0 (List.replicate xs.length 0) (by omega) (by simp) (lim_replicate (by decide) _) (by simp [val])
  refine ⟨trim r, Ev.congr (fun k => ?_) h1, lim_trim h3, nrm_trim _, by rw [val_trim, h4], by rw [← h2]; exact length_trim r⟩
  unfold rf_half.f
  rw [if_pos (by omega), if_pos (by omega), Int.toNat_natCast]
  rfl
theorem rshl_loop (xs : List Int) (w b : Nat) (hx : Lim 65536 xs) (hb : b < 16) (hL : xs.length + w ≤ 549755813888) : ∀ (d i : Nat) (out : List Int) (c : Int), d + i = xs.length → out.length = w + i → Lim 65536 out → 0 ≤ c → c < 2 ^ b →
    val 65536 out + 65536 ^ (w + i) * c = 65536 ^ w * 2 ^ b * val 65536 (xs.take i) →
    ∃ r, Ev (fun k => rf_ShlNat.l0 k ((16 * w + b : Nat) : Int) out c xs (xs.length : Int) (i : Int)) (trim r) ∧ r.length = xs.length + w + 1 ∧ Lim 65536 r ∧ val 65536 r = 65536 ^ w * 2 ^ b * val 65536 xs := by
  have hB : (0 : Int) < 65536 := by decide
  have hp : (2 : Int) ^ b ≤ 32768 := by
    have := pow_mono' (B := 2) (by decide) (show b ≤ 15 by omega)
    exact this
  have hp0 : (0 : Int) < 2 ^ b := Int.pow_pos (by decide)
  have e1 : ∀ _ : Unit, Int.tmod ((16 * w + b : Nat) : Int) 16 = b := fun _ => by rw [Int.tmod_eq_emod_of_nonneg (by omega)]; omega
  intro d
  induction d with
  | zero =>
    intro i out c hd hl ho hc0 hc hv
    have hl2 : Lim 65536 (out ++ [c]) := lim_nrm_snoc ho ⟨hc0, by omega⟩
    refine ⟨out ++ [c], Ev.step (f := fun k => (rf_trim.f k (out ++ [c])).bind fun t => some t) (fun k => ?_) (Ev.bind (f := fun _ t => some t) (rtrim_ev (out ++ [c]) (by rw [List.length_append, List.length_singleton]; omega)) (Ev.now _)), by rw [List.length_append, List.length_singleton]; omega, hl2, ?_⟩
    · have g4 : out.length < 17592186044416 := by omega
      simp only [rf_ShlNat.l0]
      rw [if_neg (by omega), if_pos g4]
    · rw [val_snoc, hl, hv, List.take_of_length_le (by omega)]
  | succ d ih =>
    intro i out c hd hl ho hc0 hc hv
    have g1 : (i : Int) < (xs.length : Int) := by omega
    have g2 : (0 : Int) ≤ (i : Int) := by omega
    have g4 : out.length < 17592186044416 := by omega
    have g5 : d + (i + 1) = xs.length := by omega
    have g7 : ∀ _ : Unit, wrap64 ((i : Int) + 1) = ((i + 1 : Nat) : Int) := fun _ => by rw [w64 (by omega) (by omega)]; omega
    have g8 : (0 : Int) ≤ (b : Int) := by omega
    have hxi := hx.getD hB i
    have tx := val_take_succ' 65536 xs i
    have hrd : rd xs (i : Int) = xs.getD i 0 := rd_getD xs i
    generalize xs.getD i 0 = x at *
    have hx2 : 0 ≤ x * 2 ^ b := Int.mul_nonneg hxi.1 (by omega)
    have hx3 : x * 2 ^ b ≤ 65535 * 2 ^ b := Int.mul_le_mul_of_nonneg_right (by omega) (by omega)
    have hsh : shl .i64 x (b : Int) = x * 2 ^ b := by
      unfold shl
      rw [Int.toNat_natCast, Nat.min_eq_left (by simp [IntKind.bits]; omega), i64w _ hx2 (by omega)]
    have hor : Go.bits .or .i64 (x * 2 ^ b) c = x * 2 ^ b + c := by
      rw [i64_or _ _ hx2 (by omega) hc0 (by omega), nat_join b]
      · omega
      · have : (((x * 2 ^ b).toNat % 2 ^ b : Nat) : Int) = 0 := by
          rw [Int.natCast_emod, Int.toNat_of_nonneg hx2, Int.natCast_pow]
          exact Int.mul_emod_left _ _
        omega
      · have : ((c.toNat : Nat) : Int) < ((2 ^ b : Nat) : Int) := by
          rw [Int.toNat_of_nonneg hc0, Int.natCast_pow]; exact hc
        omega
    have hq : (x * 2 ^ b + c) / 65536 < 2 ^ b := Int.ediv_lt_of_lt_mul (by decide) (by omega)
    generalize hz : x * 2 ^ b + c = z at *
    have hz0 : 0 ≤ z := by omega
    have e3 : Int.tmod z 65536 = z % 65536 := Int.tmod_eq_emod_of_nonneg hz0
    have e4 : ∀ _ : Unit, wrap64 (Int.tdiv z 65536) = z / 65536 := fun _ => by rw [Int.tdiv_eq_ediv_of_nonneg hz0, w64 (by omega) (by omega)]
    have hz1 : 0 ≤ z / 65536 := by omega
    have hz2 : 0 ≤ z % 65536 ∧ z % 65536 < 65536 := by omega
    have hdm := Int.mul_ediv_add_emod z 65536
    generalize hzq : z / 65536 = q at *
    generalize hzr : z % 65536 = y at *
    obtain ⟨r, hev, h⟩ := ih (i + 1) (out ++ [y]) q g5 (by rw [List.length_append, List.length_singleton, hl, Nat.add_assoc]) (lim_nrm_snoc ho hz2) hz1 hq (by
      rw [val_snoc, hl, tx, ← Nat.add_assoc, Int.pow_succ]
      have e5 : (65536 : Int) ^ (w + i) = 65536 ^ w * 65536 ^ i := Int.pow_add _ _ _
      rw [e5] at hv ⊢
      clear hx3 hx2 hp hp0 hq hz0 hz1 hz2 hor hsh hrd
      grind)
    refine ⟨r, Ev.step (f := fun k => rf_ShlNat.l0 k ((16 * w + b : Nat) : Int) (out ++ [y]) q xs (xs.length : Int) ((i + 1 : Nat) : Int)) (fun k => ?_) hev, h⟩
    simp only [rf_ShlNat.l0]
    rw [if_pos g1, if_pos g2, if_pos g1, e1 (), if_pos g8, if_pos g4, hrd, hsh, hor, e3, e4 (), g7 ()]
theorem ShlNat_ev (xs : List Int) (n : Nat) (hx : Lim 65536 xs) (hL : xs.length + n / 16 ≤ 549755813888) :
    ∃ r, Ev (fun k => rf_ShlNat.f k xs (n : Int)) r ∧ Lim 65536 r ∧ Nrm r ∧ val 65536 r = val 65536 xs * 2 ^ n ∧ r.length ≤ xs.length + n / 16 + 1 := by
  have hB : (0 : Int) < 65536 := by decide
  by_cases hn : xs = []
  · subst hn
    exact ⟨[], Ev.const (by rfl), lim_nil _, nrm_nil, by simp [val], by simp⟩
  · obtain ⟨r, h1, h2, h3, h4⟩ := rshl_loop xs (n / 16) (n % 16) hx (by omega) hL xs.length 0 (List.replicate (n / 16) 0) 0 (by omega) (by simp) (lim_replicate hB _) (by decide) (Int.pow_pos (by decide))
      (by rw [val_replicate, List.take_zero]; simp [val])
    refine ⟨trim r, ?_, lim_trim h3, nrm_trim _, ?_, Nat.le_trans (length_trim _) (by omega)⟩
    · refine Ev.congr (fun k => ?_) h1
      unfold rf_ShlNat.f
      have hne : ¬ (xs.length : Int) = 0 := fun h => hn (List.length_eq_zero_iff.1 (by omega))
      have b1 : (0 : Int) ≤ ((n / 16 : Nat) : Int) := by omega
      have b2 : n / 16 ≤ 35184372088832 := by omega
      have en : 16 * (n / 16) + n % 16 = n := by omega
      have e : wrap64 (Int.tdiv (n : Int) 16) = ((n / 16 : Nat) : Int) := by
        rw [Int.tdiv_eq_ediv_of_nonneg (by omega), w64 (by omega) (by omega)]; omega
      rw [if_neg hne, e, if_pos b1, Int.toNat_natCast, if_pos b2, en]
      rfl
    · rw [val_trim, h4, show (65536 : Int) = 2 ^ 16 from rfl, ← Int.pow_mul, ← Int.pow_add, show 16 * (n / 16) + n % 16 = n by omega, Int.mul_comm]
theorem gcd_odd_half {a b : Nat} (h : Nat.gcd (2 * a) b % 2 = 1) : Nat.gcd (2 * a) b = Nat.gcd a b := by
  refine Nat.dvd_antisymm ?_ ?_
  · refine Nat.dvd_gcd ?_ (Nat.gcd_dvd_right _ _)
    have hc : Nat.Coprime (Nat.gcd (2 * a) b) 2 := by
      rw [Nat.coprime_comm]
      unfold Nat.Coprime
      rw [Nat.gcd_rec, h]
      decide
    exact hc.dvd_of_dvd_mul_left (Nat.gcd_dvd_left (2 * a) b)
  · exact Nat.dvd_gcd (Nat.dvd_trans (Nat.gcd_dvd_left a b) ⟨2, Nat.mul_comm 2 a⟩) (Nat.gcd_dvd_right a b)
structure GS (g N : Nat) (A B : List Int) (a b : Nat) : Prop where
  la : Lim 65536 A
  lb : Lim 65536 B
  na : Nrm A
  nb : Nrm B
  va : val 65536 A = a
  vb : val 65536 B = b
  sa : A.length ≤ N
  sb : B.length ≤ N
  gg : Nat.gcd a b = g
theorem gcdnat_loops (g N s : Nat) (hg : g % 2 = 1) (hN : N ≤ 4294967296) (hs : s ≤ 16 * N) : ∀ (m a b : Nat) (A B : List Int), a + b ≤ m → 0 < b → GS g N A B a b →
    (∃ r, Ev (fun k => rf_GcdNat.l1 k A B (s : Int)) r ∧ Lim 65536 r ∧ Nrm r ∧ val 65536 r = (g : Int) * 2 ^ s) ∧
    (0 < a → ∃ r, Ev (fun k => rf_GcdNat.l2 k A B (s : Int)) r ∧ Lim 65536 r ∧ Nrm r ∧ val 65536 r = (g : Int) * 2 ^ s) ∧
    (a % 2 = 1 → ∃ r, Ev (fun k => rf_GcdNat.l3 k A B (s : Int)) r ∧ Lim 65536 r ∧ Nrm r ∧ val 65536 r = (g : Int) * 2 ^ s) := by
  have hB : (0 : Int) < 65536 := by decide
  intro m
  induction m with
  | zero => intro a b A B hm hb0; omega
  | succ m ih =>
    intro a b A B hm hb0 H
    have h3 : a % 2 = 1 → ∃ r, Ev (fun k => rf_GcdNat.l3 k A B (s : Int)) r ∧ Lim 65536 r ∧ Nrm r ∧ val 65536 r = (g : Int) * 2 ^ s := by
      intro ha
      by_cases c : b % 2 = 0
      · obtain ⟨r, r1, r2, r3, r4, r5⟩ := half_ev B H.lb (by have := H.sb; omega)
        have hb2 : b = 2 * (b / 2) := by omega
        have hr4 : val 65536 r = ((b / 2 : Nat) : Int) := by rw [r4, H.vb]; omega
        have hgg : Nat.gcd a (b / 2) = g := by
          have h5 := H.gg
          rw [hb2, Nat.gcd_comm] at h5
          rw [Nat.gcd_comm, ← gcd_odd_half (by rw [h5]; exact hg), h5]
        obtain ⟨z, hz⟩ := (ih a (b / 2) A r (by omega) (by omega) ⟨H.la, r2, H.na, r3, H.va, hr4, H.sa, Nat.le_trans r5 H.sb, hgg⟩).2.2 ha
        refine ⟨z, Ev.step (f := fun k => (rf_half.f k B).bind fun t589 => rf_GcdNat.l3 k A t589 (s : Int)) (fun k => ?_) (Ev.bind (f := fun k t589 => rf_GcdNat.l3 k A t589 (s : Int)) r1 hz.1), hz.2⟩
        simp only [rf_GcdNat.l3]
        rw [rbit0 H.lb, Option.bind_some, H.vb, if_pos (by omega)]
      · have hbit : ∀ k, rf_GcdNat.l3 (k + 1) A B (s : Int) = ((rf_CmpNat.f k A B).bind fun t592 => (if t592 < 0 then ((rf_SubNat.f k B A).bind fun t593 => (rf_GcdNat.l1 k t593 A (s : Int))) else ((rf_SubNat.f k A B).bind fun t596 => (rf_GcdNat.l1 k t596 B (s : Int))))) := by
          intro k
          simp only [rf_GcdNat.l3]
          rw [rbit0 H.lb, Option.bind_some, H.vb, if_neg (by omega)]
        have hcmp := CmpNat_ev A B H.la H.lb (by have := H.sa; omega) (by have := H.sb; omega)
        rw [H.va, H.vb] at hcmp
        by_cases c2 : a < b
        · obtain ⟨r, r1, r2, r3, r4, r5⟩ := SubNat_ev B A H.lb H.la (by rw [H.va, H.vb]; omega) (by have := H.sb; omega)
          have hr4 : val 65536 r = ((b - a : Nat) : Int) := by rw [r4, H.va, H.vb]; omega
          have hgg : Nat.gcd (b - a) a = g := by
            rw [← H.gg, Nat.gcd_comm a b]
            exact Nat.gcd_sub_self_left (by omega)
          obtain ⟨z, hz⟩ := (ih (b - a) a r A (by omega) (by omega) ⟨r2, H.la, r3, H.na, hr4, H.va, Nat.le_trans r5 H.sb, H.sa, hgg⟩).1
          refine ⟨z, Ev.step hbit (Ev.bind (f := fun k t592 => (if t592 < 0 then ((rf_SubNat.f k B A).bind fun t593 => (rf_GcdNat.l1 k t593 A (s : Int))) else ((rf_SubNat.f k A B).bind fun t596 => (rf_GcdNat.l1 k t596 B (s : Int))))) hcmp ?_), hz.2⟩
          have e : cmpI (a : Int) (b : Int) = -1 := by unfold cmpI; rw [if_pos (by omega)]
          rw [e]
          exact Ev.congr (fun k => by rw [if_pos (by decide)]) (Ev.bind (f := fun k t593 => rf_GcdNat.l1 k t593 A (s : Int)) r1 hz.1)
        · obtain ⟨r, r1, r2, r3, r4, r5⟩ := SubNat_ev A B H.la H.lb (by rw [H.va, H.vb]; omega) (by have := H.sa; omega)
          have hr4 : val 65536 r = ((a - b : Nat) : Int) := by rw [r4, H.va, H.vb]; omega
          have hgg : Nat.gcd (a - b) b = g := by
            rw [← H.gg]
            exact Nat.gcd_sub_self_left (by omega)
          obtain ⟨z, hz⟩ := (ih (a - b) b r B (by omega) (by omega) ⟨r2, H.lb, r3, H.nb, hr4, H.vb, Nat.le_trans r5 H.sa, H.sb, hgg⟩).1
          refine ⟨z, Ev.step hbit (Ev.bind (f := fun k t592 => (if t592 < 0 then ((rf_SubNat.f k B A).bind fun t593 => (rf_GcdNat.l1 k t593 A (s : Int))) else ((rf_SubNat.f k A B).bind fun t596 => (rf_GcdNat.l1 k t596 B (s : Int))))) hcmp ?_), hz.2⟩
          have e : ¬ cmpI (a : Int) (b : Int) < 0 := by unfold cmpI; rw [if_neg (by omega)]; split <;> decide
          exact Ev.congr (fun k => by rw [if_neg e]) (Ev.bind (f := fun k t596 => rf_GcdNat.l1 k t596 B (s : Int)) r1 hz.1)
    have h2 : 0 < a → ∃ r, Ev (fun k => rf_GcdNat.l2 k A B (s : Int)) r ∧ Lim 65536 r ∧ Nrm r ∧ val 65536 r = (g : Int) * 2 ^ s := by
      intro ha0
      by_cases c : a % 2 = 0
      · obtain ⟨r, r1, r2, r3, r4, r5⟩ := half_ev A H.la (by have := H.sa; omega)
        have ha2 : a = 2 * (a / 2) := by omega
        have hr4 : val 65536 r = ((a / 2 : Nat) : Int) := by rw [r4, H.va]; omega
        have hgg : Nat.gcd (a / 2) b = g := by
          have h5 := H.gg
          rw [ha2] at h5
          rw [← gcd_odd_half (by rw [h5]; exact hg), h5]
        obtain ⟨z, hz⟩ := (ih (a / 2) b r B (by omega) hb0 ⟨r2, H.lb, r3, H.nb, hr4, H.vb, Nat.le_trans r5 H.sa, H.sb, hgg⟩).2.1 (by omega)
        refine ⟨z, Ev.step (f := fun k => (rf_half.f k A).bind fun t585 => rf_GcdNat.l2 k t585 B (s : Int)) (fun k => ?_) (Ev.bind (f := fun k t585 => rf_GcdNat.l2 k t585 B (s : Int)) r1 hz.1), hz.2⟩
        simp only [rf_GcdNat.l2]
        rw [rbit0 H.la, Option.bind_some, H.va, if_pos (by omega)]
      · obtain ⟨z, hz⟩ := h3 (by omega)
        refine ⟨z, Ev.step (f := fun k => rf_GcdNat.l3 k A B (s : Int)) (fun k => ?_) hz.1, hz.2⟩
        simp only [rf_GcdNat.l2]
        rw [rbit0 H.la, Option.bind_some, H.va, if_neg (by omega)]
    refine ⟨?_, h2, h3⟩
    by_cases c : a = 0
    · have hA : A = [] := (val_eq_zero hB H.la H.na).1 (by rw [H.va]; omega)
      have hbg : b = g := by
        have := H.gg
        rw [c, Nat.gcd_zero_left] at this
        exact this
      obtain ⟨r, r1, r2, r3, r4, r5⟩ := ShlNat_ev B s H.lb (by have := H.sb; omega)
      refine ⟨r, Ev.step (f := fun k => (rf_ShlNat.f k B (s : Int)).bind fun t => some t) (fun k => ?_) (Ev.bind (f := fun _ t => some t) r1 (Ev.now _)), r2, r3, by rw [r4, H.vb, hbg]⟩
      simp only [rf_GcdNat.l1]
      rw [hA, if_neg (by decide)]
    · obtain ⟨z, hz⟩ := h2 (by omega)
      have hA : A ≠ [] := by
        rintro rfl
        have h9 := H.va
        simp only [val] at h9
        clear ih h2 h3 hz
        exact c (by omega)
      have hAl : A.length ≠ 0 := fun h => hA (List.length_eq_zero_iff.1 h)
      refine ⟨z, Ev.step (f := fun k => rf_GcdNat.l2 k A B (s : Int)) (fun k => ?_) hz.1, hz.2⟩
      simp only [rf_GcdNat.l1]
      rw [if_pos (by omega)]
theorem gcdnat_l0 (N : Nat) (hN : N ≤ 4294967296) (G : Nat) : ∀ (m a b s : Nat) (A B : List Int), a + b ≤ m → 0 < a → 0 < b → GS (Nat.gcd a b) N A B a b → Nat.gcd a b * 2 ^ s = G → a * 2 ^ s < 2 ^ (16 * N) →
    ∃ r, Ev (fun k => rf_GcdNat.l0 k A B (s : Int)) r ∧ Lim 65536 r ∧ Nrm r ∧ val 65536 r = (G : Int) := by
  intro m
  induction m with
  | zero => intro a b s A B hm ha0; omega
  | succ m ih =>
    intro a b s A B hm ha0 hb0 H hG hs
    have hsN : s < 16 * N := by
      have h1 : 1 * 2 ^ s ≤ a * 2 ^ s := Nat.mul_le_mul_right _ (by omega)
      rw [Nat.one_mul] at h1
      exact (Nat.pow_lt_pow_iff_right (by omega : 1 < 2)).1 (Nat.lt_of_le_of_lt h1 hs)
    have hfin : Nat.gcd a b % 2 = 1 → ∃ r, Ev (fun k => rf_GcdNat.j1 k A B (s : Int) false) r ∧ Lim 65536 r ∧ Nrm r ∧ val 65536 r = (G : Int) := by
      intro hodd
      obtain ⟨r, r1, r2, r3, r4⟩ := (gcdnat_loops (Nat.gcd a b) N s hodd hN (by omega) (a + b) a b A B (Nat.le_refl _) hb0 H).1
      refine ⟨r, Ev.step (f := fun k => rf_GcdNat.l1 k A B (s : Int)) (fun k => ?_) r1, r2, r3, ?_⟩
      · simp only [rf_GcdNat.j1]
        rw [if_neg (by decide)]
      · rw [r4, ← hG, Int.natCast_mul, Int.natCast_pow]; rfl
    have hg2 : (a % 2 = 0 → b % 2 = 0 → False) → Nat.gcd a b % 2 = 1 := by
      intro h
      have h1 : ¬ 2 ∣ Nat.gcd a b := by
        intro hd
        exact h (Nat.mod_eq_zero_of_dvd (Nat.dvd_trans hd (Nat.gcd_dvd_left a b))) (Nat.mod_eq_zero_of_dvd (Nat.dvd_trans hd (Nat.gcd_dvd_right a b)))
      omega
    by_cases c : a % 2 = 0
    · by_cases c2 : b % 2 = 0
      · obtain ⟨r, r1, r2, r3, r4, r5⟩ := half_ev A H.la (by have := H.sa; omega)
        obtain ⟨t, t1, t2, t3, t4, t5⟩ := half_ev B H.lb (by have := H.sb; omega)
        have ha2 : a = 2 * (a / 2) := by omega
        have hb2 : b = 2 * (b / 2) := by omega
        have hr4 : val 65536 r = ((a / 2 : Nat) : Int) := by rw [r4, H.va]; omega
        have ht4 : val 65536 t = ((b / 2 : Nat) : Int) := by rw [t4, H.vb]; omega
        have hgg : Nat.gcd a b = 2 * Nat.gcd (a / 2) (b / 2) := by
          rw [← Nat.gcd_mul_left, ← ha2, ← hb2]
        obtain ⟨z, hz⟩ := ih (a / 2) (b / 2) (s + 1) r t (by omega) (by omega) (by omega) ⟨r2, t2, r3, t3, hr4, ht4, Nat.le_trans r5 H.sa, Nat.le_trans t5 H.sb, rfl⟩ (by
          rw [← hG, hgg, Nat.pow_succ]
          grind) (by
          rw [Nat.pow_succ]
          have : a / 2 * (2 ^ s * 2) = a * 2 ^ s := by
            conv => rhs; rw [ha2]
            grind
          omega)
        refine ⟨z, Ev.step (f := fun k => rf_GcdNat.j1 k A B (s : Int) true) (fun k => ?_) (Ev.step (f := fun k => (rf_half.f k A).bind fun t575 => (rf_half.f k B).bind fun t578 => rf_GcdNat.l0 k t575 t578 (((s + 1 : Nat)) : Int)) (fun k => ?_) (Ev.bind (f := fun k t575 => (rf_half.f k B).bind fun t578 => rf_GcdNat.l0 k t575 t578 (((s + 1 : Nat)) : Int)) r1 (Ev.bind (f := fun k t578 => rf_GcdNat.l0 k r t578 (((s + 1 : Nat)) : Int)) t1 hz.1))), hz.2⟩
        · simp only [rf_GcdNat.l0]
          rw [rbit0 H.la, Option.bind_some, H.va, if_pos (by omega), rbit0 H.lb, Option.bind_some, H.vb]
          have : ((b : Int) % 2 == 0) = true := by rw [beq_iff_eq]; omega
          rw [this]
        · have e : wrap64 ((s : Int) + 1) = ((s + 1 : Nat) : Int) := by rw [w64 (by omega) (by omega)]; omega
          simp only [rf_GcdNat.j1]
          rw [if_pos trivial, e]
      · obtain ⟨z, hz⟩ := hfin (hg2 (fun _ h => c2 h))
        refine ⟨z, Ev.step (f := fun k => rf_GcdNat.j1 k A B (s : Int) false) (fun k => ?_) hz.1, hz.2⟩
        simp only [rf_GcdNat.l0]
        rw [rbit0 H.la, Option.bind_some, H.va, if_pos (by omega), rbit0 H.lb, Option.bind_some, H.vb]
        have : ((b : Int) % 2 == 0) = false := by rw [beq_eq_false_iff_ne]; omega
        rw [this]
    · obtain ⟨z, hz⟩ := hfin (hg2 (fun h _ => c h))
      refine ⟨z, Ev.step (f := fun k => rf_GcdNat.j1 k A B (s : Int) false) (fun k => ?_) hz.1, hz.2⟩
      simp only [rf_GcdNat.l0]
      rw [rbit0 H.la, Option.bind_some, H.va, if_neg (by omega)]
theorem GcdNat_ev (A B : List Int) (hA : Lim 65536 A) (hB : Lim 65536 B) (nA : Nrm A) (nB : Nrm B) (sA : A.length ≤ 4294967296) (sB : B.length ≤ 4294967296) :
    ∃ r, Ev (fun k => rf_GcdNat.f k A B) r ∧ Lim 65536 r ∧ Nrm r ∧ val 65536 r = (Nat.gcd (val 65536 A).toNat (val 65536 B).toNat : Nat) := by
  have h0 : (0 : Int) < 65536 := by decide
  have a0 := val_nonneg h0 hA
  have b0 := val_nonneg h0 hB
  by_cases c : A = []
  · subst c
    refine ⟨B, Ev.congr (fun k => ?_) (Ev.now _), hB, nB, ?_⟩
    · unfold rf_GcdNat.f; rw [if_pos (by rfl)]
    · simp only [val, Int.toNat_zero, Nat.gcd_zero_left]; omega
  · by_cases c2 : B = []
    · subst c2
      refine ⟨A, Ev.congr (fun k => ?_) (Ev.now _), hA, nA, ?_⟩
      · have hl : A.length ≠ 0 := fun h => c (List.length_eq_zero_iff.1 h)
        unfold rf_GcdNat.f; rw [if_neg (by omega), if_pos (by rfl)]
      · simp only [val, Int.toNat_zero, Nat.gcd_zero_right]; omega
    · have a1 := val_pos h0 hA nA c
      have b1 := val_pos h0 hB nB c2
      have alt := val_lt h0 hA
      have hlA : A.length ≠ 0 := fun h => c (List.length_eq_zero_iff.1 h)
      have hlB : B.length ≠ 0 := fun h => c2 (List.length_eq_zero_iff.1 h)
      obtain ⟨r, r1, r2⟩ := gcdnat_l0 (max A.length B.length) (by omega) (Nat.gcd (val 65536 A).toNat (val 65536 B).toNat) ((val 65536 A).toNat + (val 65536 B).toNat) (val 65536 A).toNat (val 65536 B).toNat 0 A B (Nat.le_refl _) (by omega) (by omega)
        ⟨hA, hB, nA, nB, by omega, by omega, by omega, by omega, rfl⟩ (by rw [Nat.pow_zero, Nat.mul_one]) (by
          have h1 : (65536 : Int) ^ A.length ≤ 65536 ^ max A.length B.length := pow_mono' h0 (by omega)
          rw [Nat.pow_zero, Nat.mul_one, Nat.pow_mul]
          have h2 : (((2 ^ 16) ^ max A.length B.length : Nat) : Int) = (65536 : Int) ^ max A.length B.length := by rw [Int.natCast_pow]; rfl
          omega)
      refine ⟨r, Ev.congr (fun k => ?_) r1, r2⟩
      unfold rf_GcdNat.f
      rw [if_neg (by omega), if_neg (by omega)]
      rfl
theorem rmul_step {o x y c : Int} (o0 : 0 ≤ o) (o1 : o < 65536) (x0 : 0 ≤ x) (x1 : x < 65536) (y0 : 0 ≤ y) (y1 : y < 65536) (c0 : 0 ≤ c) (c1 : c < 65536) :
    ∃ t q : Int, Int.tmod (wrap64 (wrap64 (o + wrap64 (x * y)) + c)) 65536 = t ∧ wrap64 (Int.tdiv (wrap64 (wrap64 (o + wrap64 (x * y)) + c)) 65536) = q ∧ 0 ≤ t ∧ t < 65536 ∧ 0 ≤ q ∧ q < 65536 ∧ t = o + x * y + c - 65536 * q := by
  have h1 : 0 ≤ x * y := Int.mul_nonneg x0 y0
  have h2 : x * y ≤ x * 65535 := Int.mul_le_mul_of_nonneg_left (by omega) x0
  generalize x * y = p at *
  have e1 : wrap64 p = p := w64 (by omega) (by omega)
  have e2 : wrap64 (o + p) = o + p := w64 (by omega) (by omega)
  have e3 : wrap64 (o + p + c) = o + p + c := w64 (by omega) (by omega)
  rw [e1, e2, e3, Int.tmod_eq_emod_of_nonneg (by omega), Int.tdiv_eq_ediv_of_nonneg (by omega), w64 (by omega) (by omega)]
  exact ⟨_, _, rfl, rfl, by omega, by omega, by omega, by omega, by omega⟩
theorem rmul_inner (a b : List Int) (ha : Lim 65536 a) (hb : Lim 65536 b) (L i : Nat) (hia : i < a.length) (hL : L ≤ 549755813888) (hi : i + b.length < L) :
    ∀ (d j : Nat) (out : List Int) (c : Int), d + j = b.length → out.length = L → Lim 65536 out → 0 ≤ c → c < 65536 → out.getD (i + b.length) 0 = 0 →
    ∃ r, r.length = L ∧ Lim 65536 r ∧ val 65536 r = val 65536 out + 65536 ^ (i + j) * (c + a.getD i 0 * val 65536 (b.drop j)) ∧ (∀ p, i + b.length < p → r.getD p 0 = out.getD p 0) ∧
      ∀ (R : List Int), Ev (fun k => rf_MulNat.l0 k a b r (a.length : Int) ((i + 1 : Nat) : Int)) R → Ev (fun k => rf_MulNat.l1 k a b out (i : Int) c (j : Int) (a.length : Int) (i : Int)) R := by
  have hB : (0 : Int) < 65536 := by decide
  have hai := ha.getD hB i
  have gi0 : (0 : Int) ≤ (i : Int) := by omega
  have gi1 : (i : Int) < (a.length : Int) := by omega
  have gi2 : ∀ _ : Unit, wrap64 ((i : Int) + 1) = ((i + 1 : Nat) : Int) := fun _ => by rw [w64 (by omega) (by omega)]; omega
  intro d
  induction d with
  | zero =>
    intro j out c hd hl ho hc0 hc hz
    have hj : j = b.length := by omega
    subst hj
    have gv : ∀ _ : Unit, wrap64 ((i : Int) + (b.length : Int)) = ((i + b.length : Nat) : Int) := fun _ => by rw [w64 (by omega) (by omega)]; omega
    have g3 : (0 : Int) ≤ ((i + b.length : Nat) : Int) := by omega
    have g4 : ((i + b.length : Nat) : Int) < (out.length : Int) := by omega
    have g5 : i + b.length < out.length := by omega
    by_cases cz : c = 0
    · subst cz
      refine ⟨out, hl, ho, by rw [List.drop_length]; simp [val], fun p hp => rfl, fun R hR => ?_⟩
      refine Ev.step (f := fun k => rf_MulNat.l0 k a b out (a.length : Int) ((i + 1 : Nat) : Int)) (fun k => ?_) hR
      simp only [rf_MulNat.l1]
      rw [if_neg (by omega), if_neg (by omega), gi2 ()]
    · have gb : b.getD b.length 0 = 0 := by rw [List.getD_eq_getElem?_getD, List.getElem?_eq_none (Nat.le_refl _)]; rfl
      obtain ⟨t, q, ht, hq, q1, q2, q3, q4, q5⟩ := rmul_step (o := 0) (x := a.getD i 0) (y := 0) (c := c) (by decide) (by decide) hai.1 hai.2 (by decide) (by decide) hc0 hc
      rw [Int.mul_zero] at q5
      have eq0 : q = 0 := by omega
      have et : t = c := by omega
      have gw : ∀ _ : Unit, wrap64 ((b.length : Int) + 1) = ((b.length + 1 : Nat) : Int) := fun _ => by rw [w64 (by omega) (by omega)]; omega
      refine ⟨out.set (i + b.length) c, by rw [List.length_set, hl], ho.set _ ⟨hc0, hc⟩, ?_, ?_, fun R hR => ?_⟩
      · rw [val_set _ _ _ _ g5, hz, List.drop_length]
        simp [val]
      · intro p hp
        rw [List.getD_eq_getElem?_getD, List.getD_eq_getElem?_getD, List.getElem?_set_ne (by omega)]
      · refine Ev.step (f := fun k => rf_MulNat.l1 k a b (out.set (i + b.length) c) (i : Int) 0 ((b.length + 1 : Nat) : Int) (a.length : Int) (i : Int)) (fun k => ?_) (Ev.step (f := fun k => rf_MulNat.l0 k a b (out.set (i + b.length) c) (a.length : Int) ((i + 1 : Nat) : Int)) (fun k => ?_) hR)
        · simp only [rf_MulNat.l1]
          rw [if_neg (by omega), if_pos (by omega), gv (), if_pos g3, if_pos g4, if_pos gi0, if_pos gi1, rdigit, Option.bind_some, gb, rd_getD out, hz, rd_getD a, ht, hq, gw (), et, eq0, Int.toNat_natCast]
        · simp only [rf_MulNat.l1]
          rw [if_neg (by omega), if_neg (by decide), gi2 ()]
  | succ d ih =>
    intro j out c hd hl ho hc0 hc hz
    have g0 : d + (j + 1) = b.length := by omega
    have g1 : (j : Int) < (b.length : Int) := by omega
    have gj : j < b.length := by omega
    have g3 : i + j < out.length := by omega
    have g4 : ((i + j : Nat) : Int) < (out.length : Int) := by omega
    have g5 : (0 : Int) ≤ ((i + j : Nat) : Int) := by omega
    have g6 : i + j ≠ i + b.length := by omega
    have gw : ∀ _ : Unit, wrap64 ((j : Int) + 1) = ((j + 1 : Nat) : Int) := fun _ => by rw [w64 (by omega) (by omega)]; omega
    have gv : ∀ _ : Unit, wrap64 ((i : Int) + (j : Int)) = ((i + j : Nat) : Int) := fun _ => by rw [w64 (by omega) (by omega)]; omega
    have hb1 := hb.getD hB j
    have ho1 := ho.getD hB (i + j)
    obtain ⟨t, q, ht, hq, q1, q2, q3, q4, q5⟩ := rmul_step ho1.1 ho1.2 hai.1 hai.2 hb1.1 hb1.2 hc0 hc
    obtain ⟨r, r1, r2, r3, r4, r5⟩ := ih (j + 1) (out.set (i + j) t) q g0 (by rw [List.length_set, hl]) (ho.set _ ⟨q1, q2⟩) q3 q4 (by
      rw [List.getD_eq_getElem?_getD, List.getElem?_set_ne g6, ← List.getD_eq_getElem?_getD, hz])
    refine ⟨r, r1, r2, ?_, ?_, fun R hR => ?_⟩
    · rw [r3, val_set _ _ _ _ g3, val_drop _ b j gj, q5, ← Nat.add_assoc, Int.pow_succ]
      generalize val 65536 (b.drop (j + 1)) = v
      generalize (65536 : Int) ^ (i + j) = p
      clear q5 ht hq r3 r5 r4
      grind
    · intro p hp
      rw [r4 p hp, List.getD_eq_getElem?_getD, List.getD_eq_getElem?_getD, List.getElem?_set_ne (by omega)]
    · refine Ev.step (f := fun k => rf_MulNat.l1 k a b (out.set (i + j) t) (i : Int) q ((j + 1 : Nat) : Int) (a.length : Int) (i : Int)) (fun k => ?_) (r5 R hR)
      simp only [rf_MulNat.l1]
      rw [if_pos g1, gv (), if_pos g5, if_pos g4, if_pos gi0, if_pos gi1, rdigit, Option.bind_some, rd_getD out, rd_getD a, ht, hq, gw (), Int.toNat_natCast]
theorem rmul_outer (a b : List Int) (ha : Lim 65536 a) (hb : Lim 65536 b) (hL : a.length + b.length + 1 ≤ 549755813888) :
    ∀ (d i : Nat) (out : List Int), d + i = a.length → out.length = a.length + b.length + 1 → Lim 65536 out → (∀ p, i + b.length ≤ p → out.getD p 0 = 0) →
    ∃ r, Ev (fun k => rf_MulNat.l0 k a b out (a.length : Int) (i : Int)) (trim r) ∧ r.length = a.length + b.length + 1 ∧ Lim 65536 r ∧ val 65536 r = val 65536 out + 65536 ^ i * (val 65536 (a.drop i) * val 65536 b) := by
  have hB : (0 : Int) < 65536 := by decide
  intro d
  induction d with
  | zero =>
    intro i out hd hl ho hz
    have hi : i = a.length := by omega
    subst hi
    refine ⟨out, Ev.step (f := fun k => (rf_trim.f k out).bind fun t => some t) (fun k => ?_) (Ev.bind (f := fun _ t => some t) (rtrim_ev out (by omega)) (Ev.now _)), hl, ho, ?_⟩
    · simp only [rf_MulNat.l0]; rw [if_neg (by omega)]
    · rw [List.drop_length]; simp [val]
  | succ d ih =>
    intro i out hd hl ho hz
    have g1 : (i : Int) < (a.length : Int) := by omega
    have gi : i < a.length := by omega
    obtain ⟨r, r1, r2, r3, r4, r5⟩ := rmul_inner a b ha hb (a.length + b.length + 1) i gi hL (by omega) b.length 0 out 0 (by omega) hl ho (by decide) (by decide) (hz _ (Nat.le_refl _))
    obtain ⟨s, s1, s2, s3, s4⟩ := ih (i + 1) r (by omega) r1 r2 (by
      intro p hp
      rw [r4 p (by omega)]
      exact hz p (by omega))
    refine ⟨s, Ev.step (f := fun k => rf_MulNat.l1 k a b out (i : Int) 0 0 (a.length : Int) (i : Int)) (fun k => ?_) (r5 _ s1), s2, s3, ?_⟩
    · simp only [rf_MulNat.l0]
      rw [if_pos g1]
    · rw [s4, r3, val_drop _ a i gi, List.drop_zero, Nat.add_zero, Int.pow_succ]
      generalize val 65536 (a.drop (i + 1)) = v
      generalize val 65536 b = u
      generalize (65536 : Int) ^ i = p
      clear s4 r3 r5 r4 s1
      grind
theorem MulNat_ev (a b : List Int) (ha : Lim 65536 a) (hb : Lim 65536 b) (hL : a.length + b.length + 1 ≤ 1099511627) :
    ∃ r, Ev (fun k => rf_MulNat.f k a b) r ∧ Lim 65536 r ∧ Nrm r ∧ val 65536 r = val 65536 a * val 65536 b ∧ r.length ≤ a.length + b.length + 1 := by
  have e1 : wrap64 ((a.length : Int) + (b.length : Int)) = ((a.length + b.length : Nat) : Int) := by rw [w64 (by omega) (by omega)]; omega
  have e2 : wrap64 (((a.length + b.length : Nat) : Int) + 1) = ((a.length + b.length + 1 : Nat) : Int) := by rw [w64 (by omega) (by omega)]; omega
  obtain ⟨r, h1, h2, h3, h4⟩ := rmul_outer a b ha hb (by omega) a.length 0 (List.replicate (a.length + b.length + 1) 0) (by omega) (by simp) (lim_replicate (by decide) _) (fun p _ => by
    rw [List.getD_eq_getElem?_getD]
    rcases Nat.lt_or_ge p (a.length + b.length + 1) with h | h
    · rw [List.getElem?_replicate_of_lt h]; rfl
    · rw [List.getElem?_eq_none (by simpa using h)]; rfl)
  refine ⟨trim r, Ev.congr (fun k => ?_) h1, lim_trim h3, nrm_trim _, by rw [val_trim, h4, val_replicate, List.drop_zero]; simp, by rw [← h2]; exact length_trim r⟩
  unfold rf_MulNat.f
  rw [e1, e2, if_pos (by omega), if_pos (by omega), Int.toNat_natCast]
  rfl
end Go.Proofs.YtemnjgkicndmjaaDoor.Q
namespace Go.Proofs.YtemnjgkicndmjaaDoor.Q
open Go.RowKit Go.Proofs.YtemnjgkicndmjaaDoorW.PrintWords Go.Proofs.YtemnjgkicndmjaaDoorW.PrintLast Go.Proofs.YtemnjgkicndmjaaDoorW.PrintMore
attribute [local go_sem] max2_int min2_int max_two min_two max_three min_three max_four min_four
set_option linter.unusedVariables false
set_option linter.unusedSimpArgs false
def rf_reduce.f (k : Nat) (a0 : Bool) (l1 : List Int) (l2 : List Int) : Option (Bool × List Int × List Int) := (rf_GcdNat.f k l1 l2).bind fun t679 => ((rf_CmpNat.f k t679 (([1] : List Int))).bind fun t685 => (if t685 = 0 then (if a0 = true then (if (l1.length : Int) > 0 then (some (true, l1, l2)) else (some (false, l1, l2))) else (some (false, l1, l2))) else ((rf_DivNat.f k l1 t679).bind fun bt686 => ((rf_DivNat.f k l2 t679).bind fun bt692 => (if a0 = true then (if (bt686.1.length : Int) > 0 then (some (true, bt686.1, bt692.1)) else (some (false, bt686.1, bt692.1))) else (some (false, bt686.1, bt692.1)))))))
theorem rf_reduce.mono : ∀ a0 a1 a2 k, LeO (rf_reduce.f k a0 a1 a2) (rf_reduce.f (k + 1) a0 a1 a2) := by
 intro a0 a1 a2 k
 unfold rf_reduce.f
 have m0 := @rf_CmpNat.mono
 have m1 := @rf_DivNat.mono
 have m2 := @rf_GcdNat.mono
 exact zm
end Go.Proofs.YtemnjgkicndmjaaDoor.Q
namespace Go.Proofs.YtemnjgkicndmjaaDoor.Q
open Go.RowKit Go.Proofs.YtemnjgkicndmjaaDoorW.PrintWords Go.Proofs.YtemnjgkicndmjaaDoorW.PrintLast Go.Proofs.YtemnjgkicndmjaaDoorW.PrintMore
set_option linter.unusedVariables false
theorem radd_step (a b : List Int) (ha : Lim 65536 a) (hb : Lim 65536 b) (i : Nat) (hi : i ≤ 1099511627776) (out : List Int) (hl : out.length ≤ 1099511627777) (c : Int) (c0 : 0 ≤ c) (c1 : c ≤ 1) (R : List Int) (hc : i < a.length ∨ i < b.length ∨ 0 < c)
    (h : Ev (fun k => rf_AddNat.l0 k a b (out ++ [(a.getD i 0 + b.getD i 0 + c) % 65536]) ((a.getD i 0 + b.getD i 0 + c) / 65536) ((i + 1 : Nat) : Int)) R) : Ev (fun k => rf_AddNat.l0 k a b out c (i : Int)) R := by
  have hai := ha.getD (by decide) i
  have hbi := hb.getD (by decide) i
  have e1 : wrap64 (wrap64 (a.getD i 0 + b.getD i 0) + c) = a.getD i 0 + b.getD i 0 + c := by rw [w64 (x := a.getD i 0 + b.getD i 0) (by omega) (by omega), w64 (by omega) (by omega)]
  have e2 : Int.tmod (a.getD i 0 + b.getD i 0 + c) 65536 = (a.getD i 0 + b.getD i 0 + c) % 65536 := Int.tmod_eq_emod_of_nonneg (by omega)
  have e3 : wrap64 (Int.tdiv (a.getD i 0 + b.getD i 0 + c) 65536) = (a.getD i 0 + b.getD i 0 + c) / 65536 := by rw [Int.tdiv_eq_ediv_of_nonneg (by omega), w64 (by omega) (by omega)]
  have e4 : wrap64 ((i : Int) + 1) = ((i + 1 : Nat) : Int) := by rw [w64 (by omega) (by omega)]; omega
  have j1 : Ev (fun k => rf_AddNat.j1 k a b out c (i : Int) true) R := by
    refine Ev.step (f := fun k => rf_AddNat.l0 k a b (out ++ [(a.getD i 0 + b.getD i 0 + c) % 65536]) ((a.getD i 0 + b.getD i 0 + c) / 65536) ((i + 1 : Nat) : Int)) (fun k => ?_) h
    simp only [rf_AddNat.j1]
    rw [if_pos trivial, rdigit, rdigit, Option.bind_some, Option.bind_some, if_pos (by omega), e1, e2, e3, e4]
  refine Ev.step (f := fun k => rf_AddNat.j1 k a b out c (i : Int) true) (fun k => ?_) j1
  simp only [rf_AddNat.l0]
  by_cases h1 : (i : Int) < (a.length : Int)
  · rw [if_pos h1]
  · rw [if_neg h1]
    by_cases h2 : (i : Int) < (b.length : Int)
    · rw [if_pos h2]
    · rw [if_neg h2, decide_eq_true (show c > 0 by omega)]
theorem radd_end (a b : List Int) (i : Nat) (out : List Int) (hl : out.length ≤ 1099511627776) (hc : ¬ (i < a.length ∨ i < b.length)) : Ev (fun k => rf_AddNat.l0 k a b out 0 (i : Int)) (trim out) := by
  refine Ev.step (f := fun k => rf_AddNat.j1 k a b out 0 (i : Int) false) (fun k => ?_) (Ev.step (f := fun k => (rf_trim.f k out).bind fun t => some t) (fun k => ?_) (Ev.bind (f := fun _ t => some t) (rtrim_ev out hl) (Ev.now _)))
  · simp only [rf_AddNat.l0]
    rw [if_neg (by omega), if_neg (by omega)]; rfl
  · simp only [rf_AddNat.j1]
    rw [if_neg (by decide)]
theorem radd_loop (a b : List Int) (ha : Lim 65536 a) (hb : Lim 65536 b) (N : Nat) (hN : N ≤ 549755813888) (hab : max a.length b.length = N) : ∀ (d i : Nat) (out : List Int) (c : Int), d + i = N → out.length = i → Lim 65536 out → 0 ≤ c → c ≤ 1 →
    val 65536 out + 65536 ^ i * c = val 65536 (a.take i) + val 65536 (b.take i) →
    ∃ r, Ev (fun k => rf_AddNat.l0 k a b out c (i : Int)) (trim r) ∧ r.length ≤ N + 1 ∧ Lim 65536 r ∧ val 65536 r = val 65536 a + val 65536 b := by
  have hB : (0 : Int) < 65536 := by decide
  intro d
  induction d with
  | zero =>
    intro i out c hd hl ho c0 c1 hv
    have hi : i = N := by omega
    subst hi
    rw [List.take_of_length_le (by omega), List.take_of_length_le (by omega)] at hv
    by_cases hc : c = 0
    · subst hc
      refine ⟨out, radd_end a b i out (by omega) (by omega), by omega, ho, by simpa using hv⟩
    · have e : c = 1 := by omega
      subst e
      have ga : a.getD i 0 = 0 := by rw [List.getD_eq_getElem?_getD, List.getElem?_eq_none (by omega)]; rfl
      have gb : b.getD i 0 = 0 := by rw [List.getD_eq_getElem?_getD, List.getElem?_eq_none (by omega)]; rfl
      refine ⟨out ++ [1], radd_step a b ha hb i (by omega) out (by omega) 1 (by decide) (by decide) _ (by omega) ?_, by rw [List.length_append, List.length_singleton]; omega, lim_nrm_snoc ho ⟨by decide, by decide⟩, by rw [val_snoc, hl, hv]⟩
      rw [ga, gb]
      exact radd_end a b (i + 1) (out ++ [1]) (by rw [List.length_append, List.length_singleton]; omega) (by omega)
  | succ d ih =>
    intro i out c hd hl ho c0 c1 hv
    have hai := ha.getD hB i
    have hbi := hb.getD hB i
    obtain ⟨r, r1, r2⟩ := ih (i + 1) (out ++ [(a.getD i 0 + b.getD i 0 + c) % 65536]) ((a.getD i 0 + b.getD i 0 + c) / 65536) (by omega) (by rw [List.length_append, List.length_singleton, hl]) (lim_nrm_snoc ho ⟨by omega, by omega⟩) (by omega) (by omega) (by
      rw [val_snoc, val_take_succ', val_take_succ', hl, Int.pow_succ]
      have e : (a.getD i 0 + b.getD i 0 + c) % 65536 = a.getD i 0 + b.getD i 0 + c - 65536 * ((a.getD i 0 + b.getD i 0 + c) / 65536) := by omega
      rw [e]
      generalize (a.getD i 0 + b.getD i 0 + c) / 65536 = q
      generalize (65536 : Int) ^ i = p at *
      grind)
    exact ⟨r, radd_step a b ha hb i (by omega) out (by omega) c c0 c1 _ (by omega) r1, r2⟩
theorem AddNat_ev (a b : List Int) (ha : Lim 65536 a) (hb : Lim 65536 b) (hL : a.length ≤ 274877906944) (hM : b.length ≤ 274877906944) :
    ∃ r, Ev (fun k => rf_AddNat.f k a b) r ∧ Lim 65536 r ∧ Nrm r ∧ val 65536 r = val 65536 a + val 65536 b ∧ r.length ≤ max a.length b.length + 1 := by
  obtain ⟨r, h1, h2, h3, h4⟩ := radd_loop a b ha hb (max a.length b.length) (by omega) rfl (max a.length b.length) 0 [] 0 (by omega) rfl (lim_nil _) (by decide) (by decide) (by simp [val])
  exact ⟨trim r, h1, lim_trim h3, nrm_trim _, by rw [val_trim, h4], Nat.le_trans (length_trim r) h2⟩
theorem rlen_loop : ∀ (d : Nat) (x : Int) (n : Nat), 0 ≤ x → x < 2 ^ d → n + d ≤ 1099511627776 → ∃ L, L ≤ d ∧ x < 2 ^ L ∧ (0 < x → 0 < L ∧ 2 ^ (L - 1) ≤ x) ∧ Ev (fun k => rf_LenNat.l0 k (n : Int) x) ((n + L : Nat) : Int) := by
  intro d
  induction d with
  | zero =>
    intro x n h0 h1 _
    have e : x = 0 := by simp at h1; omega
    subst e
    refine ⟨0, Nat.le_refl _, by decide, fun h => absurd h (by decide), Ev.step (f := fun _ => some (n : Int)) (fun k => ?_) (Ev.now _)⟩
    simp only [rf_LenNat.l0]
    rw [if_neg (by decide)]
  | succ d ih =>
    intro x n h0 h1 hL
    by_cases e : x = 0
    · subst e
      refine ⟨0, by omega, by decide, fun h => absurd h (by decide), Ev.step (f := fun _ => some (n : Int)) (fun k => ?_) (Ev.now _)⟩
      simp only [rf_LenNat.l0]
      rw [if_neg (by decide)]
    · rw [Int.pow_succ] at h1
      obtain ⟨L, l1, l2, l3, l4⟩ := ih (x / 2) (n + 1) (by omega) (by omega) (by omega)
      have e2 : wrap64 ((n : Int) + 1) = ((n + 1 : Nat) : Int) := by rw [w64 (by omega) (by omega)]; omega
      refine ⟨L + 1, by omega, by rw [Int.pow_succ]; omega, fun h => ⟨by omega, ?_⟩, Ev.step (f := fun k => rf_LenNat.l0 k ((n + 1 : Nat) : Int) (x / 2)) (fun k => ?_) (Ev.eq l4 (by congr 1; omega))⟩
      · rw [Nat.add_sub_cancel]
        by_cases h2 : 0 < x / 2
        · obtain ⟨p1, p2⟩ := l3 h2
          have e3 : L = (L - 1) + 1 := by omega
          rw [e3, Int.pow_succ]; omega
        · have : x / 2 = 0 := by omega
          have hz : L = 0 := by
            rcases Nat.eq_zero_or_pos L with h3 | h3
            · exact h3
            · have h4 : x = 1 := by omega
              subst h4
              have h5 := Ev.unique l4 (r' := ((n + 1 : Nat) : Int)) (Ev.step (f := fun _ => some ((n + 1 : Nat) : Int)) (fun k => by simp only [rf_LenNat.l0]; rw [if_neg (by decide)]) (Ev.now _))
              omega
          rw [hz]; simp; omega
      · simp only [rf_LenNat.l0]
        rw [if_pos (by omega), e2]
theorem LenNat_ev (a : List Int) (ha : Lim 65536 a) (na : Nrm a) (hL : a.length ≤ 1073741824) : ∃ L : Nat, L ≤ 16 * a.length ∧ val 65536 a < 2 ^ L ∧ (0 < val 65536 a → 0 < L ∧ 2 ^ (L - 1) ≤ val 65536 a) ∧ Ev (fun k => rf_LenNat.f k a) (L : Int) := by
  by_cases h : a = []
  · subst h
    exact ⟨0, by simp, by decide, fun h => absurd h (by decide), Ev.ret fun k => by unfold rf_LenNat.f; rfl⟩
  · have hl0 : a.length ≠ 0 := fun h' => h (List.length_eq_zero_iff.1 h')
    have hx := ha.getD (by decide) (a.length - 1)
    have h0 : a.getD (a.length - 1) 0 ≠ 0 := by
      intro e
      rw [← List.dropLast_concat_getLast h] at na
      have h1 := nrm_snoc.1 na
      refine h1 ?_
      rw [← e, List.getLast_eq_getElem, List.getD_eq_getElem?_getD, List.getElem?_eq_getElem (by omega)]; rfl
    obtain ⟨L, l1, l2, l3, l4⟩ := rlen_loop 16 (a.getD (a.length - 1) 0) (16 * (a.length - 1)) hx.1 (by simpa using hx.2) (by omega)
    obtain ⟨p1, p2⟩ := l3 (by omega)
    have hv : val 65536 a = val 65536 (a.take (a.length - 1)) + 65536 ^ (a.length - 1) * a.getD (a.length - 1) 0 := by
      have h1 := val_take_succ 65536 a (a.length - 1) (by omega)
      rw [Nat.sub_add_cancel (by omega), List.take_of_length_le (Nat.le_refl _)] at h1
      exact h1
    have t0 := val_nonneg (B := 65536) (by decide) (ha.take (a.length - 1))
    have t1 := val_lt (B := 65536) (by decide) (ha.take (a.length - 1))
    rw [List.length_take, Nat.min_eq_left (by omega)] at t1
    have hp : (65536 : Int) ^ (a.length - 1) = 2 ^ (16 * (a.length - 1)) := by rw [Int.pow_mul]; rfl
    have pp : (0 : Int) < 65536 ^ (a.length - 1) := Int.pow_pos (by decide)
    have hup : val 65536 a < 2 ^ (16 * (a.length - 1) + L) := by
      rw [Int.pow_add, ← hp, hv]
      have : (65536 : Int) ^ (a.length - 1) * (a.getD (a.length - 1) 0 + 1) ≤ 65536 ^ (a.length - 1) * 2 ^ L := Int.mul_le_mul_of_nonneg_left (by omega) (by omega)
      rw [Int.mul_add, Int.mul_one] at this
      omega
    have hlo : 2 ^ (16 * (a.length - 1) + L - 1) ≤ val 65536 a := by
      have e : 16 * (a.length - 1) + L - 1 = 16 * (a.length - 1) + (L - 1) := by omega
      rw [e, Int.pow_add, ← hp, hv]
      have : (65536 : Int) ^ (a.length - 1) * 2 ^ (L - 1) ≤ 65536 ^ (a.length - 1) * a.getD (a.length - 1) 0 := Int.mul_le_mul_of_nonneg_left p2 (by omega)
      omega
    refine ⟨16 * (a.length - 1) + L, by omega, hup, fun _ => ⟨by omega, hlo⟩, Ev.congr (fun k => ?_) l4⟩
    have e1 : wrap64 ((a.length : Int) - 1) = ((a.length - 1 : Nat) : Int) := by rw [w64 (by omega) (by omega)]; omega
    have e2 : wrap64 (16 * ((a.length - 1 : Nat) : Int)) = ((16 * (a.length - 1) : Nat) : Int) := by rw [w64 (by omega) (by omega)]; omega
    unfold rf_LenNat.f
    rw [if_pos (by omega), e1, if_pos (by omega), if_pos (by omega), e2, rd_getD]
theorem rbit_ev {a : List Int} (ha : Lim 65536 a) (i : Nat) (hi : i ≤ 1099511627776) : rf_bit.f a (i : Int) = some (val 65536 a / 2 ^ i % 2) := by
  obtain ⟨w, hw⟩ : ∃ w, w = i / 16 := ⟨_, rfl⟩
  obtain ⟨b, hb⟩ : ∃ b, b = i % 16 := ⟨_, rfl⟩
  have hib : i = 16 * w + b := by omega
  have hx := ha.getD (by decide) w
  have e1 : wrap64 (Int.tdiv (i : Int) 16) = (w : Int) := by rw [Int.tdiv_eq_ediv_of_nonneg (by omega), w64 (by omega) (by omega)]; omega
  have e2 : Int.tmod (i : Int) 16 = (b : Int) := by rw [Int.tmod_eq_emod_of_nonneg (by omega)]; omega
  have e3 : shr .i64 (a.getD w 0) (b : Int) = a.getD w 0 / 2 ^ b := by
    unfold shr
    rw [show min (b : Int).toNat (IntKind.i64).bits = b by simp [IntKind.bits]; omega]
  have hq0 : 0 ≤ a.getD w 0 / 2 ^ b := Int.ediv_nonneg hx.1 (Int.le_of_lt (Int.pow_pos (by decide)))
  have hq1 : a.getD w 0 / 2 ^ b ≤ a.getD w 0 := Int.ediv_le_self _ hx.1
  unfold rf_bit.f
  rw [e1, rdigit, Option.bind_some, e2, if_pos (by omega), e3, i64_and1 hq0 (by omega)]
  congr 1
  have hs := val_split' 65536 a w
  have hd := val_drop' 65536 a w
  have t0 := val_nonneg (B := 65536) (by decide) (ha.take w)
  have t1 : val 65536 (a.take w) < 65536 ^ w := by
    have h1 := val_lt (B := 65536) (by decide) (ha.take w)
    have h2 := pow_mono' (B := 65536) (by decide) (show (a.take w).length ≤ w by rw [List.length_take]; omega)
    omega
  have hp : (2 : Int) ^ (16 * w) = 65536 ^ w := by rw [Int.pow_mul]; rfl
  have pp : (0 : Int) < 65536 ^ w := Int.pow_pos (by decide)
  have h3 : val 65536 a / 2 ^ i = val 65536 (a.drop w) / 2 ^ b := by
    rw [hib, Int.pow_add, hp, ← Int.ediv_ediv_of_nonneg (Int.le_of_lt pp), hs, Int.add_mul_ediv_left _ _ (by omega), Int.ediv_eq_zero_of_lt t0 t1, Int.zero_add]
  rw [h3, hd]
  have h4 : (65536 : Int) = 2 ^ b * (2 * 2 ^ (15 - b)) := by
    have : (65536 : Int) = 2 ^ (b + (1 + (15 - b))) := by rw [show b + (1 + (15 - b)) = 16 by omega]; rfl
    rw [this, Int.pow_add, Int.pow_add]; rfl
  have pb : (0 : Int) < 2 ^ b := Int.pow_pos (by decide)
  have h5 : (a.getD w 0 + 65536 * val 65536 (a.drop (w + 1))) / 2 ^ b = a.getD w 0 / 2 ^ b + 2 * (2 ^ (15 - b) * val 65536 (a.drop (w + 1))) := by
    have : a.getD w 0 + 65536 * val 65536 (a.drop (w + 1)) = a.getD w 0 + 2 ^ b * (2 * (2 ^ (15 - b) * val 65536 (a.drop (w + 1)))) := by
      generalize val 65536 (a.drop (w + 1)) = u
      rw [h4]; grind
    rw [this, Int.add_mul_ediv_left _ _ (by omega)]
  rw [h5, Int.add_mul_emod_self_left]
theorem ilt_or (a b : Int) : a < b ∨ b ≤ a := by omega
theorem rset_bit {q : List Int} (hq : Lim 65536 q) (i : Nat) (hi : i < 16 * q.length) (h : val 65536 q % 2 ^ (i + 1) = 0) :
    ∃ v : Int, Go.bits .or .i64 (q.getD (i / 16) 0) (shl .i64 1 ((i % 16 : Nat) : Int)) = v ∧ 0 ≤ v ∧ v < 65536 ∧ val 65536 (q.set (i / 16) v) = val 65536 q + 2 ^ i := by
  obtain ⟨w, hw⟩ : ∃ w, w = i / 16 := ⟨_, rfl⟩
  obtain ⟨b, hb⟩ : ∃ b, b = i % 16 := ⟨_, rfl⟩
  have hib : i = 16 * w + b := by omega
  rw [← hw, ← hb]
  have hx := hq.getD (by decide) w
  have pb : (0 : Int) < 2 ^ b := Int.pow_pos (by decide)
  have pb2 : (2 : Int) ^ b ≤ 32768 := by
    have := pow_mono' (B := 2) (by decide) (show b ≤ 15 by omega)
    simpa using this
  have e1 : shl .i64 1 (b : Int) = 2 ^ b := by
    unfold shl
    rw [Int.toNat_natCast, Nat.min_eq_left (by simp [IntKind.bits]; omega), Int.one_mul, i64w _ (by omega) (by omega)]
  have hs := val_split' 65536 q w
  have hd := val_drop' 65536 q w
  have t0 := val_nonneg (B := 65536) (by decide) (hq.take w)
  have t1 : val 65536 (q.take w) < 65536 ^ w := by
    have h1 := val_lt (B := 65536) (by decide) (hq.take w)
    have h2 := pow_mono' (B := 65536) (by decide) (show (q.take w).length ≤ w by rw [List.length_take]; omega)
    omega
  have hp : (2 : Int) ^ (16 * w) = 65536 ^ w := by rw [Int.pow_mul]; rfl
  have pp : (0 : Int) < 65536 ^ w := Int.pow_pos (by decide)
  obtain ⟨m, hm⟩ := Int.dvd_of_emod_eq_zero h
  have hpow : (2 : Int) ^ (i + 1) = 65536 ^ w * (2 ^ b * 2) := by rw [hib, Nat.add_assoc, Int.pow_add, hp, Int.pow_succ]
  have hz : val 65536 (q.take w) = 0 := by
    have h1 : val 65536 (q.take w) = 65536 ^ w * (2 ^ b * 2 * m - val 65536 (q.drop w)) := by
      rw [hpow] at hm
      rw [hm] at hs
      rw [Int.mul_sub, ← Int.mul_assoc]
      omega
    rcases ilt_or 0 (2 ^ b * 2 * m - val 65536 (q.drop w)) with h2 | h2
    · have h3 : 65536 ^ w * 1 ≤ 65536 ^ w * (2 ^ b * 2 * m - val 65536 (q.drop w)) := Int.mul_le_mul_of_nonneg_left (by omega) (by omega)
      omega
    · have h3 : 65536 ^ w * (2 ^ b * 2 * m - val 65536 (q.drop w)) ≤ 65536 ^ w * 0 := Int.mul_le_mul_of_nonneg_left (by omega) (by omega)
      omega
  have hdw : val 65536 (q.drop w) = 2 ^ b * 2 * m := by
    rw [hz, Int.zero_add, hm, hpow, Int.mul_assoc] at hs
    have := Int.eq_of_mul_eq_mul_left (by omega) hs
    omega
  have h4 : (65536 : Int) = 2 ^ b * 2 * 2 ^ (15 - b) := by
    have : (65536 : Int) = 2 ^ (b + (1 + (15 - b))) := by rw [show b + (1 + (15 - b)) = 16 by omega]; rfl
    rw [this, Int.pow_add, Int.pow_add, Int.mul_assoc]; rfl
  have hqw : q.getD w 0 = 2 ^ b * 2 * (m - 2 ^ (15 - b) * val 65536 (q.drop (w + 1))) := by
    rw [hdw] at hd
    rw [Int.mul_sub, ← Int.mul_assoc, ← h4]
    omega
  obtain ⟨z, hz2⟩ : ∃ z, z = m - 2 ^ (15 - b) * val 65536 (q.drop (w + 1)) := ⟨_, rfl⟩
  rw [← hz2] at hqw
  have hz0 : 0 ≤ z := by
    rcases ilt_or z 0 with h2 | h2
    · have h3 : 2 ^ b * 2 * z ≤ 2 ^ b * 2 * (-1) := Int.mul_le_mul_of_nonneg_left (by omega) (by omega)
      omega
    · exact h2
  have hor : Go.bits .or .i64 (q.getD w 0) (2 ^ b) = q.getD w 0 + 2 ^ b := by
    rw [i64_or _ _ hx.1 (by omega) (by omega) (by omega), nat_join (b + 1) _ _ ?_ ?_]
    · omega
    · obtain ⟨Z, rfl⟩ := Int.eq_ofNat_of_zero_le hz0
      have e : (q.getD w 0).toNat = 2 ^ (b + 1) * Z := by
        rw [hqw]
        have : (2 : Int) ^ b * 2 * (Z : Int) = ((2 ^ (b + 1) * Z : Nat) : Int) := by push_cast; rw [Int.pow_succ]
        rw [this, Int.toNat_natCast]
      rw [e, Nat.mul_mod_right]
    · have e : ((2 : Int) ^ b).toNat = 2 ^ b := by
        have : (2 : Int) ^ b = ((2 ^ b : Nat) : Int) := by push_cast; rfl
        rw [this, Int.toNat_natCast]
      rw [e]
      exact Nat.pow_lt_pow_right (by decide) (by omega)
  have hlt : q.getD w 0 + 2 ^ b < 65536 := by
    have h5 : z < 2 ^ (15 - b) := by
      rcases ilt_or z (2 ^ (15 - b)) with h2 | h2
      · exact h2
      · have h3 : 2 ^ b * 2 * 2 ^ (15 - b) ≤ 2 ^ b * 2 * z := Int.mul_le_mul_of_nonneg_left h2 (by omega)
        omega
    have h6 : 2 ^ b * 2 * (z + 1) ≤ 2 ^ b * 2 * 2 ^ (15 - b) := Int.mul_le_mul_of_nonneg_left (by omega) (by omega)
    rw [Int.mul_add, Int.mul_one, ← h4, ← hqw] at h6
    omega
  refine ⟨q.getD w 0 + 2 ^ b, by rw [e1, hor], by omega, hlt, ?_⟩
  rw [val_set _ _ _ _ (by omega), hib, Int.pow_add, hp]
  congr 2
  omega
end Go.Proofs.YtemnjgkicndmjaaDoor.Q

namespace Go.Proofs.YtemnjgkicndmjaaDoor.Q
open Go.RowKit Go.Proofs.YtemnjgkicndmjaaDoorW.PrintWords Go.Proofs.YtemnjgkicndmjaaDoorW.PrintLast Go.Proofs.YtemnjgkicndmjaaDoorW.PrintMore
attribute [local go_sem] max2_int min2_int max_two min_two max_three min_three max_four min_four
set_option linter.unusedVariables false
set_option linter.unusedSimpArgs false
def rf_Made.f (k : Nat) (a0_0 : Bool) (l0_1 : List Int) (l0_2 : List Int) : Option (Bool × List Int × List Int × Int) := (rf_limbs.f k l0_1).bind fun t634 => ((rf_limbs.f k l0_2).bind fun t637 => (if (t634.length : Int) > 128 then (some (false, ([] : List Int), ([] : List Int), 3)) else (if (t637.length : Int) > 128 then (some (false, ([] : List Int), ([] : List Int), 3)) else (some (a0_0, t634, t637, 0)))))
theorem rf_Made.mono : ∀ a0 a1 a2 k, LeO (rf_Made.f k a0 a1 a2) (rf_Made.f (k + 1) a0 a1 a2) := by
 intro a0 a1 a2 k
 unfold rf_Made.f
 have m0 := @rf_limbs.mono
 exact zm
end Go.Proofs.YtemnjgkicndmjaaDoor.Q
namespace Go.Proofs.YtemnjgkicndmjaaDoor.Q
open Go.RowKit Go.Proofs.YtemnjgkicndmjaaDoorW.PrintWords Go.Proofs.YtemnjgkicndmjaaDoorW.PrintLast Go.Proofs.YtemnjgkicndmjaaDoorW.PrintMore
set_option linter.unusedVariables false
theorem u32_pair {a b : Int} (ha0 : 0 ≤ a) (ha : a < 65536) (hb0 : 0 ≤ b) (hb : b < 65536) : Go.bits .or .u32 (a % 4294967296) ((b % 4294967296 * 65536) % 4294967296) = a + 65536 * b := by
  have e1 : a % 4294967296 = a := by omega
  have e2 : (b % 4294967296 * 65536) % 4294967296 = b * 65536 := by omega
  rw [e1, e2, u32_or _ _ ha0 (by omega) (by omega) (by omega), Nat.or_comm, nat_join 16 _ _ (by omega) (by omega)]
  omega
theorem nrm_of_val {B : Int} (hB : 0 < B) {xs : List Int} (h : Lim B xs) (hv : xs ≠ [] → B ^ (xs.length - 1) ≤ val B xs) : Nrm xs := by
  by_cases e : xs = []
  · rw [e]; exact nrm_nil
  · have h1 := hv e
    rw [← List.dropLast_concat_getLast e] at h h1 ⊢
    rw [nrm_snoc]
    intro h2
    have h3 := val_lt hB (lim_append.1 h).1
    rw [val_snoc, h2, Int.mul_zero, Int.add_zero, List.length_append, List.length_singleton, Nat.add_sub_cancel] at h1
    omega
theorem limbs_loop (x : List Int) (hx : Lim 65536 x) (hL : x.length ≤ 137438953472) : ∀ (d i : Nat) (out : List Int), x.length ≤ 2 * i + 2 * d → (0 < d → 2 * i + 2 * d < x.length + 2) → out.length = i → Lim 4294967296 out → val 4294967296 out = val 65536 (x.take (2 * i)) →
    ∃ r, Ev (fun k => rf_limbs.l0 k x out ((2 * i : Nat) : Int)) r ∧ r.length = i + d ∧ Lim 4294967296 r ∧ val 4294967296 r = val 65536 x := by
  have hB : (0 : Int) < 65536 := by decide
  intro d
  induction d with
  | zero =>
    intro i out h1 h2 hl ho hv
    refine ⟨out, Ev.step (f := fun _ => some out) (fun k => ?_) (Ev.now _), by omega, ho, by rw [hv, List.take_of_length_le (by omega)]⟩
    simp only [rf_limbs.l0]
    rw [if_neg (by omega)]
  | succ d ih =>
    intro i out h1 h2 hl ho hv
    have h2' := h2 (by omega)
    have g1 : ((2 * i : Nat) : Int) < (x.length : Int) := by omega
    have g2 : (0 : Int) ≤ ((2 * i : Nat) : Int) := by omega
    have g3 : out.length < 35184372088832 := by omega
    have g4 : x.length ≤ 2 * (i + 1) + 2 * d := by omega
    have g5 : 0 < d → 2 * (i + 1) + 2 * d < x.length + 2 := by omega
    have e1 : ∀ _ : Unit, wrap64 (((2 * i : Nat) : Int) + 1) = ((2 * i + 1 : Nat) : Int) := fun _ => by rw [w64 (by omega) (by omega)]; omega
    have e2 : ∀ _ : Unit, wrap64 (((2 * i : Nat) : Int) + 2) = ((2 * (i + 1) : Nat) : Int) := fun _ => by rw [w64 (by omega) (by omega)]; omega
    have ha := hx.getD hB (2 * i)
    have hb := hx.getD hB (2 * i + 1)
    have hv2 : val 65536 (x.take (2 * (i + 1))) = val 65536 (x.take (2 * i)) + 65536 ^ (2 * i) * (x.getD (2 * i) 0 + 65536 * x.getD (2 * i + 1) 0) := by
      have : 2 * (i + 1) = 2 * i + 1 + 1 := by omega
      rw [this, val_take_succ', val_take_succ', Int.pow_succ]
      generalize (65536 : Int) ^ (2 * i) = p
      grind
    obtain ⟨r, hr, r1, r2, r3⟩ := ih (i + 1) (out ++ [x.getD (2 * i) 0 + 65536 * x.getD (2 * i + 1) 0]) g4 g5 (by rw [List.length_append, List.length_singleton, hl]) (lim_nrm_snoc ho ⟨by omega, by omega⟩) (by
      rw [val_snoc, hv, hv2, hl, Int.pow_mul, show (65536 : Int) ^ 2 = 4294967296 from rfl])
    refine ⟨r, Ev.step (f := fun k => rf_limbs.l0 k x (out ++ [x.getD (2 * i) 0 + 65536 * x.getD (2 * i + 1) 0]) ((2 * (i + 1) : Nat) : Int)) (fun k => ?_) hr, by omega, r2, r3⟩
    simp only [rf_limbs.l0]
    rw [if_pos g1, if_pos g2, e1 (), rdigit, Option.bind_some, if_pos g3, rd_getD, u32_pair ha.1 ha.2 hb.1 hb.2, e2 ()]
theorem limbs_ev (x : List Int) (hx : Lim 65536 x) (nx : Nrm x) (hL : x.length ≤ 137438953472) :
    ∃ r, Ev (fun k => rf_limbs.f k x) r ∧ Lim 4294967296 r ∧ Nrm r ∧ val 4294967296 r = val 65536 x ∧ r.length = (x.length + 1) / 2 := by
  obtain ⟨r, h1, h2, h3, h4⟩ := limbs_loop x hx hL ((x.length + 1) / 2) 0 [] (by omega) (by omega) rfl (lim_nil _) (by simp [val])
  refine ⟨r, h1, h3, nrm_of_val (by decide) h3 (fun hr => ?_), h4, by omega⟩
  have hx0 : x ≠ [] := by
    rintro rfl
    exact hr (List.length_eq_zero_iff.1 (by rw [h2]; rfl))
  have h5 := val_ge (by decide) hx nx hx0
  have hl : x.length ≠ 0 := fun h' => hx0 (List.length_eq_zero_iff.1 h')
  have h6 : (4294967296 : Int) ^ (r.length - 1) = 65536 ^ (2 * (r.length - 1)) := by rw [Int.pow_mul]; rfl
  have h7 := pow_mono' (B := 65536) (by decide) (show 2 * (r.length - 1) ≤ x.length - 1 by omega)
  rw [h4, h6]
  omega
theorem Fault_ev (neg : Bool) (num den : List Int) (hn : Lim 4294967296 num) (hd : Lim 4294967296 den) : Ev (fun k => rf_Fault.f k neg num den) (fault neg num den) := by
  have hB : (0 : Int) < 4294967296 := by decide
  by_cases s1 : num.length > 128
  · rw [fault_size (Or.inl s1)]
    refine Ev.congr (f := fun k => rf_Fault.j0 k true neg num den) (fun k => ?_) (Ev.step (f := fun _ => some 3) (fun k => ?_) (Ev.now _))
    · unfold rf_Fault.f; rw [if_pos (by omega)]
    · simp only [rf_Fault.j0]; rw [if_pos trivial]
  · by_cases s2 : den.length > 128
    · rw [fault_size (Or.inr s2)]
      refine Ev.congr (f := fun k => rf_Fault.j0 k true neg num den) (fun k => ?_) (Ev.step (f := fun _ => some 3) (fun k => ?_) (Ev.now _))
      · unfold rf_Fault.f; rw [if_neg (by omega), decide_eq_true (by omega)]
      · simp only [rf_Fault.j0]; rw [if_pos trivial]
    · have hj0 : ∀ r, Ev (fun k => rf_Fault.j0 k false neg num den) r → Ev (fun k => rf_Fault.f k neg num den) r := fun r h =>
        Ev.congr (fun k => by unfold rf_Fault.f; rw [if_neg (by omega), decide_eq_false (by omega)]) h
      have hbad : Ev (fun k => rf_Fault.j1 k true neg num den) 2 := Ev.step (f := fun _ => some 2) (fun k => by simp only [rf_Fault.j1]; rw [if_pos trivial]) (Ev.now _)
      by_cases c3 : den = []
      · rw [fault_bad (by omega) (by omega) (fun h => h.d0 c3)]
        refine hj0 _ (Ev.step (fun k => ?_) hbad)
        simp only [rf_Fault.j0]
        rw [if_neg (by decide), c3, if_pos (by rfl)]
      · have hdl : den.length ≠ 0 := fun h' => c3 (List.length_eq_zero_iff.1 h')
        by_cases c2 : Nrm den
        · have hs0 : ∀ k, rf_Fault.j0 (k + 1) false neg num den = (if (num.length : Int) > 0 then (if 0 ≤ (wrap64 ((num.length : Int) - 1)) then (if (wrap64 ((num.length : Int) - 1)) < (num.length : Int) then (rf_Fault.j1 k ((rd num (wrap64 ((num.length : Int) - 1))) == 0) neg num den) else (none)) else (none)) else (rf_Fault.j1 k false neg num den)) := by
            intro k
            simp only [rf_Fault.j0]
            rw [if_neg (by decide), if_neg (by omega), last_at c3 (by omega), if_pos (by omega), if_pos (by omega), rd_getD, if_neg ((nrm_last c3).1 c2)]
          by_cases c1 : Nrm num
          · have hs1 : ∀ k, rf_Fault.j0 (k + 1) false neg num den = rf_Fault.j1 k false neg num den := by
              intro k
              rw [hs0]
              by_cases c4 : num = []
              · rw [c4, if_neg (by decide)]
              · have hnl : num.length ≠ 0 := fun h' => c4 (List.length_eq_zero_iff.1 h')
                have hz : (num.getD (num.length - 1) 0 == 0) = false := by rw [beq_eq_false_iff_ne]; exact (nrm_last c4).1 c1
                rw [if_pos (by omega), last_at c4 (by omega), if_pos (by omega), if_pos (by omega), rd_getD, hz]
            refine hj0 _ (Ev.step hs1 ?_)
            obtain ⟨a, a1, a2, a3, a4, a5⟩ := natOf_ev num hn (by omega)
            obtain ⟨b, b1, b2, b3, b4, b5⟩ := natOf_ev den hd (by omega)
            have haz : a = [] ↔ num = [] := by rw [← val_eq_zero (by decide) a2 a3, a4, val_eq_zero hB hn c1]
            obtain ⟨g, g1, g2, g3, g4⟩ := GcdNat_ev a b a2 b2 a3 b3 (by omega) (by omega)
            rw [a4, b4] at g4
            have hdp := val_pos hB hd c2 c3
            have hgl : g.length ≤ b.length := by
              rcases Nat.lt_or_ge b.length g.length with h | h
              · have h5 := len_lt_val (B := 65536) (by decide) b2 g2 g3 h
                rw [g4, b4] at h5
                have h6 := Nat.gcd_le_right (val 4294967296 num).toNat (show 0 < (val 4294967296 den).toNat by omega)
                omega
              · exact h
            have hcg := CmpNat_ev g [1] g2 (one_lim (by decide)) (by omega) (by decide)
            rw [val_one, g4] at hcg
            have hcb := CmpNat_ev b [1] b2 (one_lim (by decide)) (by omega) (by decide)
            rw [val_one, b4] at hcb
            have hj2s : ∀ r : Int, (if cmpI ((Nat.gcd (val 4294967296 num).toNat (val 4294967296 den).toNat : Nat) : Int) 1 = 0 then (some 0 : Option Int) else some 2) = some r → Ev (fun k => rf_Fault.j2 k a b false) r := by
              intro r hr
              refine Ev.step (f := fun k => ((rf_GcdNat.f k a b).bind fun t612 => ((rf_CmpNat.f k t612 (([1] : List Int))).bind fun t618 => (if t618 = 0 then (some 0) else (some 2))))) (fun k => ?_) (Ev.bind (f := fun k t612 => ((rf_CmpNat.f k t612 (([1] : List Int))).bind fun t618 => (if t618 = 0 then (some 0) else (some 2)))) g1 (Ev.bind (f := fun _ t618 => (if t618 = 0 then (some 0) else (some 2))) hcg (Ev.const hr)))
              simp only [rf_Fault.j2]; rw [if_neg (by decide)]
            have hcz : cmpI ((Nat.gcd (val 4294967296 num).toNat (val 4294967296 den).toNat : Nat) : Int) 1 = 0 ↔ Nat.gcd (val 4294967296 num).toNat (val 4294967296 den).toNat = 1 := by
              unfold cmpI
              generalize Nat.gcd (val 4294967296 num).toNat (val 4294967296 den).toNat = z
              by_cases h2 : (z : Int) < 1
              · rw [if_pos h2]; omega
              · rw [if_neg h2]
                by_cases h3 : (z : Int) > 1
                · rw [if_pos h3]; omega
                · rw [if_neg h3]; omega
            have hj2a : Nat.gcd (val 4294967296 num).toNat (val 4294967296 den).toNat = 1 → Ev (fun k => rf_Fault.j2 k a b false) 0 := fun h => hj2s 0 (by rw [if_pos (hcz.2 h)])
            have hj2b : ¬ Nat.gcd (val 4294967296 num).toNat (val 4294967296 den).toNat = 1 → Ev (fun k => rf_Fault.j2 k a b false) 2 := fun h => hj2s 2 (by rw [if_neg (fun h' => h (hcz.1 h'))])
            have hj2t : Ev (fun k => rf_Fault.j2 k a b true) 2 := Ev.step (f := fun _ => some 2) (fun k => by simp only [rf_Fault.j2]; rw [if_pos trivial]) (Ev.now _)
            refine Ev.step (f := fun k => ((rf_natOf.f k num).bind fun t602 => ((rf_natOf.f k den).bind fun t605 => (if (t602.length : Int) = 0 then (if neg = true then (rf_Fault.j2 k t602 t605 true) else ((rf_CmpNat.f k t605 (([1] : List Int))).bind fun t611 => (rf_Fault.j2 k t602 t605 (t611 != 0)))) else (rf_Fault.j2 k t602 t605 false))))) (fun k => by simp only [rf_Fault.j1]; rw [if_neg (by decide)]) ?_
            refine Ev.bind (f := fun k t602 => ((rf_natOf.f k den).bind fun t605 => (if (List.length t602 : Int) = 0 then (if neg = true then (rf_Fault.j2 k t602 t605 true) else ((rf_CmpNat.f k t605 (([1] : List Int))).bind fun t611 => (rf_Fault.j2 k t602 t605 (t611 != 0)))) else (rf_Fault.j2 k t602 t605 false)))) a1 ?_
            refine Ev.bind (f := fun k t605 => (if (a.length : Int) = 0 then (if neg = true then (rf_Fault.j2 k a t605 true) else ((rf_CmpNat.f k t605 (([1] : List Int))).bind fun t611 => (rf_Fault.j2 k a t605 (t611 != 0)))) else (rf_Fault.j2 k a t605 false))) b1 ?_
            by_cases c4 : num = []
            · have ha0 : a = [] := haz.2 c4
              have hv0 : val 4294967296 num = 0 := by rw [c4]; rfl
              have hvd := val_nonneg hB hd
              have hl0 : (a.length : Int) = 0 := by rw [ha0]; rfl
              by_cases c5 : neg = true
              · rw [fault_bad (by omega) (by omega) (fun h => by have := h.ng c4; rw [c5] at this; cases this)]
                exact Ev.congr (fun k => by rw [if_pos hl0, if_pos c5]) hj2t
              · refine Ev.congr (fun k => by rw [if_pos hl0, if_neg c5]) (Ev.bind (f := fun k t611 => (rf_Fault.j2 k a b (t611 != 0))) hcb ?_)
                by_cases c6 : val 4294967296 den = 1
                · have hg1 : Nat.gcd (val 4294967296 num).toNat (val 4294967296 den).toNat = 1 := by rw [hv0, c6]; rfl
                  rw [fault_can ⟨by omega, by omega, c1, c2, c3, fun _ => by cases neg <;> simp_all, hg1⟩]
                  have e : (cmpI (val 4294967296 den) 1 != 0) = false := by rw [c6]; rfl
                  rw [e]
                  exact hj2a hg1
                · rw [fault_bad (by omega) (by omega) (fun h => c6 (by have := h.gc; rw [hv0, Int.toNat_zero, Nat.gcd_zero_left] at this; omega))]
                  have e : (cmpI (val 4294967296 den) 1 != 0) = true := by
                    unfold cmpI
                    by_cases h2 : val 4294967296 den < 1
                    · rw [if_pos h2]; rfl
                    · rw [if_neg h2, if_pos (by omega)]; rfl
                  rw [e]
                  exact hj2t
            · have ha0 : a ≠ [] := fun h => c4 (haz.1 h)
              have hl0 : ¬ (a.length : Int) = 0 := fun h => ha0 (List.length_eq_zero_iff.1 (by omega))
              refine Ev.congr (f := fun k => rf_Fault.j2 k a b false) (fun k => by rw [if_neg hl0]) ?_
              by_cases c6 : Nat.gcd (val 4294967296 num).toNat (val 4294967296 den).toNat = 1
              · rw [fault_can ⟨by omega, by omega, c1, c2, c3, fun h => absurd h c4, c6⟩]
                exact hj2a c6
              · rw [fault_bad (by omega) (by omega) (fun h => c6 h.gc)]
                exact hj2b c6
          · rw [fault_bad (by omega) (by omega) (fun h => c1 h.nn)]
            refine hj0 _ (Ev.step (fun k => ?_) hbad)
            rw [hs0]
            have c4 : num ≠ [] := fun h => c1 (by rw [h]; exact nrm_nil)
            have hnl : num.length ≠ 0 := fun h' => c4 (List.length_eq_zero_iff.1 h')
            have hz : (num.getD (num.length - 1) 0 == 0) = true := by
              rw [beq_iff_eq]; exact Decidable.not_not.1 (fun h => c1 ((nrm_last c4).2 h))
            rw [if_pos (by omega), last_at c4 (by omega), if_pos (by omega), if_pos (by omega), rd_getD, hz]
        · rw [fault_bad (by omega) (by omega) (fun h => c2 h.nd)]
          refine hj0 _ (Ev.step (fun k => ?_) hbad)
          simp only [rf_Fault.j0]
          rw [if_neg (by decide), if_neg (by omega), last_at c3 (by omega), if_pos (by omega), if_pos (by omega), rd_getD, if_pos (Decidable.not_not.1 (fun h => c2 ((nrm_last c3).2 h)))]
theorem divnat_sub (a b : List Int) (hb : Lim 65536 b) (nb : Nrm b) (lb : b.length ≤ 1048576) (la : a.length ≤ 1048576) (i : Nat) (hi : i < 16 * a.length) (q u : List Int) (Q : Int) (hq : Lim 65536 q) (lq : q.length = a.length) (hQ : val 65536 q = Q * 2 ^ (i + 1))
    (hu : Lim 65536 u) (nu : Nrm u) (lu : u.length ≤ 1048578) (hu2 : val 65536 u < 2 * val 65536 b) (hA : val 65536 a / 2 ^ i = 2 * Q * val 65536 b + val 65536 u) (R : List Int × List Int)
    (hR : ∀ (q' r' : List Int) (Q' : Int), Lim 65536 q' → q'.length = a.length → Lim 65536 r' → Nrm r' → val 65536 r' < val 65536 b → val 65536 q' = Q' * 2 ^ i → val 65536 a / 2 ^ i = Q' * val 65536 b + val 65536 r' → Ev (fun k => rf_DivNat.l0 k a b q' r' ((i : Int) - 1)) R) :
    Ev (fun k => rf_DivNat.j1 k a b q u (i : Int)) R := by
  have e0 : wrap64 ((i : Int) - 1) = (i : Int) - 1 := w64 (by omega) (by omega)
  refine Ev.step (f := fun k => (rf_CmpNat.f k u b).bind fun t672 => (if t672 ≥ 0 then ((rf_SubNat.f k u b).bind fun t673 => (if 0 ≤ (wrap64 (Int.tdiv (i : Int) 16)) then (if (wrap64 (Int.tdiv (i : Int) 16)) < (q.length : Int) then (if 0 ≤ (Int.tmod (i : Int) 16) then (rf_DivNat.l0 k a b (q.set ((wrap64 (Int.tdiv (i : Int) 16)) : Int).toNat (Go.bits .or .i64 (rd q (wrap64 (Int.tdiv (i : Int) 16))) (shl .i64 1 (Int.tmod (i : Int) 16)))) t673 (wrap64 ((i : Int) - 1))) else (none)) else (none)) else (none))) else (rf_DivNat.l0 k a b q u (wrap64 ((i : Int) - 1))))) (fun k => by simp only [rf_DivNat.j1]) ?_
  refine Ev.bind (f := fun k t672 => (if t672 ≥ 0 then ((rf_SubNat.f k u b).bind fun t673 => (if 0 ≤ (wrap64 (Int.tdiv (i : Int) 16)) then (if (wrap64 (Int.tdiv (i : Int) 16)) < (q.length : Int) then (if 0 ≤ (Int.tmod (i : Int) 16) then (rf_DivNat.l0 k a b (q.set ((wrap64 (Int.tdiv (i : Int) 16)) : Int).toNat (Go.bits .or .i64 (rd q (wrap64 (Int.tdiv (i : Int) 16))) (shl .i64 1 (Int.tmod (i : Int) 16)))) t673 (wrap64 ((i : Int) - 1))) else (none)) else (none)) else (none))) else (rf_DivNat.l0 k a b q u (wrap64 ((i : Int) - 1))))) (CmpNat_ev u b hu hb (by omega) (by omega)) ?_
  by_cases c : val 65536 u < val 65536 b
  · refine Ev.congr (f := fun k => rf_DivNat.l0 k a b q u ((i : Int) - 1)) (fun k => ?_) (hR q u (2 * Q) hq lq hu nu c (by rw [hQ, Int.pow_succ]; generalize (2 : Int) ^ i = p; grind) hA)
    have h1 : cmpI (val 65536 u) (val 65536 b) = -1 := if_pos c
    rw [h1, if_neg (by decide), e0]
  · have h1 : cmpI (val 65536 u) (val 65536 b) ≥ 0 := by unfold cmpI; rw [if_neg c]; split <;> omega
    obtain ⟨s, s1, s2, s3, s4, s5⟩ := SubNat_ev u b hu hb (by omega) (by omega)
    obtain ⟨v, v1, v2, v3, v4⟩ := rset_bit hq i (by omega) (by rw [hQ]; exact Int.mul_emod_left _ _)
    have e1 : wrap64 (Int.tdiv (i : Int) 16) = ((i / 16 : Nat) : Int) := by rw [Int.tdiv_eq_ediv_of_nonneg (by omega), w64 (by omega) (by omega)]; omega
    have e2 : Int.tmod (i : Int) 16 = ((i % 16 : Nat) : Int) := by rw [Int.tmod_eq_emod_of_nonneg (by omega)]; omega
    refine Ev.congr (f := fun k => (rf_SubNat.f k u b).bind fun t673 => rf_DivNat.l0 k a b (q.set (i / 16) v) t673 ((i : Int) - 1)) (fun k => ?_) (Ev.bind (f := fun k t673 => rf_DivNat.l0 k a b (q.set (i / 16) v) t673 ((i : Int) - 1)) s1 (hR (q.set (i / 16) v) s (2 * Q + 1) (hq.set _ ⟨v2, v3⟩) (by rw [List.length_set, lq]) s2 s3 (by omega) (by rw [v4, hQ, Int.pow_succ]; generalize (2 : Int) ^ i = p; grind) (by rw [hA, s4]; generalize val 65536 u = x; generalize val 65536 b = y; grind)))
    have g1 : (0 : Int) ≤ ((i / 16 : Nat) : Int) := by omega
    have g2 : ((i / 16 : Nat) : Int) < (q.length : Int) := by omega
    have g3 : (0 : Int) ≤ ((i % 16 : Nat) : Int) := by omega
    rw [if_pos h1, e1, e2, e0]
    simp only [if_pos g1, if_pos g2, if_pos g3, rd_getD, v1, Int.toNat_natCast]
theorem same_val {B : Int} (hB : 0 < B) : ∀ {xs ys : List Int}, Lim B xs → Lim B ys → xs.length = ys.length → val B xs = val B ys → xs = ys
  | [], [], _, _, _, _ => rfl
  | [], _ :: _, _, _, h, _ => by cases h
  | _ :: _, [], _, _, h, _ => by cases h
  | x :: xs, y :: ys, hx, hy, h, hv => by
    obtain ⟨a1, a2⟩ := lim_cons.1 hx
    obtain ⟨b1, b2⟩ := lim_cons.1 hy
    obtain ⟨e, e'⟩ := digit_unique a1 b1 hv
    rw [e, same_val hB a2 b2 (by simpa using h) e']
theorem divnat_loop (a b : List Int) (ha : Lim 65536 a) (hb : Lim 65536 b) (nb : Nrm b) (lb : b.length ≤ 1048576) (la : a.length ≤ 1048576) : ∀ (i : Nat) (q r : List Int) (Q : Int), i ≤ 16 * a.length → Lim 65536 q → q.length = a.length → Lim 65536 r → Nrm r → val 65536 r < val 65536 b → val 65536 q = Q * 2 ^ i → val 65536 a / 2 ^ i = Q * val 65536 b + val 65536 r →
    ∃ q' r', Ev (fun k => rf_DivNat.l0 k a b q r ((i : Int) - 1)) (trim q', r') ∧ Lim 65536 q' ∧ q'.length = a.length ∧ Lim 65536 r' ∧ Nrm r' ∧ val 65536 r' < val 65536 b ∧ val 65536 a = val 65536 q' * val 65536 b + val 65536 r' := by
  have hB : (0 : Int) < 65536 := by decide
  intro i
  induction i with
  | zero =>
    intro q r Q _ hq lq hr nr hlt hQ hA
    rw [Int.pow_zero, Int.mul_one] at hQ
    rw [Int.pow_zero, Int.ediv_one] at hA
    refine ⟨q, r, Ev.step (f := fun k => (rf_trim.f k q).bind fun t => some (t, r)) (fun k => ?_) (Ev.bind (f := fun _ t => some (t, r)) (rtrim_ev q (by omega)) (Ev.now _)), hq, lq, hr, nr, hlt, by rw [hQ]; exact hA⟩
    simp only [rf_DivNat.l0]
    rw [if_neg (by decide)]
  | succ i ih =>
    intro q r Q hi hq lq hr nr hlt hQ hA
    have e1 : (((i + 1 : Nat) : Int) - 1) = (i : Int) := by omega
    have rl : r.length ≤ b.length := by
      rcases Nat.lt_or_ge b.length r.length with h | h
      · have := len_lt_val hB hb hr nr h
        omega
      · exact h
    have r0 := val_nonneg hB hr
    obtain ⟨s, s1, s2, s3, s4, s5⟩ := ShlNat_ev r 1 hr (by omega)
    rw [Int.pow_one] at s4
    have hbit := rbit_ev ha i (by omega)
    obtain ⟨x, hx⟩ : ∃ x, x = val 65536 a / 2 ^ i := ⟨_, rfl⟩
    have hx2 : val 65536 a / 2 ^ (i + 1) = x / 2 := by rw [hx, Int.pow_succ, Int.ediv_ediv_of_nonneg (Int.le_of_lt (Int.pow_pos (by decide)))]
    rw [hx2] at hA
    rw [← hx] at hbit
    have key : ∃ u, Lim 65536 u ∧ Nrm u ∧ u.length ≤ 1048578 ∧ val 65536 u = 2 * val 65536 r + x % 2 ∧ ∀ R, Ev (fun k => rf_DivNat.j1 k a b q u (i : Int)) R → Ev (fun k => if x % 2 = 1 then ((rf_AddNat.f k s (([1] : List Int))).bind fun t669 => (rf_DivNat.j1 k a b q t669 (i : Int))) else (rf_DivNat.j1 k a b q s (i : Int))) R := by
      by_cases c : x % 2 = 1
      · obtain ⟨u, u1, u2, u3, u4, u5⟩ := AddNat_ev s [1] s2 (fun y hy => by rw [List.mem_singleton] at hy; omega) (by omega) (by decide)
        refine ⟨u, u2, u3, ?_, ?_, fun R hR => Ev.congr (fun k => if_pos c) (Ev.bind (f := fun k t669 => rf_DivNat.j1 k a b q t669 (i : Int)) u1 hR)⟩
        · simp only [List.length_singleton] at u5; omega
        · rw [u4, s4]; simp [val]; omega
      · refine ⟨s, s2, s3, by omega, by omega, fun R hR => Ev.congr (fun k => if_neg c) hR⟩
    obtain ⟨u, u1, u2, u3, u4, u5⟩ := key
    have step : ∀ R, Ev (fun k => rf_DivNat.j1 k a b q u (i : Int)) R → Ev (fun k => rf_DivNat.l0 k a b q r (((i + 1 : Nat) : Int) - 1)) R := by
      intro R hR
      rw [e1]
      refine Ev.step (f := fun k => (rf_ShlNat.f k r 1).bind fun t662 => (if x % 2 = 1 then ((rf_AddNat.f k t662 (([1] : List Int))).bind fun t669 => (rf_DivNat.j1 k a b q t669 (i : Int))) else (rf_DivNat.j1 k a b q t662 (i : Int)))) (fun k => ?_) ?_
      · simp only [rf_DivNat.l0]
        rw [if_pos (by omega)]
        simp only [hbit, Option.bind_some]
      · exact Ev.bind (f := fun k t662 => (if x % 2 = 1 then ((rf_AddNat.f k t662 (([1] : List Int))).bind fun t669 => (rf_DivNat.j1 k a b q t669 (i : Int))) else (rf_DivNat.j1 k a b q t662 (i : Int)))) s1 (u5 R hR)
    have hxA : x = 2 * Q * val 65536 b + val 65536 u := by
      rw [u4]
      have h1 : x = 2 * (x / 2) + x % 2 := by omega
      rw [hA] at h1
      refine h1.trans ?_
      rw [Int.mul_add, ← Int.mul_assoc]
      omega
    by_cases c : val 65536 u < val 65536 b
    · obtain ⟨q', r', h1, h2⟩ := ih q u (2 * Q) (by omega) hq lq u1 u2 c (by rw [hQ, Int.pow_succ]; generalize (2 : Int) ^ i = p; grind) (by rw [← hx]; exact hxA)
      refine ⟨q', r', step _ (divnat_sub a b hb nb lb la i (by omega) q u Q hq lq hQ u1 u2 u3 (by omega) (by rw [← hx]; exact hxA) _ ?_), h2⟩
      intro q'' r'' Q'' a1 a2 a3 a4 a5 a6 a7
      have p2 : (0 : Int) < 2 ^ i := Int.pow_pos (by decide)
      have pr := val_nonneg hB a3
      have pu := val_nonneg hB u1
      have hQQ : Q'' = 2 * Q ∧ val 65536 r'' = val 65536 u := by
        rw [← hx, hxA] at a7
        have hb0 : 0 < val 65536 b := by omega
        have d1 : (2 * Q * val 65536 b + val 65536 u) / val 65536 b = 2 * Q := by rw [Int.add_comm, Int.add_mul_ediv_right _ _ (by omega), Int.ediv_eq_zero_of_lt pu c, Int.zero_add]
        have d2 : (Q'' * val 65536 b + val 65536 r'') / val 65536 b = Q'' := by rw [Int.add_comm, Int.add_mul_ediv_right _ _ (by omega), Int.ediv_eq_zero_of_lt pr a5, Int.zero_add]
        rw [a7, d2] at d1
        subst d1
        exact ⟨rfl, by omega⟩
      have eq1 : q'' = q := by
        refine same_val hB a1 hq (by rw [a2, lq]) ?_
        rw [a6, hQQ.1, hQ, Int.pow_succ]
        generalize (2 : Int) ^ i = p
        grind
      have eq2 : r'' = u := val_inj hB a3 u1 a4 u2 hQQ.2
      rw [eq1, eq2]
      exact h1
    · obtain ⟨s', t1, t2, t3, t4, t5⟩ := SubNat_ev u b u1 hb (by omega) (by omega)
      obtain ⟨v, v1, v2, v3, v4⟩ := rset_bit hq i (by omega) (by rw [hQ]; exact Int.mul_emod_left _ _)
      have pb := val_nonneg hB hb
      have hu2 : val 65536 u < 2 * val 65536 b := by omega
      obtain ⟨q', r', h1, h2⟩ := ih (q.set (i / 16) v) s' (2 * Q + 1) (by omega) (hq.set _ ⟨v2, v3⟩) (by rw [List.length_set, lq]) t2 t3 (by omega) (by rw [v4, hQ, Int.pow_succ]; generalize (2 : Int) ^ i = p; grind) (by rw [← hx, hxA, t4]; generalize val 65536 u = x; generalize val 65536 b = y; grind)
      refine ⟨q', r', step _ (divnat_sub a b hb nb lb la i (by omega) q u Q hq lq hQ u1 u2 u3 hu2 (by rw [← hx]; exact hxA) _ ?_), h2⟩
      intro q'' r'' Q'' a1 a2 a3 a4 a5 a6 a7
      have pr := val_nonneg hB a3
      have ps := val_nonneg hB t2
      have hQQ : Q'' = 2 * Q + 1 ∧ val 65536 r'' = val 65536 s' := by
        rw [← hx, hxA] at a7
        have hb0 : 0 < val 65536 b := by omega
        have e3 : 2 * Q * val 65536 b + val 65536 u = (2 * Q + 1) * val 65536 b + val 65536 s' := by rw [t4]; generalize val 65536 u = x; generalize val 65536 b = y; grind
        rw [e3] at a7
        have d1 : ((2 * Q + 1) * val 65536 b + val 65536 s') / val 65536 b = 2 * Q + 1 := by rw [Int.add_comm, Int.add_mul_ediv_right _ _ (by omega), Int.ediv_eq_zero_of_lt ps (by omega), Int.zero_add]
        have d2 : (Q'' * val 65536 b + val 65536 r'') / val 65536 b = Q'' := by rw [Int.add_comm, Int.add_mul_ediv_right _ _ (by omega), Int.ediv_eq_zero_of_lt pr a5, Int.zero_add]
        rw [a7, d2] at d1
        subst d1
        exact ⟨rfl, by omega⟩
      have eq1 : q'' = q.set (i / 16) v := by
        refine same_val hB a1 (hq.set _ ⟨v2, v3⟩) (by rw [a2, List.length_set, lq]) ?_
        rw [a6, hQQ.1, v4, hQ, Int.pow_succ]
        generalize (2 : Int) ^ i = p
        grind
      have eq2 : r'' = s' := val_inj hB a3 t2 a4 t3 hQQ.2
      rw [eq1, eq2]
      exact h1
theorem DivNat_ev (a b : List Int) (ha : Lim 65536 a) (na : Nrm a) (hb : Lim 65536 b) (nb : Nrm b) (b0 : b ≠ []) (la : a.length ≤ 1048576) (lb : b.length ≤ 1048576) :
    ∃ q r, Ev (fun k => rf_DivNat.f k a b) (q, r) ∧ Lim 65536 q ∧ Nrm q ∧ q.length ≤ a.length ∧ Lim 65536 r ∧ Nrm r ∧ val 65536 q = val 65536 a / val 65536 b ∧ val 65536 r = val 65536 a % val 65536 b := by
  have hB : (0 : Int) < 65536 := by decide
  have pb := val_pos hB hb nb b0
  have pa := val_nonneg hB ha
  obtain ⟨L, l1, l2, l3, l4⟩ := LenNat_ev a ha na (by omega)
  obtain ⟨q, r, h1, h2, h3, h4, h5, h6, h7⟩ := divnat_loop a b ha hb nb lb la L (List.replicate a.length 0) [] 0 l1 (lim_replicate hB _) (by simp) (lim_nil _) nrm_nil pb (by rw [val_replicate, Int.zero_mul]) (by rw [Int.ediv_eq_zero_of_lt pa l2]; simp [val])
  have hr0 := val_nonneg hB h4
  have d1 : val 65536 a / val 65536 b = val 65536 q := by rw [h7, Int.add_comm, Int.add_mul_ediv_right _ _ (by omega), Int.ediv_eq_zero_of_lt hr0 h6, Int.zero_add]
  have d2 : val 65536 a % val 65536 b = val 65536 r := by
    have := Int.mul_ediv_add_emod (val 65536 a) (val 65536 b)
    rw [d1, Int.mul_comm] at this
    omega
  refine ⟨trim q, r, ?_, lim_trim h2, nrm_trim _, by rw [← h3]; exact length_trim q, h4, h5, by rw [val_trim, d1], d2.symm⟩
  refine Ev.congr (f := fun k => (rf_LenNat.f k a).bind fun t658 => (rf_DivNat.l0 k a b (List.replicate a.length 0) ([] : List Int) (wrap64 (t658 - 1)))) (fun k => ?_) (Ev.bind (f := fun k t658 => (rf_DivNat.l0 k a b (List.replicate a.length 0) ([] : List Int) (wrap64 (t658 - 1)))) l4 ?_)
  · unfold rf_DivNat.f
    rw [if_pos (by omega), if_pos (by omega), Int.toNat_natCast]
  · rw [w64 (by omega) (by omega)]
    exact h1
end Go.Proofs.YtemnjgkicndmjaaDoor.Q
namespace Go.Proofs.YtemnjgkicndmjaaDoor.Q
open Go.RowKit Go.Proofs.YtemnjgkicndmjaaDoor.E Go.Proofs.YtemnjgkicndmjaaDoorW.PrintWords Go.Proofs.YtemnjgkicndmjaaDoorW.PrintLast Go.Proofs.YtemnjgkicndmjaaDoorW.PrintMore
set_option linter.unusedVariables false
abbrev RR := Rp 65536
theorem Made_c {neg : Bool} {p q : List Int} {N D : Int} (h : RR neg p q N D) (lp : p.length ≤ 137438953472) (lq : q.length ≤ 137438953472) :
    ∃ p' q', (∀ (R : Type) (K : ((Bool × List Int × List Int) × Int) → Option R), rf_Made.c R (neg, p, q) K = K (outM neg p' q')) ∧ Rep neg p' q' N D := by
  obtain ⟨x, x1, x2, x3, x4, x5⟩ := limbs_ev p h.lp h.np lp
  obtain ⟨y, y1, y2, y3, y4, y5⟩ := limbs_ev q h.lq h.nq lq
  refine ⟨x, y, fun R K => (rf_limbs.eq x1 _).trans ((rf_limbs.eq y1 _).trans ?_), x2, x3, y2, y3, ?_, by rw [x4, y4]; exact h.gc, ?_, by rw [x4, y4]; exact h.eq⟩
  · unfold outM
    by_cases c1 : x.length > 128
    · rw [if_neg (by simp; omega), if_pos (Or.inl c1)]
    · by_cases c2 : y.length > 128
      · rw [if_pos (by simp; omega), if_pos (by simp; omega), if_pos (Or.inr c2)]
      · rw [if_pos (by simp; omega), if_neg (by simp; omega), if_neg (by omega)]
  · rintro rfl
    have h1 := h.pos (by decide)
    rw [← y4] at h1
    exact absurd h1 (by decide)
  · rintro rfl
    refine h.ng ((val_eq_zero (by decide) h.lp h.np).1 ?_)
    rw [← x4]; rfl
theorem Fault_c (neg : Bool) (num den : List Int) (hn : Lim 4294967296 num) (hd : Lim 4294967296 den) {R : Type} (K : Int → Option R) : rf_Fault.c R (neg, num, den) K = K (fault neg num den) := rf_Fault.eq (Fault_ev neg num den hn hd) K
theorem Of_c {neg : Bool} {num den : List Int} (hn : Lim 4294967296 num) (hd : Lim 4294967296 den) (h : Can neg num den) :
    ∃ p q, (∀ (R : Type) (K : (Bool × List Int × List Int) → Option R), rf_Of.c R (neg, num, den) K = K (neg, p, q)) ∧ RR neg p q (sgn neg (val 4294967296 num)) (val 4294967296 den) ∧ val 65536 p = val 4294967296 num ∧ val 65536 q = val 4294967296 den ∧ p.length ≤ 256 ∧ q.length ≤ 256 ∧ (p = [] ↔ num = []) := by
  have l1 := h.ln
  have l2 := h.ld
  obtain ⟨p, p1, p2, p3, p4, p5⟩ := natOf_ev num hn (by omega)
  obtain ⟨q, q1, q2, q3, q4, q5⟩ := natOf_ev den hd (by omega)
  have hz : p = [] ↔ num = [] := by rw [← val_eq_zero (by decide) p2 p3, ← val_eq_zero (by decide) hn h.nn, p4]
  refine ⟨p, q, fun R K => (rf_natOf.eq p1 _).trans (rf_natOf.eq q1 _), ⟨p2, p3, q2, q3, ?_, by rw [p4, q4]; exact h.gc, fun h0 => h.ng (hz.1 h0), by rw [p4, q4]⟩, p4, q4, by omega, by omega, hz⟩
  rintro rfl
  have := h.pos hd
  rw [← q4] at this
  exact absurd this (by decide)
theorem Minus_c {na : Bool} {a da : List Int} {N D : Int} (h : RR na a da N D) : ∃ neg, (∀ (R : Type) (K : (Bool × List Int × List Int) → Option R), rf_Minus.c R (na, a, da) K = K (neg, a, da)) ∧ RR neg a da (-N) D ∧ sgn neg (val 65536 a) = -sgn na (val 65536 a) := by
  have key : ∀ neg : Bool, (a = [] → neg = false) → sgn neg (val 65536 a) = -sgn na (val 65536 a) → RR neg a da (-N) D ∧ sgn neg (val 65536 a) = -sgn na (val 65536 a) := fun neg h0 h1 => ⟨⟨h.lp, h.np, h.lq, h.nq, h.q0, h.gc, h0, by rw [h1, Int.neg_mul, Int.neg_mul, h.eq]⟩, h1⟩
  cases na with
  | true => exact ⟨false, fun R K => if_neg (by simp), key false (fun _ => rfl) (by unfold sgn; simp)⟩
  | false =>
    refine ⟨decide ((a.length : Int) > 0), fun R K => if_pos (by simp), key _ (fun h0 => by subst h0; rfl) ?_⟩
    by_cases h0 : a = []
    · subst h0; rfl
    · have : a.length ≠ 0 := fun h' => h0 (List.length_eq_zero_iff.1 h')
      rw [decide_eq_true (by omega)]
      unfold sgn
      simp
def Fl (neg : Bool) (A B : Int) (fl : Bool) : Int := if neg = true ∧ fl = true ∧ A % B ≠ 0 then A / B + 1 else A / B
theorem floored_c (neg : Bool) (a b : List Int) (fl : Bool) (ha : Lim 4294967296 a) (hb : Lim 4294967296 b) (na : Nrm a) (nb : Nrm b) (b0 : b ≠ []) (la : a.length ≤ 290) (lb : b.length ≤ 290) :
    ∃ n, (∀ (R : Type) (K : List Int → Option R), number_floored.c R (neg, a, b, fl) K = K n) ∧ Lim 4294967296 n ∧ Nrm n ∧ val 4294967296 n = Fl neg (val 4294967296 a) (val 4294967296 b) fl ∧ n.length ≤ 302 := by
  obtain ⟨q, r, q1, q2, q3, q4, q5, q6, q7, q8⟩ := DivMod_ev a b ha hb na nb b0 (by omega) (by omega)
  have hr : r = [] ↔ val 4294967296 a % val 4294967296 b = 0 := by rw [← q7]; exact (val_eq_zero (by decide) q4 q5).symm
  obtain ⟨n, n1, n2, n3, n4, n5⟩ := nadd_c q [1] q2 one_rep.1 (by omega) (by decide)
  rw [one_rep.2.2] at n4
  by_cases h : neg = true ∧ fl = true ∧ val 4294967296 a % val 4294967296 b ≠ 0
  · obtain ⟨rfl, rfl, h3⟩ := h
    have hl : r.length ≠ 0 := fun h' => h3 (hr.1 (List.length_eq_zero_iff.1 h'))
    refine ⟨n, fun R K => ?_, n2, n3, ?_, n5⟩
    · unfold number_floored.c
      refine (nat_DivMod.eq q1 _).trans ?_
      refine (if_pos rfl).trans ?_
      refine (if_pos rfl).trans ?_
      refine (if_pos (decide_eq_true (by dsimp only; omega))).trans ?_
      exact n1 R K
    · unfold Fl
      rw [if_pos ⟨rfl, rfl, h3⟩, n4, q6]
  · refine ⟨q, fun R K => ?_, q2, q3, ?_, by omega⟩
    · unfold number_floored.c
      refine (nat_DivMod.eq q1 _).trans ?_
      by_cases c1 : neg = true
      · refine (if_pos c1).trans ?_
        by_cases c2 : fl = true
        · refine (if_pos c2).trans ?_
          have c3 : val 4294967296 a % val 4294967296 b = 0 := Classical.not_not.1 fun c3 => h ⟨c1, c2, c3⟩
          have : r = [] := hr.2 c3
          exact if_neg (by rw [this]; simp)
        · exact if_neg c2
      · exact if_neg c1
    · unfold Fl
      rw [if_neg h, q6]
theorem ROne : Lim 65536 [1] ∧ Nrm [1] ∧ val 65536 [1] = 1 := ⟨one_lim (by decide), one_nrm, val_one _⟩
theorem IsInt_c {neg : Bool} {p q : List Int} (hq : Lim 65536 q) (nq : Nrm q) (lq : q.length ≤ 1000000) {R : Type} (K : Bool → Option R) : rf_IsInt.c R (neg, p, q) K = K (decide (q = [1])) := by
  have hc := CmpNat_ev q [1] hq ROne.1 (by omega) (by decide)
  rw [ROne.2.2] at hc
  refine (rf_CmpNat.eq hc _).trans ?_
  have e := eq_one (show (1 : Int) < 65536 by decide) hq nq
  have e2 : (cmpI (val 65536 q) 1 == 0) = decide (q = [1]) := by
    by_cases c : q = [1]
    · rw [e.2 c, decide_eq_true c]; rfl
    · have : val 65536 q ≠ 1 := fun h => c (e.1 h)
      rw [decide_eq_false c]
      have h2 : cmpI (val 65536 q) 1 ≠ 0 := fun h => this (cmpI_eq.1 h)
      simpa using h2
  rw [e2]
theorem rr_int {neg : Bool} {n : List Int} (hn : Lim 65536 n) (nn : Nrm n) (h0 : n = [] → neg = false) : RR neg n [1] (sgn neg (val 65536 n)) 1 :=
  ⟨hn, nn, ROne.1, ROne.2.1, by decide, by rw [ROne.2.2]; exact Nat.gcd_one_right _, h0, by rw [ROne.2.2]⟩
theorem wend (neg : Bool) (p : List Int) {R : Type} (K : Nm → Option R) : (if neg = true then K (decide ((p.length : Int) > 0), p, [1]) else K (false, p, [1])) = K (neg && decide (p ≠ []), p, [1]) := by
  cases neg with
  | false => rfl
  | true =>
    rw [if_pos rfl]
    cases p with
    | nil => rfl
    | cons x xs => rw [decide_eq_true (by simp only [List.length_cons]; omega)]; simp
theorem sgn_cut' (m : Bool) (n : List Int) : sgn (m && decide (n ≠ [])) (val 65536 n) = sgn m (val 65536 n) := by
  by_cases h : n = []
  · subst h
    have : val 65536 [] = 0 := rfl
    rw [this]
    unfold sgn
    cases m <;> simp
  · simp [h]
theorem Floor_c {neg : Bool} {p q : List Int} (hp : Lim 65536 p) (np : Nrm p) (hq : Lim 65536 q) (nq : Nrm q) (q0 : q ≠ []) (lp : p.length ≤ 50000) (lq : q.length ≤ 50000) :
    ∃ n, (∀ (R : Type) (K : Nm → Option R), rf_Floor.c R (neg, p, q) K = K (neg && decide (n ≠ []), n, [1])) ∧ Lim 65536 n ∧ Nrm n ∧ val 65536 n = Fl neg (val 65536 p) (val 65536 q) true ∧ n.length ≤ 50001 := by
  obtain ⟨d, r, d1, d2, d3, d4, d5, d6, d7, d8⟩ := DivNat_ev p q hp np hq nq q0 (by omega) (by omega)
  have hr : r = [] ↔ val 65536 p % val 65536 q = 0 := by rw [← d8]; exact (val_eq_zero (by decide) d5 d6).symm
  obtain ⟨n, n1, n2, n3, n4, n5⟩ := AddNat_ev d [1] d2 ROne.1 (by omega) (by decide)
  rw [ROne.2.2] at n4
  by_cases h : neg = true ∧ val 65536 p % val 65536 q ≠ 0
  · obtain ⟨rfl, h3⟩ := h
    have hl : r.length ≠ 0 := fun h' => h3 (hr.1 (List.length_eq_zero_iff.1 h'))
    refine ⟨n, fun R K => ?_, n2, n3, ?_, by have : ([1] : List Int).length = 1 := rfl; omega⟩
    · unfold rf_Floor.c
      refine (rf_DivNat.eq d1 _).trans ?_
      refine (if_pos rfl).trans ?_
      refine (if_pos (decide_eq_true (by dsimp only; omega))).trans ?_
      refine (rf_AddNat.eq n1 _).trans ?_
      exact wend true n K
    · unfold Fl
      rw [if_pos ⟨rfl, rfl, h3⟩, n4, d7]
  · refine ⟨d, fun R K => ?_, d2, d3, ?_, by omega⟩
    · unfold rf_Floor.c
      refine (rf_DivNat.eq d1 _).trans ?_
      by_cases c1 : neg = true
      · subst c1
        refine (if_pos rfl).trans ?_
        have c3 : val 65536 p % val 65536 q = 0 := Classical.not_not.1 fun c3 => h ⟨rfl, c3⟩
        have : r = [] := hr.2 c3
        refine (if_neg (by rw [this]; simp)).trans ?_
        exact wend true d K
      · refine (if_neg c1).trans ?_
        exact wend neg d K
    · unfold Fl
      rw [if_neg (fun h' => h ⟨h'.1, h'.2.2⟩), d7]
theorem sgn_zero (m : Bool) : sgn m 0 = 0 := by unfold sgn; cases m <;> rfl
theorem Fl_zero (m : Bool) (B : Int) (fl : Bool) : Fl m 0 B fl = 0 := by unfold Fl; simp
theorem rroot_loop (a : List Int) (ha : Lim 65536 a) (na : Nrm a) (la : a.length ≤ 256) : ∀ (j : Nat) (out : List Int), j ≤ 4000 → Lim 65536 out → out.length ≤ 1000 → val 65536 out + 2 ^ j ≤ 2 ^ 4000 → val 65536 out * val 65536 out ≤ val 65536 a → val 65536 a < (val 65536 out + 2 ^ j) * (val 65536 out + 2 ^ j) →
    ∃ r, Ev (fun k => rf_root.l0 k a out ((j : Int) - 1)) r ∧ Lim 65536 r ∧ r.length ≤ 1000 ∧ IsRoot (val 65536 a) (val 65536 r) ∧ (r = out ∨ Nrm r) := by
  have hB : (0 : Int) < 65536 := by decide
  intro j
  induction j with
  | zero =>
    intro out hj ho lo hs h1 h2
    refine ⟨out, ?_, ho, lo, ⟨val_nonneg hB ho, h1, by simpa using h2⟩, .inl rfl⟩
    refine Ev.step (f := fun _ => some out) (fun k => ?_) (Ev.now _)
    simp only [rf_root.l0]
    rw [if_neg (by omega)]
  | succ j ih =>
    intro out hj ho lo hs h1 h2
    have e1 : ((j + 1 : Nat) : Int) - 1 = (j : Int) := by omega
    have ew : wrap64 ((j : Int) - 1) = (j : Int) - 1 := w64 (by omega) (by omega)
    have v0 := val_nonneg hB ho
    have p0 : (0 : Int) < 2 ^ j := Int.pow_pos (by decide)
    have hp : (2 : Int) ^ (j + 1) = 2 ^ j * 2 := Int.pow_succ 2 j
    obtain ⟨t, t1, t2, t3, t4, t5⟩ := ShlNat_ev [1] j ROne.1 (by have : ([1] : List Int).length = 1 := rfl; omega)
    rw [ROne.2.2, Int.one_mul] at t4
    have l1 : ([1] : List Int).length = 1 := rfl
    obtain ⟨y, y1, y2, y3, y4, y5⟩ := AddNat_ev out t ho t2 (by omega) (by omega)
    rw [t4] at y4
    have ly : y.length ≤ 1000 := by
      refine small_len (by decide) y2 y3 ?_
      rw [y4]
      have h3 : (2 : Int) ^ 4000 < 65536 ^ 1000 := by
        rw [show (65536 : Int) = 2 ^ 16 from rfl, ← Int.pow_mul]
        have h4 : (2 : Int) ^ 4000 * 2 = 2 ^ 4001 := (Int.pow_succ 2 4000).symm
        have h5 : (2 : Int) ^ 4001 ≤ 2 ^ (16 * 1000) := pow_mono' (by decide) (by decide)
        have h6 : (0 : Int) < 2 ^ 4000 := Int.pow_pos (by decide)
        omega
      omega
    obtain ⟨z, z1, z2, z3, z4, z5⟩ := MulNat_ev y y y2 y2 (by omega)
    have hc := CmpNat_ev z a z2 ha (by omega) (by omega)
    have hstep : ∀ (R : List Int), Ev (fun k => (if cmpI (val 65536 z) (val 65536 a) ≤ 0 then (rf_root.l0 k a y ((j : Int) - 1)) else (rf_root.l0 k a out ((j : Int) - 1)))) R → Ev (fun k => rf_root.l0 k a out (((j + 1 : Nat) : Int) - 1)) R := by
      intro R hR
      rw [e1]
      refine Ev.step (f := fun k => (rf_ShlNat.f k (([1] : List Int)) (j : Int)).bind fun t2293 => ((rf_AddNat.f k out t2293).bind fun t2296 => ((rf_MulNat.f k t2296 t2296).bind fun t2299 => ((rf_CmpNat.f k t2299 a).bind fun t2302 => (if t2302 ≤ 0 then (rf_root.l0 k a t2296 ((j : Int) - 1)) else (rf_root.l0 k a out ((j : Int) - 1))))))) (fun k => by simp only [rf_root.l0]; rw [if_pos (by omega), ew]) ?_
      refine Ev.bind (f := fun k t2293 => ((rf_AddNat.f k out t2293).bind fun t2296 => ((rf_MulNat.f k t2296 t2296).bind fun t2299 => ((rf_CmpNat.f k t2299 a).bind fun t2302 => (if t2302 ≤ 0 then (rf_root.l0 k a t2296 ((j : Int) - 1)) else (rf_root.l0 k a out ((j : Int) - 1))))))) t1 ?_
      refine Ev.bind (f := fun k t2296 => ((rf_MulNat.f k t2296 t2296).bind fun t2299 => ((rf_CmpNat.f k t2299 a).bind fun t2302 => (if t2302 ≤ 0 then (rf_root.l0 k a t2296 ((j : Int) - 1)) else (rf_root.l0 k a out ((j : Int) - 1)))))) y1 ?_
      refine Ev.bind (f := fun k t2299 => ((rf_CmpNat.f k t2299 a).bind fun t2302 => (if t2302 ≤ 0 then (rf_root.l0 k a y ((j : Int) - 1)) else (rf_root.l0 k a out ((j : Int) - 1))))) z1 ?_
      exact Ev.bind (f := fun k t2302 => (if t2302 ≤ 0 then (rf_root.l0 k a y ((j : Int) - 1)) else (rf_root.l0 k a out ((j : Int) - 1)))) hc hR
    by_cases c : val 65536 z ≤ val 65536 a
    · obtain ⟨r, r1, r2, r3, r4, r5⟩ := ih y (by omega) y2 ly (by omega) (by rw [z4] at c; exact c) (by rw [y4, show val 65536 out + 2 ^ j + 2 ^ j = val 65536 out + 2 ^ (j + 1) by omega]; exact h2)
      exact ⟨r, hstep r (Ev.congr (fun k => if_pos (cmpI_le.2 c)) r1), r2, r3, r4, .inr (r5.elim (fun h => by rw [h]; exact y3) id)⟩
    · obtain ⟨r, r1, r2, r3, r4, r5⟩ := ih out (by omega) ho lo (by omega) h1 (by rw [z4, y4] at c; omega)
      exact ⟨r, hstep r (Ev.congr (fun k => if_neg (fun h => c (cmpI_le.1 h))) r1), r2, r3, r4, r5⟩
theorem rroot_c (a : List Int) (ha : Lim 65536 a) (na : Nrm a) (la : a.length ≤ 256) : ∃ r, (∀ (R : Type) (K : List Int → Option R), rf_root.c R a K = K r) ∧ Lim 65536 r ∧ Nrm r ∧ r.length ≤ 1000 ∧ IsRoot (val 65536 a) (val 65536 r) := by
  obtain ⟨L, l1, l2, l3, l4⟩ := LenNat_ev a ha na (by omega)
  have ew : wrap64 (wrap64 (Int.tdiv (L : Int) 2) + 1) = ((L / 2 + 2 : Nat) : Int) - 1 := by
    have h1 : (L : Int).tdiv 2 = ((L / 2 : Nat) : Int) := by rw [Int.tdiv_eq_ediv_of_nonneg (by omega)]; omega
    rw [h1, w64 (x := ((L / 2 : Nat) : Int)) (by omega) (by omega), w64 (by omega) (by omega)]
    omega
  obtain ⟨r, r1, r2, r3, r4, r5⟩ := rroot_loop a ha na (by omega) (L / 2 + 2) [] (by omega) (lim_nil _) (by decide) (by
      rw [show val 65536 [] = 0 from rfl, Int.zero_add]
      exact pow_mono' (by decide) (by omega)) (by rw [show val 65536 [] = 0 from rfl]; exact val_nonneg (by decide) ha) (by
      rw [show val 65536 [] = 0 from rfl, Int.zero_add, ← Int.pow_add]
      exact Int.lt_of_lt_of_le l2 (pow_mono' (by decide) (by omega)))
  refine ⟨r, fun R K => rf_root.eq ?_ K, r2, r5.elim (fun h => by rw [h]; exact nrm_nil) id, r3, r4⟩
  refine Ev.bind (f := fun k t2289 => rf_root.l0 k a ([] : List Int) (wrap64 ((wrap64 (Int.tdiv t2289 2)) + 1))) l4 ?_
  rw [ew]
  exact r1
noncomputable def wrong1 (na : Bool) (a da : List Int) : Int := if fault na a da = 0 then (if da = [1] then 0 else 7) else fault na a da
theorem int1_c (na : Bool) (a da : List Int) (ha : Lim 4294967296 a) (hda : Lim 4294967296 da) {R : Type} (K : Int → Option R) : number_integers1.c R (na, a, da) K = K (wrong1 na a da) := by
  have hc : ∀ (K : Int → Option R), number_check1.c R (na, a, da) K = K (fault na a da) := by
    intro K
    unfold number_check1.c
    refine (check_c na a da ha hda _).trans ?_
    by_cases h : fault na a da = 0
    · rw [h]; rfl
    · exact if_pos (by simpa using h)
  unfold number_integers1.c wrong1
  refine (hc _).trans ?_
  by_cases h : fault na a da = 0
  · rw [if_pos h, h]
    refine (if_neg (by decide)).trans ?_
    refine (isone_c da _).trans ?_
    by_cases c : da = [1]
    · rw [if_pos c]
      exact if_neg (by simp [c])
    · rw [if_neg c]
      exact if_pos (by simp [c])
  · rw [if_neg h]
    exact if_pos (by simpa using h)
theorem sameLimbs_loop (a b : List Int) (hl : a.length = b.length) (hL : a.length ≤ 1099511627776) : ∀ (d i : Nat), d + i = a.length → a.take i = b.take i → Ev (fun k => lw_sameLimbs.l0 k a b (i : Int)) (decide (a = b)) := by
  intro d
  induction d with
  | zero =>
    intro i hd h
    rw [List.take_of_length_le (by omega), List.take_of_length_le (by omega)] at h
    refine Ev.step (f := fun _ => some true) (fun k => ?_) (Ev.eq (Ev.now _) (by rw [decide_eq_true h]))
    simp only [lw_sameLimbs.l0]
    rw [if_neg (by omega)]
  | succ d ih =>
    intro i hd h
    have g1 : (i : Int) < (a.length : Int) := by omega
    have g2 : (0 : Int) ≤ (i : Int) := by omega
    have g3 : (i : Int) < (b.length : Int) := by omega
    have gw : ∀ _ : Unit, wrap64 ((i : Int) + 1) = ((i + 1 : Nat) : Int) := fun _ => by rw [w64 (by omega) (by omega)]; omega
    by_cases c : a.getD i 0 = b.getD i 0
    · refine Ev.step (f := fun k => lw_sameLimbs.l0 k a b ((i + 1 : Nat) : Int)) (fun k => ?_) (ih (i + 1) (by omega) (by rw [take_succ' _ _ (by omega), take_succ' _ _ (by omega), h, c]))
      simp only [lw_sameLimbs.l0]
      rw [if_pos g1, if_pos g2, if_pos g3, rd_getD, rd_getD, if_pos c, gw ()]
    · refine Ev.step (f := fun _ => some false) (fun k => ?_) (Ev.eq (Ev.now _) (by rw [decide_eq_false]; rintro rfl; exact c rfl))
      simp only [lw_sameLimbs.l0]
      rw [if_pos g1, if_pos g2, if_pos g3, rd_getD, rd_getD, if_neg c]
theorem sameLimbs_ev (a b : List Int) (hL : a.length ≤ 1099511627776) : Ev (fun k => lw_sameLimbs.f k a b) (decide (a = b)) := by
  by_cases hl : a.length = b.length
  · refine Ev.congr (fun k => ?_) (sameLimbs_loop a b hl hL a.length 0 (by omega) rfl)
    unfold lw_sameLimbs.f
    rw [if_pos (by omega)]; rfl
  · refine Ev.ret fun k => ?_
    unfold lw_sameLimbs.f
    rw [if_neg (by omega), decide_eq_false (fun h => hl (by rw [h]))]
theorem same_c (m : Bool) (a b : List Int) (n : Bool) (c d : List Int) (hL : a.length ≤ 1099511627776) (hM : b.length ≤ 1099511627776) {R : Type} (K : Bool → Option R) : lw_same.c R ((m, a, b), (n, c, d)) K = K (decide (m = n ∧ a = c ∧ b = d)) := by
  unfold lw_same.c
  by_cases h : m = n
  · refine (if_pos (by simpa using h)).trans ((lw_sameLimbs.eq (sameLimbs_ev a c hL) _).trans ?_)
    by_cases h2 : a = c
    · refine (if_pos (decide_eq_true h2)).trans ((lw_sameLimbs.eq (sameLimbs_ev b d hM) _).trans ?_)
      simp [h, h2]
    · refine (if_neg (by simp [h2])).trans ?_
      simp [h2]
  · refine (if_neg (by simpa using h)).trans ?_
    simp [h]
theorem outM_eq {neg neg' : Bool} {p q p' q' : List Int} {N D : Int} (h : Rep neg p q N D) (h' : Rep neg' p' q' N D) (hD : D ≠ 0) : outM neg p q = outM neg' p' q' := by
  obtain ⟨rfl, rfl, rfl⟩ := h.unique (by decide) h' hD
  rfl
def Short (x : (Bool × List Int × List Int) × Int) : Prop := x.1.2.1.length ≤ 128 ∧ x.1.2.2.length ≤ 128
theorem short_out (neg : Bool) (p q : List Int) : Short (outM neg p q) := by
  unfold outM Short
  split
  · exact ⟨by decide, by decide⟩
  · rename_i h
    refine ⟨?_, ?_⟩ <;> dsimp only <;> omega
theorem short_bad (e : Int) : Short (bad e) := ⟨Nat.zero_le _, Nat.zero_le _⟩
theorem same_self {x : (Bool × List Int × List Int) × Int} (h : Short x) {R : Type} (K : Bool → Option R) : lw_same.c R ((x.1.1, x.1.2.1, x.1.2.2), (x.1.1, x.1.2.1, x.1.2.2)) K = K true := by
  obtain ⟨h1, h2⟩ := h
  rw [same_c _ _ _ _ _ _ (by omega) (by omega)]
  simp
theorem arith_step {x : (Bool × List Int × List Int) × Int} (h : Short x) {R : Type} (A B L : Option R) :
    (if (x.2 != x.2) = false then (lw_same.c R ((x.1.1, x.1.2.1, x.1.2.2), (x.1.1, x.1.2.1, x.1.2.2)) fun t => (if (!t) = true then A else L)) else B) = L := by
  rw [if_pos (by simp)]
  refine (same_self h _).trans ?_
  exact if_neg (by decide)
def Both (na : Bool) (a da : List Int) (f : CF Nm (Nm × Int)) (op : Int) : Prop := ∃ r, Short r ∧ (∀ (R : Type) (K : (Nm × Int) → Option R), f R (na, a, da) K = K r) ∧ (∀ (R : Type) (K : (Nm × Int) → Option R), rf_One.c R (op, na, a, da) K = K r)
theorem both_of {na : Bool} {a da : List Int} {f : CF Nm (Nm × Int)} {op : Int} {N D : Int} (hD : D ≠ 0) (h1 : ∃ m p q, (∀ (R : Type) (K : (Nm × Int) → Option R), f R (na, a, da) K = K (outM m p q)) ∧ Rep m p q N D) (h2 : ∃ m p q, (∀ (R : Type) (K : (Nm × Int) → Option R), rf_One.c R (op, na, a, da) K = K (outM m p q)) ∧ Rep m p q N D) : Both na a da f op := by
  obtain ⟨m, p, q, a1, a2⟩ := h1
  obtain ⟨m', p', q', b1, b2⟩ := h2
  exact ⟨_, short_out m p q, a1, fun R K => by rw [b1, outM_eq b2 a2 hD]⟩
noncomputable def ROf (R : Type) (x : Nm) (K : (Nm × Int) → Option R) (L : Nm → Option R) : Option R :=
  rf_Fault.c R (x.1, x.2.1, x.2.2) fun t1 => (if (t1 != (0 : Int)) = true then K ((false, ([] : List Int), ([] : List Int)), t1) else (rf_Of.c R (x.1, x.2.1, x.2.2) L))
theorem ROf_bad {na : Bool} {a da : List Int} (ha : Lim 4294967296 a) (hda : Lim 4294967296 da) (h : fault na a da ≠ 0) {R : Type} (K : (Nm × Int) → Option R) (L : Nm → Option R) : ROf R (na, a, da) K L = K (bad (fault na a da)) := by
  unfold ROf
  refine (Fault_c na a da ha hda _).trans ?_
  exact if_pos (by simpa using h)
theorem ROf_ok {na : Bool} {a da : List Int} (ha : Lim 4294967296 a) (hda : Lim 4294967296 da) (ca : Can na a da) :
    ∃ x u, (∀ (R : Type) (K : (Nm × Int) → Option R) (L : Nm → Option R), ROf R (na, a, da) K L = L (na, x, u)) ∧ RR na x u (sgn na (val 4294967296 a)) (val 4294967296 da) ∧ val 65536 x = val 4294967296 a ∧ val 65536 u = val 4294967296 da ∧ x.length ≤ 256 ∧ u.length ≤ 256 ∧ (x = [] ↔ a = []) := by
  obtain ⟨x, u, x1, x2⟩ := Of_c ha hda ca
  refine ⟨x, u, fun R K L => ?_, x2⟩
  unfold ROf
  refine (Fault_c na a da ha hda _).trans ?_
  rw [fault_can ca]
  refine (if_neg (by decide)).trans ?_
  exact x1 R L
theorem one_n {R : Type} (x : Nm) (K : (Nm × Int) → Option R) : rf_One.c R (110, x) K = ROf R x K fun t2 => (rf_Minus.c R (t2.1, t2.2.1, t2.2.2) fun t3 => (rf_Made.c R (t3.1, t3.2.1, t3.2.2) K)) := rfl
theorem one_a {R : Type} (x : Nm) (K : (Nm × Int) → Option R) : rf_One.c R (97, x) K = ROf R x K fun t2 => (rf_Made.c R (false, t2.2.1, t2.2.2) K) := rfl
theorem one_s {R : Type} (x : Nm) (K : (Nm × Int) → Option R) : rf_One.c R (115, x) K = ROf R x K fun t2 => (rf_IsInt.c R (t2.1, t2.2.1, t2.2.2) fun t3 => (if (!t3) = true then K ((false, ([] : List Int), ([] : List Int)), (7 : Int)) else (if t2.1 = true then K ((false, ([] : List Int), ([] : List Int)), (1 : Int)) else (rf_root.c R t2.2.1 fun t4 => (rf_Made.c R (false, t4, ([(1 : Int)] : List Int)) K))))) := rfl
theorem one_f {R : Type} (x : Nm) (K : (Nm × Int) → Option R) : rf_One.c R (102, x) K = ROf R x K fun t2 => (rf_Floor.c R (t2.1, t2.2.1, t2.2.2) fun t3 => (rf_Made.c R (t3.1, t3.2.1, t3.2.2) K)) := rfl
theorem one_c {R : Type} (x : Nm) (K : (Nm × Int) → Option R) : rf_One.c R (99, x) K = ROf R x K fun t2 => (rf_Minus.c R (t2.1, t2.2.1, t2.2.2) fun t3 => (rf_Floor.c R (t3.1, t3.2.1, t3.2.2) fun t4 => (rf_Minus.c R (t4.1, t4.2.1, t4.2.2) fun t5 => (rf_Made.c R (t5.1, t5.2.1, t5.2.2) K)))) := rfl
theorem one_t {R : Type} (x : Nm) (K : (Nm × Int) → Option R) : rf_One.c R (116, x) K = ROf R x K fun t2 => (rf_DivNat.c R (t2.2.1, t2.2.2) fun t3 => (if t2.1 = true then (rf_Made.c R ((decide ((t3.1.length : Int) > (0 : Int))), t3.1, ([(1 : Int)] : List Int)) K) else (rf_Made.c R (false, t3.1, ([(1 : Int)] : List Int)) K))) := rfl
theorem one_r {R : Type} (x : Nm) (K : (Nm × Int) → Option R) : rf_One.c R (114, x) K = ROf R x K fun t2 => (rf_AddNat.c R (t2.2.1, t2.2.1) fun t3 => (rf_AddNat.c R (t3, t2.2.2) fun t4 => (rf_AddNat.c R (t2.2.2, t2.2.2) fun t5 => (rf_DivNat.c R (t4, t5) fun t6 => (if t2.1 = true then (rf_Made.c R ((decide ((t6.1.length : Int) > (0 : Int))), t6.1, ([(1 : Int)] : List Int)) K) else (rf_Made.c R (false, t6.1, ([(1 : Int)] : List Int)) K)))))) := rfl
theorem rr_sign {na : Bool} {x u : List Int} {N D : Int} (h : RR na x u N D) (hN : N = sgn na (val 65536 x)) (hD : D = val 65536 u) : RR false x u (val 65536 x) D := ⟨h.lp, h.np, h.lq, h.nq, h.q0, h.gc, fun _ => rfl, by rw [hD]; rfl⟩
theorem both_neg {na : Bool} {a da : List Int} (ha : Lim 4294967296 a) (hda : Lim 4294967296 da) (ca : Can na a da) : Both na a da number_Neg.c 110 := by
  have l1 := ca.ln
  have l2 := ca.ld
  have pd := ca.pos hda
  obtain ⟨m, p, q, m1, m2⟩ := made_c (!na) a da ha ca.nn hda ca.nd ca.d0 (by omega) (by omega)
  obtain ⟨x, u, z, x2, x3, x4, x5, x6, x7⟩ := ROf_ok ha hda ca
  obtain ⟨o, o1, o2, o3⟩ := Minus_c x2
  obtain ⟨p', q', w1, w2⟩ := Made_c o2 (by omega) (by omega)
  have e : sgn (!na) (val 4294967296 a) = -sgn na (val 4294967296 a) := by unfold sgn; cases na <;> simp
  rw [e] at m2
  refine both_of (by omega) ⟨m, p, q, fun R K => ?_, m2⟩ ⟨o, p', q', fun R K => ?_, w2⟩
  · unfold number_Neg.c
    refine (check_c na a da ha hda _).trans ?_
    rw [fault_can ca]
    refine (if_neg (by decide)).trans ?_
    exact m1 R _
  · rw [one_n]
    refine (z R _ _).trans ?_
    refine (o1 R _).trans ?_
    exact w1 R K
theorem both_abs {na : Bool} {a da : List Int} (ha : Lim 4294967296 a) (hda : Lim 4294967296 da) (ca : Can na a da) : Both na a da number_Abs.c 97 := by
  have l1 := ca.ln
  have l2 := ca.ld
  have pd := ca.pos hda
  obtain ⟨m, p, q, m1, m2⟩ := made_c false a da ha ca.nn hda ca.nd ca.d0 (by omega) (by omega)
  obtain ⟨x, u, z, x2, x3, x4, x5, x6, x7⟩ := ROf_ok ha hda ca
  obtain ⟨p', q', w1, w2⟩ := Made_c (rr_sign x2 (by rw [x3]) x4.symm) (by omega) (by omega)
  rw [x3] at w2
  refine both_of (by omega) ⟨m, p, q, fun R K => ?_, m2⟩ ⟨false, p', q', fun R K => ?_, w2⟩
  · unfold number_Abs.c
    refine (check_c na a da ha hda _).trans ?_
    rw [fault_can ca]
    refine (if_neg (by decide)).trans ?_
    exact m1 R _
  · rw [one_a]
    refine (z R _ _).trans ?_
    exact w1 R K
theorem both_root {na : Bool} {a da : List Int} (ha : Lim 4294967296 a) (hda : Lim 4294967296 da) (ca : Can na a da) : Both na a da number_Root.c 115 := by
  have l1 := ca.ln
  obtain ⟨x, u, z, x2, x3, x4, x5, x6, x7⟩ := ROf_ok ha hda ca
  have hu : u = [1] ↔ da = [1] := by rw [← eq_one (show (1 : Int) < 65536 by decide) x2.lq x2.nq, ← eq_one (show (1 : Int) < 4294967296 by decide) hda ca.nd, x4]
  by_cases c : da = [1]
  · have hw : wrong1 na a da = 0 := by unfold wrong1; rw [if_pos (fault_can ca), if_pos c]
    cases na with
    | true =>
      refine ⟨bad 1, short_bad 1, fun R K => ?_, fun R K => ?_⟩
      · unfold number_Root.c
        refine (int1_c true a da ha hda _).trans ?_
        rw [hw]
        refine (if_neg (by decide)).trans ?_
        exact if_pos rfl
      · rw [one_s]
        refine (z R _ _).trans ?_
        refine (IsInt_c x2.lq x2.nq (by omega) _).trans ?_
        refine (if_neg (by simp [hu, c])).trans ?_
        exact if_pos rfl
    | false =>
      obtain ⟨r, r1, r2, r3, r4, r5⟩ := natRoot_c a ha ca.nn l1
      obtain ⟨m, p, q, m1, m2⟩ := whole_c false r r2 r3 (by omega)
      obtain ⟨s, s1, s2, s3, s4, s5⟩ := rroot_c x x2.lp x2.np x5
      obtain ⟨p', q', w1, w2⟩ := Made_c (rr_int (neg := false) s2 s3 (fun _ => rfl)) (by omega) (by decide)
      rw [x3] at s5
      have e := s5.unique r5
      have e2 : sgn false (val 65536 s) = sgn false (val 4294967296 r) := by rw [e]
      rw [e2] at w2
      refine both_of (by decide) ⟨m, p, q, fun R K => ?_, m2⟩ ⟨false, p', q', fun R K => ?_, w2⟩
      · unfold number_Root.c
        refine (int1_c false a da ha hda _).trans ?_
        rw [hw]
        refine (if_neg (by decide)).trans ?_
        refine (if_neg (by simp)).trans ?_
        refine (r1 R _).trans ?_
        exact m1 R _
      · rw [one_s]
        refine (z R _ _).trans ?_
        refine (IsInt_c x2.lq x2.nq (by omega) _).trans ?_
        refine (if_neg (by simp [hu, c])).trans ?_
        refine (if_neg (by simp)).trans ?_
        refine (s1 R _).trans ?_
        exact w1 R K
  · have hw : wrong1 na a da = 7 := by unfold wrong1; rw [if_pos (fault_can ca), if_neg c]
    refine ⟨bad 7, short_bad 7, fun R K => ?_, fun R K => ?_⟩
    · unfold number_Root.c
      refine (int1_c na a da ha hda _).trans ?_
      rw [hw]
      exact if_pos (by decide)
    · rw [one_s]
      refine (z R _ _).trans ?_
      refine (IsInt_c x2.lq x2.nq (by omega) _).trans ?_
      exact if_pos (by simp [hu, c])
noncomputable def rnd (mode : Int) : CF Nm (Nm × Int) := fun R x K => number_Round.c R (x, mode) K
theorem round_at {na : Bool} {a da : List Int} (ha : Lim 4294967296 a) (hda : Lim 4294967296 da) (ca : Can na a da) {R : Type} (mode : Int) (K : (Nm × Int) → Option R) (L : Option R) (h : number_Round.c R ((na, a, da), mode) K = (number_Check.c R (na, a, da) fun t1 => (if (t1 != (0 : Int)) = true then K ((false, ([] : List Int), ([] : List Int)), t1) else L))) : number_Round.c R ((na, a, da), mode) K = L := by
  rw [h]
  refine (check_c na a da ha hda _).trans ?_
  rw [fault_can ca]
  exact if_neg (by decide)
theorem both_floor {na : Bool} {a da : List Int} (ha : Lim 4294967296 a) (hda : Lim 4294967296 da) (ca : Can na a da) : Both na a da (rnd 1) 102 := by
  have l1 := ca.ln
  have l2 := ca.ld
  obtain ⟨n, n1, n2, n3, n4, n5⟩ := floored_c na a da true ha hda ca.nn ca.nd ca.d0 (by omega) (by omega)
  obtain ⟨m, p, q, m1, m2⟩ := whole_c na n n2 n3 (by omega)
  obtain ⟨x, u, z, x2, x3, x4, x5, x6, x7⟩ := ROf_ok ha hda ca
  obtain ⟨s, s1, s2, s3, s4, s5⟩ := Floor_c (neg := na) x2.lp x2.np x2.lq x2.nq x2.q0 (by omega) (by omega)
  obtain ⟨p', q', w1, w2⟩ := Made_c (rr_int (neg := na && decide (s ≠ [])) s2 s3 (fun h => by simp [h])) (by omega) (by decide)
  rw [n4] at m2
  rw [sgn_cut', s4, x3, x4] at w2
  refine both_of (by decide) ⟨m, p, q, fun R K => ?_, m2⟩ ⟨_, p', q', fun R K => ?_, w2⟩
  · refine (round_at ha hda ca 1 K _ rfl).trans ?_
    refine (if_pos rfl).trans ?_
    refine (n1 R _).trans ?_
    exact m1 R K
  · rw [one_f]
    refine (z R _ _).trans ?_
    refine (s1 R _).trans ?_
    exact w1 R K
theorem both_ceil {na : Bool} {a da : List Int} (ha : Lim 4294967296 a) (hda : Lim 4294967296 da) (ca : Can na a da) : Both na a da (rnd 2) 99 := by
  have l1 := ca.ln
  have l2 := ca.ld
  have pd := ca.pos hda
  have va := val_nonneg (show (0 : Int) < 4294967296 by decide) ha
  obtain ⟨n, n1, n2, n3, n4, n5⟩ := floored_c (!na) a da true ha hda ca.nn ca.nd ca.d0 (by omega) (by omega)
  obtain ⟨m, p, q, m1, m2⟩ := whole_c na n n2 n3 (by omega)
  obtain ⟨x, u, z, x2, x3, x4, x5, x6, x7⟩ := ROf_ok ha hda ca
  obtain ⟨o, o1, o2, o3⟩ := Minus_c x2
  obtain ⟨s, s1, s2, s3, s4, s5⟩ := Floor_c (neg := o) x2.lp x2.np x2.lq x2.nq x2.q0 (by omega) (by omega)
  obtain ⟨o', t1, t2, t3⟩ := Minus_c (rr_int (neg := o && decide (s ≠ [])) s2 s3 (fun h => by simp [h]))
  obtain ⟨p', q', w1, w2⟩ := Made_c t2 (by omega) (by decide)
  rw [n4] at m2
  rw [sgn_cut', s4, x3, x4] at w2
  rw [x3] at o3
  have e : -sgn o (Fl o (val 4294967296 a) (val 4294967296 da) true) = sgn na (Fl (!na) (val 4294967296 a) (val 4294967296 da) true) := by
    by_cases h0 : val 4294967296 a = 0
    · rw [h0, Fl_zero, Fl_zero, sgn_zero, sgn_zero]; rfl
    · have ho : o = !na := by
        unfold sgn at o3
        cases o <;> cases na <;> simp at o3 <;> first | rfl | omega
      subst ho
      unfold sgn
      cases na <;> simp
  rw [e] at w2
  refine both_of (by decide) ⟨m, p, q, fun R K => ?_, m2⟩ ⟨o', p', q', fun R K => ?_, w2⟩
  · refine (round_at ha hda ca 2 K _ rfl).trans ?_
    refine (if_neg (by simp)).trans ?_
    refine (if_pos rfl).trans ?_
    refine (n1 R _).trans ?_
    exact m1 R K
  · rw [one_c]
    refine (z R _ _).trans ?_
    refine (o1 R _).trans ?_
    refine (s1 R _).trans ?_
    refine (t1 R _).trans ?_
    exact w1 R K
theorem both_trunc {na : Bool} {a da : List Int} (ha : Lim 4294967296 a) (hda : Lim 4294967296 da) (ca : Can na a da) : Both na a da (rnd 3) 116 := by
  have l1 := ca.ln
  have l2 := ca.ld
  obtain ⟨n, n1, n2, n3, n4, n5⟩ := floored_c na a da false ha hda ca.nn ca.nd ca.d0 (by omega) (by omega)
  obtain ⟨m, p, q, m1, m2⟩ := whole_c na n n2 n3 (by omega)
  obtain ⟨x, u, z, x2, x3, x4, x5, x6, x7⟩ := ROf_ok ha hda ca
  obtain ⟨d, r, d1, d2, d3, d4, d5, d6, d7, d8⟩ := DivNat_ev x u x2.lp x2.np x2.lq x2.nq x2.q0 (by omega) (by omega)
  obtain ⟨p', q', w1, w2⟩ := Made_c (rr_int (neg := na && decide (d ≠ [])) d2 d3 (fun h => by simp [h])) (by omega) (by decide)
  have hf : Fl na (val 4294967296 a) (val 4294967296 da) false = val 4294967296 a / val 4294967296 da := by unfold Fl; rw [if_neg (by simp)]
  rw [n4, hf] at m2
  rw [sgn_cut', d7, x3, x4] at w2
  refine both_of (by decide) ⟨m, p, q, fun R K => ?_, m2⟩ ⟨_, p', q', fun R K => ?_, w2⟩
  · refine (round_at ha hda ca 3 K _ rfl).trans ?_
    refine (if_neg (by simp)).trans ?_
    refine (if_neg (by simp)).trans ?_
    refine (if_pos rfl).trans ?_
    refine (n1 R _).trans ?_
    exact m1 R K
  · rw [one_t]
    refine (z R _ _).trans ?_
    refine (rf_DivNat.eq d1 _).trans ?_
    refine (wend na d fun r => rf_Made.c R r K).trans ?_
    exact w1 R K
theorem both_near {na : Bool} {a da : List Int} (ha : Lim 4294967296 a) (hda : Lim 4294967296 da) (ca : Can na a da) : Both na a da (rnd 4) 114 := by
  have l1 := ca.ln
  have l2 := ca.ld
  have pd := ca.pos hda
  obtain ⟨b1, c1, c2, c3, c4, c5⟩ := plus_ev [] a (lim_nil _) ha (by decide) (by omega)
  have hn0 : ([] : List Int).length = 0 := rfl
  obtain ⟨b2, e1, e2, e3, e4, e5⟩ := plus_ev b1 a c2 ha (by omega) (by omega)
  obtain ⟨b3, f1, f2, f3, f4, f5⟩ := plus_ev b2 da e2 hda (by omega) (by omega)
  obtain ⟨b4, g1, g2, g3, g4, g5⟩ := plus_ev [] da (lim_nil _) hda (by decide) (by omega)
  obtain ⟨b5, h1, h2, h3, h4, h5⟩ := plus_ev b4 da g2 hda (by omega) (by omega)
  have v0 : val 4294967296 [] = 0 := rfl
  have v3 : val 4294967296 b3 = 2 * val 4294967296 a + val 4294967296 da := by omega
  have v5 : val 4294967296 b5 = 2 * val 4294967296 da := by omega
  have z5 : b5 ≠ [] := by rintro rfl; omega
  obtain ⟨n, n1, n2, n3, n4, n5⟩ := floored_c false b3 b5 false f2 h2 f3 h3 z5 (by omega) (by omega)
  obtain ⟨m, p, q, m1, m2⟩ := whole_c na n n2 n3 (by omega)
  obtain ⟨x, u, z, x2, x3, x4, x5, x6, x7⟩ := ROf_ok ha hda ca
  obtain ⟨y1, i1, i2, i3, i4, i5⟩ := AddNat_ev x x x2.lp x2.lp (by omega) (by omega)
  obtain ⟨y2, j1, j2, j3, j4, j5⟩ := AddNat_ev y1 u i2 x2.lq (by omega) (by omega)
  obtain ⟨y3, k1, k2, k3, k4, k5⟩ := AddNat_ev u u x2.lq x2.lq (by omega) (by omega)
  have z3 : y3 ≠ [] := by
    rintro rfl
    have : val 65536 [] = 0 := rfl
    omega
  obtain ⟨d, r, d1, d2, d3, d4, d5, d6, d7, d8⟩ := DivNat_ev y2 y3 j2 j3 k2 k3 z3 (by omega) (by omega)
  obtain ⟨p', q', w1, w2⟩ := Made_c (rr_int (neg := na && decide (d ≠ [])) d2 d3 (fun h => by simp [h])) (by omega) (by decide)
  have hf : Fl false (val 4294967296 b3) (val 4294967296 b5) false = (2 * val 4294967296 a + val 4294967296 da) / (2 * val 4294967296 da) := by unfold Fl; rw [if_neg (by simp), v3, v5]
  have u2 : val 65536 y2 = 2 * val 4294967296 a + val 4294967296 da := by omega
  have u3 : val 65536 y3 = 2 * val 4294967296 da := by omega
  rw [n4, hf] at m2
  rw [sgn_cut', d7, u2, u3] at w2
  refine both_of (by decide) ⟨m, p, q, fun R K => ?_, m2⟩ ⟨_, p', q', fun R K => ?_, w2⟩
  · refine (round_at ha hda ca 4 K _ rfl).trans ?_
    refine (if_neg (by simp)).trans ?_
    refine (if_neg (by simp)).trans ?_
    refine (if_neg (by simp)).trans ?_
    refine (if_pos rfl).trans ?_
    refine (nat_plus.eq c1 _).trans ?_
    refine (nat_plus.eq e1 _).trans ?_
    refine (nat_plus.eq f1 _).trans ?_
    refine (nat_plus.eq g1 _).trans ?_
    refine (nat_plus.eq h1 _).trans ?_
    refine (n1 R _).trans ?_
    exact m1 R K
  · rw [one_r]
    refine (z R _ _).trans ?_
    refine (rf_AddNat.eq i1 _).trans ?_
    refine (rf_AddNat.eq j1 _).trans ?_
    refine (rf_AddNat.eq k1 _).trans ?_
    refine (rf_DivNat.eq d1 _).trans ?_
    refine (wend na d fun r => rf_Made.c R r K).trans ?_
    exact w1 R K
theorem both_bad {na : Bool} {a da : List Int} {f : CF Nm (Nm × Int)} {op : Int} (ha : Lim 4294967296 a) (hda : Lim 4294967296 da) (h : fault na a da ≠ 0) (h1 : ∀ (R : Type) (K : (Nm × Int) → Option R), f R (na, a, da) K = K (bad (fault na a da)))
    (h2 : ∀ (R : Type) (K : (Nm × Int) → Option R), rf_One.c R (op, na, a, da) K = K (bad (fault na a da))) : Both na a da f op := ⟨_, short_bad _, h1, h2⟩
theorem both_step {na : Bool} {a da : List Int} {f : CF Nm (Nm × Int)} {op : Int} (h : Both na a da f op) {R : Type} (A B L : Option R) :
    (f R (na, a, da) fun t1 => (rf_One.c R (op, na, a, da) fun t2 => (if (t1.2 != t2.2) = false then (lw_same.c R ((t1.1.1, t1.1.2.1, t1.1.2.2), (t2.1.1, t2.1.2.1, t2.1.2.2)) fun t3 => (if (!t3) = true then A else L)) else B))) = L := by
  obtain ⟨r, hs, h1, h2⟩ := h
  refine (h1 R _).trans ?_
  refine (h2 R _).trans ?_
  exact arith_step hs A B L
theorem both_end {na : Bool} {a da : List Int} {f : CF Nm (Nm × Int)} {op : Int} (h : Both na a da f op) {R : Type} (K : Bool → Option R) :
    (f R (na, a, da) fun t1 => (rf_One.c R (op, na, a, da) fun t2 => (if (t1.2 == t2.2) = true then (lw_same.c R ((t1.1.1, t1.1.2.1, t1.1.2.2), (t2.1.1, t2.1.2.1, t2.1.2.2)) fun t3 => (if t3 = true then (lw_counted.c R () fun t => K t) else K false)) else K false))) = K true := by
  obtain ⟨r, hs, h1, h2⟩ := h
  refine (h1 R _).trans ?_
  refine (h2 R _).trans ?_
  rw [if_pos (by simp)]
  refine (same_self hs _).trans ?_
  exact if_pos rfl
noncomputable def RoundTail (R : Type) (x : Nm) (mode : Int) (K : Bool → Option R) : Option R :=
  (number_Round.c R ((x.1, x.2.1, x.2.2), mode) fun t10 => (rf_Fault.c R (x.1, x.2.1, x.2.2) fun t11 => (if (t11 == (0 : Int)) = true then (if (decide (mode ≥ (1 : Int))) = true then (if (decide (mode ≤ (4 : Int))) = true then (if 0 ≤ (IntKind.i64.wrap (mode - (1 : Int))) ∧ (IntKind.i64.wrap (mode - (1 : Int))) < ((⟨#[102, 99, 116, 114]⟩ : ByteArray).size : Int) then (rf_One.c R (((((⟨#[102, 99, 116, 114]⟩ : ByteArray).data.getD (IntKind.i64.wrap (mode - (1 : Int))).toNat 0).toNat : Nat) : Int), (x.1, x.2.1, x.2.2)) fun t12 => (if (t10.2 == t12.2) = true then (lw_same.c R ((t10.1.1, t10.1.2.1, t10.1.2.2), (t12.1.1, t12.1.2.1, t12.1.2.2)) fun t13 => (if t13 = true then (lw_counted.c R () fun t14 => K t14) else K false)) else K false)) else none) else (if (t10.2 == (1 : Int)) = true then (lw_same.c R ((t10.1.1, t10.1.2.1, t10.1.2.2), (false, ([] : List Int), ([] : List Int))) fun t15 => (if t15 = true then (lw_counted.c R () fun t16 => K t16) else K false)) else K false)) else (if (t10.2 == (1 : Int)) = true then (lw_same.c R ((t10.1.1, t10.1.2.1, t10.1.2.2), (false, ([] : List Int), ([] : List Int))) fun t17 => (if t17 = true then (lw_counted.c R () fun t18 => K t18) else K false)) else K false)) else (if (decide (mode ≥ (1 : Int))) = true then (if (decide (mode ≤ (4 : Int))) = true then (if 0 ≤ (IntKind.i64.wrap (mode - (1 : Int))) ∧ (IntKind.i64.wrap (mode - (1 : Int))) < ((⟨#[102, 99, 116, 114]⟩ : ByteArray).size : Int) then (rf_One.c R (((((⟨#[102, 99, 116, 114]⟩ : ByteArray).data.getD (IntKind.i64.wrap (mode - (1 : Int))).toNat 0).toNat : Nat) : Int), (x.1, x.2.1, x.2.2)) fun t19 => (if (t10.2 == t19.2) = true then (lw_same.c R ((t10.1.1, t10.1.2.1, t10.1.2.2), (t19.1.1, t19.1.2.1, t19.1.2.2)) fun t20 => (if t20 = true then (lw_counted.c R () fun t21 => K t21) else K false)) else K false)) else none) else (if (t10.2 == t11) = true then (lw_same.c R ((t10.1.1, t10.1.2.1, t10.1.2.2), (false, ([] : List Int), ([] : List Int))) fun t22 => (if t22 = true then (lw_counted.c R () fun t23 => K t23) else K false)) else K false)) else (if (t10.2 == t11) = true then (lw_same.c R ((t10.1.1, t10.1.2.1, t10.1.2.2), (false, ([] : List Int), ([] : List Int))) fun t24 => (if t24 = true then (lw_counted.c R () fun t25 => K t25) else K false)) else K false)))))
theorem Round_eq (R : Type) (x : Nm) (mode : Int) (K : Bool → Option R) : lw_NumberRoundMatchesSpec.c R (x, mode) K = (number_Neg.c R (x.1, x.2.1, x.2.2) fun t1 => (rf_One.c R ((110 : Int), (x.1, x.2.1, x.2.2)) fun t2 => (if (t1.2 != t2.2) = false then (lw_same.c R ((t1.1.1, t1.1.2.1, t1.1.2.2), (t2.1.1, t2.1.2.1, t2.1.2.2)) fun t3 => (if (!t3) = true then K false else (number_Abs.c R (x.1, x.2.1, x.2.2) fun t4 => (rf_One.c R ((97 : Int), (x.1, x.2.1, x.2.2)) fun t5 => (if (t4.2 != t5.2) = false then (lw_same.c R ((t4.1.1, t4.1.2.1, t4.1.2.2), (t5.1.1, t5.1.2.1, t5.1.2.2)) fun t6 => (if (!t6) = true then K false else (number_Root.c R (x.1, x.2.1, x.2.2) fun t7 => (rf_One.c R ((115 : Int), (x.1, x.2.1, x.2.2)) fun t8 => (if (t7.2 != t8.2) = false then (lw_same.c R ((t7.1.1, t7.1.2.1, t7.1.2.2), (t8.1.1, t8.1.2.1, t8.1.2.2)) fun t9 => (if (!t9) = true then K false else RoundTail R x mode K)) else K false))))) else K false))))) else K false))) := rfl
theorem round_tail (na : Bool) (a da : List Int) (mode : Int) (ha : Lim 4294967296 a) (hda : Lim 4294967296 da) {R : Type} (K : Bool → Option R) : RoundTail R (na, a, da) mode K = K true := by
  have four : ∀ op : Int, (mode = 1 ∧ op = 102) ∨ (mode = 2 ∧ op = 99) ∨ (mode = 3 ∧ op = 116) ∨ (mode = 4 ∧ op = 114) → Both na a da (rnd mode) op := by
    intro op ho
    by_cases h : fault na a da = 0
    · have ca := can_of_fault' h
      rcases ho with ⟨rfl, rfl⟩ | ⟨rfl, rfl⟩ | ⟨rfl, rfl⟩ | ⟨rfl, rfl⟩
      · exact both_floor ha hda ca
      · exact both_ceil ha hda ca
      · exact both_trunc ha hda ca
      · exact both_near ha hda ca
    · refine both_bad ha hda h (fun R K => ?_) (fun R K => ?_)
      · unfold rnd number_Round.c
        refine (check_c na a da ha hda _).trans ?_
        exact if_pos (by simpa using h)
      · rcases ho with ⟨rfl, rfl⟩ | ⟨rfl, rfl⟩ | ⟨rfl, rfl⟩ | ⟨rfl, rfl⟩
        · exact (one_f _ _).trans (ROf_bad ha hda h _ _)
        · exact (one_c _ _).trans (ROf_bad ha hda h _ _)
        · exact (one_t _ _).trans (ROf_bad ha hda h _ _)
        · exact (one_r _ _).trans (ROf_bad ha hda h _ _)
  unfold RoundTail
  by_cases hr : 1 ≤ mode ∧ mode ≤ 4
  · obtain ⟨op, hop, hb⟩ : ∃ op : Int, ((((((⟨#[102, 99, 116, 114]⟩ : ByteArray).data.getD (IntKind.i64.wrap (mode - (1 : Int))).toNat 0).toNat : Nat) : Int)) = op ∧ (0 ≤ (IntKind.i64.wrap (mode - (1 : Int))) ∧ (IntKind.i64.wrap (mode - (1 : Int))) < ((⟨#[102, 99, 116, 114]⟩ : ByteArray).size : Int))) ∧ Both na a da (rnd mode) op := by
      rcases (show mode = 1 ∨ mode = 2 ∨ mode = 3 ∨ mode = 4 by omega) with rfl | rfl | rfl | rfl
      · exact ⟨102, by decide, four 102 (by decide)⟩
      · exact ⟨99, by decide, four 99 (by decide)⟩
      · exact ⟨116, by decide, four 116 (by decide)⟩
      · exact ⟨114, by decide, four 114 (by decide)⟩
    obtain ⟨hop1, hop2⟩ := hop
    have hend := both_end hb K
    obtain ⟨r, hs, h1, h2⟩ := hb
    refine (h1 R _).trans ?_
    refine (Fault_c na a da ha hda _).trans ?_
    have fin : (if decide (mode ≥ (1 : Int)) = true then (if (decide (mode ≤ (4 : Int))) = true then (if 0 ≤ (IntKind.i64.wrap (mode - (1 : Int))) ∧ (IntKind.i64.wrap (mode - (1 : Int))) < ((⟨#[102, 99, 116, 114]⟩ : ByteArray).size : Int) then (rf_One.c R (((((⟨#[102, 99, 116, 114]⟩ : ByteArray).data.getD (IntKind.i64.wrap (mode - (1 : Int))).toNat 0).toNat : Nat) : Int), (na, a, da)) fun t12 => (if (r.2 == t12.2) = true then (lw_same.c R ((r.1.1, r.1.2.1, r.1.2.2), (t12.1.1, t12.1.2.1, t12.1.2.2)) fun t13 => (if t13 = true then (lw_counted.c R () fun t14 => K t14) else K false)) else K false)) else none) else (none : Option R)) else (none : Option R)) = K true := by
      rw [if_pos (decide_eq_true hr.1), if_pos (decide_eq_true hr.2), if_pos hop2, hop1]
      refine (h2 R _).trans ?_
      rw [if_pos (by simp)]
      refine (same_self hs _).trans ?_
      exact if_pos rfl
    rw [if_pos (decide_eq_true hr.1), if_pos (decide_eq_true hr.2)] at fin
    by_cases h : fault na a da = 0
    · refine (if_pos (by simp [h])).trans ?_
      refine (if_pos (decide_eq_true hr.1)).trans ?_
      refine (if_pos (decide_eq_true hr.2)).trans ?_
      exact fin
    · refine (if_neg (by simp [h])).trans ?_
      refine (if_pos (decide_eq_true hr.1)).trans ?_
      refine (if_pos (decide_eq_true hr.2)).trans ?_
      exact fin
  · have hrest : ∀ e : Int, (lw_same.c R (((bad e).1.1, (bad e).1.2.1, (bad e).1.2.2), (false, ([] : List Int), ([] : List Int))) fun t15 => (if t15 = true then (lw_counted.c R () fun t16 => K t16) else K false)) = K true := by
      intro e
      refine (same_c false [] [] false [] [] (by decide) (by decide) _).trans ?_
      exact if_pos (by decide)
    by_cases h : fault na a da = 0
    · have ca := can_of_fault' h
      have h1 : number_Round.c R ((na, a, da), mode) (fun t10 => rf_Fault.c R (na, a, da) fun t11 => (if (t11 == (0 : Int)) = true then (if (decide (mode ≥ (1 : Int))) = true then (if (decide (mode ≤ (4 : Int))) = true then (if 0 ≤ (IntKind.i64.wrap (mode - (1 : Int))) ∧ (IntKind.i64.wrap (mode - (1 : Int))) < ((⟨#[102, 99, 116, 114]⟩ : ByteArray).size : Int) then (rf_One.c R (((((⟨#[102, 99, 116, 114]⟩ : ByteArray).data.getD (IntKind.i64.wrap (mode - (1 : Int))).toNat 0).toNat : Nat) : Int), (na, a, da)) fun t12 => (if (t10.2 == t12.2) = true then (lw_same.c R ((t10.1.1, t10.1.2.1, t10.1.2.2), (t12.1.1, t12.1.2.1, t12.1.2.2)) fun t13 => (if t13 = true then (lw_counted.c R () fun t14 => K t14) else K false)) else K false)) else none) else (if (t10.2 == (1 : Int)) = true then (lw_same.c R ((t10.1.1, t10.1.2.1, t10.1.2.2), (false, ([] : List Int), ([] : List Int))) fun t15 => (if t15 = true then (lw_counted.c R () fun t16 => K t16) else K false)) else K false)) else (if (t10.2 == (1 : Int)) = true then (lw_same.c R ((t10.1.1, t10.1.2.1, t10.1.2.2), (false, ([] : List Int), ([] : List Int))) fun t17 => (if t17 = true then (lw_counted.c R () fun t18 => K t18) else K false)) else K false)) else (if (decide (mode ≥ (1 : Int))) = true then (if (decide (mode ≤ (4 : Int))) = true then (if 0 ≤ (IntKind.i64.wrap (mode - (1 : Int))) ∧ (IntKind.i64.wrap (mode - (1 : Int))) < ((⟨#[102, 99, 116, 114]⟩ : ByteArray).size : Int) then (rf_One.c R (((((⟨#[102, 99, 116, 114]⟩ : ByteArray).data.getD (IntKind.i64.wrap (mode - (1 : Int))).toNat 0).toNat : Nat) : Int), (na, a, da)) fun t19 => (if (t10.2 == t19.2) = true then (lw_same.c R ((t10.1.1, t10.1.2.1, t10.1.2.2), (t19.1.1, t19.1.2.1, t19.1.2.2)) fun t20 => (if t20 = true then (lw_counted.c R () fun t21 => K t21) else K false)) else K false)) else none) else (if (t10.2 == t11) = true then (lw_same.c R ((t10.1.1, t10.1.2.1, t10.1.2.2), (false, ([] : List Int), ([] : List Int))) fun t22 => (if t22 = true then (lw_counted.c R () fun t23 => K t23) else K false)) else K false)) else (if (t10.2 == t11) = true then (lw_same.c R ((t10.1.1, t10.1.2.1, t10.1.2.2), (false, ([] : List Int), ([] : List Int))) fun t24 => (if t24 = true then (lw_counted.c R () fun t25 => K t25) else K false)) else K false)))) = K true := by
        refine (round_at ha hda ca mode _ _ rfl).trans ?_
        refine (if_neg (by simp; omega)).trans ?_
        refine (if_neg (by simp; omega)).trans ?_
        refine (if_neg (by simp; omega)).trans ?_
        refine (if_neg (by simp; omega)).trans ?_
        refine (Fault_c na a da ha hda _).trans ?_
        refine (if_pos (by simp [h])).trans ?_
        by_cases c1 : 1 ≤ mode
        · refine (if_pos (decide_eq_true c1)).trans ?_
          refine (if_neg (by simp; omega)).trans ?_
          refine (if_pos (by decide)).trans ?_
          exact hrest 1
        · refine (if_neg (by simp; omega)).trans ?_
          refine (if_pos (by decide)).trans ?_
          exact hrest 1
      exact h1
    · refine (show number_Round.c R ((na, a, da), mode) _ = _ from ?_)
      unfold number_Round.c
      refine (check_c na a da ha hda _).trans ?_
      refine (if_pos (by simpa using h)).trans ?_
      refine (Fault_c na a da ha hda _).trans ?_
      refine (if_neg (by simpa using h)).trans ?_
      by_cases c1 : 1 ≤ mode
      · refine (if_pos (decide_eq_true c1)).trans ?_
        refine (if_neg (by simp; omega)).trans ?_
        refine (if_pos (by simp)).trans ?_
        exact hrest (fault na a da)
      · refine (if_neg (by simp; omega)).trans ?_
        refine (if_pos (by simp)).trans ?_
        exact hrest (fault na a da)
theorem round_pure (na : Bool) (a da : List Int) (mode : Int) (ha : Lim 4294967296 a) (hda : Lim 4294967296 da) {R : Type} (K : Bool → Option R) : lw_NumberRoundMatchesSpec.c R ((na, a, da), mode) K = K true := by
  have hb : Both na a da number_Neg.c 110 ∧ Both na a da number_Abs.c 97 ∧ Both na a da number_Root.c 115 := by
    by_cases h : fault na a da = 0
    · have ca := can_of_fault' h
      exact ⟨both_neg ha hda ca, both_abs ha hda ca, both_root ha hda ca⟩
    · refine ⟨both_bad ha hda h (fun R K => ?_) (fun R K => (one_n _ _).trans (ROf_bad ha hda h _ _)), both_bad ha hda h (fun R K => ?_) (fun R K => (one_a _ _).trans (ROf_bad ha hda h _ _)), both_bad ha hda h (fun R K => ?_) (fun R K => (one_s _ _).trans (ROf_bad ha hda h _ _))⟩
      · unfold number_Neg.c
        refine (check_c na a da ha hda _).trans ?_
        exact if_pos (by simpa using h)
      · unfold number_Abs.c
        refine (check_c na a da ha hda _).trans ?_
        exact if_pos (by simpa using h)
      · unfold number_Root.c
        have hw : wrong1 na a da = fault na a da := by unfold wrong1; rw [if_neg h]
        refine (int1_c na a da ha hda _).trans ?_
        rw [hw]
        exact if_pos (by simpa using h)
  refine (Round_eq R (na, a, da) mode K).trans ?_
  refine (both_step hb.1 _ _ _).trans ?_
  refine (both_step hb.2.1 _ _ _).trans ?_
  refine (both_step hb.2.2 _ _ _).trans ?_
  exact round_tail na a da mode ha hda K
end Go.Proofs.YtemnjgkicndmjaaDoor.Q
namespace Go.Proofs.YtemnjgkicndmjaaDoor.Q
open Go.ChangeShapes Go.WideShapes Go.ChangeAt Go.RowKit Go.Joins Go.Proofs.YtemnjgkicndmjaaDoorW.PrintWords Go.Proofs.YtemnjgkicndmjaaDoorW.PrintLast Go.Proofs.YtemnjgkicndmjaaDoorW.PrintMore
set_option linter.unusedVariables false
theorem laidOut : laidOutB Tryd.prog = true := by kernel_rfl
theorem own : ownKnob Tryd.prog.godebug = none := by kernel_rfl
theorem lim_of_wf {zs : List Int} (h : ∀ n ∈ zs, (Lit.int .u32 n).wf = true) : Lim 4294967296 zs := by
  intro x hx
  have h1 := h x hx
  simp only [Lit.wf, Bool.and_eq_true, decide_eq_true_eq] at h1
  have e1 : IntKind.u32.min = 0 := by decide
  have e2 : IntKind.u32.max = 4294967295 := by decide
  omega
theorem open_limbs {H : Type} {enc : TypeId × Value → H} {W : World} {n : Nat} {c : Value} {y : DataW H × List MemPlace} (h : DataW.trod enc Tryd.prog W 0 (fun _ => true) true n 22 [c] = some y) :
    ∃ (A : Option Addr) (cap : Nat) (l : List Int), c = .slice A l.length cap ∧ l.length ≤ cap ∧ Kd.C (Kd.int .u32) W A l.length l ∧ Lim 4294967296 l := by
  rcases open_ints Tryd.underlying22 Tryd.underlying55 (by kernel_rfl) h with ⟨hcs, _⟩ | ⟨x, l, cp, zs, hcs, _, hl, hm, hz, _, hcell, hwz⟩
  · simp at hcs
    exact ⟨none, 0, [], hcs, Nat.le_refl _, Kd.C_of_reads (enc := Value.int .u32) (d := (0 : Int)) ⟨rfl, by decide, fun h => absurd h (Nat.lt_irrefl _)⟩, lim_nil _⟩
  · simp at hcs
    have hz' : zs.length = cp := by simpa using hz
    have hlen : (zs.take l).length = l := by rw [List.length_take]; omega
    refine ⟨some x, cp, zs.take l, by rw [hlen]; exact hcs, by rw [hlen]; exact hl, Kd.C_of_reads (enc := Value.int .u32) (d := (0 : Int)) ⟨rfl, by rw [hlen]; unfold maxLen at hm; omega, fun _ => ⟨x, rfl, fun j hj => ?_⟩⟩, (lim_of_wf hwz).take _⟩
    rw [hlen] at hj
    rw [hcell j (by omega), List.getD_eq_getElem?_getD, List.getD_eq_getElem?_getD, List.getElem?_take, if_pos hj]
set_option maxRecDepth 100000 in
theorem open_number {H : Type} {enc : TypeId × Value → H} {W : World} {b0 : Nat} {r : Reach} {v : Value} {d : DataW H} {p : List MemPlace} (hv : Value.okWide Tryd.prog W r b0 24 v) (h : DataW.Trod enc Tryd.prog W 0 (fun _ => true) true 24 v d p) :
    ∃ (neg : Bool) (A1 : Option Addr) (c1 : Nat) (l1 : List Int) (A2 : Option Addr) (c2 : Nat) (l2 : List Int), v = .agg #[.bool neg, .slice A1 l1.length c1, .slice A2 l2.length c2] ∧
      l1.length ≤ c1 ∧ Kd.C (Kd.int .u32) W A1 l1.length l1 ∧ Lim 4294967296 l1 ∧ l2.length ≤ c2 ∧ Kd.C (Kd.int .u32) W A2 l2.length l2 ∧ Lim 4294967296 l2 := by
  obtain ⟨v0, v1, v2, y0, y1, y2, n, rfl, rfl, rfl, h0, h1, h2⟩ := open_agg3 Tryd.underlying24 (by kernel_rfl) (by kernel_rfl) hv h
  obtain ⟨b, e0, rfl⟩ := DataW.trod_bool Tryd.underlying4 h0
  obtain ⟨A1, c1, l1, rfl, i1, k1, m1⟩ := open_limbs h1
  obtain ⟨A2, c2, l2, rfl, i2, k2, m2⟩ := open_limbs h2
  simp at e0
  subst e0
  exact ⟨b, A1, c1, l1, A2, c2, l2, rfl, i1, k1, m1, i2, k2, m2⟩
def accepted : List (Nat × Nat) := [(128, 191), (160, 191), (128, 159), (144, 191), (128, 143), (0, 0), (0, 0), (0, 0), (0, 0), (0, 0), (0, 0), (0, 0), (0, 0), (0, 0), (0, 0), (0, 0)]
noncomputable def laidFirst : Array Value := (Go.Pinned.utf8FirstZ.map fun (z : Nat) => Value.int .u8 (Int.ofNat z)).toArray
noncomputable def laidRanges : Array Value := (accepted.flatMap fun (z : Nat × Nat) => [Value.int .u8 (Int.ofNat z.1), Value.int .u8 (Int.ofNat z.2)]).toArray
noncomputable def laidWorld (os : Os) : World :=
  let w0 := World.holding Tryd.prog os ⟨#[], #[], []⟩
  { w0 with heap := (w0.heap.modify 1 (fun o => match o with
      | .cells _ t frozen => .cells laidFirst t frozen
      | o => o)).modify 2 (fun o => match o with
      | .cells _ t frozen => .cells laidRanges t frozen
      | o => o) }
set_option maxRecDepth 100000 in
theorem laid_met (os : Os) (args : Array Value) : laidMet Tryd.prog [("unicode/utf8.acceptRanges", Rows.laid_unicode_utf8_acceptRanges), ("unicode/utf8.first", Rows.laid_unicode_utf8_first)] ((laidWorld os).forCall (fun _ _ => 0) ⟨#[], args, []⟩).memory :=
  laidMet_of_run' 8 (by kernel_rfl) (by kernel_rfl)
end Go.Proofs.YtemnjgkicndmjaaDoor.Q
namespace Go.Proofs.YtemnjgkicndmjaaDoor.Q
open Go.ChangeShapes Go.WideShapes Go.ChangeAt Go.RowKit Go.Joins Go.Proofs.YtemnjgkicndmjaaDoor.E Go.Proofs.YtemnjgkicndmjaaDoorW.PrintWords Go.Proofs.YtemnjgkicndmjaaDoorW.PrintLast Go.Proofs.YtemnjgkicndmjaaDoorW.PrintMore
set_option linter.unusedVariables false
namespace LRoundLaw
set_option maxRecDepth 100000 in
theorem contract (H : Type) (enc : TypeId × Value → H) (W : World) (base : Nat) (args : Array Value) (ds gs : List (DataW H)) (before : List MemPlace)
    (hval : ∀ (j : Nat) t v, Tryd.f13.params[j]? = some t → args[j]? = some v → Value.okWide Tryd.prog W .any base t v)
    (hW : DataW.Whole enc Tryd.prog Tryd.f13.params.toList Rows.numberRoundMatchesSpecSpec.vars false W args.toList ds gs before) :
    Calls Tryd.prog 13 args W fun e W' => ∃ v, e = .returned v ∧ Rows.numberRoundMatchesSpecSpec.post enc Tryd.prog Tryd.f13 false true false false W args v W' := by
  have hW' := hW
  obtain ⟨p, q, hA0, hV, rfl, hfz, hnd⟩ := hW
  have hA : DataW.TrodAll enc Tryd.prog W 0 (fun _ => true) true Tryd.f13.params.toList args.toList ds p := hA0
  rw [Tryd.params13] at hA hval
  obtain ⟨v0, vs0, d0, ds0, p0, q0, hargs, rfl, rfl, h0, r0⟩ := trodAll_cons hA
  obtain ⟨v1, vs1, d1, ds1, p1, q1, rfl, rfl, rfl, h1, r1⟩ := trodAll_cons r0
  obtain ⟨rfl, rfl, rfl⟩ := trodAll_nil r1
  obtain rfl : args = #[v0, v1] := by cases args; simp_all
  obtain ⟨rfl, rfl⟩ := trodVars_none hV
  have k0 := h0
  have lt0 : ∀ x ∈ p0, x.block < W.heap.size := by obtain ⟨m, hm⟩ := k0; exact DataW.trod_lt m _ _ _ hm
  obtain ⟨s0, A0, c0, a0, B0, e0, d0, rfl, i0, m0, n0, j0, l0, o0⟩ := open_number (hval 0 24 v0 rfl rfl) h0
  obtain ⟨b1, rfl, rfl, rfl, w1⟩ := open_int Tryd.underlying3 (hval 1 3 v1 rfl rfl) h1
  clear hA0
  simp only [List.append_nil] at hW'
  have hx := lw_NumberRoundMatchesSpec.sh.2 ((s0, a0, d0), b1) true (round_pure s0 a0 d0 b1 n0 o0 some)
  refine (hx W (fun k => k < W.heap.size) _ (reps_cons (rep_num s0 i0 m0 j0 l0) (reps_cons (rep_int3 b1) reps_nil))).mono fun e W' ⟨v, he, bel, hv⟩ => ?_
  subst he
  have hv' : v = .bool true := by simpa only [Go.Proofs.YtemnjgkicndmjaaDoor.E.cb, Go.Proofs.YtemnjgkicndmjaaDoor.E.Rep] using hv
  subst hv'
  exact ⟨_, rfl, _, _, _, [], _, [], hW', trodAll_mk1 (shut_bool Tryd.underlying4 _), (trodAll_cons_mk (Below.trod laidOut (by kernel_rfl) (of_decide_eq_true (by kernel_rfl)) k0 bel lt0) (trodAll_cons_mk (shut_int Tryd.underlying3 w1) trodAll_mk0)), rfl, bel.frame _, fun h => by cases h⟩
theorem reads (os : Os) {H : Type} (enc : TypeId × Value → H) : ∃ places, DataW.whole enc Tryd.prog ((laidWorld os).forCall (fun _ _ => 0) ⟨#[], #[.agg #[.bool false, .slice none 0 0, .slice none 0 0], .int .i64 0], []⟩).memory Tryd.f13.params.toList Rows.numberRoundMatchesSpecSpec.vars false #[Value.agg #[.bool false, .slice none 0 0, .slice none 0 0], .int .i64 0].toList 8 = some ([.agg [.lit (.bool false), .nil, .nil], .lit (.int .i64 0)], [], places) :=
  ⟨[], by kernel_rfl⟩
set_option maxRecDepth 100000 in
theorem lifted (os : Os) (started : os.Started) (H : Type) (enc : TypeId × Value → H) (F : Stop.Interp) :
    ReturnsInHanded {} Tryd.checked os 13 .any ((OpenSpec.ofChange Rows.numberRoundMatchesSpecSpec).preRow enc Tryd.prog Tryd.f13 Rows.numberRoundMatchesSpecRow.domain false Rows.numberRoundMatchesSpecRow.laid) (((OpenSpec.ofChange Rows.numberRoundMatchesSpecSpec).at F).post enc Tryd.prog Tryd.f13 false true false false) := by
  obtain ⟨places, hx⟩ := reads os enc
  refine returnsInHanded_of_row (C := Tryd.checked) (s := OpenSpec.ofChange Rows.numberRoundMatchesSpecSpec) own started (by kernel_rfl) Tryd.func13
    (witness_row_at (enc := enc) (C := Tryd.checked) false (laidWorld os) #[.agg #[.bool false, .slice none 0 0, .slice none 0 0], .int .i64 0] rfl (by kernel_rfl) (by kernel_rfl) (by kernel_rfl)
      (OpenSpec.preRow_of_cond 8 hx (by kernel_rfl) (fun k hk => by cases hk) (by kernel_rfl) (laid_met os _))) ?_
  intro W base args ds gs before hval hW _ _ _ hL _ _
  exact contract H enc W base args ds gs before hval hW
theorem said : Rows.NumberRoundMatchesSpecSaid :=
  OpenClaim.holds_of_cond 13 Tryd.f13 rfl rfl rfl rfl rfl rfl rfl ⟨rfl, rfl, rfl, rfl, rfl⟩ rfl rfl rfl rfl rfl (by kernel_rfl) Tryd.func13 (by kernel_rfl)
    (of_decide_eq_true (by kernel_rfl)) (by unfold Func.isWrapper; first | (rw [if_pos (by decide +kernel)]; kernel_rfl) | (rw [if_neg (by decide +kernel)]; exact ⟨rfl, rfl⟩))
    (fun os started H enc _ F => by rw [OpenClaim.pre_eq_preRow]; exact lifted os started H enc F)
theorem plain (f : FuncId) (fn : Func) (hf : Tryd.pinned.checked.prog.funcNamed "fetterlock/fetterlocklaw1.NumberRoundMatchesSpec" = some f) (hfn : Tryd.pinned.checked.prog.funcs[f]? = some fn) :
    false = Tryd.pinned.checked.prog.looks [] ∧ ∀ (j : Nat) t, fn.params[j]? = some t → Tryd.pinned.checked.prog.wantsStandIn t = false := by
  obtain rfl : f = 13 := Option.some.inj ((show Tryd.prog.funcNamed "fetterlock/fetterlocklaw1.NumberRoundMatchesSpec" = some 13 by kernel_rfl).symm.trans hf) |>.symm
  obtain rfl : fn = Tryd.f13 := (Option.some.inj (Tryd.func13.symm.trans hfn)).symm
  refine ⟨by kernel_rfl, fun j t ht => ?_⟩
  rw [Tryd.params13] at ht
  have hm := Array.mem_of_getElem? ht
  have ht2 : t = 24 ∨ t = 3 := by simpa using hm
  rcases ht2 with rfl | rfl
  · exact (show Tryd.prog.wantsStandIn 24 = false by kernel_rfl)
  · exact (show Tryd.prog.wantsStandIn 3 = false by kernel_rfl)
theorem card : Rows.NumberRoundMatchesSpecCardSaid :=
  Claim7.holds_tied_plain_at .later [] _ _ _ _ said (fun _ h => by cases h) (by kernel_rfl) (fun _ h => by cases h) numberRoundMatchesSpec_row_tie rfl ⟨rfl, rfl⟩ (by kernel_rfl) rfl plain (by kernel_rfl)
end LRoundLaw
end Go.Proofs.YtemnjgkicndmjaaDoor.Q
namespace Go.Proofs.YtemnjgkicndmjaaDoor
theorem numberRoundMatchesSpec_holds : Rows.NumberRoundMatchesSpecCardSaid := Q.LRoundLaw.card
end Go.Proofs.YtemnjgkicndmjaaDoor

