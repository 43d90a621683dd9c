/- What this text proves: a part of the walk and of the plain laws of one card; no conditions. -/
import Derived.Test.YtemnjgkicndmjaaDoorTb4
import Derived.Test.YtemnjgkicndmjaaDoorCards
import Derived.Test.YtemnjgkicndmjaaDoorTie
import Derived.WalkKit
import Derived.ProofKit
import Derived.OpenShut
import Derived.ShutString
import Derived.ChangeOld
import Derived.Below
import Derived.Carry
import Derived.Deep.DeepHandedRow
import Derived.Lib.SmallJoins
import Derived.ChangeSlices
import Derived.LaidLaws
import Derived.ChangeSame
import Derived.Stop.Joined
import Derived.SevenTiedAt
namespace Go.Proofs.YtemnjgkicndmjaaDoor.Q
open Go.RowKit Go.Proofs.YtemnjgkicndmjaaDoorW.PrintWords Go.Proofs.YtemnjgkicndmjaaDoorW.PrintLast Go.Proofs.YtemnjgkicndmjaaDoorW.PrintMore
set_option linter.unusedVariables false
theorem guess_loop (u v : List Int) (n : Nat) (hn : 2 ≤ n) (hnv : v.length = n) (hnu : u.length = n + 1) (hv : Lim 4294967296 v) (hu : Lim 4294967296 u) (hL : n ≤ 549755813888) (q top2 v1 v2 u2 : Int) (P : List Int → Prop)
    (ev1 : v1 = rd v ((n - 1 : Nat) : Int)) (ev2 : v2 = rd v ((n - 2 : Nat) : Int)) (eu2 : u2 = rd u ((n - 2 : Nat) : Int)) (hq0 : 0 ≤ q) (hqB : q < 4294967296) (ht0 : 0 ≤ top2) (ht1 : top2 ≤ v1 * 4294967296 + 4294967295)
    (hq12 : q * (v1 * 4294967296 + v2) ≤ top2 * 4294967296 + u2) (hle : ∀ g : Int, 0 ≤ g → g < 4294967296 → g * (v1 * 4294967296 + v2) ≤ top2 * 4294967296 + u2 → g ≤ q + 1)
    (hj2 : ∀ g : Int, 0 ≤ g → g < 4294967296 → q ≤ g → g ≤ q + 1 → ∃ r, Ev (fun k => nat_digit.j2 k u v (n : Int) g) (q, r) ∧ P r) :
    ∀ (m : Nat) (guess rest : Int), guess = q + m → guess ≤ 4294967297 → 0 ≤ rest → rest < 4294967296 → guess * v1 + rest = top2 → ∃ r, Ev (fun k => nat_digit.l0 k u v (n : Int) guess rest) (q, r) ∧ P r := by
  have hB : (0 : Int) < 4294967296 := by decide
  have h1 := hv.rd hB ((n - 1 : Nat) : Int)
  have h2 := hv.rd hB ((n - 2 : Nat) : Int)
  have h3 := hu.rd hB ((n - 2 : Nat) : Int)
  rw [← ev1] at h1; rw [← ev2] at h2; rw [← eu2] at h3
  have a1 : ∀ _ : Unit, wrap64 ((n : Int) - 1) = ((n - 1 : Nat) : Int) := fun _ => by rw [w64 (by omega) (by omega)]; omega
  have a2 : ∀ _ : Unit, wrap64 ((n : Int) - 2) = ((n - 2 : Nat) : Int) := fun _ => by rw [w64 (by omega) (by omega)]; omega
  have b0 : (0 : Int) ≤ ((n - 1 : Nat) : Int) := by omega
  have b1 : ((n - 1 : Nat) : Int) < (v.length : Int) := by omega
  have b2 : (0 : Int) ≤ ((n - 2 : Nat) : Int) := by omega
  have b3 : ((n - 2 : Nat) : Int) < (v.length : Int) := by omega
  have b4 : ((n - 2 : Nat) : Int) < (u.length : Int) := by omega
  have hdown : ∀ (guess rest : Int), q < guess → guess ≤ 4294967297 → 0 ≤ rest → rest < 4294967296 → guess * v1 + rest = top2 →
      (rest + v1 < 4294967296 → ∃ r, Ev (fun k => nat_digit.l0 k u v (n : Int) (guess - 1) (rest + v1)) (q, r) ∧ P r) → ∃ r, Ev (fun k => nat_digit.j1 k u v (n : Int) guess rest true) (q, r) ∧ P r := by
    intro guess rest hg hg1 hr0 hr1 hinv hind
    have e1 : IntKind.u64.wrap (rest + IntKind.u64.wrap v1) = rest + v1 := by rw [u64_id h1.1 (by omega), u64_id (by omega) (by omega)]
    have e2 : IntKind.u64.wrap (guess - 1) = guess - 1 := u64_id (by omega) (by omega)
    by_cases c : rest + v1 ≥ 4294967296
    · have hlim : guess - 1 < 4294967296 := by
        have h5 : (guess - 1) * v1 < 4294967296 * v1 := by
          have : (guess - 1) * v1 = guess * v1 - v1 := by grind
          have : (4294967296 : Int) * v1 = v1 * 4294967296 := Int.mul_comm _ _
          omega
        exact Int.lt_of_mul_lt_mul_right h5 h1.1
      have hup : (guess - 1) * (v1 * 4294967296 + v2) ≤ top2 * 4294967296 + u2 := by
        have h6 : (guess - 1) * v2 ≤ 4294967296 * 4294967295 := by
          have h61 : (guess - 1) * v2 ≤ (guess - 1) * 4294967295 := Int.mul_le_mul_of_nonneg_left (by omega) (by omega)
          omega
        have h7 : (guess - 1) * v1 = top2 - (rest + v1) := by
          have : (guess - 1) * v1 = guess * v1 - v1 := by grind
          omega
        have h8 : (guess - 1) * (v1 * 4294967296 + v2) = ((guess - 1) * v1) * 4294967296 + (guess - 1) * v2 := by grind
        rw [h8, h7]
        generalize (guess - 1) * v2 = z at *
        omega
      obtain ⟨r, hev, hp⟩ := hj2 (guess - 1) (by omega) hlim (by omega) (hle _ (by omega) hlim hup)
      refine ⟨r, Ev.step (f := fun k => nat_digit.j2 k u v (n : Int) (guess - 1)) (fun k => ?_) hev, hp⟩
      simp only [nat_digit.j1]
      rw [if_pos trivial, a1 (), if_pos b0, if_pos b1, ← ev1, e1, e2, if_pos (by omega)]
    · obtain ⟨r, hev, hp⟩ := hind (by omega)
      refine ⟨r, Ev.step (f := fun k => nat_digit.l0 k u v (n : Int) (guess - 1) (rest + v1)) (fun k => ?_) hev, hp⟩
      simp only [nat_digit.j1]
      rw [if_pos trivial, a1 (), if_pos b0, if_pos b1, ← ev1, e1, e2, if_neg (by omega)]
  intro m
  induction m with
  | zero =>
    intro guess rest hgm hg1 hr0 hr1 hinv
    have hgq : guess = q := by omega
    have hgB : ¬ guess / 4294967296 > 0 := by omega
    obtain ⟨p0, p1⟩ := mul_lim (g := guess) (b := v2) (by omega) (by omega) h2.1 h2.2
    have hno : ¬ guess * v2 > rest * 4294967296 + u2 := by
      have h8 : guess * (v1 * 4294967296 + v2) = (guess * v1) * 4294967296 + guess * v2 := by grind
      rw [← hgq, h8] at hq12
      generalize guess * v2 = z at *
      omega
    obtain ⟨r, hev, hp⟩ := hj2 guess (by omega) (by omega) (by omega) (by omega)
    have e1 : IntKind.u64.wrap (guess * IntKind.u64.wrap v2) = guess * v2 := by rw [u64_id h2.1 (by omega), u64_id p0 (by omega)]
    have e2 : Go.bits .or .u64 (IntKind.u64.wrap (rest * 4294967296)) (IntKind.u64.wrap u2) = rest * 4294967296 + u2 := by
      rw [u64_id (by omega) (by omega), u64_id h3.1 (by omega), bits_or_shift hr0 hr1 h3.1 h3.2]
    refine ⟨r, Ev.step (f := fun k => nat_digit.j1 k u v (n : Int) guess rest false) (fun k => ?_) (Ev.step (f := fun k => nat_digit.j2 k u v (n : Int) guess) (fun k => ?_) hev), hp⟩
    · simp only [nat_digit.l0]
      rw [if_neg hgB, a2 (), if_pos b2, if_pos b3, if_pos b4, ← ev2, ← eu2, e1, e2, decide_eq_false hno]
    · simp only [nat_digit.j1]
      rw [if_neg (by decide)]
  | succ m ih =>
    intro guess rest hgm hg1 hr0 hr1 hinv
    have hd := hdown guess rest (by omega) hg1 hr0 hr1 hinv (fun h => ih (guess - 1) (rest + v1) (by omega) (by omega) (by omega) h (by
      have : (guess - 1) * v1 = guess * v1 - v1 := by grind
      omega))
    by_cases hgB : guess / 4294967296 > 0
    · obtain ⟨r, hev, hp⟩ := hd
      refine ⟨r, Ev.step (f := fun k => nat_digit.j1 k u v (n : Int) guess rest true) (fun k => ?_) hev, hp⟩
      simp only [nat_digit.l0]
      rw [if_pos hgB]
    · have hgl : guess < 4294967296 := by omega
      obtain ⟨p0, p1⟩ := mul_lim (g := guess) (b := v2) (by omega) (by omega) h2.1 h2.2
      have e1 : IntKind.u64.wrap (guess * IntKind.u64.wrap v2) = guess * v2 := by rw [u64_id h2.1 (by omega), u64_id p0 (by omega)]
      have e2 : Go.bits .or .u64 (IntKind.u64.wrap (rest * 4294967296)) (IntKind.u64.wrap u2) = rest * 4294967296 + u2 := by
        rw [u64_id (by omega) (by omega), u64_id h3.1 (by omega), bits_or_shift hr0 hr1 h3.1 h3.2]
      by_cases c : guess * v2 > rest * 4294967296 + u2
      · obtain ⟨r, hev, hp⟩ := hd
        refine ⟨r, Ev.step (f := fun k => nat_digit.j1 k u v (n : Int) guess rest true) (fun k => ?_) hev, hp⟩
        simp only [nat_digit.l0]
        rw [if_neg hgB, a2 (), if_pos b2, if_pos b3, if_pos b4, ← ev2, ← eu2, e1, e2, decide_eq_true c]
      · have hup : guess * (v1 * 4294967296 + v2) ≤ top2 * 4294967296 + u2 := by
          have h8 : guess * (v1 * 4294967296 + v2) = (guess * v1) * 4294967296 + guess * v2 := by grind
          rw [h8]
          generalize guess * v2 = z at *
          omega
        obtain ⟨r, hev, hp⟩ := hj2 guess (by omega) hgl (by omega) (hle _ (by omega) hgl hup)
        refine ⟨r, Ev.step (f := fun k => nat_digit.j1 k u v (n : Int) guess rest false) (fun k => ?_) (Ev.step (f := fun k => nat_digit.j2 k u v (n : Int) guess) (fun k => ?_) hev), hp⟩
        · simp only [nat_digit.l0]
          rw [if_neg hgB, a2 (), if_pos b2, if_pos b3, if_pos b4, ← ev2, ← eu2, e1, e2, decide_eq_false c]
        · simp only [nat_digit.j1]
          rw [if_neg (by decide)]
theorem div_bounds {U V : Int} (hV : 0 < V) (hU : 0 ≤ U) : 0 ≤ U / V ∧ U / V * V ≤ U ∧ U < (U / V + 1) * V ∧ U % V = U - U / V * V := by
  have h1 := Int.mul_ediv_add_emod U V
  have h2 := Int.emod_nonneg U (show V ≠ 0 by omega)
  have h3 := Int.emod_lt_of_pos U hV
  refine ⟨Int.ediv_nonneg hU (by omega), ?_⟩
  rw [Int.add_mul, Int.one_mul, Int.mul_comm (U / V) V]
  omega
theorem digit_ev (u v : List Int) (n : Nat) (hn : 2 ≤ n) (hnv : v.length = n) (hnu : u.length = n + 1) (hv : Lim 4294967296 v) (hu : Lim 4294967296 u) (hL : n ≤ 549755813888) (htop : 2147483648 ≤ v.getD (n - 1) 0) (hlt : val 4294967296 u < 4294967296 * val 4294967296 v) :
    ∃ r, Ev (fun k => nat_digit.f k u v) (val 4294967296 u / val 4294967296 v, r) ∧ Lim 4294967296 r ∧ r.length = n + 1 ∧ val 4294967296 r = val 4294967296 u % val 4294967296 v := by
  have hB : (0 : Int) < 4294967296 := by decide
  have h1 := hv.rd hB ((n - 1 : Nat) : Int)
  have h2 := hv.rd hB ((n - 2 : Nat) : Int)
  have k0 := hu.rd hB (n : Int)
  have k1 := hu.rd hB ((n - 1 : Nat) : Int)
  have k2 := hu.rd hB ((n - 2 : Nat) : Int)
  have htop' : 2147483648 ≤ rd v ((n - 1 : Nat) : Int) := by rw [rd_getD]; exact htop
  have hP0 : (0 : Int) < 4294967296 ^ (n - 2) := Int.pow_pos (by decide)
  have hVl0 := val_nonneg hB (hv.take (n - 2))
  have hVl1 := val_lt hB (hv.take (n - 2))
  rw [List.length_take, Nat.min_eq_left (by omega)] at hVl1
  have hUl0 := val_nonneg hB (hu.take (n - 2))
  have hUl1 := val_lt hB (hu.take (n - 2))
  rw [List.length_take, Nat.min_eq_left (by omega)] at hUl1
  have hVe : val 4294967296 v = (rd v ((n - 1 : Nat) : Int) * 4294967296 + rd v ((n - 2 : Nat) : Int)) * 4294967296 ^ (n - 2) + val 4294967296 (v.take (n - 2)) := by
    have e1 := val_take_succ 4294967296 v (n - 1) (by omega)
    have e2 := val_take_succ 4294967296 v (n - 2) (by omega)
    rw [List.take_of_length_le (by omega)] at e1
    rw [show n - 2 + 1 = n - 1 by omega] at e2
    rw [e1, e2, rd_getD, rd_getD, show n - 1 = (n - 2) + 1 by omega, Int.pow_succ]
    grind
  have hUe : val 4294967296 u = ((rd u (n : Int) * 4294967296 + rd u ((n - 1 : Nat) : Int)) * 4294967296 + rd u ((n - 2 : Nat) : Int)) * 4294967296 ^ (n - 2) + val 4294967296 (u.take (n - 2)) := by
    have e0 := val_take_succ 4294967296 u n (by omega)
    have e1 := val_take_succ 4294967296 u (n - 1) (by omega)
    have e2 := val_take_succ 4294967296 u (n - 2) (by omega)
    rw [List.take_of_length_le (by omega)] at e0
    rw [show n - 2 + 1 = n - 1 by omega] at e2
    rw [show n - 1 + 1 = n by omega] at e1
    have p2 : (4294967296 : Int) ^ n = 4294967296 ^ (n - 2) * 4294967296 * 4294967296 := by
      rw [show (4294967296 : Int) ^ n = 4294967296 ^ ((n - 2) + 1 + 1) by congr 1; omega, Int.pow_succ, Int.pow_succ]
    have p1 : (4294967296 : Int) ^ (n - 1) = 4294967296 ^ (n - 2) * 4294967296 := by
      rw [show (4294967296 : Int) ^ (n - 1) = 4294967296 ^ ((n - 2) + 1) by congr 1; omega, Int.pow_succ]
    rw [e0, e1, e2, rd_getD, rd_getD, rd_getD, p1, p2]
    grind
  have hV0 : 0 < val 4294967296 v := by
    rw [hVe]
    have : 1 * 4294967296 ^ (n - 2) ≤ (rd v ((n - 1 : Nat) : Int) * 4294967296 + rd v ((n - 2 : Nat) : Int)) * 4294967296 ^ (n - 2) := Int.mul_le_mul_of_nonneg_right (by omega) (by omega)
    omega
  have hBV : 4294967296 * 4294967296 ^ (n - 2) ≤ val 4294967296 v := by
    rw [hVe]
    have : 4294967296 * 4294967296 ^ (n - 2) ≤ (rd v ((n - 1 : Nat) : Int) * 4294967296 + rd v ((n - 2 : Nat) : Int)) * 4294967296 ^ (n - 2) := Int.mul_le_mul_of_nonneg_right (by omega) (by omega)
    omega
  obtain ⟨hq0, hqV, hqU, hmod⟩ := div_bounds hV0 (val_nonneg hB hu)
  have hqB : val 4294967296 u / val 4294967296 v < 4294967296 := Int.ediv_lt_of_lt_mul hV0 hlt
  have hj2 : ∀ g : Int, 0 ≤ g → g < 4294967296 → val 4294967296 u / val 4294967296 v ≤ g → g ≤ val 4294967296 u / val 4294967296 v + 1 → ∃ r, Ev (fun k => nat_digit.j2 k u v (n : Int) g) (val 4294967296 u / val 4294967296 v, r) ∧ (Lim 4294967296 r ∧ r.length = n + 1 ∧ val 4294967296 r = val 4294967296 u % val 4294967296 v) := by
    intro g hg0 hg hqg hgq
    obtain ⟨r, hev, r1, r2, r3⟩ := digit_l1 v g hg0 hg hv (by omega) (val 4294967296 u / val 4294967296 v) u hu (by omega) hq0 hqV hqU hqg hgq v.length 0 u 0 0 (by omega) (by omega) hu (by omega) (by omega) (by omega) (by omega) (by simp [val]) rfl
    rw [hnv] at hev
    refine ⟨r, Ev.step (f := fun k => nat_digit.l1 k u v (n : Int) g 0 0 (n : Int) ((0 : Nat) : Int)) (fun k => ?_) hev, r1, by omega, by rw [r3, hmod]⟩
    simp only [nat_digit.j2]
    rw [hnv]; rfl
  have hq12 := knuth_ge (B := 4294967296) hVe hVl0 hUe hUl1 hP0 hqV hq0
  have hle : ∀ g : Int, 0 ≤ g → g < 4294967296 → g * (rd v ((n - 1 : Nat) : Int) * 4294967296 + rd v ((n - 2 : Nat) : Int)) ≤ (rd u (n : Int) * 4294967296 + rd u ((n - 1 : Nat) : Int)) * 4294967296 + rd u ((n - 2 : Nat) : Int) → g ≤ val 4294967296 u / val 4294967296 v + 1 :=
    fun g hg0 hg h => knuth_le hVe hVl1 hUe hUl0 hP0 hg0 hg h hBV hqU hV0
  have ht3 : (rd u (n : Int) * 4294967296 + rd u ((n - 1 : Nat) : Int)) * 4294967296 + rd u ((n - 2 : Nat) : Int) < 4294967296 * (rd v ((n - 1 : Nat) : Int) * 4294967296 + rd v ((n - 2 : Nat) : Int) + 1) := by
    have h5 : ((rd u (n : Int) * 4294967296 + rd u ((n - 1 : Nat) : Int)) * 4294967296 + rd u ((n - 2 : Nat) : Int)) * 4294967296 ^ (n - 2) < (4294967296 * (rd v ((n - 1 : Nat) : Int) * 4294967296 + rd v ((n - 2 : Nat) : Int) + 1)) * 4294967296 ^ (n - 2) := by
      have h6 : (4294967296 * (rd v ((n - 1 : Nat) : Int) * 4294967296 + rd v ((n - 2 : Nat) : Int) + 1)) * 4294967296 ^ (n - 2) = 4294967296 * ((rd v ((n - 1 : Nat) : Int) * 4294967296 + rd v ((n - 2 : Nat) : Int)) * 4294967296 ^ (n - 2)) + 4294967296 * 4294967296 ^ (n - 2) := by grind
      rw [h6]
      generalize (rd v ((n - 1 : Nat) : Int) * 4294967296 + rd v ((n - 2 : Nat) : Int)) * 4294967296 ^ (n - 2) = X at *
      generalize ((rd u (n : Int) * 4294967296 + rd u ((n - 1 : Nat) : Int)) * 4294967296 + rd u ((n - 2 : Nat) : Int)) * 4294967296 ^ (n - 2) = Y at *
      clear hj2 hle hq12
      omega
    exact Int.lt_of_mul_lt_mul_right h5 (by omega)
  clear hqV hqU hmod hUl0 hUl1 hVl0 hVl1 hVe hUe hBV
  generalize hQ : val 4294967296 u / val 4294967296 v = q at *
  generalize hR : val 4294967296 u % val 4294967296 v = rr at *
  generalize hu0 : rd u (n : Int) = x0 at *
  generalize hu1 : rd u ((n - 1 : Nat) : Int) = x1 at *
  have ht0 : 0 ≤ x0 * 4294967296 + x1 := by omega
  have ht1 : x0 * 4294967296 + x1 ≤ rd v ((n - 1 : Nat) : Int) * 4294967296 + 4294967295 := by omega
  have ht2 : x0 * 4294967296 + x1 < 18446744073709551616 := by omega
  have hdv0 : 0 < rd v ((n - 1 : Nat) : Int) := by omega
  obtain ⟨d0, d1, d2, d3⟩ := div_bounds hdv0 ht0
  have d4 := Int.emod_nonneg (x0 * 4294967296 + x1) (show rd v ((n - 1 : Nat) : Int) ≠ 0 by omega)
  have d5 := Int.emod_lt_of_pos (x0 * 4294967296 + x1) hdv0
  have hgq : q ≤ (x0 * 4294967296 + x1) / rd v ((n - 1 : Nat) : Int) := by
    rw [Int.le_ediv_iff_mul_le hdv0]
    have h6 : 0 ≤ q * rd v ((n - 2 : Nat) : Int) := Int.mul_nonneg hq0 h2.1
    have h8 : q * (rd v ((n - 1 : Nat) : Int) * 4294967296 + rd v ((n - 2 : Nat) : Int)) = (q * rd v ((n - 1 : Nat) : Int)) * 4294967296 + q * rd v ((n - 2 : Nat) : Int) := by grind
    rw [h8] at hq12
    generalize q * rd v ((n - 2 : Nat) : Int) = z at *
    generalize q * rd v ((n - 1 : Nat) : Int) = z' at *
    clear hle hj2 d1 d2 d3 d4 d5 h8
    omega
  have hgB : (x0 * 4294967296 + x1) / rd v ((n - 1 : Nat) : Int) ≤ 4294967297 := by
    have : (x0 * 4294967296 + x1) / rd v ((n - 1 : Nat) : Int) < 4294967298 := by
      refine Int.ediv_lt_of_lt_mul hdv0 ?_
      omega
    omega
  generalize hG : (x0 * 4294967296 + x1) / rd v ((n - 1 : Nat) : Int) = g at *
  generalize hE : (x0 * 4294967296 + x1) % rd v ((n - 1 : Nat) : Int) = e at *
  obtain ⟨m, hm⟩ := Int.eq_ofNat_of_zero_le (show 0 ≤ g - q by omega)
  obtain ⟨r, hev, r1, r2, r3⟩ := guess_loop u v n hn hnv hnu hv hu hL q (x0 * 4294967296 + x1) _ _ _ (fun r => Lim 4294967296 r ∧ r.length = n + 1 ∧ val 4294967296 r = rr) rfl rfl rfl hq0 hqB ht0 ht1 hq12 hle hj2 m g e (by omega) hgB d4 (by omega) (by omega)
  refine ⟨r, Ev.congr (fun k => ?_) hev, r1, r2, r3⟩
  have a1 : wrap64 ((n : Int) - 1) = ((n - 1 : Nat) : Int) := by rw [w64 (by omega) (by omega)]; omega
  have b0 : (0 : Int) ≤ ((n - 1 : Nat) : Int) := by omega
  have b1 : ((n - 1 : Nat) : Int) < (v.length : Int) := by omega
  have b2 : ((n - 1 : Nat) : Int) < (u.length : Int) := by omega
  have b3 : (n : Int) < (u.length : Int) := by omega
  have b4 : (0 : Int) ≤ (n : Int) := by omega
  have e1 : Go.bits .or .u64 (IntKind.u64.wrap (IntKind.u64.wrap x0 * 4294967296)) (IntKind.u64.wrap x1) = x0 * 4294967296 + x1 := by
    rw [u64_id k0.1 (by omega), u64_id (by omega) (by omega), u64_id k1.1 (by omega), bits_or_shift k0.1 k0.2 k1.1 k1.2]
  have e2 : IntKind.u64.wrap (rd v ((n - 1 : Nat) : Int)) = rd v ((n - 1 : Nat) : Int) := u64_id h1.1 (by omega)
  have e3 : IntKind.u64.wrap g = g := u64_id (by omega) (by omega)
  simp only [nat_digit.f]
  rw [hnv]
  rw [if_pos b4, if_pos b3, a1, if_pos b0, if_pos b2, ← hnv, if_pos (by rw [hnv]; rw [hnv] at b1; exact b1), hnv, e2, if_neg (by omega), hu0, hu1, e1, Int.tdiv_eq_ediv_of_nonneg ht0, Int.tmod_eq_emod_of_nonneg ht0, hG, hE, e3]
theorem digit_at_ev (u v : List Int) (n j : Nat) (hn : 2 ≤ n) (hnv : v.length = n) (hj : j + n + 1 ≤ u.length) (hv : Lim 4294967296 v) (hu : Lim 4294967296 u) (hL : n ≤ 549755813888) (htop : 2147483648 ≤ v.getD (n - 1) 0) (hlt : val 4294967296 (u.drop (j + 1)) < val 4294967296 v) :
    ∃ r, Ev (fun k => nat_digit_at.f k u (j : Int) ((j + n + 1 : Nat) : Int) v) (val 4294967296 (u.drop j) / val 4294967296 v, r) ∧ Lim 4294967296 r ∧ r.length = u.length ∧ val 4294967296 r = val 4294967296 u - 4294967296 ^ j * (val 4294967296 (u.drop j) / val 4294967296 v * val 4294967296 v) ∧ val 4294967296 (r.drop j) < val 4294967296 v ∧ r.take j = u.take j := by
  have hB : (0 : Int) < 4294967296 := by decide
  have hvn := val_lt hB hv
  rw [hnv] at hvn
  have hs := val_split 4294967296 (u.drop (j + 1)) n (by rw [List.length_drop]; omega)
  have t0 := val_nonneg hB ((hu.drop (j + 1)).take n)
  have t1 := val_nonneg hB ((hu.drop (j + 1)).drop n)
  have hz : val 4294967296 (u.drop (j + n + 1)) = 0 := by
    rw [List.drop_drop, show j + 1 + n = j + n + 1 by omega] at hs t1
    generalize val 4294967296 (u.drop (j + n + 1)) = z at *
    have hp : (0 : Int) < 4294967296 ^ n := Int.pow_pos (by decide)
    rcases Int.lt_trichotomy z 0 with h | h | h
    · omega
    · exact h
    · have : 4294967296 ^ n * 1 ≤ (4294967296 : Int) ^ n * z := Int.mul_le_mul_of_nonneg_left (by omega) (by omega)
      omega
  have hwl : ((u.take (j + n + 1)).drop j).length = n + 1 := by rw [List.length_drop, List.length_take]; omega
  have hdj : u.drop j = (u.take (j + n + 1)).drop j ++ u.drop (j + n + 1) := by
    have h5 : u = u.take (j + n + 1) ++ u.drop (j + n + 1) := (List.take_append_drop _ _).symm
    have h6 : u.drop j = (u.take (j + n + 1) ++ u.drop (j + n + 1)).drop j := by rw [← h5]
    rw [h6, List.drop_append_of_le_length (by rw [List.length_take]; omega)]
  have hw : val 4294967296 ((u.take (j + n + 1)).drop j) = val 4294967296 (u.drop j) := by
    rw [hdj, val_append, hz, Int.mul_zero, Int.add_zero]
  have hx := hu.getD hB j
  have hlt' : val 4294967296 (u.drop j) < 4294967296 * val 4294967296 v := by
    rw [val_drop _ _ j (by omega)]
    omega
  obtain ⟨r, hev, r1, r2, r3⟩ := digit_ev ((u.take (j + n + 1)).drop j) v n hn hnv hwl hv ((hu.take _).drop _) hL htop (by rw [hw]; exact hlt')
  rw [hw] at hev r3
  have hu0 := val_nonneg hB (hu.drop j)
  have hv0 : 0 < val 4294967296 v := by omega
  obtain ⟨q0, q1, q2, q3⟩ := div_bounds hv0 hu0
  have hlj : (u.take j).length = j := by rw [List.length_take]; omega
  have hdr : (u.take j ++ r ++ u.drop (j + n + 1)).drop j = r ++ u.drop (j + n + 1) := by
    rw [List.append_assoc, List.drop_append_of_le_length (by omega), List.drop_of_length_le (by omega), List.nil_append]
  refine ⟨u.take j ++ r ++ u.drop (j + n + 1), ?_, lim_append.2 ⟨lim_append.2 ⟨hu.take _, r1⟩, hu.drop _⟩, ?_, ?_, ?_, ?_⟩
  · refine Ev.congr (f := fun k => (nat_digit.f k ((u.take (j + n + 1)).drop j) v).bind fun b => some (b.1, u.take j ++ b.2 ++ u.drop (j + n + 1))) (fun k => ?_) (Ev.bind (f := fun _ b => some (b.1, u.take j ++ b.2 ++ u.drop (j + n + 1))) hev (Ev.now _))
    simp only [nat_digit_at.f]
    rw [if_pos (by omega), if_pos (by omega), if_pos (by omega), Int.toNat_natCast, Int.toNat_natCast]
  · rw [List.length_append, List.length_append, hlj, r2, List.length_drop]; omega
  · rw [val_append, val_append, hz, Int.mul_zero, Int.add_zero, hlj, val_split 4294967296 u j (by omega), r3, q3]
    grind
  · rw [hdr, val_append, hz, Int.mul_zero, Int.add_zero, r3]
    exact Int.emod_lt_of_pos _ hv0
  · rw [List.append_assoc, List.take_append_of_le_length (by omega), List.take_of_length_le (by omega)]
theorem divmod_loop (v : List Int) (n : Nat) (s : Nat) (hs : s < 32) (hn : 2 ≤ n) (hnv : v.length = n) (hv : Lim 4294967296 v) (hL : n ≤ 68719476736) (htop : 2147483648 ≤ v.getD (n - 1) 0) (m : Nat) (hm : m ≤ 68719476736) (U : Int) : ∀ (i : Nat) (quot u : List Int), i ≤ m → quot.length = m → u.length = m + n → Lim 4294967296 u → Lim 4294967296 quot →
    quot.take i = List.replicate i 0 → val 4294967296 (u.drop i) < val 4294967296 v → val 4294967296 u + val 4294967296 v * val 4294967296 quot = U →
    ∃ q r, Ev (fun k => nat_DivMod.l0 k quot (s : Int) v u (n : Int) ((i : Int) - 1)) (q, r) ∧ Lim 4294967296 q ∧ Nrm q ∧ Lim 4294967296 r ∧ Nrm r ∧ val 4294967296 q = U / val 4294967296 v ∧ val 4294967296 r = (U % val 4294967296 v) / 2 ^ s ∧ q.length ≤ m ∧ r.length ≤ m + n := by
  have hB : (0 : Int) < 4294967296 := by decide
  intro i
  induction i with
  | zero =>
    intro quot u hi hq hu hul hql hz hlt hU
    rw [List.drop_zero] at hlt
    have hu0 := val_nonneg hB hul
    have hdiv : U / val 4294967296 v = val 4294967296 quot := by
      rw [← hU, Int.add_mul_ediv_left _ _ (by omega), Int.ediv_eq_zero_of_lt hu0 hlt, Int.zero_add]
    have hmod : U % val 4294967296 v = val 4294967296 u := by
      rw [← hU, Int.add_mul_emod_self_left, Int.emod_eq_of_lt hu0 hlt]
    obtain ⟨r, h1, h2, h3, h4, h5⟩ := Shr_ev (trim u) s (lim_trim hul) (nrm_trim u) (Nat.le_trans (length_trim u) (by omega)) (by omega)
    have hlt2 := length_trim u
    refine ⟨trim quot, r, ?_, lim_trim hql, nrm_trim _, h2, h3, by rw [val_trim, hdiv], by rw [h4, val_trim, hmod], Nat.le_trans (length_trim _) (by omega), by omega⟩
    refine Ev.step (f := fun k => (nat_Trim.f k u).bind fun t210 => (nat_Shr.f k t210 (s : Int)).bind fun bt213 => (nat_Trim.f k quot).bind fun t217 => some (t217, bt213.1)) (fun k => ?_) ?_
    · simp only [nat_DivMod.l0]
      rw [if_neg (by omega)]
    · refine Ev.bind (f := fun k t210 => (nat_Shr.f k t210 (s : Int)).bind fun bt213 => (nat_Trim.f k quot).bind fun t217 => some (t217, bt213.1)) (Trim_ev u (by omega)) ?_
      refine Ev.bind (f := fun k (bt213 : List Int × Bool) => (nat_Trim.f k quot).bind fun t217 => some (t217, bt213.1)) h1 ?_
      exact Ev.bind (f := fun _ t217 => some (t217, r)) (Trim_ev quot (by omega)) (Ev.now _)
  | succ i ih =>
    intro quot u hi hq hu hul hql hz hlt hU
    obtain ⟨r, hev, r1, r2, r3, r4, r5⟩ := digit_at_ev u v n i hn hnv (by omega) hv hul (by omega) htop hlt
    have hv0 : 0 < val 4294967296 v := Int.lt_of_le_of_lt (val_nonneg hB (hul.drop (i + 1))) hlt
    obtain ⟨q0, q1, q2, q3⟩ := div_bounds hv0 (val_nonneg hB (hul.drop i))
    have hq4 : val 4294967296 (u.drop i) / val 4294967296 v < 4294967296 := by
      refine Int.ediv_lt_of_lt_mul hv0 ?_
      have hx := hul.getD hB i
      rw [val_drop _ _ i (by omega)]
      clear q1 q2 q3 r3 hev
      omega
    have hqi : quot.getD i 0 = 0 := by
      have : (quot.take (i + 1)).getD i 0 = 0 := by rw [hz, getD_replicate]
      rw [List.getD_eq_getElem?_getD, List.getElem?_take, if_pos (by omega)] at this
      rw [List.getD_eq_getElem?_getD]; exact this
    clear q1 q2 q3
    generalize val 4294967296 (u.drop i) / val 4294967296 v = dgt at *
    obtain ⟨q, rr, hev2, h⟩ := ih (quot.set i dgt) r (by omega) (by rw [List.length_set, hq]) (by omega) r1 (hql.set _ ⟨q0, hq4⟩) (by
        rw [List.take_set_of_le (Nat.le_refl _)]
        have := congrArg (List.take i) hz
        rw [List.take_take, Nat.min_eq_left (by omega), List.take_replicate, Nat.min_eq_left (by omega)] at this
        exact this) r4 (by
        rw [val_set _ _ _ _ (by omega), hqi, r3, ← hU]
        clear hev r3 r4 hlt
        grind)
    refine ⟨q, rr, ?_, h⟩
    refine Ev.step (f := fun k => (nat_digit_at.f k u (i : Int) ((i + n + 1 : Nat) : Int) v).bind fun bt207 => nat_DivMod.l0 k (quot.set i bt207.1) (s : Int) v bt207.2 (n : Int) ((i : Int) - 1)) (fun k => ?_) ?_
    · have e1 : (((i + 1 : Nat) : Int) - 1) = (i : Int) := by omega
      have e2 : ∀ _ : Unit, wrap64 (wrap64 ((i : Int) + (n : Int)) + 1) = ((i + n + 1 : Nat) : Int) := fun _ => by rw [w64 (x := (i : Int) + (n : Int)) (by omega) (by omega), w64 (by omega) (by omega)]; omega
      have e3 : ∀ _ : Unit, wrap64 ((i : Int) - 1) = (i : Int) - 1 := fun _ => w64 (by omega) (by omega)
      have b1 : (i : Int) ≤ ((i + n + 1 : Nat) : Int) := by omega
      have b2 : ((i + n + 1 : Nat) : Int) ≤ (u.length : Int) := by omega
      have b3 : (i : Int) < (quot.length : Int) := by omega
      have b4 : (i : Int) ≥ 0 := by omega
      have b5 : 0 ≤ (i : Int) := b4
      simp only [nat_DivMod.l0]
      rw [e1, if_pos b4, if_pos b5, e2 (), if_pos b1, if_pos b2]
      simp only [if_pos b3, e3 (), Int.toNat_natCast]
    · exact Ev.bind (f := fun k (bt207 : Int × List Int) => nat_DivMod.l0 k (quot.set i bt207.1) (s : Int) v bt207.2 (n : Int) ((i : Int) - 1)) hev hev2
theorem len_of_val {xs : List Int} {n : Nat} (hx : Lim 4294967296 xs) (hn : Nrm xs) (h1 : (4294967296 : Int) ^ n ≤ val 4294967296 xs) (h2 : val 4294967296 xs < 4294967296 ^ (n + 1)) : xs.length = n + 1 := by
  have hB : (0 : Int) < 4294967296 := by decide
  rcases Nat.lt_trichotomy xs.length (n + 1) with h | h | h
  · have h3 := val_lt hB hx
    have h4 := pow_mono' hB (show xs.length ≤ n by omega)
    omega
  · exact h
  · have hne : xs ≠ [] := by rintro rfl; simp at h
    have h3 := val_ge hB hx hn hne
    have h4 := pow_mono' hB (show n + 1 ≤ xs.length - 1 by omega)
    omega
theorem val_copy {xs : List Int} {m : Nat} (h : xs.length ≤ m) : xs.take m ++ (List.replicate m (0 : Int)).drop xs.length = xs ++ List.replicate (m - xs.length) 0 := by
  rw [List.take_of_length_le h, List.drop_replicate]
theorem DivMod_ev (a b : List Int) (ha : Lim 4294967296 a) (hb : Lim 4294967296 b) (na : Nrm a) (nb : Nrm b) (hb0 : b ≠ []) (hLa : a.length ≤ 34359738368) (hLb : b.length ≤ 34359738368) :
    ∃ q r, Ev (fun k => nat_DivMod.f k a b) (q, r) ∧ Lim 4294967296 q ∧ Nrm q ∧ Lim 4294967296 r ∧ Nrm r ∧ val 4294967296 q = val 4294967296 a / val 4294967296 b ∧ val 4294967296 r = val 4294967296 a % val 4294967296 b ∧ q.length ≤ a.length + 1 := by
  have hB : (0 : Int) < 4294967296 := by decide
  have va0 := val_nonneg hB ha
  have vb0 := val_pos hB hb nb hb0
  by_cases hlt : val 4294967296 a < val 4294967296 b
  · refine ⟨[], a, ?_, lim_nil _, nrm_nil, ha, na, ?_, ?_, by simp⟩
    · refine Ev.bind (f := fun k t175 => _) (Compare_ev a b ha hb na nb (by omega) (by omega)) ?_
      rw [show cmpI (val 4294967296 a) (val 4294967296 b) = -1 by unfold cmpI; rw [if_pos hlt]]
      refine Ev.congr (f := fun _ => some ([], a)) (fun k => ?_) (Ev.now _)
      rw [if_pos (by decide)]
      unfold slices_Clone_uint32_uint32.f
      rw [if_pos (by omega)]
      rfl
    · rw [Int.ediv_eq_zero_of_lt va0 hlt]; rfl
    · rw [Int.emod_eq_of_lt va0 hlt]
  · have hcmp : ¬ cmpI (val 4294967296 a) (val 4294967296 b) < 0 := by
      unfold cmpI; rw [if_neg hlt]; split <;> decide
    have hlab : b.length ≤ a.length := by
      rcases Nat.lt_or_ge a.length b.length with h | h
      · have := len_lt_val hB ha hb nb h; omega
      · exact h
    by_cases hl1 : b.length = 1
    · obtain ⟨d, rfl⟩ := List.length_eq_one_iff.1 hl1
      have hd := hb d (by simp)
      have hdv : val 4294967296 [d] = d := by simp [val]
      rw [hdv] at vb0
      obtain ⟨q, h1, h2, h3, h4, h5⟩ := DivSmall_ev a d ha vb0 hd.2 (by omega)
      have m0 := Int.emod_nonneg (val 4294967296 a) (show d ≠ 0 by omega)
      have m1 := Int.emod_lt_of_pos (val 4294967296 a) vb0
      obtain ⟨r, g1, g2, g3, g4, g5⟩ := Of_ev (val 4294967296 a % d) m0 (by omega)
      refine ⟨q, r, ?_, h2, h3, g2, g3, by rw [h4, hdv], by rw [g4, hdv], by omega⟩
      refine Ev.bind (f := fun k t175 => _) (Compare_ev a [d] ha hb na nb (by omega) (by omega)) ?_
      refine Ev.congr (f := fun k => (nat_DivSmall.f k a d).bind fun bt180 => (nat_Of.f k (IntKind.u64.wrap bt180.2)).bind fun t184 => some (bt180.1, t184)) (fun k => ?_) ?_
      · rw [if_neg hcmp, if_pos (by rfl), if_pos (by simp)]
        rfl
      · refine Ev.bind (f := fun k (bt180 : List Int × Int) => (nat_Of.f k (IntKind.u64.wrap bt180.2)).bind fun t184 => some (bt180.1, t184)) h1 ?_
        refine Ev.bind (f := fun _ t184 => some (q, t184)) ?_ (Ev.now _)
        refine Ev.congr (fun k => ?_) g1
        rw [u64_id m0 (by omega)]
    · have hbl : 2 ≤ b.length := by
        have : b.length ≠ 0 := fun h => hb0 (List.length_eq_zero_iff.1 h)
        omega
      have htx := hb.rd hB ((b.length - 1 : Nat) : Int)
      have hsp := val_split 4294967296 b (b.length - 1) (by omega)
      have hdl : b.drop (b.length - 1) = [b.getD (b.length - 1) 0] := by
        rw [drop_cons' _ _ (by omega), List.drop_of_length_le (by omega)]
      have hbr : rd b ((b.length - 1 : Nat) : Int) = b.getD (b.length - 1) 0 := rd_getD _ _
      rw [hdl] at hsp
      have hv1 : val 4294967296 [b.getD (b.length - 1) 0] = b.getD (b.length - 1) 0 := by simp [val]
      rw [hv1, ← hbr] at hsp
      have ht0 := val_nonneg hB (hb.take (b.length - 1))
      have ht1 := val_lt hB (hb.take (b.length - 1))
      rw [List.length_take, Nat.min_eq_left (by omega)] at ht1
      have hge := val_ge hB hb nb hb0
      have hpb : (0 : Int) < 4294967296 ^ (b.length - 1) := Int.pow_pos (by decide)
      generalize ht : rd b ((b.length - 1 : Nat) : Int) = t at *
      have htpos : 0 < t := by
        rcases Int.lt_trichotomy t 0 with h | h | h
        · omega
        · rw [h, Int.mul_zero] at hsp; omega
        · exact h
      obtain ⟨s, hse, hs32, hs1, hs2⟩ := Lead_eq t htpos htx.2
      have hp := pow_lt_base hs32
      have hp0 : (0 : Int) < 2 ^ s := Int.pow_pos (by decide)
      obtain ⟨v, v1, v2, v3, v4, v5⟩ := Shl_ev b s hb (by omega)
      obtain ⟨u, u1, u2, u3, u4, u5⟩ := Shl_ev a s ha (by omega)
      rw [show s / 32 = 0 by omega] at v5 u5
      have hvlow : 4294967296 ^ (b.length - 1) * 2147483648 ≤ val 4294967296 v := by
        rw [v4, hsp]
        have h5 : 4294967296 ^ (b.length - 1) * 2147483648 ≤ 4294967296 ^ (b.length - 1) * (t * 2 ^ s) := Int.mul_le_mul_of_nonneg_left hs1 (by omega)
        have h6 : 0 ≤ val 4294967296 (b.take (b.length - 1)) * 2 ^ s := Int.mul_nonneg ht0 (by omega)
        rw [Int.add_mul, Int.mul_assoc]
        omega
      have hvhigh : val 4294967296 v < 4294967296 ^ (b.length - 1 + 1) := by
        rw [v4, hsp, Int.pow_succ]
        have h6 : (t + 1) * 2 ^ s ≤ 4294967296 := by
          have hpb := pow_base (show s ≤ 32 by omega)
          have h7 : t < 2 ^ (32 - s) := by
            refine Int.lt_of_mul_lt_mul_left (a := 2 ^ s) ?_ (by omega)
            rw [hpb, Int.mul_comm]; exact hs2
          have h8 : (t + 1) * 2 ^ s ≤ 2 ^ (32 - s) * 2 ^ s := Int.mul_le_mul_of_nonneg_right (by omega) (by omega)
          rw [Int.mul_comm (2 ^ (32 - s)), hpb] at h8
          exact h8
        have h9 : (val 4294967296 (b.take (b.length - 1)) + 4294967296 ^ (b.length - 1) * t) * 2 ^ s < (4294967296 ^ (b.length - 1) * (t + 1)) * 2 ^ s := by
          refine Int.mul_lt_mul_of_pos_right ?_ hp0
          rw [Int.mul_add, Int.mul_one]; omega
        have h10 : (4294967296 ^ (b.length - 1) * (t + 1)) * 2 ^ s ≤ 4294967296 ^ (b.length - 1) * 4294967296 := by
          rw [Int.mul_assoc]
          exact Int.mul_le_mul_of_nonneg_left h6 (by omega)
        omega
      have hvn : v.length = b.length := by
        have := len_of_val v2 v3 (n := b.length - 1) (by omega) hvhigh
        omega
      have htop : 2147483648 ≤ v.getD (b.length - 1) 0 := by
        have e5 := val_split 4294967296 v (b.length - 1) (by omega)
        rw [show v.drop (b.length - 1) = [v.getD (b.length - 1) 0] by rw [drop_cons' _ _ (by omega), List.drop_of_length_le (by omega)]] at e5
        have e6 : val 4294967296 [v.getD (b.length - 1) 0] = v.getD (b.length - 1) 0 := by simp [val]
        rw [e6] at e5
        have e7 := val_lt hB (v2.take (b.length - 1))
        rw [List.length_take, Nat.min_eq_left (by omega)] at e7
        rcases Int.lt_or_le (v.getD (b.length - 1) 0) 2147483648 with h | h
        · have h11 : 4294967296 ^ (b.length - 1) * (v.getD (b.length - 1) 0 + 1) ≤ 4294967296 ^ (b.length - 1) * 2147483648 := Int.mul_le_mul_of_nonneg_left (by omega) (by omega)
          rw [Int.mul_add, Int.mul_one] at h11
          omega
        · exact h
      have hul : u.length ≤ a.length + 1 := by omega
      have hUv : val 4294967296 (u ++ List.replicate (a.length + 1 - u.length) 0) = val 4294967296 a * 2 ^ s := by
        rw [val_append, val_replicate, Int.mul_zero, Int.add_zero, u4]
      have hUl : (u ++ List.replicate (a.length + 1 - u.length) (0 : Int)).length = (a.length + 1 - b.length) + b.length := by
        rw [List.length_append, List.length_replicate]; omega
      have hUL : Lim 4294967296 (u ++ List.replicate (a.length + 1 - u.length) 0) := lim_append.2 ⟨u2, lim_replicate hB _⟩
      have hUd : val 4294967296 ((u ++ List.replicate (a.length + 1 - u.length) 0).drop (a.length + 1 - b.length)) < val 4294967296 v := by
        have e5 := val_split 4294967296 (u ++ List.replicate (a.length + 1 - u.length) 0) (a.length + 1 - b.length) (by rw [hUl]; omega)
        have e6 := val_nonneg hB (hUL.take (a.length + 1 - b.length))
        have e7 := val_lt hB ha
        rw [hUv] at e5
        generalize val 4294967296 ((u ++ List.replicate (a.length + 1 - u.length) 0).drop (a.length + 1 - b.length)) = z at *
        have e8 : 4294967296 ^ (a.length + 1 - b.length) * z ≤ val 4294967296 a * 2 ^ s := by omega
        have e9 : val 4294967296 a * 2 ^ s < 4294967296 ^ a.length * 2 ^ s := Int.mul_lt_mul_of_pos_right e7 hp0
        have e10 : (4294967296 : Int) ^ a.length = 4294967296 ^ (a.length + 1 - b.length) * 4294967296 ^ (b.length - 1) := by
          rw [← Int.pow_add]; congr 1; omega
        have e11 : (0 : Int) < 4294967296 ^ (a.length + 1 - b.length) := Int.pow_pos (by decide)
        have e12 : z < 4294967296 ^ (b.length - 1) * 2 ^ s := by
          refine Int.lt_of_mul_lt_mul_left (a := 4294967296 ^ (a.length + 1 - b.length)) ?_ (by omega)
          rw [← Int.mul_assoc, ← e10]; omega
        have e13 : 4294967296 ^ (b.length - 1) * 2 ^ s ≤ (4294967296 : Int) ^ (b.length - 1) * 2147483648 := Int.mul_le_mul_of_nonneg_left hp (by omega)
        omega
      obtain ⟨q, r, h1, h2, h3, h4, h5, h6, h7, h8, h9⟩ := divmod_loop v b.length s hs32 hbl hvn v2 (by omega) htop (a.length + 1 - b.length) (by omega) (val 4294967296 a * 2 ^ s) (a.length + 1 - b.length) (List.replicate (a.length + 1 - b.length) 0) (u ++ List.replicate (a.length + 1 - u.length) 0)
        (Nat.le_refl _) (by simp) hUl hUL (lim_replicate hB _) (by rw [List.take_of_length_le (by simp)]) hUd (by rw [hUv, val_replicate, Int.mul_zero, Int.add_zero])
      refine ⟨q, r, ?_, h2, h3, h4, h5, ?_, ?_, by omega⟩
      · refine Ev.bind (f := fun k t175 => _) (Compare_ev a b ha hb na nb (by omega) (by omega)) ?_
        have w1 : ∀ _ : Unit, wrap64 ((b.length : Int) - 1) = ((b.length - 1 : Nat) : Int) := fun _ => by rw [w64 (by omega) (by omega)]; omega
        have w2 : ∀ _ : Unit, wrap64 ((a.length : Int) + 1) = ((a.length + 1 : Nat) : Int) := fun _ => by rw [w64 (by omega) (by omega)]; omega
        have w3 : ∀ _ : Unit, wrap64 (((List.replicate (a.length + 1) (0 : Int)).length : Int) - (v.length : Int)) = ((a.length + 1 - b.length : Nat) : Int) := fun _ => by rw [List.length_replicate, hvn, w64 (by omega) (by omega)]; omega
        have w4 : ∀ _ : Unit, wrap64 (((List.replicate (a.length + 1 - b.length) (0 : Int)).length : Int) - 1) = ((a.length + 1 - b.length : Nat) : Int) - 1 := fun _ => by rw [List.length_replicate, w64 (by omega) (by omega)]
        have b1 : ¬ (b.length : Int) = 1 := by omega
        have b2 : (0 : Int) ≤ ((b.length - 1 : Nat) : Int) := by omega
        have b3 : ((b.length - 1 : Nat) : Int) < (b.length : Int) := by omega
        have b4 : (0 : Int) ≤ ((a.length + 1 : Nat) : Int) := by omega
        have b5 : a.length + 1 ≤ 70368744177664 := by omega
        have b6 : (0 : Int) ≤ ((a.length + 1 - b.length : Nat) : Int) := by omega
        have b7 : a.length + 1 - b.length ≤ 70368744177664 := by omega
        refine Ev.congr (f := fun k => (nat_Shl.f k b (s : Int)).bind fun t189 => ((nat_Shl.f k a (s : Int)).bind fun t195 => ((copy_e55.f (List.replicate (a.length + 1) (0 : Int)) t195).bind fun bt198 => (if 0 ≤ (wrap64 (((List.replicate (a.length + 1) (0 : Int)).length : Int) - (t189.length : Int))) then (if (wrap64 (((List.replicate (a.length + 1) (0 : Int)).length : Int) - (t189.length : Int)) : Int).toNat ≤ 70368744177664 then ((some (List.replicate (wrap64 (((List.replicate (a.length + 1) (0 : Int)).length : Int) - (t189.length : Int)) : Int).toNat 0 : List Int)).bind fun y200 => (nat_DivMod.l0 k y200 (s : Int) t189 bt198.2 (t189.length : Int) (wrap64 ((y200.length : Int) - 1)))) else (none)) else (none))))) (fun k => ?_) ?_
        · rw [if_neg hcmp, if_neg b1, w1 (), if_pos b2, if_pos b3, ht, hse, Option.bind_some]
          simp only [w2 (), if_pos b4, if_pos b5, Option.bind_some, Int.toNat_natCast]
        · refine Ev.bind (f := fun k t189 => ((nat_Shl.f k a (s : Int)).bind fun t195 => ((copy_e55.f (List.replicate (a.length + 1) (0 : Int)) t195).bind fun bt198 => (if 0 ≤ (wrap64 (((List.replicate (a.length + 1) (0 : Int)).length : Int) - (List.length t189 : Int))) then (if (wrap64 (((List.replicate (a.length + 1) (0 : Int)).length : Int) - (List.length t189 : Int)) : Int).toNat ≤ 70368744177664 then ((some (List.replicate (wrap64 (((List.replicate (a.length + 1) (0 : Int)).length : Int) - (List.length t189 : Int)) : Int).toNat 0 : List Int)).bind fun y200 => (nat_DivMod.l0 k y200 (s : Int) t189 bt198.2 (List.length t189 : Int) (wrap64 ((y200.length : Int) - 1)))) else (none)) else (none))))) v1 ?_
          rw [w3 ()]
          refine Ev.bind (f := fun k t195 => ((copy_e55.f (List.replicate (a.length + 1) (0 : Int)) t195).bind fun bt198 => (if (0 : Int) ≤ ((a.length + 1 - b.length : Nat) : Int) then (if (((a.length + 1 - b.length : Nat) : Int)).toNat ≤ 70368744177664 then ((some (List.replicate (((a.length + 1 - b.length : Nat) : Int)).toNat 0 : List Int)).bind fun y200 => (nat_DivMod.l0 k y200 (s : Int) v bt198.2 (v.length : Int) (wrap64 ((y200.length : Int) - 1)))) else (none)) else (none)))) u1 ?_
          refine Ev.congr (fun k => ?_) h1
          unfold copy_e55.f
          simp only [Option.bind_some, if_pos b6, if_pos b7, List.length_replicate, Int.toNat_natCast, val_copy hul]
          rw [hvn]
          have w5 := w4 ()
          rw [List.length_replicate] at w5
          rw [w5]
      · rw [h6, v4]
        exact Int.mul_ediv_mul_of_pos_left _ _ hp0
      · rw [h7, v4, Int.mul_comm (val 4294967296 a), Int.mul_comm (val 4294967296 b), Int.mul_emod_mul_of_pos _ _ hp0, Int.mul_ediv_cancel_left _ (by omega)]
theorem gcd_loop : ∀ (m : Nat) (a b : List Int), val 4294967296 b ≤ m → Lim 4294967296 a → Lim 4294967296 b → Nrm a → Nrm b → a.length ≤ 34359738368 → b.length ≤ 34359738368 →
    ∃ r, Ev (fun k => nat_Gcd.l0 k a b) r ∧ Lim 4294967296 r ∧ Nrm r ∧ val 4294967296 r = (Nat.gcd (val 4294967296 a).toNat (val 4294967296 b).toNat : Nat) := by
  have hB : (0 : Int) < 4294967296 := by decide
  intro m
  induction m with
  | zero =>
    intro a b hm ha hb na nb hLa hLb
    have hb0 := val_nonneg hB hb
    have hbn : b = [] := (val_eq_zero hB hb nb).1 (by omega)
    subst hbn
    refine ⟨a, Ev.step (f := fun _ => some a) (fun k => ?_) (Ev.now _), ha, na, ?_⟩
    · simp only [nat_Gcd.l0]
      rw [if_neg (by simp)]
      unfold slices_Clone_uint32_uint32.f
      rw [if_pos (by omega)]
      rfl
    · simp only [val, Int.toNat_zero, Nat.gcd_zero_right]
      rw [Int.toNat_of_nonneg (val_nonneg hB ha)]
  | succ m ih =>
    intro a b hm ha hb na nb hLa hLb
    by_cases hbn : b = []
    · subst hbn
      exact ih a [] (by simp [val]) ha hb na nb hLa hLb
    · have hb0 := val_pos hB hb nb hbn
      have ha0 := val_nonneg hB ha
      obtain ⟨q, r, h1, h2, h3, h4, h5, h6, h7, h8⟩ := DivMod_ev a b ha hb na nb hbn hLa hLb
      have hr0 := Int.emod_nonneg (val 4294967296 a) (show val 4294967296 b ≠ 0 by omega)
      have hr1 := Int.emod_lt_of_pos (val 4294967296 a) hb0
      have hrl : r.length ≤ b.length := by
        rcases Nat.lt_or_ge b.length r.length with h | h
        · have := len_lt_val hB hb h4 h5 h; omega
        · exact h
      obtain ⟨g, g1, g2, g3, g4⟩ := ih b r (by omega) hb h4 nb h5 hLb (by omega)
      refine ⟨g, Ev.step (f := fun k => (nat_DivMod.f k a b).bind fun bt220 => nat_Gcd.l0 k b bt220.2) (fun k => ?_) (Ev.bind (f := fun k (bt220 : List Int × List Int) => nat_Gcd.l0 k b bt220.2) h1 g1), g2, g3, ?_⟩
      · have hbl : b.length ≠ 0 := fun h => hbn (List.length_eq_zero_iff.1 h)
        simp only [nat_Gcd.l0]
        rw [if_pos (by omega)]
      · rw [g4, h7, Nat.gcd_comm (val 4294967296 a).toNat, Nat.gcd_rec (val 4294967296 b).toNat (val 4294967296 a).toNat, Nat.gcd_comm]
        congr 2
        rw [Int.toNat_emod ha0 (by omega)]
theorem Gcd_ev (a b : List Int) (ha : Lim 4294967296 a) (hb : Lim 4294967296 b) (na : Nrm a) (nb : Nrm b) (hLa : a.length ≤ 34359738368) (hLb : b.length ≤ 34359738368) :
    ∃ r, Ev (fun k => nat_Gcd.f k a b) r ∧ Lim 4294967296 r ∧ Nrm r ∧ val 4294967296 r = (Nat.gcd (val 4294967296 a).toNat (val 4294967296 b).toNat : Nat) :=
  gcd_loop (val 4294967296 b).toNat a b (by have := val_nonneg (show (0 : Int) < 4294967296 by decide) hb; omega) ha hb na nb hLa hLb
structure Can (neg : Bool) (num den : List Int) : Prop where
  ln : num.length ≤ 128
  ld : den.length ≤ 128
  nn : Nrm num
  nd : Nrm den
  d0 : den ≠ []
  ng : num = [] → neg = false
  gc : Nat.gcd (val 4294967296 num).toNat (val 4294967296 den).toNat = 1
open Classical in
noncomputable def fault (neg : Bool) (num den : List Int) : Int := if num.length > 128 ∨ den.length > 128 then 3 else if Can neg num den then 0 else 2
theorem fault_size {neg : Bool} {num den : List Int} (h : num.length > 128 ∨ den.length > 128) : fault neg num den = 3 := by unfold fault; rw [if_pos h]
theorem fault_can {neg : Bool} {num den : List Int} (h : Can neg num den) : fault neg num den = 0 := by
  unfold fault; rw [if_neg (by have := h.ln; have := h.ld; omega), if_pos h]
theorem fault_bad {neg : Bool} {num den : List Int} (h1 : num.length ≤ 128) (h2 : den.length ≤ 128) (h : ¬ Can neg num den) : fault neg num den = 2 := by
  unfold fault; rw [if_neg (by omega), if_neg h]
theorem nrm_last {xs : List Int} (h : xs ≠ []) : Nrm xs ↔ ¬ xs.getD (xs.length - 1) 0 = 0 := by
  have hl : xs.length ≠ 0 := fun h' => h (List.length_eq_zero_iff.1 h')
  have h1 : xs.getLast? = some (xs.getD (xs.length - 1) 0) := by
    rw [List.getLast?_eq_getElem?, List.getD_eq_getElem?_getD, List.getElem?_eq_getElem (by omega)]; rfl
  unfold Nrm
  rw [h1]
  constructor
  · intro h2; exact h2 _ rfl
  · intro h2 x hx; rw [Option.some.inj hx] at h2; exact h2
theorem last_at {xs : List Int} (h : xs ≠ []) (hL : xs.length ≤ 1099511627776) : wrap64 ((xs.length : Int) - 1) = ((xs.length - 1 : Nat) : Int) := by
  have hl : xs.length ≠ 0 := fun h' => h (List.length_eq_zero_iff.1 h')
  rw [w64 (by omega) (by omega)]; omega
theorem Check1_eq (xs : List Int) (hL : xs.length ≤ 1099511627776) : ∃ b : Bool, number_Check_1.f xs = some b ∧ (b = true ↔ ¬ Nrm xs) := by
  unfold number_Check_1.f
  by_cases c : xs = []
  · subst c
    exact ⟨false, rfl, by simp [nrm_nil]⟩
  · have hl : xs.length ≠ 0 := fun h' => c (List.length_eq_zero_iff.1 h')
    refine ⟨xs.getD (xs.length - 1) 0 == 0, ?_, ?_⟩
    · rw [if_pos (by omega), last_at c hL, if_pos (by omega), if_pos (by omega), rd_getD]
    · rw [nrm_last c, Decidable.not_not, beq_iff_eq]
theorem one_nrm : Nrm [1] := by intro x h; simp at h; omega
theorem one_lim {B : Int} (h : 1 < B) : Lim B [1] := by intro x hx; rw [List.mem_singleton] at hx; omega
theorem val_one (B : Int) : val B [1] = 1 := by simp [val]
theorem eq_one {B : Int} (hB : 1 < B) {xs : List Int} (hx : Lim B xs) (hn : Nrm xs) : val B xs = 1 ↔ xs = [1] :=
  ⟨fun h => val_inj (by omega) hx (one_lim hB) hn one_nrm (by rw [h, val_one]), fun h => by rw [h, val_one]⟩
theorem Check_ev (neg : Bool) (num den : List Int) (hn : Lim 4294967296 num) (hd : Lim 4294967296 den) : Ev (fun k => number_Check.f k neg num den) (fault neg num den) := by
  have hB : (0 : Int) < 4294967296 := by decide
  by_cases s1 : num.length > 128
  · rw [fault_size (Or.inl s1)]
    refine Ev.congr (f := fun k => number_Check.j0 k true neg num den) (fun k => ?_) (Ev.step (f := fun _ => some 3) (fun k => ?_) (Ev.now _))
    · unfold number_Check.f; rw [if_pos (by omega)]
    · simp only [number_Check.j0]; rw [if_pos trivial]
  · by_cases s2 : den.length > 128
    · rw [fault_size (Or.inr s2)]
      refine Ev.congr (f := fun k => number_Check.j0 k true neg num den) (fun k => ?_) (Ev.step (f := fun _ => some 3) (fun k => ?_) (Ev.now _))
      · unfold number_Check.f; rw [if_neg (by omega), decide_eq_true (by omega)]
      · simp only [number_Check.j0]; rw [if_pos trivial]
    · obtain ⟨b1, e1, i1⟩ := Check1_eq num (by omega)
      obtain ⟨b2, e2, i2⟩ := Check1_eq den (by omega)
      have hj0 : ∀ r, Ev (fun k => number_Check.j0 k false neg num den) r → Ev (fun k => number_Check.f k neg num den) r := fun r h =>
        Ev.congr (fun k => by unfold number_Check.f; rw [if_neg (by omega), decide_eq_false (by omega)]) h
      have hbad : Ev (fun k => number_Check.j1 k true neg num den) 2 := Ev.step (f := fun _ => some 2) (fun k => by simp only [number_Check.j1]; rw [if_pos trivial]) (Ev.now _)
      have hbad2 : Ev (fun k => number_Check.j2 k true neg num den) 2 := Ev.step (f := fun _ => some 2) (fun k => by simp only [number_Check.j2]; rw [if_pos trivial]) (Ev.now _)
      by_cases c1 : Nrm num
      · have e1' : b1 = false := by cases b1 with | false => rfl | true => exact absurd c1 (i1.1 rfl)
        by_cases c2 : Nrm den
        · have e2' : b2 = false := by cases b2 with | false => rfl | true => exact absurd c2 (i2.1 rfl)
          have hs : ∀ k, number_Check.j0 (k + 1) false neg num den = number_Check.j1 k ((den.length : Int) == 0) neg num den := by
            intro k
            simp only [number_Check.j0]
            rw [if_neg (by decide), e1, Option.bind_some, e1', if_neg (by decide), e2, Option.bind_some, e2', if_neg (by decide)]
          by_cases c3 : den = []
          · rw [fault_bad (by omega) (by omega) (fun h => h.d0 c3)]
            refine hj0 _ (Ev.step hs ?_)
            subst c3
            exact hbad
          · have hdl : den.length ≠ 0 := fun h' => c3 (List.length_eq_zero_iff.1 h')
            have hz : ((den.length : Int) == 0) = false := by rw [beq_eq_false_iff_ne]; omega
            refine hj0 _ (Ev.step hs ?_)
            rw [hz]
            have hone : Nat.gcd (val 4294967296 num).toNat (val 4294967296 den).toNat = 1 → (num = [] → neg = false) → Ev (fun k => number_Check.j2 k false neg num den) 0 := by
              intro hg hng
              obtain ⟨g, g1, g2, g3, g4⟩ := Gcd_ev num den hn hd c1 c2 (by omega) (by omega)
              have hg1 : g = [1] := (eq_one (by decide) g2 g3).1 (by rw [g4, hg]; rfl)
              refine Ev.step (f := fun k => (if decide (den = [1]) = true then (some 0) else ((nat_IsOne.f num).bind fun t234 => (if t234 = true then (some 0) else ((nat_Gcd.f k num den).bind fun t235 => ((nat_IsOne.f t235).bind fun t238 => (if t238 = true then (some 0) else (some 2)))))))) (fun k => ?_) ?_
              · simp only [number_Check.j2]
                rw [if_neg (by decide), IsOne_eq, Option.bind_some]
              · by_cases o1 : den = [1]
                · exact Ev.congr (fun k => by rw [if_pos (decide_eq_true o1)]) (Ev.now 0)
                · refine Ev.congr (f := fun k => if decide (num = [1]) = true then some 0 else ((nat_Gcd.f k num den).bind fun t235 => ((nat_IsOne.f t235).bind fun t238 => (if t238 = true then (some 0) else (some 2))))) (fun k => ?_) ?_
                  · rw [if_neg (by rw [decide_eq_true_iff]; exact o1), IsOne_eq, Option.bind_some]
                  · by_cases o2 : num = [1]
                    · exact Ev.congr (fun k => by rw [if_pos (decide_eq_true o2)]) (Ev.now 0)
                    · refine Ev.congr (fun k => by rw [if_neg (by rw [decide_eq_true_iff]; exact o2)]) (Ev.bind (f := fun _ t235 => ((nat_IsOne.f t235).bind fun t238 => (if t238 = true then (some 0) else (some 2)))) g1 ?_)
                      refine Ev.congr (fun k => ?_) (Ev.now 0)
                      rw [IsOne_eq, Option.bind_some, if_pos (decide_eq_true hg1)]
            have hmore : ¬ Nat.gcd (val 4294967296 num).toNat (val 4294967296 den).toNat = 1 → Ev (fun k => number_Check.j2 k false neg num den) 2 := by
              intro hg
              obtain ⟨g, g1, g2, g3, g4⟩ := Gcd_ev num den hn hd c1 c2 (by omega) (by omega)
              have hg1 : ¬ g = [1] := fun h => hg (by rw [h, val_one] at g4; omega)
              have o1 : ¬ den = [1] := fun h => hg (by rw [h, val_one]; exact Nat.gcd_one_right _)
              have o2 : ¬ num = [1] := fun h => hg (by rw [h, val_one]; exact Nat.gcd_one_left _)
              refine Ev.step (f := fun k => ((nat_Gcd.f k num den).bind fun t235 => ((nat_IsOne.f t235).bind fun t238 => (if t238 = true then (some 0) else (some 2))))) (fun k => ?_) ?_
              · simp only [number_Check.j2]
                rw [if_neg (by decide), IsOne_eq, Option.bind_some, if_neg (by rw [decide_eq_true_iff]; exact o1), IsOne_eq, Option.bind_some, if_neg (by rw [decide_eq_true_iff]; exact o2)]
              · refine Ev.bind (f := fun _ t235 => ((nat_IsOne.f t235).bind fun t238 => (if t238 = true then (some 0) else (some 2)))) g1 ?_
                refine Ev.congr (fun k => ?_) (Ev.now 2)
                rw [IsOne_eq, Option.bind_some, if_neg (by rw [decide_eq_true_iff]; exact hg1)]
            by_cases c4 : num = []
            · have hv0 : val 4294967296 num = 0 := by rw [c4]; rfl
              have hge : Nat.gcd (val 4294967296 num).toNat (val 4294967296 den).toNat = 1 ↔ den = [1] := by
                rw [hv0, Int.toNat_zero, Nat.gcd_zero_left, ← eq_one (B := 4294967296) (by decide) hd c2]
                have := val_nonneg hB hd
                omega
              by_cases c5 : neg = true
              · rw [fault_bad (by omega) (by omega) (fun h => by have := h.ng c4; rw [c5] at this; cases this)]
                refine Ev.step (fun k => ?_) hbad2
                simp only [number_Check.j1]
                rw [if_neg (by decide), c4, if_pos (by rfl), if_pos c5]
              · have hs2 : ∀ k, number_Check.j1 (k + 1) false neg num den = number_Check.j2 k (!decide (den = [1])) neg num den := by
                  intro k
                  simp only [number_Check.j1]
                  rw [if_neg (by decide), c4, if_pos (by rfl), if_neg c5, IsOne_eq, Option.bind_some]
                refine Ev.step hs2 ?_
                by_cases c6 : den = [1]
                · rw [fault_can ⟨by omega, by omega, c1, c2, c3, fun _ => by cases neg <;> simp_all, hge.2 c6⟩, decide_eq_true c6]
                  exact hone (hge.2 c6) (fun _ => by cases neg <;> simp_all)
                · rw [fault_bad (by omega) (by omega) (fun h => c6 (hge.1 h.gc)), decide_eq_false c6]
                  exact hbad2
            · have hnl : num.length ≠ 0 := fun h' => c4 (List.length_eq_zero_iff.1 h')
              refine Ev.step (f := fun k => number_Check.j2 k false neg num den) (fun k => ?_) ?_
              · simp only [number_Check.j1]
                rw [if_neg (by decide), if_neg (by omega)]
              · by_cases c6 : Nat.gcd (val 4294967296 num).toNat (val 4294967296 den).toNat = 1
                · rw [fault_can ⟨by omega, by omega, c1, c2, c3, fun h => absurd h c4, c6⟩]
                  exact hone c6 (fun h => absurd h c4)
                · rw [fault_bad (by omega) (by omega) (fun h => c6 h.gc)]
                  exact hmore c6
        · rw [fault_bad (by omega) (by omega) (fun h => c2 h.nd)]
          refine hj0 _ (Ev.step (fun k => ?_) hbad)
          simp only [number_Check.j0]
          rw [if_neg (by decide), e1, Option.bind_some, e1', if_neg (by decide), e2, Option.bind_some, if_pos (i2.2 c2)]
      · rw [fault_bad (by omega) (by omega) (fun h => c1 h.nn)]
        refine hj0 _ (Ev.step (fun k => ?_) hbad)
        simp only [number_Check.j0]
        rw [if_neg (by decide), e1, Option.bind_some, if_pos (i1.2 c1)]
theorem plus_same : ∀ (k : Nat) (b x : List Int) (c n i : Int), nat_plus.l1000 k b x c n i = nat_plus.l0 k b x c n i := by
  intro k
  induction k with
  | zero => intros; rfl
  | succ k ih => intro b x c n i; simp only [nat_plus.l1000, nat_plus.l0, ih]
theorem plus_loop (b : List Int) (hb : Lim 4294967296 b) (N : Nat) (hN : N ≤ 549755813888) (hbN : b.length ≤ N) (T : Int) (hT : T < 4294967296 ^ N) : ∀ (d i : Nat) (x : List Int) (c : Int), d + i = N → x.length = N → Lim 4294967296 x → 0 ≤ c → c ≤ 1 →
    val 4294967296 x + 4294967296 ^ i * c + (val 4294967296 b - val 4294967296 (b.take i)) = T →
    ∃ r, Ev (fun k => nat_plus.l0 k b x c (N : Int) (i : Int)) (trim r) ∧ r.length = N ∧ Lim 4294967296 r ∧ val 4294967296 r = T := by
  have hB : (0 : Int) < 4294967296 := by decide
  intro d
  induction d with
  | zero =>
    intro i x c hd hl hx hc0 hc hv
    have hi : i = N := by omega
    subst hi
    refine ⟨x, Ev.step (f := fun k => (nat_Trim.f k x).bind fun t => some t) (fun k => ?_) (Ev.bind (f := fun _ t => some t) (Trim_ev x (by omega)) (Ev.now _)), hl, hx, ?_⟩
    · simp only [nat_plus.l0]; rw [if_neg (by omega)]
    · rw [List.take_of_length_le (by omega), Int.sub_self, Int.add_zero] at hv
      have h1 := val_nonneg hB hx
      by_cases h : c = 0
      · rw [h, Int.mul_zero] at hv; omega
      · have e : c = 1 := by omega
        rw [e, Int.mul_one] at hv
        generalize (4294967296 : Int) ^ i = p at *
        omega
  | succ d ih =>
    intro i x c hd hl hx hc0 hc hv
    have g1 : (i : Int) < (N : Int) := by omega
    have g2 : (0 : Int) ≤ (i : Int) := by omega
    have g3 : i < x.length := by omega
    have g4 : (i : Int) < (x.length : Int) := by omega
    have g5 : d + (i + 1) = N := by omega
    have gw : ∀ _ : Unit, wrap64 ((i : Int) + 1) = ((i + 1 : Nat) : Int) := fun _ => by rw [w64 (by omega) (by omega)]; omega
    have hxi := hx.rd hB (i : Int)
    have hxg : rd x (i : Int) = x.getD i 0 := rd_getD x i
    generalize rd x (i : Int) = a at hxi hxg
    have key : ∀ y : Int, 0 ≤ y → y < 4294967296 → b.getD i 0 = y → ∃ r, Ev (fun k => nat_plus.l0 k b (x.set i ((c + a + y) % 4294967296)) ((c + a + y) / 4294967296) (N : Int) ((i + 1 : Nat) : Int)) (trim r) ∧ r.length = N ∧ Lim 4294967296 r ∧ val 4294967296 r = T := by
      intro y hy0 hy hyb
      refine ih (i + 1) _ _ g5 (by rw [List.length_set, hl]) (hx.set i ⟨by omega, by omega⟩) (by omega) (by omega) ?_
      rw [val_set _ _ _ _ g3, ← hxg, val_take_succ', hyb, Int.pow_succ]
      have e : (c + a + y) % 4294967296 = c + a + y - 4294967296 * ((c + a + y) / 4294967296) := by omega
      rw [e]
      generalize (c + a + y) / 4294967296 = q
      generalize (4294967296 : Int) ^ i = p at *
      grind
    by_cases hi : i < b.length
    · have hb1 := hb.rd hB (i : Int)
      have hbg : rd b (i : Int) = b.getD i 0 := rd_getD b i
      have g6 : (i : Int) < (b.length : Int) := by omega
      generalize rd b (i : Int) = y at hb1 hbg
      obtain ⟨r, hr, h⟩ := key y hb1.1 hb1.2 hbg.symm
      have e : IntKind.u64.wrap (IntKind.u64.wrap (c + IntKind.u64.wrap a) + IntKind.u64.wrap y) = c + a + y := by
        rw [u64_id hxi.1 (by omega), u64_id hb1.1 (by omega), u64_id (x := c + a) (by omega) (by omega), u64_id (by omega) (by omega)]
      refine ⟨r, Ev.step (f := fun k => nat_plus.l0 k b (x.set i ((c + a + y) % 4294967296)) ((c + a + y) / 4294967296) (N : Int) ((i + 1 : Nat) : Int)) (fun k => ?_) hr, h⟩
      simp only [nat_plus.l0]
      rw [if_pos g1, if_pos g2, if_pos g4, if_pos g6, rd_getD x i, rd_getD b i, ← hxg, ← hbg, e, gw (), Int.toNat_natCast]
    · have g6 : ¬ (i : Int) < (b.length : Int) := by omega
      obtain ⟨r, hr, h⟩ := key 0 (by omega) (by omega) (by rw [List.getD_eq_getElem?_getD, List.getElem?_eq_none (by omega)]; rfl)
      have e : IntKind.u64.wrap (c + IntKind.u64.wrap a) = c + a + 0 := by
        rw [u64_id hxi.1 (by omega), u64_id (x := c + a) (by omega) (by omega), Int.add_zero]
      refine ⟨r, Ev.step (f := fun k => nat_plus.l0 k b (x.set i ((c + a + 0) % 4294967296)) ((c + a + 0) / 4294967296) (N : Int) ((i + 1 : Nat) : Int)) (fun k => ?_) hr, h⟩
      simp only [nat_plus.l0]
      rw [if_pos g1, if_pos g2, if_pos g4, if_neg g6, rd_getD x i, ← hxg, e, gw (), Int.toNat_natCast]
theorem plus_half (a b : List Int) (ha : Lim 4294967296 a) (hb : Lim 4294967296 b) (hL : a.length ≤ 274877906944) (hab : b.length ≤ a.length) :
    ∃ r, Ev (fun k => if (0 : Int) ≤ wrap64 ((a.length : Int) + 1) then (if (wrap64 ((a.length : Int) + 1) : Int).toNat ≤ 70368744177664 then ((some (List.replicate (wrap64 ((a.length : Int) + 1) : Int).toNat 0 : List Int)).bind fun y => ((copy_e55.f y a).bind fun bt => nat_plus.l0 k b bt.2 0 (y.length : Int) 0)) else none) else none) r ∧ Lim 4294967296 r ∧ Nrm r ∧ val 4294967296 r = val 4294967296 a + val 4294967296 b ∧ r.length ≤ a.length + 1 := by
  have hB : (0 : Int) < 4294967296 := by decide
  have e1 : wrap64 ((a.length : Int) + 1) = ((a.length + 1 : Nat) : Int) := by rw [w64 (by omega) (by omega)]; omega
  have va := val_lt hB ha
  have vb := val_lt hB hb
  have pm := pow_mono' hB hab
  have e0 : a ++ (List.replicate (a.length + 1) (0 : Int)).drop a.length = a ++ [0] := by
    rw [List.drop_replicate, Nat.add_sub_cancel_left]; rfl
  obtain ⟨r, h1, h2, h3, h4⟩ := plus_loop b hb (a.length + 1) (by omega) (by omega) (val 4294967296 a + val 4294967296 b) (by
      rw [Int.pow_succ]
      have pp := pow_pos' hB a.length
      generalize (4294967296 : Int) ^ a.length = p at *
      omega) (a.length + 1) 0 (a ++ [0]) 0 (by omega) (by simp) (lim_nrm_snoc ha ⟨by decide, by decide⟩) (by decide) (by decide) (by rw [val_snoc]; simp [val])
  refine ⟨trim r, Ev.congr (fun k => ?_) h1, lim_trim h3, nrm_trim _, by rw [val_trim, h4], by rw [← h2]; exact length_trim r⟩
  rw [e1, if_pos (by omega), if_pos (by omega), Int.toNat_natCast, Option.bind_some]
  unfold copy_e55.f
  simp only [Option.bind_some, List.length_replicate]
  rw [List.take_of_length_le (by omega), e0]; rfl
theorem plus_ev (a b : List Int) (ha : Lim 4294967296 a) (hb : Lim 4294967296 b) (hL : a.length ≤ 274877906944) (hM : b.length ≤ 274877906944) :
    ∃ r, Ev (fun k => nat_plus.f k a b) r ∧ Lim 4294967296 r ∧ Nrm r ∧ val 4294967296 r = val 4294967296 a + val 4294967296 b ∧ r.length ≤ max a.length b.length + 1 := by
  by_cases c : a.length < b.length
  · obtain ⟨r, h1, h2, h3, h4, h5⟩ := plus_half b a hb ha hM (by omega)
    refine ⟨r, Ev.congr (fun k => ?_) h1, h2, h3, by rw [h4, Int.add_comm], by omega⟩
    unfold nat_plus.f
    rw [if_pos (by omega)]
  · obtain ⟨r, h1, h2, h3, h4, h5⟩ := plus_half a b ha hb hL (by omega)
    refine ⟨r, Ev.congr (fun k => ?_) h1, h2, h3, h4, by omega⟩
    unfold nat_plus.f
    rw [if_neg (by omega)]
    simp only [plus_same]
theorem sub_loop (b : List Int) (hb : Lim 4294967296 b) (N : Nat) (hN : N ≤ 549755813888) (hbN : b.length ≤ N) (T : Int) (hT : 0 ≤ T) : ∀ (d i : Nat) (x : List Int) (c : Int), d + i = N → x.length = N → Lim 4294967296 x → 0 ≤ c → c ≤ 1 →
    val 4294967296 x - 4294967296 ^ i * c - (val 4294967296 b - val 4294967296 (b.take i)) = T →
    ∃ r, Ev (fun k => nat_Sub.l0 k b x c (N : Int) (i : Int)) (trim r) ∧ r.length = N ∧ Lim 4294967296 r ∧ val 4294967296 r = T := by
  have hB : (0 : Int) < 4294967296 := by decide
  intro d
  induction d with
  | zero =>
    intro i x c hd hl hx hc0 hc hv
    have hi : i = N := by omega
    subst hi
    refine ⟨x, Ev.step (f := fun k => (nat_Trim.f k x).bind fun t => some t) (fun k => ?_) (Ev.bind (f := fun _ t => some t) (Trim_ev x (by omega)) (Ev.now _)), hl, hx, ?_⟩
    · simp only [nat_Sub.l0]; rw [if_neg (by omega)]
    · rw [List.take_of_length_le (by omega), Int.sub_self, Int.sub_zero] at hv
      have h1 := val_lt hB hx
      rw [hl] at h1
      by_cases h : c = 0
      · rw [h, Int.mul_zero] at hv; omega
      · have e : c = 1 := by omega
        rw [e, Int.mul_one] at hv
        generalize (4294967296 : Int) ^ i = p at *
        omega
  | succ d ih =>
    intro i x c hd hl hx hc0 hc hv
    have g1 : (i : Int) < (N : Int) := by omega
    have g2 : (0 : Int) ≤ (i : Int) := by omega
    have g3 : i < x.length := by omega
    have g4 : (i : Int) < (x.length : Int) := by omega
    have g5 : d + (i + 1) = N := by omega
    have gw : ∀ _ : Unit, wrap64 ((i : Int) + 1) = ((i + 1 : Nat) : Int) := fun _ => by rw [w64 (by omega) (by omega)]; omega
    have hxi := hx.rd hB (i : Int)
    have hxg : rd x (i : Int) = x.getD i 0 := rd_getD x i
    generalize rd x (i : Int) = a at hxi hxg
    have key : ∀ y dd b' : Int, 0 ≤ dd → dd < 4294967296 → 0 ≤ b' → b' ≤ 1 → dd - 4294967296 * b' = a - c - y → b.getD i 0 = y → ∃ r, Ev (fun k => nat_Sub.l0 k b (x.set i dd) b' (N : Int) ((i + 1 : Nat) : Int)) (trim r) ∧ r.length = N ∧ Lim 4294967296 r ∧ val 4294967296 r = T := by
      intro y dd b' hd0 hd1 hb0 hb1 he hyb
      refine ih (i + 1) _ _ g5 (by rw [List.length_set, hl]) (hx.set i ⟨hd0, hd1⟩) hb0 hb1 ?_
      rw [val_set _ _ _ _ g3, ← hxg, val_take_succ', hyb, Int.pow_succ]
      have e : dd = a - c - y + 4294967296 * b' := by omega
      rw [e]
      generalize (4294967296 : Int) ^ i = p at *
      grind
    by_cases hi : i < b.length
    · have hb1 := hb.rd hB (i : Int)
      have hbg : rd b (i : Int) = b.getD i 0 := rd_getD b i
      have g6 : (i : Int) < (b.length : Int) := by omega
      generalize rd b (i : Int) = y at hb1 hbg
      obtain ⟨dd, b', e1, e2, p1, p2, p3, p4, p5⟩ : ∃ dd b' : Int, IntKind.u64.wrap (IntKind.u64.wrap (IntKind.u64.wrap a - c) - IntKind.u64.wrap y) % 4294967296 = dd ∧ Go.bits .and .u64 (IntKind.u64.wrap (IntKind.u64.wrap (IntKind.u64.wrap a - c) - IntKind.u64.wrap y) / 4294967296) 1 = b' ∧ 0 ≤ dd ∧ dd < 4294967296 ∧ 0 ≤ b' ∧ b' ≤ 1 ∧ dd - 4294967296 * b' = a - c - y := by
        rw [u64_id hxi.1 (by omega), u64_id hb1.1 (by omega), u64w, u64w]
        by_cases h : a - c - y < 0
        · have e : ((a - c) % 18446744073709551616 - y) % 18446744073709551616 = a - c - y + 18446744073709551616 := by omega
          rw [e, bits_and_one (by omega) (by omega)]
          exact ⟨_, _, rfl, rfl, by omega, by omega, by omega, by omega, by omega⟩
        · have e : ((a - c) % 18446744073709551616 - y) % 18446744073709551616 = a - c - y := by omega
          rw [e, bits_and_one (by omega) (by omega)]
          exact ⟨_, _, rfl, rfl, by omega, by omega, by omega, by omega, by omega⟩
      obtain ⟨r, hr, h⟩ := key y dd b' p1 p2 p3 p4 p5 hbg.symm
      refine ⟨r, Ev.step (f := fun k => nat_Sub.l0 k b (x.set i dd) b' (N : Int) ((i + 1 : Nat) : Int)) (fun k => ?_) hr, h⟩
      simp only [nat_Sub.l0]
      rw [if_pos g1, if_pos g2, if_pos g4, if_pos g6, rd_getD x i, rd_getD b i, ← hxg, ← hbg, e1, e2, gw (), Int.toNat_natCast]
    · have g6 : ¬ (i : Int) < (b.length : Int) := by omega
      obtain ⟨dd, b', e1, e2, p1, p2, p3, p4, p5⟩ : ∃ dd b' : Int, IntKind.u64.wrap (IntKind.u64.wrap a - c) % 4294967296 = dd ∧ Go.bits .and .u64 (IntKind.u64.wrap (IntKind.u64.wrap a - c) / 4294967296) 1 = b' ∧ 0 ≤ dd ∧ dd < 4294967296 ∧ 0 ≤ b' ∧ b' ≤ 1 ∧ dd - 4294967296 * b' = a - c - 0 := by
        rw [u64_id hxi.1 (by omega), u64w]
        by_cases h : a - c < 0
        · have e : (a - c) % 18446744073709551616 = a - c + 18446744073709551616 := by omega
          rw [e, bits_and_one (by omega) (by omega)]
          exact ⟨_, _, rfl, rfl, by omega, by omega, by omega, by omega, by omega⟩
        · have e : (a - c) % 18446744073709551616 = a - c := by omega
          rw [e, bits_and_one (by omega) (by omega)]
          exact ⟨_, _, rfl, rfl, by omega, by omega, by omega, by omega, by omega⟩
      obtain ⟨r, hr, h⟩ := key 0 dd b' p1 p2 p3 p4 p5 (by rw [List.getD_eq_getElem?_getD, List.getElem?_eq_none (by omega)]; rfl)
      refine ⟨r, Ev.step (f := fun k => nat_Sub.l0 k b (x.set i dd) b' (N : Int) ((i + 1 : Nat) : Int)) (fun k => ?_) hr, h⟩
      simp only [nat_Sub.l0]
      rw [if_pos g1, if_pos g2, if_pos g4, if_neg g6, rd_getD x i, ← hxg, e1, e2, gw (), Int.toNat_natCast]
theorem Sub_ev (a b : List Int) (ha : Lim 4294967296 a) (hb : Lim 4294967296 b) (hL : a.length ≤ 274877906944) (hab : b.length ≤ a.length) (hv : val 4294967296 b ≤ val 4294967296 a) :
    ∃ r, Ev (fun k => nat_Sub.f k a b) r ∧ Lim 4294967296 r ∧ Nrm r ∧ val 4294967296 r = val 4294967296 a - val 4294967296 b ∧ r.length ≤ a.length := by
  obtain ⟨r, h1, h2, h3, h4⟩ := sub_loop b hb a.length (by omega) hab (val 4294967296 a - val 4294967296 b) (by omega) a.length 0 a 0 (by omega) rfl ha (by decide) (by decide) (by simp [val])
  refine ⟨trim r, Ev.congr (fun k => ?_) h1, lim_trim h3, nrm_trim _, by rw [val_trim, h4], by rw [← h2]; exact length_trim r⟩
  unfold nat_Sub.f slices_Clone_uint32_uint32.f
  rw [if_pos (by omega)]; rfl
theorem mul_inner (a b : List Int) (hb : Lim 4294967296 b) (L i : Nat) (ai : Int) (h0 : 0 ≤ ai) (h1 : ai < 4294967296) (hL : L ≤ 549755813888) (hi : i + b.length < L) :
    ∀ (d j : Nat) (out : List Int) (c : Int), d + j = b.length → out.length = L → Lim 4294967296 out → 0 ≤ c → c < 4294967296 → out.getD (i + b.length) 0 = 0 →
    ∃ r, r.length = L ∧ Lim 4294967296 r ∧ val 4294967296 r = val 4294967296 out + 4294967296 ^ (i + j) * (c + ai * val 4294967296 (b.drop j)) ∧ (∀ p, i + b.length < p → r.getD p 0 = out.getD p 0) ∧
      ∀ (R : List Int), Ev (fun k => nat_Mul.l0 k b r a (a.length : Int) ((i + 1 : Nat) : Int)) R → Ev (fun k => nat_Mul.l1 k b out (i : Int) ai c a (a.length : Int) (i : Int) b (b.length : Int) (j : Int)) R := by
  have hB : (0 : Int) < 4294967296 := by decide
  intro d
  induction d with
  | zero =>
    intro j out c hd hl ho hc0 hc hz
    have hj : j = b.length := by omega
    subst hj
    have g1 : ∀ _ : Unit, wrap64 ((i : Int) + (b.length : Int)) = ((i + b.length : Nat) : Int) := fun _ => by rw [w64 (by omega) (by omega)]; omega
    have g2 : ∀ _ : Unit, wrap64 ((i : Int) + 1) = ((i + 1 : Nat) : Int) := fun _ => by rw [w64 (by omega) (by omega)]; omega
    have g3 : (0 : Int) ≤ ((i + b.length : Nat) : Int) := by omega
    have g4 : ((i + b.length : Nat) : Int) < (out.length : Int) := by omega
    have g5 : c % 4294967296 = c := by omega
    refine ⟨out.set (i + b.length) c, by rw [List.length_set, hl], ho.set _ ⟨hc0, hc⟩, ?_, ?_, fun R hR => ?_⟩
    · rw [val_set _ _ _ _ (by omega), hz, List.drop_length]
      simp [val]
    · intro p hp
      rw [List.getD_eq_getElem?_getD, List.getD_eq_getElem?_getD, List.getElem?_set_ne (by omega)]
    · refine Ev.step (f := fun k => nat_Mul.l0 k b (out.set (i + b.length) c) a (a.length : Int) ((i + 1 : Nat) : Int)) (fun k => ?_) hR
      simp only [nat_Mul.l1]
      rw [if_neg (by omega), g1 (), if_pos g3, if_pos g4, g2 (), g5, Int.toNat_natCast]
  | succ d ih =>
    intro j out c hd hl ho hc0 hc hz
    have g0 : d + (j + 1) = b.length := by omega
    have g1 : (j : Int) < (b.length : Int) := by omega
    have g2 : (0 : Int) ≤ (j : Int) := by omega
    have gj : j < b.length := by omega
    have g3 : i + j < out.length := by omega
    have g4 : ((i + j : Nat) : Int) < (out.length : Int) := by omega
    have g5 : (0 : Int) ≤ ((i + j : Nat) : Int) := by omega
    have g6 : i + j ≠ i + b.length := by omega
    have gw : ∀ _ : Unit, wrap64 ((j : Int) + 1) = ((j + 1 : Nat) : Int) := fun _ => by rw [w64 (by omega) (by omega)]; omega
    have gv : ∀ _ : Unit, wrap64 ((i : Int) + (j : Int)) = ((i + j : Nat) : Int) := fun _ => by rw [w64 (by omega) (by omega)]; omega
    have hb1 := hb.rd hB (j : Int)
    have hbg : rd b (j : Int) = b.getD j 0 := rd_getD b j
    generalize rd b (j : Int) = y at hb1 hbg
    have ho1 := ho.rd hB ((i + j : Nat) : Int)
    have hog : rd out ((i + j : Nat) : Int) = out.getD (i + j) 0 := rd_getD out (i + j)
    generalize rd out ((i + j : Nat) : Int) = o at ho1 hog
    obtain ⟨m1, m2⟩ := mul_lim h0 h1 hb1.1 hb1.2
    have e : IntKind.u64.wrap (c + IntKind.u64.wrap (IntKind.u64.wrap (IntKind.u64.wrap ai * IntKind.u64.wrap y) + IntKind.u64.wrap o)) = c + ai * y + o := by
      rw [u64_id h0 (by omega), u64_id hb1.1 (by omega), u64_id m1 (by omega), u64_id ho1.1 (by omega), u64_id (x := ai * y + o) (by omega) (by omega), u64_id (by omega) (by omega), Int.add_assoc]
    obtain ⟨q, t, hq, ht, q1, q2, q3, q4, q5⟩ : ∃ q t : Int, (c + ai * y + o) % 4294967296 = t ∧ (c + ai * y + o) / 4294967296 = q ∧ 0 ≤ t ∧ t < 4294967296 ∧ 0 ≤ q ∧ q < 4294967296 ∧ t = c + ai * y + o - 4294967296 * q := by
      generalize ai * y = p at m1 m2
      exact ⟨_, _, rfl, rfl, by omega, by omega, by omega, by omega, by omega⟩
    obtain ⟨r, r1, r2, r3, r4, r5⟩ := ih (j + 1) (out.set (i + j) t) q g0 (by rw [List.length_set, hl]) (ho.set _ ⟨q1, q2⟩) q3 q4 (by
      rw [List.getD_eq_getElem?_getD, List.getElem?_set_ne g6, ← List.getD_eq_getElem?_getD, hz])
    refine ⟨r, r1, r2, ?_, ?_, fun R hR => ?_⟩
    · rw [r3, val_set _ _ _ _ g3, ← hog, val_drop _ b j gj, ← hbg, q5, ← Nat.add_assoc, Int.pow_succ]
      generalize val 4294967296 (b.drop (j + 1)) = v
      generalize (4294967296 : Int) ^ (i + j) = p
      clear q5 ht hq e m1 m2 r3 r5 r4
      grind
    · intro p hp
      rw [r4 p hp, List.getD_eq_getElem?_getD, List.getD_eq_getElem?_getD, List.getElem?_set_ne (by omega)]
    · refine Ev.step (f := fun k => nat_Mul.l1 k b (out.set (i + j) t) (i : Int) ai q a (a.length : Int) (i : Int) b (b.length : Int) ((j + 1 : Nat) : Int)) (fun k => ?_) (r5 R hR)
      simp only [nat_Mul.l1]
      rw [if_pos g1, if_pos g2, if_pos g1, gv (), if_pos g5, if_pos g4, rd_getD b j, ← hbg, rd_getD out (i + j), ← hog, e, hq, ht, gw (), Int.toNat_natCast]
theorem mul_outer (a b : List Int) (ha : Lim 4294967296 a) (hb : Lim 4294967296 b) (hL : a.length + b.length ≤ 549755813888) :
    ∀ (d i : Nat) (out : List Int), d + i = a.length → out.length = a.length + b.length → Lim 4294967296 out → (∀ p, i + b.length ≤ p → out.getD p 0 = 0) →
    ∃ r, Ev (fun k => nat_Mul.l0 k b out a (a.length : Int) (i : Int)) (trim r) ∧ r.length = a.length + b.length ∧ Lim 4294967296 r ∧ val 4294967296 r = val 4294967296 out + 4294967296 ^ i * (val 4294967296 (a.drop i) * val 4294967296 b) := by
  have hB : (0 : Int) < 4294967296 := by decide
  intro d
  induction d with
  | zero =>
    intro i out hd hl ho hz
    have hi : i = a.length := by omega
    subst hi
    refine ⟨out, Ev.step (f := fun k => (nat_Trim.f k out).bind fun t => some t) (fun k => ?_) (Ev.bind (f := fun _ t => some t) (Trim_ev out (by omega)) (Ev.now _)), hl, ho, ?_⟩
    · simp only [nat_Mul.l0]; rw [if_neg (by omega)]
    · rw [List.drop_length]; simp [val]
  | succ d ih =>
    intro i out hd hl ho hz
    have g0 : d + (i + 1) = a.length := by omega
    have g1 : (i : Int) < (a.length : Int) := by omega
    have g2 : (0 : Int) ≤ (i : Int) := by omega
    have gi : i < a.length := by omega
    have ha1 := ha.rd hB (i : Int)
    have hag : rd a (i : Int) = a.getD i 0 := rd_getD a i
    obtain ⟨r, r1, r2, r3, r4, r5⟩ := mul_inner a b hb (a.length + b.length) i (rd a (i : Int)) ha1.1 ha1.2 hL (by omega) b.length 0 out 0 (by omega) hl ho (by decide) (by decide) (hz _ (Nat.le_refl _))
    obtain ⟨s, s1, s2, s3, s4⟩ := ih (i + 1) r g0 r1 r2 (by
      intro p hp
      rw [r4 p (by omega)]
      exact hz p (by omega))
    refine ⟨s, Ev.step (f := fun k => nat_Mul.l1 k b out (i : Int) (rd a (i : Int)) 0 a (a.length : Int) (i : Int) b (b.length : Int) 0) (fun k => ?_) (r5 _ s1), s2, s3, ?_⟩
    · simp only [nat_Mul.l0]
      rw [if_pos g1, if_pos g2, if_pos g1]
    · rw [s4, r3, val_drop _ a i gi, ← hag, List.drop_zero, Nat.add_zero, Int.pow_succ]
      generalize val 4294967296 (a.drop (i + 1)) = v
      generalize val 4294967296 b = u
      generalize (4294967296 : Int) ^ i = p
      clear s4 r3 r5 r4 s1
      grind
theorem Mul_ev (a b : List Int) (ha : Lim 4294967296 a) (hb : Lim 4294967296 b) (hL : a.length + b.length ≤ 549755813888) :
    ∃ r, Ev (fun k => nat_Mul.f k a b) r ∧ Lim 4294967296 r ∧ Nrm r ∧ val 4294967296 r = val 4294967296 a * val 4294967296 b ∧ r.length ≤ a.length + b.length := by
  have e1 : wrap64 ((a.length : Int) + (b.length : Int)) = ((a.length + b.length : Nat) : Int) := by rw [w64 (by omega) (by omega)]; omega
  obtain ⟨r, h1, h2, h3, h4⟩ := mul_outer a b ha hb hL a.length 0 (List.replicate (a.length + b.length) 0) (by omega) (by simp) (lim_replicate (by decide) _) (fun p _ => by
    rw [List.getD_eq_getElem?_getD]
    rcases Nat.lt_or_ge p (a.length + b.length) with h | h
    · rw [List.getElem?_replicate_of_lt h]; rfl
    · rw [List.getElem?_eq_none (by simpa using h)]; rfl)
  refine ⟨trim r, Ev.congr (fun k => ?_) h1, lim_trim h3, nrm_trim _, by rw [val_trim, h4, val_replicate, List.drop_zero]; simp, by rw [← h2]; exact length_trim r⟩
  unfold nat_Mul.f
  rw [e1, if_pos (by omega), if_pos (by omega), Int.toNat_natCast]
  rfl
theorem can_of_fault' {neg : Bool} {num den : List Int} (h : fault neg num den = 0) : Can neg num den := by
  unfold fault at h
  by_cases c : num.length > 128 ∨ den.length > 128
  · rw [if_pos c] at h; omega
  · rw [if_neg c] at h
    by_cases d : Can neg num den
    · exact d
    · rw [if_neg d] at h; omega
def sgn (n : Bool) (v : Int) : Int := if n = true then -v else v
theorem Can.pos {neg : Bool} {num den : List Int} (h : Can neg num den) (hd : Lim 4294967296 den) : 0 < val 4294967296 den := val_pos (by decide) hd h.nd h.d0
theorem nat_frac {p q r s : Nat} (h1 : Nat.gcd p q = 1) (h2 : Nat.gcd r s = 1) (hq : 0 < q) (hs : 0 < s) (h : p * s = r * q) : p = r ∧ q = s := by
  have d1 : q ∣ s := (Nat.Coprime.dvd_of_dvd_mul_left (show Nat.Coprime q p by rw [Nat.Coprime, Nat.gcd_comm]; exact h1) ⟨r, by rw [h, Nat.mul_comm]⟩)
  have d2 : s ∣ q := (Nat.Coprime.dvd_of_dvd_mul_left (show Nat.Coprime s r by rw [Nat.Coprime, Nat.gcd_comm]; exact h2) ⟨p, by rw [← h, Nat.mul_comm]⟩)
  have e : q = s := Nat.dvd_antisymm d1 d2
  subst e
  exact ⟨Nat.eq_of_mul_eq_mul_right hq h, rfl⟩
structure Rp (B : Int) (neg : Bool) (p q : List Int) (N D : Int) : Prop where
  lp : Lim B p
  np : Nrm p
  lq : Lim B q
  nq : Nrm q
  q0 : q ≠ []
  gc : Nat.gcd (val B p).toNat (val B q).toNat = 1
  ng : p = [] → neg = false
  eq : sgn neg (val B p) * D = N * val B q
theorem Rp.pos {B : Int} (hB : 0 < B) {neg : Bool} {p q : List Int} {N D : Int} (h : Rp B neg p q N D) : 0 < val B q := val_pos hB h.lq h.nq h.q0
theorem Rp.negpos {B : Int} (hB : 0 < B) {neg : Bool} {p q : List Int} {N D : Int} (h : Rp B neg p q N D) (e : neg = true) : 0 < val B p :=
  val_pos hB h.lp h.np (fun h0 => by rw [h.ng h0] at e; cases e)
theorem Rp.turn {B : Int} {neg : Bool} {p q : List Int} {N D N' D' : Int} (h : Rp B neg p q N D) (hD : D ≠ 0) (e : N * D' = N' * D) : Rp B neg p q N' D' := by
  refine ⟨h.lp, h.np, h.lq, h.nq, h.q0, h.gc, h.ng, ?_⟩
  have h1 := h.eq
  refine Int.eq_of_mul_eq_mul_right hD ?_
  generalize sgn neg (val B p) = s at *
  generalize val B q = v at *
  have h2 : s * D * D' = N * v * D' := by rw [h1]
  have h3 : N * D' * v = N' * D * v := by rw [e]
  grind
theorem Rp.unique {B : Int} (hB : 0 < B) {neg neg' : Bool} {p q p' q' : List Int} {N D : Int} (h : Rp B neg p q N D) (h' : Rp B neg' p' q' N D) (hD : D ≠ 0) : neg = neg' ∧ p = p' ∧ q = q' := by
  have v0 := val_nonneg hB h.lp
  have v0' := val_nonneg hB h'.lp
  have w0 := (h.pos hB)
  have w0' := (h'.pos hB)
  have e : sgn neg (val B p) * val B q' = sgn neg' (val B p') * val B q := by
    have h1 := h.eq
    have h2 := h'.eq
    refine Int.eq_of_mul_eq_mul_right hD ?_
    generalize sgn neg (val B p) = s at *
    generalize sgn neg' (val B p') = s' at *
    generalize val B q = v at *
    generalize val B q' = v' at *
    have h3 : s * D * v' = N * v * v' := by rw [h1]
    have h4 : s' * D * v = N * v' * v := by rw [h2]
    grind
  have hn : neg = neg' := by
    cases hn : neg with
    | true =>
      cases hn' : neg' with
      | true => rfl
      | false =>
        have a1 := h.negpos hB hn
        rw [hn, hn'] at e
        unfold sgn at e
        rw [if_pos rfl, if_neg (by decide), Int.neg_mul] at e
        have a2 : 0 < val B p * val B q' := Int.mul_pos a1 w0'
        have a3 : 0 ≤ val B p' * val B q := Int.mul_nonneg v0' (by omega)
        omega
    | false =>
      cases hn' : neg' with
      | false => rfl
      | true =>
        have a1 := h'.negpos hB hn'
        rw [hn, hn'] at e
        unfold sgn at e
        rw [if_pos rfl, if_neg (by decide), Int.neg_mul] at e
        have a2 : 0 < val B p' * val B q := Int.mul_pos a1 w0
        have a3 : 0 ≤ val B p * val B q' := Int.mul_nonneg v0 (by omega)
        omega
  subst hn
  have e2 : val B p * val B q' = val B p' * val B q := by
    unfold sgn at e
    cases neg with
    | true => rw [if_pos rfl, if_pos rfl, Int.neg_mul, Int.neg_mul] at e; omega
    | false => rw [if_neg (by decide), if_neg (by decide)] at e; exact e
  have e3 : (val B p).toNat * (val B q').toNat = (val B p').toNat * (val B q).toNat := by
    rw [← Int.toNat_mul v0 (by omega), ← Int.toNat_mul v0' (by omega), e2]
  obtain ⟨e4, e5⟩ := nat_frac h.gc h'.gc (by omega) (by omega) e3
  exact ⟨rfl, val_inj hB h.lp h'.lp h.np h'.np (by omega), val_inj hB h.lq h'.lq h.nq h'.nq (by omega)⟩
theorem toNat_div {x : Int} (h : 0 ≤ x) (g : Nat) : (x / (g : Int)).toNat = x.toNat / g := by
  obtain ⟨A, rfl⟩ := Int.eq_ofNat_of_zero_le h
  rw [← Int.natCast_ediv, Int.toNat_natCast, Int.toNat_natCast]
theorem Rp.made {B : Int} (hB : 0 < B) {neg : Bool} {a b p q : List Int} {g : Nat} (ha : Lim B a) (hb : Lim B b) (nb : Nrm b) (b0 : b ≠ []) (p1 : Lim B p) (p2 : Nrm p) (q1 : Lim B q) (q2 : Nrm q)
    (hg : g = Nat.gcd (val B a).toNat (val B b).toNat) (p3 : val B p = val B a / (g : Int)) (q3 : val B q = val B b / (g : Int)) : Rp B (neg && decide (p ≠ [])) p q (sgn neg (val B a)) (val B b) := by
  have va := val_nonneg hB ha
  have vb := val_pos hB hb nb b0
  have g0 : 0 < g := by rw [hg]; exact Nat.gcd_pos_of_pos_right _ (by omega)
  have d1 : (g : Int) ∣ val B a := by
    have : g ∣ (val B a).toNat := by rw [hg]; exact Nat.gcd_dvd_left _ _
    have := Int.ofNat_dvd.2 this
    rwa [Int.toNat_of_nonneg va] at this
  have d2 : (g : Int) ∣ val B b := by
    have : g ∣ (val B b).toNat := by rw [hg]; exact Nat.gcd_dvd_right _ _
    have := Int.ofNat_dvd.2 this
    rwa [Int.toNat_of_nonneg (by omega)] at this
  have ea : val B p * g = val B a := by rw [p3]; exact Int.ediv_mul_cancel d1
  have eb : val B q * g = val B b := by rw [q3]; exact Int.ediv_mul_cancel d2
  have hq0 : q ≠ [] := by
    rintro rfl
    have : val B [] = 0 := rfl
    rw [this, Int.zero_mul] at eb
    omega
  refine ⟨p1, p2, q1, q2, hq0, ?_, fun h => by simp [h], ?_⟩
  · have hp : (val B p).toNat = (val B a).toNat / g := by rw [p3]; exact toNat_div va g
    have hq : (val B q).toNat = (val B b).toNat / g := by rw [q3]; exact toNat_div (by omega) g
    rw [hp, hq, hg]
    exact Nat.coprime_div_gcd_div_gcd (by rw [← hg]; exact g0)
  · have hs : sgn (neg && decide (p ≠ [])) (val B p) = sgn neg (val B p) := by
      by_cases c : p = []
      · subst c
        have : val B [] = 0 := rfl
        rw [this]
        unfold sgn
        cases neg <;> simp
      · simp [c]
    rw [hs, ← ea, ← eb]
    unfold sgn
    cases neg with
    | true => rw [if_pos rfl, if_pos rfl]; generalize val B p = x; generalize val B q = y; grind
    | false => rw [if_neg (by decide), if_neg (by decide)]; generalize val B p = x; generalize val B q = y; grind
theorem nil_bound {x : List Int} (h : x.length ≤ 300) : x.length ≤ 274877906944 := by omega
theorem len_of_le {x y : List Int} (hx : Lim 4294967296 x) (hy : Lim 4294967296 y) (ny : Nrm y) (h : val 4294967296 y ≤ val 4294967296 x) : y.length ≤ x.length := by
  rcases Nat.lt_or_ge x.length y.length with c | c
  · have := len_lt_val (by decide) hx hy ny c
    omega
  · exact c
theorem sgn_mul_r (m : Bool) (x y : Int) : sgn m (x * y) = sgn m x * y := by
  unfold sgn
  cases m <;> simp [Int.neg_mul]
def outM (neg : Bool) (p q : List Int) : (Bool × List Int × List Int) × Int := if p.length > 128 ∨ q.length > 128 then ((false, [], []), 3) else ((neg, p, q), 0)
abbrev Rep := Rp 4294967296
theorem Rp.can {neg : Bool} {p q : List Int} {N D : Int} (h : Rep neg p q N D) (l1 : p.length ≤ 128) (l2 : q.length ≤ 128) : Can neg p q := ⟨l1, l2, h.np, h.nq, h.q0, h.ng, h.gc⟩
theorem Can.rep {neg : Bool} {p q : List Int} (h : Can neg p q) (lp : Lim 4294967296 p) (lq : Lim 4294967296 q) : Rep neg p q (sgn neg (val 4294967296 p)) (val 4294967296 q) := ⟨lp, h.nn, lq, h.nd, h.d0, h.gc, h.ng, rfl⟩
end Go.Proofs.YtemnjgkicndmjaaDoor.Q
namespace Go.Proofs.YtemnjgkicndmjaaDoor.Q
open Go.RowKit Go.Proofs.YtemnjgkicndmjaaDoor.E Go.Proofs.YtemnjgkicndmjaaDoorW.PrintWords Go.Proofs.YtemnjgkicndmjaaDoorW.PrintLast Go.Proofs.YtemnjgkicndmjaaDoorW.PrintMore
set_option linter.unusedVariables false
theorem clone_c (a : List Int) (h : a.length ≤ 1099511627776) {R : Type} (K : List Int → Option R) : slices_Clone_uint32_uint32.c R a K = K a :=
  slices_Clone_uint32_uint32.eq (by unfold slices_Clone_uint32_uint32.f; rw [if_pos (by omega)]) K
theorem isone_c (a : List Int) {R : Type} (K : Bool → Option R) : nat_IsOne.c R a K = K (decide (a = [1])) := nat_IsOne.eq (IsOne_eq a) K
theorem raw_c (neg : Bool) (a b : List Int) (ha : Lim 4294967296 a) (na : Nrm a) (hb : Lim 4294967296 b) (nb : Nrm b) (b0 : b ≠ []) (la : a.length ≤ 1048575) (lb : b.length ≤ 1048575) :
    ∃ p q, (∀ (R : Type) (K : (Bool × List Int × List Int) → Option R), number_raw.c R (neg, a, b) K = K (neg && decide (p ≠ []), p, q)) ∧ Lim 4294967296 p ∧ Nrm p ∧ Lim 4294967296 q ∧ Nrm q ∧
      val 4294967296 p = val 4294967296 a / (Nat.gcd (val 4294967296 a).toNat (val 4294967296 b).toNat : Nat) ∧ val 4294967296 q = val 4294967296 b / (Nat.gcd (val 4294967296 a).toNat (val 4294967296 b).toNat : Nat) := by
  have hB : (0 : Int) < 4294967296 := by decide
  have pb := val_pos hB hb nb b0
  have pa := val_nonneg hB ha
  by_cases h0 : a = []
  · subst h0
    refine ⟨[], [1], fun R K => ?_, lim_nil _, nrm_nil, one_lim (by decide), one_nrm, ?_, ?_⟩
    · unfold number_raw.c; simp
    · rw [show val 4294967296 [] = 0 from rfl, Int.zero_ediv]
    · have h2 : (val 4294967296 []).toNat = 0 := rfl
      rw [h2, Nat.gcd_zero_left, val_one, Int.toNat_of_nonneg (by omega), Int.ediv_self (by omega)]
  · have hl : ¬ ((a.length : Int) == 0) = true := by
      have : a.length ≠ 0 := fun h' => h0 (List.length_eq_zero_iff.1 h')
      simp; exact h0
    have hn : (neg && decide (a ≠ [])) = neg := by simp [h0]
    by_cases c : b = [1]
    · refine ⟨a, b, fun R K => ?_, ha, na, hb, nb, ?_, ?_⟩
      · rw [hn]
        unfold number_raw.c
        refine (if_neg hl).trans ((isone_c b _).trans ((if_neg (by simp [c])).trans ((clone_c a (by omega) _).trans (clone_c b (by omega) _))))
      · rw [c, val_one]
        have h2 : (1 : Int).toNat = 1 := rfl
        rw [h2, Nat.gcd_one_right]; simp
      · rw [c, val_one]
        have h2 : (1 : Int).toNat = 1 := rfl
        rw [h2, Nat.gcd_one_right]; simp
    · obtain ⟨g, g1, g2, g3, g4⟩ := Gcd_ev a b ha hb na nb (by omega) (by omega)
      by_cases c2 : g = [1]
      · subst c2
        rw [val_one] at g4
        refine ⟨a, b, fun R K => ?_, ha, na, hb, nb, by rw [← g4, Int.ediv_one], by rw [← g4, Int.ediv_one]⟩
        rw [hn]
        unfold number_raw.c
        refine (if_neg hl).trans ((isone_c b _).trans ((if_pos (by simp [c])).trans ((nat_Gcd.eq g1 _).trans ((isone_c _ _).trans ((if_neg (by simp)).trans ((clone_c a (by omega) _).trans (clone_c b (by omega) _)))))))
      · have hg0 : g ≠ [] := by
          rintro rfl
          have h2 : Nat.gcd (val 4294967296 a).toNat (val 4294967296 b).toNat ≠ 0 := by
            intro h3
            have := (Nat.gcd_eq_zero_iff.1 h3).2
            omega
          simp [val] at g4
          omega
        have hgl : g.length ≤ b.length := by
          rcases Nat.lt_or_ge b.length g.length with h | h
          · have h1 := len_lt_val hB hb g2 g3 h
            have h2 : Nat.gcd (val 4294967296 a).toNat (val 4294967296 b).toNat ≤ (val 4294967296 b).toNat := Nat.gcd_le_right _ (by omega)
            omega
          · exact h
        obtain ⟨p, r1, p1, p2, p3, p4, p5, p6, p7, p8⟩ := DivMod_ev a g ha g2 na g3 hg0 (by omega) (by omega)
        obtain ⟨q, r2, q1, q2, q3, q4, q5, q6, q7, q8⟩ := DivMod_ev b g hb g2 nb g3 hg0 (by omega) (by omega)
        have hp0 : p ≠ [] := by
          rintro rfl
          have h1 : 0 < val 4294967296 a := val_pos hB ha na h0
          have h2 : Nat.gcd (val 4294967296 a).toNat (val 4294967296 b).toNat ≤ (val 4294967296 a).toNat := Nat.gcd_le_left _ (by omega)
          have h3 : 0 < val 4294967296 g := val_pos hB g2 g3 hg0
          have h4 : val 4294967296 a / val 4294967296 g = 0 := by rw [← p6]; rfl
          have h5 : 1 ≤ val 4294967296 a / val 4294967296 g := Int.le_ediv_of_mul_le h3 (by rw [Int.one_mul]; omega)
          omega
        refine ⟨p, q, fun R K => ?_, p2, p3, q2, q3, by rw [p6, g4], by rw [q6, g4]⟩
        rw [show (neg && decide (p ≠ [])) = neg by simp [hp0]]
        unfold number_raw.c
        refine (if_neg hl).trans ((isone_c b _).trans ((if_pos (by simp [c])).trans ((nat_Gcd.eq g1 _).trans ((isone_c _ _).trans ((if_pos (by simp [c2])).trans ((nat_DivMod.eq p1 _).trans ((nat_DivMod.eq q1 _).trans ((clone_c p (by omega) _).trans (clone_c q (by omega) _)))))))))
theorem fits_c (neg : Bool) (p q : List Int) {R : Type} (K : ((Bool × List Int × List Int) × Int) → Option R) : number_fits.c R (neg, p, q) K = K (outM neg p q) := by
  unfold number_fits.c outM
  by_cases c1 : p.length > 128
  · rw [if_neg (by simp; omega), if_pos (Or.inl c1)]
  · by_cases c2 : q.length > 128
    · rw [if_pos (by simp; omega), if_pos (by simp; omega), if_pos (Or.inr c2)]
    · rw [if_pos (by simp; omega), if_neg (by simp; omega), if_neg (by omega)]
theorem made_c (neg : Bool) (a b : List Int) (ha : Lim 4294967296 a) (na : Nrm a) (hb : Lim 4294967296 b) (nb : Nrm b) (b0 : b ≠ []) (la : a.length ≤ 1048575) (lb : b.length ≤ 1048575) :
    ∃ neg' p q, (∀ (R : Type) (K : ((Bool × List Int × List Int) × Int) → Option R), number_made.c R (neg, a, b) K = K (outM neg' p q)) ∧ Rep neg' p q (sgn neg (val 4294967296 a)) (val 4294967296 b) := by
  obtain ⟨p, q, h1, p1, p2, q1, q2, p3, q3⟩ := raw_c neg a b ha na hb nb b0 la lb
  exact ⟨neg && decide (p ≠ []), p, q, fun R K => (h1 R _).trans (fits_c _ _ _ _), Rp.made (by decide) ha hb nb b0 p1 p2 q1 q2 rfl p3 q3⟩
theorem check_c (neg : Bool) (num den : List Int) (hn : Lim 4294967296 num) (hd : Lim 4294967296 den) {R : Type} (K : Int → Option R) : number_Check.c R (neg, num, den) K = K (fault neg num den) := number_Check.eq (Check_ev neg num den hn hd) K
theorem check2_c (na : Bool) (a da : List Int) (nb : Bool) (b db : List Int) (ha : Lim 4294967296 a) (hda : Lim 4294967296 da) (hb : Lim 4294967296 b) (hdb : Lim 4294967296 db) {R : Type} (K : Int → Option R) :
    number_check2.c R (na, a, da, nb, b, db) K = K (if fault na a da = 0 then fault nb b db else fault na a da) := by
  unfold number_check2.c
  refine (check_c na a da ha hda _).trans ?_
  by_cases h : fault na a da = 0
  · rw [if_pos h]
    refine (if_neg (by simp [h])).trans ((check_c nb b db hb hdb _).trans ?_)
    by_cases h2 : fault nb b db = 0
    · rw [h2]; rfl
    · exact if_pos (by simp [h2])
  · rw [if_neg h]
    exact if_pos (by simp [h])
theorem nadd_c (x y : List Int) (hx : Lim 4294967296 x) (hy : Lim 4294967296 y) (lx : x.length ≤ 300) (ly : y.length ≤ 300) :
    ∃ r, (∀ (R : Type) (K : List Int → Option R), (nat_plus.c R ([], x) fun t => nat_plus.c R (t, y) K) = K r) ∧ Lim 4294967296 r ∧ Nrm r ∧ val 4294967296 r = val 4294967296 x + val 4294967296 y ∧ r.length ≤ 302 := by
  obtain ⟨r, r1, r2, r3, r4, r5⟩ := plus_ev [] x (lim_nil _) hx (by decide) (nil_bound lx)
  obtain ⟨s, s1, s2, s3, s4, s5⟩ := plus_ev r y r2 hy (by simp only [List.length_nil] at r5; omega) (nil_bound ly)
  exact ⟨s, fun R K => (nat_plus.eq r1 _).trans (nat_plus.eq s1 _), s2, s3, by rw [s4, r4]; simp [val], by simp only [List.length_nil] at r5; omega⟩
theorem sum_c (m n : Bool) (x y : List Int) (hx : Lim 4294967296 x) (nx : Nrm x) (hy : Lim 4294967296 y) (ny : Nrm y) (lx : x.length ≤ 300) (ly : y.length ≤ 300) :
    ∃ neg s, (∀ (R : Type) (K : (Bool × List Int) → Option R), number_sum.c R (m, x, n, y) K = K (neg, s)) ∧ Lim 4294967296 s ∧ Nrm s ∧ s.length ≤ 302 ∧ sgn neg (val 4294967296 s) = sgn m (val 4294967296 x) + sgn n (val 4294967296 y) := by
  by_cases h : m = n
  · subst h
    obtain ⟨r, r1, r2, r3, r4, r5⟩ := nadd_c x y hx hy lx ly
    refine ⟨m, r, fun R K => (if_pos (by simp)).trans (r1 R _), r2, r3, r5, ?_⟩
    rw [r4]
    unfold sgn
    cases m with
    | true => rw [if_pos rfl, if_pos rfl, if_pos rfl]; omega
    | false => rw [if_neg (by decide), if_neg (by decide), if_neg (by decide)]
  · have hc := Compare_ev x y hx hy nx ny (by omega) (by omega)
    have hn : n = !m := by cases m <;> cases n <;> simp_all
    subst hn
    by_cases c : val 4294967296 x < val 4294967296 y
    · obtain ⟨r, r1, r2, r3, r4, r5⟩ := Sub_ev y x hy hx (by omega) (len_of_le hy hx nx (by omega)) (by omega)
      have h1 : cmpI (val 4294967296 x) (val 4294967296 y) = -1 := if_pos c
      refine ⟨!m, r, fun R K => (if_neg (by cases m <;> simp)).trans ((nat_Compare.eq hc _).trans ((if_neg (by rw [h1]; decide)).trans (nat_Sub.eq r1 _))), r2, r3, by omega, ?_⟩
      rw [r4]
      unfold sgn
      cases m with
      | true => simp; omega
      | false => simp; omega
    · obtain ⟨r, r1, r2, r3, r4, r5⟩ := Sub_ev x y hx hy (by omega) (len_of_le hx hy ny (by omega)) (by omega)
      have h1 : cmpI (val 4294967296 x) (val 4294967296 y) ≥ 0 := by unfold cmpI; rw [if_neg c]; split <;> omega
      refine ⟨m, r, fun R K => (if_neg (by cases m <;> simp)).trans ((nat_Compare.eq hc _).trans ((if_pos (by simpa using h1)).trans (nat_Sub.eq r1 _))), r2, r3, by omega, ?_⟩
      rw [r4]
      unfold sgn
      cases m with
      | true => simp; omega
      | false => simp; omega
theorem add_c (minus : Bool) (na : Bool) (a da : List Int) (nb : Bool) (b db : List Int) (ha : Lim 4294967296 a) (hda : Lim 4294967296 da) (hb : Lim 4294967296 b) (hdb : Lim 4294967296 db) (ca : Can na a da) (cb : Can nb b db) :
    ∃ neg p q, (∀ (R : Type) (K : ((Bool × List Int × List Int) × Int) → Option R), number_add.c R ((na, a, da), (nb, b, db), minus) K = K (outM neg p q)) ∧ Rep neg p q (sgn na (val 4294967296 a) * val 4294967296 db + sgn (nb != minus) (val 4294967296 b) * val 4294967296 da) (val 4294967296 da * val 4294967296 db) := by
  have l1 := ca.ln
  have l2 := ca.ld
  have l3 := cb.ln
  have l4 := cb.ld
  have pa := ca.pos hda
  have pb := cb.pos hdb
  obtain ⟨x, x1, x2, x3, x4, x5⟩ := Mul_ev a db ha hdb (by omega)
  obtain ⟨y, y1, y2, y3, y4, y5⟩ := Mul_ev b da hb hda (by omega)
  obtain ⟨d, d1, d2, d3, d4, d5⟩ := Mul_ev da db hda hdb (by omega)
  obtain ⟨neg, s, s1, s2, s3, s4, s5⟩ := sum_c na (nb != minus) x y x2 x3 y2 y3 (by omega) (by omega)
  have dp : 0 < val 4294967296 d := by rw [d4]; exact Int.mul_pos pa pb
  have d0 : d ≠ [] := by rintro rfl; exact absurd dp (by decide)
  obtain ⟨neg', p, q, m1, m2⟩ := made_c neg s d s2 s3 d2 d3 d0 (by omega) (by omega)
  rw [s5, x4, y4, sgn_mul_r, sgn_mul_r, d4] at m2
  exact ⟨neg', p, q, fun R K => (nat_Mul.eq x1 _).trans ((nat_Mul.eq y1 _).trans ((s1 R _).trans ((nat_Mul.eq d1 _).trans (m1 R _)))), m2⟩
def bad (e : Int) : (Bool × List Int × List Int) × Int := ((false, [], []), e)
theorem ok2 {na : Bool} {a da : List Int} {nb : Bool} {b db : List Int} (ca : Can na a da) (cb : Can nb b db) : (if fault na a da = 0 then fault nb b db else fault na a da) = 0 := by rw [fault_can ca, fault_can cb, if_pos rfl]
theorem check2_ok {na : Bool} {a da : List Int} {nb : Bool} {b db : List Int} (ha : Lim 4294967296 a) (hda : Lim 4294967296 da) (hb : Lim 4294967296 b) (hdb : Lim 4294967296 db) (ca : Can na a da) (cb : Can nb b db) {R : Type} (K : Int → Option R) : number_check2.c R (na, a, da, nb, b, db) K = K 0 := by
  rw [check2_c na a da nb b db ha hda hb hdb, ok2 ca cb]
theorem Add_c (na : Bool) (a da : List Int) (nb : Bool) (b db : List Int) (ha : Lim 4294967296 a) (hda : Lim 4294967296 da) (hb : Lim 4294967296 b) (hdb : Lim 4294967296 db) (ca : Can na a da) (cb : Can nb b db) :
    ∃ neg p q, (∀ (R : Type) (K : ((Bool × List Int × List Int) × Int) → Option R), number_Add.c R ((na, a, da), (nb, b, db)) K = K (outM neg p q)) ∧ Rep neg p q (sgn na (val 4294967296 a) * val 4294967296 db + sgn nb (val 4294967296 b) * val 4294967296 da) (val 4294967296 da * val 4294967296 db) := by
  obtain ⟨neg, p, q, h1, h2⟩ := add_c false na a da nb b db ha hda hb hdb ca cb
  rw [show (nb != false) = nb by cases nb <;> rfl] at h2
  exact ⟨neg, p, q, fun R K => (check2_ok ha hda hb hdb ca cb _).trans ((if_neg (by decide)).trans (h1 R _)), h2⟩
noncomputable def wrong2 (na : Bool) (a da : List Int) (nb : Bool) (b db : List Int) : Int := if fault na a da = 0 then (if fault nb b db = 0 then (if da = [1] then (if db = [1] then 0 else 7) else 7) else fault nb b db) else fault na a da
theorem int2_c (na : Bool) (a da : List Int) (nb : Bool) (b db : List Int) (ha : Lim 4294967296 a) (hda : Lim 4294967296 da) (hb : Lim 4294967296 b) (hdb : Lim 4294967296 db) {R : Type} (K : Int → Option R) :
    number_integers2.c R (na, a, da, nb, b, db) K = K (wrong2 na a da nb b db) := by
  unfold number_integers2.c wrong2
  refine (check2_c na a da nb b db ha hda hb hdb _).trans ?_
  by_cases h : fault na a da = 0
  · rw [if_pos h, if_pos h]
    by_cases h2 : fault nb b db = 0
    · rw [if_pos h2, h2]
      refine (if_neg (by decide)).trans ?_
      refine (isone_c da _).trans ?_
      by_cases c : da = [1]
      · rw [if_pos c]
        refine (if_neg (by simp [c])).trans ?_
        refine (isone_c db _).trans ?_
        by_cases d : db = [1]
        · rw [if_pos d]
          exact if_neg (by simp [d])
        · rw [if_neg d]
          exact if_pos (by simp [d])
      · rw [if_neg c]
        exact if_pos (by simp [c])
    · rw [if_neg h2]
      exact if_pos (by simp [h2])
  · rw [if_neg h, if_neg h]
    exact if_pos (by simp [h])
theorem wrong2_ok {na : Bool} {a da : List Int} {nb : Bool} {b db : List Int} (h : wrong2 na a da nb b db = 0) : Can na a da ∧ Can nb b db ∧ da = [1] ∧ db = [1] := by
  unfold wrong2 at h
  by_cases h1 : fault na a da = 0
  · rw [if_pos h1] at h
    by_cases h2 : fault nb b db = 0
    · rw [if_pos h2] at h
      by_cases c : da = [1]
      · rw [if_pos c] at h
        by_cases d : db = [1]
        · exact ⟨can_of_fault' h1, can_of_fault' h2, c, d⟩
        · rw [if_neg d] at h; omega
      · rw [if_neg c] at h; omega
    · rw [if_neg h2] at h; exact absurd h h2
  · rw [if_neg h1] at h; exact absurd h h1
theorem wrong2_can {na : Bool} {a : List Int} {nb : Bool} {b : List Int} (ca : Can na a [1]) (cb : Can nb b [1]) : wrong2 na a [1] nb b [1] = 0 := by
  unfold wrong2
  rw [if_pos (fault_can ca), if_pos (fault_can cb), if_pos rfl, if_pos rfl]
theorem one_rep : Lim 4294967296 [1] ∧ Nrm [1] ∧ val 4294967296 [1] = 1 := ⟨one_lim (by decide), one_nrm, val_one _⟩
theorem whole_c (neg : Bool) (n : List Int) (hn : Lim 4294967296 n) (nn : Nrm n) (ln : n.length ≤ 1048575) :
    ∃ neg' p q, (∀ (R : Type) (K : ((Bool × List Int × List Int) × Int) → Option R), number_whole.c R (neg, n) K = K (outM neg' p q)) ∧ Rep neg' p q (sgn neg (val 4294967296 n)) 1 := by
  obtain ⟨neg', p, q, h1, h2⟩ := made_c neg n [1] hn nn one_rep.1 one_rep.2.1 (by decide) ln (by decide)
  rw [one_rep.2.2] at h2
  exact ⟨neg', p, q, fun R K => h1 R _, h2⟩
theorem ofInt_nat (w : Nat) (k : Nat) : BitVec.ofInt w (k : Int) = BitVec.ofNat w k := by
  apply BitVec.eq_of_toNat_eq
  simp
theorem u32_id {x : Int} (h0 : 0 ≤ x) (h1 : x < 4294967296) : IntKind.u32.wrap x = x := by
  have : IntKind.u32.wrap x = x % 4294967296 := by simp [IntKind.wrap, IntKind.bits, IntKind.signed]
  rw [this]; omega
theorem compl32 {x : Int} (h0 : 0 ≤ x) (h1 : x < 4294967296) : IntKind.u32.wrap (((BitVec.ofInt 32 (4294967295 : Int)) ^^^ (BitVec.ofInt 32 x)).toNat : Int) = 4294967295 - x := by
  obtain ⟨k, rfl⟩ := Int.eq_ofNat_of_zero_le h0
  have hk : k < 4294967296 := by omega
  have e1 : BitVec.ofInt 32 (4294967295 : Int) = BitVec.allOnes 32 := by decide
  rw [e1, ofInt_nat, BitVec.allOnes_xor, BitVec.toNat_not, BitVec.toNat_ofNat]
  have : k % 2 ^ 32 = k := Nat.mod_eq_of_lt hk
  rw [this]
  have : ((2 ^ 32 - 1 - k : Nat) : Int) = 4294967295 - (k : Int) := by omega
  rw [this]
  exact u32_id (by omega) (by omega)
theorem neg_loop (l : List Int) (hl : Lim 4294967296 l) (hL : l.length ≤ 1048576) : ∀ (m i : Nat) (c : Int) (out : List Int), m + i = l.length → out.length = l.length → Lim 4294967296 out → 0 ≤ c → c ≤ 1 →
    ∃ (out' : List Int) (c' : Int), Lim 4294967296 out' ∧ out'.length = l.length ∧ 0 ≤ c' ∧ val 4294967296 out' + 4294967296 ^ l.length * c' + 4294967296 ^ i * val 4294967296 (l.drop i) = val 4294967296 (out.take i) + 4294967296 ^ i * c + (4294967296 ^ l.length - 4294967296 ^ i) ∧
      ∀ (fuel : Nat), m < fuel → ∀ (R : Type) (K : (Nat × (List Int) × Unit) → Option R), iter number_negated.bl1 fuel R (l.length, c, l, (l.length : Int), (i : Int), out, ()) K = K (l.length, out', ()) := by
  intro m
  induction m with
  | zero =>
    intro i c out hi ho hlo hc0 hc1
    have hi' : i = l.length := by omega
    refine ⟨out, c, hlo, ho, hc0, ?_, fun fuel hf R K => ?_⟩
    · rw [hi', List.drop_length, ← ho, List.take_length]
      simp only [val]
      omega
    · obtain ⟨f, rfl⟩ : ∃ f, fuel = f + 1 := ⟨fuel - 1, by omega⟩
      simp only [iter]
      unfold number_negated.bl1
      dsimp only
      rw [if_neg (by simp; omega)]
  | succ m ih =>
    intro i c out hi ho hlo hc0 hc1
    have hx := hl.getD (by decide) i
    generalize hxx : l.getD i 0 = x at hx
    have hs0 : 0 ≤ c + (4294967295 - x) := by omega
    have hs1 : c + (4294967295 - x) ≤ 4294967296 := by omega
    generalize hs : c + (4294967295 - x) = s at hs0 hs1
    have hlo2 : Lim 4294967296 (out.set i (s % 4294967296)) := hlo.set i (by omega)
    obtain ⟨out', c', q1, q2, q3, q4, q5⟩ := ih (i + 1) (s / 4294967296) (out.set i (s % 4294967296)) (by omega) (by rw [List.length_set]; exact ho) hlo2 (by omega) (by omega)
    refine ⟨out', c', q1, q2, q3, ?_, fun fuel hf R K => ?_⟩
    · have e1 : val 4294967296 ((out.set i (s % 4294967296)).take (i + 1)) = val 4294967296 (out.take i) + 4294967296 ^ i * (s % 4294967296) := by
        rw [val_take_succ _ _ _ (by rw [List.length_set]; omega)]
        congr 2
        · rw [List.take_set_of_le (Nat.le_refl i)]
        · simp [List.getD, List.getElem?_set, show i < out.length by omega]
      have e2 := val_drop 4294967296 l i (by omega)
      rw [hxx] at e2
      rw [e1] at q4
      rw [e2]
      have e3 : s % 4294967296 + 4294967296 * (s / 4294967296) = s := by omega
      have e4 : (4294967296 : Int) ^ (i + 1) = 4294967296 ^ i * 4294967296 := Int.pow_succ _ _
      rw [e4] at q4
      generalize (4294967296 : Int) ^ i = P at *
      generalize (4294967296 : Int) ^ l.length = N at *
      generalize s % 4294967296 = sr at *
      generalize s / 4294967296 = sq at *
      subst e3
      grind
    · obtain ⟨f, rfl⟩ : ∃ f, fuel = f + 1 := ⟨fuel - 1, by omega⟩
      have hstep : iter number_negated.bl1 (f + 1) R (l.length, c, l, (l.length : Int), (i : Int), out, ()) K = iter number_negated.bl1 f R (l.length, s / 4294967296, l, (l.length : Int), ((i + 1 : Nat) : Int), out.set i (s % 4294967296), ()) K := by
        simp only [iter]
        unfold number_negated.bl1
        dsimp only
        have w1 : IntKind.u64.wrap (4294967295 - x) = 4294967295 - x := u64_id (by omega) (by omega)
        have w2 : IntKind.u64.wrap s = s := u64_id (by omega) (by omega)
        have w3 : IntKind.i64.wrap ((i : Int) + 1) = ((i + 1 : Nat) : Int) := by rw [IntKind.wrap_i64]; omega
        have w4 : IntKind.u32.wrap s = s % 4294967296 := by simp [IntKind.wrap, IntKind.bits, IntKind.signed]
        rw [if_pos (by simp; omega), if_pos (by omega), if_pos (by omega), if_pos (by simp; omega), Int.toNat_natCast, hxx, compl32 hx.1 hx.2, w1, hs, w2, w3, w4]
        have w5 : s.fdiv (2 ^ 32) = s / 4294967296 := by rw [Int.fdiv_eq_ediv_of_nonneg _ (by decide)]; rfl
        rw [w5]
      rw [hstep]
      exact q5 f (by omega) R K
theorem negated_c (l : List Int) (hl : Lim 4294967296 l) (hL : l.length ≤ 1048576) : ∃ z, Lim 4294967296 z ∧ z.length = l.length ∧ (∃ c', 0 ≤ c' ∧ val 4294967296 z + 4294967296 ^ l.length * c' + val 4294967296 l = 4294967296 ^ l.length) ∧ ∀ (R : Type) (K : List Int → Option R), number_negated.c R l K = K z := by
  obtain ⟨z, c', q1, q2, q3, q4, q5⟩ := neg_loop l hl hL l.length 0 1 (List.replicate l.length 0) (by omega) (by simp) (lim_replicate (by decide) _) (by decide) (by decide)
  refine ⟨z, q1, q2, ⟨c', q3, ?_⟩, fun R K => ?_⟩
  · simp only [List.drop_zero, List.take_zero, val, Int.pow_zero] at q4
    omega
  · unfold number_negated.c
    rw [if_pos (by omega), Int.toNat_natCast]
    have := q5 4611686018427387904 (by omega) R (fun t1 => if t1.1 ≤ t1.2.1.length then K (t1.2.1.take t1.1) else none)
    refine this.trans ?_
    dsimp only
    rw [if_pos (by omega), ← q2, List.take_length]
def twoV (neg : Bool) (v : Int) (n : Nat) : Int := if neg = true ∧ v ≠ 0 then 4294967296 ^ n - v else v
theorem twos_c (neg : Bool) (a da : List Int) (n : Nat) (ha : Lim 4294967296 a) (hn : a.length ≤ n) (hN : n ≤ 1048576) : ∃ t, Lim 4294967296 t ∧ t.length = n ∧ val 4294967296 t = twoV neg (val 4294967296 a) n ∧ ∀ (R : Type) (K : List Int → Option R), number_twos.c R ((neg, a, da), (n : Int)) K = K t := by
  have e0 : a.take n ++ (List.replicate n (0 : Int)).drop (min a.length n) = a ++ List.replicate (n - a.length) 0 := by
    rw [List.take_of_length_le hn, Nat.min_eq_left hn, List.drop_replicate]
  have hlen : (a ++ List.replicate (n - a.length) (0 : Int)).length = n := by simp; omega
  have hlim : Lim 4294967296 (a ++ List.replicate (n - a.length) 0) := lim_append.2 ⟨ha, lim_replicate (by decide) _⟩
  have hval : val 4294967296 (a ++ List.replicate (n - a.length) 0) = val 4294967296 a := by rw [val_append, val_replicate]; omega
  obtain ⟨z, z1, z2, ⟨c', z3, z4⟩, z5⟩ := negated_c _ hlim (by omega)
  rw [hlen] at z2 z4
  rw [hval] at z4
  have va := val_nonneg (show (0 : Int) < 4294967296 by decide) ha
  cases neg with
  | false =>
    refine ⟨_, hlim, hlen, by rw [hval]; unfold twoV; rw [if_neg (by simp)], fun R K => ?_⟩
    unfold number_twos.c
    dsimp only
    rw [if_pos (by omega), Int.toNat_natCast, if_pos (by simp), if_neg (by decide), e0, if_pos (by omega), List.take_of_length_le (by omega)]
  | true =>
    refine ⟨z, z1, z2, ?_, fun R K => ?_⟩
    · have vz := val_nonneg (show (0 : Int) < 4294967296 by decide) z1
      have vz2 := val_lt (show (0 : Int) < 4294967296 by decide) z1
      rw [z2] at vz2
      unfold twoV
      generalize (4294967296 : Int) ^ n = N at *
      by_cases h : val 4294967296 a = 0
      · rw [if_neg (by simp [h]), h]
        rw [h] at z4
        have hc : c' = 1 := by
          rcases Int.lt_trichotomy c' 1 with hc | hc | hc
          · have : c' = 0 := by omega
            subst this
            omega
          · exact hc
          · have : N * 2 ≤ N * c' := Int.mul_le_mul_of_nonneg_left (by omega) (by omega)
            omega
        subst hc
        omega
      · rw [if_pos ⟨rfl, h⟩]
        have hc : c' = 0 := by
          rcases Int.lt_or_le 0 c' with hc | hc
          · have : N * 1 ≤ N * c' := Int.mul_le_mul_of_nonneg_left (by omega) (by omega)
            omega
          · omega
        subst hc
        omega
    · unfold number_twos.c
      dsimp only
      rw [if_pos (by omega), Int.toNat_natCast, if_pos (by simp), if_pos rfl, e0, if_pos (by omega), List.take_of_length_le (by omega)]
      refine (z5 R _).trans ?_
      rw [if_pos (Nat.le_refl _), List.take_length]
def lop (op : Int) (x y : Int) : Int :=
  if op = 1 then IntKind.u32.wrap (((BitVec.ofInt 32 x) &&& (BitVec.ofInt 32 y)).toNat : Int)
  else if op = 2 then IntKind.u32.wrap (((BitVec.ofInt 32 x) ||| (BitVec.ofInt 32 y)).toNat : Int)
  else IntKind.u32.wrap (((BitVec.ofInt 32 x) ^^^ (BitVec.ofInt 32 y)).toNat : Int)
theorem lop_lim (op x y : Int) : 0 ≤ lop op x y ∧ lop op x y < 4294967296 := by
  have : ∀ z : Int, 0 ≤ IntKind.u32.wrap z ∧ IntKind.u32.wrap z < 4294967296 := fun z => by
    have e : IntKind.u32.wrap z = z % 4294967296 := by simp [IntKind.wrap, IntKind.bits, IntKind.signed]
    rw [e]; omega
  unfold lop
  split
  · exact this _
  · split <;> exact this _
theorem zip_lim (op : Int) : ∀ (x y : List Int), Lim 4294967296 (List.zipWith (lop op) x y)
  | [], _ => by simpa using lim_nil _
  | _ :: _, [] => by simpa using lim_nil _
  | a :: x, b :: y => by simp only [List.zipWith_cons_cons]; exact lim_cons.2 ⟨lop_lim op a b, zip_lim op x y⟩
theorem bits_loop (op : Int) (hop : op = 1 ∨ op = 2 ∨ op = 3) (e7 : Int) (n9 : Int) (n : Nat) (hn : n ≤ 1048576) (y : List Int) (hy : y.length = n) (b0 b1 : Bool × (List Int) × (List Int) × Unit) (b2 : Bool × Unit) : ∀ (m i : Nat) (x : List Int), m + i = n → x.length = n →
    ∀ (fuel : Nat), m < fuel → ∀ (R : Type) K, iter number_Bits.bl1 fuel R (op, e7, n9, n, n, (n : Int), (i : Int), b0, b1, b2, x, y, ()) K = K (.inr (e7, n9, n, b0, b1, b2, x.take i ++ List.zipWith (lop op) (x.drop i) (y.drop i), y, ())) := by
  intro m
  induction m with
  | zero =>
    intro i x hi hx fuel hf R K
    obtain ⟨f, rfl⟩ : ∃ f, fuel = f + 1 := ⟨fuel - 1, by omega⟩
    simp only [iter]
    unfold number_Bits.bl1
    dsimp only
    rw [if_neg (by simp; omega)]
    have hi' : i = x.length := by omega
    rw [hi', List.drop_length, List.take_length]
    simp
  | succ m ih =>
    intro i x hi hx fuel hf R K
    obtain ⟨f, rfl⟩ : ∃ f, fuel = f + 1 := ⟨fuel - 1, by omega⟩
    have w3 : IntKind.i64.wrap ((i : Int) + 1) = ((i + 1 : Nat) : Int) := by rw [IntKind.wrap_i64]; omega
    have hstep : iter number_Bits.bl1 (f + 1) R (op, e7, n9, n, n, (n : Int), (i : Int), b0, b1, b2, x, y, ()) K = iter number_Bits.bl1 f R (op, e7, n9, n, n, (n : Int), ((i + 1 : Nat) : Int), b0, b1, b2, x.set i (lop op (x.getD i 0) (y.getD i 0)), y, ()) K := by
      simp only [iter]
      unfold number_Bits.bl1
      dsimp only
      rw [if_pos (by simp; omega)]
      obtain ⟨p1, p2, p3, p4⟩ := b0
      obtain ⟨r1, r2, r3, r4⟩ := b1
      obtain ⟨s1, s2⟩ := b2
      rcases hop with rfl | rfl | rfl
      · rw [if_pos (by decide), if_pos (by omega), if_pos (by simp; omega), if_pos (by omega), if_pos (by simp; omega), if_pos (by omega), if_pos (by simp; omega), Int.toNat_natCast, w3]
        rfl
      · rw [if_neg (by decide), if_pos (by decide), if_pos (by omega), if_pos (by simp; omega), if_pos (by omega), if_pos (by simp; omega), if_pos (by omega), if_pos (by simp; omega), Int.toNat_natCast, w3]
        rfl
      · rw [if_neg (by decide), if_neg (by decide), if_pos (by decide), if_pos (by omega), if_pos (by simp; omega), if_pos (by omega), if_pos (by simp; omega), if_pos (by omega), if_pos (by simp; omega), Int.toNat_natCast, w3]
        rfl
    rw [hstep, ih (i + 1) _ (by omega) (by rw [List.length_set]; exact hx) f (by omega)]
    congr 3
    have e1 : (x.set i (lop op (x.getD i 0) (y.getD i 0))).take (i + 1) = x.take i ++ [lop op (x.getD i 0) (y.getD i 0)] := by
      rw [take_succ' _ _ (by rw [List.length_set]; omega), List.take_set_of_le (Nat.le_refl i)]
      congr 2
      simp [List.getD, show i < x.length by omega]
    have e2 : (x.set i (lop op (x.getD i 0) (y.getD i 0))).drop (i + 1) = x.drop (i + 1) := by
      rw [List.drop_set_of_lt (by omega)]
    rw [e1, e2, drop_cons' x i (by omega), drop_cons' y i (by omega), List.zipWith_cons_cons, List.append_assoc]
    rfl
theorem zip_len (op : Int) (x y : List Int) (h : x.length = y.length) : (List.zipWith (lop op) x y).length = x.length := by
  rw [List.length_zipWith]; omega
def topB (r : List Int) : Int := (r.getD (r.length - 1) 0).fdiv (2 ^ 31)
def sV (r : List Int) : Int := val 4294967296 r - if topB r = 1 then 4294967296 ^ r.length else 0
theorem Bits_bad (op : Int) (na : Bool) (a da : List Int) (nb : Bool) (b db : List Int) (ha : Lim 4294967296 a) (hda : Lim 4294967296 da) (hb : Lim 4294967296 b) (hdb : Lim 4294967296 db) (h : ¬ wrong2 na a da nb b db = 0) {R : Type} (K : (Nm × Int) → Option R) : number_Bits.c R (op, (na, a, da), (nb, b, db)) K = K (bad (wrong2 na a da nb b db)) := by
  unfold number_Bits.c
  refine (int2_c na a da nb b db ha hda hb hdb _).trans ?_
  exact if_pos (by simpa using h)
theorem top_ge {r : List Int} (h0 : 0 < r.length) (hl : Lim 4294967296 r) (h : topB r = 1) : 0 < val 4294967296 r := by
  have h1 := val_split 4294967296 r (r.length - 1) (by omega)
  have h2 : r.drop (r.length - 1) = [r.getD (r.length - 1) 0] := by
    rw [drop_cons' r _ (by omega), show r.length - 1 + 1 = r.length by omega, List.drop_length]
  rw [h2] at h1
  have h3 := val_nonneg (show (0 : Int) < 4294967296 by decide) (hl.take (r.length - 1))
  have h4 : 0 < r.getD (r.length - 1) 0 := by
    unfold topB at h
    have h5 := hl.getD (by decide) (r.length - 1)
    rw [Int.fdiv_eq_ediv_of_nonneg _ (by decide)] at h
    rcases Int.lt_trichotomy (r.getD (r.length - 1) 0) 0 with h6 | h6 | h6
    · omega
    · rw [h6] at h; simp at h
    · exact h6
  simp only [val] at h1
  have h5 := pow_pos' (show (0 : Int) < 4294967296 by decide) (r.length - 1)
  have h6 := Int.mul_pos h5 h4
  generalize hv : r.getD (r.length - 1) 0 = v at *
  rw [Int.mul_zero, Int.add_zero] at h1
  omega
theorem Bits_c (op : Int) (hop : op = 1 ∨ op = 2 ∨ op = 3) {na : Bool} {a : List Int} {nb : Bool} {b : List Int} (ha : Lim 4294967296 a) (hb : Lim 4294967296 b) (ca : Can na a [1]) (cb : Can nb b [1]) (t s : List Int) (n : Nat) (hn : n = max a.length b.length + 1)
    (ht : Lim 4294967296 t) (tl : t.length = n) (t4 : ∀ (R : Type) (K : List Int → Option R), number_twos.c R ((na, a, [1]), (n : Int)) K = K t) (hs : Lim 4294967296 s) (sl : s.length = n) (s4 : ∀ (R : Type) (K : List Int → Option R), number_twos.c R ((nb, b, [1]), (n : Int)) K = K s) :
    ∃ m p q, (∀ (R : Type) (K : (Nm × Int) → Option R), number_Bits.c R (op, (na, a, [1]), (nb, b, [1])) K = K (outM m p q)) ∧ Rep m p q (sV (List.zipWith (lop op) t s)) 1 := by
  have la := ca.ln
  have lb := cb.ln
  generalize hr : List.zipWith (lop op) t s = r
  have hrl : r.length = n := by rw [← hr, zip_len op t s (by omega), tl]
  have hrL : Lim 4294967296 r := by rw [← hr]; exact zip_lim op t s
  have htr := Trim_ev r (by omega)
  have hwn : IntKind.i64.wrap ((if (b.length : Int) > (a.length : Int) then (b.length : Int) else (a.length : Int)) + (1 : Int)) = (n : Int) := by
    rw [IntKind.wrap_i64]
    split <;> omega
  have hw1 : IntKind.i64.wrap ((n : Int) - 1) = ((n - 1 : Nat) : Int) := by rw [IntKind.wrap_i64]; omega
  have run : ∀ (R : Type) (K : (Nm × Int) → Option R), number_Bits.c R (op, (na, a, [1]), (nb, b, [1])) K = if topB r = 1 then (number_negated.c R r fun t7 => nat_Trim.c R t7 fun t8 => number_whole.c R (true, t8) K) else (number_whole.c R (false, trim r) K) := by
    intro R K
    unfold number_Bits.c
    refine (int2_c na a [1] nb b [1] ha one_rep.1 hb one_rep.1 _).trans ?_
    rw [wrong2_can ca cb]
    refine (if_neg (by decide)).trans ?_
    dsimp only
    rw [hwn]
    refine (t4 R _).trans ?_
    refine (s4 R _).trans ?_
    rw [tl, sl]
    have := bits_loop op hop 0 n n (by omega) s sl (na, a, [1], ()) (nb, b, [1], ()) (false, ()) n 0 t (by omega) tl 4611686018427387904 (by omega) R
    refine (this _).trans ?_
    simp only [oneOf, List.take_zero, List.nil_append, List.drop_zero, hr]
    rw [hw1, if_pos (by omega), if_pos (by simp; omega), Int.toNat_natCast]
    have htop : ((r.getD (n - 1) 0).fdiv (2 ^ 31) == (1 : Int)) = decide (topB r = 1) := by
      unfold topB
      rw [hrl]
      rfl
    rw [htop]
    by_cases h : topB r = 1
    · rw [if_pos h, if_pos (by simp [h]), if_pos (by omega), ← hrl, List.take_length]
      congr 1
      funext t7
      rw [if_pos (Nat.le_refl _), List.take_length]
    · rw [if_neg h, if_neg (by simp [h]), if_pos (by omega), ← hrl, List.take_length]
      exact nat_Trim.eq htr _
  by_cases h : topB r = 1
  · obtain ⟨z, z1, z2, ⟨c', z3, z4⟩, z5⟩ := negated_c r hrL (by omega)
    have hzt := Trim_ev z (by omega)
    have vr := top_ge (by omega) hrL h
    have vz := val_nonneg (show (0 : Int) < 4294967296 by decide) z1
    have hc : c' = 0 := by
      rcases Int.lt_or_le 0 c' with hc | hc
      · have : 4294967296 ^ r.length * 1 ≤ 4294967296 ^ r.length * c' := Int.mul_le_mul_of_nonneg_left (by omega) (by have := pow_pos' (show (0 : Int) < 4294967296 by decide) r.length; omega)
        omega
      · omega
    subst hc
    have hl := length_trim z
    obtain ⟨m, p, q, h1, h2⟩ := whole_c true (trim z) (lim_trim z1) (nrm_trim z) (by omega)
    refine ⟨m, p, q, fun R K => ?_, ?_⟩
    · rw [run, if_pos h]
      refine (z5 R _).trans ?_
      refine (nat_Trim.eq hzt _).trans ?_
      exact h1 R K
    · rw [val_trim] at h2
      have e : sgn true (val 4294967296 z) = sV r := by
        unfold sV
        rw [if_pos h]
        simp only [sgn, if_true]
        omega
      rw [e] at h2
      exact h2
  · have hl := length_trim r
    obtain ⟨m, p, q, h1, h2⟩ := whole_c false (trim r) (lim_trim hrL) (nrm_trim r) (by omega)
    refine ⟨m, p, q, fun R K => ?_, ?_⟩
    · rw [run, if_neg h]
      exact h1 R K
    · rw [val_trim] at h2
      have e : sgn false (val 4294967296 r) = sV r := by
        unfold sV
        rw [if_neg h]
        simp [sgn]
      rw [e] at h2
      exact h2
end Go.Proofs.YtemnjgkicndmjaaDoor.Q
namespace Go.Proofs.YtemnjgkicndmjaaDoor.Q
open Go.RowKit Go.Proofs.YtemnjgkicndmjaaDoorW.PrintWords Go.Proofs.YtemnjgkicndmjaaDoorW.PrintLast Go.Proofs.YtemnjgkicndmjaaDoorW.PrintMore
set_option linter.unusedVariables false
end Go.Proofs.YtemnjgkicndmjaaDoor.Q
namespace Go.Proofs.YtemnjgkicndmjaaDoor.Q
open Go.RowKit Go.Proofs.YtemnjgkicndmjaaDoor.E Go.Proofs.YtemnjgkicndmjaaDoorW.PrintWords Go.Proofs.YtemnjgkicndmjaaDoorW.PrintLast Go.Proofs.YtemnjgkicndmjaaDoorW.PrintMore
set_option linter.unusedVariables false
theorem sameLimbs_loop (a b : List Int) (hl : a.length = b.length) (hL : a.length ≤ 1099511627776) : ∀ (d i : Nat), d + i = a.length → a.take i = b.take i → Ev (fun k => lw_sameLimbs.l0 k a b (i : Int)) (decide (a = b)) := by
  intro d
  induction d with
  | zero =>
    intro i hd h
    rw [List.take_of_length_le (by omega), List.take_of_length_le (by omega)] at h
    refine Ev.step (f := fun _ => some true) (fun k => ?_) (Ev.eq (Ev.now _) (by rw [decide_eq_true h]))
    simp only [lw_sameLimbs.l0]
    rw [if_neg (by omega)]
  | succ d ih =>
    intro i hd h
    have g1 : (i : Int) < (a.length : Int) := by omega
    have g2 : (0 : Int) ≤ (i : Int) := by omega
    have g3 : (i : Int) < (b.length : Int) := by omega
    have gw : ∀ _ : Unit, wrap64 ((i : Int) + 1) = ((i + 1 : Nat) : Int) := fun _ => by rw [w64 (by omega) (by omega)]; omega
    by_cases c : a.getD i 0 = b.getD i 0
    · refine Ev.step (f := fun k => lw_sameLimbs.l0 k a b ((i + 1 : Nat) : Int)) (fun k => ?_) (ih (i + 1) (by omega) (by rw [take_succ' _ _ (by omega), take_succ' _ _ (by omega), h, c]))
      simp only [lw_sameLimbs.l0]
      rw [if_pos g1, if_pos g2, if_pos g3, rd_getD, rd_getD, if_pos c, gw ()]
    · refine Ev.step (f := fun _ => some false) (fun k => ?_) (Ev.eq (Ev.now _) (by rw [decide_eq_false]; rintro rfl; exact c rfl))
      simp only [lw_sameLimbs.l0]
      rw [if_pos g1, if_pos g2, if_pos g3, rd_getD, rd_getD, if_neg c]
theorem sameLimbs_ev (a b : List Int) (hL : a.length ≤ 1099511627776) : Ev (fun k => lw_sameLimbs.f k a b) (decide (a = b)) := by
  by_cases hl : a.length = b.length
  · refine Ev.congr (fun k => ?_) (sameLimbs_loop a b hl hL a.length 0 (by omega) rfl)
    unfold lw_sameLimbs.f
    rw [if_pos (by omega)]; rfl
  · refine Ev.ret fun k => ?_
    unfold lw_sameLimbs.f
    rw [if_neg (by omega), decide_eq_false (fun h => hl (by rw [h]))]
theorem same_c (m : Bool) (a b : List Int) (n : Bool) (c d : List Int) (hL : a.length ≤ 1099511627776) (hM : b.length ≤ 1099511627776) {R : Type} (K : Bool → Option R) : lw_same.c R ((m, a, b), (n, c, d)) K = K (decide (m = n ∧ a = c ∧ b = d)) := by
  unfold lw_same.c
  by_cases h : m = n
  · refine (if_pos (by simpa using h)).trans ((lw_sameLimbs.eq (sameLimbs_ev a c hL) _).trans ?_)
    by_cases h2 : a = c
    · refine (if_pos (decide_eq_true h2)).trans ((lw_sameLimbs.eq (sameLimbs_ev b d hM) _).trans ?_)
      simp [h, h2]
    · refine (if_neg (by simp [h2])).trans ?_
      simp [h2]
  · refine (if_neg (by simpa using h)).trans ?_
    simp [h]
theorem outM_eq {neg neg' : Bool} {p q p' q' : List Int} {N D : Int} (h : Rep neg p q N D) (h' : Rep neg' p' q' N D) (hD : D ≠ 0) : outM neg p q = outM neg' p' q' := by
  obtain ⟨rfl, rfl, rfl⟩ := h.unique (by decide) h' hD
  rfl
def Short (x : (Bool × List Int × List Int) × Int) : Prop := x.1.2.1.length ≤ 128 ∧ x.1.2.2.length ≤ 128
theorem short_out (neg : Bool) (p q : List Int) : Short (outM neg p q) := by
  unfold outM Short
  split
  · exact ⟨by decide, by decide⟩
  · rename_i h
    refine ⟨?_, ?_⟩ <;> dsimp only <;> omega
theorem same_self {x : (Bool × List Int × List Int) × Int} (h : Short x) {R : Type} (K : Bool → Option R) : lw_same.c R ((x.1.1, x.1.2.1, x.1.2.2), (x.1.1, x.1.2.1, x.1.2.2)) K = K true := by
  obtain ⟨h1, h2⟩ := h
  rw [same_c _ _ _ _ _ _ (by omega) (by omega)]
  simp
theorem nat_bits : ∀ x y : Nat, (x &&& y) + (x ^^^ y) = (x ||| y) ∧ (x &&& y) + (x ||| y) = x + y := by
  intro x
  induction x using Nat.strongRecOn with
  | ind x ih =>
    intro y
    by_cases hx : x = 0
    · subst hx
      simp
    · obtain ⟨i1, i2⟩ := ih (x / 2) (by omega) (y / 2)
      have a1 : (x &&& y) / 2 = x / 2 &&& y / 2 := Nat.and_div_two
      have o1 : (x ||| y) / 2 = x / 2 ||| y / 2 := Nat.or_div_two
      have x1 : (x ^^^ y) / 2 = x / 2 ^^^ y / 2 := Nat.xor_div_two
      have a2 := Nat.and_mod_two_pow (a := x) (b := y) (n := 1)
      have o2 := Nat.or_mod_two_pow (a := x) (b := y) (n := 1)
      have x2 := Nat.xor_mod_two_pow (a := x) (b := y) (n := 1)
      rw [← a1, ← x1, ← o1] at i1
      rw [← a1, ← o1] at i2
      simp only [Nat.pow_one] at a2 o2 x2
      rcases Nat.mod_two_eq_zero_or_one x with h1 | h1 <;> rcases Nat.mod_two_eq_zero_or_one y with h2 | h2 <;> rw [h1, h2] at a2 o2 x2 <;> simp only [show (0 : Nat) &&& 0 = 0 from rfl, show (0 : Nat) &&& 1 = 0 from rfl, show (1 : Nat) &&& 0 = 0 from rfl, show (1 : Nat) &&& 1 = 1 from rfl, show (0 : Nat) ||| 0 = 0 from rfl, show (0 : Nat) ||| 1 = 1 from rfl, show (1 : Nat) ||| 0 = 1 from rfl, show (1 : Nat) ||| 1 = 1 from rfl, show (0 : Nat) ^^^ 0 = 0 from rfl, show (0 : Nat) ^^^ 1 = 1 from rfl, show (1 : Nat) ^^^ 0 = 1 from rfl, show (1 : Nat) ^^^ 1 = 0 from rfl] at a2 o2 x2 <;> omega
theorem lop_nat (x y : Nat) (hx : x < 4294967296) (hy : y < 4294967296) : lop 1 (x : Int) (y : Int) = ((x &&& y : Nat) : Int) ∧ lop 2 (x : Int) (y : Int) = ((x ||| y : Nat) : Int) ∧ lop 3 (x : Int) (y : Int) = ((x ^^^ y : Nat) : Int) := by
  have e : ∀ z : Nat, z < 4294967296 → IntKind.u32.wrap (z : Int) = (z : Int) := fun z hz => u32_id (by omega) (by omega)
  have hx' : x % 2 ^ 32 = x := Nat.mod_eq_of_lt hx
  have hy' : y % 2 ^ 32 = y := Nat.mod_eq_of_lt hy
  refine ⟨?_, ?_, ?_⟩
  · unfold lop
    rw [if_pos rfl, ofInt_nat, ofInt_nat, BitVec.toNat_and, BitVec.toNat_ofNat, BitVec.toNat_ofNat, hx', hy']
    exact e _ (Nat.and_lt_two_pow _ (n := 32) hy)
  · unfold lop
    rw [if_neg (by decide), if_pos rfl, ofInt_nat, ofInt_nat, BitVec.toNat_or, BitVec.toNat_ofNat, BitVec.toNat_ofNat, hx', hy']
    exact e _ (Nat.or_lt_two_pow (n := 32) hx hy)
  · unfold lop
    rw [if_neg (by decide), if_neg (by decide), ofInt_nat, ofInt_nat, BitVec.toNat_xor, BitVec.toNat_ofNat, BitVec.toNat_ofNat, hx', hy']
    exact e _ (Nat.xor_lt_two_pow (n := 32) hx hy)
theorem lop_sum {x y : Int} (hx : 0 ≤ x ∧ x < 4294967296) (hy : 0 ≤ y ∧ y < 4294967296) : lop 1 x y + lop 3 x y = lop 2 x y ∧ lop 1 x y + lop 2 x y = x + y := by
  obtain ⟨a, rfl⟩ := Int.eq_ofNat_of_zero_le hx.1
  obtain ⟨b, rfl⟩ := Int.eq_ofNat_of_zero_le hy.1
  obtain ⟨e1, e2, e3⟩ := lop_nat a b (by omega) (by omega)
  rw [e1, e2, e3]
  obtain ⟨h1, h2⟩ := nat_bits a b
  omega
theorem zip_sum : ∀ (x y : List Int), Lim 4294967296 x → Lim 4294967296 y → x.length = y.length → val 4294967296 (List.zipWith (lop 1) x y) + val 4294967296 (List.zipWith (lop 3) x y) = val 4294967296 (List.zipWith (lop 2) x y) ∧ val 4294967296 (List.zipWith (lop 1) x y) + val 4294967296 (List.zipWith (lop 2) x y) = val 4294967296 x + val 4294967296 y
  | [], [], _, _, _ => ⟨rfl, rfl⟩
  | [], _ :: _, _, _, h => by simp at h
  | _ :: _, [], _, _, h => by simp at h
  | a :: x, b :: y, hx, hy, h => by
    obtain ⟨h1, h2⟩ := lim_cons.1 hx
    obtain ⟨h3, h4⟩ := lim_cons.1 hy
    obtain ⟨e1, e2⟩ := zip_sum x y h2 h4 (by simpa using h)
    obtain ⟨e3, e4⟩ := lop_sum h1 h3
    simp only [List.zipWith_cons_cons, val]
    omega
theorem zip_getD (op : Int) (x y : List Int) (i : Nat) (hx : i < x.length) (hy : i < y.length) : (List.zipWith (lop op) x y).getD i 0 = lop op (x.getD i 0) (y.getD i 0) := by
  simp [List.getD, List.getElem?_zipWith, hx, hy]
theorem two_top {neg : Bool} {t : List Int} {m : Nat} {v : Int} (ht : Lim 4294967296 t) (hl : t.length = m + 1) (hv : val 4294967296 t = twoV neg v (m + 1)) (v0 : 0 ≤ v) (v1 : v < 4294967296 ^ m) : (t.getD m 0 = 0 ∨ t.getD m 0 = 4294967295) ∧ sV t = sgn neg v := by
  have h1 := val_split 4294967296 t m (by omega)
  have h2 : t.drop m = [t.getD m 0] := by
    rw [drop_cons' t m (by omega), show m + 1 = t.length by omega, List.drop_length]
  have h3 := val_nonneg (show (0 : Int) < 4294967296 by decide) (ht.take m)
  have h4 := val_lt (show (0 : Int) < 4294967296 by decide) (ht.take m)
  have h5 := ht.getD (by decide) m
  rw [h2] at h1
  simp only [val, Int.mul_zero, Int.add_zero] at h1
  rw [List.length_take, Nat.min_eq_left (by omega)] at h4
  have hp : (4294967296 : Int) ^ (m + 1) = 4294967296 ^ m * 4294967296 := Int.pow_succ _ _
  have hsV : ∀ τ, t.getD m 0 = τ → sV t = val 4294967296 t - if τ.fdiv (2 ^ 31) = 1 then 4294967296 ^ (m + 1) else 0 := fun τ hτ => by
    unfold sV topB
    rw [hl, Nat.add_sub_cancel, hτ]
  generalize hτ : t.getD m 0 = τ at *
  unfold twoV at hv
  by_cases c : neg = true ∧ v ≠ 0
  · rw [if_pos c] at hv
    have hτ1 : τ = 4294967295 := by
      rcases Int.lt_or_le τ 4294967295 with h6 | h6
      · have h7 : 4294967296 ^ m * τ ≤ 4294967296 ^ m * 4294967294 := Int.mul_le_mul_of_nonneg_left (by omega) (by omega)
        rw [hp] at hv
        generalize (4294967296 : Int) ^ m = P at *
        omega
      · omega
    refine ⟨.inr hτ1, ?_⟩
    rw [hsV τ rfl, hτ1, if_pos (by decide), hv, c.1]
    simp only [sgn, if_true]
    omega
  · rw [if_neg c] at hv
    have hτ0 : τ = 0 := by
      rcases Int.lt_or_le 0 τ with h6 | h6
      · have h7 : 4294967296 ^ m * 1 ≤ 4294967296 ^ m * τ := Int.mul_le_mul_of_nonneg_left (by omega) (by omega)
        generalize (4294967296 : Int) ^ m = P at *
        omega
      · omega
    refine ⟨.inl hτ0, ?_⟩
    rw [hsV τ rfl, hτ0, if_neg (by decide), hv]
    cases neg with
    | false => simp [sgn]
    | true =>
      have : v = 0 := by
        by_cases h : v = 0
        · exact h
        · exact absurd ⟨rfl, h⟩ c
      subst this
      rfl
theorem sV_zip (op : Int) {t s : List Int} {m : Nat} (tl : t.length = m + 1) (sl : s.length = m + 1) : sV (List.zipWith (lop op) t s) = val 4294967296 (List.zipWith (lop op) t s) - if (lop op (t.getD m 0) (s.getD m 0)).fdiv (2 ^ 31) = 1 then 4294967296 ^ (m + 1) else 0 := by
  have hl : (List.zipWith (lop op) t s).length = m + 1 := by rw [List.length_zipWith]; omega
  unfold sV topB
  rw [hl, Nat.add_sub_cancel, zip_getD op t s m (by omega) (by omega)]
theorem sV_sum {t s : List Int} {m : Nat} (ht : Lim 4294967296 t) (hs : Lim 4294967296 s) (tl : t.length = m + 1) (sl : s.length = m + 1) (h1 : t.getD m 0 = 0 ∨ t.getD m 0 = 4294967295) (h2 : s.getD m 0 = 0 ∨ s.getD m 0 = 4294967295) :
    sV (List.zipWith (lop 1) t s) + sV (List.zipWith (lop 3) t s) = sV (List.zipWith (lop 2) t s) ∧ sV (List.zipWith (lop 1) t s) + sV (List.zipWith (lop 2) t s) = sV t + sV s := by
  obtain ⟨e1, e2⟩ := zip_sum t s ht hs (by omega)
  have et : sV t = val 4294967296 t - if (t.getD m 0).fdiv (2 ^ 31) = 1 then 4294967296 ^ (m + 1) else 0 := by
    unfold sV topB; rw [tl, Nat.add_sub_cancel]
  have es : sV s = val 4294967296 s - if (s.getD m 0).fdiv (2 ^ 31) = 1 then 4294967296 ^ (m + 1) else 0 := by
    unfold sV topB; rw [sl, Nat.add_sub_cancel]
  rw [sV_zip 1 tl sl, sV_zip 2 tl sl, sV_zip 3 tl sl, et, es]
  generalize (4294967296 : Int) ^ (m + 1) = N
  rcases h1 with h1 | h1 <;> rcases h2 with h2 | h2 <;> rw [h1, h2]
  · rw [if_neg (by decide), if_neg (by decide), if_neg (by decide), if_neg (by decide)]; omega
  · rw [if_neg (by decide), if_pos (by decide), if_pos (by decide), if_neg (by decide), if_pos (by decide)]; omega
  · rw [if_neg (by decide), if_pos (by decide), if_pos (by decide), if_pos (by decide), if_neg (by decide)]; omega
  · rw [if_pos (by decide), if_neg (by decide), if_pos (by decide), if_pos (by decide)]; omega
theorem bits_all {na : Bool} {a : List Int} {nb : Bool} {b : List Int} (ha : Lim 4294967296 a) (hb : Lim 4294967296 b) (ca : Can na a [1]) (cb : Can nb b [1]) :
    ∃ R1 R2 R3 : Int, R1 + R3 = R2 ∧ R1 + R2 = sgn na (val 4294967296 a) + sgn nb (val 4294967296 b) ∧
      (∃ m p q, (∀ (R : Type) (K : (Nm × Int) → Option R), number_Bits.c R (1, (na, a, [1]), (nb, b, [1])) K = K (outM m p q)) ∧ Rep m p q R1 1) ∧
      (∃ m p q, (∀ (R : Type) (K : (Nm × Int) → Option R), number_Bits.c R (2, (na, a, [1]), (nb, b, [1])) K = K (outM m p q)) ∧ Rep m p q R2 1) ∧
      (∃ m p q, (∀ (R : Type) (K : (Nm × Int) → Option R), number_Bits.c R (3, (na, a, [1]), (nb, b, [1])) K = K (outM m p q)) ∧ Rep m p q R3 1) := by
  have la := ca.ln
  have lb := cb.ln
  obtain ⟨t, t1, t2, t3, t4⟩ := twos_c na a [1] (max a.length b.length + 1) ha (by omega) (by omega)
  obtain ⟨s, s1, s2, s3, s4⟩ := twos_c nb b [1] (max a.length b.length + 1) hb (by omega) (by omega)
  have va := val_nonneg (show (0 : Int) < 4294967296 by decide) ha
  have vb := val_nonneg (show (0 : Int) < 4294967296 by decide) hb
  have va2 := Int.lt_of_lt_of_le (val_lt (show (0 : Int) < 4294967296 by decide) ha) (pow_mono' (by decide) (show a.length ≤ max a.length b.length by omega))
  have vb2 := Int.lt_of_lt_of_le (val_lt (show (0 : Int) < 4294967296 by decide) hb) (pow_mono' (by decide) (show b.length ≤ max a.length b.length by omega))
  obtain ⟨t5, t6⟩ := two_top t1 t2 t3 va va2
  obtain ⟨s5, s6⟩ := two_top s1 s2 s3 vb vb2
  obtain ⟨e1, e2⟩ := sV_sum t1 s1 t2 s2 t5 s5
  rw [t6, s6] at e2
  exact ⟨_, _, _, e1, e2, Bits_c 1 (.inl rfl) ha hb ca cb t s _ rfl t1 t2 t4 s1 s2 s4, Bits_c 2 (.inr (.inl rfl)) ha hb ca cb t s _ rfl t1 t2 t4 s1 s2 s4, Bits_c 3 (.inr (.inr rfl)) ha hb ca cb t s _ rfl t1 t2 t4 s1 s2 s4⟩
theorem add_int {m1 m2 : Bool} {p1 q1 p2 q2 : List Int} {N1 N2 : Int} (h1 : Rep m1 p1 q1 N1 1) (h2 : Rep m2 p2 q2 N2 1) (l1 : p1.length ≤ 128 ∧ q1.length ≤ 128) (l2 : p2.length ≤ 128 ∧ q2.length ≤ 128) :
    ∃ m p q, (∀ (R : Type) (K : (Nm × Int) → Option R), number_Add.c R ((m1, p1, q1), (m2, p2, q2)) K = K (outM m p q)) ∧ Rep m p q (N1 + N2) 1 := by
  obtain ⟨m, p, q, g1, g2⟩ := Add_c m1 p1 q1 m2 p2 q2 h1.lp h1.lq h2.lp h2.lq (h1.can l1.1 l1.2) (h2.can l2.1 l2.2)
  refine ⟨m, p, q, g1, g2.turn ?_ ?_⟩
  · have := Int.mul_pos (h1.pos (by decide)) (h2.pos (by decide))
    omega
  · have e1 := h1.eq
    have e2 := h2.eq
    rw [Int.mul_one] at e1 e2
    rw [e1, e2, Int.mul_one]
    generalize val 4294967296 q1 = a
    generalize val 4294967296 q2 = b
    grind
theorem outM_cases (m : Bool) (p q : List Int) : (outM m p q = ((m, p, q), 0) ∧ p.length ≤ 128 ∧ q.length ≤ 128) ∨ (outM m p q).2 = 3 := by
  unfold outM
  split
  · exact .inr rfl
  · rename_i h
    exact .inl ⟨rfl, by omega, by omega⟩
theorem bits_pure (na : Bool) (a da : List Int) (nb : Bool) (b db : List Int) (ha : Lim 4294967296 a) (hda : Lim 4294967296 da) (hb : Lim 4294967296 b) (hdb : Lim 4294967296 db) {R : Type} (K : Bool → Option R) : lw_NumberBitsAddUp.c R ((na, a, da), (nb, b, db)) K = K true := by
  unfold lw_NumberBitsAddUp.c
  dsimp only
  by_cases h : wrong2 na a da nb b db = 0
  · obtain ⟨ca, cb, rfl, rfl⟩ := wrong2_ok h
    obtain ⟨R1, R2, R3, e1, e2, ⟨m1, p1, q1, f1, g1⟩, ⟨m2, p2, q2, f2, g2⟩, ⟨m3, p3, q3, f3, g3⟩⟩ := bits_all ha hb ca cb
    refine (f1 R _).trans ?_
    refine (f2 R _).trans ?_
    refine (f3 R _).trans ?_
    rcases outM_cases m1 p1 q1 with ⟨o1, l1, l1'⟩ | o1
    · rw [o1]
      refine (if_pos rfl).trans ?_
      rcases outM_cases m2 p2 q2 with ⟨o2, l2, l2'⟩ | o2
      · rw [o2]
        refine (if_pos rfl).trans ?_
        rcases outM_cases m3 p3 q3 with ⟨o3, l3, l3'⟩ | o3
        · rw [o3]
          refine (if_neg (by simp)).trans ?_
          obtain ⟨m4, p4, q4, f4, g4⟩ := add_int g1 g3 ⟨l1, l1'⟩ ⟨l3, l3'⟩
          obtain ⟨m5, p5, q5, f5, g5⟩ := add_int g1 g2 ⟨l1, l1'⟩ ⟨l2, l2'⟩
          obtain ⟨m6, p6, q6, f6, g6⟩ := add_int (ca.rep ha one_rep.1) (cb.rep hb one_rep.1) ⟨ca.ln, ca.ld⟩ ⟨cb.ln, cb.ld⟩
          rw [e1] at g4
          rw [e2] at g5
          have h4 : outM m4 p4 q4 = ((m2, p2, q2), 0) := by rw [← o2]; exact outM_eq g4 g2 (by decide)
          have h5 : outM m5 p5 q5 = outM m6 p6 q6 := outM_eq g5 g6 (by decide)
          refine (f4 R _).trans ?_
          refine (f5 R _).trans ?_
          refine (f6 R _).trans ?_
          rw [h4, h5]
          refine (if_pos rfl).trans ?_
          refine (same_c _ _ _ _ _ _ (show p2.length ≤ _ by omega) (show q2.length ≤ _ by omega) _).trans ?_
          refine (if_pos (by simp)).trans ?_
          refine (if_pos (by simp)).trans ?_
          refine (same_self (short_out m6 p6 q6) _).trans ?_
          refine (if_pos rfl).trans ?_
          rfl
        · exact if_pos (by rw [o3]; decide)
      · exact if_neg (by rw [o2]; decide)
    · exact if_neg (by rw [o1]; decide)
  · refine (Bits_bad 1 na a da nb b db ha hda hb hdb h _).trans ?_
    refine (Bits_bad 2 na a da nb b db ha hda hb hdb h _).trans ?_
    refine (Bits_bad 3 na a da nb b db ha hda hb hdb h _).trans ?_
    exact if_neg (by simpa [bad] using h)
end Go.Proofs.YtemnjgkicndmjaaDoor.Q
namespace Go.Proofs.YtemnjgkicndmjaaDoor.Q
open Go.ChangeShapes Go.WideShapes Go.ChangeAt Go.RowKit Go.Joins Go.Proofs.YtemnjgkicndmjaaDoorW.PrintWords Go.Proofs.YtemnjgkicndmjaaDoorW.PrintLast Go.Proofs.YtemnjgkicndmjaaDoorW.PrintMore
set_option linter.unusedVariables false
theorem laidOut : laidOutB Tryd.prog = true := by kernel_rfl
theorem own : ownKnob Tryd.prog.godebug = none := by kernel_rfl
theorem lim_of_wf {zs : List Int} (h : ∀ n ∈ zs, (Lit.int .u32 n).wf = true) : Lim 4294967296 zs := by
  intro x hx
  have h1 := h x hx
  simp only [Lit.wf, Bool.and_eq_true, decide_eq_true_eq] at h1
  have e1 : IntKind.u32.min = 0 := by decide
  have e2 : IntKind.u32.max = 4294967295 := by decide
  omega
theorem open_limbs {H : Type} {enc : TypeId × Value → H} {W : World} {n : Nat} {c : Value} {y : DataW H × List MemPlace} (h : DataW.trod enc Tryd.prog W 0 (fun _ => true) true n 22 [c] = some y) :
    ∃ (A : Option Addr) (cap : Nat) (l : List Int), c = .slice A l.length cap ∧ l.length ≤ cap ∧ Kd.C (Kd.int .u32) W A l.length l ∧ Lim 4294967296 l := by
  rcases open_ints Tryd.underlying22 Tryd.underlying55 (by kernel_rfl) h with ⟨hcs, _⟩ | ⟨x, l, cp, zs, hcs, _, hl, hm, hz, _, hcell, hwz⟩
  · simp at hcs
    exact ⟨none, 0, [], hcs, Nat.le_refl _, Kd.C_of_reads (enc := Value.int .u32) (d := (0 : Int)) ⟨rfl, by decide, fun h => absurd h (Nat.lt_irrefl _)⟩, lim_nil _⟩
  · simp at hcs
    have hz' : zs.length = cp := by simpa using hz
    have hlen : (zs.take l).length = l := by rw [List.length_take]; omega
    refine ⟨some x, cp, zs.take l, by rw [hlen]; exact hcs, by rw [hlen]; exact hl, Kd.C_of_reads (enc := Value.int .u32) (d := (0 : Int)) ⟨rfl, by rw [hlen]; unfold maxLen at hm; omega, fun _ => ⟨x, rfl, fun j hj => ?_⟩⟩, (lim_of_wf hwz).take _⟩
    rw [hlen] at hj
    rw [hcell j (by omega), List.getD_eq_getElem?_getD, List.getD_eq_getElem?_getD, List.getElem?_take, if_pos hj]
set_option maxRecDepth 100000 in
theorem open_number {H : Type} {enc : TypeId × Value → H} {W : World} {b0 : Nat} {r : Reach} {v : Value} {d : DataW H} {p : List MemPlace} (hv : Value.okWide Tryd.prog W r b0 24 v) (h : DataW.Trod enc Tryd.prog W 0 (fun _ => true) true 24 v d p) :
    ∃ (neg : Bool) (A1 : Option Addr) (c1 : Nat) (l1 : List Int) (A2 : Option Addr) (c2 : Nat) (l2 : List Int), v = .agg #[.bool neg, .slice A1 l1.length c1, .slice A2 l2.length c2] ∧
      l1.length ≤ c1 ∧ Kd.C (Kd.int .u32) W A1 l1.length l1 ∧ Lim 4294967296 l1 ∧ l2.length ≤ c2 ∧ Kd.C (Kd.int .u32) W A2 l2.length l2 ∧ Lim 4294967296 l2 := by
  obtain ⟨v0, v1, v2, y0, y1, y2, n, rfl, rfl, rfl, h0, h1, h2⟩ := open_agg3 Tryd.underlying24 (by kernel_rfl) (by kernel_rfl) hv h
  obtain ⟨b, e0, rfl⟩ := DataW.trod_bool Tryd.underlying4 h0
  obtain ⟨A1, c1, l1, rfl, i1, k1, m1⟩ := open_limbs h1
  obtain ⟨A2, c2, l2, rfl, i2, k2, m2⟩ := open_limbs h2
  simp at e0
  subst e0
  exact ⟨b, A1, c1, l1, A2, c2, l2, rfl, i1, k1, m1, i2, k2, m2⟩
def accepted : List (Nat × Nat) := [(128, 191), (160, 191), (128, 159), (144, 191), (128, 143), (0, 0), (0, 0), (0, 0), (0, 0), (0, 0), (0, 0), (0, 0), (0, 0), (0, 0), (0, 0), (0, 0)]
noncomputable def laidFirst : Array Value := (Go.Pinned.utf8FirstZ.map fun (z : Nat) => Value.int .u8 (Int.ofNat z)).toArray
noncomputable def laidRanges : Array Value := (accepted.flatMap fun (z : Nat × Nat) => [Value.int .u8 (Int.ofNat z.1), Value.int .u8 (Int.ofNat z.2)]).toArray
noncomputable def laidWorld (os : Os) : World :=
  let w0 := World.holding Tryd.prog os ⟨#[], #[], []⟩
  { w0 with heap := (w0.heap.modify 1 (fun o => match o with
      | .cells _ t frozen => .cells laidFirst t frozen
      | o => o)).modify 2 (fun o => match o with
      | .cells _ t frozen => .cells laidRanges t frozen
      | o => o) }
set_option maxRecDepth 100000 in
theorem laid_met (os : Os) (args : Array Value) : laidMet Tryd.prog [("unicode/utf8.acceptRanges", Rows.laid_unicode_utf8_acceptRanges), ("unicode/utf8.first", Rows.laid_unicode_utf8_first)] ((laidWorld os).forCall (fun _ _ => 0) ⟨#[], args, []⟩).memory :=
  laidMet_of_run' 8 (by kernel_rfl) (by kernel_rfl)
end Go.Proofs.YtemnjgkicndmjaaDoor.Q
namespace Go.Proofs.YtemnjgkicndmjaaDoor.Q
open Go.ChangeShapes Go.WideShapes Go.ChangeAt Go.RowKit Go.Joins Go.Proofs.YtemnjgkicndmjaaDoor.E Go.Proofs.YtemnjgkicndmjaaDoorW.PrintWords Go.Proofs.YtemnjgkicndmjaaDoorW.PrintLast Go.Proofs.YtemnjgkicndmjaaDoorW.PrintMore
set_option linter.unusedVariables false
namespace LBitsLaw
set_option maxRecDepth 100000 in
theorem contract (H : Type) (enc : TypeId × Value → H) (W : World) (base : Nat) (args : Array Value) (ds gs : List (DataW H)) (before : List MemPlace)
    (hval : ∀ (j : Nat) t v, Tryd.f11.params[j]? = some t → args[j]? = some v → Value.okWide Tryd.prog W .any base t v)
    (hW : DataW.Whole enc Tryd.prog Tryd.f11.params.toList Rows.numberBitsAddUpSpec.vars false W args.toList ds gs before) :
    Calls Tryd.prog 11 args W fun e W' => ∃ v, e = .returned v ∧ Rows.numberBitsAddUpSpec.post enc Tryd.prog Tryd.f11 false true false false W args v W' := by
  have hW' := hW
  obtain ⟨p, q, hA0, hV, rfl, hfz, hnd⟩ := hW
  have hA : DataW.TrodAll enc Tryd.prog W 0 (fun _ => true) true Tryd.f11.params.toList args.toList ds p := hA0
  rw [Tryd.params11] at hA hval
  obtain ⟨v0, vs0, d0, ds0, p0, q0, hargs, rfl, rfl, h0, r0⟩ := trodAll_cons hA
  obtain ⟨v1, vs1, d1, ds1, p1, q1, rfl, rfl, rfl, h1, r1⟩ := trodAll_cons r0
  obtain ⟨rfl, rfl, rfl⟩ := trodAll_nil r1
  obtain rfl : args = #[v0, v1] := by cases args; simp_all
  obtain ⟨rfl, rfl⟩ := trodVars_none hV
  have k0 := h0
  have lt0 : ∀ x ∈ p0, x.block < W.heap.size := by obtain ⟨m, hm⟩ := k0; exact DataW.trod_lt m _ _ _ hm
  obtain ⟨s0, A0, c0, a0, B0, e0, d0, rfl, i0, m0, n0, j0, l0, o0⟩ := open_number (hval 0 24 v0 rfl rfl) h0
  have k1 := h1
  have lt1 : ∀ x ∈ p1, x.block < W.heap.size := by obtain ⟨m, hm⟩ := k1; exact DataW.trod_lt m _ _ _ hm
  obtain ⟨s1, A1, c1, a1, B1, e1, d1, rfl, i1, m1, n1, j1, l1, o1⟩ := open_number (hval 1 24 v1 rfl rfl) h1
  clear hA0
  simp only [List.append_nil] at hW'
  have hx := lw_NumberBitsAddUp.sh.2 ((s0, a0, d0), (s1, a1, d1)) true (bits_pure s0 a0 d0 s1 a1 d1 n0 o0 n1 o1 some)
  refine (hx W (fun k => k < W.heap.size) _ (reps_cons (rep_num s0 i0 m0 j0 l0) (reps_cons (rep_num s1 i1 m1 j1 l1) reps_nil))).mono fun e W' ⟨v, he, bel, hv⟩ => ?_
  subst he
  have hv' : v = .bool true := by simpa only [Go.Proofs.YtemnjgkicndmjaaDoor.E.cb, Go.Proofs.YtemnjgkicndmjaaDoor.E.Rep] using hv
  subst hv'
  exact ⟨_, rfl, _, _, _, [], _, [], hW', trodAll_mk1 (shut_bool Tryd.underlying4 _), (trodAll_cons_mk (Below.trod laidOut (by kernel_rfl) (of_decide_eq_true (by kernel_rfl)) k0 bel lt0) (trodAll_cons_mk (Below.trod laidOut (by kernel_rfl) (of_decide_eq_true (by kernel_rfl)) k1 bel lt1) trodAll_mk0)), rfl, bel.frame _, fun h => by cases h⟩
theorem reads (os : Os) {H : Type} (enc : TypeId × Value → H) : ∃ places, DataW.whole enc Tryd.prog ((laidWorld os).forCall (fun _ _ => 0) ⟨#[], #[.agg #[.bool false, .slice none 0 0, .slice none 0 0], .agg #[.bool false, .slice none 0 0, .slice none 0 0]], []⟩).memory Tryd.f11.params.toList Rows.numberBitsAddUpSpec.vars false #[Value.agg #[.bool false, .slice none 0 0, .slice none 0 0], .agg #[.bool false, .slice none 0 0, .slice none 0 0]].toList 8 = some ([.agg [.lit (.bool false), .nil, .nil], .agg [.lit (.bool false), .nil, .nil]], [], places) :=
  ⟨[], by kernel_rfl⟩
set_option maxRecDepth 100000 in
theorem lifted (os : Os) (started : os.Started) (H : Type) (enc : TypeId × Value → H) (F : Stop.Interp) :
    ReturnsInHanded {} Tryd.checked os 11 .any ((OpenSpec.ofChange Rows.numberBitsAddUpSpec).preRow enc Tryd.prog Tryd.f11 Rows.numberBitsAddUpRow.domain false Rows.numberBitsAddUpRow.laid) (((OpenSpec.ofChange Rows.numberBitsAddUpSpec).at F).post enc Tryd.prog Tryd.f11 false true false false) := by
  obtain ⟨places, hx⟩ := reads os enc
  refine returnsInHanded_of_row (C := Tryd.checked) (s := OpenSpec.ofChange Rows.numberBitsAddUpSpec) own started (by kernel_rfl) Tryd.func11
    (witness_row_at (enc := enc) (C := Tryd.checked) false (laidWorld os) #[.agg #[.bool false, .slice none 0 0, .slice none 0 0], .agg #[.bool false, .slice none 0 0, .slice none 0 0]] rfl (by kernel_rfl) (by kernel_rfl) (by kernel_rfl)
      (OpenSpec.preRow_of_cond 8 hx (by kernel_rfl) (fun k hk => by cases hk) (by kernel_rfl) (laid_met os _))) ?_
  intro W base args ds gs before hval hW _ _ _ hL _ _
  exact contract H enc W base args ds gs before hval hW
theorem said : Rows.NumberBitsAddUpSaid :=
  OpenClaim.holds_of_cond 11 Tryd.f11 rfl rfl rfl rfl rfl rfl rfl ⟨rfl, rfl, rfl, rfl, rfl⟩ rfl rfl rfl rfl rfl (by kernel_rfl) Tryd.func11 (by kernel_rfl)
    (of_decide_eq_true (by kernel_rfl)) (by unfold Func.isWrapper; first | (rw [if_pos (by decide +kernel)]; kernel_rfl) | (rw [if_neg (by decide +kernel)]; exact ⟨rfl, rfl⟩))
    (fun os started H enc _ F => by rw [OpenClaim.pre_eq_preRow]; exact lifted os started H enc F)
theorem plain (f : FuncId) (fn : Func) (hf : Tryd.pinned.checked.prog.funcNamed "fetterlock/fetterlocklaw1.NumberBitsAddUp" = some f) (hfn : Tryd.pinned.checked.prog.funcs[f]? = some fn) :
    false = Tryd.pinned.checked.prog.looks [] ∧ ∀ (j : Nat) t, fn.params[j]? = some t → Tryd.pinned.checked.prog.wantsStandIn t = false := by
  obtain rfl : f = 11 := Option.some.inj ((show Tryd.prog.funcNamed "fetterlock/fetterlocklaw1.NumberBitsAddUp" = some 11 by kernel_rfl).symm.trans hf) |>.symm
  obtain rfl : fn = Tryd.f11 := (Option.some.inj (Tryd.func11.symm.trans hfn)).symm
  refine ⟨by kernel_rfl, fun j t ht => ?_⟩
  rw [Tryd.params11] at ht
  have hm := Array.mem_of_getElem? ht
  obtain rfl : t = 24 := by simpa using hm
  exact (show Tryd.prog.wantsStandIn 24 = false by kernel_rfl)
theorem card : Rows.NumberBitsAddUpCardSaid :=
  Claim7.holds_tied_plain_at .later [] _ _ _ _ said (fun _ h => by cases h) (by kernel_rfl) (fun _ h => by cases h) numberBitsAddUp_row_tie rfl ⟨rfl, rfl⟩ (by kernel_rfl) rfl plain (by kernel_rfl)
end LBitsLaw
end Go.Proofs.YtemnjgkicndmjaaDoor.Q
namespace Go.Proofs.YtemnjgkicndmjaaDoor
theorem numberBitsAddUp_holds : Rows.NumberBitsAddUpCardSaid := Q.LBitsLaw.card
end Go.Proofs.YtemnjgkicndmjaaDoor

