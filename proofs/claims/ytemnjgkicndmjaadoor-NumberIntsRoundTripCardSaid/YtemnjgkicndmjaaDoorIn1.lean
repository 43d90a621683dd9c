/- What this text proves: a part of the walk and of the plain laws of one card; no conditions. -/
import Derived.Test.YtemnjgkicndmjaaDoorIn0
namespace Go.Proofs.YtemnjgkicndmjaaDoor.Q
open Go.RowKit Go.Proofs.YtemnjgkicndmjaaDoorW.PrintWords Go.Proofs.YtemnjgkicndmjaaDoorW.PrintLast Go.Proofs.YtemnjgkicndmjaaDoorW.PrintMore
set_option linter.unusedVariables false
theorem u32_pair {a b : Int} (ha0 : 0 ≤ a) (ha : a < 65536) (hb0 : 0 ≤ b) (hb : b < 65536) : Go.bits .or .u32 (a % 4294967296) ((b % 4294967296 * 65536) % 4294967296) = a + 65536 * b := by
  have e1 : a % 4294967296 = a := by omega
  have e2 : (b % 4294967296 * 65536) % 4294967296 = b * 65536 := by omega
  rw [e1, e2, u32_or _ _ ha0 (by omega) (by omega) (by omega), Nat.or_comm, nat_join 16 _ _ (by omega) (by omega)]
  omega
theorem nrm_of_val {B : Int} (hB : 0 < B) {xs : List Int} (h : Lim B xs) (hv : xs ≠ [] → B ^ (xs.length - 1) ≤ val B xs) : Nrm xs := by
  by_cases e : xs = []
  · rw [e]; exact nrm_nil
  · have h1 := hv e
    rw [← List.dropLast_concat_getLast e] at h h1 ⊢
    rw [nrm_snoc]
    intro h2
    have h3 := val_lt hB (lim_append.1 h).1
    rw [val_snoc, h2, Int.mul_zero, Int.add_zero, List.length_append, List.length_singleton, Nat.add_sub_cancel] at h1
    omega
theorem limbs_loop (x : List Int) (hx : Lim 65536 x) (hL : x.length ≤ 137438953472) : ∀ (d i : Nat) (out : List Int), x.length ≤ 2 * i + 2 * d → (0 < d → 2 * i + 2 * d < x.length + 2) → out.length = i → Lim 4294967296 out → val 4294967296 out = val 65536 (x.take (2 * i)) →
    ∃ r, Ev (fun k => rf_limbs.l0 k x out ((2 * i : Nat) : Int)) r ∧ r.length = i + d ∧ Lim 4294967296 r ∧ val 4294967296 r = val 65536 x := by
  have hB : (0 : Int) < 65536 := by decide
  intro d
  induction d with
  | zero =>
    intro i out h1 h2 hl ho hv
    refine ⟨out, Ev.step (f := fun _ => some out) (fun k => ?_) (Ev.now _), by omega, ho, by rw [hv, List.take_of_length_le (by omega)]⟩
    simp only [rf_limbs.l0]
    rw [if_neg (by omega)]
  | succ d ih =>
    intro i out h1 h2 hl ho hv
    have h2' := h2 (by omega)
    have g1 : ((2 * i : Nat) : Int) < (x.length : Int) := by omega
    have g2 : (0 : Int) ≤ ((2 * i : Nat) : Int) := by omega
    have g3 : out.length < 35184372088832 := by omega
    have g4 : x.length ≤ 2 * (i + 1) + 2 * d := by omega
    have g5 : 0 < d → 2 * (i + 1) + 2 * d < x.length + 2 := by omega
    have e1 : ∀ _ : Unit, wrap64 (((2 * i : Nat) : Int) + 1) = ((2 * i + 1 : Nat) : Int) := fun _ => by rw [w64 (by omega) (by omega)]; omega
    have e2 : ∀ _ : Unit, wrap64 (((2 * i : Nat) : Int) + 2) = ((2 * (i + 1) : Nat) : Int) := fun _ => by rw [w64 (by omega) (by omega)]; omega
    have ha := hx.getD hB (2 * i)
    have hb := hx.getD hB (2 * i + 1)
    have hv2 : val 65536 (x.take (2 * (i + 1))) = val 65536 (x.take (2 * i)) + 65536 ^ (2 * i) * (x.getD (2 * i) 0 + 65536 * x.getD (2 * i + 1) 0) := by
      have : 2 * (i + 1) = 2 * i + 1 + 1 := by omega
      rw [this, val_take_succ', val_take_succ', Int.pow_succ]
      generalize (65536 : Int) ^ (2 * i) = p
      grind
    obtain ⟨r, hr, r1, r2, r3⟩ := ih (i + 1) (out ++ [x.getD (2 * i) 0 + 65536 * x.getD (2 * i + 1) 0]) g4 g5 (by rw [List.length_append, List.length_singleton, hl]) (lim_nrm_snoc ho ⟨by omega, by omega⟩) (by
      rw [val_snoc, hv, hv2, hl, Int.pow_mul, show (65536 : Int) ^ 2 = 4294967296 from rfl])
    refine ⟨r, Ev.step (f := fun k => rf_limbs.l0 k x (out ++ [x.getD (2 * i) 0 + 65536 * x.getD (2 * i + 1) 0]) ((2 * (i + 1) : Nat) : Int)) (fun k => ?_) hr, by omega, r2, r3⟩
    simp only [rf_limbs.l0]
    rw [if_pos g1, if_pos g2, e1 (), rdigit, Option.bind_some, if_pos g3, rd_getD, u32_pair ha.1 ha.2 hb.1 hb.2, e2 ()]
theorem limbs_ev (x : List Int) (hx : Lim 65536 x) (nx : Nrm x) (hL : x.length ≤ 137438953472) :
    ∃ r, Ev (fun k => rf_limbs.f k x) r ∧ Lim 4294967296 r ∧ Nrm r ∧ val 4294967296 r = val 65536 x ∧ r.length = (x.length + 1) / 2 := by
  obtain ⟨r, h1, h2, h3, h4⟩ := limbs_loop x hx hL ((x.length + 1) / 2) 0 [] (by omega) (by omega) rfl (lim_nil _) (by simp [val])
  refine ⟨r, h1, h3, nrm_of_val (by decide) h3 (fun hr => ?_), h4, by omega⟩
  have hx0 : x ≠ [] := by
    rintro rfl
    exact hr (List.length_eq_zero_iff.1 (by rw [h2]; rfl))
  have h5 := val_ge (by decide) hx nx hx0
  have hl : x.length ≠ 0 := fun h' => hx0 (List.length_eq_zero_iff.1 h')
  have h6 : (4294967296 : Int) ^ (r.length - 1) = 65536 ^ (2 * (r.length - 1)) := by rw [Int.pow_mul]; rfl
  have h7 := pow_mono' (B := 65536) (by decide) (show 2 * (r.length - 1) ≤ x.length - 1 by omega)
  rw [h4, h6]
  omega
theorem Made_ev (neg : Bool) (a b : List Int) (ha : Lim 65536 a) (hb : Lim 65536 b) (na : Nrm a) (nb : Nrm b) (La : a.length ≤ 137438953472) (Lb : b.length ≤ 137438953472) :
    ∃ p q, Lim 4294967296 p ∧ Nrm p ∧ val 4294967296 p = val 65536 a ∧ Lim 4294967296 q ∧ Nrm q ∧ val 4294967296 q = val 65536 b ∧
      (p.length > 128 ∨ q.length > 128 → Ev (fun k => rf_Made.f k neg a b) (false, [], [], 3)) ∧ (p.length ≤ 128 → q.length ≤ 128 → Ev (fun k => rf_Made.f k neg a b) (neg, p, q, 0)) := by
  obtain ⟨p, p1, p2, p3, p4, p5⟩ := limbs_ev a ha na La
  obtain ⟨q, q1, q2, q3, q4, q5⟩ := limbs_ev b hb nb Lb
  have key : ∀ R, Ev (fun _ => if (p.length : Int) > 128 then (some (false, ([] : List Int), ([] : List Int), (3 : Int))) else (if (q.length : Int) > 128 then (some (false, ([] : List Int), ([] : List Int), 3)) else (some (neg, p, q, 0)))) R → Ev (fun k => rf_Made.f k neg a b) R := by
    intro R hR
    refine Ev.bind (f := fun k t634 => ((rf_limbs.f k b).bind fun t637 => (if (t634.length : Int) > 128 then (some (false, ([] : List Int), ([] : List Int), (3 : Int))) else (if (t637.length : Int) > 128 then (some (false, ([] : List Int), ([] : List Int), 3)) else (some (neg, t634, t637, 0)))))) p1 ?_
    exact Ev.bind (f := fun _ t637 => (if (p.length : Int) > 128 then (some (false, ([] : List Int), ([] : List Int), (3 : Int))) else (if (t637.length : Int) > 128 then (some (false, ([] : List Int), ([] : List Int), 3)) else (some (neg, p, t637, 0))))) q1 hR
  refine ⟨p, q, p2, p3, p4, q2, q3, q4, fun h => key _ ?_, fun h1 h2 => key _ ?_⟩
  · by_cases c : p.length > 128
    · exact Ev.const (if_pos (by omega))
    · exact Ev.const (by rw [if_neg (by omega), if_pos (by omega)])
  · exact Ev.const (by rw [if_neg (by omega), if_neg (by omega)])
theorem limbs_one : Lim 65536 [1] ∧ Nrm [1] ∧ val 65536 [1] = 1 := ⟨one_lim (by decide), one_nrm, val_one _⟩
theorem Whole_eq (neg : Bool) (a : List Int) : rf_Whole.f neg a = some (neg && decide (a ≠ []), a, [1]) := by
  unfold rf_Whole.f
  cases neg with
  | false => rfl
  | true =>
    rw [if_pos rfl]
    cases a with
    | nil => rfl
    | cons x xs => rw [if_pos (by simp only [List.length_cons]; omega)]; simp
theorem w01 : wrap64 (0 + 1) = 1 := by decide +kernel
theorem check1_ev (neg : Bool) (num den : List Int) (hn : Lim 4294967296 num) (hd : Lim 4294967296 den) : Ev (fun k => number_check.f k [⟨neg, num, den⟩]) (fault neg num den) := by
  show Ev (fun k => number_check.l0 k [⟨neg, num, den⟩] 1 0) (fault neg num den)
  refine Ev.step (f := fun k => (number_Check.f k neg num den).bind fun t418 => (if t418 = 0 then (number_check.l0 k [⟨neg, num, den⟩] 1 1) else (some t418))) (fun k => ?_) ?_
  · simp only [number_check.l0]
    rw [if_pos (by decide), if_pos (by decide), if_pos (by simp), w01]; rfl
  · refine Ev.bind (f := fun k t418 => (if t418 = 0 then (number_check.l0 k [⟨neg, num, den⟩] 1 1) else (some t418))) (Check_ev neg num den hn hd) ?_
    by_cases h : fault neg num den = 0
    · refine Ev.congr (f := fun k => number_check.l0 k [⟨neg, num, den⟩] 1 1) (fun k => by rw [if_pos h]) (Ev.step (f := fun _ => some 0) (fun k => ?_) (Ev.eq (Ev.now _) h.symm))
      simp only [number_check.l0]
      rw [if_neg (by decide)]
    · exact Ev.ret fun k => if_neg h
theorem integers1_ev (neg : Bool) (num den : List Int) (hn : Lim 4294967296 num) (hd : Lim 4294967296 den) : Ev (fun k => number_integers.f k [⟨neg, num, den⟩]) (if fault neg num den = 0 then (if den = [1] then 0 else 7) else fault neg num den) := by
  refine Ev.bind (f := fun k t1398 => (if t1398 = 0 then (number_integers.l0 k [⟨neg, num, den⟩] 1 0) else (some t1398))) (check1_ev neg num den hn hd) ?_
  by_cases h : fault neg num den = 0
  · rw [if_pos h]
    refine Ev.congr (f := fun k => number_integers.l0 k [⟨neg, num, den⟩] 1 0) (fun k => by rw [if_pos h]) ?_
    by_cases c : den = [1]
    · rw [if_pos c]
      refine Ev.step (f := fun k => number_integers.l0 k [⟨neg, num, den⟩] 1 1) (fun k => ?_) (Ev.step (f := fun _ => some 0) (fun k => ?_) (Ev.now _))
      · simp only [number_integers.l0]
        rw [if_pos (by decide), if_pos (by decide), if_pos (by simp)]
        show (nat_IsOne.f den).bind _ = _
        rw [IsOne_eq, Option.bind_some, if_pos (decide_eq_true c), w01]
      · simp only [number_integers.l0]
        rw [if_neg (by decide)]
    · rw [if_neg c]
      refine Ev.step (f := fun _ => some 7) (fun k => ?_) (Ev.now _)
      simp only [number_integers.l0]
      rw [if_pos (by decide), if_pos (by decide), if_pos (by simp)]
      show (nat_IsOne.f den).bind _ = _
      rw [IsOne_eq, Option.bind_some, if_neg (by simp [c])]
  · rw [if_neg h]
    exact Ev.ret fun k => if_neg h
def toInt (neg : Bool) (u : Int) : Int × Int := if neg = true then (if u ≤ 9223372036854775808 then (-u, 0) else (0, 3)) else (if u ≤ 9223372036854775807 then (u, 0) else (0, 3))
theorem toInt_end (neg : Bool) (u : Int) (num den : List Int) (n : Int) (h0 : 0 ≤ u) (h1 : u < 18446744073709551616) (x : List Int) (i : Int) (hi : ¬ i < n) : Ev (fun k => number_ToInt.l0 k u x n i neg num den) (toInt neg u) := by
  unfold toInt
  cases neg with
  | true =>
    rw [if_pos rfl]
    refine Ev.step (f := fun k => number_ToInt.j1 k u (decide (u ≤ 9223372036854775808)) true num den) (fun k => by simp only [number_ToInt.l0]; rw [if_neg hi, if_pos trivial]) ?_
    by_cases c : u ≤ 9223372036854775808
    · rw [if_pos c]
      refine Ev.step (f := fun _ => some (-u, 0)) (fun k => ?_) (Ev.now _)
      simp only [number_ToInt.j1]
      rw [if_pos (decide_eq_true c)]
      have e : wrap64 (IntKind.u64.wrap (-u)) = -u := by rw [u64w]; unfold wrap64; omega
      rw [e]
    · rw [if_neg c]
      refine Ev.step (f := fun _ => some (0, 3)) (fun k => ?_) (Ev.now _)
      simp only [number_ToInt.j1]
      rw [if_neg (by simpa using c), if_pos trivial]
  | false =>
    rw [if_neg (by decide)]
    refine Ev.step (f := fun k => number_ToInt.j1 k u false false num den) (fun k => by simp only [number_ToInt.l0]; rw [if_neg hi, if_neg (by decide)]) ?_
    by_cases c : u ≤ 9223372036854775807
    · rw [if_pos c]
      refine Ev.step (f := fun _ => some (u, 0)) (fun k => ?_) (Ev.now _)
      simp only [number_ToInt.j1]
      rw [if_neg (by decide), if_neg (by decide), if_pos c, w64 (by omega) c]
    · rw [if_neg c]
      refine Ev.step (f := fun _ => some (0, 3)) (fun k => ?_) (Ev.now _)
      simp only [number_ToInt.j1]
      rw [if_neg (by decide), if_neg (by decide), if_neg c]
theorem toInt_word0 (x : Int) (h0 : 0 ≤ x) (h1 : x < 4294967296) : Go.bits .or .u64 0 (shl .u64 (IntKind.u64.wrap x) (wrap64 (32 * 0))) = x := by
  have e : shl .u64 (IntKind.u64.wrap x) (wrap64 (32 * 0)) = x := by
    rw [u64_id h0 (by omega), show wrap64 (32 * 0) = 0 by decide +kernel]
    unfold shl
    simp [IntKind.bits, u64w]
    omega
  rw [e, u64_or _ _ (by omega) (by omega) h0 (by omega)]
  simp; omega
theorem toInt_word1 (x y : Int) (h0 : 0 ≤ x) (h1 : x < 4294967296) (g0 : 0 ≤ y) (g1 : y < 4294967296) : Go.bits .or .u64 x (shl .u64 (IntKind.u64.wrap y) (wrap64 (32 * 1))) = x + 4294967296 * y := by
  have e : shl .u64 (IntKind.u64.wrap y) (wrap64 (32 * 1)) = y * 4294967296 := by
    rw [u64_id g0 (by omega), show wrap64 (32 * 1) = 32 by decide +kernel]
    unfold shl
    simp [IntKind.bits, u64w]
    omega
  rw [e, bits_or_shift' g0 g1 h0 h1]; omega
theorem toInt_ev (neg : Bool) (num den : List Int) (hn : Lim 4294967296 num) (hl : num.length ≤ 2) : Ev (fun k => number_ToInt.l0 k 0 num (num.length : Int) 0 neg num den) (toInt neg (val 4294967296 num)) := by
  match num, hl with
  | [], _ => exact toInt_end neg 0 [] den 0 (by decide) (by decide) [] 0 (by decide)
  | [x], _ =>
    have h1 := (lim_cons.1 hn).1
    refine Ev.step (f := fun k => number_ToInt.l0 k x [x] 1 1 neg [x] den) (fun k => ?_) (Ev.eq (toInt_end neg x [x] den 1 h1.1 (by omega) [x] 1 (by decide)) (by simp [val]))
    simp only [number_ToInt.l0]
    rw [if_pos (by simp), if_pos (by decide), if_pos (by simp), if_pos (by decide +kernel)]
    have e : rd [x] 0 = x := rfl
    rw [e, toInt_word0 x h1.1 h1.2, show wrap64 (0 + 1) = 1 by decide +kernel]; rfl
  | [x, y], _ =>
    have h1 := (lim_cons.1 hn).1
    have h2 := (lim_cons.1 (lim_cons.1 hn).2).1
    refine Ev.step (f := fun k => number_ToInt.l0 k x [x, y] 2 1 neg [x, y] den) (fun k => ?_) (Ev.step (f := fun k => number_ToInt.l0 k (x + 4294967296 * y) [x, y] 2 2 neg [x, y] den) (fun k => ?_) (Ev.eq (toInt_end neg (x + 4294967296 * y) [x, y] den 2 (by omega) (by omega) [x, y] 2 (by decide)) (by simp [val])))
    · simp only [number_ToInt.l0]
      rw [if_pos (by simp), if_pos (by decide), if_pos (by simp), if_pos (by decide +kernel)]
      have e : rd [x, y] 0 = x := rfl
      rw [e, toInt_word0 x h1.1 h1.2, show wrap64 (0 + 1) = 1 by decide +kernel]; rfl
    · simp only [number_ToInt.l0]
      rw [if_pos (by decide), if_pos (by decide), if_pos (by simp), if_pos (by decide +kernel)]
      have e : rd [x, y] 1 = y := rfl
      rw [e, toInt_word1 x y h1.1 h1.2 h2.1 h2.2, show wrap64 (1 + 1) = 2 by decide +kernel]
theorem ToInt_ev (neg : Bool) (num den : List Int) (hn : Lim 4294967296 num) (hd : Lim 4294967296 den) :
    Ev (fun k => number_ToInt.f k neg num den) (if fault neg num den = 0 then (if den = [1] then (if num.length > 2 then (0, 3) else toInt neg (val 4294967296 num)) else (0, 7)) else (0, fault neg num den)) := by
  refine Ev.bind (f := fun k t1696 => (if t1696 = 0 then (if (num.length : Int) > 2 then (some (0, 3)) else (number_ToInt.l0 k 0 num (num.length : Int) 0 neg num den)) else (some (0, t1696)))) (integers1_ev neg num den hn hd) ?_
  by_cases h : fault neg num den = 0
  · rw [if_pos h, if_pos h]
    by_cases c : den = [1]
    · rw [if_pos c, if_pos c]
      by_cases l : num.length > 2
      · rw [if_pos l]
        exact Ev.ret fun k => by rw [if_pos rfl, if_pos (by omega)]
      · rw [if_neg l]
        exact Ev.congr (fun k => by rw [if_pos rfl, if_neg (by omega)]) (toInt_ev neg num den hn (by omega))
    · rw [if_neg c, if_neg c]
      exact Ev.ret fun k => if_neg (by decide)
  · rw [if_neg h, if_neg h]
    exact Ev.ret fun k => if_neg h
theorem raw_one (neg : Bool) (num : List Int) (hL : num.length ≤ 1099511627776) : ∀ k, number_raw.f k neg num [1] = some (neg && decide (num ≠ []), num, [1]) := by
  intro k
  unfold number_raw.f
  cases num with
  | nil => simp
  | cons x xs =>
    have e1 : slices_Clone_uint32_uint32.f (x :: xs) = some (x :: xs) := by unfold slices_Clone_uint32_uint32.f; rw [if_pos (by omega)]
    have e2 : slices_Clone_uint32_uint32.f [1] = some [1] := by unfold slices_Clone_uint32_uint32.f; rfl
    rw [if_neg (by simp only [List.length_cons]; omega), IsOne_eq, Option.bind_some, if_pos (by decide), e1, Option.bind_some, e2, Option.bind_some]
    simp
theorem absu (i : Int) (h0 : -9223372036854775808 ≤ i) (h1 : i < 9223372036854775808) (h : i < 0) : IntKind.u64.wrap (-(IntKind.u64.wrap i)) = -i := by rw [u64w, u64w]; omega
theorem FromInt_ev (i : Int) (h0 : -9223372036854775808 ≤ i) (h1 : i < 9223372036854775808) :
    ∃ l, Lim 4294967296 l ∧ Nrm l ∧ val 4294967296 l = (i.natAbs : Int) ∧ l.length ≤ 2 ∧ Ev (fun k => number_FromInt.f k i) (decide (i < 0), l, [1]) := by
  by_cases h : i < 0
  · obtain ⟨l, l1, l2, l3, l4, l5⟩ := Of_ev (-i) (by omega) (by omega)
    have hne : l ≠ [] := by rintro rfl; simp [val] at l4; omega
    refine ⟨l, l2, l3, by omega, l5, ?_⟩
    refine Ev.congr (f := fun k => (nat_Of.f k (-i)).bind fun t1666 => ((number_raw.f k true t1666 (([1] : List Int))).bind fun bt1672 => (some (bt1672.1, bt1672.2.1, bt1672.2.2)))) (fun k => by unfold number_FromInt.f; rw [if_pos h, absu i h0 h1 h]) ?_
    refine Ev.bind (f := fun k t1666 => (number_raw.f k true t1666 (([1] : List Int))).bind fun bt1672 => (some (bt1672.1, bt1672.2.1, bt1672.2.2))) l1 (Ev.ret fun k => ?_)
    rw [raw_one _ _ (by omega), Option.bind_some]
    simp [hne, h]
  · obtain ⟨l, l1, l2, l3, l4, l5⟩ := Of_ev i (by omega) (by omega)
    refine ⟨l, l2, l3, by omega, l5, ?_⟩
    refine Ev.congr (f := fun k => (nat_Of.f k i).bind fun t1679 => ((number_raw.f k false t1679 (([1] : List Int))).bind fun bt1685 => (some (bt1685.1, bt1685.2.1, bt1685.2.2)))) (fun k => by unfold number_FromInt.f; rw [if_neg h, u64_id (by omega) (by omega)]) ?_
    refine Ev.bind (f := fun k t1679 => (number_raw.f k false t1679 (([1] : List Int))).bind fun bt1685 => (some (bt1685.1, bt1685.2.1, bt1685.2.2))) l1 (Ev.ret fun k => ?_)
    rw [raw_one _ _ (by omega), Option.bind_some]
    simp [h]
theorem u64_low {x : Int} (h0 : 0 ≤ x) (h1 : x < 18446744073709551616) : wrap64 (Go.bits .and .u64 x 65535) = x % 65536 := by
  rw [u64_and _ _ h0 h1 (by omega) (by omega), show (65535 : Int).toNat = 2 ^ 16 - 1 from rfl, Nat.and_two_pow_sub_one_eq_mod, w64 (by omega) (by omega)]
  omega
theorem OfInt_loop : ∀ (d : Nat) (x : Int) (out : List Int), 0 ≤ x → x < 65536 ^ d → x < 18446744073709551616 → out.length + d ≤ 4 → Lim 65536 out → (x = 0 → Nrm out) →
    ∃ r, Ev (fun k => rf_OfInt.l0 k x out) r ∧ Lim 65536 r ∧ Nrm r ∧ val 65536 r = val 65536 out + 65536 ^ out.length * x ∧ r.length ≤ 4 := by
  have hend : ∀ out : List Int, out.length ≤ 4 → Lim 65536 out → Nrm out → ∃ r, Ev (fun k => rf_OfInt.l0 k 0 out) r ∧ Lim 65536 r ∧ Nrm r ∧ val 65536 r = val 65536 out + 65536 ^ out.length * 0 ∧ r.length ≤ 4 := by
    intro out hl ho hn
    refine ⟨out, Ev.step (f := fun _ => some out) (fun k => ?_) (Ev.now _), ho, hn, by simp, hl⟩
    simp only [rf_OfInt.l0]
    rw [if_neg (by decide)]
  intro d
  induction d with
  | zero =>
    intro x out h0 h1 h2 hl ho hn
    have e : x = 0 := by simp at h1; omega
    subst e
    exact hend out (by omega) ho (hn rfl)
  | succ d ih =>
    intro x out h0 h1 h2 hl ho hn
    by_cases e : x = 0
    · subst e
      exact hend out (by omega) ho (hn rfl)
    · have g1 : out.length < 17592186044416 := by omega
      have h3 : x / 65536 < 65536 ^ d := by
        rw [Int.pow_succ] at h1
        exact Int.ediv_lt_of_lt_mul (by decide) h1
      obtain ⟨r, r1, r2, r3, r4, r5⟩ := ih (x / 65536) (out ++ [x % 65536]) (by omega) h3 (by omega) (by rw [List.length_append, List.length_singleton]; omega) (lim_nrm_snoc ho ⟨by omega, by omega⟩) (fun hz => nrm_snoc.2 (by omega))
      refine ⟨r, Ev.step (f := fun k => rf_OfInt.l0 k (x / 65536) (out ++ [x % 65536])) (fun k => ?_) r1, r2, r3, ?_, r5⟩
      · simp only [rf_OfInt.l0]
        rw [if_pos (by omega), if_pos g1, u64_low h0 h2]
      · rw [r4, val_snoc, List.length_append, List.length_singleton, Int.pow_succ]
        have e2 : x = x % 65536 + 65536 * (x / 65536) := by omega
        generalize x / 65536 = q at *
        generalize x % 65536 = m at *
        subst e2
        generalize (65536 : Int) ^ out.length = p
        clear r1 h3 ih
        grind
theorem OfInt_ev (x : Int) (h0 : 0 ≤ x) (h1 : x < 18446744073709551616) : ∃ r, Ev (fun k => rf_OfInt.f k x) r ∧ Lim 65536 r ∧ Nrm r ∧ val 65536 r = x ∧ r.length ≤ 4 := by
  obtain ⟨r, r1, r2, r3, r4, r5⟩ := OfInt_loop 4 x [] h0 h1 h1 (by decide) (lim_nil _) (fun _ => nrm_nil)
  exact ⟨r, r1, r2, r3, by rw [r4]; simp [val], r5⟩
theorem RFromInt_ev (i : Int) (h0 : -9223372036854775808 ≤ i) (h1 : i < 9223372036854775808) (l : List Int) (hl : Lim 4294967296 l) (nl : Nrm l) (vl : val 4294967296 l = (i.natAbs : Int)) :
    Ev (fun k => rf_FromInt.f k i) (decide (i < 0), l, [1]) := by
  have main : ∀ (neg : Bool) (x : Int), 0 ≤ x → x < 18446744073709551616 → val 4294967296 l = x → (neg && decide (x ≠ 0)) = decide (i < 0) →
      Ev (fun k => (rf_OfInt.f k x).bind fun t1702 => ((rf_Whole.f neg t1702).bind fun bt1705 => ((rf_Made.f k bt1705.1 bt1705.2.1 bt1705.2.2).bind fun bt1712 => (some (bt1712.1, bt1712.2.1, bt1712.2.2.1))))) (decide (i < 0), l, [1]) := by
    intro neg x x0 x1 hx hneg
    obtain ⟨r, r1, r2, r3, r4, r5⟩ := OfInt_ev x x0 x1
    refine Ev.bind (f := fun k t1702 => ((rf_Whole.f neg t1702).bind fun bt1705 => ((rf_Made.f k bt1705.1 bt1705.2.1 bt1705.2.2).bind fun bt1712 => (some (bt1712.1, bt1712.2.1, bt1712.2.2.1))))) r1 ?_
    refine Ev.congr (f := fun k => (rf_Made.f k (neg && decide (r ≠ [])) r [1]).bind fun bt1712 => (some (bt1712.1, bt1712.2.1, bt1712.2.2.1))) (fun k => by rw [Whole_eq, Option.bind_some]) ?_
    obtain ⟨p, q, p1, p2, p3, q1, q2, q3, _, hm⟩ := Made_ev (neg && decide (r ≠ [])) r [1] r2 limbs_one.1 r3 limbs_one.2.1 (by omega) (by decide)
    have ep : p = l := val_inj (by decide) p1 hl p2 nl (by rw [p3, r4, hx])
    have eq : q = [1] := (eq_one (by decide) q1 q2).1 (by rw [q3]; exact val_one _)
    subst ep
    subst eq
    have lp : p.length ≤ 2 := small_len (by decide) p1 p2 (by rw [hx]; exact x1)
    have hr : decide (r ≠ []) = decide (x ≠ 0) := by
      have := val_eq_zero (by decide) r2 r3
      rw [r4] at this
      simp [this]
    refine Ev.bind (f := fun _ bt1712 => (some (bt1712.1, bt1712.2.1, bt1712.2.2.1))) (hm (by omega) (by decide)) (Ev.eq (Ev.now _) ?_)
    rw [hr, hneg]
  by_cases h : i < 0
  · refine Ev.congr (fun k => ?_) (main true (-i) (by omega) (by omega) (by omega) (by simp [h]; omega))
    unfold rf_FromInt.f
    rw [if_pos h, absu i h0 h1 h]
  · refine Ev.congr (fun k => ?_) (main false i (by omega) (by omega) (by omega) (by simp [h]))
    unfold rf_FromInt.f
    rw [if_neg h, u64_id (by omega) (by omega)]
theorem can_int (i : Int) (l : List Int) (hl : Lim 4294967296 l) (nl : Nrm l) (vl : val 4294967296 l = (i.natAbs : Int)) (h2 : l.length ≤ 128) : Can (decide (i < 0)) l [1] where
  ln := h2
  ld := by decide
  nn := nl
  nd := one_nrm
  d0 := by decide
  ng := by rintro rfl; simp [val] at vl; simp; omega
  gc := by rw [val_one]; exact Nat.gcd_one_right _
theorem ints_pure (i : Int) (hw : (Lit.int .i64 i).wf = true) : ∃ k, lw_NumberIntsRoundTrip.f k i = some true := by
  have hb : -9223372036854775808 ≤ i ∧ i < 9223372036854775808 := by
    simp only [Lit.wf, Bool.and_eq_true, decide_eq_true_eq] at hw
    have e1 : IntKind.i64.min = -9223372036854775808 := by decide
    have e2 : IntKind.i64.max = 9223372036854775807 := by decide
    omega
  obtain ⟨h0, h1⟩ := hb
  obtain ⟨l, l1, l2, l3, l4, l5⟩ := FromInt_ev i h0 h1
  have hc := fault_can (can_int i l l1 l2 l3 (by omega))
  have ht := ToInt_ev (decide (i < 0)) l [1] l1 (one_lim (by decide))
  rw [if_pos hc, if_pos rfl, if_neg (by omega), l3] at ht
  have hti : toInt (decide (i < 0)) (i.natAbs : Int) = (i, 0) := by
    unfold toInt
    by_cases h : i < 0
    · rw [if_pos (decide_eq_true h), if_pos (by omega)]; congr 1; omega
    · rw [if_neg (by simpa using h), if_pos (by omega)]; congr 1; omega
  rw [hti] at ht
  refine ev_rounds (g := fun k => lw_NumberIntsRoundTrip.f k i) ?_
  refine Ev.bind (f := fun k bt1740 => ((number_ToInt.f k bt1740.1 bt1740.2.1 bt1740.2.2).bind fun bt1748 => ((rf_FromInt.f k i).bind fun bt1750 => ((lw_same.f k bt1740.1 bt1740.2.1 bt1740.2.2 bt1750.1 bt1750.2.1 bt1750.2.2).bind fun t1757 => (if t1757 = true then ((number_Check.f k bt1740.1 bt1740.2.1 bt1740.2.2).bind fun t1758 => (if t1758 = 0 then (if bt1748.2 = 0 then (if bt1748.1 = i then ((lw_counted.f k).bind fun t1759 => (some t1759)) else (some false)) else (some false)) else (some false))) else (some false)))))) l5 ?_
  refine Ev.bind (f := fun k bt1748 => ((rf_FromInt.f k i).bind fun bt1750 => ((lw_same.f k (decide (i < 0)) l [1] bt1750.1 bt1750.2.1 bt1750.2.2).bind fun t1757 => (if t1757 = true then ((number_Check.f k (decide (i < 0)) l [1]).bind fun t1758 => (if t1758 = 0 then (if bt1748.2 = 0 then (if bt1748.1 = i then ((lw_counted.f k).bind fun t1759 => (some t1759)) else (some false)) else (some false)) else (some false))) else (some false))))) ht ?_
  refine Ev.bind (f := fun k bt1750 => ((lw_same.f k (decide (i < 0)) l [1] bt1750.1 bt1750.2.1 bt1750.2.2).bind fun t1757 => (if t1757 = true then ((number_Check.f k (decide (i < 0)) l [1]).bind fun t1758 => (if t1758 = 0 then (if (0 : Int) = 0 then (if i = i then ((lw_counted.f k).bind fun t1759 => (some t1759)) else (some false)) else (some false)) else (some false))) else (some false)))) (RFromInt_ev i h0 h1 l l1 l2 l3) ?_
  refine Ev.bind (f := fun k t1757 => (if t1757 = true then ((number_Check.f k (decide (i < 0)) l [1]).bind fun t1758 => (if t1758 = 0 then (if (0 : Int) = 0 then (if i = i then ((lw_counted.f k).bind fun t1759 => (some t1759)) else (some false)) else (some false)) else (some false))) else (some false))) (same_ev (decide (i < 0)) l [1] (decide (i < 0)) l [1] (by omega) (by decide)) ?_
  refine Ev.congr (f := fun k => (number_Check.f k (decide (i < 0)) l [1]).bind fun t1758 => (if t1758 = 0 then (if (0 : Int) = 0 then (if i = i then ((lw_counted.f k).bind fun t1759 => (some t1759)) else (some false)) else (some false)) else (some false))) (fun k => by rw [if_pos (by simp)]) ?_
  refine Ev.bind (f := fun k t1758 => (if t1758 = 0 then (if (0 : Int) = 0 then (if i = i then ((lw_counted.f k).bind fun t1759 => (some t1759)) else (some false)) else (some false)) else (some false))) (Check_ev (decide (i < 0)) l [1] l1 (one_lim (by decide))) ?_
  refine Ev.congr (f := fun k => (lw_counted.f k).bind fun t1759 => (some t1759)) (fun k => by rw [if_pos hc, if_pos rfl, if_pos rfl]) ?_
  exact Ev.bind (f := fun _ t1759 => some t1759) counted_ev (Ev.now _)
end Go.Proofs.YtemnjgkicndmjaaDoor.Q
namespace Go.Proofs.YtemnjgkicndmjaaDoor.Q
open Go.ChangeShapes Go.WideShapes Go.ChangeAt Go.RowKit Go.Joins Go.Proofs.YtemnjgkicndmjaaDoorW.PrintWords Go.Proofs.YtemnjgkicndmjaaDoorW.PrintLast Go.Proofs.YtemnjgkicndmjaaDoorW.PrintMore
set_option linter.unusedVariables false
namespace IntsLaw
set_option maxRecDepth 100000 in
theorem contract (H : Type) (enc : TypeId × Value → H) (W : World) (base : Nat) (args : Array Value) (ds gs : List (DataW H)) (before : List MemPlace)
    (hval : ∀ (j : Nat) t v, Tryd.f9.params[j]? = some t → args[j]? = some v → Value.okWide Tryd.prog W .any base t v)
    (hW : DataW.Whole enc Tryd.prog Tryd.f9.params.toList Rows.numberIntsRoundTripSpec.vars false W args.toList ds gs before) :
    Calls Tryd.prog 9 args W fun e W' => ∃ v, e = .returned v ∧ Rows.numberIntsRoundTripSpec.post enc Tryd.prog Tryd.f9 false true false false W args v W' := by
  have hW' := hW
  obtain ⟨p, q, hA0, hV, rfl, hfz, hnd⟩ := hW
  have hA : DataW.TrodAll enc Tryd.prog W 0 (fun _ => true) true Tryd.f9.params.toList args.toList ds p := hA0
  rw [Tryd.params9] at hA hval
  obtain ⟨v0, vs0, d0, ds0, p0, q0, hargs, rfl, rfl, h0, r0⟩ := trodAll_cons hA
  obtain ⟨rfl, rfl, rfl⟩ := trodAll_nil r0
  obtain rfl : args = #[v0] := by cases args; simp_all
  obtain ⟨rfl, rfl⟩ := trodVars_none hV
  obtain ⟨a0, rfl, rfl, rfl, w0⟩ := open_int Tryd.underlying3 (hval 0 3 v0 rfl rfl) h0
  clear hA0
  simp only [List.append_nil] at hW'
  obtain ⟨k, hk⟩ := ints_pure a0 w0
  refine (lw_NumberIntsRoundTrip.calls k a0 true W hk rfl).mono fun e W' ⟨he, bel⟩ => ?_
  subst he
  exact ⟨_, rfl, _, _, _, [], _, [], hW', trodAll_mk1 (shut_bool Tryd.underlying4 _), (trodAll_cons_mk (shut_int Tryd.underlying3 w0) trodAll_mk0), rfl, bel.frame _, fun h => by cases h⟩
theorem reads (os : Os) {H : Type} (enc : TypeId × Value → H) : ∃ places, DataW.whole enc Tryd.prog ((laidWorld os).forCall (fun _ _ => 0) ⟨#[], #[.int .i64 0], []⟩).memory Tryd.f9.params.toList Rows.numberIntsRoundTripSpec.vars false #[Value.int .i64 0].toList 8 = some ([.lit (.int .i64 0)], [], places) :=
  ⟨[], by kernel_rfl⟩
set_option maxRecDepth 100000 in
theorem lifted (os : Os) (started : os.Started) (H : Type) (enc : TypeId × Value → H) (F : Stop.Interp) :
    ReturnsInHanded {} Tryd.checked os 9 .any ((OpenSpec.ofChange Rows.numberIntsRoundTripSpec).preRow enc Tryd.prog Tryd.f9 Rows.numberIntsRoundTripRow.domain false Rows.numberIntsRoundTripRow.laid) (((OpenSpec.ofChange Rows.numberIntsRoundTripSpec).at F).post enc Tryd.prog Tryd.f9 false true false false) := by
  obtain ⟨places, hx⟩ := reads os enc
  refine returnsInHanded_of_row (C := Tryd.checked) (s := OpenSpec.ofChange Rows.numberIntsRoundTripSpec) own started (by kernel_rfl) Tryd.func9
    (witness_row_at (enc := enc) (C := Tryd.checked) false (laidWorld os) #[.int .i64 0] rfl (by kernel_rfl) (by kernel_rfl) (by kernel_rfl)
      (OpenSpec.preRow_of_cond 8 hx (by kernel_rfl) (fun k hk => by cases hk) (by kernel_rfl) (laid_met os _))) ?_
  intro W base args ds gs before hval hW _ _ _ hL _ _
  exact contract H enc W base args ds gs before hval hW
theorem said : Rows.NumberIntsRoundTripSaid :=
  OpenClaim.holds_of_cond 9 Tryd.f9 rfl rfl rfl rfl rfl rfl rfl ⟨rfl, rfl, rfl, rfl, rfl⟩ rfl rfl rfl rfl rfl (by kernel_rfl) Tryd.func9 (by kernel_rfl)
    (of_decide_eq_true (by kernel_rfl)) (by unfold Func.isWrapper; first | (rw [if_pos (by decide +kernel)]; kernel_rfl) | (rw [if_neg (by decide +kernel)]; exact ⟨rfl, rfl⟩))
    (fun os started H enc _ F => by rw [OpenClaim.pre_eq_preRow]; exact lifted os started H enc F)
theorem plain (f : FuncId) (fn : Func) (hf : Tryd.pinned.checked.prog.funcNamed "fetterlock/fetterlocklaw1.NumberIntsRoundTrip" = some f) (hfn : Tryd.pinned.checked.prog.funcs[f]? = some fn) :
    false = Tryd.pinned.checked.prog.looks [] ∧ ∀ (j : Nat) t, fn.params[j]? = some t → Tryd.pinned.checked.prog.wantsStandIn t = false := by
  obtain rfl : f = 9 := Option.some.inj ((show Tryd.prog.funcNamed "fetterlock/fetterlocklaw1.NumberIntsRoundTrip" = some 9 by kernel_rfl).symm.trans hf) |>.symm
  obtain rfl : fn = Tryd.f9 := (Option.some.inj (Tryd.func9.symm.trans hfn)).symm
  refine ⟨by kernel_rfl, fun j t ht => ?_⟩
  rw [Tryd.params9] at ht
  obtain rfl : t = 3 := by simpa using Array.mem_of_getElem? ht
  exact (show Tryd.prog.wantsStandIn 3 = false by kernel_rfl)
theorem card : Rows.NumberIntsRoundTripCardSaid :=
  Claim7.holds_tied_plain_at .later [] _ _ _ _ said (fun _ h => by cases h) (by kernel_rfl) (fun _ h => by cases h) numberIntsRoundTrip_row_tie rfl ⟨rfl, rfl⟩ (by kernel_rfl) rfl plain (by kernel_rfl)
end IntsLaw
end Go.Proofs.YtemnjgkicndmjaaDoor.Q
namespace Go.Proofs.YtemnjgkicndmjaaDoor
theorem numberIntsRoundTrip_holds : Rows.NumberIntsRoundTripCardSaid := Q.IntsLaw.card
end Go.Proofs.YtemnjgkicndmjaaDoor

