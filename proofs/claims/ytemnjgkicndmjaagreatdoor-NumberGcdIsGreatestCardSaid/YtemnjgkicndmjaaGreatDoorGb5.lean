/- What this text proves: a part of the walk and of the plain laws of one card; no conditions. -/
import Derived.Test.YtemnjgkicndmjaaGreatDoorGb4
import Derived.Test.YtemnjgkicndmjaaGreatDoorCards
import Derived.Test.YtemnjgkicndmjaaGreatDoorTie
import Derived.WalkKit
import Derived.ProofKit
import Derived.OpenShut
import Derived.ShutString
import Derived.ChangeOld
import Derived.Below
import Derived.Carry
import Derived.Deep.DeepHandedRow
import Derived.Lib.SmallJoins
import Derived.ChangeSlices
import Derived.LaidLaws
import Derived.ChangeSame
import Derived.Stop.Joined
import Derived.SevenTiedAt
namespace Go.Proofs.YtemnjgkicndmjaaGreatDoor.Q
open Go.RowKit Go.Proofs.YtemnjgkicndmjaaGreatDoor.E Go.Proofs.YtemnjgkicndmjaaGreatDoorW.PrintWords Go.Proofs.YtemnjgkicndmjaaGreatDoorW.PrintLast Go.Proofs.YtemnjgkicndmjaaGreatDoorW.PrintMore
set_option linter.unusedVariables false
theorem clone_c (a : List Int) (h : a.length ≤ 1099511627776) {R : Type} (K : List Int → Option R) : slices_Clone_uint32_uint32.c R a K = K a :=
  slices_Clone_uint32_uint32.eq (by unfold slices_Clone_uint32_uint32.f; rw [if_pos (by omega)]) K
theorem isone_c (a : List Int) {R : Type} (K : Bool → Option R) : nat_IsOne.c R a K = K (decide (a = [1])) := nat_IsOne.eq (IsOne_eq a) K
theorem raw_c (neg : Bool) (a b : List Int) (ha : Lim 4294967296 a) (na : Nrm a) (hb : Lim 4294967296 b) (nb : Nrm b) (b0 : b ≠ []) (la : a.length ≤ 1048575) (lb : b.length ≤ 1048575) :
    ∃ p q, (∀ (R : Type) (K : (Bool × List Int × List Int) → Option R), number_raw.c R (neg, a, b) K = K (neg && decide (p ≠ []), p, q)) ∧ Lim 4294967296 p ∧ Nrm p ∧ Lim 4294967296 q ∧ Nrm q ∧
      val 4294967296 p = val 4294967296 a / (Nat.gcd (val 4294967296 a).toNat (val 4294967296 b).toNat : Nat) ∧ val 4294967296 q = val 4294967296 b / (Nat.gcd (val 4294967296 a).toNat (val 4294967296 b).toNat : Nat) := by
  have hB : (0 : Int) < 4294967296 := by decide
  have pb := val_pos hB hb nb b0
  have pa := val_nonneg hB ha
  by_cases h0 : a = []
  · subst h0
    refine ⟨[], [1], fun R K => ?_, lim_nil _, nrm_nil, one_lim (by decide), one_nrm, ?_, ?_⟩
    · unfold number_raw.c; simp
    · rw [show val 4294967296 [] = 0 from rfl, Int.zero_ediv]
    · have h2 : (val 4294967296 []).toNat = 0 := rfl
      rw [h2, Nat.gcd_zero_left, val_one, Int.toNat_of_nonneg (by omega), Int.ediv_self (by omega)]
  · have hl : ¬ ((a.length : Int) == 0) = true := by
      have : a.length ≠ 0 := fun h' => h0 (List.length_eq_zero_iff.1 h')
      simp; exact h0
    have hn : (neg && decide (a ≠ [])) = neg := by simp [h0]
    by_cases c : b = [1]
    · refine ⟨a, b, fun R K => ?_, ha, na, hb, nb, ?_, ?_⟩
      · rw [hn]
        unfold number_raw.c
        refine (if_neg hl).trans ((isone_c b _).trans ((if_neg (by simp [c])).trans ((clone_c a (by omega) _).trans (clone_c b (by omega) _))))
      · rw [c, val_one]
        have h2 : (1 : Int).toNat = 1 := rfl
        rw [h2, Nat.gcd_one_right]; simp
      · rw [c, val_one]
        have h2 : (1 : Int).toNat = 1 := rfl
        rw [h2, Nat.gcd_one_right]; simp
    · obtain ⟨g, g1, g2, g3, g4⟩ := Gcd_ev a b ha hb na nb (by omega) (by omega)
      by_cases c2 : g = [1]
      · subst c2
        rw [val_one] at g4
        refine ⟨a, b, fun R K => ?_, ha, na, hb, nb, by rw [← g4, Int.ediv_one], by rw [← g4, Int.ediv_one]⟩
        rw [hn]
        unfold number_raw.c
        refine (if_neg hl).trans ((isone_c b _).trans ((if_pos (by simp [c])).trans ((nat_Gcd.eq g1 _).trans ((isone_c _ _).trans ((if_neg (by simp)).trans ((clone_c a (by omega) _).trans (clone_c b (by omega) _)))))))
      · have hg0 : g ≠ [] := by
          rintro rfl
          have h2 : Nat.gcd (val 4294967296 a).toNat (val 4294967296 b).toNat ≠ 0 := by
            intro h3
            have := (Nat.gcd_eq_zero_iff.1 h3).2
            omega
          simp [val] at g4
          omega
        have hgl : g.length ≤ b.length := by
          rcases Nat.lt_or_ge b.length g.length with h | h
          · have h1 := len_lt_val hB hb g2 g3 h
            have h2 : Nat.gcd (val 4294967296 a).toNat (val 4294967296 b).toNat ≤ (val 4294967296 b).toNat := Nat.gcd_le_right _ (by omega)
            omega
          · exact h
        obtain ⟨p, r1, p1, p2, p3, p4, p5, p6, p7, p8⟩ := DivMod_ev a g ha g2 na g3 hg0 (by omega) (by omega)
        obtain ⟨q, r2, q1, q2, q3, q4, q5, q6, q7, q8⟩ := DivMod_ev b g hb g2 nb g3 hg0 (by omega) (by omega)
        have hp0 : p ≠ [] := by
          rintro rfl
          have h1 : 0 < val 4294967296 a := val_pos hB ha na h0
          have h2 : Nat.gcd (val 4294967296 a).toNat (val 4294967296 b).toNat ≤ (val 4294967296 a).toNat := Nat.gcd_le_left _ (by omega)
          have h3 : 0 < val 4294967296 g := val_pos hB g2 g3 hg0
          have h4 : val 4294967296 a / val 4294967296 g = 0 := by rw [← p6]; rfl
          have h5 : 1 ≤ val 4294967296 a / val 4294967296 g := Int.le_ediv_of_mul_le h3 (by rw [Int.one_mul]; omega)
          omega
        refine ⟨p, q, fun R K => ?_, p2, p3, q2, q3, by rw [p6, g4], by rw [q6, g4]⟩
        rw [show (neg && decide (p ≠ [])) = neg by simp [hp0]]
        unfold number_raw.c
        refine (if_neg hl).trans ((isone_c b _).trans ((if_pos (by simp [c])).trans ((nat_Gcd.eq g1 _).trans ((isone_c _ _).trans ((if_pos (by simp [c2])).trans ((nat_DivMod.eq p1 _).trans ((nat_DivMod.eq q1 _).trans ((clone_c p (by omega) _).trans (clone_c q (by omega) _)))))))))
theorem fits_c (neg : Bool) (p q : List Int) {R : Type} (K : ((Bool × List Int × List Int) × Int) → Option R) : number_fits.c R (neg, p, q) K = K (outM neg p q) := by
  unfold number_fits.c outM
  by_cases c1 : p.length > 128
  · rw [if_neg (by simp; omega), if_pos (Or.inl c1)]
  · by_cases c2 : q.length > 128
    · rw [if_pos (by simp; omega), if_pos (by simp; omega), if_pos (Or.inr c2)]
    · rw [if_pos (by simp; omega), if_neg (by simp; omega), if_neg (by omega)]
theorem made_c (neg : Bool) (a b : List Int) (ha : Lim 4294967296 a) (na : Nrm a) (hb : Lim 4294967296 b) (nb : Nrm b) (b0 : b ≠ []) (la : a.length ≤ 1048575) (lb : b.length ≤ 1048575) :
    ∃ neg' p q, (∀ (R : Type) (K : ((Bool × List Int × List Int) × Int) → Option R), number_made.c R (neg, a, b) K = K (outM neg' p q)) ∧ Rep neg' p q (sgn neg (val 4294967296 a)) (val 4294967296 b) := by
  obtain ⟨p, q, h1, p1, p2, q1, q2, p3, q3⟩ := raw_c neg a b ha na hb nb b0 la lb
  exact ⟨neg && decide (p ≠ []), p, q, fun R K => (h1 R _).trans (fits_c _ _ _ _), Rp.made (by decide) ha hb nb b0 p1 p2 q1 q2 rfl p3 q3⟩
theorem check_c (neg : Bool) (num den : List Int) (hn : Lim 4294967296 num) (hd : Lim 4294967296 den) {R : Type} (K : Int → Option R) : number_Check.c R (neg, num, den) K = K (fault neg num den) := number_Check.eq (Check_ev neg num den hn hd) K
theorem check2_c (na : Bool) (a da : List Int) (nb : Bool) (b db : List Int) (ha : Lim 4294967296 a) (hda : Lim 4294967296 da) (hb : Lim 4294967296 b) (hdb : Lim 4294967296 db) {R : Type} (K : Int → Option R) :
    number_check2.c R (na, a, da, nb, b, db) K = K (if fault na a da = 0 then fault nb b db else fault na a da) := by
  unfold number_check2.c
  refine (check_c na a da ha hda _).trans ?_
  by_cases h : fault na a da = 0
  · rw [if_pos h]
    refine (if_neg (by simp [h])).trans ((check_c nb b db hb hdb _).trans ?_)
    by_cases h2 : fault nb b db = 0
    · rw [h2]; rfl
    · exact if_pos (by simp [h2])
  · rw [if_neg h]
    exact if_pos (by simp [h])
def bad (e : Int) : (Bool × List Int × List Int) × Int := ((false, [], []), e)
theorem ok2 {na : Bool} {a da : List Int} {nb : Bool} {b db : List Int} (ca : Can na a da) (cb : Can nb b db) : (if fault na a da = 0 then fault nb b db else fault na a da) = 0 := by rw [fault_can ca, fault_can cb, if_pos rfl]
theorem check2_ok {na : Bool} {a da : List Int} {nb : Bool} {b db : List Int} (ha : Lim 4294967296 a) (hda : Lim 4294967296 da) (hb : Lim 4294967296 b) (hdb : Lim 4294967296 db) (ca : Can na a da) (cb : Can nb b db) {R : Type} (K : Int → Option R) : number_check2.c R (na, a, da, nb, b, db) K = K 0 := by
  rw [check2_c na a da nb b db ha hda hb hdb, ok2 ca cb]
theorem Div_c (na : Bool) (a da : List Int) (nb : Bool) (b db : List Int) (ha : Lim 4294967296 a) (hda : Lim 4294967296 da) (hb : Lim 4294967296 b) (hdb : Lim 4294967296 db) (ca : Can na a da) (cb : Can nb b db) (b0 : b ≠ []) :
    ∃ neg p q, (∀ (R : Type) (K : ((Bool × List Int × List Int) × Int) → Option R), number_Div.c R ((na, a, da), (nb, b, db)) K = K (outM neg p q)) ∧ Rep neg p q (sgn na (val 4294967296 a) * val 4294967296 db) (val 4294967296 da * sgn nb (val 4294967296 b)) ∧ val 4294967296 da * sgn nb (val 4294967296 b) ≠ 0 := by
  have l1 := ca.ln
  have l2 := ca.ld
  have l3 := cb.ln
  have l4 := cb.ld
  have pb := val_pos (by decide) hb cb.nn b0
  obtain ⟨x, x1, x2, x3, x4, x5⟩ := Mul_ev a db ha hdb (by omega)
  obtain ⟨d, d1, d2, d3, d4, d5⟩ := Mul_ev da b hda hb (by omega)
  have dp : 0 < val 4294967296 d := by rw [d4]; exact Int.mul_pos (ca.pos hda) pb
  have d0 : d ≠ [] := by rintro rfl; exact absurd dp (by decide)
  obtain ⟨neg', p, q, m1, m2⟩ := made_c (na != nb) x d x2 x3 d2 d3 d0 (by omega) (by omega)
  rw [x4, d4] at m2
  have m3 : Rep neg' p q (sgn na (val 4294967296 a) * val 4294967296 db) (val 4294967296 da * sgn nb (val 4294967296 b)) := by
    refine m2.turn (by rw [← d4]; omega) ?_
    unfold sgn
    generalize val 4294967296 a = x
    generalize val 4294967296 da = y
    generalize val 4294967296 b = z
    generalize val 4294967296 db = u
    cases na <;> cases nb <;> simp <;> grind
  have hD : val 4294967296 da * sgn nb (val 4294967296 b) ≠ 0 := by
    rw [d4] at dp
    unfold sgn
    cases nb with
    | true => rw [if_pos rfl, Int.mul_neg]; omega
    | false => rw [if_neg (by decide)]; omega
  exact ⟨neg', p, q, fun R K => (check2_ok ha hda hb hdb ca cb _).trans ((if_neg (by decide)).trans ((if_neg (by simpa using b0)).trans ((nat_Mul.eq x1 _).trans ((nat_Mul.eq d1 _).trans (m1 R _))))), m3, hD⟩
noncomputable def wrong2 (na : Bool) (a da : List Int) (nb : Bool) (b db : List Int) : Int := if fault na a da = 0 then (if fault nb b db = 0 then (if da = [1] then (if db = [1] then 0 else 7) else 7) else fault nb b db) else fault na a da
theorem int2_c (na : Bool) (a da : List Int) (nb : Bool) (b db : List Int) (ha : Lim 4294967296 a) (hda : Lim 4294967296 da) (hb : Lim 4294967296 b) (hdb : Lim 4294967296 db) {R : Type} (K : Int → Option R) :
    number_integers2.c R (na, a, da, nb, b, db) K = K (wrong2 na a da nb b db) := by
  unfold number_integers2.c wrong2
  refine (check2_c na a da nb b db ha hda hb hdb _).trans ?_
  by_cases h : fault na a da = 0
  · rw [if_pos h, if_pos h]
    by_cases h2 : fault nb b db = 0
    · rw [if_pos h2, h2]
      refine (if_neg (by decide)).trans ?_
      refine (isone_c da _).trans ?_
      by_cases c : da = [1]
      · rw [if_pos c]
        refine (if_neg (by simp [c])).trans ?_
        refine (isone_c db _).trans ?_
        by_cases d : db = [1]
        · rw [if_pos d]
          exact if_neg (by simp [d])
        · rw [if_neg d]
          exact if_pos (by simp [d])
      · rw [if_neg c]
        exact if_pos (by simp [c])
    · rw [if_neg h2]
      exact if_pos (by simp [h2])
  · rw [if_neg h, if_neg h]
    exact if_pos (by simp [h])
theorem wrong2_ok {na : Bool} {a da : List Int} {nb : Bool} {b db : List Int} (h : wrong2 na a da nb b db = 0) : Can na a da ∧ Can nb b db ∧ da = [1] ∧ db = [1] := by
  unfold wrong2 at h
  by_cases h1 : fault na a da = 0
  · rw [if_pos h1] at h
    by_cases h2 : fault nb b db = 0
    · rw [if_pos h2] at h
      by_cases c : da = [1]
      · rw [if_pos c] at h
        by_cases d : db = [1]
        · exact ⟨can_of_fault' h1, can_of_fault' h2, c, d⟩
        · rw [if_neg d] at h; omega
      · rw [if_neg c] at h; omega
    · rw [if_neg h2] at h; exact absurd h h2
  · rw [if_neg h1] at h; exact absurd h h1
theorem wrong2_can {na : Bool} {a : List Int} {nb : Bool} {b : List Int} (ca : Can na a [1]) (cb : Can nb b [1]) : wrong2 na a [1] nb b [1] = 0 := by
  unfold wrong2
  rw [if_pos (fault_can ca), if_pos (fault_can cb), if_pos rfl, if_pos rfl]
theorem one_rep : Lim 4294967296 [1] ∧ Nrm [1] ∧ val 4294967296 [1] = 1 := ⟨one_lim (by decide), one_nrm, val_one _⟩
theorem whole_c (neg : Bool) (n : List Int) (hn : Lim 4294967296 n) (nn : Nrm n) (ln : n.length ≤ 1048575) :
    ∃ neg' p q, (∀ (R : Type) (K : ((Bool × List Int × List Int) × Int) → Option R), number_whole.c R (neg, n) K = K (outM neg' p q)) ∧ Rep neg' p q (sgn neg (val 4294967296 n)) 1 := by
  obtain ⟨neg', p, q, h1, h2⟩ := made_c neg n [1] hn nn one_rep.1 one_rep.2.1 (by decide) ln (by decide)
  rw [one_rep.2.2] at h2
  exact ⟨neg', p, q, fun R K => h1 R _, h2⟩
theorem rep_int {neg : Bool} {n : List Int} (hn : Lim 4294967296 n) (nn : Nrm n) (h0 : n = [] → neg = false) : Rep neg n [1] (sgn neg (val 4294967296 n)) 1 :=
  ⟨hn, nn, one_rep.1, one_rep.2.1, by decide, by rw [one_rep.2.2]; exact Nat.gcd_one_right _, h0, by rw [one_rep.2.2]⟩
theorem outM_int {neg neg' : Bool} {n p q : List Int} {N : Int} (h : Rep neg' p q N 1) (hn : Lim 4294967296 n) (nn : Nrm n) (h0 : n = [] → neg = false) (hv : sgn neg (val 4294967296 n) = N) (l : n.length ≤ 128) : outM neg' p q = ((neg, n, [1]), 0) := by
  subst hv
  obtain ⟨rfl, rfl, rfl⟩ := h.unique (by decide) (rep_int hn nn h0) (by decide)
  unfold outM
  rw [if_neg]
  rintro (h | h)
  · omega
  · exact absurd h (by decide)
theorem FromInt_one {R : Type} (K : (Bool × List Int × List Int) → Option R) : number_FromInt.c R 1 K = K (false, [1], [1]) := by
  have hw : IntKind.u64.wrap 1 = 1 := by decide
  obtain ⟨r, r1, r2, r3, r4, r5⟩ := Of_ev 1 (by decide) (by decide)
  have hr : r = [1] := (eq_one (by decide) r2 r3).1 (by rw [r4])
  subst hr
  unfold number_FromInt.c
  rw [hw]
  refine (if_neg (by decide)).trans ?_
  refine (nat_Of.eq r1 _).trans ?_
  obtain ⟨p, q, h1, p1, p2, q1, q2, p3, q3⟩ := raw_c false [1] [1] one_rep.1 one_rep.2.1 one_rep.1 one_rep.2.1 (by decide) (by decide) (by decide)
  rw [one_rep.2.2] at p3 q3
  have ep : p = [1] := (eq_one (by decide) p1 p2).1 (by rw [p3]; rfl)
  have eq : q = [1] := (eq_one (by decide) q1 q2).1 (by rw [q3]; rfl)
  subst ep eq
  exact h1 R _
theorem Sign_c (neg : Bool) (num den : List Int) (hn : Lim 4294967296 num) (hd : Lim 4294967296 den) {R : Type} (K : Int × Int → Option R) : number_Sign.c R (neg, num, den) K = K (if fault neg num den = 0 then (if num = [] then 0 else if neg = true then -1 else 1) else 0, fault neg num den) := by
  unfold number_Sign.c
  refine (check_c neg num den hn hd _).trans ?_
  by_cases h : fault neg num den = 0
  · rw [if_pos h, h]
    refine (if_pos (by decide)).trans ?_
    by_cases c : num = []
    · rw [if_pos c]
      exact if_pos (by simp [c])
    · rw [if_neg c]
      refine (if_neg (by simp [c])).trans ?_
      cases neg with
      | true => rfl
      | false => rfl
  · rw [if_neg h]
    exact if_neg (by simp [h])
theorem Gcd_bad (na : Bool) (a da : List Int) (nb : Bool) (b db : List Int) (ha : Lim 4294967296 a) (hda : Lim 4294967296 da) (hb : Lim 4294967296 b) (hdb : Lim 4294967296 db) (h : wrong2 na a da nb b db ≠ 0) {R : Type} (K : ((Bool × List Int × List Int) × Int) → Option R) :
    number_Gcd.c R ((na, a, da), (nb, b, db)) K = K (bad (wrong2 na a da nb b db)) := by
  unfold number_Gcd.c
  refine (int2_c na a da nb b db ha hda hb hdb _).trans ?_
  exact if_pos (by simpa using h)
theorem Gcd_c {na : Bool} {a : List Int} {nb : Bool} {b : List Int} (ha : Lim 4294967296 a) (hb : Lim 4294967296 b) (ca : Can na a [1]) (cb : Can nb b [1]) :
    ∃ g, (∀ (R : Type) (K : ((Bool × List Int × List Int) × Int) → Option R), number_Gcd.c R ((na, a, [1]), (nb, b, [1])) K = K ((false, g, [1]), 0)) ∧ Lim 4294967296 g ∧ Nrm g ∧ g.length ≤ 128 ∧ val 4294967296 g = (Nat.gcd (val 4294967296 a).toNat (val 4294967296 b).toNat : Nat) := by
  have la := ca.ln
  have lb := cb.ln
  obtain ⟨g, g1, g2, g3, g4⟩ := Gcd_ev a b ha hb ca.nn cb.nn (by omega) (by omega)
  have lg : g.length ≤ 128 := by
    by_cases c : b = []
    · subst c
      rw [show val 4294967296 [] = 0 from rfl, show (0 : Int).toNat = 0 from rfl, Nat.gcd_zero_right, Int.toNat_of_nonneg (val_nonneg (by decide) ha)] at g4
      rw [val_inj (by decide) g2 ha g3 ca.nn g4]
      exact la
    · have h3 := val_pos (show (0 : Int) < 4294967296 by decide) hb cb.nn c
      have h2 : Nat.gcd (val 4294967296 a).toNat (val 4294967296 b).toNat ≤ (val 4294967296 b).toNat := Nat.gcd_le_right _ (by omega)
      have := len_of_le hb g2 g3 (by omega)
      omega
  obtain ⟨neg', p, q, w1, w2⟩ := whole_c false g g2 g3 (by omega)
  have e := outM_int w2 g2 g3 (fun _ => rfl) rfl lg
  refine ⟨g, fun R K => ?_, g2, g3, lg, g4⟩
  unfold number_Gcd.c
  refine (int2_c na a [1] nb b [1] ha one_rep.1 hb one_rep.1 _).trans ?_
  rw [wrong2_can ca cb]
  refine (if_neg (by decide)).trans ?_
  refine (nat_Gcd.eq g1 _).trans ?_
  refine (w1 R _).trans ?_
  rw [e]
theorem Div_exact {na : Bool} {a g : List Int} (ha : Lim 4294967296 a) (hg : Lim 4294967296 g) (ng : Nrm g) (lg : g.length ≤ 128) (g0 : g ≠ []) (ca : Can na a [1]) (d : (val 4294967296 g).toNat ∣ (val 4294967296 a).toNat) :
    ∃ x, (∀ (R : Type) (K : ((Bool × List Int × List Int) × Int) → Option R), number_Div.c R ((na, a, [1]), (false, g, [1])) K = K ((na, x, [1]), 0)) ∧ Lim 4294967296 x ∧ Can na x [1] ∧ (val 4294967296 x).toNat = (val 4294967296 a).toNat / (val 4294967296 g).toNat := by
  have la := ca.ln
  have pg := val_pos (show (0 : Int) < 4294967296 by decide) hg ng g0
  have pa := val_nonneg (show (0 : Int) < 4294967296 by decide) ha
  have cg : Can false g [1] := ⟨lg, by decide, ng, one_nrm, by decide, fun _ => rfl, by rw [one_rep.2.2]; exact Nat.gcd_one_right _⟩
  obtain ⟨neg, p, q, h1, h2, h3⟩ := Div_c na a [1] false g [1] ha one_rep.1 hg one_rep.1 ca cg g0
  obtain ⟨x, r, x1, x2, x3, x4, x5, x6, x7, x8⟩ := DivMod_ev a g ha hg ca.nn ng g0 (by omega) (by omega)
  have hx : val 4294967296 x * val 4294967296 g = val 4294967296 a := by
    rw [x6]
    refine Int.ediv_mul_cancel ?_
    have := Int.ofNat_dvd.2 d
    rwa [Int.toNat_of_nonneg pa, Int.toNat_of_nonneg (by omega)] at this
  have hx0 : x = [] → na = false := by
    rintro rfl
    refine ca.ng ((val_eq_zero (show (0 : Int) < 4294967296 by decide) ha ca.nn).1 ?_)
    rw [← hx, show val 4294967296 [] = 0 from rfl, Int.zero_mul]
  have h4 : Rep neg p q (sgn na (val 4294967296 x)) 1 := by
    refine h2.turn h3 ?_
    rw [one_rep.2.2, ← hx, show sgn false (val 4294967296 g) = val 4294967296 g from rfl, sgn_mul_r]
    grind
  have lx : x.length ≤ 128 := Nat.le_trans (len_of_le ha x2 x3 (by rw [x6]; exact Int.ediv_le_self _ pa)) la
  have e := outM_int h4 x2 x3 hx0 rfl lx
  refine ⟨x, fun R K => by rw [h1, e], x2, ⟨lx, by decide, x3, one_nrm, by decide, hx0, by rw [one_rep.2.2]; exact Nat.gcd_one_right _⟩, ?_⟩
  rw [x6]
  obtain ⟨A, hA⟩ := Int.eq_ofNat_of_zero_le pa
  obtain ⟨G, hG⟩ := Int.eq_ofNat_of_zero_le (show 0 ≤ val 4294967296 g by omega)
  rw [hA, hG, ← Int.natCast_ediv, Int.toNat_natCast, Int.toNat_natCast, Int.toNat_natCast]
end Go.Proofs.YtemnjgkicndmjaaGreatDoor.Q
namespace Go.Proofs.YtemnjgkicndmjaaGreatDoor.Q
open Go.RowKit Go.Proofs.YtemnjgkicndmjaaGreatDoorW.PrintWords Go.Proofs.YtemnjgkicndmjaaGreatDoorW.PrintLast Go.Proofs.YtemnjgkicndmjaaGreatDoorW.PrintMore
attribute [local go_sem] max2_int min2_int max_two min_two max_three min_three max_four min_four
set_option linter.unusedVariables false
set_option linter.unusedSimpArgs false
def rf_Made.f (k : Nat) (a0_0 : Bool) (l0_1 : List Int) (l0_2 : List Int) : Option (Bool × List Int × List Int × Int) := (rf_limbs.f k l0_1).bind fun t545 => ((rf_limbs.f k l0_2).bind fun t548 => (if (t545.length : Int) > 128 then (some (false, ([] : List Int), ([] : List Int), 3)) else (if (t548.length : Int) > 128 then (some (false, ([] : List Int), ([] : List Int), 3)) else (some (a0_0, t545, t548, 0)))))
theorem rf_Made.mono : ∀ a0 a1 a2 k, LeO (rf_Made.f k a0 a1 a2) (rf_Made.f (k + 1) a0 a1 a2) := by
 intro a0 a1 a2 k
 unfold rf_Made.f
 have m0 := @rf_limbs.mono
 exact zm
end Go.Proofs.YtemnjgkicndmjaaGreatDoor.Q
namespace Go.Proofs.YtemnjgkicndmjaaGreatDoor.Q
open Go.RowKit Go.Proofs.YtemnjgkicndmjaaGreatDoorW.PrintWords Go.Proofs.YtemnjgkicndmjaaGreatDoorW.PrintLast Go.Proofs.YtemnjgkicndmjaaGreatDoorW.PrintMore
set_option linter.unusedVariables false
theorem ofInt_64 (a : Nat) (ha : a < 18446744073709551616) : (BitVec.ofInt 64 (a : Int)).toNat = a := by
  rw [BitVec.ofInt_natCast, BitVec.toNat_ofNat]; exact Nat.mod_eq_of_lt (by omega)
theorem i64w (n : Int) (h0 : 0 ≤ n) (h1 : n < 9223372036854775808) : IntKind.i64.wrap n = n := by
  simp [IntKind.wrap, IntKind.bits, IntKind.signed]; omega
theorem i64_and (a b : Int) (h1 : 0 ≤ a) (h2 : a < 9223372036854775808) (h3 : 0 ≤ b) (h4 : b < 9223372036854775808) : Go.bits .and .i64 a b = ((a.toNat &&& b.toNat : Nat) : Int) := by
  obtain ⟨A, rfl⟩ := Int.eq_ofNat_of_zero_le h1
  obtain ⟨B, rfl⟩ := Int.eq_ofNat_of_zero_le h3
  have hx : A &&& B < 2 ^ 63 := Nat.and_lt_two_pow _ (by omega)
  show IntKind.i64.wrap ((BitVec.ofInt 64 (A : Int) &&& BitVec.ofInt 64 (B : Int)).toNat : Int) = _
  rw [BitVec.toNat_and, ofInt_64 A (by omega), ofInt_64 B (by omega), i64w _ (by omega) (by omega)]
  rfl
theorem i64_or (a b : Int) (h1 : 0 ≤ a) (h2 : a < 9223372036854775808) (h3 : 0 ≤ b) (h4 : b < 9223372036854775808) : Go.bits .or .i64 a b = ((a.toNat ||| b.toNat : Nat) : Int) := by
  obtain ⟨A, rfl⟩ := Int.eq_ofNat_of_zero_le h1
  obtain ⟨B, rfl⟩ := Int.eq_ofNat_of_zero_le h3
  have hx : A ||| B < 2 ^ 63 := Nat.or_lt_two_pow (by omega) (by omega)
  show IntKind.i64.wrap ((BitVec.ofInt 64 (A : Int) ||| BitVec.ofInt 64 (B : Int)).toNat : Int) = _
  rw [BitVec.toNat_or, ofInt_64 A (by omega), ofInt_64 B (by omega), i64w _ (by omega) (by omega)]
  rfl
theorem i64_and1 {x : Int} (h0 : 0 ≤ x) (h1 : x < 9223372036854775808) : Go.bits .and .i64 x 1 = x % 2 := by
  rw [i64_and _ _ h0 h1 (by omega) (by omega)]
  have : (1 : Int).toNat = 1 := rfl
  rw [this, Nat.and_one_is_mod]; omega
theorem rtrim_ev (xs : List Int) : xs.length ≤ 1099511627776 → Ev (fun k => rf_trim.f k xs) (trim xs) := by
  show xs.length ≤ 1099511627776 → Ev (fun k => rf_trim.l0 k xs) (trim xs)
  refine snoc_induction (P := fun xs => xs.length ≤ 1099511627776 → Ev (fun k => rf_trim.l0 k xs) (trim xs)) ?_ ?_ xs
  · intro _
    exact Ev.step (f := fun _ => some []) (fun k => by simp only [rf_trim.l0]; rfl) (Ev.now _)
  · intro xs x ih hl
    rw [List.length_append, List.length_singleton] at hl
    have h1 : ((xs ++ [x]).length : Int) > 0 := by rw [List.length_append, List.length_singleton]; omega
    have h2 : wrap64 (((xs ++ [x]).length : Int) - 1) = (xs.length : Int) := by rw [List.length_append, List.length_singleton, w64 (by omega) (by omega)]; omega
    have h3 : (xs.length : Int) < ((xs ++ [x]).length : Int) := by rw [List.length_append, List.length_singleton]; omega
    have h4 : rd (xs ++ [x]) (xs.length : Int) = x := by rw [rd_getD, List.getD_eq_getElem?_getD, List.getElem?_append_right (Nat.le_refl _)]; simp
    have h5 : (xs ++ [x]).take xs.length = xs := by rw [List.take_append_of_le_length (Nat.le_refl _), List.take_of_length_le (Nat.le_refl _)]
    have h0 : (0 : Int) ≤ (xs.length : Int) := by omega
    by_cases c : x = 0
    · subst c
      rw [trim_snoc_zero]
      refine Ev.step (f := fun k => rf_trim.l0 k xs) (fun k => ?_) (ih (by omega))
      simp only [rf_trim.l0]
      rw [if_pos h1, h2, if_pos h0, if_pos h3, h4, if_pos (by rfl), if_pos (Int.le_of_lt h3), Int.toNat_natCast, h5]
    · rw [trim_snoc _ c]
      refine Ev.step (f := fun _ => some (xs ++ [x])) (fun k => ?_) (Ev.now _)
      simp only [rf_trim.l0]
      rw [if_pos h1, h2, if_pos h0, if_pos h3, h4, if_neg c]
theorem rdigit (l : List Int) (i : Nat) : rf_digit.f l (i : Int) = some (l.getD i 0) := by
  unfold rf_digit.f
  by_cases h : i < l.length
  · rw [if_pos (by omega), if_pos (by omega), rd_getD]
  · rw [if_neg (by omega), List.getD_eq_getElem?_getD, List.getElem?_eq_none (by omega)]; rfl
theorem u32_pair {a b : Int} (ha0 : 0 ≤ a) (ha : a < 65536) (hb0 : 0 ≤ b) (hb : b < 65536) : Go.bits .or .u32 (a % 4294967296) ((b % 4294967296 * 65536) % 4294967296) = a + 65536 * b := by
  have e1 : a % 4294967296 = a := by omega
  have e2 : (b % 4294967296 * 65536) % 4294967296 = b * 65536 := by omega
  rw [e1, e2, u32_or _ _ ha0 (by omega) (by omega) (by omega), Nat.or_comm, nat_join 16 _ _ (by omega) (by omega)]
  omega
theorem nrm_of_val {B : Int} (hB : 0 < B) {xs : List Int} (h : Lim B xs) (hv : xs ≠ [] → B ^ (xs.length - 1) ≤ val B xs) : Nrm xs := by
  by_cases e : xs = []
  · rw [e]; exact nrm_nil
  · have h1 := hv e
    rw [← List.dropLast_concat_getLast e] at h h1 ⊢
    rw [nrm_snoc]
    intro h2
    have h3 := val_lt hB (lim_append.1 h).1
    rw [val_snoc, h2, Int.mul_zero, Int.add_zero, List.length_append, List.length_singleton, Nat.add_sub_cancel] at h1
    omega
theorem limbs_loop (x : List Int) (hx : Lim 65536 x) (hL : x.length ≤ 137438953472) : ∀ (d i : Nat) (out : List Int), x.length ≤ 2 * i + 2 * d → (0 < d → 2 * i + 2 * d < x.length + 2) → out.length = i → Lim 4294967296 out → val 4294967296 out = val 65536 (x.take (2 * i)) →
    ∃ r, Ev (fun k => rf_limbs.l0 k x out ((2 * i : Nat) : Int)) r ∧ r.length = i + d ∧ Lim 4294967296 r ∧ val 4294967296 r = val 65536 x := by
  have hB : (0 : Int) < 65536 := by decide
  intro d
  induction d with
  | zero =>
    intro i out h1 h2 hl ho hv
    refine ⟨out, Ev.step (f := fun _ => some out) (fun k => ?_) (Ev.now _), by omega, ho, by rw [hv, List.take_of_length_le (by omega)]⟩
    simp only [rf_limbs.l0]
    rw [if_neg (by omega)]
  | succ d ih =>
    intro i out h1 h2 hl ho hv
    have h2' := h2 (by omega)
    have g1 : ((2 * i : Nat) : Int) < (x.length : Int) := by omega
    have g2 : (0 : Int) ≤ ((2 * i : Nat) : Int) := by omega
    have g3 : out.length < 35184372088832 := by omega
    have g4 : x.length ≤ 2 * (i + 1) + 2 * d := by omega
    have g5 : 0 < d → 2 * (i + 1) + 2 * d < x.length + 2 := by omega
    have e1 : ∀ _ : Unit, wrap64 (((2 * i : Nat) : Int) + 1) = ((2 * i + 1 : Nat) : Int) := fun _ => by rw [w64 (by omega) (by omega)]; omega
    have e2 : ∀ _ : Unit, wrap64 (((2 * i : Nat) : Int) + 2) = ((2 * (i + 1) : Nat) : Int) := fun _ => by rw [w64 (by omega) (by omega)]; omega
    have ha := hx.getD hB (2 * i)
    have hb := hx.getD hB (2 * i + 1)
    have hv2 : val 65536 (x.take (2 * (i + 1))) = val 65536 (x.take (2 * i)) + 65536 ^ (2 * i) * (x.getD (2 * i) 0 + 65536 * x.getD (2 * i + 1) 0) := by
      have : 2 * (i + 1) = 2 * i + 1 + 1 := by omega
      rw [this, val_take_succ', val_take_succ', Int.pow_succ]
      generalize (65536 : Int) ^ (2 * i) = p
      grind
    obtain ⟨r, hr, r1, r2, r3⟩ := ih (i + 1) (out ++ [x.getD (2 * i) 0 + 65536 * x.getD (2 * i + 1) 0]) g4 g5 (by rw [List.length_append, List.length_singleton, hl]) (lim_nrm_snoc ho ⟨by omega, by omega⟩) (by
      rw [val_snoc, hv, hv2, hl, Int.pow_mul, show (65536 : Int) ^ 2 = 4294967296 from rfl])
    refine ⟨r, Ev.step (f := fun k => rf_limbs.l0 k x (out ++ [x.getD (2 * i) 0 + 65536 * x.getD (2 * i + 1) 0]) ((2 * (i + 1) : Nat) : Int)) (fun k => ?_) hr, by omega, r2, r3⟩
    simp only [rf_limbs.l0]
    rw [if_pos g1, if_pos g2, e1 (), rdigit, Option.bind_some, if_pos g3, rd_getD, u32_pair ha.1 ha.2 hb.1 hb.2, e2 ()]
theorem limbs_ev (x : List Int) (hx : Lim 65536 x) (nx : Nrm x) (hL : x.length ≤ 137438953472) :
    ∃ r, Ev (fun k => rf_limbs.f k x) r ∧ Lim 4294967296 r ∧ Nrm r ∧ val 4294967296 r = val 65536 x ∧ r.length = (x.length + 1) / 2 := by
  obtain ⟨r, h1, h2, h3, h4⟩ := limbs_loop x hx hL ((x.length + 1) / 2) 0 [] (by omega) (by omega) rfl (lim_nil _) (by simp [val])
  refine ⟨r, h1, h3, nrm_of_val (by decide) h3 (fun hr => ?_), h4, by omega⟩
  have hx0 : x ≠ [] := by
    rintro rfl
    exact hr (List.length_eq_zero_iff.1 (by rw [h2]; rfl))
  have h5 := val_ge (by decide) hx nx hx0
  have hl : x.length ≠ 0 := fun h' => hx0 (List.length_eq_zero_iff.1 h')
  have h6 : (4294967296 : Int) ^ (r.length - 1) = 65536 ^ (2 * (r.length - 1)) := by rw [Int.pow_mul]; rfl
  have h7 := pow_mono' (B := 65536) (by decide) (show 2 * (r.length - 1) ≤ x.length - 1 by omega)
  rw [h4, h6]
  omega
theorem rbit0 {l : List Int} (h : Lim 65536 l) : rf_bit.f l 0 = some (val 65536 l % 2) := by
  unfold rf_bit.f
  have e : wrap64 (Int.tdiv 0 16) = ((0 : Nat) : Int) := by decide +kernel
  have hx := h.getD (by decide) 0
  rw [e, rdigit, Option.bind_some, if_pos (by decide)]
  have e2 : shr .i64 (l.getD 0 0) (Int.tmod 0 16) = l.getD 0 0 := by
    unfold shr
    rw [show min (Int.tmod 0 16).toNat (IntKind.i64).bits = 0 by decide, Int.pow_zero, Int.ediv_one]
  rw [e2, i64_and1 hx.1 (by omega)]
  cases l with
  | nil => rfl
  | cons x xs => simp [val]; omega
theorem natOf_loop (xs : List Int) (hx : Lim 4294967296 xs) (hL : xs.length ≤ 137438953472) : ∀ (d i : Nat) (out : List Int), d + i = xs.length → out.length = 2 * i → Lim 65536 out → val 65536 out = val 4294967296 (xs.take i) →
    ∃ r, Ev (fun k => rf_natOf.l0 k out xs (xs.length : Int) (i : Int)) (trim r) ∧ r.length = 2 * xs.length ∧ Lim 65536 r ∧ val 65536 r = val 4294967296 xs := by
  have hB : (0 : Int) < 4294967296 := by decide
  intro d
  induction d with
  | zero =>
    intro i out hd hl ho hv
    refine ⟨out, Ev.step (f := fun k => (rf_trim.f k out).bind fun t => some t) (fun k => ?_) (Ev.bind (f := fun _ t => some t) (rtrim_ev out (by omega)) (Ev.now _)), by omega, ho, by rw [hv, List.take_of_length_le (by omega)]⟩
    simp only [rf_natOf.l0]
    rw [if_neg (by omega)]
  | succ d ih =>
    intro i out hd hl ho hv
    have g1 : (i : Int) < (xs.length : Int) := by omega
    have g2 : (0 : Int) ≤ (i : Int) := by omega
    have g3 : i < xs.length := by omega
    have g4 : ∀ z : List Int, z.length = 2 → out.length + z.length < 17592186044416 := fun z hz => by omega
    have g5 : d + (i + 1) = xs.length := by omega
    have g7 : ∀ _ : Unit, wrap64 ((i : Int) + 1) = ((i + 1 : Nat) : Int) := fun _ => by rw [w64 (by omega) (by omega)]; omega
    have hxi := hx.rd hB (i : Int)
    have hxg : rd xs (i : Int) = xs.getD i 0 := rd_getD xs i
    generalize rd xs (i : Int) = x at hxi hxg
    have e1 : wrap64 (Go.bits .and .u32 x 65535) = x % 65536 := by
      rw [u32_and _ _ hxi.1 hxi.2 (by omega) (by omega), show (65535 : Int).toNat = 2 ^ 16 - 1 from rfl, Nat.and_two_pow_sub_one_eq_mod, w64 (by omega) (by omega)]
      omega
    have e2 : wrap64 (x / 65536) = x / 65536 := w64 (by omega) (by omega)
    obtain ⟨r, hev, h⟩ := ih (i + 1) (out ++ [x % 65536, x / 65536]) g5 (by rw [List.length_append, hl]; simp; omega) (by
        have h1 := lim_nrm_snoc ho (x := x % 65536) ⟨by omega, by omega⟩
        have h2 := lim_nrm_snoc h1 (x := x / 65536) ⟨by omega, by omega⟩
        rw [List.append_assoc] at h2; exact h2) (by
        rw [val_append, hv, val_take_succ _ _ _ g3, ← hxg, hl, Int.pow_mul, show (65536 : Int) ^ 2 = 4294967296 from rfl]
        have h3 : val 65536 [x % 65536, x / 65536] = x := by simp [val]; omega
        rw [h3])
    refine ⟨r, Ev.step (f := fun k => rf_natOf.l0 k (out ++ [x % 65536, x / 65536]) xs (xs.length : Int) ((i + 1 : Nat) : Int)) (fun k => ?_) hev, h⟩
    simp only [rf_natOf.l0]
    rw [if_pos g1, if_pos g2, if_pos g1, rd_getD, ← hxg, e1, e2, Option.bind_some, if_pos (g4 _ rfl), g7 ()]
theorem natOf_ev (xs : List Int) (hx : Lim 4294967296 xs) (hL : xs.length ≤ 137438953472) :
    ∃ r, Ev (fun k => rf_natOf.f k xs) r ∧ Lim 65536 r ∧ Nrm r ∧ val 65536 r = val 4294967296 xs ∧ r.length ≤ 2 * xs.length := by
  obtain ⟨r, h1, h2, h3, h4⟩ := natOf_loop xs hx hL xs.length 0 [] (by omega) (by simp) (lim_nil _) (by simp [val])
  exact ⟨trim r, h1, lim_trim h3, nrm_trim _, by rw [val_trim, h4], by rw [← h2]; exact length_trim r⟩
theorem rcmp_loop (xs ys : List Int) (hx : Lim 65536 xs) (hy : Lim 65536 ys) (hLx : xs.length ≤ 1099511627776) (hLy : ys.length ≤ 1099511627776) : ∀ i : Nat, i ≤ 1099511627776 → val 65536 (xs.drop i) = val 65536 (ys.drop i) →
    Ev (fun k => rf_CmpNat.l0 k xs ys ((i : Int) - 1)) (cmpI (val 65536 xs) (val 65536 ys)) := by
  have hB : (0 : Int) < 65536 := by decide
  have hsp : ∀ (zs : List Int) (i : Nat), val 65536 zs = val 65536 (zs.take i) + 65536 ^ i * val 65536 (zs.drop i) := by
    intro zs i
    by_cases h : i ≤ zs.length
    · exact val_split _ zs i h
    · rw [List.take_of_length_le (by omega), List.drop_of_length_le (by omega)]; simp [val]
  have hdr : ∀ (zs : List Int) (i : Nat), val 65536 (zs.drop i) = zs.getD i 0 + 65536 * val 65536 (zs.drop (i + 1)) := by
    intro zs i
    by_cases h : i < zs.length
    · exact val_drop _ zs i h
    · rw [List.drop_of_length_le (by omega), List.drop_of_length_le (by omega), List.getD_eq_getElem?_getD, List.getElem?_eq_none (by omega)]; simp [val]
  have htk : ∀ (zs : List Int) (i : Nat), Lim 65536 zs → 0 ≤ val 65536 (zs.take i) ∧ val 65536 (zs.take i) < 65536 ^ i := by
    intro zs i hz
    refine ⟨val_nonneg hB (hz.take i), ?_⟩
    have h1 := val_lt hB (hz.take i)
    have h2 := pow_mono' hB (show (zs.take i).length ≤ i by rw [List.length_take]; omega)
    omega
  intro i
  induction i with
  | zero =>
    intro _ h
    rw [List.drop_zero, List.drop_zero] at h
    refine Ev.step (f := fun _ => some 0) (fun k => ?_) (Ev.eq (Ev.now _) ?_)
    · simp only [rf_CmpNat.l0]; rw [if_neg (by omega)]
    · rw [h]; unfold cmpI; rw [if_neg (by omega), if_neg (by omega)]
  | succ i ih =>
    intro hi h
    have e1 : (((i + 1 : Nat) : Int) - 1) = (i : Int) := by omega
    have e2 : ∀ _ : Unit, wrap64 ((i : Int) - 1) = (i : Int) - 1 := fun _ => w64 (by omega) (by omega)
    have g1 : (i : Int) ≥ 0 := by omega
    have hxi := hx.getD hB i
    have hyi := hy.getD hB i
    have dx := hdr xs i
    have dy := hdr ys i
    have sx := hsp xs i
    have sy := hsp ys i
    have tx := htk xs i hx
    have ty := htk ys i hy
    rw [h] at dx
    have hp : (0 : Int) < 65536 ^ i := Int.pow_pos (by decide)
    have key : ∀ a b : Int, a < b → ∀ s t : Int, 0 ≤ s → s < 65536 ^ i → 0 ≤ t → t < 65536 ^ i → s + 65536 ^ i * a < t + 65536 ^ i * b := by
      intro a b hab s t hs0 hs ht0 ht
      have : 65536 ^ i * (a + 1) ≤ 65536 ^ i * b := Int.mul_le_mul_of_nonneg_left (by omega) (by omega)
      rw [Int.mul_add, Int.mul_one] at this
      omega
    by_cases c1 : xs.getD i 0 < ys.getD i 0
    · refine Ev.step (f := fun _ => some (-1)) (fun k => ?_) (Ev.eq (Ev.now _) ?_)
      · simp only [rf_CmpNat.l0]
        rw [e1, if_pos g1, rdigit, rdigit, Option.bind_some, Option.bind_some, if_pos c1]
      · have := key (val 65536 (xs.drop i)) (val 65536 (ys.drop i)) (by omega) _ _ tx.1 tx.2 ty.1 ty.2
        unfold cmpI; rw [if_pos (by omega)]
    · by_cases c2 : xs.getD i 0 > ys.getD i 0
      · refine Ev.step (f := fun _ => some 1) (fun k => ?_) (Ev.eq (Ev.now _) ?_)
        · simp only [rf_CmpNat.l0]
          rw [e1, if_pos g1, rdigit, rdigit, Option.bind_some, Option.bind_some, if_neg c1, if_pos c2]
        · have := key (val 65536 (ys.drop i)) (val 65536 (xs.drop i)) (by omega) _ _ ty.1 ty.2 tx.1 tx.2
          unfold cmpI; rw [if_neg (by omega), if_pos (by omega)]
      · refine Ev.step (f := fun k => rf_CmpNat.l0 k xs ys ((i : Int) - 1)) (fun k => ?_) (ih (by omega) (by omega))
        simp only [rf_CmpNat.l0]
        rw [e1, if_pos g1, rdigit, rdigit, Option.bind_some, Option.bind_some, if_neg c1, if_neg c2, e2 ()]
theorem CmpNat_ev (xs ys : List Int) (hx : Lim 65536 xs) (hy : Lim 65536 ys) (hLx : xs.length ≤ 1099511627776) (hLy : ys.length ≤ 1099511627776) : Ev (fun k => rf_CmpNat.f k xs ys) (cmpI (val 65536 xs) (val 65536 ys)) := by
  have h := rcmp_loop xs ys hx hy hLx hLy (max xs.length ys.length) (by omega) (by rw [List.drop_of_length_le (by omega), List.drop_of_length_le (by omega)])
  refine Ev.congr (fun k => ?_) h
  unfold rf_CmpNat.f mx
  congr 1
  by_cases c : xs.length < ys.length
  · rw [if_pos (by omega), w64 (by omega) (by omega), Nat.max_eq_right (by omega)]
  · rw [if_neg (by omega), w64 (by omega) (by omega), Nat.max_eq_left (by omega)]
theorem rsub_loop (xs ys : List Int) (hx : Lim 65536 xs) (hy : Lim 65536 ys) (hge : val 65536 ys ≤ val 65536 xs) (hL : xs.length ≤ 1099511627776) : ∀ (d i : Nat) (out : List Int) (b : Int), d + i = xs.length → out.length = i → Lim 65536 out → 0 ≤ b → b ≤ 1 →
    val 65536 out - 65536 ^ i * b = val 65536 (xs.take i) - val 65536 (ys.take i) →
    ∃ r, Ev (fun k => rf_SubNat.l0 k xs ys out b (xs.length : Int) (i : Int)) (trim r) ∧ r.length = xs.length ∧ Lim 65536 r ∧ val 65536 r = val 65536 xs - val 65536 ys := by
  have hB : (0 : Int) < 65536 := by decide
  intro d
  induction d with
  | zero =>
    intro i out b hd hl ho hb0 hb hv
    refine ⟨out, Ev.step (f := fun k => (rf_trim.f k out).bind fun t => some t) (fun k => ?_) (Ev.bind (f := fun _ t => some t) (rtrim_ev out (by omega)) (Ev.now _)), by omega, ho, ?_⟩
    · simp only [rf_SubNat.l0]
      rw [if_neg (by omega)]
    · have h1 := val_lt hB hx
      have h2 := val_split' 65536 ys i
      have h3 := val_nonneg hB (hy.take i)
      have h4 := val_nonneg hB (hy.drop i)
      have h5 := val_lt hB ho
      have h6 := val_nonneg hB ho
      rw [List.take_of_length_le (by omega)] at hv
      rw [show xs.length = i by omega] at h1
      rw [hl] at h5
      have hp : (0 : Int) < 65536 ^ i := Int.pow_pos (by decide)
      generalize val 65536 (ys.drop i) = z at *
      have hz : z = 0 := by
        rcases Int.lt_or_le 0 z with h | h
        · have : 65536 ^ i * 1 ≤ 65536 ^ i * z := Int.mul_le_mul_of_nonneg_left (by omega) (by omega)
          omega
        · omega
      have hb1 : b = 0 := by
        rcases Int.lt_or_le 0 b with h | h
        · have e : b = 1 := by omega
          rw [e, Int.mul_one] at hv
          rw [hz, Int.mul_zero] at h2
          omega
        · omega
      rw [hb1, Int.mul_zero] at hv
      rw [hz, Int.mul_zero] at h2
      omega
  | succ d ih =>
    intro i out b hd hl ho hb0 hb hv
    have g1 : (i : Int) < (xs.length : Int) := by omega
    have g2 : (0 : Int) ≤ (i : Int) := by omega
    have g4 : out.length < 17592186044416 := by omega
    have g5 : d + (i + 1) = xs.length := by omega
    have g7 : ∀ _ : Unit, wrap64 ((i : Int) + 1) = ((i + 1 : Nat) : Int) := fun _ => by rw [w64 (by omega) (by omega)]; omega
    have hxi := hx.getD hB i
    have hyi := hy.getD hB i
    have tx := val_take_succ' 65536 xs i
    have ty := val_take_succ' 65536 ys i
    have hrd : rd xs (i : Int) = xs.getD i 0 := rd_getD xs i
    have hdg : rf_digit.f ys (i : Int) = some (ys.getD i 0) := rdigit ys i
    generalize xs.getD i 0 = x at *
    generalize ys.getD i 0 = y at *
    have e1 : ∀ _ : Unit, wrap64 (wrap64 (x - y) - b) = x - y - b := fun _ => by rw [w64 (x := x - y) (by omega) (by omega), w64 (by omega) (by omega)]
    have e2 : ∀ _ : Unit, wrap64 (x - y - b + 65536) = x - y - b + 65536 := fun _ => w64 (by omega) (by omega)
    by_cases c : x - y - b < 0
    · obtain ⟨r, hev, h⟩ := ih (i + 1) (out ++ [x - y - b + 65536]) 1 g5 (by rw [List.length_append, List.length_singleton, hl]) (lim_nrm_snoc ho ⟨by omega, by omega⟩) (by decide) (by decide) (by
        rw [val_snoc, hl, tx, ty, Int.pow_succ]
        grind)
      refine ⟨r, Ev.step (f := fun k => rf_SubNat.l0 k xs ys (out ++ [x - y - b + 65536]) 1 (xs.length : Int) ((i + 1 : Nat) : Int)) (fun k => ?_) hev, h⟩
      simp only [rf_SubNat.l0]
      rw [if_pos g1, if_pos g2, if_pos g1, hdg, Option.bind_some, hrd, e1 (), if_pos c, if_pos g4, e2 (), g7 ()]
    · obtain ⟨r, hev, h⟩ := ih (i + 1) (out ++ [x - y - b]) 0 g5 (by rw [List.length_append, List.length_singleton, hl]) (lim_nrm_snoc ho ⟨by omega, by omega⟩) (by decide) (by decide) (by
        rw [val_snoc, hl, tx, ty, Int.pow_succ]
        grind)
      refine ⟨r, Ev.step (f := fun k => rf_SubNat.l0 k xs ys (out ++ [x - y - b]) 0 (xs.length : Int) ((i + 1 : Nat) : Int)) (fun k => ?_) hev, h⟩
      simp only [rf_SubNat.l0]
      rw [if_pos g1, if_pos g2, if_pos g1, hdg, Option.bind_some, hrd, e1 (), if_neg c, if_pos g4, g7 ()]
theorem SubNat_ev (xs ys : List Int) (hx : Lim 65536 xs) (hy : Lim 65536 ys) (hge : val 65536 ys ≤ val 65536 xs) (hL : xs.length ≤ 1099511627776) :
    ∃ r, Ev (fun k => rf_SubNat.f k xs ys) r ∧ Lim 65536 r ∧ Nrm r ∧ val 65536 r = val 65536 xs - val 65536 ys ∧ r.length ≤ xs.length := by
  obtain ⟨r, h1, h2, h3, h4⟩ := rsub_loop xs ys hx hy hge hL xs.length 0 [] 0 (by omega) rfl (lim_nil _) (by decide) (by decide) (by simp [val])
  exact ⟨trim r, h1, lim_trim h3, nrm_trim _, by rw [val_trim, h4], by rw [← h2]; exact length_trim r⟩
theorem rhalf_loop (xs : List Int) (hx : Lim 65536 xs) (hL : xs.length ≤ 1099511627776) : ∀ (d i : Nat) (out : List Int), d + i = xs.length → out.length = xs.length → Lim 65536 out →
    val 65536 (out.take i) + 65536 ^ i * (val 65536 (xs.drop i) / 2) = val 65536 xs / 2 →
    ∃ r, Ev (fun k => rf_half.l0 k xs out (xs.length : Int) (i : Int)) (trim r) ∧ r.length = xs.length ∧ Lim 65536 r ∧ val 65536 r = val 65536 xs / 2 := by
  have hB : (0 : Int) < 65536 := by decide
  intro d
  induction d with
  | zero =>
    intro i out hd hl ho hv
    refine ⟨out, Ev.step (f := fun k => (rf_trim.f k out).bind fun t => some t) (fun k => ?_) (Ev.bind (f := fun _ t => some t) (rtrim_ev out (by omega)) (Ev.now _)), by omega, ho, ?_⟩
    · simp only [rf_half.l0]
      rw [if_neg (by omega)]
    · rw [List.take_of_length_le (by omega), List.drop_of_length_le (by omega)] at hv
      simp only [val, Int.zero_ediv, Int.mul_zero, Int.add_zero] at hv
      exact hv
  | succ d ih =>
    intro i out hd hl ho hv
    have g1 : (i : Int) < (xs.length : Int) := by omega
    have g2 : (0 : Int) ≤ (i : Int) := by omega
    have g3 : (i : Int) < (out.length : Int) := by omega
    have g4 : i < out.length := by omega
    have g5 : d + (i + 1) = xs.length := by omega
    have g7 : ∀ _ : Unit, wrap64 ((i : Int) + 1) = ((i + 1 : Nat) : Int) := fun _ => by rw [w64 (by omega) (by omega)]; omega
    have hxi := hx.getD hB i
    have hyi := hx.getD hB (i + 1)
    have d0 := val_drop' 65536 xs i
    have d1 := val_drop' 65536 xs (i + 1)
    have hrd : rd xs (i : Int) = xs.getD i 0 := rd_getD xs i
    have hsd := shr_digit (P := 2) (P' := 32768) (B := 65536) (D0 := xs.getD i 0) (D1 := xs.getD (i + 1) 0) (t := val 65536 (xs.drop (i + 1 + 1))) (by decide) (by decide) (by decide) hxi.1 hxi.2
    rw [← d1, ← d0] at hsd
    have hdg : xs.getD i 0 / 2 + xs.getD (i + 1) 0 % 2 * 32768 = ((xs.getD i 0 + 65536 * xs.getD (i + 1) 0) / 2) % 65536 := by
      generalize xs.getD i 0 = x at *
      generalize xs.getD (i + 1) 0 = y at *
      clear d0 d1 hsd hrd hv
      omega
    have hor : Go.bits .or .i64 (xs.getD i 0 / 2) (wrap64 (Go.bits .and .i64 (xs.getD (i + 1) 0) 1 * 32768)) = xs.getD i 0 / 2 + xs.getD (i + 1) 0 % 2 * 32768 := by
      generalize xs.getD i 0 = x at *
      generalize xs.getD (i + 1) 0 = y at *
      clear d0 d1 hsd hrd hv hdg
      rw [i64_and1 hyi.1 (by omega), w64 (by omega) (by omega), i64_or _ _ (by omega) (by omega) (by omega) (by omega), Nat.or_comm, nat_join 15]
      · omega
      · omega
      · omega
    have hlim : 0 ≤ xs.getD i 0 / 2 + xs.getD (i + 1) 0 % 2 * 32768 ∧ xs.getD i 0 / 2 + xs.getD (i + 1) 0 % 2 * 32768 < 65536 := by
      generalize xs.getD i 0 = x at *
      generalize xs.getD (i + 1) 0 = y at *
      clear d0 d1 hsd hrd hv hdg hor
      omega
    obtain ⟨r, hev, h⟩ := ih (i + 1) (out.set i (xs.getD i 0 / 2 + xs.getD (i + 1) 0 % 2 * 32768)) g5 (by rw [List.length_set, hl]) (ho.set _ hlim) (by
      rw [take_set_succ g4, val_snoc, List.length_take, Nat.min_eq_left (Nat.le_of_lt g4), hdg, ← hv, ← hsd, Int.pow_succ]
      grind)
    refine ⟨r, Ev.step (f := fun k => rf_half.l0 k xs (out.set i (xs.getD i 0 / 2 + xs.getD (i + 1) 0 % 2 * 32768)) (xs.length : Int) ((i + 1 : Nat) : Int)) (fun k => ?_) hev, h⟩
    simp only [rf_half.l0]
    rw [if_pos g1, if_pos g2, if_pos g1, g7 (), rdigit, Option.bind_some, if_pos g3, hrd, hor, Int.toNat_natCast]
theorem half_ev (xs : List Int) (hx : Lim 65536 xs) (hL : xs.length ≤ 1099511627776) :
    ∃ r, Ev (fun k => rf_half.f k xs) r ∧ Lim 65536 r ∧ Nrm r ∧ val 65536 r = val 65536 xs / 2 ∧ r.length ≤ xs.length := by
  obtain ⟨r, h1, h2, h3, h4⟩ := rhalf_loop xs hx hL xs.length 0 (List.replicate xs.length 0) (by omega) (by simp) (lim_replicate (by decide) _) (by simp [val])
  refine ⟨trim r, Ev.congr (fun k => ?_) h1, lim_trim h3, nrm_trim _, by rw [val_trim, h4], by rw [← h2]; exact length_trim r⟩
  unfold rf_half.f
  rw [if_pos (by omega), if_pos (by omega), Int.toNat_natCast]
  rfl
theorem rshl_loop (xs : List Int) (w b : Nat) (hx : Lim 65536 xs) (hb : b < 16) (hL : xs.length + w ≤ 549755813888) : ∀ (d i : Nat) (out : List Int) (c : Int), d + i = xs.length → out.length = w + i → Lim 65536 out → 0 ≤ c → c < 2 ^ b →
    val 65536 out + 65536 ^ (w + i) * c = 65536 ^ w * 2 ^ b * val 65536 (xs.take i) →
    ∃ r, Ev (fun k => rf_ShlNat.l0 k ((16 * w + b : Nat) : Int) out c xs (xs.length : Int) (i : Int)) (trim r) ∧ r.length = xs.length + w + 1 ∧ Lim 65536 r ∧ val 65536 r = 65536 ^ w * 2 ^ b * val 65536 xs := by
  have hB : (0 : Int) < 65536 := by decide
  have hp : (2 : Int) ^ b ≤ 32768 := by
    have := pow_mono' (B := 2) (by decide) (show b ≤ 15 by omega)
    exact this
  have hp0 : (0 : Int) < 2 ^ b := Int.pow_pos (by decide)
  have e1 : ∀ _ : Unit, Int.tmod ((16 * w + b : Nat) : Int) 16 = b := fun _ => by rw [Int.tmod_eq_emod_of_nonneg (by omega)]; omega
  intro d
  induction d with
  | zero =>
    intro i out c hd hl ho hc0 hc hv
    have hl2 : Lim 65536 (out ++ [c]) := lim_nrm_snoc ho ⟨hc0, by omega⟩
    refine ⟨out ++ [c], Ev.step (f := fun k => (rf_trim.f k (out ++ [c])).bind fun t => some t) (fun k => ?_) (Ev.bind (f := fun _ t => some t) (rtrim_ev (out ++ [c]) (by rw [List.length_append, List.length_singleton]; omega)) (Ev.now _)), by rw [List.length_append, List.length_singleton]; omega, hl2, ?_⟩
    · have g4 : out.length < 17592186044416 := by omega
      simp only [rf_ShlNat.l0]
      rw [if_neg (by omega), if_pos g4]
    · rw [val_snoc, hl, hv, List.take_of_length_le (by omega)]
  | succ d ih =>
    intro i out c hd hl ho hc0 hc hv
    have g1 : (i : Int) < (xs.length : Int) := by omega
    have g2 : (0 : Int) ≤ (i : Int) := by omega
    have g4 : out.length < 17592186044416 := by omega
    have g5 : d + (i + 1) = xs.length := by omega
    have g7 : ∀ _ : Unit, wrap64 ((i : Int) + 1) = ((i + 1 : Nat) : Int) := fun _ => by rw [w64 (by omega) (by omega)]; omega
    have g8 : (0 : Int) ≤ (b : Int) := by omega
    have hxi := hx.getD hB i
    have tx := val_take_succ' 65536 xs i
    have hrd : rd xs (i : Int) = xs.getD i 0 := rd_getD xs i
    generalize xs.getD i 0 = x at *
    have hx2 : 0 ≤ x * 2 ^ b := Int.mul_nonneg hxi.1 (by omega)
    have hx3 : x * 2 ^ b ≤ 65535 * 2 ^ b := Int.mul_le_mul_of_nonneg_right (by omega) (by omega)
    have hsh : shl .i64 x (b : Int) = x * 2 ^ b := by
      unfold shl
      rw [Int.toNat_natCast, Nat.min_eq_left (by simp [IntKind.bits]; omega), i64w _ hx2 (by omega)]
    have hor : Go.bits .or .i64 (x * 2 ^ b) c = x * 2 ^ b + c := by
      rw [i64_or _ _ hx2 (by omega) hc0 (by omega), nat_join b]
      · omega
      · have : (((x * 2 ^ b).toNat % 2 ^ b : Nat) : Int) = 0 := by
          rw [Int.natCast_emod, Int.toNat_of_nonneg hx2, Int.natCast_pow]
          exact Int.mul_emod_left _ _
        omega
      · have : ((c.toNat : Nat) : Int) < ((2 ^ b : Nat) : Int) := by
          rw [Int.toNat_of_nonneg hc0, Int.natCast_pow]; exact hc
        omega
    have hq : (x * 2 ^ b + c) / 65536 < 2 ^ b := Int.ediv_lt_of_lt_mul (by decide) (by omega)
    generalize hz : x * 2 ^ b + c = z at *
    have hz0 : 0 ≤ z := by omega
    have e3 : Int.tmod z 65536 = z % 65536 := Int.tmod_eq_emod_of_nonneg hz0
    have e4 : ∀ _ : Unit, wrap64 (Int.tdiv z 65536) = z / 65536 := fun _ => by rw [Int.tdiv_eq_ediv_of_nonneg hz0, w64 (by omega) (by omega)]
    have hz1 : 0 ≤ z / 65536 := by omega
    have hz2 : 0 ≤ z % 65536 ∧ z % 65536 < 65536 := by omega
    have hdm := Int.mul_ediv_add_emod z 65536
    generalize hzq : z / 65536 = q at *
    generalize hzr : z % 65536 = y at *
    obtain ⟨r, hev, h⟩ := ih (i + 1) (out ++ [y]) q g5 (by rw [List.length_append, List.length_singleton, hl, Nat.add_assoc]) (lim_nrm_snoc ho hz2) hz1 hq (by
      rw [val_snoc, hl, tx, ← Nat.add_assoc, Int.pow_succ]
      have e5 : (65536 : Int) ^ (w + i) = 65536 ^ w * 65536 ^ i := Int.pow_add _ _ _
      rw [e5] at hv ⊢
      clear hx3 hx2 hp hp0 hq hz0 hz1 hz2 hor hsh hrd
      grind)
    refine ⟨r, Ev.step (f := fun k => rf_ShlNat.l0 k ((16 * w + b : Nat) : Int) (out ++ [y]) q xs (xs.length : Int) ((i + 1 : Nat) : Int)) (fun k => ?_) hev, h⟩
    simp only [rf_ShlNat.l0]
    rw [if_pos g1, if_pos g2, if_pos g1, e1 (), if_pos g8, if_pos g4, hrd, hsh, hor, e3, e4 (), g7 ()]
theorem ShlNat_ev (xs : List Int) (n : Nat) (hx : Lim 65536 xs) (hL : xs.length + n / 16 ≤ 549755813888) :
    ∃ r, Ev (fun k => rf_ShlNat.f k xs (n : Int)) r ∧ Lim 65536 r ∧ Nrm r ∧ val 65536 r = val 65536 xs * 2 ^ n ∧ r.length ≤ xs.length + n / 16 + 1 := by
  have hB : (0 : Int) < 65536 := by decide
  by_cases hn : xs = []
  · subst hn
    exact ⟨[], Ev.const (by rfl), lim_nil _, nrm_nil, by simp [val], by simp⟩
  · obtain ⟨r, h1, h2, h3, h4⟩ := rshl_loop xs (n / 16) (n % 16) hx (by omega) hL xs.length 0 (List.replicate (n / 16) 0) 0 (by omega) (by simp) (lim_replicate hB _) (by decide) (Int.pow_pos (by decide))
      (by rw [val_replicate, List.take_zero]; simp [val])
    refine ⟨trim r, ?_, lim_trim h3, nrm_trim _, ?_, Nat.le_trans (length_trim _) (by omega)⟩
    · refine Ev.congr (fun k => ?_) h1
      unfold rf_ShlNat.f
      have hne : ¬ (xs.length : Int) = 0 := fun h => hn (List.length_eq_zero_iff.1 (by omega))
      have b1 : (0 : Int) ≤ ((n / 16 : Nat) : Int) := by omega
      have b2 : n / 16 ≤ 35184372088832 := by omega
      have en : 16 * (n / 16) + n % 16 = n := by omega
      have e : wrap64 (Int.tdiv (n : Int) 16) = ((n / 16 : Nat) : Int) := by
        rw [Int.tdiv_eq_ediv_of_nonneg (by omega), w64 (by omega) (by omega)]; omega
      rw [if_neg hne, e, if_pos b1, Int.toNat_natCast, if_pos b2, en]
      rfl
    · rw [val_trim, h4, show (65536 : Int) = 2 ^ 16 from rfl, ← Int.pow_mul, ← Int.pow_add, show 16 * (n / 16) + n % 16 = n by omega, Int.mul_comm]
theorem gcd_odd_half {a b : Nat} (h : Nat.gcd (2 * a) b % 2 = 1) : Nat.gcd (2 * a) b = Nat.gcd a b := by
  refine Nat.dvd_antisymm ?_ ?_
  · refine Nat.dvd_gcd ?_ (Nat.gcd_dvd_right _ _)
    have hc : Nat.Coprime (Nat.gcd (2 * a) b) 2 := by
      rw [Nat.coprime_comm]
      unfold Nat.Coprime
      rw [Nat.gcd_rec, h]
      decide
    exact hc.dvd_of_dvd_mul_left (Nat.gcd_dvd_left (2 * a) b)
  · exact Nat.dvd_gcd (Nat.dvd_trans (Nat.gcd_dvd_left a b) ⟨2, Nat.mul_comm 2 a⟩) (Nat.gcd_dvd_right a b)
structure GS (g N : Nat) (A B : List Int) (a b : Nat) : Prop where
  la : Lim 65536 A
  lb : Lim 65536 B
  na : Nrm A
  nb : Nrm B
  va : val 65536 A = a
  vb : val 65536 B = b
  sa : A.length ≤ N
  sb : B.length ≤ N
  gg : Nat.gcd a b = g
theorem gcdnat_loops (g N s : Nat) (hg : g % 2 = 1) (hN : N ≤ 4294967296) (hs : s ≤ 16 * N) : ∀ (m a b : Nat) (A B : List Int), a + b ≤ m → 0 < b → GS g N A B a b →
    (∃ r, Ev (fun k => rf_GcdNat.l1 k A B (s : Int)) r ∧ Lim 65536 r ∧ Nrm r ∧ val 65536 r = (g : Int) * 2 ^ s) ∧
    (0 < a → ∃ r, Ev (fun k => rf_GcdNat.l2 k A B (s : Int)) r ∧ Lim 65536 r ∧ Nrm r ∧ val 65536 r = (g : Int) * 2 ^ s) ∧
    (a % 2 = 1 → ∃ r, Ev (fun k => rf_GcdNat.l3 k A B (s : Int)) r ∧ Lim 65536 r ∧ Nrm r ∧ val 65536 r = (g : Int) * 2 ^ s) := by
  have hB : (0 : Int) < 65536 := by decide
  intro m
  induction m with
  | zero => intro a b A B hm hb0; omega
  | succ m ih =>
    intro a b A B hm hb0 H
    have h3 : a % 2 = 1 → ∃ r, Ev (fun k => rf_GcdNat.l3 k A B (s : Int)) r ∧ Lim 65536 r ∧ Nrm r ∧ val 65536 r = (g : Int) * 2 ^ s := by
      intro ha
      by_cases c : b % 2 = 0
      · obtain ⟨r, r1, r2, r3, r4, r5⟩ := half_ev B H.lb (by have := H.sb; omega)
        have hb2 : b = 2 * (b / 2) := by omega
        have hr4 : val 65536 r = ((b / 2 : Nat) : Int) := by rw [r4, H.vb]; omega
        have hgg : Nat.gcd a (b / 2) = g := by
          have h5 := H.gg
          rw [hb2, Nat.gcd_comm] at h5
          rw [Nat.gcd_comm, ← gcd_odd_half (by rw [h5]; exact hg), h5]
        obtain ⟨z, hz⟩ := (ih a (b / 2) A r (by omega) (by omega) ⟨H.la, r2, H.na, r3, H.va, hr4, H.sa, Nat.le_trans r5 H.sb, hgg⟩).2.2 ha
        refine ⟨z, Ev.step (f := fun k => (rf_half.f k B).bind fun t589 => rf_GcdNat.l3 k A t589 (s : Int)) (fun k => ?_) (Ev.bind (f := fun k t589 => rf_GcdNat.l3 k A t589 (s : Int)) r1 hz.1), hz.2⟩
        simp only [rf_GcdNat.l3]
        rw [rbit0 H.lb, Option.bind_some, H.vb, if_pos (by omega)]
      · have hbit : ∀ k, rf_GcdNat.l3 (k + 1) A B (s : Int) = ((rf_CmpNat.f k A B).bind fun t592 => (if t592 < 0 then ((rf_SubNat.f k B A).bind fun t593 => (rf_GcdNat.l1 k t593 A (s : Int))) else ((rf_SubNat.f k A B).bind fun t596 => (rf_GcdNat.l1 k t596 B (s : Int))))) := by
          intro k
          simp only [rf_GcdNat.l3]
          rw [rbit0 H.lb, Option.bind_some, H.vb, if_neg (by omega)]
        have hcmp := CmpNat_ev A B H.la H.lb (by have := H.sa; omega) (by have := H.sb; omega)
        rw [H.va, H.vb] at hcmp
        by_cases c2 : a < b
        · obtain ⟨r, r1, r2, r3, r4, r5⟩ := SubNat_ev B A H.lb H.la (by rw [H.va, H.vb]; omega) (by have := H.sb; omega)
          have hr4 : val 65536 r = ((b - a : Nat) : Int) := by rw [r4, H.va, H.vb]; omega
          have hgg : Nat.gcd (b - a) a = g := by
            rw [← H.gg, Nat.gcd_comm a b]
            exact Nat.gcd_sub_self_left (by omega)
          obtain ⟨z, hz⟩ := (ih (b - a) a r A (by omega) (by omega) ⟨r2, H.la, r3, H.na, hr4, H.va, Nat.le_trans r5 H.sb, H.sa, hgg⟩).1
          refine ⟨z, Ev.step hbit (Ev.bind (f := fun k t592 => (if t592 < 0 then ((rf_SubNat.f k B A).bind fun t593 => (rf_GcdNat.l1 k t593 A (s : Int))) else ((rf_SubNat.f k A B).bind fun t596 => (rf_GcdNat.l1 k t596 B (s : Int))))) hcmp ?_), hz.2⟩
          have e : cmpI (a : Int) (b : Int) = -1 := by unfold cmpI; rw [if_pos (by omega)]
          rw [e]
          exact Ev.congr (fun k => by rw [if_pos (by decide)]) (Ev.bind (f := fun k t593 => rf_GcdNat.l1 k t593 A (s : Int)) r1 hz.1)
        · obtain ⟨r, r1, r2, r3, r4, r5⟩ := SubNat_ev A B H.la H.lb (by rw [H.va, H.vb]; omega) (by have := H.sa; omega)
          have hr4 : val 65536 r = ((a - b : Nat) : Int) := by rw [r4, H.va, H.vb]; omega
          have hgg : Nat.gcd (a - b) b = g := by
            rw [← H.gg]
            exact Nat.gcd_sub_self_left (by omega)
          obtain ⟨z, hz⟩ := (ih (a - b) b r B (by omega) (by omega) ⟨r2, H.lb, r3, H.nb, hr4, H.vb, Nat.le_trans r5 H.sa, H.sb, hgg⟩).1
          refine ⟨z, Ev.step hbit (Ev.bind (f := fun k t592 => (if t592 < 0 then ((rf_SubNat.f k B A).bind fun t593 => (rf_GcdNat.l1 k t593 A (s : Int))) else ((rf_SubNat.f k A B).bind fun t596 => (rf_GcdNat.l1 k t596 B (s : Int))))) hcmp ?_), hz.2⟩
          have e : ¬ cmpI (a : Int) (b : Int) < 0 := by unfold cmpI; rw [if_neg (by omega)]; split <;> decide
          exact Ev.congr (fun k => by rw [if_neg e]) (Ev.bind (f := fun k t596 => rf_GcdNat.l1 k t596 B (s : Int)) r1 hz.1)
    have h2 : 0 < a → ∃ r, Ev (fun k => rf_GcdNat.l2 k A B (s : Int)) r ∧ Lim 65536 r ∧ Nrm r ∧ val 65536 r = (g : Int) * 2 ^ s := by
      intro ha0
      by_cases c : a % 2 = 0
      · obtain ⟨r, r1, r2, r3, r4, r5⟩ := half_ev A H.la (by have := H.sa; omega)
        have ha2 : a = 2 * (a / 2) := by omega
        have hr4 : val 65536 r = ((a / 2 : Nat) : Int) := by rw [r4, H.va]; omega
        have hgg : Nat.gcd (a / 2) b = g := by
          have h5 := H.gg
          rw [ha2] at h5
          rw [← gcd_odd_half (by rw [h5]; exact hg), h5]
        obtain ⟨z, hz⟩ := (ih (a / 2) b r B (by omega) hb0 ⟨r2, H.lb, r3, H.nb, hr4, H.vb, Nat.le_trans r5 H.sa, H.sb, hgg⟩).2.1 (by omega)
        refine ⟨z, Ev.step (f := fun k => (rf_half.f k A).bind fun t585 => rf_GcdNat.l2 k t585 B (s : Int)) (fun k => ?_) (Ev.bind (f := fun k t585 => rf_GcdNat.l2 k t585 B (s : Int)) r1 hz.1), hz.2⟩
        simp only [rf_GcdNat.l2]
        rw [rbit0 H.la, Option.bind_some, H.va, if_pos (by omega)]
      · obtain ⟨z, hz⟩ := h3 (by omega)
        refine ⟨z, Ev.step (f := fun k => rf_GcdNat.l3 k A B (s : Int)) (fun k => ?_) hz.1, hz.2⟩
        simp only [rf_GcdNat.l2]
        rw [rbit0 H.la, Option.bind_some, H.va, if_neg (by omega)]
    refine ⟨?_, h2, h3⟩
    by_cases c : a = 0
    · have hA : A = [] := (val_eq_zero hB H.la H.na).1 (by rw [H.va]; omega)
      have hbg : b = g := by
        have := H.gg
        rw [c, Nat.gcd_zero_left] at this
        exact this
      obtain ⟨r, r1, r2, r3, r4, r5⟩ := ShlNat_ev B s H.lb (by have := H.sb; omega)
      refine ⟨r, Ev.step (f := fun k => (rf_ShlNat.f k B (s : Int)).bind fun t => some t) (fun k => ?_) (Ev.bind (f := fun _ t => some t) r1 (Ev.now _)), r2, r3, by rw [r4, H.vb, hbg]⟩
      simp only [rf_GcdNat.l1]
      rw [hA, if_neg (by decide)]
    · obtain ⟨z, hz⟩ := h2 (by omega)
      have hA : A ≠ [] := by
        rintro rfl
        have h9 := H.va
        simp only [val] at h9
        clear ih h2 h3 hz
        exact c (by omega)
      have hAl : A.length ≠ 0 := fun h => hA (List.length_eq_zero_iff.1 h)
      refine ⟨z, Ev.step (f := fun k => rf_GcdNat.l2 k A B (s : Int)) (fun k => ?_) hz.1, hz.2⟩
      simp only [rf_GcdNat.l1]
      rw [if_pos (by omega)]
theorem gcdnat_l0 (N : Nat) (hN : N ≤ 4294967296) (G : Nat) : ∀ (m a b s : Nat) (A B : List Int), a + b ≤ m → 0 < a → 0 < b → GS (Nat.gcd a b) N A B a b → Nat.gcd a b * 2 ^ s = G → a * 2 ^ s < 2 ^ (16 * N) →
    ∃ r, Ev (fun k => rf_GcdNat.l0 k A B (s : Int)) r ∧ Lim 65536 r ∧ Nrm r ∧ val 65536 r = (G : Int) := by
  intro m
  induction m with
  | zero => intro a b s A B hm ha0; omega
  | succ m ih =>
    intro a b s A B hm ha0 hb0 H hG hs
    have hsN : s < 16 * N := by
      have h1 : 1 * 2 ^ s ≤ a * 2 ^ s := Nat.mul_le_mul_right _ (by omega)
      rw [Nat.one_mul] at h1
      exact (Nat.pow_lt_pow_iff_right (by omega : 1 < 2)).1 (Nat.lt_of_le_of_lt h1 hs)
    have hfin : Nat.gcd a b % 2 = 1 → ∃ r, Ev (fun k => rf_GcdNat.j1 k A B (s : Int) false) r ∧ Lim 65536 r ∧ Nrm r ∧ val 65536 r = (G : Int) := by
      intro hodd
      obtain ⟨r, r1, r2, r3, r4⟩ := (gcdnat_loops (Nat.gcd a b) N s hodd hN (by omega) (a + b) a b A B (Nat.le_refl _) hb0 H).1
      refine ⟨r, Ev.step (f := fun k => rf_GcdNat.l1 k A B (s : Int)) (fun k => ?_) r1, r2, r3, ?_⟩
      · simp only [rf_GcdNat.j1]
        rw [if_neg (by decide)]
      · rw [r4, ← hG, Int.natCast_mul, Int.natCast_pow]; rfl
    have hg2 : (a % 2 = 0 → b % 2 = 0 → False) → Nat.gcd a b % 2 = 1 := by
      intro h
      have h1 : ¬ 2 ∣ Nat.gcd a b := by
        intro hd
        exact h (Nat.mod_eq_zero_of_dvd (Nat.dvd_trans hd (Nat.gcd_dvd_left a b))) (Nat.mod_eq_zero_of_dvd (Nat.dvd_trans hd (Nat.gcd_dvd_right a b)))
      omega
    by_cases c : a % 2 = 0
    · by_cases c2 : b % 2 = 0
      · obtain ⟨r, r1, r2, r3, r4, r5⟩ := half_ev A H.la (by have := H.sa; omega)
        obtain ⟨t, t1, t2, t3, t4, t5⟩ := half_ev B H.lb (by have := H.sb; omega)
        have ha2 : a = 2 * (a / 2) := by omega
        have hb2 : b = 2 * (b / 2) := by omega
        have hr4 : val 65536 r = ((a / 2 : Nat) : Int) := by rw [r4, H.va]; omega
        have ht4 : val 65536 t = ((b / 2 : Nat) : Int) := by rw [t4, H.vb]; omega
        have hgg : Nat.gcd a b = 2 * Nat.gcd (a / 2) (b / 2) := by
          rw [← Nat.gcd_mul_left, ← ha2, ← hb2]
        obtain ⟨z, hz⟩ := ih (a / 2) (b / 2) (s + 1) r t (by omega) (by omega) (by omega) ⟨r2, t2, r3, t3, hr4, ht4, Nat.le_trans r5 H.sa, Nat.le_trans t5 H.sb, rfl⟩ (by
          rw [← hG, hgg, Nat.pow_succ]
          grind) (by
          rw [Nat.pow_succ]
          have : a / 2 * (2 ^ s * 2) = a * 2 ^ s := by
            conv => rhs; rw [ha2]
            grind
          omega)
        refine ⟨z, Ev.step (f := fun k => rf_GcdNat.j1 k A B (s : Int) true) (fun k => ?_) (Ev.step (f := fun k => (rf_half.f k A).bind fun t575 => (rf_half.f k B).bind fun t578 => rf_GcdNat.l0 k t575 t578 (((s + 1 : Nat)) : Int)) (fun k => ?_) (Ev.bind (f := fun k t575 => (rf_half.f k B).bind fun t578 => rf_GcdNat.l0 k t575 t578 (((s + 1 : Nat)) : Int)) r1 (Ev.bind (f := fun k t578 => rf_GcdNat.l0 k r t578 (((s + 1 : Nat)) : Int)) t1 hz.1))), hz.2⟩
        · simp only [rf_GcdNat.l0]
          rw [rbit0 H.la, Option.bind_some, H.va, if_pos (by omega), rbit0 H.lb, Option.bind_some, H.vb]
          have : ((b : Int) % 2 == 0) = true := by rw [beq_iff_eq]; omega
          rw [this]
        · have e : wrap64 ((s : Int) + 1) = ((s + 1 : Nat) : Int) := by rw [w64 (by omega) (by omega)]; omega
          simp only [rf_GcdNat.j1]
          rw [if_pos trivial, e]
      · obtain ⟨z, hz⟩ := hfin (hg2 (fun _ h => c2 h))
        refine ⟨z, Ev.step (f := fun k => rf_GcdNat.j1 k A B (s : Int) false) (fun k => ?_) hz.1, hz.2⟩
        simp only [rf_GcdNat.l0]
        rw [rbit0 H.la, Option.bind_some, H.va, if_pos (by omega), rbit0 H.lb, Option.bind_some, H.vb]
        have : ((b : Int) % 2 == 0) = false := by rw [beq_eq_false_iff_ne]; omega
        rw [this]
    · obtain ⟨z, hz⟩ := hfin (hg2 (fun h _ => c h))
      refine ⟨z, Ev.step (f := fun k => rf_GcdNat.j1 k A B (s : Int) false) (fun k => ?_) hz.1, hz.2⟩
      simp only [rf_GcdNat.l0]
      rw [rbit0 H.la, Option.bind_some, H.va, if_neg (by omega)]
theorem GcdNat_ev (A B : List Int) (hA : Lim 65536 A) (hB : Lim 65536 B) (nA : Nrm A) (nB : Nrm B) (sA : A.length ≤ 4294967296) (sB : B.length ≤ 4294967296) :
    ∃ r, Ev (fun k => rf_GcdNat.f k A B) r ∧ Lim 65536 r ∧ Nrm r ∧ val 65536 r = (Nat.gcd (val 65536 A).toNat (val 65536 B).toNat : Nat) := by
  have h0 : (0 : Int) < 65536 := by decide
  have a0 := val_nonneg h0 hA
  have b0 := val_nonneg h0 hB
  by_cases c : A = []
  · subst c
    refine ⟨B, Ev.congr (fun k => ?_) (Ev.now _), hB, nB, ?_⟩
    · unfold rf_GcdNat.f; rw [if_pos (by rfl)]
    · simp only [val, Int.toNat_zero, Nat.gcd_zero_left]; omega
  · by_cases c2 : B = []
    · subst c2
      refine ⟨A, Ev.congr (fun k => ?_) (Ev.now _), hA, nA, ?_⟩
      · have hl : A.length ≠ 0 := fun h => c (List.length_eq_zero_iff.1 h)
        unfold rf_GcdNat.f; rw [if_neg (by omega), if_pos (by rfl)]
      · simp only [val, Int.toNat_zero, Nat.gcd_zero_right]; omega
    · have a1 := val_pos h0 hA nA c
      have b1 := val_pos h0 hB nB c2
      have alt := val_lt h0 hA
      have hlA : A.length ≠ 0 := fun h => c (List.length_eq_zero_iff.1 h)
      have hlB : B.length ≠ 0 := fun h => c2 (List.length_eq_zero_iff.1 h)
      obtain ⟨r, r1, r2⟩ := gcdnat_l0 (max A.length B.length) (by omega) (Nat.gcd (val 65536 A).toNat (val 65536 B).toNat) ((val 65536 A).toNat + (val 65536 B).toNat) (val 65536 A).toNat (val 65536 B).toNat 0 A B (Nat.le_refl _) (by omega) (by omega)
        ⟨hA, hB, nA, nB, by omega, by omega, by omega, by omega, rfl⟩ (by rw [Nat.pow_zero, Nat.mul_one]) (by
          have h1 : (65536 : Int) ^ A.length ≤ 65536 ^ max A.length B.length := pow_mono' h0 (by omega)
          rw [Nat.pow_zero, Nat.mul_one, Nat.pow_mul]
          have h2 : (((2 ^ 16) ^ max A.length B.length : Nat) : Int) = (65536 : Int) ^ max A.length B.length := by rw [Int.natCast_pow]; rfl
          omega)
      refine ⟨r, Ev.congr (fun k => ?_) r1, r2⟩
      unfold rf_GcdNat.f
      rw [if_neg (by omega), if_neg (by omega)]
      rfl
theorem Fault_ev (neg : Bool) (num den : List Int) (hn : Lim 4294967296 num) (hd : Lim 4294967296 den) : Ev (fun k => rf_Fault.f k neg num den) (fault neg num den) := by
  have hB : (0 : Int) < 4294967296 := by decide
  by_cases s1 : num.length > 128
  · rw [fault_size (Or.inl s1)]
    refine Ev.congr (f := fun k => rf_Fault.j0 k true neg num den) (fun k => ?_) (Ev.step (f := fun _ => some 3) (fun k => ?_) (Ev.now _))
    · unfold rf_Fault.f; rw [if_pos (by omega)]
    · simp only [rf_Fault.j0]; rw [if_pos trivial]
  · by_cases s2 : den.length > 128
    · rw [fault_size (Or.inr s2)]
      refine Ev.congr (f := fun k => rf_Fault.j0 k true neg num den) (fun k => ?_) (Ev.step (f := fun _ => some 3) (fun k => ?_) (Ev.now _))
      · unfold rf_Fault.f; rw [if_neg (by omega), decide_eq_true (by omega)]
      · simp only [rf_Fault.j0]; rw [if_pos trivial]
    · have hj0 : ∀ r, Ev (fun k => rf_Fault.j0 k false neg num den) r → Ev (fun k => rf_Fault.f k neg num den) r := fun r h =>
        Ev.congr (fun k => by unfold rf_Fault.f; rw [if_neg (by omega), decide_eq_false (by omega)]) h
      have hbad : Ev (fun k => rf_Fault.j1 k true neg num den) 2 := Ev.step (f := fun _ => some 2) (fun k => by simp only [rf_Fault.j1]; rw [if_pos trivial]) (Ev.now _)
      by_cases c3 : den = []
      · rw [fault_bad (by omega) (by omega) (fun h => h.d0 c3)]
        refine hj0 _ (Ev.step (fun k => ?_) hbad)
        simp only [rf_Fault.j0]
        rw [if_neg (by decide), c3, if_pos (by rfl)]
      · have hdl : den.length ≠ 0 := fun h' => c3 (List.length_eq_zero_iff.1 h')
        by_cases c2 : Nrm den
        · have hs0 : ∀ k, rf_Fault.j0 (k + 1) false neg num den = (if (num.length : Int) > 0 then (if 0 ≤ (wrap64 ((num.length : Int) - 1)) then (if (wrap64 ((num.length : Int) - 1)) < (num.length : Int) then (rf_Fault.j1 k ((rd num (wrap64 ((num.length : Int) - 1))) == 0) neg num den) else (none)) else (none)) else (rf_Fault.j1 k false neg num den)) := by
            intro k
            simp only [rf_Fault.j0]
            rw [if_neg (by decide), if_neg (by omega), last_at c3 (by omega), if_pos (by omega), if_pos (by omega), rd_getD, if_neg ((nrm_last c3).1 c2)]
          by_cases c1 : Nrm num
          · have hs1 : ∀ k, rf_Fault.j0 (k + 1) false neg num den = rf_Fault.j1 k false neg num den := by
              intro k
              rw [hs0]
              by_cases c4 : num = []
              · rw [c4, if_neg (by decide)]
              · have hnl : num.length ≠ 0 := fun h' => c4 (List.length_eq_zero_iff.1 h')
                have hz : (num.getD (num.length - 1) 0 == 0) = false := by rw [beq_eq_false_iff_ne]; exact (nrm_last c4).1 c1
                rw [if_pos (by omega), last_at c4 (by omega), if_pos (by omega), if_pos (by omega), rd_getD, hz]
            refine hj0 _ (Ev.step hs1 ?_)
            obtain ⟨a, a1, a2, a3, a4, a5⟩ := natOf_ev num hn (by omega)
            obtain ⟨b, b1, b2, b3, b4, b5⟩ := natOf_ev den hd (by omega)
            have haz : a = [] ↔ num = [] := by rw [← val_eq_zero (by decide) a2 a3, a4, val_eq_zero hB hn c1]
            obtain ⟨g, g1, g2, g3, g4⟩ := GcdNat_ev a b a2 b2 a3 b3 (by omega) (by omega)
            rw [a4, b4] at g4
            have hdp := val_pos hB hd c2 c3
            have hgl : g.length ≤ b.length := by
              rcases Nat.lt_or_ge b.length g.length with h | h
              · have h5 := len_lt_val (B := 65536) (by decide) b2 g2 g3 h
                rw [g4, b4] at h5
                have h6 := Nat.gcd_le_right (val 4294967296 num).toNat (show 0 < (val 4294967296 den).toNat by omega)
                omega
              · exact h
            have hcg := CmpNat_ev g [1] g2 (one_lim (by decide)) (by omega) (by decide)
            rw [val_one, g4] at hcg
            have hcb := CmpNat_ev b [1] b2 (one_lim (by decide)) (by omega) (by decide)
            rw [val_one, b4] at hcb
            have hj2s : ∀ r : Int, (if cmpI ((Nat.gcd (val 4294967296 num).toNat (val 4294967296 den).toNat : Nat) : Int) 1 = 0 then (some 0 : Option Int) else some 2) = some r → Ev (fun k => rf_Fault.j2 k a b false) r := by
              intro r hr
              refine Ev.step (f := fun k => ((rf_GcdNat.f k a b).bind fun t612 => ((rf_CmpNat.f k t612 (([1] : List Int))).bind fun t618 => (if t618 = 0 then (some 0) else (some 2))))) (fun k => ?_) (Ev.bind (f := fun k t612 => ((rf_CmpNat.f k t612 (([1] : List Int))).bind fun t618 => (if t618 = 0 then (some 0) else (some 2)))) g1 (Ev.bind (f := fun _ t618 => (if t618 = 0 then (some 0) else (some 2))) hcg (Ev.const hr)))
              simp only [rf_Fault.j2]; rw [if_neg (by decide)]
            have hcz : cmpI ((Nat.gcd (val 4294967296 num).toNat (val 4294967296 den).toNat : Nat) : Int) 1 = 0 ↔ Nat.gcd (val 4294967296 num).toNat (val 4294967296 den).toNat = 1 := by
              unfold cmpI
              generalize Nat.gcd (val 4294967296 num).toNat (val 4294967296 den).toNat = z
              by_cases h2 : (z : Int) < 1
              · rw [if_pos h2]; omega
              · rw [if_neg h2]
                by_cases h3 : (z : Int) > 1
                · rw [if_pos h3]; omega
                · rw [if_neg h3]; omega
            have hj2a : Nat.gcd (val 4294967296 num).toNat (val 4294967296 den).toNat = 1 → Ev (fun k => rf_Fault.j2 k a b false) 0 := fun h => hj2s 0 (by rw [if_pos (hcz.2 h)])
            have hj2b : ¬ Nat.gcd (val 4294967296 num).toNat (val 4294967296 den).toNat = 1 → Ev (fun k => rf_Fault.j2 k a b false) 2 := fun h => hj2s 2 (by rw [if_neg (fun h' => h (hcz.1 h'))])
            have hj2t : Ev (fun k => rf_Fault.j2 k a b true) 2 := Ev.step (f := fun _ => some 2) (fun k => by simp only [rf_Fault.j2]; rw [if_pos trivial]) (Ev.now _)
            refine Ev.step (f := fun k => ((rf_natOf.f k num).bind fun t602 => ((rf_natOf.f k den).bind fun t605 => (if (t602.length : Int) = 0 then (if neg = true then (rf_Fault.j2 k t602 t605 true) else ((rf_CmpNat.f k t605 (([1] : List Int))).bind fun t611 => (rf_Fault.j2 k t602 t605 (t611 != 0)))) else (rf_Fault.j2 k t602 t605 false))))) (fun k => by simp only [rf_Fault.j1]; rw [if_neg (by decide)]) ?_
            refine Ev.bind (f := fun k t602 => ((rf_natOf.f k den).bind fun t605 => (if (List.length t602 : Int) = 0 then (if neg = true then (rf_Fault.j2 k t602 t605 true) else ((rf_CmpNat.f k t605 (([1] : List Int))).bind fun t611 => (rf_Fault.j2 k t602 t605 (t611 != 0)))) else (rf_Fault.j2 k t602 t605 false)))) a1 ?_
            refine Ev.bind (f := fun k t605 => (if (a.length : Int) = 0 then (if neg = true then (rf_Fault.j2 k a t605 true) else ((rf_CmpNat.f k t605 (([1] : List Int))).bind fun t611 => (rf_Fault.j2 k a t605 (t611 != 0)))) else (rf_Fault.j2 k a t605 false))) b1 ?_
            by_cases c4 : num = []
            · have ha0 : a = [] := haz.2 c4
              have hv0 : val 4294967296 num = 0 := by rw [c4]; rfl
              have hvd := val_nonneg hB hd
              have hl0 : (a.length : Int) = 0 := by rw [ha0]; rfl
              by_cases c5 : neg = true
              · rw [fault_bad (by omega) (by omega) (fun h => by have := h.ng c4; rw [c5] at this; cases this)]
                exact Ev.congr (fun k => by rw [if_pos hl0, if_pos c5]) hj2t
              · refine Ev.congr (fun k => by rw [if_pos hl0, if_neg c5]) (Ev.bind (f := fun k t611 => (rf_Fault.j2 k a b (t611 != 0))) hcb ?_)
                by_cases c6 : val 4294967296 den = 1
                · have hg1 : Nat.gcd (val 4294967296 num).toNat (val 4294967296 den).toNat = 1 := by rw [hv0, c6]; rfl
                  rw [fault_can ⟨by omega, by omega, c1, c2, c3, fun _ => by cases neg <;> simp_all, hg1⟩]
                  have e : (cmpI (val 4294967296 den) 1 != 0) = false := by rw [c6]; rfl
                  rw [e]
                  exact hj2a hg1
                · rw [fault_bad (by omega) (by omega) (fun h => c6 (by have := h.gc; rw [hv0, Int.toNat_zero, Nat.gcd_zero_left] at this; omega))]
                  have e : (cmpI (val 4294967296 den) 1 != 0) = true := by
                    unfold cmpI
                    by_cases h2 : val 4294967296 den < 1
                    · rw [if_pos h2]; rfl
                    · rw [if_neg h2, if_pos (by omega)]; rfl
                  rw [e]
                  exact hj2t
            · have ha0 : a ≠ [] := fun h => c4 (haz.1 h)
              have hl0 : ¬ (a.length : Int) = 0 := fun h => ha0 (List.length_eq_zero_iff.1 (by omega))
              refine Ev.congr (f := fun k => rf_Fault.j2 k a b false) (fun k => by rw [if_neg hl0]) ?_
              by_cases c6 : Nat.gcd (val 4294967296 num).toNat (val 4294967296 den).toNat = 1
              · rw [fault_can ⟨by omega, by omega, c1, c2, c3, fun h => absurd h c4, c6⟩]
                exact hj2a c6
              · rw [fault_bad (by omega) (by omega) (fun h => c6 h.gc)]
                exact hj2b c6
          · rw [fault_bad (by omega) (by omega) (fun h => c1 h.nn)]
            refine hj0 _ (Ev.step (fun k => ?_) hbad)
            rw [hs0]
            have c4 : num ≠ [] := fun h => c1 (by rw [h]; exact nrm_nil)
            have hnl : num.length ≠ 0 := fun h' => c4 (List.length_eq_zero_iff.1 h')
            have hz : (num.getD (num.length - 1) 0 == 0) = true := by
              rw [beq_iff_eq]; exact Decidable.not_not.1 (fun h => c1 ((nrm_last c4).2 h))
            rw [if_pos (by omega), last_at c4 (by omega), if_pos (by omega), if_pos (by omega), rd_getD, hz]
        · rw [fault_bad (by omega) (by omega) (fun h => c2 h.nd)]
          refine hj0 _ (Ev.step (fun k => ?_) hbad)
          simp only [rf_Fault.j0]
          rw [if_neg (by decide), if_neg (by omega), last_at c3 (by omega), if_pos (by omega), if_pos (by omega), rd_getD, if_pos (Decidable.not_not.1 (fun h => c2 ((nrm_last c3).2 h)))]
end Go.Proofs.YtemnjgkicndmjaaGreatDoor.Q

namespace Go.Proofs.YtemnjgkicndmjaaGreatDoor.Q
open Go.RowKit Go.Proofs.YtemnjgkicndmjaaGreatDoorW.PrintWords Go.Proofs.YtemnjgkicndmjaaGreatDoorW.PrintLast Go.Proofs.YtemnjgkicndmjaaGreatDoorW.PrintMore
attribute [local go_sem] max2_int min2_int max_two min_two max_three min_three max_four min_four
set_option linter.unusedVariables false
set_option linter.unusedSimpArgs false
def rf_reduce.f (k : Nat) (a0 : Bool) (l1 : List Int) (l2 : List Int) : Option (Bool × List Int × List Int) := (rf_GcdNat.f k l1 l2).bind fun t599 => ((rf_CmpNat.f k t599 (([1] : List Int))).bind fun t605 => (if t605 = 0 then (if a0 = true then (if (l1.length : Int) > 0 then (some (true, l1, l2)) else (some (false, l1, l2))) else (some (false, l1, l2))) else ((rf_DivNat.f k l1 t599).bind fun bt606 => ((rf_DivNat.f k l2 t599).bind fun bt612 => (if a0 = true then (if (bt606.1.length : Int) > 0 then (some (true, bt606.1, bt612.1)) else (some (false, bt606.1, bt612.1))) else (some (false, bt606.1, bt612.1)))))))
theorem rf_reduce.mono : ∀ a0 a1 a2 k, LeO (rf_reduce.f k a0 a1 a2) (rf_reduce.f (k + 1) a0 a1 a2) := by
 intro a0 a1 a2 k
 unfold rf_reduce.f
 have m0 := @rf_CmpNat.mono
 have m1 := @rf_DivNat.mono
 have m2 := @rf_GcdNat.mono
 exact zm
end Go.Proofs.YtemnjgkicndmjaaGreatDoor.Q
namespace Go.Proofs.YtemnjgkicndmjaaGreatDoor.Q
open Go.RowKit Go.Proofs.YtemnjgkicndmjaaGreatDoorW.PrintWords Go.Proofs.YtemnjgkicndmjaaGreatDoorW.PrintLast Go.Proofs.YtemnjgkicndmjaaGreatDoorW.PrintMore
set_option linter.unusedVariables false
end Go.Proofs.YtemnjgkicndmjaaGreatDoor.Q
namespace Go.Proofs.YtemnjgkicndmjaaGreatDoor.Q
open Go.RowKit Go.Proofs.YtemnjgkicndmjaaGreatDoor.E Go.Proofs.YtemnjgkicndmjaaGreatDoorW.PrintWords Go.Proofs.YtemnjgkicndmjaaGreatDoorW.PrintLast Go.Proofs.YtemnjgkicndmjaaGreatDoorW.PrintMore
set_option linter.unusedVariables false
abbrev RR := Rp 65536
theorem Made_c {neg : Bool} {p q : List Int} {N D : Int} (h : RR neg p q N D) (lp : p.length ≤ 137438953472) (lq : q.length ≤ 137438953472) :
    ∃ p' q', (∀ (R : Type) (K : ((Bool × List Int × List Int) × Int) → Option R), rf_Made.c R (neg, p, q) K = K (outM neg p' q')) ∧ Rep neg p' q' N D := by
  obtain ⟨x, x1, x2, x3, x4, x5⟩ := limbs_ev p h.lp h.np lp
  obtain ⟨y, y1, y2, y3, y4, y5⟩ := limbs_ev q h.lq h.nq lq
  refine ⟨x, y, fun R K => (rf_limbs.eq x1 _).trans ((rf_limbs.eq y1 _).trans ?_), x2, x3, y2, y3, ?_, by rw [x4, y4]; exact h.gc, ?_, by rw [x4, y4]; exact h.eq⟩
  · unfold outM
    by_cases c1 : x.length > 128
    · rw [if_neg (by simp; omega), if_pos (Or.inl c1)]
    · by_cases c2 : y.length > 128
      · rw [if_pos (by simp; omega), if_pos (by simp; omega), if_pos (Or.inr c2)]
      · rw [if_pos (by simp; omega), if_neg (by simp; omega), if_neg (by omega)]
  · rintro rfl
    have h1 := h.pos (by decide)
    rw [← y4] at h1
    exact absurd h1 (by decide)
  · rintro rfl
    refine h.ng ((val_eq_zero (by decide) h.lp h.np).1 ?_)
    rw [← x4]; rfl
theorem Fault_c (neg : Bool) (num den : List Int) (hn : Lim 4294967296 num) (hd : Lim 4294967296 den) {R : Type} (K : Int → Option R) : rf_Fault.c R (neg, num, den) K = K (fault neg num den) := rf_Fault.eq (Fault_ev neg num den hn hd) K
theorem Of_c {neg : Bool} {num den : List Int} (hn : Lim 4294967296 num) (hd : Lim 4294967296 den) (h : Can neg num den) :
    ∃ p q, (∀ (R : Type) (K : (Bool × List Int × List Int) → Option R), rf_Of.c R (neg, num, den) K = K (neg, p, q)) ∧ RR neg p q (sgn neg (val 4294967296 num)) (val 4294967296 den) ∧ val 65536 p = val 4294967296 num ∧ val 65536 q = val 4294967296 den ∧ p.length ≤ 256 ∧ q.length ≤ 256 ∧ (p = [] ↔ num = []) := by
  have l1 := h.ln
  have l2 := h.ld
  obtain ⟨p, p1, p2, p3, p4, p5⟩ := natOf_ev num hn (by omega)
  obtain ⟨q, q1, q2, q3, q4, q5⟩ := natOf_ev den hd (by omega)
  have hz : p = [] ↔ num = [] := by rw [← val_eq_zero (by decide) p2 p3, ← val_eq_zero (by decide) hn h.nn, p4]
  refine ⟨p, q, fun R K => (rf_natOf.eq p1 _).trans (rf_natOf.eq q1 _), ⟨p2, p3, q2, q3, ?_, by rw [p4, q4]; exact h.gc, fun h0 => h.ng (hz.1 h0), by rw [p4, q4]⟩, p4, q4, by omega, by omega, hz⟩
  rintro rfl
  have := h.pos hd
  rw [← q4] at this
  exact absurd this (by decide)
abbrev Nm := Bool × List Int × List Int
theorem ROne : Lim 65536 [1] ∧ Nrm [1] ∧ val 65536 [1] = 1 := ⟨one_lim (by decide), one_nrm, val_one _⟩
theorem IsInt_c {neg : Bool} {p q : List Int} (hq : Lim 65536 q) (nq : Nrm q) (lq : q.length ≤ 1000000) {R : Type} (K : Bool → Option R) : rf_IsInt.c R (neg, p, q) K = K (decide (q = [1])) := by
  have hc := CmpNat_ev q [1] hq ROne.1 (by omega) (by decide)
  rw [ROne.2.2] at hc
  refine (rf_CmpNat.eq hc _).trans ?_
  have e := eq_one (show (1 : Int) < 65536 by decide) hq nq
  have e2 : (cmpI (val 65536 q) 1 == 0) = decide (q = [1]) := by
    by_cases c : q = [1]
    · rw [e.2 c, decide_eq_true c]; rfl
    · have : val 65536 q ≠ 1 := fun h => c (e.1 h)
      rw [decide_eq_false c]
      have h2 : cmpI (val 65536 q) 1 ≠ 0 := fun h => this (cmpI_eq.1 h)
      simpa using h2
  rw [e2]
noncomputable def RInts (R : Type) (x y : Nm) (K : (Nm × Int) → Option R) (L : Nm → Nm → Option R) : Option R :=
  rf_Fault.c R (x.1, x.2.1, x.2.2) fun t1 => (if (t1 != (0 : Int)) = true then K ((false, ([] : List Int), ([] : List Int)), t1) else (rf_Fault.c R (y.1, y.2.1, y.2.2) fun t2 => (if (t2 != (0 : Int)) = true then K ((false, ([] : List Int), ([] : List Int)), t2) else (rf_Of.c R (x.1, x.2.1, x.2.2) fun t3 => (rf_Of.c R (y.1, y.2.1, y.2.2) fun t4 => (rf_IsInt.c R (t3.1, t3.2.1, t3.2.2) fun t5 => (if (!t5) = false then (rf_IsInt.c R (t4.1, t4.2.1, t4.2.2) fun t6 => (if (!t6) = false then L t3 t4 else K ((false, ([] : List Int), ([] : List Int)), (7 : Int)))) else K ((false, ([] : List Int), ([] : List Int)), (7 : Int)))))))))
theorem RInts_bad (na : Bool) (a da : List Int) (nb : Bool) (b db : List Int) (ha : Lim 4294967296 a) (hda : Lim 4294967296 da) (hb : Lim 4294967296 b) (hdb : Lim 4294967296 db) (h : wrong2 na a da nb b db ≠ 0) {R : Type} (K : (Nm × Int) → Option R) (L : Nm → Nm → Option R) :
    RInts R (na, a, da) (nb, b, db) K L = K (bad (wrong2 na a da nb b db)) := by
  unfold RInts
  refine (Fault_c na a da ha hda _).trans ?_
  unfold wrong2 at h ⊢
  by_cases h1 : fault na a da = 0
  · rw [if_pos h1] at h ⊢
    refine (if_neg (by simp [h1])).trans ?_
    refine (Fault_c nb b db hb hdb _).trans ?_
    by_cases h2 : fault nb b db = 0
    · rw [if_pos h2] at h ⊢
      refine (if_neg (by simp [h2])).trans ?_
      have ca := can_of_fault' h1
      have cb := can_of_fault' h2
      obtain ⟨x, u, x1, x2, x3, x4, x5, x6, x7⟩ := Of_c ha hda ca
      obtain ⟨y, v, y1, y2, y3, y4, y5, y6, y7⟩ := Of_c hb hdb cb
      have hu : u = [1] ↔ da = [1] := by rw [← eq_one (show (1 : Int) < 65536 by decide) x2.lq x2.nq, ← eq_one (show (1 : Int) < 4294967296 by decide) hda ca.nd, x4]
      have hv : v = [1] ↔ db = [1] := by rw [← eq_one (show (1 : Int) < 65536 by decide) y2.lq y2.nq, ← eq_one (show (1 : Int) < 4294967296 by decide) hdb cb.nd, y4]
      refine (x1 R _).trans ?_
      refine (y1 R _).trans ?_
      refine (IsInt_c x2.lq x2.nq (by omega) _).trans ?_
      by_cases c : da = [1]
      · rw [if_pos c] at h ⊢
        refine (if_pos (by simp [hu.2 c])).trans ?_
        refine (IsInt_c y2.lq y2.nq (by omega) _).trans ?_
        by_cases d : db = [1]
        · rw [if_pos d] at h; exact absurd rfl h
        · rw [if_neg d]
          exact if_neg (by simp [hv, d])
      · rw [if_neg c]
        exact if_neg (by simp [hu, c])
    · rw [if_neg h2]
      exact if_pos (by simp [h2])
  · rw [if_neg h1]
    exact if_pos (by simp [h1])
theorem RInts_ok {na : Bool} {a : List Int} {nb : Bool} {b : List Int} (ha : Lim 4294967296 a) (hb : Lim 4294967296 b) (ca : Can na a [1]) (cb : Can nb b [1]) :
    ∃ x y, (∀ (R : Type) (K : (Nm × Int) → Option R) (L : Nm → Nm → Option R), RInts R (na, a, [1]) (nb, b, [1]) K L = L (na, x, [1]) (nb, y, [1])) ∧ Lim 65536 x ∧ Nrm x ∧ Lim 65536 y ∧ Nrm y ∧ val 65536 x = val 4294967296 a ∧ val 65536 y = val 4294967296 b ∧ x.length ≤ 256 ∧ y.length ≤ 256 ∧ (x = [] ↔ a = []) ∧ (y = [] ↔ b = []) := by
  obtain ⟨x, u, x1, x2, x3, x4, x5, x6, x7⟩ := Of_c ha one_rep.1 ca
  obtain ⟨y, v, y1, y2, y3, y4, y5, y6, y7⟩ := Of_c hb one_rep.1 cb
  rw [one_rep.2.2] at x4 y4
  have hu : u = [1] := (eq_one (show (1 : Int) < 65536 by decide) x2.lq x2.nq).1 x4
  have hv : v = [1] := (eq_one (show (1 : Int) < 65536 by decide) y2.lq y2.nq).1 y4
  subst hu hv
  refine ⟨x, y, fun R K L => ?_, x2.lp, x2.np, y2.lp, y2.np, x3, y3, x5, y5, x7, y7⟩
  unfold RInts
  refine (Fault_c na a [1] ha one_rep.1 _).trans ?_
  rw [fault_can ca]
  refine (if_neg (by decide)).trans ?_
  refine (Fault_c nb b [1] hb one_rep.1 _).trans ?_
  rw [fault_can cb]
  refine (if_neg (by decide)).trans ?_
  refine (x1 R _).trans ?_
  refine (y1 R _).trans ?_
  refine (IsInt_c x2.lq x2.nq (by omega) _).trans ?_
  refine (if_pos (by simp)).trans ?_
  refine (IsInt_c y2.lq y2.nq (by omega) _).trans ?_
  exact if_pos (by simp)
theorem rr_int {neg : Bool} {n : List Int} (hn : Lim 65536 n) (nn : Nrm n) (h0 : n = [] → neg = false) : RR neg n [1] (sgn neg (val 65536 n)) 1 :=
  ⟨hn, nn, ROne.1, ROne.2.1, by decide, by rw [ROne.2.2]; exact Nat.gcd_one_right _, h0, by rw [ROne.2.2]⟩
theorem TwoG_eq {R : Type} (x y : Nm) (K : (Nm × Int) → Option R) : rf_TwoG.c R (103, x, y) K = RInts R x y K fun t3 t4 => (rf_GcdNat.c _ (t3.2.1, t4.2.1) fun t7 => (rf_Made.c _ (false, t7, ([(1 : Int)] : List Int)) fun t8 => K ((t8.1.1, t8.1.2.1, t8.1.2.2), t8.2))) := rfl
theorem RGcd_c {na : Bool} {a : List Int} {nb : Bool} {b : List Int} (ha : Lim 4294967296 a) (hb : Lim 4294967296 b) (ca : Can na a [1]) (cb : Can nb b [1]) :
    ∃ neg p q, (∀ (R : Type) (K : (Nm × Int) → Option R), rf_TwoG.c R (103, (na, a, [1]), (nb, b, [1])) K = K (outM neg p q)) ∧ Rep neg p q (Nat.gcd (val 4294967296 a).toNat (val 4294967296 b).toNat : Nat) 1 := by
  obtain ⟨x, y, h1, hx, nx, hy, ny, vx, vy, lx, ly, _, _⟩ := RInts_ok ha hb ca cb
  obtain ⟨g, g1, g2, g3, g4⟩ := GcdNat_ev x y hx hy nx ny (by omega) (by omega)
  have lg : g.length ≤ 256 := by
    by_cases c : y = []
    · subst c
      rw [show val 65536 [] = 0 from rfl, show (0 : Int).toNat = 0 from rfl, Nat.gcd_zero_right, Int.toNat_of_nonneg (val_nonneg (by decide) hx)] at g4
      rw [val_inj (by decide) g2 hx g3 nx g4]
      exact lx
    · rcases Nat.lt_or_ge y.length g.length with h | h
      · have h1 := len_lt_val (by decide) hy g2 g3 h
        have h3 := val_pos (show (0 : Int) < 65536 by decide) hy ny c
        have h2 : Nat.gcd (val 65536 x).toNat (val 65536 y).toNat ≤ (val 65536 y).toNat := Nat.gcd_le_right _ (by omega)
        omega
      · omega
  obtain ⟨p, q, m1, m2⟩ := Made_c (rr_int (neg := false) g2 g3 (fun _ => rfl)) (by omega) (by decide)
  rw [show sgn false (val 65536 g) = val 65536 g from rfl, g4, vx, vy] at m2
  refine ⟨false, p, q, fun R K => ?_, m2⟩
  rw [TwoG_eq]
  refine (h1 R K _).trans ?_
  refine (rf_GcdNat.eq g1 _).trans ?_
  exact m1 R _
end Go.Proofs.YtemnjgkicndmjaaGreatDoor.Q
namespace Go.Proofs.YtemnjgkicndmjaaGreatDoor.Q
open Go.RowKit Go.Proofs.YtemnjgkicndmjaaGreatDoorW.PrintWords Go.Proofs.YtemnjgkicndmjaaGreatDoorW.PrintLast Go.Proofs.YtemnjgkicndmjaaGreatDoorW.PrintMore
set_option linter.unusedVariables false
end Go.Proofs.YtemnjgkicndmjaaGreatDoor.Q
namespace Go.Proofs.YtemnjgkicndmjaaGreatDoor.Q
open Go.RowKit Go.Proofs.YtemnjgkicndmjaaGreatDoor.E Go.Proofs.YtemnjgkicndmjaaGreatDoorW.PrintWords Go.Proofs.YtemnjgkicndmjaaGreatDoorW.PrintLast Go.Proofs.YtemnjgkicndmjaaGreatDoorW.PrintMore
set_option linter.unusedVariables false
theorem sameLimbs_loop (a b : List Int) (hl : a.length = b.length) (hL : a.length ≤ 1099511627776) : ∀ (d i : Nat), d + i = a.length → a.take i = b.take i → Ev (fun k => lw_sameLimbs.l0 k a b (i : Int)) (decide (a = b)) := by
  intro d
  induction d with
  | zero =>
    intro i hd h
    rw [List.take_of_length_le (by omega), List.take_of_length_le (by omega)] at h
    refine Ev.step (f := fun _ => some true) (fun k => ?_) (Ev.eq (Ev.now _) (by rw [decide_eq_true h]))
    simp only [lw_sameLimbs.l0]
    rw [if_neg (by omega)]
  | succ d ih =>
    intro i hd h
    have g1 : (i : Int) < (a.length : Int) := by omega
    have g2 : (0 : Int) ≤ (i : Int) := by omega
    have g3 : (i : Int) < (b.length : Int) := by omega
    have gw : ∀ _ : Unit, wrap64 ((i : Int) + 1) = ((i + 1 : Nat) : Int) := fun _ => by rw [w64 (by omega) (by omega)]; omega
    by_cases c : a.getD i 0 = b.getD i 0
    · refine Ev.step (f := fun k => lw_sameLimbs.l0 k a b ((i + 1 : Nat) : Int)) (fun k => ?_) (ih (i + 1) (by omega) (by rw [take_succ' _ _ (by omega), take_succ' _ _ (by omega), h, c]))
      simp only [lw_sameLimbs.l0]
      rw [if_pos g1, if_pos g2, if_pos g3, rd_getD, rd_getD, if_pos c, gw ()]
    · refine Ev.step (f := fun _ => some false) (fun k => ?_) (Ev.eq (Ev.now _) (by rw [decide_eq_false]; rintro rfl; exact c rfl))
      simp only [lw_sameLimbs.l0]
      rw [if_pos g1, if_pos g2, if_pos g3, rd_getD, rd_getD, if_neg c]
theorem sameLimbs_ev (a b : List Int) (hL : a.length ≤ 1099511627776) : Ev (fun k => lw_sameLimbs.f k a b) (decide (a = b)) := by
  by_cases hl : a.length = b.length
  · refine Ev.congr (fun k => ?_) (sameLimbs_loop a b hl hL a.length 0 (by omega) rfl)
    unfold lw_sameLimbs.f
    rw [if_pos (by omega)]; rfl
  · refine Ev.ret fun k => ?_
    unfold lw_sameLimbs.f
    rw [if_neg (by omega), decide_eq_false (fun h => hl (by rw [h]))]
theorem same_c (m : Bool) (a b : List Int) (n : Bool) (c d : List Int) (hL : a.length ≤ 1099511627776) (hM : b.length ≤ 1099511627776) {R : Type} (K : Bool → Option R) : lw_same.c R ((m, a, b), (n, c, d)) K = K (decide (m = n ∧ a = c ∧ b = d)) := by
  unfold lw_same.c
  by_cases h : m = n
  · refine (if_pos (by simpa using h)).trans ((lw_sameLimbs.eq (sameLimbs_ev a c hL) _).trans ?_)
    by_cases h2 : a = c
    · refine (if_pos (decide_eq_true h2)).trans ((lw_sameLimbs.eq (sameLimbs_ev b d hM) _).trans ?_)
      simp [h, h2]
    · refine (if_neg (by simp [h2])).trans ?_
      simp [h2]
  · refine (if_neg (by simpa using h)).trans ?_
    simp [h]
def Short (x : (Bool × List Int × List Int) × Int) : Prop := x.1.2.1.length ≤ 128 ∧ x.1.2.2.length ≤ 128
theorem short_bad (e : Int) : Short (bad e) := ⟨Nat.zero_le _, Nat.zero_le _⟩
theorem same_self {x : (Bool × List Int × List Int) × Int} (h : Short x) {R : Type} (K : Bool → Option R) : lw_same.c R ((x.1.1, x.1.2.1, x.1.2.2), (x.1.1, x.1.2.1, x.1.2.2)) K = K true := by
  obtain ⟨h1, h2⟩ := h
  rw [same_c _ _ _ _ _ _ (by omega) (by omega)]
  simp
theorem arith_step {x : (Bool × List Int × List Int) × Int} (h : Short x) {R : Type} (A B L : Option R) :
    (if (x.2 != x.2) = false then (lw_same.c R ((x.1.1, x.1.2.1, x.1.2.2), (x.1.1, x.1.2.1, x.1.2.2)) fun t => (if (!t) = true then A else L)) else B) = L := by
  rw [if_pos (by simp)]
  refine (same_self h _).trans ?_
  exact if_neg (by decide)
theorem gcd_tail (e h : Int) (hz : e = 0 → h = 0) {R : Type} (K : Bool → Option R) :
    (if (e != (0 : Int)) = false then (if (h == (0 : Int)) = true then (lw_counted.c R () fun t5 => K t5) else K false) else (lw_counted.c R () fun t6 => K t6)) = K true := by
  by_cases c : e = 0
  · rw [if_pos (by simp [c]), if_pos (by simp [hz c])]
    rfl
  · rw [if_neg (by simp [c])]
    rfl
theorem gcd_pure (na : Bool) (a da : List Int) (nb : Bool) (b db : List Int) (ha : Lim 4294967296 a) (hda : Lim 4294967296 da) (hb : Lim 4294967296 b) (hdb : Lim 4294967296 db) {R : Type} (K : Bool → Option R) : lw_NumberGcdIsGreatest.c R ((na, a, da), (nb, b, db)) K = K true := by
  unfold lw_NumberGcdIsGreatest.c
  by_cases h : wrong2 na a da nb b db = 0
  · obtain ⟨ca, cb, rfl, rfl⟩ := wrong2_ok h
    obtain ⟨g, g1, g2, g3, g4, g5⟩ := Gcd_c ha hb ca cb
    obtain ⟨n, p, q, r1, r2⟩ := RGcd_c ha hb ca cb
    have e := outM_int r2 g2 g3 (neg := false) (fun _ => rfl) (by rw [← g5]; rfl) g4
    rw [e] at r1
    have hs : Short ((false, g, [1]), (0 : Int)) := ⟨g4, by simp⟩
    refine (g1 R _).trans ?_
    refine (r1 R _).trans ?_
    refine (arith_step hs _ _ _).trans ?_
    have cg : Can false g [1] := ⟨g4, by decide, g3, one_nrm, by decide, fun _ => rfl, by rw [one_rep.2.2]; exact Nat.gcd_one_right _⟩
    refine (Sign_c false g [1] g2 one_rep.1 _).trans ?_
    rw [fault_can cg, if_pos rfl]
    rw [if_pos (show ((0 : Int) != 0) = false from rfl), if_pos (show ((0 : Int) != 0) = false from rfl)]
    by_cases g0 : g = []
    · rw [if_pos g0]
      refine (if_pos rfl).trans ?_
      exact gcd_tail 0 0 (fun _ => rfl) K
    · rw [if_neg g0, if_neg (show ¬ (false = true) by decide)]
      refine (if_neg (by decide)).trans ?_
      have pg := val_pos (show (0 : Int) < 4294967296 by decide) g2 g3 g0
      have hG : (val 4294967296 g).toNat = Nat.gcd (val 4294967296 a).toNat (val 4294967296 b).toNat := by rw [g5, Int.toNat_natCast]
      obtain ⟨x, x1, x2, x3, x4⟩ := Div_exact ha g2 g3 g4 g0 ca (by rw [hG]; exact Nat.gcd_dvd_left _ _)
      obtain ⟨y, y1, y2, y3, y4⟩ := Div_exact hb g2 g3 g4 g0 cb (by rw [hG]; exact Nat.gcd_dvd_right _ _)
      refine (x1 R _).trans ?_
      refine (y1 R _).trans ?_
      rw [if_pos (show ((0 : Int) != 0) = false from rfl), if_neg (show ¬ ((0 : Int) != 0) = true by decide)]
      obtain ⟨o, o1, o2, o3, o4, o5⟩ := Gcd_c x2 y2 x3 y3
      have ho : o = [1] := by
        refine (eq_one (show (1 : Int) < 4294967296 by decide) o2 o3).1 ?_
        have hcop : Nat.gcd ((val 4294967296 a).toNat / Nat.gcd (val 4294967296 a).toNat (val 4294967296 b).toNat) ((val 4294967296 b).toNat / Nat.gcd (val 4294967296 a).toNat (val 4294967296 b).toNat) = 1 := Nat.coprime_div_gcd_div_gcd (by rw [← hG]; omega)
        rw [o5, x4, y4, hG, hcop]
        rfl
      subst ho
      refine (o1 R _).trans ?_
      rw [if_pos (show ((0 : Int) == 0) = true from rfl)]
      refine (FromInt_one _).trans ?_
      refine (same_c false [1] [1] false [1] [1] (by decide) (by decide) _).trans ?_
      rw [if_pos (by decide)]
      rfl
  · have hs := short_bad (wrong2 na a da nb b db)
    refine (Gcd_bad na a da nb b db ha hda hb hdb h _).trans ?_
    refine (TwoG_eq _ _ _).trans ?_
    refine (RInts_bad na a da nb b db ha hda hb hdb h _ _).trans ?_
    refine (arith_step hs _ _ _).trans ?_
    refine (Sign_c false [] [] (lim_nil _) (lim_nil _) _).trans ?_
    have hf : fault false [] [] ≠ 0 := fun h => (can_of_fault' h).d0 rfl
    rw [if_neg (show ¬ ((bad (wrong2 na a da nb b db)).2 != 0) = false by simpa [bad] using h)]
    exact gcd_tail _ _ (fun h' => absurd h' h) K
end Go.Proofs.YtemnjgkicndmjaaGreatDoor.Q
namespace Go.Proofs.YtemnjgkicndmjaaGreatDoor.Q
open Go.ChangeShapes Go.WideShapes Go.ChangeAt Go.RowKit Go.Joins Go.Proofs.YtemnjgkicndmjaaGreatDoorW.PrintWords Go.Proofs.YtemnjgkicndmjaaGreatDoorW.PrintLast Go.Proofs.YtemnjgkicndmjaaGreatDoorW.PrintMore
set_option linter.unusedVariables false
theorem laidOut : laidOutB Tryz.prog = true := by kernel_rfl
theorem own : ownKnob Tryz.prog.godebug = none := by kernel_rfl
theorem lim_of_wf {zs : List Int} (h : ∀ n ∈ zs, (Lit.int .u32 n).wf = true) : Lim 4294967296 zs := by
  intro x hx
  have h1 := h x hx
  simp only [Lit.wf, Bool.and_eq_true, decide_eq_true_eq] at h1
  have e1 : IntKind.u32.min = 0 := by decide
  have e2 : IntKind.u32.max = 4294967295 := by decide
  omega
theorem open_limbs {H : Type} {enc : TypeId × Value → H} {W : World} {n : Nat} {c : Value} {y : DataW H × List MemPlace} (h : DataW.trod enc Tryz.prog W 0 (fun _ => true) true n 22 [c] = some y) :
    ∃ (A : Option Addr) (cap : Nat) (l : List Int), c = .slice A l.length cap ∧ l.length ≤ cap ∧ Kd.C (Kd.int .u32) W A l.length l ∧ Lim 4294967296 l := by
  rcases open_ints Tryz.underlying22 Tryz.underlying73 (by kernel_rfl) h with ⟨hcs, _⟩ | ⟨x, l, cp, zs, hcs, _, hl, hm, hz, _, hcell, hwz⟩
  · simp at hcs
    exact ⟨none, 0, [], hcs, Nat.le_refl _, Kd.C_of_reads (enc := Value.int .u32) (d := (0 : Int)) ⟨rfl, by decide, fun h => absurd h (Nat.lt_irrefl _)⟩, lim_nil _⟩
  · simp at hcs
    have hz' : zs.length = cp := by simpa using hz
    have hlen : (zs.take l).length = l := by rw [List.length_take]; omega
    refine ⟨some x, cp, zs.take l, by rw [hlen]; exact hcs, by rw [hlen]; exact hl, Kd.C_of_reads (enc := Value.int .u32) (d := (0 : Int)) ⟨rfl, by rw [hlen]; unfold maxLen at hm; omega, fun _ => ⟨x, rfl, fun j hj => ?_⟩⟩, (lim_of_wf hwz).take _⟩
    rw [hlen] at hj
    rw [hcell j (by omega), List.getD_eq_getElem?_getD, List.getD_eq_getElem?_getD, List.getElem?_take, if_pos hj]
set_option maxRecDepth 100000 in
theorem open_number {H : Type} {enc : TypeId × Value → H} {W : World} {b0 : Nat} {r : Reach} {v : Value} {d : DataW H} {p : List MemPlace} (hv : Value.okWide Tryz.prog W r b0 24 v) (h : DataW.Trod enc Tryz.prog W 0 (fun _ => true) true 24 v d p) :
    ∃ (neg : Bool) (A1 : Option Addr) (c1 : Nat) (l1 : List Int) (A2 : Option Addr) (c2 : Nat) (l2 : List Int), v = .agg #[.bool neg, .slice A1 l1.length c1, .slice A2 l2.length c2] ∧
      l1.length ≤ c1 ∧ Kd.C (Kd.int .u32) W A1 l1.length l1 ∧ Lim 4294967296 l1 ∧ l2.length ≤ c2 ∧ Kd.C (Kd.int .u32) W A2 l2.length l2 ∧ Lim 4294967296 l2 := by
  obtain ⟨v0, v1, v2, y0, y1, y2, n, rfl, rfl, rfl, h0, h1, h2⟩ := open_agg3 Tryz.underlying24 (by kernel_rfl) (by kernel_rfl) hv h
  obtain ⟨b, e0, rfl⟩ := DataW.trod_bool Tryz.underlying4 h0
  obtain ⟨A1, c1, l1, rfl, i1, k1, m1⟩ := open_limbs h1
  obtain ⟨A2, c2, l2, rfl, i2, k2, m2⟩ := open_limbs h2
  simp at e0
  subst e0
  exact ⟨b, A1, c1, l1, A2, c2, l2, rfl, i1, k1, m1, i2, k2, m2⟩
def accepted : List (Nat × Nat) := [(128, 191), (160, 191), (128, 159), (144, 191), (128, 143), (0, 0), (0, 0), (0, 0), (0, 0), (0, 0), (0, 0), (0, 0), (0, 0), (0, 0), (0, 0), (0, 0)]
noncomputable def laidFirst : Array Value := (Go.Pinned.utf8FirstZ.map fun (z : Nat) => Value.int .u8 (Int.ofNat z)).toArray
noncomputable def laidRanges : Array Value := (accepted.flatMap fun (z : Nat × Nat) => [Value.int .u8 (Int.ofNat z.1), Value.int .u8 (Int.ofNat z.2)]).toArray
noncomputable def laidWorld (os : Os) : World :=
  let w0 := World.holding Tryz.prog os ⟨#[], #[], []⟩
  { w0 with heap := (w0.heap.modify 1 (fun o => match o with
      | .cells _ t frozen => .cells laidFirst t frozen
      | o => o)).modify 2 (fun o => match o with
      | .cells _ t frozen => .cells laidRanges t frozen
      | o => o) }
set_option maxRecDepth 100000 in
theorem laid_met (os : Os) (args : Array Value) : laidMet Tryz.prog [("unicode/utf8.acceptRanges", Rows.laid_unicode_utf8_acceptRanges), ("unicode/utf8.first", Rows.laid_unicode_utf8_first)] ((laidWorld os).forCall (fun _ _ => 0) ⟨#[], args, []⟩).memory :=
  laidMet_of_run' 8 (by kernel_rfl) (by kernel_rfl)
end Go.Proofs.YtemnjgkicndmjaaGreatDoor.Q
namespace Go.Proofs.YtemnjgkicndmjaaGreatDoor.Q
open Go.ChangeShapes Go.WideShapes Go.ChangeAt Go.RowKit Go.Joins Go.Proofs.YtemnjgkicndmjaaGreatDoor.E Go.Proofs.YtemnjgkicndmjaaGreatDoorW.PrintWords Go.Proofs.YtemnjgkicndmjaaGreatDoorW.PrintLast Go.Proofs.YtemnjgkicndmjaaGreatDoorW.PrintMore
set_option linter.unusedVariables false
namespace GcdLaw
set_option maxRecDepth 100000 in
theorem contract (H : Type) (enc : TypeId × Value → H) (W : World) (base : Nat) (args : Array Value) (ds gs : List (DataW H)) (before : List MemPlace)
    (hval : ∀ (j : Nat) t v, Tryz.f4.params[j]? = some t → args[j]? = some v → Value.okWide Tryz.prog W .any base t v)
    (hW : DataW.Whole enc Tryz.prog Tryz.f4.params.toList Rows.numberGcdIsGreatestSpec.vars false W args.toList ds gs before) :
    Calls Tryz.prog 4 args W fun e W' => ∃ v, e = .returned v ∧ Rows.numberGcdIsGreatestSpec.post enc Tryz.prog Tryz.f4 false true false false W args v W' := by
  have hW' := hW
  obtain ⟨p, q, hA0, hV, rfl, hfz, hnd⟩ := hW
  have hA : DataW.TrodAll enc Tryz.prog W 0 (fun _ => true) true Tryz.f4.params.toList args.toList ds p := hA0
  rw [Tryz.params4] at hA hval
  obtain ⟨v0, vs0, d0, ds0, p0, q0, hargs, rfl, rfl, h0, r0⟩ := trodAll_cons hA
  obtain ⟨v1, vs1, d1, ds1, p1, q1, rfl, rfl, rfl, h1, r1⟩ := trodAll_cons r0
  obtain ⟨rfl, rfl, rfl⟩ := trodAll_nil r1
  obtain rfl : args = #[v0, v1] := by cases args; simp_all
  obtain ⟨rfl, rfl⟩ := trodVars_none hV
  have k0 := h0
  have lt0 : ∀ x ∈ p0, x.block < W.heap.size := by obtain ⟨m, hm⟩ := k0; exact DataW.trod_lt m _ _ _ hm
  have k1 := h1
  have lt1 : ∀ x ∈ p1, x.block < W.heap.size := by obtain ⟨m, hm⟩ := k1; exact DataW.trod_lt m _ _ _ hm
  obtain ⟨na, A1, c1, a, A2, c2, da, rfl, i1, m1, n1, i2, m2, n2⟩ := open_number (hval 0 24 v0 rfl rfl) h0
  obtain ⟨nb, A3, c3, b, A4, c4, db, rfl, i3, m3, n3, i4, m4, n4⟩ := open_number (hval 1 24 v1 rfl rfl) h1
  clear hA0
  simp only [List.append_nil] at hW'
  have hx := lw_NumberGcdIsGreatest.pure ((na, a, da), (nb, b, db)) true (gcd_pure na a da nb b db n1 n2 n3 n4 some)
  refine (hx W (fun k => k < W.heap.size) _ (reps_cons (rep_num na i1 m1 i2 m2) (reps_cons (rep_num nb i3 m3 i4 m4) reps_nil))).mono fun e W' ⟨v, he, bel, hv⟩ => ?_
  subst he
  have hv' : v = .bool true := by simpa only [Go.Proofs.YtemnjgkicndmjaaGreatDoor.E.cb, Go.Proofs.YtemnjgkicndmjaaGreatDoor.E.Rep] using hv
  subst hv'
  exact ⟨_, rfl, _, _, _, [], _, [], hW', trodAll_mk1 (shut_bool Tryz.underlying4 _), (trodAll_cons_mk (Below.trod laidOut (by kernel_rfl) (of_decide_eq_true (by kernel_rfl)) k0 bel lt0) (trodAll_cons_mk (Below.trod laidOut (by kernel_rfl) (of_decide_eq_true (by kernel_rfl)) k1 bel lt1) trodAll_mk0)), rfl, bel.frame _, fun h => by cases h⟩
theorem reads (os : Os) {H : Type} (enc : TypeId × Value → H) : ∃ places, DataW.whole enc Tryz.prog ((laidWorld os).forCall (fun _ _ => 0) ⟨#[], #[.agg #[.bool false, .slice none 0 0, .slice none 0 0], .agg #[.bool false, .slice none 0 0, .slice none 0 0]], []⟩).memory Tryz.f4.params.toList Rows.numberGcdIsGreatestSpec.vars false #[Value.agg #[.bool false, .slice none 0 0, .slice none 0 0], .agg #[.bool false, .slice none 0 0, .slice none 0 0]].toList 8 = some ([.agg [.lit (.bool false), .nil, .nil], .agg [.lit (.bool false), .nil, .nil]], [], places) :=
  ⟨[], by kernel_rfl⟩
set_option maxRecDepth 100000 in
theorem lifted (os : Os) (started : os.Started) (H : Type) (enc : TypeId × Value → H) (F : Stop.Interp) :
    ReturnsInHanded {} Tryz.checked os 4 .any ((OpenSpec.ofChange Rows.numberGcdIsGreatestSpec).preRow enc Tryz.prog Tryz.f4 Rows.numberGcdIsGreatestRow.domain false Rows.numberGcdIsGreatestRow.laid) (((OpenSpec.ofChange Rows.numberGcdIsGreatestSpec).at F).post enc Tryz.prog Tryz.f4 false true false false) := by
  obtain ⟨places, hx⟩ := reads os enc
  refine returnsInHanded_of_row (C := Tryz.checked) (s := OpenSpec.ofChange Rows.numberGcdIsGreatestSpec) own started (by kernel_rfl) Tryz.func4
    (witness_row_at (enc := enc) (C := Tryz.checked) false (laidWorld os) #[.agg #[.bool false, .slice none 0 0, .slice none 0 0], .agg #[.bool false, .slice none 0 0, .slice none 0 0]] rfl (by kernel_rfl) (by kernel_rfl) (by kernel_rfl)
      (OpenSpec.preRow_of_cond 4 hx (by kernel_rfl) (fun k hk => by cases hk) (by kernel_rfl) (laid_met os _))) ?_
  intro W base args ds gs before hval hW _ _ _ hL _ _
  exact contract H enc W base args ds gs before hval hW
theorem said : Rows.NumberGcdIsGreatestSaid :=
  OpenClaim.holds_of_cond 4 Tryz.f4 rfl rfl rfl rfl rfl rfl rfl ⟨rfl, rfl, rfl, rfl, rfl⟩ rfl rfl rfl rfl rfl (by kernel_rfl) Tryz.func4 (by kernel_rfl)
    (of_decide_eq_true (by kernel_rfl)) (by unfold Func.isWrapper; first | (rw [if_pos (by decide +kernel)]; kernel_rfl) | (rw [if_neg (by decide +kernel)]; exact ⟨rfl, rfl⟩))
    (fun os started H enc _ F => by rw [OpenClaim.pre_eq_preRow]; exact lifted os started H enc F)
theorem plain (f : FuncId) (fn : Func) (hf : Tryz.pinned.checked.prog.funcNamed "fetterlock/fetterlocklaw1.NumberGcdIsGreatest" = some f) (hfn : Tryz.pinned.checked.prog.funcs[f]? = some fn) :
    false = Tryz.pinned.checked.prog.looks [] ∧ ∀ (j : Nat) t, fn.params[j]? = some t → Tryz.pinned.checked.prog.wantsStandIn t = false := by
  obtain rfl : f = 4 := Option.some.inj ((show Tryz.prog.funcNamed "fetterlock/fetterlocklaw1.NumberGcdIsGreatest" = some 4 by kernel_rfl).symm.trans hf) |>.symm
  obtain rfl : fn = Tryz.f4 := (Option.some.inj (Tryz.func4.symm.trans hfn)).symm
  refine ⟨by kernel_rfl, fun j t ht => ?_⟩
  rw [Tryz.params4] at ht
  obtain rfl : t = 24 := by simpa using Array.mem_of_getElem? ht
  exact (show Tryz.prog.wantsStandIn 24 = false by kernel_rfl)
theorem card : Rows.NumberGcdIsGreatestCardSaid :=
  Claim7.holds_tied_plain_at .later [] _ _ _ _ said (fun _ h => by cases h) (by kernel_rfl) (fun _ h => by cases h) numberGcdIsGreatest_row_tie rfl ⟨rfl, rfl⟩ (by kernel_rfl) rfl plain (by kernel_rfl)
end GcdLaw
end Go.Proofs.YtemnjgkicndmjaaGreatDoor.Q
namespace Go.Proofs.YtemnjgkicndmjaaGreatDoor
theorem numberGcdIsGreatest_holds : Rows.NumberGcdIsGreatestCardSaid := Q.GcdLaw.card
end Go.Proofs.YtemnjgkicndmjaaGreatDoor

