/- What this text proves: a part of the walk and of the plain laws of one card; no conditions. -/
import Derived.Test.YtemnjgkicndmjaaDoorTb2
namespace Go.Proofs.YtemnjgkicndmjaaDoor.E
open Go.RowKit Go.Proofs.YtemnjgkicndmjaaDoorW.PrintWords
set_option linter.unusedVariables false
set_option linter.unusedSimpArgs false
section
variable {P : Program} {N nh0 : Nat} {ops : Array Oper} {T : Tab} {σ0 : Nat → AV} {L : Nat → Bool} {es : List Eff}
def Closed' (ops : Array Oper) (L : Nat → Bool) : Prop := ∀ j o, ops[j]? = some o → L j = true → ∀ e ∈ o.after, Region.binds .any e = true → L e.on = true
theorem mask_good {acc : List Nat} (hacc : ∀ j s, acc[j]? = some s → L j = true → ∀ m, s.testBit m = true → L m = true) : ∀ (l : List Edge), (∀ e ∈ l, Region.binds .any e = true → L e.on = true) → ∀ m, (mask acc l).testBit m = true → L m = true
  | [], _, m, h => by simp [mask] at h
  | e :: l, hl, m, h => by
    have hl2 : ∀ e ∈ l, Region.binds .any e = true → L e.on = true := fun e he => hl e (List.mem_cons_of_mem _ he)
    simp only [mask] at h
    split at h
    · rename_i hb
      have he := hl e List.mem_cons_self hb
      rw [Nat.testBit_or, Nat.testBit_or, Bool.or_eq_true, Bool.or_eq_true] at h
      rcases h with (h | h) | h
      · rw [Nat.testBit_two_pow] at h
        have : e.on = m := by simpa using h
        rw [← this]; exact he
      · cases hq : acc[e.on]? with
        | none => simp [List.getD, hq] at h
        | some s =>
          simp only [List.getD, hq, Option.getD_some] at h
          exact hacc _ s hq he m h
      · exact mask_good hacc l hl2 m h
    · exact mask_good hacc l hl2 m h
theorem befs_good (hC : Closed' ops L) : ∀ (rest : List Oper) (acc : List Nat), ops.toList.drop acc.length = rest →
    (∀ (j : Nat) (o : Oper) (s : Nat), ops[j]? = some o → acc[j]? = some s → (∀ e ∈ o.after, Region.binds .any e = true → L e.on = true) → ∀ m, s.testBit m = true → L m = true) →
    ∀ (j : Nat) (o : Oper) (s : Nat), ops[j]? = some o → (befs rest acc)[j]? = some s → (∀ e ∈ o.after, Region.binds .any e = true → L e.on = true) → ∀ m, s.testBit m = true → L m = true
  | [], acc, _, h => h
  | o :: rest, acc, hr, h => by
    have ho : ops[acc.length]? = some o := by
      have := congrArg (·[0]?) hr
      simpa using this
    have hr' : ops.toList.drop (acc.length + 1) = rest := by
      have := congrArg List.tail hr
      simpa [List.tail_drop] using this
    simp only [befs]
    refine befs_good hC rest _ (by simpa using hr') ?_
    intro j o' s ho' hs he m hm
    by_cases hj : j < acc.length
    · rw [List.getElem?_append_left hj] at hs
      exact h j o' s ho' hs he m hm
    · have hj2 : j = acc.length := by
        have := (List.getElem?_eq_some_iff.1 hs).1
        simp at this
        omega
      subst hj2
      rw [ho] at ho'
      injection ho' with ho'
      subst ho'
      simp at hs
      subst hs
      refine mask_good (fun k s hk hL => ?_) o.after.toList (fun e he' => he e (by simpa using he')) m hm
      have hkl := (List.getElem?_eq_some_iff.1 hk).1
      have hlen : acc.length < ops.size := (Array.getElem?_eq_some_iff.1 ho).1
      have hok : ops[k]? = some ops[k] := Array.getElem?_eq_getElem (by omega)
      exact h k _ s hok hk (hC k _ hok hL)
theorem bef_listed (hC : Closed' ops L) {j : Nat} {o : Oper} (ho : ops[j]? = some o) (he : ∀ e ∈ o.after, Region.binds .any e = true → L e.on = true) {m : Nat} (hm : ((befs ops.toList []).getD j 0).testBit m = true) : L m = true := by
  cases hq : (befs ops.toList [])[j]? with
  | none => simp [List.getD, hq] at hm
  | some s =>
    simp only [List.getD, hq, Option.getD_some] at hm
    exact befs_good hC ops.toList [] (by simp) (fun j o s _ h => by simp at h) j o s ho hq he m hm
theorem ordered_at {bef : List Nat} (h : ordered bef (trOf ops es) = true) {i j : Nat} (hij : i < j) (hj : j < es.length) (hc : clash (fx ops es i) (fx ops es j) = true) : (bef.getD j 0).testBit i = true := by
  unfold ordered at h
  simp only [List.all_eq_true, List.mem_range, Bool.or_eq_true, Bool.not_eq_true'] at h
  have hl : (trOf ops es).length = es.length := by simp [trOf]
  have hg : ∀ k, k < es.length → (trOf ops es).getD k ⟨[], [], false⟩ = fx ops es k := fun k hk => by simp [trOf, List.getD, hk]
  have := h j (by rw [hl]; exact hj) i hij
  rw [hg i (by omega), hg j hj, hc] at this
  simpa using this
theorem clash_iff {a b : Fx} : clash a b = true ↔ (∃ x ∈ a.wr, x ∈ b.rd ∨ x ∈ b.wr) ∨ (∃ x ∈ a.rd, x ∈ b.wr) ∨ (a.all = true ∧ b.boxes = true) ∨ (b.all = true ∧ a.boxes = true) := by
  unfold clash
  simp [or_assoc]
theorem Fx.boxes_w {f : Fx} {x : Nat} (h : f.inW x = true) (ho : odd x = true) : f.boxes = true := by
  rw [Fx.inW_iff] at h
  rw [Fx.boxes_iff]
  rcases h with h | h
  · exact .inr (.inr ⟨x, h, ho⟩)
  · exact .inl h.1
theorem Fx.boxes_r {f : Fx} {x : Nat} (h : f.inR x = true) (ho : odd x = true) : f.boxes = true := by
  rw [Fx.inR_iff] at h
  rw [Fx.boxes_iff]
  rcases h with h | h
  · exact .inr (.inl ⟨x, h, ho⟩)
  · exact .inl h.1
theorem clash_wr {a b : Fx} {x : Nat} (h1 : a.inW x = true) (h2 : b.inR x = true ∨ b.inW x = true) : clash a b = true := by
  rw [clash_iff]
  have hb : odd x = true → b.boxes = true := fun ho => h2.elim (fun h => Fx.boxes_r h ho) (fun h => Fx.boxes_w h ho)
  have ha : odd x = true → a.boxes = true := fun ho => Fx.boxes_w h1 ho
  rw [Fx.inW_iff] at h1
  rcases h1 with h1 | h1
  · rw [Fx.inR_iff, Fx.inW_iff] at h2
    rcases h2 with (h2 | h2) | h2 | h2
    · exact .inl ⟨x, h1, .inl h2⟩
    · exact .inr (.inr (.inr ⟨h2.1, ha h2.2⟩))
    · exact .inl ⟨x, h1, .inr h2⟩
    · exact .inr (.inr (.inr ⟨h2.1, ha h2.2⟩))
  · exact .inr (.inr (.inl ⟨h1.1, hb h1.2⟩))
theorem clash_rw {a b : Fx} {x : Nat} (h1 : a.inR x = true) (h2 : b.inW x = true) : clash a b = true := by
  rw [clash_iff]
  have hb : odd x = true → b.boxes = true := fun ho => Fx.boxes_w h2 ho
  have ha : odd x = true → a.boxes = true := fun ho => Fx.boxes_r h1 ho
  rw [Fx.inR_iff] at h1
  rcases h1 with h1 | h1
  · rw [Fx.inW_iff] at h2
    rcases h2 with h2 | h2
    · exact .inr (.inl ⟨x, h1, h2⟩)
    · exact .inr (.inr (.inr ⟨h2.1, ha h2.2⟩))
  · exact .inr (.inr (.inl ⟨h1.1, hb h1.2⟩))
section
variable (hord : ordered (befs ops.toList []) (trOf ops es) = true) (hes : es.length = ops.size) (hC : Closed' ops L) {i : Nat} {o : Oper} (ho : ops[i]? = some o) (hi : L i = false)
include hord hes hC ho hi
omit ho in
theorem later0 {m : Nat} (hm : i < m) (hml : m < es.length) (hL : L m = true) : clash (fx ops es i) (fx ops es m) = false := by
  cases hc : clash (fx ops es i) (fx ops es m)
  · rfl
  · have := ordered_at hord hm hml hc
    have hom : ops[m]? = some ops[m] := Array.getElem?_eq_getElem (by omega)
    have := bef_listed hC hom (hC m _ hom hL) this
    rw [hi] at this
    cases this
omit ho in
theorem later {m x : Nat} (hm : i < m) (hml : m < es.length) (hL : L m = true) (hx : (fx ops es m).inW x = true) : ¬ (fx ops es i).inR x = true ∧ ¬ (fx ops es i).inW x = true := by
  have key := later0 hord hes hC hi hm hml hL
  constructor
  · intro h1; rw [clash_rw h1 hx] at key; cases key
  · intro h1; rw [clash_wr h1 (.inr hx)] at key; cases key
theorem reads_same (he : ∀ e ∈ o.after, Region.binds .any e = true → L e.on = true) {x : Nat} (hx : (fx ops es i).inR x = true) : ∀ m, m ≤ es.length → part ops es σ0 L m x = stAt ops es σ0 (min m i) x
  | 0, _ => by simp [part, stAt]
  | m + 1, hml => by
    have ih := reads_same he hx m (by omega)
    have hil : i < es.length := by rw [hes]; exact (Array.getElem?_eq_some_iff.1 ho).1
    simp only [part]
    by_cases hmi : m < i
    · rw [Nat.min_eq_left (by omega)] at ih ⊢
      by_cases hw : (fx ops es m).inW x = true
      · have := bef_listed hC ho he (ordered_at hord hmi hil (clash_wr hw (.inl hx)))
        rw [if_pos ⟨this, hw⟩]
      · rw [if_neg (fun hh => hw hh.2), ih, stAt_far hw]
    · rw [Nat.min_eq_right (by omega)] at ih ⊢
      by_cases hc : L m = true ∧ (fx ops es m).inW x = true
      · exfalso
        have hne : m ≠ i := fun e => by rw [e, hi] at hc; cases hc.1
        exact (later hord hes hC hi (by omega) (by omega) hc.1 hc.2).1 hx
      · rw [if_neg hc, ih]
theorem part_put {e : Eff} (hee : es[i]? = some e) : put (part ops es σ0 L es.length) o.dst e = part ops es σ0 (fun j => L j || decide (j = i)) es.length := by
  have hfx : fx ops es i = fxOf ops o e := by simp [fx, ho, hee]
  have hil : i < es.length := (List.getElem?_eq_some_iff.1 hee).1
  funext x
  by_cases hx : (fxOf ops o e).inW x = true
  · rw [put_near (σ' := stAt ops es σ0 i) hx]
    have h1 : stAt ops es σ0 (i + 1) x = put (stAt ops es σ0 i) o.dst e x := by simp only [stAt, ho, hee]
    rw [← h1]
    have : ∀ m, i < m → m ≤ es.length → part ops es σ0 (fun j => L j || decide (j = i)) m x = stAt ops es σ0 (i + 1) x := by
      intro m
      induction m with
      | zero => intro h; omega
      | succ m ih =>
        intro hm hml
        simp only [part]
        by_cases hmi : m = i
        · subst hmi
          rw [if_pos ⟨by simp, by rw [hfx]; exact hx⟩]
        · rw [if_neg (fun hh => ?_)]
          · exact ih (by omega) (by omega)
          · have hL : L m = true := by simpa [hmi] using hh.1
            exact (later hord hes hC hi (by omega) (by omega) hL hh.2).2 (by rw [hfx]; exact hx)
    exact (this es.length hil (Nat.le_refl _)).symm
  · rw [put_far hx]
    have : ∀ m, part ops es σ0 L m x = part ops es σ0 (fun j => L j || decide (j = i)) m x := by
      intro m
      induction m with
      | zero => rfl
      | succ m ih =>
        simp only [part]
        by_cases hmi : m = i
        · subst hmi
          rw [hfx, if_neg (fun hh => hx hh.2), if_neg (fun hh => hx hh.2), ih]
        · simp only [hmi, decide_false, Bool.or_false, ih]
    exact this _
end
end
section
variable {P : Program} {N nh0 : Nat} {ops : Array Oper} {T : Tab} {σ0 : Nat → AV} {es : List Eff}
theorem edgesOk_at : ∀ (l : List Oper) (i j : Nat) (o : Oper), edgesOk l i = true → l[j]? = some o → ∀ e ∈ o.after, Region.binds .any e = true → e.on < i + j
  | [], _, _, _, _, h => by simp at h
  | o' :: l, i, j, o, hk, h => by
    simp only [edgesOk, Bool.and_eq_true] at hk
    intro e he hb
    cases j with
    | zero =>
      simp only [List.getElem?_cons_zero, Option.some.injEq] at h
      subst h
      have := (Array.all_eq_true_iff_forall_mem.1 hk.1) e he
      simp only [hb, Bool.not_true, Bool.false_or] at this
      have : e.on < i := by rw [Nat.blt_eq] at this; exact this
      omega
    | succ j =>
      have := edgesOk_at l (i + 1) j o hk.2 (by simpa using h) e he hb
      omega
theorem filter_less {L L' : Nat → Bool} (hle : ∀ j, L j = true → L' j = true) {i : Nat} (hi : L i = false) (hi' : L' i = true) : ∀ (l : List Nat), i ∈ l → (l.filter fun j => !L' j).length < (l.filter fun j => !L j).length := by
  have le : ∀ (l : List Nat), (l.filter fun j => !L' j).length ≤ (l.filter fun j => !L j).length := by
    intro l
    induction l with
    | nil => simp
    | cons j l ih =>
      simp only [List.filter_cons]
      cases hj : L j <;> cases hj' : L' j <;> simp <;> first | omega | (have := hle j hj; simp [hj'] at this)
  intro l
  induction l with
  | nil => intro h; cases h
  | cons j l ih =>
    intro h
    simp only [List.filter_cons]
    have hl := le l
    by_cases hji : j = i
    · subst hji
      simp [hi, hi']
      omega
    · have hm : i ∈ l := (List.mem_cons.1 h).resolve_left (fun e => hji e.symm)
      have := ih hm
      cases hj : L j <;> cases hj' : L' j <;> simp <;> first | omega | (have := hle j hj; simp [hj'] at this)
def Left (G : Nat → Prop) (es : List Eff) (nh0 : Nat) (L : Nat → Bool) (h : Nat) : Prop := (G h ∨ nh0 ≤ h) ∧ ∀ j, L j = true → ¬(nhAt es nh0 j ≤ h ∧ h < nhAt es nh0 (j + 1))
theorem any_ops {Q : Exit → Act → World → Prop} {B : Nat} {P0 : Nat → Prop} {X : Ctx} {w0 : World} {G : Nat → Prop} (hG : ∀ h, G h → h < nh0) (hes : es.length = ops.size) (htr : ∀ j o e, ops[j]? = some o → es[j]? = some e → Trip1 P N (nhAt es nh0 j) ops j (stAt ops es σ0 j) o e)
    (hord : ordered (befs ops.toList []) (trOf ops es) = true) (hed : edgesOk ops.toList 0 = true)
    (hQ : ∀ φ a w, St N B P0 X w0 (fun h => G h ∨ nhAt es nh0 ops.size ≤ h) (stAt ops es σ0 ops.size) φ a w → Q .normal a w) :
    ∀ (fuel : Nat) (listed : Array Bool) (φ : Nat → Option (Nat × Nat)) (a : Act) (w : World), listed.size = ops.size → Closed' ops (fun j => listed.getD j false) →
      ((List.range ops.size).filter fun j => !(listed.getD j false)).length ≤ fuel →
      St N B P0 X w0 (Left G es nh0 fun j => listed.getD j false) (part ops es σ0 (fun j => listed.getD j false) es.length) φ a w → wpAny P .any ops Q fuel listed a w := by
  have hlow : ∀ {h j : Nat}, G h → ¬(nhAt es nh0 j ≤ h ∧ h < nhAt es nh0 (j + 1)) := fun {h j} hh hc => by
    have h1 := hG h hh
    have h2 : nh0 ≤ nhAt es nh0 j := nhAt_mono es (i := 0) (Nat.zero_le j)
    omega
  have done : ∀ (listed : Array Bool) (φ : Nat → Option (Nat × Nat)) (a : Act) (w : World), (∀ j, j < ops.size → listed.getD j false = true) →
      St N B P0 X w0 (Left G es nh0 fun j => listed.getD j false) (part ops es σ0 (fun j => listed.getD j false) es.length) φ a w → listed.size = ops.size → Q .normal a w := by
    intro listed φ a w hall hs hsz
    refine hQ φ a w ?_
    have : part ops es σ0 (fun j => listed.getD j false) es.length = stAt ops es σ0 ops.size := by
      funext x
      rw [hes]
      exact part_all (fun j hj => hall j hj)
    rw [this] at hs
    refine St.less hs (fun h hh => ?_)
    rcases hh with hh | hh
    · exact ⟨.inl hh, fun j _ => hlow hh⟩
    · have h2 : nh0 ≤ nhAt es nh0 ops.size := nhAt_mono es (i := 0) (Nat.zero_le _)
      refine ⟨.inr (by omega), fun j hj hc => ?_⟩
      have hjl : j < ops.size := by
        rcases Nat.lt_or_ge j listed.size with h' | h'
        · omega
        · simp [Array.getElem?_eq_none h'] at hj
      have := nhAt_mono es (nh0 := nh0) (i := j + 1) (j := ops.size) hjl
      omega
  have allOf : ∀ (listed : Array Bool), listed.size = ops.size → Region.ready .any ops listed = [] → ∀ n, n ≤ ops.size → ∀ j, j < n → listed.getD j false = true := by
    intro listed hsz hr n
    induction n with
    | zero => intro _ j hj; omega
    | succ n ih =>
      intro hn j hj
      by_cases hjn : j < n
      · exact ih (by omega) j hjn
      · have hjn2 : j = n := by omega
        subst hjn2
        cases hL : listed.getD j false with
        | true => rfl
        | false =>
          exfalso
          have : j ∈ Region.ready .any ops listed := by
            rw [mem_ready]
            refine ⟨?_, ops[j], Array.getElem?_eq_getElem (by omega), fun e he hb => ?_⟩
            · have hlt : j < listed.size := by omega
              simp [hlt] at hL ⊢
              exact hL
            · have := edgesOk_at ops.toList 0 j ops[j] hed (by simp) e he hb
              exact ih (by omega) e.on (by omega)
          rw [hr] at this
          cases this
  intro fuel
  induction fuel with
  | zero =>
    intro listed φ a w hsz hC hf hs
    have hall : ∀ j, j < ops.size → listed.getD j false = true := by
      intro j hj
      cases hL : listed.getD j false with
      | true => rfl
      | false =>
        exfalso
        have : j ∈ (List.range ops.size).filter fun j => !(listed.getD j false) := by
          rw [List.mem_filter]
          exact ⟨List.mem_range.2 hj, by rw [hL]; rfl⟩
        have := List.length_pos_of_mem this
        omega
    refine ⟨?_, done listed φ a w hall hs hsz⟩
    apply List.eq_nil_iff_forall_not_mem.2
    intro j hj
    obtain ⟨h1, o, h2, _⟩ := mem_ready.1 hj
    have hlt : j < ops.size := (Array.getElem?_eq_some_iff.1 h2).1
    have := hall j hlt
    have hlt2 : j < listed.size := by omega
    simp [hlt2] at h1 this
    rw [h1] at this
    cases this
  | succ fuel ih =>
    intro listed φ a w hsz hC hf hs
    refine ⟨fun hr => done listed φ a w (fun j hj => allOf listed hsz hr ops.size (Nat.le_refl _) j hj) hs hsz, fun i hi => ?_⟩
    obtain ⟨h1, o, ho, he⟩ := mem_ready.1 hi
    have hlt : i < ops.size := (Array.getElem?_eq_some_iff.1 ho).1
    have hlt2 : i < listed.size := by omega
    have hi0 : listed.getD i false = false := by simp [hlt2] at h1 ⊢; exact h1
    have hee : es[i]? = some es[i] := List.getElem?_eq_getElem (by omega)
    have hfx : fx ops es i = fxOf ops o es[i] := by simp [fx, ho, hee]
    have hst := nhAt_step (nh0 := nh0) hee
    have h00 : nh0 ≤ nhAt es nh0 i := nhAt_mono es (i := 0) (Nat.zero_le i)
    refine (htr i o es[i] ho hee).2 _ (fun x hx => ?_) hs (fun k hk1 hk2 => ⟨.inr (by omega), fun j hj hc => ?_⟩) (fun hall k hk1 => ⟨.inr (by omega), fun j hj hc => ?_⟩) _ Q (fun φ' v w' hs' => ?_)
    · rw [reads_same (L := fun j => listed.getD j false) hord hes hC ho hi0 he (by rw [hfx]; exact hx) es.length (Nat.le_refl _), Nat.min_eq_right (by omega)]
    · rcases Nat.lt_trichotomy j i with hji | hji | hji
      · have := nhAt_mono es (nh0 := nh0) (i := j + 1) (j := i) hji
        omega
      · subst hji
        dsimp only at hj
        rw [hi0] at hj
        cases hj
      · have := nhAt_mono es (nh0 := nh0) (i := i + 1) (j := j) hji
        omega
    · rcases Nat.lt_trichotomy j i with hji | hji | hji
      · have := nhAt_mono es (nh0 := nh0) (i := j + 1) (j := i) hji
        omega
      · subst hji
        dsimp only at hj
        rw [hi0] at hj
        cases hj
      · have hjl : j < es.length := by
          rcases Nat.lt_or_ge j listed.size with h' | h'
          · omega
          · simp [Array.getElem?_eq_none h'] at hj
        have hcl := later0 (L := fun j => listed.getD j false) hord hes hC hi0 hji hjl hj
        have hoj : ops[j]? = some ops[j] := Array.getElem?_eq_getElem (by omega)
        have hej : es[j]? = some es[j] := List.getElem?_eq_getElem hjl
        have hsj := nhAt_step (nh0 := nh0) hej
        have hfj : fx ops es j = fxOf ops ops[j] es[j] := by simp [fx, hoj, hej]
        rcases (htr j ops[j] es[j] hoj hej).1 with hu | hb
        · omega
        · have : clash (fx ops es i) (fx ops es j) = true := clash_iff.2 (.inr (.inr (.inl ⟨by rw [hfx]; exact hall, by rw [hfj]; exact hb⟩)))
          rw [hcl] at this
          cases this
    · have hL1 : ∀ j, (listed.setIfInBounds i true).getD j false = (listed.getD j false || decide (j = i)) := by
        intro j
        by_cases hji : j = i
        · subst hji
          simp [hlt2]
        · rw [getD_set_ne false (fun e => hji e.symm)]
          simp [hji]
      have hLL : (fun j => (listed.setIfInBounds i true).getD j false) = fun j => listed.getD j false || decide (j = i) := by
        funext j
        exact hL1 j
      rw [part_put (L := fun j => listed.getD j false) hord hes hC ho hi0 hee] at hs'
      refine ih (listed.setIfInBounds i true) φ' _ w' (by simp [hsz]) ?_ ?_ ?_
      · rw [hLL]
        intro j o' ho' hj e he' hb
        dsimp only at hj ⊢
        by_cases hji : j = i
        · subst hji
          rw [ho] at ho'
          injection ho' with ho'
          subst ho'
          rw [he e he' hb, Bool.true_or]
        · have hj2 : listed.getD j false = true := by simpa [hji] using hj
          have h5 : listed.getD e.on false = true := hC j o' ho' hj2 e he' hb
          rw [h5, Bool.true_or]
      · have := filter_less (L := fun j => listed.getD j false) (L' := fun j => (listed.setIfInBounds i true).getD j false) (fun j hj => by rw [hL1, hj, Bool.true_or]) hi0 (by rw [hL1]; simp) (List.range ops.size) (List.mem_range.2 hlt)
        omega
      · rw [hLL]
        refine St.less hs' (fun h hh => ⟨⟨hh.1, fun j hj => hh.2 j ?_⟩, ?_⟩)
        · dsimp only at hj ⊢; rw [hj, Bool.true_or]
        · have := hh.2 i (by simp)
          omega
end
section
variable {P : Program} {N nh : Nat} {ops : Array Oper} {T : Tab} {L : LTab} {fuel : Nat}
theorem binI_nat {R : Type} {op : BinOp} {k : IntKind} {x y : Int} (K : AV → Option R) : binI op k x y K = (binI op k x y some).bind K := by
  unfold binI
  (repeat' split) <;> rfl
theorem binA_nat {R : Type} {op : BinOp} {t : Nat} {x y : AV} (K : AV → Option R) : binA P op t x y K = (binA P op t x y some).bind K := by
  unfold binA
  (repeat' split) <;> first | rfl | exact binI_nat K
theorem indexA_nat {R : Type} {x y : AV} (K : AV → Option R) : indexA x y K = (indexA x y some).bind K := by
  unfold indexA
  (repeat' split) <;> rfl
theorem loadB_nat {R : Type} {t off : Nat} {x : AV} (K : AV → Option R) : loadB P t x off K = (loadB P t x off some).bind K := by
  unfold loadB
  (repeat' split) <;> rfl
theorem storeB_nat {R : Type} {t off : Nat} {x y : AV} (K : AV → Option R) : storeB P t x off y K = (storeB P t x off y some).bind K := by
  unfold storeB
  (repeat' split) <;> rfl
theorem loadB_nat' {R : Type} {t off : Nat} {x : AV} (f : AV → Eff) (K : Eff → Option R) : loadB P t x off (fun v => K (f v)) = (loadB P t x off fun v => some (f v)).bind K := by
  rw [loadB_nat, loadB_nat (fun v => some (f v)), Option.bind_assoc]
  rfl
theorem storeB_nat' {R : Type} {t off : Nat} {x y : AV} (f : AV → Eff) (K : Eff → Option R) : storeB P t x off y (fun v => K (f v)) = (storeB P t x off y fun v => some (f v)).bind K := by
  rw [storeB_nat, storeB_nat (fun v => some (f v)), Option.bind_assoc]
  rfl
theorem bnd_nat {R : Type} {y d : Nat} {τ : Nat → AV} {x : Option Operand} (K : Nat → Option R) : bnd y d τ x K = (bnd y d τ x some).bind K := by
  unfold bnd
  (repeat' split) <;> rfl
theorem bnd2_nat {R : Type} {y d : Nat} {τ : Nat → AV} {hi lo : Option Operand} (f : Nat → Nat → Option AV) (K : AV → Option R) : (bnd y d τ hi fun h => bnd h 0 τ lo fun l => (f h l).bind K) = (bnd y d τ hi fun h => bnd h 0 τ lo fun l => f h l).bind K := by
  rw [bnd_nat (K := fun h => bnd h 0 τ lo fun l => (f h l).bind K), bnd_nat (K := fun h => bnd h 0 τ lo fun l => f h l), Option.bind_assoc]
  congr 1
  funext h
  rw [bnd_nat (K := fun l => (f h l).bind K), bnd_nat (K := fun l => f h l), Option.bind_assoc]
theorem bnd3_nat {R : Type} {y d : Nat} {τ : Nat → AV} {hi lo : Option Operand} (f : Nat → AV) (K : AV → Option R) : (bnd y d τ hi fun h => bnd h 0 τ lo fun l => if l = 0 then K (f h) else none) = (bnd y d τ hi fun h => bnd h 0 τ lo fun l => if l = 0 then some (f h) else none).bind K := by
  rw [← bnd2_nat]
  congr 1
  funext h
  congr 1
  funext l
  split <;> rfl
theorem sliceA_nat {R : Type} {τ : Nat → AV} {x : AV} {lo hi : Option Operand} (K : AV → Option R) : sliceA τ x lo hi K = (sliceA τ x lo hi some).bind K := by
  cases x <;> simp only [sliceA] <;> first
    | rfl
    | exact bnd2_nat (fun h l => some _) K
    | exact bnd3_nat (fun h => _) K
    | (split
       · rfl
       · exact bnd3_nat (fun h => _) K)
theorem makeA_nat {R : Type} {e : Nat} {x y : AV} (K : Eff → Option R) : makeA P e nh x y K = (makeA P e nh x y some).bind K := by
  unfold makeA
  (repeat' split) <;> rfl
theorem copyA_nat {R : Type} {β : Nat → AV} {x y : AV} (K : Eff → Option R) : copyA β x y K = (copyA β x y some).bind K := by
  unfold copyA
  (repeat' split) <;> rfl
theorem callA_nat {g : Nat} {F : Tf} (hF : TfOk P g F) {β : Nat → AV} {xs : List AV} {R : Type} (K : Eff → Option R) : callA P F β nh xs K = (callA P F β nh xs some).bind K := by
  cases F with
  | pure F =>
    simp only [callA]
    rw [frzsK_eq, frzsK_eq, Option.bind_assoc]
    congr 1
    funext p
    rw [(show FunOk P g F from hF).2.1 R, (show FunOk P g F from hF).2.1 Eff, Option.bind_assoc]
    rfl
  | own F =>
    simp only [callA]
    rw [frzsK_eq, frzsK_eq, Option.bind_assoc]
    congr 1
    funext p
    rw [(show OFunOk P g F from hF).2.1 R, (show OFunOk P g F from hF).2.1 Eff, Option.bind_assoc]
    rfl
  | heap F =>
    simp only [callA]
    rw [(show HFunOk P g F from hF).2.1 R, (show HFunOk P g F from hF).2.1 Eff, Option.bind_assoc]
    congr 1
    funext p
    split <;> rfl
theorem doOp_nat (hT : TOk P T) {τ β : Nat → AV} {o : Oper} {R : Type} (K : Eff → Option R) : doOp P T nh τ β o K = (doOp P T nh τ β o some).bind K := by
  unfold doOp
  (repeat' split) <;> first
    | rfl
    | (rw [binA_nat, binA_nat (fun v => some (val v)), Option.bind_assoc]; rfl)
    | (rw [indexA_nat, indexA_nat (fun v => some (val v)), Option.bind_assoc]; rfl)
    | (rw [sliceA_nat, sliceA_nat (fun v => some (val v)), Option.bind_assoc]; rfl)
    | exact loadB_nat' (fun v => ⟨v, [_], [], none, 0⟩) K
    | exact storeB_nat' (fun c => ⟨.any, [_], [(_, c)], none, 0⟩) K
    | exact makeA_nat K
    | exact copyA_nat K
    | exact callA_nat (hT _ _ (by assumption)) K
theorem oneOp_nat (hT : TOk P T) {σ : Nat → AV} {o : Oper} {R : Type} (K : Eff → Option R) : oneOp P T N nh ops o σ K = (oneOp P T N nh ops o σ some).bind K := by
  unfold oneOp
  (repeat' split) <;> first
    | rfl
    | exact doOp_nat hT K
theorem runOps_nat (hT : TOk P T) {R : Type} (K : (Nat → AV) → Nat → List Fx → Option R) : ∀ (rest : List Oper) (nh : Nat) (σ : Nat → AV) (tr : List Fx), runOps P T N ops rest nh σ tr K = (runOps P T N ops rest nh σ tr fun s n t => some (s, n, t)).bind fun p => K p.1 p.2.1 p.2.2
  | [], nh, σ, tr => rfl
  | o :: rest, nh, σ, tr => by
    simp only [runOps]
    rw [oneOp_nat hT, oneOp_nat hT (fun e => runOps P T N ops rest (nh + e.used) (put σ o.dst e) (tr ++ [fxOf ops o e]) fun s n t => some (s, n, t)), Option.bind_assoc]
    congr 1
    funext e
    exact runOps_nat hT K rest _ _ _
theorem loopN_nat {R : Type} (body : {R : Type} → State → (Ex → State → Option R) → Option R) (hb : ∀ (R : Type) s (K : Ex → State → Option R), body s K = (body s fun e s => some (e, s)).bind fun p => K p.1 p.2) (K : Ex → State → Option R) : ∀ (n : Nat) (s : State), loopN body n s K = (loopN body n s fun e s => some (e, s)).bind fun p => K p.1 p.2
  | 0, s => rfl
  | n + 1, s => by
    simp only [loopN]
    refine (hb R s _).trans (Eq.trans ?_ (congrArg (fun (o : Option (Ex × State)) => o.bind fun p => K p.1 p.2) (hb _ s _).symm))
    rw [Option.bind_assoc]
    congr 1
    funext p
    obtain ⟨e, s'⟩ := p
    cases e with
    | normal => exact loopN_nat body hb K n s'
    | exit id => rfl
    | ret => rfl
def LNat (F : LFun) : Prop := ∀ (R : Type) (s : State) (K : Ex → State → Option R), F R s K = (F (Ex × State) s fun e s => some (e, s)).bind fun p => K p.1 p.2
theorem run_nat (hT : TOk P T) (hN : ∀ p F, L p = some F → LNat F) : ∀ (c : Code) (p : List Nat) (s : State) {R : Type} (K : Ex → State → Option R), run P T L N fuel p c s K = (run P T L N fuel p c s fun e s => some (e, s)).bind fun p => K p.1 p.2 := by
  intro c
  induction c with
  | region id ops draw =>
    intro p s R K
    simp only [run]
    rw [runOps_nat hT, runOps_nat hT (fun σ nh tr => if draw = true then (if (ordered (befs ops.toList []) tr && edgesOk ops.toList 0) = true then some (Ex.normal, (⟨σ, nh⟩ : State)) else none) else some (Ex.normal, ⟨σ, nh⟩)), Option.bind_assoc]
    congr 1
    funext p
    (repeat' split) <;> rfl
  | seq x y ihx ihy =>
    intro p s R K
    simp only [run]
    refine (ihx _ s _).trans (Eq.trans ?_ (congrArg (fun (o : Option (Ex × State)) => o.bind fun p => K p.1 p.2) (ihx _ s _).symm))
    rw [Option.bind_assoc]
    congr 1
    funext q
    obtain ⟨e, s'⟩ := q
    cases e with
    | normal => exact ihy _ s' K
    | exit id => rfl
    | ret => rfl
  | cond c x y ihx ihy =>
    intro p s R K
    simp only [run]
    split
    · split
      · exact ihx _ s K
      · exact ihy _ s K
    · rfl
  | block id b ih =>
    intro p s R K
    simp only [run]
    refine (ih _ s _).trans (Eq.trans ?_ (congrArg (fun (o : Option (Ex × State)) => o.bind fun p => K p.1 p.2) (ih _ s _).symm))
    rw [Option.bind_assoc]
    congr 1
    funext q
    obtain ⟨e, s'⟩ := q
    cases e with
    | exit i => dsimp only; split <;> rfl
    | normal => rfl
    | ret => rfl
  | loop b ih =>
    intro p s R K
    simp only [run]
    cases hL : L p with
    | some F => exact hN p F hL R s K
    | none => exact loopN_nat (fun {R} => run P T L N fuel (0 :: p) b) (fun R s K => ih _ s K) K fuel s
  | _ => intro p s R K; rfl
def toExit : Ex → Exit
  | .normal => .normal
  | .exit id => .exit id
  | .ret => .ret
def InS (N B : Nat) (P0 : Nat → Prop) (X : Ctx) (w0 : World) (G : Nat → Prop) (s : State) (φ : Nat → Option (Nat × Nat)) (a : Act) (w : World) : Prop :=
  (∀ h, G h → h < s.nh) ∧ X.g ≤ s.nh ∧ St N B P0 X w0 (fun h => G h ∨ s.nh ≤ h) s.σ φ a w
def LoopOk (P : Program) (N : Nat) (b : Code) (F : LFun) : Prop := LNat F ∧ ∀ (B : Nat) (P0 : Nat → Prop) (X : Ctx) (w0 w : World) (G : Nat → Prop) (φ : Nat → Option (Nat × Nat)) (a : Act) (s s' : State) (e : Ex),
  F (Ex × State) s (fun e s => some (e, s)) = some (e, s') → InS N B P0 X w0 G s φ a w → ∀ (Q : Exit → Act → World → Prop), (∀ φ' a' w', InS N B P0 X w0 G s' φ' a' w' → Q (toExit e) a' w') → (Code.loop b).wp P Q a w
def LOk (P : Program) (N : Nat) (L : LTab) : List Nat → Code → Prop
  | p, .seq a b => LOk P N L (0 :: p) a ∧ LOk P N L (1 :: p) b
  | p, .cond _ a b => LOk P N L (0 :: p) a ∧ LOk P N L (1 :: p) b
  | p, .block _ b => LOk P N L (0 :: p) b
  | p, .loop b => match L p with
    | some F => LoopOk P N b F
    | none => LOk P N L (0 :: p) b
  | _, _ => True
theorem run_sound (hT : TOk P T) (hm : P.follows .mixedOrders = true) (hN : ∀ p F, L p = some F → LNat F) {B : Nat} {P0 : Nat → Prop} {X : Ctx} {w0 : World} {G : Nat → Prop} {R : Type} {r : R} : ∀ (c : Code) (p : List Nat) (s : State) (K : Ex → State → Option R) (Q : Exit → Act → World → Prop) (φ : Nat → Option (Nat × Nat)) (a : Act) (w : World),
    LOk P N L p c → run P T L N fuel p c s K = some r → InS N B P0 X w0 G s φ a w → (∀ e s' φ' a' w', InS N B P0 X w0 G s' φ' a' w' → K e s' = some r → Q (toExit e) a' w') → c.wp P Q a w := by
  intro c
  induction c with
  | skip => intro p s K Q φ a w hl h hs hQ; exact Go.wp_skip (hQ .normal s φ a w hs h)
  | exit id => intro p s K Q φ a w hl h hs hQ; exact wp_exit (hQ (.exit id) s φ a w hs h)
  | ret => intro p s K Q φ a w hl h hs hQ; exact wp_ret (hQ .ret s φ a w hs h)
  | region id ops draw =>
    intro p s K Q φ a w hl h hs hQ
    obtain ⟨hG, hX, hs⟩ := hs
    simp only [run] at h
    cases draw with
    | false =>
      refine wp_region ?_
      rw [List.range_eq_range', ← Array.length_toList]
      refine runOps_ops hT (K := _) (fun σ' nh' tr φ' a' w' hG' hX' hs' hK => ?_) ops.toList 0 s.nh s.σ [] φ a w rfl (by simp) h hG hX hs
      simp only [Bool.false_eq_true, if_false] at hK
      exact hQ .normal ⟨σ', nh'⟩ φ' a' w' ⟨hG', hX', hs'⟩ hK
    | true =>
      obtain ⟨es, h1, h2, h3⟩ := runOps_es (σ0 := s.σ) (nh0 := s.nh) hT ops.toList 0 [] rfl (by simp) rfl (fun j o e _ he => by simp at he) h
      simp only [if_true] at h3
      split at h3
      · rename_i hc
        rw [Bool.and_eq_true] at hc
        refine wp_region_any hm ?_
        have hg : ∀ j, (Array.replicate ops.size false).getD j false = false := fun j => by
          rw [Array.getD_eq_getD_getElem?, Array.getElem?_replicate]
          split <;> rfl
        have hmono : s.nh ≤ nhAt es s.nh ops.size := nhAt_mono es (i := 0) (Nat.zero_le _)
        refine any_ops hG h1 h2 hc.1 hc.2 (fun φ' a' w' hs' => hQ .normal ⟨_, nhAt es s.nh ops.size⟩ φ' a' w' ⟨fun h hh => Nat.lt_of_lt_of_le (hG h hh) hmono, Nat.le_trans hX hmono, hs'⟩ h3) ops.size _ φ a _ (by simp) (fun j o _ hj => by have := hg j; dsimp only at hj; rw [hj] at this; cases this) ?_ ?_
        · have := List.length_filter_le (fun j => !((Array.replicate ops.size false).getD j false)) (List.range ops.size)
          rw [List.length_range] at this
          exact this
        · have hp : part ops es s.σ (fun j => (Array.replicate ops.size false).getD j false) es.length = s.σ := by
            have : ∀ n, part ops es s.σ (fun j => (Array.replicate ops.size false).getD j false) n = s.σ := by
              intro n
              induction n with
              | zero => rfl
              | succ n ih =>
                funext x
                simp only [part]; rw [if_neg (fun hh => by have := hg n; rw [hh.1] at this; cases this), ih]
            exact this _
          rw [hp]
          exact (hs.world (w' := { w with drawn := w.drawn + 1 }) ⟨rfl, rfl, rfl, Nat.le_refl _, fun _ _ _ => rfl⟩ (fun _ _ => rfl)).less (fun h hh => hh.1)
      · cases h3
  | seq x y ihx ihy =>
    intro p s K Q φ a w hl h hs hQ
    simp only [run] at h
    simp only [LOk] at hl
    refine wp_seq (ihx _ s _ _ φ a w hl.1 h hs fun e s' φ' a' w' hs' hK => ?_)
    cases e with
    | normal => exact ihy _ s' K Q φ' a' w' hl.2 hK hs' hQ
    | exit id => exact hQ (.exit id) s' φ' a' w' hs' hK
    | ret => exact hQ .ret s' φ' a' w' hs' hK
  | cond c x y ihx ihy =>
    intro p s K Q φ a w hl h hs hQ
    simp only [run] at h
    simp only [LOk] at hl
    split at h
    · rename_i t hc
      have h1 := hs.2.2.ev c
      rw [hc] at h1
      simp only [Rep] at h1
      refine wp_cond h1 ?_
      cases t with
      | true => exact ihx _ s K Q φ a w hl.1 (by simpa using h) hs hQ
      | false => exact ihy _ s K Q φ a w hl.2 (by simpa using h) hs hQ
    · cases h
  | block id b ih =>
    intro p s K Q φ a w hl h hs hQ
    simp only [run] at h
    simp only [LOk] at hl
    refine wp_block (ih _ s _ _ φ a w hl h hs fun e s' φ' a' w' hs' hK => ?_)
    cases e with
    | normal => exact hQ .normal s' φ' a' w' hs' hK
    | ret => exact hQ .ret s' φ' a' w' hs' hK
    | exit i =>
      dsimp only at hK
      simp only [toExit, Exit.inBlock]
      split at hK
      · rename_i hi
        rw [if_pos hi]
        exact hQ .normal s' φ' a' w' hs' hK
      · rename_i hi
        rw [if_neg hi]
        exact hQ (.exit i) s' φ' a' w' hs' hK
  | loop b ih =>
    intro p s K Q φ a w hl h hs hQ
    simp only [run] at h
    simp only [LOk] at hl
    cases hL : L p with
    | some F =>
      simp only [hL] at h hl
      rw [hl.1 R s K] at h
      obtain ⟨⟨e, s'⟩, h1, h2⟩ := Option.bind_eq_some_iff.1 h
      exact hl.2 B P0 X w0 w G φ a s s' e h1 hs Q fun φ' a' w' hs' => hQ e s' φ' a' w' hs' h2
    | none =>
      simp only [hL] at h hl
      refine wp_loop_rounds fuel ?_
      have key : ∀ (n : Nat) (s : State) (φ : Nat → Option (Nat × Nat)) (a : Act) (w : World), loopN (run P T L N fuel (0 :: p) b) n s K = some r → InS N B P0 X w0 G s φ a w → Code.rounds P b Q n a w := by
        intro n
        induction n with
        | zero => intro s φ a w h; simp [loopN] at h
        | succ n ihn =>
          intro s φ a w h hs
          simp only [loopN] at h
          refine ih _ s _ _ φ a w hl h hs fun e s' φ' a' w' hs' hK => ?_
          cases e with
          | normal => exact ihn s' φ' a' w' hK hs'
          | exit id => exact hQ (.exit id) s' φ' a' w' hs' hK
          | ret => exact hQ .ret s' φ' a' w' hs' hK
      exact key fuel s φ a w h hs
  | _ => intro p s K Q φ a w hl h hs hQ; simp [run] at h
end
def resOne (tmps : Array Value) : ResultVar → Sem Value
  | .tmp t => pure (tmps.getD t undef)
  | .cell a t => do loadVar t (← asAddr (tmps.getD a undef))
theorem results_eq (fn : Func) (tmps : Array Value) : results fn tmps = (fn.results.mapM (resOne tmps)) >>= fun vs => (pure (if h : vs.size = 1 then vs[0] else .tuple vs) : Sem Value) := rfl
section
variable {P : Program} {N : Nat} {T : Tab} {L : LTab} {fuel : Nat}
theorem resA_run {B : Nat} {P0 : Nat → Prop} {X : Ctx} {w0 w : World} {fresh : Nat → Prop} {φ : Nat → Option (Nat × Nat)} {a : Act} {σ : Nat → AV} (hs : St N B P0 X w0 fresh σ φ a w) : ∀ (l : List ResultVar) (r : List AV), resA P σ l = some r →
    ∃ vs, (l.mapM (resOne a.tmps)).run P w = .ok vs w ∧ Reps φ w (Ok B P0 σ φ) r vs
  | [], r, h => by
    simp only [resA, Option.some.injEq] at h
    subst h
    exact ⟨[], rfl, by simp [Reps]⟩
  | .tmp t :: rest, r, h => by
    simp only [resA] at h
    split at h
    · rename_i l hl
      injection h with h
      subst h
      obtain ⟨vs, h1, h2⟩ := resA_run hs rest l hl
      refine ⟨a.tmps.getD t undef :: vs, by simp only [List.mapM_cons, Sem.run_bind, resOne, Sem.run_pure, Result.andThen_ok, h1], ?_⟩
      simp only [Reps]
      exact ⟨_, _, rfl, hs.tmps t, h2⟩
    · cases h
  | .cell c ty :: rest, r, h => by
    simp only [resA] at h
    split at h
    · rename_i hh off l hx hl
      split at h
      · rename_i cs hb
        split at h
        · rename_i v hv
          injection h with h
          subst h
          obtain ⟨vs, h1, h2⟩ := resA_run hs rest l hl
          have hp := hs.tmps c
          rw [hx] at hp
          simp only [Rep] at hp
          obtain ⟨b, t0, e1, e2⟩ := hp
          have hH := hs.boxes hh (by rw [hb]; intro hq; cases hq)
          rw [hb] at hH
          simp only [Holds] at hH
          obtain ⟨b', t1, vs', e, f1, f2, f3, f4, f5⟩ := hH
          rw [e1] at f1
          injection f1 with f1
          injection f1 with f1 f1'
          subst f1
          obtain ⟨u, k1, k2⟩ := loadVar_run (ad := ⟨b, off, none⟩) hv (f5.drop off) (fun i u hu => reads_block f2 i u (by
            rw [List.getElem?_drop, List.getElem?_take] at hu
            rw [List.getElem?_drop]
            split at hu
            · exact hu
            · cases hu))
          refine ⟨u :: vs, by simp only [List.mapM_cons, Sem.run_bind, resOne, e2, asAddr, Sem.run_pure, Result.andThen_ok, h1, k1], ?_⟩
          simp only [Reps]
          exact ⟨_, _, rfl, k2, h2⟩
        · cases h
      · cases h
    · cases h
theorem retA_run {fn : Func} {B : Nat} {P0 : Nat → Prop} {X : Ctx} {w0 w : World} {fresh : Nat → Prop} {φ : Nat → Option (Nat × Nat)} {a : Act} {σ : Nat → AV} (hs : St N B P0 X w0 fresh σ φ a w) {x : AV} (h : retA P fn σ = some x) :
    ∃ v, (results fn a.tmps).run P w = .ok v w ∧ Rep φ w (Ok B P0 σ φ) x v := by
  unfold retA at h
  have key : ∀ l, resA P σ fn.results.toList = some l → ∃ vs, (results fn a.tmps).run P w = .ok (if h : vs.toArray.size = 1 then vs.toArray[0] else .tuple vs.toArray) w ∧ Reps φ w (Ok B P0 σ φ) l vs := by
    intro l hl
    obtain ⟨vs, h1, h2⟩ := resA_run hs _ l hl
    refine ⟨vs, ?_, h2⟩
    rw [results_eq, Array.mapM_eq_mapM_toList]
    simp [h1]
  split at h
  · rename_i y hl
    injection h with h
    subst h
    obtain ⟨vs, h1, h2⟩ := key _ hl
    simp only [Reps] at h2
    obtain ⟨v, vs', rfl, h3, rfl⟩ := h2
    exact ⟨v, by simpa using h1, h3⟩
  · rename_i l hne hl
    injection h with h
    subst h
    obtain ⟨vs, h1, h2⟩ := key _ hl
    have hlen := h2.length
    have h1' : vs.length ≠ 1 := by
      intro h11
      rw [h11] at hlen
      match l, hlen, hne with
      | [y], _, hne => exact hne y rfl
    refine ⟨.tuple vs.toArray, by rw [h1]; simp [h1'], ?_⟩
    simp only [Rep]
    exact ⟨_, rfl, h2⟩
  · cases h
theorem St.forget {B : Nat} {P0 : Nat → Prop} {X : Ctx} {w0 w : World} {fresh : Nat → Prop} {φ : Nat → Option (Nat × Nat)} {a : Act} {σ : Nat → AV} (h : St N B P0 X w0 fresh σ φ a w) : Ok B P0 (start [] (bxOf σ)) φ = Ok B P0 σ φ ∧ St 0 B P0 X w0 fresh (start [] (bxOf σ)) φ noAct w := by
  have hb : ∀ h, start [] (bxOf σ) (2 * h + 1) = σ (2 * h + 1) := fun h => by rw [start_odd]; rfl
  have hO : Ok B P0 (start [] (bxOf σ)) φ = Ok B P0 σ φ := Ok_congr hb
  refine ⟨hO, { h with defers := rfl, size := rfl, tmps := fun t => by rw [start_even]; simp [Rep], boxes := fun k hk => ?_, inj := fun k k' b t t' hk hk' => ?_, gh := fun i x u hi hx => by rw [hO]; exact h.gh i x u hi hx }⟩
  · rw [hO]
    rw [hb] at hk ⊢
    exact h.boxes k hk
  · rw [hb] at hk hk'
    exact h.inj k k' b t t' hk hk'
theorem execH_nat (hT : TOk P T) (hN : ∀ p F, L p = some F → LNat F) {fn : Func} (R : Type) (xs : List AV) (β : Nat → AV) (nh : Nat) (K : AV → (Nat → AV) → Nat → Option R) : execH P T L fuel fn R xs β nh K = (execH P T L fuel fn (AV × (Nat → AV) × Nat) xs β nh fun a b c => some (a, b, c)).bind fun p => K p.1 p.2.1 p.2.2 := by
  unfold execH
  split
  · split
    · rw [run_nat hT hN, run_nat hT hN (R := AV × (Nat → AV) × Nat), Option.bind_assoc]
      congr 1
      funext p
      obtain ⟨e, s⟩ := p
      cases e <;> dsimp only <;> first
        | rfl
        | (cases retA P fn s.σ <;> rfl)
    · rfl
  · rfl
theorem execH_heap (hT : TOk P T) (hm : P.follows .mixedOrders = true) (hN : ∀ p F, L p = some F → LNat F) {f : Nat} {fn : Func} (hf : P.funcs[f]? = some fn) (hL : ∀ c, fn.body = some c → LOk P fn.ntmps L [] c) {xs : List AV} {β β' : Nat → AV} {nh nh' : Nat} {r : AV}
    (h : execH P T L fuel fn (AV × (Nat → AV) × Nat) xs β nh (fun a b c => some (a, b, c)) = some (r, β', nh')) : HeapC P f xs β nh r β' nh' := by
  intro B P0 X w0 w G φ vs hG hX hst hR
  unfold execH at h
  split at h
  · rename_i c hb
    split at h
    · rename_i hlen
      have hl := hR.length
      refine calls_of_wp hf hb ?_
      have hvs : vs.size ≤ fn.ntmps := by rw [← Array.length_toList, hl]; exact hlen
      have hbo : ∀ h, start xs β (2 * h + 1) = start [] β (2 * h + 1) := fun h => by rw [start_odd, start_odd]
      have hO : Ok B P0 (start xs β) φ = Ok B P0 (start [] β) φ := Ok_congr hbo
      have hs0 : St fn.ntmps B P0 X w0 (fun h => G h ∨ nh ≤ h) (start xs β) φ { tmps := vs ++ Array.replicate (fn.ntmps - vs.size) undef, defers := [] } w :=
        { hst with
          defers := rfl
          size := by simp; omega
          tmps := fun t => by
            rw [start_even, hO]
            cases hx : xs[t]? with
            | none => simp [List.getD, hx, Rep]
            | some y =>
              obtain ⟨v, hv, hr⟩ := hR.get t hx
              have hlt : t < vs.size := by
                have := (List.getElem?_eq_some_iff.1 hv).1
                simpa using this
              have e1 : (vs ++ Array.replicate (fn.ntmps - vs.size) undef).getD t undef = v := by
                rw [Array.getD_eq_getD_getElem?, Array.getElem?_append_left hlt]
                have : vs[t]? = some v := by simpa using hv
                rw [this]
                rfl
              simp only [List.getD, hx, Option.getD_some, e1]
              exact hr
          boxes := fun h hh => by rw [hO]; rw [hbo] at hh ⊢; exact hst.boxes h hh
          inj := fun h h' b t t' hh hh' => by rw [hbo] at hh hh'; exact hst.inj h h' b t t' hh hh'
          gh := fun i x u hi hx => by rw [hO]; exact hst.gh i x u hi hx }
      refine run_sound hT hm hN c [] ⟨start xs β, nh⟩ _ _ _ _ _ (hL c hb) h ⟨hG, hX, hs0⟩ fun e s' φ' a' w' hs' hK => ?_
      have fin : (match retA P fn s'.σ with | some r => some (r, bxOf s'.σ, s'.nh) | none => none) = some (r, β', nh') → a'.defers = [] ∧ ∃ v, (results fn a'.tmps).run P w' = .ok v w' ∧ ∃ u φ', Ending.returned v = .returned u ∧ St 0 B P0 X w0 (fun h => G h ∨ nh' ≤ h) (start [] β') φ' noAct w' ∧ Rep φ' w' (Ok B P0 (start [] β') φ') r u := by
        intro hK
        split at hK
        · rename_i r1 hr
          injection hK with hK
          injection hK with h1 h2
          injection h2 with h2 h3
          subst h1 h2 h3
          obtain ⟨v, k1, k2⟩ := retA_run hs'.2.2 hr
          obtain ⟨hO', hs2⟩ := hs'.2.2.forget
          exact ⟨hs'.2.2.defers, v, k1, v, φ', rfl, hs2, by rw [hO']; exact k2⟩
        · cases hK
      cases e with
      | normal => exact fin hK
      | ret => exact fin hK
      | exit id => cases hK
    · cases h
  · cases h
theorem execH_ok (hT : TOk P T) (hm : P.follows .mixedOrders = true) (hN : ∀ p F, L p = some F → LNat F) {f : Nat} {fn : Func} (hf : P.funcs[f]? = some fn) (hc : callable P f = true) (hL : ∀ c, fn.body = some c → LOk P fn.ntmps L [] c) : HFunOk P f (execH P T L fuel fn) :=
  ⟨hc, fun R xs β nh K => execH_nat hT hN R xs β nh K, fun xs β nh r β' nh' h => execH_heap hT hm hN hf hL h⟩
theorem heap_pure {f : Nat} {xs : List AV} {r x : AV} {hs : List Nat} {β : Nat → AV} {nh : Nat} (h : HeapC P f xs (fun _ => .any) 0 r β nh) (hz : frz β r = some (x, hs)) : PureC P f xs x := by
  intro w P0 vs hR
  have hs0 : St 0 w.heap.size P0 ⟨fun _ => False, fun _ _ _ => False, 0⟩ w (fun h => False ∨ 0 ≤ h) (start [] fun _ => .any) (fun _ => none) noAct w :=
    { below := Kept.refl _ _ _
      base := Nat.le_refl _
      defers := rfl
      size := rfl
      tmps := fun t => by rw [start_even]; simp [Rep]
      boxes := fun h hh => by rw [start_odd] at hh; exact absurd rfl hh
      own := fun h b t hh => by cases hh
      inj := fun h h' b t t' hh => by rw [start_odd] at hh; exact absurd rfl hh
      px := fun b hb => hb.elim
      gh := fun i x u _ hx => hx.elim
      fr := fun h _ => rfl }
  refine Calls.mono (h w.heap.size P0 _ w w (fun _ => False) (fun _ => none) vs (fun h hh => hh.elim) (Nat.le_refl _) hs0 (Reps.move (fun _ _ h => by cases h) (fun k hk _ => ⟨.inl hk, fun h t hh => by rw [start_odd] at hh; exact absurd rfl hh⟩) (fun _ _ _ => rfl) _ hR)) fun e w' he => ?_
  obtain ⟨v, φ', rfl, hs', hv⟩ := he
  have hkl : Killed (start [] β) (start [] fun _ => .any) hs := ⟨fun h _ => by rw [start_odd], fun h hh => by rw [start_odd] at hh; exact absurd rfl hh⟩
  obtain ⟨q1, q2⟩ := frz_ok (σ' := start [] fun _ => .any) hs' r (by
    have : bxOf (start [] β) = β := by funext h; exact start_odd _ _ _
    rw [this]; exact hz) hkl hv
  refine ⟨v, rfl, ⟨hs'.below.os, hs'.below.tape, hs'.below.output, hs'.below.size, fun k hk => hs'.below.block k hk (fun h => h)⟩, ?_⟩
  exact Rep.move (fun _ _ h => h) (fun k hk _ => hk.1) (fun _ _ _ => rfl) _ (Rep.free _ q2 q1)
theorem execFn_ok (hT : TOk P T) (hm : P.follows .mixedOrders = true) (hN : ∀ p F, L p = some F → LNat F) {f : Nat} {fn : Func} (hf : P.funcs[f]? = some fn) (hc : callable P f = true) (hL : ∀ c, fn.body = some c → LOk P fn.ntmps L [] c) : FunOk P f (execFn P T L fuel fn) := by
  refine ⟨hc, fun R xs K => ?_, fun xs x h => ?_⟩
  · unfold execFn
    rw [execH_nat hT hN, execH_nat hT hN (R := AV), Option.bind_assoc]
    congr 1
    funext p
    rw [frzK_eq, frzK_eq, Option.bind_assoc]
    rfl
  · unfold execFn at h
    rw [execH_nat hT hN] at h
    obtain ⟨⟨r, β, nh⟩, h1, h2⟩ := Option.bind_eq_some_iff.1 h
    rw [frzK_eq] at h2
    obtain ⟨⟨y, hs⟩, hz, h2⟩ := Option.bind_eq_some_iff.1 h2
    injection h2 with h2
    subst h2
    exact heap_pure (execH_heap hT hm hN hf hL h1) hz
end
def oneOp' {R : Type} (P : Program) (T : Tab) (N : Nat) (nh : Nat) (ops : Array Oper) (o : Oper) (σ : Nat → AV) (K : (Nat → AV) → Eff → Option R) : Option R :=
  if dstOk N o = true then
    match o.guard with
    | none => doOp P T nh (tmOf σ) (bxOf σ) o (K σ)
    | some (j, want) => match (ops[j]?).bind (·.dst) with
      | some t => match σ (2 * t) with
        | .bool b => if b = want then (fun σ => doOp P T nh (tmOf σ) (bxOf σ) o (K σ)) (upd σ (2 * t) (.bool want)) else K (upd σ (2 * t) (.bool (!want))) (val (.tup []))
        | .tup [] => K σ (val (.tup []))
        | _ => none
      | none => none
  else none
def runOps' {R : Type} (P : Program) (T : Tab) (N : Nat) (ops : Array Oper) : List Oper → Nat → (Nat → AV) → List Fx → ((Nat → AV) → Nat → List Fx → Option R) → Option R
  | [], nh, σ, tr, K => K σ nh tr
  | o :: rest, nh, σ, tr, K => oneOp' P T N nh ops o σ fun σ e => runOps' P T N ops rest (nh + e.used) (put σ o.dst e) (tr ++ [fxOf ops o e]) K
def know (s : State) (c : Operand) (b : Bool) : State :=
  match c with
  | .tmp t => ⟨upd s.σ (2 * t) (.bool b), s.nh⟩
  | _ => s
def run' {R : Type} (P : Program) (T : Tab) (L : LTab) (N : Nat) (fuel : Nat) : List Nat → Code → State → (Ex → State → Option R) → Option R
  | _, .skip, s, K => K .normal s
  | _, .region _ ops draw, s, K =>
    runOps' P T N ops ops.toList s.nh s.σ [] fun σ nh tr =>
      if draw = true then (if (ordered (befs ops.toList []) tr && edgesOk ops.toList 0) = true then K .normal ⟨σ, nh⟩ else none) else K .normal ⟨σ, nh⟩
  | p, .seq a b, s, K => run' P T L N fuel (0 :: p) a s fun e s' => match e with
    | .normal => run' P T L N fuel (1 :: p) b s' K
    | e => K e s'
  | p, .cond c a b, s, K => match ev (tmOf s.σ) c with
    | .bool t => if t = true then run' P T L N fuel (0 :: p) a (know s c true) K else run' P T L N fuel (1 :: p) b (know s c false) K
    | _ => none
  | p, .block id b, s, K => run' P T L N fuel (0 :: p) b s fun e s' => match e with
    | .exit i => if i = id then K .normal s' else K (.exit i) s'
    | e => K e s'
  | p, .loop b, s, K => match L p with
    | some F => F R s K
    | none => loopN (run' P T L N fuel (0 :: p) b) fuel s K
  | _, .exit id, s, K => K (.exit id) s
  | _, .ret, s, K => K .ret s
  | _, _, _, _ => none
def execH' (P : Program) (T : Tab) (L : LTab) (fuel : Nat) (fn : Func) : HFun := fun R args β nh K =>
  match fn.body with
  | some c =>
    if args.length ≤ fn.ntmps then
      run' P T L fn.ntmps fuel [] c ⟨start args β, nh⟩ fun e s => match e with
        | .exit _ => none
        | _ => match retA P fn s.σ with | some r => K r (bxOf s.σ) s.nh | none => none
    else none
  | none => none
def execFn' (P : Program) (T : Tab) (L : LTab) (fuel : Nat) (fn : Func) : Fun := fun R args K => execH' P T L fuel fn R args (fun _ => .any) 0 fun r β _ => frzK β r fun x _ => K x
theorem upd_same {σ : Nat → AV} {x : Nat} {v : AV} (h : σ x = v) : upd σ x v = σ := by
  funext y
  rw [upd_eq]
  split
  · rename_i e; rw [e, h]
  · rfl
section
variable {P : Program} {N nh : Nat} {ops : Array Oper} {T : Tab} {L : LTab} {fuel : Nat}
theorem oneOp'_eq {R : Type} {o : Oper} {σ : Nat → AV} (K : (Nat → AV) → Eff → Option R) : oneOp' P T N nh ops o σ K = oneOp P T N nh ops o σ (K σ) := by
  unfold oneOp' oneOp
  split
  · cases hg : o.guard with
    | none => rfl
    | some p =>
      obtain ⟨j, want⟩ := p
      dsimp only
      unfold yieldA
      cases (ops[j]?).bind (·.dst) with
      | none => rfl
      | some t =>
        dsimp only
        cases hs : σ (2 * t) <;> try dsimp only
        rotate_left
        · rename_i l
          cases l <;> rfl
        rename_i b
        by_cases h : b = want
        · subst h
          rw [if_pos rfl, if_pos rfl, upd_same hs]
        · rw [if_neg h, if_neg h, upd_same (by rw [hs]; cases b <;> cases want <;> simp_all)]
  · rfl
theorem runOps'_eq {R : Type} (K : (Nat → AV) → Nat → List Fx → Option R) : ∀ (rest : List Oper) (nh : Nat) (σ : Nat → AV) (tr : List Fx), runOps' P T N ops rest nh σ tr K = runOps P T N ops rest nh σ tr K
  | [], _, _, _ => rfl
  | o :: rest, nh, σ, tr => by
    simp only [runOps', runOps, oneOp'_eq]
    congr 1
    funext e
    exact runOps'_eq K rest _ _ _
theorem know_eq {s : State} {c : Operand} {b : Bool} (h : ev (tmOf s.σ) c = .bool b) : know s c b = s := by
  cases c <;> simp only [know]
  rw [upd_same h]
theorem loopN_congr {R : Type} {f g : State → (Ex → State → Option R) → Option R} (h : ∀ s K, f s K = g s K) (K : Ex → State → Option R) : ∀ (n : Nat) (s : State), loopN f n s K = loopN g n s K
  | 0, _ => rfl
  | n + 1, s => by
    simp only [loopN, h]
    congr 1
    funext e s'
    cases e <;> simp only
    exact loopN_congr h K n s'
theorem run'_eq : ∀ (c : Code) (p : List Nat) {R : Type} (s : State) (K : Ex → State → Option R), run' P T L N fuel p c s K = run P T L N fuel p c s K := by
  intro c
  induction c with
  | region id ops draw => intro p R s K; simp only [run', run, runOps'_eq]
  | seq x y ihx ihy =>
    intro p R s K
    simp only [run', run, ihx]
    congr 1
    funext e s'
    cases e <;> simp only [ihy]
  | cond c x y ihx ihy =>
    intro p R s K
    simp only [run', run]
    cases hc : ev (tmOf s.σ) c <;> simp only [ihx, ihy]
    rename_i t
    cases t with
    | true => rw [if_pos rfl, if_pos rfl, know_eq hc]
    | false => rw [if_neg (by decide), if_neg (by decide), know_eq hc]
  | block id b ih =>
    intro p R s K
    simp only [run', run, ih]
    try congr 1
  | loop b ih =>
    intro p R s K
    simp only [run', run]
    cases L p with
    | some F => rfl
    | none => exact loopN_congr (fun s K => ih _ s K) K fuel s
  | _ => intro p R s K; rfl
theorem execH'_eq (fn : Func) : execH' P T L fuel fn = execH P T L fuel fn := by
  funext R args β nh K
  unfold execH' execH
  cases fn.body with
  | none => rfl
  | some c =>
    dsimp only
    split
    · rw [run'_eq]
      try congr 1
    · rfl
theorem execFn'_eq (fn : Func) : execFn' P T L fuel fn = execFn P T L fuel fn := by
  funext R args K
  unfold execFn' execFn
  rw [execH'_eq]
end
def pathEq : List Nat → List Nat → Bool
  | [], [] => true
  | a :: l, b :: m => bif Nat.beq a b then pathEq l m else false
  | _, _ => false
def bodies (q : List Nat) : List Nat → Code → List Code
  | p, .seq a b => bodies q (0 :: p) a ++ bodies q (1 :: p) b
  | p, .cond _ a b => bodies q (0 :: p) a ++ bodies q (1 :: p) b
  | p, .block _ b => bodies q (0 :: p) b
  | p, .loop b => bif pathEq p q then [b] else bodies q (0 :: p) b
  | _, _ => []
def lt : List (List Nat × LFun) → LTab
  | [], _ => none
  | (q, F) :: l, p => bif pathEq p q then some F else lt l p
theorem LOk_of {P : Program} {N : Nat} {l : List (List Nat × LFun)} : ∀ (c : Code) (p : List Nat), (∀ x ∈ l, ∀ b ∈ bodies x.1 p c, LoopOk P N b x.2) → LOk P N (lt l) p c := by
  intro c
  induction c with
  | seq a b iha ihb => intro p h; exact ⟨iha _ fun x hx y hy => h x hx y (List.mem_append_left _ hy), ihb _ fun x hx y hy => h x hx y (List.mem_append_right _ hy)⟩
  | cond c a b iha ihb => intro p h; exact ⟨iha _ fun x hx y hy => h x hx y (List.mem_append_left _ hy), ihb _ fun x hx y hy => h x hx y (List.mem_append_right _ hy)⟩
  | block id b ih => intro p h; exact ih _ h
  | loop b ih =>
    intro p h
    simp only [LOk]
    have key : ∀ (m : List (List Nat × LFun)), (∀ x ∈ m, x ∈ l) → (∀ F, lt m p = some F → LoopOk P N b F) ∧ (lt m p = none → ∀ x ∈ m, pathEq p x.1 = false) := by
      intro m
      induction m with
      | nil => intro _; exact ⟨fun F hF => (by cases hF), fun _ x hx => (by cases hx)⟩
      | cons y m ihm =>
        intro hm
        obtain ⟨q, F⟩ := y
        have ih2 := ihm fun x hx => hm x (List.mem_cons_of_mem _ hx)
        simp only [lt]
        cases hq : pathEq p q with
        | true =>
          refine ⟨fun F' hF => ?_, fun hF => (by cases hF)⟩
          injection hF with hF
          subst hF
          exact h (q, F) (hm _ List.mem_cons_self) b (by simp only [bodies, hq]; exact List.mem_singleton.2 rfl)
        | false =>
          refine ⟨ih2.1, fun hF x hx => ?_⟩
          rcases List.mem_cons.1 hx with rfl | hx
          · exact hq
          · exact ih2.2 hF x hx
    have hk := key l fun x hx => hx
    cases hL : lt l p with
    | some F => exact hk.1 F hL
    | none => exact ih _ fun x hx y hy => h x hx y (by simp only [bodies, hk.2 hL x hx]; exact hy)
  | _ => intro p h; exact trivial
theorem lt_nat {l : List (List Nat × LFun)} (h : ∀ x ∈ l, LNat x.2) : ∀ p F, lt l p = some F → LNat F := by
  intro p F hF
  induction l with
  | nil => cases hF
  | cons y l ih =>
    obtain ⟨q, F'⟩ := y
    simp only [lt] at hF
    cases hq : pathEq p q with
    | true =>
      rw [hq] at hF
      injection hF with hF
      subst hF
      exact h _ List.mem_cons_self
    | false => rw [hq] at hF; exact ih (fun x hx => h x (List.mem_cons_of_mem _ hx)) hF
theorem execFn'_ok {P : Program} {T : Tab} {l : List (List Nat × LFun)} {fuel : Nat} (hT : TOk P T) (hm : P.follows .mixedOrders = true) {f : Nat} {fn : Func} (hf : P.funcs[f]? = some fn) (hc : callable P f = true) (hN : ∀ x ∈ l, LNat x.2) (hL : ∀ c, fn.body = some c → ∀ x ∈ l, ∀ b ∈ bodies x.1 [] c, LoopOk P fn.ntmps b x.2) : FunOk P f (execFn' P T (lt l) fuel fn) := by
  rw [execFn'_eq]
  exact execFn_ok hT hm (lt_nat hN) hf hc fun c hb => LOk_of c [] (hL c hb)
theorem execH'_ok {P : Program} {T : Tab} {l : List (List Nat × LFun)} {fuel : Nat} (hT : TOk P T) (hm : P.follows .mixedOrders = true) {f : Nat} {fn : Func} (hf : P.funcs[f]? = some fn) (hc : callable P f = true) (hN : ∀ x ∈ l, LNat x.2) (hL : ∀ c, fn.body = some c → ∀ x ∈ l, ∀ b ∈ bodies x.1 [] c, LoopOk P fn.ntmps b x.2) : HFunOk P f (execH' P T (lt l) fuel fn) := by
  rw [execH'_eq]
  exact execH_ok hT hm (lt_nat hN) hf hc fun c hb => LOk_of c [] (hL c hb)
abbrev CF (A B : Type) := (R : Type) → A → (B → Option R) → Option R
structure Cd (A : Type) where
  dec : AV → Option A
  enc : A → AV
  ok : ∀ {φ : Nat → Option (Nat × Nat)} {W : World} {o : Nat → Prop} {x : AV} {v : Value} {a : A}, Rep φ W o x v → dec x = some a → Rep φ W o (enc a) v
structure Cds (A : Type) where
  dec : List AV → Option A
  enc : A → List AV
  ok : ∀ {φ : Nat → Option (Nat × Nat)} {W : World} {o : Nat → Prop} {x : List AV} {v : List Value} {a : A}, Reps φ W o x v → dec x = some a → Reps φ W o (enc a) v
def cb : Cd Bool where
  dec x := match x with | .bool b => some b | _ => none
  enc := .bool
  ok := fun {φ W o x v a} h e => by cases x <;> simp only [] at e <;> first | (cases e; done) | (injection e with e; subst e; exact h)
def cs : Cd ByteArray where
  dec x := match x with | .str b => some b | _ => none
  enc := .str
  ok := fun {φ W o x v a} h e => by cases x <;> simp only [] at e <;> first | (cases e; done) | (injection e with e; subst e; exact h)
def ci (k : IntKind) : Cd Int where
  dec x := match x with | .int k' n => if k' = k then some n else none | _ => none
  enc := .int k
  ok := fun {φ W o x v a} h e => by
    cases x <;> simp only [] at e <;> try (cases e; done)
    split at e
    · rename_i hk
      injection e with e
      subst e hk
      exact h
    · cases e
def cr (k : IntKind) : Cd (List Int) where
  dec x := match x with | .nil => some [] | .row k' l => if k' = k then some l else none | _ => none
  enc := .row k
  ok := fun {φ W o x v a} h e => by
    cases x <;> simp only [] at e <;> try (cases e; done)
    · injection e with e
      subst e
      simp only [Rep] at h ⊢
      subst h
      exact ⟨none, 0, rfl, Nat.le_refl _, fun W' _ => Kd.C_nil _ _⟩
    · split at e
      · rename_i hk
        injection e with e
        subst e hk
        exact h
      · cases e
def agg {A : Type} (c : Cds A) : Cd A where
  dec x := match x with | .agg l => c.dec l | _ => none
  enc a := .agg (c.enc a)
  ok := fun {φ W o x v a} h e => by
    cases x <;> simp only [] at e <;> try (cases e; done)
    simp only [Rep] at h ⊢
    obtain ⟨cs, h1, h2⟩ := h
    exact ⟨cs, h1, c.ok h2 e⟩
def tup {A : Type} (c : Cds A) : Cd A where
  dec x := match x with | .tup l => c.dec l | _ => none
  enc a := .tup (c.enc a)
  ok := fun {φ W o x v a} h e => by
    cases x <;> simp only [] at e <;> try (cases e; done)
    simp only [Rep] at h ⊢
    obtain ⟨cs, h1, h2⟩ := h
    exact ⟨cs, h1, c.ok h2 e⟩
def one {A : Type} (c : Cd A) : Cds A where
  dec l := match l with | [x] => c.dec x | _ => none
  enc a := [c.enc a]
  ok := fun {φ W o x v a} h e => by
    split at e
    · simp only [Reps] at h ⊢
      obtain ⟨v, vs', h1, h2, h3⟩ := h
      exact ⟨v, vs', h1, c.ok h2 e, h3⟩
    · cases e
def more {A B : Type} (c : Cd A) (cs : Cds B) : Cds (A × B) where
  dec l := match l with | x :: l => (match c.dec x with | some a => (match cs.dec l with | some b => some (a, b) | none => none) | none => none) | [] => none
  enc a := c.enc a.1 :: cs.enc a.2
  ok := fun {φ W o x v a} h e => by
    split at e
    · split at e
      · rename_i a1 h1
        split at e
        · rename_i b1 h2
          injection e with e
          subst e
          simp only [Reps] at h ⊢
          obtain ⟨v, vs', k1, k2, k3⟩ := h
          exact ⟨v, vs', k1, c.ok k2 h1, cs.ok k3 h2⟩
        · cases e
      · cases e
    · cases e
def arr {A : Type} (n : Nat) (c : Cds A) : Cd A where
  dec x := match x with | .arr m l => if m = n ∧ (c.dec l).isSome ∧ ((c.dec l).map fun a => (c.enc a).length) = some l.length then c.dec l else none | _ => none
  enc a := .arr n (c.enc a)
  ok := fun {φ W o x v a} h e => by
    cases x <;> simp only [] at e <;> try (cases e; done)
    split at e
    · rename_i hk
      obtain ⟨rfl, h1, h2⟩ := hk
      simp only [Rep] at h ⊢
      rw [e] at h2
      injection h2 with h2
      obtain ⟨p, n, cc, vs, k1, k2, k3, k4, k5, k6⟩ := h
      exact ⟨p, n, cc, vs, k1, k2, by rw [k3]; exact h2.symm, k4, k5, c.ok k6 e⟩
    · cases e
abbrev Nm := Bool × List Int × List Int
def rU := cr .u32
def rI := cr .i64
def iI := ci .i64
def kN : Cd Nm := agg (more cb (more rU (one rU)))
def kQ : Cd Nm := agg (more cb (more rI (one rI)))
def kE : Cd (Nm × Int) := tup (more kN (one iI))
def mk {A B : Type} (ca : Cds A) (cb : Cd B) (c : (R : Type) → A → (B → Option R) → Option R) : Fun := fun R ys K => match ca.dec ys with | some a => c R a fun b => K (cb.enc b) | none => none
theorem mk_ok {P : Program} {f : Nat} {A B : Type} {ca : Cds A} {cb : Cd B} {c : (R : Type) → A → (B → Option R) → Option R} (hc : callable P f = true) (hn : ∀ (R : Type) a (K : B → Option R), c R a K = (c B a some).bind K) (h : ∀ a b, c B a some = some b → PureC P f (ca.enc a) (cb.enc b)) : FunOk P f (mk ca cb c) := by
  refine ⟨hc, fun R xs K => ?_, fun xs x hx => ?_⟩
  · unfold mk
    split
    · rename_i a ha
      rw [hn R, hn AV, Option.bind_assoc]
      rfl
    · rfl
  · unfold mk at hx
    split at hx
    · rename_i a ha
      rw [hn] at hx
      obtain ⟨b, h1, h2⟩ := Option.bind_eq_some_iff.1 hx
      injection h2 with h2
      subst h2
      exact fun w P0 vs hr => h a b h1 w P0 vs (ca.ok hr ha)
    · cases hx
def dk {B R : Type} (c : Cd B) (K : B → Option R) (x : AV) : Option R := match c.dec x with | some b => K b | none => none
theorem exec_nat {P : Program} {f : Nat} {A B : Type} {F : Fun} {enc : A → List AV} {cb : Cd B} {c : (R : Type) → A → (B → Option R) → Option R} (hF : FunOk P f F)
    (h : ∀ (R : Type) a (K : B → Option R), F R (enc a) (dk cb K) = c R a K) (R : Type) (a : A) (K : B → Option R) : c R a K = (c B a some).bind K := by
  rw [← h, ← h, hF.2.1 R, hF.2.1 B, Option.bind_assoc]
  congr 1
  funext x
  unfold dk
  cases cb.dec x <;> rfl
theorem exec_pure {P : Program} {f : Nat} {A B : Type} {F : Fun} {enc : A → List AV} {cb : Cd B} {c : (R : Type) → A → (B → Option R) → Option R} (hF : FunOk P f F)
    (h : ∀ (R : Type) a (K : B → Option R), F R (enc a) (dk cb K) = c R a K) (a : A) (b : B) (hb : c B a some = some b) : PureC P f (enc a) (cb.enc b) := by
  rw [← h, hF.2.1 B] at hb
  obtain ⟨x, h1, h2⟩ := Option.bind_eq_some_iff.1 hb
  unfold dk at h2
  split at h2
  · rename_i b' hb'
    injection h2 with h2
    subst h2
    intro w P0 vs hr
    refine Calls.mono (hF.2.2 _ _ h1 w P0 vs hr) fun e w' he => ?_
    obtain ⟨v, e1, e2, e3⟩ := he
    exact ⟨v, e1, e2, cb.ok e3 hb'⟩
  · cases h2
def Shown (P : Program) (f : Nat) {A B : Type} (enc : A → List AV) (cb : Cd B) (c : CF A B) : Prop := (∀ (R : Type) a (K : B → Option R), c R a K = (c B a some).bind K) ∧ ∀ a b, c B a some = some b → PureC P f (enc a) (cb.enc b)
theorem exec_shown {P : Program} {T : Tab} {fuel f : Nat} {fn : Func} {A B : Type} {enc : A → List AV} {cb : Cd B} {c : CF A B} (hT : TOk P T) (hm : P.follows .mixedOrders = true) (hf : P.funcs[f]? = some fn) (hc : callable P f = true)
    (h : ∀ (R : Type) a (K : B → Option R), execFn' P T (lt []) fuel fn R (enc a) (dk cb K) = c R a K) : Shown P f enc cb c :=
  have hF : FunOk P f (execFn' P T (lt []) fuel fn) := execFn'_ok hT hm hf hc (fun x hx => by cases hx) (fun c hc x hx => by cases hx)
  ⟨exec_nat hF h, exec_pure hF h⟩
theorem exec_shownL {P : Program} {T : Tab} {l : List (List Nat × LFun)} {fuel f : Nat} {fn : Func} {A B : Type} {enc : A → List AV} {cb : Cd B} {c : CF A B} (hT : TOk P T) (hm : P.follows .mixedOrders = true) (hf : P.funcs[f]? = some fn) (hc : callable P f = true) (hN : ∀ x ∈ l, LNat x.2) (hL : ∀ c, fn.body = some c → ∀ x ∈ l, ∀ b ∈ bodies x.1 [] c, LoopOk P fn.ntmps b x.2)
    (h : ∀ (R : Type) a (K : B → Option R), execFn' P T (lt l) fuel fn R (enc a) (dk cb K) = c R a K) : Shown P f enc cb c :=
  have hF : FunOk P f (execFn' P T (lt l) fuel fn) := execFn'_ok hT hm hf hc hN hL
  ⟨exec_nat hF h, exec_pure hF h⟩
theorem Shown.ok {P : Program} {f : Nat} {A B : Type} {ca : Cds A} {cb : Cd B} {c : CF A B} (h : Shown P f ca.enc cb c) (hc : callable P f = true) : FunOk P f (mk ca cb c) := mk_ok hc h.1 h.2
def Evt {A : Type} (g : Nat → Option A) (a : A) : Prop := ∃ k0, ∀ k, k0 ≤ k → g k = some a
open Classical in
noncomputable def lim {A : Type} (g : Nat → Option A) : Option A := if h : ∃ a, Evt g a then some h.choose else none
theorem Evt.unique {A : Type} {g : Nat → Option A} {a b : A} (h : Evt g a) (h' : Evt g b) : a = b := by
  obtain ⟨n, h1⟩ := h
  obtain ⟨m, h2⟩ := h'
  have e1 := h1 (max n m) (Nat.le_max_left _ _)
  have e2 := h2 (max n m) (Nat.le_max_right _ _)
  rw [e1] at e2
  injection e2
theorem lim_ev {A : Type} {g : Nat → Option A} {a : A} (h : Evt g a) : lim g = some a := by
  have hx : ∃ a, Evt g a := ⟨a, h⟩
  unfold lim
  rw [dif_pos hx]
  exact congrArg some (hx.choose_spec.unique h)
theorem lim_some {A : Type} {g : Nat → Option A} {a : A} (h : lim g = some a) : ∃ k, g k = some a := by
  unfold lim at h
  split at h
  · rename_i hx
    injection h with h
    obtain ⟨k, hk⟩ := hx.choose_spec
    exact ⟨k, by rw [← h]; exact hk k (Nat.le_refl k)⟩
  · cases h
noncomputable def lm {A B : Type} (g : A → Nat → Option B) (R : Type) (a : A) (K : B → Option R) : Option R := (lim (g a)).bind K
def at' {A B : Type} (g : A → Option B) (R : Type) (a : A) (K : B → Option R) : Option R := (g a).bind K
theorem lm_ok {P : Program} {f : Nat} {A B : Type} {ca : Cds A} {cb : Cd B} {g : A → Nat → Option B} (hc : callable P f = true) (h : ∀ a b k, g a k = some b → PureC P f (ca.enc a) (cb.enc b)) : FunOk P f (mk ca cb (lm g)) := by
  refine mk_ok hc (fun R a K => by unfold lm; cases lim (g a) <;> rfl) fun a b hb => ?_
  unfold lm at hb
  obtain ⟨x, h1, h2⟩ := Option.bind_eq_some_iff.1 hb
  injection h2 with h2
  subst h2
  obtain ⟨k, hk⟩ := lim_some h1
  exact h a x k hk
theorem at_ok {P : Program} {f : Nat} {A B : Type} {ca : Cds A} {cb : Cd B} {g : A → Option B} (hc : callable P f = true) (h : ∀ a b, g a = some b → PureC P f (ca.enc a) (cb.enc b)) : FunOk P f (mk ca cb (at' g)) := by
  refine mk_ok hc (fun R a K => by unfold at'; cases g a <;> rfl) fun a b hb => ?_
  unfold at' at hb
  obtain ⟨x, h1, h2⟩ := Option.bind_eq_some_iff.1 hb
  injection h2 with h2
  subst h2
  exact h a x h1
theorem lm_ev {A B R : Type} {g : A → Nat → Option B} {a : A} {b : B} (h : Evt (g a) b) (K : B → Option R) : lm g R a K = K b := by unfold lm; rw [lim_ev h]; rfl
theorem at_eq {A B R : Type} {g : A → Option B} {a : A} {b : B} (h : g a = some b) (K : B → Option R) : at' g R a K = K b := by unfold at'; rw [h]; rfl
def tb : List (Nat × Fun) → Tab
  | [], _ => none
  | (n, F) :: l, g => bif Nat.beq n g then some (.pure F) else tb l g
theorem tb_nil {P : Program} : TOk P (tb []) := fun g F h => by cases h
theorem tb_cons {P : Program} {n : Nat} {F : Fun} {l : List (Nat × Fun)} (h : FunOk P n F) (hl : TOk P (tb l)) : TOk P (tb ((n, F) :: l)) := fun g G hg => by
  simp only [tb] at hg
  cases hb : Nat.beq n g with
  | true =>
    rw [hb] at hg
    injection hg with hg
    have := Nat.eq_of_beq_eq_true hb
    subst this hg
    exact h
  | false =>
    rw [hb] at hg
    exact hl g G hg
mutual
def low (c0 : Nat) : AV → Bool
  | .ptr h _ | .sl _ h _ | .mp h => Nat.blt h c0
  | .mc _ _ _ _ => false
  | .arr _ l | .at_ l | .agg l | .tup l | .fn _ l => lows c0 l
  | _ => true
def lows (c0 : Nat) : List AV → Bool
  | [] => true
  | x :: l => bif low c0 x then lows c0 l else false
end
section
variable {φ : Nat → Option (Nat × Nat)} {W : World} {ok : Nat → Prop} {c0 : Nat}
theorem lim_at {h : Nat} {b : Nat × Nat} (hl : Nat.blt h c0 = true) (hh : φ h = some b) : lim' φ c0 h = some b := by
  rw [Nat.blt_eq] at hl
  unfold lim'
  rw [if_pos hl]
  exact hh
mutual
theorem Rep.lim : ∀ (x : AV) {v : Value}, low c0 x = true → Rep φ W ok x v → Rep (lim' φ c0) W ok x v
  | .any, _, _, h => by simp only [Rep]
  | .bool b, _, _, h => by simpa only [Rep] using h
  | .int k n, _, _, h => by simpa only [Rep] using h
  | .str s, _, _, h => by simpa only [Rep] using h
  | .nil, _, _, h => by simpa only [Rep] using h
  | .row k l, _, _, h => by simpa only [Rep] using h
  | .arr sz l, _, hn, h => by
    simp only [Rep] at h ⊢; simp only [low] at hn
    obtain ⟨a, n, c, vs, h1, h2, h3, h4, h5, h6⟩ := h
    exact ⟨a, n, c, vs, h1, h2, h3, h4, h5, Reps.lim l hn h6⟩
  | .at_ l, _, hn, h => by
    simp only [Rep] at h ⊢; simp only [low] at hn
    obtain ⟨a, vs, h1, h2, h3, h4⟩ := h
    exact ⟨a, vs, h1, h2, h3, Reps.lim l hn h4⟩
  | .z0, _, _, h => by simpa only [Rep] using h
  | .pnil, _, _, h => by simpa only [Rep] using h
  | .mnil, _, _, h => by simpa only [Rep] using h
  | .fnil, _, _, h => by simpa only [Rep] using h
  | .mc _ _ _ _, _, hn, _ => by simp [low] at hn
  | .ptr h off, _, hn, hh => by
    simp only [Rep] at hh ⊢; simp only [low] at hn
    obtain ⟨b, t, h1, h2⟩ := hh
    exact ⟨b, t, lim_at hn h1, h2⟩
  | .sl s h n, _, hn, hh => by
    simp only [Rep] at hh ⊢; simp only [low] at hn
    obtain ⟨b, c, h1, h2⟩ := hh
    exact ⟨b, c, lim_at hn h1, h2⟩
  | .mp h, _, hn, hh => by
    simp only [Rep] at hh ⊢; simp only [low] at hn
    obtain ⟨b, h1, h2⟩ := hh
    exact ⟨b, lim_at hn h1, h2⟩
  | .fn f l, _, hn, h => by
    simp only [Rep] at h ⊢; simp only [low] at hn
    obtain ⟨cs, h1, h2⟩ := h
    exact ⟨cs, h1, Reps.lim l hn h2⟩
  | .agg l, _, hn, h => by
    simp only [Rep] at h ⊢; simp only [low] at hn
    obtain ⟨cs, h1, h2⟩ := h
    exact ⟨cs, h1, Reps.lim l hn h2⟩
  | .tup l, _, hn, h => by
    simp only [Rep] at h ⊢; simp only [low] at hn
    obtain ⟨cs, h1, h2⟩ := h
    exact ⟨cs, h1, Reps.lim l hn h2⟩
theorem Reps.lim : ∀ (l : List AV) {vs : List Value}, lows c0 l = true → Reps φ W ok l vs → Reps (lim' φ c0) W ok l vs
  | [], _, _, h => by simpa only [Reps] using h
  | x :: l, _, hn, h => by
    simp only [Reps] at h ⊢; simp only [lows] at hn
    obtain ⟨v, vs', h1, h2, h3⟩ := h
    cases hx : low c0 x with
    | false => rw [hx] at hn; cases hn
    | true => rw [hx] at hn; exact ⟨v, vs', h1, Rep.lim x hx h2, Reps.lim l hn h3⟩
end
end
def lowC (c0 : Nat) : AV → Bool
  | .row _ _ => true
  | .agg l => lows c0 l
  | _ => false
theorem HoldsC.lim {φ : Nat → Option (Nat × Nat)} {W : World} {ok : Nat → Prop} {c0 h : Nat} {l : List AV} (hh : Nat.blt h c0 = true) (hl : lows c0 l = true) (hH : HoldsC φ W ok h l) : HoldsC (lim' φ c0) W ok h l := by
  obtain ⟨b, t, vs, e, h1, h2, h3, h4, h5⟩ := hH
  exact ⟨b, t, vs, e, lim_at hh h1, h2, h3, h4, Reps.lim _ hl h5⟩
theorem lows_ints (c0 : Nat) (k : IntKind) : ∀ (l : List Int), lows c0 (l.map (.int k)) = true
  | [] => rfl
  | x :: l => by simp only [List.map_cons, lows, low]; exact lows_ints c0 k l
theorem Holds.lim {φ : Nat → Option (Nat × Nat)} {W : World} {ok : Nat → Prop} {c0 h : Nat} : ∀ {x : AV}, Nat.blt h c0 = true → lowC c0 x = true → Holds φ W ok h x → Holds (lim' φ c0) W ok h x := by
  intro x hh hl hH
  cases x <;> simp only [lowC] at hl <;> (try cases hl; done) <;> simp only [Holds] at hH ⊢
  · exact hH.lim hh (lows_ints _ _ _)
  · exact hH.lim hh hl
def TR (c0 : Nat) (x y : AV) : Prop := ∀ {φ : Nat → Option (Nat × Nat)} {W : World} {o : Nat → Prop} {v : Value}, Rep φ W o x v → Rep (lim' φ c0) W o y v
def BR (c0 h : Nat) (x y : AV) : Prop := y = .any ∨ (x = y ∧ ∀ {φ : Nat → Option (Nat × Nat)} {W : World} {o : Nat → Prop}, Holds φ W o h x → Holds (lim' φ c0) W o h x)
def Told (c0 : Nat) (σ σ' : Nat → AV) : Prop := (∀ t, TR c0 (σ (2 * t)) (σ' (2 * t))) ∧ ∀ h, BR c0 h (σ (2 * h + 1)) (σ' (2 * h + 1))
structure CdS (A : Type) where
  dec : Nat → (Nat → AV) → Option A
  enc : A → Nat → AV
  ok : ∀ {c0 σ d}, dec c0 σ = some d → Told c0 σ (enc d)
def snil : CdS Unit where
  dec _ _ := some ()
  enc _ := fun _ => .any
  ok := fun {c0 σ d} _ => ⟨fun t φ W o v _ => by simp only [Rep], fun h => .inl rfl⟩
theorem Told.tmp {c0 t : Nat} {σ σ' : Nat → AV} {y : AV} (h : Told c0 σ σ') (hy : TR c0 (σ (2 * t)) y) : Told c0 σ (upd σ' (2 * t) y) := by
  refine ⟨fun t' => ?_, fun k => ?_⟩
  · by_cases ht : t' = t
    · subst ht
      have : upd σ' (2 * t') y (2 * t') = y := by simp [upd_eq]
      rw [this]
      exact hy
    · have : upd σ' (2 * t) y (2 * t') = σ' (2 * t') := by simp only [upd_eq]; rw [if_neg (by omega)]
      rw [this]
      exact h.1 t'
  · have : upd σ' (2 * t) y (2 * k + 1) = σ' (2 * k + 1) := by simp only [upd_eq]; rw [if_neg (by omega)]
    rw [this]
    exact h.2 k
theorem Told.box {c0 k : Nat} {σ σ' : Nat → AV} {y : AV} (h : Told c0 σ σ') (hy : BR c0 k (σ (2 * k + 1)) y) : Told c0 σ (upd σ' (2 * k + 1) y) := by
  refine ⟨fun t' => ?_, fun k' => ?_⟩
  · have : upd σ' (2 * k + 1) y (2 * t') = σ' (2 * t') := by simp only [upd_eq]; rw [if_neg (by omega)]
    rw [this]
    exact fun {φ W o v} hr => h.1 t' hr
  · by_cases ht : k' = k
    · subst ht
      have : upd σ' (2 * k' + 1) y (2 * k' + 1) = y := by simp [upd_eq]
      rw [this]
      exact hy
    · have : upd σ' (2 * k + 1) y (2 * k' + 1) = σ' (2 * k' + 1) := by simp only [upd_eq]; rw [if_neg (by omega)]
      rw [this]
      exact h.2 k'
def stmp {A B : Type} (t : Nat) (c : Cd A) (r : CdS B) : CdS (A × B) where
  dec c0 σ := bif low c0 (σ (2 * t)) then (match c.dec (σ (2 * t)) with | some a => (match r.dec c0 σ with | some b => some (a, b) | none => none) | none => none) else none
  enc d := upd (r.enc d.2) (2 * t) (c.enc d.1)
  ok := fun {c0 σ d} h => by
    cases hl : low c0 (σ (2 * t)) with
    | false => rw [hl] at h; cases h
    | true =>
      rw [hl] at h
      dsimp only [cond] at h
      split at h
      · rename_i a ha
        split at h
        · rename_i b hb
          injection h with h
          subst h
          exact (r.ok hb).tmp fun {φ W o v} hr => c.ok (Rep.lim _ hl hr) ha
        · cases h
      · cases h
def stmpC {B : Type} (t : Nat) (c : Cd Unit) (r : CdS B) : CdS B where
  dec c0 σ := bif low c0 (σ (2 * t)) then (match c.dec (σ (2 * t)) with | some _ => r.dec c0 σ | none => none) else none
  enc d := upd (r.enc d) (2 * t) (c.enc ())
  ok := fun {c0 σ d} h => by
    cases hl : low c0 (σ (2 * t)) with
    | false => rw [hl] at h; cases h
    | true =>
      rw [hl] at h
      dsimp only [cond] at h
      split at h
      · rename_i a ha
        exact (r.ok h).tmp fun {φ W o v} hr => c.ok (Rep.lim _ hl hr) ha
      · cases h
structure CdC (A : Type) where
  dec : AV → Option A
  enc : A → AV
  ok : ∀ {x a}, dec x = some a → enc a = x
def sbox {A B : Type} (k : Nat) (c : CdC A) (r : CdS B) : CdS (A × B) where
  dec c0 σ := bif Nat.blt k c0 then (bif lowC c0 (σ (2 * k + 1)) then (match c.dec (σ (2 * k + 1)) with | some a => (match r.dec c0 σ with | some b => some (a, b) | none => none) | none => none) else none) else none
  enc d := upd (r.enc d.2) (2 * k + 1) (c.enc d.1)
  ok := fun {c0 σ d} h => by
    cases hk : Nat.blt k c0 with
    | false => rw [hk] at h; cases h
    | true =>
      cases hl : lowC c0 (σ (2 * k + 1)) with
      | false => rw [hk, hl] at h; cases h
      | true =>
        rw [hk, hl] at h
        dsimp only [cond] at h
        split at h
        · rename_i a ha
          split at h
          · rename_i b hb
            injection h with h
            subst h
            exact (r.ok hb).box (.inr ⟨(c.ok ha).symm, fun {φ W o} hH => Holds.lim hk hl hH⟩)
          · cases h
        · cases h
def crow (k : IntKind) : CdC (List Int) where
  dec x := match x with | .row k' l => if k' = k then some l else none | _ => none
  enc := .row k
  ok := fun {x a} h => by
    split at h
    · split at h
      · rename_i hk
        injection h with h
        subst h hk
        rfl
      · cases h
    · cases h
def lb : CdC Bool where
  dec x := match x with | .bool b => some b | _ => none
  enc := .bool
  ok := fun {x a} h => by split at h <;> first | (cases h; done) | (injection h with h; subst h; rfl)
def lnil : CdC Unit where
  dec x := match x with | .nil => some () | _ => none
  enc _ := .nil
  ok := fun {x a} h => by split at h <;> first | (cases h; done) | rfl
structure CdL (A : Type) where
  dec : List AV → Option A
  enc : A → List AV
  ok : ∀ {x a}, dec x = some a → enc a = x
def lnone : CdL Unit where
  dec l := match l with | [] => some () | _ => none
  enc _ := []
  ok := fun {x a} h => by split at h <;> first | (cases h; done) | rfl
def lmore {A B : Type} (c : CdC A) (r : CdL B) : CdL (A × B) where
  dec l := match l with | x :: l => (match c.dec x with | some a => (match r.dec l with | some b => some (a, b) | none => none) | none => none) | [] => none
  enc d := c.enc d.1 :: r.enc d.2
  ok := fun {x a} h => by
    split at h
    · split at h
      · rename_i a1 h1
        split at h
        · rename_i b1 h2
          injection h with h
          subst h
          show _ :: _ = _
          rw [c.ok h1, r.ok h2]
        · cases h
      · cases h
    · cases h
def lmoreC {B : Type} (c : CdC Unit) (r : CdL B) : CdL B where
  dec l := match l with | x :: l => (match c.dec x with | some _ => r.dec l | none => none) | [] => none
  enc d := c.enc () :: r.enc d
  ok := fun {x a} h => by
    split at h
    · split at h
      · rename_i a1 h1
        show _ :: _ = _
        rw [c.ok h1, r.ok h]
      · cases h
    · cases h
def cagg {A : Type} (c : CdL A) : CdC A where
  dec x := match x with | .agg l => c.dec l | _ => none
  enc a := .agg (c.enc a)
  ok := fun {x a} h => by
    split at h
    · rw [c.ok h]
    · cases h
def csl (s h : Nat) : Cd Nat where
  dec x := match x with | .sl s' h' n => (bif Nat.beq s' s then (bif Nat.beq h' h then some n else none) else none) | _ => none
  enc n := .sl s h n
  ok := fun {φ W o x v a} hr e => by
    split at e
    · rename_i s' h' n
      cases hs : Nat.beq s' s with
      | false => rw [hs] at e; cases e
      | true =>
        cases hh : Nat.beq h' h with
        | false => rw [hs, hh] at e; cases e
        | true =>
          rw [hs, hh] at e
          injection e with e
          subst e
          rw [← Nat.eq_of_beq_eq_true hs, ← Nat.eq_of_beq_eq_true hh]
          exact hr
    · cases e
def cptr (h off : Nat) : Cd Unit where
  dec x := match x with | .ptr h' o' => (bif Nat.beq h' h then (bif Nat.beq o' off then some () else none) else none) | _ => none
  enc _ := .ptr h off
  ok := fun {φ W o x v a} hr e => by
    split at e
    · rename_i h' o'
      cases hs : Nat.beq h' h with
      | false => rw [hs] at e; cases e
      | true =>
        cases hh : Nat.beq o' off with
        | false => rw [hs, hh] at e; cases e
        | true =>
          rw [← Nat.eq_of_beq_eq_true hs, ← Nat.eq_of_beq_eq_true hh]
          exact hr
    · cases e
theorem InS.told {N B : Nat} {P0 : Nat → Prop} {X : Ctx} {w0 : World} {G : Nat → Prop} {s : State} {φ : Nat → Option (Nat × Nat)} {a : Act} {w : World} {c0 : Nat} {σ' : Nat → AV} (hs : InS N B P0 X w0 G s φ a w) (hG : ∀ h, G h → h < c0) (hX : X.g ≤ c0) (hc : c0 ≤ s.nh) (ht : Told c0 s.σ σ') : InS N B P0 X w0 G ⟨σ', c0⟩ (lim' φ c0) a w := by
  obtain ⟨_, _, h⟩ := hs
  have hle : ∀ k b, lim' φ c0 k = some b → φ k = some b := fun k b hk => by
    unfold lim' at hk
    split at hk
    · exact hk
    · cases hk
  have hlive : ∀ k, σ' (2 * k + 1) ≠ .any → s.σ (2 * k + 1) = σ' (2 * k + 1) ∧ ∀ {φ : Nat → Option (Nat × Nat)} {W : World} {o : Nat → Prop}, Holds φ W o k (s.σ (2 * k + 1)) → Holds (lim' φ c0) W o k (s.σ (2 * k + 1)) := fun k hk => by
    rcases ht.2 k with h1 | h1
    · exact absurd h1 hk
    · exact h1
  have hok : ∀ k, Ok B P0 s.σ φ k → k < w.heap.size → Ok B P0 σ' (lim' φ c0) k := fun k hk _ => ⟨hk.1, fun j t hj hjk => hk.2 j t (by rw [(hlive j hj).1]; exact hj) (hle _ _ hjk)⟩
  refine ⟨hG, hX, { h with tmps := fun t => ?_, boxes := fun k hk => ?_, own := fun k b t hk => h.own k b t (hle _ _ hk), inj := fun k k' b t t' hk hk' h1 h2 => h.inj k k' b t t' (by rw [(hlive k hk).1]; exact hk) (by rw [(hlive k' hk').1]; exact hk') (hle _ _ h1) (hle _ _ h2), gh := fun i x u hi hx => ?_, fr := fun k hk => ?_ }⟩
  · exact Rep.move (fun _ _ h => h) hok (fun _ _ _ => rfl) _ (ht.1 t (h.tmps t))
  · obtain ⟨e1, e2⟩ := hlive k hk
    have := e2 (h.boxes k (by rw [e1]; exact hk))
    rw [e1] at this
    exact this.move (fun _ _ h => h) hok (fun _ _ _ => rfl) (fun _ _ _ => rfl)
  · have hR := h.gh i x u hi hx
    refine Rep.move (fun k b hk => ?_) hok (fun _ _ _ => rfl) _ hR
    unfold lim' at hk ⊢
    split at hk
    · rename_i hki
      rw [if_pos hki, if_pos (by omega)]
      exact hk
    · cases hk
  · unfold lim'
    dsimp only at hk
    split
    · rename_i hkc
      rcases hk with hk | hk
      · exact h.fr k (.inl hk)
      · omega
    · rfl
def exEq : Ex → Ex → Bool
  | .normal, .normal => true
  | .ret, .ret => true
  | .exit a, .exit b => Nat.beq a b
  | _, _ => false
theorem exEq_eq {a b : Ex} (h : exEq a b = true) : a = b := by
  cases a <;> cases b <;> simp only [exEq] at h <;> first
    | rfl
    | (cases h; done)
    | (rw [Nat.eq_of_beq_eq_true h])
structure CdZ (Z : Type) where
  dec : Nat → Ex → (Nat → AV) → Option Z
  enc : Z → Ex × (Nat → AV)
  go : (R : Type) → Z → (Ex → (Nat → AV) → Option R) → Option R
  go_eq : ∀ (R : Type) z (K : Ex → (Nat → AV) → Option R), go R z K = K (enc z).1 (enc z).2
  ok : ∀ {c0 e σ z}, dec c0 e σ = some z → (enc z).1 = e ∧ Told c0 σ (enc z).2
def zone {A : Type} (e0 : Ex) (c : CdS A) : CdZ A where
  dec c0 e σ := bif exEq e0 e then c.dec c0 σ else none
  enc d := (e0, c.enc d)
  go R d K := K e0 (c.enc d)
  go_eq R d K := rfl
  ok := fun {c0 e σ z} h => by
    cases he : exEq e0 e with
    | false => rw [he] at h; cases h
    | true => rw [he] at h; exact ⟨exEq_eq he, c.ok h⟩
def oneOf {A B R : Type} (f : A → Option R) (g : B → Option R) : A ⊕ B → Option R
  | .inl x => f x
  | .inr y => g y
def zor {A B : Type} (a : CdZ A) (b : CdZ B) : CdZ (A ⊕ B) where
  dec c0 e σ := match a.dec c0 e σ with | some x => some (.inl x) | none => (match b.dec c0 e σ with | some y => some (.inr y) | none => none)
  enc z := match z with | .inl x => a.enc x | .inr y => b.enc y
  go R z K := oneOf (fun x => a.go R x K) (fun y => b.go R y K) z
  go_eq R z K := by
    cases z with
    | inl x => exact a.go_eq R x K
    | inr y => exact b.go_eq R y K
  ok := fun {c0 e σ z} h => by
    split at h
    · rename_i x hx
      injection h with h
      subst h
      exact a.ok hx
    · split at h
      · rename_i y hy
        injection h with h
        subst h
        exact b.ok hy
      · cases h
def dz {D Z R : Type} (c0 : Nat) (cD : CdS D) (cZ : CdZ Z) (Kn : D → Option R) (Kz : Z → Option R) (e : Ex) (s : State) : Option R :=
  match e with
  | .normal => bif Nat.ble c0 s.nh then (match cD.dec c0 s.σ with | some d => Kn d | none => none) else none
  | e => bif Nat.ble c0 s.nh then (match cZ.dec c0 e s.σ with | some z => Kz z | none => none) else none
abbrev Rnd (D Z : Type) := (R : Type) → D → (D → Option R) → (Z → Option R) → Option R
def iter {D Z : Type} (b : Rnd D Z) : Nat → (R : Type) → D → (Z → Option R) → Option R
  | 0, _, _, _ => none
  | n + 1, R, d, K => b R d (fun d' => iter b n R d' K) K
abbrev LF (D Z : Type) := (R : Type) → D → (Z → Option R) → Option R
def loopG {D Z : Type} (c0 : Nat) (cD : CdS D) (cZ : CdZ Z) (l : LF D Z) : LFun := fun R s K => bif Nat.beq s.nh c0 then (match cD.dec c0 s.σ with | some d => l R d fun z => cZ.go R z fun e σ => K e ⟨σ, c0⟩ | none => none) else none
def loopD {D Z : Type} (c0 : Nat) (cD : CdS D) (cZ : CdZ Z) (b : Rnd D Z) (n : Nat) : LFun := loopG c0 cD cZ (iter b n)
theorem loopD_eq {D Z : Type} {c0 : Nat} {cD : CdS D} {cZ : CdZ Z} {b : Rnd D Z} {n : Nat} {R : Type} {s : State} {K : Ex → State → Option R} : loopD c0 cD cZ b n R s K = bif Nat.beq s.nh c0 then (match cD.dec c0 s.σ with | some d => iter b n R d fun z => K (cZ.enc z).1 ⟨(cZ.enc z).2, c0⟩ | none => none) else none := by
  unfold loopD loopG
  simp only [cZ.go_eq]
section
variable {P : Program} {N c0 : Nat} {T : Tab} {L : LTab} {fuel : Nat} {D Z : Type} {cD : CdS D} {cZ : CdZ Z} {b : Rnd D Z} {q : List Nat} {c : Code}
def RNat (b : Rnd D Z) : Prop := ∀ (R : Type) d (Kn : D → Option R) (Kz : Z → Option R), b R d Kn Kz = (b (D ⊕ Z) d (fun d => some (.inl d)) fun z => some (.inr z)).bind fun x => match x with | .inl d => Kn d | .inr z => Kz z
theorem rnd_nat (hT : TOk P T) (hN : ∀ p F, L p = some F → LNat F) (hb : ∀ (R : Type) d (Kn : D → Option R) (Kz : Z → Option R), run' P T L N fuel q c ⟨cD.enc d, c0⟩ (dz c0 cD cZ Kn Kz) = b R d Kn Kz) : RNat b := by
  intro R d Kn Kz
  rw [← hb, ← hb, run'_eq, run'_eq, run_nat hT hN, run_nat hT hN (R := D ⊕ Z), Option.bind_assoc]
  congr 1
  funext x
  obtain ⟨e, s⟩ := x
  unfold dz
  cases e <;> dsimp only <;> cases Nat.ble c0 s.nh <;> dsimp only [cond] <;> first
    | rfl
    | (cases cD.dec c0 s.σ <;> rfl)
    | (cases cZ.dec c0 _ s.σ <;> rfl)
theorem iter_nat (hb : RNat b) : ∀ (n : Nat) (R : Type) (d : D) (K : Z → Option R), iter b n R d K = (iter b n Z d some).bind K
  | 0, _, _, _ => rfl
  | n + 1, R, d, K => by
    simp only [iter]
    rw [hb R, hb Z, Option.bind_assoc]
    congr 1
    funext x
    cases x with
    | inl d' => exact iter_nat hb n R d' K
    | inr z => rfl
theorem loop_nat (hb : RNat b) (n : Nat) : LNat (loopD c0 cD cZ b n) := by
  intro R s K
  rw [loopD_eq, loopD_eq]
  cases Nat.beq s.nh c0 with
  | false => rfl
  | true =>
    dsimp only [cond]
    cases cD.dec c0 s.σ with
    | none => rfl
    | some d =>
      dsimp only
      rw [iter_nat hb, iter_nat hb n (Ex × State), Option.bind_assoc]
      rfl
theorem loop_ok (hT : TOk P T) (hm : P.follows .mixedOrders = true) (hN : ∀ p F, L p = some F → LNat F) (hL : LOk P N L q c)
    (hb : ∀ (R : Type) d (Kn : D → Option R) (Kz : Z → Option R), run' P T L N fuel q c ⟨cD.enc d, c0⟩ (dz c0 cD cZ Kn Kz) = b R d Kn Kz) (n : Nat) : LoopOk P N c (loopD c0 cD cZ b n) := by
  refine ⟨loop_nat (rnd_nat hT hN hb) n, ?_⟩
  intro B P0 X w0 w G φ a s s' e h hs Q hQ
  rw [loopD_eq] at h
  cases hn : Nat.beq s.nh c0 with
  | false => rw [hn] at h; cases h
  | true =>
    rw [hn] at h
    dsimp only [cond] at h
    have hn := Nat.eq_of_beq_eq_true hn
    have hG : ∀ h, G h → h < c0 := fun h hh => by have := hs.1 h hh; omega
    have hX : X.g ≤ c0 := by have := hs.2.1; omega
    split at h
    · rename_i d hd
      have hs0 := hs.told hG hX (by omega) (cD.ok hd)
      refine wp_loop_rounds n ?_
      have key : ∀ (n : Nat) (d : D) (φ : Nat → Option (Nat × Nat)) (a : Act) (w : World), iter b n (Ex × State) d (fun z => some ((cZ.enc z).1, ⟨(cZ.enc z).2, c0⟩)) = some (e, s') → InS N B P0 X w0 G ⟨cD.enc d, c0⟩ φ a w → Code.rounds P c Q n a w := by
        intro n
        induction n with
        | zero => intro d φ a w h; simp [iter] at h
        | succ n ih =>
          intro d φ a w h hs
          simp only [iter] at h
          rw [← hb, run'_eq] at h
          refine run_sound hT hm hN c q _ _ _ φ a w hL h hs fun e1 s1 φ' a' w' hs' hK => ?_
          unfold dz at hK
          have fin : ∀ e1, (bif Nat.ble c0 s1.nh then (match cZ.dec c0 e1 s1.σ with | some z => some ((cZ.enc z).1, (⟨(cZ.enc z).2, c0⟩ : State)) | none => none) else none) = some (e, s') → Q (toExit e1) a' w' := by
            intro e1 hK
            cases hbl : Nat.ble c0 s1.nh with
            | false => rw [hbl] at hK; cases hK
            | true =>
              rw [hbl] at hK
              dsimp only [cond] at hK
              split at hK
              · rename_i z hz
                injection hK with hK
                injection hK with h1 h2
                subst h1 h2
                obtain ⟨k1, k2⟩ := cZ.ok hz
                have := hQ _ a' w' (hs'.told hG hX (Nat.le_of_ble_eq_true hbl) k2)
                rw [k1] at this
                exact this
              · cases hK
          cases e1 with
          | normal =>
            dsimp only at hK
            cases hbl : Nat.ble c0 s1.nh with
            | false => rw [hbl] at hK; cases hK
            | true =>
              rw [hbl] at hK
              dsimp only [cond] at hK
              split at hK
              · rename_i d' hd'
                exact ih d' _ a' w' hK (hs'.told hG hX (Nat.le_of_ble_eq_true hbl) (cD.ok hd'))
              · cases hK
          | exit id => exact fin _ hK
          | ret => exact fin _ hK
      exact key n d _ a w h hs0
    · cases h
end
theorem loops_nil {P : Program} {N : Nat} {c : Code} : ∀ x ∈ ([] : List (List Nat × LFun)), ∀ b ∈ bodies x.1 [] c, LoopOk P N b x.2 := fun x hx => by cases hx
theorem loops_cons {P : Program} {N : Nat} {c lc : Code} {q : List Nat} {F : LFun} {l : List (List Nat × LFun)} (hb : bodies q [] c = [lc]) (h : LoopOk P N lc F) (hl : ∀ x ∈ l, ∀ b ∈ bodies x.1 [] c, LoopOk P N b x.2) : ∀ x ∈ (q, F) :: l, ∀ b ∈ bodies x.1 [] c, LoopOk P N b x.2 := fun x hx b hb' => by
  rcases List.mem_cons.1 hx with rfl | hx
  · rw [hb] at hb'
    rw [List.mem_singleton.1 hb']
    exact h
  · exact hl x hx b hb'
theorem loops_at {P : Program} {fn : Func} {c : Code} {l : List (List Nat × LFun)} (hc : fn.body = some c) (h : ∀ x ∈ l, ∀ b ∈ bodies x.1 [] c, LoopOk P fn.ntmps b x.2) : ∀ c', fn.body = some c' → ∀ x ∈ l, ∀ b ∈ bodies x.1 [] c', LoopOk P fn.ntmps b x.2 := fun c' hc' => by
  rw [hc] at hc'
  injection hc' with hc'
  subst hc'
  exact h
theorem nats_nil : ∀ x ∈ ([] : List (List Nat × LFun)), LNat x.2 := fun x hx => by cases hx
theorem nats_cons {q : List Nat} {F : LFun} {l : List (List Nat × LFun)} (h : LNat F) (hl : ∀ x ∈ l, LNat x.2) : ∀ x ∈ (q, F) :: l, LNat x.2 := fun x hx => by
  rcases List.mem_cons.1 hx with rfl | hx
  · exact h
  · exact hl x hx
theorem loop_told {P : Program} {N c0 : Nat} {T : Tab} {fuel : Nat} {D Z : Type} {cD : CdS D} {cZ : CdZ Z} {b : Rnd D Z} {q : List Nat} {c : Code} (hT : TOk P T) (hm : P.follows .mixedOrders = true)
    (hb : ∀ (R : Type) d (Kn : D → Option R) (Kz : Z → Option R), run' P T (lt []) N fuel q c ⟨cD.enc d, c0⟩ (dz c0 cD cZ Kn Kz) = b R d Kn Kz) (n : Nat) : LoopOk P N c (loopD c0 cD cZ b n) :=
  loop_ok hT hm (lt_nat nats_nil) (LOk_of c q fun x hx => by cases hx) hb n
theorem execN_ok {P : Program} {T : Tab} {fuel : Nat} (hT : TOk P T) (hm : P.follows .mixedOrders = true) {f : Nat} {fn : Func} (hf : P.funcs[f]? = some fn) (hc : callable P f = true) : FunOk P f (execFn' P T (lt []) fuel fn) := execFn'_ok hT hm hf hc (fun x hx => by cases hx) (fun c hc x hx => by cases hx)
section
variable {φ : Nat → Option (Nat × Nat)} {w W : World} {o ok' : Nat → Prop} {xs : List AV} {vs : List Value} {v : Value} {k : IntKind} {l : List Int}
theorem at_row (h : Reps φ w o (.row k l :: xs) vs) : ∃ A c vs', vs = .slice A l.length c :: vs' ∧ l.length ≤ c ∧ Kd.F (Kd.int k) w o A l.length l ∧ Reps φ w o xs vs' := by
  simp only [Reps, Rep] at h
  obtain ⟨v, vs', h1, ⟨A, c, rfl, h2, h3⟩, h4⟩ := h
  exact ⟨A, c, vs', h1, h2, h3, h4⟩
theorem at_int {n : Int} (h : Reps φ w o (.int k n :: xs) vs) : ∃ vs', vs = .int k n :: vs' ∧ Reps φ w o xs vs' := by
  simp only [Reps, Rep] at h
  obtain ⟨v, vs', h1, rfl, h4⟩ := h
  exact ⟨vs', h1, h4⟩
theorem at_bool {b : Bool} (h : Reps φ w o (.bool b :: xs) vs) : ∃ vs', vs = .bool b :: vs' ∧ Reps φ w o xs vs' := by
  simp only [Reps, Rep] at h
  obtain ⟨v, vs', h1, rfl, h4⟩ := h
  exact ⟨vs', h1, h4⟩
theorem at_str {b : ByteArray} (h : Reps φ w o (.str b :: xs) vs) : ∃ vs', vs = .string b :: vs' ∧ Reps φ w o xs vs' := by
  simp only [Reps, Rep] at h
  obtain ⟨v, vs', h1, rfl, h4⟩ := h
  exact ⟨vs', h1, h4⟩
theorem at_nil (h : Reps φ w o [] vs) : vs = [] := by simpa only [Reps] using h
theorem at_agg {m : List AV} (h : Reps φ w o (.agg m :: xs) vs) : ∃ cs vs', vs = .agg cs :: vs' ∧ Reps φ w o m cs.toList ∧ Reps φ w o xs vs' := by
  simp only [Reps, Rep] at h
  obtain ⟨v, vs', h1, ⟨cs, rfl, h2⟩, h4⟩ := h
  exact ⟨cs, vs', h1, h2, h4⟩
theorem V_row {e b : Nat} (h : Kd.V (Kd.int k) e W b o v l) (hok : ∀ n, o n → ok' n) : Rep φ W ok' (.row k l) v := by
  obtain ⟨A, c, h1, h2, h3⟩ := h
  simp only [Rep]
  exact ⟨A, c, h1, h2, Kd.F_mono h3 hok⟩
theorem R_new {e b : Nat} (h : (Kd.int k).R e W b o v l) (hok : ∀ n, b ≤ n → ok' n) : Rep φ W ok' (.row k l) v := V_row (Kd.V_mono (Kd.R_V (base' := b) (Kd.R_bound h)) fun k hk => hok k hk.2.1) fun _ h => h
theorem now {A : Option Addr} {n : Nat} (h : Kd.F (Kd.int k) w o A n l) : Kd.C (Kd.int k) w A n l := Foot.now h
theorem rowV {A : Option Addr} {c e b : Nat} (h : Kd.F (Kd.int k) w o A l.length l) (hl : l.length ≤ c) : Kd.V (Kd.int k) e w b (fun n => o n) (.slice A l.length c) l := Kd.V_mk hl h
theorem rep_tup2 {x y : AV} {u : Value} (h : Rep φ W o x v) (h' : Rep φ W o y u) : Rep φ W o (.tup [x, y]) (.tuple #[v, u]) := by
  simp only [Rep, Reps]
  exact ⟨_, rfl, v, [u], rfl, h, u, [], rfl, h', rfl⟩
theorem rep_tup3 {x y z : AV} {u t : Value} (h : Rep φ W o x v) (h' : Rep φ W o y u) (h'' : Rep φ W o z t) : Rep φ W o (.tup [x, y, z]) (.tuple #[v, u, t]) := by
  simp only [Rep, Reps]
  exact ⟨_, rfl, v, [u, t], rfl, h, u, [t], rfl, h', t, [], rfl, h'', rfl⟩
theorem rep_agg3 {x y z : AV} {u t : Value} (h : Rep φ W o x v) (h' : Rep φ W o y u) (h'' : Rep φ W o z t) : Rep φ W o (.agg [x, y, z]) (.agg #[v, u, t]) := by
  simp only [Rep, Reps]
  exact ⟨_, rfl, v, [u, t], rfl, h, u, [t], rfl, h', t, [], rfl, h'', rfl⟩
theorem row_C {A : Option Addr} {c : Nat} (h : l.length ≤ c) (hc : Kd.C (Kd.int k) w A l.length l) : Rep φ w (fun n => n < w.heap.size) (.row k l) (.slice A l.length c) := by
  simp only [Rep]
  exact ⟨A, c, rfl, h, Kd.C_F (Kd.heap_int k) hc⟩
theorem rep_num {A A' : Option Addr} {c c' : Nat} {l' : List Int} (b : Bool) (h : l.length ≤ c) (hc : Kd.C (Kd.int k) w A l.length l) (h' : l'.length ≤ c') (hc' : Kd.C (Kd.int k) w A' l'.length l') : Rep φ w (fun n => n < w.heap.size) (.agg [.bool b, .row k l, .row k l']) (.agg #[.bool b, .slice A l.length c, .slice A' l'.length c']) :=
  rep_agg3 (by simp only [Rep]) (row_C h hc) (row_C h' hc')
theorem reps_cons {x : AV} (h : Rep φ w o x v) (h' : Reps φ w o xs vs) : Reps φ w o (x :: xs) (v :: vs) := by
  simp only [Reps]
  exact ⟨v, vs, rfl, h, h'⟩
theorem reps_nil : Reps φ w o [] [] := by simp only [Reps]
end
def none0 : Cds Unit where
  dec l := match l with | [] => some () | _ => none
  enc _ := []
  ok := fun {φ W o x v a} h e => by
    split at e
    · exact h
    · cases e
def mkO {A B : Type} (ca : Cds A) (enc : B → AV × List AV) (c : CF A B) : OFun := fun R ys K => match ca.dec ys with | some a => c R a fun b => K (enc b).1 (enc b).2 | none => none
def orow (k : IntKind) (b : List Int) : AV × List AV := (.sl 1 0 b.length, [.row k b])
def orowK {R : Type} (k : IntKind) (K : List Int → Option R) (r : AV) (β : Nat → AV) (_ : Nat) : Option R :=
  match r with
  | .sl s h n => if s = 1 then (match β h with | .row k' l => (if k' = k then (if n ≤ l.length then K (l.take n) else none) else none) | _ => none) else none
  | _ => none
theorem orowK_nat {R : Type} (k : IntKind) (K : List Int → Option R) (r : AV) (β : Nat → AV) (nh : Nat) : orowK k K r β nh = (orowK k some r β nh).bind K := by
  unfold orowK
  (repeat' split) <;> rfl
theorem orowK_some {k : IntKind} {r : AV} {β : Nat → AV} {nh : Nat} {b : List Int} (h : orowK k some r β nh = some b) : ∃ h n l, r = .sl 1 h n ∧ β h = .row k l ∧ n ≤ l.length ∧ b = l.take n := by
  unfold orowK at h
  split at h
  · rename_i s hh n
    split at h
    · rename_i hs
      subst hs
      split at h
      · rename_i k' l hb
        split at h
        · rename_i hk
          subst hk
          split at h
          · rename_i hn
            injection h with h
            exact ⟨hh, n, l, rfl, hb, hn, h.symm⟩
          · cases h
        · cases h
      · cases h
    · cases h
  · cases h
theorem own_row {P : Program} {f : Nat} {xs : List AV} {k : IntKind} {i n nh : Nat} {l : List Int} {β : Nat → AV} (h : HeapC P f xs (fun _ => .any) 0 (.sl 1 i n) β nh) (hb : β i = .row k l) (hn : n ≤ l.length) : OwnC P f xs (orow k (l.take n)).1 (orow k (l.take n)).2 := by
  intro B P0 X w0 w G φ vs hG hX hst hR
  refine Calls.mono (h B P0 X w0 w G φ vs hG hX hst hR) fun e w' he => ?_
  obtain ⟨v, φ', rfl, hs, hv⟩ := he
  have hlen : (l.take n).length = n := by rw [List.length_take]; omega
  let φ2 : Nat → Option (Nat × Nat) := fun j => if j = 0 then φ' i else none
  let β2 : Nat → AV := fun h => [AV.row k (l.take n)].getD h .any
  have hlive : start [] β (2 * i + 1) ≠ .any := by rw [start_odd, hb]; intro hh; cases hh
  have hσ0 : start [] β2 (2 * 0 + 1) = .row k (l.take n) := start_odd [] β2 0
  have hσ : ∀ j, j ≠ 0 → start [] β2 (2 * j + 1) = .any := fun j hj => by
    rw [start_odd]
    cases j with
    | zero => exact absurd rfl hj
    | succ j => rfl
  have hφ2 : ∀ j b, φ2 j = some b → j = 0 ∧ φ' i = some b := fun j b hj => by
    have hj : (if j = 0 then φ' i else none) = some b := hj
    split at hj
    · rename_i h0; exact ⟨h0, hj⟩
    · cases hj
  have hok : ∀ k, Ok B P0 (start [] β) φ' k → Ok B P0 (start [] β2) φ2 k := fun q hq => ⟨hq.1, fun j t hj hjq => by
    obtain ⟨_, h2⟩ := hφ2 j _ hjq
    exact hq.2 i t hlive h2⟩
  simp only [Rep] at hv
  obtain ⟨b, c, v1, v2, v3, v4⟩ := hv
  have hH := hs.boxes i hlive
  rw [start_odd, hb] at hH
  simp only [Holds] at hH
  obtain ⟨b', t, us, en, g1, g2, g3, g4, g5⟩ := hH
  rw [v1] at g1
  injection g1 with g1
  injection g1 with g1 g1'
  subst g1 g1'
  have hφ20 : φ2 0 = some (b, c * 1) := v1
  refine ⟨v, φ2, rfl, ?_, ?_⟩
  · exact { hs with
      tmps := fun t => by rw [start_even]; simp [Rep]
      boxes := fun j hj => by
        by_cases h0 : j = 0
        · subst h0
          show Holds φ2 w' (Ok B P0 (start [] β2) φ2) 0 (start [] β2 (2 * 0 + 1))
          rw [hσ0]
          simp only [Holds]
          refine ⟨b, c * 1, us, en, hφ20, g2, g3, by rw [List.length_map, List.length_take] at *; omega, ?_⟩
          rw [List.length_map] at g5 ⊢
          have hu := ints_vals g5
          have := congrArg (List.take (l.take n).length) hu
          rw [List.take_take, ← List.map_take, hlen, Nat.min_eq_left hn] at this
          rw [hlen, this]
          exact vals_ints _
        · exact absurd (hσ j h0) hj
      own := fun j q t hj => by
        obtain ⟨_, h2⟩ := hφ2 j _ hj
        exact hs.own i q t h2
      inj := fun j j' q t t' _ _ hj hj' => by
        rw [(hφ2 j _ hj).1, (hφ2 j' _ hj').1]
      gh := fun g x u hg hx => by
        have h0 : g = 0 := by omega
        subst h0
        refine Rep.move (fun q b hq => ?_) (fun q hq _ => hok q hq) (fun _ _ _ => rfl) _ (hs.gh 0 x u hg hx)
        unfold lim' at hq
        rw [if_neg (by omega)] at hq
        cases hq
      fr := fun j hj => by
        show (if j = 0 then φ' i else none) = none
        rw [if_neg]
        intro h0
        subst h0
        rcases hj with hj | hj
        · have := hG 0 hj; omega
        · exact absurd hj (by show ¬ ([AV.row k (l.take n)].length ≤ 0); simp) }
  · simp only [orow, Rep]
    exact ⟨b, c, hφ20, by rw [hlen]; exact v2, by rw [hlen]; exact v3, v4⟩
def ShownO (P : Program) (f : Nat) {A : Type} (enc : A → List AV) (k : IntKind) (c : CF A (List Int)) : Prop := (∀ (R : Type) a (K : List Int → Option R), c R a K = (c (List Int) a some).bind K) ∧ ∀ a b, c (List Int) a some = some b → OwnC P f (enc a) (orow k b).1 (orow k b).2
theorem exec_own {P : Program} {f : Nat} {A : Type} {F : HFun} {enc : A → List AV} {k : IntKind} {c : CF A (List Int)} (hF : HFunOk P f F)
    (h : ∀ (R : Type) a (K : List Int → Option R), F R (enc a) (fun _ => .any) 0 (orowK k K) = c R a K) : ShownO P f enc k c := by
  refine ⟨fun R a K => ?_, fun a b hb => ?_⟩
  · rw [← h, ← h, hF.2.1 R, hF.2.1 (List Int), Option.bind_assoc]
    congr 1
    funext p
    exact orowK_nat k K _ _ _
  · rw [← h, hF.2.1 (List Int)] at hb
    obtain ⟨⟨r, β, nh⟩, h1, h2⟩ := Option.bind_eq_some_iff.1 hb
    obtain ⟨i, n, l, rfl, e2, e3, rfl⟩ := orowK_some h2
    exact own_row (hF.2.2 _ _ _ _ _ _ h1) e2 e3
theorem exec_shownO {P : Program} {T : Tab} {l : List (List Nat × LFun)} {fuel f : Nat} {fn : Func} {A : Type} {enc : A → List AV} {k : IntKind} {c : CF A (List Int)} (hT : TOk P T) (hm : P.follows .mixedOrders = true) (hf : P.funcs[f]? = some fn) (hc : callable P f = true) (hN : ∀ x ∈ l, LNat x.2) (hL : ∀ c, fn.body = some c → ∀ x ∈ l, ∀ b ∈ bodies x.1 [] c, LoopOk P fn.ntmps b x.2)
    (h : ∀ (R : Type) a (K : List Int → Option R), execH' P T (lt l) fuel fn R (enc a) (fun _ => .any) 0 (orowK k K) = c R a K) : ShownO P f enc k c :=
  exec_own (execH'_ok hT hm hf hc hN hL) h
theorem ShownO.ok {P : Program} {f : Nat} {A : Type} {ca : Cds A} {k : IntKind} {c : CF A (List Int)} (h : ShownO P f ca.enc k c) (hc : callable P f = true) : OFunOk P f (mkO ca (orow k) c) := by
  refine ⟨hc, fun R xs K => ?_, fun xs r bs hx => ?_⟩
  · unfold mkO
    split
    · rw [h.1 R, h.1 (AV × List AV), Option.bind_assoc]
      rfl
    · rfl
  · unfold mkO at hx
    split at hx
    · rename_i a ha
      rw [h.1] at hx
      obtain ⟨b, h1, h2⟩ := Option.bind_eq_some_iff.1 hx
      injection h2 with h2
      injection h2 with h2 h3
      subst h2 h3
      intro B P0 X w0 w G φ vs hG hX hst hR
      exact h.2 a b h1 B P0 X w0 w G φ vs hG hX hst (ca.ok hR ha)
    · cases hx
def tt : List (Nat × Tf) → Tab
  | [], _ => none
  | (n, F) :: l, g => bif Nat.beq n g then some F else tt l g
theorem tt_nil {P : Program} : TOk P (tt []) := fun g F h => by cases h
theorem tt_cons {P : Program} {n : Nat} {F : Tf} {l : List (Nat × Tf)} (h : TfOk P n F) (hl : TOk P (tt l)) : TOk P (tt ((n, F) :: l)) := fun g G hg => by
  simp only [tt] at hg
  cases hb : Nat.beq n g with
  | true =>
    rw [hb] at hg
    injection hg with hg
    have := Nat.eq_of_beq_eq_true hb
    subst this hg
    exact h
  | false =>
    rw [hb] at hg
    exact hl g G hg
end Go.Proofs.YtemnjgkicndmjaaDoor.E
namespace Go.Proofs.YtemnjgkicndmjaaDoor.Q
open Go.RowKit Go.Proofs.YtemnjgkicndmjaaDoorW.PrintWords Go.Proofs.YtemnjgkicndmjaaDoorW.PrintLast Go.Proofs.YtemnjgkicndmjaaDoorW.PrintMore
def val (B : Int) : List Int → Int
  | [] => 0
  | x :: xs => x + B * val B xs
def Lim (B : Int) (xs : List Int) : Prop := ∀ x, x ∈ xs → 0 ≤ x ∧ x < B
def Nrm (xs : List Int) : Prop := ∀ x, xs.getLast? = some x → x ≠ 0
theorem lim_nil (B : Int) : Lim B [] := by intro x h; cases h
theorem lim_cons {B x : Int} {xs : List Int} : Lim B (x :: xs) ↔ (0 ≤ x ∧ x < B) ∧ Lim B xs := by
  constructor
  · intro h; exact ⟨h x (by simp), fun y hy => h y (by simp [hy])⟩
  · rintro ⟨h1, h2⟩ y hy
    rcases List.mem_cons.1 hy with rfl | hy
    · exact h1
    · exact h2 y hy
theorem lim_append {B : Int} {xs ys : List Int} : Lim B (xs ++ ys) ↔ Lim B xs ∧ Lim B ys := by
  constructor
  · intro h; exact ⟨fun y hy => h y (by simp [hy]), fun y hy => h y (by simp [hy])⟩
  · rintro ⟨h1, h2⟩ y hy
    rcases List.mem_append.1 hy with hy | hy
    · exact h1 y hy
    · exact h2 y hy
theorem Lim.take {B : Int} {xs : List Int} (h : Lim B xs) (n : Nat) : Lim B (xs.take n) := fun y hy => h y (List.mem_of_mem_take hy)
theorem Lim.drop {B : Int} {xs : List Int} (h : Lim B xs) (n : Nat) : Lim B (xs.drop n) := fun y hy => h y (List.mem_of_mem_drop hy)
theorem Lim.set {B : Int} {xs : List Int} (h : Lim B xs) (n : Nat) {v : Int} (hv : 0 ≤ v ∧ v < B) : Lim B (xs.set n v) := by
  intro y hy
  rcases List.mem_or_eq_of_mem_set hy with hy | rfl
  · exact h y hy
  · exact hv
theorem lim_replicate {B : Int} (hB : 0 < B) (n : Nat) : Lim B (List.replicate n 0) := by
  intro y hy
  have := List.eq_of_mem_replicate hy
  subst this
  exact ⟨Int.le_refl _, hB⟩
theorem Lim.getD {B : Int} {xs : List Int} (hB : 0 < B) (h : Lim B xs) (n : Nat) : 0 ≤ xs.getD n 0 ∧ xs.getD n 0 < B := by
  rw [List.getD_eq_getElem?_getD]
  rcases Nat.lt_or_ge n xs.length with hn | hn
  · rw [List.getElem?_eq_getElem hn]; exact h _ (List.getElem_mem hn)
  · rw [List.getElem?_eq_none hn]; exact ⟨Int.le_refl _, hB⟩
theorem val_append (B : Int) (xs ys : List Int) : val B (xs ++ ys) = val B xs + B ^ xs.length * val B ys := by
  induction xs with
  | nil => simp [val]
  | cons x xs ih => simp only [List.cons_append, val, ih, List.length_cons, Int.pow_succ]; grind
theorem val_snoc (B : Int) (xs : List Int) (x : Int) : val B (xs ++ [x]) = val B xs + B ^ xs.length * x := by
  rw [val_append]; simp [val]
theorem val_replicate (B : Int) (n : Nat) : val B (List.replicate n 0) = 0 := by
  induction n with
  | zero => rfl
  | succ n ih => simp [List.replicate_succ, val, ih]
theorem pow_pos' {B : Int} (hB : 0 < B) (n : Nat) : 0 < B ^ n := Int.pow_pos hB
theorem pow_mono' {B : Int} (hB : 0 < B) {m n : Nat} (h : m ≤ n) : B ^ m ≤ B ^ n := by
  induction h with
  | refl => exact Int.le_refl _
  | step _ ih =>
    rw [Int.pow_succ]
    have := pow_pos' hB
    rename_i n _
    have h2 : B ^ n * 1 ≤ B ^ n * B := Int.mul_le_mul_of_nonneg_left (by omega) (Int.le_of_lt (this n))
    omega
theorem val_nonneg {B : Int} (hB : 0 < B) {xs : List Int} (h : Lim B xs) : 0 ≤ val B xs := by
  induction xs with
  | nil => exact Int.le_refl _
  | cons x xs ih =>
    obtain ⟨h1, h2⟩ := lim_cons.1 h
    have := Int.mul_nonneg (Int.le_of_lt hB) (ih h2)
    simp only [val]; omega
theorem val_lt {B : Int} (hB : 0 < B) {xs : List Int} (h : Lim B xs) : val B xs < B ^ xs.length := by
  induction xs with
  | nil => simp [val]
  | cons x xs ih =>
    obtain ⟨h1, h2⟩ := lim_cons.1 h
    have h3 := ih h2
    have h4 : B * (val B xs + 1) ≤ B * B ^ xs.length := Int.mul_le_mul_of_nonneg_left (by omega) (by omega)
    simp only [val, List.length_cons, Int.pow_succ]
    grind
theorem nrm_nil : Nrm [] := by intro x h; cases h
theorem nrm_snoc {xs : List Int} {x : Int} : Nrm (xs ++ [x]) ↔ x ≠ 0 := by
  simp [Nrm]
theorem nrm_cons {x : Int} {xs : List Int} (h : Nrm (x :: xs)) : Nrm xs := by
  intro y hy
  refine h y ?_
  rw [List.getLast?_cons, hy]; simp
theorem val_ge {B : Int} (hB : 0 < B) {xs : List Int} (h : Lim B xs) (hn : Nrm xs) (h0 : xs ≠ []) : B ^ (xs.length - 1) ≤ val B xs := by
  obtain ⟨ys, y, rfl⟩ : ∃ ys y, xs = ys ++ [y] := ⟨xs.dropLast, xs.getLast h0, (List.dropLast_concat_getLast h0).symm⟩
  have hy := nrm_snoc.1 hn
  obtain ⟨h1, h2⟩ := lim_append.1 h
  have h3 := (lim_cons.1 h2).1
  have h4 := val_nonneg hB h1
  rw [val_snoc]
  have h5 : B ^ ys.length * 1 ≤ B ^ ys.length * y := Int.mul_le_mul_of_nonneg_left (by omega) (Int.le_of_lt (pow_pos' hB _))
  simp only [List.length_append, List.length_singleton, Nat.add_sub_cancel]
  omega
theorem val_eq_zero {B : Int} (hB : 0 < B) {xs : List Int} (h : Lim B xs) (hn : Nrm xs) : val B xs = 0 ↔ xs = [] := by
  constructor
  · intro h0
    by_cases e : xs = []
    · exact e
    · have := val_ge hB h hn e
      have := pow_pos' hB (xs.length - 1)
      omega
  · rintro rfl; rfl
theorem val_pos {B : Int} (hB : 0 < B) {xs : List Int} (h : Lim B xs) (hn : Nrm xs) (h0 : xs ≠ []) : 0 < val B xs := by
  have := val_ge hB h hn h0
  have := pow_pos' hB (xs.length - 1)
  omega
theorem digit_unique {B x y a b : Int} (hx : 0 ≤ x ∧ x < B) (hy : 0 ≤ y ∧ y < B) (h : x + B * a = y + B * b) : x = y ∧ a = b := by
  have hB : 0 < B := by omega
  have e1 : (x + B * a) % B = x := by rw [Int.add_mul_emod_self_left, Int.emod_eq_of_lt hx.1 hx.2]
  have e2 : (y + B * b) % B = y := by rw [Int.add_mul_emod_self_left, Int.emod_eq_of_lt hy.1 hy.2]
  have e : x = y := by rw [← e1, ← e2, h]
  refine ⟨e, ?_⟩
  subst e
  have : B * a = B * b := by omega
  exact Int.eq_of_mul_eq_mul_left (by omega) this
theorem val_inj {B : Int} (hB : 0 < B) {xs ys : List Int} (hx : Lim B xs) (hy : Lim B ys) (nx : Nrm xs) (ny : Nrm ys) (h : val B xs = val B ys) : xs = ys := by
  induction xs generalizing ys with
  | nil => exact ((val_eq_zero hB hy ny).1 h.symm).symm
  | cons x xs ih =>
    cases ys with
    | nil => exact (val_eq_zero hB hx nx).1 h
    | cons y ys =>
      obtain ⟨a1, a2⟩ := lim_cons.1 hx
      obtain ⟨b1, b2⟩ := lim_cons.1 hy
      obtain ⟨e, e'⟩ := digit_unique a1 b1 h
      rw [e, ih a2 b2 (nrm_cons nx) (nrm_cons ny) e']
theorem val_split (B : Int) (xs : List Int) (i : Nat) (h : i ≤ xs.length) : val B xs = val B (xs.take i) + B ^ i * val B (xs.drop i) := by
  have := val_append B (xs.take i) (xs.drop i)
  rw [List.take_append_drop, List.length_take, Nat.min_eq_left h] at this
  exact this
theorem take_succ' (xs : List Int) (i : Nat) (h : i < xs.length) : xs.take (i + 1) = xs.take i ++ [xs.getD i 0] := by
  rw [List.take_succ_eq_append_getElem h, List.getD_eq_getElem?_getD, List.getElem?_eq_getElem h]; rfl
theorem drop_cons' (xs : List Int) (i : Nat) (h : i < xs.length) : xs.drop i = xs.getD i 0 :: xs.drop (i + 1) := by
  rw [List.drop_eq_getElem_cons h, List.getD_eq_getElem?_getD, List.getElem?_eq_getElem h]; rfl
theorem val_take_succ (B : Int) (xs : List Int) (i : Nat) (h : i < xs.length) : val B (xs.take (i + 1)) = val B (xs.take i) + B ^ i * xs.getD i 0 := by
  rw [take_succ' xs i h, val_snoc, List.length_take, Nat.min_eq_left (by omega)]
theorem val_drop (B : Int) (xs : List Int) (i : Nat) (h : i < xs.length) : val B (xs.drop i) = xs.getD i 0 + B * val B (xs.drop (i + 1)) := by
  rw [drop_cons' xs i h]; rfl
theorem val_set (B : Int) (xs : List Int) (i : Nat) (v : Int) (h : i < xs.length) : val B (xs.set i v) = val B xs + B ^ i * (v - xs.getD i 0) := by
  induction xs generalizing i with
  | nil => simp at h
  | cons x xs ih =>
    cases i with
    | zero => simp [val]; omega
    | succ i =>
      simp only [List.length_cons, Nat.add_lt_add_iff_right] at h
      simp only [List.set_cons_succ, val, ih i h, Int.pow_succ, List.getD_cons_succ]
      grind
def trim (xs : List Int) : List Int := (xs.reverse.dropWhile (· == 0)).reverse
theorem trim_snoc_zero (xs : List Int) : trim (xs ++ [0]) = trim xs := by simp [trim]
theorem trim_snoc (xs : List Int) {x : Int} (h : x ≠ 0) : trim (xs ++ [x]) = xs ++ [x] := by simp [trim, h]
theorem snoc_induction {P : List Int → Prop} (h0 : P []) (h1 : ∀ xs x, P xs → P (xs ++ [x])) (xs : List Int) : P xs := by
  have key : ∀ n, ∀ xs : List Int, xs.length = n → P xs := by
    intro n
    induction n with
    | zero => intro xs h; rw [List.eq_nil_of_length_eq_zero h]; exact h0
    | succ n ih =>
      intro xs h
      have h2 : xs ≠ [] := by rintro rfl; simp at h
      rw [← List.dropLast_concat_getLast h2]
      exact h1 _ _ (ih _ (by simp [h]))
  exact key _ xs rfl
theorem val_trim (B : Int) (xs : List Int) : val B (trim xs) = val B xs := by
  induction xs using snoc_induction with
  | h0 => rfl
  | h1 xs x ih =>
    by_cases h : x = 0
    · subst h; rw [trim_snoc_zero, ih, val_snoc]; simp
    · rw [trim_snoc xs h]
theorem nrm_trim (xs : List Int) : Nrm (trim xs) := by
  induction xs using snoc_induction with
  | h0 => exact nrm_nil
  | h1 xs x ih =>
    by_cases h : x = 0
    · subst h; rw [trim_snoc_zero]; exact ih
    · rw [trim_snoc xs h]; exact nrm_snoc.2 h
theorem trim_prefix (xs : List Int) : ∃ n, trim xs = xs.take n := by
  induction xs using snoc_induction with
  | h0 => exact ⟨0, rfl⟩
  | h1 xs x ih =>
    by_cases h : x = 0
    · subst h
      obtain ⟨n, hn⟩ := ih
      refine ⟨min n xs.length, ?_⟩
      rw [trim_snoc_zero, hn, List.take_append_of_le_length (by omega)]
      rw [List.take_eq_take_min]
    · refine ⟨xs.length + 1, ?_⟩
      rw [trim_snoc xs h, List.take_of_length_le (by simp)]
theorem lim_trim {B : Int} {xs : List Int} (h : Lim B xs) : Lim B (trim xs) := by
  obtain ⟨n, hn⟩ := trim_prefix xs
  rw [hn]; exact h.take n
theorem length_trim (xs : List Int) : (trim xs).length ≤ xs.length := by
  obtain ⟨n, hn⟩ := trim_prefix xs
  rw [hn, List.length_take]; omega
theorem val_take_succ' (B : Int) (zs : List Int) (i : Nat) : val B (zs.take (i + 1)) = val B (zs.take i) + B ^ i * zs.getD i 0 := by
  by_cases h : i < zs.length
  · exact val_take_succ _ zs i h
  · rw [List.take_of_length_le (by omega), List.take_of_length_le (by omega), List.getD_eq_getElem?_getD, List.getElem?_eq_none (by omega)]; simp
theorem lim_nrm_snoc {B : Int} {xs : List Int} {x : Int} (h : Lim B xs) (hx : 0 ≤ x ∧ x < B) : Lim B (xs ++ [x]) := lim_append.2 ⟨h, by intro y hy; rw [List.mem_singleton] at hy; rw [hy]; exact hx⟩
theorem w64 {x : Int} (h1 : -9223372036854775808 ≤ x) (h2 : x ≤ 9223372036854775807) : wrap64 x = x := by unfold wrap64; omega
theorem u64w (n : Int) : IntKind.u64.wrap n = n % 18446744073709551616 := by simp [IntKind.wrap, IntKind.bits, IntKind.signed]
theorem u64_id {x : Int} (h1 : 0 ≤ x) (h2 : x < 18446744073709551616) : IntKind.u64.wrap x = x := by rw [u64w]; omega
theorem bits_or_shift {a b : Int} (ha0 : 0 ≤ a) (ha : a < 4294967296) (hb0 : 0 ≤ b) (hb : b < 4294967296) : Go.bits .or .u64 (a * 4294967296) b = a * 4294967296 + b := by
  rw [u64_or _ _ (by omega) (by omega) hb0 (by omega), nat_join 32 _ _ (by omega) (by omega)]
  omega
theorem bits_or_shift' {a b : Int} (ha0 : 0 ≤ a) (ha : a < 4294967296) (hb0 : 0 ≤ b) (hb : b < 4294967296) : Go.bits .or .u64 b (a * 4294967296) = a * 4294967296 + b := by
  rw [u64_or _ _ hb0 (by omega) (by omega) (by omega), Nat.or_comm, nat_join 32 _ _ (by omega) (by omega)]
  omega
theorem bits_and_one {x : Int} (h0 : 0 ≤ x) (h1 : x < 18446744073709551616) : Go.bits .and .u64 x 1 = x % 2 := by
  rw [u64_and _ _ h0 h1 (by omega) (by omega)]
  have : (1 : Int).toNat = 1 := rfl
  rw [this, Nat.and_one_is_mod]
  omega
theorem Ev.ret {α : Type} {g : Nat → Option α} {r : α} (h : ∀ k, g k = some r) : Ev g r := ⟨0, fun k _ => h k⟩
theorem Ev.unique {α : Type} {g : Nat → Option α} {r r' : α} (h : Ev g r) (h' : Ev g r') : r = r' := by
  obtain ⟨K, hK⟩ := h
  obtain ⟨K', hK'⟩ := h'
  have h1 := hK (max K K') (by omega)
  have h2 := hK' (max K K') (by omega)
  rw [h1] at h2
  exact Option.some.inj h2
theorem Ev.const {α : Type} {a : Option α} {r : α} (h : a = some r) : Ev (fun _ => a) r := ⟨0, fun _ _ => h⟩
theorem Ev.eq {α : Type} {g : Nat → Option α} {r r' : α} (h : Ev g r) (e : r = r') : Ev g r' := e ▸ h
theorem rd_getD (xs : List Int) (i : Nat) : rd xs (i : Int) = xs.getD i 0 := by simp [rd]
theorem Lim.rd {B : Int} {xs : List Int} (hB : 0 < B) (h : Lim B xs) (i : Int) : 0 ≤ rd xs i ∧ rd xs i < B := h.getD hB _
end Go.Proofs.YtemnjgkicndmjaaDoor.Q
namespace Go.Proofs.YtemnjgkicndmjaaDoor.Q
open Go.RowKit Go.Proofs.YtemnjgkicndmjaaDoor.E Go.Proofs.YtemnjgkicndmjaaDoorW.PrintWords Go.Proofs.YtemnjgkicndmjaaDoorW.PrintLast Go.Proofs.YtemnjgkicndmjaaDoorW.PrintMore
set_option linter.unusedVariables false
theorem mixed : Tryd.prog.follows .mixedOrders = true := by kernel_rfl
noncomputable def number_Check.c : (R : Type) → (Nm) → ((Int) → Option R) → Option R := fun R a => lm (fun (a : Nm) k => number_Check.f k a.1 a.2.1 a.2.2) R a
theorem number_Check.pc (a : Nm) (b : Int) (k : Nat) (h : number_Check.f k a.1 a.2.1 a.2.2 = some b) : PureC Tryd.prog 14 ((one kN).enc a) (iI.enc b) := by
  intro w P0 vs hr
  obtain ⟨x0, x1, x2⟩ := a
  obtain ⟨d0, u0, e0, hg0, hr⟩ := at_agg hr
  obtain ⟨u1, e1, hg0⟩ := at_bool hg0
  obtain ⟨A2, c2, u2, e2, hc2, hf2, hg0⟩ := at_row hg0
  obtain ⟨A3, c3, u3, e3, hc3, hf3, hg0⟩ := at_row hg0
  have z := at_nil hg0
  subst z
  subst e3
  subst e2
  have q4 := e1
  obtain rfl : d0 = #[.bool x0, .slice A2 x1.length c2, .slice A3 x2.length c3] := Array.toList_inj.1 (by simpa using q4)
  have z := at_nil hr
  subst z
  have q5 := e0
  obtain rfl : vs = #[.agg #[.bool x0, .slice A2 x1.length c2, .slice A3 x2.length c3]] := Array.toList_inj.1 (by simpa using q5)
  refine Calls.mono (number_Check.calls k x0 A2 c2 x1 A3 c3 x2 b w (now hf2) hc2 (now hf3) hc3 h) fun e w' he => ?_
  obtain ⟨rfl, hb⟩ := he
  exact ⟨_, rfl, hb, (show E.Rep _ _ _ _ _ from by simp only [iI, ci, E.Rep])⟩
theorem number_Check.ok : FunOk Tryd.prog 14 (mk (one kN) iI number_Check.c) := lm_ok (by kernel_rfl) number_Check.pc
theorem number_Check.eq {x0 : Bool} {x1 : List Int} {x2 : List Int} {b : Int} (h : Ev (fun k => number_Check.f k x0 x1 x2) b) {R : Type} (K : (Int) → Option R) : number_Check.c R (x0, x1, x2) K = K b := lm_ev (g := fun (a : Nm) k => number_Check.f k a.1 a.2.1 a.2.2) (a := (x0, x1, x2)) h K
noncomputable def nat_Mul.c : (R : Type) → (List Int × List Int) → ((List Int) → Option R) → Option R := fun R a => lm (fun (a : List Int × List Int) k => nat_Mul.f k a.1 a.2) R a
theorem nat_Mul.pc (a : List Int × List Int) (b : List Int) (k : Nat) (h : nat_Mul.f k a.1 a.2 = some b) : PureC Tryd.prog 77 ((more rU (one rU)).enc a) (rU.enc b) := by
  intro w P0 vs hr
  obtain ⟨x0, x1⟩ := a
  obtain ⟨A0, c0, u0, e0, hc0, hf0, hr⟩ := at_row hr
  obtain ⟨A1, c1, u1, e1, hc1, hf1, hr⟩ := at_row hr
  have z := at_nil hr
  subst z
  subst e1
  have q2 := e0
  obtain rfl : vs = #[.slice A0 x0.length c0, .slice A1 x1.length c1] := Array.toList_inj.1 (by simpa using q2)
  refine Calls.mono (nat_Mul.calls k A0 c0 x0 A1 c1 x1 b w (now hf0) hc0 (now hf1) hc1 h) fun e w' he => ?_
  obtain ⟨v0_, rfl, hv0, hb⟩ := he
  exact ⟨_, rfl, hb, (V_row hv0 fun n hn => .inr hn)⟩
theorem nat_Mul.ok : FunOk Tryd.prog 77 (mk (more rU (one rU)) rU nat_Mul.c) := lm_ok (by kernel_rfl) nat_Mul.pc
theorem nat_Mul.eq {x0 : List Int} {x1 : List Int} {b : List Int} (h : Ev (fun k => nat_Mul.f k x0 x1) b) {R : Type} (K : (List Int) → Option R) : nat_Mul.c R (x0, x1) K = K b := lm_ev (g := fun (a : List Int × List Int) k => nat_Mul.f k a.1 a.2) (a := (x0, x1)) h K
noncomputable def nat_plus.c : (R : Type) → (List Int × List Int) → ((List Int) → Option R) → Option R := fun R a => lm (fun (a : List Int × List Int) k => nat_plus.f k a.1 a.2) R a
theorem nat_plus.pc (a : List Int × List Int) (b : List Int) (k : Nat) (h : nat_plus.f k a.1 a.2 = some b) : PureC Tryd.prog 105 ((more rU (one rU)).enc a) (rU.enc b) := by
  intro w P0 vs hr
  obtain ⟨x0, x1⟩ := a
  obtain ⟨A0, c0, u0, e0, hc0, hf0, hr⟩ := at_row hr
  obtain ⟨A1, c1, u1, e1, hc1, hf1, hr⟩ := at_row hr
  have z := at_nil hr
  subst z
  subst e1
  have q2 := e0
  obtain rfl : vs = #[.slice A0 x0.length c0, .slice A1 x1.length c1] := Array.toList_inj.1 (by simpa using q2)
  refine Calls.mono (nat_plus.calls k A0 c0 x0 A1 c1 x1 b w (now hf0) hc0 (now hf1) hc1 h) fun e w' he => ?_
  obtain ⟨v0_, rfl, hv0, hb⟩ := he
  exact ⟨_, rfl, hb, (V_row hv0 fun n hn => .inr hn)⟩
theorem nat_plus.ok : FunOk Tryd.prog 105 (mk (more rU (one rU)) rU nat_plus.c) := lm_ok (by kernel_rfl) nat_plus.pc
theorem nat_plus.eq {x0 : List Int} {x1 : List Int} {b : List Int} (h : Ev (fun k => nat_plus.f k x0 x1) b) {R : Type} (K : (List Int) → Option R) : nat_plus.c R (x0, x1) K = K b := lm_ev (g := fun (a : List Int × List Int) k => nat_plus.f k a.1 a.2) (a := (x0, x1)) h K
noncomputable def nat_Compare.c : (R : Type) → (List Int × List Int) → ((Int) → Option R) → Option R := fun R a => lm (fun (a : List Int × List Int) k => nat_Compare.f k a.1 a.2) R a
theorem nat_Compare.pc (a : List Int × List Int) (b : Int) (k : Nat) (h : nat_Compare.f k a.1 a.2 = some b) : PureC Tryd.prog 109 ((more rU (one rU)).enc a) (iI.enc b) := by
  intro w P0 vs hr
  obtain ⟨x0, x1⟩ := a
  obtain ⟨A0, c0, u0, e0, hc0, hf0, hr⟩ := at_row hr
  obtain ⟨A1, c1, u1, e1, hc1, hf1, hr⟩ := at_row hr
  have z := at_nil hr
  subst z
  subst e1
  have q2 := e0
  obtain rfl : vs = #[.slice A0 x0.length c0, .slice A1 x1.length c1] := Array.toList_inj.1 (by simpa using q2)
  refine Calls.mono (nat_Compare.calls k A0 c0 x0 A1 c1 x1 b w (now hf0) hc0 (now hf1) hc1 h) fun e w' he => ?_
  obtain ⟨rfl, hb⟩ := he
  exact ⟨_, rfl, hb.below, (show E.Rep _ _ _ _ _ from by simp only [iI, ci, E.Rep])⟩
theorem nat_Compare.ok : FunOk Tryd.prog 109 (mk (more rU (one rU)) iI nat_Compare.c) := lm_ok (by kernel_rfl) nat_Compare.pc
theorem nat_Compare.eq {x0 : List Int} {x1 : List Int} {b : Int} (h : Ev (fun k => nat_Compare.f k x0 x1) b) {R : Type} (K : (Int) → Option R) : nat_Compare.c R (x0, x1) K = K b := lm_ev (g := fun (a : List Int × List Int) k => nat_Compare.f k a.1 a.2) (a := (x0, x1)) h K
noncomputable def nat_Sub.c : (R : Type) → (List Int × List Int) → ((List Int) → Option R) → Option R := fun R a => lm (fun (a : List Int × List Int) k => nat_Sub.f k a.1 a.2) R a
theorem nat_Sub.pc (a : List Int × List Int) (b : List Int) (k : Nat) (h : nat_Sub.f k a.1 a.2 = some b) : PureC Tryd.prog 132 ((more rU (one rU)).enc a) (rU.enc b) := by
  intro w P0 vs hr
  obtain ⟨x0, x1⟩ := a
  obtain ⟨A0, c0, u0, e0, hc0, hf0, hr⟩ := at_row hr
  obtain ⟨A1, c1, u1, e1, hc1, hf1, hr⟩ := at_row hr
  have z := at_nil hr
  subst z
  subst e1
  have q2 := e0
  obtain rfl : vs = #[.slice A0 x0.length c0, .slice A1 x1.length c1] := Array.toList_inj.1 (by simpa using q2)
  refine Calls.mono (nat_Sub.calls k A0 c0 x0 A1 c1 x1 b w (now hf0) hc0 (now hf1) hc1 h) fun e w' he => ?_
  obtain ⟨v0_, rfl, hv0, hb⟩ := he
  exact ⟨_, rfl, hb, (V_row hv0 fun n hn => .inr hn)⟩
theorem nat_Sub.ok : FunOk Tryd.prog 132 (mk (more rU (one rU)) rU nat_Sub.c) := lm_ok (by kernel_rfl) nat_Sub.pc
theorem nat_Sub.eq {x0 : List Int} {x1 : List Int} {b : List Int} (h : Ev (fun k => nat_Sub.f k x0 x1) b) {R : Type} (K : (List Int) → Option R) : nat_Sub.c R (x0, x1) K = K b := lm_ev (g := fun (a : List Int × List Int) k => nat_Sub.f k a.1 a.2) (a := (x0, x1)) h K
noncomputable def nat_Gcd.c : (R : Type) → (List Int × List Int) → ((List Int) → Option R) → Option R := fun R a => lm (fun (a : List Int × List Int) k => nat_Gcd.f k a.1 a.2) R a
theorem nat_Gcd.pc (a : List Int × List Int) (b : List Int) (k : Nat) (h : nat_Gcd.f k a.1 a.2 = some b) : PureC Tryd.prog 44 ((more rU (one rU)).enc a) (rU.enc b) := by
  intro w P0 vs hr
  obtain ⟨x0, x1⟩ := a
  obtain ⟨A0, c0, u0, e0, hc0, hf0, hr⟩ := at_row hr
  obtain ⟨A1, c1, u1, e1, hc1, hf1, hr⟩ := at_row hr
  have z := at_nil hr
  subst z
  subst e1
  have q2 := e0
  obtain rfl : vs = #[.slice A0 x0.length c0, .slice A1 x1.length c1] := Array.toList_inj.1 (by simpa using q2)
  refine Calls.mono (nat_Gcd.calls k P0 A0 c0 x0 P0 A1 c1 x1 b w (rowV hf0 hc0) (rowV hf1 hc1) h) fun e w' he => ?_
  obtain ⟨v0_, rfl, hv0, hb⟩ := he
  exact ⟨_, rfl, hb, (R_new hv0 fun n hn => .inr hn)⟩
theorem nat_Gcd.ok : FunOk Tryd.prog 44 (mk (more rU (one rU)) rU nat_Gcd.c) := lm_ok (by kernel_rfl) nat_Gcd.pc
theorem nat_Gcd.eq {x0 : List Int} {x1 : List Int} {b : List Int} (h : Ev (fun k => nat_Gcd.f k x0 x1) b) {R : Type} (K : (List Int) → Option R) : nat_Gcd.c R (x0, x1) K = K b := lm_ev (g := fun (a : List Int × List Int) k => nat_Gcd.f k a.1 a.2) (a := (x0, x1)) h K
noncomputable def nat_DivMod.c : (R : Type) → (List Int × List Int) → (((List Int × List Int)) → Option R) → Option R := fun R a => lm (fun (a : List Int × List Int) k => nat_DivMod.f k a.1 a.2) R a
theorem nat_DivMod.pc (a : List Int × List Int) (b : (List Int × List Int)) (k : Nat) (h : nat_DivMod.f k a.1 a.2 = some b) : PureC Tryd.prog 94 ((more rU (one rU)).enc a) ((tup (more rU (one rU))).enc b) := by
  intro w P0 vs hr
  obtain ⟨x0, x1⟩ := a
  obtain ⟨r0, r1⟩ := b
  obtain ⟨A0, c0, u0, e0, hc0, hf0, hr⟩ := at_row hr
  obtain ⟨A1, c1, u1, e1, hc1, hf1, hr⟩ := at_row hr
  have z := at_nil hr
  subst z
  subst e1
  have q2 := e0
  obtain rfl : vs = #[.slice A0 x0.length c0, .slice A1 x1.length c1] := Array.toList_inj.1 (by simpa using q2)
  refine Calls.mono (nat_DivMod.calls k A0 c0 x0 A1 c1 x1 r0 r1 w (now hf0) hc0 (now hf1) hc1 h) fun e w' he => ?_
  obtain ⟨v0_, v1_, rfl, hv0, hv1, hb⟩ := he
  exact ⟨_, rfl, hb, (rep_tup2 (V_row hv0 fun n hn => .inr hn) (V_row hv1 fun n hn => .inr hn))⟩
theorem nat_DivMod.ok : FunOk Tryd.prog 94 (mk (more rU (one rU)) (tup (more rU (one rU))) nat_DivMod.c) := lm_ok (by kernel_rfl) nat_DivMod.pc
theorem nat_DivMod.eq {x0 : List Int} {x1 : List Int} {b : (List Int × List Int)} (h : Ev (fun k => nat_DivMod.f k x0 x1) b) {R : Type} (K : ((List Int × List Int)) → Option R) : nat_DivMod.c R (x0, x1) K = K b := lm_ev (g := fun (a : List Int × List Int) k => nat_DivMod.f k a.1 a.2) (a := (x0, x1)) h K
def nat_IsOne.c : (R : Type) → (List Int) → ((Bool) → Option R) → Option R := fun R a => at' (fun (a : List Int) => nat_IsOne.f a) R a
theorem nat_IsOne.pc (a : List Int) (b : Bool) (h : nat_IsOne.f a = some b) : PureC Tryd.prog 43 ((one rU).enc a) (cb.enc b) := by
  intro w P0 vs hr
  obtain ⟨A0, c0, u0, e0, hc0, hf0, hr⟩ := at_row hr
  have z := at_nil hr
  subst z
  have q1 := e0
  obtain rfl : vs = #[.slice A0 a.length c0] := Array.toList_inj.1 (by simpa using q1)
  refine Calls.mono (nat_IsOne.calls A0 c0 a b w (now hf0) hc0 h) fun e w' he => ?_
  obtain ⟨rfl, hb⟩ := he
  exact ⟨_, rfl, hb.below, (show E.Rep _ _ _ _ _ from by simp only [cb, E.Rep])⟩
theorem nat_IsOne.ok : FunOk Tryd.prog 43 (mk (one rU) cb nat_IsOne.c) := at_ok (by kernel_rfl) nat_IsOne.pc
theorem nat_IsOne.eq {x0 : List Int} {b : Bool} (h : nat_IsOne.f x0 = some b) {R : Type} (K : (Bool) → Option R) : nat_IsOne.c R x0 K = K b := at_eq (g := fun (a : List Int) => nat_IsOne.f a) (a := x0) h K
def slices_Clone_uint32_uint32.c : (R : Type) → (List Int) → ((List Int) → Option R) → Option R := fun R a => at' (fun (a : List Int) => slices_Clone_uint32_uint32.f a) R a
theorem slices_Clone_uint32_uint32.pc (a : List Int) (b : List Int) (h : slices_Clone_uint32_uint32.f a = some b) : PureC Tryd.prog 95 ((one rU).enc a) (rU.enc b) := by
  intro w P0 vs hr
  obtain ⟨A0, c0, u0, e0, hc0, hf0, hr⟩ := at_row hr
  have z := at_nil hr
  subst z
  have q1 := e0
  obtain rfl : vs = #[.slice A0 a.length c0] := Array.toList_inj.1 (by simpa using q1)
  refine Calls.mono (slices_Clone_uint32_uint32.calls A0 c0 a b w (now hf0) hc0 h) fun e w' he => ?_
  obtain ⟨v0_, rfl, hv0, hb⟩ := he
  exact ⟨_, rfl, hb, (R_new hv0 fun n hn => .inr hn)⟩
theorem slices_Clone_uint32_uint32.ok : FunOk Tryd.prog 95 (mk (one rU) rU slices_Clone_uint32_uint32.c) := at_ok (by kernel_rfl) slices_Clone_uint32_uint32.pc
theorem slices_Clone_uint32_uint32.eq {x0 : List Int} {b : List Int} (h : slices_Clone_uint32_uint32.f x0 = some b) {R : Type} (K : (List Int) → Option R) : slices_Clone_uint32_uint32.c R x0 K = K b := at_eq (g := fun (a : List Int) => slices_Clone_uint32_uint32.f a) (a := x0) h K
noncomputable def number_check2.c (R : Type) (a : (Bool × List Int × List Int × Bool × List Int × List Int)) (K : (Int) → Option R) : Option R :=
  (number_Check.c _ (a.1, a.2.1, a.2.2.1) fun t1 => (if (t1 != (0 : Int)) = true then K t1 else (number_Check.c _ (a.2.2.2.1, a.2.2.2.2.1, a.2.2.2.2.2) fun t2 => (if (t2 != (0 : Int)) = true then K t2 else K (0 : Int)))))
noncomputable def number_check2.T (g14 : CF (Nm) (Int)) : List (Nat × Tf) := [(14, .pure (mk (one kN) iI g14))]
theorem number_check2.tok : TOk Tryd.prog (tt (number_check2.T number_Check.c)) := (tt_cons number_Check.ok tt_nil)
set_option maxRecDepth 100000 in
theorem number_check2.ex0 (g14 : CF (Nm) (Int)) (R : Type) (a : (Bool × List Int × List Int × Bool × List Int × List Int)) (K : (Int) → Option R) : execFn' Tryd.prog (tt (number_check2.T g14)) (lt []) 60 Tryd.f61 R ((one (arr 3 (more cb (more rU (more rU (more cb (more rU (one rU)))))))).enc a) (dk iI K) = (g14 _ (a.1, a.2.1, a.2.2.1) fun t1 => (if (t1 != (0 : Int)) = true then K t1 else (g14 _ (a.2.2.2.1, a.2.2.2.2.1, a.2.2.2.2.2) fun t2 => (if (t2 != (0 : Int)) = true then K t2 else K (0 : Int))))) := by kernel_rfl
theorem number_check2.sh : Shown Tryd.prog 61 (one (arr 3 (more cb (more rU (more rU (more cb (more rU (one rU)))))))).enc iI number_check2.c := exec_shown number_check2.tok mixed Tryd.func61 (by kernel_rfl) (number_check2.ex0 number_Check.c)
theorem number_check2.ok : FunOk Tryd.prog 61 (mk (one (arr 3 (more cb (more rU (more rU (more cb (more rU (one rU)))))))) iI number_check2.c) := number_check2.sh.ok (by kernel_rfl)
noncomputable def number_fits.c (R : Type) (a : Nm) (K : ((Nm × Int)) → Option R) : Option R :=
  (if (decide ((a.2.1.length : Int) > (128 : Int))) = false then (if (decide ((a.2.2.length : Int) > (128 : Int))) = true then K ((false, ([] : List Int), ([] : List Int)), (3 : Int)) else K ((a.1, a.2.1, a.2.2), (0 : Int))) else K ((false, ([] : List Int), ([] : List Int)), (3 : Int)))
noncomputable def number_fits.T : List (Nat × Tf) := []
theorem number_fits.tok : TOk Tryd.prog (tt (number_fits.T)) := tt_nil
set_option maxRecDepth 100000 in
theorem number_fits.ex0 (R : Type) (a : Nm) (K : ((Nm × Int)) → Option R) : execFn' Tryd.prog (tt (number_fits.T)) (lt []) 60 Tryd.f106 R ((one kN).enc a) (dk kE K) = (if (decide ((a.2.1.length : Int) > (128 : Int))) = false then (if (decide ((a.2.2.length : Int) > (128 : Int))) = true then K ((false, ([] : List Int), ([] : List Int)), (3 : Int)) else K ((a.1, a.2.1, a.2.2), (0 : Int))) else K ((false, ([] : List Int), ([] : List Int)), (3 : Int))) := by kernel_rfl
theorem number_fits.sh : Shown Tryd.prog 106 (one kN).enc kE number_fits.c := exec_shown number_fits.tok mixed Tryd.func106 (by kernel_rfl) (number_fits.ex0)
theorem number_fits.ok : FunOk Tryd.prog 106 (mk (one kN) kE number_fits.c) := number_fits.sh.ok (by kernel_rfl)
noncomputable def number_raw.c (R : Type) (a : Bool × List Int × List Int) (K : (Nm) → Option R) : Option R :=
  (if ((a.2.1.length : Int) == (0 : Int)) = true then K (false, ([] : List Int), ([(1 : Int)] : List Int)) else (nat_IsOne.c _ a.2.2 fun t1 => (if (!t1) = true then (nat_Gcd.c _ (a.2.1, a.2.2) fun t2 => (nat_IsOne.c _ t2 fun t3 => (if (!t3) = true then (nat_DivMod.c _ (a.2.1, t2) fun t4 => (nat_DivMod.c _ (a.2.2, t2) fun t5 => (slices_Clone_uint32_uint32.c _ t4.1 fun t6 => (slices_Clone_uint32_uint32.c _ t5.1 fun t7 => K (a.1, t6, t7))))) else (slices_Clone_uint32_uint32.c _ a.2.1 fun t8 => (slices_Clone_uint32_uint32.c _ a.2.2 fun t9 => K (a.1, t8, t9)))))) else (slices_Clone_uint32_uint32.c _ a.2.1 fun t10 => (slices_Clone_uint32_uint32.c _ a.2.2 fun t11 => K (a.1, t10, t11))))))
noncomputable def number_raw.T (g43 : CF (List Int) (Bool)) (g44 : CF (List Int × List Int) (List Int)) (g94 : CF (List Int × List Int) ((List Int × List Int))) (g95 : CF (List Int) (List Int)) : List (Nat × Tf) := [(43, .pure (mk (one rU) cb g43)), (44, .pure (mk (more rU (one rU)) rU g44)), (94, .pure (mk (more rU (one rU)) (tup (more rU (one rU))) g94)), (95, .pure (mk (one rU) rU g95))]
theorem number_raw.tok : TOk Tryd.prog (tt (number_raw.T nat_IsOne.c nat_Gcd.c nat_DivMod.c slices_Clone_uint32_uint32.c)) := (tt_cons nat_IsOne.ok (tt_cons nat_Gcd.ok (tt_cons nat_DivMod.ok (tt_cons slices_Clone_uint32_uint32.ok tt_nil))))
set_option maxRecDepth 100000 in
theorem number_raw.ex0 (g43 : CF (List Int) (Bool)) (g44 : CF (List Int × List Int) (List Int)) (g94 : CF (List Int × List Int) ((List Int × List Int))) (g95 : CF (List Int) (List Int)) (R : Type) (a : Bool × List Int × List Int) (K : (Nm) → Option R) : execFn' Tryd.prog (tt (number_raw.T g43 g44 g94 g95)) (lt []) 60 Tryd.f78 R ((more cb (more rU (one rU))).enc a) (dk kN K) = (if ((a.2.1.length : Int) == (0 : Int)) = true then K (false, ([] : List Int), ([(1 : Int)] : List Int)) else (g43 _ a.2.2 fun t1 => (if (!t1) = true then (g44 _ (a.2.1, a.2.2) fun t2 => (g43 _ t2 fun t3 => (if (!t3) = true then (g94 _ (a.2.1, t2) fun t4 => (g94 _ (a.2.2, t2) fun t5 => (g95 _ t4.1 fun t6 => (g95 _ t5.1 fun t7 => K (a.1, t6, t7))))) else (g95 _ a.2.1 fun t8 => (g95 _ a.2.2 fun t9 => K (a.1, t8, t9)))))) else (g95 _ a.2.1 fun t10 => (g95 _ a.2.2 fun t11 => K (a.1, t10, t11)))))) := by kernel_rfl
theorem number_raw.sh : Shown Tryd.prog 78 (more cb (more rU (one rU))).enc kN number_raw.c := exec_shown number_raw.tok mixed Tryd.func78 (by kernel_rfl) (number_raw.ex0 nat_IsOne.c nat_Gcd.c nat_DivMod.c slices_Clone_uint32_uint32.c)
theorem number_raw.ok : FunOk Tryd.prog 78 (mk (more cb (more rU (one rU))) kN number_raw.c) := number_raw.sh.ok (by kernel_rfl)
noncomputable def number_made.c (R : Type) (a : Bool × List Int × List Int) (K : ((Nm × Int)) → Option R) : Option R :=
  (number_raw.c _ (a.1, a.2.1, a.2.2) fun t1 => (number_fits.c _ (t1.1, t1.2.1, t1.2.2) fun t2 => K ((t2.1.1, t2.1.2.1, t2.1.2.2), t2.2)))
noncomputable def number_made.T (g78 : CF (Bool × List Int × List Int) (Nm)) (g106 : CF (Nm) ((Nm × Int))) : List (Nat × Tf) := [(78, .pure (mk (more cb (more rU (one rU))) kN g78)), (106, .pure (mk (one kN) kE g106))]
theorem number_made.tok : TOk Tryd.prog (tt (number_made.T number_raw.c number_fits.c)) := (tt_cons number_raw.ok (tt_cons number_fits.ok tt_nil))
set_option maxRecDepth 100000 in
theorem number_made.ex0 (g78 : CF (Bool × List Int × List Int) (Nm)) (g106 : CF (Nm) ((Nm × Int))) (R : Type) (a : Bool × List Int × List Int) (K : ((Nm × Int)) → Option R) : execFn' Tryd.prog (tt (number_made.T g78 g106)) (lt []) 60 Tryd.f54 R ((more cb (more rU (one rU))).enc a) (dk kE K) = (g78 _ (a.1, a.2.1, a.2.2) fun t1 => (g106 _ (t1.1, t1.2.1, t1.2.2) fun t2 => K ((t2.1.1, t2.1.2.1, t2.1.2.2), t2.2))) := by kernel_rfl
theorem number_made.sh : Shown Tryd.prog 54 (more cb (more rU (one rU))).enc kE number_made.c := exec_shown number_made.tok mixed Tryd.func54 (by kernel_rfl) (number_made.ex0 number_raw.c number_fits.c)
theorem number_made.ok : FunOk Tryd.prog 54 (mk (more cb (more rU (one rU))) kE number_made.c) := number_made.sh.ok (by kernel_rfl)
noncomputable def number_sum.c (R : Type) (a : Bool × List Int × Bool × List Int) (K : ((Bool × List Int)) → Option R) : Option R :=
  (if (a.1 == a.2.2.1) = true then (nat_plus.c _ (([] : List Int), a.2.1) fun t1 => (nat_plus.c _ (t1, a.2.2.2) fun t2 => K (a.1, t2))) else (nat_Compare.c _ (a.2.1, a.2.2.2) fun t3 => (if (decide (t3 ≥ (0 : Int))) = true then (nat_Sub.c _ (a.2.1, a.2.2.2) fun t4 => K (a.1, t4)) else (nat_Sub.c _ (a.2.2.2, a.2.1) fun t5 => K (a.2.2.1, t5)))))
noncomputable def number_sum.T93 (g105 : CF (List Int × List Int) (List Int)) (g109 : CF (List Int × List Int) (Int)) (g132 : CF (List Int × List Int) (List Int)) : List (Nat × Tf) := [(105, .pure (mk (more rU (one rU)) rU g105))]
theorem number_sum.tok93 : TOk Tryd.prog (tt (number_sum.T93 nat_plus.c nat_Compare.c nat_Sub.c)) := (tt_cons nat_plus.ok tt_nil)
noncomputable def number_sum.T (g105 : CF (List Int × List Int) (List Int)) (g109 : CF (List Int × List Int) (Int)) (g132 : CF (List Int × List Int) (List Int)) : List (Nat × Tf) := [(93, .pure (execFn' Tryd.prog (tt (number_sum.T93 g105 g109 g132)) (lt []) 60 Tryd.f93)), (109, .pure (mk (more rU (one rU)) iI g109)), (132, .pure (mk (more rU (one rU)) rU g132))]
theorem number_sum.tok : TOk Tryd.prog (tt (number_sum.T nat_plus.c nat_Compare.c nat_Sub.c)) := (tt_cons (execN_ok number_sum.tok93 mixed Tryd.func93 (by kernel_rfl)) (tt_cons nat_Compare.ok (tt_cons nat_Sub.ok tt_nil)))
set_option maxRecDepth 100000 in
theorem number_sum.ex0 (g105 : CF (List Int × List Int) (List Int)) (g109 : CF (List Int × List Int) (Int)) (g132 : CF (List Int × List Int) (List Int)) (R : Type) (a : Bool × List Int × Bool × List Int) (K : ((Bool × List Int)) → Option R) : execFn' Tryd.prog (tt (number_sum.T g105 g109 g132)) (lt []) 60 Tryd.f110 R ((more cb (more rU (more cb (one rU)))).enc a) (dk (tup (more cb (one rU))) K) = (if (a.1 == a.2.2.1) = true then (g105 _ (([] : List Int), a.2.1) fun t1 => (g105 _ (t1, a.2.2.2) fun t2 => K (a.1, t2))) else (g109 _ (a.2.1, a.2.2.2) fun t3 => (if (decide (t3 ≥ (0 : Int))) = true then (g132 _ (a.2.1, a.2.2.2) fun t4 => K (a.1, t4)) else (g132 _ (a.2.2.2, a.2.1) fun t5 => K (a.2.2.1, t5))))) := by kernel_rfl
theorem number_sum.sh : Shown Tryd.prog 110 (more cb (more rU (more cb (one rU)))).enc (tup (more cb (one rU))) number_sum.c := exec_shown number_sum.tok mixed Tryd.func110 (by kernel_rfl) (number_sum.ex0 nat_plus.c nat_Compare.c nat_Sub.c)
theorem number_sum.ok : FunOk Tryd.prog 110 (mk (more cb (more rU (more cb (one rU)))) (tup (more cb (one rU))) number_sum.c) := number_sum.sh.ok (by kernel_rfl)
noncomputable def number_add.c (R : Type) (a : Nm × Nm × Bool) (K : ((Nm × Int)) → Option R) : Option R :=
  (nat_Mul.c _ (a.1.2.1, a.2.1.2.2) fun t1 => (nat_Mul.c _ (a.2.1.2.1, a.1.2.2) fun t2 => (number_sum.c _ (a.1.1, t1, (!(a.2.1.1 == a.2.2)), t2) fun t3 => (nat_Mul.c _ (a.1.2.2, a.2.1.2.2) fun t4 => (number_made.c _ (t3.1, t3.2, t4) fun t5 => K ((t5.1.1, t5.1.2.1, t5.1.2.2), t5.2))))))
noncomputable def number_add.T (g77 : CF (List Int × List Int) (List Int)) (g110 : CF (Bool × List Int × Bool × List Int) ((Bool × List Int))) (g54 : CF (Bool × List Int × List Int) ((Nm × Int))) : List (Nat × Tf) := [(54, .pure (mk (more cb (more rU (one rU))) kE g54)), (77, .pure (mk (more rU (one rU)) rU g77)), (110, .pure (mk (more cb (more rU (more cb (one rU)))) (tup (more cb (one rU))) g110))]
theorem number_add.tok : TOk Tryd.prog (tt (number_add.T nat_Mul.c number_sum.c number_made.c)) := (tt_cons number_made.ok (tt_cons nat_Mul.ok (tt_cons number_sum.ok tt_nil)))
set_option maxRecDepth 100000 in
theorem number_add.ex0 (g77 : CF (List Int × List Int) (List Int)) (g110 : CF (Bool × List Int × Bool × List Int) ((Bool × List Int))) (g54 : CF (Bool × List Int × List Int) ((Nm × Int))) (R : Type) (a : Nm × Nm × Bool) (K : ((Nm × Int)) → Option R) : execFn' Tryd.prog (tt (number_add.T g77 g110 g54)) (lt []) 60 Tryd.f64 R ((more kN (more kN (one cb))).enc a) (dk kE K) = (g77 _ (a.1.2.1, a.2.1.2.2) fun t1 => (g77 _ (a.2.1.2.1, a.1.2.2) fun t2 => (g110 _ (a.1.1, t1, (!(a.2.1.1 == a.2.2)), t2) fun t3 => (g77 _ (a.1.2.2, a.2.1.2.2) fun t4 => (g54 _ (t3.1, t3.2, t4) fun t5 => K ((t5.1.1, t5.1.2.1, t5.1.2.2), t5.2)))))) := by kernel_rfl
theorem number_add.sh : Shown Tryd.prog 64 (more kN (more kN (one cb))).enc kE number_add.c := exec_shown number_add.tok mixed Tryd.func64 (by kernel_rfl) (number_add.ex0 nat_Mul.c number_sum.c number_made.c)
theorem number_add.ok : FunOk Tryd.prog 64 (mk (more kN (more kN (one cb))) kE number_add.c) := number_add.sh.ok (by kernel_rfl)
noncomputable def number_Add.c (R : Type) (a : Nm × Nm) (K : ((Nm × Int)) → Option R) : Option R :=
  (number_check2.c _ (a.1.1, a.1.2.1, a.1.2.2, a.2.1, a.2.2.1, a.2.2.2) fun t1 => (if (t1 != (0 : Int)) = true then K ((false, ([] : List Int), ([] : List Int)), t1) else (number_add.c _ ((a.1.1, a.1.2.1, a.1.2.2), (a.2.1, a.2.2.1, a.2.2.2), false) fun t2 => K ((t2.1.1, t2.1.2.1, t2.1.2.2), t2.2))))
noncomputable def number_Add.T (g61 : CF ((Bool × List Int × List Int × Bool × List Int × List Int)) (Int)) (g64 : CF (Nm × Nm × Bool) ((Nm × Int))) : List (Nat × Tf) := [(61, .pure (mk (one (arr 3 (more cb (more rU (more rU (more cb (more rU (one rU)))))))) iI g61)), (64, .pure (mk (more kN (more kN (one cb))) kE g64))]
theorem number_Add.tok : TOk Tryd.prog (tt (number_Add.T number_check2.c number_add.c)) := (tt_cons number_check2.ok (tt_cons number_add.ok tt_nil))
set_option maxRecDepth 100000 in
theorem number_Add.ex0 (g61 : CF ((Bool × List Int × List Int × Bool × List Int × List Int)) (Int)) (g64 : CF (Nm × Nm × Bool) ((Nm × Int))) (R : Type) (a : Nm × Nm) (K : ((Nm × Int)) → Option R) : execFn' Tryd.prog (tt (number_Add.T g61 g64)) (lt []) 60 Tryd.f25 R ((more kN (one kN)).enc a) (dk kE K) = (g61 _ (a.1.1, a.1.2.1, a.1.2.2, a.2.1, a.2.2.1, a.2.2.2) fun t1 => (if (t1 != (0 : Int)) = true then K ((false, ([] : List Int), ([] : List Int)), t1) else (g64 _ ((a.1.1, a.1.2.1, a.1.2.2), (a.2.1, a.2.2.1, a.2.2.2), false) fun t2 => K ((t2.1.1, t2.1.2.1, t2.1.2.2), t2.2)))) := by kernel_rfl
theorem number_Add.sh : Shown Tryd.prog 25 (more kN (one kN)).enc kE number_Add.c := exec_shown number_Add.tok mixed Tryd.func25 (by kernel_rfl) (number_Add.ex0 number_check2.c number_add.c)
theorem number_Add.ok : FunOk Tryd.prog 25 (mk (more kN (one kN)) kE number_Add.c) := number_Add.sh.ok (by kernel_rfl)
noncomputable def number_Sub.c (R : Type) (a : Nm × Nm) (K : ((Nm × Int)) → Option R) : Option R :=
  (number_check2.c _ (a.1.1, a.1.2.1, a.1.2.2, a.2.1, a.2.2.1, a.2.2.2) fun t1 => (if (t1 != (0 : Int)) = true then K ((false, ([] : List Int), ([] : List Int)), t1) else (number_add.c _ ((a.1.1, a.1.2.1, a.1.2.2), (a.2.1, a.2.2.1, a.2.2.2), true) fun t2 => K ((t2.1.1, t2.1.2.1, t2.1.2.2), t2.2))))
noncomputable def number_Sub.T (g61 : CF ((Bool × List Int × List Int × Bool × List Int × List Int)) (Int)) (g64 : CF (Nm × Nm × Bool) ((Nm × Int))) : List (Nat × Tf) := [(61, .pure (mk (one (arr 3 (more cb (more rU (more rU (more cb (more rU (one rU)))))))) iI g61)), (64, .pure (mk (more kN (more kN (one cb))) kE g64))]
theorem number_Sub.tok : TOk Tryd.prog (tt (number_Sub.T number_check2.c number_add.c)) := (tt_cons number_check2.ok (tt_cons number_add.ok tt_nil))
set_option maxRecDepth 100000 in
theorem number_Sub.ex0 (g61 : CF ((Bool × List Int × List Int × Bool × List Int × List Int)) (Int)) (g64 : CF (Nm × Nm × Bool) ((Nm × Int))) (R : Type) (a : Nm × Nm) (K : ((Nm × Int)) → Option R) : execFn' Tryd.prog (tt (number_Sub.T g61 g64)) (lt []) 60 Tryd.f27 R ((more kN (one kN)).enc a) (dk kE K) = (g61 _ (a.1.1, a.1.2.1, a.1.2.2, a.2.1, a.2.2.1, a.2.2.2) fun t1 => (if (t1 != (0 : Int)) = true then K ((false, ([] : List Int), ([] : List Int)), t1) else (g64 _ ((a.1.1, a.1.2.1, a.1.2.2), (a.2.1, a.2.2.1, a.2.2.2), true) fun t2 => K ((t2.1.1, t2.1.2.1, t2.1.2.2), t2.2)))) := by kernel_rfl
theorem number_Sub.sh : Shown Tryd.prog 27 (more kN (one kN)).enc kE number_Sub.c := exec_shown number_Sub.tok mixed Tryd.func27 (by kernel_rfl) (number_Sub.ex0 number_check2.c number_add.c)
theorem number_Sub.ok : FunOk Tryd.prog 27 (mk (more kN (one kN)) kE number_Sub.c) := number_Sub.sh.ok (by kernel_rfl)
noncomputable def number_Mul.c (R : Type) (a : Nm × Nm) (K : ((Nm × Int)) → Option R) : Option R :=
  (number_check2.c _ (a.1.1, a.1.2.1, a.1.2.2, a.2.1, a.2.2.1, a.2.2.2) fun t1 => (if (t1 != (0 : Int)) = true then K ((false, ([] : List Int), ([] : List Int)), t1) else (nat_Mul.c _ (a.1.2.1, a.2.2.1) fun t2 => (nat_Mul.c _ (a.1.2.2, a.2.2.2) fun t3 => (number_made.c _ ((!(a.1.1 == a.2.1)), t2, t3) fun t4 => K ((t4.1.1, t4.1.2.1, t4.1.2.2), t4.2))))))
noncomputable def number_Mul.T (g61 : CF ((Bool × List Int × List Int × Bool × List Int × List Int)) (Int)) (g77 : CF (List Int × List Int) (List Int)) (g54 : CF (Bool × List Int × List Int) ((Nm × Int))) : List (Nat × Tf) := [(54, .pure (mk (more cb (more rU (one rU))) kE g54)), (61, .pure (mk (one (arr 3 (more cb (more rU (more rU (more cb (more rU (one rU)))))))) iI g61)), (77, .pure (mk (more rU (one rU)) rU g77))]
theorem number_Mul.tok : TOk Tryd.prog (tt (number_Mul.T number_check2.c nat_Mul.c number_made.c)) := (tt_cons number_made.ok (tt_cons number_check2.ok (tt_cons nat_Mul.ok tt_nil)))
set_option maxRecDepth 100000 in
theorem number_Mul.ex0 (g61 : CF ((Bool × List Int × List Int × Bool × List Int × List Int)) (Int)) (g77 : CF (List Int × List Int) (List Int)) (g54 : CF (Bool × List Int × List Int) ((Nm × Int))) (R : Type) (a : Nm × Nm) (K : ((Nm × Int)) → Option R) : execFn' Tryd.prog (tt (number_Mul.T g61 g77 g54)) (lt []) 60 Tryd.f28 R ((more kN (one kN)).enc a) (dk kE K) = (g61 _ (a.1.1, a.1.2.1, a.1.2.2, a.2.1, a.2.2.1, a.2.2.2) fun t1 => (if (t1 != (0 : Int)) = true then K ((false, ([] : List Int), ([] : List Int)), t1) else (g77 _ (a.1.2.1, a.2.2.1) fun t2 => (g77 _ (a.1.2.2, a.2.2.2) fun t3 => (g54 _ ((!(a.1.1 == a.2.1)), t2, t3) fun t4 => K ((t4.1.1, t4.1.2.1, t4.1.2.2), t4.2)))))) := by kernel_rfl
theorem number_Mul.sh : Shown Tryd.prog 28 (more kN (one kN)).enc kE number_Mul.c := exec_shown number_Mul.tok mixed Tryd.func28 (by kernel_rfl) (number_Mul.ex0 number_check2.c nat_Mul.c number_made.c)
theorem number_Mul.ok : FunOk Tryd.prog 28 (mk (more kN (one kN)) kE number_Mul.c) := number_Mul.sh.ok (by kernel_rfl)
noncomputable def number_Div.c (R : Type) (a : Nm × Nm) (K : ((Nm × Int)) → Option R) : Option R :=
  (number_check2.c _ (a.1.1, a.1.2.1, a.1.2.2, a.2.1, a.2.2.1, a.2.2.2) fun t1 => (if (t1 != (0 : Int)) = true then K ((false, ([] : List Int), ([] : List Int)), t1) else (if ((a.2.2.1.length : Int) == (0 : Int)) = true then K ((false, ([] : List Int), ([] : List Int)), (10 : Int)) else (nat_Mul.c _ (a.1.2.1, a.2.2.2) fun t2 => (nat_Mul.c _ (a.1.2.2, a.2.2.1) fun t3 => (number_made.c _ ((!(a.1.1 == a.2.1)), t2, t3) fun t4 => K ((t4.1.1, t4.1.2.1, t4.1.2.2), t4.2)))))))
noncomputable def number_Div.T (g61 : CF ((Bool × List Int × List Int × Bool × List Int × List Int)) (Int)) (g77 : CF (List Int × List Int) (List Int)) (g54 : CF (Bool × List Int × List Int) ((Nm × Int))) : List (Nat × Tf) := [(54, .pure (mk (more cb (more rU (one rU))) kE g54)), (61, .pure (mk (one (arr 3 (more cb (more rU (more rU (more cb (more rU (one rU)))))))) iI g61)), (77, .pure (mk (more rU (one rU)) rU g77))]
theorem number_Div.tok : TOk Tryd.prog (tt (number_Div.T number_check2.c nat_Mul.c number_made.c)) := (tt_cons number_made.ok (tt_cons number_check2.ok (tt_cons nat_Mul.ok tt_nil)))
set_option maxRecDepth 100000 in
theorem number_Div.ex0 (g61 : CF ((Bool × List Int × List Int × Bool × List Int × List Int)) (Int)) (g77 : CF (List Int × List Int) (List Int)) (g54 : CF (Bool × List Int × List Int) ((Nm × Int))) (R : Type) (a : Nm × Nm) (K : ((Nm × Int)) → Option R) : execFn' Tryd.prog (tt (number_Div.T g61 g77 g54)) (lt []) 60 Tryd.f29 R ((more kN (one kN)).enc a) (dk kE K) = (g61 _ (a.1.1, a.1.2.1, a.1.2.2, a.2.1, a.2.2.1, a.2.2.2) fun t1 => (if (t1 != (0 : Int)) = true then K ((false, ([] : List Int), ([] : List Int)), t1) else (if ((a.2.2.1.length : Int) == (0 : Int)) = true then K ((false, ([] : List Int), ([] : List Int)), (10 : Int)) else (g77 _ (a.1.2.1, a.2.2.2) fun t2 => (g77 _ (a.1.2.2, a.2.2.1) fun t3 => (g54 _ ((!(a.1.1 == a.2.1)), t2, t3) fun t4 => K ((t4.1.1, t4.1.2.1, t4.1.2.2), t4.2))))))) := by kernel_rfl
theorem number_Div.sh : Shown Tryd.prog 29 (more kN (one kN)).enc kE number_Div.c := exec_shown number_Div.tok mixed Tryd.func29 (by kernel_rfl) (number_Div.ex0 number_check2.c nat_Mul.c number_made.c)
theorem number_Div.ok : FunOk Tryd.prog 29 (mk (more kN (one kN)) kE number_Div.c) := number_Div.sh.ok (by kernel_rfl)
noncomputable def nat_Of.c : (R : Type) → (Int) → ((List Int) → Option R) → Option R := fun R a => lm (fun (a : Int) k => nat_Of.f k a) R a
theorem nat_Of.pc (a : Int) (b : List Int) (k : Nat) (h : nat_Of.f k a = some b) : PureC Tryd.prog 79 ((one (ci .u64)).enc a) (rU.enc b) := by
  intro w P0 vs hr
  obtain ⟨u0, e0, hr⟩ := at_int hr
  have z := at_nil hr
  subst z
  have q1 := e0
  obtain rfl : vs = #[.int .u64 a] := Array.toList_inj.1 (by simpa using q1)
  refine Calls.mono (nat_Of.calls k a b w h) fun e w' he => ?_
  obtain ⟨v0_, rfl, hv0, hb⟩ := he
  exact ⟨_, rfl, hb, (V_row hv0 fun n hn => .inr hn)⟩
theorem nat_Of.ok : FunOk Tryd.prog 79 (mk (one (ci .u64)) rU nat_Of.c) := lm_ok (by kernel_rfl) nat_Of.pc
theorem nat_Of.eq {x0 : Int} {b : List Int} (h : Ev (fun k => nat_Of.f k x0) b) {R : Type} (K : (List Int) → Option R) : nat_Of.c R x0 K = K b := lm_ev (g := fun (a : Int) k => nat_Of.f k a) (a := x0) h K
noncomputable def number_integers2.c (R : Type) (a : (Bool × List Int × List Int × Bool × List Int × List Int)) (K : (Int) → Option R) : Option R :=
  (number_check2.c _ (a.1, a.2.1, a.2.2.1, a.2.2.2.1, a.2.2.2.2.1, a.2.2.2.2.2) fun t1 => (if (t1 != (0 : Int)) = true then K t1 else (nat_IsOne.c _ a.2.2.1 fun t2 => (if (!t2) = true then K (7 : Int) else (nat_IsOne.c _ a.2.2.2.2.2 fun t3 => (if (!t3) = true then K (7 : Int) else K (0 : Int)))))))
noncomputable def number_integers2.T (g61 : CF ((Bool × List Int × List Int × Bool × List Int × List Int)) (Int)) (g43 : CF (List Int) (Bool)) : List (Nat × Tf) := [(43, .pure (mk (one rU) cb g43)), (61, .pure (mk (one (arr 3 (more cb (more rU (more rU (more cb (more rU (one rU)))))))) iI g61))]
theorem number_integers2.tok : TOk Tryd.prog (tt (number_integers2.T number_check2.c nat_IsOne.c)) := (tt_cons nat_IsOne.ok (tt_cons number_check2.ok tt_nil))
set_option maxRecDepth 100000 in
theorem number_integers2.ex0 (g61 : CF ((Bool × List Int × List Int × Bool × List Int × List Int)) (Int)) (g43 : CF (List Int) (Bool)) (R : Type) (a : (Bool × List Int × List Int × Bool × List Int × List Int)) (K : (Int) → Option R) : execFn' Tryd.prog (tt (number_integers2.T g61 g43)) (lt []) 60 Tryd.f80 R ((one (arr 3 (more cb (more rU (more rU (more cb (more rU (one rU)))))))).enc a) (dk iI K) = (g61 _ (a.1, a.2.1, a.2.2.1, a.2.2.2.1, a.2.2.2.2.1, a.2.2.2.2.2) fun t1 => (if (t1 != (0 : Int)) = true then K t1 else (g43 _ a.2.2.1 fun t2 => (if (!t2) = true then K (7 : Int) else (g43 _ a.2.2.2.2.2 fun t3 => (if (!t3) = true then K (7 : Int) else K (0 : Int))))))) := by kernel_rfl
theorem number_integers2.sh : Shown Tryd.prog 80 (one (arr 3 (more cb (more rU (more rU (more cb (more rU (one rU)))))))).enc iI number_integers2.c := exec_shown number_integers2.tok mixed Tryd.func80 (by kernel_rfl) (number_integers2.ex0 number_check2.c nat_IsOne.c)
theorem number_integers2.ok : FunOk Tryd.prog 80 (mk (one (arr 3 (more cb (more rU (more rU (more cb (more rU (one rU)))))))) iI number_integers2.c) := number_integers2.sh.ok (by kernel_rfl)
noncomputable def number_whole.c (R : Type) (a : Bool × List Int) (K : ((Nm × Int)) → Option R) : Option R :=
  (number_made.c _ (a.1, a.2, ([(1 : Int)] : List Int)) fun t1 => K ((t1.1.1, t1.1.2.1, t1.1.2.2), t1.2))
noncomputable def number_whole.T (g54 : CF (Bool × List Int × List Int) ((Nm × Int))) : List (Nat × Tf) := [(54, .pure (mk (more cb (more rU (one rU))) kE g54))]
theorem number_whole.tok : TOk Tryd.prog (tt (number_whole.T number_made.c)) := (tt_cons number_made.ok tt_nil)
set_option maxRecDepth 100000 in
theorem number_whole.ex0 (g54 : CF (Bool × List Int × List Int) ((Nm × Int))) (R : Type) (a : Bool × List Int) (K : ((Nm × Int)) → Option R) : execFn' Tryd.prog (tt (number_whole.T g54)) (lt []) 60 Tryd.f85 R ((more cb (one rU)).enc a) (dk kE K) = (g54 _ (a.1, a.2, ([(1 : Int)] : List Int)) fun t1 => K ((t1.1.1, t1.1.2.1, t1.1.2.2), t1.2)) := by kernel_rfl
theorem number_whole.sh : Shown Tryd.prog 85 (more cb (one rU)).enc kE number_whole.c := exec_shown number_whole.tok mixed Tryd.func85 (by kernel_rfl) (number_whole.ex0 number_made.c)
theorem number_whole.ok : FunOk Tryd.prog 85 (mk (more cb (one rU)) kE number_whole.c) := number_whole.sh.ok (by kernel_rfl)
noncomputable def number_Sign.c (R : Type) (a : Nm) (K : ((Int × Int)) → Option R) : Option R :=
  (number_Check.c _ (a.1, a.2.1, a.2.2) fun t1 => (if (t1 != (0 : Int)) = false then (if ((a.2.1.length : Int) == (0 : Int)) = true then K ((0 : Int), t1) else (if a.1 = true then K ((-1 : Int), (0 : Int)) else K ((1 : Int), (0 : Int)))) else K ((0 : Int), t1)))
noncomputable def number_Sign.T (g14 : CF (Nm) (Int)) : List (Nat × Tf) := [(14, .pure (mk (one kN) iI g14))]
theorem number_Sign.tok : TOk Tryd.prog (tt (number_Sign.T number_Check.c)) := (tt_cons number_Check.ok tt_nil)
set_option maxRecDepth 100000 in
theorem number_Sign.ex0 (g14 : CF (Nm) (Int)) (R : Type) (a : Nm) (K : ((Int × Int)) → Option R) : execFn' Tryd.prog (tt (number_Sign.T g14)) (lt []) 60 Tryd.f30 R ((one kN).enc a) (dk (tup (more iI (one iI))) K) = (g14 _ (a.1, a.2.1, a.2.2) fun t1 => (if (t1 != (0 : Int)) = false then (if ((a.2.1.length : Int) == (0 : Int)) = true then K ((0 : Int), t1) else (if a.1 = true then K ((-1 : Int), (0 : Int)) else K ((1 : Int), (0 : Int)))) else K ((0 : Int), t1))) := by kernel_rfl
theorem number_Sign.sh : Shown Tryd.prog 30 (one kN).enc (tup (more iI (one iI))) number_Sign.c := exec_shown number_Sign.tok mixed Tryd.func30 (by kernel_rfl) (number_Sign.ex0 number_Check.c)
theorem number_Sign.ok : FunOk Tryd.prog 30 (mk (one kN) (tup (more iI (one iI))) number_Sign.c) := number_Sign.sh.ok (by kernel_rfl)
noncomputable def number_FromInt.c (R : Type) (a : Int) (K : (Nm) → Option R) : Option R :=
  (if (decide (a < (0 : Int))) = true then (nat_Of.c _ (IntKind.u64.wrap (0 - (IntKind.u64.wrap a))) fun t1 => (number_raw.c _ ((decide (a < (0 : Int))), t1, ([(1 : Int)] : List Int)) fun t2 => K (t2.1, t2.2.1, t2.2.2))) else (nat_Of.c _ (IntKind.u64.wrap a) fun t3 => (number_raw.c _ ((decide (a < (0 : Int))), t3, ([(1 : Int)] : List Int)) fun t4 => K (t4.1, t4.2.1, t4.2.2))))
noncomputable def number_FromInt.T (g79 : CF (Int) (List Int)) (g78 : CF (Bool × List Int × List Int) (Nm)) : List (Nat × Tf) := [(78, .pure (mk (more cb (more rU (one rU))) kN g78)), (79, .pure (mk (one (ci .u64)) rU g79))]
theorem number_FromInt.tok : TOk Tryd.prog (tt (number_FromInt.T nat_Of.c number_raw.c)) := (tt_cons number_raw.ok (tt_cons nat_Of.ok tt_nil))
set_option maxRecDepth 100000 in
theorem number_FromInt.ex0 (g79 : CF (Int) (List Int)) (g78 : CF (Bool × List Int × List Int) (Nm)) (R : Type) (a : Int) (K : (Nm) → Option R) : execFn' Tryd.prog (tt (number_FromInt.T g79 g78)) (lt []) 60 Tryd.f31 R ((one iI).enc a) (dk kN K) = (if (decide (a < (0 : Int))) = true then (g79 _ (IntKind.u64.wrap (0 - (IntKind.u64.wrap a))) fun t1 => (g78 _ ((decide (a < (0 : Int))), t1, ([(1 : Int)] : List Int)) fun t2 => K (t2.1, t2.2.1, t2.2.2))) else (g79 _ (IntKind.u64.wrap a) fun t3 => (g78 _ ((decide (a < (0 : Int))), t3, ([(1 : Int)] : List Int)) fun t4 => K (t4.1, t4.2.1, t4.2.2)))) := by kernel_rfl
theorem number_FromInt.sh : Shown Tryd.prog 31 (one iI).enc kN number_FromInt.c := exec_shown number_FromInt.tok mixed Tryd.func31 (by kernel_rfl) (number_FromInt.ex0 nat_Of.c number_raw.c)
theorem number_FromInt.ok : FunOk Tryd.prog 31 (mk (one iI) kN number_FromInt.c) := number_FromInt.sh.ok (by kernel_rfl)
noncomputable def number_floored.c (R : Type) (a : Bool × List Int × List Int × Bool) (K : (List Int) → Option R) : Option R :=
  (nat_DivMod.c _ (a.2.1, a.2.2.1) fun t1 => (if a.1 = true then (if a.2.2.2 = true then (if (decide ((t1.2.length : Int) > (0 : Int))) = true then (nat_plus.c _ (([] : List Int), t1.1) fun t2 => (nat_plus.c _ (t2, ([(1 : Int)] : List Int)) fun t3 => K t3)) else K t1.1) else K t1.1) else K t1.1))
noncomputable def number_floored.T93 (g94 : CF (List Int × List Int) ((List Int × List Int))) (g105 : CF (List Int × List Int) (List Int)) : List (Nat × Tf) := [(105, .pure (mk (more rU (one rU)) rU g105))]
theorem number_floored.tok93 : TOk Tryd.prog (tt (number_floored.T93 nat_DivMod.c nat_plus.c)) := (tt_cons nat_plus.ok tt_nil)
noncomputable def number_floored.T (g94 : CF (List Int × List Int) ((List Int × List Int))) (g105 : CF (List Int × List Int) (List Int)) : List (Nat × Tf) := [(93, .pure (execFn' Tryd.prog (tt (number_floored.T93 g94 g105)) (lt []) 60 Tryd.f93)), (94, .pure (mk (more rU (one rU)) (tup (more rU (one rU))) g94))]
theorem number_floored.tok : TOk Tryd.prog (tt (number_floored.T nat_DivMod.c nat_plus.c)) := (tt_cons (execN_ok number_floored.tok93 mixed Tryd.func93 (by kernel_rfl)) (tt_cons nat_DivMod.ok tt_nil))
set_option maxRecDepth 100000 in
theorem number_floored.ex0 (g94 : CF (List Int × List Int) ((List Int × List Int))) (g105 : CF (List Int × List Int) (List Int)) (R : Type) (a : Bool × List Int × List Int × Bool) (K : (List Int) → Option R) : execFn' Tryd.prog (tt (number_floored.T g94 g105)) (lt []) 60 Tryd.f92 R ((more cb (more rU (more rU (one cb)))).enc a) (dk rU K) = (g94 _ (a.2.1, a.2.2.1) fun t1 => (if a.1 = true then (if a.2.2.2 = true then (if (decide ((t1.2.length : Int) > (0 : Int))) = true then (g105 _ (([] : List Int), t1.1) fun t2 => (g105 _ (t2, ([(1 : Int)] : List Int)) fun t3 => K t3)) else K t1.1) else K t1.1) else K t1.1)) := by kernel_rfl
theorem number_floored.sh : Shown Tryd.prog 92 (more cb (more rU (more rU (one cb)))).enc rU number_floored.c := exec_shown number_floored.tok mixed Tryd.func92 (by kernel_rfl) (number_floored.ex0 nat_DivMod.c nat_plus.c)
theorem number_floored.ok : FunOk Tryd.prog 92 (mk (more cb (more rU (more rU (one cb)))) rU number_floored.c) := number_floored.sh.ok (by kernel_rfl)
noncomputable def nat_Trim.c : (R : Type) → (List Int) → ((List Int) → Option R) → Option R := fun R a => lm (fun (a : List Int) k => nat_Trim.f k a) R a
theorem nat_Trim.pc (a : List Int) (b : List Int) (k : Nat) (h : nat_Trim.f k a = some b) : PureC Tryd.prog 86 ((one rU).enc a) (rU.enc b) := by
  intro w P0 vs hr
  obtain ⟨A0, c0, u0, e0, hc0, hf0, hr⟩ := at_row hr
  have z := at_nil hr
  subst z
  have q1 := e0
  obtain rfl : vs = #[.slice A0 a.length c0] := Array.toList_inj.1 (by simpa using q1)
  refine Calls.mono (nat_Trim.calls k P0 A0 c0 a b w (rowV hf0 hc0) h) fun e w' he => ?_
  obtain ⟨v0_, rfl, hv0, hb⟩ := he
  exact ⟨_, rfl, hb, (V_row hv0 fun n hn => hn)⟩
theorem nat_Trim.ok : FunOk Tryd.prog 86 (mk (one rU) rU nat_Trim.c) := lm_ok (by kernel_rfl) nat_Trim.pc
theorem nat_Trim.eq {x0 : List Int} {b : List Int} (h : Ev (fun k => nat_Trim.f k x0) b) {R : Type} (K : (List Int) → Option R) : nat_Trim.c R x0 K = K b := lm_ev (g := fun (a : List Int) k => nat_Trim.f k a) (a := x0) h K
end Go.Proofs.YtemnjgkicndmjaaDoor.Q

namespace Go.Proofs.YtemnjgkicndmjaaDoor.Q
open Go.RowKit Go.Proofs.YtemnjgkicndmjaaDoor.E Go.Proofs.YtemnjgkicndmjaaDoorW.PrintWords Go.Proofs.YtemnjgkicndmjaaDoorW.PrintLast Go.Proofs.YtemnjgkicndmjaaDoorW.PrintMore
set_option linter.unusedVariables false
noncomputable def number_negated.bl1 : Rnd (Nat × Int × (List Int) × Int × Int × (List Int) × Unit) (Nat × (List Int) × Unit) := fun R d Kn Kz =>
  (if (decide (d.2.2.2.2.1 < d.2.2.2.1)) = true then (if 0 ≤ d.2.2.2.2.1 ∧ d.2.2.2.2.1 < (d.2.2.1.length : Int) then (if 0 ≤ d.2.2.2.2.1 ∧ d.2.2.2.2.1 < ((d.1 : Nat) : Int) then (if d.2.2.2.2.1.toNat < d.2.2.2.2.2.1.length then Kn (d.1, ((IntKind.u64.wrap (d.2.1 + (IntKind.u64.wrap (IntKind.u32.wrap (((BitVec.ofInt 32 (4294967295 : Int)) ^^^ (BitVec.ofInt 32 (d.2.2.1.getD d.2.2.2.2.1.toNat 0))).toNat : Int))))).fdiv (2 ^ 32)), d.2.2.1, d.2.2.2.1, (IntKind.i64.wrap (d.2.2.2.2.1 + (1 : Int))), (d.2.2.2.2.2.1.set d.2.2.2.2.1.toNat (IntKind.u32.wrap (IntKind.u64.wrap (d.2.1 + (IntKind.u64.wrap (IntKind.u32.wrap (((BitVec.ofInt 32 (4294967295 : Int)) ^^^ (BitVec.ofInt 32 (d.2.2.1.getD d.2.2.2.2.1.toNat 0))).toNat : Int))))))), ()) else none) else none) else none) else Kz (d.1, d.2.2.2.2.2.1, ()))
noncomputable def number_negated.l1 : LF (Nat × Int × (List Int) × Int × Int × (List Int) × Unit) (Nat × (List Int) × Unit) := iter number_negated.bl1 4611686018427387904
noncomputable def number_negated.c (R : Type) (a : List Int) (K : (List Int) → Option R) : Option R :=
  (if 0 ≤ (a.length : Int) ∧ (a.length : Int) ≤ (a.length : Int) ∧ ((4 : Nat) : Int) * (a.length : Int) ≤ 140737488355328 ∧ (a.length : Int) ≤ 9223372036854775807 then (number_negated.l1 _ ((a.length : Int).toNat, (1 : Int), a, (a.length : Int), (0 : Int), (List.replicate (a.length : Int).toNat (0 : Int)), ()) fun t1 => (if t1.1 ≤ t1.2.1.length then K (t1.2.1.take t1.1) else none)) else none)
noncomputable def number_negated.T : List (Nat × Tf) := []
theorem number_negated.tok : TOk Tryd.prog (tt (number_negated.T)) := tt_nil
noncomputable def number_negated.cl1 : Code := ((bodies [0, 1, 0, 1, 1, 1] [] (Tryd.f87.body.getD .skip)).headD .skip)
set_option maxRecDepth 100000 in
theorem number_negated.xl1 (R : Type) (d : (Nat × Int × (List Int) × Int × Int × (List Int) × Unit)) (Kn : (Nat × Int × (List Int) × Int × Int × (List Int) × Unit) → Option R) (Kz : (Nat × (List Int) × Unit) → Option R) : run' Tryd.prog (tt (number_negated.T)) (lt []) Tryd.f87.ntmps 60 [0, 0, 1, 0, 1, 1, 1] number_negated.cl1 ⟨(stmp 3 (csl 1 0) (stmp 4 (ci .u64) (stmp 10 (cr .u32) (stmp 11 (ci .i64) (stmp 12 (ci .i64) (sbox 0 (crow .u32) snil)))))).enc d, 1⟩ (dz 1 (stmp 3 (csl 1 0) (stmp 4 (ci .u64) (stmp 10 (cr .u32) (stmp 11 (ci .i64) (stmp 12 (ci .i64) (sbox 0 (crow .u32) snil)))))) (zone (.exit 0) (stmp 3 (csl 1 0) (sbox 0 (crow .u32) snil))) Kn Kz) = (if (decide (d.2.2.2.2.1 < d.2.2.2.1)) = true then (if 0 ≤ d.2.2.2.2.1 ∧ d.2.2.2.2.1 < (d.2.2.1.length : Int) then (if 0 ≤ d.2.2.2.2.1 ∧ d.2.2.2.2.1 < ((d.1 : Nat) : Int) then (if d.2.2.2.2.1.toNat < d.2.2.2.2.2.1.length then Kn (d.1, ((IntKind.u64.wrap (d.2.1 + (IntKind.u64.wrap (IntKind.u32.wrap (((BitVec.ofInt 32 (4294967295 : Int)) ^^^ (BitVec.ofInt 32 (d.2.2.1.getD d.2.2.2.2.1.toNat 0))).toNat : Int))))).fdiv (2 ^ 32)), d.2.2.1, d.2.2.2.1, (IntKind.i64.wrap (d.2.2.2.2.1 + (1 : Int))), (d.2.2.2.2.2.1.set d.2.2.2.2.1.toNat (IntKind.u32.wrap (IntKind.u64.wrap (d.2.1 + (IntKind.u64.wrap (IntKind.u32.wrap (((BitVec.ofInt 32 (4294967295 : Int)) ^^^ (BitVec.ofInt 32 (d.2.2.1.getD d.2.2.2.2.1.toNat 0))).toNat : Int))))))), ()) else none) else none) else none) else Kz (d.1, d.2.2.2.2.2.1, ())) := by kernel_rfl
theorem number_negated.ol1 : LoopOk Tryd.prog Tryd.f87.ntmps number_negated.cl1 (loopG 1 (stmp 3 (csl 1 0) (stmp 4 (ci .u64) (stmp 10 (cr .u32) (stmp 11 (ci .i64) (stmp 12 (ci .i64) (sbox 0 (crow .u32) snil)))))) (zone (.exit 0) (stmp 3 (csl 1 0) (sbox 0 (crow .u32) snil))) number_negated.l1) := loop_told number_negated.tok mixed (number_negated.xl1) 4611686018427387904
set_option maxRecDepth 100000 in
theorem number_negated.ex0 (l1 : LF (Nat × Int × (List Int) × Int × Int × (List Int) × Unit) (Nat × (List Int) × Unit)) (R : Type) (a : List Int) (K : (List Int) → Option R) : execH' Tryd.prog (tt (number_negated.T)) (lt [([0, 1, 0, 1, 1, 1], loopG 1 (stmp 3 (csl 1 0) (stmp 4 (ci .u64) (stmp 10 (cr .u32) (stmp 11 (ci .i64) (stmp 12 (ci .i64) (sbox 0 (crow .u32) snil)))))) (zone (.exit 0) (stmp 3 (csl 1 0) (sbox 0 (crow .u32) snil))) l1)]) 60 Tryd.f87 R ((one rU).enc a) (fun _ => .any) 0 (orowK .u32 K) = (if 0 ≤ (a.length : Int) ∧ (a.length : Int) ≤ (a.length : Int) ∧ ((4 : Nat) : Int) * (a.length : Int) ≤ 140737488355328 ∧ (a.length : Int) ≤ 9223372036854775807 then (l1 _ ((a.length : Int).toNat, (1 : Int), a, (a.length : Int), (0 : Int), (List.replicate (a.length : Int).toNat (0 : Int)), ()) fun t1 => (if t1.1 ≤ t1.2.1.length then K (t1.2.1.take t1.1) else none)) else none) := by kernel_rfl
theorem number_negated.sh : ShownO Tryd.prog 87 (one rU).enc .u32 number_negated.c := exec_shownO number_negated.tok mixed Tryd.func87 (by kernel_rfl) (nats_cons number_negated.ol1.1 nats_nil) (loops_at rfl (loops_cons (by kernel_rfl) number_negated.ol1 loops_nil)) (number_negated.ex0 number_negated.l1)
theorem number_negated.ok : OFunOk Tryd.prog 87 (mkO (one rU) (orow .u32) number_negated.c) := number_negated.sh.ok (by kernel_rfl)
noncomputable def number_twos.c (R : Type) (a : Nm × Int) (K : (List Int) → Option R) : Option R :=
  (if 0 ≤ a.2 ∧ a.2 ≤ a.2 ∧ ((4 : Nat) : Int) * a.2 ≤ 140737488355328 ∧ a.2 ≤ 9223372036854775807 then (if a.2.toNat ≤ (List.replicate a.2.toNat (0 : Int)).length then (if a.1.1 = true then (if a.2.toNat ≤ (a.1.2.1.take a.2.toNat ++ (List.replicate a.2.toNat (0 : Int)).drop (min a.1.2.1.length a.2.toNat)).length then (number_negated.c _ ((a.1.2.1.take a.2.toNat ++ (List.replicate a.2.toNat (0 : Int)).drop (min a.1.2.1.length a.2.toNat)).take a.2.toNat) fun t1 => (if t1.length ≤ t1.length then K (t1.take t1.length) else none)) else none) else (if a.2.toNat ≤ (a.1.2.1.take a.2.toNat ++ (List.replicate a.2.toNat (0 : Int)).drop (min a.1.2.1.length a.2.toNat)).length then K ((a.1.2.1.take a.2.toNat ++ (List.replicate a.2.toNat (0 : Int)).drop (min a.1.2.1.length a.2.toNat)).take a.2.toNat) else none)) else none) else none)
noncomputable def number_twos.T (g87 : CF (List Int) (List Int)) : List (Nat × Tf) := [(87, .own (mkO (one rU) (orow .u32) g87))]
theorem number_twos.tok : TOk Tryd.prog (tt (number_twos.T number_negated.c)) := (tt_cons number_negated.ok tt_nil)
set_option maxRecDepth 100000 in
theorem number_twos.ex0 (g87 : CF (List Int) (List Int)) (R : Type) (a : Nm × Int) (K : (List Int) → Option R) : execH' Tryd.prog (tt (number_twos.T g87)) (lt []) 60 Tryd.f84 R ((more kN (one iI)).enc a) (fun _ => .any) 0 (orowK .u32 K) = (if 0 ≤ a.2 ∧ a.2 ≤ a.2 ∧ ((4 : Nat) : Int) * a.2 ≤ 140737488355328 ∧ a.2 ≤ 9223372036854775807 then (if a.2.toNat ≤ (List.replicate a.2.toNat (0 : Int)).length then (if a.1.1 = true then (if a.2.toNat ≤ (a.1.2.1.take a.2.toNat ++ (List.replicate a.2.toNat (0 : Int)).drop (min a.1.2.1.length a.2.toNat)).length then (g87 _ ((a.1.2.1.take a.2.toNat ++ (List.replicate a.2.toNat (0 : Int)).drop (min a.1.2.1.length a.2.toNat)).take a.2.toNat) fun t1 => (if t1.length ≤ t1.length then K (t1.take t1.length) else none)) else none) else (if a.2.toNat ≤ (a.1.2.1.take a.2.toNat ++ (List.replicate a.2.toNat (0 : Int)).drop (min a.1.2.1.length a.2.toNat)).length then K ((a.1.2.1.take a.2.toNat ++ (List.replicate a.2.toNat (0 : Int)).drop (min a.1.2.1.length a.2.toNat)).take a.2.toNat) else none)) else none) else none) := by kernel_rfl
theorem number_twos.sh : ShownO Tryd.prog 84 (more kN (one iI)).enc .u32 number_twos.c := exec_shownO number_twos.tok mixed Tryd.func84 (by kernel_rfl) nats_nil (loops_at rfl loops_nil) (number_twos.ex0 number_negated.c)
theorem number_twos.ok : OFunOk Tryd.prog 84 (mkO (more kN (one iI)) (orow .u32) number_twos.c) := number_twos.sh.ok (by kernel_rfl)
noncomputable def number_Bits.bl1 : Rnd (Int × Int × Int × Nat × Nat × Int × Int × (Bool × (List Int) × (List Int) × Unit) × (Bool × (List Int) × (List Int) × Unit) × (Bool × Unit) × (List Int) × (List Int) × Unit) ((Int × (Bool × (List Int) × (List Int) × Unit) × (Bool × (List Int) × (List Int) × Unit) × (Bool × Unit) × (List Int) × (List Int) × Unit) ⊕ (Int × Int × Nat × (Bool × (List Int) × (List Int) × Unit) × (Bool × (List Int) × (List Int) × Unit) × (Bool × Unit) × (List Int) × (List Int) × Unit)) := fun R d Kn Kz =>
  (if (decide (d.2.2.2.2.2.2.1 < d.2.2.2.2.2.1)) = true then (if (d.1 == (1 : Int)) = true then (if 0 ≤ d.2.2.2.2.2.2.1 ∧ d.2.2.2.2.2.2.1 < ((d.2.2.2.1 : Nat) : Int) then (if d.2.2.2.2.2.2.1.toNat < d.2.2.2.2.2.2.2.2.2.2.1.length then (if 0 ≤ d.2.2.2.2.2.2.1 ∧ d.2.2.2.2.2.2.1 < ((d.2.2.2.2.1 : Nat) : Int) then (if d.2.2.2.2.2.2.1.toNat < d.2.2.2.2.2.2.2.2.2.2.2.1.length then (if 0 ≤ d.2.2.2.2.2.2.1 ∧ d.2.2.2.2.2.2.1 < ((d.2.2.2.1 : Nat) : Int) then (if d.2.2.2.2.2.2.1.toNat < d.2.2.2.2.2.2.2.2.2.2.1.length then Kn (d.1, d.2.1, d.2.2.1, d.2.2.2.1, d.2.2.2.2.1, d.2.2.2.2.2.1, (IntKind.i64.wrap (d.2.2.2.2.2.2.1 + (1 : Int))), (d.2.2.2.2.2.2.2.1.1, d.2.2.2.2.2.2.2.1.2.1, d.2.2.2.2.2.2.2.1.2.2.1, ()), (d.2.2.2.2.2.2.2.2.1.1, d.2.2.2.2.2.2.2.2.1.2.1, d.2.2.2.2.2.2.2.2.1.2.2.1, ()), (d.2.2.2.2.2.2.2.2.2.1.1, ()), (d.2.2.2.2.2.2.2.2.2.2.1.set d.2.2.2.2.2.2.1.toNat (IntKind.u32.wrap (((BitVec.ofInt 32 (d.2.2.2.2.2.2.2.2.2.2.1.getD d.2.2.2.2.2.2.1.toNat 0)) &&& (BitVec.ofInt 32 (d.2.2.2.2.2.2.2.2.2.2.2.1.getD d.2.2.2.2.2.2.1.toNat 0))).toNat : Int))), d.2.2.2.2.2.2.2.2.2.2.2.1, ()) else none) else none) else none) else none) else none) else none) else (if (d.1 == (2 : Int)) = true then (if 0 ≤ d.2.2.2.2.2.2.1 ∧ d.2.2.2.2.2.2.1 < ((d.2.2.2.1 : Nat) : Int) then (if d.2.2.2.2.2.2.1.toNat < d.2.2.2.2.2.2.2.2.2.2.1.length then (if 0 ≤ d.2.2.2.2.2.2.1 ∧ d.2.2.2.2.2.2.1 < ((d.2.2.2.2.1 : Nat) : Int) then (if d.2.2.2.2.2.2.1.toNat < d.2.2.2.2.2.2.2.2.2.2.2.1.length then (if 0 ≤ d.2.2.2.2.2.2.1 ∧ d.2.2.2.2.2.2.1 < ((d.2.2.2.1 : Nat) : Int) then (if d.2.2.2.2.2.2.1.toNat < d.2.2.2.2.2.2.2.2.2.2.1.length then Kn (d.1, d.2.1, d.2.2.1, d.2.2.2.1, d.2.2.2.2.1, d.2.2.2.2.2.1, (IntKind.i64.wrap (d.2.2.2.2.2.2.1 + (1 : Int))), (d.2.2.2.2.2.2.2.1.1, d.2.2.2.2.2.2.2.1.2.1, d.2.2.2.2.2.2.2.1.2.2.1, ()), (d.2.2.2.2.2.2.2.2.1.1, d.2.2.2.2.2.2.2.2.1.2.1, d.2.2.2.2.2.2.2.2.1.2.2.1, ()), (d.2.2.2.2.2.2.2.2.2.1.1, ()), (d.2.2.2.2.2.2.2.2.2.2.1.set d.2.2.2.2.2.2.1.toNat (IntKind.u32.wrap (((BitVec.ofInt 32 (d.2.2.2.2.2.2.2.2.2.2.1.getD d.2.2.2.2.2.2.1.toNat 0)) ||| (BitVec.ofInt 32 (d.2.2.2.2.2.2.2.2.2.2.2.1.getD d.2.2.2.2.2.2.1.toNat 0))).toNat : Int))), d.2.2.2.2.2.2.2.2.2.2.2.1, ()) else none) else none) else none) else none) else none) else none) else (if (d.1 == (3 : Int)) = true then (if 0 ≤ d.2.2.2.2.2.2.1 ∧ d.2.2.2.2.2.2.1 < ((d.2.2.2.1 : Nat) : Int) then (if d.2.2.2.2.2.2.1.toNat < d.2.2.2.2.2.2.2.2.2.2.1.length then (if 0 ≤ d.2.2.2.2.2.2.1 ∧ d.2.2.2.2.2.2.1 < ((d.2.2.2.2.1 : Nat) : Int) then (if d.2.2.2.2.2.2.1.toNat < d.2.2.2.2.2.2.2.2.2.2.2.1.length then (if 0 ≤ d.2.2.2.2.2.2.1 ∧ d.2.2.2.2.2.2.1 < ((d.2.2.2.1 : Nat) : Int) then (if d.2.2.2.2.2.2.1.toNat < d.2.2.2.2.2.2.2.2.2.2.1.length then Kn (d.1, d.2.1, d.2.2.1, d.2.2.2.1, d.2.2.2.2.1, d.2.2.2.2.2.1, (IntKind.i64.wrap (d.2.2.2.2.2.2.1 + (1 : Int))), (d.2.2.2.2.2.2.2.1.1, d.2.2.2.2.2.2.2.1.2.1, d.2.2.2.2.2.2.2.1.2.2.1, ()), (d.2.2.2.2.2.2.2.2.1.1, d.2.2.2.2.2.2.2.2.1.2.1, d.2.2.2.2.2.2.2.2.1.2.2.1, ()), (d.2.2.2.2.2.2.2.2.2.1.1, ()), (d.2.2.2.2.2.2.2.2.2.2.1.set d.2.2.2.2.2.2.1.toNat (IntKind.u32.wrap (((BitVec.ofInt 32 (d.2.2.2.2.2.2.2.2.2.2.1.getD d.2.2.2.2.2.2.1.toNat 0)) ^^^ (BitVec.ofInt 32 (d.2.2.2.2.2.2.2.2.2.2.2.1.getD d.2.2.2.2.2.2.1.toNat 0))).toNat : Int))), d.2.2.2.2.2.2.2.2.2.2.2.1, ()) else none) else none) else none) else none) else none) else none) else Kz (.inl ((1 : Int), (d.2.2.2.2.2.2.2.1.1, d.2.2.2.2.2.2.2.1.2.1, d.2.2.2.2.2.2.2.1.2.2.1, ()), (d.2.2.2.2.2.2.2.2.1.1, d.2.2.2.2.2.2.2.2.1.2.1, d.2.2.2.2.2.2.2.2.1.2.2.1, ()), (false, ()), d.2.2.2.2.2.2.2.2.2.2.1, d.2.2.2.2.2.2.2.2.2.2.2.1, ()))))) else Kz (.inr (d.2.1, d.2.2.1, d.2.2.2.1, (d.2.2.2.2.2.2.2.1.1, d.2.2.2.2.2.2.2.1.2.1, d.2.2.2.2.2.2.2.1.2.2.1, ()), (d.2.2.2.2.2.2.2.2.1.1, d.2.2.2.2.2.2.2.2.1.2.1, d.2.2.2.2.2.2.2.2.1.2.2.1, ()), (d.2.2.2.2.2.2.2.2.2.1.1, ()), d.2.2.2.2.2.2.2.2.2.2.1, d.2.2.2.2.2.2.2.2.2.2.2.1, ())))
noncomputable def number_Bits.l1 : LF (Int × Int × Int × Nat × Nat × Int × Int × (Bool × (List Int) × (List Int) × Unit) × (Bool × (List Int) × (List Int) × Unit) × (Bool × Unit) × (List Int) × (List Int) × Unit) ((Int × (Bool × (List Int) × (List Int) × Unit) × (Bool × (List Int) × (List Int) × Unit) × (Bool × Unit) × (List Int) × (List Int) × Unit) ⊕ (Int × Int × Nat × (Bool × (List Int) × (List Int) × Unit) × (Bool × (List Int) × (List Int) × Unit) × (Bool × Unit) × (List Int) × (List Int) × Unit)) := iter number_Bits.bl1 4611686018427387904
noncomputable def number_Bits.c (R : Type) (a : Int × Nm × Nm) (K : ((Nm × Int)) → Option R) : Option R :=
  (number_integers2.c _ (a.2.1.1, a.2.1.2.1, a.2.1.2.2, a.2.2.1, a.2.2.2.1, a.2.2.2.2) fun t1 => (if (t1 != (0 : Int)) = true then K ((false, ([] : List Int), ([] : List Int)), t1) else (number_twos.c _ ((a.2.1.1, a.2.1.2.1, a.2.1.2.2), (IntKind.i64.wrap ((if (a.2.2.2.1.length : Int) > (a.2.1.2.1.length : Int) then (a.2.2.2.1.length : Int) else (a.2.1.2.1.length : Int)) + (1 : Int)))) fun t2 => (number_twos.c _ ((a.2.2.1, a.2.2.2.1, a.2.2.2.2), (IntKind.i64.wrap ((if (a.2.2.2.1.length : Int) > (a.2.1.2.1.length : Int) then (a.2.2.2.1.length : Int) else (a.2.1.2.1.length : Int)) + (1 : Int)))) fun t3 => (number_Bits.l1 _ (a.1, (0 : Int), (IntKind.i64.wrap ((if (a.2.2.2.1.length : Int) > (a.2.1.2.1.length : Int) then (a.2.2.2.1.length : Int) else (a.2.1.2.1.length : Int)) + (1 : Int))), t2.length, t3.length, ((t2.length : Nat) : Int), (0 : Int), (a.2.1.1, a.2.1.2.1, a.2.1.2.2, ()), (a.2.2.1, a.2.2.2.1, a.2.2.2.2, ()), (false, ()), t2, t3, ()) fun t4 => (oneOf (fun t5 => K ((t5.2.2.2.1.1, ([] : List Int), ([] : List Int)), t5.1)) (fun t6 => (if 0 ≤ (IntKind.i64.wrap (t6.2.1 - (1 : Int))) ∧ (IntKind.i64.wrap (t6.2.1 - (1 : Int))) < ((t6.2.2.1 : Nat) : Int) then (if (IntKind.i64.wrap (t6.2.1 - (1 : Int))).toNat < t6.2.2.2.2.2.2.1.length then (if (((t6.2.2.2.2.2.2.1.getD (IntKind.i64.wrap (t6.2.1 - (1 : Int))).toNat 0).fdiv (2 ^ 31)) == (1 : Int)) = true then (if t6.2.2.1 ≤ t6.2.2.2.2.2.2.1.length then (number_negated.c _ (t6.2.2.2.2.2.2.1.take t6.2.2.1) fun t7 => (if t7.length ≤ t7.length then (nat_Trim.c _ (t7.take t7.length) fun t8 => (number_whole.c _ (true, t8) fun t9 => K ((t9.1.1, t9.1.2.1, t9.1.2.2), t9.2))) else none)) else none) else (if t6.2.2.1 ≤ t6.2.2.2.2.2.2.1.length then (nat_Trim.c _ (t6.2.2.2.2.2.2.1.take t6.2.2.1) fun t10 => (number_whole.c _ (false, t10) fun t11 => K ((t11.1.1, t11.1.2.1, t11.1.2.2), t11.2))) else none)) else none) else none))) t4)))))
noncomputable def number_Bits.T (g80 : CF ((Bool × List Int × List Int × Bool × List Int × List Int)) (Int)) (g84 : CF (Nm × Int) (List Int)) (g87 : CF (List Int) (List Int)) (g86 : CF (List Int) (List Int)) (g85 : CF (Bool × List Int) ((Nm × Int))) : List (Nat × Tf) := [(80, .pure (mk (one (arr 3 (more cb (more rU (more rU (more cb (more rU (one rU)))))))) iI g80)), (84, .own (mkO (more kN (one iI)) (orow .u32) g84)), (85, .pure (mk (more cb (one rU)) kE g85)), (86, .pure (mk (one rU) rU g86)), (87, .own (mkO (one rU) (orow .u32) g87))]
theorem number_Bits.tok : TOk Tryd.prog (tt (number_Bits.T number_integers2.c number_twos.c number_negated.c nat_Trim.c number_whole.c)) := (tt_cons number_integers2.ok (tt_cons number_twos.ok (tt_cons number_whole.ok (tt_cons nat_Trim.ok (tt_cons number_negated.ok tt_nil)))))
noncomputable def number_Bits.cl1 : Code := ((bodies [0, 1, 0, 1, 1, 1, 1] [] (Tryd.f35.body.getD .skip)).headD .skip)
set_option maxRecDepth 100000 in
theorem number_Bits.xl1 (g80 : CF ((Bool × List Int × List Int × Bool × List Int × List Int)) (Int)) (g84 : CF (Nm × Int) (List Int)) (g87 : CF (List Int) (List Int)) (g86 : CF (List Int) (List Int)) (g85 : CF (Bool × List Int) ((Nm × Int))) (R : Type) (d : (Int × Int × Int × Nat × Nat × Int × Int × (Bool × (List Int) × (List Int) × Unit) × (Bool × (List Int) × (List Int) × Unit) × (Bool × Unit) × (List Int) × (List Int) × Unit)) (Kn : (Int × Int × Int × Nat × Nat × Int × Int × (Bool × (List Int) × (List Int) × Unit) × (Bool × (List Int) × (List Int) × Unit) × (Bool × Unit) × (List Int) × (List Int) × Unit) → Option R) (Kz : ((Int × (Bool × (List Int) × (List Int) × Unit) × (Bool × (List Int) × (List Int) × Unit) × (Bool × Unit) × (List Int) × (List Int) × Unit) ⊕ (Int × Int × Nat × (Bool × (List Int) × (List Int) × Unit) × (Bool × (List Int) × (List Int) × Unit) × (Bool × Unit) × (List Int) × (List Int) × Unit)) → Option R) : run' Tryd.prog (tt (number_Bits.T g80 g84 g87 g86 g85)) (lt []) Tryd.f35.ntmps 60 [0, 0, 1, 0, 1, 1, 1, 1] number_Bits.cl1 ⟨(stmp 0 (ci .i64) (stmpC 6 (cptr 2 0) (stmp 7 (ci .i64) (stmp 9 (ci .i64) (stmp 10 (csl 1 4) (stmp 11 (csl 1 5) (stmp 36 (ci .i64) (stmp 37 (ci .i64) (sbox 0 (cagg (lmore lb (lmore (crow .u32) (lmore (crow .u32) lnone)))) (sbox 1 (cagg (lmore lb (lmore (crow .u32) (lmore (crow .u32) lnone)))) (sbox 2 (cagg (lmore lb (lmoreC lnil (lmoreC lnil lnone)))) (sbox 4 (crow .u32) (sbox 5 (crow .u32) snil))))))))))))).enc d, 6⟩ (dz 6 (stmp 0 (ci .i64) (stmpC 6 (cptr 2 0) (stmp 7 (ci .i64) (stmp 9 (ci .i64) (stmp 10 (csl 1 4) (stmp 11 (csl 1 5) (stmp 36 (ci .i64) (stmp 37 (ci .i64) (sbox 0 (cagg (lmore lb (lmore (crow .u32) (lmore (crow .u32) lnone)))) (sbox 1 (cagg (lmore lb (lmore (crow .u32) (lmore (crow .u32) lnone)))) (sbox 2 (cagg (lmore lb (lmoreC lnil (lmoreC lnil lnone)))) (sbox 4 (crow .u32) (sbox 5 (crow .u32) snil))))))))))))) (zor (zone .ret (stmpC 6 (cptr 2 0) (stmp 7 (ci .i64) (sbox 0 (cagg (lmore lb (lmore (crow .u32) (lmore (crow .u32) lnone)))) (sbox 1 (cagg (lmore lb (lmore (crow .u32) (lmore (crow .u32) lnone)))) (sbox 2 (cagg (lmore lb (lmoreC lnil (lmoreC lnil lnone)))) (sbox 4 (crow .u32) (sbox 5 (crow .u32) snil)))))))) (zone (.exit 0) (stmpC 6 (cptr 2 0) (stmp 7 (ci .i64) (stmp 9 (ci .i64) (stmp 10 (csl 1 4) (sbox 0 (cagg (lmore lb (lmore (crow .u32) (lmore (crow .u32) lnone)))) (sbox 1 (cagg (lmore lb (lmore (crow .u32) (lmore (crow .u32) lnone)))) (sbox 2 (cagg (lmore lb (lmoreC lnil (lmoreC lnil lnone)))) (sbox 4 (crow .u32) (sbox 5 (crow .u32) snil))))))))))) Kn Kz) = (if (decide (d.2.2.2.2.2.2.1 < d.2.2.2.2.2.1)) = true then (if (d.1 == (1 : Int)) = true then (if 0 ≤ d.2.2.2.2.2.2.1 ∧ d.2.2.2.2.2.2.1 < ((d.2.2.2.1 : Nat) : Int) then (if d.2.2.2.2.2.2.1.toNat < d.2.2.2.2.2.2.2.2.2.2.1.length then (if 0 ≤ d.2.2.2.2.2.2.1 ∧ d.2.2.2.2.2.2.1 < ((d.2.2.2.2.1 : Nat) : Int) then (if d.2.2.2.2.2.2.1.toNat < d.2.2.2.2.2.2.2.2.2.2.2.1.length then (if 0 ≤ d.2.2.2.2.2.2.1 ∧ d.2.2.2.2.2.2.1 < ((d.2.2.2.1 : Nat) : Int) then (if d.2.2.2.2.2.2.1.toNat < d.2.2.2.2.2.2.2.2.2.2.1.length then Kn (d.1, d.2.1, d.2.2.1, d.2.2.2.1, d.2.2.2.2.1, d.2.2.2.2.2.1, (IntKind.i64.wrap (d.2.2.2.2.2.2.1 + (1 : Int))), (d.2.2.2.2.2.2.2.1.1, d.2.2.2.2.2.2.2.1.2.1, d.2.2.2.2.2.2.2.1.2.2.1, ()), (d.2.2.2.2.2.2.2.2.1.1, d.2.2.2.2.2.2.2.2.1.2.1, d.2.2.2.2.2.2.2.2.1.2.2.1, ()), (d.2.2.2.2.2.2.2.2.2.1.1, ()), (d.2.2.2.2.2.2.2.2.2.2.1.set d.2.2.2.2.2.2.1.toNat (IntKind.u32.wrap (((BitVec.ofInt 32 (d.2.2.2.2.2.2.2.2.2.2.1.getD d.2.2.2.2.2.2.1.toNat 0)) &&& (BitVec.ofInt 32 (d.2.2.2.2.2.2.2.2.2.2.2.1.getD d.2.2.2.2.2.2.1.toNat 0))).toNat : Int))), d.2.2.2.2.2.2.2.2.2.2.2.1, ()) else none) else none) else none) else none) else none) else none) else (if (d.1 == (2 : Int)) = true then (if 0 ≤ d.2.2.2.2.2.2.1 ∧ d.2.2.2.2.2.2.1 < ((d.2.2.2.1 : Nat) : Int) then (if d.2.2.2.2.2.2.1.toNat < d.2.2.2.2.2.2.2.2.2.2.1.length then (if 0 ≤ d.2.2.2.2.2.2.1 ∧ d.2.2.2.2.2.2.1 < ((d.2.2.2.2.1 : Nat) : Int) then (if d.2.2.2.2.2.2.1.toNat < d.2.2.2.2.2.2.2.2.2.2.2.1.length then (if 0 ≤ d.2.2.2.2.2.2.1 ∧ d.2.2.2.2.2.2.1 < ((d.2.2.2.1 : Nat) : Int) then (if d.2.2.2.2.2.2.1.toNat < d.2.2.2.2.2.2.2.2.2.2.1.length then Kn (d.1, d.2.1, d.2.2.1, d.2.2.2.1, d.2.2.2.2.1, d.2.2.2.2.2.1, (IntKind.i64.wrap (d.2.2.2.2.2.2.1 + (1 : Int))), (d.2.2.2.2.2.2.2.1.1, d.2.2.2.2.2.2.2.1.2.1, d.2.2.2.2.2.2.2.1.2.2.1, ()), (d.2.2.2.2.2.2.2.2.1.1, d.2.2.2.2.2.2.2.2.1.2.1, d.2.2.2.2.2.2.2.2.1.2.2.1, ()), (d.2.2.2.2.2.2.2.2.2.1.1, ()), (d.2.2.2.2.2.2.2.2.2.2.1.set d.2.2.2.2.2.2.1.toNat (IntKind.u32.wrap (((BitVec.ofInt 32 (d.2.2.2.2.2.2.2.2.2.2.1.getD d.2.2.2.2.2.2.1.toNat 0)) ||| (BitVec.ofInt 32 (d.2.2.2.2.2.2.2.2.2.2.2.1.getD d.2.2.2.2.2.2.1.toNat 0))).toNat : Int))), d.2.2.2.2.2.2.2.2.2.2.2.1, ()) else none) else none) else none) else none) else none) else none) else (if (d.1 == (3 : Int)) = true then (if 0 ≤ d.2.2.2.2.2.2.1 ∧ d.2.2.2.2.2.2.1 < ((d.2.2.2.1 : Nat) : Int) then (if d.2.2.2.2.2.2.1.toNat < d.2.2.2.2.2.2.2.2.2.2.1.length then (if 0 ≤ d.2.2.2.2.2.2.1 ∧ d.2.2.2.2.2.2.1 < ((d.2.2.2.2.1 : Nat) : Int) then (if d.2.2.2.2.2.2.1.toNat < d.2.2.2.2.2.2.2.2.2.2.2.1.length then (if 0 ≤ d.2.2.2.2.2.2.1 ∧ d.2.2.2.2.2.2.1 < ((d.2.2.2.1 : Nat) : Int) then (if d.2.2.2.2.2.2.1.toNat < d.2.2.2.2.2.2.2.2.2.2.1.length then Kn (d.1, d.2.1, d.2.2.1, d.2.2.2.1, d.2.2.2.2.1, d.2.2.2.2.2.1, (IntKind.i64.wrap (d.2.2.2.2.2.2.1 + (1 : Int))), (d.2.2.2.2.2.2.2.1.1, d.2.2.2.2.2.2.2.1.2.1, d.2.2.2.2.2.2.2.1.2.2.1, ()), (d.2.2.2.2.2.2.2.2.1.1, d.2.2.2.2.2.2.2.2.1.2.1, d.2.2.2.2.2.2.2.2.1.2.2.1, ()), (d.2.2.2.2.2.2.2.2.2.1.1, ()), (d.2.2.2.2.2.2.2.2.2.2.1.set d.2.2.2.2.2.2.1.toNat (IntKind.u32.wrap (((BitVec.ofInt 32 (d.2.2.2.2.2.2.2.2.2.2.1.getD d.2.2.2.2.2.2.1.toNat 0)) ^^^ (BitVec.ofInt 32 (d.2.2.2.2.2.2.2.2.2.2.2.1.getD d.2.2.2.2.2.2.1.toNat 0))).toNat : Int))), d.2.2.2.2.2.2.2.2.2.2.2.1, ()) else none) else none) else none) else none) else none) else none) else Kz (.inl ((1 : Int), (d.2.2.2.2.2.2.2.1.1, d.2.2.2.2.2.2.2.1.2.1, d.2.2.2.2.2.2.2.1.2.2.1, ()), (d.2.2.2.2.2.2.2.2.1.1, d.2.2.2.2.2.2.2.2.1.2.1, d.2.2.2.2.2.2.2.2.1.2.2.1, ()), (false, ()), d.2.2.2.2.2.2.2.2.2.2.1, d.2.2.2.2.2.2.2.2.2.2.2.1, ()))))) else Kz (.inr (d.2.1, d.2.2.1, d.2.2.2.1, (d.2.2.2.2.2.2.2.1.1, d.2.2.2.2.2.2.2.1.2.1, d.2.2.2.2.2.2.2.1.2.2.1, ()), (d.2.2.2.2.2.2.2.2.1.1, d.2.2.2.2.2.2.2.2.1.2.1, d.2.2.2.2.2.2.2.2.1.2.2.1, ()), (d.2.2.2.2.2.2.2.2.2.1.1, ()), d.2.2.2.2.2.2.2.2.2.2.1, d.2.2.2.2.2.2.2.2.2.2.2.1, ()))) := by kernel_rfl
theorem number_Bits.ol1 : LoopOk Tryd.prog Tryd.f35.ntmps number_Bits.cl1 (loopG 6 (stmp 0 (ci .i64) (stmpC 6 (cptr 2 0) (stmp 7 (ci .i64) (stmp 9 (ci .i64) (stmp 10 (csl 1 4) (stmp 11 (csl 1 5) (stmp 36 (ci .i64) (stmp 37 (ci .i64) (sbox 0 (cagg (lmore lb (lmore (crow .u32) (lmore (crow .u32) lnone)))) (sbox 1 (cagg (lmore lb (lmore (crow .u32) (lmore (crow .u32) lnone)))) (sbox 2 (cagg (lmore lb (lmoreC lnil (lmoreC lnil lnone)))) (sbox 4 (crow .u32) (sbox 5 (crow .u32) snil))))))))))))) (zor (zone .ret (stmpC 6 (cptr 2 0) (stmp 7 (ci .i64) (sbox 0 (cagg (lmore lb (lmore (crow .u32) (lmore (crow .u32) lnone)))) (sbox 1 (cagg (lmore lb (lmore (crow .u32) (lmore (crow .u32) lnone)))) (sbox 2 (cagg (lmore lb (lmoreC lnil (lmoreC lnil lnone)))) (sbox 4 (crow .u32) (sbox 5 (crow .u32) snil)))))))) (zone (.exit 0) (stmpC 6 (cptr 2 0) (stmp 7 (ci .i64) (stmp 9 (ci .i64) (stmp 10 (csl 1 4) (sbox 0 (cagg (lmore lb (lmore (crow .u32) (lmore (crow .u32) lnone)))) (sbox 1 (cagg (lmore lb (lmore (crow .u32) (lmore (crow .u32) lnone)))) (sbox 2 (cagg (lmore lb (lmoreC lnil (lmoreC lnil lnone)))) (sbox 4 (crow .u32) (sbox 5 (crow .u32) snil))))))))))) number_Bits.l1) := loop_told number_Bits.tok mixed (number_Bits.xl1 number_integers2.c number_twos.c number_negated.c nat_Trim.c number_whole.c) 4611686018427387904
set_option maxRecDepth 100000 in
theorem number_Bits.ex0 (g80 : CF ((Bool × List Int × List Int × Bool × List Int × List Int)) (Int)) (g84 : CF (Nm × Int) (List Int)) (g87 : CF (List Int) (List Int)) (g86 : CF (List Int) (List Int)) (g85 : CF (Bool × List Int) ((Nm × Int))) (l1 : LF (Int × Int × Int × Nat × Nat × Int × Int × (Bool × (List Int) × (List Int) × Unit) × (Bool × (List Int) × (List Int) × Unit) × (Bool × Unit) × (List Int) × (List Int) × Unit) ((Int × (Bool × (List Int) × (List Int) × Unit) × (Bool × (List Int) × (List Int) × Unit) × (Bool × Unit) × (List Int) × (List Int) × Unit) ⊕ (Int × Int × Nat × (Bool × (List Int) × (List Int) × Unit) × (Bool × (List Int) × (List Int) × Unit) × (Bool × Unit) × (List Int) × (List Int) × Unit))) (R : Type) (a : Int × Nm × Nm) (K : ((Nm × Int)) → Option R) : execFn' Tryd.prog (tt (number_Bits.T g80 g84 g87 g86 g85)) (lt [([0, 1, 0, 1, 1, 1, 1], loopG 6 (stmp 0 (ci .i64) (stmpC 6 (cptr 2 0) (stmp 7 (ci .i64) (stmp 9 (ci .i64) (stmp 10 (csl 1 4) (stmp 11 (csl 1 5) (stmp 36 (ci .i64) (stmp 37 (ci .i64) (sbox 0 (cagg (lmore lb (lmore (crow .u32) (lmore (crow .u32) lnone)))) (sbox 1 (cagg (lmore lb (lmore (crow .u32) (lmore (crow .u32) lnone)))) (sbox 2 (cagg (lmore lb (lmoreC lnil (lmoreC lnil lnone)))) (sbox 4 (crow .u32) (sbox 5 (crow .u32) snil))))))))))))) (zor (zone .ret (stmpC 6 (cptr 2 0) (stmp 7 (ci .i64) (sbox 0 (cagg (lmore lb (lmore (crow .u32) (lmore (crow .u32) lnone)))) (sbox 1 (cagg (lmore lb (lmore (crow .u32) (lmore (crow .u32) lnone)))) (sbox 2 (cagg (lmore lb (lmoreC lnil (lmoreC lnil lnone)))) (sbox 4 (crow .u32) (sbox 5 (crow .u32) snil)))))))) (zone (.exit 0) (stmpC 6 (cptr 2 0) (stmp 7 (ci .i64) (stmp 9 (ci .i64) (stmp 10 (csl 1 4) (sbox 0 (cagg (lmore lb (lmore (crow .u32) (lmore (crow .u32) lnone)))) (sbox 1 (cagg (lmore lb (lmore (crow .u32) (lmore (crow .u32) lnone)))) (sbox 2 (cagg (lmore lb (lmoreC lnil (lmoreC lnil lnone)))) (sbox 4 (crow .u32) (sbox 5 (crow .u32) snil))))))))))) l1)]) 60 Tryd.f35 R ((more iI (more kN (one kN))).enc a) (dk kE K) = (g80 _ (a.2.1.1, a.2.1.2.1, a.2.1.2.2, a.2.2.1, a.2.2.2.1, a.2.2.2.2) fun t1 => (if (t1 != (0 : Int)) = true then K ((false, ([] : List Int), ([] : List Int)), t1) else (g84 _ ((a.2.1.1, a.2.1.2.1, a.2.1.2.2), (IntKind.i64.wrap ((if (a.2.2.2.1.length : Int) > (a.2.1.2.1.length : Int) then (a.2.2.2.1.length : Int) else (a.2.1.2.1.length : Int)) + (1 : Int)))) fun t2 => (g84 _ ((a.2.2.1, a.2.2.2.1, a.2.2.2.2), (IntKind.i64.wrap ((if (a.2.2.2.1.length : Int) > (a.2.1.2.1.length : Int) then (a.2.2.2.1.length : Int) else (a.2.1.2.1.length : Int)) + (1 : Int)))) fun t3 => (l1 _ (a.1, (0 : Int), (IntKind.i64.wrap ((if (a.2.2.2.1.length : Int) > (a.2.1.2.1.length : Int) then (a.2.2.2.1.length : Int) else (a.2.1.2.1.length : Int)) + (1 : Int))), t2.length, t3.length, ((t2.length : Nat) : Int), (0 : Int), (a.2.1.1, a.2.1.2.1, a.2.1.2.2, ()), (a.2.2.1, a.2.2.2.1, a.2.2.2.2, ()), (false, ()), t2, t3, ()) fun t4 => (oneOf (fun t5 => K ((t5.2.2.2.1.1, ([] : List Int), ([] : List Int)), t5.1)) (fun t6 => (if 0 ≤ (IntKind.i64.wrap (t6.2.1 - (1 : Int))) ∧ (IntKind.i64.wrap (t6.2.1 - (1 : Int))) < ((t6.2.2.1 : Nat) : Int) then (if (IntKind.i64.wrap (t6.2.1 - (1 : Int))).toNat < t6.2.2.2.2.2.2.1.length then (if (((t6.2.2.2.2.2.2.1.getD (IntKind.i64.wrap (t6.2.1 - (1 : Int))).toNat 0).fdiv (2 ^ 31)) == (1 : Int)) = true then (if t6.2.2.1 ≤ t6.2.2.2.2.2.2.1.length then (g87 _ (t6.2.2.2.2.2.2.1.take t6.2.2.1) fun t7 => (if t7.length ≤ t7.length then (g86 _ (t7.take t7.length) fun t8 => (g85 _ (true, t8) fun t9 => K ((t9.1.1, t9.1.2.1, t9.1.2.2), t9.2))) else none)) else none) else (if t6.2.2.1 ≤ t6.2.2.2.2.2.2.1.length then (g86 _ (t6.2.2.2.2.2.2.1.take t6.2.2.1) fun t10 => (g85 _ (false, t10) fun t11 => K ((t11.1.1, t11.1.2.1, t11.1.2.2), t11.2))) else none)) else none) else none))) t4))))) := by kernel_rfl
theorem number_Bits.sh : Shown Tryd.prog 35 (more iI (more kN (one kN))).enc kE number_Bits.c := exec_shownL number_Bits.tok mixed Tryd.func35 (by kernel_rfl) (nats_cons number_Bits.ol1.1 nats_nil) (loops_at rfl (loops_cons (by kernel_rfl) number_Bits.ol1 loops_nil)) (number_Bits.ex0 number_integers2.c number_twos.c number_negated.c nat_Trim.c number_whole.c number_Bits.l1)
theorem number_Bits.ok : FunOk Tryd.prog 35 (mk (more iI (more kN (one kN))) kE number_Bits.c) := number_Bits.sh.ok (by kernel_rfl)
end Go.Proofs.YtemnjgkicndmjaaDoor.Q
namespace Go.Proofs.YtemnjgkicndmjaaDoor.Q
open Go.RowKit Go.Proofs.YtemnjgkicndmjaaDoorW.PrintWords Go.Proofs.YtemnjgkicndmjaaDoorW.PrintLast Go.Proofs.YtemnjgkicndmjaaDoorW.PrintMore
attribute [local go_sem] max2_int min2_int max_two min_two max_three min_three max_four min_four
set_option linter.unusedVariables false
set_option linter.unusedSimpArgs false
def rf_trim.l0 : Nat → List Int → Option (List Int)
 | 0, _ => none
 | k + 1, x0 => if (x0.length : Int) > 0 then (if 0 ≤ (wrap64 ((x0.length : Int) - 1)) then (if (wrap64 ((x0.length : Int) - 1)) < (x0.length : Int) then (if (rd x0 (wrap64 ((x0.length : Int) - 1))) = 0 then (if (wrap64 ((x0.length : Int) - 1)) ≤ (x0.length : Int) then (rf_trim.l0 k (x0.take ((wrap64 ((x0.length : Int) - 1)) : Int).toNat)) else (none)) else (some x0)) else (none)) else (none)) else (some x0)
def rf_trim.f (k : Nat) (l0 : List Int) : Option (List Int) := rf_trim.l0 k l0
theorem rf_trim.mono_l : ∀ k, (∀ y0, LeO (rf_trim.l0 k y0) (rf_trim.l0 (k + 1) y0))
 | 0 => fun _ r h => by simp [rf_trim.l0] at h
 | k + 1 => by
  have ih0 := rf_trim.mono_l k
  ·intro y0
   unfold rf_trim.l0
   have m0 := ih0
   exact zm
theorem rf_trim.mono : ∀ a0 k, LeO (rf_trim.f k a0) (rf_trim.f (k + 1) a0) := by
 intro a0 k
 have ih0 := rf_trim.mono_l k
 unfold rf_trim.f
 have m0 := ih0
 exact zm
set_option maxHeartbeats 8000000 in
set_option maxRecDepth 100000 in
theorem rf_trim.calls (k : Nat) (P0_ : Nat → Prop) (A0 : Option Addr) (c0 : Nat) (l0 : List Int) (r : List Int) (w : World) (hs0 : Kd.V (Kd.int .i64) 3 w w.heap.size (fun k_ => P0_ k_) (.slice A0 l0.length c0) l0) (h : rf_trim.f k l0 = some r) :
  Calls Tryd.prog 96 #[.slice A0 l0.length c0] w fun e w' => ∃ v0_ : Value, e = .returned (v0_) ∧ Kd.V (Kd.int .i64) 3 w' w.heap.size (fun k_ => (P0_ k_ ∨ w.heap.size ≤ k_)) v0_ r ∧ Below w.heap.size w w' := by
 have HO0 := am (show Kd.V (Kd.int .i64) 3 w w.heap.size (fun k_ => (P0_ k_ ∨ w.heap.size ≤ k_)) (.slice A0 l0.length c0) l0 from Kd.V_mono hs0 (fun k_ hk => .inl hk))
 have HB := am (Below.refl w.heap.size w)
 have H := h
 unfold rf_trim.f at H
 clear h
 have H' := am H
 clear H
 go_enter Tryd.func96, Tryd.ntmps96
 go_wp2
 go_loopg [0] k (fun kq v0 w' => ∃ (x0_1 : List Int), Aside0 (rf_trim.l0 kq x0_1 = some r) ∧ Aside0 (kq ≤ k) ∧ Aside0 (Kd.V (Kd.int .i64) 3 w' w.heap.size (fun k_ => (P0_ k_ ∨ w.heap.size ≤ k_)) v0 x0_1) ∧ Aside0 (Below w.heap.size w w'))
 case atStart => exact ⟨(l0), H', ⟨Nat.le_refl _⟩, ⟨zq3 HO0.out⟩, ⟨zq1⟩⟩
 case round =>
  clear H'
  obtain ⟨x0_1, HA, HK1, HO_0, HB⟩ := hrel
  cases gk with
  | zero => exact absurd HA.out (by simp [rf_trim.l0])
  | succ k1 =>
   have H := HA.out
   clear HA
   simp only [rf_trim.l0] at H
   by_cases c2 : (x0_1.length : Int) > 0
   ·rw [if_pos c2] at H
    have c2b0 : decide (0 < (x0_1.length : Int)) = true := decide_eq_true c2
    have c2b1 : decide (0 < x0_1.length) = true := decide_eq_true (by omega)
    clear c2
    obtain ⟨ji3, hji3⟩ : ∃ j_ : Int, (wrap64 ((x0_1.length : Int) - 1)) = j_ := ⟨_, rfl⟩
    replace H : (if 0 ≤ (ji3) then (if (ji3) < (x0_1.length : Int) then (if (rd x0_1 (ji3)) = 0 then (if (ji3) ≤ (x0_1.length : Int) then (rf_trim.l0 k1 (x0_1.take ((ji3) : Int).toNat)) else (none)) else (some x0_1)) else (none)) else (none)) = some r := by first | (rw [hji3] at H; exact H) | (simp only [hji3] at H ⊢; exact H)
    have hji3w : (IntKind.i64.wrap ((x0_1.length : Int) - 1)) = ji3 := (i64_w _).trans hji3
    replace H := zn H
    obtain ⟨c4, H⟩ := H
    have c4b0 := decide_eq_true c4
    clear c4
    replace H := zn H
    obtain ⟨c5, H⟩ := H
    have c5b0 := decide_eq_true c5
    clear c5
    by_cases c6 : (rd x0_1 (ji3)) = 0
    ·rw [if_pos c6] at H
     have c6b0 : ((rd x0_1 (ji3)) == 0) = true := beq_iff_eq.mpr c6
     have c6b1 : ((rd x0_1 (ji3)) != 0) = false := bne_eq_false_iff_eq.mpr c6
     clear c6
     have c7b0 := eq_true (zq6 : 0 ≤ (ji3))
     replace H := zn H
     obtain ⟨c8, H⟩ := H
     have c8b0 := eq_true c8
     have c8b1 := decide_eq_true c8
     clear c8
     obtain ⟨y521, hy521⟩ : ∃ y_ : List Int, y_ = (x0_1.take ((ji3) : Int).toNat) := ⟨_, rfl⟩
     try rw [← hy521] at H
     have Ny521 := am hy521
     clear hy521
     have H' := am H
     clear H
     obtain ⟨Ao9, co9, eo9⟩ := Kd.V_slice HO_0.out
     subst eo9
     have p520 : 0 ≤ ((ji3) : Int) := zq6
     have q520 : (ji3) < (x0_1.length : Int) := zq6
     obtain ⟨ad520, e520, hx520_0⟩ := Kd.at_int (Kd.V_reads' HO_0.out).2.2 (ji3) p520 q520
     cases e520
     replace p520 := eq_true p520
     replace q520 := eq_true q520
     have q10 : ((ji3) : Int) ≤ ((x0_1.length : Int) : Int) := zq6
     obtain ⟨i010, hi010, _, hsz10, _⟩ := info_parts info3
     have hroom10 : x0_1.length ≤ co9 := (Kd.V_reads' HO_0.out).2.1
     have hC10 : Kd.F (Kd.int .i64) _ _ (some ad520) x0_1.length x0_1 := (Kd.V_at (base := w.heap.size) HO_0.out).2.2
     have hcut10 := cut_to (P := Tryd.prog) 39 3 .i64 Tryd.underlying39 hi010 (some ad520) x0_1.length co9 (ji3) zq6 q10 hroom10
     have hr10 := Kd.F_take (m := ((ji3) : Int).toNat) hC10 (by omega)
     have hy10 : y521.length = ((ji3) : Int).toNat := (by rw [Ny521.out, List.length_take]; omega)
     rw [← Ny521.out] at hr10
     rw [← hy10] at hcut10
     have HO525 := am (show Kd.V (Kd.int .i64) 3 _ w.heap.size _ (.slice (some ad520) y521.length co9) y521 from Kd.V_mk (by omega) hr10)
     have HC525 := am (show y521.length ≤ co9 from by omega)
     clear hr10 hC10 hroom10 hi010 hsz10
     have KY10 := am hy10
     clear hy10
     replace q10 := eq_true q10
     go_wp2
     go_roundg k1
     case measure => have := HK1.out; omega
     case rel => exact ⟨(y521), (by first | exact H' | (rw [hji3]; exact H')), ⟨by have := HK1.out; omega⟩, ⟨zq3 HO525.out⟩, ⟨zq1⟩⟩
    ·rw [if_neg c6] at H
     have c6b0 : ((rd x0_1 (ji3)) == 0) = false := beq_eq_false_iff_ne.mpr c6
     have c6b1 : ((rd x0_1 (ji3)) != 0) = true := bne_iff_ne.mpr c6
     obtain rfl := Option.some.inj H
     obtain ⟨Ao11, co11, eo11⟩ := Kd.V_slice HO_0.out
     subst eo11
     have p520 : 0 ≤ ((ji3) : Int) := zq6
     have q520 : (ji3) < (x0_1.length : Int) := zq6
     obtain ⟨ad520, e520, hx520_0⟩ := Kd.at_int (Kd.V_reads' HO_0.out).2.2 (ji3) p520 q520
     cases e520
     replace p520 := eq_true p520
     replace q520 := eq_true q520
     go_wp2
     go_ret
     exact ⟨_, by first | rfl | (simp [errW_none, errW_some] <;> rfl) | (simp only [← hji3]; first | rfl | (simp [errW_none, errW_some] <;> rfl)) | (simp [*, errW_none, errW_some] <;> rfl), zq3 HO_0.out, zq1⟩
   ·rw [if_neg c2] at H
    have c2b0 : decide (0 < (x0_1.length : Int)) = false := decide_eq_false c2
    have c2b1 : decide (0 < x0_1.length) = false := decide_eq_false (by omega)
    clear c2
    obtain rfl := Option.some.inj H
    obtain ⟨Ao12, co12, eo12⟩ := Kd.V_slice HO_0.out
    subst eo12
    go_wp2
    go_ret
    exact ⟨_, zq9, zq3 HO_0.out, zq1⟩
def rf_natOf.l0 : Nat → List Int → List Int → Int → Int → Option (List Int)
 | 0, _, _, _, _ => none
 | k + 1, x3, x6, x7, x8 => if x8 < x7 then (if 0 ≤ x8 then (if x8 < (x6.length : Int) then ((some (([wrap64 (Go.bits .and .u32 (rd x6 x8) 65535), wrap64 ((rd x6 x8) / 65536)] : List Int) : List Int)).bind fun y527 => (if x3.length + y527.length < 17592186044416 then (rf_natOf.l0 k (x3 ++ y527) x6 x7 (wrap64 (x8 + 1))) else (none))) else (none)) else (none)) else ((rf_trim.f k x3).bind fun t533 => (some t533))
def rf_natOf.f (k : Nat) (l0 : List Int) : Option (List Int) := rf_natOf.l0 k ([] : List Int) l0 (l0.length : Int) 0
theorem rf_natOf.mono_l : ∀ k, (∀ y0 y1 y2 y3, LeO (rf_natOf.l0 k y0 y1 y2 y3) (rf_natOf.l0 (k + 1) y0 y1 y2 y3))
 | 0 => fun _ _ _ _ r h => by simp [rf_natOf.l0] at h
 | k + 1 => by
  have ih0 := rf_natOf.mono_l k
  ·intro y0 y1 y2 y3
   unfold rf_natOf.l0
   have m0 := ih0
   have m1 := @rf_trim.mono
   exact zm
theorem rf_natOf.mono : ∀ a0 k, LeO (rf_natOf.f k a0) (rf_natOf.f (k + 1) a0) := by
 intro a0 k
 have ih0 := rf_natOf.mono_l k
 unfold rf_natOf.f
 have m0 := ih0
 have m1 := @rf_trim.mono
 exact zm
set_option maxHeartbeats 8000000 in
set_option maxRecDepth 100000 in
theorem rf_natOf.calls (k : Nat) (A0 : Option Addr) (c0 : Nat) (l0 : List Int) (r : List Int) (w : World) (hr0 : Kd.C (Kd.int .u32) w A0 l0.length l0) (hc0 : l0.length ≤ c0) (h : rf_natOf.f k l0 = some r) :
  Calls Tryd.prog 45 #[.slice A0 l0.length c0] w fun e w' => ∃ v0_ : Value, e = .returned (v0_) ∧ Kd.V (Kd.int .i64) 3 w' w.heap.size (fun k_ => (w.heap.size ≤ k_)) v0_ r ∧ Below w.heap.size w w' := by
 have HR0 := am hr0
 have HC0 := am hc0
 clear hr0 hc0
 have HB := am (Below.refl w.heap.size w)
 have H := h
 unfold rf_natOf.f at H
 clear h
 have H' := am H
 clear H
 go_enter Tryd.func45, Tryd.ntmps45
 go_wp2
 go_loopg [3, 8] k (fun kq v3 v8 w' => ∃ (x3_1 : List Int) (x8_1 : Int), v8 = .int .i64 x8_1 ∧ Aside0 (rf_natOf.l0 kq x3_1 l0 (l0.length : Int) x8_1 = some r) ∧ Aside0 (kq ≤ k) ∧ Aside0 (Kd.R (Kd.int .i64) 3 w' w.heap.size (fun k_ => (w.heap.size ≤ k_)) v3 x3_1) ∧ Aside0 (Below w.heap.size w w'))
 case atStart => exact ⟨(([] : List Int)), (0), zq8, H', ⟨Nat.le_refl _⟩, ⟨by first | exact Kd.R_nil _ _ _ _ _ | exact Kd.N_nil _ _ _ _ _ | exact Kd.V_nil _ _ _ _ _ | exact Kd.Q_nil _ _ _ _ _ | exact Kd.S_nil _ _ _ _ _⟩, ⟨zq1⟩⟩
 case round =>
  clear H'
  obtain ⟨x3_1, x8_1, rfl, HA, HK1, HO_3, HB⟩ := hrel
  cases gk with
  | zero => exact absurd HA.out (by simp [rf_natOf.l0])
  | succ k1 =>
   have H := HA.out
   clear HA
   simp only [rf_natOf.l0] at H
   by_cases c2 : x8_1 < (l0.length : Int)
   ·rw [if_pos c2] at H
    have c2b0 := decide_eq_true c2
    clear c2
    replace H := zn H
    obtain ⟨c3, H⟩ := H
    have c3b0 := decide_eq_true c3
    clear c3
    replace H := zn H
    obtain ⟨c4, H⟩ := H
    have c4b0 := decide_eq_true c4
    clear c4
    obtain ⟨y527, hy527⟩ : ∃ y_ : List Int, y_ = (([wrap64 (Go.bits .and .u32 (rd l0 x8_1) 65535), wrap64 ((rd l0 x8_1) / 65536)] : List Int)) := ⟨_, rfl⟩
    try rw [← hy527] at H
    have Ny527 := am hy527
    clear hy527
    replace H := zn H
    obtain ⟨c5, H⟩ := H
    have LMc5 := am c5
    clear c5
    obtain ⟨y530, hy530⟩ : ∃ y_ : List Int, y_ = (x3_1 ++ y527) := ⟨_, rfl⟩
    try rw [← hy530] at H
    have Ny530 := am hy530
    clear hy530
    have H' := am H
    clear H
    have p526 : 0 ≤ (x8_1 : Int) := zq6
    have q526 : x8_1 < (l0.length : Int) := zq6
    obtain ⟨ad526, e526, hx526_0⟩ := Kd.at_int HR0.out x8_1 p526 q526
    cases e526
    replace hx526_0 := (HB.out.cell (World.block_lt_of_cell? w _ hx526_0)).trans hx526_0
    replace p526 := eq_true p526
    replace q526 := eq_true q526
    go_wp2_with (first | ((with_reducible refine gate_dst (N := 19) rfl ?_); refine Kd.R_lit (Kd.int .i64) _ 3 ?hg (N := 19) ?hd (xs := ([wrap64 (Go.bits .and .u32 (rd l0 x8_1) 65535), wrap64 ((rd l0 x8_1) / 65536)] : List Int)) (inner := [.int .i64 (wrap64 (Go.bits .and .u32 (rd l0 x8_1) 65535)), .int .i64 (wrap64 ((rd l0 x8_1) / 65536))]) (ok := fun _ => True) (okp := fun _ => True) ?hr ?hp (fun _ hk => hk) trivial (Below.refl _ _) (Nat.le_refl _) (by simp) ?_; (case hd => rfl); (case hg => rfl); (case hr => exact zr); (case hp => exact (Reps.one (show Kd.M (Kd.int .i64) _ _ _ (wrap64 (Go.bits .and .u32 (rd l0 x8_1) 65535)) [.int .i64 (wrap64 (Go.bits .and .u32 (rd l0 x8_1) 65535))] from rfl) (Reps.one (show Kd.M (Kd.int .i64) _ _ _ (wrap64 ((rd l0 x8_1) / 65536)) [.int .i64 (wrap64 ((rd l0 x8_1) / 65536))] from rfl) (Reps.none _ _)))); intro v528 w6 ho7 hb hg_ hnew_; clear hg_ hnew_; (first | rw [← Ny527.out] at ho7 | (simp only [Int.reduceToNat] at ho7; rw [← Ny527.out] at ho7)); refine zt3 (Kd.R_elder' (zq4 HO_3.out) (Kd.R_base ho7) hb) (Kd.R_lower (Kd.R_new' (Kd.R_newM (M := fun k_ => (w.heap.size ≤ k_)) ho7 (below_size zq1) (fun k_ h_ => h_)) (Kd.R_lt (zq4 HO_3.out))) (below_size zq1)) (below_step zq1 hb) ?_; clear HO_3 HB; intro HO_3 HO529 HB; clear hb ho7; obtain ⟨Ao9, co9, eo9⟩ := Kd.R_slice HO529.out; subst eo9) | ((with_reducible refine gate_builtin (b := .append) (xs := #[.tmp 12, .tmp 19]) rfl ?_); at_builtin; refine Kd.R_append_rows (Kd.int .i64) (w0 := w) w.heap.size rfl (.tmp 12) (.tmp 19) 39 3 (.int .i64 0) 8 rfl Tryd.underlying39 info3 rfl (by decide) (by omega) u3 x3_1 y527 _ _ _ (fun k_ => (w.heap.size ≤ k_) ∧ some k_ ≠ (.slice Ao9 y527.length co9 : Value).ownBlock) (fun _ => False) rfl rfl ?aO ?aR (fun _ _ h => h) (fun _ h => h.elim) ?aF ?aB ?aS ?aL ?_; (case aR => repeat (first | exact (Kd.R_reads' HO529.out).2.2 | (with_reducible refine Kd.C_alloc ?_ _) | (with_reducible refine Kd.C_drewN ?_ _) | (with_reducible refine Kd.C_drew ?_))); (case aB => exact zq1); (case aF => exact (fun k_ hk => ⟨(Nat.le_trans (below_size zq1) hk), Kd.fresh' (Kd.R_lt (zq4 HO529.out)) k_ hk⟩)); (case aO => exact (zq4 HO_3.out)); (case aS => exact (below_size zq1)); (case aL => have := LMc5.out; omega); intro v531 w8 ho hb hg hat; rw [← Ny530.out] at ho; refine zt3 (Kd.R_after (ok := (fun k_ => (w.heap.size ≤ k_))) (zwR (h := by exact Kd.R_mono HO529.out (fun _ hk => ⟨hk.1.1, hk.2⟩))) hg hat) (hb) (ho) ?_; clear HO529 HB HO_3; intro HO529 HB HO532; clear ho hb hg hat))
    go_roundg k1
    case measure => have := HK1.out; omega
    case rel => exact ⟨(y530), (wrap64 (x8_1 + 1)), zq8, H', ⟨by have := HK1.out; omega⟩, ⟨zwR (h := by exact Kd.R_mono HO532.out (fun _ hk => hk.1))⟩, ⟨zq1⟩⟩
   ·rw [if_neg c2] at H
    have c2b0 := decide_eq_false c2
    clear c2
    replace H := zj H
    obtain ⟨t533, A10, H⟩ := H
    obtain rfl := Option.some.inj H
    obtain ⟨Ao11, co11, eo11⟩ := Kd.R_slice HO_3.out
    subst eo11
    go_wp2_with (first | ((with_reducible refine gate_callee (f := 96) rfl ?_); refine goesL_ (some 23) rfl rfl Tryd.func96 (by kernel_rfl) rfl #[.slice Ao11 x3_1.length co11] rfl zq5 ?_; (with_reducible refine (rf_trim.calls k1 (fun k_ => some k_ = (.slice Ao11 x3_1.length co11 : Value).ownBlock) _ _ x3_1 t533 _ ?side1 A10.out).mono ?_); (case side1 => exact Kd.R_V (Kd.R_tight rfl (HO_3.out))); rintro e w12 ⟨v534, rfl, ho0, hb⟩; refine ⟨_, rfl, ?_⟩; refine zt3 (rb HO_3 hb) (Kd.V_lower (Kd.V_mono (ok' := fun k_ => (w.heap.size ≤ k_)) ho0 (fun k_ hk_ => Or.elim hk_ (fun hs_ => ((HO_3.out).1 k_ hs_.symm)) (fun hn_ => (Nat.le_trans (below_size zq1) hn_)))) (below_size zq1)) (below_step zq1 hb) ?_; clear HO_3 HB; intro HO_3 HO535 HB))
    go_ret
    exact ⟨_, zq9, zq3 HO535.out, zq1⟩
def rf_digit.f (l0 : List Int) (a1 : Int) : Option (Int) := if a1 < (l0.length : Int) then (if 0 ≤ a1 then (some (rd l0 a1)) else (none)) else (some 0)
set_option maxHeartbeats 8000000 in
set_option maxRecDepth 100000 in
theorem rf_digit.calls (A0 : Option Addr) (c0 : Nat) (l0 : List Int) (a1 : Int) (r : Int) (w : World) (hr0 : Kd.C (Kd.int .i64) w A0 l0.length l0) (hc0 : l0.length ≤ c0) (h : rf_digit.f l0 a1 = some r) :
  Calls Tryd.prog 97 #[.slice A0 l0.length c0, .int .i64 a1] w fun e w' => e = .returned (.int .i64 r) ∧ Drawn0 w w' := by
 have HR0 := am hr0
 have HC0 := am hc0
 clear hr0 hc0
 have H := h
 unfold rf_digit.f at H
 clear h
 by_cases c3 : a1 < (l0.length : Int)
 ·rw [if_pos c3] at H
  have c3b0 := decide_eq_true c3
  clear c3
  replace H := zn H
  obtain ⟨c4, H⟩ := H
  have c4b0 := decide_eq_true c4
  clear c4
  obtain rfl := Option.some.inj H
  have p536 : 0 ≤ (a1 : Int) := zq6
  have q536 : a1 < (l0.length : Int) := zq6
  obtain ⟨ad536, e536, hx536_0⟩ := Kd.at_int HR0.out a1 p536 q536
  cases e536
  replace p536 := eq_true p536
  replace q536 := eq_true q536
  go_enter Tryd.func97, Tryd.ntmps97
  go_wp2
  go_ret
  exact ⟨by first | rfl | (simp; done) | (simp [*]; done), by repeat (first | exact Drawn0.refl _ | apply Drawn0.step)⟩
 ·rw [if_neg c3] at H
  have c3b0 := decide_eq_false c3
  clear c3
  obtain rfl := Option.some.inj H
  go_enter Tryd.func97, Tryd.ntmps97
  go_wp2
  go_ret
  exact ⟨by first | rfl | (simp; done) | (simp [*]; done), by repeat (first | exact Drawn0.refl _ | apply Drawn0.step)⟩
def rf_CmpNat.l0 : Nat → List Int → List Int → Int → Option (Int)
 | 0, _, _, _ => none
 | k + 1, x0, x1, x5 => if x5 ≥ 0 then ((rf_digit.f x0 x5).bind fun t537 => ((rf_digit.f x1 x5).bind fun t538 => (if t537 < t538 then (some (-1)) else (if t537 > t538 then (some 1) else (rf_CmpNat.l0 k x0 x1 (wrap64 (x5 - 1))))))) else (some 0)
def rf_CmpNat.f (k : Nat) (l0 : List Int) (l1 : List Int) : Option (Int) := rf_CmpNat.l0 k l0 l1 (wrap64 ((mx (l0.length : Int) (l1.length : Int)) - 1))
theorem rf_CmpNat.mono_l : ∀ k, (∀ y0 y1 y2, LeO (rf_CmpNat.l0 k y0 y1 y2) (rf_CmpNat.l0 (k + 1) y0 y1 y2))
 | 0 => fun _ _ _ r h => by simp [rf_CmpNat.l0] at h
 | k + 1 => by
  have ih0 := rf_CmpNat.mono_l k
  ·intro y0 y1 y2
   unfold rf_CmpNat.l0
   have m0 := ih0
   exact zm
theorem rf_CmpNat.mono : ∀ a0 a1 k, LeO (rf_CmpNat.f k a0 a1) (rf_CmpNat.f (k + 1) a0 a1) := by
 intro a0 a1 k
 have ih0 := rf_CmpNat.mono_l k
 unfold rf_CmpNat.f
 have m0 := ih0
 exact zm
set_option maxHeartbeats 8000000 in
set_option maxRecDepth 100000 in
theorem rf_CmpNat.calls (k : Nat) (A0 : Option Addr) (c0 : Nat) (l0 : List Int) (A1 : Option Addr) (c1 : Nat) (l1 : List Int) (r : Int) (w : World) (hr0 : Kd.C (Kd.int .i64) w A0 l0.length l0) (hc0 : l0.length ≤ c0) (hr1 : Kd.C (Kd.int .i64) w A1 l1.length l1) (hc1 : l1.length ≤ c1) (h : rf_CmpNat.f k l0 l1 = some r) :
  Calls Tryd.prog 46 #[.slice A0 l0.length c0, .slice A1 l1.length c1] w fun e w' => e = .returned (.int .i64 r) ∧ Below w.heap.size w w' := by
 have HR0 := am hr0
 have HC0 := am hc0
 clear hr0 hc0
 have HR1 := am hr1
 have HC1 := am hc1
 clear hr1 hc1
 have HB := am (Below.refl w.heap.size w)
 have H := h
 unfold rf_CmpNat.f at H
 clear h
 obtain ⟨ji3, hji3⟩ : ∃ j_ : Int, (mx (l0.length : Int) (l1.length : Int)) = j_ := ⟨_, rfl⟩
 replace H : (rf_CmpNat.l0 k l0 l1 (wrap64 ((ji3) - 1))) = some r := by first | (rw [hji3] at H; exact H) | (simp only [hji3] at H ⊢; exact H)
 (try (have hji3l : 0 ≤ ji3 := by (rw [← hji3]; unfold mx; (repeat' split) <;> omega)))
 (try (have hji3m : 0 ≤ ji3 := by omega))
 have hji3_ : (if (l0.length : Int) < (l1.length : Int) then (l1.length : Int) else (l0.length : Int)) = ji3 := hji3
 (try (have hji3__ : (if l0.length < l1.length then (l1.length : Int) else (l0.length : Int)) = ji3 := by rw [← hji3_]; simp only [Int.ofNat_lt]))
 have H' := am H
 clear H
 go_enter Tryd.func46, Tryd.ntmps46
 go_wp2
 go_loopg [5] k (fun kq v5 w' => ∃ (x5_1 : Int), v5 = .int .i64 x5_1 ∧ Aside0 (rf_CmpNat.l0 kq l0 l1 x5_1 = some r) ∧ Aside0 (kq ≤ k) ∧ Aside0 (Below w.heap.size w w'))
 case atStart => exact ⟨(wrap64 ((ji3) - 1)), (by first | rfl | (simp; done) | (simp only [← hji3] <;> (first | rfl | simp)) | (simp [*]; done)), H', ⟨Nat.le_refl _⟩, ⟨zq1⟩⟩
 case round =>
  clear H'
  obtain ⟨x5_1, rfl, HA, HK1, HB⟩ := hrel
  cases gk with
  | zero => exact absurd HA.out (by simp [rf_CmpNat.l0])
  | succ k1 =>
   have H := HA.out
   clear HA
   simp only [rf_CmpNat.l0] at H
   by_cases c4 : x5_1 ≥ 0
   ·rw [if_pos c4] at H
    have c4b0 : decide (0 ≤ x5_1) = true := decide_eq_true c4
    clear c4
    replace H := zj H
    obtain ⟨t537, A5, H⟩ := H
    replace H := zj H
    obtain ⟨t538, A6, H⟩ := H
    by_cases c7 : t537 < t538
    ·rw [if_pos c7] at H
     have c7b0 := decide_eq_true c7
     clear c7
     obtain rfl := Option.some.inj H
     go_wp2_with (first | ((with_reducible refine gate_callee (f := 97) rfl ?_); refine goesL_ (some 20) rfl rfl Tryd.func97 (by kernel_rfl) rfl #[.slice A0 l0.length c0, .int .i64 x5_1] rfl zq5 ?_; (with_reducible refine (rf_digit.calls _ _ l0 x5_1 t537 _ ?side1 ?side2 A5.out).mono ?_); (case side1 => exact zc (Kd.C_below HR0.out HB.out)); (case side2 => exact HC0.out); rintro e w' ⟨rfl, ⟨nd, rfl⟩⟩; refine ⟨_, rfl, ?_⟩) | ((with_reducible refine gate_callee (f := 97) rfl ?_); refine goesL_ (some 23) rfl rfl Tryd.func97 (by kernel_rfl) rfl #[.slice A1 l1.length c1, .int .i64 x5_1] rfl zq5 ?_; (with_reducible refine (rf_digit.calls _ _ l1 x5_1 t538 _ ?side1 ?side2 A6.out).mono ?_); (case side1 => exact zc (Kd.C_below HR1.out zq1)); (case side2 => exact HC1.out); rintro e w' ⟨rfl, ⟨nd, rfl⟩⟩; refine ⟨_, rfl, ?_⟩))
     go_ret
     exact ⟨by first | rfl | (simp [errW_none, errW_some] <;> rfl) | (simp only [← hji3]; first | rfl | (simp [errW_none, errW_some] <;> rfl)) | (simp [*, errW_none, errW_some] <;> rfl), zq1⟩
    ·rw [if_neg c7] at H
     have c7b0 := decide_eq_false c7
     clear c7
     by_cases c8 : t537 > t538
     ·rw [if_pos c8] at H
      have c8b0 : decide (t538 < t537) = true := decide_eq_true c8
      clear c8
      obtain rfl := Option.some.inj H
      go_wp2_with (first | ((with_reducible refine gate_callee (f := 97) rfl ?_); refine goesL_ (some 20) rfl rfl Tryd.func97 (by kernel_rfl) rfl #[.slice A0 l0.length c0, .int .i64 x5_1] rfl zq5 ?_; (with_reducible refine (rf_digit.calls _ _ l0 x5_1 t537 _ ?side1 ?side2 A5.out).mono ?_); (case side1 => exact zc (Kd.C_below HR0.out HB.out)); (case side2 => exact HC0.out); rintro e w' ⟨rfl, ⟨nd, rfl⟩⟩; refine ⟨_, rfl, ?_⟩) | ((with_reducible refine gate_callee (f := 97) rfl ?_); refine goesL_ (some 23) rfl rfl Tryd.func97 (by kernel_rfl) rfl #[.slice A1 l1.length c1, .int .i64 x5_1] rfl zq5 ?_; (with_reducible refine (rf_digit.calls _ _ l1 x5_1 t538 _ ?side1 ?side2 A6.out).mono ?_); (case side1 => exact zc (Kd.C_below HR1.out zq1)); (case side2 => exact HC1.out); rintro e w' ⟨rfl, ⟨nd, rfl⟩⟩; refine ⟨_, rfl, ?_⟩))
      go_ret
      exact ⟨by first | rfl | (simp [errW_none, errW_some] <;> rfl) | (simp only [← hji3]; first | rfl | (simp [errW_none, errW_some] <;> rfl)) | (simp [*, errW_none, errW_some] <;> rfl), zq1⟩
     ·rw [if_neg c8] at H
      have c8b0 : decide (t538 < t537) = false := decide_eq_false c8
      clear c8
      have H' := am H
      clear H
      go_wp2_with (first | ((with_reducible refine gate_callee (f := 97) rfl ?_); refine goesL_ (some 20) rfl rfl Tryd.func97 (by kernel_rfl) rfl #[.slice A0 l0.length c0, .int .i64 x5_1] rfl zq5 ?_; (with_reducible refine (rf_digit.calls _ _ l0 x5_1 t537 _ ?side1 ?side2 A5.out).mono ?_); (case side1 => exact zc (Kd.C_below HR0.out HB.out)); (case side2 => exact HC0.out); rintro e w' ⟨rfl, ⟨nd, rfl⟩⟩; refine ⟨_, rfl, ?_⟩) | ((with_reducible refine gate_callee (f := 97) rfl ?_); refine goesL_ (some 23) rfl rfl Tryd.func97 (by kernel_rfl) rfl #[.slice A1 l1.length c1, .int .i64 x5_1] rfl zq5 ?_; (with_reducible refine (rf_digit.calls _ _ l1 x5_1 t538 _ ?side1 ?side2 A6.out).mono ?_); (case side1 => exact zc (Kd.C_below HR1.out zq1)); (case side2 => exact HC1.out); rintro e w' ⟨rfl, ⟨nd, rfl⟩⟩; refine ⟨_, rfl, ?_⟩))
      go_roundg k1
      case measure => have := HK1.out; omega
      case rel => exact ⟨(wrap64 (x5_1 - 1)), zq8, (by first | exact H' | (rw [hji3]; exact H')), ⟨by have := HK1.out; omega⟩, ⟨zq1⟩⟩
   ·rw [if_neg c4] at H
    have c4b0 : decide (0 ≤ x5_1) = false := decide_eq_false c4
    clear c4
    obtain rfl := Option.some.inj H
    go_wp2
    go_ret
    exact ⟨by first | rfl | (simp [errW_none, errW_some] <;> rfl) | (simp only [← hji3]; first | rfl | (simp [errW_none, errW_some] <;> rfl)) | (simp [*, errW_none, errW_some] <;> rfl), zq1⟩
def rf_ShlNat.l0 : Nat → Int → List Int → Int → List Int → Int → Int → Option (List Int)
 | 0, _, _, _, _, _, _ => none
 | k + 1, x1, x5, x6, x16, x17, x18 => if x18 < x17 then (if 0 ≤ x18 then (if x18 < (x16.length : Int) then (if 0 ≤ (Int.tmod x1 16) then (if x5.length < 17592186044416 then (rf_ShlNat.l0 k x1 (x5 ++ [Int.tmod (Go.bits .or .i64 (shl .i64 (rd x16 x18) (Int.tmod x1 16)) x6) 65536]) (wrap64 (Int.tdiv (Go.bits .or .i64 (shl .i64 (rd x16 x18) (Int.tmod x1 16)) x6) 65536)) x16 x17 (wrap64 (x18 + 1))) else (none)) else (none)) else (none)) else (none)) else (if x5.length < 17592186044416 then ((rf_trim.f k (x5 ++ [x6])).bind fun t549 => (some t549)) else (none))
def rf_ShlNat.f (k : Nat) (l0 : List Int) (a1 : Int) : Option (List Int) := if (l0.length : Int) = 0 then (some ([] : List Int)) else (if 0 ≤ (wrap64 (Int.tdiv a1 16)) then (if (wrap64 (Int.tdiv a1 16) : Int).toNat ≤ 35184372088832 then (rf_ShlNat.l0 k a1 (List.replicate (wrap64 (Int.tdiv a1 16) : Int).toNat 0) 0 l0 (l0.length : Int) 0) else (none)) else (none))
theorem rf_ShlNat.mono_l : ∀ k, (∀ y0 y1 y2 y3 y4 y5, LeO (rf_ShlNat.l0 k y0 y1 y2 y3 y4 y5) (rf_ShlNat.l0 (k + 1) y0 y1 y2 y3 y4 y5))
 | 0 => fun _ _ _ _ _ _ r h => by simp [rf_ShlNat.l0] at h
 | k + 1 => by
  have ih0 := rf_ShlNat.mono_l k
  ·intro y0 y1 y2 y3 y4 y5
   unfold rf_ShlNat.l0
   have m0 := ih0
   have m1 := @rf_trim.mono
   exact zm
theorem rf_ShlNat.mono : ∀ a0 a1 k, LeO (rf_ShlNat.f k a0 a1) (rf_ShlNat.f (k + 1) a0 a1) := by
 intro a0 a1 k
 have ih0 := rf_ShlNat.mono_l k
 unfold rf_ShlNat.f
 have m0 := ih0
 have m1 := @rf_trim.mono
 exact zm
set_option maxHeartbeats 8000000 in
set_option maxRecDepth 100000 in
theorem rf_ShlNat.calls (k : Nat) (A0 : Option Addr) (c0 : Nat) (l0 : List Int) (a1 : Int) (r : List Int) (w : World) (hr0 : Kd.C (Kd.int .i64) w A0 l0.length l0) (hc0 : l0.length ≤ c0) (h : rf_ShlNat.f k l0 a1 = some r) :
  Calls Tryd.prog 82 #[.slice A0 l0.length c0, .int .i64 a1] w fun e w' => ∃ v0_ : Value, e = .returned (v0_) ∧ Kd.V (Kd.int .i64) 3 w' w.heap.size (fun k_ => (w.heap.size ≤ k_)) v0_ r ∧ Below w.heap.size w w' := by
 have HR0 := am hr0
 have HC0 := am hc0
 clear hr0 hc0
 have HB := am (Below.refl w.heap.size w)
 have H := h
 unfold rf_ShlNat.f at H
 clear h
 by_cases c3 : (l0.length : Int) = 0
 ·rw [if_pos c3] at H
  have c3b0 : ((l0.length : Int) == 0) = true := beq_iff_eq.mpr c3
  have c3b1 : ((l0.length : Int) != 0) = false := bne_eq_false_iff_eq.mpr c3
  clear c3
  obtain rfl := Option.some.inj H
  go_enter Tryd.func82, Tryd.ntmps82
  go_wp2
  go_ret
  exact ⟨_, zq9, Kd.V_nil _ _ _ _ _, zq1⟩
 ·rw [if_neg c3] at H
  have c3b0 : ((l0.length : Int) == 0) = false := beq_eq_false_iff_ne.mpr c3
  have c3b1 : ((l0.length : Int) != 0) = true := bne_iff_ne.mpr c3
  have c3b2 : ¬ (l0 = []) := fun h_ => c3 (by rw [h_]; rfl)
  obtain ⟨ji4, hji4⟩ : ∃ j_ : Int, (wrap64 (Int.tdiv a1 16)) = j_ := ⟨_, rfl⟩
  replace H : (if 0 ≤ (ji4) then (if (ji4 : Int).toNat ≤ 35184372088832 then (rf_ShlNat.l0 k a1 (List.replicate (ji4 : Int).toNat 0) 0 l0 (l0.length : Int) 0) else (none)) else (none)) = some r := by first | (rw [hji4] at H; exact H) | (simp only [hji4] at H ⊢; exact H)
  have hji4w : (IntKind.i64.wrap (Int.tdiv a1 16)) = ji4 := (i64_w _).trans hji4
  replace H := zn H
  obtain ⟨c5, H⟩ := H
  have c5b0 := eq_true c5
  have c5b1 := decide_eq_true c5
  clear c5
  replace H := zn H
  obtain ⟨c6, H⟩ := H
  have c6b0 := eq_true c6
  have c6b1 := decide_eq_true c6
  clear c6
  obtain ⟨y539, hy539⟩ : ∃ y_ : List Int, y_ = (List.replicate (ji4 : Int).toNat 0) := ⟨_, rfl⟩
  try rw [← hy539] at H
  have Ny539 := am hy539
  clear hy539
  have H' := am H
  clear H
  go_enter Tryd.func82, Tryd.ntmps82
  go_wp2_with (first | ((with_reducible refine gate_dst (N := 15) rfl ?_); refine Kd.R_make (Kd.int .i64) _ 3 rfl (N := 15) rfl 39 _ _ rfl ji4 rfl rfl Tryd.underlying39 (.int .i64 0) 8 info3 rfl (by decide) (by omega) 0 (ok := fun _ => True) (okp := fun _ => True) rfl (fun _ hk => hk) trivial zq6 (Nat.le_trans (Nat.mul_le_mul_right _ (zq6 : ji4.toNat ≤ 35184372088832)) (by omega)) (Below.refl _ _) (Nat.le_refl _) ?_; intro v540 w7 ho8 hb hg_ hnew_; clear hg_ hnew_; (first | rw [← Ny539.out] at ho8 | (simp only [Int.reduceToNat] at ho8; rw [← Ny539.out] at ho8)); refine zt2 (Kd.R_lower (Kd.R_newM (M := fun k_ => (w.heap.size ≤ k_)) ho8 (below_size zq1) (fun k_ h_ => h_)) (below_size zq1)) (below_step zq1 hb) ?_; clear HB; intro HO541 HB; clear hb ho8))
  go_loopg [5, 6, 18] k (fun kq v5 v6 v18 w' => ∃ (x5_1 : List Int) (x6_1 : Int) (x18_1 : Int), v6 = .int .i64 x6_1 ∧ v18 = .int .i64 x18_1 ∧ Aside0 (rf_ShlNat.l0 kq a1 x5_1 x6_1 l0 (l0.length : Int) x18_1 = some r) ∧ Aside0 (kq ≤ k) ∧ Aside0 (Kd.R (Kd.int .i64) 3 w' w.heap.size (fun k_ => (w.heap.size ≤ k_)) v5 x5_1) ∧ Aside0 (Below w.heap.size w w'))
  case atStart => exact ⟨(y539), (0), (0), zq8, zq8, H', ⟨Nat.le_refl _⟩, ⟨zwR (h := by exact Kd.R_mono HO541.out (fun _ hk => hk.1))⟩, ⟨zq1⟩⟩
  case round =>
   clear H'
   obtain ⟨x5_1, x6_1, x18_1, rfl, rfl, HA, HK1, HO_5, HB⟩ := hrel
   cases gk with
   | zero => exact absurd HA.out (by simp [rf_ShlNat.l0])
   | succ k1 =>
    have H := HA.out
    clear HA
    simp only [rf_ShlNat.l0] at H
    by_cases c9 : x18_1 < (l0.length : Int)
    ·rw [if_pos c9] at H
     have c9b0 := decide_eq_true c9
     clear c9
     replace H := zn H
     obtain ⟨c10, H⟩ := H
     have c10b0 := decide_eq_true c10
     clear c10
     replace H := zn H
     obtain ⟨c11, H⟩ := H
     have c11b0 := decide_eq_true c11
     clear c11
     obtain ⟨ji12, hji12⟩ : ∃ j_ : Int, (Int.tmod a1 16) = j_ := ⟨_, rfl⟩
     replace H : (if 0 ≤ (ji12) then (if x5_1.length < 17592186044416 then (rf_ShlNat.l0 k1 a1 (x5_1 ++ [Int.tmod (Go.bits .or .i64 (shl .i64 (rd l0 x18_1) (ji12)) x6_1) 65536]) (wrap64 (Int.tdiv (Go.bits .or .i64 (shl .i64 (rd l0 x18_1) (ji12)) x6_1) 65536)) l0 (l0.length : Int) (wrap64 (x18_1 + 1))) else (none)) else (none)) = some r := by first | (rw [hji12] at H; exact H) | (simp only [hji12] at H ⊢; exact H)
     replace H := zn H
     obtain ⟨c13, H⟩ := H
     have c13b0 := eq_true c13
     have c13b1 := decide_eq_true c13
     clear c13
     obtain ⟨ji14, hji14⟩ : ∃ j_ : Int, (shl .i64 (rd l0 x18_1) (ji12)) = j_ := ⟨_, rfl⟩
     replace H : (if x5_1.length < 17592186044416 then (rf_ShlNat.l0 k1 a1 (x5_1 ++ [Int.tmod (Go.bits .or .i64 (ji14) x6_1) 65536]) (wrap64 (Int.tdiv (Go.bits .or .i64 (ji14) x6_1) 65536)) l0 (l0.length : Int) (wrap64 (x18_1 + 1))) else (none)) = some r := by first | (rw [hji14] at H; exact H) | (simp only [hji14] at H ⊢; exact H)
     have hji14_ : (IntKind.i64.wrap ((rd l0 x18_1) * 2 ^ min (ji12).toNat 64)) = ji14 := hji14
     have hji14z : (ji12) ≤ 64 → (IntKind.i64.wrap ((rd l0 x18_1) * 2 ^ (ji12).toNat)) = ji14 := shl_small hji14
     have hji14y : (wrap64 ((rd l0 x18_1) * 2 ^ min (ji12).toNat 64)) = ji14 := (i64_w _).symm.trans hji14_
     have hji14x : (ji12) ≤ 64 → (wrap64 ((rd l0 x18_1) * 2 ^ (ji12).toNat)) = ji14 := fun h_ => (i64_w _).symm.trans (hji14z h_)
     replace H := zn H
     obtain ⟨c15, H⟩ := H
     have LMc15 := am c15
     clear c15
     obtain ⟨y543, hy543⟩ : ∃ y_ : List Int, y_ = (x5_1 ++ [Int.tmod (Go.bits .or .i64 (ji14) x6_1) 65536]) := ⟨_, rfl⟩
     try rw [← hy543] at H
     have Ny543 := am hy543
     clear hy543
     have H' := am H
     clear H
     have p542 : 0 ≤ (x18_1 : Int) := zq6
     have q542 : x18_1 < (l0.length : Int) := zq6
     obtain ⟨ad542, e542, hx542_0⟩ := Kd.at_int HR0.out x18_1 p542 q542
     cases e542
     replace hx542_0 := (HB.out.cell (World.block_lt_of_cell? w _ hx542_0)).trans hx542_0
     replace p542 := eq_true p542
     replace q542 := eq_true q542
     go_wp2_with (first | ((with_reducible refine gate_builtin (b := .append) (xs := #[.tmp 28, .tmp 31]) rfl ?_); at_builtin; refine Kd.R_append (Kd.int .i64) (w0 := w) w.heap.size rfl (.tmp 28) (.tmp 31) 39 3 (.int .i64 0) 8 rfl Tryd.underlying39 info3 rfl (by decide) (by omega) u5 x5_1 (Int.tmod (Go.bits .or .i64 (ji14) x6_1) 65536) [.int .i64 (Int.tmod (Go.bits .or .i64 (ji14) x6_1) 65536)] (fun k_ => (w.heap.size ≤ k_)) (fun _ => False) rfl rfl ?aP (fun _ hk => hk.elim) ?aF ?aO ?aB ?aS ?aL ?_; (case aP => exact rfl); (case aB => exact zq1); (case aF => exact (fun k_ hk => (Nat.le_trans (below_size zq1) hk))); (case aO => exact (zq4 HO_5.out)); (case aS => exact (below_size zq1)); (case aL => have := LMc15.out; omega); intro v544 w16 ho hb hg hat; rw [← Ny543.out] at ho; refine zt2 (hb) (ho) ?_; clear HB HO_5; intro HB HO545; clear ho hb hg hat))
     go_roundg k1
     case measure => have := HK1.out; omega
     case rel => exact ⟨(y543), (wrap64 (Int.tdiv (Go.bits .or .i64 (ji14) x6_1) 65536)), (wrap64 (x18_1 + 1)), (by first | rfl | (simp; done) | (simp only [← hji14] <;> (first | rfl | simp)) | (simp [*]; done)), zq8, (by first | exact H' | (rw [hji4]; exact H') | (rw [hji12]; exact H') | (rw [hji14]; exact H')), ⟨by have := HK1.out; omega⟩, ⟨zq4 HO545.out⟩, ⟨zq1⟩⟩
    ·rw [if_neg c9] at H
     have c9b0 := decide_eq_false c9
     clear c9
     replace H := zn H
     obtain ⟨c17, H⟩ := H
     have LMc17 := am c17
     clear c17
     obtain ⟨y546, hy546⟩ : ∃ y_ : List Int, y_ = (x5_1 ++ [x6_1]) := ⟨_, rfl⟩
     try rw [← hy546] at H
     have Ny546 := am hy546
     clear hy546
     replace H := zj H
     obtain ⟨t549, A18, H⟩ := H
     obtain rfl := Option.some.inj H
     go_wp2_with (first | ((with_reducible refine gate_builtin (b := .append) (xs := #[.tmp 36, .tmp 38]) rfl ?_); at_builtin; refine Kd.R_append (Kd.int .i64) (w0 := w) w.heap.size rfl (.tmp 36) (.tmp 38) 39 3 (.int .i64 0) 8 rfl Tryd.underlying39 info3 rfl (by decide) (by omega) u5 x5_1 x6_1 [.int .i64 x6_1] (fun k_ => (w.heap.size ≤ k_)) (fun _ => False) rfl rfl ?aP (fun _ hk => hk.elim) ?aF ?aO ?aB ?aS ?aL ?_; (case aP => exact rfl); (case aB => exact zq1); (case aF => exact (fun k_ hk => (Nat.le_trans (below_size zq1) hk))); (case aO => exact (zq4 HO_5.out)); (case aS => exact (below_size zq1)); (case aL => have := LMc17.out; omega); intro v547 w19 ho hb hg hat; rw [← Ny546.out] at ho; refine zt2 (hb) (ho) ?_; clear HB HO_5; intro HB HO548; clear ho hb hg hat; obtain ⟨Ao20, co20, eo20⟩ := Kd.R_slice HO548.out; subst eo20) | ((with_reducible refine gate_callee (f := 96) rfl ?_); refine goesL_ (some 40) rfl rfl Tryd.func96 (by kernel_rfl) rfl #[.slice Ao20 y546.length co20] rfl zq5 ?_; (with_reducible refine (rf_trim.calls k1 (fun k_ => some k_ = (.slice Ao20 y546.length co20 : Value).ownBlock) _ _ y546 t549 _ ?side1 A18.out).mono ?_); (case side1 => exact Kd.R_V (Kd.R_tight rfl (HO548.out))); rintro e w21 ⟨v550, rfl, ho0, hb⟩; refine ⟨_, rfl, ?_⟩; refine zt3 (rb HO548 hb) (Kd.V_lower (Kd.V_mono (ok' := fun k_ => (w.heap.size ≤ k_)) ho0 (fun k_ hk_ => Or.elim hk_ (fun hs_ => ((HO548.out).1 k_ hs_.symm)) (fun hn_ => (Nat.le_trans (below_size zq1) hn_)))) (below_size zq1)) (below_step zq1 hb) ?_; clear HO548 HB; intro HO548 HO551 HB))
     go_ret
     exact ⟨_, by first | rfl | (simp [errW_none, errW_some] <;> rfl) | (simp only [← hji4]; first | rfl | (simp [errW_none, errW_some] <;> rfl)) | (simp [*, errW_none, errW_some] <;> rfl), zq3 HO551.out, zq1⟩
def rf_SubNat.l0 : Nat → List Int → List Int → List Int → Int → Int → Int → Option (List Int)
 | 0, _, _, _, _, _, _ => none
 | k + 1, x0, x1, x5, x6, x10, x11 => if x11 < x10 then (if 0 ≤ x11 then (if x11 < (x0.length : Int) then ((rf_digit.f x1 x11).bind fun t553 => (if (wrap64 ((wrap64 ((rd x0 x11) - t553)) - x6)) < 0 then (if x5.length < 17592186044416 then (rf_SubNat.l0 k x0 x1 (x5 ++ [wrap64 ((wrap64 ((wrap64 ((rd x0 x11) - t553)) - x6)) + 65536)]) 1 x10 (wrap64 (x11 + 1))) else (none)) else (if x5.length < 17592186044416 then (rf_SubNat.l0 k x0 x1 (x5 ++ [wrap64 ((wrap64 ((rd x0 x11) - t553)) - x6)]) 0 x10 (wrap64 (x11 + 1))) else (none)))) else (none)) else (none)) else ((rf_trim.f k x5).bind fun t560 => (some t560))
def rf_SubNat.f (k : Nat) (l0 : List Int) (l1 : List Int) : Option (List Int) := rf_SubNat.l0 k l0 l1 ([] : List Int) 0 (l0.length : Int) 0
theorem rf_SubNat.mono_l : ∀ k, (∀ y0 y1 y2 y3 y4 y5, LeO (rf_SubNat.l0 k y0 y1 y2 y3 y4 y5) (rf_SubNat.l0 (k + 1) y0 y1 y2 y3 y4 y5))
 | 0 => fun _ _ _ _ _ _ r h => by simp [rf_SubNat.l0] at h
 | k + 1 => by
  have ih0 := rf_SubNat.mono_l k
  ·intro y0 y1 y2 y3 y4 y5
   unfold rf_SubNat.l0
   have m0 := ih0
   have m1 := @rf_trim.mono
   exact zm
theorem rf_SubNat.mono : ∀ a0 a1 k, LeO (rf_SubNat.f k a0 a1) (rf_SubNat.f (k + 1) a0 a1) := by
 intro a0 a1 k
 have ih0 := rf_SubNat.mono_l k
 unfold rf_SubNat.f
 have m0 := ih0
 have m1 := @rf_trim.mono
 exact zm
set_option maxHeartbeats 8000000 in
set_option maxRecDepth 100000 in
theorem rf_SubNat.calls (k : Nat) (A0 : Option Addr) (c0 : Nat) (l0 : List Int) (A1 : Option Addr) (c1 : Nat) (l1 : List Int) (r : List Int) (w : World) (hr0 : Kd.C (Kd.int .i64) w A0 l0.length l0) (hc0 : l0.length ≤ c0) (hr1 : Kd.C (Kd.int .i64) w A1 l1.length l1) (hc1 : l1.length ≤ c1) (h : rf_SubNat.f k l0 l1 = some r) :
  Calls Tryd.prog 83 #[.slice A0 l0.length c0, .slice A1 l1.length c1] w fun e w' => ∃ v0_ : Value, e = .returned (v0_) ∧ Kd.V (Kd.int .i64) 3 w' w.heap.size (fun k_ => (w.heap.size ≤ k_)) v0_ r ∧ Below w.heap.size w w' := by
 have HR0 := am hr0
 have HC0 := am hc0
 clear hr0 hc0
 have HR1 := am hr1
 have HC1 := am hc1
 clear hr1 hc1
 have HB := am (Below.refl w.heap.size w)
 have H := h
 unfold rf_SubNat.f at H
 clear h
 have H' := am H
 clear H
 go_enter Tryd.func83, Tryd.ntmps83
 go_wp2
 repeat (go_quiet (fail); try go_wp2)
 go_loopg [5, 6, 11] k (fun kq v5 v6 v11 w' => ∃ (x5_1 : List Int) (x6_1 : Int) (x11_1 : Int), v6 = .int .i64 x6_1 ∧ v11 = .int .i64 x11_1 ∧ Aside0 (rf_SubNat.l0 kq l0 l1 x5_1 x6_1 (l0.length : Int) x11_1 = some r) ∧ Aside0 (kq ≤ k) ∧ Aside0 (Kd.R (Kd.int .i64) 3 w' w.heap.size (fun k_ => (w.heap.size ≤ k_)) v5 x5_1) ∧ Aside0 (Below w.heap.size w w'))
 case atStart => exact ⟨(([] : List Int)), (0), (0), zq8, zq8, H', ⟨Nat.le_refl _⟩, ⟨by first | exact Kd.R_nil _ _ _ _ _ | exact Kd.N_nil _ _ _ _ _ | exact Kd.V_nil _ _ _ _ _ | exact Kd.Q_nil _ _ _ _ _ | exact Kd.S_nil _ _ _ _ _⟩, ⟨zq1⟩⟩
 case round =>
  clear H'
  obtain ⟨x5_1, x6_1, x11_1, rfl, rfl, HA, HK1, HO_5, HB⟩ := hrel
  cases gk with
  | zero => exact absurd HA.out (by simp [rf_SubNat.l0])
  | succ k1 =>
   have H := HA.out
   clear HA
   simp only [rf_SubNat.l0] at H
   by_cases c3 : x11_1 < (l0.length : Int)
   ·rw [if_pos c3] at H
    have c3b0 := decide_eq_true c3
    clear c3
    replace H := zn H
    obtain ⟨c4, H⟩ := H
    have c4b0 := decide_eq_true c4
    clear c4
    replace H := zn H
    obtain ⟨c5, H⟩ := H
    have c5b0 := decide_eq_true c5
    clear c5
    replace H := zj H
    obtain ⟨t553, A6, H⟩ := H
    by_cases c7 : (wrap64 ((wrap64 ((rd l0 x11_1) - t553)) - x6_1)) < 0
    ·rw [if_pos c7] at H
     have c7b0 := decide_eq_true c7
     clear c7
     replace H := zn H
     obtain ⟨c8, H⟩ := H
     have LMc8 := am c8
     clear c8
     obtain ⟨y554, hy554⟩ : ∃ y_ : List Int, y_ = (x5_1 ++ [wrap64 ((wrap64 ((wrap64 ((rd l0 x11_1) - t553)) - x6_1)) + 65536)]) := ⟨_, rfl⟩
     try rw [← hy554] at H
     have Ny554 := am hy554
     clear hy554
     have H' := am H
     clear H
     have p552 : 0 ≤ (x11_1 : Int) := zq6
     have q552 : x11_1 < (l0.length : Int) := zq6
     obtain ⟨ad552, e552, hx552_0⟩ := Kd.at_int HR0.out x11_1 p552 q552
     cases e552
     replace hx552_0 := (HB.out.cell (World.block_lt_of_cell? w _ hx552_0)).trans hx552_0
     replace p552 := eq_true p552
     replace q552 := eq_true q552
     go_wp2_with (first | (go_at_call 97; (with_reducible refine (rf_digit.calls _ _ l1 x11_1 t553 _ ?side1 ?side2 A6.out).mono ?_); (case side1 => exact zc (Kd.C_below HR1.out HB.out)); (case side2 => exact HC1.out); rintro e w' ⟨rfl, ⟨nd, rfl⟩⟩; (try first | exact ⟨rfl, _, World.drewN_drewN _ _ _⟩ | exact ⟨rfl, _, Eq.trans (World.drewN_drewN _ _ _) (congrArg (World.drewN _) (Nat.add_assoc _ _ _))⟩)) | ((with_reducible refine gate_builtin (b := .append) (xs := #[.tmp 28, .tmp 30]) rfl ?_); at_builtin; refine Kd.R_append (Kd.int .i64) (w0 := w) w.heap.size rfl (.tmp 28) (.tmp 30) 39 3 (.int .i64 0) 8 rfl Tryd.underlying39 info3 rfl (by decide) (by omega) u5 x5_1 (wrap64 ((wrap64 ((wrap64 ((rd l0 x11_1) - t553)) - x6_1)) + 65536)) [.int .i64 (wrap64 ((wrap64 ((wrap64 ((rd l0 x11_1) - t553)) - x6_1)) + 65536))] (fun k_ => (w.heap.size ≤ k_)) (fun _ => False) rfl rfl ?aP (fun _ hk => hk.elim) ?aF ?aO ?aB ?aS ?aL ?_; (case aP => exact rfl); (case aB => exact zq1); (case aF => exact (fun k_ hk => (Nat.le_trans (below_size zq1) hk))); (case aO => exact (zq4 HO_5.out)); (case aS => exact (below_size zq1)); (case aL => have := LMc8.out; omega); intro v555 w9 ho hb hg hat; rw [← Ny554.out] at ho; refine zt2 (hb) (ho) ?_; clear HB HO_5; intro HB HO556; clear ho hb hg hat))
     repeat (go_quiet (first | (go_at_call 97; (with_reducible refine (rf_digit.calls _ _ l1 x11_1 t553 _ ?side1 ?side2 A6.out).mono ?_); (case side1 => exact zc (Kd.C_below HR1.out HB.out)); (case side2 => exact HC1.out); rintro e w' ⟨rfl, ⟨nd, rfl⟩⟩; (try first | exact ⟨rfl, _, World.drewN_drewN _ _ _⟩ | exact ⟨rfl, _, Eq.trans (World.drewN_drewN _ _ _) (congrArg (World.drewN _) (Nat.add_assoc _ _ _))⟩)) | ((with_reducible refine gate_builtin (b := .append) (xs := #[.tmp 28, .tmp 30]) rfl ?_); at_builtin; refine Kd.R_append (Kd.int .i64) (w0 := w) w.heap.size rfl (.tmp 28) (.tmp 30) 39 3 (.int .i64 0) 8 rfl Tryd.underlying39 info3 rfl (by decide) (by omega) u5 x5_1 (wrap64 ((wrap64 ((wrap64 ((rd l0 x11_1) - t553)) - x6_1)) + 65536)) [.int .i64 (wrap64 ((wrap64 ((wrap64 ((rd l0 x11_1) - t553)) - x6_1)) + 65536))] (fun k_ => (w.heap.size ≤ k_)) (fun _ => False) rfl rfl ?aP (fun _ hk => hk.elim) ?aF ?aO ?aB ?aS ?aL ?_; (case aP => exact rfl); (case aB => exact zq1); (case aF => exact (fun k_ hk => (Nat.le_trans (below_size zq1) hk))); (case aO => exact (zq4 HO_5.out)); (case aS => exact (below_size zq1)); (case aL => have := LMc8.out; omega); intro v555 w9 ho hb hg hat; rw [← Ny554.out] at ho; refine zt2 (hb) (ho) ?_; clear HB HO_5; intro HB HO556; clear ho hb hg hat)); try go_wp2_with (first | (go_at_call 97; (with_reducible refine (rf_digit.calls _ _ l1 x11_1 t553 _ ?side1 ?side2 A6.out).mono ?_); (case side1 => exact zc (Kd.C_below HR1.out HB.out)); (case side2 => exact HC1.out); rintro e w' ⟨rfl, ⟨nd, rfl⟩⟩; (try first | exact ⟨rfl, _, World.drewN_drewN _ _ _⟩ | exact ⟨rfl, _, Eq.trans (World.drewN_drewN _ _ _) (congrArg (World.drewN _) (Nat.add_assoc _ _ _))⟩)) | ((with_reducible refine gate_builtin (b := .append) (xs := #[.tmp 28, .tmp 30]) rfl ?_); at_builtin; refine Kd.R_append (Kd.int .i64) (w0 := w) w.heap.size rfl (.tmp 28) (.tmp 30) 39 3 (.int .i64 0) 8 rfl Tryd.underlying39 info3 rfl (by decide) (by omega) u5 x5_1 (wrap64 ((wrap64 ((wrap64 ((rd l0 x11_1) - t553)) - x6_1)) + 65536)) [.int .i64 (wrap64 ((wrap64 ((wrap64 ((rd l0 x11_1) - t553)) - x6_1)) + 65536))] (fun k_ => (w.heap.size ≤ k_)) (fun _ => False) rfl rfl ?aP (fun _ hk => hk.elim) ?aF ?aO ?aB ?aS ?aL ?_; (case aP => exact rfl); (case aB => exact zq1); (case aF => exact (fun k_ hk => (Nat.le_trans (below_size zq1) hk))); (case aO => exact (zq4 HO_5.out)); (case aS => exact (below_size zq1)); (case aL => have := LMc8.out; omega); intro v555 w9 ho hb hg hat; rw [← Ny554.out] at ho; refine zt2 (hb) (ho) ?_; clear HB HO_5; intro HB HO556; clear ho hb hg hat)))
     go_roundg k1
     case measure => have := HK1.out; omega
     case rel => exact ⟨(y554), (1), (wrap64 (x11_1 + 1)), zq8, zq8, H', ⟨by have := HK1.out; omega⟩, ⟨zq4 HO556.out⟩, ⟨zq1⟩⟩
    ·rw [if_neg c7] at H
     have c7b0 := decide_eq_false c7
     clear c7
     replace H := zn H
     obtain ⟨c10, H⟩ := H
     have LMc10 := am c10
     clear c10
     obtain ⟨y557, hy557⟩ : ∃ y_ : List Int, y_ = (x5_1 ++ [wrap64 ((wrap64 ((rd l0 x11_1) - t553)) - x6_1)]) := ⟨_, rfl⟩
     try rw [← hy557] at H
     have Ny557 := am hy557
     clear hy557
     have H' := am H
     clear H
     have p552 : 0 ≤ (x11_1 : Int) := zq6
     have q552 : x11_1 < (l0.length : Int) := zq6
     obtain ⟨ad552, e552, hx552_0⟩ := Kd.at_int HR0.out x11_1 p552 q552
     cases e552
     replace hx552_0 := (HB.out.cell (World.block_lt_of_cell? w _ hx552_0)).trans hx552_0
     replace p552 := eq_true p552
     replace q552 := eq_true q552
     go_wp2_with (first | (go_at_call 97; (with_reducible refine (rf_digit.calls _ _ l1 x11_1 t553 _ ?side1 ?side2 A6.out).mono ?_); (case side1 => exact zc (Kd.C_below HR1.out HB.out)); (case side2 => exact HC1.out); rintro e w' ⟨rfl, ⟨nd, rfl⟩⟩; (try first | exact ⟨rfl, _, World.drewN_drewN _ _ _⟩ | exact ⟨rfl, _, Eq.trans (World.drewN_drewN _ _ _) (congrArg (World.drewN _) (Nat.add_assoc _ _ _))⟩)) | ((with_reducible refine gate_builtin (b := .append) (xs := #[.tmp 28, .tmp 30]) rfl ?_); at_builtin; refine Kd.R_append (Kd.int .i64) (w0 := w) w.heap.size rfl (.tmp 28) (.tmp 30) 39 3 (.int .i64 0) 8 rfl Tryd.underlying39 info3 rfl (by decide) (by omega) u5 x5_1 (wrap64 ((wrap64 ((rd l0 x11_1) - t553)) - x6_1)) [.int .i64 (wrap64 ((wrap64 ((rd l0 x11_1) - t553)) - x6_1))] (fun k_ => (w.heap.size ≤ k_)) (fun _ => False) rfl rfl ?aP (fun _ hk => hk.elim) ?aF ?aO ?aB ?aS ?aL ?_; (case aP => exact rfl); (case aB => exact zq1); (case aF => exact (fun k_ hk => (Nat.le_trans (below_size zq1) hk))); (case aO => exact (zq4 HO_5.out)); (case aS => exact (below_size zq1)); (case aL => have := LMc10.out; omega); intro v558 w11 ho hb hg hat; rw [← Ny557.out] at ho; refine zt2 (hb) (ho) ?_; clear HB HO_5; intro HB HO559; clear ho hb hg hat))
     repeat (go_quiet (first | (go_at_call 97; (with_reducible refine (rf_digit.calls _ _ l1 x11_1 t553 _ ?side1 ?side2 A6.out).mono ?_); (case side1 => exact zc (Kd.C_below HR1.out HB.out)); (case side2 => exact HC1.out); rintro e w' ⟨rfl, ⟨nd, rfl⟩⟩; (try first | exact ⟨rfl, _, World.drewN_drewN _ _ _⟩ | exact ⟨rfl, _, Eq.trans (World.drewN_drewN _ _ _) (congrArg (World.drewN _) (Nat.add_assoc _ _ _))⟩)) | ((with_reducible refine gate_builtin (b := .append) (xs := #[.tmp 28, .tmp 30]) rfl ?_); at_builtin; refine Kd.R_append (Kd.int .i64) (w0 := w) w.heap.size rfl (.tmp 28) (.tmp 30) 39 3 (.int .i64 0) 8 rfl Tryd.underlying39 info3 rfl (by decide) (by omega) u5 x5_1 (wrap64 ((wrap64 ((rd l0 x11_1) - t553)) - x6_1)) [.int .i64 (wrap64 ((wrap64 ((rd l0 x11_1) - t553)) - x6_1))] (fun k_ => (w.heap.size ≤ k_)) (fun _ => False) rfl rfl ?aP (fun _ hk => hk.elim) ?aF ?aO ?aB ?aS ?aL ?_; (case aP => exact rfl); (case aB => exact zq1); (case aF => exact (fun k_ hk => (Nat.le_trans (below_size zq1) hk))); (case aO => exact (zq4 HO_5.out)); (case aS => exact (below_size zq1)); (case aL => have := LMc10.out; omega); intro v558 w11 ho hb hg hat; rw [← Ny557.out] at ho; refine zt2 (hb) (ho) ?_; clear HB HO_5; intro HB HO559; clear ho hb hg hat)); try go_wp2_with (first | (go_at_call 97; (with_reducible refine (rf_digit.calls _ _ l1 x11_1 t553 _ ?side1 ?side2 A6.out).mono ?_); (case side1 => exact zc (Kd.C_below HR1.out HB.out)); (case side2 => exact HC1.out); rintro e w' ⟨rfl, ⟨nd, rfl⟩⟩; (try first | exact ⟨rfl, _, World.drewN_drewN _ _ _⟩ | exact ⟨rfl, _, Eq.trans (World.drewN_drewN _ _ _) (congrArg (World.drewN _) (Nat.add_assoc _ _ _))⟩)) | ((with_reducible refine gate_builtin (b := .append) (xs := #[.tmp 28, .tmp 30]) rfl ?_); at_builtin; refine Kd.R_append (Kd.int .i64) (w0 := w) w.heap.size rfl (.tmp 28) (.tmp 30) 39 3 (.int .i64 0) 8 rfl Tryd.underlying39 info3 rfl (by decide) (by omega) u5 x5_1 (wrap64 ((wrap64 ((rd l0 x11_1) - t553)) - x6_1)) [.int .i64 (wrap64 ((wrap64 ((rd l0 x11_1) - t553)) - x6_1))] (fun k_ => (w.heap.size ≤ k_)) (fun _ => False) rfl rfl ?aP (fun _ hk => hk.elim) ?aF ?aO ?aB ?aS ?aL ?_; (case aP => exact rfl); (case aB => exact zq1); (case aF => exact (fun k_ hk => (Nat.le_trans (below_size zq1) hk))); (case aO => exact (zq4 HO_5.out)); (case aS => exact (below_size zq1)); (case aL => have := LMc10.out; omega); intro v558 w11 ho hb hg hat; rw [← Ny557.out] at ho; refine zt2 (hb) (ho) ?_; clear HB HO_5; intro HB HO559; clear ho hb hg hat)))
     go_roundg k1
     case measure => have := HK1.out; omega
     case rel => exact ⟨(y557), (0), (wrap64 (x11_1 + 1)), zq8, zq8, H', ⟨by have := HK1.out; omega⟩, ⟨zq4 HO559.out⟩, ⟨zq1⟩⟩
   ·rw [if_neg c3] at H
    have c3b0 := decide_eq_false c3
    clear c3
    replace H := zj H
    obtain ⟨t560, A12, H⟩ := H
    obtain rfl := Option.some.inj H
    obtain ⟨Ao13, co13, eo13⟩ := Kd.R_slice HO_5.out
    subst eo13
    go_wp2_with (first | (go_at_call 96; (with_reducible refine (rf_trim.calls k1 (fun k_ => some k_ = (.slice Ao13 x5_1.length co13 : Value).ownBlock) _ _ x5_1 t560 _ ?side1 A12.out).mono ?_); (case side1 => exact Kd.R_V (Kd.R_tight rfl (HO_5.out))); rintro e w14 ⟨v561, rfl, ho0, hb⟩; refine zt3 (rb HO_5 hb) (Kd.V_lower (Kd.V_mono (ok' := fun k_ => (w.heap.size ≤ k_)) ho0 (fun k_ hk_ => Or.elim hk_ (fun hs_ => ((HO_5.out).1 k_ hs_.symm)) (fun hn_ => (Nat.le_trans (below_size zq1) hn_)))) (below_size zq1)) (below_step zq1 hb) ?_; clear HO_5 HB; intro HO_5 HO562 HB))
    repeat (go_quiet (first | (go_at_call 96; (with_reducible refine (rf_trim.calls k1 (fun k_ => some k_ = (.slice Ao13 x5_1.length co13 : Value).ownBlock) _ _ x5_1 t560 _ ?side1 A12.out).mono ?_); (case side1 => exact Kd.R_V (Kd.R_tight rfl (HO_5.out))); rintro e w14 ⟨v561, rfl, ho0, hb⟩; refine zt3 (rb HO_5 hb) (Kd.V_lower (Kd.V_mono (ok' := fun k_ => (w.heap.size ≤ k_)) ho0 (fun k_ hk_ => Or.elim hk_ (fun hs_ => ((HO_5.out).1 k_ hs_.symm)) (fun hn_ => (Nat.le_trans (below_size zq1) hn_)))) (below_size zq1)) (below_step zq1 hb) ?_; clear HO_5 HB; intro HO_5 HO562 HB)); try go_wp2_with (first | (go_at_call 96; (with_reducible refine (rf_trim.calls k1 (fun k_ => some k_ = (.slice Ao13 x5_1.length co13 : Value).ownBlock) _ _ x5_1 t560 _ ?side1 A12.out).mono ?_); (case side1 => exact Kd.R_V (Kd.R_tight rfl (HO_5.out))); rintro e w14 ⟨v561, rfl, ho0, hb⟩; refine zt3 (rb HO_5 hb) (Kd.V_lower (Kd.V_mono (ok' := fun k_ => (w.heap.size ≤ k_)) ho0 (fun k_ hk_ => Or.elim hk_ (fun hs_ => ((HO_5.out).1 k_ hs_.symm)) (fun hn_ => (Nat.le_trans (below_size zq1) hn_)))) (below_size zq1)) (below_step zq1 hb) ?_; clear HO_5 HB; intro HO_5 HO562 HB)))
    go_ret
    exact ⟨_, zq9, zq3 HO562.out, zq1⟩
def rf_bit.f (l0 : List Int) (a1 : Int) : Option (Int) := (rf_digit.f l0 (wrap64 (Int.tdiv a1 16))).bind fun t563 => (if 0 ≤ (Int.tmod a1 16) then (some (Go.bits .and .i64 (shr .i64 t563 (Int.tmod a1 16)) 1)) else (none))
set_option maxHeartbeats 8000000 in
set_option maxRecDepth 100000 in
theorem rf_bit.calls (A0 : Option Addr) (c0 : Nat) (l0 : List Int) (a1 : Int) (r : Int) (w : World) (hr0 : Kd.C (Kd.int .i64) w A0 l0.length l0) (hc0 : l0.length ≤ c0) (h : rf_bit.f l0 a1 = some r) :
  Calls Tryd.prog 98 #[.slice A0 l0.length c0, .int .i64 a1] w fun e w' => e = .returned (.int .i64 r) ∧ Drawn0 w w' := by
 have HR0 := am hr0
 have HC0 := am hc0
 clear hr0 hc0
 have H := h
 unfold rf_bit.f at H
 clear h
 replace H := zj H
 obtain ⟨t563, A3, H⟩ := H
 obtain ⟨ji4, hji4⟩ : ∃ j_ : Int, (Int.tmod a1 16) = j_ := ⟨_, rfl⟩
 replace H : (if 0 ≤ (ji4) then (some (Go.bits .and .i64 (shr .i64 t563 (ji4)) 1)) else (none)) = some r := by first | (rw [hji4] at H; exact H) | (simp only [hji4] at H ⊢; exact H)
 (try rw [hji4] at A3)
 replace H := zn H
 obtain ⟨c5, H⟩ := H
 have c5b0 := eq_true c5
 have c5b1 := decide_eq_true c5
 clear c5
 obtain ⟨ji6, hji6⟩ : ∃ j_ : Int, (shr .i64 t563 (ji4)) = j_ := ⟨_, rfl⟩
 replace H : (some (Go.bits .and .i64 (ji6) 1)) = some r := by first | (rw [hji6] at H; exact H) | (simp only [hji6] at H ⊢; exact H)
 (try rw [hji6] at A3)
 have hji6_ : (t563 / 2 ^ min (ji4).toNat 64) = ji6 := hji6
 have hji6z : (ji4) ≤ 64 → (t563 / 2 ^ (ji4).toNat) = ji6 := shr_small hji6
 obtain rfl := Option.some.inj H
 go_enter Tryd.func98, Tryd.ntmps98
 go_wp2_with (first | ((with_reducible refine gate_callee (f := 97) rfl ?_); refine goesL_ (some 8) rfl rfl Tryd.func97 (by kernel_rfl) rfl #[.slice A0 l0.length c0, .int .i64 (wrap64 (Int.tdiv a1 16))] rfl zq5 ?_; (with_reducible refine (rf_digit.calls _ _ l0 (wrap64 (Int.tdiv a1 16)) t563 _ ?side1 ?side2 A3.out).mono ?_); (case side1 => exact zc (HR0.out)); (case side2 => exact HC0.out); rintro e w' ⟨rfl, ⟨nd, rfl⟩⟩; refine ⟨_, rfl, ?_⟩))
 go_ret
 exact ⟨by first | rfl | (simp; done) | (simp only [← hji4, ← hji6] <;> (first | rfl | simp)) | (simp [*]; done), by repeat (first | exact Drawn0.refl _ | apply Drawn0.step)⟩
def rf_half.l0 : Nat → List Int → List Int → Int → Int → Option (List Int)
 | 0, _, _, _, _ => none
 | k + 1, x0, x3, x9, x10 => if x10 < x9 then (if 0 ≤ x10 then (if x10 < (x0.length : Int) then ((rf_digit.f x0 (wrap64 (x10 + 1))).bind fun t568 => (if x10 < (x3.length : Int) then (rf_half.l0 k x0 (x3.set (x10 : Int).toNat (Go.bits .or .i64 ((rd x0 x10) / 2) (wrap64 ((Go.bits .and .i64 t568 1) * 32768)))) x9 (wrap64 (x10 + 1))) else (none))) else (none)) else (none)) else ((rf_trim.f k x3).bind fun t570 => (some t570))
def rf_half.f (k : Nat) (l0 : List Int) : Option (List Int) := if 0 ≤ (l0.length : Int) then (if ((l0.length : Int) : Int).toNat ≤ 35184372088832 then (rf_half.l0 k l0 (List.replicate ((l0.length : Int) : Int).toNat 0) (l0.length : Int) 0) else (none)) else (none)
theorem rf_half.mono_l : ∀ k, (∀ y0 y1 y2 y3, LeO (rf_half.l0 k y0 y1 y2 y3) (rf_half.l0 (k + 1) y0 y1 y2 y3))
 | 0 => fun _ _ _ _ r h => by simp [rf_half.l0] at h
 | k + 1 => by
  have ih0 := rf_half.mono_l k
  ·intro y0 y1 y2 y3
   unfold rf_half.l0
   have m0 := ih0
   have m1 := @rf_trim.mono
   exact zm
theorem rf_half.mono : ∀ a0 k, LeO (rf_half.f k a0) (rf_half.f (k + 1) a0) := by
 intro a0 k
 have ih0 := rf_half.mono_l k
 unfold rf_half.f
 have m0 := ih0
 have m1 := @rf_trim.mono
 exact zm
def rf_half.T5 : Bool × List (List Nat × List Nat) := (true, [([], []), ([], []), ([], []), ([], []), ([2, 3], [2, 3]), ([4], [4]), ([5], [5]), ([], []), ([], []), ([8], [8]), ([7, 9], [7, 9]), ([10], [10]), ([11], [11]), ([6, 12], [6, 12]), ([0, 1, 0, 1, 2, 3, 4, 5, 6, 7, 8, 9, 10, 11, 12, 13], [0, 1]), ([14, 13, 10, 0, 1, 2, 3, 4, 5, 6, 7, 8, 9, 10, 11, 12, 13], [13, 14])])
def rf_half.B5 : List Nat := [0, 0, 0, 0, 12, 28, 60, 0, 0, 256, 896, 1920, 3968, 8188, 16383, 32767]
theorem rf_half.tab5 : rtab .any (opsOf Tryd.f99 5) = rf_half.T5 := by kernel_rfl
theorem rf_half.bits5 : waitsOk rf_half.T5.2 rf_half.B5 = true := by kernel_rfl
set_option maxHeartbeats 8000000 in
set_option maxRecDepth 100000 in
theorem rf_half.calls (k : Nat) (A0 : Option Addr) (c0 : Nat) (l0 : List Int) (r : List Int) (w : World) (hr0 : Kd.C (Kd.int .i64) w A0 l0.length l0) (hc0 : l0.length ≤ c0) (h : rf_half.f k l0 = some r) :
  Calls Tryd.prog 99 #[.slice A0 l0.length c0] w fun e w' => ∃ v0_ : Value, e = .returned (v0_) ∧ Kd.V (Kd.int .i64) 3 w' w.heap.size (fun k_ => (w.heap.size ≤ k_)) v0_ r ∧ Below w.heap.size w w' := by
 have HR0 := am hr0
 have HC0 := am hc0
 clear hr0 hc0
 have HB := am (Below.refl w.heap.size w)
 have H := h
 unfold rf_half.f at H
 clear h
 replace H := zn H
 obtain ⟨c2, H⟩ := H
 have c2b0 := eq_true c2
 have c2b1 := decide_eq_true c2
 clear c2
 replace H := zn H
 obtain ⟨c3, H⟩ := H
 have c3b0 := eq_true c3
 have c3b1 := decide_eq_true c3
 clear c3
 obtain ⟨y564, hy564⟩ : ∃ y_ : List Int, y_ = (List.replicate ((l0.length : Int) : Int).toNat 0) := ⟨_, rfl⟩
 try rw [← hy564] at H
 have Ny564 := am hy564
 clear hy564
 have H' := am H
 clear H
 go_enter Tryd.func99, Tryd.ntmps99
 go_wp2_with (first | ((with_reducible refine gate_dst (N := 7) rfl ?_); refine Kd.R_make (Kd.int .i64) _ 3 rfl (N := 7) rfl 39 _ _ rfl (l0.length : Int) rfl rfl Tryd.underlying39 (.int .i64 0) 8 info3 rfl (by decide) (by omega) 0 (ok := fun _ => True) (okp := fun _ => True) rfl (fun _ hk => hk) trivial zq6 (Nat.le_trans (Nat.mul_le_mul_right _ (zq6 : (l0.length : Int).toNat ≤ 35184372088832)) (by omega)) (Below.refl _ _) (Nat.le_refl _) ?_; intro v565 w4 ho5 hb hg_ hnew_; clear hg_ hnew_; (first | rw [← Ny564.out] at ho5 | (simp only [Int.reduceToNat] at ho5; rw [← Ny564.out] at ho5)); refine zt2 (Kd.R_lower (Kd.R_newM (M := fun k_ => (w.heap.size ≤ k_)) ho5 (below_size zq1) (fun k_ h_ => h_)) (below_size zq1)) (below_step zq1 hb) ?_; clear HB; intro HO566 HB; clear hb ho5))
 go_loopg [10] k (fun kq v10 w' => ∃ (x3_1 : List Int) (x10_1 : Int), v10 = .int .i64 x10_1 ∧ Aside0 (rf_half.l0 kq l0 x3_1 (l0.length : Int) x10_1 = some r) ∧ Aside0 (kq ≤ k) ∧ Aside0 (Kd.R (Kd.int .i64) 3 w' w.heap.size (fun k_ => (w.heap.size ≤ k_)) v565 x3_1) ∧ Aside0 (Below w.heap.size w w'))
 case atStart => exact ⟨(y564), (0), zq8, H', ⟨Nat.le_refl _⟩, ⟨zwR (h := by exact Kd.R_mono HO566.out (fun _ hk => hk.1))⟩, ⟨zq1⟩⟩
 case round =>
  clear H'
  obtain ⟨x3_1, x10_1, rfl, HA, HK1, HO_3, HB⟩ := hrel
  cases gk with
  | zero => exact absurd HA.out (by simp [rf_half.l0])
  | succ k1 =>
   have H := HA.out
   clear HA
   simp only [rf_half.l0] at H
   by_cases c6 : x10_1 < (l0.length : Int)
   ·rw [if_pos c6] at H
    have c6b0 := decide_eq_true c6
    clear c6
    replace H := zn H
    obtain ⟨c7, H⟩ := H
    have c7b0 := decide_eq_true c7
    clear c7
    replace H := zn H
    obtain ⟨c8, H⟩ := H
    have c8b0 := decide_eq_true c8
    clear c8
    replace H := zj H
    obtain ⟨t568, A9, H⟩ := H
    replace H := zn H
    obtain ⟨c10, H⟩ := H
    have c10b0 := decide_eq_true c10
    clear c10
    obtain ⟨y569, hy569⟩ : ∃ y_ : List Int, y_ = (x3_1.set (x10_1 : Int).toNat (Go.bits .or .i64 ((rd l0 x10_1) / 2) (wrap64 ((Go.bits .and .i64 t568 1) * 32768)))) := ⟨_, rfl⟩
    try rw [← hy569] at H
    have Ny569 := am hy569
    clear hy569
    have H' := am H
    clear H
    try go_wp2
    refine zt2 (Kd.R_drew HO_3.out) (below_drew1 HB.out) ?_
    clear HO_3 HB
    intro HO_3 HB
    have p567 : 0 ≤ (x10_1 : Int) := zq6
    have q567 : x10_1 < (l0.length : Int) := zq6
    obtain ⟨ad567, e567, hx567_0⟩ := Kd.at_int HR0.out x10_1 p567 q567
    have hw567_0 := hx567_0
    cases e567
    replace hx567_0 := (HB.out.cell (World.block_lt_of_cell? w _ hx567_0)).trans hx567_0
    replace p567 := eq_true p567
    replace q567 := eq_true q567
    refine start_ (n := 16) (S := fun w' => w'.cell? (ad567.add (x10_1).toNat) = some (.int .i64 (rd l0 x10_1))) (ds := [15]) #[false, false, false, false, false, false, false, false, false, false, false, false, false, false, false, false] (by kernel_rfl) rfl rfl (((HB.out.cell (World.block_lt_of_cell? w _ hw567_0)).trans hw567_0)) (fun hHeld => ?_); refine with_tabW rf_half.tab5 rf_half.bits5 (fun HT_ HW_ => ?_)
    generalize wr.drew = w12 at HO_3 HB hx567_0 hHeld ⊢
    refine pz_ (i := 0) (N := some 13) (zmt 16 [0]) ?_
    refine pz_ (i := 1) (N := some 14) (zmt 16 [0, 1]) ?_
    refine pz_ (i := 2) (N := some 15) (zmt 16 [0, 1, 2]) ?_
    refine pz_ (i := 3) (N := some 16) (zmt 16 [0, 1, 2, 3]) ?_
    refine pz_ (i := 4) (N := some 17) (zmt 16 [0, 1, 2, 3, 4]) ?_
    refine pz_ (i := 7) (N := some 20) (zmt 16 [0, 1, 2, 3, 4, 7]) ?_
    refine pz_ (i := 8) (N := some 21) (zmt 16 [0, 1, 2, 3, 4, 7, 8]) ?_
    refine pz_ (i := 9) (N := some 22) (zmt 16 [0, 1, 2, 3, 4, 7, 8, 9]) ?_
    refine tz1 (i := 5) (N := some 18) (zmf 16 [6, 10, 11, 12, 13, 14, 15]) ?_
    refine pz_ (i := 6) (N := some 19) (zmf 16 [10, 11, 12, 13, 14, 15]) ?_
    refine one_ (i := 10) (N := some 23) (zmf 16 [11, 12, 13, 14, 15]) rfl rfl (one_of HT_.out (by kernel_rfl)) (by decide) (fun K hK => ?_)
    refine goes_ Tryd.func97 (by kernel_rfl) rfl #[.slice (some ad567) l0.length c0, .int .i64 (wrap64 (x10_1 + 1))] (by rfl) rfl rfl zq5 ?_
    with_reducible refine (rf_digit.calls _ _ l0 (wrap64 (x10_1 + 1)) t568 _ ?side1 ?side2 A9.out).mono ?_
    (case side1 => exact zc (Kd.C_below HR0.out HB.out))
    (case side2 => exact HC0.out)
    rintro e w' ⟨rfl, ⟨nd, rfl⟩⟩
    refine ⟨_, rfl, ?_⟩
    have p11 : 0 ≤ (x10_1 : Int) := zq6
    have q11 : (x10_1 : Int) < ((x3_1.length : Int) : Int) := zq6
    obtain ⟨go11, co11, eo11, gb11, gl11, cl11, HG11⟩ := Kd.R_form HO_3.out (by omega)
    (first | cases eo11 | (injection eo11 with ea_ en_ ec_; (first | subst ea_ | (injection ea_ with ea_; subst ea_)); subst ec_; clear en_))
    have GB11 := am gb11
    have GG11 := am HG11
    clear gb11 gl11 HG11
    obtain ⟨hx11_0, hf11_0⟩ := Kd.R_celln 0 HO_3.out (x10_1 : Int) p11 q11
    replace p11 := eq_true p11
    replace q11 := eq_true q11
    have HP13 := Kd.R_putn HO_3.out (x10_1 : Int) (Go.bits .or .i64 ((rd l0 x10_1) / 2) (wrap64 ((Go.bits .and .i64 t568 1) * 32768)))
    rw [← Ny569.out] at HP13
    have HQ13 := am HP13
    clear HP13
    refine hK.out _ _ (((HB.out.cell (World.block_lt_of_cell? w _ hw567_0)).trans hw567_0)) (fun hHeld => ?_)
    clear hK K
    refine nz_ (N := (some 23)) ?_
    refine pz_ (i := 11) (N := some 24) (zmf 16 [12, 13, 14, 15]) ?_
    refine pz_ (i := 12) (N := some 25) (zmf 16 [13, 14, 15]) ?_
    refine pz_ (i := 13) (N := some 26) (zmf 16 [14, 15]) ?_
    refine pz_ (i := 14) (N := some 27) (zmf 16 [15]) ?_
    refine last_ (i := 15) (N := none) (zmf 16 []) rfl rfl (one_of HT_.out (by kernel_rfl)) (by decide) (fun K hK => ?_)
    refine skip_ (w1 := ?_) (by rfl) rfl ?_ ?_
    rotate_left
    ·go_simp
     rfl
    refine hK.out _ _ ?_
    clear hK K
    refine done_ (done_of HT_.out (by kernel_rfl)) ?_
    try go_wp2
    go_roundg k1
    case measure => have := HK1.out; omega
    case rel => exact ⟨(y569), (wrap64 (x10_1 + 1)), zq8, H', ⟨by have := HK1.out; omega⟩, ⟨zq4 HQ13.out⟩, ⟨zb1 GB11.out⟩⟩
   ·rw [if_neg c6] at H
    have c6b0 := decide_eq_false c6
    clear c6
    replace H := zj H
    obtain ⟨t570, A14, H⟩ := H
    obtain rfl := Option.some.inj H
    obtain ⟨Ao15, co15, eo15⟩ := Kd.R_slice HO_3.out
    subst eo15
    go_wp2_with (first | ((with_reducible refine gate_callee (f := 96) rfl ?_); refine goesL_ (some 30) rfl rfl Tryd.func96 (by kernel_rfl) rfl #[.slice Ao15 x3_1.length co15] rfl zq5 ?_; (with_reducible refine (rf_trim.calls k1 (fun k_ => some k_ = (.slice Ao15 x3_1.length co15 : Value).ownBlock) _ _ x3_1 t570 _ ?side1 A14.out).mono ?_); (case side1 => exact Kd.R_V (Kd.R_tight rfl (HO_3.out))); rintro e w16 ⟨v571, rfl, ho0, hb⟩; refine ⟨_, rfl, ?_⟩; refine zt3 (rb HO_3 hb) (Kd.V_lower (Kd.V_mono (ok' := fun k_ => (w.heap.size ≤ k_)) ho0 (fun k_ hk_ => Or.elim hk_ (fun hs_ => ((HO_3.out).1 k_ hs_.symm)) (fun hn_ => (Nat.le_trans (below_size zq1) hn_)))) (below_size zq1)) (below_step zq1 hb) ?_; clear HO_3 HB; intro HO_3 HO572 HB))
    go_ret
    exact ⟨_, zq9, zq3 HO572.out, zq1⟩
mutual
def rf_GcdNat.l0 : Nat → List Int → List Int → Int → Option (List Int)
 | 0, _, _, _ => none
 | k + 1, x0, x1, x5 => (rf_bit.f x0 0).bind fun t573 => (if t573 = 0 then ((rf_bit.f x1 0).bind fun t574 => (rf_GcdNat.j1 k x0 x1 x5 (t574 == 0))) else (rf_GcdNat.j1 k x0 x1 x5 false))
def rf_GcdNat.j1 : Nat → List Int → List Int → Int → Bool → Option (List Int)
 | 0, _, _, _, _ => none
 | k + 1, x0, x1, x5, x22 => if x22 = true then ((rf_half.f k x0).bind fun t575 => ((rf_half.f k x1).bind fun t578 => (rf_GcdNat.l0 k t575 t578 (wrap64 (x5 + 1))))) else (rf_GcdNat.l1 k x0 x1 x5)
def rf_GcdNat.l1 : Nat → List Int → List Int → Int → Option (List Int)
 | 0, _, _, _ => none
 | k + 1, x0, x1, x5 => if (x0.length : Int) > 0 then (rf_GcdNat.l2 k x0 x1 x5) else ((rf_ShlNat.f k x1 x5).bind fun t581 => (some t581))
def rf_GcdNat.l2 : Nat → List Int → List Int → Int → Option (List Int)
 | 0, _, _, _ => none
 | k + 1, x0, x1, x5 => (rf_bit.f x0 0).bind fun t584 => (if t584 = 0 then ((rf_half.f k x0).bind fun t585 => (rf_GcdNat.l2 k t585 x1 x5)) else (rf_GcdNat.l3 k x0 x1 x5))
def rf_GcdNat.l3 : Nat → List Int → List Int → Int → Option (List Int)
 | 0, _, _, _ => none
 | k + 1, x0, x1, x5 => (rf_bit.f x1 0).bind fun t588 => (if t588 = 0 then ((rf_half.f k x1).bind fun t589 => (rf_GcdNat.l3 k x0 t589 x5)) else ((rf_CmpNat.f k x0 x1).bind fun t592 => (if t592 < 0 then ((rf_SubNat.f k x1 x0).bind fun t593 => (rf_GcdNat.l1 k t593 x0 x5)) else ((rf_SubNat.f k x0 x1).bind fun t596 => (rf_GcdNat.l1 k t596 x1 x5)))))
end
def rf_GcdNat.f (k : Nat) (l0 : List Int) (l1 : List Int) : Option (List Int) := if (l0.length : Int) = 0 then (some l1) else (if (l1.length : Int) = 0 then (some l0) else (rf_GcdNat.l0 k l0 l1 0))
theorem rf_GcdNat.mono_l : ∀ k, (∀ y0 y1 y2, LeO (rf_GcdNat.l0 k y0 y1 y2) (rf_GcdNat.l0 (k + 1) y0 y1 y2)) ∧ (∀ y0 y1 y2 y3, LeO (rf_GcdNat.j1 k y0 y1 y2 y3) (rf_GcdNat.j1 (k + 1) y0 y1 y2 y3)) ∧ (∀ y0 y1 y2, LeO (rf_GcdNat.l1 k y0 y1 y2) (rf_GcdNat.l1 (k + 1) y0 y1 y2)) ∧ (∀ y0 y1 y2, LeO (rf_GcdNat.l2 k y0 y1 y2) (rf_GcdNat.l2 (k + 1) y0 y1 y2)) ∧ (∀ y0 y1 y2, LeO (rf_GcdNat.l3 k y0 y1 y2) (rf_GcdNat.l3 (k + 1) y0 y1 y2))
 | 0 => ⟨fun _ _ _ r h => by simp [rf_GcdNat.l0] at h, fun _ _ _ _ r h => by simp [rf_GcdNat.j1] at h, fun _ _ _ r h => by simp [rf_GcdNat.l1] at h, fun _ _ _ r h => by simp [rf_GcdNat.l2] at h, fun _ _ _ r h => by simp [rf_GcdNat.l3] at h⟩
 | k + 1 => by
  obtain ⟨ih0, ih1, ih2, ih3, ih4⟩ := rf_GcdNat.mono_l k
  refine ⟨?_, ?_, ?_, ?_, ?_⟩
  ·intro y0 y1 y2
   unfold rf_GcdNat.l0
   repeat' first
   | (with_reducible exact ih0 _ _ _)
   | (with_reducible exact ih1 _ _ _ _)
   | (with_reducible exact ih2 _ _ _)
   | (with_reducible exact ih3 _ _ _)
   | (with_reducible exact ih4 _ _ _)
   | (with_reducible exact rf_CmpNat.mono _ _ _)
   | (with_reducible exact rf_ShlNat.mono _ _ _)
   | (with_reducible exact rf_SubNat.mono _ _ _)
   | (with_reducible exact rf_half.mono _ _)
   | (with_reducible exact LeO.refl _)
   | (with_reducible exact LeO.none _)
   | (with_reducible refine LeO.ite ?_ ?_)
   | (with_reducible refine LeO.bind ?_ (fun _ => ?_))
   | exact ih0 _ _ _
   | exact ih1 _ _ _ _
   | exact ih2 _ _ _
   | exact ih3 _ _ _
   | exact ih4 _ _ _
   | exact rf_CmpNat.mono _ _ _
   | exact rf_ShlNat.mono _ _ _
   | exact rf_SubNat.mono _ _ _
   | exact rf_half.mono _ _
   | exact LeO.none _
   | refine LeO.ite ?_ ?_
   | refine LeO.bind ?_ (fun _ => ?_)
  ·intro y0 y1 y2 y3
   unfold rf_GcdNat.j1
   repeat' first
   | (with_reducible exact ih0 _ _ _)
   | (with_reducible exact ih1 _ _ _ _)
   | (with_reducible exact ih2 _ _ _)
   | (with_reducible exact ih3 _ _ _)
   | (with_reducible exact ih4 _ _ _)
   | (with_reducible exact rf_CmpNat.mono _ _ _)
   | (with_reducible exact rf_ShlNat.mono _ _ _)
   | (with_reducible exact rf_SubNat.mono _ _ _)
   | (with_reducible exact rf_half.mono _ _)
   | (with_reducible exact LeO.refl _)
   | (with_reducible exact LeO.none _)
   | (with_reducible refine LeO.ite ?_ ?_)
   | (with_reducible refine LeO.bind ?_ (fun _ => ?_))
   | exact ih0 _ _ _
   | exact ih1 _ _ _ _
   | exact ih2 _ _ _
   | exact ih3 _ _ _
   | exact ih4 _ _ _
   | exact rf_CmpNat.mono _ _ _
   | exact rf_ShlNat.mono _ _ _
   | exact rf_SubNat.mono _ _ _
   | exact rf_half.mono _ _
   | exact LeO.none _
   | refine LeO.ite ?_ ?_
   | refine LeO.bind ?_ (fun _ => ?_)
  ·intro y0 y1 y2
   unfold rf_GcdNat.l1
   repeat' first
   | (with_reducible exact ih0 _ _ _)
   | (with_reducible exact ih1 _ _ _ _)
   | (with_reducible exact ih2 _ _ _)
   | (with_reducible exact ih3 _ _ _)
   | (with_reducible exact ih4 _ _ _)
   | (with_reducible exact rf_CmpNat.mono _ _ _)
   | (with_reducible exact rf_ShlNat.mono _ _ _)
   | (with_reducible exact rf_SubNat.mono _ _ _)
   | (with_reducible exact rf_half.mono _ _)
   | (with_reducible exact LeO.refl _)
   | (with_reducible exact LeO.none _)
   | (with_reducible refine LeO.ite ?_ ?_)
   | (with_reducible refine LeO.bind ?_ (fun _ => ?_))
   | exact ih0 _ _ _
   | exact ih1 _ _ _ _
   | exact ih2 _ _ _
   | exact ih3 _ _ _
   | exact ih4 _ _ _
   | exact rf_CmpNat.mono _ _ _
   | exact rf_ShlNat.mono _ _ _
   | exact rf_SubNat.mono _ _ _
   | exact rf_half.mono _ _
   | exact LeO.none _
   | refine LeO.ite ?_ ?_
   | refine LeO.bind ?_ (fun _ => ?_)
  ·intro y0 y1 y2
   unfold rf_GcdNat.l2
   repeat' first
   | (with_reducible exact ih0 _ _ _)
   | (with_reducible exact ih1 _ _ _ _)
   | (with_reducible exact ih2 _ _ _)
   | (with_reducible exact ih3 _ _ _)
   | (with_reducible exact ih4 _ _ _)
   | (with_reducible exact rf_CmpNat.mono _ _ _)
   | (with_reducible exact rf_ShlNat.mono _ _ _)
   | (with_reducible exact rf_SubNat.mono _ _ _)
   | (with_reducible exact rf_half.mono _ _)
   | (with_reducible exact LeO.refl _)
   | (with_reducible exact LeO.none _)
   | (with_reducible refine LeO.ite ?_ ?_)
   | (with_reducible refine LeO.bind ?_ (fun _ => ?_))
   | exact ih0 _ _ _
   | exact ih1 _ _ _ _
   | exact ih2 _ _ _
   | exact ih3 _ _ _
   | exact ih4 _ _ _
   | exact rf_CmpNat.mono _ _ _
   | exact rf_ShlNat.mono _ _ _
   | exact rf_SubNat.mono _ _ _
   | exact rf_half.mono _ _
   | exact LeO.none _
   | refine LeO.ite ?_ ?_
   | refine LeO.bind ?_ (fun _ => ?_)
  ·intro y0 y1 y2
   unfold rf_GcdNat.l3
   repeat' first
   | (with_reducible exact ih0 _ _ _)
   | (with_reducible exact ih1 _ _ _ _)
   | (with_reducible exact ih2 _ _ _)
   | (with_reducible exact ih3 _ _ _)
   | (with_reducible exact ih4 _ _ _)
   | (with_reducible exact rf_CmpNat.mono _ _ _)
   | (with_reducible exact rf_ShlNat.mono _ _ _)
   | (with_reducible exact rf_SubNat.mono _ _ _)
   | (with_reducible exact rf_half.mono _ _)
   | (with_reducible exact LeO.refl _)
   | (with_reducible exact LeO.none _)
   | (with_reducible refine LeO.ite ?_ ?_)
   | (with_reducible refine LeO.bind ?_ (fun _ => ?_))
   | exact ih0 _ _ _
   | exact ih1 _ _ _ _
   | exact ih2 _ _ _
   | exact ih3 _ _ _
   | exact ih4 _ _ _
   | exact rf_CmpNat.mono _ _ _
   | exact rf_ShlNat.mono _ _ _
   | exact rf_SubNat.mono _ _ _
   | exact rf_half.mono _ _
   | exact LeO.none _
   | refine LeO.ite ?_ ?_
   | refine LeO.bind ?_ (fun _ => ?_)
theorem rf_GcdNat.mono : ∀ a0 a1 k, LeO (rf_GcdNat.f k a0 a1) (rf_GcdNat.f (k + 1) a0 a1) := by
 intro a0 a1 k
 obtain ⟨ih0, ih1, ih2, ih3, ih4⟩ := rf_GcdNat.mono_l k
 unfold rf_GcdNat.f
 repeat' first
   | (with_reducible exact ih0 _ _ _)
   | (with_reducible exact ih1 _ _ _ _)
   | (with_reducible exact ih2 _ _ _)
   | (with_reducible exact ih3 _ _ _)
   | (with_reducible exact ih4 _ _ _)
   | (with_reducible exact rf_CmpNat.mono _ _ _)
   | (with_reducible exact rf_ShlNat.mono _ _ _)
   | (with_reducible exact rf_SubNat.mono _ _ _)
   | (with_reducible exact rf_half.mono _ _)
   | (with_reducible exact LeO.refl _)
   | (with_reducible exact LeO.none _)
   | (with_reducible refine LeO.ite ?_ ?_)
   | (with_reducible refine LeO.bind ?_ (fun _ => ?_))
   | exact ih0 _ _ _
   | exact ih1 _ _ _ _
   | exact ih2 _ _ _
   | exact ih3 _ _ _
   | exact ih4 _ _ _
   | exact rf_CmpNat.mono _ _ _
   | exact rf_ShlNat.mono _ _ _
   | exact rf_SubNat.mono _ _ _
   | exact rf_half.mono _ _
   | exact LeO.none _
   | refine LeO.ite ?_ ?_
   | refine LeO.bind ?_ (fun _ => ?_)
set_option maxHeartbeats 8000000 in
set_option maxRecDepth 100000 in
theorem rf_GcdNat.calls (k : Nat) (P0_ : Nat → Prop) (A0 : Option Addr) (c0 : Nat) (l0 : List Int) (P1_ : Nat → Prop) (A1 : Option Addr) (c1 : Nat) (l1 : List Int) (r : List Int) (w : World) (hs0 : Kd.V (Kd.int .i64) 3 w w.heap.size (fun k_ => P0_ k_) (.slice A0 l0.length c0) l0) (hs1 : Kd.V (Kd.int .i64) 3 w w.heap.size (fun k_ => P1_ k_) (.slice A1 l1.length c1) l1) (h : rf_GcdNat.f k l0 l1 = some r) :
  Calls Tryd.prog 47 #[.slice A0 l0.length c0, .slice A1 l1.length c1] w fun e w' => ∃ v0_ : Value, e = .returned (v0_) ∧ Kd.V (Kd.int .i64) 3 w' w.heap.size (fun k_ => ((P0_ k_ ∨ P1_ k_) ∨ w.heap.size ≤ k_)) v0_ r ∧ Below w.heap.size w w' := by
 have HO0 := am (show Kd.V (Kd.int .i64) 3 w w.heap.size (fun k_ => ((P0_ k_ ∨ P1_ k_) ∨ w.heap.size ≤ k_)) (.slice A0 l0.length c0) l0 from Kd.V_mono hs0 (fun k_ hk => .inl (.inl hk)))
 have HO1 := am (show Kd.V (Kd.int .i64) 3 w w.heap.size (fun k_ => ((P0_ k_ ∨ P1_ k_) ∨ w.heap.size ≤ k_)) (.slice A1 l1.length c1) l1 from Kd.V_mono hs1 (fun k_ hk => .inl (.inr hk)))
 have HB := am (Below.refl w.heap.size w)
 have H := h
 unfold rf_GcdNat.f at H
 clear h
 by_cases c3 : (l0.length : Int) = 0
 ·rw [if_pos c3] at H
  have c3b0 : ((l0.length : Int) == 0) = true := beq_iff_eq.mpr c3
  have c3b1 : ((l0.length : Int) != 0) = false := bne_eq_false_iff_eq.mpr c3
  clear c3
  obtain rfl := Option.some.inj H
  go_enter Tryd.func47, Tryd.ntmps47
  go_wp2
  go_ret
  exact ⟨_, zq9, zq3 HO1.out, zq1⟩
 ·rw [if_neg c3] at H
  have c3b0 : ((l0.length : Int) == 0) = false := beq_eq_false_iff_ne.mpr c3
  have c3b1 : ((l0.length : Int) != 0) = true := bne_iff_ne.mpr c3
  have c3b2 : ¬ (l0 = []) := fun h_ => c3 (by rw [h_]; rfl)
  by_cases c4 : (l1.length : Int) = 0
  ·rw [if_pos c4] at H
   have c4b0 : ((l1.length : Int) == 0) = true := beq_iff_eq.mpr c4
   have c4b1 : ((l1.length : Int) != 0) = false := bne_eq_false_iff_eq.mpr c4
   clear c4
   obtain rfl := Option.some.inj H
   go_enter Tryd.func47, Tryd.ntmps47
   go_wp2
   go_ret
   exact ⟨_, zq9, zq3 HO0.out, zq1⟩
  ·rw [if_neg c4] at H
   have c4b0 : ((l1.length : Int) == 0) = false := beq_eq_false_iff_ne.mpr c4
   have c4b1 : ((l1.length : Int) != 0) = true := bne_iff_ne.mpr c4
   have c4b2 : ¬ (l1 = []) := fun h_ => c4 (by rw [h_]; rfl)
   have H' := am H
   clear H
   go_enter Tryd.func47, Tryd.ntmps47
   go_wp2
   go_loopg [0, 1, 5] k (fun kq v0 v1 v5 w' => ∃ (x0_1 : List Int) (x1_1 : List Int) (x5_1 : Int), v5 = .int .i64 x5_1 ∧ Aside0 (rf_GcdNat.l0 kq x0_1 x1_1 x5_1 = some r) ∧ Aside0 (kq ≤ k) ∧ Aside0 (Kd.V (Kd.int .i64) 3 w' w.heap.size (fun k_ => ((P0_ k_ ∨ P1_ k_) ∨ w.heap.size ≤ k_)) v0 x0_1) ∧ Aside0 (Kd.V (Kd.int .i64) 3 w' w.heap.size (fun k_ => ((P0_ k_ ∨ P1_ k_) ∨ w.heap.size ≤ k_)) v1 x1_1) ∧ Aside0 (Below w.heap.size w w'))
   case atStart => exact ⟨(l0), (l1), (0), zq8, H', ⟨Nat.le_refl _⟩, ⟨zq3 HO0.out⟩, ⟨zq3 HO1.out⟩, ⟨zq1⟩⟩
   case round =>
    clear H'
    obtain ⟨x0_1, x1_1, x5_1, rfl, HA, HK1, HO_0, HO_1, HB⟩ := hrel
    cases gk with
    | zero => exact absurd HA.out (by simp [rf_GcdNat.l0])
    | succ k1 =>
     have H := HA.out
     clear HA
     simp only [rf_GcdNat.l0] at H
     have HC5 := am H
     clear H
     go_upto_region 6 with (fail)
     go_cut [22] (fun v22 wc => ∃ (kq : Nat) (x22_4 : Bool), v22 = .bool x22_4 ∧ Aside0 (rf_GcdNat.j1 kq x0_1 x1_1 x5_1 x22_4 = some r) ∧ Aside0 (kq ≤ k1) ∧ Aside0 (Kd.V (Kd.int .i64) 3 wc w.heap.size (fun k_ => ((P0_ k_ ∨ P1_ k_) ∨ w.heap.size ≤ k_)) u0 x0_1) ∧ Aside0 (Kd.V (Kd.int .i64) 3 wc w.heap.size (fun k_ => ((P0_ k_ ∨ P1_ k_) ∨ w.heap.size ≤ k_)) u1 x1_1) ∧ Aside0 (Below w.heap.size w wc))
     case first =>
      have H := HC5.out
      clear HC5
      replace H := zj H
      obtain ⟨t573, A6, H⟩ := H
      by_cases c7 : t573 = 0
      ·rw [if_pos c7] at H
       have c7b0 : (t573 == 0) = true := beq_iff_eq.mpr c7
       have c7b1 : (t573 != 0) = false := bne_eq_false_iff_eq.mpr c7
       clear c7
       (first | rw [c7b0] | (simp only [i64_w, i32_w]; rw [c7b0]) | skip)
       replace H := zj H
       obtain ⟨t574, A8, H⟩ := H
       have H' := am H
       clear H
       obtain ⟨Ao9, co9, eo9⟩ := Kd.V_slice HO_0.out
       subst eo9
       go_wp2_with (first | ((with_reducible refine gate_callee (f := 98) rfl ?_); refine goesL_ (some 16) rfl rfl Tryd.func98 (by kernel_rfl) rfl #[.slice Ao9 x0_1.length co9, .int .i64 0] rfl zq5 ?_; (with_reducible refine (rf_bit.calls _ _ x0_1 0 t573 _ ?side1 ?side2 A6.out).mono ?_); (case side1 => exact zc ((Kd.V_reads' HO_0.out).2.2)); (case side2 => exact (Kd.V_reads' HO_0.out).2.1); rintro e w' ⟨rfl, ⟨nd, rfl⟩⟩; refine ⟨_, rfl, ?_⟩; obtain ⟨Ao10, co10, eo10⟩ := Kd.V_slice HO_1.out; subst eo10) | (go_at_call 98; (with_reducible refine (rf_bit.calls _ _ x1_1 0 t574 _ ?side1 ?side2 A8.out).mono ?_); (case side1 => exact zc ((Kd.V_reads' HO_1.out).2.2)); (case side2 => exact (Kd.V_reads' HO_1.out).2.1); rintro e w' ⟨rfl, ⟨nd, rfl⟩⟩))
       go_meet
       case rel => exact ⟨_, ((t574 == 0)), zq8, H', ⟨by have := HK1.out; first | omega | exact Nat.le_refl _⟩, ⟨zq3 HO_0.out⟩, ⟨zq3 HO_1.out⟩, ⟨zq1⟩⟩
      ·rw [if_neg c7] at H
       have c7b0 : (t573 == 0) = false := beq_eq_false_iff_ne.mpr c7
       have c7b1 : (t573 != 0) = true := bne_iff_ne.mpr c7
       (first | rw [c7b0] | (simp only [i64_w, i32_w]; rw [c7b0]) | skip)
       have H' := am H
       clear H
       obtain ⟨Ao11, co11, eo11⟩ := Kd.V_slice HO_0.out
       subst eo11
       go_wp2_with (first | ((with_reducible refine gate_callee (f := 98) rfl ?_); refine goesL_ (some 16) rfl rfl Tryd.func98 (by kernel_rfl) rfl #[.slice Ao11 x0_1.length co11, .int .i64 0] rfl zq5 ?_; (with_reducible refine (rf_bit.calls _ _ x0_1 0 t573 _ ?side1 ?side2 A6.out).mono ?_); (case side1 => exact zc ((Kd.V_reads' HO_0.out).2.2)); (case side2 => exact (Kd.V_reads' HO_0.out).2.1); rintro e w' ⟨rfl, ⟨nd, rfl⟩⟩; refine ⟨_, rfl, ?_⟩))
       go_meet
       case rel => exact ⟨_, (false), zq8, H', ⟨by have := HK1.out; first | omega | exact Nat.le_refl _⟩, ⟨zq3 HO_0.out⟩, ⟨zq3 HO_1.out⟩, ⟨zq1⟩⟩
     case rest =>
      clear HC5
      obtain ⟨kq, x22_4, rfl, HA, HJ4, HO_0, HO_1, HB⟩ := hcut
      cases kq with
      | zero => exact absurd HA.out (by simp [rf_GcdNat.j1])
      | succ kj4 =>
       have H := HA.out
       clear HA
       simp only [rf_GcdNat.j1] at H
       by_cases c12 : x22_4 = true
       ·subst c12
        have H1 : ((rf_half.f kj4 x0_1).bind fun t575 => ((rf_half.f kj4 x1_1).bind fun t578 => (rf_GcdNat.l0 kj4 t575 t578 (wrap64 (x5_1 + 1))))) = some r := by rw [if_pos rfl] at H; exact H
        clear H
        have H := H1
        clear H1
        replace H := zj H
        obtain ⟨t575, A13, H⟩ := H
        replace H := zj H
        obtain ⟨t578, A14, H⟩ := H
        have H' := am H
        clear H
        obtain ⟨Ao15, co15, eo15⟩ := Kd.V_slice HO_0.out
        subst eo15
        go_wp2_with (first | ((with_reducible refine gate_callee (f := 99) rfl ?_); refine goesL_ (some 24) rfl rfl Tryd.func99 (by kernel_rfl) rfl #[.slice Ao15 x0_1.length co15] rfl zq5 ?_; (with_reducible refine (rf_half.calls kj4 _ _ x0_1 t575 _ ?side1 ?side2 A13.out).mono ?_); (case side1 => exact zc ((Kd.V_reads' HO_0.out).2.2)); (case side2 => exact (Kd.V_reads' HO_0.out).2.1); rintro e w16 ⟨v576, rfl, ho0, hb⟩; refine ⟨_, rfl, ?_⟩; refine zt4 (vb HO_0 hb) (vb HO_1 hb) (Kd.V_lower (Kd.V_mono (ok' := fun k_ => ((P0_ k_ ∨ P1_ k_) ∨ w.heap.size ≤ k_)) ho0 (fun k_ hk_ => (.inr (Nat.le_trans (below_size zq1) hk_)))) (below_size zq1)) (below_step zq1 hb) ?_; clear HO_0 HO_1 HB; intro HO_0 HO_1 HO577 HB; obtain ⟨Ao17, co17, eo17⟩ := Kd.V_slice HO_1.out; subst eo17) | ((with_reducible refine gate_callee (f := 99) rfl ?_); refine goesL_ (some 26) rfl rfl Tryd.func99 (by kernel_rfl) rfl #[.slice Ao17 x1_1.length co17] rfl zq5 ?_; (with_reducible refine (rf_half.calls kj4 _ _ x1_1 t578 _ ?side1 ?side2 A14.out).mono ?_); (case side1 => exact zc ((Kd.V_reads' HO_1.out).2.2)); (case side2 => exact (Kd.V_reads' HO_1.out).2.1); rintro e w18 ⟨v579, rfl, ho0, hb⟩; refine ⟨_, rfl, ?_⟩; refine zt5 (vb HO_0 hb) (vb HO_1 hb) (vb HO577 hb) (Kd.V_lower (Kd.V_mono (ok' := fun k_ => ((P0_ k_ ∨ P1_ k_) ∨ w.heap.size ≤ k_)) ho0 (fun k_ hk_ => (.inr (Nat.le_trans (below_size zq1) hk_)))) (below_size zq1)) (below_step zq1 hb) ?_; clear HO_0 HO_1 HO577 HB; intro HO_0 HO_1 HO577 HO580 HB))
        go_roundg kj4
        case measure => have := HK1.out; have := HJ4.out; omega
        case rel => exact ⟨(t575), (t578), (wrap64 (x5_1 + 1)), zq8, H', ⟨by have := HK1.out; have := HJ4.out; omega⟩, ⟨zq3 HO577.out⟩, ⟨zq3 HO580.out⟩, ⟨zq1⟩⟩
       ·replace c12 := Bool.eq_false_iff.mpr c12
        subst c12
        have H1 : (rf_GcdNat.l1 kj4 x0_1 x1_1 x5_1) = some r := by rw [if_neg (show ¬ (false = true) by decide)] at H; exact H
        clear H
        have H := H1
        clear H1
        have H' := am H
        clear H
        go_wp2
        go_loopg [0, 1] kj4 (fun kq v0 v1 w' => ∃ (x0_3 : List Int) (x1_3 : List Int), Aside0 (rf_GcdNat.l1 kq x0_3 x1_3 x5_1 = some r) ∧ Aside0 (kq ≤ kj4) ∧ Aside0 (Kd.V (Kd.int .i64) 3 w' w.heap.size (fun k_ => ((P0_ k_ ∨ P1_ k_) ∨ w.heap.size ≤ k_)) v0 x0_3) ∧ Aside0 (Kd.V (Kd.int .i64) 3 w' w.heap.size (fun k_ => ((P0_ k_ ∨ P1_ k_) ∨ w.heap.size ≤ k_)) v1 x1_3) ∧ Aside0 (Below w.heap.size w w'))
        case atStart => exact ⟨(x0_1), (x1_1), H', ⟨Nat.le_refl _⟩, ⟨zq3 HO_0.out⟩, ⟨zq3 HO_1.out⟩, ⟨zq1⟩⟩
        case round =>
         clear H'
         obtain ⟨x0_3, x1_3, HA, HK3, HO_0, HO_1, HB⟩ := hrel
         cases gk with
         | zero => exact absurd HA.out (by simp [rf_GcdNat.l1])
         | succ k3 =>
          have H := HA.out
          clear HA
          simp only [rf_GcdNat.l1] at H
          by_cases c19 : (x0_3.length : Int) > 0
          ·rw [if_pos c19] at H
           have c19b0 : decide (0 < (x0_3.length : Int)) = true := decide_eq_true c19
           have c19b1 : decide (0 < x0_3.length) = true := decide_eq_true (by omega)
           clear c19
           have H' := am H
           clear H
           obtain ⟨Ao20, co20, eo20⟩ := Kd.V_slice HO_0.out
           subst eo20
           go_wp2
           go_loopg [0] k3 (fun kq v0 w' => ∃ (x0_4 : List Int), Aside0 (rf_GcdNat.l2 kq x0_4 x1_3 x5_1 = some r) ∧ Aside0 (kq ≤ k3) ∧ Aside0 (Kd.V (Kd.int .i64) 3 w' w.heap.size (fun k_ => ((P0_ k_ ∨ P1_ k_) ∨ w.heap.size ≤ k_)) v0 x0_4) ∧ Aside0 (Kd.V (Kd.int .i64) 3 w' w.heap.size (fun k_ => ((P0_ k_ ∨ P1_ k_) ∨ w.heap.size ≤ k_)) u1 x1_3) ∧ Aside0 (Below w.heap.size w w'))
           case atStart => exact ⟨(x0_3), H', ⟨Nat.le_refl _⟩, ⟨zq3 HO_0.out⟩, ⟨zq3 HO_1.out⟩, ⟨zq1⟩⟩
           case round =>
            clear H'
            obtain ⟨x0_4, HA, HK4, HO_0, HO_1, HB⟩ := hrel
            cases gk with
            | zero => exact absurd HA.out (by simp [rf_GcdNat.l2])
            | succ k4 =>
             have H := HA.out
             clear HA
             simp only [rf_GcdNat.l2] at H
             replace H := zj H
             obtain ⟨t584, A21, H⟩ := H
             by_cases c22 : t584 = 0
             ·rw [if_pos c22] at H
              have c22b0 : (t584 == 0) = true := beq_iff_eq.mpr c22
              have c22b1 : (t584 != 0) = false := bne_eq_false_iff_eq.mpr c22
              clear c22
              replace H := zj H
              obtain ⟨t585, A23, H⟩ := H
              have H' := am H
              clear H
              obtain ⟨Ao24, co24, eo24⟩ := Kd.V_slice HO_0.out
              subst eo24
              go_wp2_with (first | ((with_reducible refine gate_callee (f := 98) rfl ?_); refine goesL_ (some 33) rfl rfl Tryd.func98 (by kernel_rfl) rfl #[.slice Ao24 x0_4.length co24, .int .i64 0] rfl zq5 ?_; (with_reducible refine (rf_bit.calls _ _ x0_4 0 t584 _ ?side1 ?side2 A21.out).mono ?_); (case side1 => exact zc ((Kd.V_reads' HO_0.out).2.2)); (case side2 => exact (Kd.V_reads' HO_0.out).2.1); rintro e w' ⟨rfl, ⟨nd, rfl⟩⟩; refine ⟨_, rfl, ?_⟩) | ((with_reducible refine gate_callee (f := 99) rfl ?_); refine goesL_ (some 36) rfl rfl Tryd.func99 (by kernel_rfl) rfl #[.slice Ao24 x0_4.length co24] rfl zq5 ?_; (with_reducible refine (rf_half.calls k4 _ _ x0_4 t585 _ ?side1 ?side2 A23.out).mono ?_); (case side1 => exact zc ((Kd.V_reads' HO_0.out).2.2)); (case side2 => exact (Kd.V_reads' HO_0.out).2.1); rintro e w25 ⟨v586, rfl, ho0, hb⟩; refine ⟨_, rfl, ?_⟩; refine zt4 (vb HO_0 hb) (vb HO_1 hb) (Kd.V_lower (Kd.V_mono (ok' := fun k_ => ((P0_ k_ ∨ P1_ k_) ∨ w.heap.size ≤ k_)) ho0 (fun k_ hk_ => (.inr (Nat.le_trans (below_size zq1) hk_)))) (below_size zq1)) (below_step zq1 hb) ?_; clear HO_0 HO_1 HB; intro HO_0 HO_1 HO587 HB))
              go_roundg k4
              case measure => have := HK1.out; have := HJ4.out; have := HK3.out; have := HK4.out; omega
              case rel => exact ⟨(t585), H', ⟨by have := HK1.out; have := HJ4.out; have := HK3.out; have := HK4.out; omega⟩, ⟨zq3 HO587.out⟩, ⟨zq3 HO_1.out⟩, ⟨zq1⟩⟩
             ·rw [if_neg c22] at H
              have c22b0 : (t584 == 0) = false := beq_eq_false_iff_ne.mpr c22
              have c22b1 : (t584 != 0) = true := bne_iff_ne.mpr c22
              have H' := am H
              clear H
              obtain ⟨Ao26, co26, eo26⟩ := Kd.V_slice HO_0.out
              subst eo26
              go_wp2_with (first | ((with_reducible refine gate_callee (f := 98) rfl ?_); refine goesL_ (some 33) rfl rfl Tryd.func98 (by kernel_rfl) rfl #[.slice Ao26 x0_4.length co26, .int .i64 0] rfl zq5 ?_; (with_reducible refine (rf_bit.calls _ _ x0_4 0 t584 _ ?side1 ?side2 A21.out).mono ?_); (case side1 => exact zc ((Kd.V_reads' HO_0.out).2.2)); (case side2 => exact (Kd.V_reads' HO_0.out).2.1); rintro e w' ⟨rfl, ⟨nd, rfl⟩⟩; refine ⟨_, rfl, ?_⟩))
              go_loopg [1] k4 (fun kq v1 w' => ∃ (x1_5 : List Int), Aside0 (rf_GcdNat.l3 kq x0_4 x1_5 x5_1 = some r) ∧ Aside0 (kq ≤ k4) ∧ Aside0 (Kd.V (Kd.int .i64) 3 w' w.heap.size (fun k_ => ((P0_ k_ ∨ P1_ k_) ∨ w.heap.size ≤ k_)) (.slice Ao26 x0_4.length co26) x0_4) ∧ Aside0 (Kd.V (Kd.int .i64) 3 w' w.heap.size (fun k_ => ((P0_ k_ ∨ P1_ k_) ∨ w.heap.size ≤ k_)) v1 x1_5) ∧ Aside0 (Below w.heap.size w w'))
              case atStart => exact ⟨(x1_3), H', ⟨Nat.le_refl _⟩, ⟨zq3 HO_0.out⟩, ⟨zq3 HO_1.out⟩, ⟨zq1⟩⟩
              case round =>
               clear H'
               obtain ⟨x1_5, HA, HK5, HO_0, HO_1, HB⟩ := hrel
               cases gk with
               | zero => exact absurd HA.out (by simp [rf_GcdNat.l3])
               | succ k5 =>
                have H := HA.out
                clear HA
                simp only [rf_GcdNat.l3] at H
                replace H := zj H
                obtain ⟨t588, A27, H⟩ := H
                by_cases c28 : t588 = 0
                ·rw [if_pos c28] at H
                 have c28b0 : (t588 == 0) = true := beq_iff_eq.mpr c28
                 have c28b1 : (t588 != 0) = false := bne_eq_false_iff_eq.mpr c28
                 clear c28
                 replace H := zj H
                 obtain ⟨t589, A29, H⟩ := H
                 have H' := am H
                 clear H
                 obtain ⟨Ao30, co30, eo30⟩ := Kd.V_slice HO_1.out
                 subst eo30
                 go_wp2_with (first | ((with_reducible refine gate_callee (f := 98) rfl ?_); refine goesL_ (some 38) rfl rfl Tryd.func98 (by kernel_rfl) rfl #[.slice Ao30 x1_5.length co30, .int .i64 0] rfl zq5 ?_; (with_reducible refine (rf_bit.calls _ _ x1_5 0 t588 _ ?side1 ?side2 A27.out).mono ?_); (case side1 => exact zc ((Kd.V_reads' HO_1.out).2.2)); (case side2 => exact (Kd.V_reads' HO_1.out).2.1); rintro e w' ⟨rfl, ⟨nd, rfl⟩⟩; refine ⟨_, rfl, ?_⟩) | ((with_reducible refine gate_callee (f := 99) rfl ?_); refine goesL_ (some 41) rfl rfl Tryd.func99 (by kernel_rfl) rfl #[.slice Ao30 x1_5.length co30] rfl zq5 ?_; (with_reducible refine (rf_half.calls k5 _ _ x1_5 t589 _ ?side1 ?side2 A29.out).mono ?_); (case side1 => exact zc ((Kd.V_reads' HO_1.out).2.2)); (case side2 => exact (Kd.V_reads' HO_1.out).2.1); rintro e w31 ⟨v590, rfl, ho0, hb⟩; refine ⟨_, rfl, ?_⟩; refine zt4 (vb HO_0 hb) (vb HO_1 hb) (Kd.V_lower (Kd.V_mono (ok' := fun k_ => ((P0_ k_ ∨ P1_ k_) ∨ w.heap.size ≤ k_)) ho0 (fun k_ hk_ => (.inr (Nat.le_trans (below_size zq1) hk_)))) (below_size zq1)) (below_step zq1 hb) ?_; clear HO_0 HO_1 HB; intro HO_0 HO_1 HO591 HB))
                 go_roundg k5
                 case measure => have := HK1.out; have := HJ4.out; have := HK3.out; have := HK4.out; have := HK5.out; omega
                 case rel => exact ⟨(t589), H', ⟨by have := HK1.out; have := HJ4.out; have := HK3.out; have := HK4.out; have := HK5.out; omega⟩, ⟨zq3 HO_0.out⟩, ⟨zq3 HO591.out⟩, ⟨zq1⟩⟩
                ·rw [if_neg c28] at H
                 have c28b0 : (t588 == 0) = false := beq_eq_false_iff_ne.mpr c28
                 have c28b1 : (t588 != 0) = true := bne_iff_ne.mpr c28
                 replace H := zj H
                 obtain ⟨t592, A32, H⟩ := H
                 by_cases c33 : t592 < 0
                 ·rw [if_pos c33] at H
                  have c33b0 := decide_eq_true c33
                  clear c33
                  replace H := zj H
                  obtain ⟨t593, A34, H⟩ := H
                  have H' := am H
                  clear H
                  obtain ⟨Ao35, co35, eo35⟩ := Kd.V_slice HO_1.out
                  subst eo35
                  go_wp2_with (first | ((with_reducible refine gate_callee (f := 98) rfl ?_); refine goesL_ (some 38) rfl rfl Tryd.func98 (by kernel_rfl) rfl #[.slice Ao35 x1_5.length co35, .int .i64 0] rfl zq5 ?_; (with_reducible refine (rf_bit.calls _ _ x1_5 0 t588 _ ?side1 ?side2 A27.out).mono ?_); (case side1 => exact zc ((Kd.V_reads' HO_1.out).2.2)); (case side2 => exact (Kd.V_reads' HO_1.out).2.1); rintro e w' ⟨rfl, ⟨nd, rfl⟩⟩; refine ⟨_, rfl, ?_⟩) | ((with_reducible refine gate_callee (f := 46) rfl ?_); refine goesL_ (some 44) rfl rfl Tryd.func46 (by kernel_rfl) rfl #[.slice Ao26 x0_4.length co26, .slice Ao35 x1_5.length co35] rfl zq5 ?_; (with_reducible refine (rf_CmpNat.calls k5 _ _ x0_4 _ _ x1_5 t592 _ ?side1 ?side2 ?side3 ?side4 A32.out).mono ?_); (case side1 => exact zc ((Kd.V_reads' HO_0.out).2.2)); (case side2 => exact (Kd.V_reads' HO_0.out).2.1); (case side3 => exact zc ((Kd.V_reads' HO_1.out).2.2)); (case side4 => exact (Kd.V_reads' HO_1.out).2.1); rintro e w36 ⟨rfl, hb⟩; refine ⟨_, rfl, ?_⟩; refine zt3 (vb HO_0 hb) (vb HO_1 hb) (below_step zq1 hb) ?_; clear HO_0 HO_1 HB; intro HO_0 HO_1 HB; (try clear hb); (try clear hb2); (try clear hk); (try clear hi)) | ((with_reducible refine gate_callee (f := 83) rfl ?_); refine goesL_ (some 51) rfl rfl Tryd.func83 (by kernel_rfl) rfl #[.slice Ao35 x1_5.length co35, .slice Ao26 x0_4.length co26] rfl zq5 ?_; (with_reducible refine (rf_SubNat.calls k5 _ _ x1_5 _ _ x0_4 t593 _ ?side1 ?side2 ?side3 ?side4 A34.out).mono ?_); (case side1 => exact zc ((Kd.V_reads' HO_1.out).2.2)); (case side2 => exact (Kd.V_reads' HO_1.out).2.1); (case side3 => exact zc ((Kd.V_reads' HO_0.out).2.2)); (case side4 => exact (Kd.V_reads' HO_0.out).2.1); rintro e w37 ⟨v594, rfl, ho0, hb⟩; refine ⟨_, rfl, ?_⟩; refine zt4 (vb HO_0 hb) (vb HO_1 hb) (Kd.V_lower (Kd.V_mono (ok' := fun k_ => ((P0_ k_ ∨ P1_ k_) ∨ w.heap.size ≤ k_)) ho0 (fun k_ hk_ => (.inr (Nat.le_trans (below_size zq1) hk_)))) (below_size zq1)) (below_step zq1 hb) ?_; clear HO_0 HO_1 HB; intro HO_0 HO_1 HO595 HB))
                  go_roundg k5
                  case measure => have := HK1.out; have := HJ4.out; have := HK3.out; have := HK4.out; have := HK5.out; omega
                  case rel => exact ⟨(t593), (x0_4), H', ⟨by have := HK1.out; have := HJ4.out; have := HK3.out; have := HK4.out; have := HK5.out; omega⟩, ⟨zq3 HO595.out⟩, ⟨zq3 HO_0.out⟩, ⟨zq1⟩⟩
                 ·rw [if_neg c33] at H
                  have c33b0 := decide_eq_false c33
                  clear c33
                  replace H := zj H
                  obtain ⟨t596, A38, H⟩ := H
                  have H' := am H
                  clear H
                  obtain ⟨Ao39, co39, eo39⟩ := Kd.V_slice HO_1.out
                  subst eo39
                  go_wp2_with (first | ((with_reducible refine gate_callee (f := 98) rfl ?_); refine goesL_ (some 38) rfl rfl Tryd.func98 (by kernel_rfl) rfl #[.slice Ao39 x1_5.length co39, .int .i64 0] rfl zq5 ?_; (with_reducible refine (rf_bit.calls _ _ x1_5 0 t588 _ ?side1 ?side2 A27.out).mono ?_); (case side1 => exact zc ((Kd.V_reads' HO_1.out).2.2)); (case side2 => exact (Kd.V_reads' HO_1.out).2.1); rintro e w' ⟨rfl, ⟨nd, rfl⟩⟩; refine ⟨_, rfl, ?_⟩) | ((with_reducible refine gate_callee (f := 46) rfl ?_); refine goesL_ (some 44) rfl rfl Tryd.func46 (by kernel_rfl) rfl #[.slice Ao26 x0_4.length co26, .slice Ao39 x1_5.length co39] rfl zq5 ?_; (with_reducible refine (rf_CmpNat.calls k5 _ _ x0_4 _ _ x1_5 t592 _ ?side1 ?side2 ?side3 ?side4 A32.out).mono ?_); (case side1 => exact zc ((Kd.V_reads' HO_0.out).2.2)); (case side2 => exact (Kd.V_reads' HO_0.out).2.1); (case side3 => exact zc ((Kd.V_reads' HO_1.out).2.2)); (case side4 => exact (Kd.V_reads' HO_1.out).2.1); rintro e w40 ⟨rfl, hb⟩; refine ⟨_, rfl, ?_⟩; refine zt3 (vb HO_0 hb) (vb HO_1 hb) (below_step zq1 hb) ?_; clear HO_0 HO_1 HB; intro HO_0 HO_1 HB; (try clear hb); (try clear hb2); (try clear hk); (try clear hi)) | ((with_reducible refine gate_callee (f := 83) rfl ?_); refine goesL_ (some 51) rfl rfl Tryd.func83 (by kernel_rfl) rfl #[.slice Ao26 x0_4.length co26, .slice Ao39 x1_5.length co39] rfl zq5 ?_; (with_reducible refine (rf_SubNat.calls k5 _ _ x0_4 _ _ x1_5 t596 _ ?side1 ?side2 ?side3 ?side4 A38.out).mono ?_); (case side1 => exact zc ((Kd.V_reads' HO_0.out).2.2)); (case side2 => exact (Kd.V_reads' HO_0.out).2.1); (case side3 => exact zc ((Kd.V_reads' HO_1.out).2.2)); (case side4 => exact (Kd.V_reads' HO_1.out).2.1); rintro e w41 ⟨v597, rfl, ho0, hb⟩; refine ⟨_, rfl, ?_⟩; refine zt4 (vb HO_0 hb) (vb HO_1 hb) (Kd.V_lower (Kd.V_mono (ok' := fun k_ => ((P0_ k_ ∨ P1_ k_) ∨ w.heap.size ≤ k_)) ho0 (fun k_ hk_ => (.inr (Nat.le_trans (below_size zq1) hk_)))) (below_size zq1)) (below_step zq1 hb) ?_; clear HO_0 HO_1 HB; intro HO_0 HO_1 HO598 HB))
                  go_roundg k5
                  case measure => have := HK1.out; have := HJ4.out; have := HK3.out; have := HK4.out; have := HK5.out; omega
                  case rel => exact ⟨(t596), (x1_5), H', ⟨by have := HK1.out; have := HJ4.out; have := HK3.out; have := HK4.out; have := HK5.out; omega⟩, ⟨zq3 HO598.out⟩, ⟨zq3 HO_1.out⟩, ⟨zq1⟩⟩
          ·rw [if_neg c19] at H
           have c19b0 : decide (0 < (x0_3.length : Int)) = false := decide_eq_false c19
           have c19b1 : decide (0 < x0_3.length) = false := decide_eq_false (by omega)
           clear c19
           replace H := zj H
           obtain ⟨t581, A42, H⟩ := H
           obtain rfl := Option.some.inj H
           obtain ⟨Ao43, co43, eo43⟩ := Kd.V_slice HO_0.out
           subst eo43
           obtain ⟨Ao44, co44, eo44⟩ := Kd.V_slice HO_1.out
           subst eo44
           go_wp2_with (first | ((with_reducible refine gate_callee (f := 82) rfl ?_); refine goesL_ (some 54) rfl rfl Tryd.func82 (by kernel_rfl) rfl #[.slice Ao44 x1_3.length co44, .int .i64 x5_1] rfl zq5 ?_; (with_reducible refine (rf_ShlNat.calls k3 _ _ x1_3 x5_1 t581 _ ?side1 ?side2 A42.out).mono ?_); (case side1 => exact zc ((Kd.V_reads' HO_1.out).2.2)); (case side2 => exact (Kd.V_reads' HO_1.out).2.1); rintro e w45 ⟨v582, rfl, ho0, hb⟩; refine ⟨_, rfl, ?_⟩; refine zt4 (vb HO_0 hb) (vb HO_1 hb) (Kd.V_lower (Kd.V_mono (ok' := fun k_ => ((P0_ k_ ∨ P1_ k_) ∨ w.heap.size ≤ k_)) ho0 (fun k_ hk_ => (.inr (Nat.le_trans (below_size zq1) hk_)))) (below_size zq1)) (below_step zq1 hb) ?_; clear HO_0 HO_1 HB; intro HO_0 HO_1 HO583 HB))
           go_ret
           exact ⟨_, zq9, zq3 HO583.out, zq1⟩
end Go.Proofs.YtemnjgkicndmjaaDoor.Q
