/- What this text proves: a part of the walk and of the plain laws of one card; no conditions. -/
import Derived.Test.YtemnjgkicndmjaaDoorTb0
import Derived.Shelf.Strings.SlTrimAscii
import Derived.Shelf.Small.Strs
import Derived.Shelf.Strings.Search2
import Derived.Test.YtemnjgkicndmjaaDoorProg
import Derived.Laws.IdiomCopy
import Derived.Lib.SliceRun
import Derived.Below
import Derived.Deep.Draws
import Derived.Deep.AppendLies
import Derived.Maps.AppendAt
import Derived.OwnWalk
import Derived.Laws.BytesArg
import Derived.Laws.MakeOwn
import Derived.Laws.OwnMore
import Derived.Deep.OwnRows
import Derived.Tactics
import Derived.Lib.ConvBytes
import Derived.Laws.Slices
import Derived.WalkKit
import Derived.KernelRfl
import Derived.RowKit3
import Derived.Deep.LoopGhost
import Derived.Deep.QuietTactic
import Derived.BigQuiet
import Derived.WideLaws
import Derived.Deep.DeepCutAuto
import Derived.Deep.CutBlock
import Derived.Deep.RegionHeld3
import Derived.Laws.Rows
import Derived.Lib.AppendStr
import Derived.ArgAppend
import Derived.OrdersHeld
import Derived.Laws.BitsLemmas
import Derived.RowKit
import Derived.LoopN
import Derived.Orders
import Derived.Laws.CopyRow
import Derived.Laws.Small
namespace Go.Proofs
open Go.Shelf
def Tryd.lays160_ren : Go.Shelf.Ren := ⟨fun | 160 => 104 | 232 => 125 | 231 => 124 | 227 => 126 | 234 => 128 | 233 => 127 | 236 => 130 | 235 => 129 | 228 => 139 | 271 => 142 | 151 => 141 | 197 => 140 | 120 => 146 | 152 => 145 | 260 => 144 | 137 => 65 | 119 => 147 | 224 => 137 | 225 => 136 | 217 => 111 | 266 => 133 | n => n, fun | 9 => 9 | 4 => 4 | 3 => 3 | 5 => 5 | 117 => 130 | 116 => 129 | 0 => 0 | 124 => 133 | 21 => 21 | 105 => 137 | 46 => 91 | 119 => 143 | 139 => 146 | 138 => 145 | n => n, fun | 3 => 1 | 4 => 2 | n => n⟩
theorem Tryd.lays160 : Go.Proofs.Lays.n160 Tryd.prog Tryd.lays160_ren := {
  mixed := by kernel_rfl
  f119 := Tryd.func147.trans (congrArg some (by kernel_rfl))
  f120 := Tryd.func146.trans (congrArg some (by kernel_rfl))
  f137 := Tryd.func65.trans (congrArg some (by kernel_rfl))
  f151 := Tryd.func141.trans (congrArg some (by kernel_rfl))
  f152 := Tryd.func145.trans (congrArg some (by kernel_rfl))
  f160 := Tryd.func104.trans (congrArg some (by kernel_rfl))
  f197 := Tryd.func140.trans (congrArg some (by kernel_rfl))
  f217 := Tryd.func111.trans (congrArg some (by kernel_rfl))
  f224 := Tryd.func137.trans (congrArg some (by kernel_rfl))
  f225 := Tryd.func136.trans (congrArg some (by kernel_rfl))
  f227 := Tryd.func126.trans (congrArg some (by kernel_rfl))
  f228 := Tryd.func139.trans (congrArg some (by kernel_rfl))
  f231 := Tryd.func124.trans (congrArg some (by kernel_rfl))
  f232 := Tryd.func125.trans (congrArg some (by kernel_rfl))
  f233 := Tryd.func127.trans (congrArg some (by kernel_rfl))
  f234 := Tryd.func128.trans (congrArg some (by kernel_rfl))
  f235 := Tryd.func129.trans (congrArg some (by kernel_rfl))
  f236 := Tryd.func130.trans (congrArg some (by kernel_rfl))
  f260 := Tryd.func144.trans (congrArg some (by kernel_rfl))
  f266 := Tryd.func133.trans (congrArg some (by kernel_rfl))
  f271 := Tryd.func142.trans (congrArg some (by kernel_rfl))
  t0 := Tryd.underlying0
  a0 := Tryd.isAgg0
  z0 := Tryd.sizeOf0
  v0 := Tryd.zeroValue0
  t3 := Tryd.underlying3
  a3 := Tryd.isAgg3
  z3 := Tryd.sizeOf3
  v3 := Tryd.zeroValue3
  t4 := Tryd.underlying4
  a4 := Tryd.isAgg4
  z4 := Tryd.sizeOf4
  v4 := Tryd.zeroValue4
  t5 := Tryd.underlying5
  a5 := Tryd.isAgg5
  z5 := Tryd.sizeOf5
  v5 := Tryd.zeroValue5
  t9 := Tryd.underlying9
  a9 := Tryd.isAgg9
  z9 := Tryd.sizeOf9
  v9 := Tryd.zeroValue9
  t21 := Tryd.underlying21
  a21 := Tryd.isAgg21
  z21 := Tryd.sizeOf21
  v21 := Tryd.zeroValue21
  t46 := Tryd.underlying91
  a46 := Tryd.isAgg91
  z46 := Tryd.sizeOf91
  v46 := Tryd.zeroValue91
  t105 := Tryd.underlying137
  a105 := Tryd.isAgg137
  z105 := Tryd.sizeOf137
  v105 := Tryd.zeroValue137
  t116 := Tryd.underlying129
  a116 := Tryd.isAgg129
  z116 := Tryd.sizeOf129
  t117 := Tryd.underlying130
  a117 := Tryd.isAgg130
  z117 := Tryd.sizeOf130
  v117 := Tryd.zeroValue130
  t119 := Tryd.underlying143
  a119 := Tryd.isAgg143
  z119 := Tryd.sizeOf143
  t124 := Tryd.underlying133
  a124 := Tryd.isAgg133
  z124 := Tryd.sizeOf133
  v124 := Tryd.zeroValue133
  t138 := Tryd.underlying145
  a138 := Tryd.isAgg145
  z138 := Tryd.sizeOf145
  v138 := Tryd.zeroValue145
  t139 := Tryd.underlying146
  a139 := Tryd.isAgg146
  z139 := Tryd.sizeOf146
  v139 := Tryd.zeroValue146
  g3 := by kernel_rfl
  g4 := by kernel_rfl }
def Tryd.lays137_ren : Go.Shelf.Ren := ⟨fun | 137 => 65 | 217 => 111 | 266 => 133 | n => n, fun | 9 => 9 | 5 => 5 | 3 => 3 | n => n, fun | n => n⟩
theorem Tryd.lays137 : Go.Proofs.Lays.n137 Tryd.prog Tryd.lays137_ren := {
  mixed := by kernel_rfl
  f137 := Tryd.func65.trans (congrArg some (by kernel_rfl))
  f217 := Tryd.func111.trans (congrArg some (by kernel_rfl))
  f266 := Tryd.func133.trans (congrArg some (by kernel_rfl))
  t3 := Tryd.underlying3
  a3 := Tryd.isAgg3
  z3 := Tryd.sizeOf3
  v3 := Tryd.zeroValue3
  t5 := Tryd.underlying5
  a5 := Tryd.isAgg5
  z5 := Tryd.sizeOf5
  v5 := Tryd.zeroValue5
  t9 := Tryd.underlying9
  a9 := Tryd.isAgg9
  z9 := Tryd.sizeOf9
  v9 := Tryd.zeroValue9 }
def Tryd.lays219_ren : Go.Shelf.Ren := ⟨fun | 219 => 123 | 217 => 111 | 225 => 136 | 224 => 137 | 267 => 138 | 266 => 133 | 314 => 143 | n => n, fun | 9 => 9 | 3 => 3 | 4 => 4 | 5 => 5 | 46 => 91 | 146 => 140 | 51 => 55 | n => n, fun | 1 => 0 | n => n⟩
theorem Tryd.lays219 : Go.Proofs.Lays.n219 Tryd.prog Tryd.lays219_ren := {
  mixed := by kernel_rfl
  f217 := Tryd.func111.trans (congrArg some (by kernel_rfl))
  f219 := Tryd.func123.trans (congrArg some (by kernel_rfl))
  f224 := Tryd.func137.trans (congrArg some (by kernel_rfl))
  f225 := Tryd.func136.trans (congrArg some (by kernel_rfl))
  f266 := Tryd.func133.trans (congrArg some (by kernel_rfl))
  f267 := Tryd.func138.trans (congrArg some (by kernel_rfl))
  f314 := Tryd.func143.trans (congrArg some (by kernel_rfl))
  t3 := Tryd.underlying3
  a3 := Tryd.isAgg3
  z3 := Tryd.sizeOf3
  v3 := Tryd.zeroValue3
  t4 := Tryd.underlying4
  a4 := Tryd.isAgg4
  z4 := Tryd.sizeOf4
  v4 := Tryd.zeroValue4
  t5 := Tryd.underlying5
  a5 := Tryd.isAgg5
  z5 := Tryd.sizeOf5
  v5 := Tryd.zeroValue5
  t9 := Tryd.underlying9
  a9 := Tryd.isAgg9
  z9 := Tryd.sizeOf9
  v9 := Tryd.zeroValue9
  t46 := Tryd.underlying91
  a46 := Tryd.isAgg91
  z46 := Tryd.sizeOf91
  v46 := Tryd.zeroValue91
  t51 := Tryd.underlying55
  a51 := Tryd.isAgg55
  z51 := Tryd.sizeOf55
  v51 := Tryd.zeroValue55
  t146 := Tryd.underlying140
  a146 := Tryd.isAgg140
  z146 := Tryd.sizeOf140
  v146 := Tryd.zeroValue140
  g1 := by kernel_rfl }
end Go.Proofs
namespace Go.Proofs.YtemnjgkicndmjaaDoor.Q
open Go.RowKit Go.Proofs.YtemnjgkicndmjaaDoorW.PrintWords Go.Proofs.YtemnjgkicndmjaaDoorW.PrintLast Go.Proofs.YtemnjgkicndmjaaDoorW.PrintMore
set_option linter.unusedVariables false
def Wd (pr po : List Int) (n cap : Nat) (k : IntKind) (e : Nat) (w : World) (base : Nat) (ok : Nat → Prop) (v : Value) (xs : List Int) : Prop :=
  ∃ g c, v = .slice (some ⟨g, pr.length, none⟩) xs.length c ∧ (Kd.int k).R e w base ok (.slice (some ⟨g, 0, none⟩) n cap) (pr ++ xs ++ po)
section
variable {pr po : List Int} {n0 cap0 : Nat} {k : IntKind} {e : Nat} {w w' : World} {base m : Nat} {ok ok' : Nat → Prop} {v : Value} {xs : List Int}
theorem Wd_mono (h : Wd pr po n0 cap0 k e w base ok v xs) (hok : ∀ j, ok j → ok' j) : Wd pr po n0 cap0 k e w base ok' v xs := by
  obtain ⟨g, c, h1, h2⟩ := h
  exact ⟨g, c, h1, Kd.R_mono h2 hok⟩
theorem Wd_alloc {o : Obj} (h : Wd pr po n0 cap0 k e w base ok v xs) : Wd pr po n0 cap0 k e (w.alloc o) base ok v xs := by
  obtain ⟨g, c, h1, h2⟩ := h
  exact ⟨g, c, h1, Kd.R_alloc h2 _⟩
theorem Wd_drewN {j : Nat} (h : Wd pr po n0 cap0 k e w base ok v xs) : Wd pr po n0 cap0 k e (w.drewN j) base ok v xs := by
  obtain ⟨g, c, h1, h2⟩ := h
  exact ⟨g, c, h1, Kd.R_drewN h2 _⟩
theorem Wd_drew (h : Wd pr po n0 cap0 k e w base ok v xs) : Wd pr po n0 cap0 k e w.drew base ok v xs := by
  obtain ⟨g, c, h1, h2⟩ := h
  exact ⟨g, c, h1, Kd.R_drew h2⟩
theorem Wd_at (hq : w.drewN m = w') (h : Wd pr po n0 cap0 k e w base ok v xs) : Wd pr po n0 cap0 k e w' base ok v xs := by subst hq; exact Wd_drewN h
theorem Wd_slice (h : Wd pr po n0 cap0 k e w base ok v xs) : ∃ A c, v = .slice A xs.length c := by
  obtain ⟨g, c, h1, h2⟩ := h
  exact ⟨_, c, h1⟩
theorem addr_win (g p i : Nat) : (⟨g, p, none⟩ : Addr).add i = ⟨g, p + i, none⟩ := by unfold Addr.add; split <;> simp_all
theorem Wd_reads' {A : Option Addr} {n c : Nat} (h : Wd pr po n0 cap0 k e w base ok (.slice A n c) xs) : n = xs.length ∧ True ∧ (Kd.int k).C w A xs.length xs := by
  obtain ⟨g, c, h1, h2⟩ := h
  injection h1 with h3 h4 h5
  subst h3
  refine ⟨h4, trivial, ?_⟩
  obtain ⟨-, -, hl, hm, hc⟩ := Kd.R_reads' h2
  refine ⟨rfl, by simp at hm; omega, fun hp => ⟨_, rfl, fun j p hj => ?_⟩⟩
  obtain ⟨ad, ha, hr⟩ := hc (by simp; omega)
  injection ha with ha
  subst ha
  have hj' : j < xs.length := (List.getElem?_eq_some_iff.1 hj).1
  obtain ⟨cs, q1, q2, q3⟩ := hr (pr.length + j) p (by rw [List.append_assoc, List.getElem?_append_right (by omega), List.getElem?_append_left (by omega), Nat.add_sub_cancel_left]; exact hj)
  refine ⟨cs, q1, q2, fun i u hu => ?_⟩
  have := q3 i u hu
  have hs : (Kd.int k).sz = 1 := rfl
  rw [addr_win] at this ⊢
  rw [hs, Nat.mul_one] at this ⊢
  rwa [Nat.zero_add, Nat.add_assoc] at this
theorem Wd_blk {ad : Addr} {n c : Nat} (h : Wd pr po n0 cap0 k e w base ok (.slice (some ad) n c) xs) : base ≤ ad.block := by
  obtain ⟨g, c, h1, h2⟩ := h
  injection h1 with h3 h4 h5
  injection h3 with h3
  subst h3
  exact Kd.R_base h2 g rfl
theorem Wd_ok {ad : Addr} {n c : Nat} (h : Wd pr po n0 cap0 k e w base ok (.slice (some ad) n c) xs) : ok ad.block := by
  obtain ⟨g, c, h1, h2⟩ := h
  injection h1 with h3 h4 h5
  injection h3 with h3
  subst h3
  exact h2.1 g rfl
theorem Wd_celln (d : Int) {ad : Addr} {n c : Nat} (h : Wd pr po n0 cap0 k e w base ok (.slice (some ad) n c) xs) (i : Int) (h0 : 0 ≤ i) (hi : i < n) : w.cell? (ad.add i.toNat) = some (.int k (rdOf d xs i)) ∧ w.frozen? (ad.add i.toNat) = false := by
  obtain ⟨g, c, h1, h2⟩ := h
  injection h1 with h3 h4 h5
  injection h3 with h3
  subst h3 h4
  obtain ⟨hl, -, -⟩ := Kd.R_reads' h2
  have h6 := Kd.R_celln d h2 ((pr.length : Int) + i) (by omega) (by rw [hl]; simp; omega)
  rw [show ((pr.length : Int) + i).toNat = pr.length + i.toNat by omega] at h6
  rw [addr_win]
  refine ⟨h6.1.trans ?_, h6.2⟩
  congr 2
  unfold rdOf
  rw [show ((pr.length : Int) + i).toNat = pr.length + i.toNat by omega, List.getD_eq_getElem?_getD, List.append_assoc, List.getElem?_append_right (by omega), List.getElem?_append_left (by omega), Nat.add_sub_cancel_left, List.getD_eq_getElem?_getD]
theorem Wd_putg {ad : Addr} {n c : Nat} (h : Wd pr po n0 cap0 k e w base ok (.slice (some ad) n c) xs) (i x : Int) (h0 : 0 ≤ i) (hi : i < xs.length) : Wd pr po n0 cap0 k e (w.setCell (ad.add i.toNat) (.int k x)) base ok (.slice (some ad) n c) (xs.set i.toNat x) ∧ w.grownBy (w.setCell (ad.add i.toNat) (.int k x)) (some ad.block) := by
  obtain ⟨g, c, h1, h2⟩ := h
  injection h1 with h3 h4 h5
  injection h3 with h3
  subst h3 h4 h5
  have h6 := Kd.R_putg h2 ((pr.length : Int) + i) x
  rw [show ((pr.length : Int) + i).toNat = pr.length + i.toNat by omega] at h6
  rw [addr_win]
  refine ⟨⟨g, _, by rw [List.length_set], ?_⟩, h6.2⟩
  have e1 : (pr ++ xs ++ po).set (pr.length + i.toNat) x = pr ++ xs.set i.toNat x ++ po := by
    rw [List.append_assoc, List.set_append_right _ _ (by omega), Nat.add_sub_cancel_left, List.set_append_left _ _ (by omega), List.append_assoc]
  rw [← e1]
  exact h6.1
theorem block_add (a : Addr) (i : Nat) : (a.add i).block = a.block := by unfold Addr.add; split <;> rfl
theorem below_setW {w0 W : World} {a : Addr} {i : Nat} {v : Value} (h : Below w0.heap.size w0 W) (hg : w0.heap.size ≤ a.block) : Below w0.heap.size w0 (W.setCell (a.add i) v) := h.setCell (by rw [block_add]; exact hg) _
theorem win_start {A0 : Option Addr} {l0 : List Int} (h : (Kd.int k).R e w base ok (.slice A0 n0 cap0) l0) (a b : Int) (h0 : 0 ≤ a) (h1 : a < b) (h2 : b ≤ l0.length) {AW : Option Addr} (hA : AW = if cap0 = a.toNat then A0 else A0.map (·.add (a.toNat * 1))) {y : List Int} (hy : y = (l0.take b.toNat).drop a.toNat) (cW : Nat) :
    ∃ g, A0 = some ⟨g, 0, none⟩ ∧ AW = some ⟨g, (l0.take a.toNat).length, none⟩ ∧ Wd (l0.take a.toNat) (l0.drop b.toNat) n0 cap0 k e w base ok (.slice AW y.length cW) y := by
  have hl0 : l0 = l0.take a.toNat ++ y ++ l0.drop b.toNat := by
    rw [hy]
    have e1 : l0.take a.toNat = (l0.take b.toNat).take a.toNat := by rw [List.take_take, Nat.min_eq_left (by omega)]
    rw [e1, List.take_append_drop, List.take_append_drop]
  obtain ⟨g, cap, he, -⟩ := Kd.R_form h (by omega)
  injection he with q1 q2 q3
  subst q1
  obtain ⟨q4, q5, -⟩ := Kd.R_reads' h
  rw [if_neg (by omega)] at hA
  subst hA
  have e2 : (l0.take a.toNat).length = a.toNat := by rw [List.length_take, Nat.min_eq_left (by omega)]
  refine ⟨g, rfl, by rw [e2]; simp [addr_win], g, cW, by rw [e2]; simp [addr_win], ?_⟩
  rw [← hl0]; exact h
theorem win_end {g p nW cW : Nat} {y : List Int} (h2 : Wd pr po n0 cap0 k e w' base ok (.slice (some ⟨g, p, none⟩) nW cW) y) : (Kd.int k).R e w' base ok (.slice (some ⟨g, 0, none⟩) n0 cap0) (pr ++ y ++ po) := by
  obtain ⟨g', c, h3, h4⟩ := h2
  injection h3 with h5 h6 h7
  injection h5 with h5
  injection h5 with h5
  subst h5
  exact h4
end
def CopyCalls (P : Program) (t : TypeId) (args : Array Value) (w : World) (Q : Ending → World → Prop) : Prop := ∀ ty, ∃ v w', (Builtin.copy_ #[t, t] ty args).run P w = .ok v w' ∧ Q (.returned v) w'
theorem CopyCalls.mono {P : Program} {t : TypeId} {args : Array Value} {w : World} {Q Q' : Ending → World → Prop} (h : CopyCalls P t args w Q) (k : ∀ e w', Q e w' → Q' e w') : CopyCalls P t args w Q' := fun ty => by
  obtain ⟨v, w', h1, h2⟩ := h ty
  exact ⟨v, w', h1, k _ _ h2⟩
theorem copyL_ {P : Program} {ops : Array Oper} {Q : Exit → Act → World → Prop} {rest : List Oper} {oi : Oper} {a : Act} {w : World} (N : Option Tmp) (hd : oi.dst = N) (hg : oi.guard = none) {t : TypeId} {ops_ : Array Operand} (args : Array Value)
    (hop : oi.op = .call { callee := .builtin .copy, args := ops_, argTypes := #[t, t] }) (hargs : ops_.map a.eval = args)
    (h : CopyCalls P t args w fun e w' => ∃ v, e = .returned v ∧ wpList P ops Q rest (a.put N v) w') : wpList P ops Q (oi :: rest) a w := by
  refine wpList_plain hg fun K hK => ?_
  obtain ⟨v, w', hrun, v2, he, hk⟩ := h oi.type
  injection he with he
  subst he hd
  unfold Oper.wp
  simp only [execOp, hop, resolve, invoke, builtin, Sem.run_bind, Sem.run_pure, Result.andThen_ok, hargs, hrun]
  exact hK _ _ hk
theorem setCells_R {k : IntKind} {e : Nat} {base n cap g : Nat} {ok : Nat → Prop} : ∀ (ys : List Int) (i : Nat) (xs : List Int) (W : World), (Kd.int k).R e W base ok (.slice (some ⟨g, 0, none⟩) n cap) xs → i + ys.length ≤ xs.length →
    (Kd.int k).R e (W.setCells g i (nums k ys)) base ok (.slice (some ⟨g, 0, none⟩) n cap) (xs.take i ++ ys ++ xs.drop (i + ys.length))
  | [], i, xs, W, h, _ => by simpa [World.setCells, nums] using h
  | y :: ys, i, xs, W, h, hl => by
    have h1 := (Kd.R_putg h (i : Int) y).1
    rw [Int.toNat_natCast] at h1
    have h2 := setCells_R ys (i + 1) (xs.set i y) (W.setCell ⟨g, i, none⟩ (.int k y)) h1 (by simp at hl ⊢; omega)
    have e1 : (xs.set i y).take (i + 1) ++ ys ++ (xs.set i y).drop (i + 1 + ys.length) = xs.take i ++ (y :: ys) ++ xs.drop (i + (y :: ys).length) := by
      have hl' : i < xs.length := by simp at hl; omega
      obtain ⟨ps, q, qs, rfl, rfl⟩ : ∃ ps q qs, xs = ps ++ q :: qs ∧ ps.length = i := ⟨xs.take i, xs[i], xs.drop (i + 1), by rw [← List.drop_eq_getElem_cons hl', List.take_append_drop], by simp; omega⟩
      simp [List.take_append, List.drop_append, Nat.add_assoc, Nat.add_comm 1]
      exact List.take_of_length_le (by omega)
    rw [e1] at h2
    exact h2
theorem setCells_below {g : Nat} {w0 : World} (hg : w0.heap.size ≤ g) : ∀ (vs : List Value) (i : Nat) (W : World), Below w0.heap.size w0 W → Below w0.heap.size w0 (W.setCells g i vs)
  | [], _, _, h => h
  | v :: vs, i, W, h => setCells_below hg vs (i + 1) _ (below_set h hg)
theorem setCells_kept {g : Nat} {w : World} {S : Nat → Prop} (hg : S g) : ∀ (vs : List Value) (i : Nat) (W : World), Kept w W S → Kept w (W.setCells g i vs) S
  | [], _, _, h => h
  | v :: vs, i, W, h => setCells_kept hg vs (i + 1) _ (Kept.setCell h (.inl hg) _)
theorem copy_calls_any {P : Program} {k : IntKind} {e T : Nat} (hT : P.underlying T = some (.slice e)) (hz : (P.info? e).map (·.size) = some 1) (P0_ : Nat → Prop) (u : Value) (l0 : List Int) (A1 : Option Addr) (c1 : Nat) (l1 : List Int) (w0 w : World)
    (hB : Below w0.heap.size w0 w) (ho0 : Kd.R (Kd.int k) e w w0.heap.size P0_ u l0) (hr1 : ∀ W_, Kept w W_ (fun k_ => P0_ k_) → Kd.C (Kd.int k) W_ A1 l1.length l1) :
    CopyCalls P T #[u, .slice A1 l1.length c1] w fun en w' => en = .returned (.int .i64 (mn (l0.length : Int) (l1.length : Int))) ∧ Kd.R (Kd.int k) e w' w0.heap.size (fun k_ => (P0_ k_ ∨ w.heap.size ≤ k_)) u (l1.take l0.length ++ l0.drop l1.length) ∧ Below w0.heap.size w0 w' ∧ Kept w w' (fun k_ => P0_ k_) := by
  intro ty
  have hmin : Nat.min l1.length l0.length = min l1.length l0.length := rfl
  have e0 : mn (l0.length : Int) (l1.length : Int) = ((Nat.min l1.length l0.length : Nat) : Int) := by unfold mn; split <;> omega
  by_cases hn : Nat.min l1.length l0.length = 0
  · obtain ⟨A0, c0, rfl⟩ := Kd.R_slice ho0
    refine ⟨_, w, run_copy_none w T T ty e A0 A1 l0.length c0 l1.length c1 hT hz hn, ?_, ?_, hB, Kept.refl _ _⟩
    · rw [e0, hn]; rfl
    · have e1 : l1.take l0.length ++ l0.drop l1.length = l0 := by
        rcases Nat.eq_zero_or_pos l1.length with h | h
        · have := List.eq_nil_of_length_eq_zero h
          simp [this]
        · have h2 : l0.length = 0 := by omega
          have := List.eq_nil_of_length_eq_zero h2
          simp [this]
      rw [e1]
      exact Kd.R_mono ho0 (fun _ h => .inl h)
  · obtain ⟨g, cap, rfl, hg, hgl, cells, hcells⟩ := Kd.R_form ho0 (by omega)
    have hC := hr1 w (Kept.refl _ _)
    obtain ⟨ad, rfl, _⟩ := Kd.at_int hC 0 (by omega) (by omega)
    have hl : (l1.take l0.length).length = Nat.min l1.length l0.length := by rw [List.length_take, Nat.min_comm]
    have hrun := run_copy_cells (P := P) w T T ty e g 0 l0.length cap ad l1.length c1 (nums k (l1.take l0.length)) hT hz (by rw [nums_length, hl])
      (by
        intro j v hv
        simp only [nums, List.getElem?_map, Option.map_eq_some_iff] at hv
        obtain ⟨x, hx, rfl⟩ := hv
        have hj : j < l1.length := by
          rcases Nat.lt_or_ge j l1.length with h | h
          · exact h
          · rw [List.getElem?_take] at hx; simp [List.getElem?_eq_none h] at hx
        obtain ⟨ad', he, hc⟩ := Kd.at_int hC (j : Int) (by omega) (by omega)
        injection he with he
        subst he
        rw [Int.toNat_natCast] at hc
        rw [hc]
        rw [List.getElem?_take] at hx
        split at hx
        · rw [List.getElem?_eq_getElem hj] at hx
          injection hx with hx
          simp [rd, List.getD_eq_getElem?_getD, List.getElem?_eq_getElem hj, hx]
        · cases hx)
      (by
        intro j hj
        rw [nums_length, hl] at hj
        have := (Kd.R_celln 0 ho0 (j : Int) (by omega) (by omega)).1
        rw [Int.toNat_natCast] at this
        rw [Nat.zero_add, this]; rfl)
      (by
        intro j hj
        rw [nums_length, hl] at hj
        have := (Kd.R_celln 0 ho0 (j : Int) (by omega) (by omega)).2
        rw [Int.toNat_natCast] at this
        rw [Nat.zero_add, this])
      (by intro v hv; simp only [nums, List.mem_map] at hv; obtain ⟨x, _, rfl⟩ := hv; rfl)
    have hP : P0_ g := ho0.1 g rfl
    refine ⟨_, _, hrun, ?_, ?_, setCells_below hg _ _ _ hB, setCells_kept hP _ _ _ (Kept.refl _ _)⟩
    · rw [e0, nums_length, hl]; rfl
    · have h2 := setCells_R (l1.take l0.length) 0 l0 w ho0 (by rw [hl]; omega)
      have e1 : l0.take 0 ++ l1.take l0.length ++ l0.drop (0 + (l1.take l0.length).length) = l1.take l0.length ++ l0.drop l1.length := by
        rw [hl, hmin]
        simp
      rw [e1] at h2
      exact Kd.R_mono h2 (fun _ h => .inl h)
end Go.Proofs.YtemnjgkicndmjaaDoor.Q
namespace Go.Proofs.YtemnjgkicndmjaaDoor.Q
theorem zq1 {p : Prop} (h : p := by repeat (first | (with_reducible first | exact HB.out | apply below_alloc | apply pw_below_drewN | apply below_drew1) | exact HB.out)) : p := h
theorem zq2 {q p : Prop} (h : q) (k : q → p := by intro h; (with_reducible repeat (first | refine blk_drewN ?_ _ | refine blk_drew ?_ | refine blk_alloc ?_ _)); exact h) : p := k h
theorem zq3 {q p : Prop} (h : q) (k : q → p := by intro h; (with_reducible repeat (first | apply Kd.V_alloc | apply Kd.V_drewN | apply Kd.V_drew)); exact h) : p := k h
theorem zq4 {q p : Prop} (h : q) (k : q → p := by intro h; (with_reducible repeat (first | apply Kd.R_alloc | apply Kd.R_drewN | apply Kd.R_drew)); exact h) : p := k h
theorem zq5 {p : Prop} (h : p := by (try simp only [List.map_toArray, List.map_cons, List.map_nil]); first | done | rfl | (simp only [List.length_drop, List.length_take]; rfl)) : p := h
theorem zq6 {p : Prop} [Decidable p] (h : decide p = true := by first | (with_reducible assumption) | assumption) : p := of_decide_eq_true h
theorem zq7 {p : Prop} (h : p := by first | assumption | exact of_eq_true (by assumption) | exact of_decide_eq_true (by assumption)) : p := h
theorem zq8 {p : Prop} (h : p := by first | rfl | (simp; done) | (simp [*]; done)) : p := h
open Go.RowKit Go.Proofs.YtemnjgkicndmjaaDoorW.PrintWords Go.Proofs.YtemnjgkicndmjaaDoorW.PrintLast Go.Proofs.YtemnjgkicndmjaaDoorW.PrintMore
theorem zm {p : Prop} (h : p := by
 repeat' first
 | (with_reducible exact LeO.refl _)
 | (with_reducible exact LeO.none _)
 | (with_reducible apply m0)
 | (with_reducible apply m1)
 | (with_reducible apply m2)
 | (with_reducible apply m3)
 | (with_reducible apply m4)
 | (with_reducible apply m5)
 | (with_reducible apply m6)
 | (with_reducible apply m7)
 | (with_reducible refine LeO.ite ?_ ?_)
 | (with_reducible refine LeO.bind ?_ (fun _ => ?_))
 | apply m0
 | apply m1
 | apply m2
 | apply m3
 | apply m4
 | apply m5
 | apply m6
 | apply m7
 | exact LeO.none _
 | refine LeO.ite ?_ ?_
 | refine LeO.bind ?_ (fun _ => ?_)) : p := h
theorem am {p : Prop} (h : p) : Aside0 p := ⟨h⟩
theorem zn {α : Type} {P : Prop} {i : Decidable P} {a : Option α} {r : α} (h : (@ite _ P i a none) = some r) : P ∧ a = some r := by
 by_cases c : P
 ·rw [if_pos c] at h; exact ⟨c, h⟩
 ·rw [if_neg c] at h; exact absurd h (by simp)
theorem zo {α : Type} {P : Prop} {i : Decidable P} {a : Option α} {r : α} (h : (@ite _ P i none a) = some r) : ¬P ∧ a = some r := by
 by_cases c : P
 ·rw [if_pos c] at h; exact absurd h (by simp)
 ·rw [if_neg c] at h; exact ⟨c, h⟩
theorem zi {α β : Type} {x : Option α} {f : α → Option β} {b : β} (h : x.bind f = some b) : ∃ a, x = some a ∧ f a = some b := Option.bind_eq_some_iff.mp h
theorem zb1 {p q : Prop} (h : p) (k : p → q := by intro hg1; repeat (first | (with_reducible first | exact HB.out | apply below_alloc | apply pw_below_drewN | apply below_drew1 | refine below_set ?_ hg1) | exact HB.out)) : q := k h
theorem zb2 {p p2 q : Prop} (h : p) (h2 : p2) (k : p → p2 → q := by intro hg1 hg2; repeat (first | (with_reducible first | exact HB.out | apply below_alloc | apply pw_below_drewN | apply below_drew1 | refine below_set ?_ hg1 | refine below_set ?_ hg2) | exact HB.out)) : q := k h h2
theorem zb3 {p p2 p3 q : Prop} (h : p) (h2 : p2) (h3 : p3) (k : p → p2 → p3 → q := by intro hg1 hg2 hg3; repeat (first | (with_reducible first | exact HB.out | apply below_alloc | apply pw_below_drewN | apply below_drew1 | refine below_set ?_ hg1 | refine below_set ?_ hg2 | refine below_set ?_ hg3) | exact HB.out)) : q := k h h2 h3
theorem zc {p q : Prop} (h : p) (k : p → q := by intro h; repeat (first | exact h | (with_reducible refine Kd.C_alloc ?_ _) | (with_reducible refine Kd.C_drewN ?_ _) | (with_reducible refine Kd.C_drew ?_))) : q := k h
theorem zq9 {p : Prop} (h : p := by first | rfl | (simp [errW_none, errW_some] <;> rfl) | (simp [*, errW_none, errW_some] <;> rfl)) : p := h
theorem zr {p : Prop} (h : p := by first | (go_simp; done) | (go_simp; rfl)) : p := h
def zmt (n : Nat) (s : List Nat) : Array Bool := ((List.range n).map fun i => s.contains i).toArray
def zmf (n : Nat) (s : List Nat) : Array Bool := ((List.range n).map fun i => !s.contains i).toArray
section
variable {P : Program} {md : Region.Mode} {ops : Array Oper} {Q : Exit → Act → World → Prop} {S : World → Prop} {ds : List Nat} {i : Nat} {N : Option Tmp} {oi : Oper} {v : Value} {fuel : Nat} {l : Array Bool} {a a' : Act} {w : World}
theorem pz_ (l' : Array Bool) (h : wpAnyLast P md ops Q S ds fuel l' a' w) (hi : ops[i]? = some oi := by rfl) (hN : oi.dst = N := by rfl) (hc : anyB md ops l l' i = true := by exact any_of HT_.out (by kernel_rfl)) (hQ : ∀ c a w, Q (.panic c) (a.put oi.dst v) w → Q (.panic c) a w := by exact fun _ _ _ h => h) (hy : Yields P ops oi v a := by exact Or.inl ⟨by rfl, by intro w'; go_simp; with_reducible rfl⟩) (ha : a.put N v = a' := by simp only [Act.put, List.setIfInBounds_toArray, List.set_cons_zero, List.set_cons_succ, i64_w, i32_w]; rfl) : wpAnyLast P md ops Q S ds (fuel + 1) l a w := pure_ l' hi hN hc hQ hy ha h
theorem tz1 (l' : Array Bool) (h : wpAnyLast P md ops Q S ds fuel l' a' w) (hi : ops[i]? = some oi := by rfl) (hN : oi.dst = N := by rfl) (hc : takeB md ops ds l l' i = true := by exact take_ofW HT_.out HW_.out (by kernel_rfl)) (hQ : ∀ c a w, Q (.panic c) (a.put oi.dst v) w → Q (.panic c) a w := by exact fun _ _ _ h => h) (hy : YieldsIf P ops S oi v a := by exact Or.inl ⟨by rfl, by intro w' s0; go_simp; with_reducible rfl⟩) (hS : S w := by exact hHeld) (ha : a.put N v = a' := by simp only [Act.put, List.setIfInBounds_toArray, List.set_cons_zero, List.set_cons_succ, i64_w, i32_w]; rfl) : wpAnyLast P md ops Q S ds (fuel + 1) l a w := take_ l' hi hN hc hQ hy hS ha h
theorem tz3 (l' : Array Bool) (h : wpAnyLast P md ops Q S ds fuel l' a' w) (hi : ops[i]? = some oi := by rfl) (hN : oi.dst = N := by rfl) (hc : takeB md ops ds l l' i = true := by exact take_ofW HT_.out HW_.out (by kernel_rfl)) (hQ : ∀ c a w, Q (.panic c) (a.put oi.dst v) w → Q (.panic c) a w := by exact fun _ _ _ h => h) (hy : YieldsIf P ops S oi v a := by exact Or.inl ⟨by rfl, by rintro w' ⟨s0, s1, s2⟩; go_simp; with_reducible rfl⟩) (hS : S w := by exact hHeld) (ha : a.put N v = a' := by simp only [Act.put, List.setIfInBounds_toArray, List.set_cons_zero, List.set_cons_succ, i64_w, i32_w]; rfl) : wpAnyLast P md ops Q S ds (fuel + 1) l a w := take_ l' hi hN hc hQ hy hS ha h
theorem nz_ (h : wpAnyLast P md ops Q S ds fuel l a' w) (ha : Act.put a N v = a' := by simp only [Act.put, List.setIfInBounds_toArray, List.set_cons_zero, List.set_cons_succ, i64_w, i32_w]; rfl) : wpAnyLast P md ops Q S ds fuel l (Act.put a N v) w := norm_ ha h
end
section
variable {P : Program} {ops : Array Oper} {rest : List Oper} {o : Oper} {a : Act} {Q : Exit → Act → World → Prop} {W w1 : World}
theorem zbox {N : Tmp} {cs : Array Value} {t : TypeId} (h : ∀ g, g = W.heap.size → ∀ w1, w1.heap[g]? = some (.cells cs t (0, 0)) → Below W.heap.size W w1 → wpList P ops Q rest (a.put o.dst (.pointer (some ⟨g, 0, none⟩))) w1) (hd : o.dst = some N := by rfl) (hg : o.guard = none := by rfl) (hr : (execOp a.eval o).run P W = .ok (.value (.pointer (some ⟨W.heap.size, 0, none⟩))) (W.alloc (.cells cs t (0, 0))) := by first | (go_simp; done) | (go_simp; rfl)) : wpList P ops Q (o :: rest) a W := box_event hg hd hr h
theorem zstore {t : TypeId} {p : Tmp} {v : Operand} (h : ∀ w', w' = w1 → wpList P ops Q rest a w') (ho : o.op = .store t (.tmp p) v := by rfl) (hg : o.guard = none := by rfl) (hn : o.dst = none := by rfl) (hr : (execOp a.eval o).run P W = .ok .skip w1 := by first | (go_simp; done) | (go_simp; rfl)) : wpList P ops Q (o :: rest) a W := store_event hg ho hn hr h
end
theorem bc {w : World} {g : Nat} {t : TypeId} {cs : Array Value} (h : w.heap[g]? = some (.cells cs t (0, 0))) (i : Nat) (v : Value) (e : cs[i]? = some v := by rfl) : w.cell? ⟨g, i, none⟩ = some v := (blk_cell h i).trans e
theorem bb {w0 w w1 : World} {g : Nat} {o : Obj} (h : w0.heap[g]? = some o) (hb : Below w.heap.size w w1) (k : w0.heap[g]? = some o → w.heap[g]? = some o := by intro h; (with_reducible repeat (first | refine blk_drewN ?_ _ | refine blk_drew ?_ | refine blk_alloc ?_ _)); exact h) : w1.heap[g]? = some o := blk_below (k h) hb
theorem bl {w0 w : World} {g : Nat} {o : Obj} (h : w0.heap[g]? = some o) (k : w0.heap[g]? = some o → w.heap[g]? = some o := by intro h; (with_reducible repeat (first | refine blk_drewN ?_ _ | refine blk_drew ?_ | refine blk_alloc ?_ _)); exact h) : g < w.heap.size := blk_lt (k h)
theorem zt1 {p0 G : Prop} (a0 : p0) (k : Aside0 p0 → G) : G := k ⟨a0⟩
theorem zt2 {p0 p1 G : Prop} (a0 : p0) (a1 : p1) (k : Aside0 p0 → Aside0 p1 → G) : G := k ⟨a0⟩ ⟨a1⟩
theorem zt3 {p0 p1 p2 G : Prop} (a0 : p0) (a1 : p1) (a2 : p2) (k : Aside0 p0 → Aside0 p1 → Aside0 p2 → G) : G := k ⟨a0⟩ ⟨a1⟩ ⟨a2⟩
theorem zt4 {p0 p1 p2 p3 G : Prop} (a0 : p0) (a1 : p1) (a2 : p2) (a3 : p3) (k : Aside0 p0 → Aside0 p1 → Aside0 p2 → Aside0 p3 → G) : G := k ⟨a0⟩ ⟨a1⟩ ⟨a2⟩ ⟨a3⟩
theorem zt5 {p0 p1 p2 p3 p4 G : Prop} (a0 : p0) (a1 : p1) (a2 : p2) (a3 : p3) (a4 : p4) (k : Aside0 p0 → Aside0 p1 → Aside0 p2 → Aside0 p3 → Aside0 p4 → G) : G := k ⟨a0⟩ ⟨a1⟩ ⟨a2⟩ ⟨a3⟩ ⟨a4⟩
theorem zt6 {p0 p1 p2 p3 p4 p5 G : Prop} (a0 : p0) (a1 : p1) (a2 : p2) (a3 : p3) (a4 : p4) (a5 : p5) (k : Aside0 p0 → Aside0 p1 → Aside0 p2 → Aside0 p3 → Aside0 p4 → Aside0 p5 → G) : G := k ⟨a0⟩ ⟨a1⟩ ⟨a2⟩ ⟨a3⟩ ⟨a4⟩ ⟨a5⟩
theorem zt7 {p0 p1 p2 p3 p4 p5 p6 G : Prop} (a0 : p0) (a1 : p1) (a2 : p2) (a3 : p3) (a4 : p4) (a5 : p5) (a6 : p6) (k : Aside0 p0 → Aside0 p1 → Aside0 p2 → Aside0 p3 → Aside0 p4 → Aside0 p5 → Aside0 p6 → G) : G := k ⟨a0⟩ ⟨a1⟩ ⟨a2⟩ ⟨a3⟩ ⟨a4⟩ ⟨a5⟩ ⟨a6⟩
theorem zt8 {p0 p1 p2 p3 p4 p5 p6 p7 G : Prop} (a0 : p0) (a1 : p1) (a2 : p2) (a3 : p3) (a4 : p4) (a5 : p5) (a6 : p6) (a7 : p7) (k : Aside0 p0 → Aside0 p1 → Aside0 p2 → Aside0 p3 → Aside0 p4 → Aside0 p5 → Aside0 p6 → Aside0 p7 → G) : G := k ⟨a0⟩ ⟨a1⟩ ⟨a2⟩ ⟨a3⟩ ⟨a4⟩ ⟨a5⟩ ⟨a6⟩ ⟨a7⟩
theorem zt9 {p0 p1 p2 p3 p4 p5 p6 p7 p8 G : Prop} (a0 : p0) (a1 : p1) (a2 : p2) (a3 : p3) (a4 : p4) (a5 : p5) (a6 : p6) (a7 : p7) (a8 : p8) (k : Aside0 p0 → Aside0 p1 → Aside0 p2 → Aside0 p3 → Aside0 p4 → Aside0 p5 → Aside0 p6 → Aside0 p7 → Aside0 p8 → G) : G := k ⟨a0⟩ ⟨a1⟩ ⟨a2⟩ ⟨a3⟩ ⟨a4⟩ ⟨a5⟩ ⟨a6⟩ ⟨a7⟩ ⟨a8⟩
theorem zt10 {p0 p1 p2 p3 p4 p5 p6 p7 p8 p9 G : Prop} (a0 : p0) (a1 : p1) (a2 : p2) (a3 : p3) (a4 : p4) (a5 : p5) (a6 : p6) (a7 : p7) (a8 : p8) (a9 : p9) (k : Aside0 p0 → Aside0 p1 → Aside0 p2 → Aside0 p3 → Aside0 p4 → Aside0 p5 → Aside0 p6 → Aside0 p7 → Aside0 p8 → Aside0 p9 → G) : G := k ⟨a0⟩ ⟨a1⟩ ⟨a2⟩ ⟨a3⟩ ⟨a4⟩ ⟨a5⟩ ⟨a6⟩ ⟨a7⟩ ⟨a8⟩ ⟨a9⟩
theorem zt11 {p0 p1 p2 p3 p4 p5 p6 p7 p8 p9 p10 G : Prop} (a0 : p0) (a1 : p1) (a2 : p2) (a3 : p3) (a4 : p4) (a5 : p5) (a6 : p6) (a7 : p7) (a8 : p8) (a9 : p9) (a10 : p10) (k : Aside0 p0 → Aside0 p1 → Aside0 p2 → Aside0 p3 → Aside0 p4 → Aside0 p5 → Aside0 p6 → Aside0 p7 → Aside0 p8 → Aside0 p9 → Aside0 p10 → G) : G := k ⟨a0⟩ ⟨a1⟩ ⟨a2⟩ ⟨a3⟩ ⟨a4⟩ ⟨a5⟩ ⟨a6⟩ ⟨a7⟩ ⟨a8⟩ ⟨a9⟩ ⟨a10⟩
theorem zt12 {p0 p1 p2 p3 p4 p5 p6 p7 p8 p9 p10 p11 G : Prop} (a0 : p0) (a1 : p1) (a2 : p2) (a3 : p3) (a4 : p4) (a5 : p5) (a6 : p6) (a7 : p7) (a8 : p8) (a9 : p9) (a10 : p10) (a11 : p11) (k : Aside0 p0 → Aside0 p1 → Aside0 p2 → Aside0 p3 → Aside0 p4 → Aside0 p5 → Aside0 p6 → Aside0 p7 → Aside0 p8 → Aside0 p9 → Aside0 p10 → Aside0 p11 → G) : G := k ⟨a0⟩ ⟨a1⟩ ⟨a2⟩ ⟨a3⟩ ⟨a4⟩ ⟨a5⟩ ⟨a6⟩ ⟨a7⟩ ⟨a8⟩ ⟨a9⟩ ⟨a10⟩ ⟨a11⟩
theorem zt13 {p0 p1 p2 p3 p4 p5 p6 p7 p8 p9 p10 p11 p12 G : Prop} (a0 : p0) (a1 : p1) (a2 : p2) (a3 : p3) (a4 : p4) (a5 : p5) (a6 : p6) (a7 : p7) (a8 : p8) (a9 : p9) (a10 : p10) (a11 : p11) (a12 : p12) (k : Aside0 p0 → Aside0 p1 → Aside0 p2 → Aside0 p3 → Aside0 p4 → Aside0 p5 → Aside0 p6 → Aside0 p7 → Aside0 p8 → Aside0 p9 → Aside0 p10 → Aside0 p11 → Aside0 p12 → G) : G := k ⟨a0⟩ ⟨a1⟩ ⟨a2⟩ ⟨a3⟩ ⟨a4⟩ ⟨a5⟩ ⟨a6⟩ ⟨a7⟩ ⟨a8⟩ ⟨a9⟩ ⟨a10⟩ ⟨a11⟩ ⟨a12⟩
theorem zt14 {p0 p1 p2 p3 p4 p5 p6 p7 p8 p9 p10 p11 p12 p13 G : Prop} (a0 : p0) (a1 : p1) (a2 : p2) (a3 : p3) (a4 : p4) (a5 : p5) (a6 : p6) (a7 : p7) (a8 : p8) (a9 : p9) (a10 : p10) (a11 : p11) (a12 : p12) (a13 : p13) (k : Aside0 p0 → Aside0 p1 → Aside0 p2 → Aside0 p3 → Aside0 p4 → Aside0 p5 → Aside0 p6 → Aside0 p7 → Aside0 p8 → Aside0 p9 → Aside0 p10 → Aside0 p11 → Aside0 p12 → Aside0 p13 → G) : G := k ⟨a0⟩ ⟨a1⟩ ⟨a2⟩ ⟨a3⟩ ⟨a4⟩ ⟨a5⟩ ⟨a6⟩ ⟨a7⟩ ⟨a8⟩ ⟨a9⟩ ⟨a10⟩ ⟨a11⟩ ⟨a12⟩ ⟨a13⟩
theorem zt15 {p0 p1 p2 p3 p4 p5 p6 p7 p8 p9 p10 p11 p12 p13 p14 G : Prop} (a0 : p0) (a1 : p1) (a2 : p2) (a3 : p3) (a4 : p4) (a5 : p5) (a6 : p6) (a7 : p7) (a8 : p8) (a9 : p9) (a10 : p10) (a11 : p11) (a12 : p12) (a13 : p13) (a14 : p14) (k : Aside0 p0 → Aside0 p1 → Aside0 p2 → Aside0 p3 → Aside0 p4 → Aside0 p5 → Aside0 p6 → Aside0 p7 → Aside0 p8 → Aside0 p9 → Aside0 p10 → Aside0 p11 → Aside0 p12 → Aside0 p13 → Aside0 p14 → G) : G := k ⟨a0⟩ ⟨a1⟩ ⟨a2⟩ ⟨a3⟩ ⟨a4⟩ ⟨a5⟩ ⟨a6⟩ ⟨a7⟩ ⟨a8⟩ ⟨a9⟩ ⟨a10⟩ ⟨a11⟩ ⟨a12⟩ ⟨a13⟩ ⟨a14⟩
theorem zt16 {p0 p1 p2 p3 p4 p5 p6 p7 p8 p9 p10 p11 p12 p13 p14 p15 G : Prop} (a0 : p0) (a1 : p1) (a2 : p2) (a3 : p3) (a4 : p4) (a5 : p5) (a6 : p6) (a7 : p7) (a8 : p8) (a9 : p9) (a10 : p10) (a11 : p11) (a12 : p12) (a13 : p13) (a14 : p14) (a15 : p15) (k : Aside0 p0 → Aside0 p1 → Aside0 p2 → Aside0 p3 → Aside0 p4 → Aside0 p5 → Aside0 p6 → Aside0 p7 → Aside0 p8 → Aside0 p9 → Aside0 p10 → Aside0 p11 → Aside0 p12 → Aside0 p13 → Aside0 p14 → Aside0 p15 → G) : G := k ⟨a0⟩ ⟨a1⟩ ⟨a2⟩ ⟨a3⟩ ⟨a4⟩ ⟨a5⟩ ⟨a6⟩ ⟨a7⟩ ⟨a8⟩ ⟨a9⟩ ⟨a10⟩ ⟨a11⟩ ⟨a12⟩ ⟨a13⟩ ⟨a14⟩ ⟨a15⟩
theorem zs {a b c : Nat} (h : a = b) (k : c ≤ b) : c ≤ a := h ▸ k
theorem zj {α β : Type} {x : Option α} {f : α → Option β} {b : β} (h : x.bind f = some b) : ∃ a, Aside0 (x = some a) ∧ f a = some b := by
 obtain ⟨a, h1, h2⟩ := Option.bind_eq_some_iff.mp h
 exact ⟨a, ⟨h1⟩, h2⟩
theorem zt17 {p0 p1 p2 p3 p4 p5 p6 p7 p8 p9 p10 p11 p12 p13 p14 p15 p16 G : Prop} (a0 : p0) (a1 : p1) (a2 : p2) (a3 : p3) (a4 : p4) (a5 : p5) (a6 : p6) (a7 : p7) (a8 : p8) (a9 : p9) (a10 : p10) (a11 : p11) (a12 : p12) (a13 : p13) (a14 : p14) (a15 : p15) (a16 : p16) (k : Aside0 p0 → Aside0 p1 → Aside0 p2 → Aside0 p3 → Aside0 p4 → Aside0 p5 → Aside0 p6 → Aside0 p7 → Aside0 p8 → Aside0 p9 → Aside0 p10 → Aside0 p11 → Aside0 p12 → Aside0 p13 → Aside0 p14 → Aside0 p15 → Aside0 p16 → G) : G := k ⟨a0⟩ ⟨a1⟩ ⟨a2⟩ ⟨a3⟩ ⟨a4⟩ ⟨a5⟩ ⟨a6⟩ ⟨a7⟩ ⟨a8⟩ ⟨a9⟩ ⟨a10⟩ ⟨a11⟩ ⟨a12⟩ ⟨a13⟩ ⟨a14⟩ ⟨a15⟩ ⟨a16⟩
theorem zt18 {p0 p1 p2 p3 p4 p5 p6 p7 p8 p9 p10 p11 p12 p13 p14 p15 p16 p17 G : Prop} (a0 : p0) (a1 : p1) (a2 : p2) (a3 : p3) (a4 : p4) (a5 : p5) (a6 : p6) (a7 : p7) (a8 : p8) (a9 : p9) (a10 : p10) (a11 : p11) (a12 : p12) (a13 : p13) (a14 : p14) (a15 : p15) (a16 : p16) (a17 : p17) (k : Aside0 p0 → Aside0 p1 → Aside0 p2 → Aside0 p3 → Aside0 p4 → Aside0 p5 → Aside0 p6 → Aside0 p7 → Aside0 p8 → Aside0 p9 → Aside0 p10 → Aside0 p11 → Aside0 p12 → Aside0 p13 → Aside0 p14 → Aside0 p15 → Aside0 p16 → Aside0 p17 → G) : G := k ⟨a0⟩ ⟨a1⟩ ⟨a2⟩ ⟨a3⟩ ⟨a4⟩ ⟨a5⟩ ⟨a6⟩ ⟨a7⟩ ⟨a8⟩ ⟨a9⟩ ⟨a10⟩ ⟨a11⟩ ⟨a12⟩ ⟨a13⟩ ⟨a14⟩ ⟨a15⟩ ⟨a16⟩ ⟨a17⟩
theorem zt19 {p0 p1 p2 p3 p4 p5 p6 p7 p8 p9 p10 p11 p12 p13 p14 p15 p16 p17 p18 G : Prop} (a0 : p0) (a1 : p1) (a2 : p2) (a3 : p3) (a4 : p4) (a5 : p5) (a6 : p6) (a7 : p7) (a8 : p8) (a9 : p9) (a10 : p10) (a11 : p11) (a12 : p12) (a13 : p13) (a14 : p14) (a15 : p15) (a16 : p16) (a17 : p17) (a18 : p18) (k : Aside0 p0 → Aside0 p1 → Aside0 p2 → Aside0 p3 → Aside0 p4 → Aside0 p5 → Aside0 p6 → Aside0 p7 → Aside0 p8 → Aside0 p9 → Aside0 p10 → Aside0 p11 → Aside0 p12 → Aside0 p13 → Aside0 p14 → Aside0 p15 → Aside0 p16 → Aside0 p17 → Aside0 p18 → G) : G := k ⟨a0⟩ ⟨a1⟩ ⟨a2⟩ ⟨a3⟩ ⟨a4⟩ ⟨a5⟩ ⟨a6⟩ ⟨a7⟩ ⟨a8⟩ ⟨a9⟩ ⟨a10⟩ ⟨a11⟩ ⟨a12⟩ ⟨a13⟩ ⟨a14⟩ ⟨a15⟩ ⟨a16⟩ ⟨a17⟩ ⟨a18⟩
theorem zt20 {p0 p1 p2 p3 p4 p5 p6 p7 p8 p9 p10 p11 p12 p13 p14 p15 p16 p17 p18 p19 G : Prop} (a0 : p0) (a1 : p1) (a2 : p2) (a3 : p3) (a4 : p4) (a5 : p5) (a6 : p6) (a7 : p7) (a8 : p8) (a9 : p9) (a10 : p10) (a11 : p11) (a12 : p12) (a13 : p13) (a14 : p14) (a15 : p15) (a16 : p16) (a17 : p17) (a18 : p18) (a19 : p19) (k : Aside0 p0 → Aside0 p1 → Aside0 p2 → Aside0 p3 → Aside0 p4 → Aside0 p5 → Aside0 p6 → Aside0 p7 → Aside0 p8 → Aside0 p9 → Aside0 p10 → Aside0 p11 → Aside0 p12 → Aside0 p13 → Aside0 p14 → Aside0 p15 → Aside0 p16 → Aside0 p17 → Aside0 p18 → Aside0 p19 → G) : G := k ⟨a0⟩ ⟨a1⟩ ⟨a2⟩ ⟨a3⟩ ⟨a4⟩ ⟨a5⟩ ⟨a6⟩ ⟨a7⟩ ⟨a8⟩ ⟨a9⟩ ⟨a10⟩ ⟨a11⟩ ⟨a12⟩ ⟨a13⟩ ⟨a14⟩ ⟨a15⟩ ⟨a16⟩ ⟨a17⟩ ⟨a18⟩ ⟨a19⟩
theorem zt21 {p0 p1 p2 p3 p4 p5 p6 p7 p8 p9 p10 p11 p12 p13 p14 p15 p16 p17 p18 p19 p20 G : Prop} (a0 : p0) (a1 : p1) (a2 : p2) (a3 : p3) (a4 : p4) (a5 : p5) (a6 : p6) (a7 : p7) (a8 : p8) (a9 : p9) (a10 : p10) (a11 : p11) (a12 : p12) (a13 : p13) (a14 : p14) (a15 : p15) (a16 : p16) (a17 : p17) (a18 : p18) (a19 : p19) (a20 : p20) (k : Aside0 p0 → Aside0 p1 → Aside0 p2 → Aside0 p3 → Aside0 p4 → Aside0 p5 → Aside0 p6 → Aside0 p7 → Aside0 p8 → Aside0 p9 → Aside0 p10 → Aside0 p11 → Aside0 p12 → Aside0 p13 → Aside0 p14 → Aside0 p15 → Aside0 p16 → Aside0 p17 → Aside0 p18 → Aside0 p19 → Aside0 p20 → G) : G := k ⟨a0⟩ ⟨a1⟩ ⟨a2⟩ ⟨a3⟩ ⟨a4⟩ ⟨a5⟩ ⟨a6⟩ ⟨a7⟩ ⟨a8⟩ ⟨a9⟩ ⟨a10⟩ ⟨a11⟩ ⟨a12⟩ ⟨a13⟩ ⟨a14⟩ ⟨a15⟩ ⟨a16⟩ ⟨a17⟩ ⟨a18⟩ ⟨a19⟩ ⟨a20⟩
theorem zt22 {p0 p1 p2 p3 p4 p5 p6 p7 p8 p9 p10 p11 p12 p13 p14 p15 p16 p17 p18 p19 p20 p21 G : Prop} (a0 : p0) (a1 : p1) (a2 : p2) (a3 : p3) (a4 : p4) (a5 : p5) (a6 : p6) (a7 : p7) (a8 : p8) (a9 : p9) (a10 : p10) (a11 : p11) (a12 : p12) (a13 : p13) (a14 : p14) (a15 : p15) (a16 : p16) (a17 : p17) (a18 : p18) (a19 : p19) (a20 : p20) (a21 : p21) (k : Aside0 p0 → Aside0 p1 → Aside0 p2 → Aside0 p3 → Aside0 p4 → Aside0 p5 → Aside0 p6 → Aside0 p7 → Aside0 p8 → Aside0 p9 → Aside0 p10 → Aside0 p11 → Aside0 p12 → Aside0 p13 → Aside0 p14 → Aside0 p15 → Aside0 p16 → Aside0 p17 → Aside0 p18 → Aside0 p19 → Aside0 p20 → Aside0 p21 → G) : G := k ⟨a0⟩ ⟨a1⟩ ⟨a2⟩ ⟨a3⟩ ⟨a4⟩ ⟨a5⟩ ⟨a6⟩ ⟨a7⟩ ⟨a8⟩ ⟨a9⟩ ⟨a10⟩ ⟨a11⟩ ⟨a12⟩ ⟨a13⟩ ⟨a14⟩ ⟨a15⟩ ⟨a16⟩ ⟨a17⟩ ⟨a18⟩ ⟨a19⟩ ⟨a20⟩ ⟨a21⟩
theorem zt23 {p0 p1 p2 p3 p4 p5 p6 p7 p8 p9 p10 p11 p12 p13 p14 p15 p16 p17 p18 p19 p20 p21 p22 G : Prop} (a0 : p0) (a1 : p1) (a2 : p2) (a3 : p3) (a4 : p4) (a5 : p5) (a6 : p6) (a7 : p7) (a8 : p8) (a9 : p9) (a10 : p10) (a11 : p11) (a12 : p12) (a13 : p13) (a14 : p14) (a15 : p15) (a16 : p16) (a17 : p17) (a18 : p18) (a19 : p19) (a20 : p20) (a21 : p21) (a22 : p22) (k : Aside0 p0 → Aside0 p1 → Aside0 p2 → Aside0 p3 → Aside0 p4 → Aside0 p5 → Aside0 p6 → Aside0 p7 → Aside0 p8 → Aside0 p9 → Aside0 p10 → Aside0 p11 → Aside0 p12 → Aside0 p13 → Aside0 p14 → Aside0 p15 → Aside0 p16 → Aside0 p17 → Aside0 p18 → Aside0 p19 → Aside0 p20 → Aside0 p21 → Aside0 p22 → G) : G := k ⟨a0⟩ ⟨a1⟩ ⟨a2⟩ ⟨a3⟩ ⟨a4⟩ ⟨a5⟩ ⟨a6⟩ ⟨a7⟩ ⟨a8⟩ ⟨a9⟩ ⟨a10⟩ ⟨a11⟩ ⟨a12⟩ ⟨a13⟩ ⟨a14⟩ ⟨a15⟩ ⟨a16⟩ ⟨a17⟩ ⟨a18⟩ ⟨a19⟩ ⟨a20⟩ ⟨a21⟩ ⟨a22⟩
theorem zt24 {p0 p1 p2 p3 p4 p5 p6 p7 p8 p9 p10 p11 p12 p13 p14 p15 p16 p17 p18 p19 p20 p21 p22 p23 G : Prop} (a0 : p0) (a1 : p1) (a2 : p2) (a3 : p3) (a4 : p4) (a5 : p5) (a6 : p6) (a7 : p7) (a8 : p8) (a9 : p9) (a10 : p10) (a11 : p11) (a12 : p12) (a13 : p13) (a14 : p14) (a15 : p15) (a16 : p16) (a17 : p17) (a18 : p18) (a19 : p19) (a20 : p20) (a21 : p21) (a22 : p22) (a23 : p23) (k : Aside0 p0 → Aside0 p1 → Aside0 p2 → Aside0 p3 → Aside0 p4 → Aside0 p5 → Aside0 p6 → Aside0 p7 → Aside0 p8 → Aside0 p9 → Aside0 p10 → Aside0 p11 → Aside0 p12 → Aside0 p13 → Aside0 p14 → Aside0 p15 → Aside0 p16 → Aside0 p17 → Aside0 p18 → Aside0 p19 → Aside0 p20 → Aside0 p21 → Aside0 p22 → Aside0 p23 → G) : G := k ⟨a0⟩ ⟨a1⟩ ⟨a2⟩ ⟨a3⟩ ⟨a4⟩ ⟨a5⟩ ⟨a6⟩ ⟨a7⟩ ⟨a8⟩ ⟨a9⟩ ⟨a10⟩ ⟨a11⟩ ⟨a12⟩ ⟨a13⟩ ⟨a14⟩ ⟨a15⟩ ⟨a16⟩ ⟨a17⟩ ⟨a18⟩ ⟨a19⟩ ⟨a20⟩ ⟨a21⟩ ⟨a22⟩ ⟨a23⟩
theorem vb {α : Type} {d : Kd α} {e base : Nat} {W0 W W1 : World} {ok : Nat → Prop} {v : Value} {xs : List α} (h : Aside0 (Kd.V d e W0 base ok v xs)) (hb : Below W.heap.size W W1) (k : Kd.V d e W0 base ok v xs → Kd.V d e W base ok v xs := by intro h; (with_reducible repeat (first | apply Kd.V_alloc | apply Kd.V_drewN | apply Kd.V_drew)); exact h) : Kd.V d e W1 base ok v xs := Kd.V_below (k h.out) hb
theorem rb {α : Type} {d : Kd α} {e base : Nat} {W0 W W1 : World} {ok : Nat → Prop} {v : Value} {xs : List α} (h : Aside0 (Kd.R d e W0 base ok v xs)) (hb : Below W.heap.size W W1) (k : Kd.R d e W0 base ok v xs → Kd.R d e W base ok v xs := by intro h; (with_reducible repeat (first | apply Kd.R_alloc | apply Kd.R_drewN | apply Kd.R_drew)); exact h) : Kd.R d e W1 base ok v xs := Kd.R_below (k h.out) hb
theorem zv3 {α : Type} {d : Kd α} {e base : Nat} {W : World} {ok : Nat → Prop} {v : Value} {xs : List α} (g : Nat) (v0 v1 v2 : Value) (h : Kd.V d e W base ok v xs) (hne : ∀ k, ok k → k ≠ g) : Kd.V d e (((W.setCell ⟨g, 0, none⟩ v0).setCell ⟨g, 1, none⟩ v1).setCell ⟨g, 2, none⟩ v2) base (fun k => ok k ∧ k ≠ g) v xs := Kd.V_far (p := ⟨g, 2, none⟩) (Kd.V_far (p := ⟨g, 1, none⟩) (Kd.V_far (p := ⟨g, 0, none⟩) (Kd.V_mono h (fun k hk => ⟨hk, hne k hk⟩)) (fun _ hk => hk.2) v0) (fun _ hk => hk.2) v1) (fun _ hk => hk.2) v2
theorem zwV {q p : Prop} (k : q → p := by intro h; (with_reducible repeat (first | apply Kd.V_alloc | apply Kd.V_drewN | apply Kd.V_drew)); exact h) (h : q) : p := k h
theorem zwR {q p : Prop} (k : q → p := by intro h; (with_reducible repeat (first | apply Kd.R_alloc | apply Kd.R_drewN | apply Kd.R_drew)); exact h) (h : q) : p := k h
end Go.Proofs.YtemnjgkicndmjaaDoor.Q
namespace Go.Proofs.YtemnjgkicndmjaaDoor.Q
open Go.RowKit Go.Proofs.YtemnjgkicndmjaaDoorW.PrintWords Go.Proofs.YtemnjgkicndmjaaDoorW.PrintLast Go.Proofs.YtemnjgkicndmjaaDoorW.PrintMore
attribute [local go_sem] max2_int min2_int max_two min_two max_three min_three max_four min_four
set_option linter.unusedVariables false
set_option linter.unusedSimpArgs false
def errW : Option Int → Value
 | none => .nilIface
 | some c => .iface 0 (.int .i64 c)
theorem errW_none : errW none = .nilIface := rfl
theorem errW_some (c : Int) : errW (some c) = .iface 0 (.int .i64 c) := rfl
theorem info3 : (Tryd.prog.info? 3).map (fun i => (i.zero, i.size, i.bytes)) = some (some (.int .i64 0), 1, 8) := by kernel_rfl
theorem info5 : (Tryd.prog.info? 5).map (fun i => (i.zero, i.size, i.bytes)) = some (some (.int .u8 0), 1, 1) := by kernel_rfl
theorem info55 : (Tryd.prog.info? 55).map (fun i => (i.zero, i.size, i.bytes)) = some (some (.int .u32 0), 1, 4) := by kernel_rfl
structure S24 where
 f0 : Bool
 f1 : (List Int)
 f2 : (List Int)
def number_Check_1.f (l0 : List Int) : Option (Bool) := if (l0.length : Int) > 0 then (if 0 ≤ (wrap64 ((l0.length : Int) - 1)) then (if (wrap64 ((l0.length : Int) - 1)) < (l0.length : Int) then (some ((rd l0 (wrap64 ((l0.length : Int) - 1))) == 0)) else (none)) else (none)) else (some false)
set_option maxHeartbeats 8000000 in
set_option maxRecDepth 100000 in
theorem number_Check_1.calls (A0 : Option Addr) (c0 : Nat) (l0 : List Int) (r : Bool) (w : World) (hr0 : Kd.C (Kd.int .u32) w A0 l0.length l0) (hc0 : l0.length ≤ c0) (h : number_Check_1.f l0 = some r) :
  Calls Tryd.prog 42 #[.slice A0 l0.length c0] w fun e w' => e = .returned (.bool r) ∧ Drawn0 w w' := by
 have HR0 := am hr0
 have HC0 := am hc0
 clear hr0 hc0
 have H := h
 unfold number_Check_1.f at H
 clear h
 by_cases c2 : (l0.length : Int) > 0
 ·rw [if_pos c2] at H
  have c2b0 : decide (0 < (l0.length : Int)) = true := decide_eq_true c2
  have c2b1 : decide (0 < l0.length) = true := decide_eq_true (by omega)
  clear c2
  obtain ⟨ji3, hji3⟩ : ∃ j_ : Int, (wrap64 ((l0.length : Int) - 1)) = j_ := ⟨_, rfl⟩
  replace H : (if 0 ≤ (ji3) then (if (ji3) < (l0.length : Int) then (some ((rd l0 (ji3)) == 0)) else (none)) else (none)) = some r := by first | (rw [hji3] at H; exact H) | (simp only [hji3] at H ⊢; exact H)
  have hji3w : (IntKind.i64.wrap ((l0.length : Int) - 1)) = ji3 := (i64_w _).trans hji3
  replace H := zn H
  obtain ⟨c4, H⟩ := H
  have c4b0 := decide_eq_true c4
  clear c4
  replace H := zn H
  obtain ⟨c5, H⟩ := H
  have c5b0 := decide_eq_true c5
  clear c5
  obtain rfl := Option.some.inj H
  have p101 : 0 ≤ ((ji3) : Int) := zq6
  have q101 : (ji3) < (l0.length : Int) := zq6
  obtain ⟨ad101, e101, hx101_0⟩ := Kd.at_int HR0.out (ji3) p101 q101
  cases e101
  replace p101 := eq_true p101
  replace q101 := eq_true q101
  go_enter Tryd.func42, Tryd.ntmps42
  go_wp2
  go_ret
  exact ⟨by first | rfl | (simp; done) | (simp only [← hji3] <;> (first | rfl | simp)) | (simp [*]; done), by repeat (first | exact Drawn0.refl _ | apply Drawn0.step)⟩
 ·rw [if_neg c2] at H
  have c2b0 : decide (0 < (l0.length : Int)) = false := decide_eq_false c2
  have c2b1 : decide (0 < l0.length) = false := decide_eq_false (by omega)
  clear c2
  obtain rfl := Option.some.inj H
  go_enter Tryd.func42, Tryd.ntmps42
  go_wp2
  go_ret
  exact ⟨by first | rfl | (simp; done) | (simp [*]; done), by repeat (first | exact Drawn0.refl _ | apply Drawn0.step)⟩
def nat_IsOne.f (l0 : List Int) : Option (Bool) := if (l0.length : Int) = 1 then (if 0 < (l0.length : Int) then (some ((rd l0 0) == 1)) else (none)) else (some false)
set_option maxHeartbeats 8000000 in
set_option maxRecDepth 100000 in
theorem nat_IsOne.calls (A0 : Option Addr) (c0 : Nat) (l0 : List Int) (r : Bool) (w : World) (hr0 : Kd.C (Kd.int .u32) w A0 l0.length l0) (hc0 : l0.length ≤ c0) (h : nat_IsOne.f l0 = some r) :
  Calls Tryd.prog 43 #[.slice A0 l0.length c0] w fun e w' => e = .returned (.bool r) ∧ Drawn0 w w' := by
 have HR0 := am hr0
 have HC0 := am hc0
 clear hr0 hc0
 have H := h
 unfold nat_IsOne.f at H
 clear h
 by_cases c2 : (l0.length : Int) = 1
 ·rw [if_pos c2] at H
  have c2b0 : ((l0.length : Int) == 1) = true := beq_iff_eq.mpr c2
  have c2b1 : ((l0.length : Int) != 1) = false := bne_eq_false_iff_eq.mpr c2
  clear c2
  replace H := zn H
  obtain ⟨c3, H⟩ := H
  have c3b0 := decide_eq_true c3
  have c3b1 : decide (0 < l0.length) = true := decide_eq_true (by omega)
  clear c3
  obtain rfl := Option.some.inj H
  have p102 : 0 ≤ (0 : Int) := (by omega)
  have q102 : 0 < (l0.length : Int) := zq6
  obtain ⟨ad102, e102, hx102_0⟩ := Kd.at_int HR0.out 0 p102 q102
  cases e102
  have qi102 : (0 < l0.length) = True := eq_true (by omega)
  (try rw [show ((0 : Int)).toNat = 0 from rfl] at hx102_0)
  (try rw [Addr.add_zero'] at hx102_0)
  replace p102 := eq_true p102
  replace q102 := eq_true q102
  go_enter Tryd.func43, Tryd.ntmps43
  go_wp2
  go_ret
  exact ⟨by first | rfl | (simp; done) | (simp [*]; done), by repeat (first | exact Drawn0.refl _ | apply Drawn0.step)⟩
 ·rw [if_neg c2] at H
  have c2b0 : ((l0.length : Int) == 1) = false := beq_eq_false_iff_ne.mpr c2
  have c2b1 : ((l0.length : Int) != 1) = true := bne_iff_ne.mpr c2
  obtain rfl := Option.some.inj H
  go_enter Tryd.func43, Tryd.ntmps43
  go_wp2
  go_ret
  exact ⟨by first | rfl | (simp; done) | (simp [*]; done), by repeat (first | exact Drawn0.refl _ | apply Drawn0.step)⟩
def slices_Clone_uint32_uint32.f (l0 : List Int) : Option (List Int) := if l0.length < 35184372088832 then some l0 else none
set_option maxHeartbeats 8000000 in
set_option maxRecDepth 100000 in
theorem slices_Clone_uint32_uint32.calls (A0 : Option Addr) (c0 : Nat) (l0 : List Int) (r : List Int) (w : World) (hr0 : Kd.C (Kd.int .u32) w A0 l0.length l0) (hc0 : l0.length ≤ c0) (h : slices_Clone_uint32_uint32.f l0 = some r) :
  Calls Tryd.prog 95 #[.slice A0 l0.length c0] w fun e w' => ∃ v0_ : Value, e = .returned (v0_) ∧ Kd.R (Kd.int .u32) 55 w' w.heap.size (fun _ => True) v0_ r ∧ Below w.heap.size w w' := by
 unfold slices_Clone_uint32_uint32.f at h
 split at h
 ·rename_i hlim
  obtain rfl := Option.some.inj h
  clear h
  rcases A0 with _ | ad
  ·have h0 : l0 = [] := by
    rcases Nat.eq_zero_or_pos l0.length with h0 | h0
    ·exact List.eq_nil_of_length_eq_zero h0
    ·obtain ⟨ad, h, _⟩ := Kd.at_int hr0 0 (by omega) (by omega)
     cases h
   subst h0
   clear hr0 hc0 hlim
   have hn1 : ∀ W : World, (binOp .eql 22 (.slice none ([] : List Int).length c0) (.slice none 0 0)).run Tryd.prog W = .ok (.bool true) W := fun W => Lib.run_eql_slice_nil W 22 55 none _ c0 0 0 Tryd.underlying22
   have hn2 : ∀ W : World, (binOp .eql 22 (.slice none 0 c0) (.slice none 0 0)).run Tryd.prog W = .ok (.bool true) W := fun W => Lib.run_eql_slice_nil W 22 55 none _ c0 0 0 Tryd.underlying22
   go_enter Tryd.func95, Tryd.ntmps95
   go_wp2
   go_ret
   exact ⟨_, rfl, Kd.R_nil _ _ _ _ _, Below.refl _ _⟩
  ·have HR0 := am hr0
   have HL0 := am hlim
   clear hr0 hc0 hlim
   have hn1 : ∀ W : World, (binOp .eql 22 (.slice (some ad) l0.length c0) (.slice none 0 0)).run Tryd.prog W = .ok (.bool false) W := fun W => Lib.run_eql_slice_nil W 22 55 (some ad) _ c0 0 0 Tryd.underlying22
   go_enter Tryd.func95, Tryd.ntmps95
   go_wp2_with (first | ((with_reducible refine gate_dst (N := 5) rfl ?_); refine Kd.R_lit (Kd.int .u32) _ 55 ?hg (N := 5) ?hd (xs := ([] : List Int)) (inner := []) (ok := fun _ => True) (okp := fun _ => True) ?hr ?hp (fun _ hk => hk) trivial (Below.refl _ _) (Nat.le_refl _) (by simp) ?_; (case hd => rfl); (case hg => rfl); (case hr => exact zr); (case hp => exact Reps.none _ _); intro v109 w3 ho4 hb hg_ hnew_; have HO := am ho4; have HB := am hb; clear hg_ hnew_ ho4 hb) | (at_builtin; refine Kd.R_append_rows (Kd.int .u32) (w0 := w) w.heap.size rfl (.tmp 5) (.tmp 6) 22 55 (.int .u32 0) 4 rfl Tryd.underlying22 info55 rfl (by decide) (by omega) v109 [] l0 _ _ _ (fun _ => True) (fun _ => False) rfl rfl ?aO ?aR (fun _ _ h => h) (fun _ h => h.elim) ?aF ?aB ?aS ?aL ?_; (case aR => exact Kd.C_below HR0.out HB.out); (case aB => exact HB.out); (case aF => exact fun _ _ => trivial); (case aO => exact HO.out); (case aS => exact HB.out.size); (case aL => have := HL0.out; simp; omega); intro v226 w24 ho hb hg hat; have HO2 := am ho; have HB2 := am hb; clear ho hb hg hat))
   go_ret
   exact ⟨_, rfl, by simpa using HO2.out, HB2.out⟩
 ·cases h
def copy_e55.f (l0 : List Int) (l1 : List Int) : Option (Int × List Int) := some (mn (l0.length : Int) (l1.length : Int), l1.take l0.length ++ l0.drop l1.length)
theorem copy_e55.calls (P0_ : Nat → Prop) (u9000_ : Value) (l0 : List Int) (A1 : Option Addr) (c1 : Nat) (l1 : List Int) (r1 : Int) (r2 : List Int) (w0 w : World) (hB : Below w0.heap.size w0 w) (ho0 : Kd.R (Kd.int .u32) 55 w w0.heap.size P0_ u9000_ l0) (hr1 : ∀ W_, Kept w W_ (fun k_ => P0_ k_) → Kd.C (Kd.int .u32) W_ A1 l1.length l1) (hc1 : l1.length ≤ c1) (h : copy_e55.f l0 l1 = some (r1, r2)) :
  CopyCalls Tryd.prog 22 #[u9000_, .slice A1 l1.length c1] w fun e w' => e = .returned (.int .i64 r1) ∧ Kd.R (Kd.int .u32) 55 w' w0.heap.size (fun k_ => (P0_ k_ ∨ w.heap.size ≤ k_)) u9000_ r2 ∧ Below w0.heap.size w0 w' ∧ Kept w w' (fun k_ => P0_ k_) := by
 simp only [copy_e55.f, Option.some.injEq, Prod.mk.injEq] at h
 obtain ⟨rfl, rfl⟩ := h
 exact copy_calls_any Tryd.underlying22 (by kernel_rfl) P0_ u9000_ l0 A1 c1 l1 w0 w hB ho0 hr1
def nat_Trim.l0 : Nat → List Int → Option (List Int)
 | 0, _ => none
 | k + 1, x0 => if (x0.length : Int) > 0 then (if 0 ≤ (wrap64 ((x0.length : Int) - 1)) then (if (wrap64 ((x0.length : Int) - 1)) < (x0.length : Int) then (if (rd x0 (wrap64 ((x0.length : Int) - 1))) = 0 then (if (wrap64 ((x0.length : Int) - 1)) ≤ (x0.length : Int) then (nat_Trim.l0 k (x0.take ((wrap64 ((x0.length : Int) - 1)) : Int).toNat)) else (none)) else (some x0)) else (none)) else (none)) else (some x0)
def nat_Trim.f (k : Nat) (l0 : List Int) : Option (List Int) := nat_Trim.l0 k l0
theorem nat_Trim.mono_l : ∀ k, (∀ y0, LeO (nat_Trim.l0 k y0) (nat_Trim.l0 (k + 1) y0))
 | 0 => fun _ r h => by simp [nat_Trim.l0] at h
 | k + 1 => by
  have ih0 := nat_Trim.mono_l k
  ·intro y0
   unfold nat_Trim.l0
   have m0 := ih0
   exact zm
theorem nat_Trim.mono : ∀ a0 k, LeO (nat_Trim.f k a0) (nat_Trim.f (k + 1) a0) := by
 intro a0 k
 have ih0 := nat_Trim.mono_l k
 unfold nat_Trim.f
 have m0 := ih0
 exact zm
set_option maxHeartbeats 8000000 in
set_option maxRecDepth 100000 in
theorem nat_Trim.calls (k : Nat) (P0_ : Nat → Prop) (A0 : Option Addr) (c0 : Nat) (l0 : List Int) (r : List Int) (w : World) (hs0 : Kd.V (Kd.int .u32) 55 w w.heap.size (fun k_ => P0_ k_) (.slice A0 l0.length c0) l0) (h : nat_Trim.f k l0 = some r) :
  Calls Tryd.prog 86 #[.slice A0 l0.length c0] w fun e w' => ∃ v0_ : Value, e = .returned (v0_) ∧ Kd.V (Kd.int .u32) 55 w' w.heap.size (fun k_ => (P0_ k_ ∨ w.heap.size ≤ k_)) v0_ r ∧ Below w.heap.size w w' := by
 have HO0 := am (show Kd.V (Kd.int .u32) 55 w w.heap.size (fun k_ => (P0_ k_ ∨ w.heap.size ≤ k_)) (.slice A0 l0.length c0) l0 from Kd.V_mono hs0 (fun k_ hk => .inl hk))
 have HB := am (Below.refl w.heap.size w)
 have H := h
 unfold nat_Trim.f at H
 clear h
 have H' := am H
 clear H
 go_enter Tryd.func86, Tryd.ntmps86
 go_wp2
 go_loopg [0] k (fun kq v0 w' => ∃ (x0_1 : List Int), Aside0 (nat_Trim.l0 kq x0_1 = some r) ∧ Aside0 (kq ≤ k) ∧ Aside0 (Kd.V (Kd.int .u32) 55 w' w.heap.size (fun k_ => (P0_ k_ ∨ w.heap.size ≤ k_)) v0 x0_1) ∧ Aside0 (Below w.heap.size w w'))
 case atStart => exact ⟨(l0), H', ⟨Nat.le_refl _⟩, ⟨zq3 HO0.out⟩, ⟨zq1⟩⟩
 case round =>
  clear H'
  obtain ⟨x0_1, HA, HK1, HO_0, HB⟩ := hrel
  cases gk with
  | zero => exact absurd HA.out (by simp [nat_Trim.l0])
  | succ k1 =>
   have H := HA.out
   clear HA
   simp only [nat_Trim.l0] at H
   by_cases c2 : (x0_1.length : Int) > 0
   ·rw [if_pos c2] at H
    have c2b0 : decide (0 < (x0_1.length : Int)) = true := decide_eq_true c2
    have c2b1 : decide (0 < x0_1.length) = true := decide_eq_true (by omega)
    clear c2
    obtain ⟨ji3, hji3⟩ : ∃ j_ : Int, (wrap64 ((x0_1.length : Int) - 1)) = j_ := ⟨_, rfl⟩
    replace H : (if 0 ≤ (ji3) then (if (ji3) < (x0_1.length : Int) then (if (rd x0_1 (ji3)) = 0 then (if (ji3) ≤ (x0_1.length : Int) then (nat_Trim.l0 k1 (x0_1.take ((ji3) : Int).toNat)) else (none)) else (some x0_1)) else (none)) else (none)) = some r := by first | (rw [hji3] at H; exact H) | (simp only [hji3] at H ⊢; exact H)
    have hji3w : (IntKind.i64.wrap ((x0_1.length : Int) - 1)) = ji3 := (i64_w _).trans hji3
    replace H := zn H
    obtain ⟨c4, H⟩ := H
    have c4b0 := decide_eq_true c4
    clear c4
    replace H := zn H
    obtain ⟨c5, H⟩ := H
    have c5b0 := decide_eq_true c5
    clear c5
    by_cases c6 : (rd x0_1 (ji3)) = 0
    ·rw [if_pos c6] at H
     have c6b0 : ((rd x0_1 (ji3)) == 0) = true := beq_iff_eq.mpr c6
     have c6b1 : ((rd x0_1 (ji3)) != 0) = false := bne_eq_false_iff_eq.mpr c6
     clear c6
     have c7b0 := eq_true (zq6 : 0 ≤ (ji3))
     replace H := zn H
     obtain ⟨c8, H⟩ := H
     have c8b0 := eq_true c8
     have c8b1 := decide_eq_true c8
     clear c8
     obtain ⟨y104, hy104⟩ : ∃ y_ : List Int, y_ = (x0_1.take ((ji3) : Int).toNat) := ⟨_, rfl⟩
     try rw [← hy104] at H
     have Ny104 := am hy104
     clear hy104
     have H' := am H
     clear H
     obtain ⟨Ao9, co9, eo9⟩ := Kd.V_slice HO_0.out
     subst eo9
     have p103 : 0 ≤ ((ji3) : Int) := zq6
     have q103 : (ji3) < (x0_1.length : Int) := zq6
     obtain ⟨ad103, e103, hx103_0⟩ := Kd.at_int (Kd.V_reads' HO_0.out).2.2 (ji3) p103 q103
     cases e103
     replace p103 := eq_true p103
     replace q103 := eq_true q103
     have q10 : ((ji3) : Int) ≤ ((x0_1.length : Int) : Int) := zq6
     obtain ⟨i010, hi010, _, hsz10, _⟩ := info_parts info55
     have hroom10 : x0_1.length ≤ co9 := (Kd.V_reads' HO_0.out).2.1
     have hC10 : Kd.F (Kd.int .u32) _ _ (some ad103) x0_1.length x0_1 := (Kd.V_at (base := w.heap.size) HO_0.out).2.2
     have hcut10 := cut_to (P := Tryd.prog) 22 55 .i64 Tryd.underlying22 hi010 (some ad103) x0_1.length co9 (ji3) zq6 q10 hroom10
     have hr10 := Kd.F_take (m := ((ji3) : Int).toNat) hC10 (by omega)
     have hy10 : y104.length = ((ji3) : Int).toNat := (by rw [Ny104.out, List.length_take]; omega)
     rw [← Ny104.out] at hr10
     rw [← hy10] at hcut10
     have HO108 := am (show Kd.V (Kd.int .u32) 55 _ w.heap.size _ (.slice (some ad103) y104.length co9) y104 from Kd.V_mk (by omega) hr10)
     have HC108 := am (show y104.length ≤ co9 from by omega)
     clear hr10 hC10 hroom10 hi010 hsz10
     have KY10 := am hy10
     clear hy10
     replace q10 := eq_true q10
     go_wp2
     go_roundg k1
     case measure => have := HK1.out; omega
     case rel => exact ⟨(y104), (by first | exact H' | (rw [hji3]; exact H')), ⟨by have := HK1.out; omega⟩, ⟨zq3 HO108.out⟩, ⟨zq1⟩⟩
    ·rw [if_neg c6] at H
     have c6b0 : ((rd x0_1 (ji3)) == 0) = false := beq_eq_false_iff_ne.mpr c6
     have c6b1 : ((rd x0_1 (ji3)) != 0) = true := bne_iff_ne.mpr c6
     obtain rfl := Option.some.inj H
     obtain ⟨Ao11, co11, eo11⟩ := Kd.V_slice HO_0.out
     subst eo11
     have p103 : 0 ≤ ((ji3) : Int) := zq6
     have q103 : (ji3) < (x0_1.length : Int) := zq6
     obtain ⟨ad103, e103, hx103_0⟩ := Kd.at_int (Kd.V_reads' HO_0.out).2.2 (ji3) p103 q103
     cases e103
     replace p103 := eq_true p103
     replace q103 := eq_true q103
     go_wp2
     go_ret
     exact ⟨_, by first | rfl | (simp [errW_none, errW_some] <;> rfl) | (simp only [← hji3]; first | rfl | (simp [errW_none, errW_some] <;> rfl)) | (simp [*, errW_none, errW_some] <;> rfl), zq3 HO_0.out, zq1⟩
   ·rw [if_neg c2] at H
    have c2b0 : decide (0 < (x0_1.length : Int)) = false := decide_eq_false c2
    have c2b1 : decide (0 < x0_1.length) = false := decide_eq_false (by omega)
    clear c2
    obtain rfl := Option.some.inj H
    obtain ⟨Ao12, co12, eo12⟩ := Kd.V_slice HO_0.out
    subst eo12
    go_wp2
    go_ret
    exact ⟨_, zq9, zq3 HO_0.out, zq1⟩
def nat_Of.f (k : Nat) (a0 : Int) : Option (List Int) := (nat_Trim.f k (([(a0) % 4294967296, (a0 / 4294967296) % 4294967296] : List Int))).bind fun t112 => (some t112)
theorem nat_Of.mono : ∀ a0 k, LeO (nat_Of.f k a0) (nat_Of.f (k + 1) a0) := by
 intro a0 k
 unfold nat_Of.f
 have m0 := @nat_Trim.mono
 exact zm
set_option maxHeartbeats 8000000 in
set_option maxRecDepth 100000 in
theorem nat_Of.calls (k : Nat) (a0 : Int) (r : List Int) (w : World) (h : nat_Of.f k a0 = some r) :
  Calls Tryd.prog 79 #[.int .u64 a0] w fun e w' => ∃ v0_ : Value, e = .returned (v0_) ∧ Kd.V (Kd.int .u32) 55 w' w.heap.size (fun k_ => (w.heap.size ≤ k_)) v0_ r ∧ Below w.heap.size w w' := by
 have HB := am (Below.refl w.heap.size w)
 have H := h
 unfold nat_Of.f at H
 clear h
 obtain ⟨y109, hy109⟩ : ∃ y_ : List Int, y_ = (([(a0) % 4294967296, (a0 / 4294967296) % 4294967296] : List Int)) := ⟨_, rfl⟩
 try rw [← hy109] at H
 have Ny109 := am hy109
 clear hy109
 replace H := zj H
 obtain ⟨t112, A2, H⟩ := H
 obtain rfl := Option.some.inj H
 go_enter Tryd.func79, Tryd.ntmps79
 go_wp2_with (first | ((with_reducible refine gate_dst (N := 8) rfl ?_); refine Kd.R_lit (Kd.int .u32) _ 55 ?hg (N := 8) ?hd (xs := ([(a0) % 4294967296, (a0 / 4294967296) % 4294967296] : List Int)) (inner := [.int .u32 ((a0) % 4294967296), .int .u32 ((a0 / 4294967296) % 4294967296)]) (ok := fun _ => True) (okp := fun _ => True) ?hr ?hp (fun _ hk => hk) trivial (Below.refl _ _) (Nat.le_refl _) (by simp) ?_; (case hd => rfl); (case hg => rfl); (case hr => exact zr); (case hp => exact (Reps.one (show Kd.M (Kd.int .u32) _ _ _ ((a0) % 4294967296) [.int .u32 ((a0) % 4294967296)] from rfl) (Reps.one (show Kd.M (Kd.int .u32) _ _ _ ((a0 / 4294967296) % 4294967296) [.int .u32 ((a0 / 4294967296) % 4294967296)] from rfl) (Reps.none _ _)))); intro v110 w3 ho4 hb hg_ hnew_; clear hg_ hnew_; (first | rw [← Ny109.out] at ho4 | (simp only [Int.reduceToNat] at ho4; rw [← Ny109.out] at ho4)); refine zt2 (Kd.R_lower (Kd.R_newM (M := fun k_ => (w.heap.size ≤ k_)) ho4 (below_size zq1) (fun k_ h_ => h_)) (below_size zq1)) (below_step zq1 hb) ?_; clear HB; intro HO111 HB; clear hb ho4; obtain ⟨Ao5, co5, eo5⟩ := Kd.R_slice HO111.out; subst eo5) | ((with_reducible refine gate_callee (f := 86) rfl ?_); refine goesL_ (some 9) rfl rfl Tryd.func86 (by kernel_rfl) rfl #[.slice Ao5 y109.length co5] rfl zq5 ?_; (with_reducible refine (nat_Trim.calls k (fun k_ => some k_ = (.slice Ao5 y109.length co5 : Value).ownBlock) _ _ y109 t112 _ ?side1 A2.out).mono ?_); (case side1 => exact Kd.R_V (Kd.R_tight rfl (HO111.out))); rintro e w6 ⟨v113, rfl, ho0, hb⟩; refine ⟨_, rfl, ?_⟩; refine zt3 (rb HO111 hb) (Kd.V_lower (Kd.V_mono (ok' := fun k_ => (w.heap.size ≤ k_)) ho0 (fun k_ hk_ => Or.elim hk_ (fun hs_ => ((HO111.out).1 k_ hs_.symm).1) (fun hn_ => (Nat.le_trans (below_size zq1) hn_)))) (below_size zq1)) (below_step zq1 hb) ?_; clear HO111 HB; intro HO111 HO114 HB))
 go_ret
 exact ⟨_, zq9, zq3 HO114.out, zq1⟩
def nat_DivSmall.l0 : Nat → List Int → Int → List Int → Int → Int → Option (List Int × Int)
 | 0, _, _, _, _, _ => none
 | k + 1, x0, x1, x6, x7, x8 => if x8 ≥ 0 then (if 0 ≤ x8 then (if x8 < (x0.length : Int) then (if (IntKind.u64.wrap (x1)) = 0 then (none) else (if x8 < (x6.length : Int) then (nat_DivSmall.l0 k x0 x1 (x6.set (x8 : Int).toNat ((IntKind.u64.wrap (Int.tdiv (Go.bits .or .u64 (IntKind.u64.wrap (x7 * 4294967296)) (IntKind.u64.wrap (rd x0 x8))) (IntKind.u64.wrap (x1)))) % 4294967296)) (Int.tmod (Go.bits .or .u64 (IntKind.u64.wrap (x7 * 4294967296)) (IntKind.u64.wrap (rd x0 x8))) (IntKind.u64.wrap (x1))) (wrap64 (x8 - 1))) else (none))) else (none)) else (none)) else ((nat_Trim.f k x6).bind fun t120 => (some (t120, (x7) % 4294967296)))
def nat_DivSmall.f (k : Nat) (l0 : List Int) (a1 : Int) : Option (List Int × Int) := if 0 ≤ (l0.length : Int) then (if ((l0.length : Int) : Int).toNat ≤ 70368744177664 then (nat_DivSmall.l0 k l0 a1 (List.replicate ((l0.length : Int) : Int).toNat 0) 0 (wrap64 ((l0.length : Int) - 1))) else (none)) else (none)
theorem nat_DivSmall.mono_l : ∀ k, (∀ y0 y1 y2 y3 y4, LeO (nat_DivSmall.l0 k y0 y1 y2 y3 y4) (nat_DivSmall.l0 (k + 1) y0 y1 y2 y3 y4))
 | 0 => fun _ _ _ _ _ r h => by simp [nat_DivSmall.l0] at h
 | k + 1 => by
  have ih0 := nat_DivSmall.mono_l k
  ·intro y0 y1 y2 y3 y4
   unfold nat_DivSmall.l0
   have m0 := ih0
   have m1 := @nat_Trim.mono
   exact zm
theorem nat_DivSmall.mono : ∀ a0 a1 k, LeO (nat_DivSmall.f k a0 a1) (nat_DivSmall.f (k + 1) a0 a1) := by
 intro a0 a1 k
 have ih0 := nat_DivSmall.mono_l k
 unfold nat_DivSmall.f
 have m0 := ih0
 have m1 := @nat_Trim.mono
 exact zm
set_option maxHeartbeats 8000000 in
set_option maxRecDepth 100000 in
theorem nat_DivSmall.calls (k : Nat) (A0 : Option Addr) (c0 : Nat) (l0 : List Int) (a1 : Int) (r1 : List Int) (r2 : Int) (w : World) (hr0 : Kd.C (Kd.int .u32) w A0 l0.length l0) (hc0 : l0.length ≤ c0) (h : nat_DivSmall.f k l0 a1 = some (r1, r2)) :
  Calls Tryd.prog 100 #[.slice A0 l0.length c0, .int .u32 a1] w fun e w' => ∃ v0_ : Value, e = .returned (.tuple #[v0_, .int .u32 r2]) ∧ Kd.V (Kd.int .u32) 55 w' w.heap.size (fun k_ => (w.heap.size ≤ k_)) v0_ r1 ∧ Below w.heap.size w w' := by
 have HR0 := am hr0
 have HC0 := am hc0
 clear hr0 hc0
 have HB := am (Below.refl w.heap.size w)
 have H := h
 unfold nat_DivSmall.f at H
 clear h
 replace H := zn H
 obtain ⟨c3, H⟩ := H
 have c3b0 := eq_true c3
 have c3b1 := decide_eq_true c3
 clear c3
 replace H := zn H
 obtain ⟨c4, H⟩ := H
 have c4b0 := eq_true c4
 have c4b1 := decide_eq_true c4
 clear c4
 obtain ⟨y115, hy115⟩ : ∃ y_ : List Int, y_ = (List.replicate ((l0.length : Int) : Int).toNat 0) := ⟨_, rfl⟩
 try rw [← hy115] at H
 have Ny115 := am hy115
 clear hy115
 have H' := am H
 clear H
 go_enter Tryd.func100, Tryd.ntmps100
 go_wp2_with (first | ((with_reducible refine gate_dst (N := 11) rfl ?_); refine Kd.R_make (Kd.int .u32) _ 55 rfl (N := 11) rfl 22 _ _ rfl (l0.length : Int) rfl rfl Tryd.underlying22 (.int .u32 0) 4 info55 rfl (by decide) (by omega) 0 (ok := fun _ => True) (okp := fun _ => True) rfl (fun _ hk => hk) trivial zq6 (Nat.le_trans (Nat.mul_le_mul_right _ (zq6 : (l0.length : Int).toNat ≤ 70368744177664)) (by omega)) (Below.refl _ _) (Nat.le_refl _) ?_; intro v116 w5 ho6 hb hg_ hnew_; clear hg_ hnew_; (first | rw [← Ny115.out] at ho6 | (simp only [Int.reduceToNat] at ho6; rw [← Ny115.out] at ho6)); refine zt2 (Kd.R_lower (Kd.R_newM (M := fun k_ => (w.heap.size ≤ k_)) ho6 (below_size zq1) (fun k_ h_ => h_)) (below_size zq1)) (below_step zq1 hb) ?_; clear HB; intro HO117 HB; clear hb ho6))
 go_loopg [7, 8] k (fun kq v7 v8 w' => ∃ (x6_1 : List Int) (x7_1 : Int) (x8_1 : Int), v7 = .int .u64 x7_1 ∧ v8 = .int .i64 x8_1 ∧ Aside0 (nat_DivSmall.l0 kq l0 a1 x6_1 x7_1 x8_1 = some (r1, r2)) ∧ Aside0 (kq ≤ k) ∧ Aside0 (Kd.R (Kd.int .u32) 55 w' w.heap.size (fun k_ => (w.heap.size ≤ k_)) v116 x6_1) ∧ Aside0 (Below w.heap.size w w'))
 case atStart => exact ⟨(y115), (0), (wrap64 ((l0.length : Int) - 1)), zq8, zq8, H', ⟨Nat.le_refl _⟩, ⟨zwR (h := by exact Kd.R_mono HO117.out (fun _ hk => hk.1))⟩, ⟨zq1⟩⟩
 case round =>
  clear H'
  obtain ⟨x6_1, x7_1, x8_1, rfl, rfl, HA, HK1, HO_6, HB⟩ := hrel
  cases gk with
  | zero => exact absurd HA.out (by simp [nat_DivSmall.l0])
  | succ k1 =>
   have H := HA.out
   clear HA
   simp only [nat_DivSmall.l0] at H
   by_cases c7 : x8_1 ≥ 0
   ·rw [if_pos c7] at H
    have c7b0 : decide (0 ≤ x8_1) = true := decide_eq_true c7
    clear c7
    replace H := zn H
    obtain ⟨c8, H⟩ := H
    have c8b0 := decide_eq_true c8
    clear c8
    replace H := zn H
    obtain ⟨c9, H⟩ := H
    have c9b0 := decide_eq_true c9
    clear c9
    replace H := zo H
    obtain ⟨c10, H⟩ := H
    have c10b0 : ((IntKind.u64.wrap (a1)) == 0) = false := beq_eq_false_iff_ne.mpr c10
    have c10b1 : ((IntKind.u64.wrap (a1)) != 0) = true := bne_iff_ne.mpr c10
    replace H := zn H
    obtain ⟨c11, H⟩ := H
    have c11b0 := decide_eq_true c11
    clear c11
    obtain ⟨y119, hy119⟩ : ∃ y_ : List Int, y_ = (x6_1.set (x8_1 : Int).toNat ((IntKind.u64.wrap (Int.tdiv (Go.bits .or .u64 (IntKind.u64.wrap (x7_1 * 4294967296)) (IntKind.u64.wrap (rd l0 x8_1))) (IntKind.u64.wrap (a1)))) % 4294967296)) := ⟨_, rfl⟩
    try rw [← hy119] at H
    have Ny119 := am hy119
    clear hy119
    have H' := am H
    clear H
    have p118 : 0 ≤ (x8_1 : Int) := zq6
    have q118 : x8_1 < (l0.length : Int) := zq6
    obtain ⟨ad118, e118, hx118_0⟩ := Kd.at_int HR0.out x8_1 p118 q118
    cases e118
    replace hx118_0 := (HB.out.cell (World.block_lt_of_cell? w _ hx118_0)).trans hx118_0
    replace p118 := eq_true p118
    replace q118 := eq_true q118
    have p12 : 0 ≤ (x8_1 : Int) := zq6
    have q12 : (x8_1 : Int) < ((x6_1.length : Int) : Int) := zq6
    obtain ⟨go12, co12, eo12, gb12, gl12, cl12, HG12⟩ := Kd.R_form HO_6.out (by omega)
    (first | cases eo12 | (injection eo12 with ea_ en_ ec_; (first | subst ea_ | (injection ea_ with ea_; subst ea_)); subst ec_; clear en_))
    have GB12 := am gb12
    have GG12 := am HG12
    clear gb12 gl12 HG12
    obtain ⟨hx12_0, hf12_0⟩ := Kd.R_celln 0 HO_6.out (x8_1 : Int) p12 q12
    replace p12 := eq_true p12
    replace q12 := eq_true q12
    have HP13 := Kd.R_putg HO_6.out (x8_1 : Int) ((IntKind.u64.wrap (Int.tdiv (Go.bits .or .u64 (IntKind.u64.wrap (x7_1 * 4294967296)) (IntKind.u64.wrap (rd l0 x8_1))) (IntKind.u64.wrap (a1)))) % 4294967296)
    go_wp2_with (first | ((with_reducible refine gate_store (t := 55) (p := 34) rfl ?_); refine zstore (t := 55) (p := 34) (w1 := (wr.setCell ⟨go12, (x8_1 : Int).toNat, none⟩ (.int .u32 ((IntKind.u64.wrap (Int.tdiv (Go.bits .or .u64 (IntKind.u64.wrap (x7_1 * 4294967296)) (IntKind.u64.wrap (rd l0 x8_1))) (IntKind.u64.wrap (a1)))) % 4294967296)))) ?_; intro w14 hw; have hg : wr.grownBy w14 (some go12) := (by rw [hw]; exact HP13.2); have hp_ : Kd.R (Kd.int .u32) 55 w14 w.heap.size (fun k_ => (w.heap.size ≤ k_)) (.slice (some ⟨go12, 0, none⟩) x6_1.length co12) y119 := (by rw [hw, Ny119.out]; exact HP13.1); clear HP13; refine zt2 (hp_) ((by rw [hw]; exact below_set (HB.out) GB12.out : Below w.heap.size w w14)) ?_; clear HO_6 HB; intro HO_6 HB; clear hg hw hp_))
    go_roundg k1
    case measure => have := HK1.out; omega
    case rel => exact ⟨(y119), (Int.tmod (Go.bits .or .u64 (IntKind.u64.wrap (x7_1 * 4294967296)) (IntKind.u64.wrap (rd l0 x8_1))) (IntKind.u64.wrap (a1))), (wrap64 (x8_1 - 1)), zq8, zq8, H', ⟨by have := HK1.out; omega⟩, ⟨zq4 HO_6.out⟩, ⟨zq1⟩⟩
   ·rw [if_neg c7] at H
    have c7b0 : decide (0 ≤ x8_1) = false := decide_eq_false c7
    clear c7
    replace H := zj H
    obtain ⟨t120, A15, H⟩ := H
    simp only [Option.some.injEq, Prod.mk.injEq] at H
    obtain ⟨rfl, rfl⟩ := H
    obtain ⟨Ao16, co16, eo16⟩ := Kd.R_slice HO_6.out
    subst eo16
    go_wp2_with (first | ((with_reducible refine gate_callee (f := 86) rfl ?_); refine goesL_ (some 40) rfl rfl Tryd.func86 (by kernel_rfl) rfl #[.slice Ao16 x6_1.length co16] rfl zq5 ?_; (with_reducible refine (nat_Trim.calls k1 (fun k_ => some k_ = (.slice Ao16 x6_1.length co16 : Value).ownBlock) _ _ x6_1 t120 _ ?side1 A15.out).mono ?_); (case side1 => exact Kd.R_V (Kd.R_tight rfl (HO_6.out))); rintro e w17 ⟨v121, rfl, ho0, hb⟩; refine ⟨_, rfl, ?_⟩; refine zt3 (rb HO_6 hb) (Kd.V_lower (Kd.V_mono (ok' := fun k_ => (w.heap.size ≤ k_)) ho0 (fun k_ hk_ => Or.elim hk_ (fun hs_ => ((HO_6.out).1 k_ hs_.symm)) (fun hn_ => (Nat.le_trans (below_size zq1) hn_)))) (below_size zq1)) (below_step zq1 hb) ?_; clear HO_6 HB; intro HO_6 HO122 HB))
    go_ret2
    exact ⟨_, zq9, zq3 HO122.out, zq1⟩
def nat_sign.f (a0 : Int) : Option (Int) := if a0 < 0 then (some (-1)) else (if a0 > 0 then (some 1) else (some 0))
set_option maxHeartbeats 8000000 in
set_option maxRecDepth 100000 in
theorem nat_sign.calls (a0 : Int) (r : Int) (w : World) (h : nat_sign.f a0 = some r) :
  Calls Tryd.prog 131 #[.int .i64 a0] w fun e w' => e = .returned (.int .i64 r) ∧ Drawn0 w w' := by
 have H := h
 unfold nat_sign.f at H
 clear h
 by_cases c2 : a0 < 0
 ·rw [if_pos c2] at H
  have c2b0 := decide_eq_true c2
  clear c2
  obtain rfl := Option.some.inj H
  go_enter Tryd.func131, Tryd.ntmps131
  go_wp2
  go_ret
  exact ⟨by first | rfl | (simp; done) | (simp [*]; done), by repeat (first | exact Drawn0.refl _ | apply Drawn0.step)⟩
 ·rw [if_neg c2] at H
  have c2b0 := decide_eq_false c2
  clear c2
  by_cases c3 : a0 > 0
  ·rw [if_pos c3] at H
   have c3b0 : decide (0 < a0) = true := decide_eq_true c3
   clear c3
   obtain rfl := Option.some.inj H
   go_enter Tryd.func131, Tryd.ntmps131
   go_wp2
   go_ret
   exact ⟨by first | rfl | (simp; done) | (simp [*]; done), by repeat (first | exact Drawn0.refl _ | apply Drawn0.step)⟩
  ·rw [if_neg c3] at H
   have c3b0 : decide (0 < a0) = false := decide_eq_false c3
   clear c3
   obtain rfl := Option.some.inj H
   go_enter Tryd.func131, Tryd.ntmps131
   go_wp2
   go_ret
   exact ⟨by first | rfl | (simp; done) | (simp [*]; done), by repeat (first | exact Drawn0.refl _ | apply Drawn0.step)⟩
def nat_Compare.l0 : Nat → List Int → List Int → Int → Option (Int)
 | 0, _, _, _ => none
 | k + 1, x0, x1, x5 => if x5 ≥ 0 then (if 0 ≤ x5 then (if x5 < (x0.length : Int) then (if x5 < (x1.length : Int) then (if (rd x0 x5) = (rd x1 x5) then (nat_Compare.l0 k x0 x1 (wrap64 (x5 - 1))) else (if (rd x0 x5) < (rd x1 x5) then (some (-1)) else (some 1))) else (none)) else (none)) else (none)) else (some 0)
def nat_Compare.f (k : Nat) (l0 : List Int) (l1 : List Int) : Option (Int) := if (l0.length : Int) = (l1.length : Int) then (nat_Compare.l0 k l0 l1 (wrap64 ((l0.length : Int) - 1))) else ((nat_sign.f (wrap64 ((l0.length : Int) - (l1.length : Int)))).bind fun t123 => (some t123))
theorem nat_Compare.mono_l : ∀ k, (∀ y0 y1 y2, LeO (nat_Compare.l0 k y0 y1 y2) (nat_Compare.l0 (k + 1) y0 y1 y2))
 | 0 => fun _ _ _ r h => by simp [nat_Compare.l0] at h
 | k + 1 => by
  have ih0 := nat_Compare.mono_l k
  ·intro y0 y1 y2
   unfold nat_Compare.l0
   have m0 := ih0
   exact zm
theorem nat_Compare.mono : ∀ a0 a1 k, LeO (nat_Compare.f k a0 a1) (nat_Compare.f (k + 1) a0 a1) := by
 intro a0 a1 k
 have ih0 := nat_Compare.mono_l k
 unfold nat_Compare.f
 have m0 := ih0
 exact zm
set_option maxHeartbeats 8000000 in
set_option maxRecDepth 100000 in
theorem nat_Compare.calls (k : Nat) (A0 : Option Addr) (c0 : Nat) (l0 : List Int) (A1 : Option Addr) (c1 : Nat) (l1 : List Int) (r : Int) (w : World) (hr0 : Kd.C (Kd.int .u32) w A0 l0.length l0) (hc0 : l0.length ≤ c0) (hr1 : Kd.C (Kd.int .u32) w A1 l1.length l1) (hc1 : l1.length ≤ c1) (h : nat_Compare.f k l0 l1 = some r) :
  Calls Tryd.prog 109 #[.slice A0 l0.length c0, .slice A1 l1.length c1] w fun e w' => e = .returned (.int .i64 r) ∧ Drawn0 w w' := by
 have HR0 := am hr0
 have HC0 := am hc0
 clear hr0 hc0
 have HR1 := am hr1
 have HC1 := am hc1
 clear hr1 hc1
 have H := h
 unfold nat_Compare.f at H
 clear h
 by_cases c3 : (l0.length : Int) = (l1.length : Int)
 ·rw [if_pos c3] at H
  have c3b0 : ((l0.length : Int) == (l1.length : Int)) = true := beq_iff_eq.mpr c3
  have c3b1 : ((l0.length : Int) != (l1.length : Int)) = false := bne_eq_false_iff_eq.mpr c3
  have c3b2 : (l0.length == l1.length) = true := by first | simpa using c3 | (simp at c3 ⊢; omega)
  clear c3
  have H' := am H
  clear H
  go_enter Tryd.func109, Tryd.ntmps109
  go_wp2
  repeat (go_quiet (fail); try go_wp2)
  go_loopg [5] k (fun kq v5 w' => ∃ (x5_1 : Int), v5 = .int .i64 x5_1 ∧ Aside0 (nat_Compare.l0 kq l0 l1 x5_1 = some r) ∧ Aside0 (kq ≤ k) ∧ Drawn0 w w')
  case atStart => exact ⟨(wrap64 ((l0.length : Int) - 1)), zq8, H', ⟨Nat.le_refl _⟩, by repeat (first | exact Drawn0.refl _ | apply Drawn0.step)⟩
  case round =>
   clear H'
   obtain ⟨x5_1, rfl, HA, HK1, ⟨m1, rfl⟩⟩ := hrel
   cases gk with
   | zero => exact absurd HA.out (by simp [nat_Compare.l0])
   | succ k1 =>
    have H := HA.out
    clear HA
    simp only [nat_Compare.l0] at H
    by_cases c4 : x5_1 ≥ 0
    ·rw [if_pos c4] at H
     have c4b0 : decide (0 ≤ x5_1) = true := decide_eq_true c4
     clear c4
     replace H := zn H
     obtain ⟨c5, H⟩ := H
     have c5b0 := decide_eq_true c5
     clear c5
     replace H := zn H
     obtain ⟨c6, H⟩ := H
     have c6b0 := decide_eq_true c6
     clear c6
     replace H := zn H
     obtain ⟨c7, H⟩ := H
     have c7b0 := decide_eq_true c7
     clear c7
     by_cases c8 : (rd l0 x5_1) = (rd l1 x5_1)
     ·rw [if_pos c8] at H
      have c8b0 : ((rd l0 x5_1) == (rd l1 x5_1)) = true := beq_iff_eq.mpr c8
      have c8b1 : ((rd l0 x5_1) != (rd l1 x5_1)) = false := bne_eq_false_iff_eq.mpr c8
      clear c8
      have H' := am H
      clear H
      have p124 : 0 ≤ (x5_1 : Int) := zq6
      have q124 : x5_1 < (l0.length : Int) := zq6
      obtain ⟨ad124, e124, hx124_0⟩ := Kd.at_int HR0.out x5_1 p124 q124
      cases e124
      replace p124 := eq_true p124
      replace q124 := eq_true q124
      have p125 : 0 ≤ (x5_1 : Int) := zq6
      have q125 : x5_1 < (l1.length : Int) := zq6
      obtain ⟨ad125, e125, hx125_0⟩ := Kd.at_int HR1.out x5_1 p125 q125
      cases e125
      replace p125 := eq_true p125
      replace q125 := eq_true q125
      go_wp2
      repeat (go_quiet (fail); try go_wp2)
      go_roundg k1
      case measure => have := HK1.out; omega
      case rel => exact ⟨(wrap64 (x5_1 - 1)), zq8, H', ⟨by have := HK1.out; omega⟩, by repeat (first | exact Drawn0.refl _ | apply Drawn0.step)⟩
     ·rw [if_neg c8] at H
      have c8b0 : ((rd l0 x5_1) == (rd l1 x5_1)) = false := beq_eq_false_iff_ne.mpr c8
      have c8b1 : ((rd l0 x5_1) != (rd l1 x5_1)) = true := bne_iff_ne.mpr c8
      by_cases c9 : (rd l0 x5_1) < (rd l1 x5_1)
      ·rw [if_pos c9] at H
       have c9b0 := decide_eq_true c9
       clear c9
       obtain rfl := Option.some.inj H
       have p124 : 0 ≤ (x5_1 : Int) := zq6
       have q124 : x5_1 < (l0.length : Int) := zq6
       obtain ⟨ad124, e124, hx124_0⟩ := Kd.at_int HR0.out x5_1 p124 q124
       cases e124
       replace p124 := eq_true p124
       replace q124 := eq_true q124
       have p125 : 0 ≤ (x5_1 : Int) := zq6
       have q125 : x5_1 < (l1.length : Int) := zq6
       obtain ⟨ad125, e125, hx125_0⟩ := Kd.at_int HR1.out x5_1 p125 q125
       cases e125
       replace p125 := eq_true p125
       replace q125 := eq_true q125
       have p126 : 0 ≤ (x5_1 : Int) := zq6
       have q126 : x5_1 < (l0.length : Int) := zq6
       obtain ⟨ad126, e126, hx126_0⟩ := Kd.at_int HR0.out x5_1 p126 q126
       obtain rfl : ad124 = ad126 := (by injection e126)
       replace p126 := eq_true p126
       replace q126 := eq_true q126
       have p127 : 0 ≤ (x5_1 : Int) := zq6
       have q127 : x5_1 < (l1.length : Int) := zq6
       obtain ⟨ad127, e127, hx127_0⟩ := Kd.at_int HR1.out x5_1 p127 q127
       obtain rfl : ad125 = ad127 := (by injection e127)
       replace p127 := eq_true p127
       replace q127 := eq_true q127
       go_wp2
       repeat (go_quiet (fail); try go_wp2)
       go_ret
       exact ⟨by first | rfl | (simp; done) | (simp [*]; done), by repeat (first | exact Drawn0.refl _ | apply Drawn0.step)⟩
      ·rw [if_neg c9] at H
       have c9b0 := decide_eq_false c9
       clear c9
       obtain rfl := Option.some.inj H
       have p124 : 0 ≤ (x5_1 : Int) := zq6
       have q124 : x5_1 < (l0.length : Int) := zq6
       obtain ⟨ad124, e124, hx124_0⟩ := Kd.at_int HR0.out x5_1 p124 q124
       cases e124
       replace p124 := eq_true p124
       replace q124 := eq_true q124
       have p125 : 0 ≤ (x5_1 : Int) := zq6
       have q125 : x5_1 < (l1.length : Int) := zq6
       obtain ⟨ad125, e125, hx125_0⟩ := Kd.at_int HR1.out x5_1 p125 q125
       cases e125
       replace p125 := eq_true p125
       replace q125 := eq_true q125
       have p126 : 0 ≤ (x5_1 : Int) := zq6
       have q126 : x5_1 < (l0.length : Int) := zq6
       obtain ⟨ad126, e126, hx126_0⟩ := Kd.at_int HR0.out x5_1 p126 q126
       obtain rfl : ad124 = ad126 := (by injection e126)
       replace p126 := eq_true p126
       replace q126 := eq_true q126
       have p127 : 0 ≤ (x5_1 : Int) := zq6
       have q127 : x5_1 < (l1.length : Int) := zq6
       obtain ⟨ad127, e127, hx127_0⟩ := Kd.at_int HR1.out x5_1 p127 q127
       obtain rfl : ad125 = ad127 := (by injection e127)
       replace p127 := eq_true p127
       replace q127 := eq_true q127
       go_wp2
       repeat (go_quiet (fail); try go_wp2)
       go_ret
       exact ⟨by first | rfl | (simp; done) | (simp [*]; done), by repeat (first | exact Drawn0.refl _ | apply Drawn0.step)⟩
    ·rw [if_neg c4] at H
     have c4b0 : decide (0 ≤ x5_1) = false := decide_eq_false c4
     clear c4
     obtain rfl := Option.some.inj H
     go_wp2
     repeat (go_quiet (fail); try go_wp2)
     go_ret
     exact ⟨by first | rfl | (simp; done) | (simp [*]; done), by repeat (first | exact Drawn0.refl _ | apply Drawn0.step)⟩
 ·rw [if_neg c3] at H
  have c3b0 : ((l0.length : Int) == (l1.length : Int)) = false := beq_eq_false_iff_ne.mpr c3
  have c3b1 : ((l0.length : Int) != (l1.length : Int)) = true := bne_iff_ne.mpr c3
  have c3b2 : (l0.length == l1.length) = false := by first | simpa using c3 | (simp at c3 ⊢; omega)
  replace H := zj H
  obtain ⟨t123, A10, H⟩ := H
  obtain rfl := Option.some.inj H
  go_enter Tryd.func109, Tryd.ntmps109
  go_wp2_with (first | (go_at_call 131; (with_reducible refine (nat_sign.calls (wrap64 ((l0.length : Int) - (l1.length : Int))) t123 _ A10.out).mono ?_); rintro e w' ⟨rfl, ⟨nd, rfl⟩⟩; (try first | exact ⟨rfl, _, World.drewN_drewN _ _ _⟩ | exact ⟨rfl, _, Eq.trans (World.drewN_drewN _ _ _) (congrArg (World.drewN _) (Nat.add_assoc _ _ _))⟩)))
  repeat (go_quiet (first | (go_at_call 131; (with_reducible refine (nat_sign.calls (wrap64 ((l0.length : Int) - (l1.length : Int))) t123 _ A10.out).mono ?_); rintro e w' ⟨rfl, ⟨nd, rfl⟩⟩; (try first | exact ⟨rfl, _, World.drewN_drewN _ _ _⟩ | exact ⟨rfl, _, Eq.trans (World.drewN_drewN _ _ _) (congrArg (World.drewN _) (Nat.add_assoc _ _ _))⟩))); try go_wp2_with (first | (go_at_call 131; (with_reducible refine (nat_sign.calls (wrap64 ((l0.length : Int) - (l1.length : Int))) t123 _ A10.out).mono ?_); rintro e w' ⟨rfl, ⟨nd, rfl⟩⟩; (try first | exact ⟨rfl, _, World.drewN_drewN _ _ _⟩ | exact ⟨rfl, _, Eq.trans (World.drewN_drewN _ _ _) (congrArg (World.drewN _) (Nat.add_assoc _ _ _))⟩))))
  go_ret
  exact ⟨by first | rfl | (simp; done) | (simp [*]; done), by repeat (first | exact Drawn0.refl _ | apply Drawn0.step)⟩
def nat_Shl.l0 : Nat → Int → List Int → List Int → Int → Int → Option (List Int)
 | 0, _, _, _, _, _ => none
 | k + 1, x1, x5, x19, x20, x21 => if x21 < x20 then (if 0 ≤ x21 then (if x21 < (x19.length : Int) then (if 0 ≤ (Int.tmod x1 32) then (if 0 ≤ (wrap64 (x21 + (wrap64 (Int.tdiv x1 32)))) then (if (wrap64 (x21 + (wrap64 (Int.tdiv x1 32)))) < (x5.length : Int) then ((some (x5.set ((wrap64 (x21 + (wrap64 (Int.tdiv x1 32)))) : Int).toNat (Go.bits .or .u32 (rd x5 (wrap64 (x21 + (wrap64 (Int.tdiv x1 32))))) ((shl .u64 (IntKind.u64.wrap (rd x19 x21)) (Int.tmod x1 32)) % 4294967296)) : List Int)).bind fun y133 => (if 0 ≤ (wrap64 ((wrap64 (x21 + (wrap64 (Int.tdiv x1 32)))) + 1)) then (if (wrap64 ((wrap64 (x21 + (wrap64 (Int.tdiv x1 32)))) + 1)) < (x5.length : Int) then (nat_Shl.l0 k x1 (y133.set ((wrap64 ((wrap64 (x21 + (wrap64 (Int.tdiv x1 32)))) + 1)) : Int).toNat (Go.bits .or .u32 (rd y133 (wrap64 ((wrap64 (x21 + (wrap64 (Int.tdiv x1 32)))) + 1))) (((shl .u64 (IntKind.u64.wrap (rd x19 x21)) (Int.tmod x1 32)) / 4294967296) % 4294967296))) x19 x20 (wrap64 (x21 + 1))) else (none)) else (none))) else (none)) else (none)) else (none)) else (none)) else (none)) else ((nat_Trim.f k x5).bind fun t136 => (some t136))
def nat_Shl.f (k : Nat) (l0 : List Int) (a1 : Int) : Option (List Int) := if (l0.length : Int) = 0 then (some ([] : List Int)) else (if 0 ≤ (wrap64 ((wrap64 ((l0.length : Int) + (wrap64 (Int.tdiv a1 32)))) + 1)) then (if (wrap64 ((wrap64 ((l0.length : Int) + (wrap64 (Int.tdiv a1 32)))) + 1) : Int).toNat ≤ 70368744177664 then (nat_Shl.l0 k a1 (List.replicate (wrap64 ((wrap64 ((l0.length : Int) + (wrap64 (Int.tdiv a1 32)))) + 1) : Int).toNat 0) l0 (l0.length : Int) 0) else (none)) else (none))
theorem nat_Shl.mono_l : ∀ k, (∀ y0 y1 y2 y3 y4, LeO (nat_Shl.l0 k y0 y1 y2 y3 y4) (nat_Shl.l0 (k + 1) y0 y1 y2 y3 y4))
 | 0 => fun _ _ _ _ _ r h => by simp [nat_Shl.l0] at h
 | k + 1 => by
  have ih0 := nat_Shl.mono_l k
  ·intro y0 y1 y2 y3 y4
   unfold nat_Shl.l0
   have m0 := ih0
   have m1 := @nat_Trim.mono
   exact zm
theorem nat_Shl.mono : ∀ a0 a1 k, LeO (nat_Shl.f k a0 a1) (nat_Shl.f (k + 1) a0 a1) := by
 intro a0 a1 k
 have ih0 := nat_Shl.mono_l k
 unfold nat_Shl.f
 have m0 := ih0
 have m1 := @nat_Trim.mono
 exact zm
set_option maxHeartbeats 8000000 in
set_option maxRecDepth 100000 in
theorem nat_Shl.calls (k : Nat) (A0 : Option Addr) (c0 : Nat) (l0 : List Int) (a1 : Int) (r : List Int) (w : World) (hr0 : Kd.C (Kd.int .u32) w A0 l0.length l0) (hc0 : l0.length ≤ c0) (h : nat_Shl.f k l0 a1 = some r) :
  Calls Tryd.prog 117 #[.slice A0 l0.length c0, .int .i64 a1] w fun e w' => ∃ v0_ : Value, e = .returned (v0_) ∧ Kd.V (Kd.int .u32) 55 w' w.heap.size (fun k_ => (w.heap.size ≤ k_)) v0_ r ∧ Below w.heap.size w w' := by
 have HR0 := am hr0
 have HC0 := am hc0
 clear hr0 hc0
 have HB := am (Below.refl w.heap.size w)
 have H := h
 unfold nat_Shl.f at H
 clear h
 by_cases c3 : (l0.length : Int) = 0
 ·rw [if_pos c3] at H
  have c3b0 : ((l0.length : Int) == 0) = true := beq_iff_eq.mpr c3
  have c3b1 : ((l0.length : Int) != 0) = false := bne_eq_false_iff_eq.mpr c3
  clear c3
  obtain rfl := Option.some.inj H
  go_enter Tryd.func117, Tryd.ntmps117
  go_wp2
  go_ret
  exact ⟨_, zq9, Kd.V_nil _ _ _ _ _, zq1⟩
 ·rw [if_neg c3] at H
  have c3b0 : ((l0.length : Int) == 0) = false := beq_eq_false_iff_ne.mpr c3
  have c3b1 : ((l0.length : Int) != 0) = true := bne_iff_ne.mpr c3
  have c3b2 : ¬ (l0 = []) := fun h_ => c3 (by rw [h_]; rfl)
  obtain ⟨ji4, hji4⟩ : ∃ j_ : Int, (wrap64 ((wrap64 ((l0.length : Int) + (wrap64 (Int.tdiv a1 32)))) + 1)) = j_ := ⟨_, rfl⟩
  replace H : (if 0 ≤ (ji4) then (if (ji4 : Int).toNat ≤ 70368744177664 then (nat_Shl.l0 k a1 (List.replicate (ji4 : Int).toNat 0) l0 (l0.length : Int) 0) else (none)) else (none)) = some r := by first | (rw [hji4] at H; exact H) | (simp only [hji4] at H ⊢; exact H)
  have hji4w : (IntKind.i64.wrap ((wrap64 ((l0.length : Int) + (wrap64 (Int.tdiv a1 32)))) + 1)) = ji4 := (i64_w _).trans hji4
  replace H := zn H
  obtain ⟨c5, H⟩ := H
  have c5b0 := eq_true c5
  have c5b1 := decide_eq_true c5
  clear c5
  replace H := zn H
  obtain ⟨c6, H⟩ := H
  have c6b0 := eq_true c6
  have c6b1 := decide_eq_true c6
  clear c6
  obtain ⟨y128, hy128⟩ : ∃ y_ : List Int, y_ = (List.replicate (ji4 : Int).toNat 0) := ⟨_, rfl⟩
  try rw [← hy128] at H
  have Ny128 := am hy128
  clear hy128
  have H' := am H
  clear H
  go_enter Tryd.func117, Tryd.ntmps117
  go_wp2_with (first | ((with_reducible refine gate_dst (N := 18) rfl ?_); refine Kd.R_make (Kd.int .u32) _ 55 rfl (N := 18) rfl 22 _ _ rfl ji4 rfl rfl Tryd.underlying22 (.int .u32 0) 4 info55 rfl (by decide) (by omega) 0 (ok := fun _ => True) (okp := fun _ => True) rfl (fun _ hk => hk) trivial zq6 (Nat.le_trans (Nat.mul_le_mul_right _ (zq6 : ji4.toNat ≤ 70368744177664)) (by omega)) (Below.refl _ _) (Nat.le_refl _) ?_; intro v129 w7 ho8 hb hg_ hnew_; clear hg_ hnew_; (first | rw [← Ny128.out] at ho8 | (simp only [Int.reduceToNat] at ho8; rw [← Ny128.out] at ho8)); refine zt2 (Kd.R_lower (Kd.R_newM (M := fun k_ => (w.heap.size ≤ k_)) ho8 (below_size zq1) (fun k_ h_ => h_)) (below_size zq1)) (below_step zq1 hb) ?_; clear HB; intro HO130 HB; clear hb ho8))
  go_loopg [21] k (fun kq v21 w' => ∃ (x5_1 : List Int) (x21_1 : Int), v21 = .int .i64 x21_1 ∧ Aside0 (nat_Shl.l0 kq a1 x5_1 l0 (l0.length : Int) x21_1 = some r) ∧ Aside0 (kq ≤ k) ∧ Aside0 (Kd.R (Kd.int .u32) 55 w' w.heap.size (fun k_ => (w.heap.size ≤ k_)) v129 x5_1) ∧ Aside0 (Below w.heap.size w w'))
  case atStart => exact ⟨(y128), (0), zq8, H', ⟨Nat.le_refl _⟩, ⟨zwR (h := by exact Kd.R_mono HO130.out (fun _ hk => hk.1))⟩, ⟨zq1⟩⟩
  case round =>
   clear H'
   obtain ⟨x5_1, x21_1, rfl, HA, HK1, HO_5, HB⟩ := hrel
   cases gk with
   | zero => exact absurd HA.out (by simp [nat_Shl.l0])
   | succ k1 =>
    have H := HA.out
    clear HA
    simp only [nat_Shl.l0] at H
    by_cases c9 : x21_1 < (l0.length : Int)
    ·rw [if_pos c9] at H
     have c9b0 := decide_eq_true c9
     clear c9
     replace H := zn H
     obtain ⟨c10, H⟩ := H
     have c10b0 := decide_eq_true c10
     clear c10
     replace H := zn H
     obtain ⟨c11, H⟩ := H
     have c11b0 := decide_eq_true c11
     clear c11
     obtain ⟨ji12, hji12⟩ : ∃ j_ : Int, (Int.tmod a1 32) = j_ := ⟨_, rfl⟩
     replace H : (if 0 ≤ (ji12) then (if 0 ≤ (wrap64 (x21_1 + (wrap64 (Int.tdiv a1 32)))) then (if (wrap64 (x21_1 + (wrap64 (Int.tdiv a1 32)))) < (x5_1.length : Int) then ((some (x5_1.set ((wrap64 (x21_1 + (wrap64 (Int.tdiv a1 32)))) : Int).toNat (Go.bits .or .u32 (rd x5_1 (wrap64 (x21_1 + (wrap64 (Int.tdiv a1 32))))) ((shl .u64 (IntKind.u64.wrap (rd l0 x21_1)) (ji12)) % 4294967296)) : List Int)).bind fun y133 => (if 0 ≤ (wrap64 ((wrap64 (x21_1 + (wrap64 (Int.tdiv a1 32)))) + 1)) then (if (wrap64 ((wrap64 (x21_1 + (wrap64 (Int.tdiv a1 32)))) + 1)) < (x5_1.length : Int) then (nat_Shl.l0 k1 a1 (y133.set ((wrap64 ((wrap64 (x21_1 + (wrap64 (Int.tdiv a1 32)))) + 1)) : Int).toNat (Go.bits .or .u32 (rd y133 (wrap64 ((wrap64 (x21_1 + (wrap64 (Int.tdiv a1 32)))) + 1))) (((shl .u64 (IntKind.u64.wrap (rd l0 x21_1)) (ji12)) / 4294967296) % 4294967296))) l0 (l0.length : Int) (wrap64 (x21_1 + 1))) else (none)) else (none))) else (none)) else (none)) else (none)) = some r := by first | (rw [hji12] at H; exact H) | (simp only [hji12] at H ⊢; exact H)
     replace H := zn H
     obtain ⟨c13, H⟩ := H
     have c13b0 := eq_true c13
     have c13b1 := decide_eq_true c13
     clear c13
     obtain ⟨ji14, hji14⟩ : ∃ j_ : Int, (shl .u64 (IntKind.u64.wrap (rd l0 x21_1)) (ji12)) = j_ := ⟨_, rfl⟩
     replace H : (if 0 ≤ (wrap64 (x21_1 + (wrap64 (Int.tdiv a1 32)))) then (if (wrap64 (x21_1 + (wrap64 (Int.tdiv a1 32)))) < (x5_1.length : Int) then ((some (x5_1.set ((wrap64 (x21_1 + (wrap64 (Int.tdiv a1 32)))) : Int).toNat (Go.bits .or .u32 (rd x5_1 (wrap64 (x21_1 + (wrap64 (Int.tdiv a1 32))))) ((ji14) % 4294967296)) : List Int)).bind fun y133 => (if 0 ≤ (wrap64 ((wrap64 (x21_1 + (wrap64 (Int.tdiv a1 32)))) + 1)) then (if (wrap64 ((wrap64 (x21_1 + (wrap64 (Int.tdiv a1 32)))) + 1)) < (x5_1.length : Int) then (nat_Shl.l0 k1 a1 (y133.set ((wrap64 ((wrap64 (x21_1 + (wrap64 (Int.tdiv a1 32)))) + 1)) : Int).toNat (Go.bits .or .u32 (rd y133 (wrap64 ((wrap64 (x21_1 + (wrap64 (Int.tdiv a1 32)))) + 1))) (((ji14) / 4294967296) % 4294967296))) l0 (l0.length : Int) (wrap64 (x21_1 + 1))) else (none)) else (none))) else (none)) else (none)) = some r := by first | (rw [hji14] at H; exact H) | (simp only [hji14] at H ⊢; exact H)
     have hji14_ : (IntKind.u64.wrap ((IntKind.u64.wrap (rd l0 x21_1)) * 2 ^ min (ji12).toNat 64)) = ji14 := hji14
     have hji14z : (ji12) ≤ 64 → (IntKind.u64.wrap ((IntKind.u64.wrap (rd l0 x21_1)) * 2 ^ (ji12).toNat)) = ji14 := shl_small hji14
     obtain ⟨ji15, hji15⟩ : ∃ j_ : Int, (wrap64 (x21_1 + (wrap64 (Int.tdiv a1 32)))) = j_ := ⟨_, rfl⟩
     replace H : (if 0 ≤ (ji15) then (if (ji15) < (x5_1.length : Int) then ((some (x5_1.set ((ji15) : Int).toNat (Go.bits .or .u32 (rd x5_1 (ji15)) ((ji14) % 4294967296)) : List Int)).bind fun y133 => (if 0 ≤ (wrap64 ((ji15) + 1)) then (if (wrap64 ((ji15) + 1)) < (x5_1.length : Int) then (nat_Shl.l0 k1 a1 (y133.set ((wrap64 ((ji15) + 1)) : Int).toNat (Go.bits .or .u32 (rd y133 (wrap64 ((ji15) + 1))) (((ji14) / 4294967296) % 4294967296))) l0 (l0.length : Int) (wrap64 (x21_1 + 1))) else (none)) else (none))) else (none)) else (none)) = some r := by first | (rw [hji15] at H; exact H) | (simp only [hji15] at H ⊢; exact H)
     have hji15w : (IntKind.i64.wrap (x21_1 + (wrap64 (Int.tdiv a1 32)))) = ji15 := (i64_w _).trans hji15
     replace H := zn H
     obtain ⟨c16, H⟩ := H
     have c16b0 := decide_eq_true c16
     clear c16
     replace H := zn H
     obtain ⟨c17, H⟩ := H
     have c17b0 := decide_eq_true c17
     clear c17
     obtain ⟨y133, hy133⟩ : ∃ y_ : List Int, y_ = (x5_1.set ((ji15) : Int).toNat (Go.bits .or .u32 (rd x5_1 (ji15)) ((ji14) % 4294967296))) := ⟨_, rfl⟩
     try rw [← hy133] at H
     have Ny133 := am hy133
     clear hy133
     obtain ⟨ji19, hji19⟩ : ∃ j_ : Int, (wrap64 ((ji15) + 1)) = j_ := ⟨_, rfl⟩
     replace H : (if 0 ≤ (ji19) then (if (ji19) < (x5_1.length : Int) then (nat_Shl.l0 k1 a1 (y133.set ((ji19) : Int).toNat (Go.bits .or .u32 (rd y133 (ji19)) (((ji14) / 4294967296) % 4294967296))) l0 (l0.length : Int) (wrap64 (x21_1 + 1))) else (none)) else (none)) = some r := by first | (rw [hji19] at H; exact H) | (simp only [hji19] at H ⊢; exact H)
     have hji19w : (IntKind.i64.wrap ((ji15) + 1)) = ji19 := (i64_w _).trans hji19
     replace H := zn H
     obtain ⟨c20, H⟩ := H
     have c20b0 := decide_eq_true c20
     clear c20
     replace H := zn H
     obtain ⟨c21, H⟩ := H
     have c21b0 := decide_eq_true c21
     clear c21
     obtain ⟨y135, hy135⟩ : ∃ y_ : List Int, y_ = (y133.set ((ji19) : Int).toNat (Go.bits .or .u32 (rd y133 (ji19)) (((ji14) / 4294967296) % 4294967296))) := ⟨_, rfl⟩
     try rw [← hy135] at H
     have Ny135 := am hy135
     clear hy135
     have H' := am H
     clear H
     have p131 : 0 ≤ (x21_1 : Int) := zq6
     have q131 : x21_1 < (l0.length : Int) := zq6
     obtain ⟨ad131, e131, hx131_0⟩ := Kd.at_int HR0.out x21_1 p131 q131
     cases e131
     replace hx131_0 := (HB.out.cell (World.block_lt_of_cell? w _ hx131_0)).trans hx131_0
     replace p131 := eq_true p131
     replace q131 := eq_true q131
     obtain ⟨Ao23, co23, eo23⟩ := Kd.R_slice HO_5.out
     subst eo23
     have p132 : 0 ≤ ((ji15) : Int) := zq6
     have q132 : (ji15) < (x5_1.length : Int) := zq6
     obtain ⟨ad132, e132, hx132_0⟩ := Kd.at_int (Kd.R_reads' HO_5.out).2.2 (ji15) p132 q132
     cases e132
     replace p132 := eq_true p132
     replace q132 := eq_true q132
     have p18 : 0 ≤ ((ji15) : Int) := zq6
     have q18 : ((ji15) : Int) < ((x5_1.length : Int) : Int) := zq6
     obtain ⟨go18, co18, eo18, gb18, gl18, cl18, HG18⟩ := Kd.R_form HO_5.out (by omega)
     (first | cases eo18 | (injection eo18 with ea_ en_ ec_; (first | subst ea_ | (injection ea_ with ea_; subst ea_)); subst ec_; clear en_))
     have GB18 := am gb18
     have GG18 := am HG18
     clear gb18 gl18 HG18
     (first | simp only [add_plain] at hx132_0 | skip)
     obtain ⟨hx18_0, hf18_0⟩ := Kd.R_celln 0 HO_5.out ((ji15) : Int) p18 q18
     replace p18 := eq_true p18
     replace q18 := eq_true q18
     have HP24 := Kd.R_putg HO_5.out ((ji15) : Int) (Go.bits .or .u32 (rd x5_1 (ji15)) ((ji14) % 4294967296))
     go_wp2_with (first | ((with_reducible refine gate_store (t := 55) (p := 41) rfl ?_); refine zstore (t := 55) (p := 41) (w1 := (wr.setCell ⟨go18, ((ji15) : Int).toNat, none⟩ (.int .u32 (Go.bits .or .u32 (rd x5_1 (ji15)) ((ji14) % 4294967296))))) ?_; intro w25 hw; have hg : wr.grownBy w25 (some go18) := (by rw [hw]; exact HP24.2); have hp_ : Kd.R (Kd.int .u32) 55 w25 w.heap.size (fun k_ => (w.heap.size ≤ k_)) (.slice (some ⟨go18, 0, none⟩) x5_1.length co23) y133 := (by rw [hw, Ny133.out]; exact HP24.1); clear HP24; refine zt2 (hp_) ((by rw [hw]; exact below_set (HB.out) GB18.out : Below w.heap.size w w25)) ?_; clear HO_5 HB; intro HO_5 HB; clear hg hw hp_; have p134 : 0 ≤ ((ji19) : Int) := zq6; have q134 : (ji19) < (y133.length : Int) := (by have h_ : ((ji19) : Int) < ((x5_1.length : Int) : Int) := zq6; first | (have e_ := (Kd.R_reads' HO_5.out).1; omega) | simpa only [Ny133.out, List.length_set] using h_); have ql134 : (((ji19) : Int) < ((x5_1.length : Int) : Int)) = True := eq_true zq6; obtain ⟨ad134, e134, hx134_0⟩ := Kd.at_int (Kd.R_reads' HO_5.out).2.2 (ji19) p134 q134; obtain rfl : (⟨go18, 0, none⟩ : Addr) = ad134 := (by injection e134); (first | simp only [add_plain] at hx134_0 | simp only [add_at] at hx134_0 | simp only [Addr.add, Nat.zero_add] at hx134_0 | skip); replace p134 := eq_true p134; replace q134 := eq_true q134; have p22 : 0 ≤ ((ji19) : Int) := zq6; have q22 : ((ji19) : Int) < ((x5_1.length : Int) : Int) := zq6; obtain ⟨hx22_0, hf22_0⟩ := Kd.R_celln 0 HO_5.out ((ji19) : Int) p22 q22; replace p22 := eq_true p22; replace q22 := eq_true q22; obtain ⟨hy26_, hz26_⟩ := Kd.R_celln 0 HO_5.out ((ji19) : Int) zq6 zq6; have HP26 := Kd.R_putg HO_5.out ((ji19) : Int) (Go.bits .or .u32 (rd y133 (ji19)) (((ji14) / 4294967296) % 4294967296))) | ((with_reducible refine gate_store (t := 55) (p := 54) rfl ?_); refine zstore (t := 55) (p := 54) (w1 := (w25.setCell ⟨go18, ((ji19) : Int).toNat, none⟩ (.int .u32 (Go.bits .or .u32 (rd y133 (ji19)) (((ji14) / 4294967296) % 4294967296))))) ?_; intro w27 hw; have hg : w25.grownBy w27 (some go18) := (by rw [hw]; exact HP26.2); have hp_ : Kd.R (Kd.int .u32) 55 w27 w.heap.size (fun k_ => (w.heap.size ≤ k_)) (.slice (some ⟨go18, 0, none⟩) x5_1.length co23) y135 := (by rw [hw, Ny135.out]; exact HP26.1); clear HP26; refine zt2 (hp_) ((by rw [hw]; exact below_set (HB.out) GB18.out : Below w.heap.size w w27)) ?_; clear HO_5 HB; intro HO_5 HB; clear hg hw hp_))
     go_roundg k1
     case measure => have := HK1.out; omega
     case rel => exact ⟨(y135), (wrap64 (x21_1 + 1)), zq8, (by first | exact H' | (rw [hji4]; exact H') | (rw [hji12]; exact H') | (rw [hji14]; exact H') | (rw [hji15]; exact H') | (rw [hji19]; exact H')), ⟨by have := HK1.out; omega⟩, ⟨zq4 HO_5.out⟩, ⟨zq1⟩⟩
    ·rw [if_neg c9] at H
     have c9b0 := decide_eq_false c9
     clear c9
     replace H := zj H
     obtain ⟨t136, A28, H⟩ := H
     obtain rfl := Option.some.inj H
     obtain ⟨Ao29, co29, eo29⟩ := Kd.R_slice HO_5.out
     subst eo29
     go_wp2_with (first | ((with_reducible refine gate_callee (f := 86) rfl ?_); refine goesL_ (some 57) rfl rfl Tryd.func86 (by kernel_rfl) rfl #[.slice Ao29 x5_1.length co29] rfl zq5 ?_; (with_reducible refine (nat_Trim.calls k1 (fun k_ => some k_ = (.slice Ao29 x5_1.length co29 : Value).ownBlock) _ _ x5_1 t136 _ ?side1 A28.out).mono ?_); (case side1 => exact Kd.R_V (Kd.R_tight rfl (HO_5.out))); rintro e w30 ⟨v137, rfl, ho0, hb⟩; refine ⟨_, rfl, ?_⟩; refine zt3 (rb HO_5 hb) (Kd.V_lower (Kd.V_mono (ok' := fun k_ => (w.heap.size ≤ k_)) ho0 (fun k_ hk_ => Or.elim hk_ (fun hs_ => ((HO_5.out).1 k_ hs_.symm)) (fun hn_ => (Nat.le_trans (below_size zq1) hn_)))) (below_size zq1)) (below_step zq1 hb) ?_; clear HO_5 HB; intro HO_5 HO138 HB))
     go_ret
     exact ⟨_, by first | rfl | (simp [errW_none, errW_some] <;> rfl) | (simp only [← hji4]; first | rfl | (simp [errW_none, errW_some] <;> rfl)) | (simp [*, errW_none, errW_some] <;> rfl), zq3 HO138.out, zq1⟩
mutual
def nat_Shr.j0 : Nat → List Int → Int → Bool → Int → Option (List Int × Bool)
 | 0, _, _, _, _ => none
 | k + 1, x0, x1, x5, x6 => if 0 ≤ (wrap64 ((x0.length : Int) - x6)) then (if (wrap64 ((x0.length : Int) - x6) : Int).toNat ≤ 70368744177664 then ((some (List.replicate (wrap64 ((x0.length : Int) - x6) : Int).toNat 0 : List Int)).bind fun y147 => (nat_Shr.l0 k x0 x1 y147 x5 x6 (y147.length : Int) 0)) else (none)) else (none)
def nat_Shr.l0 : Nat → List Int → Int → List Int → Bool → Int → Int → Int → Option (List Int × Bool)
 | 0, _, _, _, _, _, _, _ => none
 | k + 1, x0, x1, x4, x5, x6, x43, x44 => if x44 < x43 then (if 0 ≤ (wrap64 (x44 + x6)) then (if (wrap64 (x44 + x6)) < (x0.length : Int) then (if (wrap64 ((wrap64 (x44 + x6)) + 1)) < (x0.length : Int) then (if 0 ≤ (wrap64 ((wrap64 (x44 + x6)) + 1)) then (if 0 ≤ (Int.tmod x1 32) then (if 0 ≤ x44 then (if x44 < (x4.length : Int) then (nat_Shr.l0 k x0 x1 (x4.set (x44 : Int).toNat ((shr .u64 (Go.bits .or .u64 (IntKind.u64.wrap (rd x0 (wrap64 (x44 + x6)))) (IntKind.u64.wrap ((IntKind.u64.wrap (rd x0 (wrap64 ((wrap64 (x44 + x6)) + 1)))) * 4294967296))) (Int.tmod x1 32)) % 4294967296)) x5 x6 x43 (wrap64 (x44 + 1))) else (none)) else (none)) else (none)) else (none)) else (if 0 ≤ (Int.tmod x1 32) then (if 0 ≤ x44 then (if x44 < (x4.length : Int) then (nat_Shr.l0 k x0 x1 (x4.set (x44 : Int).toNat ((shr .u64 (IntKind.u64.wrap (rd x0 (wrap64 (x44 + x6)))) (Int.tmod x1 32)) % 4294967296)) x5 x6 x43 (wrap64 (x44 + 1))) else (none)) else (none)) else (none))) else (none)) else (none)) else ((nat_Trim.f k x4).bind fun t154 => (some (t154, x5)))
end
def nat_Shr.f (k : Nat) (l0 : List Int) (a1 : Int) : Option (List Int × Bool) := if (wrap64 (Int.tdiv a1 32)) ≥ (l0.length : Int) then (some (([] : List Int), ((l0.length : Int) == 0))) else (if 0 ≤ (wrap64 (Int.tdiv a1 32)) then (if (wrap64 (Int.tdiv a1 32)) ≤ (l0.length : Int) then ((slices_Clone_uint32_uint32.f (l0.take ((wrap64 (Int.tdiv a1 32)) : Int).toNat)).bind fun t140 => ((nat_Trim.f k t140).bind fun t143 => (if (t143.length : Int) = 0 then (if (wrap64 (Int.tdiv a1 32)) < (l0.length : Int) then (if 0 ≤ (Int.tmod a1 32) then (nat_Shr.j0 k l0 a1 ((Go.bits .and .u32 (rd l0 (wrap64 (Int.tdiv a1 32))) (((shl .u32 1 (Int.tmod a1 32)) - 1) % 4294967296)) == 0) (wrap64 (Int.tdiv a1 32))) else (none)) else (none)) else (nat_Shr.j0 k l0 a1 false (wrap64 (Int.tdiv a1 32)))))) else (none)) else (none))
theorem nat_Shr.mono_l : ∀ k, (∀ y0 y1 y2 y3, LeO (nat_Shr.j0 k y0 y1 y2 y3) (nat_Shr.j0 (k + 1) y0 y1 y2 y3)) ∧ (∀ y0 y1 y2 y3 y4 y5 y6, LeO (nat_Shr.l0 k y0 y1 y2 y3 y4 y5 y6) (nat_Shr.l0 (k + 1) y0 y1 y2 y3 y4 y5 y6))
 | 0 => ⟨fun _ _ _ _ r h => by simp [nat_Shr.j0] at h, fun _ _ _ _ _ _ _ r h => by simp [nat_Shr.l0] at h⟩
 | k + 1 => by
  obtain ⟨ih0, ih1⟩ := nat_Shr.mono_l k
  refine ⟨?_, ?_⟩
  ·intro y0 y1 y2 y3
   unfold nat_Shr.j0
   have m0 := ih0
   have m1 := ih1
   have m2 := @nat_Trim.mono
   exact zm
  ·intro y0 y1 y2 y3 y4 y5 y6
   unfold nat_Shr.l0
   have m0 := ih0
   have m1 := ih1
   have m2 := @nat_Trim.mono
   exact zm
theorem nat_Shr.mono : ∀ a0 a1 k, LeO (nat_Shr.f k a0 a1) (nat_Shr.f (k + 1) a0 a1) := by
 intro a0 a1 k
 obtain ⟨ih0, ih1⟩ := nat_Shr.mono_l k
 unfold nat_Shr.f
 have m0 := ih0
 have m1 := ih1
 have m2 := @nat_Trim.mono
 exact zm
def nat_Shr.T4 : Bool × List (List Nat × List Nat) := (true, [([], []), ([], []), ([0, 1], [0, 1]), ([2], [2]), ([3, 3], [3]), ([4], [4]), ([5], [5]), ([6, 4], [6]), ([7], [7]), ([7], [7]), ([8, 9, 7], [7, 8, 9]), ([10, 7], [7, 10]), ([7], [7]), ([12, 7], [7, 12]), ([13, 7], [7, 13]), ([14, 7], [7, 14]), ([11, 15, 7], [7, 11, 15]), ([16, 7], [7, 16]), ([7, 17], [7, 17]), ([18, 7, 0, 1, 2, 3, 4, 5, 6, 7, 8, 9, 10, 11, 12, 13, 14, 15, 16, 17, 18], [18])])
def nat_Shr.B4 : List Nat := [0, 0, 3, 7, 15, 31, 63, 127, 255, 255, 1023, 2047, 255, 4351, 12543, 28927, 65535, 131071, 262143, 524287]
theorem nat_Shr.tab4 : rtab .any (opsOf Tryd.f119 4) = nat_Shr.T4 := by kernel_rfl
theorem nat_Shr.bits4 : waitsOk nat_Shr.T4.2 nat_Shr.B4 = true := by kernel_rfl
set_option maxHeartbeats 8000000 in
set_option maxRecDepth 100000 in
theorem nat_Shr.calls (k : Nat) (A0 : Option Addr) (c0 : Nat) (l0 : List Int) (a1 : Int) (r1 : List Int) (r2 : Bool) (w : World) (hr0 : Kd.C (Kd.int .u32) w A0 l0.length l0) (hc0 : l0.length ≤ c0) (h : nat_Shr.f k l0 a1 = some (r1, r2)) :
  Calls Tryd.prog 119 #[.slice A0 l0.length c0, .int .i64 a1] w fun e w' => ∃ v0_ : Value, e = .returned (.tuple #[v0_, .bool r2]) ∧ Kd.V (Kd.int .u32) 55 w' w.heap.size (fun k_ => (w.heap.size ≤ k_)) v0_ r1 ∧ Below w.heap.size w w' := by
 have HR0 := am hr0
 have HC0 := am hc0
 clear hr0 hc0
 have HB := am (Below.refl w.heap.size w)
 have H := h
 unfold nat_Shr.f at H
 clear h
 by_cases c3 : (wrap64 (Int.tdiv a1 32)) ≥ (l0.length : Int)
 ·rw [if_pos c3] at H
  have c3b0 : decide ((l0.length : Int) ≤ (wrap64 (Int.tdiv a1 32))) = true := decide_eq_true c3
  clear c3
  simp only [Option.some.injEq, Prod.mk.injEq] at H
  obtain ⟨rfl, rfl⟩ := H
  go_enter Tryd.func119, Tryd.ntmps119
  go_wp2
  go_ret2
  exact ⟨_, zq9, Kd.V_nil _ _ _ _ _, zq1⟩
 ·rw [if_neg c3] at H
  have c3b0 : decide ((l0.length : Int) ≤ (wrap64 (Int.tdiv a1 32))) = false := decide_eq_false c3
  clear c3
  have HC4 := am H
  clear H
  go_enter Tryd.func119, Tryd.ntmps119
  go_upto_region 4 with (fail)
  go_cut [5] (fun v5 wc => ∃ (kq : Nat) (x5_3 : Bool), v5 = .bool x5_3 ∧ Aside0 (nat_Shr.j0 kq l0 a1 x5_3 (wrap64 (Int.tdiv a1 32)) = some (r1, r2)) ∧ Aside0 (kq ≤ k) ∧ Aside0 (Below w.heap.size w wc))
  case first =>
   have H := HC4.out
   clear HC4
   obtain ⟨ji5, hji5⟩ : ∃ j_ : Int, (wrap64 (Int.tdiv a1 32)) = j_ := ⟨_, rfl⟩
   replace H : (if 0 ≤ (ji5) then (if (ji5) ≤ (l0.length : Int) then ((slices_Clone_uint32_uint32.f (l0.take ((ji5) : Int).toNat)).bind fun t140 => ((nat_Trim.f k t140).bind fun t143 => (if (t143.length : Int) = 0 then (if (ji5) < (l0.length : Int) then (if 0 ≤ (Int.tmod a1 32) then (nat_Shr.j0 k l0 a1 ((Go.bits .and .u32 (rd l0 (ji5)) (((shl .u32 1 (Int.tmod a1 32)) - 1) % 4294967296)) == 0) ji5) else (none)) else (none)) else (nat_Shr.j0 k l0 a1 false ji5)))) else (none)) else (none)) = some (r1, r2) := by first | (rw [hji5] at H; exact H) | (simp only [hji5] at H ⊢; exact H)
   (try rw [hji5] at c3b0)
   have hji5w : (IntKind.i64.wrap (Int.tdiv a1 32)) = ji5 := (i64_w _).trans hji5
   replace H := zn H
   obtain ⟨c6, H⟩ := H
   have c6b0 := eq_true c6
   have c6b1 := decide_eq_true c6
   clear c6
   replace H := zn H
   obtain ⟨c7, H⟩ := H
   have c7b0 := eq_true c7
   have c7b1 := decide_eq_true c7
   clear c7
   replace H := zj H
   obtain ⟨t140, A8, H⟩ := H
   replace H := zj H
   obtain ⟨t143, A9, H⟩ := H
   by_cases c10 : (t143.length : Int) = 0
   ·rw [if_pos c10] at H
    have c10b0 : ((t143.length : Int) == 0) = true := beq_iff_eq.mpr c10
    have c10b1 : ((t143.length : Int) != 0) = false := bne_eq_false_iff_eq.mpr c10
    clear c10
    (first | rw [c10b0] | (simp only [i64_w, i32_w]; rw [c10b0]) | skip)
    replace H := zn H
    obtain ⟨c11, H⟩ := H
    have c11b0 := decide_eq_true c11
    clear c11
    obtain ⟨ji12, hji12⟩ : ∃ j_ : Int, (Int.tmod a1 32) = j_ := ⟨_, rfl⟩
    replace H : (if 0 ≤ (ji12) then (nat_Shr.j0 k l0 a1 ((Go.bits .and .u32 (rd l0 (ji5)) (((shl .u32 1 (ji12)) - 1) % 4294967296)) == 0) ji5) else (none)) = some (r1, r2) := by first | (rw [hji12] at H; exact H) | (simp only [hji12] at H ⊢; exact H)
    (try rw [hji12] at A8)
    (try rw [hji12] at A9)
    replace H := zn H
    obtain ⟨c13, H⟩ := H
    have c13b0 := eq_true c13
    have c13b1 := decide_eq_true c13
    clear c13
    obtain ⟨ji14, hji14⟩ : ∃ j_ : Int, (shl .u32 1 (ji12)) = j_ := ⟨_, rfl⟩
    replace H : (nat_Shr.j0 k l0 a1 ((Go.bits .and .u32 (rd l0 (ji5)) (((ji14) - 1) % 4294967296)) == 0) ji5) = some (r1, r2) := by first | (rw [hji14] at H; exact H) | (simp only [hji14] at H ⊢; exact H)
    (try rw [hji14] at A8)
    (try rw [hji14] at A9)
    have hji14_ : (IntKind.u32.wrap (1 * 2 ^ min (ji12).toNat 32)) = ji14 := hji14
    have hji14z : (ji12) ≤ 32 → (IntKind.u32.wrap (1 * 2 ^ (ji12).toNat)) = ji14 := shl_small hji14
    have hji14u : (IntKind.u32.wrap (2 ^ min (ji12).toNat 32)) = ji14 := by have h_ := hji14_; rw [Int.one_mul] at h_; exact h_
    have hji14v : (ji12) ≤ 32 → (IntKind.u32.wrap (2 ^ (ji12).toNat)) = ji14 := fun hle_ => by have h_ := hji14z hle_; rw [Int.one_mul] at h_; exact h_
    have H' := am H
    clear H
    try go_wp2
    refine zt1 (below_drew1 HB.out) ?_
    clear HB
    intro HB
    obtain ⟨i016, hi016, _, hsz16, _⟩ := info_parts info55
    obtain ⟨hcut16, hA16, hC16⟩ := print_take_of (P := Tryd.prog) (Value.int .u32) 0 22 55 .i64 Tryd.underlying22 hi016 hsz16 A0 c0 l0 (ji5) zq6 zq6 HC0.out
    have HR139 := am (Kd.C_of_reads (h1 := fun _ => rfl) (hA16 _ (Kd.reads_of_C HR0.out)))
    have HC139 := am hC16
    clear hA16 hC16 hi016 hsz16
    have p146 : 0 ≤ ((ji5) : Int) := zq6
    have q146 : (ji5) < (l0.length : Int) := zq6
    obtain ⟨ad146, e146, hx146_0⟩ := Kd.at_int HR0.out (ji5) p146 q146
    have hw146_0 := hx146_0
    cases e146
    replace hx146_0 := (HB.out.cell (World.block_lt_of_cell? w _ hx146_0)).trans hx146_0
    replace p146 := eq_true p146
    replace q146 := eq_true q146
    refine start_ (n := 20) (S := fun w' => w'.cell? (ad146.add ((ji5)).toNat) = some (.int .u32 (rd l0 (ji5)))) (ds := []) #[false, false, false, false, false, false, false, false, false, false, false, false, false, false, false, false, false, false, false, false] (by kernel_rfl) rfl rfl (((HB.out.cell (World.block_lt_of_cell? w _ hw146_0)).trans hw146_0)) (fun hHeld => ?_); refine with_tabW nat_Shr.tab4 nat_Shr.bits4 (fun HT_ HW_ => ?_)
    generalize w.drew = w15 at HB HR139 hx146_0 hHeld ⊢
    refine pz_ (i := 0) (N := some 18) (zmt 20 [0]) ?_
    refine pz_ (i := 1) (N := some 19) (zmt 20 [0, 1]) ?_
    refine pz_ (i := 2) (N := some 20) (zmt 20 [0, 1, 2]) ?_
    refine one_ (i := 3) (N := some 21) (zmt 20 [0, 1, 2, 3]) rfl rfl (one_of HT_.out (by kernel_rfl)) (by decide) (fun K hK => ?_)
    refine goes_ Tryd.func95 (by kernel_rfl) rfl #[.slice (some ad146) (l0.take ((ji5) : Int).toNat).length c0] (by rfl) rfl rfl (by (try simp only [List.map_toArray, List.map_cons, List.map_nil]); first | done | (rw [show (l0.take ((ji5) : Int).toNat).length = (ji5).toNat from (by rw [List.length_take]; have h_ : ((ji5) : Int) ≤ (l0.length : Int) := zq6; omega)] <;> rfl) | (simp only [hji5]; rfl) | rfl | (simp only [List.length_drop, List.length_take]; rfl)) ?_
    with_reducible refine (slices_Clone_uint32_uint32.calls _ _ (l0.take ((ji5) : Int).toNat) t140 _ ?side1 ?side2 A8.out).mono ?_
    (case side1 => exact zc (Kd.C_below HR139.out HB.out))
    (case side2 => exact HC139.out)
    rintro e w17 ⟨v141, rfl, ho0, hb⟩
    refine ⟨_, rfl, ?_⟩
    refine zt2 (Kd.R_lower (Kd.R_newM (M := fun k_ => (w.heap.size ≤ k_)) ho0 (below_size zq1) (fun k_ h_ => h_)) (below_size zq1)) (below_step zq1 hb) ?_
    clear HB
    intro HO142 HB
    obtain ⟨Ao18, co18, eo18⟩ := Kd.R_slice HO142.out
    (first | subst eo18 | (injection eo18 with f1_ f2_ f3_; have f4_ := f1_.symm; have f5_ := f3_.symm; clear f1_ f2_ f3_; subst f4_; subst f5_))
    refine hK.out _ _ (((HB.out.cell (World.block_lt_of_cell? w _ hw146_0)).trans hw146_0)) (fun hHeld => ?_)
    clear hK K
    refine nz_ (N := (some 21)) ?_
    refine one_ (i := 4) (N := some 22) (zmt 20 [0, 1, 2, 3, 4]) rfl rfl (one_of HT_.out (by kernel_rfl)) (by decide) (fun K hK => ?_)
    refine goes_ Tryd.func86 (by kernel_rfl) rfl #[.slice Ao18 t140.length co18] (by rfl) rfl rfl zq5 ?_
    with_reducible refine (nat_Trim.calls k (fun k_ => some k_ = (.slice Ao18 t140.length co18 : Value).ownBlock) _ _ t140 t143 _ ?side1 A9.out).mono ?_
    (case side1 => exact Kd.R_V (Kd.R_tight rfl (HO142.out)))
    rintro e w19 ⟨v144, rfl, ho0, hb⟩
    refine ⟨_, rfl, ?_⟩
    refine zt3 (rb HO142 hb) (Kd.V_lower (Kd.V_mono (ok' := fun k_ => (w.heap.size ≤ k_)) ho0 (fun k_ hk_ => Or.elim hk_ (fun hs_ => ((HO142.out).1 k_ hs_.symm).1) (fun hn_ => (Nat.le_trans (below_size zq1) hn_)))) (below_size zq1)) (below_step zq1 hb) ?_
    clear HO142 HB
    intro HO142 HO145 HB
    obtain ⟨Ao20, co20, eo20⟩ := Kd.V_slice HO145.out
    (first | subst eo20 | (injection eo20 with f1_ f2_ f3_; have f4_ := f1_.symm; have f5_ := f3_.symm; clear f1_ f2_ f3_; subst f4_; subst f5_))
    refine hK.out _ _ (((HB.out.cell (World.block_lt_of_cell? w _ hw146_0)).trans hw146_0)) (fun hHeld => ?_)
    clear hK K
    refine nz_ (N := (some 22)) ?_
    refine pz_ (i := 5) (N := some 23) (zmt 20 [0, 1, 2, 3, 4, 5]) ?_
    refine pz_ (i := 6) (N := some 24) (zmt 20 [0, 1, 2, 3, 4, 5, 6]) ?_
    refine pz_ (i := 7) (N := some 25) (zmt 20 [0, 1, 2, 3, 4, 5, 6, 7]) ?_
    refine pz_ (i := 8) (N := some 26) (zmt 20 [0, 1, 2, 3, 4, 5, 6, 7, 8]) ?_
    refine pz_ (i := 9) (N := some 27) (zmt 20 [0, 1, 2, 3, 4, 5, 6, 7, 8, 9]) ?_
    refine pz_ (i := 10) (N := some 28) (zmf 20 [11, 12, 13, 14, 15, 16, 17, 18, 19]) ?_
    refine pz_ (i := 12) (N := some 30) (zmf 20 [11, 13, 14, 15, 16, 17, 18, 19]) ?_
    refine pz_ (i := 13) (N := some 31) (zmf 20 [11, 14, 15, 16, 17, 18, 19]) ?_
    refine pz_ (i := 14) (N := some 32) (zmf 20 [11, 15, 16, 17, 18, 19]) ?_
    refine pz_ (i := 15) (N := some 33) (zmf 20 [11, 16, 17, 18, 19]) ?_
    refine tz1 (i := 11) (N := some 29) (zmf 20 [16, 17, 18, 19]) ?_
    refine pz_ (i := 16) (N := some 34) (zmf 20 [17, 18, 19]) ?_
    refine pz_ (i := 17) (N := some 35) (zmf 20 [18, 19]) ?_
    refine pz_ (i := 18) (N := some 36) (zmf 20 [19]) ?_
    refine pz_ (i := 19) (N := some 5) (zmf 20 []) ?_
    refine done_ (done_of HT_.out (by kernel_rfl)) ?_
    try go_wp2
    go_meet
    case rel => exact ⟨_, (((Go.bits .and .u32 (rd l0 (ji5)) (((ji14) - 1) % 4294967296)) == 0)), (by first | rfl | (simp; done) | (simp only [← hji5, ← hji14] <;> (first | rfl | simp)) | (simp [*]; done)), (by first | exact H' | (rw [hji5]; exact H') | (rw [hji12]; exact H') | (rw [hji14]; exact H')), ⟨by first | omega | exact Nat.le_refl _⟩, ⟨zq1⟩⟩
   ·rw [if_neg c10] at H
    have c10b0 : ((t143.length : Int) == 0) = false := beq_eq_false_iff_ne.mpr c10
    have c10b1 : ((t143.length : Int) != 0) = true := bne_iff_ne.mpr c10
    have c10b2 : ¬ (t143 = []) := fun h_ => c10 (by rw [h_]; rfl)
    (first | rw [c10b0] | (simp only [i64_w, i32_w]; rw [c10b0]) | skip)
    have H' := am H
    clear H
    try go_wp2
    refine zt1 (below_drew1 HB.out) ?_
    clear HB
    intro HB
    obtain ⟨i022, hi022, _, hsz22, _⟩ := info_parts info55
    obtain ⟨hcut22, hA22, hC22⟩ := print_take_of (P := Tryd.prog) (Value.int .u32) 0 22 55 .i64 Tryd.underlying22 hi022 hsz22 A0 c0 l0 (ji5) zq6 zq6 HC0.out
    have HR139 := am (Kd.C_of_reads (h1 := fun _ => rfl) (hA22 _ (Kd.reads_of_C HR0.out)))
    have HC139 := am hC22
    clear hA22 hC22 hi022 hsz22
    refine start_ (n := 20) (S := fun w' => True) (ds := []) #[false, false, false, false, false, false, false, false, false, false, false, false, false, false, false, false, false, false, false, false] (by kernel_rfl) rfl rfl trivial (fun hHeld => ?_); refine with_tabW nat_Shr.tab4 nat_Shr.bits4 (fun HT_ HW_ => ?_)
    generalize w.drew = w21 at HB HR139 hHeld ⊢
    refine pz_ (i := 0) (N := some 18) (zmt 20 [0]) ?_
    refine pz_ (i := 1) (N := some 19) (zmt 20 [0, 1]) ?_
    refine pz_ (i := 2) (N := some 20) (zmt 20 [0, 1, 2]) ?_
    refine one_ (i := 3) (N := some 21) (zmt 20 [0, 1, 2, 3]) rfl rfl (one_of HT_.out (by kernel_rfl)) (by decide) (fun K hK => ?_)
    refine goes_ Tryd.func95 (by kernel_rfl) rfl #[.slice A0 (l0.take ((ji5) : Int).toNat).length c0] (by rfl) rfl rfl (by (try simp only [List.map_toArray, List.map_cons, List.map_nil]); first | done | (rw [show (l0.take ((ji5) : Int).toNat).length = (ji5).toNat from (by rw [List.length_take]; have h_ : ((ji5) : Int) ≤ (l0.length : Int) := zq6; omega)] <;> rfl) | (simp only [hji5]; rfl) | rfl | (simp only [List.length_drop, List.length_take]; rfl)) ?_
    with_reducible refine (slices_Clone_uint32_uint32.calls _ _ (l0.take ((ji5) : Int).toNat) t140 _ ?side1 ?side2 A8.out).mono ?_
    (case side1 => exact zc (Kd.C_below HR139.out HB.out))
    (case side2 => exact HC139.out)
    rintro e w23 ⟨v141, rfl, ho0, hb⟩
    refine ⟨_, rfl, ?_⟩
    refine zt2 (Kd.R_lower (Kd.R_newM (M := fun k_ => (w.heap.size ≤ k_)) ho0 (below_size zq1) (fun k_ h_ => h_)) (below_size zq1)) (below_step zq1 hb) ?_
    clear HB
    intro HO142 HB
    obtain ⟨Ao24, co24, eo24⟩ := Kd.R_slice HO142.out
    (first | subst eo24 | (injection eo24 with f1_ f2_ f3_; have f4_ := f1_.symm; have f5_ := f3_.symm; clear f1_ f2_ f3_; subst f4_; subst f5_))
    refine hK.out _ _ trivial (fun hHeld => ?_)
    clear hK K
    refine nz_ (N := (some 21)) ?_
    refine one_ (i := 4) (N := some 22) (zmt 20 [0, 1, 2, 3, 4]) rfl rfl (one_of HT_.out (by kernel_rfl)) (by decide) (fun K hK => ?_)
    refine goes_ Tryd.func86 (by kernel_rfl) rfl #[.slice Ao24 t140.length co24] (by rfl) rfl rfl zq5 ?_
    with_reducible refine (nat_Trim.calls k (fun k_ => some k_ = (.slice Ao24 t140.length co24 : Value).ownBlock) _ _ t140 t143 _ ?side1 A9.out).mono ?_
    (case side1 => exact Kd.R_V (Kd.R_tight rfl (HO142.out)))
    rintro e w25 ⟨v144, rfl, ho0, hb⟩
    refine ⟨_, rfl, ?_⟩
    refine zt3 (rb HO142 hb) (Kd.V_lower (Kd.V_mono (ok' := fun k_ => (w.heap.size ≤ k_)) ho0 (fun k_ hk_ => Or.elim hk_ (fun hs_ => ((HO142.out).1 k_ hs_.symm).1) (fun hn_ => (Nat.le_trans (below_size zq1) hn_)))) (below_size zq1)) (below_step zq1 hb) ?_
    clear HO142 HB
    intro HO142 HO145 HB
    obtain ⟨Ao26, co26, eo26⟩ := Kd.V_slice HO145.out
    (first | subst eo26 | (injection eo26 with f1_ f2_ f3_; have f4_ := f1_.symm; have f5_ := f3_.symm; clear f1_ f2_ f3_; subst f4_; subst f5_))
    refine hK.out _ _ trivial (fun hHeld => ?_)
    clear hK K
    refine nz_ (N := (some 22)) ?_
    refine pz_ (i := 5) (N := some 23) (zmt 20 [0, 1, 2, 3, 4, 5]) ?_
    refine pz_ (i := 6) (N := some 24) (zmt 20 [0, 1, 2, 3, 4, 5, 6]) ?_
    refine pz_ (i := 7) (N := some 25) (zmt 20 [0, 1, 2, 3, 4, 5, 6, 7]) ?_
    refine pure_ (i := 8) (N := some 26) (v := undef) (a' := ?_) #[true, true, true, true, true, true, true, true, true, false, false, false, false, false, false, false, false, false, false, false] rfl rfl (any_of HT_.out (by kernel_rfl)) (fun _ _ _ h => h) (Or.inr ⟨by rfl, rfl⟩) ?_ ?_
    rotate_left
    ·simp only [Act.put, List.setIfInBounds_toArray, List.set_cons_zero, List.set_cons_succ, i64_w, i32_w]
     rfl
    refine pure_ (i := 9) (N := some 27) (v := undef) (a' := ?_) #[true, true, true, true, true, true, true, true, true, true, false, false, false, false, false, false, false, false, false, false] rfl rfl (any_of HT_.out (by kernel_rfl)) (fun _ _ _ h => h) (Or.inr ⟨by rfl, rfl⟩) ?_ ?_
    rotate_left
    ·simp only [Act.put, List.setIfInBounds_toArray, List.set_cons_zero, List.set_cons_succ, i64_w, i32_w]
     rfl
    refine pure_ (i := 10) (N := some 28) (v := undef) (a' := ?_) #[true, true, true, true, true, true, true, true, true, true, true, false, false, false, false, false, false, false, false, false] rfl rfl (any_of HT_.out (by kernel_rfl)) (fun _ _ _ h => h) (Or.inr ⟨by rfl, rfl⟩) ?_ ?_
    rotate_left
    ·simp only [Act.put, List.setIfInBounds_toArray, List.set_cons_zero, List.set_cons_succ, i64_w, i32_w]
     rfl
    refine pure_ (i := 11) (N := some 29) (v := undef) (a' := ?_) #[true, true, true, true, true, true, true, true, true, true, true, true, false, false, false, false, false, false, false, false] rfl rfl (any_of HT_.out (by kernel_rfl)) (fun _ _ _ h => h) (Or.inr ⟨by rfl, rfl⟩) ?_ ?_
    rotate_left
    ·simp only [Act.put, List.setIfInBounds_toArray, List.set_cons_zero, List.set_cons_succ, i64_w, i32_w]
     rfl
    refine pure_ (i := 12) (N := some 30) (v := undef) (a' := ?_) #[true, true, true, true, true, true, true, true, true, true, true, true, true, false, false, false, false, false, false, false] rfl rfl (any_of HT_.out (by kernel_rfl)) (fun _ _ _ h => h) (Or.inr ⟨by rfl, rfl⟩) ?_ ?_
    rotate_left
    ·simp only [Act.put, List.setIfInBounds_toArray, List.set_cons_zero, List.set_cons_succ, i64_w, i32_w]
     rfl
    refine pure_ (i := 13) (N := some 31) (v := undef) (a' := ?_) #[true, true, true, true, true, true, true, true, true, true, true, true, true, true, false, false, false, false, false, false] rfl rfl (any_of HT_.out (by kernel_rfl)) (fun _ _ _ h => h) (Or.inr ⟨by rfl, rfl⟩) ?_ ?_
    rotate_left
    ·simp only [Act.put, List.setIfInBounds_toArray, List.set_cons_zero, List.set_cons_succ, i64_w, i32_w]
     rfl
    refine pure_ (i := 14) (N := some 32) (v := undef) (a' := ?_) #[true, true, true, true, true, true, true, true, true, true, true, true, true, true, true, false, false, false, false, false] rfl rfl (any_of HT_.out (by kernel_rfl)) (fun _ _ _ h => h) (Or.inr ⟨by rfl, rfl⟩) ?_ ?_
    rotate_left
    ·simp only [Act.put, List.setIfInBounds_toArray, List.set_cons_zero, List.set_cons_succ, i64_w, i32_w]
     rfl
    refine pure_ (i := 15) (N := some 33) (v := undef) (a' := ?_) #[true, true, true, true, true, true, true, true, true, true, true, true, true, true, true, true, false, false, false, false] rfl rfl (any_of HT_.out (by kernel_rfl)) (fun _ _ _ h => h) (Or.inr ⟨by rfl, rfl⟩) ?_ ?_
    rotate_left
    ·simp only [Act.put, List.setIfInBounds_toArray, List.set_cons_zero, List.set_cons_succ, i64_w, i32_w]
     rfl
    refine pure_ (i := 16) (N := some 34) (v := undef) (a' := ?_) #[true, true, true, true, true, true, true, true, true, true, true, true, true, true, true, true, true, false, false, false] rfl rfl (any_of HT_.out (by kernel_rfl)) (fun _ _ _ h => h) (Or.inr ⟨by rfl, rfl⟩) ?_ ?_
    rotate_left
    ·simp only [Act.put, List.setIfInBounds_toArray, List.set_cons_zero, List.set_cons_succ, i64_w, i32_w]
     rfl
    refine pure_ (i := 17) (N := some 35) (v := undef) (a' := ?_) #[true, true, true, true, true, true, true, true, true, true, true, true, true, true, true, true, true, true, false, false] rfl rfl (any_of HT_.out (by kernel_rfl)) (fun _ _ _ h => h) (Or.inr ⟨by rfl, rfl⟩) ?_ ?_
    rotate_left
    ·simp only [Act.put, List.setIfInBounds_toArray, List.set_cons_zero, List.set_cons_succ, i64_w, i32_w]
     rfl
    refine pz_ (i := 18) (N := some 36) (zmf 20 [19]) ?_
    refine pz_ (i := 19) (N := some 5) (zmf 20 []) ?_
    refine done_ (done_of HT_.out (by kernel_rfl)) ?_
    try go_wp2
    go_meet
    case rel => exact ⟨_, (false), zq8, (by first | exact H' | (rw [hji5]; exact H')), ⟨by first | omega | exact Nat.le_refl _⟩, ⟨zq1⟩⟩
  case rest =>
   clear HC4
   obtain ⟨kq, x5_3, rfl, HA, HJ3, HB⟩ := hcut
   cases kq with
   | zero => exact absurd HA.out (by simp [nat_Shr.j0])
   | succ kj3 =>
    have H := HA.out
    clear HA
    simp only [nat_Shr.j0] at H
    obtain ⟨ji27, hji27⟩ : ∃ j_ : Int, (wrap64 ((l0.length : Int) - (wrap64 (Int.tdiv a1 32)))) = j_ := ⟨_, rfl⟩
    replace H : (if 0 ≤ (ji27) then (if (ji27 : Int).toNat ≤ 70368744177664 then ((some (List.replicate (ji27 : Int).toNat 0 : List Int)).bind fun y147 => (nat_Shr.l0 kj3 l0 a1 y147 x5_3 (wrap64 (Int.tdiv a1 32)) (y147.length : Int) 0)) else (none)) else (none)) = some (r1, r2) := by first | (rw [hji27] at H; exact H) | (simp only [hji27] at H ⊢; exact H)
    have hji27w : (IntKind.i64.wrap ((l0.length : Int) - (wrap64 (Int.tdiv a1 32)))) = ji27 := (i64_w _).trans hji27
    replace H := zn H
    obtain ⟨c28, H⟩ := H
    have c28b0 := eq_true c28
    have c28b1 := decide_eq_true c28
    clear c28
    replace H := zn H
    obtain ⟨c29, H⟩ := H
    have c29b0 := eq_true c29
    have c29b1 := decide_eq_true c29
    clear c29
    obtain ⟨y147, hy147⟩ : ∃ y_ : List Int, y_ = (List.replicate (ji27 : Int).toNat 0) := ⟨_, rfl⟩
    try rw [← hy147] at H
    have Ny147 := am hy147
    clear hy147
    have H' := am H
    clear H
    go_wp2_with (first | ((with_reducible refine gate_dst (N := 41) rfl ?_); refine Kd.R_make (Kd.int .u32) _ 55 rfl (N := 41) rfl 22 _ _ rfl ji27 rfl rfl Tryd.underlying22 (.int .u32 0) 4 info55 rfl (by decide) (by omega) 0 (ok := fun _ => True) (okp := fun _ => True) rfl (fun _ hk => hk) trivial zq6 (Nat.le_trans (Nat.mul_le_mul_right _ (zq6 : ji27.toNat ≤ 70368744177664)) (by omega)) (Below.refl _ _) (Nat.le_refl _) ?_; intro v148 w30 ho31 hb hg_ hnew_; clear hg_ hnew_; (first | rw [← Ny147.out] at ho31 | (simp only [Int.reduceToNat] at ho31; rw [← Ny147.out] at ho31)); refine zt2 (Kd.R_lower (Kd.R_newM (M := fun k_ => (w.heap.size ≤ k_)) ho31 (below_size zq1) (fun k_ h_ => h_)) (below_size zq1)) (below_step zq1 hb) ?_; clear HB; intro HO149 HB; clear hb ho31; obtain ⟨Ao32, co32, eo32⟩ := Kd.R_slice HO149.out; subst eo32))
    go_loopg [44] kj3 (fun kq v44 w' => ∃ (x4_2 : List Int) (x44_2 : Int), v44 = .int .i64 x44_2 ∧ Aside0 (nat_Shr.l0 kq l0 a1 x4_2 x5_3 (wrap64 (Int.tdiv a1 32)) (y147.length : Int) x44_2 = some (r1, r2)) ∧ Aside0 (kq ≤ kj3) ∧ Aside0 (Kd.R (Kd.int .u32) 55 w' w.heap.size (fun k_ => (w.heap.size ≤ k_)) (.slice Ao32 y147.length co32) x4_2) ∧ Aside0 (Below w.heap.size w w'))
    case atStart => exact ⟨(y147), (0), zq8, H', ⟨Nat.le_refl _⟩, ⟨zwR (h := by exact Kd.R_mono HO149.out (fun _ hk => hk.1))⟩, ⟨zq1⟩⟩
    case round =>
     clear H'
     obtain ⟨x4_2, x44_2, rfl, HA, HK2, HO_4, HB⟩ := hrel
     have hl4_2 := (Kd.R_reads' HO_4.out).1
     rw [hl4_2] at HO_4
     (try simp only [hl4_2])
     cases gk with
     | zero => exact absurd HA.out (by simp [nat_Shr.l0])
     | succ k2 =>
      have H := HA.out
      clear HA
      simp only [nat_Shr.l0] at H
      by_cases c33 : x44_2 < (y147.length : Int)
      ·rw [if_pos c33] at H
       have c33b0 := decide_eq_true c33
       clear c33
       obtain ⟨ji34, hji34⟩ : ∃ j_ : Int, (wrap64 (x44_2 + (wrap64 (Int.tdiv a1 32)))) = j_ := ⟨_, rfl⟩
       replace H : (if 0 ≤ (ji34) then (if (ji34) < (l0.length : Int) then (if (wrap64 ((ji34) + 1)) < (l0.length : Int) then (if 0 ≤ (wrap64 ((ji34) + 1)) then (if 0 ≤ (Int.tmod a1 32) then (if 0 ≤ x44_2 then (if x44_2 < (x4_2.length : Int) then (nat_Shr.l0 k2 l0 a1 (x4_2.set (x44_2 : Int).toNat ((shr .u64 (Go.bits .or .u64 (IntKind.u64.wrap (rd l0 (ji34))) (IntKind.u64.wrap ((IntKind.u64.wrap (rd l0 (wrap64 ((ji34) + 1)))) * 4294967296))) (Int.tmod a1 32)) % 4294967296)) x5_3 (wrap64 (Int.tdiv a1 32)) (y147.length : Int) (wrap64 (x44_2 + 1))) else (none)) else (none)) else (none)) else (none)) else (if 0 ≤ (Int.tmod a1 32) then (if 0 ≤ x44_2 then (if x44_2 < (x4_2.length : Int) then (nat_Shr.l0 k2 l0 a1 (x4_2.set (x44_2 : Int).toNat ((shr .u64 (IntKind.u64.wrap (rd l0 (ji34))) (Int.tmod a1 32)) % 4294967296)) x5_3 (wrap64 (Int.tdiv a1 32)) (y147.length : Int) (wrap64 (x44_2 + 1))) else (none)) else (none)) else (none))) else (none)) else (none)) = some (r1, r2) := by first | (rw [hji34] at H; exact H) | (simp only [hji34] at H ⊢; exact H)
       have hji34w : (IntKind.i64.wrap (x44_2 + (wrap64 (Int.tdiv a1 32)))) = ji34 := (i64_w _).trans hji34
       replace H := zn H
       obtain ⟨c35, H⟩ := H
       have c35b0 := decide_eq_true c35
       clear c35
       replace H := zn H
       obtain ⟨c36, H⟩ := H
       have c36b0 := decide_eq_true c36
       clear c36
       by_cases c37 : (wrap64 ((ji34) + 1)) < (l0.length : Int)
       ·rw [if_pos c37] at H
        have c37b0 := decide_eq_true c37
        clear c37
        obtain ⟨ji38, hji38⟩ : ∃ j_ : Int, (wrap64 ((ji34) + 1)) = j_ := ⟨_, rfl⟩
        replace H : (if 0 ≤ (ji38) then (if 0 ≤ (Int.tmod a1 32) then (if 0 ≤ x44_2 then (if x44_2 < (x4_2.length : Int) then (nat_Shr.l0 k2 l0 a1 (x4_2.set (x44_2 : Int).toNat ((shr .u64 (Go.bits .or .u64 (IntKind.u64.wrap (rd l0 (ji34))) (IntKind.u64.wrap ((IntKind.u64.wrap (rd l0 (ji38))) * 4294967296))) (Int.tmod a1 32)) % 4294967296)) x5_3 (wrap64 (Int.tdiv a1 32)) (y147.length : Int) (wrap64 (x44_2 + 1))) else (none)) else (none)) else (none)) else (none)) = some (r1, r2) := by first | (rw [hji38] at H; exact H) | (simp only [hji38] at H ⊢; exact H)
        (try rw [hji38] at c37b0)
        have hji38w : (IntKind.i64.wrap ((ji34) + 1)) = ji38 := (i64_w _).trans hji38
        replace H := zn H
        obtain ⟨c39, H⟩ := H
        have c39b0 := decide_eq_true c39
        clear c39
        obtain ⟨ji40, hji40⟩ : ∃ j_ : Int, (Int.tmod a1 32) = j_ := ⟨_, rfl⟩
        replace H : (if 0 ≤ (ji40) then (if 0 ≤ x44_2 then (if x44_2 < (x4_2.length : Int) then (nat_Shr.l0 k2 l0 a1 (x4_2.set (x44_2 : Int).toNat ((shr .u64 (Go.bits .or .u64 (IntKind.u64.wrap (rd l0 (ji34))) (IntKind.u64.wrap ((IntKind.u64.wrap (rd l0 (ji38))) * 4294967296))) (ji40)) % 4294967296)) x5_3 (wrap64 (Int.tdiv a1 32)) (y147.length : Int) (wrap64 (x44_2 + 1))) else (none)) else (none)) else (none)) = some (r1, r2) := by first | (rw [hji40] at H; exact H) | (simp only [hji40] at H ⊢; exact H)
        replace H := zn H
        obtain ⟨c41, H⟩ := H
        have c41b0 := eq_true c41
        have c41b1 := decide_eq_true c41
        clear c41
        obtain ⟨ji42, hji42⟩ : ∃ j_ : Int, (shr .u64 (Go.bits .or .u64 (IntKind.u64.wrap (rd l0 (ji34))) (IntKind.u64.wrap ((IntKind.u64.wrap (rd l0 (ji38))) * 4294967296))) (ji40)) = j_ := ⟨_, rfl⟩
        replace H : (if 0 ≤ x44_2 then (if x44_2 < (x4_2.length : Int) then (nat_Shr.l0 k2 l0 a1 (x4_2.set (x44_2 : Int).toNat ((ji42) % 4294967296)) x5_3 (wrap64 (Int.tdiv a1 32)) (y147.length : Int) (wrap64 (x44_2 + 1))) else (none)) else (none)) = some (r1, r2) := by first | (rw [hji42] at H; exact H) | (simp only [hji42] at H ⊢; exact H)
        have hji42_ : ((Go.bits .or .u64 (IntKind.u64.wrap (rd l0 (ji34))) (IntKind.u64.wrap ((IntKind.u64.wrap (rd l0 (ji38))) * 4294967296))) / 2 ^ min (ji40).toNat 64) = ji42 := hji42
        have hji42z : (ji40) ≤ 64 → ((Go.bits .or .u64 (IntKind.u64.wrap (rd l0 (ji34))) (IntKind.u64.wrap ((IntKind.u64.wrap (rd l0 (ji38))) * 4294967296))) / 2 ^ (ji40).toNat) = ji42 := shr_small hji42
        replace H := zn H
        obtain ⟨c43, H⟩ := H
        have c43b0 := decide_eq_true c43
        clear c43
        replace H := zn H
        obtain ⟨c44, H⟩ := H
        have c44b0 := decide_eq_true c44
        clear c44
        obtain ⟨y152, hy152⟩ : ∃ y_ : List Int, y_ = (x4_2.set (x44_2 : Int).toNat ((ji42) % 4294967296)) := ⟨_, rfl⟩
        try rw [← hy152] at H
        have Ny152 := am hy152
        clear hy152
        have H' := am H
        clear H
        have p150 : 0 ≤ ((ji34) : Int) := zq6
        have q150 : (ji34) < (l0.length : Int) := zq6
        obtain ⟨ad150, e150, hx150_0⟩ := Kd.at_int HR0.out (ji34) p150 q150
        cases e150
        replace hx150_0 := (HB.out.cell (World.block_lt_of_cell? w _ hx150_0)).trans hx150_0
        replace p150 := eq_true p150
        replace q150 := eq_true q150
        have p151 : 0 ≤ ((ji38) : Int) := zq6
        have q151 : (ji38) < (l0.length : Int) := zq6
        obtain ⟨ad151, e151, hx151_0⟩ := Kd.at_int HR0.out (ji38) p151 q151
        obtain rfl : ad150 = ad151 := (by injection e151)
        replace hx151_0 := (HB.out.cell (World.block_lt_of_cell? w _ hx151_0)).trans hx151_0
        replace p151 := eq_true p151
        replace q151 := eq_true q151
        have p45 : 0 ≤ (x44_2 : Int) := zq6
        have q45 : (x44_2 : Int) < ((x4_2.length : Int) : Int) := zq6
        obtain ⟨go45, co45, eo45, gb45, gl45, cl45, HG45⟩ := Kd.R_form HO_4.out (by omega)
        (first | cases eo45 | (injection eo45 with ea_ en_ ec_; (first | subst ea_ | (injection ea_ with ea_; subst ea_)); subst ec_; clear en_))
        have GB45 := am gb45
        have GG45 := am HG45
        clear gb45 gl45 HG45
        obtain ⟨hx45_0, hf45_0⟩ := Kd.R_celln 0 HO_4.out (x44_2 : Int) p45 q45
        replace p45 := eq_true p45
        replace q45 := eq_true q45
        have HP46 := Kd.R_putg HO_4.out (x44_2 : Int) ((ji42) % 4294967296)
        go_wp2_with (first | ((with_reducible refine gate_store (t := 55) (p := 79) rfl ?_); refine zstore (t := 55) (p := 79) (w1 := (wr.setCell ⟨go45, (x44_2 : Int).toNat, none⟩ (.int .u32 ((ji42) % 4294967296)))) ?_; intro w47 hw; have hg : wr.grownBy w47 (some go45) := (by rw [hw]; exact HP46.2); have hp_ : Kd.R (Kd.int .u32) 55 w47 w.heap.size (fun k_ => (w.heap.size ≤ k_)) (.slice (some ⟨go45, 0, none⟩) x4_2.length co32) y152 := (by rw [hw, Ny152.out]; exact HP46.1); clear HP46; refine zt2 (hp_) ((by rw [hw]; exact below_set (HB.out) GB45.out : Below w.heap.size w w47)) ?_; clear HO_4 HB; intro HO_4 HB; clear hg hw hp_))
        (try simp only [← hl4_2])
        go_roundg k2
        case measure => have := HJ3.out; have := HK2.out; omega
        case rel => exact ⟨(y152), (wrap64 (x44_2 + 1)), zq8, (by first | exact H' | (rw [hji27]; exact H') | (rw [hji34]; exact H') | (rw [hji38]; exact H') | (rw [hji40]; exact H') | (rw [hji42]; exact H')), ⟨by have := HJ3.out; have := HK2.out; omega⟩, ⟨by (try simp only [hl4_2]); (with_reducible repeat (first | apply Kd.R_alloc | apply Kd.R_drewN | apply Kd.R_drew)); exact HO_4.out⟩, ⟨zq1⟩⟩
       ·rw [if_neg c37] at H
        have c37b0 := decide_eq_false c37
        (try (have c37b0x := c37b0; rw [hl4_2] at c37b0x))
        clear c37
        obtain ⟨ji48, hji48⟩ : ∃ j_ : Int, (Int.tmod a1 32) = j_ := ⟨_, rfl⟩
        replace H : (if 0 ≤ (ji48) then (if 0 ≤ x44_2 then (if x44_2 < (x4_2.length : Int) then (nat_Shr.l0 k2 l0 a1 (x4_2.set (x44_2 : Int).toNat ((shr .u64 (IntKind.u64.wrap (rd l0 (ji34))) (ji48)) % 4294967296)) x5_3 (wrap64 (Int.tdiv a1 32)) (y147.length : Int) (wrap64 (x44_2 + 1))) else (none)) else (none)) else (none)) = some (r1, r2) := by first | (rw [hji48] at H; exact H) | (simp only [hji48] at H ⊢; exact H)
        replace H := zn H
        obtain ⟨c49, H⟩ := H
        have c49b0 := eq_true c49
        have c49b1 := decide_eq_true c49
        clear c49
        obtain ⟨ji50, hji50⟩ : ∃ j_ : Int, (shr .u64 (IntKind.u64.wrap (rd l0 (ji34))) (ji48)) = j_ := ⟨_, rfl⟩
        replace H : (if 0 ≤ x44_2 then (if x44_2 < (x4_2.length : Int) then (nat_Shr.l0 k2 l0 a1 (x4_2.set (x44_2 : Int).toNat ((ji50) % 4294967296)) x5_3 (wrap64 (Int.tdiv a1 32)) (y147.length : Int) (wrap64 (x44_2 + 1))) else (none)) else (none)) = some (r1, r2) := by first | (rw [hji50] at H; exact H) | (simp only [hji50] at H ⊢; exact H)
        have hji50_ : ((IntKind.u64.wrap (rd l0 (ji34))) / 2 ^ min (ji48).toNat 64) = ji50 := hji50
        have hji50z : (ji48) ≤ 64 → ((IntKind.u64.wrap (rd l0 (ji34))) / 2 ^ (ji48).toNat) = ji50 := shr_small hji50
        replace H := zn H
        obtain ⟨c51, H⟩ := H
        have c51b0 := decide_eq_true c51
        clear c51
        replace H := zn H
        obtain ⟨c52, H⟩ := H
        have c52b0 := decide_eq_true c52
        clear c52
        obtain ⟨y153, hy153⟩ : ∃ y_ : List Int, y_ = (x4_2.set (x44_2 : Int).toNat ((ji50) % 4294967296)) := ⟨_, rfl⟩
        try rw [← hy153] at H
        have Ny153 := am hy153
        clear hy153
        have H' := am H
        clear H
        have p150 : 0 ≤ ((ji34) : Int) := zq6
        have q150 : (ji34) < (l0.length : Int) := zq6
        obtain ⟨ad150, e150, hx150_0⟩ := Kd.at_int HR0.out (ji34) p150 q150
        cases e150
        replace hx150_0 := (HB.out.cell (World.block_lt_of_cell? w _ hx150_0)).trans hx150_0
        replace p150 := eq_true p150
        replace q150 := eq_true q150
        have p53 : 0 ≤ (x44_2 : Int) := zq6
        have q53 : (x44_2 : Int) < ((x4_2.length : Int) : Int) := zq6
        obtain ⟨go53, co53, eo53, gb53, gl53, cl53, HG53⟩ := Kd.R_form HO_4.out (by omega)
        (first | cases eo53 | (injection eo53 with ea_ en_ ec_; (first | subst ea_ | (injection ea_ with ea_; subst ea_)); subst ec_; clear en_))
        have GB53 := am gb53
        have GG53 := am HG53
        clear gb53 gl53 HG53
        obtain ⟨hx53_0, hf53_0⟩ := Kd.R_celln 0 HO_4.out (x44_2 : Int) p53 q53
        replace p53 := eq_true p53
        replace q53 := eq_true q53
        have HP54 := Kd.R_putg HO_4.out (x44_2 : Int) ((ji50) % 4294967296)
        go_wp2_with (first | ((with_reducible refine gate_store (t := 55) (p := 79) rfl ?_); refine zstore (t := 55) (p := 79) (w1 := (wr.setCell ⟨go53, (x44_2 : Int).toNat, none⟩ (.int .u32 ((ji50) % 4294967296)))) ?_; intro w55 hw; have hg : wr.grownBy w55 (some go53) := (by rw [hw]; exact HP54.2); have hp_ : Kd.R (Kd.int .u32) 55 w55 w.heap.size (fun k_ => (w.heap.size ≤ k_)) (.slice (some ⟨go53, 0, none⟩) x4_2.length co32) y153 := (by rw [hw, Ny153.out]; exact HP54.1); clear HP54; refine zt2 (hp_) ((by rw [hw]; exact below_set (HB.out) GB53.out : Below w.heap.size w w55)) ?_; clear HO_4 HB; intro HO_4 HB; clear hg hw hp_))
        (try simp only [← hl4_2])
        go_roundg k2
        case measure => have := HJ3.out; have := HK2.out; omega
        case rel => exact ⟨(y153), (wrap64 (x44_2 + 1)), zq8, (by first | exact H' | (rw [hji27]; exact H') | (rw [hji34]; exact H') | (rw [hji48]; exact H') | (rw [hji50]; exact H')), ⟨by have := HJ3.out; have := HK2.out; omega⟩, ⟨by (try simp only [hl4_2]); (with_reducible repeat (first | apply Kd.R_alloc | apply Kd.R_drewN | apply Kd.R_drew)); exact HO_4.out⟩, ⟨zq1⟩⟩
      ·rw [if_neg c33] at H
       have c33b0 := decide_eq_false c33
       (try (have c33b0x := c33b0; rw [hl4_2] at c33b0x))
       clear c33
       replace H := zj H
       obtain ⟨t154, A56, H⟩ := H
       simp only [Option.some.injEq, Prod.mk.injEq] at H
       obtain ⟨rfl, rfl⟩ := H
       go_wp2_with (first | ((with_reducible refine gate_callee (f := 86) rfl ?_); refine goesL_ (some 82) rfl rfl Tryd.func86 (by kernel_rfl) rfl #[.slice Ao32 x4_2.length co32] rfl zq5 ?_; (with_reducible refine (nat_Trim.calls k2 (fun k_ => some k_ = (.slice Ao32 x4_2.length co32 : Value).ownBlock) _ _ x4_2 t154 _ ?side1 A56.out).mono ?_); (case side1 => exact Kd.R_V (Kd.R_tight rfl (HO_4.out))); rintro e w57 ⟨v155, rfl, ho0, hb⟩; refine ⟨_, rfl, ?_⟩; refine zt3 (rb HO_4 hb) (Kd.V_lower (Kd.V_mono (ok' := fun k_ => (w.heap.size ≤ k_)) ho0 (fun k_ hk_ => Or.elim hk_ (fun hs_ => ((HO_4.out).1 k_ hs_.symm)) (fun hn_ => (Nat.le_trans (below_size zq1) hn_)))) (below_size zq1)) (below_step zq1 hb) ?_; clear HO_4 HB; intro HO_4 HO156 HB))
       go_ret2
       exact ⟨_, by first | rfl | (simp [errW_none, errW_some] <;> rfl) | (simp only [← hji27]; first | rfl | (simp [errW_none, errW_some] <;> rfl)) | (simp [*, errW_none, errW_some] <;> rfl), zq3 HO156.out, zq1⟩
def bits_Len32.f (a0 : Int) : Option (Int) := if a0 ≥ 65536 then (if (a0 / 65536) ≥ 256 then (if 0 ≤ (((a0 / 65536) / 256) % 256) then (if (((a0 / 65536) / 256) % 256) < 256 then (some (wrap64 ((16 + 8) + (wrap64 (bt (⟨#[0, 1, 2, 2, 3, 3, 3, 3, 4, 4, 4, 4, 4, 4, 4, 4, 5, 5, 5, 5, 5, 5, 5, 5, 5, 5, 5, 5, 5, 5, 5, 5, 6, 6, 6, 6, 6, 6, 6, 6, 6, 6, 6, 6, 6, 6, 6, 6, 6, 6, 6, 6, 6, 6, 6, 6, 6, 6, 6, 6, 6, 6, 6, 6, 7, 7, 7, 7, 7, 7, 7, 7, 7, 7, 7, 7, 7, 7, 7, 7, 7, 7, 7, 7, 7, 7, 7, 7, 7, 7, 7, 7, 7, 7, 7, 7, 7, 7, 7, 7, 7, 7, 7, 7, 7, 7, 7, 7, 7, 7, 7, 7, 7, 7, 7, 7, 7, 7, 7, 7, 7, 7, 7, 7, 7, 7, 7, 7, 8, 8, 8, 8, 8, 8, 8, 8, 8, 8, 8, 8, 8, 8, 8, 8, 8, 8, 8, 8, 8, 8, 8, 8, 8, 8, 8, 8, 8, 8, 8, 8, 8, 8, 8, 8, 8, 8, 8, 8, 8, 8, 8, 8, 8, 8, 8, 8, 8, 8, 8, 8, 8, 8, 8, 8, 8, 8, 8, 8, 8, 8, 8, 8, 8, 8, 8, 8, 8, 8, 8, 8, 8, 8, 8, 8, 8, 8, 8, 8, 8, 8, 8, 8, 8, 8, 8, 8, 8, 8, 8, 8, 8, 8, 8, 8, 8, 8, 8, 8, 8, 8, 8, 8, 8, 8, 8, 8, 8, 8, 8, 8, 8, 8, 8, 8, 8, 8, 8, 8, 8, 8, 8, 8, 8, 8, 8, 8]⟩ : ByteArray) (((a0 / 65536) / 256) % 256)))))) else (none)) else (none)) else (if 0 ≤ ((a0 / 65536) % 256) then (if ((a0 / 65536) % 256) < 256 then (some (wrap64 (16 + (wrap64 (bt (⟨#[0, 1, 2, 2, 3, 3, 3, 3, 4, 4, 4, 4, 4, 4, 4, 4, 5, 5, 5, 5, 5, 5, 5, 5, 5, 5, 5, 5, 5, 5, 5, 5, 6, 6, 6, 6, 6, 6, 6, 6, 6, 6, 6, 6, 6, 6, 6, 6, 6, 6, 6, 6, 6, 6, 6, 6, 6, 6, 6, 6, 6, 6, 6, 6, 7, 7, 7, 7, 7, 7, 7, 7, 7, 7, 7, 7, 7, 7, 7, 7, 7, 7, 7, 7, 7, 7, 7, 7, 7, 7, 7, 7, 7, 7, 7, 7, 7, 7, 7, 7, 7, 7, 7, 7, 7, 7, 7, 7, 7, 7, 7, 7, 7, 7, 7, 7, 7, 7, 7, 7, 7, 7, 7, 7, 7, 7, 7, 7, 8, 8, 8, 8, 8, 8, 8, 8, 8, 8, 8, 8, 8, 8, 8, 8, 8, 8, 8, 8, 8, 8, 8, 8, 8, 8, 8, 8, 8, 8, 8, 8, 8, 8, 8, 8, 8, 8, 8, 8, 8, 8, 8, 8, 8, 8, 8, 8, 8, 8, 8, 8, 8, 8, 8, 8, 8, 8, 8, 8, 8, 8, 8, 8, 8, 8, 8, 8, 8, 8, 8, 8, 8, 8, 8, 8, 8, 8, 8, 8, 8, 8, 8, 8, 8, 8, 8, 8, 8, 8, 8, 8, 8, 8, 8, 8, 8, 8, 8, 8, 8, 8, 8, 8, 8, 8, 8, 8, 8, 8, 8, 8, 8, 8, 8, 8, 8, 8, 8, 8, 8, 8, 8, 8, 8, 8, 8, 8]⟩ : ByteArray) ((a0 / 65536) % 256)))))) else (none)) else (none))) else (if a0 ≥ 256 then (if 0 ≤ ((a0 / 256) % 256) then (if ((a0 / 256) % 256) < 256 then (some (wrap64 ((0 + 8) + (wrap64 (bt (⟨#[0, 1, 2, 2, 3, 3, 3, 3, 4, 4, 4, 4, 4, 4, 4, 4, 5, 5, 5, 5, 5, 5, 5, 5, 5, 5, 5, 5, 5, 5, 5, 5, 6, 6, 6, 6, 6, 6, 6, 6, 6, 6, 6, 6, 6, 6, 6, 6, 6, 6, 6, 6, 6, 6, 6, 6, 6, 6, 6, 6, 6, 6, 6, 6, 7, 7, 7, 7, 7, 7, 7, 7, 7, 7, 7, 7, 7, 7, 7, 7, 7, 7, 7, 7, 7, 7, 7, 7, 7, 7, 7, 7, 7, 7, 7, 7, 7, 7, 7, 7, 7, 7, 7, 7, 7, 7, 7, 7, 7, 7, 7, 7, 7, 7, 7, 7, 7, 7, 7, 7, 7, 7, 7, 7, 7, 7, 7, 7, 8, 8, 8, 8, 8, 8, 8, 8, 8, 8, 8, 8, 8, 8, 8, 8, 8, 8, 8, 8, 8, 8, 8, 8, 8, 8, 8, 8, 8, 8, 8, 8, 8, 8, 8, 8, 8, 8, 8, 8, 8, 8, 8, 8, 8, 8, 8, 8, 8, 8, 8, 8, 8, 8, 8, 8, 8, 8, 8, 8, 8, 8, 8, 8, 8, 8, 8, 8, 8, 8, 8, 8, 8, 8, 8, 8, 8, 8, 8, 8, 8, 8, 8, 8, 8, 8, 8, 8, 8, 8, 8, 8, 8, 8, 8, 8, 8, 8, 8, 8, 8, 8, 8, 8, 8, 8, 8, 8, 8, 8, 8, 8, 8, 8, 8, 8, 8, 8, 8, 8, 8, 8, 8, 8, 8, 8, 8, 8]⟩ : ByteArray) ((a0 / 256) % 256)))))) else (none)) else (none)) else (if 0 ≤ ((a0) % 256) then (if ((a0) % 256) < 256 then (some (wrap64 (0 + (wrap64 (bt (⟨#[0, 1, 2, 2, 3, 3, 3, 3, 4, 4, 4, 4, 4, 4, 4, 4, 5, 5, 5, 5, 5, 5, 5, 5, 5, 5, 5, 5, 5, 5, 5, 5, 6, 6, 6, 6, 6, 6, 6, 6, 6, 6, 6, 6, 6, 6, 6, 6, 6, 6, 6, 6, 6, 6, 6, 6, 6, 6, 6, 6, 6, 6, 6, 6, 7, 7, 7, 7, 7, 7, 7, 7, 7, 7, 7, 7, 7, 7, 7, 7, 7, 7, 7, 7, 7, 7, 7, 7, 7, 7, 7, 7, 7, 7, 7, 7, 7, 7, 7, 7, 7, 7, 7, 7, 7, 7, 7, 7, 7, 7, 7, 7, 7, 7, 7, 7, 7, 7, 7, 7, 7, 7, 7, 7, 7, 7, 7, 7, 8, 8, 8, 8, 8, 8, 8, 8, 8, 8, 8, 8, 8, 8, 8, 8, 8, 8, 8, 8, 8, 8, 8, 8, 8, 8, 8, 8, 8, 8, 8, 8, 8, 8, 8, 8, 8, 8, 8, 8, 8, 8, 8, 8, 8, 8, 8, 8, 8, 8, 8, 8, 8, 8, 8, 8, 8, 8, 8, 8, 8, 8, 8, 8, 8, 8, 8, 8, 8, 8, 8, 8, 8, 8, 8, 8, 8, 8, 8, 8, 8, 8, 8, 8, 8, 8, 8, 8, 8, 8, 8, 8, 8, 8, 8, 8, 8, 8, 8, 8, 8, 8, 8, 8, 8, 8, 8, 8, 8, 8, 8, 8, 8, 8, 8, 8, 8, 8, 8, 8, 8, 8, 8, 8, 8, 8, 8, 8]⟩ : ByteArray) ((a0) % 256)))))) else (none)) else (none)))
set_option maxHeartbeats 8000000 in
set_option maxRecDepth 100000 in
theorem bits_Len32.calls (a0 : Int) (r : Int) (w : World) (h : bits_Len32.f a0 = some r) :
  Calls Tryd.prog 134 #[.int .u32 a0] w fun e w' => e = .returned (.int .i64 r) ∧ Drawn0 w w' := by
 have H := h
 unfold bits_Len32.f at H
 clear h
 by_cases c2 : a0 ≥ 65536
 ·rw [if_pos c2] at H
  have c2b0 : decide (65536 ≤ a0) = true := decide_eq_true c2
  clear c2
  by_cases c3 : (a0 / 65536) ≥ 256
  ·rw [if_pos c3] at H
   have c3b0 : decide (256 ≤ (a0 / 65536)) = true := decide_eq_true c3
   clear c3
   obtain ⟨ji4, hji4⟩ : ∃ j_ : Int, (((a0 / 65536) / 256) % 256) = j_ := ⟨_, rfl⟩
   replace H : (if 0 ≤ (ji4) then (if (ji4) < 256 then (some (wrap64 ((16 + 8) + (wrap64 (bt (⟨#[0, 1, 2, 2, 3, 3, 3, 3, 4, 4, 4, 4, 4, 4, 4, 4, 5, 5, 5, 5, 5, 5, 5, 5, 5, 5, 5, 5, 5, 5, 5, 5, 6, 6, 6, 6, 6, 6, 6, 6, 6, 6, 6, 6, 6, 6, 6, 6, 6, 6, 6, 6, 6, 6, 6, 6, 6, 6, 6, 6, 6, 6, 6, 6, 7, 7, 7, 7, 7, 7, 7, 7, 7, 7, 7, 7, 7, 7, 7, 7, 7, 7, 7, 7, 7, 7, 7, 7, 7, 7, 7, 7, 7, 7, 7, 7, 7, 7, 7, 7, 7, 7, 7, 7, 7, 7, 7, 7, 7, 7, 7, 7, 7, 7, 7, 7, 7, 7, 7, 7, 7, 7, 7, 7, 7, 7, 7, 7, 8, 8, 8, 8, 8, 8, 8, 8, 8, 8, 8, 8, 8, 8, 8, 8, 8, 8, 8, 8, 8, 8, 8, 8, 8, 8, 8, 8, 8, 8, 8, 8, 8, 8, 8, 8, 8, 8, 8, 8, 8, 8, 8, 8, 8, 8, 8, 8, 8, 8, 8, 8, 8, 8, 8, 8, 8, 8, 8, 8, 8, 8, 8, 8, 8, 8, 8, 8, 8, 8, 8, 8, 8, 8, 8, 8, 8, 8, 8, 8, 8, 8, 8, 8, 8, 8, 8, 8, 8, 8, 8, 8, 8, 8, 8, 8, 8, 8, 8, 8, 8, 8, 8, 8, 8, 8, 8, 8, 8, 8, 8, 8, 8, 8, 8, 8, 8, 8, 8, 8, 8, 8, 8, 8, 8, 8, 8, 8]⟩ : ByteArray) (ji4)))))) else (none)) else (none)) = some r := by first | (rw [hji4] at H; exact H) | (simp only [hji4] at H ⊢; exact H)
   replace H := zn H
   obtain ⟨c5, H⟩ := H
   have c5b0 := decide_eq_true c5
   clear c5
   replace H := zn H
   obtain ⟨c6, H⟩ := H
   have c6b0 := decide_eq_true c6
   clear c6
   obtain rfl := Option.some.inj H
   have p7 : 0 ≤ ((ji4) : Int) := zq6
   have q7 : (ji4) < (256 : Int) := zq6
   have hx7 := bt_at (⟨#[0, 1, 2, 2, 3, 3, 3, 3, 4, 4, 4, 4, 4, 4, 4, 4, 5, 5, 5, 5, 5, 5, 5, 5, 5, 5, 5, 5, 5, 5, 5, 5, 6, 6, 6, 6, 6, 6, 6, 6, 6, 6, 6, 6, 6, 6, 6, 6, 6, 6, 6, 6, 6, 6, 6, 6, 6, 6, 6, 6, 6, 6, 6, 6, 7, 7, 7, 7, 7, 7, 7, 7, 7, 7, 7, 7, 7, 7, 7, 7, 7, 7, 7, 7, 7, 7, 7, 7, 7, 7, 7, 7, 7, 7, 7, 7, 7, 7, 7, 7, 7, 7, 7, 7, 7, 7, 7, 7, 7, 7, 7, 7, 7, 7, 7, 7, 7, 7, 7, 7, 7, 7, 7, 7, 7, 7, 7, 7, 8, 8, 8, 8, 8, 8, 8, 8, 8, 8, 8, 8, 8, 8, 8, 8, 8, 8, 8, 8, 8, 8, 8, 8, 8, 8, 8, 8, 8, 8, 8, 8, 8, 8, 8, 8, 8, 8, 8, 8, 8, 8, 8, 8, 8, 8, 8, 8, 8, 8, 8, 8, 8, 8, 8, 8, 8, 8, 8, 8, 8, 8, 8, 8, 8, 8, 8, 8, 8, 8, 8, 8, 8, 8, 8, 8, 8, 8, 8, 8, 8, 8, 8, 8, 8, 8, 8, 8, 8, 8, 8, 8, 8, 8, 8, 8, 8, 8, 8, 8, 8, 8, 8, 8, 8, 8, 8, 8, 8, 8, 8, 8, 8, 8, 8, 8, 8, 8, 8, 8, 8, 8, 8, 8, 8, 8, 8, 8]⟩ : ByteArray) (ji4)
   replace p7 := eq_true p7
   replace q7 := eq_true q7
   go_enter Tryd.func134, Tryd.ntmps134
   go_wp2
   go_ret
   exact ⟨by first | rfl | (simp; done) | (simp only [← hji4] <;> (first | rfl | simp)) | (simp [*]; done), by repeat (first | exact Drawn0.refl _ | apply Drawn0.step)⟩
  ·rw [if_neg c3] at H
   have c3b0 : decide (256 ≤ (a0 / 65536)) = false := decide_eq_false c3
   clear c3
   obtain ⟨ji8, hji8⟩ : ∃ j_ : Int, ((a0 / 65536) % 256) = j_ := ⟨_, rfl⟩
   replace H : (if 0 ≤ (ji8) then (if (ji8) < 256 then (some (wrap64 (16 + (wrap64 (bt (⟨#[0, 1, 2, 2, 3, 3, 3, 3, 4, 4, 4, 4, 4, 4, 4, 4, 5, 5, 5, 5, 5, 5, 5, 5, 5, 5, 5, 5, 5, 5, 5, 5, 6, 6, 6, 6, 6, 6, 6, 6, 6, 6, 6, 6, 6, 6, 6, 6, 6, 6, 6, 6, 6, 6, 6, 6, 6, 6, 6, 6, 6, 6, 6, 6, 7, 7, 7, 7, 7, 7, 7, 7, 7, 7, 7, 7, 7, 7, 7, 7, 7, 7, 7, 7, 7, 7, 7, 7, 7, 7, 7, 7, 7, 7, 7, 7, 7, 7, 7, 7, 7, 7, 7, 7, 7, 7, 7, 7, 7, 7, 7, 7, 7, 7, 7, 7, 7, 7, 7, 7, 7, 7, 7, 7, 7, 7, 7, 7, 8, 8, 8, 8, 8, 8, 8, 8, 8, 8, 8, 8, 8, 8, 8, 8, 8, 8, 8, 8, 8, 8, 8, 8, 8, 8, 8, 8, 8, 8, 8, 8, 8, 8, 8, 8, 8, 8, 8, 8, 8, 8, 8, 8, 8, 8, 8, 8, 8, 8, 8, 8, 8, 8, 8, 8, 8, 8, 8, 8, 8, 8, 8, 8, 8, 8, 8, 8, 8, 8, 8, 8, 8, 8, 8, 8, 8, 8, 8, 8, 8, 8, 8, 8, 8, 8, 8, 8, 8, 8, 8, 8, 8, 8, 8, 8, 8, 8, 8, 8, 8, 8, 8, 8, 8, 8, 8, 8, 8, 8, 8, 8, 8, 8, 8, 8, 8, 8, 8, 8, 8, 8, 8, 8, 8, 8, 8, 8]⟩ : ByteArray) (ji8)))))) else (none)) else (none)) = some r := by first | (rw [hji8] at H; exact H) | (simp only [hji8] at H ⊢; exact H)
   replace H := zn H
   obtain ⟨c9, H⟩ := H
   have c9b0 := decide_eq_true c9
   clear c9
   replace H := zn H
   obtain ⟨c10, H⟩ := H
   have c10b0 := decide_eq_true c10
   clear c10
   obtain rfl := Option.some.inj H
   have p11 : 0 ≤ ((ji8) : Int) := zq6
   have q11 : (ji8) < (256 : Int) := zq6
   have hx11 := bt_at (⟨#[0, 1, 2, 2, 3, 3, 3, 3, 4, 4, 4, 4, 4, 4, 4, 4, 5, 5, 5, 5, 5, 5, 5, 5, 5, 5, 5, 5, 5, 5, 5, 5, 6, 6, 6, 6, 6, 6, 6, 6, 6, 6, 6, 6, 6, 6, 6, 6, 6, 6, 6, 6, 6, 6, 6, 6, 6, 6, 6, 6, 6, 6, 6, 6, 7, 7, 7, 7, 7, 7, 7, 7, 7, 7, 7, 7, 7, 7, 7, 7, 7, 7, 7, 7, 7, 7, 7, 7, 7, 7, 7, 7, 7, 7, 7, 7, 7, 7, 7, 7, 7, 7, 7, 7, 7, 7, 7, 7, 7, 7, 7, 7, 7, 7, 7, 7, 7, 7, 7, 7, 7, 7, 7, 7, 7, 7, 7, 7, 8, 8, 8, 8, 8, 8, 8, 8, 8, 8, 8, 8, 8, 8, 8, 8, 8, 8, 8, 8, 8, 8, 8, 8, 8, 8, 8, 8, 8, 8, 8, 8, 8, 8, 8, 8, 8, 8, 8, 8, 8, 8, 8, 8, 8, 8, 8, 8, 8, 8, 8, 8, 8, 8, 8, 8, 8, 8, 8, 8, 8, 8, 8, 8, 8, 8, 8, 8, 8, 8, 8, 8, 8, 8, 8, 8, 8, 8, 8, 8, 8, 8, 8, 8, 8, 8, 8, 8, 8, 8, 8, 8, 8, 8, 8, 8, 8, 8, 8, 8, 8, 8, 8, 8, 8, 8, 8, 8, 8, 8, 8, 8, 8, 8, 8, 8, 8, 8, 8, 8, 8, 8, 8, 8, 8, 8, 8, 8]⟩ : ByteArray) (ji8)
   replace p11 := eq_true p11
   replace q11 := eq_true q11
   go_enter Tryd.func134, Tryd.ntmps134
   go_wp2
   go_ret
   exact ⟨by first | rfl | (simp; done) | (simp only [← hji8] <;> (first | rfl | simp)) | (simp [*]; done), by repeat (first | exact Drawn0.refl _ | apply Drawn0.step)⟩
 ·rw [if_neg c2] at H
  have c2b0 : decide (65536 ≤ a0) = false := decide_eq_false c2
  clear c2
  by_cases c12 : a0 ≥ 256
  ·rw [if_pos c12] at H
   have c12b0 : decide (256 ≤ a0) = true := decide_eq_true c12
   clear c12
   obtain ⟨ji13, hji13⟩ : ∃ j_ : Int, ((a0 / 256) % 256) = j_ := ⟨_, rfl⟩
   replace H : (if 0 ≤ (ji13) then (if (ji13) < 256 then (some (wrap64 ((0 + 8) + (wrap64 (bt (⟨#[0, 1, 2, 2, 3, 3, 3, 3, 4, 4, 4, 4, 4, 4, 4, 4, 5, 5, 5, 5, 5, 5, 5, 5, 5, 5, 5, 5, 5, 5, 5, 5, 6, 6, 6, 6, 6, 6, 6, 6, 6, 6, 6, 6, 6, 6, 6, 6, 6, 6, 6, 6, 6, 6, 6, 6, 6, 6, 6, 6, 6, 6, 6, 6, 7, 7, 7, 7, 7, 7, 7, 7, 7, 7, 7, 7, 7, 7, 7, 7, 7, 7, 7, 7, 7, 7, 7, 7, 7, 7, 7, 7, 7, 7, 7, 7, 7, 7, 7, 7, 7, 7, 7, 7, 7, 7, 7, 7, 7, 7, 7, 7, 7, 7, 7, 7, 7, 7, 7, 7, 7, 7, 7, 7, 7, 7, 7, 7, 8, 8, 8, 8, 8, 8, 8, 8, 8, 8, 8, 8, 8, 8, 8, 8, 8, 8, 8, 8, 8, 8, 8, 8, 8, 8, 8, 8, 8, 8, 8, 8, 8, 8, 8, 8, 8, 8, 8, 8, 8, 8, 8, 8, 8, 8, 8, 8, 8, 8, 8, 8, 8, 8, 8, 8, 8, 8, 8, 8, 8, 8, 8, 8, 8, 8, 8, 8, 8, 8, 8, 8, 8, 8, 8, 8, 8, 8, 8, 8, 8, 8, 8, 8, 8, 8, 8, 8, 8, 8, 8, 8, 8, 8, 8, 8, 8, 8, 8, 8, 8, 8, 8, 8, 8, 8, 8, 8, 8, 8, 8, 8, 8, 8, 8, 8, 8, 8, 8, 8, 8, 8, 8, 8, 8, 8, 8, 8]⟩ : ByteArray) (ji13)))))) else (none)) else (none)) = some r := by first | (rw [hji13] at H; exact H) | (simp only [hji13] at H ⊢; exact H)
   replace H := zn H
   obtain ⟨c14, H⟩ := H
   have c14b0 := decide_eq_true c14
   clear c14
   replace H := zn H
   obtain ⟨c15, H⟩ := H
   have c15b0 := decide_eq_true c15
   clear c15
   obtain rfl := Option.some.inj H
   have p16 : 0 ≤ ((ji13) : Int) := zq6
   have q16 : (ji13) < (256 : Int) := zq6
   have hx16 := bt_at (⟨#[0, 1, 2, 2, 3, 3, 3, 3, 4, 4, 4, 4, 4, 4, 4, 4, 5, 5, 5, 5, 5, 5, 5, 5, 5, 5, 5, 5, 5, 5, 5, 5, 6, 6, 6, 6, 6, 6, 6, 6, 6, 6, 6, 6, 6, 6, 6, 6, 6, 6, 6, 6, 6, 6, 6, 6, 6, 6, 6, 6, 6, 6, 6, 6, 7, 7, 7, 7, 7, 7, 7, 7, 7, 7, 7, 7, 7, 7, 7, 7, 7, 7, 7, 7, 7, 7, 7, 7, 7, 7, 7, 7, 7, 7, 7, 7, 7, 7, 7, 7, 7, 7, 7, 7, 7, 7, 7, 7, 7, 7, 7, 7, 7, 7, 7, 7, 7, 7, 7, 7, 7, 7, 7, 7, 7, 7, 7, 7, 8, 8, 8, 8, 8, 8, 8, 8, 8, 8, 8, 8, 8, 8, 8, 8, 8, 8, 8, 8, 8, 8, 8, 8, 8, 8, 8, 8, 8, 8, 8, 8, 8, 8, 8, 8, 8, 8, 8, 8, 8, 8, 8, 8, 8, 8, 8, 8, 8, 8, 8, 8, 8, 8, 8, 8, 8, 8, 8, 8, 8, 8, 8, 8, 8, 8, 8, 8, 8, 8, 8, 8, 8, 8, 8, 8, 8, 8, 8, 8, 8, 8, 8, 8, 8, 8, 8, 8, 8, 8, 8, 8, 8, 8, 8, 8, 8, 8, 8, 8, 8, 8, 8, 8, 8, 8, 8, 8, 8, 8, 8, 8, 8, 8, 8, 8, 8, 8, 8, 8, 8, 8, 8, 8, 8, 8, 8, 8]⟩ : ByteArray) (ji13)
   replace p16 := eq_true p16
   replace q16 := eq_true q16
   go_enter Tryd.func134, Tryd.ntmps134
   go_wp2
   go_ret
   exact ⟨by first | rfl | (simp; done) | (simp only [← hji13] <;> (first | rfl | simp)) | (simp [*]; done), by repeat (first | exact Drawn0.refl _ | apply Drawn0.step)⟩
  ·rw [if_neg c12] at H
   have c12b0 : decide (256 ≤ a0) = false := decide_eq_false c12
   clear c12
   obtain ⟨ji17, hji17⟩ : ∃ j_ : Int, ((a0) % 256) = j_ := ⟨_, rfl⟩
   replace H : (if 0 ≤ (ji17) then (if (ji17) < 256 then (some (wrap64 (0 + (wrap64 (bt (⟨#[0, 1, 2, 2, 3, 3, 3, 3, 4, 4, 4, 4, 4, 4, 4, 4, 5, 5, 5, 5, 5, 5, 5, 5, 5, 5, 5, 5, 5, 5, 5, 5, 6, 6, 6, 6, 6, 6, 6, 6, 6, 6, 6, 6, 6, 6, 6, 6, 6, 6, 6, 6, 6, 6, 6, 6, 6, 6, 6, 6, 6, 6, 6, 6, 7, 7, 7, 7, 7, 7, 7, 7, 7, 7, 7, 7, 7, 7, 7, 7, 7, 7, 7, 7, 7, 7, 7, 7, 7, 7, 7, 7, 7, 7, 7, 7, 7, 7, 7, 7, 7, 7, 7, 7, 7, 7, 7, 7, 7, 7, 7, 7, 7, 7, 7, 7, 7, 7, 7, 7, 7, 7, 7, 7, 7, 7, 7, 7, 8, 8, 8, 8, 8, 8, 8, 8, 8, 8, 8, 8, 8, 8, 8, 8, 8, 8, 8, 8, 8, 8, 8, 8, 8, 8, 8, 8, 8, 8, 8, 8, 8, 8, 8, 8, 8, 8, 8, 8, 8, 8, 8, 8, 8, 8, 8, 8, 8, 8, 8, 8, 8, 8, 8, 8, 8, 8, 8, 8, 8, 8, 8, 8, 8, 8, 8, 8, 8, 8, 8, 8, 8, 8, 8, 8, 8, 8, 8, 8, 8, 8, 8, 8, 8, 8, 8, 8, 8, 8, 8, 8, 8, 8, 8, 8, 8, 8, 8, 8, 8, 8, 8, 8, 8, 8, 8, 8, 8, 8, 8, 8, 8, 8, 8, 8, 8, 8, 8, 8, 8, 8, 8, 8, 8, 8, 8, 8]⟩ : ByteArray) (ji17)))))) else (none)) else (none)) = some r := by first | (rw [hji17] at H; exact H) | (simp only [hji17] at H ⊢; exact H)
   replace H := zn H
   obtain ⟨c18, H⟩ := H
   have c18b0 := decide_eq_true c18
   clear c18
   replace H := zn H
   obtain ⟨c19, H⟩ := H
   have c19b0 := decide_eq_true c19
   clear c19
   obtain rfl := Option.some.inj H
   have p20 : 0 ≤ ((ji17) : Int) := zq6
   have q20 : (ji17) < (256 : Int) := zq6
   have hx20 := bt_at (⟨#[0, 1, 2, 2, 3, 3, 3, 3, 4, 4, 4, 4, 4, 4, 4, 4, 5, 5, 5, 5, 5, 5, 5, 5, 5, 5, 5, 5, 5, 5, 5, 5, 6, 6, 6, 6, 6, 6, 6, 6, 6, 6, 6, 6, 6, 6, 6, 6, 6, 6, 6, 6, 6, 6, 6, 6, 6, 6, 6, 6, 6, 6, 6, 6, 7, 7, 7, 7, 7, 7, 7, 7, 7, 7, 7, 7, 7, 7, 7, 7, 7, 7, 7, 7, 7, 7, 7, 7, 7, 7, 7, 7, 7, 7, 7, 7, 7, 7, 7, 7, 7, 7, 7, 7, 7, 7, 7, 7, 7, 7, 7, 7, 7, 7, 7, 7, 7, 7, 7, 7, 7, 7, 7, 7, 7, 7, 7, 7, 8, 8, 8, 8, 8, 8, 8, 8, 8, 8, 8, 8, 8, 8, 8, 8, 8, 8, 8, 8, 8, 8, 8, 8, 8, 8, 8, 8, 8, 8, 8, 8, 8, 8, 8, 8, 8, 8, 8, 8, 8, 8, 8, 8, 8, 8, 8, 8, 8, 8, 8, 8, 8, 8, 8, 8, 8, 8, 8, 8, 8, 8, 8, 8, 8, 8, 8, 8, 8, 8, 8, 8, 8, 8, 8, 8, 8, 8, 8, 8, 8, 8, 8, 8, 8, 8, 8, 8, 8, 8, 8, 8, 8, 8, 8, 8, 8, 8, 8, 8, 8, 8, 8, 8, 8, 8, 8, 8, 8, 8, 8, 8, 8, 8, 8, 8, 8, 8, 8, 8, 8, 8, 8, 8, 8, 8, 8, 8]⟩ : ByteArray) (ji17)
   replace p20 := eq_true p20
   replace q20 := eq_true q20
   go_enter Tryd.func134, Tryd.ntmps134
   go_wp2
   go_ret
   exact ⟨by first | rfl | (simp; done) | (simp only [← hji17] <;> (first | rfl | simp)) | (simp [*]; done), by repeat (first | exact Drawn0.refl _ | apply Drawn0.step)⟩
def bits_LeadingZeros32.f (a0 : Int) : Option (Int) := (bits_Len32.f a0).bind fun t157 => (some (wrap64 (32 - t157)))
set_option maxHeartbeats 8000000 in
set_option maxRecDepth 100000 in
theorem bits_LeadingZeros32.calls (a0 : Int) (r : Int) (w : World) (h : bits_LeadingZeros32.f a0 = some r) :
  Calls Tryd.prog 120 #[.int .u32 a0] w fun e w' => e = .returned (.int .i64 r) ∧ Drawn0 w w' := by
 have H := h
 unfold bits_LeadingZeros32.f at H
 clear h
 replace H := zj H
 obtain ⟨t157, A2, H⟩ := H
 obtain rfl := Option.some.inj H
 go_enter Tryd.func120, Tryd.ntmps120
 go_wp2_with (first | ((with_reducible refine gate_callee (f := 134) rfl ?_); refine goesL_ (some 4) rfl rfl Tryd.func134 (by kernel_rfl) rfl #[.int .u32 a0] rfl zq5 ?_; (with_reducible refine (bits_Len32.calls a0 t157 _ A2.out).mono ?_); rintro e w' ⟨rfl, ⟨nd, rfl⟩⟩; refine ⟨_, rfl, ?_⟩))
 go_ret
 exact ⟨by first | rfl | (simp; done) | (simp [*]; done), by repeat (first | exact Drawn0.refl _ | apply Drawn0.step)⟩
mutual
def nat_digit.j2 : Nat → List Int → List Int → Int → Int → Option (Int × List Int)
 | 0, _, _, _, _ => none
 | k + 1, x0, x1, x5, x7 => nat_digit.l1 k x0 x1 x5 x7 0 0 (x1.length : Int) 0
def nat_digit.l1 : Nat → List Int → List Int → Int → Int → Int → Int → Int → Int → Option (Int × List Int)
 | 0, _, _, _, _, _, _, _, _ => none
 | k + 1, x0, x1, x5, x7, x9, x10, x83, x84 => if x84 < x83 then (if 0 ≤ x84 then (if x84 < (x1.length : Int) then (if x84 < (x0.length : Int) then (nat_digit.l1 k (x0.set (x84 : Int).toNat ((IntKind.u64.wrap ((IntKind.u64.wrap ((IntKind.u64.wrap (rd x0 x84)) - ((IntKind.u64.wrap (x10 + (IntKind.u64.wrap (x7 * (IntKind.u64.wrap (rd x1 x84)))))) % 4294967296))) - x9)) % 4294967296)) x1 x5 x7 (Go.bits .and .u64 ((IntKind.u64.wrap ((IntKind.u64.wrap ((IntKind.u64.wrap (rd x0 x84)) - ((IntKind.u64.wrap (x10 + (IntKind.u64.wrap (x7 * (IntKind.u64.wrap (rd x1 x84)))))) % 4294967296))) - x9)) / 4294967296) 1) ((IntKind.u64.wrap (x10 + (IntKind.u64.wrap (x7 * (IntKind.u64.wrap (rd x1 x84)))))) / 4294967296) x83 (wrap64 (x84 + 1))) else (none)) else (none)) else (none)) else (if 0 ≤ x5 then (if x5 < (x0.length : Int) then ((some (x0.set (x5 : Int).toNat ((IntKind.u64.wrap ((IntKind.u64.wrap ((IntKind.u64.wrap (rd x0 x5)) - x10)) - x9)) % 4294967296) : List Int)).bind fun y169 => (if (Go.bits .and .u64 ((IntKind.u64.wrap ((IntKind.u64.wrap ((IntKind.u64.wrap (rd x0 x5)) - x10)) - x9)) / 4294967296) 1) = 0 then (some ((x7) % 4294967296, y169)) else (nat_digit.l2 k y169 x1 x5 x7 0 (x1.length : Int) 0))) else (none)) else (none))
def nat_digit.l2 : Nat → List Int → List Int → Int → Int → Int → Int → Int → Option (Int × List Int)
 | 0, _, _, _, _, _, _, _ => none
 | k + 1, x0, x1, x5, x7, x10, x139, x140 => if x140 < x139 then (if 0 ≤ x140 then (if x140 < (x0.length : Int) then (if x140 < (x1.length : Int) then (nat_digit.l2 k (x0.set (x140 : Int).toNat ((IntKind.u64.wrap (x10 + (IntKind.u64.wrap ((IntKind.u64.wrap (rd x0 x140)) + (IntKind.u64.wrap (rd x1 x140)))))) % 4294967296)) x1 x5 x7 ((IntKind.u64.wrap (x10 + (IntKind.u64.wrap ((IntKind.u64.wrap (rd x0 x140)) + (IntKind.u64.wrap (rd x1 x140)))))) / 4294967296) x139 (wrap64 (x140 + 1))) else (none)) else (none)) else (none)) else (if 0 ≤ x5 then (if x5 < (x0.length : Int) then (some ((IntKind.u64.wrap (x7 - 1)) % 4294967296, (x0.set (x5 : Int).toNat (((rd x0 x5) + ((x10) % 4294967296)) % 4294967296)))) else (none)) else (none))
def nat_digit.l0 : Nat → List Int → List Int → Int → Int → Int → Option (Int × List Int)
 | 0, _, _, _, _, _ => none
 | k + 1, x0, x1, x5, x7, x8 => if (x7 / 4294967296) > 0 then (nat_digit.j1 k x0 x1 x5 x7 x8 true) else (if 0 ≤ (wrap64 (x5 - 2)) then (if (wrap64 (x5 - 2)) < (x1.length : Int) then (if (wrap64 (x5 - 2)) < (x0.length : Int) then (nat_digit.j1 k x0 x1 x5 x7 x8 (decide ((IntKind.u64.wrap (x7 * (IntKind.u64.wrap (rd x1 (wrap64 (x5 - 2)))))) > (Go.bits .or .u64 (IntKind.u64.wrap (x8 * 4294967296)) (IntKind.u64.wrap (rd x0 (wrap64 (x5 - 2)))))))) else (none)) else (none)) else (none))
def nat_digit.j1 : Nat → List Int → List Int → Int → Int → Int → Bool → Option (Int × List Int)
 | 0, _, _, _, _, _, _ => none
 | k + 1, x0, x1, x5, x7, x8, x68 => if x68 = true then (if 0 ≤ (wrap64 (x5 - 1)) then (if (wrap64 (x5 - 1)) < (x1.length : Int) then (if ((IntKind.u64.wrap (x8 + (IntKind.u64.wrap (rd x1 (wrap64 (x5 - 1)))))) / 4294967296) > 0 then (nat_digit.j2 k x0 x1 x5 (IntKind.u64.wrap (x7 - 1))) else (nat_digit.l0 k x0 x1 x5 (IntKind.u64.wrap (x7 - 1)) (IntKind.u64.wrap (x8 + (IntKind.u64.wrap (rd x1 (wrap64 (x5 - 1)))))))) else (none)) else (none)) else (nat_digit.j2 k x0 x1 x5 x7)
end
def nat_digit.f (k : Nat) (l0 : List Int) (l1 : List Int) : Option (Int × List Int) := if 0 ≤ (l1.length : Int) then (if (l1.length : Int) < (l0.length : Int) then (if 0 ≤ (wrap64 ((l1.length : Int) - 1)) then (if (wrap64 ((l1.length : Int) - 1)) < (l0.length : Int) then (if (wrap64 ((l1.length : Int) - 1)) < (l1.length : Int) then (if (IntKind.u64.wrap (rd l1 (wrap64 ((l1.length : Int) - 1)))) = 0 then (none) else (nat_digit.l0 k l0 l1 (l1.length : Int) (IntKind.u64.wrap (Int.tdiv (Go.bits .or .u64 (IntKind.u64.wrap ((IntKind.u64.wrap (rd l0 (l1.length : Int))) * 4294967296)) (IntKind.u64.wrap (rd l0 (wrap64 ((l1.length : Int) - 1))))) (IntKind.u64.wrap (rd l1 (wrap64 ((l1.length : Int) - 1)))))) (Int.tmod (Go.bits .or .u64 (IntKind.u64.wrap ((IntKind.u64.wrap (rd l0 (l1.length : Int))) * 4294967296)) (IntKind.u64.wrap (rd l0 (wrap64 ((l1.length : Int) - 1))))) (IntKind.u64.wrap (rd l1 (wrap64 ((l1.length : Int) - 1))))))) else (none)) else (none)) else (none)) else (none)) else (none)
theorem nat_digit.mono_l : ∀ k, (∀ y0 y1 y2 y3, LeO (nat_digit.j2 k y0 y1 y2 y3) (nat_digit.j2 (k + 1) y0 y1 y2 y3)) ∧ (∀ y0 y1 y2 y3 y4 y5 y6 y7, LeO (nat_digit.l1 k y0 y1 y2 y3 y4 y5 y6 y7) (nat_digit.l1 (k + 1) y0 y1 y2 y3 y4 y5 y6 y7)) ∧ (∀ y0 y1 y2 y3 y4 y5 y6, LeO (nat_digit.l2 k y0 y1 y2 y3 y4 y5 y6) (nat_digit.l2 (k + 1) y0 y1 y2 y3 y4 y5 y6)) ∧ (∀ y0 y1 y2 y3 y4, LeO (nat_digit.l0 k y0 y1 y2 y3 y4) (nat_digit.l0 (k + 1) y0 y1 y2 y3 y4)) ∧ (∀ y0 y1 y2 y3 y4 y5, LeO (nat_digit.j1 k y0 y1 y2 y3 y4 y5) (nat_digit.j1 (k + 1) y0 y1 y2 y3 y4 y5))
 | 0 => ⟨fun _ _ _ _ r h => by simp [nat_digit.j2] at h, fun _ _ _ _ _ _ _ _ r h => by simp [nat_digit.l1] at h, fun _ _ _ _ _ _ _ r h => by simp [nat_digit.l2] at h, fun _ _ _ _ _ r h => by simp [nat_digit.l0] at h, fun _ _ _ _ _ _ r h => by simp [nat_digit.j1] at h⟩
 | k + 1 => by
  obtain ⟨ih0, ih1, ih2, ih3, ih4⟩ := nat_digit.mono_l k
  refine ⟨?_, ?_, ?_, ?_, ?_⟩
  ·intro y0 y1 y2 y3
   unfold nat_digit.j2
   have m0 := ih0
   have m1 := ih1
   have m2 := ih2
   have m3 := ih3
   have m4 := ih4
   exact zm
  ·intro y0 y1 y2 y3 y4 y5 y6 y7
   unfold nat_digit.l1
   have m0 := ih0
   have m1 := ih1
   have m2 := ih2
   have m3 := ih3
   have m4 := ih4
   exact zm
  ·intro y0 y1 y2 y3 y4 y5 y6
   unfold nat_digit.l2
   have m0 := ih0
   have m1 := ih1
   have m2 := ih2
   have m3 := ih3
   have m4 := ih4
   exact zm
  ·intro y0 y1 y2 y3 y4
   unfold nat_digit.l0
   have m0 := ih0
   have m1 := ih1
   have m2 := ih2
   have m3 := ih3
   have m4 := ih4
   exact zm
  ·intro y0 y1 y2 y3 y4 y5
   unfold nat_digit.j1
   have m0 := ih0
   have m1 := ih1
   have m2 := ih2
   have m3 := ih3
   have m4 := ih4
   exact zm
theorem nat_digit.mono : ∀ a0 a1 k, LeO (nat_digit.f k a0 a1) (nat_digit.f (k + 1) a0 a1) := by
 intro a0 a1 k
 obtain ⟨ih0, ih1, ih2, ih3, ih4⟩ := nat_digit.mono_l k
 unfold nat_digit.f
 have m0 := ih0
 have m1 := ih1
 have m2 := ih2
 have m3 := ih3
 have m4 := ih4
 exact zm
set_option maxHeartbeats 8000000 in
set_option maxRecDepth 100000 in
theorem nat_digit.callsW (pr_ po_ : List Int) (nW_ cW_ : Nat) (k : Nat) (P0_ : Nat → Prop) (u9000_ : Value) (l0 : List Int) (A1 : Option Addr) (c1 : Nat) (l1 : List Int) (r1 : Int) (r2 : List Int) (w0 w : World) (hB : Below w0.heap.size w0 w) (ho0 : Wd pr_ po_ nW_ cW_ .u32 55 w w0.heap.size P0_ u9000_ l0) (hr1 : ∀ W_, Kept w W_ (fun k_ => P0_ k_) → Kd.C (Kd.int .u32) W_ A1 l1.length l1) (hc1 : l1.length ≤ c1) (h : nat_digit.f k l0 l1 = some (r1, r2)) :
  Calls Tryd.prog 121 #[u9000_, .slice A1 l1.length c1] w fun e w' => e = .returned (.int .u32 r1) ∧ Wd pr_ po_ nW_ cW_ .u32 55 w' w0.heap.size (fun k_ => (P0_ k_ ∨ w.heap.size ≤ k_)) u9000_ r2 ∧ Below w0.heap.size w0 w' ∧ Kept w w' (fun k_ => P0_ k_) := by
 have HO0 := am (show Wd pr_ po_ nW_ cW_ .u32 55 w w0.heap.size (fun k_ => (P0_ k_ ∨ w.heap.size ≤ k_)) u9000_ l0 from Wd_mono ho0 (fun k_ hk => (.inl hk)))
 have HR1 := am hr1
 have HC1 := am hc1
 clear hr1 hc1
 have HK := am (Kept.refl w (fun k_ => P0_ k_))
 have HW0 := am hB.size
 have HB := am hB
 clear hB
 have H : (if 0 ≤ (l1.length : Int) then (if (l1.length : Int) < (l0.length : Int) then (if 0 ≤ (wrap64 ((l1.length : Int) - 1)) then (if (wrap64 ((l1.length : Int) - 1)) < (l0.length : Int) then (if (wrap64 ((l1.length : Int) - 1)) < (l1.length : Int) then (if (IntKind.u64.wrap (rd l1 (wrap64 ((l1.length : Int) - 1)))) = 0 then (none) else (nat_digit.l0 k l0 l1 (l1.length : Int) (IntKind.u64.wrap (Int.tdiv (Go.bits .or .u64 (IntKind.u64.wrap ((IntKind.u64.wrap (rd l0 (l1.length : Int))) * 4294967296)) (IntKind.u64.wrap (rd l0 (wrap64 ((l1.length : Int) - 1))))) (IntKind.u64.wrap (rd l1 (wrap64 ((l1.length : Int) - 1)))))) (Int.tmod (Go.bits .or .u64 (IntKind.u64.wrap ((IntKind.u64.wrap (rd l0 (l1.length : Int))) * 4294967296)) (IntKind.u64.wrap (rd l0 (wrap64 ((l1.length : Int) - 1))))) (IntKind.u64.wrap (rd l1 (wrap64 ((l1.length : Int) - 1))))))) else (none)) else (none)) else (none)) else (none)) else (none)) = some (r1, r2) := h
 clear h
 replace H := zn H
 obtain ⟨c3, H⟩ := H
 have c3b0 := decide_eq_true c3
 have c3b1 : decide (0 ≤ l1.length) = true := decide_eq_true (by omega)
 clear c3
 replace H := zn H
 obtain ⟨c4, H⟩ := H
 have c4b0 := decide_eq_true c4
 have c4b1 : decide (l1.length < l0.length) = true := decide_eq_true (Int.ofNat_lt.mp c4)
 clear c4
 obtain ⟨ji5, hji5⟩ : ∃ j_ : Int, (wrap64 ((l1.length : Int) - 1)) = j_ := ⟨_, rfl⟩
 replace H : (if 0 ≤ (ji5) then (if (ji5) < (l0.length : Int) then (if (ji5) < (l1.length : Int) then (if (IntKind.u64.wrap (rd l1 (ji5))) = 0 then (none) else (nat_digit.l0 k l0 l1 (l1.length : Int) (IntKind.u64.wrap (Int.tdiv (Go.bits .or .u64 (IntKind.u64.wrap ((IntKind.u64.wrap (rd l0 (l1.length : Int))) * 4294967296)) (IntKind.u64.wrap (rd l0 (ji5)))) (IntKind.u64.wrap (rd l1 (ji5))))) (Int.tmod (Go.bits .or .u64 (IntKind.u64.wrap ((IntKind.u64.wrap (rd l0 (l1.length : Int))) * 4294967296)) (IntKind.u64.wrap (rd l0 (ji5)))) (IntKind.u64.wrap (rd l1 (ji5)))))) else (none)) else (none)) else (none)) = some (r1, r2) := by first | (rw [hji5] at H; exact H) | (simp only [hji5] at H ⊢; exact H)
 have hji5w : (IntKind.i64.wrap ((l1.length : Int) - 1)) = ji5 := (i64_w _).trans hji5
 replace H := zn H
 obtain ⟨c6, H⟩ := H
 have c6b0 := decide_eq_true c6
 clear c6
 replace H := zn H
 obtain ⟨c7, H⟩ := H
 have c7b0 := decide_eq_true c7
 clear c7
 replace H := zn H
 obtain ⟨c8, H⟩ := H
 have c8b0 := decide_eq_true c8
 clear c8
 replace H := zo H
 obtain ⟨c9, H⟩ := H
 have c9b0 : ((IntKind.u64.wrap (rd l1 (ji5))) == 0) = false := beq_eq_false_iff_ne.mpr c9
 have c9b1 : ((IntKind.u64.wrap (rd l1 (ji5))) != 0) = true := bne_iff_ne.mpr c9
 have HC10 := am H
 clear H
 obtain ⟨Ao11, co11, eo11⟩ := Wd_slice HO0.out
 subst eo11
 have p158 : 0 ≤ ((l1.length : Int) : Int) := zq6
 have q158 : (l1.length : Int) < (l0.length : Int) := zq6
 obtain ⟨ad158, e158, hx158_0⟩ := Kd.at_int (Wd_reads' HO0.out).2.2 (l1.length : Int) p158 q158
 cases e158
 (try simp only [Go.IntWalk.toNatUp] at hx158_0)
 replace p158 := eq_true p158
 replace q158 := eq_true q158
 have p159 : 0 ≤ ((ji5) : Int) := zq6
 have q159 : (ji5) < (l0.length : Int) := zq6
 obtain ⟨ad159, e159, hx159_0⟩ := Kd.at_int (Wd_reads' HO0.out).2.2 (ji5) p159 q159
 obtain rfl : ad158 = ad159 := (by injection e159)
 replace p159 := eq_true p159
 replace q159 := eq_true q159
 have p160 : 0 ≤ ((ji5) : Int) := zq6
 have q160 : (ji5) < (l1.length : Int) := zq6
 obtain ⟨ad160, e160, hx160_0⟩ := Kd.at_int (Kd.C_kept_now HR1.out HK.out) (ji5) p160 q160
 cases e160
 replace p160 := eq_true p160
 replace q160 := eq_true q160
 have p161 : 0 ≤ ((ji5) : Int) := zq6
 have q161 : (ji5) < (l1.length : Int) := zq6
 obtain ⟨ad161, e161, hx161_0⟩ := Kd.at_int (Kd.C_kept_now HR1.out HK.out) (ji5) p161 q161
 obtain rfl : ad160 = ad161 := (by injection e161)
 replace p161 := eq_true p161
 replace q161 := eq_true q161
 go_enter Tryd.func121, Tryd.ntmps121
 go_upto_block 0 with (fail)
 repeat (go_quiet (fail); go_upto_block 0 with (fail))
 go_cut [7] (fun v7 wc => ∃ (kq : Nat) (x7_9 : Int), v7 = .int .u64 x7_9 ∧ Aside0 (nat_digit.j2 kq l0 l1 (l1.length : Int) x7_9 = some (r1, r2)) ∧ Aside0 (kq ≤ k) ∧ Aside0 (Wd pr_ po_ nW_ cW_ .u32 55 wc w0.heap.size (fun k_ => (P0_ k_ ∨ w.heap.size ≤ k_)) (.slice (some ad158) l0.length co11) l0) ∧ Aside0 (Kept w wc (fun k_ => P0_ k_)) ∧ Aside0 (Below w0.heap.size w0 wc))
 case first =>
  have H := HC10.out
  clear HC10
  have H' := am H
  clear H
  go_wp2
  repeat (go_quiet (fail); try go_wp2)
  go_loopg [7, 8] k (fun kq v7 v8 w' => ∃ (x7_1 : Int) (x8_1 : Int), v7 = .int .u64 x7_1 ∧ v8 = .int .u64 x8_1 ∧ Aside0 (nat_digit.l0 kq l0 l1 (l1.length : Int) x7_1 x8_1 = some (r1, r2)) ∧ Aside0 (kq ≤ k) ∧ Aside0 (Wd pr_ po_ nW_ cW_ .u32 55 w' w0.heap.size (fun k_ => (P0_ k_ ∨ w.heap.size ≤ k_)) (.slice (some ad158) l0.length co11) l0) ∧ Aside0 (Kept w w' (fun k_ => P0_ k_)) ∧ Aside0 (Below w0.heap.size w0 w'))
  case atStart => exact ⟨(IntKind.u64.wrap (Int.tdiv (Go.bits .or .u64 (IntKind.u64.wrap ((IntKind.u64.wrap (rd l0 (l1.length : Int))) * 4294967296)) (IntKind.u64.wrap (rd l0 (ji5)))) (IntKind.u64.wrap (rd l1 (ji5))))), (Int.tmod (Go.bits .or .u64 (IntKind.u64.wrap ((IntKind.u64.wrap (rd l0 (l1.length : Int))) * 4294967296)) (IntKind.u64.wrap (rd l0 (ji5)))) (IntKind.u64.wrap (rd l1 (ji5)))), (by first | rfl | (simp; done) | (simp only [← hji5] <;> (first | rfl | simp)) | (simp [*]; done)), (by first | rfl | (simp; done) | (simp only [← hji5] <;> (first | rfl | simp)) | (simp [*]; done)), H', ⟨Nat.le_refl _⟩, ⟨by (with_reducible repeat (first | apply Wd_alloc | apply Wd_drewN | apply Wd_drew)); exact HO0.out⟩, ⟨by repeat (first | (with_reducible first | exact HK.out | apply Kept.alloc | apply Kept.drewN | apply Kept.drew) | exact HK.out)⟩, ⟨zq1⟩⟩
  case round =>
   clear H'
   obtain ⟨x7_1, x8_1, rfl, rfl, HA, HK1, HO_0, HK, HB⟩ := hrel
   cases gk with
   | zero => exact absurd HA.out (by simp [nat_digit.l0])
   | succ k1 =>
    have H := HA.out
    clear HA
    simp only [nat_digit.l0] at H
    have HC12 := am H
    clear H
    go_upto_region 4 with (fail)
    repeat (go_quiet (fail); go_upto_region 4 with (fail))
    go_cut [68] (fun v68 wc => ∃ (kq : Nat) (x68_11 : Bool), v68 = .bool x68_11 ∧ Aside0 (nat_digit.j1 kq l0 l1 (l1.length : Int) x7_1 x8_1 x68_11 = some (r1, r2)) ∧ Aside0 (kq ≤ k1) ∧ Aside0 (Wd pr_ po_ nW_ cW_ .u32 55 wc w0.heap.size (fun k_ => (P0_ k_ ∨ w.heap.size ≤ k_)) (.slice (some ad158) l0.length co11) l0) ∧ Aside0 (Kept w wc (fun k_ => P0_ k_)) ∧ Aside0 (Below w0.heap.size w0 wc))
    case first =>
     have H := HC12.out
     clear HC12
     by_cases c13 : (x7_1 / 4294967296) > 0
     ·rw [if_pos c13] at H
      have c13b0 : decide (0 < (x7_1 / 4294967296)) = true := decide_eq_true c13
      clear c13
      (first | rw [c13b0] | (simp only [i64_w, i32_w]; rw [c13b0]) | skip)
      have H' := am H
      clear H
      go_wp2
      repeat (go_quiet (fail); try go_wp2)
      go_meet
      case rel => exact ⟨_, (true), zq8, (by first | exact H' | (rw [hji5]; exact H')), ⟨by have := HK1.out; first | omega | exact Nat.le_refl _⟩, ⟨by (with_reducible repeat (first | apply Wd_alloc | apply Wd_drewN | apply Wd_drew)); exact HO_0.out⟩, ⟨by repeat (first | (with_reducible first | exact HK.out | apply Kept.alloc | apply Kept.drewN | apply Kept.drew) | exact HK.out)⟩, ⟨zq1⟩⟩
     ·rw [if_neg c13] at H
      have c13b0 : decide (0 < (x7_1 / 4294967296)) = false := decide_eq_false c13
      clear c13
      (first | rw [c13b0] | (simp only [i64_w, i32_w]; rw [c13b0]) | skip)
      obtain ⟨ji14, hji14⟩ : ∃ j_ : Int, (wrap64 ((l1.length : Int) - 2)) = j_ := ⟨_, rfl⟩
      replace H : (if 0 ≤ (ji14) then (if (ji14) < (l1.length : Int) then (if (ji14) < (l0.length : Int) then (nat_digit.j1 k1 l0 l1 (l1.length : Int) x7_1 x8_1 (decide ((IntKind.u64.wrap (x7_1 * (IntKind.u64.wrap (rd l1 (ji14))))) > (Go.bits .or .u64 (IntKind.u64.wrap (x8_1 * 4294967296)) (IntKind.u64.wrap (rd l0 (ji14))))))) else (none)) else (none)) else (none)) = some (r1, r2) := by first | (rw [hji14] at H; exact H) | (simp only [hji14] at H ⊢; exact H)
      have hji14w : (IntKind.i64.wrap ((l1.length : Int) - 2)) = ji14 := (i64_w _).trans hji14
      replace H := zn H
      obtain ⟨c15, H⟩ := H
      have c15b0 := decide_eq_true c15
      clear c15
      replace H := zn H
      obtain ⟨c16, H⟩ := H
      have c16b0 := decide_eq_true c16
      clear c16
      replace H := zn H
      obtain ⟨c17, H⟩ := H
      have c17b0 := decide_eq_true c17
      clear c17
      have H' := am H
      clear H
      have p162 : 0 ≤ ((ji14) : Int) := zq6
      have q162 : (ji14) < (l1.length : Int) := zq6
      obtain ⟨ad162, e162, hx162_0⟩ := Kd.at_int (Kd.C_kept_now HR1.out HK.out) (ji14) p162 q162
      obtain rfl : ad160 = ad162 := (by injection e162)
      replace p162 := eq_true p162
      replace q162 := eq_true q162
      have p163 : 0 ≤ ((ji14) : Int) := zq6
      have q163 : (ji14) < (l0.length : Int) := zq6
      obtain ⟨ad163, e163, hx163_0⟩ := Kd.at_int (Wd_reads' HO_0.out).2.2 (ji14) p163 q163
      obtain rfl : ad158 = ad163 := (by injection e163)
      replace p163 := eq_true p163
      replace q163 := eq_true q163
      go_wp2
      repeat (go_quiet (fail); try go_wp2)
      go_meet
      case rel => exact ⟨_, (decide ((IntKind.u64.wrap (x7_1 * (IntKind.u64.wrap (rd l1 (ji14))))) > (Go.bits .or .u64 (IntKind.u64.wrap (x8_1 * 4294967296)) (IntKind.u64.wrap (rd l0 (ji14)))))), (by first | rfl | (simp; done) | (simp only [← hji14] <;> (first | rfl | simp)) | (simp [*]; done)), (by first | exact H' | (rw [hji5]; exact H') | (rw [hji14]; exact H')), ⟨by have := HK1.out; first | omega | exact Nat.le_refl _⟩, ⟨by (with_reducible repeat (first | apply Wd_alloc | apply Wd_drewN | apply Wd_drew)); exact HO_0.out⟩, ⟨by repeat (first | (with_reducible first | exact HK.out | apply Kept.alloc | apply Kept.drewN | apply Kept.drew) | exact HK.out)⟩, ⟨zq1⟩⟩
    case rest =>
     clear HC12
     obtain ⟨kq, x68_11, rfl, HA, HJ11, HO_0, HK, HB⟩ := hcut
     cases kq with
     | zero => exact absurd HA.out (by simp [nat_digit.j1])
     | succ kj11 =>
      have H := HA.out
      clear HA
      simp only [nat_digit.j1] at H
      by_cases c18 : x68_11 = true
      ·subst c18
       have H1 : (if 0 ≤ (wrap64 ((l1.length : Int) - 1)) then (if (wrap64 ((l1.length : Int) - 1)) < (l1.length : Int) then (if ((IntKind.u64.wrap (x8_1 + (IntKind.u64.wrap (rd l1 (wrap64 ((l1.length : Int) - 1)))))) / 4294967296) > 0 then (nat_digit.j2 kj11 l0 l1 (l1.length : Int) (IntKind.u64.wrap (x7_1 - 1))) else (nat_digit.l0 kj11 l0 l1 (l1.length : Int) (IntKind.u64.wrap (x7_1 - 1)) (IntKind.u64.wrap (x8_1 + (IntKind.u64.wrap (rd l1 (wrap64 ((l1.length : Int) - 1)))))))) else (none)) else (none)) = some (r1, r2) := by rw [if_pos rfl] at H; exact H
       clear H
       have H := H1
       clear H1
       obtain ⟨ji19, hji19⟩ : ∃ j_ : Int, (wrap64 ((l1.length : Int) - 1)) = j_ := ⟨_, rfl⟩
       (try clear hji5w); (try clear hji5)
       replace H : (if 0 ≤ (ji19) then (if (ji19) < (l1.length : Int) then (if ((IntKind.u64.wrap (x8_1 + (IntKind.u64.wrap (rd l1 (ji19))))) / 4294967296) > 0 then (nat_digit.j2 kj11 l0 l1 (l1.length : Int) (IntKind.u64.wrap (x7_1 - 1))) else (nat_digit.l0 kj11 l0 l1 (l1.length : Int) (IntKind.u64.wrap (x7_1 - 1)) (IntKind.u64.wrap (x8_1 + (IntKind.u64.wrap (rd l1 (ji19))))))) else (none)) else (none)) = some (r1, r2) := by first | (rw [hji19] at H; exact H) | (simp only [hji19] at H ⊢; exact H)
       have hji19w : (IntKind.i64.wrap ((l1.length : Int) - 1)) = ji19 := (i64_w _).trans hji19
       replace H := zn H
       obtain ⟨c20, H⟩ := H
       have c20b0 := decide_eq_true c20
       clear c20
       replace H := zn H
       obtain ⟨c21, H⟩ := H
       have c21b0 := decide_eq_true c21
       clear c21
       by_cases c22 : ((IntKind.u64.wrap (x8_1 + (IntKind.u64.wrap (rd l1 (ji19))))) / 4294967296) > 0
       ·rw [if_pos c22] at H
        have c22b0 : decide (0 < ((IntKind.u64.wrap (x8_1 + (IntKind.u64.wrap (rd l1 (ji19))))) / 4294967296)) = true := decide_eq_true c22
        clear c22
        have H' := am H
        clear H
        have p164 : 0 ≤ ((ji19) : Int) := zq6
        have q164 : (ji19) < (l1.length : Int) := zq6
        obtain ⟨ad164, e164, hx164_0⟩ := Kd.at_int (Kd.C_kept_now HR1.out HK.out) (ji19) p164 q164
        obtain rfl : ad160 = ad164 := (by injection e164)
        replace p164 := eq_true p164
        replace q164 := eq_true q164
        go_wp2
        repeat (go_quiet (fail); try go_wp2)
        go_meet
        case rel => exact ⟨_, (IntKind.u64.wrap (x7_1 - 1)), zq8, (by first | exact H' | (rw [hji5]; exact H') | (rw [hji19]; exact H')), ⟨by have := HK1.out; have := HJ11.out; first | omega | exact Nat.le_refl _⟩, ⟨by (with_reducible repeat (first | apply Wd_alloc | apply Wd_drewN | apply Wd_drew)); exact HO_0.out⟩, ⟨by repeat (first | (with_reducible first | exact HK.out | apply Kept.alloc | apply Kept.drewN | apply Kept.drew) | exact HK.out)⟩, ⟨zq1⟩⟩
       ·rw [if_neg c22] at H
        have c22b0 : decide (0 < ((IntKind.u64.wrap (x8_1 + (IntKind.u64.wrap (rd l1 (ji19))))) / 4294967296)) = false := decide_eq_false c22
        clear c22
        have H' := am H
        clear H
        have p164 : 0 ≤ ((ji19) : Int) := zq6
        have q164 : (ji19) < (l1.length : Int) := zq6
        obtain ⟨ad164, e164, hx164_0⟩ := Kd.at_int (Kd.C_kept_now HR1.out HK.out) (ji19) p164 q164
        obtain rfl : ad160 = ad164 := (by injection e164)
        replace p164 := eq_true p164
        replace q164 := eq_true q164
        go_wp2
        repeat (go_quiet (fail); try go_wp2)
        go_roundg kj11
        case measure => have := HK1.out; have := HJ11.out; omega
        case rel => exact ⟨(IntKind.u64.wrap (x7_1 - 1)), (IntKind.u64.wrap (x8_1 + (IntKind.u64.wrap (rd l1 (ji19))))), zq8, (by first | rfl | (simp; done) | (simp only [← hji19] <;> (first | rfl | simp)) | (simp [*]; done)), (by first | exact H' | (rw [hji5]; exact H') | (rw [hji19]; exact H')), ⟨by have := HK1.out; have := HJ11.out; omega⟩, ⟨by (with_reducible repeat (first | apply Wd_alloc | apply Wd_drewN | apply Wd_drew)); exact HO_0.out⟩, ⟨by repeat (first | (with_reducible first | exact HK.out | apply Kept.alloc | apply Kept.drewN | apply Kept.drew) | exact HK.out)⟩, ⟨zq1⟩⟩
      ·replace c18 := Bool.eq_false_iff.mpr c18
       subst c18
       have H1 : (nat_digit.j2 kj11 l0 l1 (l1.length : Int) x7_1) = some (r1, r2) := by rw [if_neg (show ¬ (false = true) by decide)] at H; exact H
       clear H
       have H := H1
       clear H1
       have H' := am H
       clear H
       go_wp2
       repeat (go_quiet (fail); try go_wp2)
       go_meet
       case rel => exact ⟨_, (x7_1), zq8, (by first | exact H' | (rw [hji5]; exact H')), ⟨by have := HK1.out; have := HJ11.out; first | omega | exact Nat.le_refl _⟩, ⟨by (with_reducible repeat (first | apply Wd_alloc | apply Wd_drewN | apply Wd_drew)); exact HO_0.out⟩, ⟨by repeat (first | (with_reducible first | exact HK.out | apply Kept.alloc | apply Kept.drewN | apply Kept.drew) | exact HK.out)⟩, ⟨zq1⟩⟩
 case rest =>
  clear HC10
  obtain ⟨kq, x7_9, rfl, HA, HJ9, HO_0, HK, HB⟩ := hcut
  cases kq with
  | zero => exact absurd HA.out (by simp [nat_digit.j2])
  | succ kj9 =>
   have H := HA.out
   clear HA
   simp only [nat_digit.j2] at H
   have H' := am H
   clear H
   go_wp2
   repeat (go_quiet (fail); try go_wp2)
   go_loopg [9, 10, 84] kj9 (fun kq v9 v10 v84 w' => ∃ (x0_2 : List Int) (x9_2 : Int) (x10_2 : Int) (x84_2 : Int), v9 = .int .u64 x9_2 ∧ v10 = .int .u64 x10_2 ∧ v84 = .int .i64 x84_2 ∧ Aside0 (nat_digit.l1 kq x0_2 l1 (l1.length : Int) x7_9 x9_2 x10_2 (l1.length : Int) x84_2 = some (r1, r2)) ∧ Aside0 (kq ≤ kj9) ∧ Aside0 (Wd pr_ po_ nW_ cW_ .u32 55 w' w0.heap.size (fun k_ => (P0_ k_ ∨ w.heap.size ≤ k_)) (.slice (some ad158) l0.length co11) x0_2) ∧ Aside0 (Kept w w' (fun k_ => P0_ k_)) ∧ Aside0 (Below w0.heap.size w0 w'))
   case atStart => exact ⟨(l0), (0), (0), (0), zq8, zq8, zq8, H', ⟨Nat.le_refl _⟩, ⟨by (with_reducible repeat (first | apply Wd_alloc | apply Wd_drewN | apply Wd_drew)); exact HO_0.out⟩, ⟨by repeat (first | (with_reducible first | exact HK.out | apply Kept.alloc | apply Kept.drewN | apply Kept.drew) | exact HK.out)⟩, ⟨zq1⟩⟩
   case round =>
    clear H'
    obtain ⟨x0_2, x9_2, x10_2, x84_2, rfl, rfl, rfl, HA, HK2, HO_0, HK, HB⟩ := hrel
    have hl0_2 := (Wd_reads' HO_0.out).1
    rw [hl0_2] at HO_0
    (try simp only [hl0_2])
    cases gk with
    | zero => exact absurd HA.out (by simp [nat_digit.l1])
    | succ k2 =>
     have H := HA.out
     clear HA
     simp only [nat_digit.l1] at H
     by_cases c23 : x84_2 < (l1.length : Int)
     ·rw [if_pos c23] at H
      have c23b0 := decide_eq_true c23
      clear c23
      replace H := zn H
      obtain ⟨c24, H⟩ := H
      have c24b0 := decide_eq_true c24
      clear c24
      replace H := zn H
      obtain ⟨c25, H⟩ := H
      have c25b0 := decide_eq_true c25
      clear c25
      replace H := zn H
      obtain ⟨c26, H⟩ := H
      have c26b0 := decide_eq_true c26
      clear c26
      obtain ⟨y167, hy167⟩ : ∃ y_ : List Int, y_ = (x0_2.set (x84_2 : Int).toNat ((IntKind.u64.wrap ((IntKind.u64.wrap ((IntKind.u64.wrap (rd x0_2 x84_2)) - ((IntKind.u64.wrap (x10_2 + (IntKind.u64.wrap (x7_9 * (IntKind.u64.wrap (rd l1 x84_2)))))) % 4294967296))) - x9_2)) % 4294967296)) := ⟨_, rfl⟩
      replace H : (nat_digit.l1 k2 y167 l1 (l1.length : Int) x7_9 (Go.bits .and .u64 ((IntKind.u64.wrap ((IntKind.u64.wrap ((IntKind.u64.wrap (rd x0_2 x84_2)) - ((IntKind.u64.wrap (x10_2 + (IntKind.u64.wrap (x7_9 * (IntKind.u64.wrap (rd l1 x84_2)))))) % 4294967296))) - x9_2)) / 4294967296) 1) ((IntKind.u64.wrap (x10_2 + (IntKind.u64.wrap (x7_9 * (IntKind.u64.wrap (rd l1 x84_2)))))) / 4294967296) (l1.length : Int) (wrap64 (x84_2 + 1))) = some (r1, r2) := by first | (rw [hy167]; with_reducible exact H) | (have H2_ := (Option.bind_some _ _).symm.trans H; rw [hy167]; with_reducible exact H2_) | (have H2_ := (Option.bind_some _ _).symm.trans H; with_reducible exact H2_) | with_reducible exact H | (rw [hy167]; exact H) | exact H
      have Ny167 := am hy167
      clear hy167
      have H' := am H
      clear H
      have p165 : 0 ≤ (x84_2 : Int) := zq6
      have q165 : x84_2 < (l1.length : Int) := zq6
      obtain ⟨ad165, e165, hx165_0⟩ := Kd.at_int (Kd.C_kept_now HR1.out HK.out) x84_2 p165 q165
      obtain rfl : ad160 = ad165 := (by injection e165)
      replace p165 := eq_true p165
      replace q165 := eq_true q165
      have p166 : 0 ≤ (x84_2 : Int) := zq6
      have q166 : x84_2 < (x0_2.length : Int) := zq6
      obtain ⟨ad166, e166, hx166_0⟩ := Kd.at_int (Wd_reads' HO_0.out).2.2 x84_2 p166 q166
      obtain rfl : ad158 = ad166 := (by injection e166)
      replace p166 := eq_true p166
      replace q166 := eq_true q166
      have p27 : 0 ≤ (x84_2 : Int) := zq6
      have q27 : (x84_2 : Int) < ((x0_2.length : Int) : Int) := zq6
      have gb27 := Wd_blk HO_0.out
      have gl27 := trivial
      have HG27 := trivial
      have GB27 := am gb27
      have GG27 := am HG27
      clear gb27 gl27 HG27
      have HMgo27 := am (show (P0_ ad158.block ∨ w.heap.size ≤ ad158.block) from (Wd_ok HO_0.out))
      (first | simp only [add_plain] at hx158_0 | skip)
      (first | simp only [add_plain] at hx159_0 | skip)
      (first | simp only [add_plain] at hx163_0 | skip)
      (first | simp only [add_plain] at hx166_0 | skip)
      obtain ⟨hx27_0, hf27_0⟩ := Wd_celln 0 HO_0.out (x84_2 : Int) p27 q27
      (try simp only [Int.toNat_natCast] at hx27_0 hf27_0)
      replace p27 := eq_true p27
      replace q27 := eq_true q27
      have HP28 := Wd_putg HO_0.out (x84_2 : Int) ((IntKind.u64.wrap ((IntKind.u64.wrap ((IntKind.u64.wrap (rd x0_2 x84_2)) - ((IntKind.u64.wrap (x10_2 + (IntKind.u64.wrap (x7_9 * (IntKind.u64.wrap (rd l1 x84_2)))))) % 4294967296))) - x9_2)) % 4294967296) zq7 zq7
      go_wp2_with (first | ((with_reducible refine gate_store (t := 55) (p := 111) rfl ?_); (try (rw [drewN_self wr]; generalize hq_ : World.drewN wr _ = wr; refine zt3 (Wd_at hq_ HO_0.out) (kept_at hq_ HK.out) (below_at hq_ HB.out) ?_; clear hq_ HO_0 HK HB; intro HO_0 HK HB; (try (have HP28 := Wd_putg HO_0.out (x84_2 : Int) ((IntKind.u64.wrap ((IntKind.u64.wrap ((IntKind.u64.wrap (rd x0_2 x84_2)) - ((IntKind.u64.wrap (x10_2 + (IntKind.u64.wrap (x7_9 * (IntKind.u64.wrap (rd l1 x84_2)))))) % 4294967296))) - x9_2)) % 4294967296) zq7 zq7; have hzz_ := Wd_celln 0 HO_0.out (x84_2 : Int) zq7 zq7; have hzx_ := hzz_.1; have hzf_ := hzz_.2; clear hzz_; (try simp only [Int.toNat_natCast] at hzx_ hzf_))))); refine zstore (t := 55) (p := 111) (w1 := (wr.setCell (ad158.add (x84_2 : Int).toNat) (.int .u32 ((IntKind.u64.wrap ((IntKind.u64.wrap ((IntKind.u64.wrap (rd x0_2 x84_2)) - ((IntKind.u64.wrap (x10_2 + (IntKind.u64.wrap (x7_9 * (IntKind.u64.wrap (rd l1 x84_2)))))) % 4294967296))) - x9_2)) % 4294967296)))) ?_; intro w29 hw; have hg : wr.grownBy w29 (some ad158.block) := (by rw [hw]; exact HP28.2); have hp_ : Wd pr_ po_ nW_ cW_ .u32 55 w29 w0.heap.size (fun k_ => (P0_ k_ ∨ w.heap.size ≤ k_)) (.slice (some ad158) x0_2.length co11) y167 := (by rw [hw, Ny167.out]; exact HP28.1); clear HP28; refine zt3 (hp_) ((by rw [hw]; exact below_setW (HB.out) GB27.out : Below w0.heap.size w0 w29)) (Kept.of_grown (S := (fun k_ => P0_ k_)) hg (by repeat (first | (with_reducible first | exact HK.out | apply Kept.alloc | apply Kept.drewN | apply Kept.drew) | exact HK.out)) (fun k_ e_ => (Option.some.inj e_ ▸ Wd_ok HO_0.out))) ?_; clear HO_0 HB HK; intro HO_0 HB HK; clear hg hw hp_))
      repeat (go_quiet (first | ((with_reducible refine gate_store (t := 55) (p := 111) rfl ?_); (try (rw [drewN_self wr]; generalize hq_ : World.drewN wr _ = wr; refine zt3 (Wd_at hq_ HO_0.out) (kept_at hq_ HK.out) (below_at hq_ HB.out) ?_; clear hq_ HO_0 HK HB; intro HO_0 HK HB; (try (have HP28 := Wd_putg HO_0.out (x84_2 : Int) ((IntKind.u64.wrap ((IntKind.u64.wrap ((IntKind.u64.wrap (rd x0_2 x84_2)) - ((IntKind.u64.wrap (x10_2 + (IntKind.u64.wrap (x7_9 * (IntKind.u64.wrap (rd l1 x84_2)))))) % 4294967296))) - x9_2)) % 4294967296) zq7 zq7; have hzz_ := Wd_celln 0 HO_0.out (x84_2 : Int) zq7 zq7; have hzx_ := hzz_.1; have hzf_ := hzz_.2; clear hzz_; (try simp only [Int.toNat_natCast] at hzx_ hzf_))))); refine zstore (t := 55) (p := 111) (w1 := (wr.setCell (ad158.add (x84_2 : Int).toNat) (.int .u32 ((IntKind.u64.wrap ((IntKind.u64.wrap ((IntKind.u64.wrap (rd x0_2 x84_2)) - ((IntKind.u64.wrap (x10_2 + (IntKind.u64.wrap (x7_9 * (IntKind.u64.wrap (rd l1 x84_2)))))) % 4294967296))) - x9_2)) % 4294967296)))) ?_; intro w29 hw; have hg : wr.grownBy w29 (some ad158.block) := (by rw [hw]; exact HP28.2); have hp_ : Wd pr_ po_ nW_ cW_ .u32 55 w29 w0.heap.size (fun k_ => (P0_ k_ ∨ w.heap.size ≤ k_)) (.slice (some ad158) x0_2.length co11) y167 := (by rw [hw, Ny167.out]; exact HP28.1); clear HP28; refine zt3 (hp_) ((by rw [hw]; exact below_setW (HB.out) GB27.out : Below w0.heap.size w0 w29)) (Kept.of_grown (S := (fun k_ => P0_ k_)) hg (by repeat (first | (with_reducible first | exact HK.out | apply Kept.alloc | apply Kept.drewN | apply Kept.drew) | exact HK.out)) (fun k_ e_ => (Option.some.inj e_ ▸ Wd_ok HO_0.out))) ?_; clear HO_0 HB HK; intro HO_0 HB HK; clear hg hw hp_)); try go_wp2_with (first | ((with_reducible refine gate_store (t := 55) (p := 111) rfl ?_); (try (rw [drewN_self wr]; generalize hq_ : World.drewN wr _ = wr; refine zt3 (Wd_at hq_ HO_0.out) (kept_at hq_ HK.out) (below_at hq_ HB.out) ?_; clear hq_ HO_0 HK HB; intro HO_0 HK HB; (try (have HP28 := Wd_putg HO_0.out (x84_2 : Int) ((IntKind.u64.wrap ((IntKind.u64.wrap ((IntKind.u64.wrap (rd x0_2 x84_2)) - ((IntKind.u64.wrap (x10_2 + (IntKind.u64.wrap (x7_9 * (IntKind.u64.wrap (rd l1 x84_2)))))) % 4294967296))) - x9_2)) % 4294967296) zq7 zq7; have hzz_ := Wd_celln 0 HO_0.out (x84_2 : Int) zq7 zq7; have hzx_ := hzz_.1; have hzf_ := hzz_.2; clear hzz_; (try simp only [Int.toNat_natCast] at hzx_ hzf_))))); refine zstore (t := 55) (p := 111) (w1 := (wr.setCell (ad158.add (x84_2 : Int).toNat) (.int .u32 ((IntKind.u64.wrap ((IntKind.u64.wrap ((IntKind.u64.wrap (rd x0_2 x84_2)) - ((IntKind.u64.wrap (x10_2 + (IntKind.u64.wrap (x7_9 * (IntKind.u64.wrap (rd l1 x84_2)))))) % 4294967296))) - x9_2)) % 4294967296)))) ?_; intro w29 hw; have hg : wr.grownBy w29 (some ad158.block) := (by rw [hw]; exact HP28.2); have hp_ : Wd pr_ po_ nW_ cW_ .u32 55 w29 w0.heap.size (fun k_ => (P0_ k_ ∨ w.heap.size ≤ k_)) (.slice (some ad158) x0_2.length co11) y167 := (by rw [hw, Ny167.out]; exact HP28.1); clear HP28; refine zt3 (hp_) ((by rw [hw]; exact below_setW (HB.out) GB27.out : Below w0.heap.size w0 w29)) (Kept.of_grown (S := (fun k_ => P0_ k_)) hg (by repeat (first | (with_reducible first | exact HK.out | apply Kept.alloc | apply Kept.drewN | apply Kept.drew) | exact HK.out)) (fun k_ e_ => (Option.some.inj e_ ▸ Wd_ok HO_0.out))) ?_; clear HO_0 HB HK; intro HO_0 HB HK; clear hg hw hp_)))
      (try simp only [← hl0_2])
      go_roundg k2
      case measure => have := HJ9.out; have := HK2.out; omega
      case rel => exact ⟨(y167), (Go.bits .and .u64 ((IntKind.u64.wrap ((IntKind.u64.wrap ((IntKind.u64.wrap (rd x0_2 x84_2)) - ((IntKind.u64.wrap (x10_2 + (IntKind.u64.wrap (x7_9 * (IntKind.u64.wrap (rd l1 x84_2)))))) % 4294967296))) - x9_2)) / 4294967296) 1), ((IntKind.u64.wrap (x10_2 + (IntKind.u64.wrap (x7_9 * (IntKind.u64.wrap (rd l1 x84_2)))))) / 4294967296), (wrap64 (x84_2 + 1)), zq8, zq8, zq8, (by first | exact H' | (rw [hji5]; exact H')), ⟨by have := HJ9.out; have := HK2.out; omega⟩, ⟨by (try simp only [hl0_2]); (with_reducible repeat (first | apply Wd_alloc | apply Wd_drewN | apply Wd_drew)); exact HO_0.out⟩, ⟨by repeat (first | (with_reducible first | exact HK.out | apply Kept.alloc | apply Kept.drewN | apply Kept.drew) | exact HK.out)⟩, ⟨zq1⟩⟩
     ·rw [if_neg c23] at H
      have c23b0 := decide_eq_false c23
      (try (have c23b0x := c23b0; rw [hl0_2] at c23b0x))
      clear c23
      replace H := zn H
      obtain ⟨c30, H⟩ := H
      have c30b0 := decide_eq_true c30
      have c30b1 : decide (0 ≤ l1.length) = true := decide_eq_true (by omega)
      clear c30
      replace H := zn H
      obtain ⟨c31, H⟩ := H
      have c31b0 := decide_eq_true c31
      have c31b1 : decide (l1.length < x0_2.length) = true := decide_eq_true (Int.ofNat_lt.mp c31)
      clear c31
      obtain ⟨y169, hy169⟩ : ∃ y_ : List Int, y_ = (x0_2.set ((l1.length : Int) : Int).toNat ((IntKind.u64.wrap ((IntKind.u64.wrap ((IntKind.u64.wrap (rd x0_2 (l1.length : Int))) - x10_2)) - x9_2)) % 4294967296)) := ⟨_, rfl⟩
      replace H : (if (Go.bits .and .u64 ((IntKind.u64.wrap ((IntKind.u64.wrap ((IntKind.u64.wrap (rd x0_2 (l1.length : Int))) - x10_2)) - x9_2)) / 4294967296) 1) = 0 then (some ((x7_9) % 4294967296, y169)) else (nat_digit.l2 k2 y169 l1 (l1.length : Int) x7_9 0 (l1.length : Int) 0)) = some (r1, r2) := by first | (rw [hy169]; with_reducible exact H) | (have H2_ := (Option.bind_some _ _).symm.trans H; rw [hy169]; with_reducible exact H2_) | (have H2_ := (Option.bind_some _ _).symm.trans H; with_reducible exact H2_) | with_reducible exact H | (rw [hy169]; exact H) | exact H
      have Ny169 := am hy169
      clear hy169
      by_cases c33 : (Go.bits .and .u64 ((IntKind.u64.wrap ((IntKind.u64.wrap ((IntKind.u64.wrap (rd x0_2 (l1.length : Int))) - x10_2)) - x9_2)) / 4294967296) 1) = 0
      ·rw [if_pos c33] at H
       have c33b0 : ((Go.bits .and .u64 ((IntKind.u64.wrap ((IntKind.u64.wrap ((IntKind.u64.wrap (rd x0_2 (l1.length : Int))) - x10_2)) - x9_2)) / 4294967296) 1) == 0) = true := beq_iff_eq.mpr c33
       have c33b1 : ((Go.bits .and .u64 ((IntKind.u64.wrap ((IntKind.u64.wrap ((IntKind.u64.wrap (rd x0_2 (l1.length : Int))) - x10_2)) - x9_2)) / 4294967296) 1) != 0) = false := bne_eq_false_iff_eq.mpr c33
       clear c33
       simp only [Option.some.injEq, Prod.mk.injEq] at H
       obtain ⟨rfl, rfl⟩ := H
       have p168 : 0 ≤ ((l1.length : Int) : Int) := zq6
       have q168 : (l1.length : Int) < (x0_2.length : Int) := zq6
       obtain ⟨ad168, e168, hx168_0⟩ := Kd.at_int (Wd_reads' HO_0.out).2.2 (l1.length : Int) p168 q168
       obtain rfl : ad158 = ad168 := (by injection e168)
       (try simp only [Go.IntWalk.toNatUp] at hx168_0)
       (try simp only [hl0_2] at p168)
       (try simp only [hl0_2] at q168)
       (try simp only [hl0_2] at hx168_0)
       replace p168 := eq_true p168
       replace q168 := eq_true q168
       have p32 : 0 ≤ ((l1.length : Int) : Int) := zq6
       have q32 : ((l1.length : Int) : Int) < ((x0_2.length : Int) : Int) := zq6
       have gb32 := Wd_blk HO_0.out
       have gl32 := trivial
       have HG32 := trivial
       have GB32 := am gb32
       have GG32 := am HG32
       clear gb32 gl32 HG32
       have HMgo32 := am (show (P0_ ad158.block ∨ w.heap.size ≤ ad158.block) from (Wd_ok HO_0.out))
       (first | simp only [add_plain] at hx168_0 | skip)
       obtain ⟨hx32_0, hf32_0⟩ := Wd_celln 0 HO_0.out ((l1.length : Int) : Int) p32 q32
       (try simp only [Int.toNat_natCast] at hx32_0 hf32_0)
       replace p32 := eq_true p32
       replace q32 := eq_true q32
       have HP34 := Wd_putg HO_0.out ((l1.length : Int) : Int) ((IntKind.u64.wrap ((IntKind.u64.wrap ((IntKind.u64.wrap (rd x0_2 (l1.length : Int))) - x10_2)) - x9_2)) % 4294967296) zq7 zq7
       go_wp2_with (first | ((with_reducible refine gate_store (t := 55) (p := 131) rfl ?_); (try (rw [drewN_self wr]; generalize hq_ : World.drewN wr _ = wr; refine zt3 (Wd_at hq_ HO_0.out) (kept_at hq_ HK.out) (below_at hq_ HB.out) ?_; clear hq_ HO_0 HK HB; intro HO_0 HK HB; (try (have HP34 := Wd_putg HO_0.out ((l1.length : Int) : Int) ((IntKind.u64.wrap ((IntKind.u64.wrap ((IntKind.u64.wrap (rd x0_2 (l1.length : Int))) - x10_2)) - x9_2)) % 4294967296) zq7 zq7; have hzz_ := Wd_celln 0 HO_0.out ((l1.length : Int) : Int) zq7 zq7; have hzx_ := hzz_.1; have hzf_ := hzz_.2; clear hzz_; (try simp only [Int.toNat_natCast] at hzx_ hzf_))))); refine zstore (t := 55) (p := 131) (w1 := (wr.setCell (ad158.add ((l1.length : Int) : Int).toNat) (.int .u32 ((IntKind.u64.wrap ((IntKind.u64.wrap ((IntKind.u64.wrap (rd x0_2 (l1.length : Int))) - x10_2)) - x9_2)) % 4294967296)))) ?_; intro w35 hw; have hg : wr.grownBy w35 (some ad158.block) := (by rw [hw]; exact HP34.2); have hp_ : Wd pr_ po_ nW_ cW_ .u32 55 w35 w0.heap.size (fun k_ => (P0_ k_ ∨ w.heap.size ≤ k_)) (.slice (some ad158) x0_2.length co11) y169 := (by rw [hw, Ny169.out]; exact HP34.1); clear HP34; refine zt3 (hp_) ((by rw [hw]; exact below_setW (HB.out) GB32.out : Below w0.heap.size w0 w35)) (Kept.of_grown (S := (fun k_ => P0_ k_)) hg (by repeat (first | (with_reducible first | exact HK.out | apply Kept.alloc | apply Kept.drewN | apply Kept.drew) | exact HK.out)) (fun k_ e_ => (Option.some.inj e_ ▸ Wd_ok HO_0.out))) ?_; clear HO_0 HB HK; intro HO_0 HB HK; clear hg hw hp_))
       repeat (go_quiet (first | ((with_reducible refine gate_store (t := 55) (p := 131) rfl ?_); (try (rw [drewN_self wr]; generalize hq_ : World.drewN wr _ = wr; refine zt3 (Wd_at hq_ HO_0.out) (kept_at hq_ HK.out) (below_at hq_ HB.out) ?_; clear hq_ HO_0 HK HB; intro HO_0 HK HB; (try (have HP34 := Wd_putg HO_0.out ((l1.length : Int) : Int) ((IntKind.u64.wrap ((IntKind.u64.wrap ((IntKind.u64.wrap (rd x0_2 (l1.length : Int))) - x10_2)) - x9_2)) % 4294967296) zq7 zq7; have hzz_ := Wd_celln 0 HO_0.out ((l1.length : Int) : Int) zq7 zq7; have hzx_ := hzz_.1; have hzf_ := hzz_.2; clear hzz_; (try simp only [Int.toNat_natCast] at hzx_ hzf_))))); refine zstore (t := 55) (p := 131) (w1 := (wr.setCell (ad158.add ((l1.length : Int) : Int).toNat) (.int .u32 ((IntKind.u64.wrap ((IntKind.u64.wrap ((IntKind.u64.wrap (rd x0_2 (l1.length : Int))) - x10_2)) - x9_2)) % 4294967296)))) ?_; intro w35 hw; have hg : wr.grownBy w35 (some ad158.block) := (by rw [hw]; exact HP34.2); have hp_ : Wd pr_ po_ nW_ cW_ .u32 55 w35 w0.heap.size (fun k_ => (P0_ k_ ∨ w.heap.size ≤ k_)) (.slice (some ad158) x0_2.length co11) y169 := (by rw [hw, Ny169.out]; exact HP34.1); clear HP34; refine zt3 (hp_) ((by rw [hw]; exact below_setW (HB.out) GB32.out : Below w0.heap.size w0 w35)) (Kept.of_grown (S := (fun k_ => P0_ k_)) hg (by repeat (first | (with_reducible first | exact HK.out | apply Kept.alloc | apply Kept.drewN | apply Kept.drew) | exact HK.out)) (fun k_ e_ => (Option.some.inj e_ ▸ Wd_ok HO_0.out))) ?_; clear HO_0 HB HK; intro HO_0 HB HK; clear hg hw hp_)); try go_wp2_with (first | ((with_reducible refine gate_store (t := 55) (p := 131) rfl ?_); (try (rw [drewN_self wr]; generalize hq_ : World.drewN wr _ = wr; refine zt3 (Wd_at hq_ HO_0.out) (kept_at hq_ HK.out) (below_at hq_ HB.out) ?_; clear hq_ HO_0 HK HB; intro HO_0 HK HB; (try (have HP34 := Wd_putg HO_0.out ((l1.length : Int) : Int) ((IntKind.u64.wrap ((IntKind.u64.wrap ((IntKind.u64.wrap (rd x0_2 (l1.length : Int))) - x10_2)) - x9_2)) % 4294967296) zq7 zq7; have hzz_ := Wd_celln 0 HO_0.out ((l1.length : Int) : Int) zq7 zq7; have hzx_ := hzz_.1; have hzf_ := hzz_.2; clear hzz_; (try simp only [Int.toNat_natCast] at hzx_ hzf_))))); refine zstore (t := 55) (p := 131) (w1 := (wr.setCell (ad158.add ((l1.length : Int) : Int).toNat) (.int .u32 ((IntKind.u64.wrap ((IntKind.u64.wrap ((IntKind.u64.wrap (rd x0_2 (l1.length : Int))) - x10_2)) - x9_2)) % 4294967296)))) ?_; intro w35 hw; have hg : wr.grownBy w35 (some ad158.block) := (by rw [hw]; exact HP34.2); have hp_ : Wd pr_ po_ nW_ cW_ .u32 55 w35 w0.heap.size (fun k_ => (P0_ k_ ∨ w.heap.size ≤ k_)) (.slice (some ad158) x0_2.length co11) y169 := (by rw [hw, Ny169.out]; exact HP34.1); clear HP34; refine zt3 (hp_) ((by rw [hw]; exact below_setW (HB.out) GB32.out : Below w0.heap.size w0 w35)) (Kept.of_grown (S := (fun k_ => P0_ k_)) hg (by repeat (first | (with_reducible first | exact HK.out | apply Kept.alloc | apply Kept.drewN | apply Kept.drew) | exact HK.out)) (fun k_ e_ => (Option.some.inj e_ ▸ Wd_ok HO_0.out))) ?_; clear HO_0 HB HK; intro HO_0 HB HK; clear hg hw hp_)))
       go_ret
       exact ⟨by first | rfl | (simp [errW_none, errW_some] <;> rfl) | (simp only [← hji5]; first | rfl | (simp [errW_none, errW_some] <;> rfl)) | (simp [*, errW_none, errW_some] <;> rfl), (by first | exact (by (with_reducible repeat (first | apply Wd_alloc | apply Wd_drewN | apply Wd_drew)); exact HO_0.out) | (simp only [hl0_2]; exact (by (with_reducible repeat (first | apply Wd_alloc | apply Wd_drewN | apply Wd_drew)); exact HO_0.out))), zq1, by repeat (first | (with_reducible first | exact HK.out | apply Kept.alloc | apply Kept.drewN | apply Kept.drew) | exact HK.out)⟩
      ·rw [if_neg c33] at H
       have c33b0 : ((Go.bits .and .u64 ((IntKind.u64.wrap ((IntKind.u64.wrap ((IntKind.u64.wrap (rd x0_2 (l1.length : Int))) - x10_2)) - x9_2)) / 4294967296) 1) == 0) = false := beq_eq_false_iff_ne.mpr c33
       have c33b1 : ((Go.bits .and .u64 ((IntKind.u64.wrap ((IntKind.u64.wrap ((IntKind.u64.wrap (rd x0_2 (l1.length : Int))) - x10_2)) - x9_2)) / 4294967296) 1) != 0) = true := bne_iff_ne.mpr c33
       have H' := am H
       clear H
       have p168 : 0 ≤ ((l1.length : Int) : Int) := zq6
       have q168 : (l1.length : Int) < (x0_2.length : Int) := zq6
       obtain ⟨ad168, e168, hx168_0⟩ := Kd.at_int (Wd_reads' HO_0.out).2.2 (l1.length : Int) p168 q168
       obtain rfl : ad158 = ad168 := (by injection e168)
       (try simp only [Go.IntWalk.toNatUp] at hx168_0)
       (try simp only [hl0_2] at p168)
       (try simp only [hl0_2] at q168)
       (try simp only [hl0_2] at hx168_0)
       replace p168 := eq_true p168
       replace q168 := eq_true q168
       have p32 : 0 ≤ ((l1.length : Int) : Int) := zq6
       have q32 : ((l1.length : Int) : Int) < ((x0_2.length : Int) : Int) := zq6
       have gb32 := Wd_blk HO_0.out
       have gl32 := trivial
       have HG32 := trivial
       have GB32 := am gb32
       have GG32 := am HG32
       clear gb32 gl32 HG32
       have HMgo32 := am (show (P0_ ad158.block ∨ w.heap.size ≤ ad158.block) from (Wd_ok HO_0.out))
       (first | simp only [add_plain] at hx168_0 | skip)
       obtain ⟨hx32_0, hf32_0⟩ := Wd_celln 0 HO_0.out ((l1.length : Int) : Int) p32 q32
       (try simp only [Int.toNat_natCast] at hx32_0 hf32_0)
       replace p32 := eq_true p32
       replace q32 := eq_true q32
       have HP36 := Wd_putg HO_0.out ((l1.length : Int) : Int) ((IntKind.u64.wrap ((IntKind.u64.wrap ((IntKind.u64.wrap (rd x0_2 (l1.length : Int))) - x10_2)) - x9_2)) % 4294967296) zq7 zq7
       go_wp2_with (first | ((with_reducible refine gate_store (t := 55) (p := 131) rfl ?_); (try (rw [drewN_self wr]; generalize hq_ : World.drewN wr _ = wr; refine zt3 (Wd_at hq_ HO_0.out) (kept_at hq_ HK.out) (below_at hq_ HB.out) ?_; clear hq_ HO_0 HK HB; intro HO_0 HK HB; (try (have HP36 := Wd_putg HO_0.out ((l1.length : Int) : Int) ((IntKind.u64.wrap ((IntKind.u64.wrap ((IntKind.u64.wrap (rd x0_2 (l1.length : Int))) - x10_2)) - x9_2)) % 4294967296) zq7 zq7; have hzz_ := Wd_celln 0 HO_0.out ((l1.length : Int) : Int) zq7 zq7; have hzx_ := hzz_.1; have hzf_ := hzz_.2; clear hzz_; (try simp only [Int.toNat_natCast] at hzx_ hzf_))))); refine zstore (t := 55) (p := 131) (w1 := (wr.setCell (ad158.add ((l1.length : Int) : Int).toNat) (.int .u32 ((IntKind.u64.wrap ((IntKind.u64.wrap ((IntKind.u64.wrap (rd x0_2 (l1.length : Int))) - x10_2)) - x9_2)) % 4294967296)))) ?_; intro w37 hw; have hg : wr.grownBy w37 (some ad158.block) := (by rw [hw]; exact HP36.2); have hp_ : Wd pr_ po_ nW_ cW_ .u32 55 w37 w0.heap.size (fun k_ => (P0_ k_ ∨ w.heap.size ≤ k_)) (.slice (some ad158) x0_2.length co11) y169 := (by rw [hw, Ny169.out]; exact HP36.1); clear HP36; refine zt3 (hp_) ((by rw [hw]; exact below_setW (HB.out) GB32.out : Below w0.heap.size w0 w37)) (Kept.of_grown (S := (fun k_ => P0_ k_)) hg (by repeat (first | (with_reducible first | exact HK.out | apply Kept.alloc | apply Kept.drewN | apply Kept.drew) | exact HK.out)) (fun k_ e_ => (Option.some.inj e_ ▸ Wd_ok HO_0.out))) ?_; clear HO_0 HB HK; intro HO_0 HB HK; clear hg hw hp_))
       repeat (go_quiet (first | ((with_reducible refine gate_store (t := 55) (p := 131) rfl ?_); (try (rw [drewN_self wr]; generalize hq_ : World.drewN wr _ = wr; refine zt3 (Wd_at hq_ HO_0.out) (kept_at hq_ HK.out) (below_at hq_ HB.out) ?_; clear hq_ HO_0 HK HB; intro HO_0 HK HB; (try (have HP36 := Wd_putg HO_0.out ((l1.length : Int) : Int) ((IntKind.u64.wrap ((IntKind.u64.wrap ((IntKind.u64.wrap (rd x0_2 (l1.length : Int))) - x10_2)) - x9_2)) % 4294967296) zq7 zq7; have hzz_ := Wd_celln 0 HO_0.out ((l1.length : Int) : Int) zq7 zq7; have hzx_ := hzz_.1; have hzf_ := hzz_.2; clear hzz_; (try simp only [Int.toNat_natCast] at hzx_ hzf_))))); refine zstore (t := 55) (p := 131) (w1 := (wr.setCell (ad158.add ((l1.length : Int) : Int).toNat) (.int .u32 ((IntKind.u64.wrap ((IntKind.u64.wrap ((IntKind.u64.wrap (rd x0_2 (l1.length : Int))) - x10_2)) - x9_2)) % 4294967296)))) ?_; intro w37 hw; have hg : wr.grownBy w37 (some ad158.block) := (by rw [hw]; exact HP36.2); have hp_ : Wd pr_ po_ nW_ cW_ .u32 55 w37 w0.heap.size (fun k_ => (P0_ k_ ∨ w.heap.size ≤ k_)) (.slice (some ad158) x0_2.length co11) y169 := (by rw [hw, Ny169.out]; exact HP36.1); clear HP36; refine zt3 (hp_) ((by rw [hw]; exact below_setW (HB.out) GB32.out : Below w0.heap.size w0 w37)) (Kept.of_grown (S := (fun k_ => P0_ k_)) hg (by repeat (first | (with_reducible first | exact HK.out | apply Kept.alloc | apply Kept.drewN | apply Kept.drew) | exact HK.out)) (fun k_ e_ => (Option.some.inj e_ ▸ Wd_ok HO_0.out))) ?_; clear HO_0 HB HK; intro HO_0 HB HK; clear hg hw hp_)); try go_wp2_with (first | ((with_reducible refine gate_store (t := 55) (p := 131) rfl ?_); (try (rw [drewN_self wr]; generalize hq_ : World.drewN wr _ = wr; refine zt3 (Wd_at hq_ HO_0.out) (kept_at hq_ HK.out) (below_at hq_ HB.out) ?_; clear hq_ HO_0 HK HB; intro HO_0 HK HB; (try (have HP36 := Wd_putg HO_0.out ((l1.length : Int) : Int) ((IntKind.u64.wrap ((IntKind.u64.wrap ((IntKind.u64.wrap (rd x0_2 (l1.length : Int))) - x10_2)) - x9_2)) % 4294967296) zq7 zq7; have hzz_ := Wd_celln 0 HO_0.out ((l1.length : Int) : Int) zq7 zq7; have hzx_ := hzz_.1; have hzf_ := hzz_.2; clear hzz_; (try simp only [Int.toNat_natCast] at hzx_ hzf_))))); refine zstore (t := 55) (p := 131) (w1 := (wr.setCell (ad158.add ((l1.length : Int) : Int).toNat) (.int .u32 ((IntKind.u64.wrap ((IntKind.u64.wrap ((IntKind.u64.wrap (rd x0_2 (l1.length : Int))) - x10_2)) - x9_2)) % 4294967296)))) ?_; intro w37 hw; have hg : wr.grownBy w37 (some ad158.block) := (by rw [hw]; exact HP36.2); have hp_ : Wd pr_ po_ nW_ cW_ .u32 55 w37 w0.heap.size (fun k_ => (P0_ k_ ∨ w.heap.size ≤ k_)) (.slice (some ad158) x0_2.length co11) y169 := (by rw [hw, Ny169.out]; exact HP36.1); clear HP36; refine zt3 (hp_) ((by rw [hw]; exact below_setW (HB.out) GB32.out : Below w0.heap.size w0 w37)) (Kept.of_grown (S := (fun k_ => P0_ k_)) hg (by repeat (first | (with_reducible first | exact HK.out | apply Kept.alloc | apply Kept.drewN | apply Kept.drew) | exact HK.out)) (fun k_ e_ => (Option.some.inj e_ ▸ Wd_ok HO_0.out))) ?_; clear HO_0 HB HK; intro HO_0 HB HK; clear hg hw hp_)))
       go_loopg [10, 140] k2 (fun kq v10 v140 w' => ∃ (x0_3 : List Int) (x10_3 : Int) (x140_3 : Int), v10 = .int .u64 x10_3 ∧ v140 = .int .i64 x140_3 ∧ Aside0 (nat_digit.l2 kq x0_3 l1 (l1.length : Int) x7_9 x10_3 (l1.length : Int) x140_3 = some (r1, r2)) ∧ Aside0 (kq ≤ k2) ∧ Aside0 (Wd pr_ po_ nW_ cW_ .u32 55 w' w0.heap.size (fun k_ => (P0_ k_ ∨ w.heap.size ≤ k_)) (.slice (some ad158) x0_2.length co11) x0_3) ∧ Aside0 (Kept w w' (fun k_ => P0_ k_)) ∧ Aside0 (Below w0.heap.size w0 w'))
       case atStart => exact ⟨(y169), (0), (0), zq8, zq8, H', ⟨Nat.le_refl _⟩, ⟨by (try simp only [hl0_2]); (with_reducible repeat (first | apply Wd_alloc | apply Wd_drewN | apply Wd_drew)); exact HO_0.out⟩, ⟨by repeat (first | (with_reducible first | exact HK.out | apply Kept.alloc | apply Kept.drewN | apply Kept.drew) | exact HK.out)⟩, ⟨zq1⟩⟩
       case round =>
        clear H'
        obtain ⟨x0_3, x10_3, x140_3, rfl, rfl, HA, HK3, HO_0, HK, HB⟩ := hrel
        have hl0_3 := (Wd_reads' HO_0.out).1
        rw [hl0_3] at HO_0
        (try simp only [hl0_3])
        cases gk with
        | zero => exact absurd HA.out (by simp [nat_digit.l2])
        | succ k3 =>
         have H := HA.out
         clear HA
         simp only [nat_digit.l2] at H
         by_cases c38 : x140_3 < (l1.length : Int)
         ·rw [if_pos c38] at H
          have c38b0 := decide_eq_true c38
          clear c38
          replace H := zn H
          obtain ⟨c39, H⟩ := H
          have c39b0 := decide_eq_true c39
          clear c39
          replace H := zn H
          obtain ⟨c40, H⟩ := H
          have c40b0 := decide_eq_true c40
          clear c40
          replace H := zn H
          obtain ⟨c41, H⟩ := H
          have c41b0 := decide_eq_true c41
          clear c41
          obtain ⟨y172, hy172⟩ : ∃ y_ : List Int, y_ = (x0_3.set (x140_3 : Int).toNat ((IntKind.u64.wrap (x10_3 + (IntKind.u64.wrap ((IntKind.u64.wrap (rd x0_3 x140_3)) + (IntKind.u64.wrap (rd l1 x140_3)))))) % 4294967296)) := ⟨_, rfl⟩
          replace H : (nat_digit.l2 k3 y172 l1 (l1.length : Int) x7_9 ((IntKind.u64.wrap (x10_3 + (IntKind.u64.wrap ((IntKind.u64.wrap (rd x0_3 x140_3)) + (IntKind.u64.wrap (rd l1 x140_3)))))) / 4294967296) (l1.length : Int) (wrap64 (x140_3 + 1))) = some (r1, r2) := by first | (rw [hy172]; with_reducible exact H) | (have H2_ := (Option.bind_some _ _).symm.trans H; rw [hy172]; with_reducible exact H2_) | (have H2_ := (Option.bind_some _ _).symm.trans H; with_reducible exact H2_) | with_reducible exact H | (rw [hy172]; exact H) | exact H
          have Ny172 := am hy172
          clear hy172
          have H' := am H
          clear H
          have p170 : 0 ≤ (x140_3 : Int) := zq6
          have q170 : x140_3 < (x0_3.length : Int) := zq6
          obtain ⟨ad170, e170, hx170_0⟩ := Kd.at_int (Wd_reads' HO_0.out).2.2 x140_3 p170 q170
          obtain rfl : (ad158 : Addr) = ad170 := (by injection e170)
          (first | simp only [add_plain] at hx170_0 | simp only [add_at] at hx170_0 | simp only [Addr.add, Nat.zero_add] at hx170_0 | skip)
          replace p170 := eq_true p170
          replace q170 := eq_true q170
          have p171 : 0 ≤ (x140_3 : Int) := zq6
          have q171 : x140_3 < (l1.length : Int) := zq6
          obtain ⟨ad171, e171, hx171_0⟩ := Kd.at_int (Kd.C_kept_now HR1.out HK.out) x140_3 p171 q171
          obtain rfl : ad160 = ad171 := (by injection e171)
          replace p171 := eq_true p171
          replace q171 := eq_true q171
          have p42 : 0 ≤ (x140_3 : Int) := zq6
          have q42 : (x140_3 : Int) < ((x0_3.length : Int) : Int) := zq6
          obtain ⟨hx42_0, hf42_0⟩ := Wd_celln 0 HO_0.out (x140_3 : Int) p42 q42
          (try simp only [Int.toNat_natCast] at hx42_0 hf42_0)
          replace p42 := eq_true p42
          replace q42 := eq_true q42
          have HP43 := Wd_putg HO_0.out (x140_3 : Int) ((IntKind.u64.wrap (x10_3 + (IntKind.u64.wrap ((IntKind.u64.wrap (rd x0_3 x140_3)) + (IntKind.u64.wrap (rd l1 x140_3)))))) % 4294967296) zq7 zq7
          go_wp2_with (first | ((with_reducible refine gate_store (t := 55) (p := 160) rfl ?_); (try (rw [drewN_self wr]; generalize hq_ : World.drewN wr _ = wr; refine zt3 (Wd_at hq_ HO_0.out) (kept_at hq_ HK.out) (below_at hq_ HB.out) ?_; clear hq_ HO_0 HK HB; intro HO_0 HK HB; (try (have HP43 := Wd_putg HO_0.out (x140_3 : Int) ((IntKind.u64.wrap (x10_3 + (IntKind.u64.wrap ((IntKind.u64.wrap (rd x0_3 x140_3)) + (IntKind.u64.wrap (rd l1 x140_3)))))) % 4294967296) zq7 zq7; have hzz_ := Wd_celln 0 HO_0.out (x140_3 : Int) zq7 zq7; have hzx_ := hzz_.1; have hzf_ := hzz_.2; clear hzz_; (try simp only [Int.toNat_natCast] at hzx_ hzf_))))); refine zstore (t := 55) (p := 160) (w1 := (wr.setCell (ad158.add (x140_3 : Int).toNat) (.int .u32 ((IntKind.u64.wrap (x10_3 + (IntKind.u64.wrap ((IntKind.u64.wrap (rd x0_3 x140_3)) + (IntKind.u64.wrap (rd l1 x140_3)))))) % 4294967296)))) ?_; intro w44 hw; have hg : wr.grownBy w44 (some ad158.block) := (by rw [hw]; exact HP43.2); have hp_ : Wd pr_ po_ nW_ cW_ .u32 55 w44 w0.heap.size (fun k_ => (P0_ k_ ∨ w.heap.size ≤ k_)) (.slice (some ad158) x0_3.length co11) y172 := (by rw [hw, Ny172.out]; exact HP43.1); clear HP43; refine zt3 (hp_) ((by rw [hw]; exact below_setW (HB.out) GB32.out : Below w0.heap.size w0 w44)) (Kept.of_grown (S := (fun k_ => P0_ k_)) hg (by repeat (first | (with_reducible first | exact HK.out | apply Kept.alloc | apply Kept.drewN | apply Kept.drew) | exact HK.out)) (fun k_ e_ => (Option.some.inj e_ ▸ Wd_ok HO_0.out))) ?_; clear HO_0 HB HK; intro HO_0 HB HK; clear hg hw hp_))
          repeat (go_quiet (first | ((with_reducible refine gate_store (t := 55) (p := 160) rfl ?_); (try (rw [drewN_self wr]; generalize hq_ : World.drewN wr _ = wr; refine zt3 (Wd_at hq_ HO_0.out) (kept_at hq_ HK.out) (below_at hq_ HB.out) ?_; clear hq_ HO_0 HK HB; intro HO_0 HK HB; (try (have HP43 := Wd_putg HO_0.out (x140_3 : Int) ((IntKind.u64.wrap (x10_3 + (IntKind.u64.wrap ((IntKind.u64.wrap (rd x0_3 x140_3)) + (IntKind.u64.wrap (rd l1 x140_3)))))) % 4294967296) zq7 zq7; have hzz_ := Wd_celln 0 HO_0.out (x140_3 : Int) zq7 zq7; have hzx_ := hzz_.1; have hzf_ := hzz_.2; clear hzz_; (try simp only [Int.toNat_natCast] at hzx_ hzf_))))); refine zstore (t := 55) (p := 160) (w1 := (wr.setCell (ad158.add (x140_3 : Int).toNat) (.int .u32 ((IntKind.u64.wrap (x10_3 + (IntKind.u64.wrap ((IntKind.u64.wrap (rd x0_3 x140_3)) + (IntKind.u64.wrap (rd l1 x140_3)))))) % 4294967296)))) ?_; intro w44 hw; have hg : wr.grownBy w44 (some ad158.block) := (by rw [hw]; exact HP43.2); have hp_ : Wd pr_ po_ nW_ cW_ .u32 55 w44 w0.heap.size (fun k_ => (P0_ k_ ∨ w.heap.size ≤ k_)) (.slice (some ad158) x0_3.length co11) y172 := (by rw [hw, Ny172.out]; exact HP43.1); clear HP43; refine zt3 (hp_) ((by rw [hw]; exact below_setW (HB.out) GB32.out : Below w0.heap.size w0 w44)) (Kept.of_grown (S := (fun k_ => P0_ k_)) hg (by repeat (first | (with_reducible first | exact HK.out | apply Kept.alloc | apply Kept.drewN | apply Kept.drew) | exact HK.out)) (fun k_ e_ => (Option.some.inj e_ ▸ Wd_ok HO_0.out))) ?_; clear HO_0 HB HK; intro HO_0 HB HK; clear hg hw hp_)); try go_wp2_with (first | ((with_reducible refine gate_store (t := 55) (p := 160) rfl ?_); (try (rw [drewN_self wr]; generalize hq_ : World.drewN wr _ = wr; refine zt3 (Wd_at hq_ HO_0.out) (kept_at hq_ HK.out) (below_at hq_ HB.out) ?_; clear hq_ HO_0 HK HB; intro HO_0 HK HB; (try (have HP43 := Wd_putg HO_0.out (x140_3 : Int) ((IntKind.u64.wrap (x10_3 + (IntKind.u64.wrap ((IntKind.u64.wrap (rd x0_3 x140_3)) + (IntKind.u64.wrap (rd l1 x140_3)))))) % 4294967296) zq7 zq7; have hzz_ := Wd_celln 0 HO_0.out (x140_3 : Int) zq7 zq7; have hzx_ := hzz_.1; have hzf_ := hzz_.2; clear hzz_; (try simp only [Int.toNat_natCast] at hzx_ hzf_))))); refine zstore (t := 55) (p := 160) (w1 := (wr.setCell (ad158.add (x140_3 : Int).toNat) (.int .u32 ((IntKind.u64.wrap (x10_3 + (IntKind.u64.wrap ((IntKind.u64.wrap (rd x0_3 x140_3)) + (IntKind.u64.wrap (rd l1 x140_3)))))) % 4294967296)))) ?_; intro w44 hw; have hg : wr.grownBy w44 (some ad158.block) := (by rw [hw]; exact HP43.2); have hp_ : Wd pr_ po_ nW_ cW_ .u32 55 w44 w0.heap.size (fun k_ => (P0_ k_ ∨ w.heap.size ≤ k_)) (.slice (some ad158) x0_3.length co11) y172 := (by rw [hw, Ny172.out]; exact HP43.1); clear HP43; refine zt3 (hp_) ((by rw [hw]; exact below_setW (HB.out) GB32.out : Below w0.heap.size w0 w44)) (Kept.of_grown (S := (fun k_ => P0_ k_)) hg (by repeat (first | (with_reducible first | exact HK.out | apply Kept.alloc | apply Kept.drewN | apply Kept.drew) | exact HK.out)) (fun k_ e_ => (Option.some.inj e_ ▸ Wd_ok HO_0.out))) ?_; clear HO_0 HB HK; intro HO_0 HB HK; clear hg hw hp_)))
          (try simp only [← hl0_3])
          go_roundg k3
          case measure => have := HJ9.out; have := HK2.out; have := HK3.out; omega
          case rel => exact ⟨(y172), ((IntKind.u64.wrap (x10_3 + (IntKind.u64.wrap ((IntKind.u64.wrap (rd x0_3 x140_3)) + (IntKind.u64.wrap (rd l1 x140_3)))))) / 4294967296), (wrap64 (x140_3 + 1)), zq8, zq8, (by first | exact H' | (rw [hji5]; exact H')), ⟨by have := HJ9.out; have := HK2.out; have := HK3.out; omega⟩, ⟨by (try simp only [hl0_2]); (try simp only [hl0_3]); (with_reducible repeat (first | apply Wd_alloc | apply Wd_drewN | apply Wd_drew)); exact HO_0.out⟩, ⟨by repeat (first | (with_reducible first | exact HK.out | apply Kept.alloc | apply Kept.drewN | apply Kept.drew) | exact HK.out)⟩, ⟨zq1⟩⟩
         ·rw [if_neg c38] at H
          have c38b0 := decide_eq_false c38
          (try (have c38b0x := c38b0; rw [hl0_2] at c38b0x))
          (try (have c38b0x := c38b0; rw [hl0_3] at c38b0x))
          clear c38
          replace H := zn H
          obtain ⟨c45, H⟩ := H
          have c45b0 := decide_eq_true c45
          have c45b1 : decide (0 ≤ l1.length) = true := decide_eq_true (by omega)
          clear c45
          replace H := zn H
          obtain ⟨c46, H⟩ := H
          have c46b0 := decide_eq_true c46
          have c46b1 : decide (l1.length < x0_3.length) = true := decide_eq_true (Int.ofNat_lt.mp c46)
          clear c46
          obtain ⟨y174, hy174⟩ : ∃ y_ : List Int, y_ = (x0_3.set ((l1.length : Int) : Int).toNat (((rd x0_3 (l1.length : Int)) + ((x10_3) % 4294967296)) % 4294967296)) := ⟨_, rfl⟩
          replace H : (some ((IntKind.u64.wrap (x7_9 - 1)) % 4294967296, y174)) = some (r1, r2) := by first | (rw [hy174]; with_reducible exact H) | (have H2_ := (Option.bind_some _ _).symm.trans H; rw [hy174]; with_reducible exact H2_) | (have H2_ := (Option.bind_some _ _).symm.trans H; with_reducible exact H2_) | with_reducible exact H | (rw [hy174]; exact H) | exact H
          have Ny174 := am hy174
          clear hy174
          simp only [Option.some.injEq, Prod.mk.injEq] at H
          obtain ⟨rfl, rfl⟩ := H
          have p173 : 0 ≤ ((l1.length : Int) : Int) := zq6
          have q173 : (l1.length : Int) < (x0_3.length : Int) := zq6
          obtain ⟨ad173, e173, hx173_0⟩ := Kd.at_int (Wd_reads' HO_0.out).2.2 (l1.length : Int) p173 q173
          obtain rfl : (ad158 : Addr) = ad173 := (by injection e173)
          (first | simp only [add_plain] at hx173_0 | simp only [add_at] at hx173_0 | simp only [Addr.add, Nat.zero_add] at hx173_0 | skip)
          (try simp only [Go.IntWalk.toNatUp] at hx173_0)
          (try simp only [hl0_2, hl0_3] at p173)
          (try simp only [hl0_2, hl0_3] at q173)
          (try simp only [hl0_2, hl0_3] at hx173_0)
          replace p173 := eq_true p173
          replace q173 := eq_true q173
          have p47 : 0 ≤ ((l1.length : Int) : Int) := zq6
          have q47 : ((l1.length : Int) : Int) < ((x0_3.length : Int) : Int) := zq6
          obtain ⟨hx47_0, hf47_0⟩ := Wd_celln 0 HO_0.out ((l1.length : Int) : Int) p47 q47
          (try simp only [Int.toNat_natCast] at hx47_0 hf47_0)
          replace p47 := eq_true p47
          replace q47 := eq_true q47
          have HP48 := Wd_putg HO_0.out ((l1.length : Int) : Int) (((rd x0_3 (l1.length : Int)) + ((x10_3) % 4294967296)) % 4294967296) zq7 zq7
          go_wp2_with (first | ((with_reducible refine gate_store (t := 55) (p := 171) rfl ?_); (try (rw [drewN_self wr]; generalize hq_ : World.drewN wr _ = wr; refine zt3 (Wd_at hq_ HO_0.out) (kept_at hq_ HK.out) (below_at hq_ HB.out) ?_; clear hq_ HO_0 HK HB; intro HO_0 HK HB; (try (have HP48 := Wd_putg HO_0.out ((l1.length : Int) : Int) (((rd x0_3 (l1.length : Int)) + ((x10_3) % 4294967296)) % 4294967296) zq7 zq7; have hzz_ := Wd_celln 0 HO_0.out ((l1.length : Int) : Int) zq7 zq7; have hzx_ := hzz_.1; have hzf_ := hzz_.2; clear hzz_; (try simp only [Int.toNat_natCast] at hzx_ hzf_))))); refine zstore (t := 55) (p := 171) (w1 := (wr.setCell (ad158.add ((l1.length : Int) : Int).toNat) (.int .u32 (((rd x0_3 (l1.length : Int)) + ((x10_3) % 4294967296)) % 4294967296)))) ?_; intro w49 hw; have hg : wr.grownBy w49 (some ad158.block) := (by rw [hw]; exact HP48.2); have hp_ : Wd pr_ po_ nW_ cW_ .u32 55 w49 w0.heap.size (fun k_ => (P0_ k_ ∨ w.heap.size ≤ k_)) (.slice (some ad158) x0_3.length co11) y174 := (by rw [hw, Ny174.out]; exact HP48.1); clear HP48; refine zt3 (hp_) ((by rw [hw]; exact below_setW (HB.out) GB32.out : Below w0.heap.size w0 w49)) (Kept.of_grown (S := (fun k_ => P0_ k_)) hg (by repeat (first | (with_reducible first | exact HK.out | apply Kept.alloc | apply Kept.drewN | apply Kept.drew) | exact HK.out)) (fun k_ e_ => (Option.some.inj e_ ▸ Wd_ok HO_0.out))) ?_; clear HO_0 HB HK; intro HO_0 HB HK; clear hg hw hp_))
          repeat (go_quiet (first | ((with_reducible refine gate_store (t := 55) (p := 171) rfl ?_); (try (rw [drewN_self wr]; generalize hq_ : World.drewN wr _ = wr; refine zt3 (Wd_at hq_ HO_0.out) (kept_at hq_ HK.out) (below_at hq_ HB.out) ?_; clear hq_ HO_0 HK HB; intro HO_0 HK HB; (try (have HP48 := Wd_putg HO_0.out ((l1.length : Int) : Int) (((rd x0_3 (l1.length : Int)) + ((x10_3) % 4294967296)) % 4294967296) zq7 zq7; have hzz_ := Wd_celln 0 HO_0.out ((l1.length : Int) : Int) zq7 zq7; have hzx_ := hzz_.1; have hzf_ := hzz_.2; clear hzz_; (try simp only [Int.toNat_natCast] at hzx_ hzf_))))); refine zstore (t := 55) (p := 171) (w1 := (wr.setCell (ad158.add ((l1.length : Int) : Int).toNat) (.int .u32 (((rd x0_3 (l1.length : Int)) + ((x10_3) % 4294967296)) % 4294967296)))) ?_; intro w49 hw; have hg : wr.grownBy w49 (some ad158.block) := (by rw [hw]; exact HP48.2); have hp_ : Wd pr_ po_ nW_ cW_ .u32 55 w49 w0.heap.size (fun k_ => (P0_ k_ ∨ w.heap.size ≤ k_)) (.slice (some ad158) x0_3.length co11) y174 := (by rw [hw, Ny174.out]; exact HP48.1); clear HP48; refine zt3 (hp_) ((by rw [hw]; exact below_setW (HB.out) GB32.out : Below w0.heap.size w0 w49)) (Kept.of_grown (S := (fun k_ => P0_ k_)) hg (by repeat (first | (with_reducible first | exact HK.out | apply Kept.alloc | apply Kept.drewN | apply Kept.drew) | exact HK.out)) (fun k_ e_ => (Option.some.inj e_ ▸ Wd_ok HO_0.out))) ?_; clear HO_0 HB HK; intro HO_0 HB HK; clear hg hw hp_)); try go_wp2_with (first | ((with_reducible refine gate_store (t := 55) (p := 171) rfl ?_); (try (rw [drewN_self wr]; generalize hq_ : World.drewN wr _ = wr; refine zt3 (Wd_at hq_ HO_0.out) (kept_at hq_ HK.out) (below_at hq_ HB.out) ?_; clear hq_ HO_0 HK HB; intro HO_0 HK HB; (try (have HP48 := Wd_putg HO_0.out ((l1.length : Int) : Int) (((rd x0_3 (l1.length : Int)) + ((x10_3) % 4294967296)) % 4294967296) zq7 zq7; have hzz_ := Wd_celln 0 HO_0.out ((l1.length : Int) : Int) zq7 zq7; have hzx_ := hzz_.1; have hzf_ := hzz_.2; clear hzz_; (try simp only [Int.toNat_natCast] at hzx_ hzf_))))); refine zstore (t := 55) (p := 171) (w1 := (wr.setCell (ad158.add ((l1.length : Int) : Int).toNat) (.int .u32 (((rd x0_3 (l1.length : Int)) + ((x10_3) % 4294967296)) % 4294967296)))) ?_; intro w49 hw; have hg : wr.grownBy w49 (some ad158.block) := (by rw [hw]; exact HP48.2); have hp_ : Wd pr_ po_ nW_ cW_ .u32 55 w49 w0.heap.size (fun k_ => (P0_ k_ ∨ w.heap.size ≤ k_)) (.slice (some ad158) x0_3.length co11) y174 := (by rw [hw, Ny174.out]; exact HP48.1); clear HP48; refine zt3 (hp_) ((by rw [hw]; exact below_setW (HB.out) GB32.out : Below w0.heap.size w0 w49)) (Kept.of_grown (S := (fun k_ => P0_ k_)) hg (by repeat (first | (with_reducible first | exact HK.out | apply Kept.alloc | apply Kept.drewN | apply Kept.drew) | exact HK.out)) (fun k_ e_ => (Option.some.inj e_ ▸ Wd_ok HO_0.out))) ?_; clear HO_0 HB HK; intro HO_0 HB HK; clear hg hw hp_)))
          go_ret
          exact ⟨by first | rfl | (simp [errW_none, errW_some] <;> rfl) | (simp only [← hji5]; first | rfl | (simp [errW_none, errW_some] <;> rfl)) | (simp [*, errW_none, errW_some] <;> rfl), (by first | exact (by (with_reducible repeat (first | apply Wd_alloc | apply Wd_drewN | apply Wd_drew)); exact HO_0.out) | (simp only [hl0_2, hl0_3]; exact (by (with_reducible repeat (first | apply Wd_alloc | apply Wd_drewN | apply Wd_drew)); exact HO_0.out))), zq1, by repeat (first | (with_reducible first | exact HK.out | apply Kept.alloc | apply Kept.drewN | apply Kept.drew) | exact HK.out)⟩
def nat_digit_at.f (k : Nat) (l0 : List Int) (a1 : Int) (a2 : Int) (l3 : List Int) : Option (Int × List Int) := if 0 ≤ a1 then (if a1 < a2 then (if a2 ≤ (l0.length : Int) then ((nat_digit.f k ((l0.take a2.toNat).drop a1.toNat) l3).bind fun b => some (b.1, l0.take a1.toNat ++ b.2 ++ l0.drop a2.toNat)) else none) else none) else none
theorem nat_digit_at.mono : ∀ a0 a1 a2 a3 k, LeO (nat_digit_at.f k a0 a1 a2 a3) (nat_digit_at.f (k + 1) a0 a1 a2 a3) := by
 intro a0 a1 a2 a3 k
 unfold nat_digit_at.f
 exact LeO.ite (LeO.ite (LeO.ite (LeO.bind (nat_digit.mono _ _ _) (fun _ => LeO.refl _)) (LeO.none _)) (LeO.none _)) (LeO.none _)
theorem nat_digit_at.calls (k : Nat) (P0_ : Nat → Prop) (u9000_ : Value) (l0 : List Int) (a1 : Int) (a2 : Int) (A3 : Option Addr) (c3 : Nat) (l3 : List Int) (r1 : Int) (r2 : List Int) (w0 w : World) (hB : Below w0.heap.size w0 w) (ho0 : Kd.R (Kd.int .u32) 55 w w0.heap.size P0_ u9000_ l0) (hr3 : ∀ W_, Kept w W_ (fun k_ => P0_ k_) → Kd.C (Kd.int .u32) W_ A3 l3.length l3) (hc3 : l3.length ≤ c3) (h : nat_digit_at.f k l0 a1 a2 l3 = some (r1, r2))
  (A0 : Option Addr) (n0 c0 : Nat) (hu : u9000_ = .slice A0 n0 c0) (AW : Option Addr) (cW : Nat) (hA : AW = if c0 = a1.toNat then A0 else A0.map (·.add (a1.toNat * 1))) (yW : List Int) (hy : yW = (l0.take a2.toNat).drop a1.toNat) :
  Calls Tryd.prog 121 #[.slice AW yW.length cW, .slice A3 l3.length c3] w fun e w' => e = .returned (.int .u32 r1) ∧ Kd.R (Kd.int .u32) 55 w' w0.heap.size (fun k_ => (P0_ k_ ∨ w.heap.size ≤ k_)) u9000_ r2 ∧ Below w0.heap.size w0 w' ∧ Kept w w' (fun k_ => P0_ k_) := by
 unfold nat_digit_at.f at h
 split at h
 ·split at h
  ·split at h
   ·rename_i h0 h1 h2
    obtain ⟨⟨b1, b2⟩, hb, h⟩ := Option.bind_eq_some_iff.1 h
    simp only [Option.some.injEq, Prod.mk.injEq] at h
    obtain ⟨rfl, rfl⟩ := h
    subst hu
    rw [← hy] at hb
    obtain ⟨g, rfl, hAW, hW⟩ := win_start ho0 a1 a2 h0 h1 h2 hA hy cW
    refine (nat_digit.callsW (l0.take a1.toNat) (l0.drop a2.toNat) n0 c0 k P0_ (.slice AW yW.length cW) yW A3 c3 l3 b1 b2 w0 w hB hW hr3 hc3 hb).mono ?_
    rintro e w' ⟨rfl, q1, q2, q3⟩
    rw [hAW] at q1
    exact ⟨rfl, win_end q1, q2, q3⟩
   ·cases h
  ·cases h
 ·cases h
end Go.Proofs.YtemnjgkicndmjaaDoor.Q

namespace Go.Proofs.YtemnjgkicndmjaaDoor.Q
open Go.RowKit Go.Proofs.YtemnjgkicndmjaaDoorW.PrintWords Go.Proofs.YtemnjgkicndmjaaDoorW.PrintLast Go.Proofs.YtemnjgkicndmjaaDoorW.PrintMore
attribute [local go_sem] max2_int min2_int max_two min_two max_three min_three max_four min_four
set_option linter.unusedVariables false
set_option linter.unusedSimpArgs false
def nat_DivMod.l0 : Nat → List Int → Int → List Int → List Int → Int → Int → Option (List Int × List Int)
 | 0, _, _, _, _, _, _ => none
 | k + 1, x4, x8, x9, x10, x11, x12 => if x12 ≥ 0 then (if 0 ≤ x12 then (if x12 ≤ (wrap64 ((wrap64 (x12 + x11)) + 1)) then (if (wrap64 ((wrap64 (x12 + x11)) + 1)) ≤ (x10.length : Int) then ((nat_digit_at.f k x10 x12 (wrap64 ((wrap64 (x12 + x11)) + 1)) x9).bind fun bt207 => (if x12 < (x4.length : Int) then (nat_DivMod.l0 k (x4.set (x12 : Int).toNat bt207.1) x8 x9 bt207.2 x11 (wrap64 (x12 - 1))) else (none))) else (none)) else (none)) else (none)) else ((nat_Trim.f k x10).bind fun t210 => ((nat_Shr.f k t210 x8).bind fun bt213 => ((nat_Trim.f k x4).bind fun t217 => (some (t217, bt213.1)))))
def nat_DivMod.f (k : Nat) (l0 : List Int) (l1 : List Int) : Option (List Int × List Int) := (nat_Compare.f k l0 l1).bind fun t175 => (if t175 < 0 then ((slices_Clone_uint32_uint32.f l0).bind fun t176 => (some (([] : List Int), t176))) else (if (l1.length : Int) = 1 then (if 0 < (l1.length : Int) then ((nat_DivSmall.f k l0 (rd l1 0)).bind fun bt180 => ((nat_Of.f k (IntKind.u64.wrap (bt180.2))).bind fun t184 => (some (bt180.1, t184)))) else (none)) else (if 0 ≤ (wrap64 ((l1.length : Int) - 1)) then (if (wrap64 ((l1.length : Int) - 1)) < (l1.length : Int) then ((bits_LeadingZeros32.f (rd l1 (wrap64 ((l1.length : Int) - 1)))).bind fun t188 => ((nat_Shl.f k l1 t188).bind fun t189 => (if 0 ≤ (wrap64 ((l0.length : Int) + 1)) then (if (wrap64 ((l0.length : Int) + 1) : Int).toNat ≤ 70368744177664 then ((some (List.replicate (wrap64 ((l0.length : Int) + 1) : Int).toNat 0 : List Int)).bind fun y192 => ((nat_Shl.f k l0 t188).bind fun t195 => ((copy_e55.f y192 t195).bind fun bt198 => (if 0 ≤ (wrap64 ((y192.length : Int) - (t189.length : Int))) then (if (wrap64 ((y192.length : Int) - (t189.length : Int)) : Int).toNat ≤ 70368744177664 then ((some (List.replicate (wrap64 ((y192.length : Int) - (t189.length : Int)) : Int).toNat 0 : List Int)).bind fun y200 => (nat_DivMod.l0 k y200 t188 t189 bt198.2 (t189.length : Int) (wrap64 ((y200.length : Int) - 1)))) else (none)) else (none))))) else (none)) else (none)))) else (none)) else (none))))
theorem nat_DivMod.mono_l : ∀ k, (∀ y0 y1 y2 y3 y4 y5, LeO (nat_DivMod.l0 k y0 y1 y2 y3 y4 y5) (nat_DivMod.l0 (k + 1) y0 y1 y2 y3 y4 y5))
 | 0 => fun _ _ _ _ _ _ r h => by simp [nat_DivMod.l0] at h
 | k + 1 => by
  have ih0 := nat_DivMod.mono_l k
  ·intro y0 y1 y2 y3 y4 y5
   unfold nat_DivMod.l0
   have m0 := ih0
   have m1 := @nat_Compare.mono
   have m2 := @nat_DivSmall.mono
   have m3 := @nat_Of.mono
   have m4 := @nat_Shl.mono
   have m5 := @nat_Shr.mono
   have m6 := @nat_Trim.mono
   have m7 := @nat_digit_at.mono
   exact zm
theorem nat_DivMod.mono : ∀ a0 a1 k, LeO (nat_DivMod.f k a0 a1) (nat_DivMod.f (k + 1) a0 a1) := by
 intro a0 a1 k
 have ih0 := nat_DivMod.mono_l k
 unfold nat_DivMod.f
 have m0 := ih0
 have m1 := @nat_Compare.mono
 have m2 := @nat_DivSmall.mono
 have m3 := @nat_Of.mono
 have m4 := @nat_Shl.mono
 have m5 := @nat_Shr.mono
 have m6 := @nat_Trim.mono
 have m7 := @nat_digit_at.mono
 exact zm
set_option maxHeartbeats 8000000 in
set_option maxRecDepth 100000 in
theorem nat_DivMod.calls (k : Nat) (A0 : Option Addr) (c0 : Nat) (l0 : List Int) (A1 : Option Addr) (c1 : Nat) (l1 : List Int) (r1 : List Int) (r2 : List Int) (w : World) (hr0 : Kd.C (Kd.int .u32) w A0 l0.length l0) (hc0 : l0.length ≤ c0) (hr1 : Kd.C (Kd.int .u32) w A1 l1.length l1) (hc1 : l1.length ≤ c1) (h : nat_DivMod.f k l0 l1 = some (r1, r2)) :
  Calls Tryd.prog 94 #[.slice A0 l0.length c0, .slice A1 l1.length c1] w fun e w' => ∃ v0_ v1_ : Value, e = .returned (.tuple #[v0_, v1_]) ∧ Kd.V (Kd.int .u32) 55 w' w.heap.size (fun k_ => (w.heap.size ≤ k_)) v0_ r1 ∧ Kd.V (Kd.int .u32) 55 w' w.heap.size (fun k_ => (w.heap.size ≤ k_)) v1_ r2 ∧ Below w.heap.size w w' := by
 have HR0 := am hr0
 have HC0 := am hc0
 clear hr0 hc0
 have HR1 := am hr1
 have HC1 := am hc1
 clear hr1 hc1
 have HB := am (Below.refl w.heap.size w)
 have H := h
 unfold nat_DivMod.f at H
 clear h
 replace H := zj H
 obtain ⟨t175, A3, H⟩ := H
 replace H : (if t175 < 0 then ((slices_Clone_uint32_uint32.f l0).bind fun t176 => (some (([] : List Int), t176))) else (if (l1.length : Int) = 1 then (if 0 < (l1.length : Int) then ((nat_DivSmall.f k l0 (rd l1 0)).bind fun bt180 => ((nat_Of.f k (IntKind.u64.wrap (bt180.2))).bind fun t184 => (some (bt180.1, t184)))) else (none)) else (if 0 ≤ (wrap64 ((l1.length : Int) - 1)) then (if (wrap64 ((l1.length : Int) - 1)) < (l1.length : Int) then ((bits_LeadingZeros32.f (rd l1 (wrap64 ((l1.length : Int) - 1)))).bind fun t188 => ((nat_Shl.f k l1 t188).bind fun t189 => (if 0 ≤ (wrap64 ((l0.length : Int) + 1)) then (if (wrap64 ((l0.length : Int) + 1) : Int).toNat ≤ 70368744177664 then ((some (List.replicate (wrap64 ((l0.length : Int) + 1) : Int).toNat 0 : List Int)).bind fun y192 => ((nat_Shl.f k l0 t188).bind fun t195 => ((copy_e55.f y192 t195).bind fun bt198 => (if 0 ≤ (wrap64 ((y192.length : Int) - (t189.length : Int))) then (if (wrap64 ((y192.length : Int) - (t189.length : Int)) : Int).toNat ≤ 70368744177664 then ((some (List.replicate (wrap64 ((y192.length : Int) - (t189.length : Int)) : Int).toNat 0 : List Int)).bind fun y200 => (nat_DivMod.l0 k y200 t188 t189 bt198.2 (t189.length : Int) (wrap64 ((y200.length : Int) - 1)))) else (none)) else (none))))) else (none)) else (none)))) else (none)) else (none)))) = some (r1, r2) := H
 by_cases c4 : t175 < 0
 ·rw [if_pos c4] at H
  have c4b0 := decide_eq_true c4
  clear c4
  replace H := zj H
  obtain ⟨t176, A5, H⟩ := H
  replace H : (some (([] : List Int), t176)) = some (r1, r2) := H
  simp only [Option.some.injEq, Prod.mk.injEq] at H
  obtain ⟨rfl, rfl⟩ := H
  go_enter Tryd.func94, Tryd.ntmps94
  go_wp2_with (first | ((with_reducible refine gate_callee (f := 109) rfl ?_); refine goesL_ (some 15) rfl rfl Tryd.func109 (by kernel_rfl) rfl #[.slice A0 l0.length c0, .slice A1 l1.length c1] rfl zq5 ?_; (with_reducible refine (nat_Compare.calls k _ _ l0 _ _ l1 t175 _ ?side1 ?side2 ?side3 ?side4 A3.out).mono ?_); (case side1 => exact zc (HR0.out)); (case side2 => exact HC0.out); (case side3 => exact zc (HR1.out)); (case side4 => exact HC1.out); rintro e w' ⟨rfl, ⟨nd, rfl⟩⟩; refine ⟨_, rfl, ?_⟩) | ((with_reducible refine gate_callee (f := 95) rfl ?_); refine goesL_ (some 18) rfl rfl Tryd.func95 (by kernel_rfl) rfl #[.slice A0 l0.length c0] rfl zq5 ?_; (with_reducible refine (slices_Clone_uint32_uint32.calls _ _ l0 t176 _ ?side1 ?side2 A5.out).mono ?_); (case side1 => exact zc (HR0.out)); (case side2 => exact HC0.out); rintro e w6 ⟨v177, rfl, ho0, hb⟩; refine ⟨_, rfl, ?_⟩; refine zt2 (Kd.R_lower (Kd.R_newM (M := fun k_ => (w.heap.size ≤ k_)) ho0 (below_size zq1) (fun k_ h_ => h_)) (below_size zq1)) (below_step zq1 hb) ?_; clear HB; intro HO178 HB))
  go_ret2
  exact ⟨_, _, zq9, Kd.V_nil _ _ _ _ _, Kd.R_V (zwR (h := by exact Kd.R_mono HO178.out (fun _ hk => hk.1))), zq1⟩
 ·rw [if_neg c4] at H
  have c4b0 := decide_eq_false c4
  clear c4
  by_cases c7 : (l1.length : Int) = 1
  ·rw [if_pos c7] at H
   have c7b0 : ((l1.length : Int) == 1) = true := beq_iff_eq.mpr c7
   have c7b1 : ((l1.length : Int) != 1) = false := bne_eq_false_iff_eq.mpr c7
   clear c7
   replace H := zn H
   obtain ⟨c8, H⟩ := H
   have c8b0 := decide_eq_true c8
   have c8b1 : decide (0 < l1.length) = true := decide_eq_true (by omega)
   clear c8
   replace H := zj H
   obtain ⟨⟨t180, t183⟩, A9, H⟩ := H
   replace H : ((nat_Of.f k (IntKind.u64.wrap (t183))).bind fun t184 => (some (t180, t184))) = some (r1, r2) := H
   replace H := zj H
   obtain ⟨t184, A10, H⟩ := H
   replace H : (some (t180, t184)) = some (r1, r2) := H
   simp only [Option.some.injEq, Prod.mk.injEq] at H
   obtain ⟨rfl, rfl⟩ := H
   go_enter Tryd.func94, Tryd.ntmps94
   go_wp2_with (first | ((with_reducible refine gate_callee (f := 109) rfl ?_); refine goesL_ (some 15) rfl rfl Tryd.func109 (by kernel_rfl) rfl #[.slice A0 l0.length c0, .slice A1 l1.length c1] rfl zq5 ?_; (with_reducible refine (nat_Compare.calls k _ _ l0 _ _ l1 t175 _ ?side1 ?side2 ?side3 ?side4 A3.out).mono ?_); (case side1 => exact zc (HR0.out)); (case side2 => exact HC0.out); (case side3 => exact zc (HR1.out)); (case side4 => exact HC1.out); rintro e w' ⟨rfl, ⟨nd, rfl⟩⟩; refine ⟨_, rfl, ?_⟩; have p179 : 0 ≤ (0 : Int) := (by omega); have q179 : 0 < (l1.length : Int) := zq6; obtain ⟨ad179, e179, hx179_0⟩ := Kd.at_int HR1.out 0 p179 q179; cases e179; have qi179 : (0 < l1.length) = True := eq_true (by omega); (try rw [show ((0 : Int)).toNat = 0 from rfl] at hx179_0); (try rw [Addr.add_zero'] at hx179_0); replace p179 := eq_true p179; replace q179 := eq_true q179) | ((with_reducible refine gate_callee (f := 100) rfl ?_); refine goesL_ (some 27) rfl rfl Tryd.func100 (by kernel_rfl) rfl #[.slice A0 l0.length c0, .int .u32 (rd l1 0)] rfl zq5 ?_; (with_reducible refine (nat_DivSmall.calls k _ _ l0 (rd l1 0) t180 t183 _ ?side1 ?side2 A9.out).mono ?_); (case side1 => exact zc (HR0.out)); (case side2 => exact HC0.out); rintro e w11 ⟨v181, rfl, ho0, hb⟩; refine ⟨_, rfl, ?_⟩; refine zt2 (Kd.V_lower (Kd.V_mono (ok' := fun k_ => (w.heap.size ≤ k_)) ho0 (fun k_ hk_ => (Nat.le_trans (below_size zq1) hk_))) (below_size zq1)) (below_step zq1 hb) ?_; clear HB; intro HO182 HB) | ((with_reducible refine gate_callee (f := 79) rfl ?_); refine goesL_ (some 33) rfl rfl Tryd.func79 (by kernel_rfl) rfl #[.int .u64 (IntKind.u64.wrap (t183))] rfl zq5 ?_; (with_reducible refine (nat_Of.calls k (IntKind.u64.wrap (t183)) t184 _ A10.out).mono ?_); rintro e w12 ⟨v185, rfl, ho0, hb⟩; refine ⟨_, rfl, ?_⟩; refine zt3 (vb HO182 hb) (Kd.V_lower (Kd.V_mono (ok' := fun k_ => (w.heap.size ≤ k_)) ho0 (fun k_ hk_ => (Nat.le_trans (below_size zq1) hk_))) (below_size zq1)) (below_step zq1 hb) ?_; clear HO182 HB; intro HO182 HO186 HB))
   go_ret2
   exact ⟨_, _, zq9, zq3 HO182.out, zq3 HO186.out, zq1⟩
  ·rw [if_neg c7] at H
   have c7b0 : ((l1.length : Int) == 1) = false := beq_eq_false_iff_ne.mpr c7
   have c7b1 : ((l1.length : Int) != 1) = true := bne_iff_ne.mpr c7
   obtain ⟨ji13, hji13⟩ : ∃ j_ : Int, (wrap64 ((l1.length : Int) - 1)) = j_ := ⟨_, rfl⟩
   replace H : (if 0 ≤ (ji13) then (if (ji13) < (l1.length : Int) then ((bits_LeadingZeros32.f (rd l1 (ji13))).bind fun t188 => ((nat_Shl.f k l1 t188).bind fun t189 => (if 0 ≤ (wrap64 ((l0.length : Int) + 1)) then (if (wrap64 ((l0.length : Int) + 1) : Int).toNat ≤ 70368744177664 then ((some (List.replicate (wrap64 ((l0.length : Int) + 1) : Int).toNat 0 : List Int)).bind fun y192 => ((nat_Shl.f k l0 t188).bind fun t195 => ((copy_e55.f y192 t195).bind fun bt198 => (if 0 ≤ (wrap64 ((y192.length : Int) - (t189.length : Int))) then (if (wrap64 ((y192.length : Int) - (t189.length : Int)) : Int).toNat ≤ 70368744177664 then ((some (List.replicate (wrap64 ((y192.length : Int) - (t189.length : Int)) : Int).toNat 0 : List Int)).bind fun y200 => (nat_DivMod.l0 k y200 t188 t189 bt198.2 (t189.length : Int) (wrap64 ((y200.length : Int) - 1)))) else (none)) else (none))))) else (none)) else (none)))) else (none)) else (none)) = some (r1, r2) := by first | (rw [hji13] at H; exact H) | (simp only [hji13] at H ⊢; exact H)
   (try rw [hji13] at A3)
   have hji13w : (IntKind.i64.wrap ((l1.length : Int) - 1)) = ji13 := (i64_w _).trans hji13
   replace H := zn H
   obtain ⟨c14, H⟩ := H
   have c14b0 := decide_eq_true c14
   clear c14
   replace H := zn H
   obtain ⟨c15, H⟩ := H
   have c15b0 := decide_eq_true c15
   clear c15
   replace H := zj H
   obtain ⟨t188, A16, H⟩ := H
   replace H : ((nat_Shl.f k l1 t188).bind fun t189 => (if 0 ≤ (wrap64 ((l0.length : Int) + 1)) then (if (wrap64 ((l0.length : Int) + 1) : Int).toNat ≤ 70368744177664 then ((some (List.replicate (wrap64 ((l0.length : Int) + 1) : Int).toNat 0 : List Int)).bind fun y192 => ((nat_Shl.f k l0 t188).bind fun t195 => ((copy_e55.f y192 t195).bind fun bt198 => (if 0 ≤ (wrap64 ((y192.length : Int) - (t189.length : Int))) then (if (wrap64 ((y192.length : Int) - (t189.length : Int)) : Int).toNat ≤ 70368744177664 then ((some (List.replicate (wrap64 ((y192.length : Int) - (t189.length : Int)) : Int).toNat 0 : List Int)).bind fun y200 => (nat_DivMod.l0 k y200 t188 t189 bt198.2 (t189.length : Int) (wrap64 ((y200.length : Int) - 1)))) else (none)) else (none))))) else (none)) else (none))) = some (r1, r2) := H
   replace H := zj H
   obtain ⟨t189, A17, H⟩ := H
   replace H : (if 0 ≤ (wrap64 ((l0.length : Int) + 1)) then (if (wrap64 ((l0.length : Int) + 1) : Int).toNat ≤ 70368744177664 then ((some (List.replicate (wrap64 ((l0.length : Int) + 1) : Int).toNat 0 : List Int)).bind fun y192 => ((nat_Shl.f k l0 t188).bind fun t195 => ((copy_e55.f y192 t195).bind fun bt198 => (if 0 ≤ (wrap64 ((y192.length : Int) - (t189.length : Int))) then (if (wrap64 ((y192.length : Int) - (t189.length : Int)) : Int).toNat ≤ 70368744177664 then ((some (List.replicate (wrap64 ((y192.length : Int) - (t189.length : Int)) : Int).toNat 0 : List Int)).bind fun y200 => (nat_DivMod.l0 k y200 t188 t189 bt198.2 (t189.length : Int) (wrap64 ((y200.length : Int) - 1)))) else (none)) else (none))))) else (none)) else (none)) = some (r1, r2) := H
   obtain ⟨ji18, hji18⟩ : ∃ j_ : Int, (wrap64 ((l0.length : Int) + 1)) = j_ := ⟨_, rfl⟩
   replace H : (if 0 ≤ (ji18) then (if (ji18 : Int).toNat ≤ 70368744177664 then ((some (List.replicate (ji18 : Int).toNat 0 : List Int)).bind fun y192 => ((nat_Shl.f k l0 t188).bind fun t195 => ((copy_e55.f y192 t195).bind fun bt198 => (if 0 ≤ (wrap64 ((y192.length : Int) - (t189.length : Int))) then (if (wrap64 ((y192.length : Int) - (t189.length : Int)) : Int).toNat ≤ 70368744177664 then ((some (List.replicate (wrap64 ((y192.length : Int) - (t189.length : Int)) : Int).toNat 0 : List Int)).bind fun y200 => (nat_DivMod.l0 k y200 t188 t189 bt198.2 (t189.length : Int) (wrap64 ((y200.length : Int) - 1)))) else (none)) else (none))))) else (none)) else (none)) = some (r1, r2) := by first | (rw [hji18] at H; exact H) | (simp only [hji18] at H ⊢; exact H)
   (try rw [hji18] at A3)
   (try rw [hji18] at A16)
   (try rw [hji18] at A17)
   have hji18w : (IntKind.i64.wrap ((l0.length : Int) + 1)) = ji18 := (i64_w _).trans hji18
   replace H := zn H
   obtain ⟨c19, H⟩ := H
   have c19b0 := eq_true c19
   have c19b1 := decide_eq_true c19
   clear c19
   replace H := zn H
   obtain ⟨c20, H⟩ := H
   have c20b0 := eq_true c20
   have c20b1 := decide_eq_true c20
   clear c20
   obtain ⟨y192, hy192⟩ : ∃ y_ : List Int, y_ = (List.replicate (ji18 : Int).toNat 0) := ⟨_, rfl⟩
   replace H : ((nat_Shl.f k l0 t188).bind fun t195 => ((copy_e55.f y192 t195).bind fun bt198 => (if 0 ≤ (wrap64 ((y192.length : Int) - (t189.length : Int))) then (if (wrap64 ((y192.length : Int) - (t189.length : Int)) : Int).toNat ≤ 70368744177664 then ((some (List.replicate (wrap64 ((y192.length : Int) - (t189.length : Int)) : Int).toNat 0 : List Int)).bind fun y200 => (nat_DivMod.l0 k y200 t188 t189 bt198.2 (t189.length : Int) (wrap64 ((y200.length : Int) - 1)))) else (none)) else (none)))) = some (r1, r2) := by first | (rw [hy192]; with_reducible exact H) | (have H2_ := (Option.bind_some _ _).symm.trans H; rw [hy192]; with_reducible exact H2_) | (have H2_ := (Option.bind_some _ _).symm.trans H; with_reducible exact H2_) | with_reducible exact H | (rw [hy192]; exact H) | exact H
   have Ny192 := am hy192
   clear hy192
   replace H := zj H
   obtain ⟨t195, A21, H⟩ := H
   replace H : ((copy_e55.f y192 t195).bind fun bt198 => (if 0 ≤ (wrap64 ((y192.length : Int) - (t189.length : Int))) then (if (wrap64 ((y192.length : Int) - (t189.length : Int)) : Int).toNat ≤ 70368744177664 then ((some (List.replicate (wrap64 ((y192.length : Int) - (t189.length : Int)) : Int).toNat 0 : List Int)).bind fun y200 => (nat_DivMod.l0 k y200 t188 t189 bt198.2 (t189.length : Int) (wrap64 ((y200.length : Int) - 1)))) else (none)) else (none))) = some (r1, r2) := H
   replace H := zj H
   obtain ⟨⟨t198, t199⟩, A22, H⟩ := H
   replace H : (if 0 ≤ (wrap64 ((y192.length : Int) - (t189.length : Int))) then (if (wrap64 ((y192.length : Int) - (t189.length : Int)) : Int).toNat ≤ 70368744177664 then ((some (List.replicate (wrap64 ((y192.length : Int) - (t189.length : Int)) : Int).toNat 0 : List Int)).bind fun y200 => (nat_DivMod.l0 k y200 t188 t189 t199 (t189.length : Int) (wrap64 ((y200.length : Int) - 1)))) else (none)) else (none)) = some (r1, r2) := H
   obtain ⟨ji23, hji23⟩ : ∃ j_ : Int, (wrap64 ((y192.length : Int) - (t189.length : Int))) = j_ := ⟨_, rfl⟩
   replace H : (if 0 ≤ (ji23) then (if (ji23 : Int).toNat ≤ 70368744177664 then ((some (List.replicate (ji23 : Int).toNat 0 : List Int)).bind fun y200 => (nat_DivMod.l0 k y200 t188 t189 t199 (t189.length : Int) (wrap64 ((y200.length : Int) - 1)))) else (none)) else (none)) = some (r1, r2) := by first | (rw [hji23] at H; exact H) | (simp only [hji23] at H ⊢; exact H)
   (try rw [hji23] at A3)
   (try rw [hji23] at A16)
   (try rw [hji23] at A17)
   (try rw [hji23] at A21)
   (try rw [hji23] at A22)
   have hji23w : (IntKind.i64.wrap ((y192.length : Int) - (t189.length : Int))) = ji23 := (i64_w _).trans hji23
   replace H := zn H
   obtain ⟨c24, H⟩ := H
   have c24b0 := eq_true c24
   have c24b1 := decide_eq_true c24
   clear c24
   replace H := zn H
   obtain ⟨c25, H⟩ := H
   have c25b0 := eq_true c25
   have c25b1 := decide_eq_true c25
   clear c25
   obtain ⟨y200, hy200⟩ : ∃ y_ : List Int, y_ = (List.replicate (ji23 : Int).toNat 0) := ⟨_, rfl⟩
   replace H : (nat_DivMod.l0 k y200 t188 t189 t199 (t189.length : Int) (wrap64 ((y200.length : Int) - 1))) = some (r1, r2) := by first | (rw [hy200]; with_reducible exact H) | (have H2_ := (Option.bind_some _ _).symm.trans H; rw [hy200]; with_reducible exact H2_) | (have H2_ := (Option.bind_some _ _).symm.trans H; with_reducible exact H2_) | with_reducible exact H | (rw [hy200]; exact H) | exact H
   have Ny200 := am hy200
   clear hy200
   have H' := am H
   clear H
   go_enter Tryd.func94, Tryd.ntmps94
   go_wp2_with (first | ((with_reducible refine gate_callee (f := 109) rfl ?_); refine goesL_ (some 15) rfl rfl Tryd.func109 (by kernel_rfl) rfl #[.slice A0 l0.length c0, .slice A1 l1.length c1] rfl zq5 ?_; (with_reducible refine (nat_Compare.calls k _ _ l0 _ _ l1 t175 _ ?side1 ?side2 ?side3 ?side4 A3.out).mono ?_); (case side1 => exact zc (HR0.out)); (case side2 => exact HC0.out); (case side3 => exact zc (HR1.out)); (case side4 => exact HC1.out); rintro e w' ⟨rfl, ⟨nd, rfl⟩⟩; refine ⟨_, rfl, ?_⟩; have p187 : 0 ≤ ((ji13) : Int) := zq6; have q187 : (ji13) < (l1.length : Int) := zq6; obtain ⟨ad187, e187, hx187_0⟩ := Kd.at_int HR1.out (ji13) p187 q187; cases e187; replace p187 := eq_true p187; replace q187 := eq_true q187) | ((with_reducible refine gate_callee (f := 120) rfl ?_); refine goesL_ (some 40) rfl rfl Tryd.func120 (by kernel_rfl) rfl #[.int .u32 (rd l1 (ji13))] rfl (by (try simp only [List.map_toArray, List.map_cons, List.map_nil]); first | done | (simp only [hji13]; rfl) | rfl | (simp only [List.length_drop, List.length_take]; rfl)) ?_; (with_reducible refine (bits_LeadingZeros32.calls (rd l1 (ji13)) t188 _ A16.out).mono ?_); rintro e w' ⟨rfl, ⟨nd, rfl⟩⟩; refine ⟨_, rfl, ?_⟩) | ((with_reducible refine gate_callee (f := 117) rfl ?_); refine goesL_ (some 43) rfl rfl Tryd.func117 (by kernel_rfl) rfl #[.slice (some ad187) l1.length c1, .int .i64 t188] rfl zq5 ?_; (with_reducible refine (nat_Shl.calls k _ _ l1 t188 t189 _ ?side1 ?side2 A17.out).mono ?_); (case side1 => exact zc (HR1.out)); (case side2 => exact HC1.out); rintro e w26 ⟨v190, rfl, ho0, hb⟩; refine ⟨_, rfl, ?_⟩; refine zt2 (Kd.V_lower (Kd.V_mono (ok' := fun k_ => (w.heap.size ≤ k_)) ho0 (fun k_ hk_ => (Nat.le_trans (below_size zq1) hk_))) (below_size zq1)) (below_step zq1 hb) ?_; clear HB; intro HO191 HB) | ((with_reducible refine gate_dst (N := 47) rfl ?_); refine Kd.R_make (Kd.int .u32) _ 55 rfl (N := 47) rfl 22 _ _ rfl ji18 rfl rfl Tryd.underlying22 (.int .u32 0) 4 info55 rfl (by decide) (by omega) 0 (ok := fun _ => True) (okp := fun _ => True) rfl (fun _ hk => hk) trivial zq6 (Nat.le_trans (Nat.mul_le_mul_right _ (zq6 : ji18.toNat ≤ 70368744177664)) (by omega)) (Below.refl _ _) (Nat.le_refl _) ?_; intro v193 w27 ho28 hb hg_ hnew_; clear hg_ hnew_; (first | rw [← Ny192.out] at ho28 | (simp only [Int.reduceToNat] at ho28; rw [← Ny192.out] at ho28)); refine zt3 (Kd.V_elder' (zq3 HO191.out) (Kd.R_base ho28) hb) (Kd.R_lower (Kd.R_newM (M := fun k_ => (w.heap.size ≤ k_)) ho28 (below_size zq1) (fun k_ h_ => h_)) (below_size zq1)) (below_step zq1 hb) ?_; clear HO191 HB; intro HO191 HO194 HB; clear hb ho28) | ((with_reducible refine gate_callee (f := 117) rfl ?_); refine goesL_ (some 51) rfl rfl Tryd.func117 (by kernel_rfl) rfl #[.slice A0 l0.length c0, .int .i64 t188] rfl zq5 ?_; (with_reducible refine (nat_Shl.calls k _ _ l0 t188 t195 _ ?side1 ?side2 A21.out).mono ?_); (case side1 => exact zc (Kd.C_below HR0.out HB.out)); (case side2 => exact HC0.out); rintro e w29 ⟨v196, rfl, ho0, hb⟩; refine ⟨_, rfl, ?_⟩; refine zt4 (vb HO191 hb) (rb HO194 hb) (Kd.V_lower (Kd.V_mono (ok' := fun k_ => (w.heap.size ≤ k_) ∧ some k_ ≠ (v193 : Value).ownBlock) ho0 (fun k_ hk_ => ⟨(Nat.le_trans (below_size zq1) hk_), (Kd.fresh' (Kd.R_lt (zq4 HO194.out)) k_ hk_)⟩)) (below_size zq1)) (below_step zq1 hb) ?_; clear HO191 HO194 HB; intro HO191 HO194 HO197 HB; obtain ⟨Ao30, co30, eo30⟩ := Kd.R_slice HO194.out; subst eo30; obtain ⟨Ao31, co31, eo31⟩ := Kd.V_slice HO197.out; subst eo31) | ((with_reducible refine gate_builtin (b := .copy) rfl ?_); refine copyL_ (some 52) rfl rfl #[.slice Ao30 y192.length co30, .slice Ao31 t195.length co31] rfl zq5 ?_; (with_reducible refine (copy_e55.calls (fun k_ => some k_ = (.slice Ao30 y192.length co30 : Value).ownBlock) (.slice Ao30 y192.length co30) y192 _ _ t195 t198 t199 w _ ?side1 ?side2 ?side3 ?side4 A22.out).mono ?_); (case side1 => repeat (first | (with_reducible first | exact HB.out | apply below_alloc | apply pw_below_drewN | apply below_drew1) | exact HB.out)); (case side2 => exact Kd.R_tight rfl HO194.out); (case side3 => exact Kd.C_kept_ownV (HO197.out) (fun k_ hk_ hs_ => (hk_.2) hs_)); (case side4 => exact (Kd.V_reads' HO197.out).2.1); rintro e w32 ⟨rfl, hy0, hb, hkp⟩; refine ⟨_, rfl, ?_⟩; refine zt4 (Kd.V_mono (ok' := fun k_ => (w.heap.size ≤ k_) ∧ some k_ ≠ (.slice Ao30 y192.length co30 : Value).ownBlock) (Kd.V_keptB (HO191.out) hkp (fun k_ hk_ hs_ => (hk_.2) hs_)) (fun k_ hk_ => ⟨hk_.1.1, hk_.1.2⟩)) (Kd.R_reok rfl hy0 (fun k_ e_ => HO194.out.1 k_ e_)) (Kd.V_mono (ok' := fun k_ => (w.heap.size ≤ k_) ∧ some k_ ≠ (.slice Ao30 y192.length co30 : Value).ownBlock) (Kd.V_keptB (HO197.out) hkp (fun k_ hk_ hs_ => (hk_.2) hs_)) (fun k_ hk_ => ⟨hk_.1.1, hk_.1.2⟩)) (hb) ?_; clear HO191 HO194 HO197 HB; intro HO191 HO194 HO197 HB; (try clear hb); (try clear hkp); (try clear hy0); obtain ⟨Ao33, co33, eo33⟩ := Kd.V_slice HO191.out; subst eo33) | ((with_reducible refine gate_dst (N := 59) rfl ?_); refine Kd.R_make (Kd.int .u32) _ 55 rfl (N := 59) rfl 22 _ _ rfl ji23 rfl rfl Tryd.underlying22 (.int .u32 0) 4 info55 rfl (by decide) (by omega) 0 (ok := fun _ => True) (okp := fun _ => True) rfl (fun _ hk => hk) trivial zq6 (Nat.le_trans (Nat.mul_le_mul_right _ (zq6 : ji23.toNat ≤ 70368744177664)) (by omega)) (Below.refl _ _) (Nat.le_refl _) ?_; intro v201 w34 ho35 hb hg_ hnew_; clear hg_ hnew_; (first | rw [← Ny200.out] at ho35 | (simp only [Int.reduceToNat] at ho35; rw [← Ny200.out] at ho35)); refine zt5 (Kd.V_elder' (zq3 HO191.out) (Kd.R_base ho35) hb) (Kd.R_elder' (zq4 HO194.out) (Kd.R_base ho35) hb) (Kd.V_elder' (zq3 HO197.out) (Kd.R_base ho35) hb) (Kd.R_lower (Kd.R_new' (Kd.R_newM (M := fun k_ => (w.heap.size ≤ k_)) ho35 (below_size zq1) (fun k_ h_ => h_)) (Kd.R_lt (zq4 HO194.out))) (below_size zq1)) (below_step zq1 hb) ?_; clear HO191 HO194 HO197 HB; intro HO191 HO194 HO197 HO202 HB; clear hb ho35; obtain ⟨Ao36, co36, eo36⟩ := Kd.R_slice HO202.out; subst eo36))
   go_loopg [12] k (fun kq v12 w' => ∃ (x4_1 : List Int) (x9_1 : List Int) (x10_1 : List Int) (x12_1 : Int), v12 = .int .i64 x12_1 ∧ Aside0 (nat_DivMod.l0 kq x4_1 t188 x9_1 x10_1 (t189.length : Int) x12_1 = some (r1, r2)) ∧ Aside0 (kq ≤ k) ∧ Aside0 (Kd.R (Kd.int .u32) 55 w' w.heap.size (fun k_ => (w.heap.size ≤ k_) ∧ some k_ ≠ ((.slice Ao30 y192.length co30) : Value).ownBlock) (.slice Ao36 y200.length co36) x4_1) ∧ Aside0 (Kd.V (Kd.int .u32) 55 w' w.heap.size (fun k_ => (w.heap.size ≤ k_) ∧ some k_ ≠ ((.slice Ao36 y200.length co36) : Value).ownBlock ∧ some k_ ≠ ((.slice Ao30 y192.length co30) : Value).ownBlock) (.slice Ao33 t189.length co33) x9_1) ∧ Aside0 (Kd.R (Kd.int .u32) 55 w' w.heap.size (fun k_ => (w.heap.size ≤ k_) ∧ some k_ ≠ ((.slice Ao36 y200.length co36) : Value).ownBlock) (.slice Ao30 y192.length co30) x10_1) ∧ Aside0 (Below w.heap.size w w'))
   case atStart => exact ⟨(y200), (t189), (t199), (wrap64 ((y200.length : Int) - 1)), zq8, H', ⟨Nat.le_refl _⟩, ⟨zwR (h := by exact Kd.R_mono HO202.out (fun _ hk => ⟨hk.1.1, hk.2⟩))⟩, ⟨zwV (h := by exact Kd.V_mono HO191.out (fun _ hk => ⟨hk.1.1, ⟨hk.2, hk.1.2⟩⟩))⟩, ⟨zwR (h := by exact Kd.R_mono HO194.out (fun _ hk => ⟨hk.1.1, hk.2⟩))⟩, ⟨zq1⟩⟩
   case round =>
    clear H'
    obtain ⟨x4_1, x9_1, x10_1, x12_1, rfl, HA, HK1, HO_4, HO_9, HO_10, HB⟩ := hrel
    have hl4_1 := (Kd.R_reads' HO_4.out).1
    rw [hl4_1] at HO_4
    (try simp only [hl4_1])
    (try simp only [hl4_1] at HO_9)
    (try simp only [hl4_1] at HO_10)
    have hl9_1 := (Kd.V_reads' HO_9.out).1
    rw [hl9_1] at HO_9
    (try simp only [hl9_1])
    (try simp only [hl9_1] at HO_4)
    (try simp only [hl9_1] at HO_10)
    have hl10_1 := (Kd.R_reads' HO_10.out).1
    rw [hl10_1] at HO_10
    (try simp only [hl10_1])
    (try simp only [hl10_1] at HO_4)
    (try simp only [hl10_1] at HO_9)
    cases gk with
    | zero => exact absurd HA.out (by simp [nat_DivMod.l0])
    | succ k1 =>
     have H := HA.out
     clear HA
     simp only [nat_DivMod.l0] at H
     by_cases c37 : x12_1 ≥ 0
     ·rw [if_pos c37] at H
      have c37b0 : decide (0 ≤ x12_1) = true := decide_eq_true c37
      clear c37
      replace H := zn H
      obtain ⟨c38, H⟩ := H
      have c38b0 := eq_true c38
      have c38b1 := decide_eq_true c38
      clear c38
      replace H := zn H
      obtain ⟨c39, H⟩ := H
      have c39b0 := eq_true c39
      have c39b1 := decide_eq_true c39
      replace H := zn H
      obtain ⟨c40, H⟩ := H
      have c40b0 := eq_true c40
      have c40b1 := decide_eq_true c40
      obtain ⟨y203, hy203⟩ : ∃ y_ : List Int, y_ = ((x10_1.take ((wrap64 ((wrap64 (x12_1 + (t189.length : Int))) + 1)) : Int).toNat).drop (x12_1 : Int).toNat) := ⟨_, rfl⟩
      replace H : ((nat_digit_at.f k1 x10_1 x12_1 (wrap64 ((wrap64 (x12_1 + (t189.length : Int))) + 1)) x9_1).bind fun bt207 => (if x12_1 < (x4_1.length : Int) then (nat_DivMod.l0 k1 (x4_1.set (x12_1 : Int).toNat bt207.1) t188 x9_1 bt207.2 (t189.length : Int) (wrap64 (x12_1 - 1))) else (none))) = some (r1, r2) := by first | (rw [hy203]; with_reducible exact H) | (have H2_ := (Option.bind_some _ _).symm.trans H; rw [hy203]; with_reducible exact H2_) | (have H2_ := (Option.bind_some _ _).symm.trans H; with_reducible exact H2_) | with_reducible exact H | (rw [hy203]; exact H) | exact H
      have Ny203 := am hy203
      clear hy203
      replace H := zj H
      obtain ⟨⟨t207, t208⟩, A41, H⟩ := H
      replace H : (if x12_1 < (x4_1.length : Int) then (nat_DivMod.l0 k1 (x4_1.set (x12_1 : Int).toNat t207) t188 x9_1 t208 (t189.length : Int) (wrap64 (x12_1 - 1))) else (none)) = some (r1, r2) := H
      replace H := zn H
      obtain ⟨c42, H⟩ := H
      have c42b0 := decide_eq_true c42
      clear c42
      obtain ⟨y209, hy209⟩ : ∃ y_ : List Int, y_ = (x4_1.set (x12_1 : Int).toNat t207) := ⟨_, rfl⟩
      replace H : (nat_DivMod.l0 k1 y209 t188 x9_1 t208 (t189.length : Int) (wrap64 (x12_1 - 1))) = some (r1, r2) := by first | (rw [hy209]; with_reducible exact H) | (have H2_ := (Option.bind_some _ _).symm.trans H; rw [hy209]; with_reducible exact H2_) | (have H2_ := (Option.bind_some _ _).symm.trans H; with_reducible exact H2_) | with_reducible exact H | (rw [hy209]; exact H) | exact H
      have Ny209 := am hy209
      clear hy209
      have H' := am H
      clear H
      have q44 : ((wrap64 ((wrap64 (x12_1 + (t189.length : Int))) + 1)) : Int) ≤ ((x10_1.length : Int) : Int) := zq6
      obtain ⟨i044, hi044, _, hsz44, _⟩ := info_parts info55
      have hroom44 : x10_1.length ≤ co30 := (Kd.R_reads' HO_10.out).2.1
      have hC44 : Kd.C (Kd.int .u32) _ Ao30 x10_1.length x10_1 := (Kd.R_reads' HO_10.out).2.2
      have ql44 : (x12_1 : Int) ≤ ((wrap64 ((wrap64 (x12_1 + (t189.length : Int))) + 1)) : Int) := zq6
      have q044 : (0 : Int) ≤ (x12_1 : Int) := zq6
      have hcut44 := cut_mid (P := Tryd.prog) 22 55 .i64 .i64 Tryd.underlying22 hi044 1 hsz44 Ao30 x10_1.length co30 x12_1 (wrap64 ((wrap64 (x12_1 + (t189.length : Int))) + 1)) q044 ql44 q44 hroom44
      have hr44 := Kd.C_mid (lo := (x12_1 : Int).toNat) (hi := ((wrap64 ((wrap64 (x12_1 + (t189.length : Int))) + 1)) : Int).toNat) (c := co30) hC44 (by omega) (by omega) hroom44
      obtain ⟨A44, hA44⟩ : ∃ A1, A1 = (if co30 = (x12_1 : Int).toNat then Ao30 else (Ao30 : Option Addr).map (·.add ((x12_1 : Int).toNat * 1))) := ⟨_, rfl⟩
      obtain ⟨c44, hc44⟩ : ∃ c1, c1 = co30 - (x12_1 : Int).toNat := ⟨_, rfl⟩
      have hy44 : y203.length = ((wrap64 ((wrap64 (x12_1 + (t189.length : Int))) + 1)) : Int).toNat - (x12_1 : Int).toNat := (by rw [Ny203.out, List.length_drop, List.length_take] <;> omega)
      rw [show ((x10_1).take ((wrap64 ((wrap64 (x12_1 + (t189.length : Int))) + 1)) : Int).toNat).drop (x12_1 : Int).toNat = y203 from Ny203.out.symm] at hr44
      replace hr44 : Kd.C (Kd.int .u32) _ A44 y203.length y203 := (by rw [hA44]; exact hr44)
      rw [← hy44, ← hA44, ← hc44] at hcut44
      (try simp only [hl9_1] at hcut44)
      have HR206 := am hr44
      have HC206 := am (show y203.length ≤ c44 from by rw [hy44, hc44]; exact Nat.sub_le_sub_right (Nat.le_trans (by omega) hroom44) _)
      clear hr44 hC44 hroom44 hi044 hsz44 hc44
      have KY44 := am hy44
      have KA44 := am hA44
      clear hy44 hA44
      have KL44 := am (show ((wrap64 ((wrap64 (x12_1 + (t189.length : Int))) + 1)) : Int).toNat ≤ x10_1.length from by omega)
      have KM44 := am (show (x12_1 : Int).toNat ≤ ((wrap64 ((wrap64 (x12_1 + (t189.length : Int))) + 1)) : Int).toNat from by omega)
      replace q44 := eq_true q44
      go_wp2_with (first | ((with_reducible refine gate_callee (f := 121) rfl ?_); refine goesL_ (some 77) rfl rfl Tryd.func121 (by kernel_rfl) rfl #[.slice A44 y203.length c44, .slice Ao33 x9_1.length co33] rfl zq5 ?_; (with_reducible refine (nat_digit_at.calls k1 (fun k_ => some k_ = (.slice Ao30 x10_1.length co30 : Value).ownBlock) (.slice Ao30 x10_1.length co30) x10_1 x12_1 (wrap64 ((wrap64 (x12_1 + (t189.length : Int))) + 1)) _ _ x9_1 t207 t208 w _ ?side1 ?side2 ?side3 ?side4 A41.out _ _ _ rfl _ _ KA44.out _ Ny203.out).mono ?_); (case side1 => repeat (first | (with_reducible first | exact HB.out | apply below_alloc | apply pw_below_drewN | apply below_drew1) | exact HB.out)); (case side2 => exact Kd.R_tight rfl HO_10.out); (case side3 => exact Kd.C_kept_ownV (HO_9.out) (fun k_ hk_ hs_ => (hk_.2.2) hs_)); (case side4 => exact (Kd.V_reads' HO_9.out).2.1); rintro e w45 ⟨rfl, hy0, hb, hkp⟩; refine ⟨_, rfl, ?_⟩; refine zt4 (Kd.R_mono (ok' := fun k_ => (w.heap.size ≤ k_) ∧ some k_ ≠ (.slice Ao30 x10_1.length co30 : Value).ownBlock) (Kd.R_keptB (HO_4.out) hkp (fun k_ hk_ hs_ => (hk_.2) hs_)) (fun k_ hk_ => ⟨hk_.1.1, hk_.1.2⟩)) (Kd.V_mono (ok' := fun k_ => (w.heap.size ≤ k_) ∧ some k_ ≠ (.slice Ao36 x4_1.length co36 : Value).ownBlock ∧ some k_ ≠ (.slice Ao30 x10_1.length co30 : Value).ownBlock) (Kd.V_keptB (HO_9.out) hkp (fun k_ hk_ hs_ => (hk_.2.2) hs_)) (fun k_ hk_ => ⟨hk_.1.1, hk_.1.2.1, hk_.1.2.2⟩)) (Kd.R_reok rfl hy0 (fun k_ e_ => HO_10.out.1 k_ e_)) (hb) ?_; clear HO_4 HO_9 HO_10 HB; intro HO_4 HO_9 HO_10 HB; (try clear hb); (try clear hkp); (try clear hy0); have p43 : 0 ≤ (x12_1 : Int) := zq6; have q43 : (x12_1 : Int) < ((x4_1.length : Int) : Int) := zq6; obtain ⟨go43, co43, eo43, gb43, gl43, cl43, HG43⟩ := Kd.R_form HO_4.out (by omega); (first | cases eo43 | (injection eo43 with ea_ en_ ec_; (first | subst ea_ | (injection ea_ with ea_; subst ea_)); subst ec_; clear en_)); have GB43 := am gb43; have GG43 := am HG43; clear gb43 gl43 HG43; obtain ⟨hx43_0, hf43_0⟩ := Kd.R_celln 0 HO_4.out (x12_1 : Int) p43 q43; replace p43 := eq_true p43; replace q43 := eq_true q43; obtain ⟨hy46_, hz46_⟩ := Kd.R_celln 0 HO_4.out (x12_1 : Int) zq6 zq6; have HP46 := Kd.R_putg HO_4.out (x12_1 : Int) t207) | ((with_reducible refine gate_store (t := 55) (p := 78) rfl ?_); refine zstore (t := 55) (p := 78) (w1 := (w45.setCell ⟨go43, (x12_1 : Int).toNat, none⟩ (.int .u32 t207))) ?_; intro w47 hw; have hg : w45.grownBy w47 (some go43) := (by rw [hw]; exact HP46.2); have hp_ : Kd.R (Kd.int .u32) 55 w47 w.heap.size (fun k_ => (w.heap.size ≤ k_) ∧ some k_ ≠ (.slice Ao30 x10_1.length co30 : Value).ownBlock) (.slice (some ⟨go43, 0, none⟩) x4_1.length co36) y209 := (by rw [hw, Ny209.out]; exact HP46.1); clear HP46; refine zt4 (hp_) (Kd.V_afterv (v := (.slice (some ⟨go43, 0, none⟩) x4_1.length co36)) (v1 := (.slice (some ⟨go43, 0, none⟩) x4_1.length co36)) (ok := (fun k_ => (w.heap.size ≤ k_) ∧ some k_ ≠ (.slice Ao30 x10_1.length co30 : Value).ownBlock)) (zwV (h := by exact Kd.V_mono HO_9.out (fun _ hk => ⟨⟨hk.1, hk.2.2⟩, hk.2.1⟩))) hg (.inl rfl)) (Kd.R_after (v := (.slice (some ⟨go43, 0, none⟩) x4_1.length co36)) (v1 := (.slice (some ⟨go43, 0, none⟩) x4_1.length co36)) (ok := (fun k_ => (w.heap.size ≤ k_))) (zq4 HO_10.out) hg (.inl rfl)) ((by rw [hw]; exact below_set (HB.out) GB43.out : Below w.heap.size w w47)) ?_; clear HO_4 HO_9 HO_10 HB; intro HO_4 HO_9 HO_10 HB; clear hg hw hp_))
      (try simp only [← hl4_1, ← hl9_1, ← hl10_1])
      go_roundg k1
      case measure => have := HK1.out; omega
      case rel => exact ⟨(y209), (x9_1), (t208), (wrap64 (x12_1 - 1)), zq8, (by first | exact H' | (rw [hji13]; exact H') | (rw [hji18]; exact H') | (rw [hji23]; exact H')), ⟨by have := HK1.out; omega⟩, ⟨by (try simp only [hl4_1]); (try simp only [hl9_1]); (try simp only [hl10_1]); (with_reducible repeat (first | apply Kd.R_alloc | apply Kd.R_drewN | apply Kd.R_drew)); exact HO_4.out⟩, ⟨by (try simp only [hl4_1]); (try simp only [hl9_1]); (try simp only [hl10_1]); (with_reducible repeat (first | apply Kd.V_alloc | apply Kd.V_drewN | apply Kd.V_drew)); exact Kd.V_mono HO_9.out (fun _ hk => ⟨hk.1.1, ⟨hk.2, hk.1.2⟩⟩)⟩, ⟨by (try simp only [hl4_1]); (try simp only [hl9_1]); (try simp only [hl10_1]); (with_reducible repeat (first | apply Kd.R_alloc | apply Kd.R_drewN | apply Kd.R_drew)); exact HO_10.out⟩, ⟨zq1⟩⟩
     ·rw [if_neg c37] at H
      have c37b0 : decide (0 ≤ x12_1) = false := decide_eq_false c37
      clear c37
      replace H := zj H
      obtain ⟨t210, A48, H⟩ := H
      replace H : ((nat_Shr.f k1 t210 t188).bind fun bt213 => ((nat_Trim.f k1 x4_1).bind fun t217 => (some (t217, bt213.1)))) = some (r1, r2) := H
      replace H := zj H
      obtain ⟨⟨t213, t216⟩, A49, H⟩ := H
      replace H : ((nat_Trim.f k1 x4_1).bind fun t217 => (some (t217, t213))) = some (r1, r2) := H
      replace H := zj H
      obtain ⟨t217, A50, H⟩ := H
      replace H : (some (t217, t213)) = some (r1, r2) := H
      simp only [Option.some.injEq, Prod.mk.injEq] at H
      obtain ⟨rfl, rfl⟩ := H
      go_wp2_with (first | ((with_reducible refine gate_callee (f := 86) rfl ?_); refine goesL_ (some 81) rfl rfl Tryd.func86 (by kernel_rfl) rfl #[.slice Ao30 x10_1.length co30] rfl zq5 ?_; (with_reducible refine (nat_Trim.calls k1 (fun k_ => some k_ = (.slice Ao30 x10_1.length co30 : Value).ownBlock) _ _ x10_1 t210 _ ?side1 A48.out).mono ?_); (case side1 => exact Kd.R_V (Kd.R_tight rfl (HO_10.out))); rintro e w51 ⟨v211, rfl, ho0, hb⟩; refine ⟨_, rfl, ?_⟩; refine zt5 (rb HO_4 hb) (vb HO_9 hb) (rb HO_10 hb) (Kd.V_lower (Kd.V_mono (ok' := fun k_ => (w.heap.size ≤ k_) ∧ some k_ ≠ (.slice Ao36 x4_1.length co36 : Value).ownBlock) ho0 (fun k_ hk_ => ⟨Or.elim hk_ (fun hs_ => ((HO_10.out).1 k_ hs_.symm).1) (fun hn_ => (Nat.le_trans (below_size zq1) hn_)), Or.elim hk_ (fun hs_ => ((HO_10.out).1 k_ hs_.symm).2) (fun hn_ => (Kd.fresh' (Kd.R_lt (zq4 HO_4.out)) k_ hn_))⟩)) (below_size zq1)) (below_step zq1 hb) ?_; clear HO_4 HO_9 HO_10 HB; intro HO_4 HO_9 HO_10 HO212 HB; obtain ⟨Ao52, co52, eo52⟩ := Kd.V_slice HO212.out; subst eo52) | ((with_reducible refine gate_callee (f := 119) rfl ?_); refine goesL_ (some 83) rfl rfl Tryd.func119 (by kernel_rfl) rfl #[.slice Ao52 t210.length co52, .int .i64 t188] rfl zq5 ?_; (with_reducible refine (nat_Shr.calls k1 _ _ t210 t188 t213 t216 _ ?side1 ?side2 A49.out).mono ?_); (case side1 => exact zc ((Kd.V_reads' HO212.out).2.2)); (case side2 => exact (Kd.V_reads' HO212.out).2.1); rintro e w53 ⟨v214, rfl, ho0, hb⟩; refine ⟨_, rfl, ?_⟩; refine zt6 (rb HO_4 hb) (vb HO_9 hb) (rb HO_10 hb) (vb HO212 hb) (Kd.V_lower (Kd.V_mono (ok' := fun k_ => (w.heap.size ≤ k_) ∧ some k_ ≠ (.slice Ao36 x4_1.length co36 : Value).ownBlock ∧ some k_ ≠ (.slice Ao30 x10_1.length co30 : Value).ownBlock) ho0 (fun k_ hk_ => ⟨(Nat.le_trans (below_size zq1) hk_), (Kd.fresh' (Kd.R_lt (zq4 HO_4.out)) k_ hk_), (Kd.fresh' (Kd.R_lt (zq4 HO_10.out)) k_ hk_)⟩)) (below_size zq1)) (below_step zq1 hb) ?_; clear HO_4 HO_9 HO_10 HO212 HB; intro HO_4 HO_9 HO_10 HO212 HO215 HB) | ((with_reducible refine gate_callee (f := 86) rfl ?_); refine goesL_ (some 87) rfl rfl Tryd.func86 (by kernel_rfl) rfl #[.slice Ao36 x4_1.length co36] rfl zq5 ?_; (with_reducible refine (nat_Trim.calls k1 (fun k_ => some k_ = (.slice Ao36 x4_1.length co36 : Value).ownBlock) _ _ x4_1 t217 _ ?side1 A50.out).mono ?_); (case side1 => exact Kd.R_V (Kd.R_tight rfl (HO_4.out))); rintro e w54 ⟨v218, rfl, ho0, hb⟩; refine ⟨_, rfl, ?_⟩; refine zt7 (rb HO_4 hb) (vb HO_9 hb) (rb HO_10 hb) (vb HO212 hb) (vb HO215 hb) (Kd.V_lower (Kd.V_mono (ok' := fun k_ => (w.heap.size ≤ k_) ∧ some k_ ≠ (.slice Ao30 x10_1.length co30 : Value).ownBlock) ho0 (fun k_ hk_ => ⟨Or.elim hk_ (fun hs_ => ((HO_4.out).1 k_ hs_.symm).1) (fun hn_ => (Nat.le_trans (below_size zq1) hn_)), Or.elim hk_ (fun hs_ => ((HO_4.out).1 k_ hs_.symm).2) (fun hn_ => (Kd.fresh' (Kd.R_lt (zq4 HO_10.out)) k_ hn_))⟩)) (below_size zq1)) (below_step zq1 hb) ?_; clear HO_4 HO_9 HO_10 HO212 HO215 HB; intro HO_4 HO_9 HO_10 HO212 HO215 HO219 HB))
      go_ret2
      exact ⟨_, _, by first | rfl | (simp [errW_none, errW_some] <;> rfl) | (simp only [← hji13, ← hji18, ← hji23]; first | rfl | (simp [errW_none, errW_some] <;> rfl)) | (simp [*, errW_none, errW_some] <;> rfl), zwV (h := by exact Kd.V_mono HO219.out (fun _ hk => hk.1)), zwV (h := by exact Kd.V_mono HO215.out (fun _ hk => hk.1)), zq1⟩
def nat_Gcd.l0 : Nat → List Int → List Int → Option (List Int)
 | 0, _, _ => none
 | k + 1, x0, x1 => if (x1.length : Int) > 0 then ((nat_DivMod.f k x0 x1).bind fun bt220 => (nat_Gcd.l0 k x1 bt220.2)) else ((slices_Clone_uint32_uint32.f x0).bind fun t226 => (some t226))
def nat_Gcd.f (k : Nat) (l0 : List Int) (l1 : List Int) : Option (List Int) := nat_Gcd.l0 k l0 l1
theorem nat_Gcd.mono_l : ∀ k, (∀ y0 y1, LeO (nat_Gcd.l0 k y0 y1) (nat_Gcd.l0 (k + 1) y0 y1))
 | 0 => fun _ _ r h => by simp [nat_Gcd.l0] at h
 | k + 1 => by
  have ih0 := nat_Gcd.mono_l k
  ·intro y0 y1
   unfold nat_Gcd.l0
   have m0 := ih0
   have m1 := @nat_DivMod.mono
   exact zm
theorem nat_Gcd.mono : ∀ a0 a1 k, LeO (nat_Gcd.f k a0 a1) (nat_Gcd.f (k + 1) a0 a1) := by
 intro a0 a1 k
 have ih0 := nat_Gcd.mono_l k
 unfold nat_Gcd.f
 have m0 := ih0
 have m1 := @nat_DivMod.mono
 exact zm
set_option maxHeartbeats 8000000 in
set_option maxRecDepth 100000 in
theorem nat_Gcd.calls (k : Nat) (P0_ : Nat → Prop) (A0 : Option Addr) (c0 : Nat) (l0 : List Int) (P1_ : Nat → Prop) (A1 : Option Addr) (c1 : Nat) (l1 : List Int) (r : List Int) (w : World) (hs0 : Kd.V (Kd.int .u32) 55 w w.heap.size (fun k_ => P0_ k_) (.slice A0 l0.length c0) l0) (hs1 : Kd.V (Kd.int .u32) 55 w w.heap.size (fun k_ => P1_ k_) (.slice A1 l1.length c1) l1) (h : nat_Gcd.f k l0 l1 = some r) :
  Calls Tryd.prog 44 #[.slice A0 l0.length c0, .slice A1 l1.length c1] w fun e w' => ∃ v0_ : Value, e = .returned (v0_) ∧ Kd.R (Kd.int .u32) 55 w' w.heap.size (fun k_ => (w.heap.size ≤ k_)) v0_ r ∧ Below w.heap.size w w' := by
 have HO0 := am (show Kd.V (Kd.int .u32) 55 w w.heap.size (fun k_ => ((P0_ k_ ∨ P1_ k_) ∨ w.heap.size ≤ k_)) (.slice A0 l0.length c0) l0 from Kd.V_mono hs0 (fun k_ hk => .inl (.inl hk)))
 have HO1 := am (show Kd.V (Kd.int .u32) 55 w w.heap.size (fun k_ => ((P0_ k_ ∨ P1_ k_) ∨ w.heap.size ≤ k_)) (.slice A1 l1.length c1) l1 from Kd.V_mono hs1 (fun k_ hk => .inl (.inr hk)))
 have HB := am (Below.refl w.heap.size w)
 have H := h
 unfold nat_Gcd.f at H
 clear h
 have H' := am H
 clear H
 go_enter Tryd.func44, Tryd.ntmps44
 go_wp2
 go_loopg [0, 1] k (fun kq v0 v1 w' => ∃ (x0_1 : List Int) (x1_1 : List Int), Aside0 (nat_Gcd.l0 kq x0_1 x1_1 = some r) ∧ Aside0 (kq ≤ k) ∧ Aside0 (Kd.V (Kd.int .u32) 55 w' w.heap.size (fun k_ => ((P0_ k_ ∨ P1_ k_) ∨ w.heap.size ≤ k_)) v0 x0_1) ∧ Aside0 (Kd.V (Kd.int .u32) 55 w' w.heap.size (fun k_ => ((P0_ k_ ∨ P1_ k_) ∨ w.heap.size ≤ k_)) v1 x1_1) ∧ Aside0 (Below w.heap.size w w'))
 case atStart => exact ⟨(l0), (l1), H', ⟨Nat.le_refl _⟩, ⟨zq3 HO0.out⟩, ⟨zq3 HO1.out⟩, ⟨zq1⟩⟩
 case round =>
  clear H'
  obtain ⟨x0_1, x1_1, HA, HK1, HO_0, HO_1, HB⟩ := hrel
  cases gk with
  | zero => exact absurd HA.out (by simp [nat_Gcd.l0])
  | succ k1 =>
   have H := HA.out
   clear HA
   simp only [nat_Gcd.l0] at H
   by_cases c3 : (x1_1.length : Int) > 0
   ·rw [if_pos c3] at H
    have c3b0 : decide (0 < (x1_1.length : Int)) = true := decide_eq_true c3
    have c3b1 : decide (0 < x1_1.length) = true := decide_eq_true (by omega)
    clear c3
    replace H := zj H
    obtain ⟨⟨t220, t223⟩, A4, H⟩ := H
    try dsimp only at H
    have H' := am H
    clear H
    obtain ⟨Ao5, co5, eo5⟩ := Kd.V_slice HO_1.out
    subst eo5
    obtain ⟨Ao6, co6, eo6⟩ := Kd.V_slice HO_0.out
    subst eo6
    go_wp2_with (first | ((with_reducible refine gate_callee (f := 94) rfl ?_); refine goesL_ (some 13) rfl rfl Tryd.func94 (by kernel_rfl) rfl #[.slice Ao6 x0_1.length co6, .slice Ao5 x1_1.length co5] rfl zq5 ?_; (with_reducible refine (nat_DivMod.calls k1 _ _ x0_1 _ _ x1_1 t220 t223 _ ?side1 ?side2 ?side3 ?side4 A4.out).mono ?_); (case side1 => exact zc ((Kd.V_reads' HO_0.out).2.2)); (case side2 => exact (Kd.V_reads' HO_0.out).2.1); (case side3 => exact zc ((Kd.V_reads' HO_1.out).2.2)); (case side4 => exact (Kd.V_reads' HO_1.out).2.1); rintro e w7 ⟨v221, v224, rfl, ho0, ho1, hb⟩; refine ⟨_, rfl, ?_⟩; refine zt5 (vb HO_0 hb) (vb HO_1 hb) (Kd.V_lower (Kd.V_mono (ok' := fun k_ => ((P0_ k_ ∨ P1_ k_) ∨ w.heap.size ≤ k_)) ho0 (fun k_ hk_ => (.inr (Nat.le_trans (below_size zq1) hk_)))) (below_size zq1)) (Kd.V_lower (Kd.V_mono (ok' := fun k_ => ((P0_ k_ ∨ P1_ k_) ∨ w.heap.size ≤ k_)) ho1 (fun k_ hk_ => (.inr (Nat.le_trans (below_size zq1) hk_)))) (below_size zq1)) (below_step zq1 hb) ?_; clear HO_0 HO_1 HB; intro HO_0 HO_1 HO222 HO225 HB; (try clear ho1)))
    go_roundg k1
    case measure => have := HK1.out; omega
    case rel => exact ⟨(x1_1), (t223), H', ⟨by have := HK1.out; omega⟩, ⟨zq3 HO_1.out⟩, ⟨zq3 HO225.out⟩, ⟨zq1⟩⟩
   ·rw [if_neg c3] at H
    have c3b0 : decide (0 < (x1_1.length : Int)) = false := decide_eq_false c3
    have c3b1 : decide (0 < x1_1.length) = false := decide_eq_false (by omega)
    clear c3
    replace H := zj H
    obtain ⟨t226, A8, H⟩ := H
    obtain rfl := Option.some.inj H
    obtain ⟨Ao9, co9, eo9⟩ := Kd.V_slice HO_1.out
    subst eo9
    obtain ⟨Ao10, co10, eo10⟩ := Kd.V_slice HO_0.out
    subst eo10
    go_wp2_with (first | ((with_reducible refine gate_callee (f := 95) rfl ?_); refine goesL_ (some 19) rfl rfl Tryd.func95 (by kernel_rfl) rfl #[.slice Ao10 x0_1.length co10] rfl zq5 ?_; (with_reducible refine (slices_Clone_uint32_uint32.calls _ _ x0_1 t226 _ ?side1 ?side2 A8.out).mono ?_); (case side1 => exact zc ((Kd.V_reads' HO_0.out).2.2)); (case side2 => exact (Kd.V_reads' HO_0.out).2.1); rintro e w11 ⟨v227, rfl, ho0, hb⟩; refine ⟨_, rfl, ?_⟩; refine zt4 (Kd.V_elder' (zq3 HO_0.out) (Kd.R_base ho0) hb) (Kd.V_elder' (zq3 HO_1.out) (Kd.R_base ho0) hb) (Kd.R_lower (Kd.R_newM (M := fun k_ => (w.heap.size ≤ k_)) ho0 (below_size zq1) (fun k_ h_ => h_)) (below_size zq1)) (below_step zq1 hb) ?_; clear HO_0 HO_1 HB; intro HO_0 HO_1 HO228 HB))
    go_ret
    exact ⟨_, zq9, zwR (h := by exact Kd.R_mono HO228.out (fun _ hk => hk.1)), zq1⟩
end Go.Proofs.YtemnjgkicndmjaaDoor.Q
