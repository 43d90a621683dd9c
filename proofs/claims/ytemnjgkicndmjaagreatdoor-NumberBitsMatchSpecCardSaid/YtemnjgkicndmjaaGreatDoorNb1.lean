/- What this text proves: a part of the walk and of the plain laws of one card; no conditions. -/
import Derived.Test.YtemnjgkicndmjaaGreatDoorNb0
import Derived.Shelf.Strings.SlTrimAscii
import Derived.Shelf.Small.Strs
import Derived.Shelf.Strings.Search2
import Derived.Test.YtemnjgkicndmjaaGreatDoorProg
import Derived.Laws.IdiomCopy
import Derived.Lib.SliceRun
import Derived.Below
import Derived.Deep.Draws
import Derived.Deep.AppendLies
import Derived.Maps.AppendAt
import Derived.OwnWalk
import Derived.Laws.BytesArg
import Derived.Laws.MakeOwn
import Derived.Laws.OwnMore
import Derived.Deep.OwnRows
import Derived.Tactics
import Derived.Lib.ConvBytes
import Derived.Laws.Slices
import Derived.WalkKit
import Derived.KernelRfl
import Derived.RowKit3
import Derived.Deep.LoopGhost
import Derived.Deep.QuietTactic
import Derived.BigQuiet
import Derived.WideLaws
import Derived.Deep.DeepCutAuto
import Derived.Deep.CutBlock
import Derived.Deep.RegionHeld3
import Derived.Laws.Rows
import Derived.Lib.AppendStr
import Derived.ArgAppend
import Derived.OrdersHeld
import Derived.Laws.BitsLemmas
import Derived.RowKit
namespace Go.Proofs
open Go.Shelf
def Tryz.lays160_ren : Go.Shelf.Ren := ⟨fun | 160 => 101 | 232 => 106 | 231 => 105 | 227 => 107 | 234 => 109 | 233 => 108 | 236 => 111 | 235 => 110 | 228 => 115 | 271 => 118 | 151 => 117 | 197 => 116 | 120 => 122 | 152 => 121 | 260 => 120 | 137 => 32 | 119 => 123 | 224 => 113 | 225 => 112 | 217 => 69 | 266 => 98 | n => n, fun | 9 => 9 | 4 => 4 | 3 => 3 | 5 => 5 | 117 => 123 | 116 => 122 | 0 => 0 | 124 => 126 | 21 => 21 | 105 => 128 | 46 => 81 | 119 => 134 | 139 => 137 | 138 => 136 | n => n, fun | 3 => 1 | 4 => 2 | n => n⟩
theorem Tryz.lays160 : Go.Proofs.Lays.n160 Tryz.prog Tryz.lays160_ren := {
  mixed := by kernel_rfl
  f119 := Tryz.func123.trans (congrArg some (by kernel_rfl))
  f120 := Tryz.func122.trans (congrArg some (by kernel_rfl))
  f137 := Tryz.func32.trans (congrArg some (by kernel_rfl))
  f151 := Tryz.func117.trans (congrArg some (by kernel_rfl))
  f152 := Tryz.func121.trans (congrArg some (by kernel_rfl))
  f160 := Tryz.func101.trans (congrArg some (by kernel_rfl))
  f197 := Tryz.func116.trans (congrArg some (by kernel_rfl))
  f217 := Tryz.func69.trans (congrArg some (by kernel_rfl))
  f224 := Tryz.func113.trans (congrArg some (by kernel_rfl))
  f225 := Tryz.func112.trans (congrArg some (by kernel_rfl))
  f227 := Tryz.func107.trans (congrArg some (by kernel_rfl))
  f228 := Tryz.func115.trans (congrArg some (by kernel_rfl))
  f231 := Tryz.func105.trans (congrArg some (by kernel_rfl))
  f232 := Tryz.func106.trans (congrArg some (by kernel_rfl))
  f233 := Tryz.func108.trans (congrArg some (by kernel_rfl))
  f234 := Tryz.func109.trans (congrArg some (by kernel_rfl))
  f235 := Tryz.func110.trans (congrArg some (by kernel_rfl))
  f236 := Tryz.func111.trans (congrArg some (by kernel_rfl))
  f260 := Tryz.func120.trans (congrArg some (by kernel_rfl))
  f266 := Tryz.func98.trans (congrArg some (by kernel_rfl))
  f271 := Tryz.func118.trans (congrArg some (by kernel_rfl))
  t0 := Tryz.underlying0
  a0 := Tryz.isAgg0
  z0 := Tryz.sizeOf0
  v0 := Tryz.zeroValue0
  t3 := Tryz.underlying3
  a3 := Tryz.isAgg3
  z3 := Tryz.sizeOf3
  v3 := Tryz.zeroValue3
  t4 := Tryz.underlying4
  a4 := Tryz.isAgg4
  z4 := Tryz.sizeOf4
  v4 := Tryz.zeroValue4
  t5 := Tryz.underlying5
  a5 := Tryz.isAgg5
  z5 := Tryz.sizeOf5
  v5 := Tryz.zeroValue5
  t9 := Tryz.underlying9
  a9 := Tryz.isAgg9
  z9 := Tryz.sizeOf9
  v9 := Tryz.zeroValue9
  t21 := Tryz.underlying21
  a21 := Tryz.isAgg21
  z21 := Tryz.sizeOf21
  v21 := Tryz.zeroValue21
  t46 := Tryz.underlying81
  a46 := Tryz.isAgg81
  z46 := Tryz.sizeOf81
  v46 := Tryz.zeroValue81
  t105 := Tryz.underlying128
  a105 := Tryz.isAgg128
  z105 := Tryz.sizeOf128
  v105 := Tryz.zeroValue128
  t116 := Tryz.underlying122
  a116 := Tryz.isAgg122
  z116 := Tryz.sizeOf122
  t117 := Tryz.underlying123
  a117 := Tryz.isAgg123
  z117 := Tryz.sizeOf123
  v117 := Tryz.zeroValue123
  t119 := Tryz.underlying134
  a119 := Tryz.isAgg134
  z119 := Tryz.sizeOf134
  t124 := Tryz.underlying126
  a124 := Tryz.isAgg126
  z124 := Tryz.sizeOf126
  v124 := Tryz.zeroValue126
  t138 := Tryz.underlying136
  a138 := Tryz.isAgg136
  z138 := Tryz.sizeOf136
  v138 := Tryz.zeroValue136
  t139 := Tryz.underlying137
  a139 := Tryz.isAgg137
  z139 := Tryz.sizeOf137
  v139 := Tryz.zeroValue137
  g3 := by kernel_rfl
  g4 := by kernel_rfl }
def Tryz.lays137_ren : Go.Shelf.Ren := ⟨fun | 137 => 32 | 217 => 69 | 266 => 98 | n => n, fun | 9 => 9 | 5 => 5 | 3 => 3 | n => n, fun | n => n⟩
theorem Tryz.lays137 : Go.Proofs.Lays.n137 Tryz.prog Tryz.lays137_ren := {
  mixed := by kernel_rfl
  f137 := Tryz.func32.trans (congrArg some (by kernel_rfl))
  f217 := Tryz.func69.trans (congrArg some (by kernel_rfl))
  f266 := Tryz.func98.trans (congrArg some (by kernel_rfl))
  t3 := Tryz.underlying3
  a3 := Tryz.isAgg3
  z3 := Tryz.sizeOf3
  v3 := Tryz.zeroValue3
  t5 := Tryz.underlying5
  a5 := Tryz.isAgg5
  z5 := Tryz.sizeOf5
  v5 := Tryz.zeroValue5
  t9 := Tryz.underlying9
  a9 := Tryz.isAgg9
  z9 := Tryz.sizeOf9
  v9 := Tryz.zeroValue9 }
def Tryz.lays219_ren : Go.Shelf.Ren := ⟨fun | 219 => 104 | 217 => 69 | 225 => 112 | 224 => 113 | 267 => 114 | 266 => 98 | 314 => 119 | n => n, fun | 9 => 9 | 3 => 3 | 4 => 4 | 5 => 5 | 46 => 81 | 146 => 131 | 51 => 73 | n => n, fun | 1 => 0 | n => n⟩
theorem Tryz.lays219 : Go.Proofs.Lays.n219 Tryz.prog Tryz.lays219_ren := {
  mixed := by kernel_rfl
  f217 := Tryz.func69.trans (congrArg some (by kernel_rfl))
  f219 := Tryz.func104.trans (congrArg some (by kernel_rfl))
  f224 := Tryz.func113.trans (congrArg some (by kernel_rfl))
  f225 := Tryz.func112.trans (congrArg some (by kernel_rfl))
  f266 := Tryz.func98.trans (congrArg some (by kernel_rfl))
  f267 := Tryz.func114.trans (congrArg some (by kernel_rfl))
  f314 := Tryz.func119.trans (congrArg some (by kernel_rfl))
  t3 := Tryz.underlying3
  a3 := Tryz.isAgg3
  z3 := Tryz.sizeOf3
  v3 := Tryz.zeroValue3
  t4 := Tryz.underlying4
  a4 := Tryz.isAgg4
  z4 := Tryz.sizeOf4
  v4 := Tryz.zeroValue4
  t5 := Tryz.underlying5
  a5 := Tryz.isAgg5
  z5 := Tryz.sizeOf5
  v5 := Tryz.zeroValue5
  t9 := Tryz.underlying9
  a9 := Tryz.isAgg9
  z9 := Tryz.sizeOf9
  v9 := Tryz.zeroValue9
  t46 := Tryz.underlying81
  a46 := Tryz.isAgg81
  z46 := Tryz.sizeOf81
  v46 := Tryz.zeroValue81
  t51 := Tryz.underlying73
  a51 := Tryz.isAgg73
  z51 := Tryz.sizeOf73
  v51 := Tryz.zeroValue73
  t146 := Tryz.underlying131
  a146 := Tryz.isAgg131
  z146 := Tryz.sizeOf131
  v146 := Tryz.zeroValue131
  g1 := by kernel_rfl }
end Go.Proofs
namespace Go.Proofs.YtemnjgkicndmjaaGreatDoor.Q
open Go.RowKit Go.Proofs.YtemnjgkicndmjaaGreatDoorW.PrintWords Go.Proofs.YtemnjgkicndmjaaGreatDoorW.PrintLast Go.Proofs.YtemnjgkicndmjaaGreatDoorW.PrintMore
set_option linter.unusedVariables false
def Wd (pr po : List Int) (n cap : Nat) (k : IntKind) (e : Nat) (w : World) (base : Nat) (ok : Nat → Prop) (v : Value) (xs : List Int) : Prop :=
  ∃ g c, v = .slice (some ⟨g, pr.length, none⟩) xs.length c ∧ (Kd.int k).R e w base ok (.slice (some ⟨g, 0, none⟩) n cap) (pr ++ xs ++ po)
section
variable {pr po : List Int} {n0 cap0 : Nat} {k : IntKind} {e : Nat} {w w' : World} {base m : Nat} {ok ok' : Nat → Prop} {v : Value} {xs : List Int}
theorem Wd_mono (h : Wd pr po n0 cap0 k e w base ok v xs) (hok : ∀ j, ok j → ok' j) : Wd pr po n0 cap0 k e w base ok' v xs := by
  obtain ⟨g, c, h1, h2⟩ := h
  exact ⟨g, c, h1, Kd.R_mono h2 hok⟩
theorem Wd_alloc {o : Obj} (h : Wd pr po n0 cap0 k e w base ok v xs) : Wd pr po n0 cap0 k e (w.alloc o) base ok v xs := by
  obtain ⟨g, c, h1, h2⟩ := h
  exact ⟨g, c, h1, Kd.R_alloc h2 _⟩
theorem Wd_drewN {j : Nat} (h : Wd pr po n0 cap0 k e w base ok v xs) : Wd pr po n0 cap0 k e (w.drewN j) base ok v xs := by
  obtain ⟨g, c, h1, h2⟩ := h
  exact ⟨g, c, h1, Kd.R_drewN h2 _⟩
theorem Wd_drew (h : Wd pr po n0 cap0 k e w base ok v xs) : Wd pr po n0 cap0 k e w.drew base ok v xs := by
  obtain ⟨g, c, h1, h2⟩ := h
  exact ⟨g, c, h1, Kd.R_drew h2⟩
theorem Wd_at (hq : w.drewN m = w') (h : Wd pr po n0 cap0 k e w base ok v xs) : Wd pr po n0 cap0 k e w' base ok v xs := by subst hq; exact Wd_drewN h
theorem Wd_slice (h : Wd pr po n0 cap0 k e w base ok v xs) : ∃ A c, v = .slice A xs.length c := by
  obtain ⟨g, c, h1, h2⟩ := h
  exact ⟨_, c, h1⟩
theorem addr_win (g p i : Nat) : (⟨g, p, none⟩ : Addr).add i = ⟨g, p + i, none⟩ := by unfold Addr.add; split <;> simp_all
theorem Wd_reads' {A : Option Addr} {n c : Nat} (h : Wd pr po n0 cap0 k e w base ok (.slice A n c) xs) : n = xs.length ∧ True ∧ (Kd.int k).C w A xs.length xs := by
  obtain ⟨g, c, h1, h2⟩ := h
  injection h1 with h3 h4 h5
  subst h3
  refine ⟨h4, trivial, ?_⟩
  obtain ⟨-, -, hl, hm, hc⟩ := Kd.R_reads' h2
  refine ⟨rfl, by simp at hm; omega, fun hp => ⟨_, rfl, fun j p hj => ?_⟩⟩
  obtain ⟨ad, ha, hr⟩ := hc (by simp; omega)
  injection ha with ha
  subst ha
  have hj' : j < xs.length := (List.getElem?_eq_some_iff.1 hj).1
  obtain ⟨cs, q1, q2, q3⟩ := hr (pr.length + j) p (by rw [List.append_assoc, List.getElem?_append_right (by omega), List.getElem?_append_left (by omega), Nat.add_sub_cancel_left]; exact hj)
  refine ⟨cs, q1, q2, fun i u hu => ?_⟩
  have := q3 i u hu
  have hs : (Kd.int k).sz = 1 := rfl
  rw [addr_win] at this ⊢
  rw [hs, Nat.mul_one] at this ⊢
  rwa [Nat.zero_add, Nat.add_assoc] at this
theorem Wd_blk {ad : Addr} {n c : Nat} (h : Wd pr po n0 cap0 k e w base ok (.slice (some ad) n c) xs) : base ≤ ad.block := by
  obtain ⟨g, c, h1, h2⟩ := h
  injection h1 with h3 h4 h5
  injection h3 with h3
  subst h3
  exact Kd.R_base h2 g rfl
theorem Wd_ok {ad : Addr} {n c : Nat} (h : Wd pr po n0 cap0 k e w base ok (.slice (some ad) n c) xs) : ok ad.block := by
  obtain ⟨g, c, h1, h2⟩ := h
  injection h1 with h3 h4 h5
  injection h3 with h3
  subst h3
  exact h2.1 g rfl
theorem Wd_celln (d : Int) {ad : Addr} {n c : Nat} (h : Wd pr po n0 cap0 k e w base ok (.slice (some ad) n c) xs) (i : Int) (h0 : 0 ≤ i) (hi : i < n) : w.cell? (ad.add i.toNat) = some (.int k (rdOf d xs i)) ∧ w.frozen? (ad.add i.toNat) = false := by
  obtain ⟨g, c, h1, h2⟩ := h
  injection h1 with h3 h4 h5
  injection h3 with h3
  subst h3 h4
  obtain ⟨hl, -, -⟩ := Kd.R_reads' h2
  have h6 := Kd.R_celln d h2 ((pr.length : Int) + i) (by omega) (by rw [hl]; simp; omega)
  rw [show ((pr.length : Int) + i).toNat = pr.length + i.toNat by omega] at h6
  rw [addr_win]
  refine ⟨h6.1.trans ?_, h6.2⟩
  congr 2
  unfold rdOf
  rw [show ((pr.length : Int) + i).toNat = pr.length + i.toNat by omega, List.getD_eq_getElem?_getD, List.append_assoc, List.getElem?_append_right (by omega), List.getElem?_append_left (by omega), Nat.add_sub_cancel_left, List.getD_eq_getElem?_getD]
theorem Wd_putg {ad : Addr} {n c : Nat} (h : Wd pr po n0 cap0 k e w base ok (.slice (some ad) n c) xs) (i x : Int) (h0 : 0 ≤ i) (hi : i < xs.length) : Wd pr po n0 cap0 k e (w.setCell (ad.add i.toNat) (.int k x)) base ok (.slice (some ad) n c) (xs.set i.toNat x) ∧ w.grownBy (w.setCell (ad.add i.toNat) (.int k x)) (some ad.block) := by
  obtain ⟨g, c, h1, h2⟩ := h
  injection h1 with h3 h4 h5
  injection h3 with h3
  subst h3 h4 h5
  have h6 := Kd.R_putg h2 ((pr.length : Int) + i) x
  rw [show ((pr.length : Int) + i).toNat = pr.length + i.toNat by omega] at h6
  rw [addr_win]
  refine ⟨⟨g, _, by rw [List.length_set], ?_⟩, h6.2⟩
  have e1 : (pr ++ xs ++ po).set (pr.length + i.toNat) x = pr ++ xs.set i.toNat x ++ po := by
    rw [List.append_assoc, List.set_append_right _ _ (by omega), Nat.add_sub_cancel_left, List.set_append_left _ _ (by omega), List.append_assoc]
  rw [← e1]
  exact h6.1
theorem block_add (a : Addr) (i : Nat) : (a.add i).block = a.block := by unfold Addr.add; split <;> rfl
theorem below_setW {w0 W : World} {a : Addr} {i : Nat} {v : Value} (h : Below w0.heap.size w0 W) (hg : w0.heap.size ≤ a.block) : Below w0.heap.size w0 (W.setCell (a.add i) v) := h.setCell (by rw [block_add]; exact hg) _
theorem win_start {A0 : Option Addr} {l0 : List Int} (h : (Kd.int k).R e w base ok (.slice A0 n0 cap0) l0) (a b : Int) (h0 : 0 ≤ a) (h1 : a < b) (h2 : b ≤ l0.length) {AW : Option Addr} (hA : AW = if cap0 = a.toNat then A0 else A0.map (·.add (a.toNat * 1))) {y : List Int} (hy : y = (l0.take b.toNat).drop a.toNat) (cW : Nat) :
    ∃ g, A0 = some ⟨g, 0, none⟩ ∧ AW = some ⟨g, (l0.take a.toNat).length, none⟩ ∧ Wd (l0.take a.toNat) (l0.drop b.toNat) n0 cap0 k e w base ok (.slice AW y.length cW) y := by
  have hl0 : l0 = l0.take a.toNat ++ y ++ l0.drop b.toNat := by
    rw [hy]
    have e1 : l0.take a.toNat = (l0.take b.toNat).take a.toNat := by rw [List.take_take, Nat.min_eq_left (by omega)]
    rw [e1, List.take_append_drop, List.take_append_drop]
  obtain ⟨g, cap, he, -⟩ := Kd.R_form h (by omega)
  injection he with q1 q2 q3
  subst q1
  obtain ⟨q4, q5, -⟩ := Kd.R_reads' h
  rw [if_neg (by omega)] at hA
  subst hA
  have e2 : (l0.take a.toNat).length = a.toNat := by rw [List.length_take, Nat.min_eq_left (by omega)]
  refine ⟨g, rfl, by rw [e2]; simp [addr_win], g, cW, by rw [e2]; simp [addr_win], ?_⟩
  rw [← hl0]; exact h
theorem win_end {g p nW cW : Nat} {y : List Int} (h2 : Wd pr po n0 cap0 k e w' base ok (.slice (some ⟨g, p, none⟩) nW cW) y) : (Kd.int k).R e w' base ok (.slice (some ⟨g, 0, none⟩) n0 cap0) (pr ++ y ++ po) := by
  obtain ⟨g', c, h3, h4⟩ := h2
  injection h3 with h5 h6 h7
  injection h5 with h5
  injection h5 with h5
  subst h5
  exact h4
end
def CopyCalls (P : Program) (t : TypeId) (args : Array Value) (w : World) (Q : Ending → World → Prop) : Prop := ∀ ty, ∃ v w', (Builtin.copy_ #[t, t] ty args).run P w = .ok v w' ∧ Q (.returned v) w'
theorem CopyCalls.mono {P : Program} {t : TypeId} {args : Array Value} {w : World} {Q Q' : Ending → World → Prop} (h : CopyCalls P t args w Q) (k : ∀ e w', Q e w' → Q' e w') : CopyCalls P t args w Q' := fun ty => by
  obtain ⟨v, w', h1, h2⟩ := h ty
  exact ⟨v, w', h1, k _ _ h2⟩
theorem copyL_ {P : Program} {ops : Array Oper} {Q : Exit → Act → World → Prop} {rest : List Oper} {oi : Oper} {a : Act} {w : World} (N : Option Tmp) (hd : oi.dst = N) (hg : oi.guard = none) {t : TypeId} {ops_ : Array Operand} (args : Array Value)
    (hop : oi.op = .call { callee := .builtin .copy, args := ops_, argTypes := #[t, t] }) (hargs : ops_.map a.eval = args)
    (h : CopyCalls P t args w fun e w' => ∃ v, e = .returned v ∧ wpList P ops Q rest (a.put N v) w') : wpList P ops Q (oi :: rest) a w := by
  refine wpList_plain hg fun K hK => ?_
  obtain ⟨v, w', hrun, v2, he, hk⟩ := h oi.type
  injection he with he
  subst he hd
  unfold Oper.wp
  simp only [execOp, hop, resolve, invoke, builtin, Sem.run_bind, Sem.run_pure, Result.andThen_ok, hargs, hrun]
  exact hK _ _ hk
theorem setCells_R {k : IntKind} {e : Nat} {base n cap g : Nat} {ok : Nat → Prop} : ∀ (ys : List Int) (i : Nat) (xs : List Int) (W : World), (Kd.int k).R e W base ok (.slice (some ⟨g, 0, none⟩) n cap) xs → i + ys.length ≤ xs.length →
    (Kd.int k).R e (W.setCells g i (nums k ys)) base ok (.slice (some ⟨g, 0, none⟩) n cap) (xs.take i ++ ys ++ xs.drop (i + ys.length))
  | [], i, xs, W, h, _ => by simpa [World.setCells, nums] using h
  | y :: ys, i, xs, W, h, hl => by
    have h1 := (Kd.R_putg h (i : Int) y).1
    rw [Int.toNat_natCast] at h1
    have h2 := setCells_R ys (i + 1) (xs.set i y) (W.setCell ⟨g, i, none⟩ (.int k y)) h1 (by simp at hl ⊢; omega)
    have e1 : (xs.set i y).take (i + 1) ++ ys ++ (xs.set i y).drop (i + 1 + ys.length) = xs.take i ++ (y :: ys) ++ xs.drop (i + (y :: ys).length) := by
      have hl' : i < xs.length := by simp at hl; omega
      obtain ⟨ps, q, qs, rfl, rfl⟩ : ∃ ps q qs, xs = ps ++ q :: qs ∧ ps.length = i := ⟨xs.take i, xs[i], xs.drop (i + 1), by rw [← List.drop_eq_getElem_cons hl', List.take_append_drop], by simp; omega⟩
      simp [List.take_append, List.drop_append, Nat.add_assoc, Nat.add_comm 1]
      exact List.take_of_length_le (by omega)
    rw [e1] at h2
    exact h2
theorem setCells_below {g : Nat} {w0 : World} (hg : w0.heap.size ≤ g) : ∀ (vs : List Value) (i : Nat) (W : World), Below w0.heap.size w0 W → Below w0.heap.size w0 (W.setCells g i vs)
  | [], _, _, h => h
  | v :: vs, i, W, h => setCells_below hg vs (i + 1) _ (below_set h hg)
theorem setCells_kept {g : Nat} {w : World} {S : Nat → Prop} (hg : S g) : ∀ (vs : List Value) (i : Nat) (W : World), Kept w W S → Kept w (W.setCells g i vs) S
  | [], _, _, h => h
  | v :: vs, i, W, h => setCells_kept hg vs (i + 1) _ (Kept.setCell h (.inl hg) _)
theorem copy_calls_any {P : Program} {k : IntKind} {e T : Nat} (hT : P.underlying T = some (.slice e)) (hz : (P.info? e).map (·.size) = some 1) (P0_ : Nat → Prop) (u : Value) (l0 : List Int) (A1 : Option Addr) (c1 : Nat) (l1 : List Int) (w0 w : World)
    (hB : Below w0.heap.size w0 w) (ho0 : Kd.R (Kd.int k) e w w0.heap.size P0_ u l0) (hr1 : ∀ W_, Kept w W_ (fun k_ => P0_ k_) → Kd.C (Kd.int k) W_ A1 l1.length l1) :
    CopyCalls P T #[u, .slice A1 l1.length c1] w fun en w' => en = .returned (.int .i64 (mn (l0.length : Int) (l1.length : Int))) ∧ Kd.R (Kd.int k) e w' w0.heap.size (fun k_ => (P0_ k_ ∨ w.heap.size ≤ k_)) u (l1.take l0.length ++ l0.drop l1.length) ∧ Below w0.heap.size w0 w' ∧ Kept w w' (fun k_ => P0_ k_) := by
  intro ty
  have hmin : Nat.min l1.length l0.length = min l1.length l0.length := rfl
  have e0 : mn (l0.length : Int) (l1.length : Int) = ((Nat.min l1.length l0.length : Nat) : Int) := by unfold mn; split <;> omega
  by_cases hn : Nat.min l1.length l0.length = 0
  · obtain ⟨A0, c0, rfl⟩ := Kd.R_slice ho0
    refine ⟨_, w, run_copy_none w T T ty e A0 A1 l0.length c0 l1.length c1 hT hz hn, ?_, ?_, hB, Kept.refl _ _⟩
    · rw [e0, hn]; rfl
    · have e1 : l1.take l0.length ++ l0.drop l1.length = l0 := by
        rcases Nat.eq_zero_or_pos l1.length with h | h
        · have := List.eq_nil_of_length_eq_zero h
          simp [this]
        · have h2 : l0.length = 0 := by omega
          have := List.eq_nil_of_length_eq_zero h2
          simp [this]
      rw [e1]
      exact Kd.R_mono ho0 (fun _ h => .inl h)
  · obtain ⟨g, cap, rfl, hg, hgl, cells, hcells⟩ := Kd.R_form ho0 (by omega)
    have hC := hr1 w (Kept.refl _ _)
    obtain ⟨ad, rfl, _⟩ := Kd.at_int hC 0 (by omega) (by omega)
    have hl : (l1.take l0.length).length = Nat.min l1.length l0.length := by rw [List.length_take, Nat.min_comm]
    have hrun := run_copy_cells (P := P) w T T ty e g 0 l0.length cap ad l1.length c1 (nums k (l1.take l0.length)) hT hz (by rw [nums_length, hl])
      (by
        intro j v hv
        simp only [nums, List.getElem?_map, Option.map_eq_some_iff] at hv
        obtain ⟨x, hx, rfl⟩ := hv
        have hj : j < l1.length := by
          rcases Nat.lt_or_ge j l1.length with h | h
          · exact h
          · rw [List.getElem?_take] at hx; simp [List.getElem?_eq_none h] at hx
        obtain ⟨ad', he, hc⟩ := Kd.at_int hC (j : Int) (by omega) (by omega)
        injection he with he
        subst he
        rw [Int.toNat_natCast] at hc
        rw [hc]
        rw [List.getElem?_take] at hx
        split at hx
        · rw [List.getElem?_eq_getElem hj] at hx
          injection hx with hx
          simp [rd, List.getD_eq_getElem?_getD, List.getElem?_eq_getElem hj, hx]
        · cases hx)
      (by
        intro j hj
        rw [nums_length, hl] at hj
        have := (Kd.R_celln 0 ho0 (j : Int) (by omega) (by omega)).1
        rw [Int.toNat_natCast] at this
        rw [Nat.zero_add, this]; rfl)
      (by
        intro j hj
        rw [nums_length, hl] at hj
        have := (Kd.R_celln 0 ho0 (j : Int) (by omega) (by omega)).2
        rw [Int.toNat_natCast] at this
        rw [Nat.zero_add, this])
      (by intro v hv; simp only [nums, List.mem_map] at hv; obtain ⟨x, _, rfl⟩ := hv; rfl)
    have hP : P0_ g := ho0.1 g rfl
    refine ⟨_, _, hrun, ?_, ?_, setCells_below hg _ _ _ hB, setCells_kept hP _ _ _ (Kept.refl _ _)⟩
    · rw [e0, nums_length, hl]; rfl
    · have h2 := setCells_R (l1.take l0.length) 0 l0 w ho0 (by rw [hl]; omega)
      have e1 : l0.take 0 ++ l1.take l0.length ++ l0.drop (0 + (l1.take l0.length).length) = l1.take l0.length ++ l0.drop l1.length := by
        rw [hl, hmin]
        simp
      rw [e1] at h2
      exact Kd.R_mono h2 (fun _ h => .inl h)
end Go.Proofs.YtemnjgkicndmjaaGreatDoor.Q
namespace Go.Proofs.YtemnjgkicndmjaaGreatDoor.Q
theorem zq1 {p : Prop} (h : p := by repeat (first | (with_reducible first | exact HB.out | apply below_alloc | apply pw_below_drewN | apply below_drew1) | exact HB.out)) : p := h
theorem zq2 {q p : Prop} (h : q) (k : q → p := by intro h; (with_reducible repeat (first | refine blk_drewN ?_ _ | refine blk_drew ?_ | refine blk_alloc ?_ _)); exact h) : p := k h
theorem zq3 {q p : Prop} (h : q) (k : q → p := by intro h; (with_reducible repeat (first | apply Kd.V_alloc | apply Kd.V_drewN | apply Kd.V_drew)); exact h) : p := k h
theorem zq4 {q p : Prop} (h : q) (k : q → p := by intro h; (with_reducible repeat (first | apply Kd.R_alloc | apply Kd.R_drewN | apply Kd.R_drew)); exact h) : p := k h
theorem zq5 {p : Prop} (h : p := by (try simp only [List.map_toArray, List.map_cons, List.map_nil]); first | done | rfl | (simp only [List.length_drop, List.length_take]; rfl)) : p := h
theorem zq6 {p : Prop} [Decidable p] (h : decide p = true := by first | (with_reducible assumption) | assumption) : p := of_decide_eq_true h
theorem zq7 {p : Prop} (h : p := by first | assumption | exact of_eq_true (by assumption) | exact of_decide_eq_true (by assumption)) : p := h
theorem zq8 {p : Prop} (h : p := by first | rfl | (simp; done) | (simp [*]; done)) : p := h
open Go.RowKit Go.Proofs.YtemnjgkicndmjaaGreatDoorW.PrintWords Go.Proofs.YtemnjgkicndmjaaGreatDoorW.PrintLast Go.Proofs.YtemnjgkicndmjaaGreatDoorW.PrintMore
theorem zm {p : Prop} (h : p := by
 repeat' first
 | (with_reducible exact LeO.refl _)
 | (with_reducible exact LeO.none _)
 | (with_reducible apply m0)
 | (with_reducible apply m1)
 | (with_reducible apply m2)
 | (with_reducible apply m3)
 | (with_reducible apply m4)
 | (with_reducible apply m5)
 | (with_reducible apply m6)
 | (with_reducible apply m7)
 | (with_reducible refine LeO.ite ?_ ?_)
 | (with_reducible refine LeO.bind ?_ (fun _ => ?_))
 | apply m0
 | apply m1
 | apply m2
 | apply m3
 | apply m4
 | apply m5
 | apply m6
 | apply m7
 | exact LeO.none _
 | refine LeO.ite ?_ ?_
 | refine LeO.bind ?_ (fun _ => ?_)) : p := h
theorem am {p : Prop} (h : p) : Aside0 p := ⟨h⟩
theorem zn {α : Type} {P : Prop} {i : Decidable P} {a : Option α} {r : α} (h : (@ite _ P i a none) = some r) : P ∧ a = some r := by
 by_cases c : P
 ·rw [if_pos c] at h; exact ⟨c, h⟩
 ·rw [if_neg c] at h; exact absurd h (by simp)
theorem zo {α : Type} {P : Prop} {i : Decidable P} {a : Option α} {r : α} (h : (@ite _ P i none a) = some r) : ¬P ∧ a = some r := by
 by_cases c : P
 ·rw [if_pos c] at h; exact absurd h (by simp)
 ·rw [if_neg c] at h; exact ⟨c, h⟩
theorem zi {α β : Type} {x : Option α} {f : α → Option β} {b : β} (h : x.bind f = some b) : ∃ a, x = some a ∧ f a = some b := Option.bind_eq_some_iff.mp h
theorem zb1 {p q : Prop} (h : p) (k : p → q := by intro hg1; repeat (first | (with_reducible first | exact HB.out | apply below_alloc | apply pw_below_drewN | apply below_drew1 | refine below_set ?_ hg1) | exact HB.out)) : q := k h
theorem zb2 {p p2 q : Prop} (h : p) (h2 : p2) (k : p → p2 → q := by intro hg1 hg2; repeat (first | (with_reducible first | exact HB.out | apply below_alloc | apply pw_below_drewN | apply below_drew1 | refine below_set ?_ hg1 | refine below_set ?_ hg2) | exact HB.out)) : q := k h h2
theorem zb3 {p p2 p3 q : Prop} (h : p) (h2 : p2) (h3 : p3) (k : p → p2 → p3 → q := by intro hg1 hg2 hg3; repeat (first | (with_reducible first | exact HB.out | apply below_alloc | apply pw_below_drewN | apply below_drew1 | refine below_set ?_ hg1 | refine below_set ?_ hg2 | refine below_set ?_ hg3) | exact HB.out)) : q := k h h2 h3
theorem zc {p q : Prop} (h : p) (k : p → q := by intro h; repeat (first | exact h | (with_reducible refine Kd.C_alloc ?_ _) | (with_reducible refine Kd.C_drewN ?_ _) | (with_reducible refine Kd.C_drew ?_))) : q := k h
theorem zq9 {p : Prop} (h : p := by first | rfl | (simp [errW_none, errW_some] <;> rfl) | (simp [*, errW_none, errW_some] <;> rfl)) : p := h
theorem zr {p : Prop} (h : p := by first | (go_simp; done) | (go_simp; rfl)) : p := h
def zmt (n : Nat) (s : List Nat) : Array Bool := ((List.range n).map fun i => s.contains i).toArray
def zmf (n : Nat) (s : List Nat) : Array Bool := ((List.range n).map fun i => !s.contains i).toArray
section
variable {P : Program} {md : Region.Mode} {ops : Array Oper} {Q : Exit → Act → World → Prop} {S : World → Prop} {ds : List Nat} {i : Nat} {N : Option Tmp} {oi : Oper} {v : Value} {fuel : Nat} {l : Array Bool} {a a' : Act} {w : World}
theorem pz_ (l' : Array Bool) (h : wpAnyLast P md ops Q S ds fuel l' a' w) (hi : ops[i]? = some oi := by rfl) (hN : oi.dst = N := by rfl) (hc : anyB md ops l l' i = true := by exact any_of HT_.out (by kernel_rfl)) (hQ : ∀ c a w, Q (.panic c) (a.put oi.dst v) w → Q (.panic c) a w := by exact fun _ _ _ h => h) (hy : Yields P ops oi v a := by exact Or.inl ⟨by rfl, by intro w'; go_simp; with_reducible rfl⟩) (ha : a.put N v = a' := by simp only [Act.put, List.setIfInBounds_toArray, List.set_cons_zero, List.set_cons_succ, i64_w, i32_w]; rfl) : wpAnyLast P md ops Q S ds (fuel + 1) l a w := pure_ l' hi hN hc hQ hy ha h
theorem tz1 (l' : Array Bool) (h : wpAnyLast P md ops Q S ds fuel l' a' w) (hi : ops[i]? = some oi := by rfl) (hN : oi.dst = N := by rfl) (hc : takeB md ops ds l l' i = true := by exact take_ofW HT_.out HW_.out (by kernel_rfl)) (hQ : ∀ c a w, Q (.panic c) (a.put oi.dst v) w → Q (.panic c) a w := by exact fun _ _ _ h => h) (hy : YieldsIf P ops S oi v a := by exact Or.inl ⟨by rfl, by intro w' s0; go_simp; with_reducible rfl⟩) (hS : S w := by exact hHeld) (ha : a.put N v = a' := by simp only [Act.put, List.setIfInBounds_toArray, List.set_cons_zero, List.set_cons_succ, i64_w, i32_w]; rfl) : wpAnyLast P md ops Q S ds (fuel + 1) l a w := take_ l' hi hN hc hQ hy hS ha h
theorem tz3 (l' : Array Bool) (h : wpAnyLast P md ops Q S ds fuel l' a' w) (hi : ops[i]? = some oi := by rfl) (hN : oi.dst = N := by rfl) (hc : takeB md ops ds l l' i = true := by exact take_ofW HT_.out HW_.out (by kernel_rfl)) (hQ : ∀ c a w, Q (.panic c) (a.put oi.dst v) w → Q (.panic c) a w := by exact fun _ _ _ h => h) (hy : YieldsIf P ops S oi v a := by exact Or.inl ⟨by rfl, by rintro w' ⟨s0, s1, s2⟩; go_simp; with_reducible rfl⟩) (hS : S w := by exact hHeld) (ha : a.put N v = a' := by simp only [Act.put, List.setIfInBounds_toArray, List.set_cons_zero, List.set_cons_succ, i64_w, i32_w]; rfl) : wpAnyLast P md ops Q S ds (fuel + 1) l a w := take_ l' hi hN hc hQ hy hS ha h
theorem nz_ (h : wpAnyLast P md ops Q S ds fuel l a' w) (ha : Act.put a N v = a' := by simp only [Act.put, List.setIfInBounds_toArray, List.set_cons_zero, List.set_cons_succ, i64_w, i32_w]; rfl) : wpAnyLast P md ops Q S ds fuel l (Act.put a N v) w := norm_ ha h
end
section
variable {P : Program} {ops : Array Oper} {rest : List Oper} {o : Oper} {a : Act} {Q : Exit → Act → World → Prop} {W w1 : World}
theorem zbox {N : Tmp} {cs : Array Value} {t : TypeId} (h : ∀ g, g = W.heap.size → ∀ w1, w1.heap[g]? = some (.cells cs t (0, 0)) → Below W.heap.size W w1 → wpList P ops Q rest (a.put o.dst (.pointer (some ⟨g, 0, none⟩))) w1) (hd : o.dst = some N := by rfl) (hg : o.guard = none := by rfl) (hr : (execOp a.eval o).run P W = .ok (.value (.pointer (some ⟨W.heap.size, 0, none⟩))) (W.alloc (.cells cs t (0, 0))) := by first | (go_simp; done) | (go_simp; rfl)) : wpList P ops Q (o :: rest) a W := box_event hg hd hr h
theorem zstore {t : TypeId} {p : Tmp} {v : Operand} (h : ∀ w', w' = w1 → wpList P ops Q rest a w') (ho : o.op = .store t (.tmp p) v := by rfl) (hg : o.guard = none := by rfl) (hn : o.dst = none := by rfl) (hr : (execOp a.eval o).run P W = .ok .skip w1 := by first | (go_simp; done) | (go_simp; rfl)) : wpList P ops Q (o :: rest) a W := store_event hg ho hn hr h
end
theorem bc {w : World} {g : Nat} {t : TypeId} {cs : Array Value} (h : w.heap[g]? = some (.cells cs t (0, 0))) (i : Nat) (v : Value) (e : cs[i]? = some v := by rfl) : w.cell? ⟨g, i, none⟩ = some v := (blk_cell h i).trans e
theorem bb {w0 w w1 : World} {g : Nat} {o : Obj} (h : w0.heap[g]? = some o) (hb : Below w.heap.size w w1) (k : w0.heap[g]? = some o → w.heap[g]? = some o := by intro h; (with_reducible repeat (first | refine blk_drewN ?_ _ | refine blk_drew ?_ | refine blk_alloc ?_ _)); exact h) : w1.heap[g]? = some o := blk_below (k h) hb
theorem bl {w0 w : World} {g : Nat} {o : Obj} (h : w0.heap[g]? = some o) (k : w0.heap[g]? = some o → w.heap[g]? = some o := by intro h; (with_reducible repeat (first | refine blk_drewN ?_ _ | refine blk_drew ?_ | refine blk_alloc ?_ _)); exact h) : g < w.heap.size := blk_lt (k h)
theorem zt1 {p0 G : Prop} (a0 : p0) (k : Aside0 p0 → G) : G := k ⟨a0⟩
theorem zt2 {p0 p1 G : Prop} (a0 : p0) (a1 : p1) (k : Aside0 p0 → Aside0 p1 → G) : G := k ⟨a0⟩ ⟨a1⟩
theorem zt3 {p0 p1 p2 G : Prop} (a0 : p0) (a1 : p1) (a2 : p2) (k : Aside0 p0 → Aside0 p1 → Aside0 p2 → G) : G := k ⟨a0⟩ ⟨a1⟩ ⟨a2⟩
theorem zt4 {p0 p1 p2 p3 G : Prop} (a0 : p0) (a1 : p1) (a2 : p2) (a3 : p3) (k : Aside0 p0 → Aside0 p1 → Aside0 p2 → Aside0 p3 → G) : G := k ⟨a0⟩ ⟨a1⟩ ⟨a2⟩ ⟨a3⟩
theorem zt5 {p0 p1 p2 p3 p4 G : Prop} (a0 : p0) (a1 : p1) (a2 : p2) (a3 : p3) (a4 : p4) (k : Aside0 p0 → Aside0 p1 → Aside0 p2 → Aside0 p3 → Aside0 p4 → G) : G := k ⟨a0⟩ ⟨a1⟩ ⟨a2⟩ ⟨a3⟩ ⟨a4⟩
theorem zt6 {p0 p1 p2 p3 p4 p5 G : Prop} (a0 : p0) (a1 : p1) (a2 : p2) (a3 : p3) (a4 : p4) (a5 : p5) (k : Aside0 p0 → Aside0 p1 → Aside0 p2 → Aside0 p3 → Aside0 p4 → Aside0 p5 → G) : G := k ⟨a0⟩ ⟨a1⟩ ⟨a2⟩ ⟨a3⟩ ⟨a4⟩ ⟨a5⟩
theorem zt7 {p0 p1 p2 p3 p4 p5 p6 G : Prop} (a0 : p0) (a1 : p1) (a2 : p2) (a3 : p3) (a4 : p4) (a5 : p5) (a6 : p6) (k : Aside0 p0 → Aside0 p1 → Aside0 p2 → Aside0 p3 → Aside0 p4 → Aside0 p5 → Aside0 p6 → G) : G := k ⟨a0⟩ ⟨a1⟩ ⟨a2⟩ ⟨a3⟩ ⟨a4⟩ ⟨a5⟩ ⟨a6⟩
theorem zt8 {p0 p1 p2 p3 p4 p5 p6 p7 G : Prop} (a0 : p0) (a1 : p1) (a2 : p2) (a3 : p3) (a4 : p4) (a5 : p5) (a6 : p6) (a7 : p7) (k : Aside0 p0 → Aside0 p1 → Aside0 p2 → Aside0 p3 → Aside0 p4 → Aside0 p5 → Aside0 p6 → Aside0 p7 → G) : G := k ⟨a0⟩ ⟨a1⟩ ⟨a2⟩ ⟨a3⟩ ⟨a4⟩ ⟨a5⟩ ⟨a6⟩ ⟨a7⟩
theorem zt9 {p0 p1 p2 p3 p4 p5 p6 p7 p8 G : Prop} (a0 : p0) (a1 : p1) (a2 : p2) (a3 : p3) (a4 : p4) (a5 : p5) (a6 : p6) (a7 : p7) (a8 : p8) (k : Aside0 p0 → Aside0 p1 → Aside0 p2 → Aside0 p3 → Aside0 p4 → Aside0 p5 → Aside0 p6 → Aside0 p7 → Aside0 p8 → G) : G := k ⟨a0⟩ ⟨a1⟩ ⟨a2⟩ ⟨a3⟩ ⟨a4⟩ ⟨a5⟩ ⟨a6⟩ ⟨a7⟩ ⟨a8⟩
theorem zt10 {p0 p1 p2 p3 p4 p5 p6 p7 p8 p9 G : Prop} (a0 : p0) (a1 : p1) (a2 : p2) (a3 : p3) (a4 : p4) (a5 : p5) (a6 : p6) (a7 : p7) (a8 : p8) (a9 : p9) (k : Aside0 p0 → Aside0 p1 → Aside0 p2 → Aside0 p3 → Aside0 p4 → Aside0 p5 → Aside0 p6 → Aside0 p7 → Aside0 p8 → Aside0 p9 → G) : G := k ⟨a0⟩ ⟨a1⟩ ⟨a2⟩ ⟨a3⟩ ⟨a4⟩ ⟨a5⟩ ⟨a6⟩ ⟨a7⟩ ⟨a8⟩ ⟨a9⟩
theorem zt11 {p0 p1 p2 p3 p4 p5 p6 p7 p8 p9 p10 G : Prop} (a0 : p0) (a1 : p1) (a2 : p2) (a3 : p3) (a4 : p4) (a5 : p5) (a6 : p6) (a7 : p7) (a8 : p8) (a9 : p9) (a10 : p10) (k : Aside0 p0 → Aside0 p1 → Aside0 p2 → Aside0 p3 → Aside0 p4 → Aside0 p5 → Aside0 p6 → Aside0 p7 → Aside0 p8 → Aside0 p9 → Aside0 p10 → G) : G := k ⟨a0⟩ ⟨a1⟩ ⟨a2⟩ ⟨a3⟩ ⟨a4⟩ ⟨a5⟩ ⟨a6⟩ ⟨a7⟩ ⟨a8⟩ ⟨a9⟩ ⟨a10⟩
theorem zt12 {p0 p1 p2 p3 p4 p5 p6 p7 p8 p9 p10 p11 G : Prop} (a0 : p0) (a1 : p1) (a2 : p2) (a3 : p3) (a4 : p4) (a5 : p5) (a6 : p6) (a7 : p7) (a8 : p8) (a9 : p9) (a10 : p10) (a11 : p11) (k : Aside0 p0 → Aside0 p1 → Aside0 p2 → Aside0 p3 → Aside0 p4 → Aside0 p5 → Aside0 p6 → Aside0 p7 → Aside0 p8 → Aside0 p9 → Aside0 p10 → Aside0 p11 → G) : G := k ⟨a0⟩ ⟨a1⟩ ⟨a2⟩ ⟨a3⟩ ⟨a4⟩ ⟨a5⟩ ⟨a6⟩ ⟨a7⟩ ⟨a8⟩ ⟨a9⟩ ⟨a10⟩ ⟨a11⟩
theorem zt13 {p0 p1 p2 p3 p4 p5 p6 p7 p8 p9 p10 p11 p12 G : Prop} (a0 : p0) (a1 : p1) (a2 : p2) (a3 : p3) (a4 : p4) (a5 : p5) (a6 : p6) (a7 : p7) (a8 : p8) (a9 : p9) (a10 : p10) (a11 : p11) (a12 : p12) (k : Aside0 p0 → Aside0 p1 → Aside0 p2 → Aside0 p3 → Aside0 p4 → Aside0 p5 → Aside0 p6 → Aside0 p7 → Aside0 p8 → Aside0 p9 → Aside0 p10 → Aside0 p11 → Aside0 p12 → G) : G := k ⟨a0⟩ ⟨a1⟩ ⟨a2⟩ ⟨a3⟩ ⟨a4⟩ ⟨a5⟩ ⟨a6⟩ ⟨a7⟩ ⟨a8⟩ ⟨a9⟩ ⟨a10⟩ ⟨a11⟩ ⟨a12⟩
theorem zt14 {p0 p1 p2 p3 p4 p5 p6 p7 p8 p9 p10 p11 p12 p13 G : Prop} (a0 : p0) (a1 : p1) (a2 : p2) (a3 : p3) (a4 : p4) (a5 : p5) (a6 : p6) (a7 : p7) (a8 : p8) (a9 : p9) (a10 : p10) (a11 : p11) (a12 : p12) (a13 : p13) (k : Aside0 p0 → Aside0 p1 → Aside0 p2 → Aside0 p3 → Aside0 p4 → Aside0 p5 → Aside0 p6 → Aside0 p7 → Aside0 p8 → Aside0 p9 → Aside0 p10 → Aside0 p11 → Aside0 p12 → Aside0 p13 → G) : G := k ⟨a0⟩ ⟨a1⟩ ⟨a2⟩ ⟨a3⟩ ⟨a4⟩ ⟨a5⟩ ⟨a6⟩ ⟨a7⟩ ⟨a8⟩ ⟨a9⟩ ⟨a10⟩ ⟨a11⟩ ⟨a12⟩ ⟨a13⟩
theorem zt15 {p0 p1 p2 p3 p4 p5 p6 p7 p8 p9 p10 p11 p12 p13 p14 G : Prop} (a0 : p0) (a1 : p1) (a2 : p2) (a3 : p3) (a4 : p4) (a5 : p5) (a6 : p6) (a7 : p7) (a8 : p8) (a9 : p9) (a10 : p10) (a11 : p11) (a12 : p12) (a13 : p13) (a14 : p14) (k : Aside0 p0 → Aside0 p1 → Aside0 p2 → Aside0 p3 → Aside0 p4 → Aside0 p5 → Aside0 p6 → Aside0 p7 → Aside0 p8 → Aside0 p9 → Aside0 p10 → Aside0 p11 → Aside0 p12 → Aside0 p13 → Aside0 p14 → G) : G := k ⟨a0⟩ ⟨a1⟩ ⟨a2⟩ ⟨a3⟩ ⟨a4⟩ ⟨a5⟩ ⟨a6⟩ ⟨a7⟩ ⟨a8⟩ ⟨a9⟩ ⟨a10⟩ ⟨a11⟩ ⟨a12⟩ ⟨a13⟩ ⟨a14⟩
theorem zt16 {p0 p1 p2 p3 p4 p5 p6 p7 p8 p9 p10 p11 p12 p13 p14 p15 G : Prop} (a0 : p0) (a1 : p1) (a2 : p2) (a3 : p3) (a4 : p4) (a5 : p5) (a6 : p6) (a7 : p7) (a8 : p8) (a9 : p9) (a10 : p10) (a11 : p11) (a12 : p12) (a13 : p13) (a14 : p14) (a15 : p15) (k : Aside0 p0 → Aside0 p1 → Aside0 p2 → Aside0 p3 → Aside0 p4 → Aside0 p5 → Aside0 p6 → Aside0 p7 → Aside0 p8 → Aside0 p9 → Aside0 p10 → Aside0 p11 → Aside0 p12 → Aside0 p13 → Aside0 p14 → Aside0 p15 → G) : G := k ⟨a0⟩ ⟨a1⟩ ⟨a2⟩ ⟨a3⟩ ⟨a4⟩ ⟨a5⟩ ⟨a6⟩ ⟨a7⟩ ⟨a8⟩ ⟨a9⟩ ⟨a10⟩ ⟨a11⟩ ⟨a12⟩ ⟨a13⟩ ⟨a14⟩ ⟨a15⟩
theorem zs {a b c : Nat} (h : a = b) (k : c ≤ b) : c ≤ a := h ▸ k
theorem zj {α β : Type} {x : Option α} {f : α → Option β} {b : β} (h : x.bind f = some b) : ∃ a, Aside0 (x = some a) ∧ f a = some b := by
 obtain ⟨a, h1, h2⟩ := Option.bind_eq_some_iff.mp h
 exact ⟨a, ⟨h1⟩, h2⟩
theorem zt17 {p0 p1 p2 p3 p4 p5 p6 p7 p8 p9 p10 p11 p12 p13 p14 p15 p16 G : Prop} (a0 : p0) (a1 : p1) (a2 : p2) (a3 : p3) (a4 : p4) (a5 : p5) (a6 : p6) (a7 : p7) (a8 : p8) (a9 : p9) (a10 : p10) (a11 : p11) (a12 : p12) (a13 : p13) (a14 : p14) (a15 : p15) (a16 : p16) (k : Aside0 p0 → Aside0 p1 → Aside0 p2 → Aside0 p3 → Aside0 p4 → Aside0 p5 → Aside0 p6 → Aside0 p7 → Aside0 p8 → Aside0 p9 → Aside0 p10 → Aside0 p11 → Aside0 p12 → Aside0 p13 → Aside0 p14 → Aside0 p15 → Aside0 p16 → G) : G := k ⟨a0⟩ ⟨a1⟩ ⟨a2⟩ ⟨a3⟩ ⟨a4⟩ ⟨a5⟩ ⟨a6⟩ ⟨a7⟩ ⟨a8⟩ ⟨a9⟩ ⟨a10⟩ ⟨a11⟩ ⟨a12⟩ ⟨a13⟩ ⟨a14⟩ ⟨a15⟩ ⟨a16⟩
theorem zt18 {p0 p1 p2 p3 p4 p5 p6 p7 p8 p9 p10 p11 p12 p13 p14 p15 p16 p17 G : Prop} (a0 : p0) (a1 : p1) (a2 : p2) (a3 : p3) (a4 : p4) (a5 : p5) (a6 : p6) (a7 : p7) (a8 : p8) (a9 : p9) (a10 : p10) (a11 : p11) (a12 : p12) (a13 : p13) (a14 : p14) (a15 : p15) (a16 : p16) (a17 : p17) (k : Aside0 p0 → Aside0 p1 → Aside0 p2 → Aside0 p3 → Aside0 p4 → Aside0 p5 → Aside0 p6 → Aside0 p7 → Aside0 p8 → Aside0 p9 → Aside0 p10 → Aside0 p11 → Aside0 p12 → Aside0 p13 → Aside0 p14 → Aside0 p15 → Aside0 p16 → Aside0 p17 → G) : G := k ⟨a0⟩ ⟨a1⟩ ⟨a2⟩ ⟨a3⟩ ⟨a4⟩ ⟨a5⟩ ⟨a6⟩ ⟨a7⟩ ⟨a8⟩ ⟨a9⟩ ⟨a10⟩ ⟨a11⟩ ⟨a12⟩ ⟨a13⟩ ⟨a14⟩ ⟨a15⟩ ⟨a16⟩ ⟨a17⟩
theorem zt19 {p0 p1 p2 p3 p4 p5 p6 p7 p8 p9 p10 p11 p12 p13 p14 p15 p16 p17 p18 G : Prop} (a0 : p0) (a1 : p1) (a2 : p2) (a3 : p3) (a4 : p4) (a5 : p5) (a6 : p6) (a7 : p7) (a8 : p8) (a9 : p9) (a10 : p10) (a11 : p11) (a12 : p12) (a13 : p13) (a14 : p14) (a15 : p15) (a16 : p16) (a17 : p17) (a18 : p18) (k : Aside0 p0 → Aside0 p1 → Aside0 p2 → Aside0 p3 → Aside0 p4 → Aside0 p5 → Aside0 p6 → Aside0 p7 → Aside0 p8 → Aside0 p9 → Aside0 p10 → Aside0 p11 → Aside0 p12 → Aside0 p13 → Aside0 p14 → Aside0 p15 → Aside0 p16 → Aside0 p17 → Aside0 p18 → G) : G := k ⟨a0⟩ ⟨a1⟩ ⟨a2⟩ ⟨a3⟩ ⟨a4⟩ ⟨a5⟩ ⟨a6⟩ ⟨a7⟩ ⟨a8⟩ ⟨a9⟩ ⟨a10⟩ ⟨a11⟩ ⟨a12⟩ ⟨a13⟩ ⟨a14⟩ ⟨a15⟩ ⟨a16⟩ ⟨a17⟩ ⟨a18⟩
theorem zt20 {p0 p1 p2 p3 p4 p5 p6 p7 p8 p9 p10 p11 p12 p13 p14 p15 p16 p17 p18 p19 G : Prop} (a0 : p0) (a1 : p1) (a2 : p2) (a3 : p3) (a4 : p4) (a5 : p5) (a6 : p6) (a7 : p7) (a8 : p8) (a9 : p9) (a10 : p10) (a11 : p11) (a12 : p12) (a13 : p13) (a14 : p14) (a15 : p15) (a16 : p16) (a17 : p17) (a18 : p18) (a19 : p19) (k : Aside0 p0 → Aside0 p1 → Aside0 p2 → Aside0 p3 → Aside0 p4 → Aside0 p5 → Aside0 p6 → Aside0 p7 → Aside0 p8 → Aside0 p9 → Aside0 p10 → Aside0 p11 → Aside0 p12 → Aside0 p13 → Aside0 p14 → Aside0 p15 → Aside0 p16 → Aside0 p17 → Aside0 p18 → Aside0 p19 → G) : G := k ⟨a0⟩ ⟨a1⟩ ⟨a2⟩ ⟨a3⟩ ⟨a4⟩ ⟨a5⟩ ⟨a6⟩ ⟨a7⟩ ⟨a8⟩ ⟨a9⟩ ⟨a10⟩ ⟨a11⟩ ⟨a12⟩ ⟨a13⟩ ⟨a14⟩ ⟨a15⟩ ⟨a16⟩ ⟨a17⟩ ⟨a18⟩ ⟨a19⟩
theorem zt21 {p0 p1 p2 p3 p4 p5 p6 p7 p8 p9 p10 p11 p12 p13 p14 p15 p16 p17 p18 p19 p20 G : Prop} (a0 : p0) (a1 : p1) (a2 : p2) (a3 : p3) (a4 : p4) (a5 : p5) (a6 : p6) (a7 : p7) (a8 : p8) (a9 : p9) (a10 : p10) (a11 : p11) (a12 : p12) (a13 : p13) (a14 : p14) (a15 : p15) (a16 : p16) (a17 : p17) (a18 : p18) (a19 : p19) (a20 : p20) (k : Aside0 p0 → Aside0 p1 → Aside0 p2 → Aside0 p3 → Aside0 p4 → Aside0 p5 → Aside0 p6 → Aside0 p7 → Aside0 p8 → Aside0 p9 → Aside0 p10 → Aside0 p11 → Aside0 p12 → Aside0 p13 → Aside0 p14 → Aside0 p15 → Aside0 p16 → Aside0 p17 → Aside0 p18 → Aside0 p19 → Aside0 p20 → G) : G := k ⟨a0⟩ ⟨a1⟩ ⟨a2⟩ ⟨a3⟩ ⟨a4⟩ ⟨a5⟩ ⟨a6⟩ ⟨a7⟩ ⟨a8⟩ ⟨a9⟩ ⟨a10⟩ ⟨a11⟩ ⟨a12⟩ ⟨a13⟩ ⟨a14⟩ ⟨a15⟩ ⟨a16⟩ ⟨a17⟩ ⟨a18⟩ ⟨a19⟩ ⟨a20⟩
theorem zt22 {p0 p1 p2 p3 p4 p5 p6 p7 p8 p9 p10 p11 p12 p13 p14 p15 p16 p17 p18 p19 p20 p21 G : Prop} (a0 : p0) (a1 : p1) (a2 : p2) (a3 : p3) (a4 : p4) (a5 : p5) (a6 : p6) (a7 : p7) (a8 : p8) (a9 : p9) (a10 : p10) (a11 : p11) (a12 : p12) (a13 : p13) (a14 : p14) (a15 : p15) (a16 : p16) (a17 : p17) (a18 : p18) (a19 : p19) (a20 : p20) (a21 : p21) (k : Aside0 p0 → Aside0 p1 → Aside0 p2 → Aside0 p3 → Aside0 p4 → Aside0 p5 → Aside0 p6 → Aside0 p7 → Aside0 p8 → Aside0 p9 → Aside0 p10 → Aside0 p11 → Aside0 p12 → Aside0 p13 → Aside0 p14 → Aside0 p15 → Aside0 p16 → Aside0 p17 → Aside0 p18 → Aside0 p19 → Aside0 p20 → Aside0 p21 → G) : G := k ⟨a0⟩ ⟨a1⟩ ⟨a2⟩ ⟨a3⟩ ⟨a4⟩ ⟨a5⟩ ⟨a6⟩ ⟨a7⟩ ⟨a8⟩ ⟨a9⟩ ⟨a10⟩ ⟨a11⟩ ⟨a12⟩ ⟨a13⟩ ⟨a14⟩ ⟨a15⟩ ⟨a16⟩ ⟨a17⟩ ⟨a18⟩ ⟨a19⟩ ⟨a20⟩ ⟨a21⟩
theorem zt23 {p0 p1 p2 p3 p4 p5 p6 p7 p8 p9 p10 p11 p12 p13 p14 p15 p16 p17 p18 p19 p20 p21 p22 G : Prop} (a0 : p0) (a1 : p1) (a2 : p2) (a3 : p3) (a4 : p4) (a5 : p5) (a6 : p6) (a7 : p7) (a8 : p8) (a9 : p9) (a10 : p10) (a11 : p11) (a12 : p12) (a13 : p13) (a14 : p14) (a15 : p15) (a16 : p16) (a17 : p17) (a18 : p18) (a19 : p19) (a20 : p20) (a21 : p21) (a22 : p22) (k : Aside0 p0 → Aside0 p1 → Aside0 p2 → Aside0 p3 → Aside0 p4 → Aside0 p5 → Aside0 p6 → Aside0 p7 → Aside0 p8 → Aside0 p9 → Aside0 p10 → Aside0 p11 → Aside0 p12 → Aside0 p13 → Aside0 p14 → Aside0 p15 → Aside0 p16 → Aside0 p17 → Aside0 p18 → Aside0 p19 → Aside0 p20 → Aside0 p21 → Aside0 p22 → G) : G := k ⟨a0⟩ ⟨a1⟩ ⟨a2⟩ ⟨a3⟩ ⟨a4⟩ ⟨a5⟩ ⟨a6⟩ ⟨a7⟩ ⟨a8⟩ ⟨a9⟩ ⟨a10⟩ ⟨a11⟩ ⟨a12⟩ ⟨a13⟩ ⟨a14⟩ ⟨a15⟩ ⟨a16⟩ ⟨a17⟩ ⟨a18⟩ ⟨a19⟩ ⟨a20⟩ ⟨a21⟩ ⟨a22⟩
theorem zt24 {p0 p1 p2 p3 p4 p5 p6 p7 p8 p9 p10 p11 p12 p13 p14 p15 p16 p17 p18 p19 p20 p21 p22 p23 G : Prop} (a0 : p0) (a1 : p1) (a2 : p2) (a3 : p3) (a4 : p4) (a5 : p5) (a6 : p6) (a7 : p7) (a8 : p8) (a9 : p9) (a10 : p10) (a11 : p11) (a12 : p12) (a13 : p13) (a14 : p14) (a15 : p15) (a16 : p16) (a17 : p17) (a18 : p18) (a19 : p19) (a20 : p20) (a21 : p21) (a22 : p22) (a23 : p23) (k : Aside0 p0 → Aside0 p1 → Aside0 p2 → Aside0 p3 → Aside0 p4 → Aside0 p5 → Aside0 p6 → Aside0 p7 → Aside0 p8 → Aside0 p9 → Aside0 p10 → Aside0 p11 → Aside0 p12 → Aside0 p13 → Aside0 p14 → Aside0 p15 → Aside0 p16 → Aside0 p17 → Aside0 p18 → Aside0 p19 → Aside0 p20 → Aside0 p21 → Aside0 p22 → Aside0 p23 → G) : G := k ⟨a0⟩ ⟨a1⟩ ⟨a2⟩ ⟨a3⟩ ⟨a4⟩ ⟨a5⟩ ⟨a6⟩ ⟨a7⟩ ⟨a8⟩ ⟨a9⟩ ⟨a10⟩ ⟨a11⟩ ⟨a12⟩ ⟨a13⟩ ⟨a14⟩ ⟨a15⟩ ⟨a16⟩ ⟨a17⟩ ⟨a18⟩ ⟨a19⟩ ⟨a20⟩ ⟨a21⟩ ⟨a22⟩ ⟨a23⟩
theorem vb {α : Type} {d : Kd α} {e base : Nat} {W0 W W1 : World} {ok : Nat → Prop} {v : Value} {xs : List α} (h : Aside0 (Kd.V d e W0 base ok v xs)) (hb : Below W.heap.size W W1) (k : Kd.V d e W0 base ok v xs → Kd.V d e W base ok v xs := by intro h; (with_reducible repeat (first | apply Kd.V_alloc | apply Kd.V_drewN | apply Kd.V_drew)); exact h) : Kd.V d e W1 base ok v xs := Kd.V_below (k h.out) hb
theorem rb {α : Type} {d : Kd α} {e base : Nat} {W0 W W1 : World} {ok : Nat → Prop} {v : Value} {xs : List α} (h : Aside0 (Kd.R d e W0 base ok v xs)) (hb : Below W.heap.size W W1) (k : Kd.R d e W0 base ok v xs → Kd.R d e W base ok v xs := by intro h; (with_reducible repeat (first | apply Kd.R_alloc | apply Kd.R_drewN | apply Kd.R_drew)); exact h) : Kd.R d e W1 base ok v xs := Kd.R_below (k h.out) hb
theorem ve {α : Type} {d : Kd α} {e base g : Nat} {W0 W W1 : World} {ok : Nat → Prop} {v : Value} {xs : List α} (h : Aside0 (Kd.V d e W0 base ok v xs)) (hg : g = W.heap.size) (hb : Below W.heap.size W W1) (k : Kd.V d e W0 base ok v xs → Kd.V d e W base ok v xs := by intro h; (with_reducible repeat (first | apply Kd.V_alloc | apply Kd.V_drewN | apply Kd.V_drew)); exact h) : Kd.V d e W1 base (fun k => ok k ∧ k ≠ g) v xs := Kd.V_below (Kd.V_elderB (k h.out) g (Nat.le_of_eq hg.symm)) hb
theorem zv3 {α : Type} {d : Kd α} {e base : Nat} {W : World} {ok : Nat → Prop} {v : Value} {xs : List α} (g : Nat) (v0 v1 v2 : Value) (h : Kd.V d e W base ok v xs) (hne : ∀ k, ok k → k ≠ g) : Kd.V d e (((W.setCell ⟨g, 0, none⟩ v0).setCell ⟨g, 1, none⟩ v1).setCell ⟨g, 2, none⟩ v2) base (fun k => ok k ∧ k ≠ g) v xs := Kd.V_far (p := ⟨g, 2, none⟩) (Kd.V_far (p := ⟨g, 1, none⟩) (Kd.V_far (p := ⟨g, 0, none⟩) (Kd.V_mono h (fun k hk => ⟨hk, hne k hk⟩)) (fun _ hk => hk.2) v0) (fun _ hk => hk.2) v1) (fun _ hk => hk.2) v2
theorem zr3 {α : Type} {d : Kd α} {e base : Nat} {W : World} {ok : Nat → Prop} {v : Value} {xs : List α} (g : Nat) (v0 v1 v2 : Value) (h : Kd.R d e W base ok v xs) (hne : ∀ k, ok k → k ≠ g) : Kd.R d e (((W.setCell ⟨g, 0, none⟩ v0).setCell ⟨g, 1, none⟩ v1).setCell ⟨g, 2, none⟩ v2) base (fun k => ok k ∧ k ≠ g) v xs := Kd.R_far (p := ⟨g, 2, none⟩) (Kd.R_far (p := ⟨g, 1, none⟩) (Kd.R_far (p := ⟨g, 0, none⟩) (Kd.R_mono h (fun k hk => ⟨hk, hne k hk⟩)) (fun _ hk => hk.2) v0) (fun _ hk => hk.2) v1) (fun _ hk => hk.2) v2
theorem zwV {q p : Prop} (k : q → p := by intro h; (with_reducible repeat (first | apply Kd.V_alloc | apply Kd.V_drewN | apply Kd.V_drew)); exact h) (h : q) : p := k h
theorem zwR {q p : Prop} (k : q → p := by intro h; (with_reducible repeat (first | apply Kd.R_alloc | apply Kd.R_drewN | apply Kd.R_drew)); exact h) (h : q) : p := k h
end Go.Proofs.YtemnjgkicndmjaaGreatDoor.Q
namespace Go.Proofs.YtemnjgkicndmjaaGreatDoor.Q
open Go.RowKit Go.Proofs.YtemnjgkicndmjaaGreatDoorW.PrintWords Go.Proofs.YtemnjgkicndmjaaGreatDoorW.PrintLast Go.Proofs.YtemnjgkicndmjaaGreatDoorW.PrintMore
attribute [local go_sem] max2_int min2_int max_two min_two max_three min_three max_four min_four
set_option linter.unusedVariables false
set_option linter.unusedSimpArgs false
def errW : Option Int → Value
 | none => .nilIface
 | some c => .iface 0 (.int .i64 c)
theorem errW_none : errW none = .nilIface := rfl
theorem errW_some (c : Int) : errW (some c) = .iface 0 (.int .i64 c) := rfl
theorem info3 : (Tryz.prog.info? 3).map (fun i => (i.zero, i.size, i.bytes)) = some (some (.int .i64 0), 1, 8) := by kernel_rfl
theorem info5 : (Tryz.prog.info? 5).map (fun i => (i.zero, i.size, i.bytes)) = some (some (.int .u8 0), 1, 1) := by kernel_rfl
theorem info73 : (Tryz.prog.info? 73).map (fun i => (i.zero, i.size, i.bytes)) = some (some (.int .u32 0), 1, 4) := by kernel_rfl
structure S24 where
 f0 : Bool
 f1 : (List Int)
 f2 : (List Int)
def rf_trim.l0 : Nat → List Int → Option (List Int)
 | 0, _ => none
 | k + 1, x0 => if (x0.length : Int) > 0 then (if 0 ≤ (wrap64 ((x0.length : Int) - 1)) then (if (wrap64 ((x0.length : Int) - 1)) < (x0.length : Int) then (if (rd x0 (wrap64 ((x0.length : Int) - 1))) = 0 then (if (wrap64 ((x0.length : Int) - 1)) ≤ (x0.length : Int) then (rf_trim.l0 k (x0.take ((wrap64 ((x0.length : Int) - 1)) : Int).toNat)) else (none)) else (some x0)) else (none)) else (none)) else (some x0)
def rf_trim.f (k : Nat) (l0 : List Int) : Option (List Int) := rf_trim.l0 k l0
set_option maxHeartbeats 8000000 in
set_option maxRecDepth 100000 in
theorem rf_trim.calls (k : Nat) (P0_ : Nat → Prop) (A0 : Option Addr) (c0 : Nat) (l0 : List Int) (r : List Int) (w : World) (hs0 : Kd.V (Kd.int .i64) 3 w w.heap.size (fun k_ => P0_ k_) (.slice A0 l0.length c0) l0) (h : rf_trim.f k l0 = some r) :
  Calls Tryz.prog 81 #[.slice A0 l0.length c0] w fun e w' => ∃ v0_ : Value, e = .returned (v0_) ∧ Kd.V (Kd.int .i64) 3 w' w.heap.size (fun k_ => (P0_ k_ ∨ w.heap.size ≤ k_)) v0_ r ∧ Below w.heap.size w w' := by
 have HO0 := am (show Kd.V (Kd.int .i64) 3 w w.heap.size (fun k_ => (P0_ k_ ∨ w.heap.size ≤ k_)) (.slice A0 l0.length c0) l0 from Kd.V_mono hs0 (fun k_ hk => .inl hk))
 have HB := am (Below.refl w.heap.size w)
 have H := h
 unfold rf_trim.f at H
 clear h
 have H' := am H
 clear H
 go_enter Tryz.func81, Tryz.ntmps81
 go_wp2
 go_loopg [0] k (fun kq v0 w' => ∃ (x0_1 : List Int), Aside0 (rf_trim.l0 kq x0_1 = some r) ∧ Aside0 (kq ≤ k) ∧ Aside0 (Kd.V (Kd.int .i64) 3 w' w.heap.size (fun k_ => (P0_ k_ ∨ w.heap.size ≤ k_)) v0 x0_1) ∧ Aside0 (Below w.heap.size w w'))
 case atStart => exact ⟨(l0), H', ⟨Nat.le_refl _⟩, ⟨zq3 HO0.out⟩, ⟨zq1⟩⟩
 case round =>
  clear H'
  obtain ⟨x0_1, HA, HK1, HO_0, HB⟩ := hrel
  cases gk with
  | zero => exact absurd HA.out (by simp [rf_trim.l0])
  | succ k1 =>
   have H := HA.out
   clear HA
   simp only [rf_trim.l0] at H
   by_cases c2 : (x0_1.length : Int) > 0
   ·rw [if_pos c2] at H
    have c2b0 : decide (0 < (x0_1.length : Int)) = true := decide_eq_true c2
    have c2b1 : decide (0 < x0_1.length) = true := decide_eq_true (by omega)
    clear c2
    obtain ⟨ji3, hji3⟩ : ∃ j_ : Int, (wrap64 ((x0_1.length : Int) - 1)) = j_ := ⟨_, rfl⟩
    replace H : (if 0 ≤ (ji3) then (if (ji3) < (x0_1.length : Int) then (if (rd x0_1 (ji3)) = 0 then (if (ji3) ≤ (x0_1.length : Int) then (rf_trim.l0 k1 (x0_1.take ((ji3) : Int).toNat)) else (none)) else (some x0_1)) else (none)) else (none)) = some r := by first | (rw [hji3] at H; exact H) | (simp only [hji3] at H ⊢; exact H)
    have hji3w : (IntKind.i64.wrap ((x0_1.length : Int) - 1)) = ji3 := (i64_w _).trans hji3
    replace H := zn H
    obtain ⟨c4, H⟩ := H
    have c4b0 := decide_eq_true c4
    clear c4
    replace H := zn H
    obtain ⟨c5, H⟩ := H
    have c5b0 := decide_eq_true c5
    clear c5
    by_cases c6 : (rd x0_1 (ji3)) = 0
    ·rw [if_pos c6] at H
     have c6b0 : ((rd x0_1 (ji3)) == 0) = true := beq_iff_eq.mpr c6
     have c6b1 : ((rd x0_1 (ji3)) != 0) = false := bne_eq_false_iff_eq.mpr c6
     clear c6
     have c7b0 := eq_true (zq6 : 0 ≤ (ji3))
     replace H := zn H
     obtain ⟨c8, H⟩ := H
     have c8b0 := eq_true c8
     have c8b1 := decide_eq_true c8
     clear c8
     obtain ⟨y430, hy430⟩ : ∃ y_ : List Int, y_ = (x0_1.take ((ji3) : Int).toNat) := ⟨_, rfl⟩
     try rw [← hy430] at H
     have Ny430 := am hy430
     clear hy430
     have H' := am H
     clear H
     obtain ⟨Ao9, co9, eo9⟩ := Kd.V_slice HO_0.out
     subst eo9
     have p429 : 0 ≤ ((ji3) : Int) := zq6
     have q429 : (ji3) < (x0_1.length : Int) := zq6
     obtain ⟨ad429, e429, hx429_0⟩ := Kd.at_int (Kd.V_reads' HO_0.out).2.2 (ji3) p429 q429
     cases e429
     replace p429 := eq_true p429
     replace q429 := eq_true q429
     have q10 : ((ji3) : Int) ≤ ((x0_1.length : Int) : Int) := zq6
     obtain ⟨i010, hi010, _, hsz10, _⟩ := info_parts info3
     have hroom10 : x0_1.length ≤ co9 := (Kd.V_reads' HO_0.out).2.1
     have hC10 : Kd.F (Kd.int .i64) _ _ (some ad429) x0_1.length x0_1 := (Kd.V_at (base := w.heap.size) HO_0.out).2.2
     have hcut10 := cut_to (P := Tryz.prog) 40 3 .i64 Tryz.underlying40 hi010 (some ad429) x0_1.length co9 (ji3) zq6 q10 hroom10
     have hr10 := Kd.F_take (m := ((ji3) : Int).toNat) hC10 (by omega)
     have hy10 : y430.length = ((ji3) : Int).toNat := (by rw [Ny430.out, List.length_take]; omega)
     rw [← Ny430.out] at hr10
     rw [← hy10] at hcut10
     have HO434 := am (show Kd.V (Kd.int .i64) 3 _ w.heap.size _ (.slice (some ad429) y430.length co9) y430 from Kd.V_mk (by omega) hr10)
     have HC434 := am (show y430.length ≤ co9 from by omega)
     clear hr10 hC10 hroom10 hi010 hsz10
     have KY10 := am hy10
     clear hy10
     replace q10 := eq_true q10
     go_wp2
     go_roundg k1
     case measure => have := HK1.out; omega
     case rel => exact ⟨(y430), (by first | exact H' | (rw [hji3]; exact H')), ⟨by have := HK1.out; omega⟩, ⟨zq3 HO434.out⟩, ⟨zq1⟩⟩
    ·rw [if_neg c6] at H
     have c6b0 : ((rd x0_1 (ji3)) == 0) = false := beq_eq_false_iff_ne.mpr c6
     have c6b1 : ((rd x0_1 (ji3)) != 0) = true := bne_iff_ne.mpr c6
     obtain rfl := Option.some.inj H
     obtain ⟨Ao11, co11, eo11⟩ := Kd.V_slice HO_0.out
     subst eo11
     have p429 : 0 ≤ ((ji3) : Int) := zq6
     have q429 : (ji3) < (x0_1.length : Int) := zq6
     obtain ⟨ad429, e429, hx429_0⟩ := Kd.at_int (Kd.V_reads' HO_0.out).2.2 (ji3) p429 q429
     cases e429
     replace p429 := eq_true p429
     replace q429 := eq_true q429
     go_wp2
     go_ret
     exact ⟨_, by first | rfl | (simp [errW_none, errW_some] <;> rfl) | (simp only [← hji3]; first | rfl | (simp [errW_none, errW_some] <;> rfl)) | (simp [*, errW_none, errW_some] <;> rfl), zq3 HO_0.out, zq1⟩
   ·rw [if_neg c2] at H
    have c2b0 : decide (0 < (x0_1.length : Int)) = false := decide_eq_false c2
    have c2b1 : decide (0 < x0_1.length) = false := decide_eq_false (by omega)
    clear c2
    obtain rfl := Option.some.inj H
    obtain ⟨Ao12, co12, eo12⟩ := Kd.V_slice HO_0.out
    subst eo12
    go_wp2
    go_ret
    exact ⟨_, zq9, zq3 HO_0.out, zq1⟩
def rf_digit.f (l0 : List Int) (a1 : Int) : Option (Int) := if a1 < (l0.length : Int) then (if 0 ≤ a1 then (some (rd l0 a1)) else (none)) else (some 0)
set_option maxHeartbeats 8000000 in
set_option maxRecDepth 100000 in
theorem rf_digit.calls (A0 : Option Addr) (c0 : Nat) (l0 : List Int) (a1 : Int) (r : Int) (w : World) (hr0 : Kd.C (Kd.int .i64) w A0 l0.length l0) (hc0 : l0.length ≤ c0) (h : rf_digit.f l0 a1 = some r) :
  Calls Tryz.prog 92 #[.slice A0 l0.length c0, .int .i64 a1] w fun e w' => e = .returned (.int .i64 r) ∧ Drawn0 w w' := by
 have HR0 := am hr0
 have HC0 := am hc0
 clear hr0 hc0
 have H := h
 unfold rf_digit.f at H
 clear h
 by_cases c3 : a1 < (l0.length : Int)
 ·rw [if_pos c3] at H
  have c3b0 := decide_eq_true c3
  clear c3
  replace H := zn H
  obtain ⟨c4, H⟩ := H
  have c4b0 := decide_eq_true c4
  clear c4
  obtain rfl := Option.some.inj H
  have p426 : 0 ≤ (a1 : Int) := zq6
  have q426 : a1 < (l0.length : Int) := zq6
  obtain ⟨ad426, e426, hx426_0⟩ := Kd.at_int HR0.out a1 p426 q426
  cases e426
  replace p426 := eq_true p426
  replace q426 := eq_true q426
  go_enter Tryz.func92, Tryz.ntmps92
  go_wp2
  go_ret
  exact ⟨by first | rfl | (simp; done) | (simp [*]; done), by repeat (first | exact Drawn0.refl _ | apply Drawn0.step)⟩
 ·rw [if_neg c3] at H
  have c3b0 := decide_eq_false c3
  clear c3
  obtain rfl := Option.some.inj H
  go_enter Tryz.func92, Tryz.ntmps92
  go_wp2
  go_ret
  exact ⟨by first | rfl | (simp; done) | (simp [*]; done), by repeat (first | exact Drawn0.refl _ | apply Drawn0.step)⟩
def rf_SubNat.l0 : Nat → List Int → List Int → List Int → Int → Int → Int → Option (List Int)
 | 0, _, _, _, _, _, _ => none
 | k + 1, x0, x1, x5, x6, x10, x11 => if x11 < x10 then (if 0 ≤ x11 then (if x11 < (x0.length : Int) then ((rf_digit.f x1 x11).bind fun t436 => (if (wrap64 ((wrap64 ((rd x0 x11) - t436)) - x6)) < 0 then (if x5.length < 17592186044416 then (rf_SubNat.l0 k x0 x1 (x5 ++ [wrap64 ((wrap64 ((wrap64 ((rd x0 x11) - t436)) - x6)) + 65536)]) 1 x10 (wrap64 (x11 + 1))) else (none)) else (if x5.length < 17592186044416 then (rf_SubNat.l0 k x0 x1 (x5 ++ [wrap64 ((wrap64 ((rd x0 x11) - t436)) - x6)]) 0 x10 (wrap64 (x11 + 1))) else (none)))) else (none)) else (none)) else ((rf_trim.f k x5).bind fun t443 => (some t443))
def rf_SubNat.f (k : Nat) (l0 : List Int) (l1 : List Int) : Option (List Int) := rf_SubNat.l0 k l0 l1 ([] : List Int) 0 (l0.length : Int) 0
set_option maxHeartbeats 8000000 in
set_option maxRecDepth 100000 in
theorem rf_SubNat.calls (k : Nat) (A0 : Option Addr) (c0 : Nat) (l0 : List Int) (A1 : Option Addr) (c1 : Nat) (l1 : List Int) (r : List Int) (w : World) (hr0 : Kd.C (Kd.int .i64) w A0 l0.length l0) (hc0 : l0.length ≤ c0) (hr1 : Kd.C (Kd.int .i64) w A1 l1.length l1) (hc1 : l1.length ≤ c1) (h : rf_SubNat.f k l0 l1 = some r) :
  Calls Tryz.prog 74 #[.slice A0 l0.length c0, .slice A1 l1.length c1] w fun e w' => ∃ v0_ : Value, e = .returned (v0_) ∧ Kd.V (Kd.int .i64) 3 w' w.heap.size (fun k_ => (w.heap.size ≤ k_)) v0_ r ∧ Below w.heap.size w w' := by
 have HR0 := am hr0
 have HC0 := am hc0
 clear hr0 hc0
 have HR1 := am hr1
 have HC1 := am hc1
 clear hr1 hc1
 have HB := am (Below.refl w.heap.size w)
 have H := h
 unfold rf_SubNat.f at H
 clear h
 have H' := am H
 clear H
 go_enter Tryz.func74, Tryz.ntmps74
 go_wp2
 repeat (go_quiet (fail); try go_wp2)
 go_loopg [5, 6, 11] k (fun kq v5 v6 v11 w' => ∃ (x5_1 : List Int) (x6_1 : Int) (x11_1 : Int), v6 = .int .i64 x6_1 ∧ v11 = .int .i64 x11_1 ∧ Aside0 (rf_SubNat.l0 kq l0 l1 x5_1 x6_1 (l0.length : Int) x11_1 = some r) ∧ Aside0 (kq ≤ k) ∧ Aside0 (Kd.R (Kd.int .i64) 3 w' w.heap.size (fun k_ => (w.heap.size ≤ k_)) v5 x5_1) ∧ Aside0 (Below w.heap.size w w'))
 case atStart => exact ⟨(([] : List Int)), (0), (0), zq8, zq8, H', ⟨Nat.le_refl _⟩, ⟨by first | exact Kd.R_nil _ _ _ _ _ | exact Kd.N_nil _ _ _ _ _ | exact Kd.V_nil _ _ _ _ _ | exact Kd.Q_nil _ _ _ _ _ | exact Kd.S_nil _ _ _ _ _⟩, ⟨zq1⟩⟩
 case round =>
  clear H'
  obtain ⟨x5_1, x6_1, x11_1, rfl, rfl, HA, HK1, HO_5, HB⟩ := hrel
  cases gk with
  | zero => exact absurd HA.out (by simp [rf_SubNat.l0])
  | succ k1 =>
   have H := HA.out
   clear HA
   simp only [rf_SubNat.l0] at H
   by_cases c3 : x11_1 < (l0.length : Int)
   ·rw [if_pos c3] at H
    have c3b0 := decide_eq_true c3
    clear c3
    replace H := zn H
    obtain ⟨c4, H⟩ := H
    have c4b0 := decide_eq_true c4
    clear c4
    replace H := zn H
    obtain ⟨c5, H⟩ := H
    have c5b0 := decide_eq_true c5
    clear c5
    replace H := zj H
    obtain ⟨t436, A6, H⟩ := H
    by_cases c7 : (wrap64 ((wrap64 ((rd l0 x11_1) - t436)) - x6_1)) < 0
    ·rw [if_pos c7] at H
     have c7b0 := decide_eq_true c7
     clear c7
     replace H := zn H
     obtain ⟨c8, H⟩ := H
     have LMc8 := am c8
     clear c8
     obtain ⟨y437, hy437⟩ : ∃ y_ : List Int, y_ = (x5_1 ++ [wrap64 ((wrap64 ((wrap64 ((rd l0 x11_1) - t436)) - x6_1)) + 65536)]) := ⟨_, rfl⟩
     try rw [← hy437] at H
     have Ny437 := am hy437
     clear hy437
     have H' := am H
     clear H
     have p435 : 0 ≤ (x11_1 : Int) := zq6
     have q435 : x11_1 < (l0.length : Int) := zq6
     obtain ⟨ad435, e435, hx435_0⟩ := Kd.at_int HR0.out x11_1 p435 q435
     cases e435
     replace hx435_0 := (HB.out.cell (World.block_lt_of_cell? w _ hx435_0)).trans hx435_0
     replace p435 := eq_true p435
     replace q435 := eq_true q435
     go_wp2_with (first | (go_at_call 92; (with_reducible refine (rf_digit.calls _ _ l1 x11_1 t436 _ ?side1 ?side2 A6.out).mono ?_); (case side1 => exact zc (Kd.C_below HR1.out HB.out)); (case side2 => exact HC1.out); rintro e w' ⟨rfl, ⟨nd, rfl⟩⟩; (try first | exact ⟨rfl, _, World.drewN_drewN _ _ _⟩ | exact ⟨rfl, _, Eq.trans (World.drewN_drewN _ _ _) (congrArg (World.drewN _) (Nat.add_assoc _ _ _))⟩)) | ((with_reducible refine gate_builtin (b := .append) (xs := #[.tmp 28, .tmp 30]) rfl ?_); at_builtin; refine Kd.R_append (Kd.int .i64) (w0 := w) w.heap.size rfl (.tmp 28) (.tmp 30) 40 3 (.int .i64 0) 8 rfl Tryz.underlying40 info3 rfl (by decide) (by omega) u5 x5_1 (wrap64 ((wrap64 ((wrap64 ((rd l0 x11_1) - t436)) - x6_1)) + 65536)) [.int .i64 (wrap64 ((wrap64 ((wrap64 ((rd l0 x11_1) - t436)) - x6_1)) + 65536))] (fun k_ => (w.heap.size ≤ k_)) (fun _ => False) rfl rfl ?aP (fun _ hk => hk.elim) ?aF ?aO ?aB ?aS ?aL ?_; (case aP => exact rfl); (case aB => exact zq1); (case aF => exact (fun k_ hk => (Nat.le_trans (below_size zq1) hk))); (case aO => exact (zq4 HO_5.out)); (case aS => exact (below_size zq1)); (case aL => have := LMc8.out; omega); intro v438 w9 ho hb hg hat; rw [← Ny437.out] at ho; refine zt2 (hb) (ho) ?_; clear HB HO_5; intro HB HO439; clear ho hb hg hat))
     repeat (go_quiet (first | (go_at_call 92; (with_reducible refine (rf_digit.calls _ _ l1 x11_1 t436 _ ?side1 ?side2 A6.out).mono ?_); (case side1 => exact zc (Kd.C_below HR1.out HB.out)); (case side2 => exact HC1.out); rintro e w' ⟨rfl, ⟨nd, rfl⟩⟩; (try first | exact ⟨rfl, _, World.drewN_drewN _ _ _⟩ | exact ⟨rfl, _, Eq.trans (World.drewN_drewN _ _ _) (congrArg (World.drewN _) (Nat.add_assoc _ _ _))⟩)) | ((with_reducible refine gate_builtin (b := .append) (xs := #[.tmp 28, .tmp 30]) rfl ?_); at_builtin; refine Kd.R_append (Kd.int .i64) (w0 := w) w.heap.size rfl (.tmp 28) (.tmp 30) 40 3 (.int .i64 0) 8 rfl Tryz.underlying40 info3 rfl (by decide) (by omega) u5 x5_1 (wrap64 ((wrap64 ((wrap64 ((rd l0 x11_1) - t436)) - x6_1)) + 65536)) [.int .i64 (wrap64 ((wrap64 ((wrap64 ((rd l0 x11_1) - t436)) - x6_1)) + 65536))] (fun k_ => (w.heap.size ≤ k_)) (fun _ => False) rfl rfl ?aP (fun _ hk => hk.elim) ?aF ?aO ?aB ?aS ?aL ?_; (case aP => exact rfl); (case aB => exact zq1); (case aF => exact (fun k_ hk => (Nat.le_trans (below_size zq1) hk))); (case aO => exact (zq4 HO_5.out)); (case aS => exact (below_size zq1)); (case aL => have := LMc8.out; omega); intro v438 w9 ho hb hg hat; rw [← Ny437.out] at ho; refine zt2 (hb) (ho) ?_; clear HB HO_5; intro HB HO439; clear ho hb hg hat)); try go_wp2_with (first | (go_at_call 92; (with_reducible refine (rf_digit.calls _ _ l1 x11_1 t436 _ ?side1 ?side2 A6.out).mono ?_); (case side1 => exact zc (Kd.C_below HR1.out HB.out)); (case side2 => exact HC1.out); rintro e w' ⟨rfl, ⟨nd, rfl⟩⟩; (try first | exact ⟨rfl, _, World.drewN_drewN _ _ _⟩ | exact ⟨rfl, _, Eq.trans (World.drewN_drewN _ _ _) (congrArg (World.drewN _) (Nat.add_assoc _ _ _))⟩)) | ((with_reducible refine gate_builtin (b := .append) (xs := #[.tmp 28, .tmp 30]) rfl ?_); at_builtin; refine Kd.R_append (Kd.int .i64) (w0 := w) w.heap.size rfl (.tmp 28) (.tmp 30) 40 3 (.int .i64 0) 8 rfl Tryz.underlying40 info3 rfl (by decide) (by omega) u5 x5_1 (wrap64 ((wrap64 ((wrap64 ((rd l0 x11_1) - t436)) - x6_1)) + 65536)) [.int .i64 (wrap64 ((wrap64 ((wrap64 ((rd l0 x11_1) - t436)) - x6_1)) + 65536))] (fun k_ => (w.heap.size ≤ k_)) (fun _ => False) rfl rfl ?aP (fun _ hk => hk.elim) ?aF ?aO ?aB ?aS ?aL ?_; (case aP => exact rfl); (case aB => exact zq1); (case aF => exact (fun k_ hk => (Nat.le_trans (below_size zq1) hk))); (case aO => exact (zq4 HO_5.out)); (case aS => exact (below_size zq1)); (case aL => have := LMc8.out; omega); intro v438 w9 ho hb hg hat; rw [← Ny437.out] at ho; refine zt2 (hb) (ho) ?_; clear HB HO_5; intro HB HO439; clear ho hb hg hat)))
     go_roundg k1
     case measure => have := HK1.out; omega
     case rel => exact ⟨(y437), (1), (wrap64 (x11_1 + 1)), zq8, zq8, H', ⟨by have := HK1.out; omega⟩, ⟨zq4 HO439.out⟩, ⟨zq1⟩⟩
    ·rw [if_neg c7] at H
     have c7b0 := decide_eq_false c7
     clear c7
     replace H := zn H
     obtain ⟨c10, H⟩ := H
     have LMc10 := am c10
     clear c10
     obtain ⟨y440, hy440⟩ : ∃ y_ : List Int, y_ = (x5_1 ++ [wrap64 ((wrap64 ((rd l0 x11_1) - t436)) - x6_1)]) := ⟨_, rfl⟩
     try rw [← hy440] at H
     have Ny440 := am hy440
     clear hy440
     have H' := am H
     clear H
     have p435 : 0 ≤ (x11_1 : Int) := zq6
     have q435 : x11_1 < (l0.length : Int) := zq6
     obtain ⟨ad435, e435, hx435_0⟩ := Kd.at_int HR0.out x11_1 p435 q435
     cases e435
     replace hx435_0 := (HB.out.cell (World.block_lt_of_cell? w _ hx435_0)).trans hx435_0
     replace p435 := eq_true p435
     replace q435 := eq_true q435
     go_wp2_with (first | (go_at_call 92; (with_reducible refine (rf_digit.calls _ _ l1 x11_1 t436 _ ?side1 ?side2 A6.out).mono ?_); (case side1 => exact zc (Kd.C_below HR1.out HB.out)); (case side2 => exact HC1.out); rintro e w' ⟨rfl, ⟨nd, rfl⟩⟩; (try first | exact ⟨rfl, _, World.drewN_drewN _ _ _⟩ | exact ⟨rfl, _, Eq.trans (World.drewN_drewN _ _ _) (congrArg (World.drewN _) (Nat.add_assoc _ _ _))⟩)) | ((with_reducible refine gate_builtin (b := .append) (xs := #[.tmp 28, .tmp 30]) rfl ?_); at_builtin; refine Kd.R_append (Kd.int .i64) (w0 := w) w.heap.size rfl (.tmp 28) (.tmp 30) 40 3 (.int .i64 0) 8 rfl Tryz.underlying40 info3 rfl (by decide) (by omega) u5 x5_1 (wrap64 ((wrap64 ((rd l0 x11_1) - t436)) - x6_1)) [.int .i64 (wrap64 ((wrap64 ((rd l0 x11_1) - t436)) - x6_1))] (fun k_ => (w.heap.size ≤ k_)) (fun _ => False) rfl rfl ?aP (fun _ hk => hk.elim) ?aF ?aO ?aB ?aS ?aL ?_; (case aP => exact rfl); (case aB => exact zq1); (case aF => exact (fun k_ hk => (Nat.le_trans (below_size zq1) hk))); (case aO => exact (zq4 HO_5.out)); (case aS => exact (below_size zq1)); (case aL => have := LMc10.out; omega); intro v441 w11 ho hb hg hat; rw [← Ny440.out] at ho; refine zt2 (hb) (ho) ?_; clear HB HO_5; intro HB HO442; clear ho hb hg hat))
     repeat (go_quiet (first | (go_at_call 92; (with_reducible refine (rf_digit.calls _ _ l1 x11_1 t436 _ ?side1 ?side2 A6.out).mono ?_); (case side1 => exact zc (Kd.C_below HR1.out HB.out)); (case side2 => exact HC1.out); rintro e w' ⟨rfl, ⟨nd, rfl⟩⟩; (try first | exact ⟨rfl, _, World.drewN_drewN _ _ _⟩ | exact ⟨rfl, _, Eq.trans (World.drewN_drewN _ _ _) (congrArg (World.drewN _) (Nat.add_assoc _ _ _))⟩)) | ((with_reducible refine gate_builtin (b := .append) (xs := #[.tmp 28, .tmp 30]) rfl ?_); at_builtin; refine Kd.R_append (Kd.int .i64) (w0 := w) w.heap.size rfl (.tmp 28) (.tmp 30) 40 3 (.int .i64 0) 8 rfl Tryz.underlying40 info3 rfl (by decide) (by omega) u5 x5_1 (wrap64 ((wrap64 ((rd l0 x11_1) - t436)) - x6_1)) [.int .i64 (wrap64 ((wrap64 ((rd l0 x11_1) - t436)) - x6_1))] (fun k_ => (w.heap.size ≤ k_)) (fun _ => False) rfl rfl ?aP (fun _ hk => hk.elim) ?aF ?aO ?aB ?aS ?aL ?_; (case aP => exact rfl); (case aB => exact zq1); (case aF => exact (fun k_ hk => (Nat.le_trans (below_size zq1) hk))); (case aO => exact (zq4 HO_5.out)); (case aS => exact (below_size zq1)); (case aL => have := LMc10.out; omega); intro v441 w11 ho hb hg hat; rw [← Ny440.out] at ho; refine zt2 (hb) (ho) ?_; clear HB HO_5; intro HB HO442; clear ho hb hg hat)); try go_wp2_with (first | (go_at_call 92; (with_reducible refine (rf_digit.calls _ _ l1 x11_1 t436 _ ?side1 ?side2 A6.out).mono ?_); (case side1 => exact zc (Kd.C_below HR1.out HB.out)); (case side2 => exact HC1.out); rintro e w' ⟨rfl, ⟨nd, rfl⟩⟩; (try first | exact ⟨rfl, _, World.drewN_drewN _ _ _⟩ | exact ⟨rfl, _, Eq.trans (World.drewN_drewN _ _ _) (congrArg (World.drewN _) (Nat.add_assoc _ _ _))⟩)) | ((with_reducible refine gate_builtin (b := .append) (xs := #[.tmp 28, .tmp 30]) rfl ?_); at_builtin; refine Kd.R_append (Kd.int .i64) (w0 := w) w.heap.size rfl (.tmp 28) (.tmp 30) 40 3 (.int .i64 0) 8 rfl Tryz.underlying40 info3 rfl (by decide) (by omega) u5 x5_1 (wrap64 ((wrap64 ((rd l0 x11_1) - t436)) - x6_1)) [.int .i64 (wrap64 ((wrap64 ((rd l0 x11_1) - t436)) - x6_1))] (fun k_ => (w.heap.size ≤ k_)) (fun _ => False) rfl rfl ?aP (fun _ hk => hk.elim) ?aF ?aO ?aB ?aS ?aL ?_; (case aP => exact rfl); (case aB => exact zq1); (case aF => exact (fun k_ hk => (Nat.le_trans (below_size zq1) hk))); (case aO => exact (zq4 HO_5.out)); (case aS => exact (below_size zq1)); (case aL => have := LMc10.out; omega); intro v441 w11 ho hb hg hat; rw [← Ny440.out] at ho; refine zt2 (hb) (ho) ?_; clear HB HO_5; intro HB HO442; clear ho hb hg hat)))
     go_roundg k1
     case measure => have := HK1.out; omega
     case rel => exact ⟨(y440), (0), (wrap64 (x11_1 + 1)), zq8, zq8, H', ⟨by have := HK1.out; omega⟩, ⟨zq4 HO442.out⟩, ⟨zq1⟩⟩
   ·rw [if_neg c3] at H
    have c3b0 := decide_eq_false c3
    clear c3
    replace H := zj H
    obtain ⟨t443, A12, H⟩ := H
    obtain rfl := Option.some.inj H
    obtain ⟨Ao13, co13, eo13⟩ := Kd.R_slice HO_5.out
    subst eo13
    go_wp2_with (first | (go_at_call 81; (with_reducible refine (rf_trim.calls k1 (fun k_ => some k_ = (.slice Ao13 x5_1.length co13 : Value).ownBlock) _ _ x5_1 t443 _ ?side1 A12.out).mono ?_); (case side1 => exact Kd.R_V (Kd.R_tight rfl (HO_5.out))); rintro e w14 ⟨v444, rfl, ho0, hb⟩; refine zt3 (rb HO_5 hb) (Kd.V_lower (Kd.V_mono (ok' := fun k_ => (w.heap.size ≤ k_)) ho0 (fun k_ hk_ => Or.elim hk_ (fun hs_ => ((HO_5.out).1 k_ hs_.symm)) (fun hn_ => (Nat.le_trans (below_size zq1) hn_)))) (below_size zq1)) (below_step zq1 hb) ?_; clear HO_5 HB; intro HO_5 HO445 HB))
    repeat (go_quiet (first | (go_at_call 81; (with_reducible refine (rf_trim.calls k1 (fun k_ => some k_ = (.slice Ao13 x5_1.length co13 : Value).ownBlock) _ _ x5_1 t443 _ ?side1 A12.out).mono ?_); (case side1 => exact Kd.R_V (Kd.R_tight rfl (HO_5.out))); rintro e w14 ⟨v444, rfl, ho0, hb⟩; refine zt3 (rb HO_5 hb) (Kd.V_lower (Kd.V_mono (ok' := fun k_ => (w.heap.size ≤ k_)) ho0 (fun k_ hk_ => Or.elim hk_ (fun hs_ => ((HO_5.out).1 k_ hs_.symm)) (fun hn_ => (Nat.le_trans (below_size zq1) hn_)))) (below_size zq1)) (below_step zq1 hb) ?_; clear HO_5 HB; intro HO_5 HO445 HB)); try go_wp2_with (first | (go_at_call 81; (with_reducible refine (rf_trim.calls k1 (fun k_ => some k_ = (.slice Ao13 x5_1.length co13 : Value).ownBlock) _ _ x5_1 t443 _ ?side1 A12.out).mono ?_); (case side1 => exact Kd.R_V (Kd.R_tight rfl (HO_5.out))); rintro e w14 ⟨v444, rfl, ho0, hb⟩; refine zt3 (rb HO_5 hb) (Kd.V_lower (Kd.V_mono (ok' := fun k_ => (w.heap.size ≤ k_)) ho0 (fun k_ hk_ => Or.elim hk_ (fun hs_ => ((HO_5.out).1 k_ hs_.symm)) (fun hn_ => (Nat.le_trans (below_size zq1) hn_)))) (below_size zq1)) (below_step zq1 hb) ?_; clear HO_5 HB; intro HO_5 HO445 HB)))
    go_ret
    exact ⟨_, zq9, zq3 HO445.out, zq1⟩
mutual
def rf_AddNat.l0 : Nat → List Int → List Int → List Int → Int → Int → Option (List Int)
 | 0, _, _, _, _, _ => none
 | k + 1, x0, x1, x5, x6, x7 => if x7 < (x0.length : Int) then (rf_AddNat.j1 k x0 x1 x5 x6 x7 true) else (if x7 < (x1.length : Int) then (rf_AddNat.j1 k x0 x1 x5 x6 x7 true) else (rf_AddNat.j1 k x0 x1 x5 x6 x7 (decide (x6 > 0))))
def rf_AddNat.j1 : Nat → List Int → List Int → List Int → Int → Int → Bool → Option (List Int)
 | 0, _, _, _, _, _, _ => none
 | k + 1, x0, x1, x5, x6, x7, x22 => if x22 = true then ((rf_digit.f x0 x7).bind fun t567 => ((rf_digit.f x1 x7).bind fun t568 => (if x5.length < 17592186044416 then (rf_AddNat.l0 k x0 x1 (x5 ++ [Int.tmod (wrap64 ((wrap64 (t567 + t568)) + x6)) 65536]) (wrap64 (Int.tdiv (wrap64 ((wrap64 (t567 + t568)) + x6)) 65536)) (wrap64 (x7 + 1))) else (none)))) else ((rf_trim.f k x5).bind fun t572 => (some t572))
end
def rf_AddNat.f (k : Nat) (l0 : List Int) (l1 : List Int) : Option (List Int) := rf_AddNat.l0 k l0 l1 ([] : List Int) 0 0
set_option maxHeartbeats 8000000 in
set_option maxRecDepth 100000 in
theorem rf_AddNat.calls (k : Nat) (A0 : Option Addr) (c0 : Nat) (l0 : List Int) (A1 : Option Addr) (c1 : Nat) (l1 : List Int) (r : List Int) (w : World) (hr0 : Kd.C (Kd.int .i64) w A0 l0.length l0) (hc0 : l0.length ≤ c0) (hr1 : Kd.C (Kd.int .i64) w A1 l1.length l1) (hc1 : l1.length ≤ c1) (h : rf_AddNat.f k l0 l1 = some r) :
  Calls Tryz.prog 73 #[.slice A0 l0.length c0, .slice A1 l1.length c1] w fun e w' => ∃ v0_ : Value, e = .returned (v0_) ∧ Kd.V (Kd.int .i64) 3 w' w.heap.size (fun k_ => (w.heap.size ≤ k_)) v0_ r ∧ Below w.heap.size w w' := by
 have HR0 := am hr0
 have HC0 := am hc0
 clear hr0 hc0
 have HR1 := am hr1
 have HC1 := am hc1
 clear hr1 hc1
 have HB := am (Below.refl w.heap.size w)
 have H := h
 unfold rf_AddNat.f at H
 clear h
 have H' := am H
 clear H
 go_enter Tryz.func73, Tryz.ntmps73
 go_wp2
 go_loopg [5, 6, 7] k (fun kq v5 v6 v7 w' => ∃ (x5_1 : List Int) (x6_1 : Int) (x7_1 : Int), v6 = .int .i64 x6_1 ∧ v7 = .int .i64 x7_1 ∧ Aside0 (rf_AddNat.l0 kq l0 l1 x5_1 x6_1 x7_1 = some r) ∧ Aside0 (kq ≤ k) ∧ Aside0 (Kd.R (Kd.int .i64) 3 w' w.heap.size (fun k_ => (w.heap.size ≤ k_)) v5 x5_1) ∧ Aside0 (Below w.heap.size w w'))
 case atStart => exact ⟨(([] : List Int)), (0), (0), zq8, zq8, H', ⟨Nat.le_refl _⟩, ⟨by first | exact Kd.R_nil _ _ _ _ _ | exact Kd.N_nil _ _ _ _ _ | exact Kd.V_nil _ _ _ _ _ | exact Kd.Q_nil _ _ _ _ _ | exact Kd.S_nil _ _ _ _ _⟩, ⟨zq1⟩⟩
 case round =>
  clear H'
  obtain ⟨x5_1, x6_1, x7_1, rfl, rfl, HA, HK1, HO_5, HB⟩ := hrel
  cases gk with
  | zero => exact absurd HA.out (by simp [rf_AddNat.l0])
  | succ k1 =>
   have H := HA.out
   clear HA
   simp only [rf_AddNat.l0] at H
   have HC3 := am H
   clear H
   go_upto_region 4 with (fail)
   go_cut [22] (fun v22 wc => ∃ (kq : Nat) (x22_2 : Bool), v22 = .bool x22_2 ∧ Aside0 (rf_AddNat.j1 kq l0 l1 x5_1 x6_1 x7_1 x22_2 = some r) ∧ Aside0 (kq ≤ k1) ∧ Aside0 (Kd.R (Kd.int .i64) 3 wc w.heap.size (fun k_ => (w.heap.size ≤ k_)) u5 x5_1) ∧ Aside0 (Below w.heap.size w wc))
   case first =>
    have H := HC3.out
    clear HC3
    by_cases c4 : x7_1 < (l0.length : Int)
    ·rw [if_pos c4] at H
     have c4b0 := decide_eq_true c4
     clear c4
     (first | rw [c4b0] | (simp only [i64_w, i32_w]; rw [c4b0]) | skip)
     have H' := am H
     clear H
     go_wp2
     go_meet
     case rel => exact ⟨_, (true), zq8, H', ⟨by have := HK1.out; first | omega | exact Nat.le_refl _⟩, ⟨zq4 HO_5.out⟩, ⟨zq1⟩⟩
    ·rw [if_neg c4] at H
     have c4b0 := decide_eq_false c4
     clear c4
     (first | rw [c4b0] | (simp only [i64_w, i32_w]; rw [c4b0]) | skip)
     by_cases c5 : x7_1 < (l1.length : Int)
     ·rw [if_pos c5] at H
      have c5b0 := decide_eq_true c5
      clear c5
      have H' := am H
      clear H
      go_wp2
      go_meet
      case rel => exact ⟨_, (true), zq8, H', ⟨by have := HK1.out; first | omega | exact Nat.le_refl _⟩, ⟨zq4 HO_5.out⟩, ⟨zq1⟩⟩
     ·rw [if_neg c5] at H
      have c5b0 := decide_eq_false c5
      clear c5
      have H' := am H
      clear H
      go_wp2
      go_meet
      case rel => exact ⟨_, (decide (x6_1 > 0)), zq8, H', ⟨by have := HK1.out; first | omega | exact Nat.le_refl _⟩, ⟨zq4 HO_5.out⟩, ⟨zq1⟩⟩
   case rest =>
    clear HC3
    obtain ⟨kq, x22_2, rfl, HA, HJ2, HO_5, HB⟩ := hcut
    cases kq with
    | zero => exact absurd HA.out (by simp [rf_AddNat.j1])
    | succ kj2 =>
     have H := HA.out
     clear HA
     simp only [rf_AddNat.j1] at H
     by_cases c6 : x22_2 = true
     ·subst c6
      have H1 : ((rf_digit.f l0 x7_1).bind fun t567 => ((rf_digit.f l1 x7_1).bind fun t568 => (if x5_1.length < 17592186044416 then (rf_AddNat.l0 kj2 l0 l1 (x5_1 ++ [Int.tmod (wrap64 ((wrap64 (t567 + t568)) + x6_1)) 65536]) (wrap64 (Int.tdiv (wrap64 ((wrap64 (t567 + t568)) + x6_1)) 65536)) (wrap64 (x7_1 + 1))) else (none)))) = some r := by rw [if_pos rfl] at H; exact H
      clear H
      have H := H1
      clear H1
      replace H := zj H
      obtain ⟨t567, A7, H⟩ := H
      replace H := zj H
      obtain ⟨t568, A8, H⟩ := H
      replace H := zn H
      obtain ⟨c9, H⟩ := H
      have LMc9 := am c9
      clear c9
      obtain ⟨y569, hy569⟩ : ∃ y_ : List Int, y_ = (x5_1 ++ [Int.tmod (wrap64 ((wrap64 (t567 + t568)) + x6_1)) 65536]) := ⟨_, rfl⟩
      try rw [← hy569] at H
      have Ny569 := am hy569
      clear hy569
      have H' := am H
      clear H
      go_wp2_with (first | ((with_reducible refine gate_callee (f := 92) rfl ?_); refine goesL_ (some 27) rfl rfl Tryz.func92 (by kernel_rfl) rfl #[.slice A0 l0.length c0, .int .i64 x7_1] rfl zq5 ?_; (with_reducible refine (rf_digit.calls _ _ l0 x7_1 t567 _ ?side1 ?side2 A7.out).mono ?_); (case side1 => exact zc (Kd.C_below HR0.out HB.out)); (case side2 => exact HC0.out); rintro e w' ⟨rfl, ⟨nd, rfl⟩⟩; refine ⟨_, rfl, ?_⟩) | ((with_reducible refine gate_callee (f := 92) rfl ?_); refine goesL_ (some 30) rfl rfl Tryz.func92 (by kernel_rfl) rfl #[.slice A1 l1.length c1, .int .i64 x7_1] rfl zq5 ?_; (with_reducible refine (rf_digit.calls _ _ l1 x7_1 t568 _ ?side1 ?side2 A8.out).mono ?_); (case side1 => exact zc (Kd.C_below HR1.out zq1)); (case side2 => exact HC1.out); rintro e w' ⟨rfl, ⟨nd, rfl⟩⟩; refine ⟨_, rfl, ?_⟩) | ((with_reducible refine gate_builtin (b := .append) (xs := #[.tmp 34, .tmp 37]) rfl ?_); (try (refine gate_guard (by rfl) ?_; dsimp only)); at_builtin; refine Kd.R_append (Kd.int .i64) (w0 := w) w.heap.size rfl (.tmp 34) (.tmp 37) 40 3 (.int .i64 0) 8 rfl Tryz.underlying40 info3 rfl (by decide) (by omega) u5 x5_1 (Int.tmod (wrap64 ((wrap64 (t567 + t568)) + x6_1)) 65536) [.int .i64 (Int.tmod (wrap64 ((wrap64 (t567 + t568)) + x6_1)) 65536)] (fun k_ => (w.heap.size ≤ k_)) (fun _ => False) rfl rfl ?aP (fun _ hk => hk.elim) ?aF ?aO ?aB ?aS ?aL ?_; (case aP => exact rfl); (case aB => exact zq1); (case aF => exact (fun k_ hk => (Nat.le_trans (below_size zq1) hk))); (case aO => exact (zq4 HO_5.out)); (case aS => exact (below_size zq1)); (case aL => have := LMc9.out; omega); intro v570 w10 ho hb hg hat; rw [← Ny569.out] at ho; refine zt2 (hb) (ho) ?_; clear HB HO_5; intro HB HO571; clear ho hb hg hat))
      go_roundg kj2
      case measure => have := HK1.out; have := HJ2.out; omega
      case rel => exact ⟨(y569), (wrap64 (Int.tdiv (wrap64 ((wrap64 (t567 + t568)) + x6_1)) 65536)), (wrap64 (x7_1 + 1)), zq8, zq8, H', ⟨by have := HK1.out; have := HJ2.out; omega⟩, ⟨zq4 HO571.out⟩, ⟨zq1⟩⟩
     ·replace c6 := Bool.eq_false_iff.mpr c6
      subst c6
      have H1 : ((rf_trim.f kj2 x5_1).bind fun t572 => (some t572)) = some r := by rw [if_neg (show ¬ (false = true) by decide)] at H; exact H
      clear H
      have H := H1
      clear H1
      replace H := zj H
      obtain ⟨t572, A11, H⟩ := H
      obtain rfl := Option.some.inj H
      obtain ⟨Ao12, co12, eo12⟩ := Kd.R_slice HO_5.out
      subst eo12
      go_wp2_with (first | ((with_reducible refine gate_callee (f := 81) rfl ?_); refine goesL_ (some 42) rfl rfl Tryz.func81 (by kernel_rfl) rfl #[.slice Ao12 x5_1.length co12] rfl zq5 ?_; (with_reducible refine (rf_trim.calls kj2 (fun k_ => some k_ = (.slice Ao12 x5_1.length co12 : Value).ownBlock) _ _ x5_1 t572 _ ?side1 A11.out).mono ?_); (case side1 => exact Kd.R_V (Kd.R_tight rfl (HO_5.out))); rintro e w13 ⟨v573, rfl, ho0, hb⟩; refine ⟨_, rfl, ?_⟩; refine zt3 (rb HO_5 hb) (Kd.V_lower (Kd.V_mono (ok' := fun k_ => (w.heap.size ≤ k_)) ho0 (fun k_ hk_ => Or.elim hk_ (fun hs_ => ((HO_5.out).1 k_ hs_.symm)) (fun hn_ => (Nat.le_trans (below_size zq1) hn_)))) (below_size zq1)) (below_step zq1 hb) ?_; clear HO_5 HB; intro HO_5 HO574 HB))
      go_ret
      exact ⟨_, zq9, zq3 HO574.out, zq1⟩
def rf_bit.f (l0 : List Int) (a1 : Int) : Option (Int) := (rf_digit.f l0 (wrap64 (Int.tdiv a1 16))).bind fun t446 => (if 0 ≤ (Int.tmod a1 16) then (some (Go.bits .and .i64 (shr .i64 t446 (Int.tmod a1 16)) 1)) else (none))
set_option maxHeartbeats 8000000 in
set_option maxRecDepth 100000 in
theorem rf_bit.calls (A0 : Option Addr) (c0 : Nat) (l0 : List Int) (a1 : Int) (r : Int) (w : World) (hr0 : Kd.C (Kd.int .i64) w A0 l0.length l0) (hc0 : l0.length ≤ c0) (h : rf_bit.f l0 a1 = some r) :
  Calls Tryz.prog 75 #[.slice A0 l0.length c0, .int .i64 a1] w fun e w' => e = .returned (.int .i64 r) ∧ Drawn0 w w' := by
 have HR0 := am hr0
 have HC0 := am hc0
 clear hr0 hc0
 have H := h
 unfold rf_bit.f at H
 clear h
 replace H := zj H
 obtain ⟨t446, A3, H⟩ := H
 obtain ⟨ji4, hji4⟩ : ∃ j_ : Int, (Int.tmod a1 16) = j_ := ⟨_, rfl⟩
 replace H : (if 0 ≤ (ji4) then (some (Go.bits .and .i64 (shr .i64 t446 (ji4)) 1)) else (none)) = some r := by first | (rw [hji4] at H; exact H) | (simp only [hji4] at H ⊢; exact H)
 (try rw [hji4] at A3)
 replace H := zn H
 obtain ⟨c5, H⟩ := H
 have c5b0 := eq_true c5
 have c5b1 := decide_eq_true c5
 clear c5
 obtain ⟨ji6, hji6⟩ : ∃ j_ : Int, (shr .i64 t446 (ji4)) = j_ := ⟨_, rfl⟩
 replace H : (some (Go.bits .and .i64 (ji6) 1)) = some r := by first | (rw [hji6] at H; exact H) | (simp only [hji6] at H ⊢; exact H)
 (try rw [hji6] at A3)
 have hji6_ : (t446 / 2 ^ min (ji4).toNat 64) = ji6 := hji6
 have hji6z : (ji4) ≤ 64 → (t446 / 2 ^ (ji4).toNat) = ji6 := shr_small hji6
 obtain rfl := Option.some.inj H
 go_enter Tryz.func75, Tryz.ntmps75
 go_wp2_with (first | ((with_reducible refine gate_callee (f := 92) rfl ?_); refine goesL_ (some 8) rfl rfl Tryz.func92 (by kernel_rfl) rfl #[.slice A0 l0.length c0, .int .i64 (wrap64 (Int.tdiv a1 16))] rfl zq5 ?_; (with_reducible refine (rf_digit.calls _ _ l0 (wrap64 (Int.tdiv a1 16)) t446 _ ?side1 ?side2 A3.out).mono ?_); (case side1 => exact zc (HR0.out)); (case side2 => exact HC0.out); rintro e w' ⟨rfl, ⟨nd, rfl⟩⟩; refine ⟨_, rfl, ?_⟩))
 go_ret
 exact ⟨by first | rfl | (simp; done) | (simp only [← hji4, ← hji6] <;> (first | rfl | simp)) | (simp [*]; done), by repeat (first | exact Drawn0.refl _ | apply Drawn0.step)⟩
def slices_Clone_uint32_uint32.f (l0 : List Int) : Option (List Int) := if l0.length < 35184372088832 then some l0 else none
set_option maxHeartbeats 8000000 in
set_option maxRecDepth 100000 in
theorem slices_Clone_uint32_uint32.calls (A0 : Option Addr) (c0 : Nat) (l0 : List Int) (r : List Int) (w : World) (hr0 : Kd.C (Kd.int .u32) w A0 l0.length l0) (hc0 : l0.length ≤ c0) (h : slices_Clone_uint32_uint32.f l0 = some r) :
  Calls Tryz.prog 88 #[.slice A0 l0.length c0] w fun e w' => ∃ v0_ : Value, e = .returned (v0_) ∧ Kd.R (Kd.int .u32) 73 w' w.heap.size (fun _ => True) v0_ r ∧ Below w.heap.size w w' := by
 unfold slices_Clone_uint32_uint32.f at h
 split at h
 ·rename_i hlim
  obtain rfl := Option.some.inj h
  clear h
  rcases A0 with _ | ad
  ·have h0 : l0 = [] := by
    rcases Nat.eq_zero_or_pos l0.length with h0 | h0
    ·exact List.eq_nil_of_length_eq_zero h0
    ·obtain ⟨ad, h, _⟩ := Kd.at_int hr0 0 (by omega) (by omega)
     cases h
   subst h0
   clear hr0 hc0 hlim
   have hn1 : ∀ W : World, (binOp .eql 22 (.slice none ([] : List Int).length c0) (.slice none 0 0)).run Tryz.prog W = .ok (.bool true) W := fun W => Lib.run_eql_slice_nil W 22 73 none _ c0 0 0 Tryz.underlying22
   have hn2 : ∀ W : World, (binOp .eql 22 (.slice none 0 c0) (.slice none 0 0)).run Tryz.prog W = .ok (.bool true) W := fun W => Lib.run_eql_slice_nil W 22 73 none _ c0 0 0 Tryz.underlying22
   go_enter Tryz.func88, Tryz.ntmps88
   go_wp2
   go_ret
   exact ⟨_, rfl, Kd.R_nil _ _ _ _ _, Below.refl _ _⟩
  ·have HR0 := am hr0
   have HL0 := am hlim
   clear hr0 hc0 hlim
   have hn1 : ∀ W : World, (binOp .eql 22 (.slice (some ad) l0.length c0) (.slice none 0 0)).run Tryz.prog W = .ok (.bool false) W := fun W => Lib.run_eql_slice_nil W 22 73 (some ad) _ c0 0 0 Tryz.underlying22
   go_enter Tryz.func88, Tryz.ntmps88
   go_wp2_with (first | ((with_reducible refine gate_dst (N := 5) rfl ?_); refine Kd.R_lit (Kd.int .u32) _ 73 ?hg (N := 5) ?hd (xs := ([] : List Int)) (inner := []) (ok := fun _ => True) (okp := fun _ => True) ?hr ?hp (fun _ hk => hk) trivial (Below.refl _ _) (Nat.le_refl _) (by simp) ?_; (case hd => rfl); (case hg => rfl); (case hr => exact zr); (case hp => exact Reps.none _ _); intro v109 w3 ho4 hb hg_ hnew_; have HO := am ho4; have HB := am hb; clear hg_ hnew_ ho4 hb) | (at_builtin; refine Kd.R_append_rows (Kd.int .u32) (w0 := w) w.heap.size rfl (.tmp 5) (.tmp 6) 22 73 (.int .u32 0) 4 rfl Tryz.underlying22 info73 rfl (by decide) (by omega) v109 [] l0 _ _ _ (fun _ => True) (fun _ => False) rfl rfl ?aO ?aR (fun _ _ h => h) (fun _ h => h.elim) ?aF ?aB ?aS ?aL ?_; (case aR => exact Kd.C_below HR0.out HB.out); (case aB => exact HB.out); (case aF => exact fun _ _ => trivial); (case aO => exact HO.out); (case aS => exact HB.out.size); (case aL => have := HL0.out; simp; omega); intro v226 w24 ho hb hg hat; have HO2 := am ho; have HB2 := am hb; clear ho hb hg hat))
   go_ret
   exact ⟨_, rfl, by simpa using HO2.out, HB2.out⟩
 ·cases h
def copy_e73.f (l0 : List Int) (l1 : List Int) : Option (Int × List Int) := some (mn (l0.length : Int) (l1.length : Int), l1.take l0.length ++ l0.drop l1.length)
theorem copy_e73.calls (P0_ : Nat → Prop) (u9000_ : Value) (l0 : List Int) (A1 : Option Addr) (c1 : Nat) (l1 : List Int) (r1 : Int) (r2 : List Int) (w0 w : World) (hB : Below w0.heap.size w0 w) (ho0 : Kd.R (Kd.int .u32) 73 w w0.heap.size P0_ u9000_ l0) (hr1 : ∀ W_, Kept w W_ (fun k_ => P0_ k_) → Kd.C (Kd.int .u32) W_ A1 l1.length l1) (hc1 : l1.length ≤ c1) (h : copy_e73.f l0 l1 = some (r1, r2)) :
  CopyCalls Tryz.prog 22 #[u9000_, .slice A1 l1.length c1] w fun e w' => e = .returned (.int .i64 r1) ∧ Kd.R (Kd.int .u32) 73 w' w0.heap.size (fun k_ => (P0_ k_ ∨ w.heap.size ≤ k_)) u9000_ r2 ∧ Below w0.heap.size w0 w' ∧ Kept w w' (fun k_ => P0_ k_) := by
 simp only [copy_e73.f, Option.some.injEq, Prod.mk.injEq] at h
 obtain ⟨rfl, rfl⟩ := h
 exact copy_calls_any Tryz.underlying22 (by kernel_rfl) P0_ u9000_ l0 A1 c1 l1 w0 w hB ho0 hr1
def nat_Trim.l0 : Nat → List Int → Option (List Int)
 | 0, _ => none
 | k + 1, x0 => if (x0.length : Int) > 0 then (if 0 ≤ (wrap64 ((x0.length : Int) - 1)) then (if (wrap64 ((x0.length : Int) - 1)) < (x0.length : Int) then (if (rd x0 (wrap64 ((x0.length : Int) - 1))) = 0 then (if (wrap64 ((x0.length : Int) - 1)) ≤ (x0.length : Int) then (nat_Trim.l0 k (x0.take ((wrap64 ((x0.length : Int) - 1)) : Int).toNat)) else (none)) else (some x0)) else (none)) else (none)) else (some x0)
def nat_Trim.f (k : Nat) (l0 : List Int) : Option (List Int) := nat_Trim.l0 k l0
set_option maxHeartbeats 8000000 in
set_option maxRecDepth 100000 in
theorem nat_Trim.calls (k : Nat) (P0_ : Nat → Prop) (A0 : Option Addr) (c0 : Nat) (l0 : List Int) (r : List Int) (w : World) (hs0 : Kd.V (Kd.int .u32) 73 w w.heap.size (fun k_ => P0_ k_) (.slice A0 l0.length c0) l0) (h : nat_Trim.f k l0 = some r) :
  Calls Tryz.prog 62 #[.slice A0 l0.length c0] w fun e w' => ∃ v0_ : Value, e = .returned (v0_) ∧ Kd.V (Kd.int .u32) 73 w' w.heap.size (fun k_ => (P0_ k_ ∨ w.heap.size ≤ k_)) v0_ r ∧ Below w.heap.size w w' := by
 have HO0 := am (show Kd.V (Kd.int .u32) 73 w w.heap.size (fun k_ => (P0_ k_ ∨ w.heap.size ≤ k_)) (.slice A0 l0.length c0) l0 from Kd.V_mono hs0 (fun k_ hk => .inl hk))
 have HB := am (Below.refl w.heap.size w)
 have H := h
 unfold nat_Trim.f at H
 clear h
 have H' := am H
 clear H
 go_enter Tryz.func62, Tryz.ntmps62
 go_wp2
 go_loopg [0] k (fun kq v0 w' => ∃ (x0_1 : List Int), Aside0 (nat_Trim.l0 kq x0_1 = some r) ∧ Aside0 (kq ≤ k) ∧ Aside0 (Kd.V (Kd.int .u32) 73 w' w.heap.size (fun k_ => (P0_ k_ ∨ w.heap.size ≤ k_)) v0 x0_1) ∧ Aside0 (Below w.heap.size w w'))
 case atStart => exact ⟨(l0), H', ⟨Nat.le_refl _⟩, ⟨zq3 HO0.out⟩, ⟨zq1⟩⟩
 case round =>
  clear H'
  obtain ⟨x0_1, HA, HK1, HO_0, HB⟩ := hrel
  cases gk with
  | zero => exact absurd HA.out (by simp [nat_Trim.l0])
  | succ k1 =>
   have H := HA.out
   clear HA
   simp only [nat_Trim.l0] at H
   by_cases c2 : (x0_1.length : Int) > 0
   ·rw [if_pos c2] at H
    have c2b0 : decide (0 < (x0_1.length : Int)) = true := decide_eq_true c2
    have c2b1 : decide (0 < x0_1.length) = true := decide_eq_true (by omega)
    clear c2
    obtain ⟨ji3, hji3⟩ : ∃ j_ : Int, (wrap64 ((x0_1.length : Int) - 1)) = j_ := ⟨_, rfl⟩
    replace H : (if 0 ≤ (ji3) then (if (ji3) < (x0_1.length : Int) then (if (rd x0_1 (ji3)) = 0 then (if (ji3) ≤ (x0_1.length : Int) then (nat_Trim.l0 k1 (x0_1.take ((ji3) : Int).toNat)) else (none)) else (some x0_1)) else (none)) else (none)) = some r := by first | (rw [hji3] at H; exact H) | (simp only [hji3] at H ⊢; exact H)
    have hji3w : (IntKind.i64.wrap ((x0_1.length : Int) - 1)) = ji3 := (i64_w _).trans hji3
    replace H := zn H
    obtain ⟨c4, H⟩ := H
    have c4b0 := decide_eq_true c4
    clear c4
    replace H := zn H
    obtain ⟨c5, H⟩ := H
    have c5b0 := decide_eq_true c5
    clear c5
    by_cases c6 : (rd x0_1 (ji3)) = 0
    ·rw [if_pos c6] at H
     have c6b0 : ((rd x0_1 (ji3)) == 0) = true := beq_iff_eq.mpr c6
     have c6b1 : ((rd x0_1 (ji3)) != 0) = false := bne_eq_false_iff_eq.mpr c6
     clear c6
     have c7b0 := eq_true (zq6 : 0 ≤ (ji3))
     replace H := zn H
     obtain ⟨c8, H⟩ := H
     have c8b0 := eq_true c8
     have c8b1 := decide_eq_true c8
     clear c8
     obtain ⟨y102, hy102⟩ : ∃ y_ : List Int, y_ = (x0_1.take ((ji3) : Int).toNat) := ⟨_, rfl⟩
     try rw [← hy102] at H
     have Ny102 := am hy102
     clear hy102
     have H' := am H
     clear H
     obtain ⟨Ao9, co9, eo9⟩ := Kd.V_slice HO_0.out
     subst eo9
     have p101 : 0 ≤ ((ji3) : Int) := zq6
     have q101 : (ji3) < (x0_1.length : Int) := zq6
     obtain ⟨ad101, e101, hx101_0⟩ := Kd.at_int (Kd.V_reads' HO_0.out).2.2 (ji3) p101 q101
     cases e101
     replace p101 := eq_true p101
     replace q101 := eq_true q101
     have q10 : ((ji3) : Int) ≤ ((x0_1.length : Int) : Int) := zq6
     obtain ⟨i010, hi010, _, hsz10, _⟩ := info_parts info73
     have hroom10 : x0_1.length ≤ co9 := (Kd.V_reads' HO_0.out).2.1
     have hC10 : Kd.F (Kd.int .u32) _ _ (some ad101) x0_1.length x0_1 := (Kd.V_at (base := w.heap.size) HO_0.out).2.2
     have hcut10 := cut_to (P := Tryz.prog) 22 73 .i64 Tryz.underlying22 hi010 (some ad101) x0_1.length co9 (ji3) zq6 q10 hroom10
     have hr10 := Kd.F_take (m := ((ji3) : Int).toNat) hC10 (by omega)
     have hy10 : y102.length = ((ji3) : Int).toNat := (by rw [Ny102.out, List.length_take]; omega)
     rw [← Ny102.out] at hr10
     rw [← hy10] at hcut10
     have HO106 := am (show Kd.V (Kd.int .u32) 73 _ w.heap.size _ (.slice (some ad101) y102.length co9) y102 from Kd.V_mk (by omega) hr10)
     have HC106 := am (show y102.length ≤ co9 from by omega)
     clear hr10 hC10 hroom10 hi010 hsz10
     have KY10 := am hy10
     clear hy10
     replace q10 := eq_true q10
     go_wp2
     go_roundg k1
     case measure => have := HK1.out; omega
     case rel => exact ⟨(y102), (by first | exact H' | (rw [hji3]; exact H')), ⟨by have := HK1.out; omega⟩, ⟨zq3 HO106.out⟩, ⟨zq1⟩⟩
    ·rw [if_neg c6] at H
     have c6b0 : ((rd x0_1 (ji3)) == 0) = false := beq_eq_false_iff_ne.mpr c6
     have c6b1 : ((rd x0_1 (ji3)) != 0) = true := bne_iff_ne.mpr c6
     obtain rfl := Option.some.inj H
     obtain ⟨Ao11, co11, eo11⟩ := Kd.V_slice HO_0.out
     subst eo11
     have p101 : 0 ≤ ((ji3) : Int) := zq6
     have q101 : (ji3) < (x0_1.length : Int) := zq6
     obtain ⟨ad101, e101, hx101_0⟩ := Kd.at_int (Kd.V_reads' HO_0.out).2.2 (ji3) p101 q101
     cases e101
     replace p101 := eq_true p101
     replace q101 := eq_true q101
     go_wp2
     go_ret
     exact ⟨_, by first | rfl | (simp [errW_none, errW_some] <;> rfl) | (simp only [← hji3]; first | rfl | (simp [errW_none, errW_some] <;> rfl)) | (simp [*, errW_none, errW_some] <;> rfl), zq3 HO_0.out, zq1⟩
   ·rw [if_neg c2] at H
    have c2b0 : decide (0 < (x0_1.length : Int)) = false := decide_eq_false c2
    have c2b1 : decide (0 < x0_1.length) = false := decide_eq_false (by omega)
    clear c2
    obtain rfl := Option.some.inj H
    obtain ⟨Ao12, co12, eo12⟩ := Kd.V_slice HO_0.out
    subst eo12
    go_wp2
    go_ret
    exact ⟨_, zq9, zq3 HO_0.out, zq1⟩
def nat_Of.f (k : Nat) (a0 : Int) : Option (List Int) := (nat_Trim.f k (([(a0) % 4294967296, (a0 / 4294967296) % 4294967296] : List Int))).bind fun t110 => (some t110)
set_option maxHeartbeats 8000000 in
set_option maxRecDepth 100000 in
theorem nat_Of.calls (k : Nat) (a0 : Int) (r : List Int) (w : World) (h : nat_Of.f k a0 = some r) :
  Calls Tryz.prog 54 #[.int .u64 a0] w fun e w' => ∃ v0_ : Value, e = .returned (v0_) ∧ Kd.V (Kd.int .u32) 73 w' w.heap.size (fun k_ => (w.heap.size ≤ k_)) v0_ r ∧ Below w.heap.size w w' := by
 have HB := am (Below.refl w.heap.size w)
 have H := h
 unfold nat_Of.f at H
 clear h
 obtain ⟨y107, hy107⟩ : ∃ y_ : List Int, y_ = (([(a0) % 4294967296, (a0 / 4294967296) % 4294967296] : List Int)) := ⟨_, rfl⟩
 try rw [← hy107] at H
 have Ny107 := am hy107
 clear hy107
 replace H := zj H
 obtain ⟨t110, A2, H⟩ := H
 obtain rfl := Option.some.inj H
 go_enter Tryz.func54, Tryz.ntmps54
 go_wp2_with (first | ((with_reducible refine gate_dst (N := 8) rfl ?_); refine Kd.R_lit (Kd.int .u32) _ 73 ?hg (N := 8) ?hd (xs := ([(a0) % 4294967296, (a0 / 4294967296) % 4294967296] : List Int)) (inner := [.int .u32 ((a0) % 4294967296), .int .u32 ((a0 / 4294967296) % 4294967296)]) (ok := fun _ => True) (okp := fun _ => True) ?hr ?hp (fun _ hk => hk) trivial (Below.refl _ _) (Nat.le_refl _) (by simp) ?_; (case hd => rfl); (case hg => rfl); (case hr => exact zr); (case hp => exact (Reps.one (show Kd.M (Kd.int .u32) _ _ _ ((a0) % 4294967296) [.int .u32 ((a0) % 4294967296)] from rfl) (Reps.one (show Kd.M (Kd.int .u32) _ _ _ ((a0 / 4294967296) % 4294967296) [.int .u32 ((a0 / 4294967296) % 4294967296)] from rfl) (Reps.none _ _)))); intro v108 w3 ho4 hb hg_ hnew_; clear hg_ hnew_; (first | rw [← Ny107.out] at ho4 | (simp only [Int.reduceToNat] at ho4; rw [← Ny107.out] at ho4)); refine zt2 (Kd.R_lower (Kd.R_newM (M := fun k_ => (w.heap.size ≤ k_)) ho4 (below_size zq1) (fun k_ h_ => h_)) (below_size zq1)) (below_step zq1 hb) ?_; clear HB; intro HO109 HB; clear hb ho4; obtain ⟨Ao5, co5, eo5⟩ := Kd.R_slice HO109.out; subst eo5) | ((with_reducible refine gate_callee (f := 62) rfl ?_); refine goesL_ (some 9) rfl rfl Tryz.func62 (by kernel_rfl) rfl #[.slice Ao5 y107.length co5] rfl zq5 ?_; (with_reducible refine (nat_Trim.calls k (fun k_ => some k_ = (.slice Ao5 y107.length co5 : Value).ownBlock) _ _ y107 t110 _ ?side1 A2.out).mono ?_); (case side1 => exact Kd.R_V (Kd.R_tight rfl (HO109.out))); rintro e w6 ⟨v111, rfl, ho0, hb⟩; refine ⟨_, rfl, ?_⟩; refine zt3 (rb HO109 hb) (Kd.V_lower (Kd.V_mono (ok' := fun k_ => (w.heap.size ≤ k_)) ho0 (fun k_ hk_ => Or.elim hk_ (fun hs_ => ((HO109.out).1 k_ hs_.symm).1) (fun hn_ => (Nat.le_trans (below_size zq1) hn_)))) (below_size zq1)) (below_step zq1 hb) ?_; clear HO109 HB; intro HO109 HO112 HB))
 go_ret
 exact ⟨_, zq9, zq3 HO112.out, zq1⟩
def nat_Shl.l0 : Nat → Int → List Int → List Int → Int → Int → Option (List Int)
 | 0, _, _, _, _, _ => none
 | k + 1, x1, x5, x19, x20, x21 => if x21 < x20 then (if 0 ≤ x21 then (if x21 < (x19.length : Int) then (if 0 ≤ (Int.tmod x1 32) then (if 0 ≤ (wrap64 (x21 + (wrap64 (Int.tdiv x1 32)))) then (if (wrap64 (x21 + (wrap64 (Int.tdiv x1 32)))) < (x5.length : Int) then ((some (x5.set ((wrap64 (x21 + (wrap64 (Int.tdiv x1 32)))) : Int).toNat (Go.bits .or .u32 (rd x5 (wrap64 (x21 + (wrap64 (Int.tdiv x1 32))))) ((shl .u64 (IntKind.u64.wrap (rd x19 x21)) (Int.tmod x1 32)) % 4294967296)) : List Int)).bind fun y118 => (if 0 ≤ (wrap64 ((wrap64 (x21 + (wrap64 (Int.tdiv x1 32)))) + 1)) then (if (wrap64 ((wrap64 (x21 + (wrap64 (Int.tdiv x1 32)))) + 1)) < (x5.length : Int) then (nat_Shl.l0 k x1 (y118.set ((wrap64 ((wrap64 (x21 + (wrap64 (Int.tdiv x1 32)))) + 1)) : Int).toNat (Go.bits .or .u32 (rd y118 (wrap64 ((wrap64 (x21 + (wrap64 (Int.tdiv x1 32)))) + 1))) (((shl .u64 (IntKind.u64.wrap (rd x19 x21)) (Int.tmod x1 32)) / 4294967296) % 4294967296))) x19 x20 (wrap64 (x21 + 1))) else (none)) else (none))) else (none)) else (none)) else (none)) else (none)) else (none)) else ((nat_Trim.f k x5).bind fun t121 => (some t121))
def nat_Shl.f (k : Nat) (l0 : List Int) (a1 : Int) : Option (List Int) := if (l0.length : Int) = 0 then (some ([] : List Int)) else (if 0 ≤ (wrap64 ((wrap64 ((l0.length : Int) + (wrap64 (Int.tdiv a1 32)))) + 1)) then (if (wrap64 ((wrap64 ((l0.length : Int) + (wrap64 (Int.tdiv a1 32)))) + 1) : Int).toNat ≤ 70368744177664 then (nat_Shl.l0 k a1 (List.replicate (wrap64 ((wrap64 ((l0.length : Int) + (wrap64 (Int.tdiv a1 32)))) + 1) : Int).toNat 0) l0 (l0.length : Int) 0) else (none)) else (none))
set_option maxHeartbeats 8000000 in
set_option maxRecDepth 100000 in
theorem nat_Shl.calls (k : Nat) (A0 : Option Addr) (c0 : Nat) (l0 : List Int) (a1 : Int) (r : List Int) (w : World) (hr0 : Kd.C (Kd.int .u32) w A0 l0.length l0) (hc0 : l0.length ≤ c0) (h : nat_Shl.f k l0 a1 = some r) :
  Calls Tryz.prog 55 #[.slice A0 l0.length c0, .int .i64 a1] w fun e w' => ∃ v0_ : Value, e = .returned (v0_) ∧ Kd.V (Kd.int .u32) 73 w' w.heap.size (fun k_ => (w.heap.size ≤ k_)) v0_ r ∧ Below w.heap.size w w' := by
 have HR0 := am hr0
 have HC0 := am hc0
 clear hr0 hc0
 have HB := am (Below.refl w.heap.size w)
 have H := h
 unfold nat_Shl.f at H
 clear h
 by_cases c3 : (l0.length : Int) = 0
 ·rw [if_pos c3] at H
  have c3b0 : ((l0.length : Int) == 0) = true := beq_iff_eq.mpr c3
  have c3b1 : ((l0.length : Int) != 0) = false := bne_eq_false_iff_eq.mpr c3
  clear c3
  obtain rfl := Option.some.inj H
  go_enter Tryz.func55, Tryz.ntmps55
  go_wp2
  go_ret
  exact ⟨_, zq9, Kd.V_nil _ _ _ _ _, zq1⟩
 ·rw [if_neg c3] at H
  have c3b0 : ((l0.length : Int) == 0) = false := beq_eq_false_iff_ne.mpr c3
  have c3b1 : ((l0.length : Int) != 0) = true := bne_iff_ne.mpr c3
  have c3b2 : ¬ (l0 = []) := fun h_ => c3 (by rw [h_]; rfl)
  obtain ⟨ji4, hji4⟩ : ∃ j_ : Int, (wrap64 ((wrap64 ((l0.length : Int) + (wrap64 (Int.tdiv a1 32)))) + 1)) = j_ := ⟨_, rfl⟩
  replace H : (if 0 ≤ (ji4) then (if (ji4 : Int).toNat ≤ 70368744177664 then (nat_Shl.l0 k a1 (List.replicate (ji4 : Int).toNat 0) l0 (l0.length : Int) 0) else (none)) else (none)) = some r := by first | (rw [hji4] at H; exact H) | (simp only [hji4] at H ⊢; exact H)
  have hji4w : (IntKind.i64.wrap ((wrap64 ((l0.length : Int) + (wrap64 (Int.tdiv a1 32)))) + 1)) = ji4 := (i64_w _).trans hji4
  replace H := zn H
  obtain ⟨c5, H⟩ := H
  have c5b0 := eq_true c5
  have c5b1 := decide_eq_true c5
  clear c5
  replace H := zn H
  obtain ⟨c6, H⟩ := H
  have c6b0 := eq_true c6
  have c6b1 := decide_eq_true c6
  clear c6
  obtain ⟨y113, hy113⟩ : ∃ y_ : List Int, y_ = (List.replicate (ji4 : Int).toNat 0) := ⟨_, rfl⟩
  try rw [← hy113] at H
  have Ny113 := am hy113
  clear hy113
  have H' := am H
  clear H
  go_enter Tryz.func55, Tryz.ntmps55
  go_wp2_with (first | ((with_reducible refine gate_dst (N := 18) rfl ?_); refine Kd.R_make (Kd.int .u32) _ 73 rfl (N := 18) rfl 22 _ _ rfl ji4 rfl rfl Tryz.underlying22 (.int .u32 0) 4 info73 rfl (by decide) (by omega) 0 (ok := fun _ => True) (okp := fun _ => True) rfl (fun _ hk => hk) trivial zq6 (Nat.le_trans (Nat.mul_le_mul_right _ (zq6 : ji4.toNat ≤ 70368744177664)) (by omega)) (Below.refl _ _) (Nat.le_refl _) ?_; intro v114 w7 ho8 hb hg_ hnew_; clear hg_ hnew_; (first | rw [← Ny113.out] at ho8 | (simp only [Int.reduceToNat] at ho8; rw [← Ny113.out] at ho8)); refine zt2 (Kd.R_lower (Kd.R_newM (M := fun k_ => (w.heap.size ≤ k_)) ho8 (below_size zq1) (fun k_ h_ => h_)) (below_size zq1)) (below_step zq1 hb) ?_; clear HB; intro HO115 HB; clear hb ho8))
  go_loopg [21] k (fun kq v21 w' => ∃ (x5_1 : List Int) (x21_1 : Int), v21 = .int .i64 x21_1 ∧ Aside0 (nat_Shl.l0 kq a1 x5_1 l0 (l0.length : Int) x21_1 = some r) ∧ Aside0 (kq ≤ k) ∧ Aside0 (Kd.R (Kd.int .u32) 73 w' w.heap.size (fun k_ => (w.heap.size ≤ k_)) v114 x5_1) ∧ Aside0 (Below w.heap.size w w'))
  case atStart => exact ⟨(y113), (0), zq8, H', ⟨Nat.le_refl _⟩, ⟨zwR (h := by exact Kd.R_mono HO115.out (fun _ hk => hk.1))⟩, ⟨zq1⟩⟩
  case round =>
   clear H'
   obtain ⟨x5_1, x21_1, rfl, HA, HK1, HO_5, HB⟩ := hrel
   cases gk with
   | zero => exact absurd HA.out (by simp [nat_Shl.l0])
   | succ k1 =>
    have H := HA.out
    clear HA
    simp only [nat_Shl.l0] at H
    by_cases c9 : x21_1 < (l0.length : Int)
    ·rw [if_pos c9] at H
     have c9b0 := decide_eq_true c9
     clear c9
     replace H := zn H
     obtain ⟨c10, H⟩ := H
     have c10b0 := decide_eq_true c10
     clear c10
     replace H := zn H
     obtain ⟨c11, H⟩ := H
     have c11b0 := decide_eq_true c11
     clear c11
     obtain ⟨ji12, hji12⟩ : ∃ j_ : Int, (Int.tmod a1 32) = j_ := ⟨_, rfl⟩
     replace H : (if 0 ≤ (ji12) then (if 0 ≤ (wrap64 (x21_1 + (wrap64 (Int.tdiv a1 32)))) then (if (wrap64 (x21_1 + (wrap64 (Int.tdiv a1 32)))) < (x5_1.length : Int) then ((some (x5_1.set ((wrap64 (x21_1 + (wrap64 (Int.tdiv a1 32)))) : Int).toNat (Go.bits .or .u32 (rd x5_1 (wrap64 (x21_1 + (wrap64 (Int.tdiv a1 32))))) ((shl .u64 (IntKind.u64.wrap (rd l0 x21_1)) (ji12)) % 4294967296)) : List Int)).bind fun y118 => (if 0 ≤ (wrap64 ((wrap64 (x21_1 + (wrap64 (Int.tdiv a1 32)))) + 1)) then (if (wrap64 ((wrap64 (x21_1 + (wrap64 (Int.tdiv a1 32)))) + 1)) < (x5_1.length : Int) then (nat_Shl.l0 k1 a1 (y118.set ((wrap64 ((wrap64 (x21_1 + (wrap64 (Int.tdiv a1 32)))) + 1)) : Int).toNat (Go.bits .or .u32 (rd y118 (wrap64 ((wrap64 (x21_1 + (wrap64 (Int.tdiv a1 32)))) + 1))) (((shl .u64 (IntKind.u64.wrap (rd l0 x21_1)) (ji12)) / 4294967296) % 4294967296))) l0 (l0.length : Int) (wrap64 (x21_1 + 1))) else (none)) else (none))) else (none)) else (none)) else (none)) = some r := by first | (rw [hji12] at H; exact H) | (simp only [hji12] at H ⊢; exact H)
     replace H := zn H
     obtain ⟨c13, H⟩ := H
     have c13b0 := eq_true c13
     have c13b1 := decide_eq_true c13
     clear c13
     obtain ⟨ji14, hji14⟩ : ∃ j_ : Int, (shl .u64 (IntKind.u64.wrap (rd l0 x21_1)) (ji12)) = j_ := ⟨_, rfl⟩
     replace H : (if 0 ≤ (wrap64 (x21_1 + (wrap64 (Int.tdiv a1 32)))) then (if (wrap64 (x21_1 + (wrap64 (Int.tdiv a1 32)))) < (x5_1.length : Int) then ((some (x5_1.set ((wrap64 (x21_1 + (wrap64 (Int.tdiv a1 32)))) : Int).toNat (Go.bits .or .u32 (rd x5_1 (wrap64 (x21_1 + (wrap64 (Int.tdiv a1 32))))) ((ji14) % 4294967296)) : List Int)).bind fun y118 => (if 0 ≤ (wrap64 ((wrap64 (x21_1 + (wrap64 (Int.tdiv a1 32)))) + 1)) then (if (wrap64 ((wrap64 (x21_1 + (wrap64 (Int.tdiv a1 32)))) + 1)) < (x5_1.length : Int) then (nat_Shl.l0 k1 a1 (y118.set ((wrap64 ((wrap64 (x21_1 + (wrap64 (Int.tdiv a1 32)))) + 1)) : Int).toNat (Go.bits .or .u32 (rd y118 (wrap64 ((wrap64 (x21_1 + (wrap64 (Int.tdiv a1 32)))) + 1))) (((ji14) / 4294967296) % 4294967296))) l0 (l0.length : Int) (wrap64 (x21_1 + 1))) else (none)) else (none))) else (none)) else (none)) = some r := by first | (rw [hji14] at H; exact H) | (simp only [hji14] at H ⊢; exact H)
     have hji14_ : (IntKind.u64.wrap ((IntKind.u64.wrap (rd l0 x21_1)) * 2 ^ min (ji12).toNat 64)) = ji14 := hji14
     have hji14z : (ji12) ≤ 64 → (IntKind.u64.wrap ((IntKind.u64.wrap (rd l0 x21_1)) * 2 ^ (ji12).toNat)) = ji14 := shl_small hji14
     obtain ⟨ji15, hji15⟩ : ∃ j_ : Int, (wrap64 (x21_1 + (wrap64 (Int.tdiv a1 32)))) = j_ := ⟨_, rfl⟩
     replace H : (if 0 ≤ (ji15) then (if (ji15) < (x5_1.length : Int) then ((some (x5_1.set ((ji15) : Int).toNat (Go.bits .or .u32 (rd x5_1 (ji15)) ((ji14) % 4294967296)) : List Int)).bind fun y118 => (if 0 ≤ (wrap64 ((ji15) + 1)) then (if (wrap64 ((ji15) + 1)) < (x5_1.length : Int) then (nat_Shl.l0 k1 a1 (y118.set ((wrap64 ((ji15) + 1)) : Int).toNat (Go.bits .or .u32 (rd y118 (wrap64 ((ji15) + 1))) (((ji14) / 4294967296) % 4294967296))) l0 (l0.length : Int) (wrap64 (x21_1 + 1))) else (none)) else (none))) else (none)) else (none)) = some r := by first | (rw [hji15] at H; exact H) | (simp only [hji15] at H ⊢; exact H)
     have hji15w : (IntKind.i64.wrap (x21_1 + (wrap64 (Int.tdiv a1 32)))) = ji15 := (i64_w _).trans hji15
     replace H := zn H
     obtain ⟨c16, H⟩ := H
     have c16b0 := decide_eq_true c16
     clear c16
     replace H := zn H
     obtain ⟨c17, H⟩ := H
     have c17b0 := decide_eq_true c17
     clear c17
     obtain ⟨y118, hy118⟩ : ∃ y_ : List Int, y_ = (x5_1.set ((ji15) : Int).toNat (Go.bits .or .u32 (rd x5_1 (ji15)) ((ji14) % 4294967296))) := ⟨_, rfl⟩
     try rw [← hy118] at H
     have Ny118 := am hy118
     clear hy118
     obtain ⟨ji19, hji19⟩ : ∃ j_ : Int, (wrap64 ((ji15) + 1)) = j_ := ⟨_, rfl⟩
     replace H : (if 0 ≤ (ji19) then (if (ji19) < (x5_1.length : Int) then (nat_Shl.l0 k1 a1 (y118.set ((ji19) : Int).toNat (Go.bits .or .u32 (rd y118 (ji19)) (((ji14) / 4294967296) % 4294967296))) l0 (l0.length : Int) (wrap64 (x21_1 + 1))) else (none)) else (none)) = some r := by first | (rw [hji19] at H; exact H) | (simp only [hji19] at H ⊢; exact H)
     have hji19w : (IntKind.i64.wrap ((ji15) + 1)) = ji19 := (i64_w _).trans hji19
     replace H := zn H
     obtain ⟨c20, H⟩ := H
     have c20b0 := decide_eq_true c20
     clear c20
     replace H := zn H
     obtain ⟨c21, H⟩ := H
     have c21b0 := decide_eq_true c21
     clear c21
     obtain ⟨y120, hy120⟩ : ∃ y_ : List Int, y_ = (y118.set ((ji19) : Int).toNat (Go.bits .or .u32 (rd y118 (ji19)) (((ji14) / 4294967296) % 4294967296))) := ⟨_, rfl⟩
     try rw [← hy120] at H
     have Ny120 := am hy120
     clear hy120
     have H' := am H
     clear H
     have p116 : 0 ≤ (x21_1 : Int) := zq6
     have q116 : x21_1 < (l0.length : Int) := zq6
     obtain ⟨ad116, e116, hx116_0⟩ := Kd.at_int HR0.out x21_1 p116 q116
     cases e116
     replace hx116_0 := (HB.out.cell (World.block_lt_of_cell? w _ hx116_0)).trans hx116_0
     replace p116 := eq_true p116
     replace q116 := eq_true q116
     obtain ⟨Ao23, co23, eo23⟩ := Kd.R_slice HO_5.out
     subst eo23
     have p117 : 0 ≤ ((ji15) : Int) := zq6
     have q117 : (ji15) < (x5_1.length : Int) := zq6
     obtain ⟨ad117, e117, hx117_0⟩ := Kd.at_int (Kd.R_reads' HO_5.out).2.2 (ji15) p117 q117
     cases e117
     replace p117 := eq_true p117
     replace q117 := eq_true q117
     have p18 : 0 ≤ ((ji15) : Int) := zq6
     have q18 : ((ji15) : Int) < ((x5_1.length : Int) : Int) := zq6
     obtain ⟨go18, co18, eo18, gb18, gl18, cl18, HG18⟩ := Kd.R_form HO_5.out (by omega)
     (first | cases eo18 | (injection eo18 with ea_ en_ ec_; (first | subst ea_ | (injection ea_ with ea_; subst ea_)); subst ec_; clear en_))
     have GB18 := am gb18
     have GG18 := am HG18
     clear gb18 gl18 HG18
     (first | simp only [add_plain] at hx117_0 | skip)
     obtain ⟨hx18_0, hf18_0⟩ := Kd.R_celln 0 HO_5.out ((ji15) : Int) p18 q18
     replace p18 := eq_true p18
     replace q18 := eq_true q18
     have HP24 := Kd.R_putg HO_5.out ((ji15) : Int) (Go.bits .or .u32 (rd x5_1 (ji15)) ((ji14) % 4294967296))
     go_wp2_with (first | ((with_reducible refine gate_store (t := 73) (p := 41) rfl ?_); refine zstore (t := 73) (p := 41) (w1 := (wr.setCell ⟨go18, ((ji15) : Int).toNat, none⟩ (.int .u32 (Go.bits .or .u32 (rd x5_1 (ji15)) ((ji14) % 4294967296))))) ?_; intro w25 hw; have hg : wr.grownBy w25 (some go18) := (by rw [hw]; exact HP24.2); have hp_ : Kd.R (Kd.int .u32) 73 w25 w.heap.size (fun k_ => (w.heap.size ≤ k_)) (.slice (some ⟨go18, 0, none⟩) x5_1.length co23) y118 := (by rw [hw, Ny118.out]; exact HP24.1); clear HP24; refine zt2 (hp_) ((by rw [hw]; exact below_set (HB.out) GB18.out : Below w.heap.size w w25)) ?_; clear HO_5 HB; intro HO_5 HB; clear hg hw hp_; have p119 : 0 ≤ ((ji19) : Int) := zq6; have q119 : (ji19) < (y118.length : Int) := (by have h_ : ((ji19) : Int) < ((x5_1.length : Int) : Int) := zq6; first | (have e_ := (Kd.R_reads' HO_5.out).1; omega) | simpa only [Ny118.out, List.length_set] using h_); have ql119 : (((ji19) : Int) < ((x5_1.length : Int) : Int)) = True := eq_true zq6; obtain ⟨ad119, e119, hx119_0⟩ := Kd.at_int (Kd.R_reads' HO_5.out).2.2 (ji19) p119 q119; obtain rfl : (⟨go18, 0, none⟩ : Addr) = ad119 := (by injection e119); (first | simp only [add_plain] at hx119_0 | simp only [add_at] at hx119_0 | simp only [Addr.add, Nat.zero_add] at hx119_0 | skip); replace p119 := eq_true p119; replace q119 := eq_true q119; have p22 : 0 ≤ ((ji19) : Int) := zq6; have q22 : ((ji19) : Int) < ((x5_1.length : Int) : Int) := zq6; obtain ⟨hx22_0, hf22_0⟩ := Kd.R_celln 0 HO_5.out ((ji19) : Int) p22 q22; replace p22 := eq_true p22; replace q22 := eq_true q22; obtain ⟨hy26_, hz26_⟩ := Kd.R_celln 0 HO_5.out ((ji19) : Int) zq6 zq6; have HP26 := Kd.R_putg HO_5.out ((ji19) : Int) (Go.bits .or .u32 (rd y118 (ji19)) (((ji14) / 4294967296) % 4294967296))) | ((with_reducible refine gate_store (t := 73) (p := 54) rfl ?_); refine zstore (t := 73) (p := 54) (w1 := (w25.setCell ⟨go18, ((ji19) : Int).toNat, none⟩ (.int .u32 (Go.bits .or .u32 (rd y118 (ji19)) (((ji14) / 4294967296) % 4294967296))))) ?_; intro w27 hw; have hg : w25.grownBy w27 (some go18) := (by rw [hw]; exact HP26.2); have hp_ : Kd.R (Kd.int .u32) 73 w27 w.heap.size (fun k_ => (w.heap.size ≤ k_)) (.slice (some ⟨go18, 0, none⟩) x5_1.length co23) y120 := (by rw [hw, Ny120.out]; exact HP26.1); clear HP26; refine zt2 (hp_) ((by rw [hw]; exact below_set (HB.out) GB18.out : Below w.heap.size w w27)) ?_; clear HO_5 HB; intro HO_5 HB; clear hg hw hp_))
     go_roundg k1
     case measure => have := HK1.out; omega
     case rel => exact ⟨(y120), (wrap64 (x21_1 + 1)), zq8, (by first | exact H' | (rw [hji4]; exact H') | (rw [hji12]; exact H') | (rw [hji14]; exact H') | (rw [hji15]; exact H') | (rw [hji19]; exact H')), ⟨by have := HK1.out; omega⟩, ⟨zq4 HO_5.out⟩, ⟨zq1⟩⟩
    ·rw [if_neg c9] at H
     have c9b0 := decide_eq_false c9
     clear c9
     replace H := zj H
     obtain ⟨t121, A28, H⟩ := H
     obtain rfl := Option.some.inj H
     obtain ⟨Ao29, co29, eo29⟩ := Kd.R_slice HO_5.out
     subst eo29
     go_wp2_with (first | ((with_reducible refine gate_callee (f := 62) rfl ?_); refine goesL_ (some 57) rfl rfl Tryz.func62 (by kernel_rfl) rfl #[.slice Ao29 x5_1.length co29] rfl zq5 ?_; (with_reducible refine (nat_Trim.calls k1 (fun k_ => some k_ = (.slice Ao29 x5_1.length co29 : Value).ownBlock) _ _ x5_1 t121 _ ?side1 A28.out).mono ?_); (case side1 => exact Kd.R_V (Kd.R_tight rfl (HO_5.out))); rintro e w30 ⟨v122, rfl, ho0, hb⟩; refine ⟨_, rfl, ?_⟩; refine zt3 (rb HO_5 hb) (Kd.V_lower (Kd.V_mono (ok' := fun k_ => (w.heap.size ≤ k_)) ho0 (fun k_ hk_ => Or.elim hk_ (fun hs_ => ((HO_5.out).1 k_ hs_.symm)) (fun hn_ => (Nat.le_trans (below_size zq1) hn_)))) (below_size zq1)) (below_step zq1 hb) ?_; clear HO_5 HB; intro HO_5 HO123 HB))
     go_ret
     exact ⟨_, by first | rfl | (simp [errW_none, errW_some] <;> rfl) | (simp only [← hji4]; first | rfl | (simp [errW_none, errW_some] <;> rfl)) | (simp [*, errW_none, errW_some] <;> rfl), zq3 HO123.out, zq1⟩
mutual
def nat_Shr.j0 : Nat → List Int → Int → Bool → Int → Option (List Int × Bool)
 | 0, _, _, _, _ => none
 | k + 1, x0, x1, x5, x6 => if 0 ≤ (wrap64 ((x0.length : Int) - x6)) then (if (wrap64 ((x0.length : Int) - x6) : Int).toNat ≤ 70368744177664 then ((some (List.replicate (wrap64 ((x0.length : Int) - x6) : Int).toNat 0 : List Int)).bind fun y132 => (nat_Shr.l0 k x0 x1 y132 x5 x6 (y132.length : Int) 0)) else (none)) else (none)
def nat_Shr.l0 : Nat → List Int → Int → List Int → Bool → Int → Int → Int → Option (List Int × Bool)
 | 0, _, _, _, _, _, _, _ => none
 | k + 1, x0, x1, x4, x5, x6, x43, x44 => if x44 < x43 then (if 0 ≤ (wrap64 (x44 + x6)) then (if (wrap64 (x44 + x6)) < (x0.length : Int) then (if (wrap64 ((wrap64 (x44 + x6)) + 1)) < (x0.length : Int) then (if 0 ≤ (wrap64 ((wrap64 (x44 + x6)) + 1)) then (if 0 ≤ (Int.tmod x1 32) then (if 0 ≤ x44 then (if x44 < (x4.length : Int) then (nat_Shr.l0 k x0 x1 (x4.set (x44 : Int).toNat ((shr .u64 (Go.bits .or .u64 (IntKind.u64.wrap (rd x0 (wrap64 (x44 + x6)))) (IntKind.u64.wrap ((IntKind.u64.wrap (rd x0 (wrap64 ((wrap64 (x44 + x6)) + 1)))) * 4294967296))) (Int.tmod x1 32)) % 4294967296)) x5 x6 x43 (wrap64 (x44 + 1))) else (none)) else (none)) else (none)) else (none)) else (if 0 ≤ (Int.tmod x1 32) then (if 0 ≤ x44 then (if x44 < (x4.length : Int) then (nat_Shr.l0 k x0 x1 (x4.set (x44 : Int).toNat ((shr .u64 (IntKind.u64.wrap (rd x0 (wrap64 (x44 + x6)))) (Int.tmod x1 32)) % 4294967296)) x5 x6 x43 (wrap64 (x44 + 1))) else (none)) else (none)) else (none))) else (none)) else (none)) else ((nat_Trim.f k x4).bind fun t139 => (some (t139, x5)))
end
def nat_Shr.f (k : Nat) (l0 : List Int) (a1 : Int) : Option (List Int × Bool) := if (wrap64 (Int.tdiv a1 32)) ≥ (l0.length : Int) then (some (([] : List Int), ((l0.length : Int) == 0))) else (if 0 ≤ (wrap64 (Int.tdiv a1 32)) then (if (wrap64 (Int.tdiv a1 32)) ≤ (l0.length : Int) then ((slices_Clone_uint32_uint32.f (l0.take ((wrap64 (Int.tdiv a1 32)) : Int).toNat)).bind fun t125 => ((nat_Trim.f k t125).bind fun t128 => (if (t128.length : Int) = 0 then (if (wrap64 (Int.tdiv a1 32)) < (l0.length : Int) then (if 0 ≤ (Int.tmod a1 32) then (nat_Shr.j0 k l0 a1 ((Go.bits .and .u32 (rd l0 (wrap64 (Int.tdiv a1 32))) (((shl .u32 1 (Int.tmod a1 32)) - 1) % 4294967296)) == 0) (wrap64 (Int.tdiv a1 32))) else (none)) else (none)) else (nat_Shr.j0 k l0 a1 false (wrap64 (Int.tdiv a1 32)))))) else (none)) else (none))
def nat_Shr.T4 : Bool × List (List Nat × List Nat) := (true, [([], []), ([], []), ([0, 1], [0, 1]), ([2], [2]), ([3, 3], [3]), ([4], [4]), ([5], [5]), ([6, 4], [6]), ([7], [7]), ([7], [7]), ([8, 9, 7], [7, 8, 9]), ([10, 7], [7, 10]), ([7], [7]), ([12, 7], [7, 12]), ([13, 7], [7, 13]), ([14, 7], [7, 14]), ([11, 15, 7], [7, 11, 15]), ([16, 7], [7, 16]), ([7, 17], [7, 17]), ([18, 7, 0, 1, 2, 3, 4, 5, 6, 7, 8, 9, 10, 11, 12, 13, 14, 15, 16, 17, 18], [18])])
def nat_Shr.B4 : List Nat := [0, 0, 3, 7, 15, 31, 63, 127, 255, 255, 1023, 2047, 255, 4351, 12543, 28927, 65535, 131071, 262143, 524287]
theorem nat_Shr.tab4 : rtab .any (opsOf Tryz.f56 4) = nat_Shr.T4 := by kernel_rfl
theorem nat_Shr.bits4 : waitsOk nat_Shr.T4.2 nat_Shr.B4 = true := by kernel_rfl
set_option maxHeartbeats 8000000 in
set_option maxRecDepth 100000 in
theorem nat_Shr.calls (k : Nat) (A0 : Option Addr) (c0 : Nat) (l0 : List Int) (a1 : Int) (r1 : List Int) (r2 : Bool) (w : World) (hr0 : Kd.C (Kd.int .u32) w A0 l0.length l0) (hc0 : l0.length ≤ c0) (h : nat_Shr.f k l0 a1 = some (r1, r2)) :
  Calls Tryz.prog 56 #[.slice A0 l0.length c0, .int .i64 a1] w fun e w' => ∃ v0_ : Value, e = .returned (.tuple #[v0_, .bool r2]) ∧ Kd.V (Kd.int .u32) 73 w' w.heap.size (fun k_ => (w.heap.size ≤ k_)) v0_ r1 ∧ Below w.heap.size w w' := by
 have HR0 := am hr0
 have HC0 := am hc0
 clear hr0 hc0
 have HB := am (Below.refl w.heap.size w)
 have H := h
 unfold nat_Shr.f at H
 clear h
 by_cases c3 : (wrap64 (Int.tdiv a1 32)) ≥ (l0.length : Int)
 ·rw [if_pos c3] at H
  have c3b0 : decide ((l0.length : Int) ≤ (wrap64 (Int.tdiv a1 32))) = true := decide_eq_true c3
  clear c3
  simp only [Option.some.injEq, Prod.mk.injEq] at H
  obtain ⟨rfl, rfl⟩ := H
  go_enter Tryz.func56, Tryz.ntmps56
  go_wp2
  go_ret2
  exact ⟨_, zq9, Kd.V_nil _ _ _ _ _, zq1⟩
 ·rw [if_neg c3] at H
  have c3b0 : decide ((l0.length : Int) ≤ (wrap64 (Int.tdiv a1 32))) = false := decide_eq_false c3
  clear c3
  have HC4 := am H
  clear H
  go_enter Tryz.func56, Tryz.ntmps56
  go_upto_region 4 with (fail)
  go_cut [5] (fun v5 wc => ∃ (kq : Nat) (x5_3 : Bool), v5 = .bool x5_3 ∧ Aside0 (nat_Shr.j0 kq l0 a1 x5_3 (wrap64 (Int.tdiv a1 32)) = some (r1, r2)) ∧ Aside0 (kq ≤ k) ∧ Aside0 (Below w.heap.size w wc))
  case first =>
   have H := HC4.out
   clear HC4
   obtain ⟨ji5, hji5⟩ : ∃ j_ : Int, (wrap64 (Int.tdiv a1 32)) = j_ := ⟨_, rfl⟩
   replace H : (if 0 ≤ (ji5) then (if (ji5) ≤ (l0.length : Int) then ((slices_Clone_uint32_uint32.f (l0.take ((ji5) : Int).toNat)).bind fun t125 => ((nat_Trim.f k t125).bind fun t128 => (if (t128.length : Int) = 0 then (if (ji5) < (l0.length : Int) then (if 0 ≤ (Int.tmod a1 32) then (nat_Shr.j0 k l0 a1 ((Go.bits .and .u32 (rd l0 (ji5)) (((shl .u32 1 (Int.tmod a1 32)) - 1) % 4294967296)) == 0) ji5) else (none)) else (none)) else (nat_Shr.j0 k l0 a1 false ji5)))) else (none)) else (none)) = some (r1, r2) := by first | (rw [hji5] at H; exact H) | (simp only [hji5] at H ⊢; exact H)
   (try rw [hji5] at c3b0)
   have hji5w : (IntKind.i64.wrap (Int.tdiv a1 32)) = ji5 := (i64_w _).trans hji5
   replace H := zn H
   obtain ⟨c6, H⟩ := H
   have c6b0 := eq_true c6
   have c6b1 := decide_eq_true c6
   clear c6
   replace H := zn H
   obtain ⟨c7, H⟩ := H
   have c7b0 := eq_true c7
   have c7b1 := decide_eq_true c7
   clear c7
   replace H := zj H
   obtain ⟨t125, A8, H⟩ := H
   replace H := zj H
   obtain ⟨t128, A9, H⟩ := H
   by_cases c10 : (t128.length : Int) = 0
   ·rw [if_pos c10] at H
    have c10b0 : ((t128.length : Int) == 0) = true := beq_iff_eq.mpr c10
    have c10b1 : ((t128.length : Int) != 0) = false := bne_eq_false_iff_eq.mpr c10
    clear c10
    (first | rw [c10b0] | (simp only [i64_w, i32_w]; rw [c10b0]) | skip)
    replace H := zn H
    obtain ⟨c11, H⟩ := H
    have c11b0 := decide_eq_true c11
    clear c11
    obtain ⟨ji12, hji12⟩ : ∃ j_ : Int, (Int.tmod a1 32) = j_ := ⟨_, rfl⟩
    replace H : (if 0 ≤ (ji12) then (nat_Shr.j0 k l0 a1 ((Go.bits .and .u32 (rd l0 (ji5)) (((shl .u32 1 (ji12)) - 1) % 4294967296)) == 0) ji5) else (none)) = some (r1, r2) := by first | (rw [hji12] at H; exact H) | (simp only [hji12] at H ⊢; exact H)
    (try rw [hji12] at A8)
    (try rw [hji12] at A9)
    replace H := zn H
    obtain ⟨c13, H⟩ := H
    have c13b0 := eq_true c13
    have c13b1 := decide_eq_true c13
    clear c13
    obtain ⟨ji14, hji14⟩ : ∃ j_ : Int, (shl .u32 1 (ji12)) = j_ := ⟨_, rfl⟩
    replace H : (nat_Shr.j0 k l0 a1 ((Go.bits .and .u32 (rd l0 (ji5)) (((ji14) - 1) % 4294967296)) == 0) ji5) = some (r1, r2) := by first | (rw [hji14] at H; exact H) | (simp only [hji14] at H ⊢; exact H)
    (try rw [hji14] at A8)
    (try rw [hji14] at A9)
    have hji14_ : (IntKind.u32.wrap (1 * 2 ^ min (ji12).toNat 32)) = ji14 := hji14
    have hji14z : (ji12) ≤ 32 → (IntKind.u32.wrap (1 * 2 ^ (ji12).toNat)) = ji14 := shl_small hji14
    have hji14u : (IntKind.u32.wrap (2 ^ min (ji12).toNat 32)) = ji14 := by have h_ := hji14_; rw [Int.one_mul] at h_; exact h_
    have hji14v : (ji12) ≤ 32 → (IntKind.u32.wrap (2 ^ (ji12).toNat)) = ji14 := fun hle_ => by have h_ := hji14z hle_; rw [Int.one_mul] at h_; exact h_
    have H' := am H
    clear H
    try go_wp2
    refine zt1 (below_drew1 HB.out) ?_
    clear HB
    intro HB
    obtain ⟨i016, hi016, _, hsz16, _⟩ := info_parts info73
    obtain ⟨hcut16, hA16, hC16⟩ := print_take_of (P := Tryz.prog) (Value.int .u32) 0 22 73 .i64 Tryz.underlying22 hi016 hsz16 A0 c0 l0 (ji5) zq6 zq6 HC0.out
    have HR124 := am (Kd.C_of_reads (h1 := fun _ => rfl) (hA16 _ (Kd.reads_of_C HR0.out)))
    have HC124 := am hC16
    clear hA16 hC16 hi016 hsz16
    have p131 : 0 ≤ ((ji5) : Int) := zq6
    have q131 : (ji5) < (l0.length : Int) := zq6
    obtain ⟨ad131, e131, hx131_0⟩ := Kd.at_int HR0.out (ji5) p131 q131
    have hw131_0 := hx131_0
    cases e131
    replace hx131_0 := (HB.out.cell (World.block_lt_of_cell? w _ hx131_0)).trans hx131_0
    replace p131 := eq_true p131
    replace q131 := eq_true q131
    refine start_ (n := 20) (S := fun w' => w'.cell? (ad131.add ((ji5)).toNat) = some (.int .u32 (rd l0 (ji5)))) (ds := []) #[false, false, false, false, false, false, false, false, false, false, false, false, false, false, false, false, false, false, false, false] (by kernel_rfl) rfl rfl (((HB.out.cell (World.block_lt_of_cell? w _ hw131_0)).trans hw131_0)) (fun hHeld => ?_); refine with_tabW nat_Shr.tab4 nat_Shr.bits4 (fun HT_ HW_ => ?_)
    generalize w.drew = w15 at HB HR124 hx131_0 hHeld ⊢
    refine pz_ (i := 0) (N := some 18) (zmt 20 [0]) ?_
    refine pz_ (i := 1) (N := some 19) (zmt 20 [0, 1]) ?_
    refine pz_ (i := 2) (N := some 20) (zmt 20 [0, 1, 2]) ?_
    refine one_ (i := 3) (N := some 21) (zmt 20 [0, 1, 2, 3]) rfl rfl (one_of HT_.out (by kernel_rfl)) (by decide) (fun K hK => ?_)
    refine goes_ Tryz.func88 (by kernel_rfl) rfl #[.slice (some ad131) (l0.take ((ji5) : Int).toNat).length c0] (by rfl) rfl rfl (by (try simp only [List.map_toArray, List.map_cons, List.map_nil]); first | done | (rw [show (l0.take ((ji5) : Int).toNat).length = (ji5).toNat from (by rw [List.length_take]; have h_ : ((ji5) : Int) ≤ (l0.length : Int) := zq6; omega)] <;> rfl) | (simp only [hji5]; rfl) | rfl | (simp only [List.length_drop, List.length_take]; rfl)) ?_
    with_reducible refine (slices_Clone_uint32_uint32.calls _ _ (l0.take ((ji5) : Int).toNat) t125 _ ?side1 ?side2 A8.out).mono ?_
    (case side1 => exact zc (Kd.C_below HR124.out HB.out))
    (case side2 => exact HC124.out)
    rintro e w17 ⟨v126, rfl, ho0, hb⟩
    refine ⟨_, rfl, ?_⟩
    refine zt2 (Kd.R_lower (Kd.R_newM (M := fun k_ => (w.heap.size ≤ k_)) ho0 (below_size zq1) (fun k_ h_ => h_)) (below_size zq1)) (below_step zq1 hb) ?_
    clear HB
    intro HO127 HB
    obtain ⟨Ao18, co18, eo18⟩ := Kd.R_slice HO127.out
    (first | subst eo18 | (injection eo18 with f1_ f2_ f3_; have f4_ := f1_.symm; have f5_ := f3_.symm; clear f1_ f2_ f3_; subst f4_; subst f5_))
    refine hK.out _ _ (((HB.out.cell (World.block_lt_of_cell? w _ hw131_0)).trans hw131_0)) (fun hHeld => ?_)
    clear hK K
    refine nz_ (N := (some 21)) ?_
    refine one_ (i := 4) (N := some 22) (zmt 20 [0, 1, 2, 3, 4]) rfl rfl (one_of HT_.out (by kernel_rfl)) (by decide) (fun K hK => ?_)
    refine goes_ Tryz.func62 (by kernel_rfl) rfl #[.slice Ao18 t125.length co18] (by rfl) rfl rfl zq5 ?_
    with_reducible refine (nat_Trim.calls k (fun k_ => some k_ = (.slice Ao18 t125.length co18 : Value).ownBlock) _ _ t125 t128 _ ?side1 A9.out).mono ?_
    (case side1 => exact Kd.R_V (Kd.R_tight rfl (HO127.out)))
    rintro e w19 ⟨v129, rfl, ho0, hb⟩
    refine ⟨_, rfl, ?_⟩
    refine zt3 (rb HO127 hb) (Kd.V_lower (Kd.V_mono (ok' := fun k_ => (w.heap.size ≤ k_)) ho0 (fun k_ hk_ => Or.elim hk_ (fun hs_ => ((HO127.out).1 k_ hs_.symm).1) (fun hn_ => (Nat.le_trans (below_size zq1) hn_)))) (below_size zq1)) (below_step zq1 hb) ?_
    clear HO127 HB
    intro HO127 HO130 HB
    obtain ⟨Ao20, co20, eo20⟩ := Kd.V_slice HO130.out
    (first | subst eo20 | (injection eo20 with f1_ f2_ f3_; have f4_ := f1_.symm; have f5_ := f3_.symm; clear f1_ f2_ f3_; subst f4_; subst f5_))
    refine hK.out _ _ (((HB.out.cell (World.block_lt_of_cell? w _ hw131_0)).trans hw131_0)) (fun hHeld => ?_)
    clear hK K
    refine nz_ (N := (some 22)) ?_
    refine pz_ (i := 5) (N := some 23) (zmt 20 [0, 1, 2, 3, 4, 5]) ?_
    refine pz_ (i := 6) (N := some 24) (zmt 20 [0, 1, 2, 3, 4, 5, 6]) ?_
    refine pz_ (i := 7) (N := some 25) (zmt 20 [0, 1, 2, 3, 4, 5, 6, 7]) ?_
    refine pz_ (i := 8) (N := some 26) (zmt 20 [0, 1, 2, 3, 4, 5, 6, 7, 8]) ?_
    refine pz_ (i := 9) (N := some 27) (zmt 20 [0, 1, 2, 3, 4, 5, 6, 7, 8, 9]) ?_
    refine pz_ (i := 10) (N := some 28) (zmf 20 [11, 12, 13, 14, 15, 16, 17, 18, 19]) ?_
    refine pz_ (i := 12) (N := some 30) (zmf 20 [11, 13, 14, 15, 16, 17, 18, 19]) ?_
    refine pz_ (i := 13) (N := some 31) (zmf 20 [11, 14, 15, 16, 17, 18, 19]) ?_
    refine pz_ (i := 14) (N := some 32) (zmf 20 [11, 15, 16, 17, 18, 19]) ?_
    refine pz_ (i := 15) (N := some 33) (zmf 20 [11, 16, 17, 18, 19]) ?_
    refine tz1 (i := 11) (N := some 29) (zmf 20 [16, 17, 18, 19]) ?_
    refine pz_ (i := 16) (N := some 34) (zmf 20 [17, 18, 19]) ?_
    refine pz_ (i := 17) (N := some 35) (zmf 20 [18, 19]) ?_
    refine pz_ (i := 18) (N := some 36) (zmf 20 [19]) ?_
    refine pz_ (i := 19) (N := some 5) (zmf 20 []) ?_
    refine done_ (done_of HT_.out (by kernel_rfl)) ?_
    try go_wp2
    go_meet
    case rel => exact ⟨_, (((Go.bits .and .u32 (rd l0 (ji5)) (((ji14) - 1) % 4294967296)) == 0)), (by first | rfl | (simp; done) | (simp only [← hji5, ← hji14] <;> (first | rfl | simp)) | (simp [*]; done)), (by first | exact H' | (rw [hji5]; exact H') | (rw [hji12]; exact H') | (rw [hji14]; exact H')), ⟨by first | omega | exact Nat.le_refl _⟩, ⟨zq1⟩⟩
   ·rw [if_neg c10] at H
    have c10b0 : ((t128.length : Int) == 0) = false := beq_eq_false_iff_ne.mpr c10
    have c10b1 : ((t128.length : Int) != 0) = true := bne_iff_ne.mpr c10
    have c10b2 : ¬ (t128 = []) := fun h_ => c10 (by rw [h_]; rfl)
    (first | rw [c10b0] | (simp only [i64_w, i32_w]; rw [c10b0]) | skip)
    have H' := am H
    clear H
    try go_wp2
    refine zt1 (below_drew1 HB.out) ?_
    clear HB
    intro HB
    obtain ⟨i022, hi022, _, hsz22, _⟩ := info_parts info73
    obtain ⟨hcut22, hA22, hC22⟩ := print_take_of (P := Tryz.prog) (Value.int .u32) 0 22 73 .i64 Tryz.underlying22 hi022 hsz22 A0 c0 l0 (ji5) zq6 zq6 HC0.out
    have HR124 := am (Kd.C_of_reads (h1 := fun _ => rfl) (hA22 _ (Kd.reads_of_C HR0.out)))
    have HC124 := am hC22
    clear hA22 hC22 hi022 hsz22
    refine start_ (n := 20) (S := fun w' => True) (ds := []) #[false, false, false, false, false, false, false, false, false, false, false, false, false, false, false, false, false, false, false, false] (by kernel_rfl) rfl rfl trivial (fun hHeld => ?_); refine with_tabW nat_Shr.tab4 nat_Shr.bits4 (fun HT_ HW_ => ?_)
    generalize w.drew = w21 at HB HR124 hHeld ⊢
    refine pz_ (i := 0) (N := some 18) (zmt 20 [0]) ?_
    refine pz_ (i := 1) (N := some 19) (zmt 20 [0, 1]) ?_
    refine pz_ (i := 2) (N := some 20) (zmt 20 [0, 1, 2]) ?_
    refine one_ (i := 3) (N := some 21) (zmt 20 [0, 1, 2, 3]) rfl rfl (one_of HT_.out (by kernel_rfl)) (by decide) (fun K hK => ?_)
    refine goes_ Tryz.func88 (by kernel_rfl) rfl #[.slice A0 (l0.take ((ji5) : Int).toNat).length c0] (by rfl) rfl rfl (by (try simp only [List.map_toArray, List.map_cons, List.map_nil]); first | done | (rw [show (l0.take ((ji5) : Int).toNat).length = (ji5).toNat from (by rw [List.length_take]; have h_ : ((ji5) : Int) ≤ (l0.length : Int) := zq6; omega)] <;> rfl) | (simp only [hji5]; rfl) | rfl | (simp only [List.length_drop, List.length_take]; rfl)) ?_
    with_reducible refine (slices_Clone_uint32_uint32.calls _ _ (l0.take ((ji5) : Int).toNat) t125 _ ?side1 ?side2 A8.out).mono ?_
    (case side1 => exact zc (Kd.C_below HR124.out HB.out))
    (case side2 => exact HC124.out)
    rintro e w23 ⟨v126, rfl, ho0, hb⟩
    refine ⟨_, rfl, ?_⟩
    refine zt2 (Kd.R_lower (Kd.R_newM (M := fun k_ => (w.heap.size ≤ k_)) ho0 (below_size zq1) (fun k_ h_ => h_)) (below_size zq1)) (below_step zq1 hb) ?_
    clear HB
    intro HO127 HB
    obtain ⟨Ao24, co24, eo24⟩ := Kd.R_slice HO127.out
    (first | subst eo24 | (injection eo24 with f1_ f2_ f3_; have f4_ := f1_.symm; have f5_ := f3_.symm; clear f1_ f2_ f3_; subst f4_; subst f5_))
    refine hK.out _ _ trivial (fun hHeld => ?_)
    clear hK K
    refine nz_ (N := (some 21)) ?_
    refine one_ (i := 4) (N := some 22) (zmt 20 [0, 1, 2, 3, 4]) rfl rfl (one_of HT_.out (by kernel_rfl)) (by decide) (fun K hK => ?_)
    refine goes_ Tryz.func62 (by kernel_rfl) rfl #[.slice Ao24 t125.length co24] (by rfl) rfl rfl zq5 ?_
    with_reducible refine (nat_Trim.calls k (fun k_ => some k_ = (.slice Ao24 t125.length co24 : Value).ownBlock) _ _ t125 t128 _ ?side1 A9.out).mono ?_
    (case side1 => exact Kd.R_V (Kd.R_tight rfl (HO127.out)))
    rintro e w25 ⟨v129, rfl, ho0, hb⟩
    refine ⟨_, rfl, ?_⟩
    refine zt3 (rb HO127 hb) (Kd.V_lower (Kd.V_mono (ok' := fun k_ => (w.heap.size ≤ k_)) ho0 (fun k_ hk_ => Or.elim hk_ (fun hs_ => ((HO127.out).1 k_ hs_.symm).1) (fun hn_ => (Nat.le_trans (below_size zq1) hn_)))) (below_size zq1)) (below_step zq1 hb) ?_
    clear HO127 HB
    intro HO127 HO130 HB
    obtain ⟨Ao26, co26, eo26⟩ := Kd.V_slice HO130.out
    (first | subst eo26 | (injection eo26 with f1_ f2_ f3_; have f4_ := f1_.symm; have f5_ := f3_.symm; clear f1_ f2_ f3_; subst f4_; subst f5_))
    refine hK.out _ _ trivial (fun hHeld => ?_)
    clear hK K
    refine nz_ (N := (some 22)) ?_
    refine pz_ (i := 5) (N := some 23) (zmt 20 [0, 1, 2, 3, 4, 5]) ?_
    refine pz_ (i := 6) (N := some 24) (zmt 20 [0, 1, 2, 3, 4, 5, 6]) ?_
    refine pz_ (i := 7) (N := some 25) (zmt 20 [0, 1, 2, 3, 4, 5, 6, 7]) ?_
    refine pure_ (i := 8) (N := some 26) (v := undef) (a' := ?_) #[true, true, true, true, true, true, true, true, true, false, false, false, false, false, false, false, false, false, false, false] rfl rfl (any_of HT_.out (by kernel_rfl)) (fun _ _ _ h => h) (Or.inr ⟨by rfl, rfl⟩) ?_ ?_
    rotate_left
    ·simp only [Act.put, List.setIfInBounds_toArray, List.set_cons_zero, List.set_cons_succ, i64_w, i32_w]
     rfl
    refine pure_ (i := 9) (N := some 27) (v := undef) (a' := ?_) #[true, true, true, true, true, true, true, true, true, true, false, false, false, false, false, false, false, false, false, false] rfl rfl (any_of HT_.out (by kernel_rfl)) (fun _ _ _ h => h) (Or.inr ⟨by rfl, rfl⟩) ?_ ?_
    rotate_left
    ·simp only [Act.put, List.setIfInBounds_toArray, List.set_cons_zero, List.set_cons_succ, i64_w, i32_w]
     rfl
    refine pure_ (i := 10) (N := some 28) (v := undef) (a' := ?_) #[true, true, true, true, true, true, true, true, true, true, true, false, false, false, false, false, false, false, false, false] rfl rfl (any_of HT_.out (by kernel_rfl)) (fun _ _ _ h => h) (Or.inr ⟨by rfl, rfl⟩) ?_ ?_
    rotate_left
    ·simp only [Act.put, List.setIfInBounds_toArray, List.set_cons_zero, List.set_cons_succ, i64_w, i32_w]
     rfl
    refine pure_ (i := 11) (N := some 29) (v := undef) (a' := ?_) #[true, true, true, true, true, true, true, true, true, true, true, true, false, false, false, false, false, false, false, false] rfl rfl (any_of HT_.out (by kernel_rfl)) (fun _ _ _ h => h) (Or.inr ⟨by rfl, rfl⟩) ?_ ?_
    rotate_left
    ·simp only [Act.put, List.setIfInBounds_toArray, List.set_cons_zero, List.set_cons_succ, i64_w, i32_w]
     rfl
    refine pure_ (i := 12) (N := some 30) (v := undef) (a' := ?_) #[true, true, true, true, true, true, true, true, true, true, true, true, true, false, false, false, false, false, false, false] rfl rfl (any_of HT_.out (by kernel_rfl)) (fun _ _ _ h => h) (Or.inr ⟨by rfl, rfl⟩) ?_ ?_
    rotate_left
    ·simp only [Act.put, List.setIfInBounds_toArray, List.set_cons_zero, List.set_cons_succ, i64_w, i32_w]
     rfl
    refine pure_ (i := 13) (N := some 31) (v := undef) (a' := ?_) #[true, true, true, true, true, true, true, true, true, true, true, true, true, true, false, false, false, false, false, false] rfl rfl (any_of HT_.out (by kernel_rfl)) (fun _ _ _ h => h) (Or.inr ⟨by rfl, rfl⟩) ?_ ?_
    rotate_left
    ·simp only [Act.put, List.setIfInBounds_toArray, List.set_cons_zero, List.set_cons_succ, i64_w, i32_w]
     rfl
    refine pure_ (i := 14) (N := some 32) (v := undef) (a' := ?_) #[true, true, true, true, true, true, true, true, true, true, true, true, true, true, true, false, false, false, false, false] rfl rfl (any_of HT_.out (by kernel_rfl)) (fun _ _ _ h => h) (Or.inr ⟨by rfl, rfl⟩) ?_ ?_
    rotate_left
    ·simp only [Act.put, List.setIfInBounds_toArray, List.set_cons_zero, List.set_cons_succ, i64_w, i32_w]
     rfl
    refine pure_ (i := 15) (N := some 33) (v := undef) (a' := ?_) #[true, true, true, true, true, true, true, true, true, true, true, true, true, true, true, true, false, false, false, false] rfl rfl (any_of HT_.out (by kernel_rfl)) (fun _ _ _ h => h) (Or.inr ⟨by rfl, rfl⟩) ?_ ?_
    rotate_left
    ·simp only [Act.put, List.setIfInBounds_toArray, List.set_cons_zero, List.set_cons_succ, i64_w, i32_w]
     rfl
    refine pure_ (i := 16) (N := some 34) (v := undef) (a' := ?_) #[true, true, true, true, true, true, true, true, true, true, true, true, true, true, true, true, true, false, false, false] rfl rfl (any_of HT_.out (by kernel_rfl)) (fun _ _ _ h => h) (Or.inr ⟨by rfl, rfl⟩) ?_ ?_
    rotate_left
    ·simp only [Act.put, List.setIfInBounds_toArray, List.set_cons_zero, List.set_cons_succ, i64_w, i32_w]
     rfl
    refine pure_ (i := 17) (N := some 35) (v := undef) (a' := ?_) #[true, true, true, true, true, true, true, true, true, true, true, true, true, true, true, true, true, true, false, false] rfl rfl (any_of HT_.out (by kernel_rfl)) (fun _ _ _ h => h) (Or.inr ⟨by rfl, rfl⟩) ?_ ?_
    rotate_left
    ·simp only [Act.put, List.setIfInBounds_toArray, List.set_cons_zero, List.set_cons_succ, i64_w, i32_w]
     rfl
    refine pz_ (i := 18) (N := some 36) (zmf 20 [19]) ?_
    refine pz_ (i := 19) (N := some 5) (zmf 20 []) ?_
    refine done_ (done_of HT_.out (by kernel_rfl)) ?_
    try go_wp2
    go_meet
    case rel => exact ⟨_, (false), zq8, (by first | exact H' | (rw [hji5]; exact H')), ⟨by first | omega | exact Nat.le_refl _⟩, ⟨zq1⟩⟩
  case rest =>
   clear HC4
   obtain ⟨kq, x5_3, rfl, HA, HJ3, HB⟩ := hcut
   cases kq with
   | zero => exact absurd HA.out (by simp [nat_Shr.j0])
   | succ kj3 =>
    have H := HA.out
    clear HA
    simp only [nat_Shr.j0] at H
    obtain ⟨ji27, hji27⟩ : ∃ j_ : Int, (wrap64 ((l0.length : Int) - (wrap64 (Int.tdiv a1 32)))) = j_ := ⟨_, rfl⟩
    replace H : (if 0 ≤ (ji27) then (if (ji27 : Int).toNat ≤ 70368744177664 then ((some (List.replicate (ji27 : Int).toNat 0 : List Int)).bind fun y132 => (nat_Shr.l0 kj3 l0 a1 y132 x5_3 (wrap64 (Int.tdiv a1 32)) (y132.length : Int) 0)) else (none)) else (none)) = some (r1, r2) := by first | (rw [hji27] at H; exact H) | (simp only [hji27] at H ⊢; exact H)
    have hji27w : (IntKind.i64.wrap ((l0.length : Int) - (wrap64 (Int.tdiv a1 32)))) = ji27 := (i64_w _).trans hji27
    replace H := zn H
    obtain ⟨c28, H⟩ := H
    have c28b0 := eq_true c28
    have c28b1 := decide_eq_true c28
    clear c28
    replace H := zn H
    obtain ⟨c29, H⟩ := H
    have c29b0 := eq_true c29
    have c29b1 := decide_eq_true c29
    clear c29
    obtain ⟨y132, hy132⟩ : ∃ y_ : List Int, y_ = (List.replicate (ji27 : Int).toNat 0) := ⟨_, rfl⟩
    try rw [← hy132] at H
    have Ny132 := am hy132
    clear hy132
    have H' := am H
    clear H
    go_wp2_with (first | ((with_reducible refine gate_dst (N := 41) rfl ?_); refine Kd.R_make (Kd.int .u32) _ 73 rfl (N := 41) rfl 22 _ _ rfl ji27 rfl rfl Tryz.underlying22 (.int .u32 0) 4 info73 rfl (by decide) (by omega) 0 (ok := fun _ => True) (okp := fun _ => True) rfl (fun _ hk => hk) trivial zq6 (Nat.le_trans (Nat.mul_le_mul_right _ (zq6 : ji27.toNat ≤ 70368744177664)) (by omega)) (Below.refl _ _) (Nat.le_refl _) ?_; intro v133 w30 ho31 hb hg_ hnew_; clear hg_ hnew_; (first | rw [← Ny132.out] at ho31 | (simp only [Int.reduceToNat] at ho31; rw [← Ny132.out] at ho31)); refine zt2 (Kd.R_lower (Kd.R_newM (M := fun k_ => (w.heap.size ≤ k_)) ho31 (below_size zq1) (fun k_ h_ => h_)) (below_size zq1)) (below_step zq1 hb) ?_; clear HB; intro HO134 HB; clear hb ho31; obtain ⟨Ao32, co32, eo32⟩ := Kd.R_slice HO134.out; subst eo32))
    go_loopg [44] kj3 (fun kq v44 w' => ∃ (x4_2 : List Int) (x44_2 : Int), v44 = .int .i64 x44_2 ∧ Aside0 (nat_Shr.l0 kq l0 a1 x4_2 x5_3 (wrap64 (Int.tdiv a1 32)) (y132.length : Int) x44_2 = some (r1, r2)) ∧ Aside0 (kq ≤ kj3) ∧ Aside0 (Kd.R (Kd.int .u32) 73 w' w.heap.size (fun k_ => (w.heap.size ≤ k_)) (.slice Ao32 y132.length co32) x4_2) ∧ Aside0 (Below w.heap.size w w'))
    case atStart => exact ⟨(y132), (0), zq8, H', ⟨Nat.le_refl _⟩, ⟨zwR (h := by exact Kd.R_mono HO134.out (fun _ hk => hk.1))⟩, ⟨zq1⟩⟩
    case round =>
     clear H'
     obtain ⟨x4_2, x44_2, rfl, HA, HK2, HO_4, HB⟩ := hrel
     have hl4_2 := (Kd.R_reads' HO_4.out).1
     rw [hl4_2] at HO_4
     (try simp only [hl4_2])
     cases gk with
     | zero => exact absurd HA.out (by simp [nat_Shr.l0])
     | succ k2 =>
      have H := HA.out
      clear HA
      simp only [nat_Shr.l0] at H
      by_cases c33 : x44_2 < (y132.length : Int)
      ·rw [if_pos c33] at H
       have c33b0 := decide_eq_true c33
       clear c33
       obtain ⟨ji34, hji34⟩ : ∃ j_ : Int, (wrap64 (x44_2 + (wrap64 (Int.tdiv a1 32)))) = j_ := ⟨_, rfl⟩
       replace H : (if 0 ≤ (ji34) then (if (ji34) < (l0.length : Int) then (if (wrap64 ((ji34) + 1)) < (l0.length : Int) then (if 0 ≤ (wrap64 ((ji34) + 1)) then (if 0 ≤ (Int.tmod a1 32) then (if 0 ≤ x44_2 then (if x44_2 < (x4_2.length : Int) then (nat_Shr.l0 k2 l0 a1 (x4_2.set (x44_2 : Int).toNat ((shr .u64 (Go.bits .or .u64 (IntKind.u64.wrap (rd l0 (ji34))) (IntKind.u64.wrap ((IntKind.u64.wrap (rd l0 (wrap64 ((ji34) + 1)))) * 4294967296))) (Int.tmod a1 32)) % 4294967296)) x5_3 (wrap64 (Int.tdiv a1 32)) (y132.length : Int) (wrap64 (x44_2 + 1))) else (none)) else (none)) else (none)) else (none)) else (if 0 ≤ (Int.tmod a1 32) then (if 0 ≤ x44_2 then (if x44_2 < (x4_2.length : Int) then (nat_Shr.l0 k2 l0 a1 (x4_2.set (x44_2 : Int).toNat ((shr .u64 (IntKind.u64.wrap (rd l0 (ji34))) (Int.tmod a1 32)) % 4294967296)) x5_3 (wrap64 (Int.tdiv a1 32)) (y132.length : Int) (wrap64 (x44_2 + 1))) else (none)) else (none)) else (none))) else (none)) else (none)) = some (r1, r2) := by first | (rw [hji34] at H; exact H) | (simp only [hji34] at H ⊢; exact H)
       have hji34w : (IntKind.i64.wrap (x44_2 + (wrap64 (Int.tdiv a1 32)))) = ji34 := (i64_w _).trans hji34
       replace H := zn H
       obtain ⟨c35, H⟩ := H
       have c35b0 := decide_eq_true c35
       clear c35
       replace H := zn H
       obtain ⟨c36, H⟩ := H
       have c36b0 := decide_eq_true c36
       clear c36
       by_cases c37 : (wrap64 ((ji34) + 1)) < (l0.length : Int)
       ·rw [if_pos c37] at H
        have c37b0 := decide_eq_true c37
        clear c37
        obtain ⟨ji38, hji38⟩ : ∃ j_ : Int, (wrap64 ((ji34) + 1)) = j_ := ⟨_, rfl⟩
        replace H : (if 0 ≤ (ji38) then (if 0 ≤ (Int.tmod a1 32) then (if 0 ≤ x44_2 then (if x44_2 < (x4_2.length : Int) then (nat_Shr.l0 k2 l0 a1 (x4_2.set (x44_2 : Int).toNat ((shr .u64 (Go.bits .or .u64 (IntKind.u64.wrap (rd l0 (ji34))) (IntKind.u64.wrap ((IntKind.u64.wrap (rd l0 (ji38))) * 4294967296))) (Int.tmod a1 32)) % 4294967296)) x5_3 (wrap64 (Int.tdiv a1 32)) (y132.length : Int) (wrap64 (x44_2 + 1))) else (none)) else (none)) else (none)) else (none)) = some (r1, r2) := by first | (rw [hji38] at H; exact H) | (simp only [hji38] at H ⊢; exact H)
        (try rw [hji38] at c37b0)
        have hji38w : (IntKind.i64.wrap ((ji34) + 1)) = ji38 := (i64_w _).trans hji38
        replace H := zn H
        obtain ⟨c39, H⟩ := H
        have c39b0 := decide_eq_true c39
        clear c39
        obtain ⟨ji40, hji40⟩ : ∃ j_ : Int, (Int.tmod a1 32) = j_ := ⟨_, rfl⟩
        replace H : (if 0 ≤ (ji40) then (if 0 ≤ x44_2 then (if x44_2 < (x4_2.length : Int) then (nat_Shr.l0 k2 l0 a1 (x4_2.set (x44_2 : Int).toNat ((shr .u64 (Go.bits .or .u64 (IntKind.u64.wrap (rd l0 (ji34))) (IntKind.u64.wrap ((IntKind.u64.wrap (rd l0 (ji38))) * 4294967296))) (ji40)) % 4294967296)) x5_3 (wrap64 (Int.tdiv a1 32)) (y132.length : Int) (wrap64 (x44_2 + 1))) else (none)) else (none)) else (none)) = some (r1, r2) := by first | (rw [hji40] at H; exact H) | (simp only [hji40] at H ⊢; exact H)
        replace H := zn H
        obtain ⟨c41, H⟩ := H
        have c41b0 := eq_true c41
        have c41b1 := decide_eq_true c41
        clear c41
        obtain ⟨ji42, hji42⟩ : ∃ j_ : Int, (shr .u64 (Go.bits .or .u64 (IntKind.u64.wrap (rd l0 (ji34))) (IntKind.u64.wrap ((IntKind.u64.wrap (rd l0 (ji38))) * 4294967296))) (ji40)) = j_ := ⟨_, rfl⟩
        replace H : (if 0 ≤ x44_2 then (if x44_2 < (x4_2.length : Int) then (nat_Shr.l0 k2 l0 a1 (x4_2.set (x44_2 : Int).toNat ((ji42) % 4294967296)) x5_3 (wrap64 (Int.tdiv a1 32)) (y132.length : Int) (wrap64 (x44_2 + 1))) else (none)) else (none)) = some (r1, r2) := by first | (rw [hji42] at H; exact H) | (simp only [hji42] at H ⊢; exact H)
        have hji42_ : ((Go.bits .or .u64 (IntKind.u64.wrap (rd l0 (ji34))) (IntKind.u64.wrap ((IntKind.u64.wrap (rd l0 (ji38))) * 4294967296))) / 2 ^ min (ji40).toNat 64) = ji42 := hji42
        have hji42z : (ji40) ≤ 64 → ((Go.bits .or .u64 (IntKind.u64.wrap (rd l0 (ji34))) (IntKind.u64.wrap ((IntKind.u64.wrap (rd l0 (ji38))) * 4294967296))) / 2 ^ (ji40).toNat) = ji42 := shr_small hji42
        replace H := zn H
        obtain ⟨c43, H⟩ := H
        have c43b0 := decide_eq_true c43
        clear c43
        replace H := zn H
        obtain ⟨c44, H⟩ := H
        have c44b0 := decide_eq_true c44
        clear c44
        obtain ⟨y137, hy137⟩ : ∃ y_ : List Int, y_ = (x4_2.set (x44_2 : Int).toNat ((ji42) % 4294967296)) := ⟨_, rfl⟩
        try rw [← hy137] at H
        have Ny137 := am hy137
        clear hy137
        have H' := am H
        clear H
        have p135 : 0 ≤ ((ji34) : Int) := zq6
        have q135 : (ji34) < (l0.length : Int) := zq6
        obtain ⟨ad135, e135, hx135_0⟩ := Kd.at_int HR0.out (ji34) p135 q135
        cases e135
        replace hx135_0 := (HB.out.cell (World.block_lt_of_cell? w _ hx135_0)).trans hx135_0
        replace p135 := eq_true p135
        replace q135 := eq_true q135
        have p136 : 0 ≤ ((ji38) : Int) := zq6
        have q136 : (ji38) < (l0.length : Int) := zq6
        obtain ⟨ad136, e136, hx136_0⟩ := Kd.at_int HR0.out (ji38) p136 q136
        obtain rfl : ad135 = ad136 := (by injection e136)
        replace hx136_0 := (HB.out.cell (World.block_lt_of_cell? w _ hx136_0)).trans hx136_0
        replace p136 := eq_true p136
        replace q136 := eq_true q136
        have p45 : 0 ≤ (x44_2 : Int) := zq6
        have q45 : (x44_2 : Int) < ((x4_2.length : Int) : Int) := zq6
        obtain ⟨go45, co45, eo45, gb45, gl45, cl45, HG45⟩ := Kd.R_form HO_4.out (by omega)
        (first | cases eo45 | (injection eo45 with ea_ en_ ec_; (first | subst ea_ | (injection ea_ with ea_; subst ea_)); subst ec_; clear en_))
        have GB45 := am gb45
        have GG45 := am HG45
        clear gb45 gl45 HG45
        obtain ⟨hx45_0, hf45_0⟩ := Kd.R_celln 0 HO_4.out (x44_2 : Int) p45 q45
        replace p45 := eq_true p45
        replace q45 := eq_true q45
        have HP46 := Kd.R_putg HO_4.out (x44_2 : Int) ((ji42) % 4294967296)
        go_wp2_with (first | ((with_reducible refine gate_store (t := 73) (p := 79) rfl ?_); refine zstore (t := 73) (p := 79) (w1 := (wr.setCell ⟨go45, (x44_2 : Int).toNat, none⟩ (.int .u32 ((ji42) % 4294967296)))) ?_; intro w47 hw; have hg : wr.grownBy w47 (some go45) := (by rw [hw]; exact HP46.2); have hp_ : Kd.R (Kd.int .u32) 73 w47 w.heap.size (fun k_ => (w.heap.size ≤ k_)) (.slice (some ⟨go45, 0, none⟩) x4_2.length co32) y137 := (by rw [hw, Ny137.out]; exact HP46.1); clear HP46; refine zt2 (hp_) ((by rw [hw]; exact below_set (HB.out) GB45.out : Below w.heap.size w w47)) ?_; clear HO_4 HB; intro HO_4 HB; clear hg hw hp_))
        (try simp only [← hl4_2])
        go_roundg k2
        case measure => have := HJ3.out; have := HK2.out; omega
        case rel => exact ⟨(y137), (wrap64 (x44_2 + 1)), zq8, (by first | exact H' | (rw [hji27]; exact H') | (rw [hji34]; exact H') | (rw [hji38]; exact H') | (rw [hji40]; exact H') | (rw [hji42]; exact H')), ⟨by have := HJ3.out; have := HK2.out; omega⟩, ⟨by (try simp only [hl4_2]); (with_reducible repeat (first | apply Kd.R_alloc | apply Kd.R_drewN | apply Kd.R_drew)); exact HO_4.out⟩, ⟨zq1⟩⟩
       ·rw [if_neg c37] at H
        have c37b0 := decide_eq_false c37
        (try (have c37b0x := c37b0; rw [hl4_2] at c37b0x))
        clear c37
        obtain ⟨ji48, hji48⟩ : ∃ j_ : Int, (Int.tmod a1 32) = j_ := ⟨_, rfl⟩
        replace H : (if 0 ≤ (ji48) then (if 0 ≤ x44_2 then (if x44_2 < (x4_2.length : Int) then (nat_Shr.l0 k2 l0 a1 (x4_2.set (x44_2 : Int).toNat ((shr .u64 (IntKind.u64.wrap (rd l0 (ji34))) (ji48)) % 4294967296)) x5_3 (wrap64 (Int.tdiv a1 32)) (y132.length : Int) (wrap64 (x44_2 + 1))) else (none)) else (none)) else (none)) = some (r1, r2) := by first | (rw [hji48] at H; exact H) | (simp only [hji48] at H ⊢; exact H)
        replace H := zn H
        obtain ⟨c49, H⟩ := H
        have c49b0 := eq_true c49
        have c49b1 := decide_eq_true c49
        clear c49
        obtain ⟨ji50, hji50⟩ : ∃ j_ : Int, (shr .u64 (IntKind.u64.wrap (rd l0 (ji34))) (ji48)) = j_ := ⟨_, rfl⟩
        replace H : (if 0 ≤ x44_2 then (if x44_2 < (x4_2.length : Int) then (nat_Shr.l0 k2 l0 a1 (x4_2.set (x44_2 : Int).toNat ((ji50) % 4294967296)) x5_3 (wrap64 (Int.tdiv a1 32)) (y132.length : Int) (wrap64 (x44_2 + 1))) else (none)) else (none)) = some (r1, r2) := by first | (rw [hji50] at H; exact H) | (simp only [hji50] at H ⊢; exact H)
        have hji50_ : ((IntKind.u64.wrap (rd l0 (ji34))) / 2 ^ min (ji48).toNat 64) = ji50 := hji50
        have hji50z : (ji48) ≤ 64 → ((IntKind.u64.wrap (rd l0 (ji34))) / 2 ^ (ji48).toNat) = ji50 := shr_small hji50
        replace H := zn H
        obtain ⟨c51, H⟩ := H
        have c51b0 := decide_eq_true c51
        clear c51
        replace H := zn H
        obtain ⟨c52, H⟩ := H
        have c52b0 := decide_eq_true c52
        clear c52
        obtain ⟨y138, hy138⟩ : ∃ y_ : List Int, y_ = (x4_2.set (x44_2 : Int).toNat ((ji50) % 4294967296)) := ⟨_, rfl⟩
        try rw [← hy138] at H
        have Ny138 := am hy138
        clear hy138
        have H' := am H
        clear H
        have p135 : 0 ≤ ((ji34) : Int) := zq6
        have q135 : (ji34) < (l0.length : Int) := zq6
        obtain ⟨ad135, e135, hx135_0⟩ := Kd.at_int HR0.out (ji34) p135 q135
        cases e135
        replace hx135_0 := (HB.out.cell (World.block_lt_of_cell? w _ hx135_0)).trans hx135_0
        replace p135 := eq_true p135
        replace q135 := eq_true q135
        have p53 : 0 ≤ (x44_2 : Int) := zq6
        have q53 : (x44_2 : Int) < ((x4_2.length : Int) : Int) := zq6
        obtain ⟨go53, co53, eo53, gb53, gl53, cl53, HG53⟩ := Kd.R_form HO_4.out (by omega)
        (first | cases eo53 | (injection eo53 with ea_ en_ ec_; (first | subst ea_ | (injection ea_ with ea_; subst ea_)); subst ec_; clear en_))
        have GB53 := am gb53
        have GG53 := am HG53
        clear gb53 gl53 HG53
        obtain ⟨hx53_0, hf53_0⟩ := Kd.R_celln 0 HO_4.out (x44_2 : Int) p53 q53
        replace p53 := eq_true p53
        replace q53 := eq_true q53
        have HP54 := Kd.R_putg HO_4.out (x44_2 : Int) ((ji50) % 4294967296)
        go_wp2_with (first | ((with_reducible refine gate_store (t := 73) (p := 79) rfl ?_); refine zstore (t := 73) (p := 79) (w1 := (wr.setCell ⟨go53, (x44_2 : Int).toNat, none⟩ (.int .u32 ((ji50) % 4294967296)))) ?_; intro w55 hw; have hg : wr.grownBy w55 (some go53) := (by rw [hw]; exact HP54.2); have hp_ : Kd.R (Kd.int .u32) 73 w55 w.heap.size (fun k_ => (w.heap.size ≤ k_)) (.slice (some ⟨go53, 0, none⟩) x4_2.length co32) y138 := (by rw [hw, Ny138.out]; exact HP54.1); clear HP54; refine zt2 (hp_) ((by rw [hw]; exact below_set (HB.out) GB53.out : Below w.heap.size w w55)) ?_; clear HO_4 HB; intro HO_4 HB; clear hg hw hp_))
        (try simp only [← hl4_2])
        go_roundg k2
        case measure => have := HJ3.out; have := HK2.out; omega
        case rel => exact ⟨(y138), (wrap64 (x44_2 + 1)), zq8, (by first | exact H' | (rw [hji27]; exact H') | (rw [hji34]; exact H') | (rw [hji48]; exact H') | (rw [hji50]; exact H')), ⟨by have := HJ3.out; have := HK2.out; omega⟩, ⟨by (try simp only [hl4_2]); (with_reducible repeat (first | apply Kd.R_alloc | apply Kd.R_drewN | apply Kd.R_drew)); exact HO_4.out⟩, ⟨zq1⟩⟩
      ·rw [if_neg c33] at H
       have c33b0 := decide_eq_false c33
       (try (have c33b0x := c33b0; rw [hl4_2] at c33b0x))
       clear c33
       replace H := zj H
       obtain ⟨t139, A56, H⟩ := H
       simp only [Option.some.injEq, Prod.mk.injEq] at H
       obtain ⟨rfl, rfl⟩ := H
       go_wp2_with (first | ((with_reducible refine gate_callee (f := 62) rfl ?_); refine goesL_ (some 82) rfl rfl Tryz.func62 (by kernel_rfl) rfl #[.slice Ao32 x4_2.length co32] rfl zq5 ?_; (with_reducible refine (nat_Trim.calls k2 (fun k_ => some k_ = (.slice Ao32 x4_2.length co32 : Value).ownBlock) _ _ x4_2 t139 _ ?side1 A56.out).mono ?_); (case side1 => exact Kd.R_V (Kd.R_tight rfl (HO_4.out))); rintro e w57 ⟨v140, rfl, ho0, hb⟩; refine ⟨_, rfl, ?_⟩; refine zt3 (rb HO_4 hb) (Kd.V_lower (Kd.V_mono (ok' := fun k_ => (w.heap.size ≤ k_)) ho0 (fun k_ hk_ => Or.elim hk_ (fun hs_ => ((HO_4.out).1 k_ hs_.symm)) (fun hn_ => (Nat.le_trans (below_size zq1) hn_)))) (below_size zq1)) (below_step zq1 hb) ?_; clear HO_4 HB; intro HO_4 HO141 HB))
       go_ret2
       exact ⟨_, by first | rfl | (simp [errW_none, errW_some] <;> rfl) | (simp only [← hji27]; first | rfl | (simp [errW_none, errW_some] <;> rfl)) | (simp [*, errW_none, errW_some] <;> rfl), zq3 HO141.out, zq1⟩
def nat_sign.f (a0 : Int) : Option (Int) := if a0 < 0 then (some (-1)) else (if a0 > 0 then (some 1) else (some 0))
set_option maxHeartbeats 8000000 in
set_option maxRecDepth 100000 in
theorem nat_sign.calls (a0 : Int) (r : Int) (w : World) (h : nat_sign.f a0 = some r) :
  Calls Tryz.prog 97 #[.int .i64 a0] w fun e w' => e = .returned (.int .i64 r) ∧ Drawn0 w w' := by
 have H := h
 unfold nat_sign.f at H
 clear h
 by_cases c2 : a0 < 0
 ·rw [if_pos c2] at H
  have c2b0 := decide_eq_true c2
  clear c2
  obtain rfl := Option.some.inj H
  go_enter Tryz.func97, Tryz.ntmps97
  go_wp2
  go_ret
  exact ⟨by first | rfl | (simp; done) | (simp [*]; done), by repeat (first | exact Drawn0.refl _ | apply Drawn0.step)⟩
 ·rw [if_neg c2] at H
  have c2b0 := decide_eq_false c2
  clear c2
  by_cases c3 : a0 > 0
  ·rw [if_pos c3] at H
   have c3b0 : decide (0 < a0) = true := decide_eq_true c3
   clear c3
   obtain rfl := Option.some.inj H
   go_enter Tryz.func97, Tryz.ntmps97
   go_wp2
   go_ret
   exact ⟨by first | rfl | (simp; done) | (simp [*]; done), by repeat (first | exact Drawn0.refl _ | apply Drawn0.step)⟩
  ·rw [if_neg c3] at H
   have c3b0 : decide (0 < a0) = false := decide_eq_false c3
   clear c3
   obtain rfl := Option.some.inj H
   go_enter Tryz.func97, Tryz.ntmps97
   go_wp2
   go_ret
   exact ⟨by first | rfl | (simp; done) | (simp [*]; done), by repeat (first | exact Drawn0.refl _ | apply Drawn0.step)⟩
def nat_Compare.l0 : Nat → List Int → List Int → Int → Option (Int)
 | 0, _, _, _ => none
 | k + 1, x0, x1, x5 => if x5 ≥ 0 then (if 0 ≤ x5 then (if x5 < (x0.length : Int) then (if x5 < (x1.length : Int) then (if (rd x0 x5) = (rd x1 x5) then (nat_Compare.l0 k x0 x1 (wrap64 (x5 - 1))) else (if (rd x0 x5) < (rd x1 x5) then (some (-1)) else (some 1))) else (none)) else (none)) else (none)) else (some 0)
def nat_Compare.f (k : Nat) (l0 : List Int) (l1 : List Int) : Option (Int) := if (l0.length : Int) = (l1.length : Int) then (nat_Compare.l0 k l0 l1 (wrap64 ((l0.length : Int) - 1))) else ((nat_sign.f (wrap64 ((l0.length : Int) - (l1.length : Int)))).bind fun t142 => (some t142))
set_option maxHeartbeats 8000000 in
set_option maxRecDepth 100000 in
theorem nat_Compare.calls (k : Nat) (A0 : Option Addr) (c0 : Nat) (l0 : List Int) (A1 : Option Addr) (c1 : Nat) (l1 : List Int) (r : Int) (w : World) (hr0 : Kd.C (Kd.int .u32) w A0 l0.length l0) (hc0 : l0.length ≤ c0) (hr1 : Kd.C (Kd.int .u32) w A1 l1.length l1) (hc1 : l1.length ≤ c1) (h : nat_Compare.f k l0 l1 = some r) :
  Calls Tryz.prog 67 #[.slice A0 l0.length c0, .slice A1 l1.length c1] w fun e w' => e = .returned (.int .i64 r) ∧ Drawn0 w w' := by
 have HR0 := am hr0
 have HC0 := am hc0
 clear hr0 hc0
 have HR1 := am hr1
 have HC1 := am hc1
 clear hr1 hc1
 have H := h
 unfold nat_Compare.f at H
 clear h
 by_cases c3 : (l0.length : Int) = (l1.length : Int)
 ·rw [if_pos c3] at H
  have c3b0 : ((l0.length : Int) == (l1.length : Int)) = true := beq_iff_eq.mpr c3
  have c3b1 : ((l0.length : Int) != (l1.length : Int)) = false := bne_eq_false_iff_eq.mpr c3
  have c3b2 : (l0.length == l1.length) = true := by first | simpa using c3 | (simp at c3 ⊢; omega)
  clear c3
  have H' := am H
  clear H
  go_enter Tryz.func67, Tryz.ntmps67
  go_wp2
  repeat (go_quiet (fail); try go_wp2)
  go_loopg [5] k (fun kq v5 w' => ∃ (x5_1 : Int), v5 = .int .i64 x5_1 ∧ Aside0 (nat_Compare.l0 kq l0 l1 x5_1 = some r) ∧ Aside0 (kq ≤ k) ∧ Drawn0 w w')
  case atStart => exact ⟨(wrap64 ((l0.length : Int) - 1)), zq8, H', ⟨Nat.le_refl _⟩, by repeat (first | exact Drawn0.refl _ | apply Drawn0.step)⟩
  case round =>
   clear H'
   obtain ⟨x5_1, rfl, HA, HK1, ⟨m1, rfl⟩⟩ := hrel
   cases gk with
   | zero => exact absurd HA.out (by simp [nat_Compare.l0])
   | succ k1 =>
    have H := HA.out
    clear HA
    simp only [nat_Compare.l0] at H
    by_cases c4 : x5_1 ≥ 0
    ·rw [if_pos c4] at H
     have c4b0 : decide (0 ≤ x5_1) = true := decide_eq_true c4
     clear c4
     replace H := zn H
     obtain ⟨c5, H⟩ := H
     have c5b0 := decide_eq_true c5
     clear c5
     replace H := zn H
     obtain ⟨c6, H⟩ := H
     have c6b0 := decide_eq_true c6
     clear c6
     replace H := zn H
     obtain ⟨c7, H⟩ := H
     have c7b0 := decide_eq_true c7
     clear c7
     by_cases c8 : (rd l0 x5_1) = (rd l1 x5_1)
     ·rw [if_pos c8] at H
      have c8b0 : ((rd l0 x5_1) == (rd l1 x5_1)) = true := beq_iff_eq.mpr c8
      have c8b1 : ((rd l0 x5_1) != (rd l1 x5_1)) = false := bne_eq_false_iff_eq.mpr c8
      clear c8
      have H' := am H
      clear H
      have p143 : 0 ≤ (x5_1 : Int) := zq6
      have q143 : x5_1 < (l0.length : Int) := zq6
      obtain ⟨ad143, e143, hx143_0⟩ := Kd.at_int HR0.out x5_1 p143 q143
      cases e143
      replace p143 := eq_true p143
      replace q143 := eq_true q143
      have p144 : 0 ≤ (x5_1 : Int) := zq6
      have q144 : x5_1 < (l1.length : Int) := zq6
      obtain ⟨ad144, e144, hx144_0⟩ := Kd.at_int HR1.out x5_1 p144 q144
      cases e144
      replace p144 := eq_true p144
      replace q144 := eq_true q144
      go_wp2
      repeat (go_quiet (fail); try go_wp2)
      go_roundg k1
      case measure => have := HK1.out; omega
      case rel => exact ⟨(wrap64 (x5_1 - 1)), zq8, H', ⟨by have := HK1.out; omega⟩, by repeat (first | exact Drawn0.refl _ | apply Drawn0.step)⟩
     ·rw [if_neg c8] at H
      have c8b0 : ((rd l0 x5_1) == (rd l1 x5_1)) = false := beq_eq_false_iff_ne.mpr c8
      have c8b1 : ((rd l0 x5_1) != (rd l1 x5_1)) = true := bne_iff_ne.mpr c8
      by_cases c9 : (rd l0 x5_1) < (rd l1 x5_1)
      ·rw [if_pos c9] at H
       have c9b0 := decide_eq_true c9
       clear c9
       obtain rfl := Option.some.inj H
       have p143 : 0 ≤ (x5_1 : Int) := zq6
       have q143 : x5_1 < (l0.length : Int) := zq6
       obtain ⟨ad143, e143, hx143_0⟩ := Kd.at_int HR0.out x5_1 p143 q143
       cases e143
       replace p143 := eq_true p143
       replace q143 := eq_true q143
       have p144 : 0 ≤ (x5_1 : Int) := zq6
       have q144 : x5_1 < (l1.length : Int) := zq6
       obtain ⟨ad144, e144, hx144_0⟩ := Kd.at_int HR1.out x5_1 p144 q144
       cases e144
       replace p144 := eq_true p144
       replace q144 := eq_true q144
       have p145 : 0 ≤ (x5_1 : Int) := zq6
       have q145 : x5_1 < (l0.length : Int) := zq6
       obtain ⟨ad145, e145, hx145_0⟩ := Kd.at_int HR0.out x5_1 p145 q145
       obtain rfl : ad143 = ad145 := (by injection e145)
       replace p145 := eq_true p145
       replace q145 := eq_true q145
       have p146 : 0 ≤ (x5_1 : Int) := zq6
       have q146 : x5_1 < (l1.length : Int) := zq6
       obtain ⟨ad146, e146, hx146_0⟩ := Kd.at_int HR1.out x5_1 p146 q146
       obtain rfl : ad144 = ad146 := (by injection e146)
       replace p146 := eq_true p146
       replace q146 := eq_true q146
       go_wp2
       repeat (go_quiet (fail); try go_wp2)
       go_ret
       exact ⟨by first | rfl | (simp; done) | (simp [*]; done), by repeat (first | exact Drawn0.refl _ | apply Drawn0.step)⟩
      ·rw [if_neg c9] at H
       have c9b0 := decide_eq_false c9
       clear c9
       obtain rfl := Option.some.inj H
       have p143 : 0 ≤ (x5_1 : Int) := zq6
       have q143 : x5_1 < (l0.length : Int) := zq6
       obtain ⟨ad143, e143, hx143_0⟩ := Kd.at_int HR0.out x5_1 p143 q143
       cases e143
       replace p143 := eq_true p143
       replace q143 := eq_true q143
       have p144 : 0 ≤ (x5_1 : Int) := zq6
       have q144 : x5_1 < (l1.length : Int) := zq6
       obtain ⟨ad144, e144, hx144_0⟩ := Kd.at_int HR1.out x5_1 p144 q144
       cases e144
       replace p144 := eq_true p144
       replace q144 := eq_true q144
       have p145 : 0 ≤ (x5_1 : Int) := zq6
       have q145 : x5_1 < (l0.length : Int) := zq6
       obtain ⟨ad145, e145, hx145_0⟩ := Kd.at_int HR0.out x5_1 p145 q145
       obtain rfl : ad143 = ad145 := (by injection e145)
       replace p145 := eq_true p145
       replace q145 := eq_true q145
       have p146 : 0 ≤ (x5_1 : Int) := zq6
       have q146 : x5_1 < (l1.length : Int) := zq6
       obtain ⟨ad146, e146, hx146_0⟩ := Kd.at_int HR1.out x5_1 p146 q146
       obtain rfl : ad144 = ad146 := (by injection e146)
       replace p146 := eq_true p146
       replace q146 := eq_true q146
       go_wp2
       repeat (go_quiet (fail); try go_wp2)
       go_ret
       exact ⟨by first | rfl | (simp; done) | (simp [*]; done), by repeat (first | exact Drawn0.refl _ | apply Drawn0.step)⟩
    ·rw [if_neg c4] at H
     have c4b0 : decide (0 ≤ x5_1) = false := decide_eq_false c4
     clear c4
     obtain rfl := Option.some.inj H
     go_wp2
     repeat (go_quiet (fail); try go_wp2)
     go_ret
     exact ⟨by first | rfl | (simp; done) | (simp [*]; done), by repeat (first | exact Drawn0.refl _ | apply Drawn0.step)⟩
 ·rw [if_neg c3] at H
  have c3b0 : ((l0.length : Int) == (l1.length : Int)) = false := beq_eq_false_iff_ne.mpr c3
  have c3b1 : ((l0.length : Int) != (l1.length : Int)) = true := bne_iff_ne.mpr c3
  have c3b2 : (l0.length == l1.length) = false := by first | simpa using c3 | (simp at c3 ⊢; omega)
  replace H := zj H
  obtain ⟨t142, A10, H⟩ := H
  obtain rfl := Option.some.inj H
  go_enter Tryz.func67, Tryz.ntmps67
  go_wp2_with (first | (go_at_call 97; (with_reducible refine (nat_sign.calls (wrap64 ((l0.length : Int) - (l1.length : Int))) t142 _ A10.out).mono ?_); rintro e w' ⟨rfl, ⟨nd, rfl⟩⟩; (try first | exact ⟨rfl, _, World.drewN_drewN _ _ _⟩ | exact ⟨rfl, _, Eq.trans (World.drewN_drewN _ _ _) (congrArg (World.drewN _) (Nat.add_assoc _ _ _))⟩)))
  repeat (go_quiet (first | (go_at_call 97; (with_reducible refine (nat_sign.calls (wrap64 ((l0.length : Int) - (l1.length : Int))) t142 _ A10.out).mono ?_); rintro e w' ⟨rfl, ⟨nd, rfl⟩⟩; (try first | exact ⟨rfl, _, World.drewN_drewN _ _ _⟩ | exact ⟨rfl, _, Eq.trans (World.drewN_drewN _ _ _) (congrArg (World.drewN _) (Nat.add_assoc _ _ _))⟩))); try go_wp2_with (first | (go_at_call 97; (with_reducible refine (nat_sign.calls (wrap64 ((l0.length : Int) - (l1.length : Int))) t142 _ A10.out).mono ?_); rintro e w' ⟨rfl, ⟨nd, rfl⟩⟩; (try first | exact ⟨rfl, _, World.drewN_drewN _ _ _⟩ | exact ⟨rfl, _, Eq.trans (World.drewN_drewN _ _ _) (congrArg (World.drewN _) (Nat.add_assoc _ _ _))⟩))))
  go_ret
  exact ⟨by first | rfl | (simp; done) | (simp [*]; done), by repeat (first | exact Drawn0.refl _ | apply Drawn0.step)⟩
def nat_DivSmall.l0 : Nat → List Int → Int → List Int → Int → Int → Option (List Int × Int)
 | 0, _, _, _, _, _ => none
 | k + 1, x0, x1, x6, x7, x8 => if x8 ≥ 0 then (if 0 ≤ x8 then (if x8 < (x0.length : Int) then (if (IntKind.u64.wrap (x1)) = 0 then (none) else (if x8 < (x6.length : Int) then (nat_DivSmall.l0 k x0 x1 (x6.set (x8 : Int).toNat ((IntKind.u64.wrap (Int.tdiv (Go.bits .or .u64 (IntKind.u64.wrap (x7 * 4294967296)) (IntKind.u64.wrap (rd x0 x8))) (IntKind.u64.wrap (x1)))) % 4294967296)) (Int.tmod (Go.bits .or .u64 (IntKind.u64.wrap (x7 * 4294967296)) (IntKind.u64.wrap (rd x0 x8))) (IntKind.u64.wrap (x1))) (wrap64 (x8 - 1))) else (none))) else (none)) else (none)) else ((nat_Trim.f k x6).bind fun t152 => (some (t152, (x7) % 4294967296)))
def nat_DivSmall.f (k : Nat) (l0 : List Int) (a1 : Int) : Option (List Int × Int) := if 0 ≤ (l0.length : Int) then (if ((l0.length : Int) : Int).toNat ≤ 70368744177664 then (nat_DivSmall.l0 k l0 a1 (List.replicate ((l0.length : Int) : Int).toNat 0) 0 (wrap64 ((l0.length : Int) - 1))) else (none)) else (none)
set_option maxHeartbeats 8000000 in
set_option maxRecDepth 100000 in
theorem nat_DivSmall.calls (k : Nat) (A0 : Option Addr) (c0 : Nat) (l0 : List Int) (a1 : Int) (r1 : List Int) (r2 : Int) (w : World) (hr0 : Kd.C (Kd.int .u32) w A0 l0.length l0) (hc0 : l0.length ≤ c0) (h : nat_DivSmall.f k l0 a1 = some (r1, r2)) :
  Calls Tryz.prog 94 #[.slice A0 l0.length c0, .int .u32 a1] w fun e w' => ∃ v0_ : Value, e = .returned (.tuple #[v0_, .int .u32 r2]) ∧ Kd.V (Kd.int .u32) 73 w' w.heap.size (fun k_ => (w.heap.size ≤ k_)) v0_ r1 ∧ Below w.heap.size w w' := by
 have HR0 := am hr0
 have HC0 := am hc0
 clear hr0 hc0
 have HB := am (Below.refl w.heap.size w)
 have H := h
 unfold nat_DivSmall.f at H
 clear h
 replace H := zn H
 obtain ⟨c3, H⟩ := H
 have c3b0 := eq_true c3
 have c3b1 := decide_eq_true c3
 clear c3
 replace H := zn H
 obtain ⟨c4, H⟩ := H
 have c4b0 := eq_true c4
 have c4b1 := decide_eq_true c4
 clear c4
 obtain ⟨y147, hy147⟩ : ∃ y_ : List Int, y_ = (List.replicate ((l0.length : Int) : Int).toNat 0) := ⟨_, rfl⟩
 try rw [← hy147] at H
 have Ny147 := am hy147
 clear hy147
 have H' := am H
 clear H
 go_enter Tryz.func94, Tryz.ntmps94
 go_wp2_with (first | ((with_reducible refine gate_dst (N := 11) rfl ?_); refine Kd.R_make (Kd.int .u32) _ 73 rfl (N := 11) rfl 22 _ _ rfl (l0.length : Int) rfl rfl Tryz.underlying22 (.int .u32 0) 4 info73 rfl (by decide) (by omega) 0 (ok := fun _ => True) (okp := fun _ => True) rfl (fun _ hk => hk) trivial zq6 (Nat.le_trans (Nat.mul_le_mul_right _ (zq6 : (l0.length : Int).toNat ≤ 70368744177664)) (by omega)) (Below.refl _ _) (Nat.le_refl _) ?_; intro v148 w5 ho6 hb hg_ hnew_; clear hg_ hnew_; (first | rw [← Ny147.out] at ho6 | (simp only [Int.reduceToNat] at ho6; rw [← Ny147.out] at ho6)); refine zt2 (Kd.R_lower (Kd.R_newM (M := fun k_ => (w.heap.size ≤ k_)) ho6 (below_size zq1) (fun k_ h_ => h_)) (below_size zq1)) (below_step zq1 hb) ?_; clear HB; intro HO149 HB; clear hb ho6))
 go_loopg [7, 8] k (fun kq v7 v8 w' => ∃ (x6_1 : List Int) (x7_1 : Int) (x8_1 : Int), v7 = .int .u64 x7_1 ∧ v8 = .int .i64 x8_1 ∧ Aside0 (nat_DivSmall.l0 kq l0 a1 x6_1 x7_1 x8_1 = some (r1, r2)) ∧ Aside0 (kq ≤ k) ∧ Aside0 (Kd.R (Kd.int .u32) 73 w' w.heap.size (fun k_ => (w.heap.size ≤ k_)) v148 x6_1) ∧ Aside0 (Below w.heap.size w w'))
 case atStart => exact ⟨(y147), (0), (wrap64 ((l0.length : Int) - 1)), zq8, zq8, H', ⟨Nat.le_refl _⟩, ⟨zwR (h := by exact Kd.R_mono HO149.out (fun _ hk => hk.1))⟩, ⟨zq1⟩⟩
 case round =>
  clear H'
  obtain ⟨x6_1, x7_1, x8_1, rfl, rfl, HA, HK1, HO_6, HB⟩ := hrel
  cases gk with
  | zero => exact absurd HA.out (by simp [nat_DivSmall.l0])
  | succ k1 =>
   have H := HA.out
   clear HA
   simp only [nat_DivSmall.l0] at H
   by_cases c7 : x8_1 ≥ 0
   ·rw [if_pos c7] at H
    have c7b0 : decide (0 ≤ x8_1) = true := decide_eq_true c7
    clear c7
    replace H := zn H
    obtain ⟨c8, H⟩ := H
    have c8b0 := decide_eq_true c8
    clear c8
    replace H := zn H
    obtain ⟨c9, H⟩ := H
    have c9b0 := decide_eq_true c9
    clear c9
    replace H := zo H
    obtain ⟨c10, H⟩ := H
    have c10b0 : ((IntKind.u64.wrap (a1)) == 0) = false := beq_eq_false_iff_ne.mpr c10
    have c10b1 : ((IntKind.u64.wrap (a1)) != 0) = true := bne_iff_ne.mpr c10
    replace H := zn H
    obtain ⟨c11, H⟩ := H
    have c11b0 := decide_eq_true c11
    clear c11
    obtain ⟨y151, hy151⟩ : ∃ y_ : List Int, y_ = (x6_1.set (x8_1 : Int).toNat ((IntKind.u64.wrap (Int.tdiv (Go.bits .or .u64 (IntKind.u64.wrap (x7_1 * 4294967296)) (IntKind.u64.wrap (rd l0 x8_1))) (IntKind.u64.wrap (a1)))) % 4294967296)) := ⟨_, rfl⟩
    try rw [← hy151] at H
    have Ny151 := am hy151
    clear hy151
    have H' := am H
    clear H
    have p150 : 0 ≤ (x8_1 : Int) := zq6
    have q150 : x8_1 < (l0.length : Int) := zq6
    obtain ⟨ad150, e150, hx150_0⟩ := Kd.at_int HR0.out x8_1 p150 q150
    cases e150
    replace hx150_0 := (HB.out.cell (World.block_lt_of_cell? w _ hx150_0)).trans hx150_0
    replace p150 := eq_true p150
    replace q150 := eq_true q150
    have p12 : 0 ≤ (x8_1 : Int) := zq6
    have q12 : (x8_1 : Int) < ((x6_1.length : Int) : Int) := zq6
    obtain ⟨go12, co12, eo12, gb12, gl12, cl12, HG12⟩ := Kd.R_form HO_6.out (by omega)
    (first | cases eo12 | (injection eo12 with ea_ en_ ec_; (first | subst ea_ | (injection ea_ with ea_; subst ea_)); subst ec_; clear en_))
    have GB12 := am gb12
    have GG12 := am HG12
    clear gb12 gl12 HG12
    obtain ⟨hx12_0, hf12_0⟩ := Kd.R_celln 0 HO_6.out (x8_1 : Int) p12 q12
    replace p12 := eq_true p12
    replace q12 := eq_true q12
    have HP13 := Kd.R_putg HO_6.out (x8_1 : Int) ((IntKind.u64.wrap (Int.tdiv (Go.bits .or .u64 (IntKind.u64.wrap (x7_1 * 4294967296)) (IntKind.u64.wrap (rd l0 x8_1))) (IntKind.u64.wrap (a1)))) % 4294967296)
    go_wp2_with (first | ((with_reducible refine gate_store (t := 73) (p := 34) rfl ?_); refine zstore (t := 73) (p := 34) (w1 := (wr.setCell ⟨go12, (x8_1 : Int).toNat, none⟩ (.int .u32 ((IntKind.u64.wrap (Int.tdiv (Go.bits .or .u64 (IntKind.u64.wrap (x7_1 * 4294967296)) (IntKind.u64.wrap (rd l0 x8_1))) (IntKind.u64.wrap (a1)))) % 4294967296)))) ?_; intro w14 hw; have hg : wr.grownBy w14 (some go12) := (by rw [hw]; exact HP13.2); have hp_ : Kd.R (Kd.int .u32) 73 w14 w.heap.size (fun k_ => (w.heap.size ≤ k_)) (.slice (some ⟨go12, 0, none⟩) x6_1.length co12) y151 := (by rw [hw, Ny151.out]; exact HP13.1); clear HP13; refine zt2 (hp_) ((by rw [hw]; exact below_set (HB.out) GB12.out : Below w.heap.size w w14)) ?_; clear HO_6 HB; intro HO_6 HB; clear hg hw hp_))
    go_roundg k1
    case measure => have := HK1.out; omega
    case rel => exact ⟨(y151), (Int.tmod (Go.bits .or .u64 (IntKind.u64.wrap (x7_1 * 4294967296)) (IntKind.u64.wrap (rd l0 x8_1))) (IntKind.u64.wrap (a1))), (wrap64 (x8_1 - 1)), zq8, zq8, H', ⟨by have := HK1.out; omega⟩, ⟨zq4 HO_6.out⟩, ⟨zq1⟩⟩
   ·rw [if_neg c7] at H
    have c7b0 : decide (0 ≤ x8_1) = false := decide_eq_false c7
    clear c7
    replace H := zj H
    obtain ⟨t152, A15, H⟩ := H
    simp only [Option.some.injEq, Prod.mk.injEq] at H
    obtain ⟨rfl, rfl⟩ := H
    obtain ⟨Ao16, co16, eo16⟩ := Kd.R_slice HO_6.out
    subst eo16
    go_wp2_with (first | ((with_reducible refine gate_callee (f := 62) rfl ?_); refine goesL_ (some 40) rfl rfl Tryz.func62 (by kernel_rfl) rfl #[.slice Ao16 x6_1.length co16] rfl zq5 ?_; (with_reducible refine (nat_Trim.calls k1 (fun k_ => some k_ = (.slice Ao16 x6_1.length co16 : Value).ownBlock) _ _ x6_1 t152 _ ?side1 A15.out).mono ?_); (case side1 => exact Kd.R_V (Kd.R_tight rfl (HO_6.out))); rintro e w17 ⟨v153, rfl, ho0, hb⟩; refine ⟨_, rfl, ?_⟩; refine zt3 (rb HO_6 hb) (Kd.V_lower (Kd.V_mono (ok' := fun k_ => (w.heap.size ≤ k_)) ho0 (fun k_ hk_ => Or.elim hk_ (fun hs_ => ((HO_6.out).1 k_ hs_.symm)) (fun hn_ => (Nat.le_trans (below_size zq1) hn_)))) (below_size zq1)) (below_step zq1 hb) ?_; clear HO_6 HB; intro HO_6 HO154 HB))
    go_ret2
    exact ⟨_, zq9, zq3 HO154.out, zq1⟩
def bits_Len32.f (a0 : Int) : Option (Int) := if a0 ≥ 65536 then (if (a0 / 65536) ≥ 256 then (if 0 ≤ (((a0 / 65536) / 256) % 256) then (if (((a0 / 65536) / 256) % 256) < 256 then (some (wrap64 ((16 + 8) + (wrap64 (bt (⟨#[0, 1, 2, 2, 3, 3, 3, 3, 4, 4, 4, 4, 4, 4, 4, 4, 5, 5, 5, 5, 5, 5, 5, 5, 5, 5, 5, 5, 5, 5, 5, 5, 6, 6, 6, 6, 6, 6, 6, 6, 6, 6, 6, 6, 6, 6, 6, 6, 6, 6, 6, 6, 6, 6, 6, 6, 6, 6, 6, 6, 6, 6, 6, 6, 7, 7, 7, 7, 7, 7, 7, 7, 7, 7, 7, 7, 7, 7, 7, 7, 7, 7, 7, 7, 7, 7, 7, 7, 7, 7, 7, 7, 7, 7, 7, 7, 7, 7, 7, 7, 7, 7, 7, 7, 7, 7, 7, 7, 7, 7, 7, 7, 7, 7, 7, 7, 7, 7, 7, 7, 7, 7, 7, 7, 7, 7, 7, 7, 8, 8, 8, 8, 8, 8, 8, 8, 8, 8, 8, 8, 8, 8, 8, 8, 8, 8, 8, 8, 8, 8, 8, 8, 8, 8, 8, 8, 8, 8, 8, 8, 8, 8, 8, 8, 8, 8, 8, 8, 8, 8, 8, 8, 8, 8, 8, 8, 8, 8, 8, 8, 8, 8, 8, 8, 8, 8, 8, 8, 8, 8, 8, 8, 8, 8, 8, 8, 8, 8, 8, 8, 8, 8, 8, 8, 8, 8, 8, 8, 8, 8, 8, 8, 8, 8, 8, 8, 8, 8, 8, 8, 8, 8, 8, 8, 8, 8, 8, 8, 8, 8, 8, 8, 8, 8, 8, 8, 8, 8, 8, 8, 8, 8, 8, 8, 8, 8, 8, 8, 8, 8, 8, 8, 8, 8, 8, 8]⟩ : ByteArray) (((a0 / 65536) / 256) % 256)))))) else (none)) else (none)) else (if 0 ≤ ((a0 / 65536) % 256) then (if ((a0 / 65536) % 256) < 256 then (some (wrap64 (16 + (wrap64 (bt (⟨#[0, 1, 2, 2, 3, 3, 3, 3, 4, 4, 4, 4, 4, 4, 4, 4, 5, 5, 5, 5, 5, 5, 5, 5, 5, 5, 5, 5, 5, 5, 5, 5, 6, 6, 6, 6, 6, 6, 6, 6, 6, 6, 6, 6, 6, 6, 6, 6, 6, 6, 6, 6, 6, 6, 6, 6, 6, 6, 6, 6, 6, 6, 6, 6, 7, 7, 7, 7, 7, 7, 7, 7, 7, 7, 7, 7, 7, 7, 7, 7, 7, 7, 7, 7, 7, 7, 7, 7, 7, 7, 7, 7, 7, 7, 7, 7, 7, 7, 7, 7, 7, 7, 7, 7, 7, 7, 7, 7, 7, 7, 7, 7, 7, 7, 7, 7, 7, 7, 7, 7, 7, 7, 7, 7, 7, 7, 7, 7, 8, 8, 8, 8, 8, 8, 8, 8, 8, 8, 8, 8, 8, 8, 8, 8, 8, 8, 8, 8, 8, 8, 8, 8, 8, 8, 8, 8, 8, 8, 8, 8, 8, 8, 8, 8, 8, 8, 8, 8, 8, 8, 8, 8, 8, 8, 8, 8, 8, 8, 8, 8, 8, 8, 8, 8, 8, 8, 8, 8, 8, 8, 8, 8, 8, 8, 8, 8, 8, 8, 8, 8, 8, 8, 8, 8, 8, 8, 8, 8, 8, 8, 8, 8, 8, 8, 8, 8, 8, 8, 8, 8, 8, 8, 8, 8, 8, 8, 8, 8, 8, 8, 8, 8, 8, 8, 8, 8, 8, 8, 8, 8, 8, 8, 8, 8, 8, 8, 8, 8, 8, 8, 8, 8, 8, 8, 8, 8]⟩ : ByteArray) ((a0 / 65536) % 256)))))) else (none)) else (none))) else (if a0 ≥ 256 then (if 0 ≤ ((a0 / 256) % 256) then (if ((a0 / 256) % 256) < 256 then (some (wrap64 ((0 + 8) + (wrap64 (bt (⟨#[0, 1, 2, 2, 3, 3, 3, 3, 4, 4, 4, 4, 4, 4, 4, 4, 5, 5, 5, 5, 5, 5, 5, 5, 5, 5, 5, 5, 5, 5, 5, 5, 6, 6, 6, 6, 6, 6, 6, 6, 6, 6, 6, 6, 6, 6, 6, 6, 6, 6, 6, 6, 6, 6, 6, 6, 6, 6, 6, 6, 6, 6, 6, 6, 7, 7, 7, 7, 7, 7, 7, 7, 7, 7, 7, 7, 7, 7, 7, 7, 7, 7, 7, 7, 7, 7, 7, 7, 7, 7, 7, 7, 7, 7, 7, 7, 7, 7, 7, 7, 7, 7, 7, 7, 7, 7, 7, 7, 7, 7, 7, 7, 7, 7, 7, 7, 7, 7, 7, 7, 7, 7, 7, 7, 7, 7, 7, 7, 8, 8, 8, 8, 8, 8, 8, 8, 8, 8, 8, 8, 8, 8, 8, 8, 8, 8, 8, 8, 8, 8, 8, 8, 8, 8, 8, 8, 8, 8, 8, 8, 8, 8, 8, 8, 8, 8, 8, 8, 8, 8, 8, 8, 8, 8, 8, 8, 8, 8, 8, 8, 8, 8, 8, 8, 8, 8, 8, 8, 8, 8, 8, 8, 8, 8, 8, 8, 8, 8, 8, 8, 8, 8, 8, 8, 8, 8, 8, 8, 8, 8, 8, 8, 8, 8, 8, 8, 8, 8, 8, 8, 8, 8, 8, 8, 8, 8, 8, 8, 8, 8, 8, 8, 8, 8, 8, 8, 8, 8, 8, 8, 8, 8, 8, 8, 8, 8, 8, 8, 8, 8, 8, 8, 8, 8, 8, 8]⟩ : ByteArray) ((a0 / 256) % 256)))))) else (none)) else (none)) else (if 0 ≤ ((a0) % 256) then (if ((a0) % 256) < 256 then (some (wrap64 (0 + (wrap64 (bt (⟨#[0, 1, 2, 2, 3, 3, 3, 3, 4, 4, 4, 4, 4, 4, 4, 4, 5, 5, 5, 5, 5, 5, 5, 5, 5, 5, 5, 5, 5, 5, 5, 5, 6, 6, 6, 6, 6, 6, 6, 6, 6, 6, 6, 6, 6, 6, 6, 6, 6, 6, 6, 6, 6, 6, 6, 6, 6, 6, 6, 6, 6, 6, 6, 6, 7, 7, 7, 7, 7, 7, 7, 7, 7, 7, 7, 7, 7, 7, 7, 7, 7, 7, 7, 7, 7, 7, 7, 7, 7, 7, 7, 7, 7, 7, 7, 7, 7, 7, 7, 7, 7, 7, 7, 7, 7, 7, 7, 7, 7, 7, 7, 7, 7, 7, 7, 7, 7, 7, 7, 7, 7, 7, 7, 7, 7, 7, 7, 7, 8, 8, 8, 8, 8, 8, 8, 8, 8, 8, 8, 8, 8, 8, 8, 8, 8, 8, 8, 8, 8, 8, 8, 8, 8, 8, 8, 8, 8, 8, 8, 8, 8, 8, 8, 8, 8, 8, 8, 8, 8, 8, 8, 8, 8, 8, 8, 8, 8, 8, 8, 8, 8, 8, 8, 8, 8, 8, 8, 8, 8, 8, 8, 8, 8, 8, 8, 8, 8, 8, 8, 8, 8, 8, 8, 8, 8, 8, 8, 8, 8, 8, 8, 8, 8, 8, 8, 8, 8, 8, 8, 8, 8, 8, 8, 8, 8, 8, 8, 8, 8, 8, 8, 8, 8, 8, 8, 8, 8, 8, 8, 8, 8, 8, 8, 8, 8, 8, 8, 8, 8, 8, 8, 8, 8, 8, 8, 8]⟩ : ByteArray) ((a0) % 256)))))) else (none)) else (none)))
set_option maxHeartbeats 8000000 in
set_option maxRecDepth 100000 in
theorem bits_Len32.calls (a0 : Int) (r : Int) (w : World) (h : bits_Len32.f a0 = some r) :
  Calls Tryz.prog 91 #[.int .u32 a0] w fun e w' => e = .returned (.int .i64 r) ∧ Drawn0 w w' := by
 have H := h
 unfold bits_Len32.f at H
 clear h
 by_cases c2 : a0 ≥ 65536
 ·rw [if_pos c2] at H
  have c2b0 : decide (65536 ≤ a0) = true := decide_eq_true c2
  clear c2
  by_cases c3 : (a0 / 65536) ≥ 256
  ·rw [if_pos c3] at H
   have c3b0 : decide (256 ≤ (a0 / 65536)) = true := decide_eq_true c3
   clear c3
   obtain ⟨ji4, hji4⟩ : ∃ j_ : Int, (((a0 / 65536) / 256) % 256) = j_ := ⟨_, rfl⟩
   replace H : (if 0 ≤ (ji4) then (if (ji4) < 256 then (some (wrap64 ((16 + 8) + (wrap64 (bt (⟨#[0, 1, 2, 2, 3, 3, 3, 3, 4, 4, 4, 4, 4, 4, 4, 4, 5, 5, 5, 5, 5, 5, 5, 5, 5, 5, 5, 5, 5, 5, 5, 5, 6, 6, 6, 6, 6, 6, 6, 6, 6, 6, 6, 6, 6, 6, 6, 6, 6, 6, 6, 6, 6, 6, 6, 6, 6, 6, 6, 6, 6, 6, 6, 6, 7, 7, 7, 7, 7, 7, 7, 7, 7, 7, 7, 7, 7, 7, 7, 7, 7, 7, 7, 7, 7, 7, 7, 7, 7, 7, 7, 7, 7, 7, 7, 7, 7, 7, 7, 7, 7, 7, 7, 7, 7, 7, 7, 7, 7, 7, 7, 7, 7, 7, 7, 7, 7, 7, 7, 7, 7, 7, 7, 7, 7, 7, 7, 7, 8, 8, 8, 8, 8, 8, 8, 8, 8, 8, 8, 8, 8, 8, 8, 8, 8, 8, 8, 8, 8, 8, 8, 8, 8, 8, 8, 8, 8, 8, 8, 8, 8, 8, 8, 8, 8, 8, 8, 8, 8, 8, 8, 8, 8, 8, 8, 8, 8, 8, 8, 8, 8, 8, 8, 8, 8, 8, 8, 8, 8, 8, 8, 8, 8, 8, 8, 8, 8, 8, 8, 8, 8, 8, 8, 8, 8, 8, 8, 8, 8, 8, 8, 8, 8, 8, 8, 8, 8, 8, 8, 8, 8, 8, 8, 8, 8, 8, 8, 8, 8, 8, 8, 8, 8, 8, 8, 8, 8, 8, 8, 8, 8, 8, 8, 8, 8, 8, 8, 8, 8, 8, 8, 8, 8, 8, 8, 8]⟩ : ByteArray) (ji4)))))) else (none)) else (none)) = some r := by first | (rw [hji4] at H; exact H) | (simp only [hji4] at H ⊢; exact H)
   replace H := zn H
   obtain ⟨c5, H⟩ := H
   have c5b0 := decide_eq_true c5
   clear c5
   replace H := zn H
   obtain ⟨c6, H⟩ := H
   have c6b0 := decide_eq_true c6
   clear c6
   obtain rfl := Option.some.inj H
   have p7 : 0 ≤ ((ji4) : Int) := zq6
   have q7 : (ji4) < (256 : Int) := zq6
   have hx7 := bt_at (⟨#[0, 1, 2, 2, 3, 3, 3, 3, 4, 4, 4, 4, 4, 4, 4, 4, 5, 5, 5, 5, 5, 5, 5, 5, 5, 5, 5, 5, 5, 5, 5, 5, 6, 6, 6, 6, 6, 6, 6, 6, 6, 6, 6, 6, 6, 6, 6, 6, 6, 6, 6, 6, 6, 6, 6, 6, 6, 6, 6, 6, 6, 6, 6, 6, 7, 7, 7, 7, 7, 7, 7, 7, 7, 7, 7, 7, 7, 7, 7, 7, 7, 7, 7, 7, 7, 7, 7, 7, 7, 7, 7, 7, 7, 7, 7, 7, 7, 7, 7, 7, 7, 7, 7, 7, 7, 7, 7, 7, 7, 7, 7, 7, 7, 7, 7, 7, 7, 7, 7, 7, 7, 7, 7, 7, 7, 7, 7, 7, 8, 8, 8, 8, 8, 8, 8, 8, 8, 8, 8, 8, 8, 8, 8, 8, 8, 8, 8, 8, 8, 8, 8, 8, 8, 8, 8, 8, 8, 8, 8, 8, 8, 8, 8, 8, 8, 8, 8, 8, 8, 8, 8, 8, 8, 8, 8, 8, 8, 8, 8, 8, 8, 8, 8, 8, 8, 8, 8, 8, 8, 8, 8, 8, 8, 8, 8, 8, 8, 8, 8, 8, 8, 8, 8, 8, 8, 8, 8, 8, 8, 8, 8, 8, 8, 8, 8, 8, 8, 8, 8, 8, 8, 8, 8, 8, 8, 8, 8, 8, 8, 8, 8, 8, 8, 8, 8, 8, 8, 8, 8, 8, 8, 8, 8, 8, 8, 8, 8, 8, 8, 8, 8, 8, 8, 8, 8, 8]⟩ : ByteArray) (ji4)
   replace p7 := eq_true p7
   replace q7 := eq_true q7
   go_enter Tryz.func91, Tryz.ntmps91
   go_wp2
   go_ret
   exact ⟨by first | rfl | (simp; done) | (simp only [← hji4] <;> (first | rfl | simp)) | (simp [*]; done), by repeat (first | exact Drawn0.refl _ | apply Drawn0.step)⟩
  ·rw [if_neg c3] at H
   have c3b0 : decide (256 ≤ (a0 / 65536)) = false := decide_eq_false c3
   clear c3
   obtain ⟨ji8, hji8⟩ : ∃ j_ : Int, ((a0 / 65536) % 256) = j_ := ⟨_, rfl⟩
   replace H : (if 0 ≤ (ji8) then (if (ji8) < 256 then (some (wrap64 (16 + (wrap64 (bt (⟨#[0, 1, 2, 2, 3, 3, 3, 3, 4, 4, 4, 4, 4, 4, 4, 4, 5, 5, 5, 5, 5, 5, 5, 5, 5, 5, 5, 5, 5, 5, 5, 5, 6, 6, 6, 6, 6, 6, 6, 6, 6, 6, 6, 6, 6, 6, 6, 6, 6, 6, 6, 6, 6, 6, 6, 6, 6, 6, 6, 6, 6, 6, 6, 6, 7, 7, 7, 7, 7, 7, 7, 7, 7, 7, 7, 7, 7, 7, 7, 7, 7, 7, 7, 7, 7, 7, 7, 7, 7, 7, 7, 7, 7, 7, 7, 7, 7, 7, 7, 7, 7, 7, 7, 7, 7, 7, 7, 7, 7, 7, 7, 7, 7, 7, 7, 7, 7, 7, 7, 7, 7, 7, 7, 7, 7, 7, 7, 7, 8, 8, 8, 8, 8, 8, 8, 8, 8, 8, 8, 8, 8, 8, 8, 8, 8, 8, 8, 8, 8, 8, 8, 8, 8, 8, 8, 8, 8, 8, 8, 8, 8, 8, 8, 8, 8, 8, 8, 8, 8, 8, 8, 8, 8, 8, 8, 8, 8, 8, 8, 8, 8, 8, 8, 8, 8, 8, 8, 8, 8, 8, 8, 8, 8, 8, 8, 8, 8, 8, 8, 8, 8, 8, 8, 8, 8, 8, 8, 8, 8, 8, 8, 8, 8, 8, 8, 8, 8, 8, 8, 8, 8, 8, 8, 8, 8, 8, 8, 8, 8, 8, 8, 8, 8, 8, 8, 8, 8, 8, 8, 8, 8, 8, 8, 8, 8, 8, 8, 8, 8, 8, 8, 8, 8, 8, 8, 8]⟩ : ByteArray) (ji8)))))) else (none)) else (none)) = some r := by first | (rw [hji8] at H; exact H) | (simp only [hji8] at H ⊢; exact H)
   replace H := zn H
   obtain ⟨c9, H⟩ := H
   have c9b0 := decide_eq_true c9
   clear c9
   replace H := zn H
   obtain ⟨c10, H⟩ := H
   have c10b0 := decide_eq_true c10
   clear c10
   obtain rfl := Option.some.inj H
   have p11 : 0 ≤ ((ji8) : Int) := zq6
   have q11 : (ji8) < (256 : Int) := zq6
   have hx11 := bt_at (⟨#[0, 1, 2, 2, 3, 3, 3, 3, 4, 4, 4, 4, 4, 4, 4, 4, 5, 5, 5, 5, 5, 5, 5, 5, 5, 5, 5, 5, 5, 5, 5, 5, 6, 6, 6, 6, 6, 6, 6, 6, 6, 6, 6, 6, 6, 6, 6, 6, 6, 6, 6, 6, 6, 6, 6, 6, 6, 6, 6, 6, 6, 6, 6, 6, 7, 7, 7, 7, 7, 7, 7, 7, 7, 7, 7, 7, 7, 7, 7, 7, 7, 7, 7, 7, 7, 7, 7, 7, 7, 7, 7, 7, 7, 7, 7, 7, 7, 7, 7, 7, 7, 7, 7, 7, 7, 7, 7, 7, 7, 7, 7, 7, 7, 7, 7, 7, 7, 7, 7, 7, 7, 7, 7, 7, 7, 7, 7, 7, 8, 8, 8, 8, 8, 8, 8, 8, 8, 8, 8, 8, 8, 8, 8, 8, 8, 8, 8, 8, 8, 8, 8, 8, 8, 8, 8, 8, 8, 8, 8, 8, 8, 8, 8, 8, 8, 8, 8, 8, 8, 8, 8, 8, 8, 8, 8, 8, 8, 8, 8, 8, 8, 8, 8, 8, 8, 8, 8, 8, 8, 8, 8, 8, 8, 8, 8, 8, 8, 8, 8, 8, 8, 8, 8, 8, 8, 8, 8, 8, 8, 8, 8, 8, 8, 8, 8, 8, 8, 8, 8, 8, 8, 8, 8, 8, 8, 8, 8, 8, 8, 8, 8, 8, 8, 8, 8, 8, 8, 8, 8, 8, 8, 8, 8, 8, 8, 8, 8, 8, 8, 8, 8, 8, 8, 8, 8, 8]⟩ : ByteArray) (ji8)
   replace p11 := eq_true p11
   replace q11 := eq_true q11
   go_enter Tryz.func91, Tryz.ntmps91
   go_wp2
   go_ret
   exact ⟨by first | rfl | (simp; done) | (simp only [← hji8] <;> (first | rfl | simp)) | (simp [*]; done), by repeat (first | exact Drawn0.refl _ | apply Drawn0.step)⟩
 ·rw [if_neg c2] at H
  have c2b0 : decide (65536 ≤ a0) = false := decide_eq_false c2
  clear c2
  by_cases c12 : a0 ≥ 256
  ·rw [if_pos c12] at H
   have c12b0 : decide (256 ≤ a0) = true := decide_eq_true c12
   clear c12
   obtain ⟨ji13, hji13⟩ : ∃ j_ : Int, ((a0 / 256) % 256) = j_ := ⟨_, rfl⟩
   replace H : (if 0 ≤ (ji13) then (if (ji13) < 256 then (some (wrap64 ((0 + 8) + (wrap64 (bt (⟨#[0, 1, 2, 2, 3, 3, 3, 3, 4, 4, 4, 4, 4, 4, 4, 4, 5, 5, 5, 5, 5, 5, 5, 5, 5, 5, 5, 5, 5, 5, 5, 5, 6, 6, 6, 6, 6, 6, 6, 6, 6, 6, 6, 6, 6, 6, 6, 6, 6, 6, 6, 6, 6, 6, 6, 6, 6, 6, 6, 6, 6, 6, 6, 6, 7, 7, 7, 7, 7, 7, 7, 7, 7, 7, 7, 7, 7, 7, 7, 7, 7, 7, 7, 7, 7, 7, 7, 7, 7, 7, 7, 7, 7, 7, 7, 7, 7, 7, 7, 7, 7, 7, 7, 7, 7, 7, 7, 7, 7, 7, 7, 7, 7, 7, 7, 7, 7, 7, 7, 7, 7, 7, 7, 7, 7, 7, 7, 7, 8, 8, 8, 8, 8, 8, 8, 8, 8, 8, 8, 8, 8, 8, 8, 8, 8, 8, 8, 8, 8, 8, 8, 8, 8, 8, 8, 8, 8, 8, 8, 8, 8, 8, 8, 8, 8, 8, 8, 8, 8, 8, 8, 8, 8, 8, 8, 8, 8, 8, 8, 8, 8, 8, 8, 8, 8, 8, 8, 8, 8, 8, 8, 8, 8, 8, 8, 8, 8, 8, 8, 8, 8, 8, 8, 8, 8, 8, 8, 8, 8, 8, 8, 8, 8, 8, 8, 8, 8, 8, 8, 8, 8, 8, 8, 8, 8, 8, 8, 8, 8, 8, 8, 8, 8, 8, 8, 8, 8, 8, 8, 8, 8, 8, 8, 8, 8, 8, 8, 8, 8, 8, 8, 8, 8, 8, 8, 8]⟩ : ByteArray) (ji13)))))) else (none)) else (none)) = some r := by first | (rw [hji13] at H; exact H) | (simp only [hji13] at H ⊢; exact H)
   replace H := zn H
   obtain ⟨c14, H⟩ := H
   have c14b0 := decide_eq_true c14
   clear c14
   replace H := zn H
   obtain ⟨c15, H⟩ := H
   have c15b0 := decide_eq_true c15
   clear c15
   obtain rfl := Option.some.inj H
   have p16 : 0 ≤ ((ji13) : Int) := zq6
   have q16 : (ji13) < (256 : Int) := zq6
   have hx16 := bt_at (⟨#[0, 1, 2, 2, 3, 3, 3, 3, 4, 4, 4, 4, 4, 4, 4, 4, 5, 5, 5, 5, 5, 5, 5, 5, 5, 5, 5, 5, 5, 5, 5, 5, 6, 6, 6, 6, 6, 6, 6, 6, 6, 6, 6, 6, 6, 6, 6, 6, 6, 6, 6, 6, 6, 6, 6, 6, 6, 6, 6, 6, 6, 6, 6, 6, 7, 7, 7, 7, 7, 7, 7, 7, 7, 7, 7, 7, 7, 7, 7, 7, 7, 7, 7, 7, 7, 7, 7, 7, 7, 7, 7, 7, 7, 7, 7, 7, 7, 7, 7, 7, 7, 7, 7, 7, 7, 7, 7, 7, 7, 7, 7, 7, 7, 7, 7, 7, 7, 7, 7, 7, 7, 7, 7, 7, 7, 7, 7, 7, 8, 8, 8, 8, 8, 8, 8, 8, 8, 8, 8, 8, 8, 8, 8, 8, 8, 8, 8, 8, 8, 8, 8, 8, 8, 8, 8, 8, 8, 8, 8, 8, 8, 8, 8, 8, 8, 8, 8, 8, 8, 8, 8, 8, 8, 8, 8, 8, 8, 8, 8, 8, 8, 8, 8, 8, 8, 8, 8, 8, 8, 8, 8, 8, 8, 8, 8, 8, 8, 8, 8, 8, 8, 8, 8, 8, 8, 8, 8, 8, 8, 8, 8, 8, 8, 8, 8, 8, 8, 8, 8, 8, 8, 8, 8, 8, 8, 8, 8, 8, 8, 8, 8, 8, 8, 8, 8, 8, 8, 8, 8, 8, 8, 8, 8, 8, 8, 8, 8, 8, 8, 8, 8, 8, 8, 8, 8, 8]⟩ : ByteArray) (ji13)
   replace p16 := eq_true p16
   replace q16 := eq_true q16
   go_enter Tryz.func91, Tryz.ntmps91
   go_wp2
   go_ret
   exact ⟨by first | rfl | (simp; done) | (simp only [← hji13] <;> (first | rfl | simp)) | (simp [*]; done), by repeat (first | exact Drawn0.refl _ | apply Drawn0.step)⟩
  ·rw [if_neg c12] at H
   have c12b0 : decide (256 ≤ a0) = false := decide_eq_false c12
   clear c12
   obtain ⟨ji17, hji17⟩ : ∃ j_ : Int, ((a0) % 256) = j_ := ⟨_, rfl⟩
   replace H : (if 0 ≤ (ji17) then (if (ji17) < 256 then (some (wrap64 (0 + (wrap64 (bt (⟨#[0, 1, 2, 2, 3, 3, 3, 3, 4, 4, 4, 4, 4, 4, 4, 4, 5, 5, 5, 5, 5, 5, 5, 5, 5, 5, 5, 5, 5, 5, 5, 5, 6, 6, 6, 6, 6, 6, 6, 6, 6, 6, 6, 6, 6, 6, 6, 6, 6, 6, 6, 6, 6, 6, 6, 6, 6, 6, 6, 6, 6, 6, 6, 6, 7, 7, 7, 7, 7, 7, 7, 7, 7, 7, 7, 7, 7, 7, 7, 7, 7, 7, 7, 7, 7, 7, 7, 7, 7, 7, 7, 7, 7, 7, 7, 7, 7, 7, 7, 7, 7, 7, 7, 7, 7, 7, 7, 7, 7, 7, 7, 7, 7, 7, 7, 7, 7, 7, 7, 7, 7, 7, 7, 7, 7, 7, 7, 7, 8, 8, 8, 8, 8, 8, 8, 8, 8, 8, 8, 8, 8, 8, 8, 8, 8, 8, 8, 8, 8, 8, 8, 8, 8, 8, 8, 8, 8, 8, 8, 8, 8, 8, 8, 8, 8, 8, 8, 8, 8, 8, 8, 8, 8, 8, 8, 8, 8, 8, 8, 8, 8, 8, 8, 8, 8, 8, 8, 8, 8, 8, 8, 8, 8, 8, 8, 8, 8, 8, 8, 8, 8, 8, 8, 8, 8, 8, 8, 8, 8, 8, 8, 8, 8, 8, 8, 8, 8, 8, 8, 8, 8, 8, 8, 8, 8, 8, 8, 8, 8, 8, 8, 8, 8, 8, 8, 8, 8, 8, 8, 8, 8, 8, 8, 8, 8, 8, 8, 8, 8, 8, 8, 8, 8, 8, 8, 8]⟩ : ByteArray) (ji17)))))) else (none)) else (none)) = some r := by first | (rw [hji17] at H; exact H) | (simp only [hji17] at H ⊢; exact H)
   replace H := zn H
   obtain ⟨c18, H⟩ := H
   have c18b0 := decide_eq_true c18
   clear c18
   replace H := zn H
   obtain ⟨c19, H⟩ := H
   have c19b0 := decide_eq_true c19
   clear c19
   obtain rfl := Option.some.inj H
   have p20 : 0 ≤ ((ji17) : Int) := zq6
   have q20 : (ji17) < (256 : Int) := zq6
   have hx20 := bt_at (⟨#[0, 1, 2, 2, 3, 3, 3, 3, 4, 4, 4, 4, 4, 4, 4, 4, 5, 5, 5, 5, 5, 5, 5, 5, 5, 5, 5, 5, 5, 5, 5, 5, 6, 6, 6, 6, 6, 6, 6, 6, 6, 6, 6, 6, 6, 6, 6, 6, 6, 6, 6, 6, 6, 6, 6, 6, 6, 6, 6, 6, 6, 6, 6, 6, 7, 7, 7, 7, 7, 7, 7, 7, 7, 7, 7, 7, 7, 7, 7, 7, 7, 7, 7, 7, 7, 7, 7, 7, 7, 7, 7, 7, 7, 7, 7, 7, 7, 7, 7, 7, 7, 7, 7, 7, 7, 7, 7, 7, 7, 7, 7, 7, 7, 7, 7, 7, 7, 7, 7, 7, 7, 7, 7, 7, 7, 7, 7, 7, 8, 8, 8, 8, 8, 8, 8, 8, 8, 8, 8, 8, 8, 8, 8, 8, 8, 8, 8, 8, 8, 8, 8, 8, 8, 8, 8, 8, 8, 8, 8, 8, 8, 8, 8, 8, 8, 8, 8, 8, 8, 8, 8, 8, 8, 8, 8, 8, 8, 8, 8, 8, 8, 8, 8, 8, 8, 8, 8, 8, 8, 8, 8, 8, 8, 8, 8, 8, 8, 8, 8, 8, 8, 8, 8, 8, 8, 8, 8, 8, 8, 8, 8, 8, 8, 8, 8, 8, 8, 8, 8, 8, 8, 8, 8, 8, 8, 8, 8, 8, 8, 8, 8, 8, 8, 8, 8, 8, 8, 8, 8, 8, 8, 8, 8, 8, 8, 8, 8, 8, 8, 8, 8, 8, 8, 8, 8, 8]⟩ : ByteArray) (ji17)
   replace p20 := eq_true p20
   replace q20 := eq_true q20
   go_enter Tryz.func91, Tryz.ntmps91
   go_wp2
   go_ret
   exact ⟨by first | rfl | (simp; done) | (simp only [← hji17] <;> (first | rfl | simp)) | (simp [*]; done), by repeat (first | exact Drawn0.refl _ | apply Drawn0.step)⟩
def bits_LeadingZeros32.f (a0 : Int) : Option (Int) := (bits_Len32.f a0).bind fun t155 => (some (wrap64 (32 - t155)))
set_option maxHeartbeats 8000000 in
set_option maxRecDepth 100000 in
theorem bits_LeadingZeros32.calls (a0 : Int) (r : Int) (w : World) (h : bits_LeadingZeros32.f a0 = some r) :
  Calls Tryz.prog 95 #[.int .u32 a0] w fun e w' => e = .returned (.int .i64 r) ∧ Drawn0 w w' := by
 have H := h
 unfold bits_LeadingZeros32.f at H
 clear h
 replace H := zj H
 obtain ⟨t155, A2, H⟩ := H
 obtain rfl := Option.some.inj H
 go_enter Tryz.func95, Tryz.ntmps95
 go_wp2_with (first | ((with_reducible refine gate_callee (f := 91) rfl ?_); refine goesL_ (some 4) rfl rfl Tryz.func91 (by kernel_rfl) rfl #[.int .u32 a0] rfl zq5 ?_; (with_reducible refine (bits_Len32.calls a0 t155 _ A2.out).mono ?_); rintro e w' ⟨rfl, ⟨nd, rfl⟩⟩; refine ⟨_, rfl, ?_⟩))
 go_ret
 exact ⟨by first | rfl | (simp; done) | (simp [*]; done), by repeat (first | exact Drawn0.refl _ | apply Drawn0.step)⟩
end Go.Proofs.YtemnjgkicndmjaaGreatDoor.Q

namespace Go.Proofs.YtemnjgkicndmjaaGreatDoor.Q
open Go.RowKit Go.Proofs.YtemnjgkicndmjaaGreatDoorW.PrintWords Go.Proofs.YtemnjgkicndmjaaGreatDoorW.PrintLast Go.Proofs.YtemnjgkicndmjaaGreatDoorW.PrintMore
attribute [local go_sem] max2_int min2_int max_two min_two max_three min_three max_four min_four
set_option linter.unusedVariables false
set_option linter.unusedSimpArgs false
mutual
def nat_digit.j2 : Nat → List Int → List Int → Int → Int → Option (Int × List Int)
 | 0, _, _, _, _ => none
 | k + 1, x0, x1, x5, x7 => nat_digit.l1 k x0 x1 x5 x7 0 0 (x1.length : Int) 0
def nat_digit.l1 : Nat → List Int → List Int → Int → Int → Int → Int → Int → Int → Option (Int × List Int)
 | 0, _, _, _, _, _, _, _, _ => none
 | k + 1, x0, x1, x5, x7, x9, x10, x83, x84 => if x84 < x83 then (if 0 ≤ x84 then (if x84 < (x1.length : Int) then (if x84 < (x0.length : Int) then (nat_digit.l1 k (x0.set (x84 : Int).toNat ((IntKind.u64.wrap ((IntKind.u64.wrap ((IntKind.u64.wrap (rd x0 x84)) - ((IntKind.u64.wrap (x10 + (IntKind.u64.wrap (x7 * (IntKind.u64.wrap (rd x1 x84)))))) % 4294967296))) - x9)) % 4294967296)) x1 x5 x7 (Go.bits .and .u64 ((IntKind.u64.wrap ((IntKind.u64.wrap ((IntKind.u64.wrap (rd x0 x84)) - ((IntKind.u64.wrap (x10 + (IntKind.u64.wrap (x7 * (IntKind.u64.wrap (rd x1 x84)))))) % 4294967296))) - x9)) / 4294967296) 1) ((IntKind.u64.wrap (x10 + (IntKind.u64.wrap (x7 * (IntKind.u64.wrap (rd x1 x84)))))) / 4294967296) x83 (wrap64 (x84 + 1))) else (none)) else (none)) else (none)) else (if 0 ≤ x5 then (if x5 < (x0.length : Int) then ((some (x0.set (x5 : Int).toNat ((IntKind.u64.wrap ((IntKind.u64.wrap ((IntKind.u64.wrap (rd x0 x5)) - x10)) - x9)) % 4294967296) : List Int)).bind fun y167 => (if (Go.bits .and .u64 ((IntKind.u64.wrap ((IntKind.u64.wrap ((IntKind.u64.wrap (rd x0 x5)) - x10)) - x9)) / 4294967296) 1) = 0 then (some ((x7) % 4294967296, y167)) else (nat_digit.l2 k y167 x1 x5 x7 0 (x1.length : Int) 0))) else (none)) else (none))
def nat_digit.l2 : Nat → List Int → List Int → Int → Int → Int → Int → Int → Option (Int × List Int)
 | 0, _, _, _, _, _, _, _ => none
 | k + 1, x0, x1, x5, x7, x10, x139, x140 => if x140 < x139 then (if 0 ≤ x140 then (if x140 < (x0.length : Int) then (if x140 < (x1.length : Int) then (nat_digit.l2 k (x0.set (x140 : Int).toNat ((IntKind.u64.wrap (x10 + (IntKind.u64.wrap ((IntKind.u64.wrap (rd x0 x140)) + (IntKind.u64.wrap (rd x1 x140)))))) % 4294967296)) x1 x5 x7 ((IntKind.u64.wrap (x10 + (IntKind.u64.wrap ((IntKind.u64.wrap (rd x0 x140)) + (IntKind.u64.wrap (rd x1 x140)))))) / 4294967296) x139 (wrap64 (x140 + 1))) else (none)) else (none)) else (none)) else (if 0 ≤ x5 then (if x5 < (x0.length : Int) then (some ((IntKind.u64.wrap (x7 - 1)) % 4294967296, (x0.set (x5 : Int).toNat (((rd x0 x5) + ((x10) % 4294967296)) % 4294967296)))) else (none)) else (none))
def nat_digit.l0 : Nat → List Int → List Int → Int → Int → Int → Option (Int × List Int)
 | 0, _, _, _, _, _ => none
 | k + 1, x0, x1, x5, x7, x8 => if (x7 / 4294967296) > 0 then (nat_digit.j1 k x0 x1 x5 x7 x8 true) else (if 0 ≤ (wrap64 (x5 - 2)) then (if (wrap64 (x5 - 2)) < (x1.length : Int) then (if (wrap64 (x5 - 2)) < (x0.length : Int) then (nat_digit.j1 k x0 x1 x5 x7 x8 (decide ((IntKind.u64.wrap (x7 * (IntKind.u64.wrap (rd x1 (wrap64 (x5 - 2)))))) > (Go.bits .or .u64 (IntKind.u64.wrap (x8 * 4294967296)) (IntKind.u64.wrap (rd x0 (wrap64 (x5 - 2)))))))) else (none)) else (none)) else (none))
def nat_digit.j1 : Nat → List Int → List Int → Int → Int → Int → Bool → Option (Int × List Int)
 | 0, _, _, _, _, _, _ => none
 | k + 1, x0, x1, x5, x7, x8, x68 => if x68 = true then (if 0 ≤ (wrap64 (x5 - 1)) then (if (wrap64 (x5 - 1)) < (x1.length : Int) then (if ((IntKind.u64.wrap (x8 + (IntKind.u64.wrap (rd x1 (wrap64 (x5 - 1)))))) / 4294967296) > 0 then (nat_digit.j2 k x0 x1 x5 (IntKind.u64.wrap (x7 - 1))) else (nat_digit.l0 k x0 x1 x5 (IntKind.u64.wrap (x7 - 1)) (IntKind.u64.wrap (x8 + (IntKind.u64.wrap (rd x1 (wrap64 (x5 - 1)))))))) else (none)) else (none)) else (nat_digit.j2 k x0 x1 x5 x7)
end
def nat_digit.f (k : Nat) (l0 : List Int) (l1 : List Int) : Option (Int × List Int) := if 0 ≤ (l1.length : Int) then (if (l1.length : Int) < (l0.length : Int) then (if 0 ≤ (wrap64 ((l1.length : Int) - 1)) then (if (wrap64 ((l1.length : Int) - 1)) < (l0.length : Int) then (if (wrap64 ((l1.length : Int) - 1)) < (l1.length : Int) then (if (IntKind.u64.wrap (rd l1 (wrap64 ((l1.length : Int) - 1)))) = 0 then (none) else (nat_digit.l0 k l0 l1 (l1.length : Int) (IntKind.u64.wrap (Int.tdiv (Go.bits .or .u64 (IntKind.u64.wrap ((IntKind.u64.wrap (rd l0 (l1.length : Int))) * 4294967296)) (IntKind.u64.wrap (rd l0 (wrap64 ((l1.length : Int) - 1))))) (IntKind.u64.wrap (rd l1 (wrap64 ((l1.length : Int) - 1)))))) (Int.tmod (Go.bits .or .u64 (IntKind.u64.wrap ((IntKind.u64.wrap (rd l0 (l1.length : Int))) * 4294967296)) (IntKind.u64.wrap (rd l0 (wrap64 ((l1.length : Int) - 1))))) (IntKind.u64.wrap (rd l1 (wrap64 ((l1.length : Int) - 1))))))) else (none)) else (none)) else (none)) else (none)) else (none)
set_option maxHeartbeats 8000000 in
set_option maxRecDepth 100000 in
theorem nat_digit.callsW (pr_ po_ : List Int) (nW_ cW_ : Nat) (k : Nat) (P0_ : Nat → Prop) (u9000_ : Value) (l0 : List Int) (A1 : Option Addr) (c1 : Nat) (l1 : List Int) (r1 : Int) (r2 : List Int) (w0 w : World) (hB : Below w0.heap.size w0 w) (ho0 : Wd pr_ po_ nW_ cW_ .u32 73 w w0.heap.size P0_ u9000_ l0) (hr1 : ∀ W_, Kept w W_ (fun k_ => P0_ k_) → Kd.C (Kd.int .u32) W_ A1 l1.length l1) (hc1 : l1.length ≤ c1) (h : nat_digit.f k l0 l1 = some (r1, r2)) :
  Calls Tryz.prog 96 #[u9000_, .slice A1 l1.length c1] w fun e w' => e = .returned (.int .u32 r1) ∧ Wd pr_ po_ nW_ cW_ .u32 73 w' w0.heap.size (fun k_ => (P0_ k_ ∨ w.heap.size ≤ k_)) u9000_ r2 ∧ Below w0.heap.size w0 w' ∧ Kept w w' (fun k_ => P0_ k_) := by
 have HO0 := am (show Wd pr_ po_ nW_ cW_ .u32 73 w w0.heap.size (fun k_ => (P0_ k_ ∨ w.heap.size ≤ k_)) u9000_ l0 from Wd_mono ho0 (fun k_ hk => (.inl hk)))
 have HR1 := am hr1
 have HC1 := am hc1
 clear hr1 hc1
 have HK := am (Kept.refl w (fun k_ => P0_ k_))
 have HW0 := am hB.size
 have HB := am hB
 clear hB
 have H : (if 0 ≤ (l1.length : Int) then (if (l1.length : Int) < (l0.length : Int) then (if 0 ≤ (wrap64 ((l1.length : Int) - 1)) then (if (wrap64 ((l1.length : Int) - 1)) < (l0.length : Int) then (if (wrap64 ((l1.length : Int) - 1)) < (l1.length : Int) then (if (IntKind.u64.wrap (rd l1 (wrap64 ((l1.length : Int) - 1)))) = 0 then (none) else (nat_digit.l0 k l0 l1 (l1.length : Int) (IntKind.u64.wrap (Int.tdiv (Go.bits .or .u64 (IntKind.u64.wrap ((IntKind.u64.wrap (rd l0 (l1.length : Int))) * 4294967296)) (IntKind.u64.wrap (rd l0 (wrap64 ((l1.length : Int) - 1))))) (IntKind.u64.wrap (rd l1 (wrap64 ((l1.length : Int) - 1)))))) (Int.tmod (Go.bits .or .u64 (IntKind.u64.wrap ((IntKind.u64.wrap (rd l0 (l1.length : Int))) * 4294967296)) (IntKind.u64.wrap (rd l0 (wrap64 ((l1.length : Int) - 1))))) (IntKind.u64.wrap (rd l1 (wrap64 ((l1.length : Int) - 1))))))) else (none)) else (none)) else (none)) else (none)) else (none)) = some (r1, r2) := h
 clear h
 replace H := zn H
 obtain ⟨c3, H⟩ := H
 have c3b0 := decide_eq_true c3
 have c3b1 : decide (0 ≤ l1.length) = true := decide_eq_true (by omega)
 clear c3
 replace H := zn H
 obtain ⟨c4, H⟩ := H
 have c4b0 := decide_eq_true c4
 have c4b1 : decide (l1.length < l0.length) = true := decide_eq_true (Int.ofNat_lt.mp c4)
 clear c4
 obtain ⟨ji5, hji5⟩ : ∃ j_ : Int, (wrap64 ((l1.length : Int) - 1)) = j_ := ⟨_, rfl⟩
 replace H : (if 0 ≤ (ji5) then (if (ji5) < (l0.length : Int) then (if (ji5) < (l1.length : Int) then (if (IntKind.u64.wrap (rd l1 (ji5))) = 0 then (none) else (nat_digit.l0 k l0 l1 (l1.length : Int) (IntKind.u64.wrap (Int.tdiv (Go.bits .or .u64 (IntKind.u64.wrap ((IntKind.u64.wrap (rd l0 (l1.length : Int))) * 4294967296)) (IntKind.u64.wrap (rd l0 (ji5)))) (IntKind.u64.wrap (rd l1 (ji5))))) (Int.tmod (Go.bits .or .u64 (IntKind.u64.wrap ((IntKind.u64.wrap (rd l0 (l1.length : Int))) * 4294967296)) (IntKind.u64.wrap (rd l0 (ji5)))) (IntKind.u64.wrap (rd l1 (ji5)))))) else (none)) else (none)) else (none)) = some (r1, r2) := by first | (rw [hji5] at H; exact H) | (simp only [hji5] at H ⊢; exact H)
 have hji5w : (IntKind.i64.wrap ((l1.length : Int) - 1)) = ji5 := (i64_w _).trans hji5
 replace H := zn H
 obtain ⟨c6, H⟩ := H
 have c6b0 := decide_eq_true c6
 clear c6
 replace H := zn H
 obtain ⟨c7, H⟩ := H
 have c7b0 := decide_eq_true c7
 clear c7
 replace H := zn H
 obtain ⟨c8, H⟩ := H
 have c8b0 := decide_eq_true c8
 clear c8
 replace H := zo H
 obtain ⟨c9, H⟩ := H
 have c9b0 : ((IntKind.u64.wrap (rd l1 (ji5))) == 0) = false := beq_eq_false_iff_ne.mpr c9
 have c9b1 : ((IntKind.u64.wrap (rd l1 (ji5))) != 0) = true := bne_iff_ne.mpr c9
 have HC10 := am H
 clear H
 obtain ⟨Ao11, co11, eo11⟩ := Wd_slice HO0.out
 subst eo11
 have p156 : 0 ≤ ((l1.length : Int) : Int) := zq6
 have q156 : (l1.length : Int) < (l0.length : Int) := zq6
 obtain ⟨ad156, e156, hx156_0⟩ := Kd.at_int (Wd_reads' HO0.out).2.2 (l1.length : Int) p156 q156
 cases e156
 (try simp only [Go.IntWalk.toNatUp] at hx156_0)
 replace p156 := eq_true p156
 replace q156 := eq_true q156
 have p157 : 0 ≤ ((ji5) : Int) := zq6
 have q157 : (ji5) < (l0.length : Int) := zq6
 obtain ⟨ad157, e157, hx157_0⟩ := Kd.at_int (Wd_reads' HO0.out).2.2 (ji5) p157 q157
 obtain rfl : ad156 = ad157 := (by injection e157)
 replace p157 := eq_true p157
 replace q157 := eq_true q157
 have p158 : 0 ≤ ((ji5) : Int) := zq6
 have q158 : (ji5) < (l1.length : Int) := zq6
 obtain ⟨ad158, e158, hx158_0⟩ := Kd.at_int (Kd.C_kept_now HR1.out HK.out) (ji5) p158 q158
 cases e158
 replace p158 := eq_true p158
 replace q158 := eq_true q158
 have p159 : 0 ≤ ((ji5) : Int) := zq6
 have q159 : (ji5) < (l1.length : Int) := zq6
 obtain ⟨ad159, e159, hx159_0⟩ := Kd.at_int (Kd.C_kept_now HR1.out HK.out) (ji5) p159 q159
 obtain rfl : ad158 = ad159 := (by injection e159)
 replace p159 := eq_true p159
 replace q159 := eq_true q159
 go_enter Tryz.func96, Tryz.ntmps96
 go_upto_block 0 with (fail)
 repeat (go_quiet (fail); go_upto_block 0 with (fail))
 go_cut [7] (fun v7 wc => ∃ (kq : Nat) (x7_9 : Int), v7 = .int .u64 x7_9 ∧ Aside0 (nat_digit.j2 kq l0 l1 (l1.length : Int) x7_9 = some (r1, r2)) ∧ Aside0 (kq ≤ k) ∧ Aside0 (Wd pr_ po_ nW_ cW_ .u32 73 wc w0.heap.size (fun k_ => (P0_ k_ ∨ w.heap.size ≤ k_)) (.slice (some ad156) l0.length co11) l0) ∧ Aside0 (Kept w wc (fun k_ => P0_ k_)) ∧ Aside0 (Below w0.heap.size w0 wc))
 case first =>
  have H := HC10.out
  clear HC10
  have H' := am H
  clear H
  go_wp2
  repeat (go_quiet (fail); try go_wp2)
  go_loopg [7, 8] k (fun kq v7 v8 w' => ∃ (x7_1 : Int) (x8_1 : Int), v7 = .int .u64 x7_1 ∧ v8 = .int .u64 x8_1 ∧ Aside0 (nat_digit.l0 kq l0 l1 (l1.length : Int) x7_1 x8_1 = some (r1, r2)) ∧ Aside0 (kq ≤ k) ∧ Aside0 (Wd pr_ po_ nW_ cW_ .u32 73 w' w0.heap.size (fun k_ => (P0_ k_ ∨ w.heap.size ≤ k_)) (.slice (some ad156) l0.length co11) l0) ∧ Aside0 (Kept w w' (fun k_ => P0_ k_)) ∧ Aside0 (Below w0.heap.size w0 w'))
  case atStart => exact ⟨(IntKind.u64.wrap (Int.tdiv (Go.bits .or .u64 (IntKind.u64.wrap ((IntKind.u64.wrap (rd l0 (l1.length : Int))) * 4294967296)) (IntKind.u64.wrap (rd l0 (ji5)))) (IntKind.u64.wrap (rd l1 (ji5))))), (Int.tmod (Go.bits .or .u64 (IntKind.u64.wrap ((IntKind.u64.wrap (rd l0 (l1.length : Int))) * 4294967296)) (IntKind.u64.wrap (rd l0 (ji5)))) (IntKind.u64.wrap (rd l1 (ji5)))), (by first | rfl | (simp; done) | (simp only [← hji5] <;> (first | rfl | simp)) | (simp [*]; done)), (by first | rfl | (simp; done) | (simp only [← hji5] <;> (first | rfl | simp)) | (simp [*]; done)), H', ⟨Nat.le_refl _⟩, ⟨by (with_reducible repeat (first | apply Wd_alloc | apply Wd_drewN | apply Wd_drew)); exact HO0.out⟩, ⟨by repeat (first | (with_reducible first | exact HK.out | apply Kept.alloc | apply Kept.drewN | apply Kept.drew) | exact HK.out)⟩, ⟨zq1⟩⟩
  case round =>
   clear H'
   obtain ⟨x7_1, x8_1, rfl, rfl, HA, HK1, HO_0, HK, HB⟩ := hrel
   cases gk with
   | zero => exact absurd HA.out (by simp [nat_digit.l0])
   | succ k1 =>
    have H := HA.out
    clear HA
    simp only [nat_digit.l0] at H
    have HC12 := am H
    clear H
    go_upto_region 4 with (fail)
    repeat (go_quiet (fail); go_upto_region 4 with (fail))
    go_cut [68] (fun v68 wc => ∃ (kq : Nat) (x68_11 : Bool), v68 = .bool x68_11 ∧ Aside0 (nat_digit.j1 kq l0 l1 (l1.length : Int) x7_1 x8_1 x68_11 = some (r1, r2)) ∧ Aside0 (kq ≤ k1) ∧ Aside0 (Wd pr_ po_ nW_ cW_ .u32 73 wc w0.heap.size (fun k_ => (P0_ k_ ∨ w.heap.size ≤ k_)) (.slice (some ad156) l0.length co11) l0) ∧ Aside0 (Kept w wc (fun k_ => P0_ k_)) ∧ Aside0 (Below w0.heap.size w0 wc))
    case first =>
     have H := HC12.out
     clear HC12
     by_cases c13 : (x7_1 / 4294967296) > 0
     ·rw [if_pos c13] at H
      have c13b0 : decide (0 < (x7_1 / 4294967296)) = true := decide_eq_true c13
      clear c13
      (first | rw [c13b0] | (simp only [i64_w, i32_w]; rw [c13b0]) | skip)
      have H' := am H
      clear H
      go_wp2
      repeat (go_quiet (fail); try go_wp2)
      go_meet
      case rel => exact ⟨_, (true), zq8, (by first | exact H' | (rw [hji5]; exact H')), ⟨by have := HK1.out; first | omega | exact Nat.le_refl _⟩, ⟨by (with_reducible repeat (first | apply Wd_alloc | apply Wd_drewN | apply Wd_drew)); exact HO_0.out⟩, ⟨by repeat (first | (with_reducible first | exact HK.out | apply Kept.alloc | apply Kept.drewN | apply Kept.drew) | exact HK.out)⟩, ⟨zq1⟩⟩
     ·rw [if_neg c13] at H
      have c13b0 : decide (0 < (x7_1 / 4294967296)) = false := decide_eq_false c13
      clear c13
      (first | rw [c13b0] | (simp only [i64_w, i32_w]; rw [c13b0]) | skip)
      obtain ⟨ji14, hji14⟩ : ∃ j_ : Int, (wrap64 ((l1.length : Int) - 2)) = j_ := ⟨_, rfl⟩
      replace H : (if 0 ≤ (ji14) then (if (ji14) < (l1.length : Int) then (if (ji14) < (l0.length : Int) then (nat_digit.j1 k1 l0 l1 (l1.length : Int) x7_1 x8_1 (decide ((IntKind.u64.wrap (x7_1 * (IntKind.u64.wrap (rd l1 (ji14))))) > (Go.bits .or .u64 (IntKind.u64.wrap (x8_1 * 4294967296)) (IntKind.u64.wrap (rd l0 (ji14))))))) else (none)) else (none)) else (none)) = some (r1, r2) := by first | (rw [hji14] at H; exact H) | (simp only [hji14] at H ⊢; exact H)
      have hji14w : (IntKind.i64.wrap ((l1.length : Int) - 2)) = ji14 := (i64_w _).trans hji14
      replace H := zn H
      obtain ⟨c15, H⟩ := H
      have c15b0 := decide_eq_true c15
      clear c15
      replace H := zn H
      obtain ⟨c16, H⟩ := H
      have c16b0 := decide_eq_true c16
      clear c16
      replace H := zn H
      obtain ⟨c17, H⟩ := H
      have c17b0 := decide_eq_true c17
      clear c17
      have H' := am H
      clear H
      have p160 : 0 ≤ ((ji14) : Int) := zq6
      have q160 : (ji14) < (l1.length : Int) := zq6
      obtain ⟨ad160, e160, hx160_0⟩ := Kd.at_int (Kd.C_kept_now HR1.out HK.out) (ji14) p160 q160
      obtain rfl : ad158 = ad160 := (by injection e160)
      replace p160 := eq_true p160
      replace q160 := eq_true q160
      have p161 : 0 ≤ ((ji14) : Int) := zq6
      have q161 : (ji14) < (l0.length : Int) := zq6
      obtain ⟨ad161, e161, hx161_0⟩ := Kd.at_int (Wd_reads' HO_0.out).2.2 (ji14) p161 q161
      obtain rfl : ad156 = ad161 := (by injection e161)
      replace p161 := eq_true p161
      replace q161 := eq_true q161
      go_wp2
      repeat (go_quiet (fail); try go_wp2)
      go_meet
      case rel => exact ⟨_, (decide ((IntKind.u64.wrap (x7_1 * (IntKind.u64.wrap (rd l1 (ji14))))) > (Go.bits .or .u64 (IntKind.u64.wrap (x8_1 * 4294967296)) (IntKind.u64.wrap (rd l0 (ji14)))))), (by first | rfl | (simp; done) | (simp only [← hji14] <;> (first | rfl | simp)) | (simp [*]; done)), (by first | exact H' | (rw [hji5]; exact H') | (rw [hji14]; exact H')), ⟨by have := HK1.out; first | omega | exact Nat.le_refl _⟩, ⟨by (with_reducible repeat (first | apply Wd_alloc | apply Wd_drewN | apply Wd_drew)); exact HO_0.out⟩, ⟨by repeat (first | (with_reducible first | exact HK.out | apply Kept.alloc | apply Kept.drewN | apply Kept.drew) | exact HK.out)⟩, ⟨zq1⟩⟩
    case rest =>
     clear HC12
     obtain ⟨kq, x68_11, rfl, HA, HJ11, HO_0, HK, HB⟩ := hcut
     cases kq with
     | zero => exact absurd HA.out (by simp [nat_digit.j1])
     | succ kj11 =>
      have H := HA.out
      clear HA
      simp only [nat_digit.j1] at H
      by_cases c18 : x68_11 = true
      ·subst c18
       have H1 : (if 0 ≤ (wrap64 ((l1.length : Int) - 1)) then (if (wrap64 ((l1.length : Int) - 1)) < (l1.length : Int) then (if ((IntKind.u64.wrap (x8_1 + (IntKind.u64.wrap (rd l1 (wrap64 ((l1.length : Int) - 1)))))) / 4294967296) > 0 then (nat_digit.j2 kj11 l0 l1 (l1.length : Int) (IntKind.u64.wrap (x7_1 - 1))) else (nat_digit.l0 kj11 l0 l1 (l1.length : Int) (IntKind.u64.wrap (x7_1 - 1)) (IntKind.u64.wrap (x8_1 + (IntKind.u64.wrap (rd l1 (wrap64 ((l1.length : Int) - 1)))))))) else (none)) else (none)) = some (r1, r2) := by rw [if_pos rfl] at H; exact H
       clear H
       have H := H1
       clear H1
       obtain ⟨ji19, hji19⟩ : ∃ j_ : Int, (wrap64 ((l1.length : Int) - 1)) = j_ := ⟨_, rfl⟩
       (try clear hji5w); (try clear hji5)
       replace H : (if 0 ≤ (ji19) then (if (ji19) < (l1.length : Int) then (if ((IntKind.u64.wrap (x8_1 + (IntKind.u64.wrap (rd l1 (ji19))))) / 4294967296) > 0 then (nat_digit.j2 kj11 l0 l1 (l1.length : Int) (IntKind.u64.wrap (x7_1 - 1))) else (nat_digit.l0 kj11 l0 l1 (l1.length : Int) (IntKind.u64.wrap (x7_1 - 1)) (IntKind.u64.wrap (x8_1 + (IntKind.u64.wrap (rd l1 (ji19))))))) else (none)) else (none)) = some (r1, r2) := by first | (rw [hji19] at H; exact H) | (simp only [hji19] at H ⊢; exact H)
       have hji19w : (IntKind.i64.wrap ((l1.length : Int) - 1)) = ji19 := (i64_w _).trans hji19
       replace H := zn H
       obtain ⟨c20, H⟩ := H
       have c20b0 := decide_eq_true c20
       clear c20
       replace H := zn H
       obtain ⟨c21, H⟩ := H
       have c21b0 := decide_eq_true c21
       clear c21
       by_cases c22 : ((IntKind.u64.wrap (x8_1 + (IntKind.u64.wrap (rd l1 (ji19))))) / 4294967296) > 0
       ·rw [if_pos c22] at H
        have c22b0 : decide (0 < ((IntKind.u64.wrap (x8_1 + (IntKind.u64.wrap (rd l1 (ji19))))) / 4294967296)) = true := decide_eq_true c22
        clear c22
        have H' := am H
        clear H
        have p162 : 0 ≤ ((ji19) : Int) := zq6
        have q162 : (ji19) < (l1.length : Int) := zq6
        obtain ⟨ad162, e162, hx162_0⟩ := Kd.at_int (Kd.C_kept_now HR1.out HK.out) (ji19) p162 q162
        obtain rfl : ad158 = ad162 := (by injection e162)
        replace p162 := eq_true p162
        replace q162 := eq_true q162
        go_wp2
        repeat (go_quiet (fail); try go_wp2)
        go_meet
        case rel => exact ⟨_, (IntKind.u64.wrap (x7_1 - 1)), zq8, (by first | exact H' | (rw [hji5]; exact H') | (rw [hji19]; exact H')), ⟨by have := HK1.out; have := HJ11.out; first | omega | exact Nat.le_refl _⟩, ⟨by (with_reducible repeat (first | apply Wd_alloc | apply Wd_drewN | apply Wd_drew)); exact HO_0.out⟩, ⟨by repeat (first | (with_reducible first | exact HK.out | apply Kept.alloc | apply Kept.drewN | apply Kept.drew) | exact HK.out)⟩, ⟨zq1⟩⟩
       ·rw [if_neg c22] at H
        have c22b0 : decide (0 < ((IntKind.u64.wrap (x8_1 + (IntKind.u64.wrap (rd l1 (ji19))))) / 4294967296)) = false := decide_eq_false c22
        clear c22
        have H' := am H
        clear H
        have p162 : 0 ≤ ((ji19) : Int) := zq6
        have q162 : (ji19) < (l1.length : Int) := zq6
        obtain ⟨ad162, e162, hx162_0⟩ := Kd.at_int (Kd.C_kept_now HR1.out HK.out) (ji19) p162 q162
        obtain rfl : ad158 = ad162 := (by injection e162)
        replace p162 := eq_true p162
        replace q162 := eq_true q162
        go_wp2
        repeat (go_quiet (fail); try go_wp2)
        go_roundg kj11
        case measure => have := HK1.out; have := HJ11.out; omega
        case rel => exact ⟨(IntKind.u64.wrap (x7_1 - 1)), (IntKind.u64.wrap (x8_1 + (IntKind.u64.wrap (rd l1 (ji19))))), zq8, (by first | rfl | (simp; done) | (simp only [← hji19] <;> (first | rfl | simp)) | (simp [*]; done)), (by first | exact H' | (rw [hji5]; exact H') | (rw [hji19]; exact H')), ⟨by have := HK1.out; have := HJ11.out; omega⟩, ⟨by (with_reducible repeat (first | apply Wd_alloc | apply Wd_drewN | apply Wd_drew)); exact HO_0.out⟩, ⟨by repeat (first | (with_reducible first | exact HK.out | apply Kept.alloc | apply Kept.drewN | apply Kept.drew) | exact HK.out)⟩, ⟨zq1⟩⟩
      ·replace c18 := Bool.eq_false_iff.mpr c18
       subst c18
       have H1 : (nat_digit.j2 kj11 l0 l1 (l1.length : Int) x7_1) = some (r1, r2) := by rw [if_neg (show ¬ (false = true) by decide)] at H; exact H
       clear H
       have H := H1
       clear H1
       have H' := am H
       clear H
       go_wp2
       repeat (go_quiet (fail); try go_wp2)
       go_meet
       case rel => exact ⟨_, (x7_1), zq8, (by first | exact H' | (rw [hji5]; exact H')), ⟨by have := HK1.out; have := HJ11.out; first | omega | exact Nat.le_refl _⟩, ⟨by (with_reducible repeat (first | apply Wd_alloc | apply Wd_drewN | apply Wd_drew)); exact HO_0.out⟩, ⟨by repeat (first | (with_reducible first | exact HK.out | apply Kept.alloc | apply Kept.drewN | apply Kept.drew) | exact HK.out)⟩, ⟨zq1⟩⟩
 case rest =>
  clear HC10
  obtain ⟨kq, x7_9, rfl, HA, HJ9, HO_0, HK, HB⟩ := hcut
  cases kq with
  | zero => exact absurd HA.out (by simp [nat_digit.j2])
  | succ kj9 =>
   have H := HA.out
   clear HA
   simp only [nat_digit.j2] at H
   have H' := am H
   clear H
   go_wp2
   repeat (go_quiet (fail); try go_wp2)
   go_loopg [9, 10, 84] kj9 (fun kq v9 v10 v84 w' => ∃ (x0_2 : List Int) (x9_2 : Int) (x10_2 : Int) (x84_2 : Int), v9 = .int .u64 x9_2 ∧ v10 = .int .u64 x10_2 ∧ v84 = .int .i64 x84_2 ∧ Aside0 (nat_digit.l1 kq x0_2 l1 (l1.length : Int) x7_9 x9_2 x10_2 (l1.length : Int) x84_2 = some (r1, r2)) ∧ Aside0 (kq ≤ kj9) ∧ Aside0 (Wd pr_ po_ nW_ cW_ .u32 73 w' w0.heap.size (fun k_ => (P0_ k_ ∨ w.heap.size ≤ k_)) (.slice (some ad156) l0.length co11) x0_2) ∧ Aside0 (Kept w w' (fun k_ => P0_ k_)) ∧ Aside0 (Below w0.heap.size w0 w'))
   case atStart => exact ⟨(l0), (0), (0), (0), zq8, zq8, zq8, H', ⟨Nat.le_refl _⟩, ⟨by (with_reducible repeat (first | apply Wd_alloc | apply Wd_drewN | apply Wd_drew)); exact HO_0.out⟩, ⟨by repeat (first | (with_reducible first | exact HK.out | apply Kept.alloc | apply Kept.drewN | apply Kept.drew) | exact HK.out)⟩, ⟨zq1⟩⟩
   case round =>
    clear H'
    obtain ⟨x0_2, x9_2, x10_2, x84_2, rfl, rfl, rfl, HA, HK2, HO_0, HK, HB⟩ := hrel
    have hl0_2 := (Wd_reads' HO_0.out).1
    rw [hl0_2] at HO_0
    (try simp only [hl0_2])
    cases gk with
    | zero => exact absurd HA.out (by simp [nat_digit.l1])
    | succ k2 =>
     have H := HA.out
     clear HA
     simp only [nat_digit.l1] at H
     by_cases c23 : x84_2 < (l1.length : Int)
     ·rw [if_pos c23] at H
      have c23b0 := decide_eq_true c23
      clear c23
      replace H := zn H
      obtain ⟨c24, H⟩ := H
      have c24b0 := decide_eq_true c24
      clear c24
      replace H := zn H
      obtain ⟨c25, H⟩ := H
      have c25b0 := decide_eq_true c25
      clear c25
      replace H := zn H
      obtain ⟨c26, H⟩ := H
      have c26b0 := decide_eq_true c26
      clear c26
      obtain ⟨y165, hy165⟩ : ∃ y_ : List Int, y_ = (x0_2.set (x84_2 : Int).toNat ((IntKind.u64.wrap ((IntKind.u64.wrap ((IntKind.u64.wrap (rd x0_2 x84_2)) - ((IntKind.u64.wrap (x10_2 + (IntKind.u64.wrap (x7_9 * (IntKind.u64.wrap (rd l1 x84_2)))))) % 4294967296))) - x9_2)) % 4294967296)) := ⟨_, rfl⟩
      replace H : (nat_digit.l1 k2 y165 l1 (l1.length : Int) x7_9 (Go.bits .and .u64 ((IntKind.u64.wrap ((IntKind.u64.wrap ((IntKind.u64.wrap (rd x0_2 x84_2)) - ((IntKind.u64.wrap (x10_2 + (IntKind.u64.wrap (x7_9 * (IntKind.u64.wrap (rd l1 x84_2)))))) % 4294967296))) - x9_2)) / 4294967296) 1) ((IntKind.u64.wrap (x10_2 + (IntKind.u64.wrap (x7_9 * (IntKind.u64.wrap (rd l1 x84_2)))))) / 4294967296) (l1.length : Int) (wrap64 (x84_2 + 1))) = some (r1, r2) := by first | (rw [hy165]; with_reducible exact H) | (have H2_ := (Option.bind_some _ _).symm.trans H; rw [hy165]; with_reducible exact H2_) | (have H2_ := (Option.bind_some _ _).symm.trans H; with_reducible exact H2_) | with_reducible exact H | (rw [hy165]; exact H) | exact H
      have Ny165 := am hy165
      clear hy165
      have H' := am H
      clear H
      have p163 : 0 ≤ (x84_2 : Int) := zq6
      have q163 : x84_2 < (l1.length : Int) := zq6
      obtain ⟨ad163, e163, hx163_0⟩ := Kd.at_int (Kd.C_kept_now HR1.out HK.out) x84_2 p163 q163
      obtain rfl : ad158 = ad163 := (by injection e163)
      replace p163 := eq_true p163
      replace q163 := eq_true q163
      have p164 : 0 ≤ (x84_2 : Int) := zq6
      have q164 : x84_2 < (x0_2.length : Int) := zq6
      obtain ⟨ad164, e164, hx164_0⟩ := Kd.at_int (Wd_reads' HO_0.out).2.2 x84_2 p164 q164
      obtain rfl : ad156 = ad164 := (by injection e164)
      replace p164 := eq_true p164
      replace q164 := eq_true q164
      have p27 : 0 ≤ (x84_2 : Int) := zq6
      have q27 : (x84_2 : Int) < ((x0_2.length : Int) : Int) := zq6
      have gb27 := Wd_blk HO_0.out
      have gl27 := trivial
      have HG27 := trivial
      have GB27 := am gb27
      have GG27 := am HG27
      clear gb27 gl27 HG27
      have HMgo27 := am (show (P0_ ad156.block ∨ w.heap.size ≤ ad156.block) from (Wd_ok HO_0.out))
      (first | simp only [add_plain] at hx156_0 | skip)
      (first | simp only [add_plain] at hx157_0 | skip)
      (first | simp only [add_plain] at hx161_0 | skip)
      (first | simp only [add_plain] at hx164_0 | skip)
      obtain ⟨hx27_0, hf27_0⟩ := Wd_celln 0 HO_0.out (x84_2 : Int) p27 q27
      (try simp only [Int.toNat_natCast] at hx27_0 hf27_0)
      replace p27 := eq_true p27
      replace q27 := eq_true q27
      have HP28 := Wd_putg HO_0.out (x84_2 : Int) ((IntKind.u64.wrap ((IntKind.u64.wrap ((IntKind.u64.wrap (rd x0_2 x84_2)) - ((IntKind.u64.wrap (x10_2 + (IntKind.u64.wrap (x7_9 * (IntKind.u64.wrap (rd l1 x84_2)))))) % 4294967296))) - x9_2)) % 4294967296) zq7 zq7
      go_wp2_with (first | ((with_reducible refine gate_store (t := 73) (p := 111) rfl ?_); (try (rw [drewN_self wr]; generalize hq_ : World.drewN wr _ = wr; refine zt3 (Wd_at hq_ HO_0.out) (kept_at hq_ HK.out) (below_at hq_ HB.out) ?_; clear hq_ HO_0 HK HB; intro HO_0 HK HB; (try (have HP28 := Wd_putg HO_0.out (x84_2 : Int) ((IntKind.u64.wrap ((IntKind.u64.wrap ((IntKind.u64.wrap (rd x0_2 x84_2)) - ((IntKind.u64.wrap (x10_2 + (IntKind.u64.wrap (x7_9 * (IntKind.u64.wrap (rd l1 x84_2)))))) % 4294967296))) - x9_2)) % 4294967296) zq7 zq7; have hzz_ := Wd_celln 0 HO_0.out (x84_2 : Int) zq7 zq7; have hzx_ := hzz_.1; have hzf_ := hzz_.2; clear hzz_; (try simp only [Int.toNat_natCast] at hzx_ hzf_))))); refine zstore (t := 73) (p := 111) (w1 := (wr.setCell (ad156.add (x84_2 : Int).toNat) (.int .u32 ((IntKind.u64.wrap ((IntKind.u64.wrap ((IntKind.u64.wrap (rd x0_2 x84_2)) - ((IntKind.u64.wrap (x10_2 + (IntKind.u64.wrap (x7_9 * (IntKind.u64.wrap (rd l1 x84_2)))))) % 4294967296))) - x9_2)) % 4294967296)))) ?_; intro w29 hw; have hg : wr.grownBy w29 (some ad156.block) := (by rw [hw]; exact HP28.2); have hp_ : Wd pr_ po_ nW_ cW_ .u32 73 w29 w0.heap.size (fun k_ => (P0_ k_ ∨ w.heap.size ≤ k_)) (.slice (some ad156) x0_2.length co11) y165 := (by rw [hw, Ny165.out]; exact HP28.1); clear HP28; refine zt3 (hp_) ((by rw [hw]; exact below_setW (HB.out) GB27.out : Below w0.heap.size w0 w29)) (Kept.of_grown (S := (fun k_ => P0_ k_)) hg (by repeat (first | (with_reducible first | exact HK.out | apply Kept.alloc | apply Kept.drewN | apply Kept.drew) | exact HK.out)) (fun k_ e_ => (Option.some.inj e_ ▸ Wd_ok HO_0.out))) ?_; clear HO_0 HB HK; intro HO_0 HB HK; clear hg hw hp_))
      repeat (go_quiet (first | ((with_reducible refine gate_store (t := 73) (p := 111) rfl ?_); (try (rw [drewN_self wr]; generalize hq_ : World.drewN wr _ = wr; refine zt3 (Wd_at hq_ HO_0.out) (kept_at hq_ HK.out) (below_at hq_ HB.out) ?_; clear hq_ HO_0 HK HB; intro HO_0 HK HB; (try (have HP28 := Wd_putg HO_0.out (x84_2 : Int) ((IntKind.u64.wrap ((IntKind.u64.wrap ((IntKind.u64.wrap (rd x0_2 x84_2)) - ((IntKind.u64.wrap (x10_2 + (IntKind.u64.wrap (x7_9 * (IntKind.u64.wrap (rd l1 x84_2)))))) % 4294967296))) - x9_2)) % 4294967296) zq7 zq7; have hzz_ := Wd_celln 0 HO_0.out (x84_2 : Int) zq7 zq7; have hzx_ := hzz_.1; have hzf_ := hzz_.2; clear hzz_; (try simp only [Int.toNat_natCast] at hzx_ hzf_))))); refine zstore (t := 73) (p := 111) (w1 := (wr.setCell (ad156.add (x84_2 : Int).toNat) (.int .u32 ((IntKind.u64.wrap ((IntKind.u64.wrap ((IntKind.u64.wrap (rd x0_2 x84_2)) - ((IntKind.u64.wrap (x10_2 + (IntKind.u64.wrap (x7_9 * (IntKind.u64.wrap (rd l1 x84_2)))))) % 4294967296))) - x9_2)) % 4294967296)))) ?_; intro w29 hw; have hg : wr.grownBy w29 (some ad156.block) := (by rw [hw]; exact HP28.2); have hp_ : Wd pr_ po_ nW_ cW_ .u32 73 w29 w0.heap.size (fun k_ => (P0_ k_ ∨ w.heap.size ≤ k_)) (.slice (some ad156) x0_2.length co11) y165 := (by rw [hw, Ny165.out]; exact HP28.1); clear HP28; refine zt3 (hp_) ((by rw [hw]; exact below_setW (HB.out) GB27.out : Below w0.heap.size w0 w29)) (Kept.of_grown (S := (fun k_ => P0_ k_)) hg (by repeat (first | (with_reducible first | exact HK.out | apply Kept.alloc | apply Kept.drewN | apply Kept.drew) | exact HK.out)) (fun k_ e_ => (Option.some.inj e_ ▸ Wd_ok HO_0.out))) ?_; clear HO_0 HB HK; intro HO_0 HB HK; clear hg hw hp_)); try go_wp2_with (first | ((with_reducible refine gate_store (t := 73) (p := 111) rfl ?_); (try (rw [drewN_self wr]; generalize hq_ : World.drewN wr _ = wr; refine zt3 (Wd_at hq_ HO_0.out) (kept_at hq_ HK.out) (below_at hq_ HB.out) ?_; clear hq_ HO_0 HK HB; intro HO_0 HK HB; (try (have HP28 := Wd_putg HO_0.out (x84_2 : Int) ((IntKind.u64.wrap ((IntKind.u64.wrap ((IntKind.u64.wrap (rd x0_2 x84_2)) - ((IntKind.u64.wrap (x10_2 + (IntKind.u64.wrap (x7_9 * (IntKind.u64.wrap (rd l1 x84_2)))))) % 4294967296))) - x9_2)) % 4294967296) zq7 zq7; have hzz_ := Wd_celln 0 HO_0.out (x84_2 : Int) zq7 zq7; have hzx_ := hzz_.1; have hzf_ := hzz_.2; clear hzz_; (try simp only [Int.toNat_natCast] at hzx_ hzf_))))); refine zstore (t := 73) (p := 111) (w1 := (wr.setCell (ad156.add (x84_2 : Int).toNat) (.int .u32 ((IntKind.u64.wrap ((IntKind.u64.wrap ((IntKind.u64.wrap (rd x0_2 x84_2)) - ((IntKind.u64.wrap (x10_2 + (IntKind.u64.wrap (x7_9 * (IntKind.u64.wrap (rd l1 x84_2)))))) % 4294967296))) - x9_2)) % 4294967296)))) ?_; intro w29 hw; have hg : wr.grownBy w29 (some ad156.block) := (by rw [hw]; exact HP28.2); have hp_ : Wd pr_ po_ nW_ cW_ .u32 73 w29 w0.heap.size (fun k_ => (P0_ k_ ∨ w.heap.size ≤ k_)) (.slice (some ad156) x0_2.length co11) y165 := (by rw [hw, Ny165.out]; exact HP28.1); clear HP28; refine zt3 (hp_) ((by rw [hw]; exact below_setW (HB.out) GB27.out : Below w0.heap.size w0 w29)) (Kept.of_grown (S := (fun k_ => P0_ k_)) hg (by repeat (first | (with_reducible first | exact HK.out | apply Kept.alloc | apply Kept.drewN | apply Kept.drew) | exact HK.out)) (fun k_ e_ => (Option.some.inj e_ ▸ Wd_ok HO_0.out))) ?_; clear HO_0 HB HK; intro HO_0 HB HK; clear hg hw hp_)))
      (try simp only [← hl0_2])
      go_roundg k2
      case measure => have := HJ9.out; have := HK2.out; omega
      case rel => exact ⟨(y165), (Go.bits .and .u64 ((IntKind.u64.wrap ((IntKind.u64.wrap ((IntKind.u64.wrap (rd x0_2 x84_2)) - ((IntKind.u64.wrap (x10_2 + (IntKind.u64.wrap (x7_9 * (IntKind.u64.wrap (rd l1 x84_2)))))) % 4294967296))) - x9_2)) / 4294967296) 1), ((IntKind.u64.wrap (x10_2 + (IntKind.u64.wrap (x7_9 * (IntKind.u64.wrap (rd l1 x84_2)))))) / 4294967296), (wrap64 (x84_2 + 1)), zq8, zq8, zq8, (by first | exact H' | (rw [hji5]; exact H')), ⟨by have := HJ9.out; have := HK2.out; omega⟩, ⟨by (try simp only [hl0_2]); (with_reducible repeat (first | apply Wd_alloc | apply Wd_drewN | apply Wd_drew)); exact HO_0.out⟩, ⟨by repeat (first | (with_reducible first | exact HK.out | apply Kept.alloc | apply Kept.drewN | apply Kept.drew) | exact HK.out)⟩, ⟨zq1⟩⟩
     ·rw [if_neg c23] at H
      have c23b0 := decide_eq_false c23
      (try (have c23b0x := c23b0; rw [hl0_2] at c23b0x))
      clear c23
      replace H := zn H
      obtain ⟨c30, H⟩ := H
      have c30b0 := decide_eq_true c30
      have c30b1 : decide (0 ≤ l1.length) = true := decide_eq_true (by omega)
      clear c30
      replace H := zn H
      obtain ⟨c31, H⟩ := H
      have c31b0 := decide_eq_true c31
      have c31b1 : decide (l1.length < x0_2.length) = true := decide_eq_true (Int.ofNat_lt.mp c31)
      clear c31
      obtain ⟨y167, hy167⟩ : ∃ y_ : List Int, y_ = (x0_2.set ((l1.length : Int) : Int).toNat ((IntKind.u64.wrap ((IntKind.u64.wrap ((IntKind.u64.wrap (rd x0_2 (l1.length : Int))) - x10_2)) - x9_2)) % 4294967296)) := ⟨_, rfl⟩
      replace H : (if (Go.bits .and .u64 ((IntKind.u64.wrap ((IntKind.u64.wrap ((IntKind.u64.wrap (rd x0_2 (l1.length : Int))) - x10_2)) - x9_2)) / 4294967296) 1) = 0 then (some ((x7_9) % 4294967296, y167)) else (nat_digit.l2 k2 y167 l1 (l1.length : Int) x7_9 0 (l1.length : Int) 0)) = some (r1, r2) := by first | (rw [hy167]; with_reducible exact H) | (have H2_ := (Option.bind_some _ _).symm.trans H; rw [hy167]; with_reducible exact H2_) | (have H2_ := (Option.bind_some _ _).symm.trans H; with_reducible exact H2_) | with_reducible exact H | (rw [hy167]; exact H) | exact H
      have Ny167 := am hy167
      clear hy167
      by_cases c33 : (Go.bits .and .u64 ((IntKind.u64.wrap ((IntKind.u64.wrap ((IntKind.u64.wrap (rd x0_2 (l1.length : Int))) - x10_2)) - x9_2)) / 4294967296) 1) = 0
      ·rw [if_pos c33] at H
       have c33b0 : ((Go.bits .and .u64 ((IntKind.u64.wrap ((IntKind.u64.wrap ((IntKind.u64.wrap (rd x0_2 (l1.length : Int))) - x10_2)) - x9_2)) / 4294967296) 1) == 0) = true := beq_iff_eq.mpr c33
       have c33b1 : ((Go.bits .and .u64 ((IntKind.u64.wrap ((IntKind.u64.wrap ((IntKind.u64.wrap (rd x0_2 (l1.length : Int))) - x10_2)) - x9_2)) / 4294967296) 1) != 0) = false := bne_eq_false_iff_eq.mpr c33
       clear c33
       simp only [Option.some.injEq, Prod.mk.injEq] at H
       obtain ⟨rfl, rfl⟩ := H
       have p166 : 0 ≤ ((l1.length : Int) : Int) := zq6
       have q166 : (l1.length : Int) < (x0_2.length : Int) := zq6
       obtain ⟨ad166, e166, hx166_0⟩ := Kd.at_int (Wd_reads' HO_0.out).2.2 (l1.length : Int) p166 q166
       obtain rfl : ad156 = ad166 := (by injection e166)
       (try simp only [Go.IntWalk.toNatUp] at hx166_0)
       (try simp only [hl0_2] at p166)
       (try simp only [hl0_2] at q166)
       (try simp only [hl0_2] at hx166_0)
       replace p166 := eq_true p166
       replace q166 := eq_true q166
       have p32 : 0 ≤ ((l1.length : Int) : Int) := zq6
       have q32 : ((l1.length : Int) : Int) < ((x0_2.length : Int) : Int) := zq6
       have gb32 := Wd_blk HO_0.out
       have gl32 := trivial
       have HG32 := trivial
       have GB32 := am gb32
       have GG32 := am HG32
       clear gb32 gl32 HG32
       have HMgo32 := am (show (P0_ ad156.block ∨ w.heap.size ≤ ad156.block) from (Wd_ok HO_0.out))
       (first | simp only [add_plain] at hx166_0 | skip)
       obtain ⟨hx32_0, hf32_0⟩ := Wd_celln 0 HO_0.out ((l1.length : Int) : Int) p32 q32
       (try simp only [Int.toNat_natCast] at hx32_0 hf32_0)
       replace p32 := eq_true p32
       replace q32 := eq_true q32
       have HP34 := Wd_putg HO_0.out ((l1.length : Int) : Int) ((IntKind.u64.wrap ((IntKind.u64.wrap ((IntKind.u64.wrap (rd x0_2 (l1.length : Int))) - x10_2)) - x9_2)) % 4294967296) zq7 zq7
       go_wp2_with (first | ((with_reducible refine gate_store (t := 73) (p := 131) rfl ?_); (try (rw [drewN_self wr]; generalize hq_ : World.drewN wr _ = wr; refine zt3 (Wd_at hq_ HO_0.out) (kept_at hq_ HK.out) (below_at hq_ HB.out) ?_; clear hq_ HO_0 HK HB; intro HO_0 HK HB; (try (have HP34 := Wd_putg HO_0.out ((l1.length : Int) : Int) ((IntKind.u64.wrap ((IntKind.u64.wrap ((IntKind.u64.wrap (rd x0_2 (l1.length : Int))) - x10_2)) - x9_2)) % 4294967296) zq7 zq7; have hzz_ := Wd_celln 0 HO_0.out ((l1.length : Int) : Int) zq7 zq7; have hzx_ := hzz_.1; have hzf_ := hzz_.2; clear hzz_; (try simp only [Int.toNat_natCast] at hzx_ hzf_))))); refine zstore (t := 73) (p := 131) (w1 := (wr.setCell (ad156.add ((l1.length : Int) : Int).toNat) (.int .u32 ((IntKind.u64.wrap ((IntKind.u64.wrap ((IntKind.u64.wrap (rd x0_2 (l1.length : Int))) - x10_2)) - x9_2)) % 4294967296)))) ?_; intro w35 hw; have hg : wr.grownBy w35 (some ad156.block) := (by rw [hw]; exact HP34.2); have hp_ : Wd pr_ po_ nW_ cW_ .u32 73 w35 w0.heap.size (fun k_ => (P0_ k_ ∨ w.heap.size ≤ k_)) (.slice (some ad156) x0_2.length co11) y167 := (by rw [hw, Ny167.out]; exact HP34.1); clear HP34; refine zt3 (hp_) ((by rw [hw]; exact below_setW (HB.out) GB32.out : Below w0.heap.size w0 w35)) (Kept.of_grown (S := (fun k_ => P0_ k_)) hg (by repeat (first | (with_reducible first | exact HK.out | apply Kept.alloc | apply Kept.drewN | apply Kept.drew) | exact HK.out)) (fun k_ e_ => (Option.some.inj e_ ▸ Wd_ok HO_0.out))) ?_; clear HO_0 HB HK; intro HO_0 HB HK; clear hg hw hp_))
       repeat (go_quiet (first | ((with_reducible refine gate_store (t := 73) (p := 131) rfl ?_); (try (rw [drewN_self wr]; generalize hq_ : World.drewN wr _ = wr; refine zt3 (Wd_at hq_ HO_0.out) (kept_at hq_ HK.out) (below_at hq_ HB.out) ?_; clear hq_ HO_0 HK HB; intro HO_0 HK HB; (try (have HP34 := Wd_putg HO_0.out ((l1.length : Int) : Int) ((IntKind.u64.wrap ((IntKind.u64.wrap ((IntKind.u64.wrap (rd x0_2 (l1.length : Int))) - x10_2)) - x9_2)) % 4294967296) zq7 zq7; have hzz_ := Wd_celln 0 HO_0.out ((l1.length : Int) : Int) zq7 zq7; have hzx_ := hzz_.1; have hzf_ := hzz_.2; clear hzz_; (try simp only [Int.toNat_natCast] at hzx_ hzf_))))); refine zstore (t := 73) (p := 131) (w1 := (wr.setCell (ad156.add ((l1.length : Int) : Int).toNat) (.int .u32 ((IntKind.u64.wrap ((IntKind.u64.wrap ((IntKind.u64.wrap (rd x0_2 (l1.length : Int))) - x10_2)) - x9_2)) % 4294967296)))) ?_; intro w35 hw; have hg : wr.grownBy w35 (some ad156.block) := (by rw [hw]; exact HP34.2); have hp_ : Wd pr_ po_ nW_ cW_ .u32 73 w35 w0.heap.size (fun k_ => (P0_ k_ ∨ w.heap.size ≤ k_)) (.slice (some ad156) x0_2.length co11) y167 := (by rw [hw, Ny167.out]; exact HP34.1); clear HP34; refine zt3 (hp_) ((by rw [hw]; exact below_setW (HB.out) GB32.out : Below w0.heap.size w0 w35)) (Kept.of_grown (S := (fun k_ => P0_ k_)) hg (by repeat (first | (with_reducible first | exact HK.out | apply Kept.alloc | apply Kept.drewN | apply Kept.drew) | exact HK.out)) (fun k_ e_ => (Option.some.inj e_ ▸ Wd_ok HO_0.out))) ?_; clear HO_0 HB HK; intro HO_0 HB HK; clear hg hw hp_)); try go_wp2_with (first | ((with_reducible refine gate_store (t := 73) (p := 131) rfl ?_); (try (rw [drewN_self wr]; generalize hq_ : World.drewN wr _ = wr; refine zt3 (Wd_at hq_ HO_0.out) (kept_at hq_ HK.out) (below_at hq_ HB.out) ?_; clear hq_ HO_0 HK HB; intro HO_0 HK HB; (try (have HP34 := Wd_putg HO_0.out ((l1.length : Int) : Int) ((IntKind.u64.wrap ((IntKind.u64.wrap ((IntKind.u64.wrap (rd x0_2 (l1.length : Int))) - x10_2)) - x9_2)) % 4294967296) zq7 zq7; have hzz_ := Wd_celln 0 HO_0.out ((l1.length : Int) : Int) zq7 zq7; have hzx_ := hzz_.1; have hzf_ := hzz_.2; clear hzz_; (try simp only [Int.toNat_natCast] at hzx_ hzf_))))); refine zstore (t := 73) (p := 131) (w1 := (wr.setCell (ad156.add ((l1.length : Int) : Int).toNat) (.int .u32 ((IntKind.u64.wrap ((IntKind.u64.wrap ((IntKind.u64.wrap (rd x0_2 (l1.length : Int))) - x10_2)) - x9_2)) % 4294967296)))) ?_; intro w35 hw; have hg : wr.grownBy w35 (some ad156.block) := (by rw [hw]; exact HP34.2); have hp_ : Wd pr_ po_ nW_ cW_ .u32 73 w35 w0.heap.size (fun k_ => (P0_ k_ ∨ w.heap.size ≤ k_)) (.slice (some ad156) x0_2.length co11) y167 := (by rw [hw, Ny167.out]; exact HP34.1); clear HP34; refine zt3 (hp_) ((by rw [hw]; exact below_setW (HB.out) GB32.out : Below w0.heap.size w0 w35)) (Kept.of_grown (S := (fun k_ => P0_ k_)) hg (by repeat (first | (with_reducible first | exact HK.out | apply Kept.alloc | apply Kept.drewN | apply Kept.drew) | exact HK.out)) (fun k_ e_ => (Option.some.inj e_ ▸ Wd_ok HO_0.out))) ?_; clear HO_0 HB HK; intro HO_0 HB HK; clear hg hw hp_)))
       go_ret
       exact ⟨by first | rfl | (simp [errW_none, errW_some] <;> rfl) | (simp only [← hji5]; first | rfl | (simp [errW_none, errW_some] <;> rfl)) | (simp [*, errW_none, errW_some] <;> rfl), (by first | exact (by (with_reducible repeat (first | apply Wd_alloc | apply Wd_drewN | apply Wd_drew)); exact HO_0.out) | (simp only [hl0_2]; exact (by (with_reducible repeat (first | apply Wd_alloc | apply Wd_drewN | apply Wd_drew)); exact HO_0.out))), zq1, by repeat (first | (with_reducible first | exact HK.out | apply Kept.alloc | apply Kept.drewN | apply Kept.drew) | exact HK.out)⟩
      ·rw [if_neg c33] at H
       have c33b0 : ((Go.bits .and .u64 ((IntKind.u64.wrap ((IntKind.u64.wrap ((IntKind.u64.wrap (rd x0_2 (l1.length : Int))) - x10_2)) - x9_2)) / 4294967296) 1) == 0) = false := beq_eq_false_iff_ne.mpr c33
       have c33b1 : ((Go.bits .and .u64 ((IntKind.u64.wrap ((IntKind.u64.wrap ((IntKind.u64.wrap (rd x0_2 (l1.length : Int))) - x10_2)) - x9_2)) / 4294967296) 1) != 0) = true := bne_iff_ne.mpr c33
       have H' := am H
       clear H
       have p166 : 0 ≤ ((l1.length : Int) : Int) := zq6
       have q166 : (l1.length : Int) < (x0_2.length : Int) := zq6
       obtain ⟨ad166, e166, hx166_0⟩ := Kd.at_int (Wd_reads' HO_0.out).2.2 (l1.length : Int) p166 q166
       obtain rfl : ad156 = ad166 := (by injection e166)
       (try simp only [Go.IntWalk.toNatUp] at hx166_0)
       (try simp only [hl0_2] at p166)
       (try simp only [hl0_2] at q166)
       (try simp only [hl0_2] at hx166_0)
       replace p166 := eq_true p166
       replace q166 := eq_true q166
       have p32 : 0 ≤ ((l1.length : Int) : Int) := zq6
       have q32 : ((l1.length : Int) : Int) < ((x0_2.length : Int) : Int) := zq6
       have gb32 := Wd_blk HO_0.out
       have gl32 := trivial
       have HG32 := trivial
       have GB32 := am gb32
       have GG32 := am HG32
       clear gb32 gl32 HG32
       have HMgo32 := am (show (P0_ ad156.block ∨ w.heap.size ≤ ad156.block) from (Wd_ok HO_0.out))
       (first | simp only [add_plain] at hx166_0 | skip)
       obtain ⟨hx32_0, hf32_0⟩ := Wd_celln 0 HO_0.out ((l1.length : Int) : Int) p32 q32
       (try simp only [Int.toNat_natCast] at hx32_0 hf32_0)
       replace p32 := eq_true p32
       replace q32 := eq_true q32
       have HP36 := Wd_putg HO_0.out ((l1.length : Int) : Int) ((IntKind.u64.wrap ((IntKind.u64.wrap ((IntKind.u64.wrap (rd x0_2 (l1.length : Int))) - x10_2)) - x9_2)) % 4294967296) zq7 zq7
       go_wp2_with (first | ((with_reducible refine gate_store (t := 73) (p := 131) rfl ?_); (try (rw [drewN_self wr]; generalize hq_ : World.drewN wr _ = wr; refine zt3 (Wd_at hq_ HO_0.out) (kept_at hq_ HK.out) (below_at hq_ HB.out) ?_; clear hq_ HO_0 HK HB; intro HO_0 HK HB; (try (have HP36 := Wd_putg HO_0.out ((l1.length : Int) : Int) ((IntKind.u64.wrap ((IntKind.u64.wrap ((IntKind.u64.wrap (rd x0_2 (l1.length : Int))) - x10_2)) - x9_2)) % 4294967296) zq7 zq7; have hzz_ := Wd_celln 0 HO_0.out ((l1.length : Int) : Int) zq7 zq7; have hzx_ := hzz_.1; have hzf_ := hzz_.2; clear hzz_; (try simp only [Int.toNat_natCast] at hzx_ hzf_))))); refine zstore (t := 73) (p := 131) (w1 := (wr.setCell (ad156.add ((l1.length : Int) : Int).toNat) (.int .u32 ((IntKind.u64.wrap ((IntKind.u64.wrap ((IntKind.u64.wrap (rd x0_2 (l1.length : Int))) - x10_2)) - x9_2)) % 4294967296)))) ?_; intro w37 hw; have hg : wr.grownBy w37 (some ad156.block) := (by rw [hw]; exact HP36.2); have hp_ : Wd pr_ po_ nW_ cW_ .u32 73 w37 w0.heap.size (fun k_ => (P0_ k_ ∨ w.heap.size ≤ k_)) (.slice (some ad156) x0_2.length co11) y167 := (by rw [hw, Ny167.out]; exact HP36.1); clear HP36; refine zt3 (hp_) ((by rw [hw]; exact below_setW (HB.out) GB32.out : Below w0.heap.size w0 w37)) (Kept.of_grown (S := (fun k_ => P0_ k_)) hg (by repeat (first | (with_reducible first | exact HK.out | apply Kept.alloc | apply Kept.drewN | apply Kept.drew) | exact HK.out)) (fun k_ e_ => (Option.some.inj e_ ▸ Wd_ok HO_0.out))) ?_; clear HO_0 HB HK; intro HO_0 HB HK; clear hg hw hp_))
       repeat (go_quiet (first | ((with_reducible refine gate_store (t := 73) (p := 131) rfl ?_); (try (rw [drewN_self wr]; generalize hq_ : World.drewN wr _ = wr; refine zt3 (Wd_at hq_ HO_0.out) (kept_at hq_ HK.out) (below_at hq_ HB.out) ?_; clear hq_ HO_0 HK HB; intro HO_0 HK HB; (try (have HP36 := Wd_putg HO_0.out ((l1.length : Int) : Int) ((IntKind.u64.wrap ((IntKind.u64.wrap ((IntKind.u64.wrap (rd x0_2 (l1.length : Int))) - x10_2)) - x9_2)) % 4294967296) zq7 zq7; have hzz_ := Wd_celln 0 HO_0.out ((l1.length : Int) : Int) zq7 zq7; have hzx_ := hzz_.1; have hzf_ := hzz_.2; clear hzz_; (try simp only [Int.toNat_natCast] at hzx_ hzf_))))); refine zstore (t := 73) (p := 131) (w1 := (wr.setCell (ad156.add ((l1.length : Int) : Int).toNat) (.int .u32 ((IntKind.u64.wrap ((IntKind.u64.wrap ((IntKind.u64.wrap (rd x0_2 (l1.length : Int))) - x10_2)) - x9_2)) % 4294967296)))) ?_; intro w37 hw; have hg : wr.grownBy w37 (some ad156.block) := (by rw [hw]; exact HP36.2); have hp_ : Wd pr_ po_ nW_ cW_ .u32 73 w37 w0.heap.size (fun k_ => (P0_ k_ ∨ w.heap.size ≤ k_)) (.slice (some ad156) x0_2.length co11) y167 := (by rw [hw, Ny167.out]; exact HP36.1); clear HP36; refine zt3 (hp_) ((by rw [hw]; exact below_setW (HB.out) GB32.out : Below w0.heap.size w0 w37)) (Kept.of_grown (S := (fun k_ => P0_ k_)) hg (by repeat (first | (with_reducible first | exact HK.out | apply Kept.alloc | apply Kept.drewN | apply Kept.drew) | exact HK.out)) (fun k_ e_ => (Option.some.inj e_ ▸ Wd_ok HO_0.out))) ?_; clear HO_0 HB HK; intro HO_0 HB HK; clear hg hw hp_)); try go_wp2_with (first | ((with_reducible refine gate_store (t := 73) (p := 131) rfl ?_); (try (rw [drewN_self wr]; generalize hq_ : World.drewN wr _ = wr; refine zt3 (Wd_at hq_ HO_0.out) (kept_at hq_ HK.out) (below_at hq_ HB.out) ?_; clear hq_ HO_0 HK HB; intro HO_0 HK HB; (try (have HP36 := Wd_putg HO_0.out ((l1.length : Int) : Int) ((IntKind.u64.wrap ((IntKind.u64.wrap ((IntKind.u64.wrap (rd x0_2 (l1.length : Int))) - x10_2)) - x9_2)) % 4294967296) zq7 zq7; have hzz_ := Wd_celln 0 HO_0.out ((l1.length : Int) : Int) zq7 zq7; have hzx_ := hzz_.1; have hzf_ := hzz_.2; clear hzz_; (try simp only [Int.toNat_natCast] at hzx_ hzf_))))); refine zstore (t := 73) (p := 131) (w1 := (wr.setCell (ad156.add ((l1.length : Int) : Int).toNat) (.int .u32 ((IntKind.u64.wrap ((IntKind.u64.wrap ((IntKind.u64.wrap (rd x0_2 (l1.length : Int))) - x10_2)) - x9_2)) % 4294967296)))) ?_; intro w37 hw; have hg : wr.grownBy w37 (some ad156.block) := (by rw [hw]; exact HP36.2); have hp_ : Wd pr_ po_ nW_ cW_ .u32 73 w37 w0.heap.size (fun k_ => (P0_ k_ ∨ w.heap.size ≤ k_)) (.slice (some ad156) x0_2.length co11) y167 := (by rw [hw, Ny167.out]; exact HP36.1); clear HP36; refine zt3 (hp_) ((by rw [hw]; exact below_setW (HB.out) GB32.out : Below w0.heap.size w0 w37)) (Kept.of_grown (S := (fun k_ => P0_ k_)) hg (by repeat (first | (with_reducible first | exact HK.out | apply Kept.alloc | apply Kept.drewN | apply Kept.drew) | exact HK.out)) (fun k_ e_ => (Option.some.inj e_ ▸ Wd_ok HO_0.out))) ?_; clear HO_0 HB HK; intro HO_0 HB HK; clear hg hw hp_)))
       go_loopg [10, 140] k2 (fun kq v10 v140 w' => ∃ (x0_3 : List Int) (x10_3 : Int) (x140_3 : Int), v10 = .int .u64 x10_3 ∧ v140 = .int .i64 x140_3 ∧ Aside0 (nat_digit.l2 kq x0_3 l1 (l1.length : Int) x7_9 x10_3 (l1.length : Int) x140_3 = some (r1, r2)) ∧ Aside0 (kq ≤ k2) ∧ Aside0 (Wd pr_ po_ nW_ cW_ .u32 73 w' w0.heap.size (fun k_ => (P0_ k_ ∨ w.heap.size ≤ k_)) (.slice (some ad156) x0_2.length co11) x0_3) ∧ Aside0 (Kept w w' (fun k_ => P0_ k_)) ∧ Aside0 (Below w0.heap.size w0 w'))
       case atStart => exact ⟨(y167), (0), (0), zq8, zq8, H', ⟨Nat.le_refl _⟩, ⟨by (try simp only [hl0_2]); (with_reducible repeat (first | apply Wd_alloc | apply Wd_drewN | apply Wd_drew)); exact HO_0.out⟩, ⟨by repeat (first | (with_reducible first | exact HK.out | apply Kept.alloc | apply Kept.drewN | apply Kept.drew) | exact HK.out)⟩, ⟨zq1⟩⟩
       case round =>
        clear H'
        obtain ⟨x0_3, x10_3, x140_3, rfl, rfl, HA, HK3, HO_0, HK, HB⟩ := hrel
        have hl0_3 := (Wd_reads' HO_0.out).1
        rw [hl0_3] at HO_0
        (try simp only [hl0_3])
        cases gk with
        | zero => exact absurd HA.out (by simp [nat_digit.l2])
        | succ k3 =>
         have H := HA.out
         clear HA
         simp only [nat_digit.l2] at H
         by_cases c38 : x140_3 < (l1.length : Int)
         ·rw [if_pos c38] at H
          have c38b0 := decide_eq_true c38
          clear c38
          replace H := zn H
          obtain ⟨c39, H⟩ := H
          have c39b0 := decide_eq_true c39
          clear c39
          replace H := zn H
          obtain ⟨c40, H⟩ := H
          have c40b0 := decide_eq_true c40
          clear c40
          replace H := zn H
          obtain ⟨c41, H⟩ := H
          have c41b0 := decide_eq_true c41
          clear c41
          obtain ⟨y170, hy170⟩ : ∃ y_ : List Int, y_ = (x0_3.set (x140_3 : Int).toNat ((IntKind.u64.wrap (x10_3 + (IntKind.u64.wrap ((IntKind.u64.wrap (rd x0_3 x140_3)) + (IntKind.u64.wrap (rd l1 x140_3)))))) % 4294967296)) := ⟨_, rfl⟩
          replace H : (nat_digit.l2 k3 y170 l1 (l1.length : Int) x7_9 ((IntKind.u64.wrap (x10_3 + (IntKind.u64.wrap ((IntKind.u64.wrap (rd x0_3 x140_3)) + (IntKind.u64.wrap (rd l1 x140_3)))))) / 4294967296) (l1.length : Int) (wrap64 (x140_3 + 1))) = some (r1, r2) := by first | (rw [hy170]; with_reducible exact H) | (have H2_ := (Option.bind_some _ _).symm.trans H; rw [hy170]; with_reducible exact H2_) | (have H2_ := (Option.bind_some _ _).symm.trans H; with_reducible exact H2_) | with_reducible exact H | (rw [hy170]; exact H) | exact H
          have Ny170 := am hy170
          clear hy170
          have H' := am H
          clear H
          have p168 : 0 ≤ (x140_3 : Int) := zq6
          have q168 : x140_3 < (x0_3.length : Int) := zq6
          obtain ⟨ad168, e168, hx168_0⟩ := Kd.at_int (Wd_reads' HO_0.out).2.2 x140_3 p168 q168
          obtain rfl : (ad156 : Addr) = ad168 := (by injection e168)
          (first | simp only [add_plain] at hx168_0 | simp only [add_at] at hx168_0 | simp only [Addr.add, Nat.zero_add] at hx168_0 | skip)
          replace p168 := eq_true p168
          replace q168 := eq_true q168
          have p169 : 0 ≤ (x140_3 : Int) := zq6
          have q169 : x140_3 < (l1.length : Int) := zq6
          obtain ⟨ad169, e169, hx169_0⟩ := Kd.at_int (Kd.C_kept_now HR1.out HK.out) x140_3 p169 q169
          obtain rfl : ad158 = ad169 := (by injection e169)
          replace p169 := eq_true p169
          replace q169 := eq_true q169
          have p42 : 0 ≤ (x140_3 : Int) := zq6
          have q42 : (x140_3 : Int) < ((x0_3.length : Int) : Int) := zq6
          obtain ⟨hx42_0, hf42_0⟩ := Wd_celln 0 HO_0.out (x140_3 : Int) p42 q42
          (try simp only [Int.toNat_natCast] at hx42_0 hf42_0)
          replace p42 := eq_true p42
          replace q42 := eq_true q42
          have HP43 := Wd_putg HO_0.out (x140_3 : Int) ((IntKind.u64.wrap (x10_3 + (IntKind.u64.wrap ((IntKind.u64.wrap (rd x0_3 x140_3)) + (IntKind.u64.wrap (rd l1 x140_3)))))) % 4294967296) zq7 zq7
          go_wp2_with (first | ((with_reducible refine gate_store (t := 73) (p := 160) rfl ?_); (try (rw [drewN_self wr]; generalize hq_ : World.drewN wr _ = wr; refine zt3 (Wd_at hq_ HO_0.out) (kept_at hq_ HK.out) (below_at hq_ HB.out) ?_; clear hq_ HO_0 HK HB; intro HO_0 HK HB; (try (have HP43 := Wd_putg HO_0.out (x140_3 : Int) ((IntKind.u64.wrap (x10_3 + (IntKind.u64.wrap ((IntKind.u64.wrap (rd x0_3 x140_3)) + (IntKind.u64.wrap (rd l1 x140_3)))))) % 4294967296) zq7 zq7; have hzz_ := Wd_celln 0 HO_0.out (x140_3 : Int) zq7 zq7; have hzx_ := hzz_.1; have hzf_ := hzz_.2; clear hzz_; (try simp only [Int.toNat_natCast] at hzx_ hzf_))))); refine zstore (t := 73) (p := 160) (w1 := (wr.setCell (ad156.add (x140_3 : Int).toNat) (.int .u32 ((IntKind.u64.wrap (x10_3 + (IntKind.u64.wrap ((IntKind.u64.wrap (rd x0_3 x140_3)) + (IntKind.u64.wrap (rd l1 x140_3)))))) % 4294967296)))) ?_; intro w44 hw; have hg : wr.grownBy w44 (some ad156.block) := (by rw [hw]; exact HP43.2); have hp_ : Wd pr_ po_ nW_ cW_ .u32 73 w44 w0.heap.size (fun k_ => (P0_ k_ ∨ w.heap.size ≤ k_)) (.slice (some ad156) x0_3.length co11) y170 := (by rw [hw, Ny170.out]; exact HP43.1); clear HP43; refine zt3 (hp_) ((by rw [hw]; exact below_setW (HB.out) GB32.out : Below w0.heap.size w0 w44)) (Kept.of_grown (S := (fun k_ => P0_ k_)) hg (by repeat (first | (with_reducible first | exact HK.out | apply Kept.alloc | apply Kept.drewN | apply Kept.drew) | exact HK.out)) (fun k_ e_ => (Option.some.inj e_ ▸ Wd_ok HO_0.out))) ?_; clear HO_0 HB HK; intro HO_0 HB HK; clear hg hw hp_))
          repeat (go_quiet (first | ((with_reducible refine gate_store (t := 73) (p := 160) rfl ?_); (try (rw [drewN_self wr]; generalize hq_ : World.drewN wr _ = wr; refine zt3 (Wd_at hq_ HO_0.out) (kept_at hq_ HK.out) (below_at hq_ HB.out) ?_; clear hq_ HO_0 HK HB; intro HO_0 HK HB; (try (have HP43 := Wd_putg HO_0.out (x140_3 : Int) ((IntKind.u64.wrap (x10_3 + (IntKind.u64.wrap ((IntKind.u64.wrap (rd x0_3 x140_3)) + (IntKind.u64.wrap (rd l1 x140_3)))))) % 4294967296) zq7 zq7; have hzz_ := Wd_celln 0 HO_0.out (x140_3 : Int) zq7 zq7; have hzx_ := hzz_.1; have hzf_ := hzz_.2; clear hzz_; (try simp only [Int.toNat_natCast] at hzx_ hzf_))))); refine zstore (t := 73) (p := 160) (w1 := (wr.setCell (ad156.add (x140_3 : Int).toNat) (.int .u32 ((IntKind.u64.wrap (x10_3 + (IntKind.u64.wrap ((IntKind.u64.wrap (rd x0_3 x140_3)) + (IntKind.u64.wrap (rd l1 x140_3)))))) % 4294967296)))) ?_; intro w44 hw; have hg : wr.grownBy w44 (some ad156.block) := (by rw [hw]; exact HP43.2); have hp_ : Wd pr_ po_ nW_ cW_ .u32 73 w44 w0.heap.size (fun k_ => (P0_ k_ ∨ w.heap.size ≤ k_)) (.slice (some ad156) x0_3.length co11) y170 := (by rw [hw, Ny170.out]; exact HP43.1); clear HP43; refine zt3 (hp_) ((by rw [hw]; exact below_setW (HB.out) GB32.out : Below w0.heap.size w0 w44)) (Kept.of_grown (S := (fun k_ => P0_ k_)) hg (by repeat (first | (with_reducible first | exact HK.out | apply Kept.alloc | apply Kept.drewN | apply Kept.drew) | exact HK.out)) (fun k_ e_ => (Option.some.inj e_ ▸ Wd_ok HO_0.out))) ?_; clear HO_0 HB HK; intro HO_0 HB HK; clear hg hw hp_)); try go_wp2_with (first | ((with_reducible refine gate_store (t := 73) (p := 160) rfl ?_); (try (rw [drewN_self wr]; generalize hq_ : World.drewN wr _ = wr; refine zt3 (Wd_at hq_ HO_0.out) (kept_at hq_ HK.out) (below_at hq_ HB.out) ?_; clear hq_ HO_0 HK HB; intro HO_0 HK HB; (try (have HP43 := Wd_putg HO_0.out (x140_3 : Int) ((IntKind.u64.wrap (x10_3 + (IntKind.u64.wrap ((IntKind.u64.wrap (rd x0_3 x140_3)) + (IntKind.u64.wrap (rd l1 x140_3)))))) % 4294967296) zq7 zq7; have hzz_ := Wd_celln 0 HO_0.out (x140_3 : Int) zq7 zq7; have hzx_ := hzz_.1; have hzf_ := hzz_.2; clear hzz_; (try simp only [Int.toNat_natCast] at hzx_ hzf_))))); refine zstore (t := 73) (p := 160) (w1 := (wr.setCell (ad156.add (x140_3 : Int).toNat) (.int .u32 ((IntKind.u64.wrap (x10_3 + (IntKind.u64.wrap ((IntKind.u64.wrap (rd x0_3 x140_3)) + (IntKind.u64.wrap (rd l1 x140_3)))))) % 4294967296)))) ?_; intro w44 hw; have hg : wr.grownBy w44 (some ad156.block) := (by rw [hw]; exact HP43.2); have hp_ : Wd pr_ po_ nW_ cW_ .u32 73 w44 w0.heap.size (fun k_ => (P0_ k_ ∨ w.heap.size ≤ k_)) (.slice (some ad156) x0_3.length co11) y170 := (by rw [hw, Ny170.out]; exact HP43.1); clear HP43; refine zt3 (hp_) ((by rw [hw]; exact below_setW (HB.out) GB32.out : Below w0.heap.size w0 w44)) (Kept.of_grown (S := (fun k_ => P0_ k_)) hg (by repeat (first | (with_reducible first | exact HK.out | apply Kept.alloc | apply Kept.drewN | apply Kept.drew) | exact HK.out)) (fun k_ e_ => (Option.some.inj e_ ▸ Wd_ok HO_0.out))) ?_; clear HO_0 HB HK; intro HO_0 HB HK; clear hg hw hp_)))
          (try simp only [← hl0_3])
          go_roundg k3
          case measure => have := HJ9.out; have := HK2.out; have := HK3.out; omega
          case rel => exact ⟨(y170), ((IntKind.u64.wrap (x10_3 + (IntKind.u64.wrap ((IntKind.u64.wrap (rd x0_3 x140_3)) + (IntKind.u64.wrap (rd l1 x140_3)))))) / 4294967296), (wrap64 (x140_3 + 1)), zq8, zq8, (by first | exact H' | (rw [hji5]; exact H')), ⟨by have := HJ9.out; have := HK2.out; have := HK3.out; omega⟩, ⟨by (try simp only [hl0_2]); (try simp only [hl0_3]); (with_reducible repeat (first | apply Wd_alloc | apply Wd_drewN | apply Wd_drew)); exact HO_0.out⟩, ⟨by repeat (first | (with_reducible first | exact HK.out | apply Kept.alloc | apply Kept.drewN | apply Kept.drew) | exact HK.out)⟩, ⟨zq1⟩⟩
         ·rw [if_neg c38] at H
          have c38b0 := decide_eq_false c38
          (try (have c38b0x := c38b0; rw [hl0_2] at c38b0x))
          (try (have c38b0x := c38b0; rw [hl0_3] at c38b0x))
          clear c38
          replace H := zn H
          obtain ⟨c45, H⟩ := H
          have c45b0 := decide_eq_true c45
          have c45b1 : decide (0 ≤ l1.length) = true := decide_eq_true (by omega)
          clear c45
          replace H := zn H
          obtain ⟨c46, H⟩ := H
          have c46b0 := decide_eq_true c46
          have c46b1 : decide (l1.length < x0_3.length) = true := decide_eq_true (Int.ofNat_lt.mp c46)
          clear c46
          obtain ⟨y172, hy172⟩ : ∃ y_ : List Int, y_ = (x0_3.set ((l1.length : Int) : Int).toNat (((rd x0_3 (l1.length : Int)) + ((x10_3) % 4294967296)) % 4294967296)) := ⟨_, rfl⟩
          replace H : (some ((IntKind.u64.wrap (x7_9 - 1)) % 4294967296, y172)) = some (r1, r2) := by first | (rw [hy172]; with_reducible exact H) | (have H2_ := (Option.bind_some _ _).symm.trans H; rw [hy172]; with_reducible exact H2_) | (have H2_ := (Option.bind_some _ _).symm.trans H; with_reducible exact H2_) | with_reducible exact H | (rw [hy172]; exact H) | exact H
          have Ny172 := am hy172
          clear hy172
          simp only [Option.some.injEq, Prod.mk.injEq] at H
          obtain ⟨rfl, rfl⟩ := H
          have p171 : 0 ≤ ((l1.length : Int) : Int) := zq6
          have q171 : (l1.length : Int) < (x0_3.length : Int) := zq6
          obtain ⟨ad171, e171, hx171_0⟩ := Kd.at_int (Wd_reads' HO_0.out).2.2 (l1.length : Int) p171 q171
          obtain rfl : (ad156 : Addr) = ad171 := (by injection e171)
          (first | simp only [add_plain] at hx171_0 | simp only [add_at] at hx171_0 | simp only [Addr.add, Nat.zero_add] at hx171_0 | skip)
          (try simp only [Go.IntWalk.toNatUp] at hx171_0)
          (try simp only [hl0_2, hl0_3] at p171)
          (try simp only [hl0_2, hl0_3] at q171)
          (try simp only [hl0_2, hl0_3] at hx171_0)
          replace p171 := eq_true p171
          replace q171 := eq_true q171
          have p47 : 0 ≤ ((l1.length : Int) : Int) := zq6
          have q47 : ((l1.length : Int) : Int) < ((x0_3.length : Int) : Int) := zq6
          obtain ⟨hx47_0, hf47_0⟩ := Wd_celln 0 HO_0.out ((l1.length : Int) : Int) p47 q47
          (try simp only [Int.toNat_natCast] at hx47_0 hf47_0)
          replace p47 := eq_true p47
          replace q47 := eq_true q47
          have HP48 := Wd_putg HO_0.out ((l1.length : Int) : Int) (((rd x0_3 (l1.length : Int)) + ((x10_3) % 4294967296)) % 4294967296) zq7 zq7
          go_wp2_with (first | ((with_reducible refine gate_store (t := 73) (p := 171) rfl ?_); (try (rw [drewN_self wr]; generalize hq_ : World.drewN wr _ = wr; refine zt3 (Wd_at hq_ HO_0.out) (kept_at hq_ HK.out) (below_at hq_ HB.out) ?_; clear hq_ HO_0 HK HB; intro HO_0 HK HB; (try (have HP48 := Wd_putg HO_0.out ((l1.length : Int) : Int) (((rd x0_3 (l1.length : Int)) + ((x10_3) % 4294967296)) % 4294967296) zq7 zq7; have hzz_ := Wd_celln 0 HO_0.out ((l1.length : Int) : Int) zq7 zq7; have hzx_ := hzz_.1; have hzf_ := hzz_.2; clear hzz_; (try simp only [Int.toNat_natCast] at hzx_ hzf_))))); refine zstore (t := 73) (p := 171) (w1 := (wr.setCell (ad156.add ((l1.length : Int) : Int).toNat) (.int .u32 (((rd x0_3 (l1.length : Int)) + ((x10_3) % 4294967296)) % 4294967296)))) ?_; intro w49 hw; have hg : wr.grownBy w49 (some ad156.block) := (by rw [hw]; exact HP48.2); have hp_ : Wd pr_ po_ nW_ cW_ .u32 73 w49 w0.heap.size (fun k_ => (P0_ k_ ∨ w.heap.size ≤ k_)) (.slice (some ad156) x0_3.length co11) y172 := (by rw [hw, Ny172.out]; exact HP48.1); clear HP48; refine zt3 (hp_) ((by rw [hw]; exact below_setW (HB.out) GB32.out : Below w0.heap.size w0 w49)) (Kept.of_grown (S := (fun k_ => P0_ k_)) hg (by repeat (first | (with_reducible first | exact HK.out | apply Kept.alloc | apply Kept.drewN | apply Kept.drew) | exact HK.out)) (fun k_ e_ => (Option.some.inj e_ ▸ Wd_ok HO_0.out))) ?_; clear HO_0 HB HK; intro HO_0 HB HK; clear hg hw hp_))
          repeat (go_quiet (first | ((with_reducible refine gate_store (t := 73) (p := 171) rfl ?_); (try (rw [drewN_self wr]; generalize hq_ : World.drewN wr _ = wr; refine zt3 (Wd_at hq_ HO_0.out) (kept_at hq_ HK.out) (below_at hq_ HB.out) ?_; clear hq_ HO_0 HK HB; intro HO_0 HK HB; (try (have HP48 := Wd_putg HO_0.out ((l1.length : Int) : Int) (((rd x0_3 (l1.length : Int)) + ((x10_3) % 4294967296)) % 4294967296) zq7 zq7; have hzz_ := Wd_celln 0 HO_0.out ((l1.length : Int) : Int) zq7 zq7; have hzx_ := hzz_.1; have hzf_ := hzz_.2; clear hzz_; (try simp only [Int.toNat_natCast] at hzx_ hzf_))))); refine zstore (t := 73) (p := 171) (w1 := (wr.setCell (ad156.add ((l1.length : Int) : Int).toNat) (.int .u32 (((rd x0_3 (l1.length : Int)) + ((x10_3) % 4294967296)) % 4294967296)))) ?_; intro w49 hw; have hg : wr.grownBy w49 (some ad156.block) := (by rw [hw]; exact HP48.2); have hp_ : Wd pr_ po_ nW_ cW_ .u32 73 w49 w0.heap.size (fun k_ => (P0_ k_ ∨ w.heap.size ≤ k_)) (.slice (some ad156) x0_3.length co11) y172 := (by rw [hw, Ny172.out]; exact HP48.1); clear HP48; refine zt3 (hp_) ((by rw [hw]; exact below_setW (HB.out) GB32.out : Below w0.heap.size w0 w49)) (Kept.of_grown (S := (fun k_ => P0_ k_)) hg (by repeat (first | (with_reducible first | exact HK.out | apply Kept.alloc | apply Kept.drewN | apply Kept.drew) | exact HK.out)) (fun k_ e_ => (Option.some.inj e_ ▸ Wd_ok HO_0.out))) ?_; clear HO_0 HB HK; intro HO_0 HB HK; clear hg hw hp_)); try go_wp2_with (first | ((with_reducible refine gate_store (t := 73) (p := 171) rfl ?_); (try (rw [drewN_self wr]; generalize hq_ : World.drewN wr _ = wr; refine zt3 (Wd_at hq_ HO_0.out) (kept_at hq_ HK.out) (below_at hq_ HB.out) ?_; clear hq_ HO_0 HK HB; intro HO_0 HK HB; (try (have HP48 := Wd_putg HO_0.out ((l1.length : Int) : Int) (((rd x0_3 (l1.length : Int)) + ((x10_3) % 4294967296)) % 4294967296) zq7 zq7; have hzz_ := Wd_celln 0 HO_0.out ((l1.length : Int) : Int) zq7 zq7; have hzx_ := hzz_.1; have hzf_ := hzz_.2; clear hzz_; (try simp only [Int.toNat_natCast] at hzx_ hzf_))))); refine zstore (t := 73) (p := 171) (w1 := (wr.setCell (ad156.add ((l1.length : Int) : Int).toNat) (.int .u32 (((rd x0_3 (l1.length : Int)) + ((x10_3) % 4294967296)) % 4294967296)))) ?_; intro w49 hw; have hg : wr.grownBy w49 (some ad156.block) := (by rw [hw]; exact HP48.2); have hp_ : Wd pr_ po_ nW_ cW_ .u32 73 w49 w0.heap.size (fun k_ => (P0_ k_ ∨ w.heap.size ≤ k_)) (.slice (some ad156) x0_3.length co11) y172 := (by rw [hw, Ny172.out]; exact HP48.1); clear HP48; refine zt3 (hp_) ((by rw [hw]; exact below_setW (HB.out) GB32.out : Below w0.heap.size w0 w49)) (Kept.of_grown (S := (fun k_ => P0_ k_)) hg (by repeat (first | (with_reducible first | exact HK.out | apply Kept.alloc | apply Kept.drewN | apply Kept.drew) | exact HK.out)) (fun k_ e_ => (Option.some.inj e_ ▸ Wd_ok HO_0.out))) ?_; clear HO_0 HB HK; intro HO_0 HB HK; clear hg hw hp_)))
          go_ret
          exact ⟨by first | rfl | (simp [errW_none, errW_some] <;> rfl) | (simp only [← hji5]; first | rfl | (simp [errW_none, errW_some] <;> rfl)) | (simp [*, errW_none, errW_some] <;> rfl), (by first | exact (by (with_reducible repeat (first | apply Wd_alloc | apply Wd_drewN | apply Wd_drew)); exact HO_0.out) | (simp only [hl0_2, hl0_3]; exact (by (with_reducible repeat (first | apply Wd_alloc | apply Wd_drewN | apply Wd_drew)); exact HO_0.out))), zq1, by repeat (first | (with_reducible first | exact HK.out | apply Kept.alloc | apply Kept.drewN | apply Kept.drew) | exact HK.out)⟩
def nat_digit_at.f (k : Nat) (l0 : List Int) (a1 : Int) (a2 : Int) (l3 : List Int) : Option (Int × List Int) := if 0 ≤ a1 then (if a1 < a2 then (if a2 ≤ (l0.length : Int) then ((nat_digit.f k ((l0.take a2.toNat).drop a1.toNat) l3).bind fun b => some (b.1, l0.take a1.toNat ++ b.2 ++ l0.drop a2.toNat)) else none) else none) else none
theorem nat_digit_at.calls (k : Nat) (P0_ : Nat → Prop) (u9000_ : Value) (l0 : List Int) (a1 : Int) (a2 : Int) (A3 : Option Addr) (c3 : Nat) (l3 : List Int) (r1 : Int) (r2 : List Int) (w0 w : World) (hB : Below w0.heap.size w0 w) (ho0 : Kd.R (Kd.int .u32) 73 w w0.heap.size P0_ u9000_ l0) (hr3 : ∀ W_, Kept w W_ (fun k_ => P0_ k_) → Kd.C (Kd.int .u32) W_ A3 l3.length l3) (hc3 : l3.length ≤ c3) (h : nat_digit_at.f k l0 a1 a2 l3 = some (r1, r2))
  (A0 : Option Addr) (n0 c0 : Nat) (hu : u9000_ = .slice A0 n0 c0) (AW : Option Addr) (cW : Nat) (hA : AW = if c0 = a1.toNat then A0 else A0.map (·.add (a1.toNat * 1))) (yW : List Int) (hy : yW = (l0.take a2.toNat).drop a1.toNat) :
  Calls Tryz.prog 96 #[.slice AW yW.length cW, .slice A3 l3.length c3] w fun e w' => e = .returned (.int .u32 r1) ∧ Kd.R (Kd.int .u32) 73 w' w0.heap.size (fun k_ => (P0_ k_ ∨ w.heap.size ≤ k_)) u9000_ r2 ∧ Below w0.heap.size w0 w' ∧ Kept w w' (fun k_ => P0_ k_) := by
 unfold nat_digit_at.f at h
 split at h
 ·split at h
  ·split at h
   ·rename_i h0 h1 h2
    obtain ⟨⟨b1, b2⟩, hb, h⟩ := Option.bind_eq_some_iff.1 h
    simp only [Option.some.injEq, Prod.mk.injEq] at h
    obtain ⟨rfl, rfl⟩ := h
    subst hu
    rw [← hy] at hb
    obtain ⟨g, rfl, hAW, hW⟩ := win_start ho0 a1 a2 h0 h1 h2 hA hy cW
    refine (nat_digit.callsW (l0.take a1.toNat) (l0.drop a2.toNat) n0 c0 k P0_ (.slice AW yW.length cW) yW A3 c3 l3 b1 b2 w0 w hB hW hr3 hc3 hb).mono ?_
    rintro e w' ⟨rfl, q1, q2, q3⟩
    rw [hAW] at q1
    exact ⟨rfl, win_end q1, q2, q3⟩
   ·cases h
  ·cases h
 ·cases h
def nat_DivMod.l0 : Nat → List Int → Int → List Int → List Int → Int → Int → Option (List Int × List Int)
 | 0, _, _, _, _, _, _ => none
 | k + 1, x4, x8, x9, x10, x11, x12 => if x12 ≥ 0 then (if 0 ≤ x12 then (if x12 ≤ (wrap64 ((wrap64 (x12 + x11)) + 1)) then (if (wrap64 ((wrap64 (x12 + x11)) + 1)) ≤ (x10.length : Int) then ((nat_digit_at.f k x10 x12 (wrap64 ((wrap64 (x12 + x11)) + 1)) x9).bind fun bt205 => (if x12 < (x4.length : Int) then (nat_DivMod.l0 k (x4.set (x12 : Int).toNat bt205.1) x8 x9 bt205.2 x11 (wrap64 (x12 - 1))) else (none))) else (none)) else (none)) else (none)) else ((nat_Trim.f k x10).bind fun t208 => ((nat_Shr.f k t208 x8).bind fun bt211 => ((nat_Trim.f k x4).bind fun t215 => (some (t215, bt211.1)))))
def nat_DivMod.f (k : Nat) (l0 : List Int) (l1 : List Int) : Option (List Int × List Int) := (nat_Compare.f k l0 l1).bind fun t173 => (if t173 < 0 then ((slices_Clone_uint32_uint32.f l0).bind fun t174 => (some (([] : List Int), t174))) else (if (l1.length : Int) = 1 then (if 0 < (l1.length : Int) then ((nat_DivSmall.f k l0 (rd l1 0)).bind fun bt178 => ((nat_Of.f k (IntKind.u64.wrap (bt178.2))).bind fun t182 => (some (bt178.1, t182)))) else (none)) else (if 0 ≤ (wrap64 ((l1.length : Int) - 1)) then (if (wrap64 ((l1.length : Int) - 1)) < (l1.length : Int) then ((bits_LeadingZeros32.f (rd l1 (wrap64 ((l1.length : Int) - 1)))).bind fun t186 => ((nat_Shl.f k l1 t186).bind fun t187 => (if 0 ≤ (wrap64 ((l0.length : Int) + 1)) then (if (wrap64 ((l0.length : Int) + 1) : Int).toNat ≤ 70368744177664 then ((some (List.replicate (wrap64 ((l0.length : Int) + 1) : Int).toNat 0 : List Int)).bind fun y190 => ((nat_Shl.f k l0 t186).bind fun t193 => ((copy_e73.f y190 t193).bind fun bt196 => (if 0 ≤ (wrap64 ((y190.length : Int) - (t187.length : Int))) then (if (wrap64 ((y190.length : Int) - (t187.length : Int)) : Int).toNat ≤ 70368744177664 then ((some (List.replicate (wrap64 ((y190.length : Int) - (t187.length : Int)) : Int).toNat 0 : List Int)).bind fun y198 => (nat_DivMod.l0 k y198 t186 t187 bt196.2 (t187.length : Int) (wrap64 ((y198.length : Int) - 1)))) else (none)) else (none))))) else (none)) else (none)))) else (none)) else (none))))
set_option maxHeartbeats 8000000 in
set_option maxRecDepth 100000 in
theorem nat_DivMod.calls (k : Nat) (A0 : Option Addr) (c0 : Nat) (l0 : List Int) (A1 : Option Addr) (c1 : Nat) (l1 : List Int) (r1 : List Int) (r2 : List Int) (w : World) (hr0 : Kd.C (Kd.int .u32) w A0 l0.length l0) (hc0 : l0.length ≤ c0) (hr1 : Kd.C (Kd.int .u32) w A1 l1.length l1) (hc1 : l1.length ≤ c1) (h : nat_DivMod.f k l0 l1 = some (r1, r2)) :
  Calls Tryz.prog 66 #[.slice A0 l0.length c0, .slice A1 l1.length c1] w fun e w' => ∃ v0_ v1_ : Value, e = .returned (.tuple #[v0_, v1_]) ∧ Kd.V (Kd.int .u32) 73 w' w.heap.size (fun k_ => (w.heap.size ≤ k_)) v0_ r1 ∧ Kd.V (Kd.int .u32) 73 w' w.heap.size (fun k_ => (w.heap.size ≤ k_)) v1_ r2 ∧ Below w.heap.size w w' := by
 have HR0 := am hr0
 have HC0 := am hc0
 clear hr0 hc0
 have HR1 := am hr1
 have HC1 := am hc1
 clear hr1 hc1
 have HB := am (Below.refl w.heap.size w)
 have H := h
 unfold nat_DivMod.f at H
 clear h
 replace H := zj H
 obtain ⟨t173, A3, H⟩ := H
 replace H : (if t173 < 0 then ((slices_Clone_uint32_uint32.f l0).bind fun t174 => (some (([] : List Int), t174))) else (if (l1.length : Int) = 1 then (if 0 < (l1.length : Int) then ((nat_DivSmall.f k l0 (rd l1 0)).bind fun bt178 => ((nat_Of.f k (IntKind.u64.wrap (bt178.2))).bind fun t182 => (some (bt178.1, t182)))) else (none)) else (if 0 ≤ (wrap64 ((l1.length : Int) - 1)) then (if (wrap64 ((l1.length : Int) - 1)) < (l1.length : Int) then ((bits_LeadingZeros32.f (rd l1 (wrap64 ((l1.length : Int) - 1)))).bind fun t186 => ((nat_Shl.f k l1 t186).bind fun t187 => (if 0 ≤ (wrap64 ((l0.length : Int) + 1)) then (if (wrap64 ((l0.length : Int) + 1) : Int).toNat ≤ 70368744177664 then ((some (List.replicate (wrap64 ((l0.length : Int) + 1) : Int).toNat 0 : List Int)).bind fun y190 => ((nat_Shl.f k l0 t186).bind fun t193 => ((copy_e73.f y190 t193).bind fun bt196 => (if 0 ≤ (wrap64 ((y190.length : Int) - (t187.length : Int))) then (if (wrap64 ((y190.length : Int) - (t187.length : Int)) : Int).toNat ≤ 70368744177664 then ((some (List.replicate (wrap64 ((y190.length : Int) - (t187.length : Int)) : Int).toNat 0 : List Int)).bind fun y198 => (nat_DivMod.l0 k y198 t186 t187 bt196.2 (t187.length : Int) (wrap64 ((y198.length : Int) - 1)))) else (none)) else (none))))) else (none)) else (none)))) else (none)) else (none)))) = some (r1, r2) := H
 by_cases c4 : t173 < 0
 ·rw [if_pos c4] at H
  have c4b0 := decide_eq_true c4
  clear c4
  replace H := zj H
  obtain ⟨t174, A5, H⟩ := H
  replace H : (some (([] : List Int), t174)) = some (r1, r2) := H
  simp only [Option.some.injEq, Prod.mk.injEq] at H
  obtain ⟨rfl, rfl⟩ := H
  go_enter Tryz.func66, Tryz.ntmps66
  go_wp2_with (first | ((with_reducible refine gate_callee (f := 67) rfl ?_); refine goesL_ (some 15) rfl rfl Tryz.func67 (by kernel_rfl) rfl #[.slice A0 l0.length c0, .slice A1 l1.length c1] rfl zq5 ?_; (with_reducible refine (nat_Compare.calls k _ _ l0 _ _ l1 t173 _ ?side1 ?side2 ?side3 ?side4 A3.out).mono ?_); (case side1 => exact zc (HR0.out)); (case side2 => exact HC0.out); (case side3 => exact zc (HR1.out)); (case side4 => exact HC1.out); rintro e w' ⟨rfl, ⟨nd, rfl⟩⟩; refine ⟨_, rfl, ?_⟩) | ((with_reducible refine gate_callee (f := 88) rfl ?_); refine goesL_ (some 18) rfl rfl Tryz.func88 (by kernel_rfl) rfl #[.slice A0 l0.length c0] rfl zq5 ?_; (with_reducible refine (slices_Clone_uint32_uint32.calls _ _ l0 t174 _ ?side1 ?side2 A5.out).mono ?_); (case side1 => exact zc (HR0.out)); (case side2 => exact HC0.out); rintro e w6 ⟨v175, rfl, ho0, hb⟩; refine ⟨_, rfl, ?_⟩; refine zt2 (Kd.R_lower (Kd.R_newM (M := fun k_ => (w.heap.size ≤ k_)) ho0 (below_size zq1) (fun k_ h_ => h_)) (below_size zq1)) (below_step zq1 hb) ?_; clear HB; intro HO176 HB))
  go_ret2
  exact ⟨_, _, zq9, Kd.V_nil _ _ _ _ _, Kd.R_V (zwR (h := by exact Kd.R_mono HO176.out (fun _ hk => hk.1))), zq1⟩
 ·rw [if_neg c4] at H
  have c4b0 := decide_eq_false c4
  clear c4
  by_cases c7 : (l1.length : Int) = 1
  ·rw [if_pos c7] at H
   have c7b0 : ((l1.length : Int) == 1) = true := beq_iff_eq.mpr c7
   have c7b1 : ((l1.length : Int) != 1) = false := bne_eq_false_iff_eq.mpr c7
   clear c7
   replace H := zn H
   obtain ⟨c8, H⟩ := H
   have c8b0 := decide_eq_true c8
   have c8b1 : decide (0 < l1.length) = true := decide_eq_true (by omega)
   clear c8
   replace H := zj H
   obtain ⟨⟨t178, t181⟩, A9, H⟩ := H
   replace H : ((nat_Of.f k (IntKind.u64.wrap (t181))).bind fun t182 => (some (t178, t182))) = some (r1, r2) := H
   replace H := zj H
   obtain ⟨t182, A10, H⟩ := H
   replace H : (some (t178, t182)) = some (r1, r2) := H
   simp only [Option.some.injEq, Prod.mk.injEq] at H
   obtain ⟨rfl, rfl⟩ := H
   go_enter Tryz.func66, Tryz.ntmps66
   go_wp2_with (first | ((with_reducible refine gate_callee (f := 67) rfl ?_); refine goesL_ (some 15) rfl rfl Tryz.func67 (by kernel_rfl) rfl #[.slice A0 l0.length c0, .slice A1 l1.length c1] rfl zq5 ?_; (with_reducible refine (nat_Compare.calls k _ _ l0 _ _ l1 t173 _ ?side1 ?side2 ?side3 ?side4 A3.out).mono ?_); (case side1 => exact zc (HR0.out)); (case side2 => exact HC0.out); (case side3 => exact zc (HR1.out)); (case side4 => exact HC1.out); rintro e w' ⟨rfl, ⟨nd, rfl⟩⟩; refine ⟨_, rfl, ?_⟩; have p177 : 0 ≤ (0 : Int) := (by omega); have q177 : 0 < (l1.length : Int) := zq6; obtain ⟨ad177, e177, hx177_0⟩ := Kd.at_int HR1.out 0 p177 q177; cases e177; have qi177 : (0 < l1.length) = True := eq_true (by omega); (try rw [show ((0 : Int)).toNat = 0 from rfl] at hx177_0); (try rw [Addr.add_zero'] at hx177_0); replace p177 := eq_true p177; replace q177 := eq_true q177) | ((with_reducible refine gate_callee (f := 94) rfl ?_); refine goesL_ (some 27) rfl rfl Tryz.func94 (by kernel_rfl) rfl #[.slice A0 l0.length c0, .int .u32 (rd l1 0)] rfl zq5 ?_; (with_reducible refine (nat_DivSmall.calls k _ _ l0 (rd l1 0) t178 t181 _ ?side1 ?side2 A9.out).mono ?_); (case side1 => exact zc (HR0.out)); (case side2 => exact HC0.out); rintro e w11 ⟨v179, rfl, ho0, hb⟩; refine ⟨_, rfl, ?_⟩; refine zt2 (Kd.V_lower (Kd.V_mono (ok' := fun k_ => (w.heap.size ≤ k_)) ho0 (fun k_ hk_ => (Nat.le_trans (below_size zq1) hk_))) (below_size zq1)) (below_step zq1 hb) ?_; clear HB; intro HO180 HB) | ((with_reducible refine gate_callee (f := 54) rfl ?_); refine goesL_ (some 33) rfl rfl Tryz.func54 (by kernel_rfl) rfl #[.int .u64 (IntKind.u64.wrap (t181))] rfl zq5 ?_; (with_reducible refine (nat_Of.calls k (IntKind.u64.wrap (t181)) t182 _ A10.out).mono ?_); rintro e w12 ⟨v183, rfl, ho0, hb⟩; refine ⟨_, rfl, ?_⟩; refine zt3 (vb HO180 hb) (Kd.V_lower (Kd.V_mono (ok' := fun k_ => (w.heap.size ≤ k_)) ho0 (fun k_ hk_ => (Nat.le_trans (below_size zq1) hk_))) (below_size zq1)) (below_step zq1 hb) ?_; clear HO180 HB; intro HO180 HO184 HB))
   go_ret2
   exact ⟨_, _, zq9, zq3 HO180.out, zq3 HO184.out, zq1⟩
  ·rw [if_neg c7] at H
   have c7b0 : ((l1.length : Int) == 1) = false := beq_eq_false_iff_ne.mpr c7
   have c7b1 : ((l1.length : Int) != 1) = true := bne_iff_ne.mpr c7
   obtain ⟨ji13, hji13⟩ : ∃ j_ : Int, (wrap64 ((l1.length : Int) - 1)) = j_ := ⟨_, rfl⟩
   replace H : (if 0 ≤ (ji13) then (if (ji13) < (l1.length : Int) then ((bits_LeadingZeros32.f (rd l1 (ji13))).bind fun t186 => ((nat_Shl.f k l1 t186).bind fun t187 => (if 0 ≤ (wrap64 ((l0.length : Int) + 1)) then (if (wrap64 ((l0.length : Int) + 1) : Int).toNat ≤ 70368744177664 then ((some (List.replicate (wrap64 ((l0.length : Int) + 1) : Int).toNat 0 : List Int)).bind fun y190 => ((nat_Shl.f k l0 t186).bind fun t193 => ((copy_e73.f y190 t193).bind fun bt196 => (if 0 ≤ (wrap64 ((y190.length : Int) - (t187.length : Int))) then (if (wrap64 ((y190.length : Int) - (t187.length : Int)) : Int).toNat ≤ 70368744177664 then ((some (List.replicate (wrap64 ((y190.length : Int) - (t187.length : Int)) : Int).toNat 0 : List Int)).bind fun y198 => (nat_DivMod.l0 k y198 t186 t187 bt196.2 (t187.length : Int) (wrap64 ((y198.length : Int) - 1)))) else (none)) else (none))))) else (none)) else (none)))) else (none)) else (none)) = some (r1, r2) := by first | (rw [hji13] at H; exact H) | (simp only [hji13] at H ⊢; exact H)
   (try rw [hji13] at A3)
   have hji13w : (IntKind.i64.wrap ((l1.length : Int) - 1)) = ji13 := (i64_w _).trans hji13
   replace H := zn H
   obtain ⟨c14, H⟩ := H
   have c14b0 := decide_eq_true c14
   clear c14
   replace H := zn H
   obtain ⟨c15, H⟩ := H
   have c15b0 := decide_eq_true c15
   clear c15
   replace H := zj H
   obtain ⟨t186, A16, H⟩ := H
   replace H : ((nat_Shl.f k l1 t186).bind fun t187 => (if 0 ≤ (wrap64 ((l0.length : Int) + 1)) then (if (wrap64 ((l0.length : Int) + 1) : Int).toNat ≤ 70368744177664 then ((some (List.replicate (wrap64 ((l0.length : Int) + 1) : Int).toNat 0 : List Int)).bind fun y190 => ((nat_Shl.f k l0 t186).bind fun t193 => ((copy_e73.f y190 t193).bind fun bt196 => (if 0 ≤ (wrap64 ((y190.length : Int) - (t187.length : Int))) then (if (wrap64 ((y190.length : Int) - (t187.length : Int)) : Int).toNat ≤ 70368744177664 then ((some (List.replicate (wrap64 ((y190.length : Int) - (t187.length : Int)) : Int).toNat 0 : List Int)).bind fun y198 => (nat_DivMod.l0 k y198 t186 t187 bt196.2 (t187.length : Int) (wrap64 ((y198.length : Int) - 1)))) else (none)) else (none))))) else (none)) else (none))) = some (r1, r2) := H
   replace H := zj H
   obtain ⟨t187, A17, H⟩ := H
   replace H : (if 0 ≤ (wrap64 ((l0.length : Int) + 1)) then (if (wrap64 ((l0.length : Int) + 1) : Int).toNat ≤ 70368744177664 then ((some (List.replicate (wrap64 ((l0.length : Int) + 1) : Int).toNat 0 : List Int)).bind fun y190 => ((nat_Shl.f k l0 t186).bind fun t193 => ((copy_e73.f y190 t193).bind fun bt196 => (if 0 ≤ (wrap64 ((y190.length : Int) - (t187.length : Int))) then (if (wrap64 ((y190.length : Int) - (t187.length : Int)) : Int).toNat ≤ 70368744177664 then ((some (List.replicate (wrap64 ((y190.length : Int) - (t187.length : Int)) : Int).toNat 0 : List Int)).bind fun y198 => (nat_DivMod.l0 k y198 t186 t187 bt196.2 (t187.length : Int) (wrap64 ((y198.length : Int) - 1)))) else (none)) else (none))))) else (none)) else (none)) = some (r1, r2) := H
   obtain ⟨ji18, hji18⟩ : ∃ j_ : Int, (wrap64 ((l0.length : Int) + 1)) = j_ := ⟨_, rfl⟩
   replace H : (if 0 ≤ (ji18) then (if (ji18 : Int).toNat ≤ 70368744177664 then ((some (List.replicate (ji18 : Int).toNat 0 : List Int)).bind fun y190 => ((nat_Shl.f k l0 t186).bind fun t193 => ((copy_e73.f y190 t193).bind fun bt196 => (if 0 ≤ (wrap64 ((y190.length : Int) - (t187.length : Int))) then (if (wrap64 ((y190.length : Int) - (t187.length : Int)) : Int).toNat ≤ 70368744177664 then ((some (List.replicate (wrap64 ((y190.length : Int) - (t187.length : Int)) : Int).toNat 0 : List Int)).bind fun y198 => (nat_DivMod.l0 k y198 t186 t187 bt196.2 (t187.length : Int) (wrap64 ((y198.length : Int) - 1)))) else (none)) else (none))))) else (none)) else (none)) = some (r1, r2) := by first | (rw [hji18] at H; exact H) | (simp only [hji18] at H ⊢; exact H)
   (try rw [hji18] at A3)
   (try rw [hji18] at A16)
   (try rw [hji18] at A17)
   have hji18w : (IntKind.i64.wrap ((l0.length : Int) + 1)) = ji18 := (i64_w _).trans hji18
   replace H := zn H
   obtain ⟨c19, H⟩ := H
   have c19b0 := eq_true c19
   have c19b1 := decide_eq_true c19
   clear c19
   replace H := zn H
   obtain ⟨c20, H⟩ := H
   have c20b0 := eq_true c20
   have c20b1 := decide_eq_true c20
   clear c20
   obtain ⟨y190, hy190⟩ : ∃ y_ : List Int, y_ = (List.replicate (ji18 : Int).toNat 0) := ⟨_, rfl⟩
   replace H : ((nat_Shl.f k l0 t186).bind fun t193 => ((copy_e73.f y190 t193).bind fun bt196 => (if 0 ≤ (wrap64 ((y190.length : Int) - (t187.length : Int))) then (if (wrap64 ((y190.length : Int) - (t187.length : Int)) : Int).toNat ≤ 70368744177664 then ((some (List.replicate (wrap64 ((y190.length : Int) - (t187.length : Int)) : Int).toNat 0 : List Int)).bind fun y198 => (nat_DivMod.l0 k y198 t186 t187 bt196.2 (t187.length : Int) (wrap64 ((y198.length : Int) - 1)))) else (none)) else (none)))) = some (r1, r2) := by first | (rw [hy190]; with_reducible exact H) | (have H2_ := (Option.bind_some _ _).symm.trans H; rw [hy190]; with_reducible exact H2_) | (have H2_ := (Option.bind_some _ _).symm.trans H; with_reducible exact H2_) | with_reducible exact H | (rw [hy190]; exact H) | exact H
   have Ny190 := am hy190
   clear hy190
   replace H := zj H
   obtain ⟨t193, A21, H⟩ := H
   replace H : ((copy_e73.f y190 t193).bind fun bt196 => (if 0 ≤ (wrap64 ((y190.length : Int) - (t187.length : Int))) then (if (wrap64 ((y190.length : Int) - (t187.length : Int)) : Int).toNat ≤ 70368744177664 then ((some (List.replicate (wrap64 ((y190.length : Int) - (t187.length : Int)) : Int).toNat 0 : List Int)).bind fun y198 => (nat_DivMod.l0 k y198 t186 t187 bt196.2 (t187.length : Int) (wrap64 ((y198.length : Int) - 1)))) else (none)) else (none))) = some (r1, r2) := H
   replace H := zj H
   obtain ⟨⟨t196, t197⟩, A22, H⟩ := H
   replace H : (if 0 ≤ (wrap64 ((y190.length : Int) - (t187.length : Int))) then (if (wrap64 ((y190.length : Int) - (t187.length : Int)) : Int).toNat ≤ 70368744177664 then ((some (List.replicate (wrap64 ((y190.length : Int) - (t187.length : Int)) : Int).toNat 0 : List Int)).bind fun y198 => (nat_DivMod.l0 k y198 t186 t187 t197 (t187.length : Int) (wrap64 ((y198.length : Int) - 1)))) else (none)) else (none)) = some (r1, r2) := H
   obtain ⟨ji23, hji23⟩ : ∃ j_ : Int, (wrap64 ((y190.length : Int) - (t187.length : Int))) = j_ := ⟨_, rfl⟩
   replace H : (if 0 ≤ (ji23) then (if (ji23 : Int).toNat ≤ 70368744177664 then ((some (List.replicate (ji23 : Int).toNat 0 : List Int)).bind fun y198 => (nat_DivMod.l0 k y198 t186 t187 t197 (t187.length : Int) (wrap64 ((y198.length : Int) - 1)))) else (none)) else (none)) = some (r1, r2) := by first | (rw [hji23] at H; exact H) | (simp only [hji23] at H ⊢; exact H)
   (try rw [hji23] at A3)
   (try rw [hji23] at A16)
   (try rw [hji23] at A17)
   (try rw [hji23] at A21)
   (try rw [hji23] at A22)
   have hji23w : (IntKind.i64.wrap ((y190.length : Int) - (t187.length : Int))) = ji23 := (i64_w _).trans hji23
   replace H := zn H
   obtain ⟨c24, H⟩ := H
   have c24b0 := eq_true c24
   have c24b1 := decide_eq_true c24
   clear c24
   replace H := zn H
   obtain ⟨c25, H⟩ := H
   have c25b0 := eq_true c25
   have c25b1 := decide_eq_true c25
   clear c25
   obtain ⟨y198, hy198⟩ : ∃ y_ : List Int, y_ = (List.replicate (ji23 : Int).toNat 0) := ⟨_, rfl⟩
   replace H : (nat_DivMod.l0 k y198 t186 t187 t197 (t187.length : Int) (wrap64 ((y198.length : Int) - 1))) = some (r1, r2) := by first | (rw [hy198]; with_reducible exact H) | (have H2_ := (Option.bind_some _ _).symm.trans H; rw [hy198]; with_reducible exact H2_) | (have H2_ := (Option.bind_some _ _).symm.trans H; with_reducible exact H2_) | with_reducible exact H | (rw [hy198]; exact H) | exact H
   have Ny198 := am hy198
   clear hy198
   have H' := am H
   clear H
   go_enter Tryz.func66, Tryz.ntmps66
   go_wp2_with (first | ((with_reducible refine gate_callee (f := 67) rfl ?_); refine goesL_ (some 15) rfl rfl Tryz.func67 (by kernel_rfl) rfl #[.slice A0 l0.length c0, .slice A1 l1.length c1] rfl zq5 ?_; (with_reducible refine (nat_Compare.calls k _ _ l0 _ _ l1 t173 _ ?side1 ?side2 ?side3 ?side4 A3.out).mono ?_); (case side1 => exact zc (HR0.out)); (case side2 => exact HC0.out); (case side3 => exact zc (HR1.out)); (case side4 => exact HC1.out); rintro e w' ⟨rfl, ⟨nd, rfl⟩⟩; refine ⟨_, rfl, ?_⟩; have p185 : 0 ≤ ((ji13) : Int) := zq6; have q185 : (ji13) < (l1.length : Int) := zq6; obtain ⟨ad185, e185, hx185_0⟩ := Kd.at_int HR1.out (ji13) p185 q185; cases e185; replace p185 := eq_true p185; replace q185 := eq_true q185) | ((with_reducible refine gate_callee (f := 95) rfl ?_); refine goesL_ (some 40) rfl rfl Tryz.func95 (by kernel_rfl) rfl #[.int .u32 (rd l1 (ji13))] rfl (by (try simp only [List.map_toArray, List.map_cons, List.map_nil]); first | done | (simp only [hji13]; rfl) | rfl | (simp only [List.length_drop, List.length_take]; rfl)) ?_; (with_reducible refine (bits_LeadingZeros32.calls (rd l1 (ji13)) t186 _ A16.out).mono ?_); rintro e w' ⟨rfl, ⟨nd, rfl⟩⟩; refine ⟨_, rfl, ?_⟩) | ((with_reducible refine gate_callee (f := 55) rfl ?_); refine goesL_ (some 43) rfl rfl Tryz.func55 (by kernel_rfl) rfl #[.slice (some ad185) l1.length c1, .int .i64 t186] rfl zq5 ?_; (with_reducible refine (nat_Shl.calls k _ _ l1 t186 t187 _ ?side1 ?side2 A17.out).mono ?_); (case side1 => exact zc (HR1.out)); (case side2 => exact HC1.out); rintro e w26 ⟨v188, rfl, ho0, hb⟩; refine ⟨_, rfl, ?_⟩; refine zt2 (Kd.V_lower (Kd.V_mono (ok' := fun k_ => (w.heap.size ≤ k_)) ho0 (fun k_ hk_ => (Nat.le_trans (below_size zq1) hk_))) (below_size zq1)) (below_step zq1 hb) ?_; clear HB; intro HO189 HB) | ((with_reducible refine gate_dst (N := 47) rfl ?_); refine Kd.R_make (Kd.int .u32) _ 73 rfl (N := 47) rfl 22 _ _ rfl ji18 rfl rfl Tryz.underlying22 (.int .u32 0) 4 info73 rfl (by decide) (by omega) 0 (ok := fun _ => True) (okp := fun _ => True) rfl (fun _ hk => hk) trivial zq6 (Nat.le_trans (Nat.mul_le_mul_right _ (zq6 : ji18.toNat ≤ 70368744177664)) (by omega)) (Below.refl _ _) (Nat.le_refl _) ?_; intro v191 w27 ho28 hb hg_ hnew_; clear hg_ hnew_; (first | rw [← Ny190.out] at ho28 | (simp only [Int.reduceToNat] at ho28; rw [← Ny190.out] at ho28)); refine zt3 (Kd.V_elder' (zq3 HO189.out) (Kd.R_base ho28) hb) (Kd.R_lower (Kd.R_newM (M := fun k_ => (w.heap.size ≤ k_)) ho28 (below_size zq1) (fun k_ h_ => h_)) (below_size zq1)) (below_step zq1 hb) ?_; clear HO189 HB; intro HO189 HO192 HB; clear hb ho28) | ((with_reducible refine gate_callee (f := 55) rfl ?_); refine goesL_ (some 51) rfl rfl Tryz.func55 (by kernel_rfl) rfl #[.slice A0 l0.length c0, .int .i64 t186] rfl zq5 ?_; (with_reducible refine (nat_Shl.calls k _ _ l0 t186 t193 _ ?side1 ?side2 A21.out).mono ?_); (case side1 => exact zc (Kd.C_below HR0.out HB.out)); (case side2 => exact HC0.out); rintro e w29 ⟨v194, rfl, ho0, hb⟩; refine ⟨_, rfl, ?_⟩; refine zt4 (vb HO189 hb) (rb HO192 hb) (Kd.V_lower (Kd.V_mono (ok' := fun k_ => (w.heap.size ≤ k_) ∧ some k_ ≠ (v191 : Value).ownBlock) ho0 (fun k_ hk_ => ⟨(Nat.le_trans (below_size zq1) hk_), (Kd.fresh' (Kd.R_lt (zq4 HO192.out)) k_ hk_)⟩)) (below_size zq1)) (below_step zq1 hb) ?_; clear HO189 HO192 HB; intro HO189 HO192 HO195 HB; obtain ⟨Ao30, co30, eo30⟩ := Kd.R_slice HO192.out; subst eo30; obtain ⟨Ao31, co31, eo31⟩ := Kd.V_slice HO195.out; subst eo31) | ((with_reducible refine gate_builtin (b := .copy) rfl ?_); refine copyL_ (some 52) rfl rfl #[.slice Ao30 y190.length co30, .slice Ao31 t193.length co31] rfl zq5 ?_; (with_reducible refine (copy_e73.calls (fun k_ => some k_ = (.slice Ao30 y190.length co30 : Value).ownBlock) (.slice Ao30 y190.length co30) y190 _ _ t193 t196 t197 w _ ?side1 ?side2 ?side3 ?side4 A22.out).mono ?_); (case side1 => repeat (first | (with_reducible first | exact HB.out | apply below_alloc | apply pw_below_drewN | apply below_drew1) | exact HB.out)); (case side2 => exact Kd.R_tight rfl HO192.out); (case side3 => exact Kd.C_kept_ownV (HO195.out) (fun k_ hk_ hs_ => (hk_.2) hs_)); (case side4 => exact (Kd.V_reads' HO195.out).2.1); rintro e w32 ⟨rfl, hy0, hb, hkp⟩; refine ⟨_, rfl, ?_⟩; refine zt4 (Kd.V_mono (ok' := fun k_ => (w.heap.size ≤ k_) ∧ some k_ ≠ (.slice Ao30 y190.length co30 : Value).ownBlock) (Kd.V_keptB (HO189.out) hkp (fun k_ hk_ hs_ => (hk_.2) hs_)) (fun k_ hk_ => ⟨hk_.1.1, hk_.1.2⟩)) (Kd.R_reok rfl hy0 (fun k_ e_ => HO192.out.1 k_ e_)) (Kd.V_mono (ok' := fun k_ => (w.heap.size ≤ k_) ∧ some k_ ≠ (.slice Ao30 y190.length co30 : Value).ownBlock) (Kd.V_keptB (HO195.out) hkp (fun k_ hk_ hs_ => (hk_.2) hs_)) (fun k_ hk_ => ⟨hk_.1.1, hk_.1.2⟩)) (hb) ?_; clear HO189 HO192 HO195 HB; intro HO189 HO192 HO195 HB; (try clear hb); (try clear hkp); (try clear hy0); obtain ⟨Ao33, co33, eo33⟩ := Kd.V_slice HO189.out; subst eo33) | ((with_reducible refine gate_dst (N := 59) rfl ?_); refine Kd.R_make (Kd.int .u32) _ 73 rfl (N := 59) rfl 22 _ _ rfl ji23 rfl rfl Tryz.underlying22 (.int .u32 0) 4 info73 rfl (by decide) (by omega) 0 (ok := fun _ => True) (okp := fun _ => True) rfl (fun _ hk => hk) trivial zq6 (Nat.le_trans (Nat.mul_le_mul_right _ (zq6 : ji23.toNat ≤ 70368744177664)) (by omega)) (Below.refl _ _) (Nat.le_refl _) ?_; intro v199 w34 ho35 hb hg_ hnew_; clear hg_ hnew_; (first | rw [← Ny198.out] at ho35 | (simp only [Int.reduceToNat] at ho35; rw [← Ny198.out] at ho35)); refine zt5 (Kd.V_elder' (zq3 HO189.out) (Kd.R_base ho35) hb) (Kd.R_elder' (zq4 HO192.out) (Kd.R_base ho35) hb) (Kd.V_elder' (zq3 HO195.out) (Kd.R_base ho35) hb) (Kd.R_lower (Kd.R_new' (Kd.R_newM (M := fun k_ => (w.heap.size ≤ k_)) ho35 (below_size zq1) (fun k_ h_ => h_)) (Kd.R_lt (zq4 HO192.out))) (below_size zq1)) (below_step zq1 hb) ?_; clear HO189 HO192 HO195 HB; intro HO189 HO192 HO195 HO200 HB; clear hb ho35; obtain ⟨Ao36, co36, eo36⟩ := Kd.R_slice HO200.out; subst eo36))
   go_loopg [12] k (fun kq v12 w' => ∃ (x4_1 : List Int) (x9_1 : List Int) (x10_1 : List Int) (x12_1 : Int), v12 = .int .i64 x12_1 ∧ Aside0 (nat_DivMod.l0 kq x4_1 t186 x9_1 x10_1 (t187.length : Int) x12_1 = some (r1, r2)) ∧ Aside0 (kq ≤ k) ∧ Aside0 (Kd.R (Kd.int .u32) 73 w' w.heap.size (fun k_ => (w.heap.size ≤ k_) ∧ some k_ ≠ ((.slice Ao30 y190.length co30) : Value).ownBlock) (.slice Ao36 y198.length co36) x4_1) ∧ Aside0 (Kd.V (Kd.int .u32) 73 w' w.heap.size (fun k_ => (w.heap.size ≤ k_) ∧ some k_ ≠ ((.slice Ao36 y198.length co36) : Value).ownBlock ∧ some k_ ≠ ((.slice Ao30 y190.length co30) : Value).ownBlock) (.slice Ao33 t187.length co33) x9_1) ∧ Aside0 (Kd.R (Kd.int .u32) 73 w' w.heap.size (fun k_ => (w.heap.size ≤ k_) ∧ some k_ ≠ ((.slice Ao36 y198.length co36) : Value).ownBlock) (.slice Ao30 y190.length co30) x10_1) ∧ Aside0 (Below w.heap.size w w'))
   case atStart => exact ⟨(y198), (t187), (t197), (wrap64 ((y198.length : Int) - 1)), zq8, H', ⟨Nat.le_refl _⟩, ⟨zwR (h := by exact Kd.R_mono HO200.out (fun _ hk => ⟨hk.1.1, hk.2⟩))⟩, ⟨zwV (h := by exact Kd.V_mono HO189.out (fun _ hk => ⟨hk.1.1, ⟨hk.2, hk.1.2⟩⟩))⟩, ⟨zwR (h := by exact Kd.R_mono HO192.out (fun _ hk => ⟨hk.1.1, hk.2⟩))⟩, ⟨zq1⟩⟩
   case round =>
    clear H'
    obtain ⟨x4_1, x9_1, x10_1, x12_1, rfl, HA, HK1, HO_4, HO_9, HO_10, HB⟩ := hrel
    have hl4_1 := (Kd.R_reads' HO_4.out).1
    rw [hl4_1] at HO_4
    (try simp only [hl4_1])
    (try simp only [hl4_1] at HO_9)
    (try simp only [hl4_1] at HO_10)
    have hl9_1 := (Kd.V_reads' HO_9.out).1
    rw [hl9_1] at HO_9
    (try simp only [hl9_1])
    (try simp only [hl9_1] at HO_4)
    (try simp only [hl9_1] at HO_10)
    have hl10_1 := (Kd.R_reads' HO_10.out).1
    rw [hl10_1] at HO_10
    (try simp only [hl10_1])
    (try simp only [hl10_1] at HO_4)
    (try simp only [hl10_1] at HO_9)
    cases gk with
    | zero => exact absurd HA.out (by simp [nat_DivMod.l0])
    | succ k1 =>
     have H := HA.out
     clear HA
     simp only [nat_DivMod.l0] at H
     by_cases c37 : x12_1 ≥ 0
     ·rw [if_pos c37] at H
      have c37b0 : decide (0 ≤ x12_1) = true := decide_eq_true c37
      clear c37
      replace H := zn H
      obtain ⟨c38, H⟩ := H
      have c38b0 := eq_true c38
      have c38b1 := decide_eq_true c38
      clear c38
      replace H := zn H
      obtain ⟨c39, H⟩ := H
      have c39b0 := eq_true c39
      have c39b1 := decide_eq_true c39
      replace H := zn H
      obtain ⟨c40, H⟩ := H
      have c40b0 := eq_true c40
      have c40b1 := decide_eq_true c40
      obtain ⟨y201, hy201⟩ : ∃ y_ : List Int, y_ = ((x10_1.take ((wrap64 ((wrap64 (x12_1 + (t187.length : Int))) + 1)) : Int).toNat).drop (x12_1 : Int).toNat) := ⟨_, rfl⟩
      replace H : ((nat_digit_at.f k1 x10_1 x12_1 (wrap64 ((wrap64 (x12_1 + (t187.length : Int))) + 1)) x9_1).bind fun bt205 => (if x12_1 < (x4_1.length : Int) then (nat_DivMod.l0 k1 (x4_1.set (x12_1 : Int).toNat bt205.1) t186 x9_1 bt205.2 (t187.length : Int) (wrap64 (x12_1 - 1))) else (none))) = some (r1, r2) := by first | (rw [hy201]; with_reducible exact H) | (have H2_ := (Option.bind_some _ _).symm.trans H; rw [hy201]; with_reducible exact H2_) | (have H2_ := (Option.bind_some _ _).symm.trans H; with_reducible exact H2_) | with_reducible exact H | (rw [hy201]; exact H) | exact H
      have Ny201 := am hy201
      clear hy201
      replace H := zj H
      obtain ⟨⟨t205, t206⟩, A41, H⟩ := H
      replace H : (if x12_1 < (x4_1.length : Int) then (nat_DivMod.l0 k1 (x4_1.set (x12_1 : Int).toNat t205) t186 x9_1 t206 (t187.length : Int) (wrap64 (x12_1 - 1))) else (none)) = some (r1, r2) := H
      replace H := zn H
      obtain ⟨c42, H⟩ := H
      have c42b0 := decide_eq_true c42
      clear c42
      obtain ⟨y207, hy207⟩ : ∃ y_ : List Int, y_ = (x4_1.set (x12_1 : Int).toNat t205) := ⟨_, rfl⟩
      replace H : (nat_DivMod.l0 k1 y207 t186 x9_1 t206 (t187.length : Int) (wrap64 (x12_1 - 1))) = some (r1, r2) := by first | (rw [hy207]; with_reducible exact H) | (have H2_ := (Option.bind_some _ _).symm.trans H; rw [hy207]; with_reducible exact H2_) | (have H2_ := (Option.bind_some _ _).symm.trans H; with_reducible exact H2_) | with_reducible exact H | (rw [hy207]; exact H) | exact H
      have Ny207 := am hy207
      clear hy207
      have H' := am H
      clear H
      have q44 : ((wrap64 ((wrap64 (x12_1 + (t187.length : Int))) + 1)) : Int) ≤ ((x10_1.length : Int) : Int) := zq6
      obtain ⟨i044, hi044, _, hsz44, _⟩ := info_parts info73
      have hroom44 : x10_1.length ≤ co30 := (Kd.R_reads' HO_10.out).2.1
      have hC44 : Kd.C (Kd.int .u32) _ Ao30 x10_1.length x10_1 := (Kd.R_reads' HO_10.out).2.2
      have ql44 : (x12_1 : Int) ≤ ((wrap64 ((wrap64 (x12_1 + (t187.length : Int))) + 1)) : Int) := zq6
      have q044 : (0 : Int) ≤ (x12_1 : Int) := zq6
      have hcut44 := cut_mid (P := Tryz.prog) 22 73 .i64 .i64 Tryz.underlying22 hi044 1 hsz44 Ao30 x10_1.length co30 x12_1 (wrap64 ((wrap64 (x12_1 + (t187.length : Int))) + 1)) q044 ql44 q44 hroom44
      have hr44 := Kd.C_mid (lo := (x12_1 : Int).toNat) (hi := ((wrap64 ((wrap64 (x12_1 + (t187.length : Int))) + 1)) : Int).toNat) (c := co30) hC44 (by omega) (by omega) hroom44
      obtain ⟨A44, hA44⟩ : ∃ A1, A1 = (if co30 = (x12_1 : Int).toNat then Ao30 else (Ao30 : Option Addr).map (·.add ((x12_1 : Int).toNat * 1))) := ⟨_, rfl⟩
      obtain ⟨c44, hc44⟩ : ∃ c1, c1 = co30 - (x12_1 : Int).toNat := ⟨_, rfl⟩
      have hy44 : y201.length = ((wrap64 ((wrap64 (x12_1 + (t187.length : Int))) + 1)) : Int).toNat - (x12_1 : Int).toNat := (by rw [Ny201.out, List.length_drop, List.length_take] <;> omega)
      rw [show ((x10_1).take ((wrap64 ((wrap64 (x12_1 + (t187.length : Int))) + 1)) : Int).toNat).drop (x12_1 : Int).toNat = y201 from Ny201.out.symm] at hr44
      replace hr44 : Kd.C (Kd.int .u32) _ A44 y201.length y201 := (by rw [hA44]; exact hr44)
      rw [← hy44, ← hA44, ← hc44] at hcut44
      (try simp only [hl9_1] at hcut44)
      have HR204 := am hr44
      have HC204 := am (show y201.length ≤ c44 from by rw [hy44, hc44]; exact Nat.sub_le_sub_right (Nat.le_trans (by omega) hroom44) _)
      clear hr44 hC44 hroom44 hi044 hsz44 hc44
      have KY44 := am hy44
      have KA44 := am hA44
      clear hy44 hA44
      have KL44 := am (show ((wrap64 ((wrap64 (x12_1 + (t187.length : Int))) + 1)) : Int).toNat ≤ x10_1.length from by omega)
      have KM44 := am (show (x12_1 : Int).toNat ≤ ((wrap64 ((wrap64 (x12_1 + (t187.length : Int))) + 1)) : Int).toNat from by omega)
      replace q44 := eq_true q44
      go_wp2_with (first | ((with_reducible refine gate_callee (f := 96) rfl ?_); refine goesL_ (some 77) rfl rfl Tryz.func96 (by kernel_rfl) rfl #[.slice A44 y201.length c44, .slice Ao33 x9_1.length co33] rfl zq5 ?_; (with_reducible refine (nat_digit_at.calls k1 (fun k_ => some k_ = (.slice Ao30 x10_1.length co30 : Value).ownBlock) (.slice Ao30 x10_1.length co30) x10_1 x12_1 (wrap64 ((wrap64 (x12_1 + (t187.length : Int))) + 1)) _ _ x9_1 t205 t206 w _ ?side1 ?side2 ?side3 ?side4 A41.out _ _ _ rfl _ _ KA44.out _ Ny201.out).mono ?_); (case side1 => repeat (first | (with_reducible first | exact HB.out | apply below_alloc | apply pw_below_drewN | apply below_drew1) | exact HB.out)); (case side2 => exact Kd.R_tight rfl HO_10.out); (case side3 => exact Kd.C_kept_ownV (HO_9.out) (fun k_ hk_ hs_ => (hk_.2.2) hs_)); (case side4 => exact (Kd.V_reads' HO_9.out).2.1); rintro e w45 ⟨rfl, hy0, hb, hkp⟩; refine ⟨_, rfl, ?_⟩; refine zt4 (Kd.R_mono (ok' := fun k_ => (w.heap.size ≤ k_) ∧ some k_ ≠ (.slice Ao30 x10_1.length co30 : Value).ownBlock) (Kd.R_keptB (HO_4.out) hkp (fun k_ hk_ hs_ => (hk_.2) hs_)) (fun k_ hk_ => ⟨hk_.1.1, hk_.1.2⟩)) (Kd.V_mono (ok' := fun k_ => (w.heap.size ≤ k_) ∧ some k_ ≠ (.slice Ao36 x4_1.length co36 : Value).ownBlock ∧ some k_ ≠ (.slice Ao30 x10_1.length co30 : Value).ownBlock) (Kd.V_keptB (HO_9.out) hkp (fun k_ hk_ hs_ => (hk_.2.2) hs_)) (fun k_ hk_ => ⟨hk_.1.1, hk_.1.2.1, hk_.1.2.2⟩)) (Kd.R_reok rfl hy0 (fun k_ e_ => HO_10.out.1 k_ e_)) (hb) ?_; clear HO_4 HO_9 HO_10 HB; intro HO_4 HO_9 HO_10 HB; (try clear hb); (try clear hkp); (try clear hy0); have p43 : 0 ≤ (x12_1 : Int) := zq6; have q43 : (x12_1 : Int) < ((x4_1.length : Int) : Int) := zq6; obtain ⟨go43, co43, eo43, gb43, gl43, cl43, HG43⟩ := Kd.R_form HO_4.out (by omega); (first | cases eo43 | (injection eo43 with ea_ en_ ec_; (first | subst ea_ | (injection ea_ with ea_; subst ea_)); subst ec_; clear en_)); have GB43 := am gb43; have GG43 := am HG43; clear gb43 gl43 HG43; obtain ⟨hx43_0, hf43_0⟩ := Kd.R_celln 0 HO_4.out (x12_1 : Int) p43 q43; replace p43 := eq_true p43; replace q43 := eq_true q43; obtain ⟨hy46_, hz46_⟩ := Kd.R_celln 0 HO_4.out (x12_1 : Int) zq6 zq6; have HP46 := Kd.R_putg HO_4.out (x12_1 : Int) t205) | ((with_reducible refine gate_store (t := 73) (p := 78) rfl ?_); refine zstore (t := 73) (p := 78) (w1 := (w45.setCell ⟨go43, (x12_1 : Int).toNat, none⟩ (.int .u32 t205))) ?_; intro w47 hw; have hg : w45.grownBy w47 (some go43) := (by rw [hw]; exact HP46.2); have hp_ : Kd.R (Kd.int .u32) 73 w47 w.heap.size (fun k_ => (w.heap.size ≤ k_) ∧ some k_ ≠ (.slice Ao30 x10_1.length co30 : Value).ownBlock) (.slice (some ⟨go43, 0, none⟩) x4_1.length co36) y207 := (by rw [hw, Ny207.out]; exact HP46.1); clear HP46; refine zt4 (hp_) (Kd.V_afterv (v := (.slice (some ⟨go43, 0, none⟩) x4_1.length co36)) (v1 := (.slice (some ⟨go43, 0, none⟩) x4_1.length co36)) (ok := (fun k_ => (w.heap.size ≤ k_) ∧ some k_ ≠ (.slice Ao30 x10_1.length co30 : Value).ownBlock)) (zwV (h := by exact Kd.V_mono HO_9.out (fun _ hk => ⟨⟨hk.1, hk.2.2⟩, hk.2.1⟩))) hg (.inl rfl)) (Kd.R_after (v := (.slice (some ⟨go43, 0, none⟩) x4_1.length co36)) (v1 := (.slice (some ⟨go43, 0, none⟩) x4_1.length co36)) (ok := (fun k_ => (w.heap.size ≤ k_))) (zq4 HO_10.out) hg (.inl rfl)) ((by rw [hw]; exact below_set (HB.out) GB43.out : Below w.heap.size w w47)) ?_; clear HO_4 HO_9 HO_10 HB; intro HO_4 HO_9 HO_10 HB; clear hg hw hp_))
      (try simp only [← hl4_1, ← hl9_1, ← hl10_1])
      go_roundg k1
      case measure => have := HK1.out; omega
      case rel => exact ⟨(y207), (x9_1), (t206), (wrap64 (x12_1 - 1)), zq8, (by first | exact H' | (rw [hji13]; exact H') | (rw [hji18]; exact H') | (rw [hji23]; exact H')), ⟨by have := HK1.out; omega⟩, ⟨by (try simp only [hl4_1]); (try simp only [hl9_1]); (try simp only [hl10_1]); (with_reducible repeat (first | apply Kd.R_alloc | apply Kd.R_drewN | apply Kd.R_drew)); exact HO_4.out⟩, ⟨by (try simp only [hl4_1]); (try simp only [hl9_1]); (try simp only [hl10_1]); (with_reducible repeat (first | apply Kd.V_alloc | apply Kd.V_drewN | apply Kd.V_drew)); exact Kd.V_mono HO_9.out (fun _ hk => ⟨hk.1.1, ⟨hk.2, hk.1.2⟩⟩)⟩, ⟨by (try simp only [hl4_1]); (try simp only [hl9_1]); (try simp only [hl10_1]); (with_reducible repeat (first | apply Kd.R_alloc | apply Kd.R_drewN | apply Kd.R_drew)); exact HO_10.out⟩, ⟨zq1⟩⟩
     ·rw [if_neg c37] at H
      have c37b0 : decide (0 ≤ x12_1) = false := decide_eq_false c37
      clear c37
      replace H := zj H
      obtain ⟨t208, A48, H⟩ := H
      replace H : ((nat_Shr.f k1 t208 t186).bind fun bt211 => ((nat_Trim.f k1 x4_1).bind fun t215 => (some (t215, bt211.1)))) = some (r1, r2) := H
      replace H := zj H
      obtain ⟨⟨t211, t214⟩, A49, H⟩ := H
      replace H : ((nat_Trim.f k1 x4_1).bind fun t215 => (some (t215, t211))) = some (r1, r2) := H
      replace H := zj H
      obtain ⟨t215, A50, H⟩ := H
      replace H : (some (t215, t211)) = some (r1, r2) := H
      simp only [Option.some.injEq, Prod.mk.injEq] at H
      obtain ⟨rfl, rfl⟩ := H
      go_wp2_with (first | ((with_reducible refine gate_callee (f := 62) rfl ?_); refine goesL_ (some 81) rfl rfl Tryz.func62 (by kernel_rfl) rfl #[.slice Ao30 x10_1.length co30] rfl zq5 ?_; (with_reducible refine (nat_Trim.calls k1 (fun k_ => some k_ = (.slice Ao30 x10_1.length co30 : Value).ownBlock) _ _ x10_1 t208 _ ?side1 A48.out).mono ?_); (case side1 => exact Kd.R_V (Kd.R_tight rfl (HO_10.out))); rintro e w51 ⟨v209, rfl, ho0, hb⟩; refine ⟨_, rfl, ?_⟩; refine zt5 (rb HO_4 hb) (vb HO_9 hb) (rb HO_10 hb) (Kd.V_lower (Kd.V_mono (ok' := fun k_ => (w.heap.size ≤ k_) ∧ some k_ ≠ (.slice Ao36 x4_1.length co36 : Value).ownBlock) ho0 (fun k_ hk_ => ⟨Or.elim hk_ (fun hs_ => ((HO_10.out).1 k_ hs_.symm).1) (fun hn_ => (Nat.le_trans (below_size zq1) hn_)), Or.elim hk_ (fun hs_ => ((HO_10.out).1 k_ hs_.symm).2) (fun hn_ => (Kd.fresh' (Kd.R_lt (zq4 HO_4.out)) k_ hn_))⟩)) (below_size zq1)) (below_step zq1 hb) ?_; clear HO_4 HO_9 HO_10 HB; intro HO_4 HO_9 HO_10 HO210 HB; obtain ⟨Ao52, co52, eo52⟩ := Kd.V_slice HO210.out; subst eo52) | ((with_reducible refine gate_callee (f := 56) rfl ?_); refine goesL_ (some 83) rfl rfl Tryz.func56 (by kernel_rfl) rfl #[.slice Ao52 t208.length co52, .int .i64 t186] rfl zq5 ?_; (with_reducible refine (nat_Shr.calls k1 _ _ t208 t186 t211 t214 _ ?side1 ?side2 A49.out).mono ?_); (case side1 => exact zc ((Kd.V_reads' HO210.out).2.2)); (case side2 => exact (Kd.V_reads' HO210.out).2.1); rintro e w53 ⟨v212, rfl, ho0, hb⟩; refine ⟨_, rfl, ?_⟩; refine zt6 (rb HO_4 hb) (vb HO_9 hb) (rb HO_10 hb) (vb HO210 hb) (Kd.V_lower (Kd.V_mono (ok' := fun k_ => (w.heap.size ≤ k_) ∧ some k_ ≠ (.slice Ao36 x4_1.length co36 : Value).ownBlock ∧ some k_ ≠ (.slice Ao30 x10_1.length co30 : Value).ownBlock) ho0 (fun k_ hk_ => ⟨(Nat.le_trans (below_size zq1) hk_), (Kd.fresh' (Kd.R_lt (zq4 HO_4.out)) k_ hk_), (Kd.fresh' (Kd.R_lt (zq4 HO_10.out)) k_ hk_)⟩)) (below_size zq1)) (below_step zq1 hb) ?_; clear HO_4 HO_9 HO_10 HO210 HB; intro HO_4 HO_9 HO_10 HO210 HO213 HB) | ((with_reducible refine gate_callee (f := 62) rfl ?_); refine goesL_ (some 87) rfl rfl Tryz.func62 (by kernel_rfl) rfl #[.slice Ao36 x4_1.length co36] rfl zq5 ?_; (with_reducible refine (nat_Trim.calls k1 (fun k_ => some k_ = (.slice Ao36 x4_1.length co36 : Value).ownBlock) _ _ x4_1 t215 _ ?side1 A50.out).mono ?_); (case side1 => exact Kd.R_V (Kd.R_tight rfl (HO_4.out))); rintro e w54 ⟨v216, rfl, ho0, hb⟩; refine ⟨_, rfl, ?_⟩; refine zt7 (rb HO_4 hb) (vb HO_9 hb) (rb HO_10 hb) (vb HO210 hb) (vb HO213 hb) (Kd.V_lower (Kd.V_mono (ok' := fun k_ => (w.heap.size ≤ k_) ∧ some k_ ≠ (.slice Ao30 x10_1.length co30 : Value).ownBlock) ho0 (fun k_ hk_ => ⟨Or.elim hk_ (fun hs_ => ((HO_4.out).1 k_ hs_.symm).1) (fun hn_ => (Nat.le_trans (below_size zq1) hn_)), Or.elim hk_ (fun hs_ => ((HO_4.out).1 k_ hs_.symm).2) (fun hn_ => (Kd.fresh' (Kd.R_lt (zq4 HO_10.out)) k_ hn_))⟩)) (below_size zq1)) (below_step zq1 hb) ?_; clear HO_4 HO_9 HO_10 HO210 HO213 HB; intro HO_4 HO_9 HO_10 HO210 HO213 HO217 HB))
      go_ret2
      exact ⟨_, _, by first | rfl | (simp [errW_none, errW_some] <;> rfl) | (simp only [← hji13, ← hji18, ← hji23]; first | rfl | (simp [errW_none, errW_some] <;> rfl)) | (simp [*, errW_none, errW_some] <;> rfl), zwV (h := by exact Kd.V_mono HO217.out (fun _ hk => hk.1)), zwV (h := by exact Kd.V_mono HO213.out (fun _ hk => hk.1)), zq1⟩
def nat_Gcd.l0 : Nat → List Int → List Int → Option (List Int)
 | 0, _, _ => none
 | k + 1, x0, x1 => if (x1.length : Int) > 0 then ((nat_DivMod.f k x0 x1).bind fun bt218 => (nat_Gcd.l0 k x1 bt218.2)) else ((slices_Clone_uint32_uint32.f x0).bind fun t224 => (some t224))
def nat_Gcd.f (k : Nat) (l0 : List Int) (l1 : List Int) : Option (List Int) := nat_Gcd.l0 k l0 l1
set_option maxHeartbeats 8000000 in
set_option maxRecDepth 100000 in
theorem nat_Gcd.calls (k : Nat) (P0_ : Nat → Prop) (A0 : Option Addr) (c0 : Nat) (l0 : List Int) (P1_ : Nat → Prop) (A1 : Option Addr) (c1 : Nat) (l1 : List Int) (r : List Int) (w : World) (hs0 : Kd.V (Kd.int .u32) 73 w w.heap.size (fun k_ => P0_ k_) (.slice A0 l0.length c0) l0) (hs1 : Kd.V (Kd.int .u32) 73 w w.heap.size (fun k_ => P1_ k_) (.slice A1 l1.length c1) l1) (h : nat_Gcd.f k l0 l1 = some r) :
  Calls Tryz.prog 51 #[.slice A0 l0.length c0, .slice A1 l1.length c1] w fun e w' => ∃ v0_ : Value, e = .returned (v0_) ∧ Kd.R (Kd.int .u32) 73 w' w.heap.size (fun k_ => (w.heap.size ≤ k_)) v0_ r ∧ Below w.heap.size w w' := by
 have HO0 := am (show Kd.V (Kd.int .u32) 73 w w.heap.size (fun k_ => ((P0_ k_ ∨ P1_ k_) ∨ w.heap.size ≤ k_)) (.slice A0 l0.length c0) l0 from Kd.V_mono hs0 (fun k_ hk => .inl (.inl hk)))
 have HO1 := am (show Kd.V (Kd.int .u32) 73 w w.heap.size (fun k_ => ((P0_ k_ ∨ P1_ k_) ∨ w.heap.size ≤ k_)) (.slice A1 l1.length c1) l1 from Kd.V_mono hs1 (fun k_ hk => .inl (.inr hk)))
 have HB := am (Below.refl w.heap.size w)
 have H := h
 unfold nat_Gcd.f at H
 clear h
 have H' := am H
 clear H
 go_enter Tryz.func51, Tryz.ntmps51
 go_wp2
 go_loopg [0, 1] k (fun kq v0 v1 w' => ∃ (x0_1 : List Int) (x1_1 : List Int), Aside0 (nat_Gcd.l0 kq x0_1 x1_1 = some r) ∧ Aside0 (kq ≤ k) ∧ Aside0 (Kd.V (Kd.int .u32) 73 w' w.heap.size (fun k_ => ((P0_ k_ ∨ P1_ k_) ∨ w.heap.size ≤ k_)) v0 x0_1) ∧ Aside0 (Kd.V (Kd.int .u32) 73 w' w.heap.size (fun k_ => ((P0_ k_ ∨ P1_ k_) ∨ w.heap.size ≤ k_)) v1 x1_1) ∧ Aside0 (Below w.heap.size w w'))
 case atStart => exact ⟨(l0), (l1), H', ⟨Nat.le_refl _⟩, ⟨zq3 HO0.out⟩, ⟨zq3 HO1.out⟩, ⟨zq1⟩⟩
 case round =>
  clear H'
  obtain ⟨x0_1, x1_1, HA, HK1, HO_0, HO_1, HB⟩ := hrel
  cases gk with
  | zero => exact absurd HA.out (by simp [nat_Gcd.l0])
  | succ k1 =>
   have H := HA.out
   clear HA
   simp only [nat_Gcd.l0] at H
   by_cases c3 : (x1_1.length : Int) > 0
   ·rw [if_pos c3] at H
    have c3b0 : decide (0 < (x1_1.length : Int)) = true := decide_eq_true c3
    have c3b1 : decide (0 < x1_1.length) = true := decide_eq_true (by omega)
    clear c3
    replace H := zj H
    obtain ⟨⟨t218, t221⟩, A4, H⟩ := H
    try dsimp only at H
    have H' := am H
    clear H
    obtain ⟨Ao5, co5, eo5⟩ := Kd.V_slice HO_1.out
    subst eo5
    obtain ⟨Ao6, co6, eo6⟩ := Kd.V_slice HO_0.out
    subst eo6
    go_wp2_with (first | ((with_reducible refine gate_callee (f := 66) rfl ?_); refine goesL_ (some 13) rfl rfl Tryz.func66 (by kernel_rfl) rfl #[.slice Ao6 x0_1.length co6, .slice Ao5 x1_1.length co5] rfl zq5 ?_; (with_reducible refine (nat_DivMod.calls k1 _ _ x0_1 _ _ x1_1 t218 t221 _ ?side1 ?side2 ?side3 ?side4 A4.out).mono ?_); (case side1 => exact zc ((Kd.V_reads' HO_0.out).2.2)); (case side2 => exact (Kd.V_reads' HO_0.out).2.1); (case side3 => exact zc ((Kd.V_reads' HO_1.out).2.2)); (case side4 => exact (Kd.V_reads' HO_1.out).2.1); rintro e w7 ⟨v219, v222, rfl, ho0, ho1, hb⟩; refine ⟨_, rfl, ?_⟩; refine zt5 (vb HO_0 hb) (vb HO_1 hb) (Kd.V_lower (Kd.V_mono (ok' := fun k_ => ((P0_ k_ ∨ P1_ k_) ∨ w.heap.size ≤ k_)) ho0 (fun k_ hk_ => (.inr (Nat.le_trans (below_size zq1) hk_)))) (below_size zq1)) (Kd.V_lower (Kd.V_mono (ok' := fun k_ => ((P0_ k_ ∨ P1_ k_) ∨ w.heap.size ≤ k_)) ho1 (fun k_ hk_ => (.inr (Nat.le_trans (below_size zq1) hk_)))) (below_size zq1)) (below_step zq1 hb) ?_; clear HO_0 HO_1 HB; intro HO_0 HO_1 HO220 HO223 HB; (try clear ho1)))
    go_roundg k1
    case measure => have := HK1.out; omega
    case rel => exact ⟨(x1_1), (t221), H', ⟨by have := HK1.out; omega⟩, ⟨zq3 HO_1.out⟩, ⟨zq3 HO223.out⟩, ⟨zq1⟩⟩
   ·rw [if_neg c3] at H
    have c3b0 : decide (0 < (x1_1.length : Int)) = false := decide_eq_false c3
    have c3b1 : decide (0 < x1_1.length) = false := decide_eq_false (by omega)
    clear c3
    replace H := zj H
    obtain ⟨t224, A8, H⟩ := H
    obtain rfl := Option.some.inj H
    obtain ⟨Ao9, co9, eo9⟩ := Kd.V_slice HO_1.out
    subst eo9
    obtain ⟨Ao10, co10, eo10⟩ := Kd.V_slice HO_0.out
    subst eo10
    go_wp2_with (first | ((with_reducible refine gate_callee (f := 88) rfl ?_); refine goesL_ (some 19) rfl rfl Tryz.func88 (by kernel_rfl) rfl #[.slice Ao10 x0_1.length co10] rfl zq5 ?_; (with_reducible refine (slices_Clone_uint32_uint32.calls _ _ x0_1 t224 _ ?side1 ?side2 A8.out).mono ?_); (case side1 => exact zc ((Kd.V_reads' HO_0.out).2.2)); (case side2 => exact (Kd.V_reads' HO_0.out).2.1); rintro e w11 ⟨v225, rfl, ho0, hb⟩; refine ⟨_, rfl, ?_⟩; refine zt4 (Kd.V_elder' (zq3 HO_0.out) (Kd.R_base ho0) hb) (Kd.V_elder' (zq3 HO_1.out) (Kd.R_base ho0) hb) (Kd.R_lower (Kd.R_newM (M := fun k_ => (w.heap.size ≤ k_)) ho0 (below_size zq1) (fun k_ h_ => h_)) (below_size zq1)) (below_step zq1 hb) ?_; clear HO_0 HO_1 HB; intro HO_0 HO_1 HO226 HB))
    go_ret
    exact ⟨_, zq9, zwR (h := by exact Kd.R_mono HO226.out (fun _ hk => hk.1)), zq1⟩
end Go.Proofs.YtemnjgkicndmjaaGreatDoor.Q
