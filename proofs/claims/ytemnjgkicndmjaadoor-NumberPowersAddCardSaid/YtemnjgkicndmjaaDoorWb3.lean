/- What this text proves: a part of the walk and of the plain laws of one card; no conditions. -/
import Derived.Test.YtemnjgkicndmjaaDoorWb2
namespace Go.Proofs.YtemnjgkicndmjaaDoor.E
open Go.RowKit Go.Proofs.YtemnjgkicndmjaaDoorW.PrintWords
set_option linter.unusedVariables false
set_option linter.unusedSimpArgs false
def upd (f : Nat → AV) (t : Nat) (v : AV) : Nat → AV := fun x => bif Nat.beq x t then v else f x
theorem upd_eq (f : Nat → AV) (t : Nat) (v : AV) (x : Nat) : upd f t v x = if x = t then v else f x := by
  unfold upd
  by_cases h : x = t
  · subst h; simp
  · have : Nat.beq x t = false := by
      cases hb : Nat.beq x t
      · rfl
      · exact absurd (Nat.eq_of_beq_eq_true hb) h
    simp [this, h]
def absAtom : Value → AV
  | .bool b => .bool b
  | .int k n => .int k n
  | .string s => .str s
  | .slice none 0 0 => .nil
  | .func (.func f) ⟨[]⟩ ⟨[]⟩ => .fn f
  | _ => .any
def absV : Value → AV
  | .agg cs => .agg (cs.toList.map absAtom)
  | .tuple cs => .tup (cs.toList.map absAtom)
  | v => absAtom v
def ev (σ : Nat → AV) : Operand → AV
  | .tmp t => σ (2 * t)
  | .const v => absV v
  | .func f => .fn f
  | .global _ => .any
def cellsOf (x : AV) : Option (List AV) :=
  match x with
  | .agg l => if l.all atom then some l else none
  | x => if atom x then some [x] else none
def isAgg' (P : Program) (t : TypeId) : Bool :=
  match P.underlying t with
  | some (.struct _) | some (.array _ _) => true
  | _ => false
def sz (P : Program) (t : TypeId) : Option Nat := (P.info? t).map (·.size)
def loadA (P : Program) (t : TypeId) (cs : List AV) : Option AV :=
  if (P.underlying t).isNone then none else
  if isAgg' P t then
    match sz P t with
    | some n => if n ≤ cs.length then some (.agg (cs.take n)) else none
    | none => none
  else cs.head?
structure Eff where
  dst : AV
  rd : List Nat
  wr : Option (Nat × AV)
def val (x : AV) : Eff := ⟨x, [], none⟩
def bitsA (op : BinOp) (k : IntKind) (x y : Int) : Option AV :=
  let a := BitVec.ofInt k.bits x
  let b := BitVec.ofInt k.bits y
  match op with
  | .and => some (.int k (k.wrap (a &&& b).toNat))
  | .or => some (.int k (k.wrap (a ||| b).toNat))
  | .xor => some (.int k (k.wrap (a ^^^ b).toNat))
  | .andNot => some (.int k (k.wrap (a &&& ~~~b).toNat))
  | _ => none
def binI {R : Type} (op : BinOp) (k : IntKind) (a b : Int) (K : AV → Option R) : Option R :=
  match op with
  | .add => K (.int k (k.wrap (a + b)))
  | .sub => K (.int k (k.wrap (a - b)))
  | .mul => K (.int k (k.wrap (a * b)))
  | .quo => if b = 0 then none else K (.int k (k.wrap (a.tdiv b)))
  | .rem => if b = 0 then none else K (.int k (a.tmod b))
  | .eql => K (.bool (a == b))
  | .neq => K (.bool (a != b))
  | .lss => K (.bool (decide (a < b)))
  | .leq => K (.bool (decide (a ≤ b)))
  | .gtr => K (.bool (decide (a > b)))
  | .geq => K (.bool (decide (a ≥ b)))
  | op => match bitsA op k a b with | some v => K v | none => none
def binA {R : Type} (P : Program) (op : BinOp) (t : TypeId) (x y : AV) (K : AV → Option R) : Option R :=
  match x, y with
  | .int k a, .int k' b =>
    match op with
    | .shl => if b < 0 then none else K (.int k (k.wrap (a * 2 ^ min b.toNat k.bits)))
    | .shr => if b < 0 then none else K (.int k (a.fdiv (2 ^ min b.toNat k.bits)))
    | op => if k = k' then binI op k a b K else none
  | .bool a, .bool b =>
    match op, P.underlying t with
    | .eql, some .bool => K (.bool (a == b))
    | .neq, some .bool => K (.bool (!(a == b)))
    | _, _ => none
  | .str a, .str b =>
    match op with
    | .eql => K (.bool (a.toList == b.toList))
    | .neq => K (.bool (!(a.toList == b.toList)))
    | .add => if a.size + b.size ≤ 9223372036854775807 then K (.str (a ++ b)) else none
    | _ => none
  | _, _ => none
def unA (op : UnOp) (x : AV) : Option AV :=
  match op, x with
  | .not, .bool b => some (.bool !b)
  | .neg, .int k n => some (.int k (k.wrap (0 - n)))
  | _, _ => none
def lenA (x : AV) : Option AV :=
  match x with
  | .str s => some (.int .i64 (s.size : Nat))
  | .nil => some (.int .i64 0)
  | .row _ l => some (.int .i64 (l.length : Nat))
  | .arr s l => if s = 0 then none else some (.int .i64 ((l.length / s : Nat)))
  | _ => none
def fieldsOf (P : Program) (t : TypeId) : Option (Array Field) :=
  match P.underlying t with
  | some (.struct fs) => some fs
  | _ => none
def fieldAt' (P : Program) (t : TypeId) (f : Nat) : Option (Nat × Nat) :=
  match fieldsOf P t with
  | some fs => match fs[f]? with
    | some fd => match sz P fd.type with
      | some n => if n = 0 then none else some (fd.offset, n)
      | none => none
    | none => none
  | none => none
def setL (cs : List AV) (off : Nat) (vs : List AV) : List AV := cs.take off ++ vs ++ cs.drop (off + vs.length)
def placesOf (P : Program) (t : TypeId) : Option (List (Nat × Nat)) :=
  match fieldsOf P t with
  | some fs => fs.toList.mapM fun f => (P.info? f.type).map fun i => (f.offset, i.size)
  | none => none
def fillA (place : Nat → Option (Nat × Nat)) (σ : Nat → AV) : List (Nat × Operand) → List AV → Option (List AV)
  | [], cs => some cs
  | (i, x) :: rest, cs =>
    match place i, cellsOf (ev σ x) with
    | some (off, n), some vs => if vs.length = n ∧ off + n ≤ cs.length then fillA place σ rest (setL cs off vs) else none
    | _, _ => none
def zeroCells' (P : Program) (t : TypeId) : Option (List AV) := ((P.info? t).bind (·.zero)).bind fun v => cellsOf (absV v)
def asInts (k : IntKind) : List AV → Option (List Int)
  | [] => some []
  | .int k' n :: l => if k = k' then match asInts k l with | some is => some (n :: is) | none => none else none
  | _ => none
def partsOf (n : Nat) (σ : Nat → AV) : Nat → List (Nat × Operand) → Option (List AV)
  | _, [] => some []
  | i, (j, x) :: rest =>
    match cellsOf (ev σ x), partsOf n σ (i + 1) rest with
    | some c, some l => if c.length = n ∧ i = j ∧ noPtrs c then some (c ++ l) else none
    | _, _ => none
abbrev Fun := (R : Type) → List AV → (AV → Option R) → Option R
abbrev Tab := Nat → Option Fun
def indexA {R : Type} (x i : AV) (K : AV → Option R) : Option R :=
  match x, i with
  | .row k l, .int _ n => if 0 ≤ n ∧ n < l.length then K (.at_ [.int k (l.getD n.toNat 0)]) else none
  | .arr s l, .int _ n => if 0 < s ∧ 0 ≤ n ∧ (n + 1) * s ≤ l.length then K (.at_ ((l.drop (n.toNat * s)).take s)) else none
  | _, _ => none
def doOp {R : Type} (P : Program) (T : Tab) (new : Nat) (σ : Nat → AV) (o : Oper) (K : Eff → Option R) : Option R :=
  match o.op with
  | .move x | .assign x => K (val (ev σ x))
  | .pick c a b => match ev σ c with | .bool t => if t = true then K (val (ev σ a)) else K (val (ev σ b)) | _ => none
  | .alloc t => match zeroCells' P t with | some cs => K ⟨.ptr new 0, [], some (new, .agg cs)⟩ | none => none
  | .box t x => match cellsOf (ev σ x) with | some cs => K ⟨.ptr new 0, [], some (new, .agg cs)⟩ | none => none
  | .build t parts => match zeroCells' P t, placesOf P t with
    | some z, some pl => match fillA (pl.toArray[·]?) σ parts.toList z with | some cs => K (val (.agg cs)) | none => none
    | _, _ => none
  | .buildSlice t len parts =>
    match P.underlying t with
    | some (.slice e) =>
      match sz P e with
      | some n =>
        if parts.size = len ∧ 0 < n ∧ len * n < 100000 ∧ (zeroCells' P e).isSome then
          match partsOf n σ 0 parts.toList with
          | some l => match P.underlying e with
            | some (.int k) => match asInts k l with | some is => if n = 1 then K (val (.row k is)) else none | none => none
            | _ => K (val (.arr n l))
          | none => none
        else none
      | none => none
    | _ => none
  | .load t x =>
    match ev σ x with
    | .ptr h off => match σ (2 * h + 1) with
      | .agg cs => match loadA P t (cs.drop off) with | some v => K ⟨v, [h], none⟩ | none => none
      | _ => none
    | .at_ cs => match loadA P t cs with | some v => K (val v) | none => none
    | _ => none
  | .store t x y =>
    match ev σ x with
    | .ptr h off => match σ (2 * h + 1), cellsOf (ev σ y) with
      | .agg cs, some vs => if sz P t = some vs.length ∧ off + vs.length ≤ cs.length then K ⟨.any, [h], some (h, .agg (setL cs off vs))⟩ else none
      | _, _ => none
    | _ => none
  | .binOp op t x y _ => binA P op t (ev σ x) (ev σ y) fun v => K (val v)
  | .unOp op _ x => match unA op (ev σ x) with | some v => K (val v) | none => none
  | .convert s d x => match P.underlying s, P.underlying d, ev σ x with
    | some (.int _), some (.int k), .int _ n => K (val (.int k (k.wrap n)))
    | _, _, _ => none
  | .fieldAddr s x f => match fieldAt' P s f with
    | some (off, n) => match ev σ x with
      | .ptr h o => K (val (.ptr h (o + off)))
      | .at_ cs => K (val (.at_ (cs.drop off)))
      | _ => none
    | none => none
  | .field s x f => match fieldsOf P s, ev σ x with
    | some fs, .agg cs => match fs[f]? with
      | some fd => match loadA P fd.type (cs.drop fd.offset) with | some v => K (val v) | none => none
      | none => none
    | _, _ => none
  | .indexAddr t x i => match P.underlying t with
    | some (.slice e) => match sz P e, ev σ x with
      | some 1, .row k l => indexA (.row k l) (ev σ i) fun v => K (val v)
      | some n, .arr s l => if n = s then indexA (.arr s l) (ev σ i) fun v => K (val v) else none
      | _, _ => none
    | _ => none
  | .index t x i => match P.underlying t, ev σ x, ev σ i with
    | some .string, .str s, .int _ n => if 0 ≤ n ∧ n < s.size then K (val (.int .u8 ((s.data.getD n.toNat 0).toNat))) else none
    | _, _, _ => none
  | .extract x i => match ev σ x with
    | .tup l => match l[i]? with | some v => K (val v) | none => none
    | _ => none
  | .call c =>
    match c.callee with
    | .builtin .len => match c.args.toList, c.argTypes[0]? with
      | [x], some t => match P.underlying t, lenA (ev σ x) with
        | some (.slice _), some v => (match ev σ x with | .str _ => none | _ => K (val v))
        | some .string, some v => (match ev σ x with | .str _ => K (val v) | _ => none)
        | _, _ => none
      | _, _ => none
    | .builtin .min => match c.args.toList with
      | [x, y] => match ev σ x, ev σ y with
        | .int k a, .int _ b => K (val (.int k (if b < a then b else a)))
        | _, _ => none
      | _ => none
    | .builtin .max => match c.args.toList with
      | [x, y] => match ev σ x, ev σ y with
        | .int k a, .int _ b => K (val (.int k (if b > a then b else a)))
        | _, _ => none
      | _ => none
    | .value f => match ev σ f with
      | .fn g => match T g with
        | some F => if noPtrs (c.args.toList.map (ev σ)) then F R (c.args.toList.map (ev σ)) fun r => K (val r) else none
        | none => none
      | _ => none
    | _ => none
  | _ => none
def putT (σ : Nat → AV) (dst : Option Tmp) (x : AV) : Nat → AV :=
  match dst with
  | some d => upd σ (2 * d) x
  | none => σ
def put (σ : Nat → AV) (dst : Option Tmp) (e : Eff) : Nat → AV :=
  match e.wr with
  | some (h, v) => upd (putT σ dst e.dst) (2 * h + 1) v
  | none => putT σ dst e.dst
structure State where
  σ : Nat → AV
  nh : Nat
inductive Ex where
  | normal | exit (id : Nat) | ret
def yieldA (ops : Array Oper) (σ : Nat → AV) (j : Nat) : AV :=
  match (ops[j]?).bind (·.dst) with
  | some t => σ (2 * t)
  | none => .any
def dstOk (N : Nat) (o : Oper) : Bool :=
  match o.dst with
  | some d => decide (d < N)
  | none => true
def oneOp {R : Type} (P : Program) (T : Tab) (N : Nat) (nh : Nat) (ops : Array Oper) (i : Nat) (o : Oper) (σ : Nat → AV) (K : Eff → Option R) : Option R :=
  if dstOk N o = true then
    match o.guard with
    | none => doOp P T (nh + i) σ o K
    | some (j, want) => match yieldA ops σ j with
      | .bool b => if b = want then doOp P T (nh + i) σ o K else K (val (.tup []))
      | .tup [] => K (val (.tup []))
      | _ => none
  else none
def rds (ops : Array Oper) (o : Oper) (e : Eff) : List Nat := (o.looksAt ops).map (2 * ·) ++ e.rd.map (2 * · + 1)
def wrs (o : Oper) (e : Eff) : List Nat := (o.dst.toList).map (2 * ·) ++ (e.wr.toList).map (2 * ·.1 + 1)
def runOps {R : Type} (P : Program) (T : Tab) (N : Nat) (nh : Nat) (ops : Array Oper) : List Oper → Nat → (Nat → AV) → List (List Nat × List Nat) → ((Nat → AV) → List (List Nat × List Nat) → Option R) → Option R
  | [], _, σ, tr, K => K σ tr
  | o :: rest, i, σ, tr, K => oneOp P T N nh ops i o σ fun e => runOps P T N nh ops rest (i + 1) (put σ o.dst e) (tr ++ [(rds ops o e, wrs o e)]) K
def clash (a b : List Nat × List Nat) : Bool := a.2.any (fun x => b.1.contains x || b.2.contains x) || a.1.any (fun x => b.2.contains x)
def mask (acc : List Nat) : List Edge → Nat
  | [] => 0
  | e :: es => if Region.binds .any e = true then (2 ^ e.on ||| acc.getD e.on 0) ||| mask acc es else mask acc es
def befs : List Oper → List Nat → List Nat
  | [], acc => acc
  | o :: rest, acc => befs rest (acc ++ [mask acc o.after.toList])
def ordered (bef : List Nat) (tr : List (List Nat × List Nat)) : Bool :=
  (List.range tr.length).all fun j => (List.range j).all fun i => !clash (tr.getD i ([], [])) (tr.getD j ([], [])) || (bef.getD j 0).testBit i
def edgesOk : List Oper → Nat → Bool
  | [], _ => true
  | o :: rest, i => (o.after.all fun e => !Region.binds .any e || Nat.blt e.on i) && edgesOk rest (i + 1)
def loopN {R : Type} (body : State → (Ex → State → Option R) → Option R) : Nat → State → (Ex → State → Option R) → Option R
  | 0, _, _ => none
  | n + 1, s, K => body s fun e s' => match e with
    | .normal => loopN body n s' K
    | e => K e s'
def run {R : Type} (P : Program) (T : Tab) (N : Nat) (fuel : Nat) : Code → State → (Ex → State → Option R) → Option R
  | .skip, s, K => K .normal s
  | .region _ ops draw, s, K =>
    runOps P T N s.nh ops ops.toList 0 s.σ [] fun σ tr =>
      if draw = true then (if (ordered (befs ops.toList []) tr && edgesOk ops.toList 0) = true then K .normal ⟨σ, s.nh + ops.size⟩ else none) else K .normal ⟨σ, s.nh + ops.size⟩
  | .seq a b, s, K => run P T N fuel a s fun e s' => match e with
    | .normal => run P T N fuel b s' K
    | e => K e s'
  | .cond c a b, s, K => match ev s.σ c with
    | .bool t => if t = true then run P T N fuel a s K else run P T N fuel b s K
    | _ => none
  | .block id b, s, K => run P T N fuel b s fun e s' => match e with
    | .exit i => if i = id then K .normal s' else K (.exit i) s'
    | e => K e s'
  | .loop b, s, K => loopN (run P T N fuel b) fuel s K
  | .exit id, s, K => K (.exit id) s
  | .ret, s, K => K .ret s
  | _, _, _ => none
def resA (P : Program) (σ : Nat → AV) : List ResultVar → Option (List AV)
  | [] => some []
  | .tmp t :: rest => match resA P σ rest with | some l => some (σ (2 * t) :: l) | none => none
  | .cell t ty :: rest => match σ (2 * t), resA P σ rest with
    | .ptr h off, some l => match σ (2 * h + 1) with
      | .agg cs => match loadA P ty (cs.drop off) with | some v => some (v :: l) | none => none
      | _ => none
    | _, _ => none
def retA (P : Program) (fn : Func) (σ : Nat → AV) : Option AV :=
  match resA P σ fn.results.toList with
  | some [x] => if noPtr x then some x else none
  | some l => if noPtrs l then some (.tup l) else none
  | none => none
def start (args : List AV) : Nat → AV := fun x => bif Nat.beq (x % 2) 0 then args.getD (x / 2) .any else .any
def execFn (P : Program) (T : Tab) (fuel : Nat) (fn : Func) : Fun := fun R args K =>
  match fn.body with
  | some c =>
    if args.length ≤ fn.ntmps then
      run P T fn.ntmps fuel c ⟨start args, 0⟩ fun e s => match e with
        | .exit _ => none
        | _ => match retA P fn s.σ with | some r => K r | none => none
    else none
  | none => none
def Ok (B : Nat) (P0 : Nat → Prop) (φ : Nat → Option Nat) (k : Nat) : Prop := (P0 k ∨ B ≤ k) ∧ ∀ h, φ h ≠ some k
structure St (N B : Nat) (P0 : Nat → Prop) (w0 : World) (fresh : Nat → Prop) (σ : Nat → AV) (φ : Nat → Option Nat) (a : Act) (w : World) : Prop where
  below : Below B w0 w
  base : B ≤ w.heap.size
  defers : a.defers = []
  size : a.tmps.size = N
  tmps : ∀ t, Rep φ w (Ok B P0 φ) (σ (2 * t)) (a.tmps.getD t undef)
  boxes : ∀ h cs, σ (2 * h + 1) = .agg cs → ∃ b vs e, φ h = some b ∧ w.heap[b]? = some (.cells vs e (0, 0)) ∧ Reps φ w (Ok B P0 φ) cs vs.toList
  own : ∀ h b, φ h = some b → B ≤ b ∧ b < w.heap.size
  inj : ∀ h h' b, φ h = some b → φ h' = some b → h = h'
  fr : ∀ h, fresh h → φ h = none
section
variable {P : Program} {N B : Nat} {P0 : Nat → Prop} {w0 : World} {fresh fresh' : Nat → Prop} {σ σ' : Nat → AV} {φ : Nat → Option Nat} {a : Act} {w w' : World} {o : Oper} {Q : Exit → Act → World → Prop} {next : Act → World → Prop}
theorem absAtom_rep (W : World) (ok : Nat → Prop) (v : Value) : Rep φ W ok (absAtom v) v := by
  unfold absAtom
  split <;> simp [Rep]
theorem absAtoms_rep (W : World) (ok : Nat → Prop) : ∀ (vs : List Value), Reps φ W ok (vs.map absAtom) vs
  | [] => by simp [Reps]
  | v :: vs => by simp only [List.map_cons, Reps]; exact ⟨v, vs, rfl, absAtom_rep W ok v, absAtoms_rep W ok vs⟩
theorem absV_rep (W : World) (ok : Nat → Prop) (v : Value) : Rep φ W ok (absV v) v := by
  unfold absV
  split
  · simp only [Rep]; exact ⟨_, rfl, absAtoms_rep W ok _⟩
  · simp only [Rep]; exact ⟨_, rfl, absAtoms_rep W ok _⟩
  · exact absAtom_rep W ok v
theorem St.ev (h : St N B P0 w0 fresh σ φ a w) (x : Operand) : Rep φ w (Ok B P0 φ) (ev σ x) (a.eval x) := by
  cases x with
  | tmp t => exact h.tmps t
  | const v => exact absV_rep w _ v
  | global g => simp [E.ev, Rep]
  | func f => simp [E.ev, Rep, Act.eval]
theorem Reps.ones : ∀ {l : List AV} {vs : List Value} {ok : Nat → Prop}, l.all atom = true → Reps φ w ok l vs → ∀ v ∈ vs, v.oneCell' = true
  | [], _, _, _, h => by simp only [Reps] at h; subst h; simp
  | x :: l, _, _, ha, h => by
    simp only [Reps] at h
    obtain ⟨v, vs', rfl, h2, h3⟩ := h
    simp only [List.all_cons, Bool.and_eq_true] at ha
    intro u hu
    rcases List.mem_cons.1 hu with rfl | hu
    · exact (Rep.one ha.1 h2).1
    · exact Reps.ones ha.2 h3 u hu
theorem cellsOf_rep {x : AV} {l : List AV} {v : Value} {ok : Nat → Prop} (h : cellsOf x = some l) (hr : Rep φ w ok x v) : Reps φ w ok l v.cells.toList ∧ ∀ u ∈ v.cells.toList, u.oneCell' = true := by
  unfold cellsOf at h
  split at h
  · split at h
    · injection h with h
      subst h
      rename_i ha
      simp only [Rep] at hr
      obtain ⟨cs, rfl, hr⟩ := hr
      exact ⟨hr, Reps.ones ha hr⟩
    · cases h
  · split at h
    · injection h with h
      subst h
      rename_i ha
      obtain ⟨h1, h2⟩ := Rep.one ha hr
      rw [h2]
      refine ⟨?_, fun u hu => ?_⟩
      · simp only [Reps]; exact ⟨v, [], rfl, hr, rfl⟩
      · simp at hu; subst hu; exact h1
    · cases h
theorem St.put (h : St N B P0 w0 fresh σ φ a w) {dst : Option Tmp} (hd : ∀ d, dst = some d → d < N) {x : AV} {v : Value} (hv : ∀ d, dst = some d → Rep φ w (Ok B P0 φ) x v) :
    St N B P0 w0 fresh (putT σ dst x) φ (a.put dst v) w := by
  cases dst with
  | none => exact h
  | some d =>
    have hdN := hd d rfl
    refine { h with defers := h.defers, size := by simp [Act.put, h.size], tmps := fun t => ?_, boxes := fun k cs hk => ?_ }
    · simp only [putT, upd_eq, Act.put]
      by_cases ht : t = d
      · subst ht
        rw [if_pos rfl]
        have : (a.tmps.setIfInBounds t v).getD t undef = v := by simp [Array.getD, h.size, hdN]
        rw [this]
        exact hv t rfl
      · rw [if_neg (by omega)]
        have : (a.tmps.setIfInBounds d v).getD t undef = a.tmps.getD t undef := by
          simp only [Array.getD_eq_getD_getElem?]
          rw [Array.getElem?_setIfInBounds_ne (Ne.symm ht)]
        rw [this]
        exact h.tmps t
    · simp only [putT, upd_eq] at hk
      rw [if_neg (by omega)] at hk
      exact h.boxes k cs hk
theorem St.world (h : St N B P0 w0 fresh σ φ a w) (hb : Below B w w') (hs : w.heap.size ≤ w'.heap.size) (hm : ∀ k, k < w.heap.size → w'.heap[k]? = w.heap[k]?) : St N B P0 w0 fresh σ φ a w' :=
  { h with
    below := h.below.trans hb
    base := Nat.le_trans h.base hs
    tmps := fun t => Rep.move (fun _ _ h => h) (fun _ h _ => h) (fun k _ hk => hm k hk) _ (h.tmps t)
    boxes := fun k cs hk => by
      obtain ⟨b, vs, e, h1, h2, h3⟩ := h.boxes k cs hk
      exact ⟨b, vs, e, h1, (hm b (h.own k b h1).2).trans h2, Reps.move (fun _ _ h => h) (fun _ h _ => h) (fun k _ hk => hm k hk) _ h3⟩
    own := fun k b hk => ⟨(h.own k b hk).1, Nat.lt_of_lt_of_le (h.own k b hk).2 hs⟩ }
theorem St.less (h : St N B P0 w0 fresh σ φ a w) (hf : ∀ k, fresh' k → fresh k) : St N B P0 w0 fresh' σ φ a w := { h with fr := fun k hk => h.fr k (hf k hk) }
theorem St.new (h : St N B P0 w0 fresh σ φ a w) {n : Nat} (hn : fresh n) {cs : List AV} {vs : Array Value} (hr : Reps φ w (Ok B P0 φ) cs vs.toList) (t : TypeId) :
    ∃ φ', St N B P0 w0 (fun k => fresh k ∧ k ≠ n) (upd σ (2 * n + 1) (.agg cs)) φ' a (w.alloc (.cells vs t (0, 0))) ∧ φ' n = some w.heap.size := by
  have hsz : (w.alloc (.cells vs t (0, 0))).heap.size = w.heap.size + 1 := by show (w.heap.push _).size = _; simp
  have hm : ∀ k, k < w.heap.size → (w.alloc (.cells vs t (0, 0))).heap[k]? = w.heap[k]? := fun k hk => Below.heap_alloc _ _ _ hk
  have hnew : (w.alloc (.cells vs t (0, 0))).heap[w.heap.size]? = some (.cells vs t (0, 0)) := by show (w.heap.push _)[w.heap.size]? = _; simp
  have hφ : ∀ k b, φ k = some b → (fun k => if k = n then some w.heap.size else φ k) k = some b := fun k b hk => by
    have : k ≠ n := fun e => by subst e; rw [h.fr k hn] at hk; cases hk
    simp [this, hk]
  have hok : ∀ k, Ok B P0 φ k → k < w.heap.size → Ok B P0 (fun k => if k = n then some w.heap.size else φ k) k := fun k hk hlt => ⟨hk.1, fun j hj => by
    dsimp only at hj
    split at hj
    · injection hj with hj; omega
    · exact hk.2 j hj⟩
  refine ⟨fun k => if k = n then some w.heap.size else φ k, ?_, by simp⟩
  refine { below := h.below.alloc h.base _, base := by rw [hsz]; exact Nat.le_succ_of_le h.base, defers := h.defers, size := h.size, tmps := fun t => ?_, boxes := fun k cs' hk => ?_, own := fun k b hk => ?_, inj := fun k k' b hk hk' => ?_, fr := fun k hk => ?_ }
  · simp only [upd_eq]
    rw [if_neg (by omega)]
    exact Rep.move hφ hok (fun k _ hk => hm k hk) _ (h.tmps t)
  · simp only [upd_eq] at hk
    by_cases hkn : k = n
    · subst hkn
      rw [if_pos rfl] at hk
      injection hk with hk
      subst hk
      exact ⟨w.heap.size, vs, t, by simp, hnew, Reps.move hφ hok (fun k _ hk => hm k hk) _ hr⟩
    · rw [if_neg (by omega)] at hk
      obtain ⟨b, vs', e, h1, h2, h3⟩ := h.boxes k cs' hk
      exact ⟨b, vs', e, hφ k b h1, (hm b (h.own k b h1).2).trans h2, Reps.move hφ hok (fun k _ hk => hm k hk) _ h3⟩
  · rw [hsz]
    split at hk
    · injection hk with hk; subst hk; exact ⟨h.base, Nat.lt_succ_self _⟩
    · have := h.own k b hk; omega
  · split at hk <;> split at hk'
    · simp_all
    · injection hk with hk; have := h.own k' b hk'; omega
    · injection hk' with hk'; have := h.own k b hk; omega
    · exact h.inj k k' b hk hk'
  · simp [hk.2, h.fr k hk.1]
theorem wp_value {v : Value} (h : (execOp a.eval o).run P w = .ok (.value v) w') (hk : next (a.put o.dst v) w') : o.wp P a w next Q := by
  unfold Oper.wp; rw [h]; exact hk
theorem wp_skip' (h : (execOp a.eval o).run P w = .ok .skip w') (hk : next (a.put o.dst undef) w') : o.wp P a w next Q := by
  unfold Oper.wp; rw [h]; exact hk
end
section
variable {P : Program} {φ : Nat → Option Nat} {w : World} {ok : Nat → Prop} {σ : Nat → AV} {a : Act}
theorem sz_info {t n : Nat} (h : sz P t = some n) : ∃ i, P.info? t = some i ∧ i.size = n := by
  unfold sz at h
  cases hi : P.info? t with
  | none => simp [hi] at h
  | some i => exact ⟨i, rfl, by simpa [hi] using h⟩
theorem run_sizeOf' {t n : Nat} (h : sz P t = some n) (w : World) : (sizeOf t).run P w = .ok n w := by
  obtain ⟨i, hi, hn⟩ := sz_info h
  simp [sizeOf, typeInfo, hi, hn]
theorem run_isAgg' {t : Nat} (h : (P.underlying t).isNone = false) (w : World) : (isAgg t).run P w = .ok (isAgg' P t) w := by
  cases hu : P.underlying t with
  | none => simp [hu] at h
  | some d => cases d <;> simp [isAgg, isAgg', run_underlying hu, hu]
theorem loadVar_run {t : Nat} {cs : List AV} {x : AV} {ad : Addr} {vs : List Value} (h : loadA P t cs = some x) (hr : Reps φ w ok cs vs) (hrd : Reads ad vs w) :
    ∃ v, (loadVar t ad).run P w = .ok v w ∧ Rep φ w ok x v := by
  unfold loadA at h
  split at h
  · cases h
  rename_i hu
  have hu' : (P.underlying t).isNone = false := by revert hu; cases P.underlying t <;> simp
  split at h
  · rename_i ha
    split at h
    · rename_i n hn
      split at h
      · injection h with h
        subst h
        rename_i hle
        have hl := hr.length
        have h1 := run_loadCells_list (P := P) w ad (vs.take n) (fun j v hj => hrd j v (by
          rw [List.getElem?_take] at hj
          split at hj
          · exact hj
          · cases hj))
        rw [List.length_take, Nat.min_eq_left (by omega)] at h1
        refine ⟨.agg (vs.take n).toArray, ?_, ?_⟩
        · simp [loadVar, run_isAgg' hu', ha, run_sizeOf' hn, h1]
        · simp only [Rep]
          exact ⟨_, rfl, hr.take n⟩
      · cases h
    · cases h
  · rename_i ha
    cases cs with
    | nil => simp at h
    | cons y l =>
      simp at h
      subst h
      simp only [Reps] at hr
      obtain ⟨v, vs', rfl, h2, h3⟩ := hr
      have hc := hrd 0 v rfl
      simp only [Addr.add, if_true] at hc
      refine ⟨v, ?_, h2⟩
      simp [loadVar, run_isAgg' hu', ha, load, Sem.run, hc]
theorem foldl_set (off : Nat) : ∀ (l : List Value) (cs : Array Value) (k : Nat), off + k + l.length ≤ cs.size →
    ((l.zipIdx k).foldl (fun cs (c, j) => cs.setIfInBounds (off + j) c) cs).toList = cs.toList.take (off + k) ++ l ++ cs.toList.drop (off + k + l.length)
  | [], cs, k, _ => by simp
  | x :: l, cs, k, h => by
    simp only [List.zipIdx_cons, List.foldl_cons]
    have hl : (x :: l).length = l.length + 1 := rfl
    rw [foldl_set off l _ (k + 1) (by simp; omega)]
    have e := list_seg_step cs.toList (off + k) x l (by simp at h ⊢; omega)
    simpa [Array.toList_setIfInBounds, Nat.add_assoc, Nat.add_comm 1 l.length] using e
theorem fill_step {place : Nat → Option (Nat × Nat)} {cells : Array Value} {i off n : Nat} {v : Value} {rest : List (Nat × Value)} (hp : place i = some (off, n)) (hn : v.cells.size = n) (hl : off + n ≤ cells.size) :
    ∃ cells', Instr.fill place cells ((i, v) :: rest) = Instr.fill place cells' rest ∧ cells'.toList = cells.toList.take off ++ v.cells.toList ++ cells.toList.drop (off + n) ∧ cells'.size = cells.size := by
  have h1 := foldl_set off v.cells.toList cells 0 (by simp; omega)
  have h2 : (v.cells.zipIdx.foldl (fun cs (c, j) => cs.setIfInBounds (off + j) c) cells) = ((v.cells.toList.zipIdx 0).foldl (fun cs (c, j) => cs.setIfInBounds (off + j) c) cells) := by
    rw [← Array.foldl_toList, Array.toList_zipIdx]
  refine ⟨v.cells.zipIdx.foldl (fun cs (c, j) => cs.setIfInBounds (off + j) c) cells, ?_, ?_, ?_⟩
  · simp only [Instr.fill, hp]
    rw [if_neg (by simp [hn]; omega)]
  · rw [h2, h1]
    simp [hn]
  · have h3 := congrArg List.length h1
    rw [h2, ← Array.length_toList, h3]
    simp only [List.length_append, List.length_take, List.length_drop, Array.length_toList, Nat.add_zero, hn]
    rw [Nat.min_eq_left (by omega)]
    omega
end
section
variable {P : Program} {φ : Nat → Option Nat} {w : World} {ok : Nat → Prop} {σ : Nat → AV} {a : Act}
theorem fillA_fill {place : Nat → Option (Nat × Nat)} : ∀ (parts : List (Nat × Operand)) (cs cs' : List AV) (cells : Array Value), (∀ p ∈ parts, Rep φ w ok (ev σ p.2) (a.eval p.2)) → fillA place σ parts cs = some cs' → Reps φ w ok cs cells.toList →
    ∃ cells', Instr.fill place cells (parts.map fun (i, x) => (i, a.eval x)) = some cells' ∧ Reps φ w ok cs' cells'.toList
  | [], cs, cs', cells, _, h, hr => by
    simp only [fillA, Option.some.injEq] at h
    subst h
    exact ⟨cells, rfl, hr⟩
  | (i, x) :: rest, cs, cs', cells, hev, h, hr => by
    simp only [fillA] at h
    split at h
    · rename_i off n vs hp hv
      split at h
      · rename_i hc
        obtain ⟨h1, h2⟩ := cellsOf_rep hv (hev (i, x) List.mem_cons_self)
        have hl := h1.length
        have hl2 := hr.length
        simp only [Array.length_toList] at hl hl2
        obtain ⟨cells2, e1, e2, e3⟩ := fill_step (rest := rest.map fun (i, x) => (i, a.eval x)) hp (show (a.eval x).cells.size = n by omega) (by omega : off + n ≤ cells.size)
        have hr2 : Reps φ w ok (setL cs off vs) cells2.toList := by
          rw [e2]
          unfold setL
          rw [hc.1]
          exact Reps.append (Reps.append (hr.take off) h1) (hr.drop (off + n))
        obtain ⟨cells', e4, e5⟩ := fillA_fill rest _ _ cells2 (fun p hp => hev p (List.mem_cons_of_mem _ hp)) h hr2
        exact ⟨cells', by rw [List.map_cons]; exact e1.trans e4, e5⟩
      · cases h
    · cases h
theorem zeroCells_rep {t : Nat} {cs : List AV} (h : zeroCells' P t = some cs) (W : World) (ok : Nat → Prop) : ∃ it z, P.info? t = some it ∧ it.zero = some z ∧ Reps φ W ok cs z.cells.toList ∧ ∀ u ∈ z.cells.toList, u.oneCell' = true := by
  unfold zeroCells' at h
  cases hi : P.info? t with
  | none => simp [hi] at h
  | some it =>
    cases hz : it.zero with
    | none => simp [hi, hz] at h
    | some z =>
      simp only [hi, hz, Option.bind_some] at h
      obtain ⟨h1, h2⟩ := cellsOf_rep h (absV_rep (φ := φ) W ok z)
      exact ⟨it, z, rfl, hz, h1, h2⟩
theorem build_run {t : Nat} {parts : Array (Nat × Operand)} {z : List AV} {pl : List (Nat × Nat)} {cs : List AV} (hz : zeroCells' P t = some z) (hp : placesOf P t = some pl) (hf : fillA (pl.toArray[·]?) σ parts.toList z = some cs)
    (hev : ∀ p ∈ parts.toList, Rep φ w ok (ev σ p.2) (a.eval p.2)) : ∃ v, (Instr.build t (parts.map fun (i, x) => (i, a.eval x))).run P w = .ok v w ∧ Rep φ w ok (.agg cs) v := by
  obtain ⟨it, zv, hi, hzz, hr, _⟩ := zeroCells_rep (φ := φ) hz w ok
  obtain ⟨cells, e1, e2⟩ := fillA_fill parts.toList z cs zv.cells hev hf hr
  refine ⟨.agg cells, run_build w t _ cells ?_, by simp only [Rep]; exact ⟨cells, rfl, e2⟩⟩
  unfold placesOf fieldsOf at hp
  unfold Program.built
  cases hu : P.underlying t with
  | none => simp [hu] at hp
  | some d =>
    cases d <;> try (simp [hu] at hp; done)
    case struct fs =>
      simp only [hu] at hp
      simp only [hi, hzz, hp]
      rw [Array.toList_map]
      exact e1
theorem partsOf_fill (n : Nat) : ∀ (parts : List (Nat × Operand)) (i : Nat) (l : List AV) (cells : Array Value), (∀ p ∈ parts, Rep φ w ok (ev σ p.2) (a.eval p.2)) → partsOf n σ i parts = some l → (i + parts.length) * n = cells.size →
    ∃ cells' vs, Instr.fill (fun i => some (i * n, n)) cells (parts.map fun (i, x) => (i, a.eval x)) = some cells' ∧ cells'.toList = cells.toList.take (i * n) ++ vs ∧ Reps φ w ok l vs ∧ (∀ u ∈ vs, u.oneCell' = true) ∧ vs.length = parts.length * n ∧ noPtrs l = true
  | [], i, l, cells, _, h, hs => by
    simp only [partsOf, Option.some.injEq] at h
    subst h
    refine ⟨cells, [], rfl, ?_, by simp [Reps], by simp, by simp, by simp [noPtrs]⟩
    rw [List.append_nil, List.take_of_length_le]
    simp at hs ⊢
    omega
  | (j, x) :: rest, i, l, cells, hev, h, hs => by
    simp only [partsOf] at h
    split at h
    · rename_i c l' hc hl'
      split at h
      · rename_i hcc
        obtain ⟨h1, h2, h3⟩ := hcc
        injection h with h
        subst h
        obtain ⟨g1, g2⟩ := cellsOf_rep hc (hev (j, x) List.mem_cons_self)
        subst h2
        have hl := g1.length
        simp only [Array.length_toList] at hl
        have hmul : (i + (rest.length + 1)) * n = i * n + n + rest.length * n := by rw [Nat.add_mul, Nat.add_mul]; omega
        simp only [List.length_cons] at hs
        obtain ⟨cells2, e1, e2, e3⟩ := fill_step (place := fun i => some (i * n, n)) (i := i) (rest := rest.map fun (i, x) => (i, a.eval x)) rfl (show (a.eval x).cells.size = n by omega) (by omega : i * n + n ≤ cells.size)
        have hmul2 : (i + 1 + rest.length) * n = i * n + n + rest.length * n := by rw [Nat.add_mul, Nat.add_mul]; omega
        obtain ⟨cells', vs, k1, k2, k3, k4, k5, k6⟩ := partsOf_fill n rest (i + 1) l' cells2 (fun p hp => hev p (List.mem_cons_of_mem _ hp)) hl' (by rw [e3]; omega)
        refine ⟨cells', (a.eval x).cells.toList ++ vs, by rw [List.map_cons]; exact e1.trans k1, ?_, Reps.append g1 k3, ?_, ?_, ?_⟩
        · have hmul3 : (i + 1) * n = i * n + n := by rw [Nat.add_mul]; omega
          rw [k2, e2, hmul3]
          have t1 : (cells.toList.take (i * n)).length = i * n := by rw [List.length_take]; simp; omega
          have t2 : ((a.eval x).cells.toList).length = n := by simp; omega
          rw [List.take_append_of_le_length (by rw [List.length_append, t1, t2]; exact Nat.le_refl _), List.take_of_length_le (by rw [List.length_append, t1, t2]; exact Nat.le_refl _), List.append_assoc]
        · intro u hu
          rcases List.mem_append.1 hu with hu | hu
          · exact g2 u hu
          · exact k4 u hu
        · simp only [List.length_append, List.length_cons, Array.length_toList, k5]
          rw [Nat.add_mul]; omega
        · have noPtrs_append : ∀ (p q : List AV), noPtrs p = true → noPtrs q = true → noPtrs (p ++ q) = true := by
            intro p
            induction p with
            | nil => intro q _ hq; simpa using hq
            | cons y p ih => intro q hp hq; simp only [List.cons_append, noPtrs, Bool.and_eq_true] at hp ⊢; exact ⟨hp.1, ih q hp.2 hq⟩
          exact noPtrs_append _ _ h3 k6
      · cases h
    · cases h
theorem asInts_vals {k : IntKind} : ∀ {l : List AV} {is : List Int} {vs : List Value}, asInts k l = some is → Reps φ w ok l vs → vs = is.map (Value.int k)
  | [], is, vs, h, hr => by
    simp only [asInts, Option.some.injEq] at h
    subst h
    simpa [Reps] using hr
  | x :: l, is, vs, h, hr => by
    simp only [Reps] at hr
    obtain ⟨v, vs', rfl, h2, h3⟩ := hr
    cases x <;> simp only [asInts] at h <;> try (cases h; done)
    rename_i k' n
    split at h
    · rename_i hk
      subst hk
      split at h
      · rename_i is' his
        injection h with h
        subst h
        rw [asInts_vals his h3]
        simp only [Rep] at h2
        subst h2
        rfl
      · cases h
    · cases h
end
def Trip (P : Program) (N new : Nat) (σ : Nat → AV) (o : Oper) (e : Eff) : Prop :=
  ∀ {B : Nat} {P0 : Nat → Prop} {w0 w : World} {fresh : Nat → Prop} {φ : Nat → Option Nat} {a : Act} (σ' : Nat → AV), (∀ t, Operand.tmp t ∈ o.op.operands → σ' (2 * t) = σ (2 * t)) → (∀ h ∈ e.rd, σ' (2 * h + 1) = σ (2 * h + 1)) →
    St N B P0 w0 fresh σ' φ a w → fresh new → (∀ d, o.dst = some d → d < N) → ∀ (next : Act → World → Prop) (Q : Exit → Act → World → Prop),
    (∀ φ' v w', St N B P0 w0 (fun k => fresh k ∧ k ≠ new) (put σ' o.dst e) φ' (a.put o.dst v) w' → next (a.put o.dst v) w') → o.wp P a w next Q
section
variable {P : Program} {N new : Nat} {σ : Nat → AV} {o : Oper}
theorem ev_agree {σ' : Nat → AV} {x : Operand} (h : ∀ t, Operand.tmp t ∈ o.op.operands → σ' (2 * t) = σ (2 * t)) (hx : x ∈ o.op.operands) : ev σ' x = ev σ x := by
  cases x with
  | tmp t => exact h t hx
  | _ => rfl
theorem trip_w {x : AV} (h : ∀ {B : Nat} {P0 : Nat → Prop} {w : World} {φ : Nat → Option Nat} {a : Act}, (∀ y ∈ o.op.operands, Rep φ w (Ok B P0 φ) (ev σ y) (a.eval y)) → B ≤ w.heap.size → (∀ h b, φ h = some b → b < w.heap.size) →
    ∃ v w', (execOp a.eval o).run P w = .ok (.value v) w' ∧ Below w.heap.size w w' ∧ Rep φ w' (Ok B P0 φ) x v) : Trip P N new σ o (val x) := by
  intro B P0 w0 w fresh φ a σ' h1 h2 hs hf hd next Q hk
  obtain ⟨v, w', hr, hb, hv⟩ := h (fun y hy => by rw [← ev_agree h1 hy]; exact hs.ev y) hs.base (fun h b hh => (hs.own h b hh).2)
  refine wp_value hr (hk φ v w' ?_)
  have hs2 := hs.world (w' := w') (hb.mono hs.base) hb.size (fun k hk => hb.block k hk)
  exact St.less (St.put hs2 hd (fun _ _ => hv)) (fun k (hk : fresh k ∧ k ≠ new) => hk.1)
theorem trip_p {x : AV} (h : ∀ {w : World} {ok : Nat → Prop} {φ : Nat → Option Nat} {a : Act}, (∀ y ∈ o.op.operands, Rep φ w ok (ev σ y) (a.eval y)) →
    ∃ v, (execOp a.eval o).run P w = .ok (.value v) w ∧ Rep φ w ok x v) : Trip P N new σ o (val x) :=
  trip_w fun hy _ _ => by
    obtain ⟨v, h1, h2⟩ := h hy
    exact ⟨v, _, h1, Below.refl _ _, h2⟩
theorem run_v {s : Sem Value} {v : Value} {w w' : World} (h : s.run P w = .ok v w') : ((do pure (Next.value (← s))) : Sem Next).run P w = .ok (.value v) w' := by
  simp [h]
theorem trip_move {x : Operand} (ho : o.op = .move x ∨ o.op = .assign x) : Trip P N new σ o (val (ev σ x)) :=
  trip_p fun {w ok φ a} hy => ⟨a.eval x, by rcases ho with ho | ho <;> simp [execOp, ho], hy x (by rcases ho with ho | ho <;> simp [ho, Op.operands])⟩
theorem trip_pick {c x y : Operand} {t : Bool} (ho : o.op = .pick c x y) (hc : ev σ c = .bool t) : Trip P N new σ o (val (if t = true then ev σ x else ev σ y)) :=
  trip_p fun {w ok φ a} hy => by
    have h1 := hy c (by simp [ho, Op.operands])
    rw [hc] at h1
    simp only [Rep] at h1
    have h2 := hy x (by simp [ho, Op.operands])
    have h3 := hy y (by simp [ho, Op.operands])
    refine ⟨if t then a.eval x else a.eval y, by simp [execOp, ho, h1, asBool], ?_⟩
    cases t
    · simpa using h3
    · simpa using h2
theorem trip_build {t : Nat} {parts : Array (Nat × Operand)} {z : List AV} {pl : List (Nat × Nat)} {cs : List AV} (ho : o.op = .build t parts) (hz : zeroCells' P t = some z) (hp : placesOf P t = some pl) (hf : fillA (pl.toArray[·]?) σ parts.toList z = some cs) : Trip P N new σ o (val (.agg cs)) :=
  trip_p fun {w ok φ a} hy => by
    have hev : ∀ p ∈ parts.toList, Rep φ w ok (ev σ p.2) (a.eval p.2) := fun p hp => hy p.2 (by simp only [ho, Op.operands]; simp; exact ⟨p.1, by simpa using hp⟩)
    obtain ⟨v, h1, h2⟩ := build_run hz hp hf hev
    exact ⟨v, by simp [execOp, ho, h1], h2⟩
theorem trip_load_at {t : Nat} {x : Operand} {cs : List AV} {v : AV} (ho : o.op = .load t x) (hx : ev σ x = .at_ cs) (hl : loadA P t cs = some v) : Trip P N new σ o (val v) :=
  trip_p fun {w ok φ a} hy => by
    have h1 := hy x (by simp [ho, Op.operands])
    rw [hx] at h1
    simp only [Rep] at h1
    obtain ⟨ad, vs, e1, e2, e3, e4⟩ := h1
    obtain ⟨u, k1, k2⟩ := loadVar_run hl e4 e3.now
    exact ⟨u, by simp [execOp, ho, e1, Instr.loadAt, Instr.sureAddr, k1], k2⟩
def toV : AV → Value
  | .int k n => .int k n
  | .bool b => .bool b
  | .str s => .string s
  | _ => undef
theorem binI_run {op : BinOp} {k : IntKind} {x y : Int} {R : Type} {K : AV → Option R} {r : R} (h : binI op k x y K = some r) (hop : op ≠ .shl ∧ op ≠ .shr) :
    ∃ v, K v = some r ∧ (∀ (w : World) (φ : Nat → Option Nat) (ok : Nat → Prop), Rep φ w ok v (toV v)) ∧ ∀ (w : World) (t : Nat), (Go.binOp op t (.int k x) (.int k y)).run P w = .ok (toV v) w := by
  obtain ⟨n1, n2⟩ := hop
  cases op <;> simp only [binI, bitsA] at h <;> (try (exact absurd rfl n1)) <;> (try (exact absurd rfl n2)) <;> (try (split at h; · cases h)) <;> (try cases h; done) <;>
    (refine ⟨_, h, fun w φ ok => ?_, fun w t => ?_⟩ <;> first
      | (unfold Rep; rfl)
      | (simp [toV, Go.binOp, Op.intArith, Op.intCmp, Op.intBits, Op.intDiv]; done)
      | (simp [toV, Go.binOp, Op.intArith, Op.intCmp, Op.intBits, Op.intDiv, *]; done))
theorem eqGuard_run {op : BinOp} {t : Nat} {x y : Operand} {u v : Value} (hu : ∃ k n, u = .int k n ∨ ∃ b, u = .bool b ∨ ∃ s, u = .string s) (w : World) : (eqGuard op t x y u v).run P w = .ok () w := by
  obtain ⟨k, n, rfl | ⟨b, rfl | ⟨s, rfl⟩⟩⟩ := hu <;> (unfold eqGuard; cases op <;> simp)
theorem binA_run {op : BinOp} {t : Nat} {x y : AV} {R : Type} {K : AV → Option R} {r : R} (h : binA P op t x y K = some r) : ∃ v, K v = some r ∧ (∀ (w : World) (φ : Nat → Option Nat) (ok : Nat → Prop), Rep φ w ok v (toV v)) ∧
    ∀ (w : World) (φ : Nat → Option Nat) (ok : Nat → Prop) (X Y : Operand) (u1 u2 : Value), Rep φ w ok x u1 → Rep φ w ok y u2 → (do eqGuard op t X Y u1 u2; Go.binOp op t u1 u2 : Sem Value).run P w = .ok (toV v) w := by
  cases x <;> cases y <;> simp only [binA] at h <;> try (cases h; done)
  · split at h
    · rename_i ht
      refine ⟨_, h, fun w φ ok => by unfold Rep; rfl, fun w φ ok X Y u1 u2 h1 h2 => ?_⟩
      simp only [Rep] at h1 h2
      subst h1 h2
      simp [eqGuard_run ⟨.i64, 0, .inr ⟨_, .inl rfl⟩⟩, Go.binOp, run_equal_bool _ _ _ _ ht, toV]
    · rename_i ht
      refine ⟨_, h, fun w φ ok => by unfold Rep; rfl, fun w φ ok X Y u1 u2 h1 h2 => ?_⟩
      simp only [Rep] at h1 h2
      subst h1 h2
      simp [eqGuard_run ⟨.i64, 0, .inr ⟨_, .inl rfl⟩⟩, Go.binOp, run_equal_bool _ _ _ _ ht, toV]
    · cases h
  · rename_i k a k' b
    split at h
    · split at h
      · cases h
      · rename_i hb
        refine ⟨_, h, fun w φ ok => by unfold Rep; rfl, fun w φ ok X Y u1 u2 h1 h2 => ?_⟩
        simp only [Rep] at h1 h2
        subst h1 h2
        simp [eqGuard_run ⟨_, _, .inl rfl⟩, Go.binOp, Op.shift, hb, toV]
    · split at h
      · cases h
      · rename_i hb
        refine ⟨_, h, fun w φ ok => by unfold Rep; rfl, fun w φ ok X Y u1 u2 h1 h2 => ?_⟩
        simp only [Rep] at h1 h2
        subst h1 h2
        simp [eqGuard_run ⟨_, _, .inl rfl⟩, Go.binOp, Op.shift, hb, toV]
    · split at h
      · rename_i n1 n2 hk
        subst hk
        obtain ⟨v, e1, e2, e3⟩ := binI_run (P := P) h ⟨n1, n2⟩
        refine ⟨v, e1, e2, fun w φ ok X Y u1 u2 h1 h2 => ?_⟩
        simp only [Rep] at h1 h2
        subst h1 h2
        simp [eqGuard_run ⟨_, _, .inl rfl⟩, e3]
      · cases h
  · split at h
    · refine ⟨_, h, fun w φ ok => by unfold Rep; rfl, fun w φ ok X Y u1 u2 h1 h2 => ?_⟩
      simp only [Rep] at h1 h2
      subst h1 h2
      simp [eqGuard_run ⟨.i64, 0, .inr ⟨true, .inr ⟨_, rfl⟩⟩⟩, Go.binOp, Op.stringOp, toV]
    · refine ⟨_, h, fun w φ ok => by unfold Rep; rfl, fun w φ ok X Y u1 u2 h1 h2 => ?_⟩
      simp only [Rep] at h1 h2
      subst h1 h2
      simp [eqGuard_run ⟨.i64, 0, .inr ⟨true, .inr ⟨_, rfl⟩⟩⟩, Go.binOp, Op.stringOp, toV]
    · split at h
      · rename_i hle
        refine ⟨_, h, fun w φ ok => by unfold Rep; rfl, fun w φ ok X Y u1 u2 h1 h2 => ?_⟩
        simp only [Rep] at h1 h2
        subst h1 h2
        have hi : IntKind.i64.max = 9223372036854775807 := rfl
        simp [eqGuard_run ⟨.i64, 0, .inr ⟨true, .inr ⟨_, rfl⟩⟩⟩, Go.binOp, Op.stringOp, toV, hi]
        omega
      · cases h
    · cases h
theorem trip_binA {op : BinOp} {t yt : Nat} {x y : Operand} {R : Type} {K : Eff → Option R} {r : R} (ho : o.op = .binOp op t x y yt) (h : binA P op t (ev σ x) (ev σ y) (fun v => K (val v)) = some r) : ∃ e, Trip P N new σ o e ∧ K e = some r := by
  obtain ⟨v, h1, h2, h3⟩ := binA_run h
  refine ⟨val v, trip_p fun {w ok φ a} hy => ⟨toV v, ?_, h2 _ _ _⟩, h1⟩
  have := h3 w φ ok x y _ _ (hy x (by simp [ho, Op.operands])) (hy y (by simp [ho, Op.operands]))
  simp only [execOp, ho]
  exact run_v this
end
section
variable {P : Program} {N new : Nat} {σ : Nat → AV} {o : Oper}
theorem trip_un {op : UnOp} {t : Nat} {x : Operand} {v : AV} (ho : o.op = .unOp op t x) (h : unA op (ev σ x) = some v) : Trip P N new σ o (val v) :=
  trip_p fun {w ok φ a} hy => by
    have h1 := hy x (by simp [ho, Op.operands])
    generalize ev σ x = X at h h1
    cases op <;> cases X <;> simp only [unA] at h <;> try (cases h; done)
    all_goals
      refine ⟨toV v, ?_, ?_⟩
      all_goals
        injection h with h
        subst h
        simp only [Rep] at h1
    all_goals first
      | (simp only [Rep, toV]; done)
      | (simp only [execOp, ho, h1]; exact run_v (by simp [Op.unary, Op.intArith, toV]; done))
theorem trip_convert {s d k : Nat} {k1 k2 k3 : IntKind} {x : Operand} {n : Int} (ho : o.op = .convert s d x) (hs : P.underlying s = some (.int k1)) (hd : P.underlying d = some (.int k2)) (hx : ev σ x = .int k3 n) : Trip P N new σ o (val (.int k2 (k2.wrap n))) :=
  trip_p fun {w ok φ a} hy => by
    have h1 := hy x (by simp [ho, Op.operands])
    rw [hx] at h1
    simp only [Rep] at h1
    exact ⟨.int k2 (k2.wrap n), by simp only [execOp, ho, h1]; exact run_v (by simp [Go.convert, run_underlying hs, run_underlying hd, Conv.intToInt]), by simp only [Rep]⟩
theorem field_info {s f off n : Nat} (h : fieldAt' P s f = some (off, n)) : ∃ fs fd, P.underlying s = some (.struct fs) ∧ fs[f]? = some fd ∧ fd.offset = off ∧ sz P fd.type = some n ∧ n ≠ 0 := by
  unfold fieldAt' fieldsOf at h
  cases hu : P.underlying s with
  | none => simp [hu] at h
  | some d =>
    cases d <;> try (simp [hu] at h; done)
    case struct fs =>
      simp only [hu] at h
      split at h
      · rename_i fd hfd
        split at h
        · rename_i m hm
          split at h
          · cases h
          · rename_i hn
            injection h with h
            injection h with h3 h4
            subst h4
            exact ⟨fs, fd, rfl, hfd, h3, hm, hn⟩
        · cases h
      · cases h
theorem fieldAt_run {s f off n : Nat} (h : fieldAt' P s f = some (off, n)) (ad : Addr) (w : World) : (Instr.fieldAt s (.pointer (some ad)) f).run P w = .ok (.pointer (some (ad.add off))) w := by
  obtain ⟨fs, fd, h1, h2, h3, h4, h5⟩ := field_info h
  simp [Instr.fieldAt, run_underlying h1, h2, Instr.sureAddr, fieldPlace, run_sizeOf' h4, h5, h3]
theorem add_add (ad : Addr) (hs : ad.spot = none) (m n : Nat) : (ad.add m).add n = ad.add (m + n) := by
  obtain ⟨b, f, s⟩ := ad
  simp only at hs
  subst hs
  unfold Addr.add
  split <;> split <;> split <;> first | omega | (simp_all [Nat.add_assoc])
theorem add_spot (ad : Addr) (hs : ad.spot = none) (m : Nat) : (ad.add m).spot = none := by
  unfold Addr.add
  split
  · exact hs
  · rfl
theorem reads_drop {ad : Addr} (hs : ad.spot = none) {vs : List Value} {W : World} (m : Nat) (h : Reads ad vs W) : Reads (ad.add m) (vs.drop m) W := fun i u hu => by
  rw [add_add ad hs]
  exact h _ u (by rwa [List.getElem?_drop] at hu)
theorem trip_fieldAddr {s f off n : Nat} {x : Operand} (ho : o.op = .fieldAddr s x f) (hf : fieldAt' P s f = some (off, n)) {h ofs : Nat} (hx : ev σ x = .ptr h ofs) : Trip P N new σ o (val (.ptr h (ofs + off))) :=
  trip_p fun {w ok φ a} hy => by
    have h1 := hy x (by simp [ho, Op.operands])
    rw [hx] at h1
    simp only [Rep] at h1
    obtain ⟨b, e1, e2⟩ := h1
    refine ⟨_, by simp only [execOp, ho, e2]; exact run_v (fieldAt_run hf _ w), ?_⟩
    simp only [Rep]
    refine ⟨b, e1, ?_⟩
    unfold Addr.add
    split
    · rename_i h0; simp [h0]
    · rfl
theorem trip_fieldAt {s f off n : Nat} {x : Operand} (ho : o.op = .fieldAddr s x f) (hf : fieldAt' P s f = some (off, n)) {cs : List AV} (hx : ev σ x = .at_ cs) : Trip P N new σ o (val (.at_ (cs.drop off))) :=
  trip_p fun {w ok φ a} hy => by
    have h1 := hy x (by simp [ho, Op.operands])
    rw [hx] at h1
    simp only [Rep] at h1
    obtain ⟨ad, vs, e1, e2, e3, e4⟩ := h1
    refine ⟨_, by simp only [execOp, ho, e1]; exact run_v (fieldAt_run hf _ w), ?_⟩
    simp only [Rep]
    exact ⟨_, vs.drop off, rfl, add_spot ad e2 off, e3.imp fun W' hW => reads_drop e2 off hW, e4.drop off⟩
theorem indexAt_run {t e n len c : Nat} {k : IntKind} {i : Int} {ad : Addr} (hu : P.underlying t = some (.slice e)) (hs : sz P e = some n) (h0 : 0 ≤ i) (h1 : i < len) (w : World) :
    (Instr.indexAt t (.slice (some ad) len c) (.int k i)).run P w = .ok (.pointer (some (ad.add (i.toNat * n)))) w := by
  simp [Instr.indexAt, run_underlying hu, asIntOf, h0, h1, run_sizeOf' hs]
theorem row_at {φ : Nat → Option Nat} {w : World} {ok : Nat → Prop} {k : IntKind} {l : List Int} {A : Option Addr} (h : Kd.F (Kd.int k) w ok A l.length l) {i : Int} (h0 : 0 ≤ i) (h1 : i < l.length) :
    ∃ ad, A = some ad ∧ Rep φ w ok (.at_ [.int k (l.getD i.toNat 0)]) (.pointer (some (ad.add (i.toNat * 1)))) := by
  obtain ⟨ad, hA, hc⟩ := (h.now).2.2 (by omega)
  have hcell : ∀ W', Kd.C (Kd.int k) W' A l.length l → ∀ j, j < l.length → W'.cell? (ad.add j) = some (.int k (l.getD j 0)) := by
    intro W' hC j hj
    obtain ⟨ad', hA', hc'⟩ := hC.2.2 (by omega)
    rw [hA] at hA'
    injection hA' with hA'
    subst hA'
    obtain ⟨c, hcl, hK, hcc⟩ := hc' j _ (List.getElem?_eq_getElem hj)
    have hK' : c = [Value.int k l[j]] := hK
    subst hK'
    have := hcc 0 _ rfl
    simp only [Kd.int, Kd.scalar, Nat.mul_one, Nat.add_zero] at this
    rw [this]
    simp [List.getD, List.getElem?_eq_getElem hj]
  have hsp : ad.spot = none := by
    have := hcell w h.now 0 (by omega)
    simp only [Addr.add, if_true] at this
    unfold World.cell? at this
    split at this
    · split at this
      · cases this
      · rename_i hs; cases hh : ad.spot <;> simp_all
    · cases this
  refine ⟨ad, hA, ?_⟩
  simp only [Rep, Reps, Nat.mul_one]
  refine ⟨_, [.int k (l.getD i.toNat 0)], rfl, add_spot ad hsp _, Foot.imp h fun W' hC j u hu => ?_, _, [], rfl, rfl, rfl⟩
  cases j with
  | zero =>
    simp only [List.getElem?_cons_zero, Option.some.injEq] at hu
    subst hu
    simp only [Addr.add, if_true]
    exact hcell W' hC i.toNat (by omega)
  | succ j => simp at hu
theorem trip_indexRow {t e : Nat} {k : IntKind} {l : List Int} {x i : Operand} {R : Type} {K : AV → Option R} {r : R} (ho : o.op = .indexAddr t x i) (hu : P.underlying t = some (.slice e)) (hs : sz P e = some 1) (hx : ev σ x = .row k l) (h : indexA (.row k l) (ev σ i) K = some r) :
    ∃ v, Trip P N new σ o (val v) ∧ K v = some r := by
  unfold indexA at h
  split at h
  · rename_i k' l' kk n e1 e2
    injection e1 with e1 e1'
    subst e1 e1'
    split at h
    · rename_i hb
      refine ⟨_, trip_p fun {w ok φ a} hy => ?_, h⟩
      have h1 := hy x (by simp [ho, Op.operands])
      have h2 := hy i (by simp [ho, Op.operands])
      rw [hx] at h1
      rw [e2] at h2
      simp only [Rep] at h1 h2
      obtain ⟨A, c, f1, f2, f3⟩ := h1
      obtain ⟨ad, rfl, hr⟩ := row_at f3 hb.1 hb.2
      exact ⟨_, by simp only [execOp, ho, f1, h2]; exact run_v (indexAt_run hu hs hb.1 hb.2 w), hr⟩
    · cases h
  · rename_i e1 _; cases e1
  · cases h
theorem trip_indexArr {t e n : Nat} {l : List AV} {x i : Operand} {R : Type} {K : AV → Option R} {r : R} (ho : o.op = .indexAddr t x i) (hu : P.underlying t = some (.slice e)) (hs : sz P e = some n) (hx : ev σ x = .arr n l) (h : indexA (.arr n l) (ev σ i) K = some r) :
    ∃ v, Trip P N new σ o (val v) ∧ K v = some r := by
  unfold indexA at h
  split at h
  · rename_i e1 _; cases e1
  · rename_i s' l' kk j e1 e2
    injection e1 with e1 e1'
    subst e1 e1'
    split at h
    · rename_i hb
      obtain ⟨hb0, hb1, hb2⟩ := hb
      refine ⟨_, trip_p fun {w ok φ a} hy => ?_, h⟩
      have h1 := hy x (by simp [ho, Op.operands])
      have h2 := hy i (by simp [ho, Op.operands])
      rw [hx] at h1
      rw [e2] at h2
      simp only [Rep] at h1 h2
      obtain ⟨ad, m, c, vs, f1, f2, f3, f4, f5, f6⟩ := h1
      have hjm : j < m := by
        have : (j + 1) * n ≤ (m : Int) * n := by rw [← Int.natCast_mul, f3]; exact hb2
        have := Int.le_of_mul_le_mul_right this (by omega : (0 : Int) < n)
        omega
      have hlen := f6.length
      have hsp : ad.spot = none := by
        have h3 := f5.now 0 _ (List.getElem?_eq_getElem (by
          rw [hlen, ← f3]
          exact Nat.mul_pos (by omega) hb0))
        simp only [Addr.add, if_true] at h3
        unfold World.cell? at h3
        split at h3
        · split at h3
          · cases h3
          · rename_i hs; cases hh : ad.spot <;> simp_all
        · cases h3
      refine ⟨_, by simp only [execOp, ho, f1, h2]; exact run_v (indexAt_run hu hs hb1 hjm w), ?_⟩
      simp only [Rep]
      refine ⟨_, (vs.drop (j.toNat * n)).take n, rfl, add_spot ad hsp _, Foot.imp f5 fun W' hW q u hq => ?_, (f6.drop _).take _⟩
      rw [List.getElem?_take] at hq
      split at hq
      · exact reads_drop hsp _ hW q u hq
      · cases hq
    · cases h
  · cases h
theorem trip_index {t : Nat} {x i : Operand} {s : ByteArray} {k : IntKind} {n : Int} (ho : o.op = .index t x i) (hu : P.underlying t = some .string) (hx : ev σ x = .str s) (hi : ev σ i = .int k n) (h0 : 0 ≤ n) (h1 : n < s.size) :
    Trip P N new σ o (val (.int .u8 ((s.data.getD n.toNat 0).toNat))) :=
  trip_p fun {w ok φ a} hy => by
    have h2 := hy x (by simp [ho, Op.operands])
    have h3 := hy i (by simp [ho, Op.operands])
    rw [hx] at h2
    rw [hi] at h3
    simp only [Rep] at h2 h3
    have hlt : n.toNat < s.size := by omega
    have hg : s[n.toNat]? = some (s.data.getD n.toNat 0) := by
      rw [getElem?_pos s n.toNat hlt]
      have : s.data.size = s.size := rfl
      simp [Array.getD, this, hlt]
      rfl
    refine ⟨.int .u8 ((s.data.getD n.toNat 0).toNat), ?_, by simp only [Rep]⟩
    simp only [execOp, ho, h2, h3]
    refine run_v ?_
    simp [Instr.index, asIntOf, run_underlying hu, h0, hg]
theorem trip_extract {x : Operand} {i : Nat} {l : List AV} {v : AV} (ho : o.op = .extract x i) (hx : ev σ x = .tup l) (hl : l[i]? = some v) : Trip P N new σ o (val v) :=
  trip_p fun {w ok φ a} hy => by
    have h1 := hy x (by simp [ho, Op.operands])
    rw [hx] at h1
    simp only [Rep] at h1
    obtain ⟨cs, e1, e2⟩ := h1
    obtain ⟨u, k1, k2⟩ := e2.get i hl
    refine ⟨u, ?_, k2⟩
    simp only [execOp, ho, e1]
    refine run_v ?_
    have : cs[i]? = some u := by simpa using k1
    simp [Instr.extract, this]
theorem part_run {t off : Nat} {cs : List AV} {x : AV} {cells : Array Value} {φ : Nat → Option Nat} {w : World} {ok : Nat → Prop} (h : loadA P t (cs.drop off) = some x) (hr : Reps φ w ok cs cells.toList) : ∃ v, (part t cells off).run P w = .ok v w ∧ Rep φ w ok x v := by
  have hd := hr.drop off
  unfold loadA at h
  split at h
  · cases h
  rename_i hu
  have hu' : (P.underlying t).isNone = false := by revert hu; cases P.underlying t <;> simp
  split at h
  · rename_i ha
    split at h
    · rename_i n hn
      split at h
      · injection h with h
        subst h
        refine ⟨.agg (cells.extract off (off + n)), ?_, ?_⟩
        · simp [part, run_isAgg' hu', ha, run_sizeOf' hn]
        · simp only [Rep]
          refine ⟨_, rfl, ?_⟩
          have := hd.take n
          simpa [Array.toList_extract] using this
      · cases h
    · cases h
  · rename_i ha
    cases hc : cs.drop off with
    | nil => rw [hc] at h; simp at h
    | cons y l =>
      rw [hc] at h hd
      simp at h
      subst h
      simp only [Reps] at hd
      obtain ⟨v, vs', e, h2, h3⟩ := hd
      have hv : cells[off]? = some v := by
        have := congrArg (·[0]?) e
        simpa using this
      exact ⟨v, by simp [part, run_isAgg' hu', ha, hv], h2⟩
theorem trip_field {s f : Nat} {x : Operand} {fs : Array Field} {fd : Field} {cs : List AV} {v : AV} (ho : o.op = .field s x f) (hf : fieldsOf P s = some fs) (hfd : fs[f]? = some fd) (hx : ev σ x = .agg cs) (hl : loadA P fd.type (cs.drop fd.offset) = some v) : Trip P N new σ o (val v) :=
  trip_p fun {w ok φ a} hy => by
    have h1 := hy x (by simp [ho, Op.operands])
    rw [hx] at h1
    simp only [Rep] at h1
    obtain ⟨cells, e1, e2⟩ := h1
    obtain ⟨u, k1, k2⟩ := part_run hl e2
    have hu : P.underlying s = some (.struct fs) := by
      unfold fieldsOf at hf
      split at hf
      · rename_i gs hg
        injection hf with hf
        subst hf
        exact hg
      · cases hf
    refine ⟨u, ?_, k2⟩
    simp [execOp, ho, Instr.field, run_underlying hu, e1, asAgg, hfd, k1]
end
def PureC (P : Program) (f : Nat) (xs : List AV) (r : AV) : Prop :=
  ∀ (w : World) (P0 : Nat → Prop) (vs : Array Value), Reps (fun _ => none) w P0 xs vs.toList →
    Calls P f vs w fun e w' => ∃ v, e = .returned v ∧ Below w.heap.size w w' ∧ Rep (fun _ => none) w' (fun k => P0 k ∨ w.heap.size ≤ k) r v
def callable (P : Program) (g : Nat) : Bool :=
  match P.funcs[g]? with
  | some fn => !(fn.name == "runtime.NumGoroutine") && fn.body.isSome
  | none => false
def FunOk (P : Program) (g : Nat) (F : Fun) : Prop := callable P g = true ∧ (∀ (R : Type) xs (K : AV → Option R), F R xs K = (F AV xs some).bind K) ∧ ∀ xs x, F AV xs some = some x → PureC P g xs x
theorem FunOk.at_ {P : Program} {g : Nat} {F : Fun} (h : FunOk P g F) {R : Type} {xs : List AV} {K : AV → Option R} {r : R} (hr : F R xs K = some r) : ∃ x, PureC P g xs x ∧ K x = some r := by
  rw [h.2.1] at hr
  obtain ⟨x, h1, h2⟩ := Option.bind_eq_some_iff.1 hr
  exact ⟨x, h.2.2 _ _ h1, h2⟩
def TOk (P : Program) (T : Tab) : Prop := ∀ g F, T g = some F → FunOk P g F
section
variable {P : Program} {N new : Nat} {σ : Nat → AV} {o : Oper}
theorem lenA_rep {φ : Nat → Option Nat} {w : World} {ok : Nat → Prop} {x v : AV} {u : Value} (h : lenA x = some v) (hn : ∀ s, x ≠ .str s) (hr : Rep φ w ok x u) : ∃ A n c, u = .slice A n c ∧ v = .int .i64 (n : Nat) := by
  cases x <;> simp only [lenA] at h <;> try (cases h; done)
  · exact absurd rfl (hn _)
  · injection h with h
    subst h
    simp only [Rep] at hr
    exact ⟨none, 0, 0, hr, rfl⟩
  · injection h with h
    subst h
    simp only [Rep] at hr
    obtain ⟨A, c, e1, _⟩ := hr
    exact ⟨A, _, c, e1, rfl⟩
  · split at h
    · cases h
    · rename_i hs
      injection h with h
      subst h
      simp only [Rep] at hr
      obtain ⟨a, n, c, vs, e1, _, e3, _⟩ := hr
      refine ⟨some a, n, c, e1, ?_⟩
      rw [← e3, Nat.mul_div_cancel _ (by omega)]
theorem trip_len {c : Call} {x : Operand} {t e : Nat} {v : AV} (ho : o.op = .call c) (hc : c.callee = .builtin .len) (ha : c.args = #[x]) (ht : c.argTypes[0]? = some t) (hu : P.underlying t = some (.slice e)) (hl : lenA (ev σ x) = some v) (hn : ∀ s, ev σ x ≠ .str s) : Trip P N new σ o (val v) :=
  trip_p fun {w ok φ a} hy => by
    have h1 := hy x (by simp [ho, Op.operands, Call.operands, hc, ha])
    obtain ⟨A, n, cc, e1, rfl⟩ := lenA_rep hl hn h1
    refine ⟨.int .i64 (n : Nat), ?_, by simp only [Rep]⟩
    simp [execOp, ho, resolve, hc, ha, invoke, builtin, e1, Builtin.len_, ht, run_underlying hu, goInt]
theorem trip_lenS {c : Call} {x : Operand} {t : Nat} {s : ByteArray} (ho : o.op = .call c) (hc : c.callee = .builtin .len) (ha : c.args = #[x]) (ht : c.argTypes[0]? = some t) (hu : P.underlying t = some .string) (hx : ev σ x = .str s) : Trip P N new σ o (val (.int .i64 (s.size : Nat))) :=
  trip_p fun {w ok φ a} hy => by
    have h1 := hy x (by simp [ho, Op.operands, Call.operands, hc, ha])
    rw [hx] at h1
    simp only [Rep] at h1
    refine ⟨.int .i64 (s.size : Nat), ?_, by simp only [Rep]⟩
    simp [execOp, ho, resolve, hc, ha, invoke, builtin, h1, Builtin.len_, ht, run_underlying hu, goInt]
theorem trip_max {c : Call} {x y : Operand} {k k' : IntKind} {m n : Int} (ho : o.op = .call c) (hc : c.callee = .builtin .max) (ha : c.args = #[x, y]) (hx : ev σ x = .int k m) (hy' : ev σ y = .int k' n) : Trip P N new σ o (val (.int k (if n > m then n else m))) :=
  trip_p fun {w ok φ a} hy => by
    have h1 := hy x (by simp [ho, Op.operands, Call.operands, hc, ha])
    have h2 := hy y (by simp [ho, Op.operands, Call.operands, hc, ha])
    rw [hx] at h1
    rw [hy'] at h2
    simp only [Rep] at h1 h2
    refine ⟨.int k (if n > m then n else m), ?_, by simp only [Rep]⟩
    simp [execOp, ho, resolve, hc, ha, invoke, builtin, h1, h2, Builtin.max_, Builtin.max2]
theorem trip_min {c : Call} {x y : Operand} {k k' : IntKind} {m n : Int} (ho : o.op = .call c) (hc : c.callee = .builtin .min) (ha : c.args = #[x, y]) (hx : ev σ x = .int k m) (hy' : ev σ y = .int k' n) : Trip P N new σ o (val (.int k (if n < m then n else m))) :=
  trip_p fun {w ok φ a} hy => by
    have h1 := hy x (by simp [ho, Op.operands, Call.operands, hc, ha])
    have h2 := hy y (by simp [ho, Op.operands, Call.operands, hc, ha])
    rw [hx] at h1
    rw [hy'] at h2
    simp only [Rep] at h1 h2
    refine ⟨.int k (if n < m then n else m), ?_, by simp only [Rep]⟩
    simp [execOp, ho, resolve, hc, ha, invoke, builtin, h1, h2, Builtin.min_, Builtin.min2]
theorem trip_call {c : Call} {f : Operand} {g : Nat} {x : AV} (ho : o.op = .call c) (hc : c.callee = .value f) (hf : ev σ f = .fn g) (hcl : callable P g = true) (hn : noPtrs (c.args.toList.map (ev σ)) = true) (hP : PureC P g (c.args.toList.map (ev σ)) x) : Trip P N new σ o (val x) := by
  intro B P0 w0 w fresh φ a σ' h1 h2 hs hfr hd next Q hk
  have hmem : ∀ y ∈ c.args.toList, y ∈ o.op.operands := fun y hy => by simp [ho, Op.operands, Call.operands, hc]; right; simpa using hy
  have hf1 := hs.ev f
  rw [ev_agree h1 (by simp [ho, Op.operands, Call.operands, hc]), hf] at hf1
  simp only [Rep] at hf1
  have hargs : ∀ (l : List Operand), (∀ y ∈ l, y ∈ o.op.operands) → Reps φ w (Ok B P0 φ) (l.map (ev σ)) (l.map a.eval) := by
    intro l
    induction l with
    | nil => intro _; simp [Reps]
    | cons y l ih =>
      intro hy
      simp only [List.map_cons, Reps]
      have := hs.ev y
      rw [ev_agree h1 (hy y List.mem_cons_self)] at this
      exact ⟨_, _, rfl, this, ih fun z hz => hy z (List.mem_cons_of_mem _ hz)⟩
  have hR := Reps.free (φ' := fun _ => none) _ hn (hargs c.args.toList hmem)
  have hcalls := hP w (Ok B P0 φ) (c.args.map a.eval) (by simpa using hR)
  unfold callable at hcl
  split at hcl
  · rename_i fn hfn
    simp only [Bool.and_eq_true, Bool.not_eq_true'] at hcl
    have hb : fn.body.isNone = false := by cases hbb : fn.body <;> simp_all
    have hrun : (execOp a.eval o).run P w = .ok (.enter g (c.args.map a.eval)) w := by
      have hnm : fn.name ≠ "runtime.NumGoroutine" := by simpa using hcl.1
      have hbn : fn.body ≠ none := by intro hbb; simp [hbb] at hb
      simp [execOp, ho, resolve, hc, hf1, Deferred.ofValue, invoke, callFunc, hfn, hnm, hbn]
    unfold Oper.wp
    rw [hrun]
    refine Calls.mono hcalls fun e w' he => ?_
    obtain ⟨v, rfl, hbw, hv⟩ := he
    refine hk φ v w' ?_
    have hs2 := hs.world (w' := w') (hbw.mono hs.base) hbw.size (fun k hk => hbw.block k hk)
    refine St.less (St.put hs2 hd (fun _ _ => Rep.move (fun h b hh => by cases hh) (fun k hk _ => ?_) (fun _ _ _ => rfl) _ hv)) (fun k (hk : fresh k ∧ k ≠ new) => hk.1)
    rcases hk with hk | hk
    · exact hk
    · exact ⟨.inr (Nat.le_trans hs.base hk), fun h hh => by have := (hs.own h k hh).2; omega⟩
  · cases hcl
theorem put_comm (σ : Nat → AV) (dst : Option Tmp) (x y : AV) (n : Nat) : putT (upd σ (2 * n + 1) y) dst x = upd (putT σ dst x) (2 * n + 1) y := by
  cases dst with
  | none => rfl
  | some d =>
    funext z
    simp only [putT, upd_eq]
    split <;> split <;> first | rfl | omega
theorem trip_new {cs : List AV} (h : ∀ {w : World} {ok : Nat → Prop} {φ : Nat → Option Nat} {a : Act}, (∀ y ∈ o.op.operands, Rep φ w ok (ev σ y) (a.eval y)) →
    ∃ vs t, (execOp a.eval o).run P w = .ok (.value (.pointer (some ⟨w.heap.size, 0, none⟩))) (w.alloc (.cells vs t (0, 0))) ∧ Reps φ w ok cs vs.toList) : Trip P N new σ o ⟨.ptr new 0, [], some (new, .agg cs)⟩ := by
  intro B P0 w0 w fresh φ a σ' h1 h2 hs hfr hd next Q hk
  obtain ⟨vs, t, hr, hv⟩ := h (fun y hy => by rw [← ev_agree h1 hy]; exact hs.ev y)
  obtain ⟨φ', hs2, hφ⟩ := hs.new hfr hv t
  refine wp_value hr (hk φ' _ _ ?_)
  have := St.put hs2 hd (x := .ptr new 0) (v := .pointer (some ⟨w.heap.size, 0, none⟩)) (fun _ _ => by simp only [Rep]; exact ⟨_, hφ, rfl⟩)
  rw [put_comm] at this
  exact this
theorem trip_alloc {t : Nat} {cs : List AV} (ho : o.op = .alloc t) (hz : zeroCells' P t = some cs) : Trip P N new σ o ⟨.ptr new 0, [], some (new, .agg cs)⟩ :=
  trip_new fun {w ok φ a} hy => by
    obtain ⟨it, z, h1, h2, h3, _⟩ := zeroCells_rep (φ := φ) hz w ok
    refine ⟨z.cells, t, ?_, h3⟩
    simp only [execOp, ho]
    refine run_v ?_
    simp [Instr.alloc, zeroValue, typeInfo, h1, h2, newVar, newRow, newObj, Sem.run]
theorem trip_box {t : Nat} {x : Operand} {cs : List AV} (ho : o.op = .box t x) (hc : cellsOf (ev σ x) = some cs) : Trip P N new σ o ⟨.ptr new 0, [], some (new, .agg cs)⟩ :=
  trip_new fun {w ok φ a} hy => by
    obtain ⟨h1, _⟩ := cellsOf_rep hc (hy x (by simp [ho, Op.operands]))
    refine ⟨(a.eval x).cells, t, ?_, h1⟩
    simp only [execOp, ho]
    refine run_v ?_
    simp [Instr.box, newVar, newRow, newObj, Sem.run]
theorem reads_block {w : World} {b off : Nat} {vs : Array Value} {e : Nat} {fr : Nat × Nat} (h : w.heap[b]? = some (.cells vs e fr)) : Reads ⟨b, off, none⟩ (vs.toList.drop off) w := fun i u hu => by
  have : (⟨b, off, none⟩ : Addr).add i = ⟨b, off + i, none⟩ := by unfold Addr.add; split <;> simp_all
  rw [this]
  rw [List.getElem?_drop] at hu
  simp [World.cell?, h]
  simpa using hu
theorem trip_load {t h off : Nat} {x : Operand} {cs : List AV} {v : AV} (ho : o.op = .load t x) (hx : ev σ x = .ptr h off) (hb : σ (2 * h + 1) = .agg cs) (hl : loadA P t (cs.drop off) = some v) : Trip P N new σ o ⟨v, [h], none⟩ := by
  intro B P0 w0 w fresh φ a σ' h1 h2 hs hfr hd next Q hk
  have hp := hs.ev x
  rw [ev_agree h1 (by simp [ho, Op.operands]), hx] at hp
  simp only [Rep] at hp
  obtain ⟨b, e1, e2⟩ := hp
  obtain ⟨b', vs, e, f1, f2, f3⟩ := hs.boxes h cs (by rw [h2 h (by simp), hb])
  rw [e1] at f1
  injection f1 with f1
  subst f1
  obtain ⟨u, k1, k2⟩ := loadVar_run hl (f3.drop off) (reads_block f2)
  refine wp_value (v := u) (w' := w) (by simp [execOp, ho, e2, Instr.loadAt, Instr.sureAddr, k1]) (hk φ u w ?_)
  exact St.less (St.put hs hd (fun _ _ => k2)) (fun k (hk : fresh k ∧ k ≠ new) => hk.1)
theorem trip_store {t h off : Nat} {x y : Operand} {cs vs : List AV} (ho : o.op = .store t x y) (hx : ev σ x = .ptr h off) (hb : σ (2 * h + 1) = .agg cs) (hy : cellsOf (ev σ y) = some vs) (hsz : sz P t = some vs.length) (hle : off + vs.length ≤ cs.length) :
    Trip P N new σ o ⟨.any, [h], some (h, .agg (setL cs off vs))⟩ := by
  intro B P0 w0 w fresh φ a σ' h1 h2 hs hfr hd next Q hk
  have hp := hs.ev x
  rw [ev_agree h1 (by simp [ho, Op.operands]), hx] at hp
  simp only [Rep] at hp
  obtain ⟨b, e1, e2⟩ := hp
  obtain ⟨b', old, e, f1, f2, f3⟩ := hs.boxes h cs (by rw [h2 h (by simp), hb])
  rw [e1] at f1
  injection f1 with f1
  subst f1
  have hv := hs.ev y
  rw [ev_agree h1 (by simp [ho, Op.operands])] at hv
  obtain ⟨g1, g2⟩ := cellsOf_rep hy hv
  have gl := g1.length
  have ol := f3.length
  have hst := run_storeCells_at P b off e (a.eval y).cells.toList 0 old w f2 (by simp only [Nat.add_zero]; simp at ol; omega) g2
  simp only [Nat.add_zero] at hst
  have hsv : (storeVar t ⟨b, off, none⟩ (a.eval y)).run P w = .ok () (w.setRow b (old.toList.take off ++ (a.eval y).cells.toList ++ old.toList.drop (off + (a.eval y).cells.toList.length)).toArray) := by
    simp at gl
    simp [storeVar, run_sizeOf' hsz, gl]
    simpa [gl] using hst
  generalize hw : w.setRow b (old.toList.take off ++ (a.eval y).cells.toList ++ old.toList.drop (off + (a.eval y).cells.toList.length)).toArray = w1 at hsv
  refine wp_skip' (w' := w1) (by simp [execOp, ho, e2, Instr.storeAt, Instr.sureAddr, hsv]) (hk φ undef w1 ?_)
  have hother : ∀ k, k ≠ b → w1.heap[k]? = w.heap[k]? := fun k hk => by rw [← hw]; exact setRow_other w b k _ hk
  have hhere : w1.heap[b]? = some (.cells (old.toList.take off ++ (a.eval y).cells.toList ++ old.toList.drop (off + (a.eval y).cells.toList.length)).toArray e (0, 0)) := by rw [← hw]; exact setRow_heap w b old _ e _ f2
  have hsize : w1.heap.size = w.heap.size := by rw [← hw]; simp [World.setRow]
  have hokb : ∀ k, Ok B P0 φ k → k ≠ b := fun k hk hkb => hk.2 h (by rw [hkb]; exact e1)
  have hbB := (hs.own h b e1).1
  have mv : ∀ {z : AV} {u : Value}, Rep φ w (Ok B P0 φ) z u → Rep φ w1 (Ok B P0 φ) z u := fun hz => Rep.move (fun _ _ h => h) (fun _ h _ => h) (fun k hk _ => hother k (hokb k hk)) _ hz
  have mvs : ∀ {z : List AV} {u : List Value}, Reps φ w (Ok B P0 φ) z u → Reps φ w1 (Ok B P0 φ) z u := fun hz => Reps.move (fun _ _ h => h) (fun _ h _ => h) (fun k hk _ => hother k (hokb k hk)) _ hz
  have hs1 : St N B P0 w0 fresh (upd σ' (2 * h + 1) (.agg (setL cs off vs))) φ a w1 :=
    { below := hs.below.trans ⟨by rw [← hw]; rfl, by rw [← hw]; rfl, by rw [← hw]; rfl, by omega, fun k hk => hother k (by omega)⟩
      base := by rw [hsize]; exact hs.base
      defers := hs.defers
      size := hs.size
      tmps := fun t => by
        simp only [upd_eq]
        rw [if_neg (by omega)]
        exact mv (hs.tmps t)
      boxes := fun h' cs' hk' => by
        simp only [upd_eq] at hk'
        by_cases hh : h' = h
        · subst hh
          rw [if_pos rfl] at hk'
          injection hk' with hk'
          subst hk'
          refine ⟨b, _, e, e1, hhere, ?_⟩
          unfold setL
          rw [gl]
          exact Reps.append (Reps.append (mvs (f3.take off)) (mvs g1)) (mvs (f3.drop _))
        · rw [if_neg (by omega)] at hk'
          obtain ⟨b2, vs2, e3, q1, q2, q3⟩ := hs.boxes h' cs' hk'
          refine ⟨b2, vs2, e3, q1, ?_, mvs q3⟩
          rw [hother b2 (fun hb2 => hh (hs.inj h' h b (by rw [← hb2]; exact q1) e1))]
          exact q2
      own := fun h' b2 q => by rw [hsize]; exact hs.own h' b2 q
      inj := hs.inj
      fr := hs.fr }
  have := St.put hs1 hd (x := .any) (v := undef) (fun _ _ => by simp only [Rep])
  rw [put_comm] at this
  exact St.less this (fun k (hk : fresh k ∧ k ≠ new) => hk.1)
end
section
variable {P : Program} {N new : Nat} {σ : Nat → AV} {o : Oper}
theorem row_new {φ : Nat → Option Nat} {w : World} {B : Nat} {P0 : Nat → Prop} {k : IntKind} {is : List Int} {cells : Array Value} {e : Nat} (hc : cells.toList = is.map (Value.int k)) (hl : is.length < 100000) (hB : B ≤ w.heap.size) (hφ : ∀ h b, φ h = some b → b < w.heap.size) :
    Kd.F (Kd.int k) (w.alloc (.cells cells e (0, 0))) (Ok B P0 φ) (some ⟨w.heap.size, 0, none⟩) is.length is := by
  intro W' hW
  have hnew : (w.alloc (.cells cells e (0, 0))).heap[w.heap.size]? = some (.cells cells e (0, 0)) := by show (w.heap.push _)[w.heap.size]? = _; simp
  have hg := hW w.heap.size ⟨.inr hB, fun h hh => by have := hφ h _ hh; omega⟩ (by show _ < (w.heap.push _).size; simp)
  rw [hnew] at hg
  refine ⟨rfl, by omega, fun _ => ⟨_, rfl, fun j p hj => ⟨[.int k p], rfl, rfl, fun i u hu => ?_⟩⟩⟩
  cases i with
  | succ i => simp at hu
  | zero =>
    simp only [List.getElem?_cons_zero, Option.some.injEq] at hu
    subst hu
    have := reads_block (off := 0) hg j (.int k p) (by rw [List.drop_zero, hc, List.getElem?_map, hj]; rfl)
    simpa [Kd.int, Kd.scalar] using this
theorem buildSlice_run {t e n : Nat} {len : Nat} {parts : Array (Nat × Operand)} {l : List AV} {φ : Nat → Option Nat} {w : World} {ok : Nat → Prop} {a : Act} (hu : P.underlying t = some (.slice e)) (hs : sz P e = some n) (hp : parts.size = len) (hn : 0 < n) (hsm : len * n < 100000) (hz : (zeroCells' P e).isSome = true) (hl : partsOf n σ 0 parts.toList = some l)
    (hev : ∀ p ∈ parts.toList, Rep φ w ok (ev σ p.2) (a.eval p.2)) : ∃ cells : Array Value, (Instr.buildSlice t len (parts.map fun (i, x) => (i, a.eval x))).run P w = .ok (.slice (some ⟨w.heap.size, 0, none⟩) len len) (w.alloc (.cells cells e (0, 0))) ∧
      Reps φ w ok l cells.toList ∧ cells.size = len * n ∧ noPtrs l = true := by
  obtain ⟨zz, hzz⟩ := Option.isSome_iff_exists.1 hz
  obtain ⟨it, z, hi, hz1, _, _⟩ := zeroCells_rep (φ := φ) hzz w ok
  obtain ⟨i2, hi2, hn2⟩ := sz_info hs
  rw [hi] at hi2
  injection hi2 with hi2
  subst hi2
  let zero : Array Value := if len * n = 0 then #[] else z.cells
  obtain ⟨cells, vs, f1, f2, f3, f4, f5, f6⟩ := partsOf_fill n parts.toList 0 l ((Array.range (len * n)).map (zero[· % zero.size]!)) hev hl (by simp [hp])
  have hcv : cells.toList = vs := by rw [f2]; simp
  refine ⟨cells, ?_, by rw [hcv]; exact f3, by rw [← Array.length_toList, hcv, f5]; simp [hp], f6⟩
  have hfill : Instr.fill (fun i => some (i * n, n)) ((Array.range (len * n)).map (zero[· % zero.size]!)) (parts.map fun (i, x) => (i, a.eval x)).toList = some cells := by
    rw [Array.toList_map]; exact f1
  have hbig : ¬ (2 ^ 24 < len * n) := by omega
  have r0 : Array.range 0 = #[] := rfl
  by_cases h0 : len * n = 0
  · have hf2 : Instr.fill (fun i => some (i * n, n)) #[] (List.map (fun x => (x.fst, a.eval x.snd)) parts.toList) = some cells := by
      have := hfill
      rw [h0, Array.toList_map, r0] at this
      simpa using this
    simp [Instr.buildSlice, run_underlying hu, run_sizeOf' hs, h0, r0, hf2, newRow, newObj, Sem.run]
  · have hf2 : Instr.fill (fun i => some (i * n, n)) (Array.map (fun x => z.cells[x % z.cells.size]!) (Array.range (len * n))) (List.map (fun x => (x.fst, a.eval x.snd)) parts.toList) = some cells := by
      have := hfill
      simp only [zero, if_neg h0] at this
      rw [Array.toList_map] at this
      exact this
    simp [Instr.buildSlice, run_underlying hu, run_sizeOf' hs, h0, hbig, zeroValue, typeInfo, hi, hz1, hf2, newRow, newObj, Sem.run]
theorem trip_row {t e len : Nat} {k : IntKind} {parts : Array (Nat × Operand)} {l : List AV} {is : List Int} (ho : o.op = .buildSlice t len parts) (hu : P.underlying t = some (.slice e)) (hs : sz P e = some 1) (hp : parts.size = len) (hsm : len * 1 < 100000) (hz : (zeroCells' P e).isSome = true) (hl : partsOf 1 σ 0 parts.toList = some l) (hi : asInts k l = some is) :
    Trip P N new σ o (val (.row k is)) :=
  trip_w fun {B P0 w φ a} hy hB hφ => by
    have hev : ∀ p ∈ parts.toList, Rep φ w (Ok B P0 φ) (ev σ p.2) (a.eval p.2) := fun p hp => hy p.2 (by simp only [ho, Op.operands]; simp; exact ⟨p.1, by simpa using hp⟩)
    obtain ⟨cells, h1, h2, h3, h4⟩ := buildSlice_run hu hs hp (by omega) hsm hz hl hev
    have hc := asInts_vals hi h2
    have hlen : is.length = len := by have := congrArg List.length hc; simp at this; omega
    refine ⟨_, _, by simp only [execOp, ho]; exact run_v h1, (Below.refl _ _).alloc (Nat.le_refl _) _, ?_⟩
    simp only [Rep]
    refine ⟨some ⟨w.heap.size, 0, none⟩, len, by rw [hlen], by omega, row_new hc (by omega) hB hφ⟩
theorem trip_arr {t e len n : Nat} {parts : Array (Nat × Operand)} {l : List AV} (ho : o.op = .buildSlice t len parts) (hu : P.underlying t = some (.slice e)) (hs : sz P e = some n) (hp : parts.size = len) (hn : 0 < n) (hsm : len * n < 100000) (hz : (zeroCells' P e).isSome = true) (hl : partsOf n σ 0 parts.toList = some l) :
    Trip P N new σ o (val (.arr n l)) :=
  trip_w fun {B P0 w φ a} hy hB hφ => by
    have hev : ∀ p ∈ parts.toList, Rep φ w (Ok B P0 φ) (ev σ p.2) (a.eval p.2) := fun p hp => hy p.2 (by simp only [ho, Op.operands]; simp; exact ⟨p.1, by simpa using hp⟩)
    obtain ⟨cells, h1, h2, h3, h4⟩ := buildSlice_run hu hs hp hn hsm hz hl hev
    have hl2 := h2.length
    have hm : ∀ k, k < w.heap.size → (w.alloc (.cells cells e (0, 0))).heap[k]? = w.heap[k]? := fun k hk => Below.heap_alloc _ _ _ hk
    refine ⟨_, _, by simp only [execOp, ho]; exact run_v h1, (Below.refl _ _).alloc (Nat.le_refl _) _, ?_⟩
    simp only [Rep]
    have hlen : len ≤ len * n := Nat.le_mul_of_pos_right len hn
    refine ⟨_, len, len, cells.toList, rfl, Nat.le_refl _, by rw [← hl2, Array.length_toList, h3], by omega, fun W' hW => ?_, Reps.move (fun _ _ h => h) (fun _ h _ => h) (fun k _ hk => hm k hk) _ h2⟩
    have hnew : (w.alloc (.cells cells e (0, 0))).heap[w.heap.size]? = some (.cells cells e (0, 0)) := by show (w.heap.push _)[w.heap.size]? = _; simp
    have hg := hW w.heap.size ⟨.inr hB, fun h hh => by have := hφ h _ hh; omega⟩ (by show _ < (w.heap.push _).size; simp)
    rw [hnew] at hg
    have := reads_block (off := 0) hg
    simpa using this
theorem doOp_trip {T : Tab} (hT : TOk P T) {R : Type} {K : Eff → Option R} {r : R} (h : doOp P T new σ o K = some r) : ∃ e, Trip P N new σ o e ∧ K e = some r := by
  unfold doOp at h
  split at h
  · exact ⟨_, trip_move (.inl (by assumption)), h⟩
  · exact ⟨_, trip_move (.inr (by assumption)), h⟩
  · rename_i c x y ho
    split at h
    · rename_i b hc
      refine ⟨_, trip_pick ho hc, ?_⟩
      cases b <;> simpa using h
    · cases h
  · rename_i t ho
    split at h
    · exact ⟨_, trip_alloc ho (by assumption), h⟩
    · cases h
  · rename_i t x ho
    split at h
    · exact ⟨_, trip_box ho (by assumption), h⟩
    · cases h
  · rename_i t parts ho
    split at h
    · rename_i z pl hz hp
      split at h
      · exact ⟨_, trip_build ho hz hp (by assumption), h⟩
      · cases h
    · cases h
  · rename_i t len parts ho
    split at h
    · rename_i e hu
      split at h
      · rename_i n hn
        split at h
        · rename_i hcc
          obtain ⟨c1, c2, c3, c4⟩ := hcc
          split at h
          · rename_i l hl
            split at h
            · split at h
              · rename_i is his
                split at h
                · rename_i hn1
                  subst hn1
                  exact ⟨_, trip_row ho hu hn c1 c3 c4 hl his, h⟩
                · cases h
              · cases h
            · exact ⟨_, trip_arr ho hu hn c1 c2 c3 c4 hl, h⟩
          · cases h
        · cases h
      · cases h
    · cases h
  · rename_i t x ho
    split at h
    · rename_i hh off hx
      split at h
      · rename_i cs hb
        split at h
        · exact ⟨_, trip_load ho hx hb (by assumption), h⟩
        · cases h
      · cases h
    · rename_i cs hx
      split at h
      · exact ⟨_, trip_load_at ho hx (by assumption), h⟩
      · cases h
    · cases h
  · rename_i t x y ho
    split at h
    · rename_i hh off hx
      split at h
      · rename_i cs vs hb hy
        split at h
        · rename_i hc
          exact ⟨_, trip_store ho hx hb hy hc.1 hc.2, h⟩
        · cases h
      · cases h
    · cases h
  · exact trip_binA (by assumption) h
  · split at h
    · exact ⟨_, trip_un (by assumption) (by assumption), h⟩
    · cases h
  · split at h
    · exact ⟨_, trip_convert (k := 0) (by assumption) (by assumption) (by assumption) (by assumption), h⟩
    · cases h
  · rename_i s x f ho
    split at h
    · rename_i off n hf
      split at h
      · exact ⟨_, trip_fieldAddr ho hf (by assumption), h⟩
      · exact ⟨_, trip_fieldAt ho hf (by assumption), h⟩
      · cases h
    · cases h
  · rename_i s x f ho
    split at h
    · rename_i fs cs hf hx
      split at h
      · rename_i fd hfd
        split at h
        · exact ⟨_, trip_field ho hf hfd hx (by assumption), h⟩
        · cases h
      · cases h
    · cases h
  · rename_i t x i ho
    split at h
    · rename_i e hu
      split at h
      · rename_i k l hs hx
        obtain ⟨v, h1, h2⟩ := trip_indexRow (N := N) (new := new) ho hu hs hx h
        exact ⟨_, h1, h2⟩
      · rename_i n s l hs hx
        split at h
        · rename_i hns
          subst hns
          obtain ⟨v, h1, h2⟩ := trip_indexArr (N := N) (new := new) ho hu hs hx h
          exact ⟨_, h1, h2⟩
        · cases h
      · cases h
    · cases h
  · rename_i t x i ho
    split at h
    · rename_i s k n hu hx hi
      split at h
      · rename_i hc
        exact ⟨_, trip_index ho hu hx hi hc.1 hc.2, h⟩
      · cases h
    · cases h
  · rename_i x i ho
    split at h
    · rename_i l hx
      split at h
      · exact ⟨_, trip_extract ho hx (by assumption), h⟩
      · cases h
    · cases h
  · rename_i c ho
    split at h
    · rename_i hc
      split at h
      · rename_i x t ha ht
        have ha' : c.args = #[x] := by rw [← Array.toList_inj]; exact ha
        split at h
        · rename_i e v hu hl
          split at h
          · cases h
          · rename_i hns
            exact ⟨_, trip_len ho hc ha' ht hu hl (fun s hs => hns s hs), h⟩
        · rename_i v hu hl
          split at h
          · rename_i s hs
            rw [hs] at hl
            simp only [lenA, Option.some.injEq] at hl
            subst hl
            exact ⟨_, trip_lenS ho hc ha' ht hu hs, h⟩
          · cases h
        · cases h
      · cases h
    · rename_i hc
      split at h
      · rename_i x y ha
        have ha' : c.args = #[x, y] := by rw [← Array.toList_inj]; exact ha
        split at h
        · exact ⟨_, trip_min ho hc ha' (by assumption) (by assumption), h⟩
        · cases h
      · cases h
    · rename_i hc
      split at h
      · rename_i x y ha
        have ha' : c.args = #[x, y] := by rw [← Array.toList_inj]; exact ha
        split at h
        · exact ⟨_, trip_max ho hc ha' (by assumption) (by assumption), h⟩
        · cases h
      · cases h
    · rename_i f hc
      split at h
      · rename_i g hf
        split at h
        · rename_i F hF
          split at h
          · rename_i hn
            obtain ⟨x, h3, h4⟩ := (hT g F hF).at_ h
            exact ⟨_, trip_call ho hc hf (hT g F hF).1 hn h3, h4⟩
          · cases h
        · cases h
      · cases h
    · cases h
  · cases h
end
def Trip1 (P : Program) (N nh : Nat) (ops : Array Oper) (i : Nat) (σ : Nat → AV) (o : Oper) (e : Eff) : Prop :=
  ∀ {B : Nat} {P0 : Nat → Prop} {w0 w : World} {fresh : Nat → Prop} {φ : Nat → Option Nat} {a : Act} (σ' : Nat → AV), (∀ x ∈ rds ops o e, σ' x = σ x) → St N B P0 w0 fresh σ' φ a w → fresh (nh + i) →
    ∀ (next : Act → World → Prop) (Q : Exit → Act → World → Prop), (∀ φ' v w', St N B P0 w0 (fun k => fresh k ∧ k ≠ nh + i) (put σ' o.dst e) φ' (a.put o.dst v) w' → next (a.put o.dst v) w') → wpOp P ops Q i next a w
section
variable {P : Program} {N nh : Nat} {ops : Array Oper} {T : Tab}
theorem yield_rep {B : Nat} {P0 : Nat → Prop} {w0 w : World} {fresh : Nat → Prop} {φ : Nat → Option Nat} {a : Act} {σ : Nat → AV} {j : Nat} {b : Bool} (hs : St N B P0 w0 fresh σ φ a w) (h : yieldA ops σ j = .bool b) : yielded ops a.tmps j = some b := by
  unfold yieldA at h
  unfold yielded
  split at h
  · rename_i t ht
    have h1 := hs.tmps t
    rw [h] at h1
    simp only [Rep] at h1
    rw [ht, Option.bind_some]
    rw [Array.getD_eq_getD_getElem?] at h1
    cases hq : a.tmps[t]? with
    | none => rw [hq] at h1; cases h1
    | some v => rw [hq] at h1; simp only [Option.getD_some] at h1; subst h1; rfl
  · cases h
theorem yield_undef {B : Nat} {P0 : Nat → Prop} {w0 w : World} {fresh : Nat → Prop} {φ : Nat → Option Nat} {a : Act} {σ : Nat → AV} {j : Nat} (hs : St N B P0 w0 fresh σ φ a w) (h : yieldA ops σ j = .tup []) : yielded ops a.tmps j = none := by
  unfold yieldA at h
  unfold yielded
  split at h
  · rename_i t ht
    have h1 := hs.tmps t
    rw [h] at h1
    simp only [Rep, Reps] at h1
    obtain ⟨cs, h1, _⟩ := h1
    rw [ht, Option.bind_some]
    rw [Array.getD_eq_getD_getElem?] at h1
    cases hq : a.tmps[t]? with
    | none => rfl
    | some v => rw [hq] at h1; simp only [Option.getD_some] at h1; subst h1; rfl
  · cases h
theorem oneOp_trip (hT : TOk P T) {i : Nat} {o : Oper} {σ : Nat → AV} {R : Type} {K : Eff → Option R} {r : R} (ho : ops[i]? = some o) (h : oneOp P T N nh ops i o σ K = some r) : ∃ e, Trip1 P N nh ops i σ o e ∧ K e = some r := by
  unfold oneOp at h
  split at h
  · rename_i hd
    have hd' : ∀ d, o.dst = some d → d < N := fun d hd1 => by simpa [dstOk, hd1] using hd
    have key : ∀ {e : Eff}, Trip P N (nh + i) σ o e → (∀ {B : Nat} {P0 : Nat → Prop} {w0 w : World} {fresh : Nat → Prop} {φ : Nat → Option Nat} {a : Act} (σ' : Nat → AV), (∀ x ∈ rds ops o e, σ' x = σ x) → St N B P0 w0 fresh σ' φ a w → Region.wanted o (yielded ops a.tmps) = true) → Trip1 P N nh ops i σ o e := by
      intro e ht hw B P0 w0 w fresh φ a σ' hag hs hf next Q hk
      unfold wpOp
      simp only [ho, hw σ' hag hs, if_true]
      refine .inl (ht σ' (fun t htm => hag _ ?_) (fun h hh => hag _ ?_) hs hf hd' next Q hk)
      · exact List.mem_append_left _ (List.mem_map.2 ⟨t, List.mem_append_left _ (List.mem_filterMap.2 ⟨.tmp t, by simpa using htm, rfl⟩), rfl⟩)
      · exact List.mem_append_right _ (List.mem_map.2 ⟨h, hh, rfl⟩)
    split at h
    · rename_i hg
      obtain ⟨e, h1, h2⟩ := doOp_trip (N := N) hT h
      exact ⟨e, key h1 (fun σ' _ _ => by simp [Region.wanted, hg]), h2⟩
    · rename_i j want hg
      have hread : ∀ {e : Eff} {b : Bool} {σ' : Nat → AV}, yieldA ops σ j = .bool b → (∀ x ∈ rds ops o e, σ' x = σ x) → yieldA ops σ' j = .bool b := by
        intro e b σ' hy hag
        unfold yieldA at hy ⊢
        split at hy
        · rename_i t ht
          rw [hag _ (List.mem_append_left _ (List.mem_map.2 ⟨t, List.mem_append_right _ (by simp [hg, ht]), rfl⟩))]
          exact hy
        · cases hy
      have hreadU : ∀ {e : Eff} {σ' : Nat → AV}, yieldA ops σ j = .tup [] → (∀ x ∈ rds ops o e, σ' x = σ x) → yieldA ops σ' j = .tup [] := by
        intro e σ' hy hag
        unfold yieldA at hy ⊢
        split at hy
        · rename_i t ht
          rw [hag _ (List.mem_append_left _ (List.mem_map.2 ⟨t, List.mem_append_right _ (by simp [hg, ht]), rfl⟩))]
          exact hy
        · cases hy
      split at h
      · rename_i b hy
        split at h
        · rename_i hb
          subst hb
          obtain ⟨e, h1, h2⟩ := doOp_trip (N := N) hT h
          exact ⟨e, key h1 (fun σ' hag hs => by simp [Region.wanted, hg, yield_rep hs (hread hy hag)]), h2⟩
        · rename_i hb
          refine ⟨val (.tup []), ?_, h⟩
          intro B P0 w0 w fresh φ a σ' hag hs hf next Q hk
          unfold wpOp
          have hw : Region.wanted o (yielded ops a.tmps) = false := by simp [Region.wanted, hg, yield_rep hs (hread hy hag), hb]
          simp only [ho, hw, Bool.false_eq_true, if_false]
          exact hk φ undef w (St.less (St.put hs hd' (fun _ _ => by simp only [val, Rep, Reps]; exact ⟨#[], rfl, rfl⟩)) (fun k (hk : fresh k ∧ k ≠ nh + i) => hk.1))
      · rename_i hy
        refine ⟨val (.tup []), ?_, h⟩
        intro B P0 w0 w fresh φ a σ' hag hs hf next Q hk
        unfold wpOp
        have hw : Region.wanted o (yielded ops a.tmps) = false := by simp [Region.wanted, hg, yield_undef hs (hreadU hy hag)]
        simp only [ho, hw, Bool.false_eq_true, if_false]
        exact hk φ undef w (St.less (St.put hs hd' (fun _ _ => by simp only [val, Rep, Reps]; exact ⟨#[], rfl, rfl⟩)) (fun k (hk : fresh k ∧ k ≠ nh + i) => hk.1))
      · cases h
  · cases h
theorem runOps_ops (hT : TOk P T) {Q : Exit → Act → World → Prop} {R : Type} {r : R} {K : (Nat → AV) → List (List Nat × List Nat) → Option R} {B : Nat} {P0 : Nat → Prop} {w0 : World}
    (hQ : ∀ σ' tr φ a w, St N B P0 w0 (fun h => nh + ops.size ≤ h) σ' φ a w → K σ' tr = some r → Q .normal a w) :
    ∀ (rest : List Oper) (i : Nat) (σ : Nat → AV) (tr : List (List Nat × List Nat)) (φ : Nat → Option Nat) (a : Act) (w : World), ops.toList.drop i = rest → i + rest.length = ops.size → runOps P T N nh ops rest i σ tr K = some r → St N B P0 w0 (fun h => nh + i ≤ h) σ φ a w → wpOps P ops Q (List.range' i rest.length) a w
  | [], i, σ, tr, φ, a, w, hr, hi, h, hs => by
    simp only [runOps] at h
    simp only [List.length_nil, Nat.add_zero] at hi
    subst hi
    simp only [List.length_nil, List.range'_zero, wpOps]
    exact hQ _ _ _ _ _ hs h
  | o :: rest, i, σ, tr, φ, a, w, hr, hi, h, hs => by
    simp only [runOps] at h
    have ho : ops[i]? = some o := by
      have := congrArg (·[0]?) hr
      simpa using this
    obtain ⟨e, h1, h2⟩ := oneOp_trip hT ho h
    simp only [List.length_cons, List.range'_succ]
    rw [wpOps_cons]
    refine h1 σ (fun _ _ => rfl) hs (Nat.le_refl _) _ Q (fun φ' v w' hs' => ?_)
    have hr' : ops.toList.drop (i + 1) = rest := by
      have := congrArg List.tail hr
      simpa [List.tail_drop] using this
    exact runOps_ops hT hQ rest (i + 1) _ _ φ' _ w' hr' (by simp only [List.length_cons] at hi; omega) h2 (St.less hs' (fun k hk => ⟨by omega, by omega⟩))
end
def stAt (ops : Array Oper) (es : List Eff) (σ0 : Nat → AV) : Nat → Nat → AV
  | 0 => σ0
  | j + 1 => match ops[j]?, es[j]? with
    | some o, some e => put (stAt ops es σ0 j) o.dst e
    | _, _ => stAt ops es σ0 j
def fx (ops : Array Oper) (es : List Eff) (j : Nat) : List Nat × List Nat :=
  match ops[j]?, es[j]? with
  | some o, some e => (rds ops o e, wrs o e)
  | _, _ => ([], [])
def trOf (ops : Array Oper) (es : List Eff) : List (List Nat × List Nat) := (List.range es.length).map (fx ops es)
section
variable {P : Program} {N nh : Nat} {ops : Array Oper} {T : Tab} {σ0 : Nat → AV}
theorem stAt_prefix (es : List Eff) (e : Eff) : ∀ j, j ≤ es.length → stAt ops (es ++ [e]) σ0 j = stAt ops es σ0 j
  | 0, _ => rfl
  | j + 1, hj => by
    simp only [stAt, stAt_prefix es e j (by omega)]
    rw [List.getElem?_append_left (by omega)]
theorem fx_prefix (es : List Eff) (e : Eff) (j : Nat) (hj : j < es.length) : fx ops (es ++ [e]) j = fx ops es j := by
  unfold fx
  rw [List.getElem?_append_left hj]
theorem runOps_es (hT : TOk P T) {R : Type} {r : R} {K : (Nat → AV) → List (List Nat × List Nat) → Option R} :
    ∀ (rest : List Oper) (i : Nat) (es0 : List Eff), ops.toList.drop i = rest → i + rest.length = ops.size → es0.length = i →
      (∀ j o e, ops[j]? = some o → es0[j]? = some e → Trip1 P N nh ops j (stAt ops es0 σ0 j) o e) → runOps P T N nh ops rest i (stAt ops es0 σ0 i) (trOf ops es0) K = some r →
      ∃ es, es.length = ops.size ∧ (∀ j o e, ops[j]? = some o → es[j]? = some e → Trip1 P N nh ops j (stAt ops es σ0 j) o e) ∧ K (stAt ops es σ0 ops.size) (trOf ops es) = some r
  | [], i, es0, hr, hi, hl, hj, h => by
    simp only [List.length_nil, Nat.add_zero] at hi
    subst hi
    exact ⟨es0, hl, hj, h⟩
  | o :: rest, i, es0, hr, hi, hl, hj, h => by
    simp only [runOps] at h
    have ho : ops[i]? = some o := by
      have := congrArg (·[0]?) hr
      simpa using this
    obtain ⟨e, h1, h2⟩ := oneOp_trip hT ho h
    have hr' : ops.toList.drop (i + 1) = rest := by
      have := congrArg List.tail hr
      simpa [List.tail_drop] using this
    subst hl
    refine runOps_es hT rest (es0.length + 1) (es0 ++ [e]) hr' (by simp only [List.length_cons] at hi; omega) (by simp) ?_ ?_
    · intro j o' e' ho' he'
      by_cases hjl : j < es0.length
      · rw [List.getElem?_append_left hjl] at he'
        rw [stAt_prefix es0 e j (by omega)]
        exact hj j o' e' ho' he'
      · have hjl2 : j = es0.length := by
          have := (List.getElem?_eq_some_iff.1 he').1
          simp at this
          omega
        subst hjl2
        rw [ho] at ho'
        injection ho' with ho'
        subst ho'
        simp at he'
        subst he'
        rw [stAt_prefix es0 e _ (Nat.le_refl _)]
        exact h1
    · have e1 : stAt ops (es0 ++ [e]) σ0 (es0.length + 1) = put (stAt ops es0 σ0 es0.length) o.dst e := by
        simp only [stAt, ho, List.getElem?_concat_length, stAt_prefix es0 e _ (Nat.le_refl _)]
      have e2 : trOf ops (es0 ++ [e]) = trOf ops es0 ++ [(rds ops o e, wrs o e)] := by
        unfold trOf
        rw [List.length_append, List.length_singleton, List.range_succ, List.map_append]
        congr 1
        · exact List.map_congr_left fun j hj => fx_prefix es0 e j (by simpa using hj)
        · simp [fx, ho]
      rw [e1, e2]
      exact h2
theorem put_far {σ : Nat → AV} {o : Oper} {e : Eff} {x : Nat} (h : x ∉ wrs o e) : put σ o.dst e x = σ x := by
  unfold wrs at h
  rw [List.mem_append] at h
  have h1 : ∀ d, o.dst = some d → x ≠ 2 * d := fun d hd hx => h (.inl (by simp [hd, hx]))
  have h2 : ∀ p, e.wr = some p → x ≠ 2 * p.1 + 1 := fun p hp hx => h (.inr (by simp [hp, hx]))
  have h3 : putT σ o.dst e.dst x = σ x := by
    cases hd : o.dst with
    | none => rfl
    | some d => simp only [putT, upd_eq, if_neg (h1 d hd)]
  unfold put
  cases hp : e.wr with
  | none => exact h3
  | some p =>
    obtain ⟨p, v⟩ := p
    simp only [upd_eq, if_neg (h2 (p, v) hp)]
    exact h3
theorem put_near {σ σ' : Nat → AV} {o : Oper} {e : Eff} {x : Nat} (h : x ∈ wrs o e) : put σ o.dst e x = put σ' o.dst e x := by
  have h3 : ∀ d, o.dst = some d → x = 2 * d → putT σ o.dst e.dst x = putT σ' o.dst e.dst x := fun d hd hx => by
    simp only [putT, hd, upd_eq, hx, if_true]
  unfold wrs at h
  rw [List.mem_append] at h
  unfold put
  cases hp : e.wr with
  | some p =>
    obtain ⟨p, v⟩ := p
    simp only [upd_eq]
    split
    · rfl
    · rename_i hne
      rcases h with h | h
      · simp only [List.mem_map, Option.mem_toList] at h
        obtain ⟨d, hd, rfl⟩ := h
        exact h3 d hd rfl
      · simp [hp] at h
        exact absurd h hne
  | none =>
    rcases h with h | h
    · simp only [List.mem_map, Option.mem_toList] at h
      obtain ⟨d, hd, rfl⟩ := h
      exact h3 d hd rfl
    · simp [hp] at h
def part (ops : Array Oper) (es : List Eff) (σ0 : Nat → AV) (L : Nat → Bool) : Nat → Nat → AV
  | 0 => σ0
  | j + 1 => fun x => if L j = true ∧ x ∈ (fx ops es j).2 then stAt ops es σ0 (j + 1) x else part ops es σ0 L j x
theorem stAt_far {es : List Eff} {j x : Nat} (h : x ∉ (fx ops es j).2) : stAt ops es σ0 (j + 1) x = stAt ops es σ0 j x := by
  unfold fx at h
  simp only [stAt]
  cases ho : ops[j]? with
  | none => rfl
  | some o =>
    cases he : es[j]? with
    | none => rfl
    | some e =>
      simp only [ho, he] at h
      exact put_far h
theorem part_all {n : Nat} {es : List Eff} {L : Nat → Bool} (h : ∀ j, j < n → L j = true) {x : Nat} : part ops es σ0 L n x = stAt ops es σ0 n x := by
  induction n with
  | zero => rfl
  | succ n ih =>
    simp only [part]
    by_cases hx : x ∈ (fx ops es n).2
    · rw [if_pos ⟨h n (Nat.lt_succ_self n), hx⟩]
    · rw [if_neg (fun hh => hx hh.2), ih (fun j hj => h j (by omega)), stAt_far hx]
end
section
variable {P : Program} {N nh : Nat} {ops : Array Oper} {T : Tab} {σ0 : Nat → AV} {L : Nat → Bool} {es : List Eff}
def Closed' (ops : Array Oper) (L : Nat → Bool) : Prop := ∀ j o, ops[j]? = some o → L j = true → ∀ e ∈ o.after, Region.binds .any e = true → L e.on = true
theorem mask_good {acc : List Nat} (hacc : ∀ j s, acc[j]? = some s → L j = true → ∀ m, s.testBit m = true → L m = true) : ∀ (l : List Edge), (∀ e ∈ l, Region.binds .any e = true → L e.on = true) → ∀ m, (mask acc l).testBit m = true → L m = true
  | [], _, m, h => by simp [mask] at h
  | e :: l, hl, m, h => by
    have hl2 : ∀ e ∈ l, Region.binds .any e = true → L e.on = true := fun e he => hl e (List.mem_cons_of_mem _ he)
    simp only [mask] at h
    split at h
    · rename_i hb
      have he := hl e List.mem_cons_self hb
      rw [Nat.testBit_or, Nat.testBit_or, Bool.or_eq_true, Bool.or_eq_true] at h
      rcases h with (h | h) | h
      · rw [Nat.testBit_two_pow] at h
        have : e.on = m := by simpa using h
        rw [← this]; exact he
      · cases hq : acc[e.on]? with
        | none => simp [List.getD, hq] at h
        | some s =>
          simp only [List.getD, hq, Option.getD_some] at h
          exact hacc _ s hq he m h
      · exact mask_good hacc l hl2 m h
    · exact mask_good hacc l hl2 m h
theorem befs_good (hC : Closed' ops L) : ∀ (rest : List Oper) (acc : List Nat), ops.toList.drop acc.length = rest →
    (∀ (j : Nat) (o : Oper) (s : Nat), ops[j]? = some o → acc[j]? = some s → (∀ e ∈ o.after, Region.binds .any e = true → L e.on = true) → ∀ m, s.testBit m = true → L m = true) →
    ∀ (j : Nat) (o : Oper) (s : Nat), ops[j]? = some o → (befs rest acc)[j]? = some s → (∀ e ∈ o.after, Region.binds .any e = true → L e.on = true) → ∀ m, s.testBit m = true → L m = true
  | [], acc, _, h => h
  | o :: rest, acc, hr, h => by
    have ho : ops[acc.length]? = some o := by
      have := congrArg (·[0]?) hr
      simpa using this
    have hr' : ops.toList.drop (acc.length + 1) = rest := by
      have := congrArg List.tail hr
      simpa [List.tail_drop] using this
    simp only [befs]
    refine befs_good hC rest _ (by simpa using hr') ?_
    intro j o' s ho' hs he m hm
    by_cases hj : j < acc.length
    · rw [List.getElem?_append_left hj] at hs
      exact h j o' s ho' hs he m hm
    · have hj2 : j = acc.length := by
        have := (List.getElem?_eq_some_iff.1 hs).1
        simp at this
        omega
      subst hj2
      rw [ho] at ho'
      injection ho' with ho'
      subst ho'
      simp at hs
      subst hs
      refine mask_good (fun k s hk hL => ?_) o.after.toList (fun e he' => he e (by simpa using he')) m hm
      have hkl := (List.getElem?_eq_some_iff.1 hk).1
      have hlen : acc.length < ops.size := (Array.getElem?_eq_some_iff.1 ho).1
      have hok : ops[k]? = some ops[k] := Array.getElem?_eq_getElem (by omega)
      exact h k _ s hok hk (hC k _ hok hL)
theorem bef_listed (hC : Closed' ops L) {j : Nat} {o : Oper} (ho : ops[j]? = some o) (he : ∀ e ∈ o.after, Region.binds .any e = true → L e.on = true) {m : Nat} (hm : ((befs ops.toList []).getD j 0).testBit m = true) : L m = true := by
  cases hq : (befs ops.toList [])[j]? with
  | none => simp [List.getD, hq] at hm
  | some s =>
    simp only [List.getD, hq, Option.getD_some] at hm
    exact befs_good hC ops.toList [] (by simp) (fun j o s _ h => by simp at h) j o s ho hq he m hm
theorem ordered_at {bef : List Nat} (h : ordered bef (trOf ops es) = true) {i j : Nat} (hij : i < j) (hj : j < es.length) (hc : clash (fx ops es i) (fx ops es j) = true) : (bef.getD j 0).testBit i = true := by
  unfold ordered at h
  simp only [List.all_eq_true, List.mem_range, Bool.or_eq_true, Bool.not_eq_true'] at h
  have hl : (trOf ops es).length = es.length := by simp [trOf]
  have hg : ∀ k, k < es.length → (trOf ops es).getD k ([], []) = fx ops es k := fun k hk => by simp [trOf, List.getD, hk]
  have := h j (by rw [hl]; exact hj) i hij
  rw [hg i (by omega), hg j hj, hc] at this
  simpa using this
theorem clash_wr {a b : List Nat × List Nat} {x : Nat} (h1 : x ∈ a.2) (h2 : x ∈ b.1 ∨ x ∈ b.2) : clash a b = true := by
  unfold clash
  simp only [Bool.or_eq_true, List.any_eq_true, List.contains_iff_mem]
  exact .inl ⟨x, h1, h2⟩
theorem clash_rw {a b : List Nat × List Nat} {x : Nat} (h1 : x ∈ a.1) (h2 : x ∈ b.2) : clash a b = true := by
  unfold clash
  simp only [Bool.or_eq_true, List.any_eq_true, List.contains_iff_mem]
  exact .inr ⟨x, h1, h2⟩
section
variable (hord : ordered (befs ops.toList []) (trOf ops es) = true) (hes : es.length = ops.size) (hC : Closed' ops L) {i : Nat} {o : Oper} (ho : ops[i]? = some o) (hi : L i = false)
include hord hes hC ho hi
omit ho in
theorem later {m x : Nat} (hm : i < m) (hml : m < es.length) (hL : L m = true) (hx : x ∈ (fx ops es m).2) : x ∉ (fx ops es i).1 ∧ x ∉ (fx ops es i).2 := by
  have key : clash (fx ops es i) (fx ops es m) = false := by
    cases hc : clash (fx ops es i) (fx ops es m)
    · rfl
    · have := ordered_at hord hm hml hc
      have hom : ops[m]? = some ops[m] := Array.getElem?_eq_getElem (by omega)
      have := bef_listed hC hom (hC m _ hom hL) this
      rw [hi] at this
      cases this
  constructor
  · intro h1; rw [clash_rw h1 hx] at key; cases key
  · intro h1; rw [clash_wr h1 (.inr hx)] at key; cases key
theorem reads_same (he : ∀ e ∈ o.after, Region.binds .any e = true → L e.on = true) {x : Nat} (hx : x ∈ (fx ops es i).1) : ∀ m, m ≤ es.length → part ops es σ0 L m x = stAt ops es σ0 (min m i) x
  | 0, _ => by simp [part, stAt]
  | m + 1, hml => by
    have ih := reads_same he hx m (by omega)
    have hil : i < es.length := by rw [hes]; exact (Array.getElem?_eq_some_iff.1 ho).1
    simp only [part]
    by_cases hmi : m < i
    · rw [Nat.min_eq_left (by omega)] at ih ⊢
      by_cases hw : x ∈ (fx ops es m).2
      · have := bef_listed hC ho he (ordered_at hord hmi hil (clash_wr hw (.inl hx)))
        rw [if_pos ⟨this, hw⟩]
      · rw [if_neg (fun hh => hw hh.2), ih, stAt_far hw]
    · rw [Nat.min_eq_right (by omega)] at ih ⊢
      by_cases hc : L m = true ∧ x ∈ (fx ops es m).2
      · exfalso
        have hne : m ≠ i := fun e => by rw [e, hi] at hc; cases hc.1
        exact (later hord hes hC hi (by omega) (by omega) hc.1 hc.2).1 hx
      · rw [if_neg hc, ih]
theorem part_put {e : Eff} (hee : es[i]? = some e) : put (part ops es σ0 L es.length) o.dst e = part ops es σ0 (fun j => L j || decide (j = i)) es.length := by
  have hfx : (fx ops es i).2 = wrs o e := by simp [fx, ho, hee]
  have hil : i < es.length := (List.getElem?_eq_some_iff.1 hee).1
  funext x
  by_cases hx : x ∈ wrs o e
  · rw [put_near (σ' := stAt ops es σ0 i) hx]
    have h1 : stAt ops es σ0 (i + 1) x = put (stAt ops es σ0 i) o.dst e x := by simp only [stAt, ho, hee]
    rw [← h1]
    have : ∀ m, i < m → m ≤ es.length → part ops es σ0 (fun j => L j || decide (j = i)) m x = stAt ops es σ0 (i + 1) x := by
      intro m
      induction m with
      | zero => intro h; omega
      | succ m ih =>
        intro hm hml
        simp only [part]
        by_cases hmi : m = i
        · subst hmi
          rw [if_pos ⟨by simp, by rw [hfx]; exact hx⟩]
        · rw [if_neg (fun hh => ?_)]
          · exact ih (by omega) (by omega)
          · have hL : L m = true := by simpa [hmi] using hh.1
            exact (later hord hes hC hi (by omega) (by omega) hL hh.2).2 (by rw [hfx]; exact hx)
    exact (this es.length hil (Nat.le_refl _)).symm
  · rw [put_far hx]
    have : ∀ m, part ops es σ0 L m x = part ops es σ0 (fun j => L j || decide (j = i)) m x := by
      intro m
      induction m with
      | zero => rfl
      | succ m ih =>
        simp only [part]
        by_cases hmi : m = i
        · subst hmi
          rw [hfx, if_neg (fun hh => hx hh.2), if_neg (fun hh => hx hh.2), ih]
        · simp only [hmi, decide_false, Bool.or_false, ih]
    exact this _
end
end
section
variable {P : Program} {N nh : Nat} {ops : Array Oper} {T : Tab} {σ0 : Nat → AV} {es : List Eff}
theorem edgesOk_at : ∀ (l : List Oper) (i j : Nat) (o : Oper), edgesOk l i = true → l[j]? = some o → ∀ e ∈ o.after, Region.binds .any e = true → e.on < i + j
  | [], _, _, _, _, h => by simp at h
  | o' :: l, i, j, o, hk, h => by
    simp only [edgesOk, Bool.and_eq_true] at hk
    intro e he hb
    cases j with
    | zero =>
      simp only [List.getElem?_cons_zero, Option.some.injEq] at h
      subst h
      have := (Array.all_eq_true_iff_forall_mem.1 hk.1) e he
      simp only [hb, Bool.not_true, Bool.false_or] at this
      have : e.on < i := by rw [Nat.blt_eq] at this; exact this
      omega
    | succ j =>
      have := edgesOk_at l (i + 1) j o hk.2 (by simpa using h) e he hb
      omega
theorem filter_less {L L' : Nat → Bool} (hle : ∀ j, L j = true → L' j = true) {i : Nat} (hi : L i = false) (hi' : L' i = true) : ∀ (l : List Nat), i ∈ l → (l.filter fun j => !L' j).length < (l.filter fun j => !L j).length := by
  have le : ∀ (l : List Nat), (l.filter fun j => !L' j).length ≤ (l.filter fun j => !L j).length := by
    intro l
    induction l with
    | nil => simp
    | cons j l ih =>
      simp only [List.filter_cons]
      cases hj : L j <;> cases hj' : L' j <;> simp <;> first | omega | (have := hle j hj; simp [hj'] at this)
  intro l
  induction l with
  | nil => intro h; cases h
  | cons j l ih =>
    intro h
    simp only [List.filter_cons]
    have hl := le l
    by_cases hji : j = i
    · subst hji
      simp [hi, hi']
      omega
    · have hm : i ∈ l := (List.mem_cons.1 h).resolve_left (fun e => hji e.symm)
      have := ih hm
      cases hj : L j <;> cases hj' : L' j <;> simp <;> first | omega | (have := hle j hj; simp [hj'] at this)
theorem any_ops {Q : Exit → Act → World → Prop} {B : Nat} {P0 : Nat → Prop} {w0 : World} (hes : es.length = ops.size) (htr : ∀ j o e, ops[j]? = some o → es[j]? = some e → Trip1 P N nh ops j (stAt ops es σ0 j) o e)
    (hord : ordered (befs ops.toList []) (trOf ops es) = true) (hed : edgesOk ops.toList 0 = true)
    (hQ : ∀ φ a w, St N B P0 w0 (fun h => nh + ops.size ≤ h) (stAt ops es σ0 ops.size) φ a w → Q .normal a w) :
    ∀ (fuel : Nat) (listed : Array Bool) (φ : Nat → Option Nat) (a : Act) (w : World), listed.size = ops.size → Closed' ops (fun j => listed.getD j false) →
      ((List.range ops.size).filter fun j => !(listed.getD j false)).length ≤ fuel →
      St N B P0 w0 (fun h => nh ≤ h ∧ ∀ j, listed.getD j false = true → h ≠ nh + j) (part ops es σ0 (fun j => listed.getD j false) es.length) φ a w → wpAny P .any ops Q fuel listed a w := by
  have done : ∀ (listed : Array Bool) (φ : Nat → Option Nat) (a : Act) (w : World), (∀ j, j < ops.size → listed.getD j false = true) →
      St N B P0 w0 (fun h => nh ≤ h ∧ ∀ j, listed.getD j false = true → h ≠ nh + j) (part ops es σ0 (fun j => listed.getD j false) es.length) φ a w → listed.size = ops.size → Q .normal a w := by
    intro listed φ a w hall hs hsz
    refine hQ φ a w ?_
    have : part ops es σ0 (fun j => listed.getD j false) es.length = stAt ops es σ0 ops.size := by
      funext x
      rw [hes]
      exact part_all (fun j hj => hall j hj)
    rw [this] at hs
    refine St.less hs (fun h hh => ⟨by omega, fun j hj => ?_⟩)
    have : j < ops.size := by
      rcases Nat.lt_or_ge j listed.size with h' | h'
      · omega
      · simp [Array.getElem?_eq_none h'] at hj
    omega
  have allOf : ∀ (listed : Array Bool), listed.size = ops.size → Region.ready .any ops listed = [] → ∀ n, n ≤ ops.size → ∀ j, j < n → listed.getD j false = true := by
    intro listed hsz hr n
    induction n with
    | zero => intro _ j hj; omega
    | succ n ih =>
      intro hn j hj
      by_cases hjn : j < n
      · exact ih (by omega) j hjn
      · have hjn2 : j = n := by omega
        subst hjn2
        cases hL : listed.getD j false with
        | true => rfl
        | false =>
          exfalso
          have : j ∈ Region.ready .any ops listed := by
            rw [mem_ready]
            refine ⟨?_, ops[j], Array.getElem?_eq_getElem (by omega), fun e he hb => ?_⟩
            · have hlt : j < listed.size := by omega
              simp [hlt] at hL ⊢
              exact hL
            · have := edgesOk_at ops.toList 0 j ops[j] hed (by simp) e he hb
              exact ih (by omega) e.on (by omega)
          rw [hr] at this
          cases this
  intro fuel
  induction fuel with
  | zero =>
    intro listed φ a w hsz hC hf hs
    have hall : ∀ j, j < ops.size → listed.getD j false = true := by
      intro j hj
      cases hL : listed.getD j false with
      | true => rfl
      | false =>
        exfalso
        have : j ∈ (List.range ops.size).filter fun j => !(listed.getD j false) := by
          rw [List.mem_filter]
          exact ⟨List.mem_range.2 hj, by rw [hL]; rfl⟩
        have := List.length_pos_of_mem this
        omega
    refine ⟨?_, done listed φ a w hall hs hsz⟩
    apply List.eq_nil_iff_forall_not_mem.2
    intro j hj
    obtain ⟨h1, o, h2, _⟩ := mem_ready.1 hj
    have hlt : j < ops.size := (Array.getElem?_eq_some_iff.1 h2).1
    have := hall j hlt
    have hlt2 : j < listed.size := by omega
    simp [hlt2] at h1 this
    rw [h1] at this
    cases this
  | succ fuel ih =>
    intro listed φ a w hsz hC hf hs
    refine ⟨fun hr => done listed φ a w (fun j hj => allOf listed hsz hr ops.size (Nat.le_refl _) j hj) hs hsz, fun i hi => ?_⟩
    obtain ⟨h1, o, ho, he⟩ := mem_ready.1 hi
    have hlt : i < ops.size := (Array.getElem?_eq_some_iff.1 ho).1
    have hlt2 : i < listed.size := by omega
    have hi0 : listed.getD i false = false := by simp [hlt2] at h1 ⊢; exact h1
    have hee : es[i]? = some es[i] := List.getElem?_eq_getElem (by omega)
    have hfx : (fx ops es i).1 = rds ops o es[i] := by simp [fx, ho, hee]
    refine htr i o es[i] ho hee _ (fun x hx => ?_) hs ⟨by omega, fun j hj => ?_⟩ _ Q (fun φ' v w' hs' => ?_)
    · rw [reads_same (L := fun j => listed.getD j false) hord hes hC ho hi0 he (by rw [hfx]; exact hx) es.length (Nat.le_refl _), Nat.min_eq_right (by omega)]
    · intro hh
      have : j = i := by omega
      subst this
      rw [hi0] at hj
      cases hj
    · have hL1 : ∀ j, (listed.setIfInBounds i true).getD j false = (listed.getD j false || decide (j = i)) := by
        intro j
        by_cases hji : j = i
        · subst hji
          simp [hlt2]
        · rw [getD_set_ne false (fun e => hji e.symm)]
          simp [hji]
      have hLL : (fun j => (listed.setIfInBounds i true).getD j false) = fun j => listed.getD j false || decide (j = i) := by
        funext j
        exact hL1 j
      rw [part_put (L := fun j => listed.getD j false) hord hes hC ho hi0 hee] at hs'
      refine ih (listed.setIfInBounds i true) φ' _ w' (by simp [hsz]) ?_ ?_ ?_
      · rw [hLL]
        intro j o' ho' hj e he' hb
        dsimp only at hj ⊢
        by_cases hji : j = i
        · subst hji
          rw [ho] at ho'
          injection ho' with ho'
          subst ho'
          rw [he e he' hb, Bool.true_or]
        · have hj2 : listed.getD j false = true := by simpa [hji] using hj
          have h5 : listed.getD e.on false = true := hC j o' ho' hj2 e he' hb
          rw [h5, Bool.true_or]
      · have := filter_less (L := fun j => listed.getD j false) (L' := fun j => (listed.setIfInBounds i true).getD j false) (fun j hj => by rw [hL1, hj, Bool.true_or]) hi0 (by rw [hL1]; simp) (List.range ops.size) (List.mem_range.2 hlt)
        omega
      · rw [hLL]
        refine St.less hs' (fun h hh => ⟨⟨hh.1, fun j hj => hh.2 j ?_⟩, hh.2 i ?_⟩)
        · rw [hL1, hj, Bool.true_or]
        · rw [hL1]; simp
end
section
variable {P : Program} {N nh : Nat} {ops : Array Oper} {T : Tab} {fuel : Nat}
theorem binI_nat {R : Type} {op : BinOp} {k : IntKind} {x y : Int} (K : AV → Option R) : binI op k x y K = (binI op k x y some).bind K := by
  unfold binI
  (repeat' split) <;> rfl
theorem binA_nat {R : Type} {op : BinOp} {t : Nat} {x y : AV} (K : AV → Option R) : binA P op t x y K = (binA P op t x y some).bind K := by
  unfold binA
  (repeat' split) <;> first | rfl | exact binI_nat K
theorem indexA_nat {R : Type} {x y : AV} (K : AV → Option R) : indexA x y K = (indexA x y some).bind K := by
  unfold indexA
  (repeat' split) <;> rfl
theorem doOp_nat (hT : TOk P T) {new : Nat} {σ : Nat → AV} {o : Oper} {R : Type} (K : Eff → Option R) : doOp P T new σ o K = (doOp P T new σ o some).bind K := by
  unfold doOp
  (repeat' split) <;> first
    | rfl
    | (rw [binA_nat, binA_nat (fun v => some (val v)), Option.bind_assoc]; rfl)
    | (rw [indexA_nat, indexA_nat (fun v => some (val v)), Option.bind_assoc]; rfl)
    | (rename_i F hF _; rw [(hT _ F hF).2.1 R, (hT _ F hF).2.1 Eff, Option.bind_assoc]; rfl)
theorem oneOp_nat (hT : TOk P T) {i : Nat} {σ : Nat → AV} {o : Oper} {R : Type} (K : Eff → Option R) : oneOp P T N nh ops i o σ K = (oneOp P T N nh ops i o σ some).bind K := by
  unfold oneOp
  (repeat' split) <;> first
    | rfl
    | exact doOp_nat hT K
theorem runOps_nat (hT : TOk P T) {R : Type} (K : (Nat → AV) → List (List Nat × List Nat) → Option R) : ∀ (rest : List Oper) (i : Nat) (σ : Nat → AV) (tr : List (List Nat × List Nat)), runOps P T N nh ops rest i σ tr K = (runOps P T N nh ops rest i σ tr fun s t => some (s, t)).bind fun p => K p.1 p.2
  | [], i, σ, tr => rfl
  | o :: rest, i, σ, tr => by
    simp only [runOps]
    rw [oneOp_nat hT, oneOp_nat hT (fun e => runOps P T N nh ops rest (i + 1) (put σ o.dst e) (tr ++ [(rds ops o e, wrs o e)]) fun s t => some (s, t)), Option.bind_assoc]
    congr 1
    funext e
    exact runOps_nat hT K rest (i + 1) _ _
theorem loopN_nat {R : Type} (body : {R : Type} → State → (Ex → State → Option R) → Option R) (hb : ∀ (R : Type) s (K : Ex → State → Option R), body s K = (body s fun e s => some (e, s)).bind fun p => K p.1 p.2) (K : Ex → State → Option R) : ∀ (n : Nat) (s : State), loopN body n s K = (loopN body n s fun e s => some (e, s)).bind fun p => K p.1 p.2
  | 0, s => rfl
  | n + 1, s => by
    simp only [loopN]
    refine (hb R s _).trans (Eq.trans ?_ (congrArg (fun (o : Option (Ex × State)) => o.bind fun p => K p.1 p.2) (hb _ s _).symm))
    rw [Option.bind_assoc]
    congr 1
    funext p
    obtain ⟨e, s'⟩ := p
    cases e with
    | normal => exact loopN_nat body hb K n s'
    | exit id => rfl
    | ret => rfl
theorem run_nat (hT : TOk P T) : ∀ (c : Code) (s : State) {R : Type} (K : Ex → State → Option R), run P T N fuel c s K = (run P T N fuel c s fun e s => some (e, s)).bind fun p => K p.1 p.2 := by
  intro c
  induction c with
  | region id ops draw =>
    intro s R K
    simp only [run]
    rw [runOps_nat hT, runOps_nat hT (fun σ tr => if draw = true then (if (ordered (befs ops.toList []) tr && edgesOk ops.toList 0) = true then some (Ex.normal, (⟨σ, s.nh + ops.size⟩ : State)) else none) else some (Ex.normal, ⟨σ, s.nh + ops.size⟩)), Option.bind_assoc]
    congr 1
    funext p
    (repeat' split) <;> rfl
  | seq x y ihx ihy =>
    intro s R K
    simp only [run]
    refine (ihx s _).trans (Eq.trans ?_ (congrArg (fun (o : Option (Ex × State)) => o.bind fun p => K p.1 p.2) (ihx s _).symm))
    rw [Option.bind_assoc]
    congr 1
    funext p
    obtain ⟨e, s'⟩ := p
    cases e with
    | normal => exact ihy s' K
    | exit id => rfl
    | ret => rfl
  | cond c x y ihx ihy =>
    intro s R K
    simp only [run]
    split
    · split
      · exact ihx s K
      · exact ihy s K
    · rfl
  | block id b ih =>
    intro s R K
    simp only [run]
    refine (ih s _).trans (Eq.trans ?_ (congrArg (fun (o : Option (Ex × State)) => o.bind fun p => K p.1 p.2) (ih s _).symm))
    rw [Option.bind_assoc]
    congr 1
    funext p
    obtain ⟨e, s'⟩ := p
    cases e with
    | exit i => dsimp only; split <;> rfl
    | normal => rfl
    | ret => rfl
  | loop b ih =>
    intro s R K
    simp only [run]
    exact loopN_nat (fun {R} => run P T N fuel b) (fun R s K => ih s K) K fuel s
  | _ => intro s R K; rfl
def toExit : Ex → Exit
  | .normal => .normal
  | .exit id => .exit id
  | .ret => .ret
theorem run_sound (hT : TOk P T) (hm : P.follows .mixedOrders = true) {B : Nat} {P0 : Nat → Prop} {w0 : World} {R : Type} {r : R} : ∀ (c : Code) (s : State) (K : Ex → State → Option R) (Q : Exit → Act → World → Prop) (φ : Nat → Option Nat) (a : Act) (w : World),
    run P T N fuel c s K = some r → St N B P0 w0 (fun h => s.nh ≤ h) s.σ φ a w → (∀ e s' φ' a' w', St N B P0 w0 (fun h => s'.nh ≤ h) s'.σ φ' a' w' → K e s' = some r → Q (toExit e) a' w') → c.wp P Q a w := by
  intro c
  induction c with
  | skip => intro s K Q φ a w h hs hQ; exact Go.wp_skip (hQ .normal s φ a w hs h)
  | exit id => intro s K Q φ a w h hs hQ; exact wp_exit (hQ (.exit id) s φ a w hs h)
  | ret => intro s K Q φ a w h hs hQ; exact wp_ret (hQ .ret s φ a w hs h)
  | region id ops draw =>
    intro s K Q φ a w h hs hQ
    simp only [run] at h
    cases draw with
    | false =>
      refine wp_region ?_
      rw [List.range_eq_range', ← Array.length_toList]
      refine runOps_ops hT (K := _) (fun σ' tr φ' a' w' hs' hK => ?_) ops.toList 0 s.σ [] φ a w rfl (by simp) h hs
      simp only [Bool.false_eq_true, if_false] at hK
      exact hQ .normal ⟨σ', s.nh + ops.size⟩ φ' a' w' hs' hK
    | true =>
      obtain ⟨es, h1, h2, h3⟩ := runOps_es (σ0 := s.σ) hT ops.toList 0 [] rfl (by simp) rfl (fun j o e _ he => by simp at he) h
      simp only [if_true] at h3
      split at h3
      · rename_i hc
        rw [Bool.and_eq_true] at hc
        refine wp_region_any hm ?_
        have hg : ∀ j, (Array.replicate ops.size false).getD j false = false := fun j => by
          rw [Array.getD_eq_getD_getElem?, Array.getElem?_replicate]
          split <;> rfl
        refine any_ops h1 h2 hc.1 hc.2 (fun φ' a' w' hs' => hQ .normal ⟨_, s.nh + ops.size⟩ φ' a' w' hs' h3) ops.size _ φ a _ (by simp) (fun j o _ hj => by have := hg j; dsimp only at hj; rw [hj] at this; cases this) ?_ ?_
        · have := List.length_filter_le (fun j => !((Array.replicate ops.size false).getD j false)) (List.range ops.size)
          rw [List.length_range] at this
          exact this
        · have hp : part ops es s.σ (fun j => (Array.replicate ops.size false).getD j false) es.length = s.σ := by
            have : ∀ n, part ops es s.σ (fun j => (Array.replicate ops.size false).getD j false) n = s.σ := by
              intro n
              induction n with
              | zero => rfl
              | succ n ih =>
                funext x
                simp only [part]; rw [if_neg (fun hh => by have := hg n; rw [hh.1] at this; cases this), ih]
            exact this _
          rw [hp]
          exact (hs.world (w' := { w with drawn := w.drawn + 1 }) ⟨rfl, rfl, rfl, Nat.le_refl _, fun _ _ => rfl⟩ (Nat.le_refl _) (fun _ _ => rfl)).less (fun h hh => hh.1)
      · cases h3
  | seq x y ihx ihy =>
    intro s K Q φ a w h hs hQ
    simp only [run] at h
    refine wp_seq (ihx s _ _ φ a w h hs fun e s' φ' a' w' hs' hK => ?_)
    cases e with
    | normal => exact ihy s' K Q φ' a' w' hK hs' hQ
    | exit id => exact hQ (.exit id) s' φ' a' w' hs' hK
    | ret => exact hQ .ret s' φ' a' w' hs' hK
  | cond c x y ihx ihy =>
    intro s K Q φ a w h hs hQ
    simp only [run] at h
    split at h
    · rename_i t hc
      have h1 := hs.ev c
      rw [hc] at h1
      simp only [Rep] at h1
      refine wp_cond h1 ?_
      cases t with
      | true => exact ihx s K Q φ a w (by simpa using h) hs hQ
      | false => exact ihy s K Q φ a w (by simpa using h) hs hQ
    · cases h
  | block id b ih =>
    intro s K Q φ a w h hs hQ
    simp only [run] at h
    refine wp_block (ih s _ _ φ a w h hs fun e s' φ' a' w' hs' hK => ?_)
    cases e with
    | normal => exact hQ .normal s' φ' a' w' hs' hK
    | ret => exact hQ .ret s' φ' a' w' hs' hK
    | exit i =>
      dsimp only at hK
      simp only [toExit, Exit.inBlock]
      split at hK
      · rename_i hi
        rw [if_pos hi]
        exact hQ .normal s' φ' a' w' hs' hK
      · rename_i hi
        rw [if_neg hi]
        exact hQ (.exit i) s' φ' a' w' hs' hK
  | loop b ih =>
    intro s K Q φ a w h hs hQ
    simp only [run] at h
    refine wp_loop_rounds fuel ?_
    have key : ∀ (n : Nat) (s : State) (φ : Nat → Option Nat) (a : Act) (w : World), loopN (run P T N fuel b) n s K = some r → St N B P0 w0 (fun h => s.nh ≤ h) s.σ φ a w → Code.rounds P b Q n a w := by
      intro n
      induction n with
      | zero => intro s φ a w h; simp [loopN] at h
      | succ n ihn =>
        intro s φ a w h hs
        simp only [loopN] at h
        refine ih s _ _ φ a w h hs fun e s' φ' a' w' hs' hK => ?_
        cases e with
        | normal => exact ihn s' φ' a' w' hK hs'
        | exit id => exact hQ (.exit id) s' φ' a' w' hs' hK
        | ret => exact hQ .ret s' φ' a' w' hs' hK
    exact key fuel s φ a w h hs
  | _ => intro s K Q φ a w h hs hQ; simp [run] at h
end
def resOne (tmps : Array Value) : ResultVar → Sem Value
  | .tmp t => pure (tmps.getD t undef)
  | .cell a t => do loadVar t (← asAddr (tmps.getD a undef))
theorem results_eq (fn : Func) (tmps : Array Value) : results fn tmps = (fn.results.mapM (resOne tmps)) >>= fun vs => (pure (if h : vs.size = 1 then vs[0] else .tuple vs) : Sem Value) := rfl
section
variable {P : Program} {N : Nat} {T : Tab} {fuel : Nat}
theorem resA_run {B : Nat} {P0 : Nat → Prop} {w0 w : World} {fresh : Nat → Prop} {φ : Nat → Option Nat} {a : Act} {σ : Nat → AV} (hs : St N B P0 w0 fresh σ φ a w) : ∀ (l : List ResultVar) (r : List AV), resA P σ l = some r →
    ∃ vs, (l.mapM (resOne a.tmps)).run P w = .ok vs w ∧ Reps φ w (Ok B P0 φ) r vs
  | [], r, h => by
    simp only [resA, Option.some.injEq] at h
    subst h
    exact ⟨[], rfl, by simp [Reps]⟩
  | .tmp t :: rest, r, h => by
    simp only [resA] at h
    split at h
    · rename_i l hl
      injection h with h
      subst h
      obtain ⟨vs, h1, h2⟩ := resA_run hs rest l hl
      refine ⟨a.tmps.getD t undef :: vs, by simp only [List.mapM_cons, Sem.run_bind, resOne, Sem.run_pure, Result.andThen_ok, h1], ?_⟩
      simp only [Reps]
      exact ⟨_, _, rfl, hs.tmps t, h2⟩
    · cases h
  | .cell c ty :: rest, r, h => by
    simp only [resA] at h
    split at h
    · rename_i hh off l hx hl
      split at h
      · rename_i cs hb
        split at h
        · rename_i v hv
          injection h with h
          subst h
          obtain ⟨vs, h1, h2⟩ := resA_run hs rest l hl
          have hp := hs.tmps c
          rw [hx] at hp
          simp only [Rep] at hp
          obtain ⟨b, e1, e2⟩ := hp
          obtain ⟨b', vs', e, f1, f2, f3⟩ := hs.boxes hh cs hb
          rw [e1] at f1
          injection f1 with f1
          subst f1
          obtain ⟨u, k1, k2⟩ := loadVar_run hv (f3.drop off) (reads_block f2)
          refine ⟨u :: vs, by simp only [List.mapM_cons, Sem.run_bind, resOne, e2, asAddr, Sem.run_pure, Result.andThen_ok, h1, k1], ?_⟩
          simp only [Reps]
          exact ⟨_, _, rfl, k2, h2⟩
        · cases h
      · cases h
    · cases h
theorem retA_run {fn : Func} {B : Nat} {P0 : Nat → Prop} {w0 w : World} {fresh : Nat → Prop} {φ : Nat → Option Nat} {a : Act} {σ : Nat → AV} (hs : St N B P0 w0 fresh σ φ a w) {x : AV} (h : retA P fn σ = some x) :
    ∃ v, (results fn a.tmps).run P w = .ok v w ∧ Rep φ w (Ok B P0 φ) x v ∧ noPtr x = true := by
  unfold retA at h
  have key : ∀ l, resA P σ fn.results.toList = some l → ∃ vs, (results fn a.tmps).run P w = .ok (if h : vs.toArray.size = 1 then vs.toArray[0] else .tuple vs.toArray) w ∧ Reps φ w (Ok B P0 φ) l vs := by
    intro l hl
    obtain ⟨vs, h1, h2⟩ := resA_run hs _ l hl
    refine ⟨vs, ?_, h2⟩
    rw [results_eq, Array.mapM_eq_mapM_toList]
    simp [h1]
  split at h
  · rename_i y hl
    split at h
    · rename_i hn
      injection h with h
      subst h
      obtain ⟨vs, h1, h2⟩ := key _ hl
      simp only [Reps] at h2
      obtain ⟨v, vs', rfl, h3, rfl⟩ := h2
      exact ⟨v, by simpa using h1, h3, hn⟩
    · cases h
  · rename_i l hne hl
    split at h
    · rename_i hn
      injection h with h
      subst h
      obtain ⟨vs, h1, h2⟩ := key _ hl
      have hlen := h2.length
      have h1' : vs.length ≠ 1 := by
        intro h11
        rw [h11] at hlen
        match l, hlen, hne with
        | [y], _, hne => exact hne y rfl
      refine ⟨.tuple vs.toArray, by rw [h1]; simp [h1'], ?_, by simpa [noPtr] using hn⟩
      simp only [Rep]
      exact ⟨_, rfl, h2⟩
    · cases h
  · cases h
theorem start_even (args : List AV) (t : Nat) : start args (2 * t) = args.getD t .any := by
  have h1 : 2 * t % 2 = 0 := by omega
  have h2 : 2 * t / 2 = t := by omega
  simp [start, h1, h2]
theorem start_odd (args : List AV) (h : Nat) : start args (2 * h + 1) = .any := by
  have h1 : (2 * h + 1) % 2 = 1 := by omega
  simp only [start, h1]
  rfl
theorem execFn_ok (hT : TOk P T) (hm : P.follows .mixedOrders = true) {f : Nat} {fn : Func} (hf : P.funcs[f]? = some fn) (hc : callable P f = true) : FunOk P f (execFn P T fuel fn) := by
  refine ⟨hc, fun R xs K => ?_, fun xs x h w P0 vs hR => ?_⟩
  · unfold execFn
    split
    · split
      · rw [run_nat hT, run_nat hT (R := AV), Option.bind_assoc]
        congr 1
        funext p
        obtain ⟨e, s⟩ := p
        cases e <;> dsimp only <;> first
          | rfl
          | (cases retA P fn s.σ <;> rfl)
      · rfl
    · rfl
  · unfold execFn at h
    split at h
    · rename_i c hb
      split at h
      · rename_i hlen
        have hl := hR.length
        refine calls_of_wp hf hb ?_
        have hvs : vs.size ≤ fn.ntmps := by rw [← Array.length_toList, hl]; exact hlen
        have hst : St fn.ntmps w.heap.size P0 w (fun h => (0 : Nat) ≤ h) (start xs) (fun _ => none) { tmps := vs ++ Array.replicate (fn.ntmps - vs.size) undef, defers := [] } w :=
          { below := Below.refl _ _
            base := Nat.le_refl _
            defers := rfl
            size := by simp; omega
            tmps := fun t => by
              rw [start_even]
              cases hx : xs[t]? with
              | none => simp [List.getD, hx, Rep]
              | some y =>
                obtain ⟨v, hv, hr⟩ := hR.get t hx
                have hlt : t < vs.size := by
                  have := (List.getElem?_eq_some_iff.1 hv).1
                  simpa using this
                have e1 : (vs ++ Array.replicate (fn.ntmps - vs.size) undef).getD t undef = v := by
                  rw [Array.getD_eq_getD_getElem?, Array.getElem?_append_left hlt]
                  have : vs[t]? = some v := by simpa using hv
                  rw [this]
                  rfl
                simp only [List.getD, hx, Option.getD_some, e1]
                exact Rep.move (fun _ _ h => h) (fun k hk _ => ⟨.inl hk, fun h hh => by cases hh⟩) (fun _ _ _ => rfl) _ hr
            boxes := fun h cs hh => by rw [start_odd] at hh; cases hh
            own := fun h b hh => by cases hh
            inj := fun h h' b hh => by cases hh
            fr := fun h _ => rfl }
        refine run_sound hT hm c ⟨start xs, 0⟩ _ _ _ _ _ h hst fun e s' φ' a' w' hs' hK => ?_
        have fin : (match retA P fn s'.σ with | some r => some r | none => none) = some x → a'.defers = [] ∧ ∃ v, (results fn a'.tmps).run P w' = .ok v w' ∧ ∃ u, Ending.returned v = .returned u ∧ Below w.heap.size w w' ∧ Rep (fun _ => none) w' (fun k => P0 k ∨ w.heap.size ≤ k) x u := by
          intro hK
          split at hK
          · rename_i r hr
            injection hK with hK
            subst hK
            obtain ⟨v, h1, h2, h3⟩ := retA_run hs' hr
            exact ⟨hs'.defers, v, h1, v, rfl, hs'.below, Rep.move (fun _ _ h => h) (fun k hk _ => hk.1) (fun _ _ _ => rfl) _ (Rep.free _ h3 h2)⟩
          · cases hK
        cases e with
        | normal => exact fin hK
        | ret => exact fin hK
        | exit id => cases hK
      · cases h
    · cases h
end
def oneOp' {R : Type} (P : Program) (T : Tab) (N : Nat) (nh : Nat) (ops : Array Oper) (i : Nat) (o : Oper) (σ : Nat → AV) (K : (Nat → AV) → Eff → Option R) : Option R :=
  if dstOk N o = true then
    match o.guard with
    | none => doOp P T (nh + i) σ o (K σ)
    | some (j, want) => match (ops[j]?).bind (·.dst) with
      | some t => match σ (2 * t) with
        | .bool b => if b = want then doOp P T (nh + i) (upd σ (2 * t) (.bool want)) o (K (upd σ (2 * t) (.bool want))) else K (upd σ (2 * t) (.bool (!want))) (val (.tup []))
        | .tup [] => K σ (val (.tup []))
        | _ => none
      | none => none
  else none
def runOps' {R : Type} (P : Program) (T : Tab) (N : Nat) (nh : Nat) (ops : Array Oper) : List Oper → Nat → (Nat → AV) → List (List Nat × List Nat) → ((Nat → AV) → List (List Nat × List Nat) → Option R) → Option R
  | [], _, σ, tr, K => K σ tr
  | o :: rest, i, σ, tr, K => oneOp' P T N nh ops i o σ fun σ e => runOps' P T N nh ops rest (i + 1) (put σ o.dst e) (tr ++ [(rds ops o e, wrs o e)]) K
def know (s : State) (c : Operand) (b : Bool) : State :=
  match c with
  | .tmp t => ⟨upd s.σ (2 * t) (.bool b), s.nh⟩
  | _ => s
def run' {R : Type} (P : Program) (T : Tab) (N : Nat) (fuel : Nat) : Code → State → (Ex → State → Option R) → Option R
  | .skip, s, K => K .normal s
  | .region _ ops draw, s, K =>
    runOps' P T N s.nh ops ops.toList 0 s.σ [] fun σ tr =>
      if draw = true then (if (ordered (befs ops.toList []) tr && edgesOk ops.toList 0) = true then K .normal ⟨σ, s.nh + ops.size⟩ else none) else K .normal ⟨σ, s.nh + ops.size⟩
  | .seq a b, s, K => run' P T N fuel a s fun e s' => match e with
    | .normal => run' P T N fuel b s' K
    | e => K e s'
  | .cond c a b, s, K => match ev s.σ c with
    | .bool t => if t = true then run' P T N fuel a (know s c true) K else run' P T N fuel b (know s c false) K
    | _ => none
  | .block id b, s, K => run' P T N fuel b s fun e s' => match e with
    | .exit i => if i = id then K .normal s' else K (.exit i) s'
    | e => K e s'
  | .loop b, s, K => loopN (run' P T N fuel b) fuel s K
  | .exit id, s, K => K (.exit id) s
  | .ret, s, K => K .ret s
  | _, _, _ => none
def execFn' (P : Program) (T : Tab) (fuel : Nat) (fn : Func) : Fun := fun R args K =>
  match fn.body with
  | some c =>
    if args.length ≤ fn.ntmps then
      run' P T fn.ntmps fuel c ⟨start args, 0⟩ fun e s => match e with
        | .exit _ => none
        | _ => match retA P fn s.σ with | some r => K r | none => none
    else none
  | none => none
theorem upd_same {σ : Nat → AV} {x : Nat} {v : AV} (h : σ x = v) : upd σ x v = σ := by
  funext y
  rw [upd_eq]
  split
  · rename_i e; rw [e, h]
  · rfl
section
variable {P : Program} {N nh : Nat} {ops : Array Oper} {T : Tab} {fuel : Nat}
theorem oneOp'_eq {R : Type} {i : Nat} {o : Oper} {σ : Nat → AV} (K : (Nat → AV) → Eff → Option R) : oneOp' P T N nh ops i o σ K = oneOp P T N nh ops i o σ (K σ) := by
  unfold oneOp' oneOp
  split
  · cases hg : o.guard with
    | none => rfl
    | some p =>
      obtain ⟨j, want⟩ := p
      dsimp only
      unfold yieldA
      cases (ops[j]?).bind (·.dst) with
      | none => rfl
      | some t =>
        dsimp only
        cases hs : σ (2 * t) <;> try dsimp only
        rotate_left
        · rename_i l
          cases l <;> rfl
        rename_i b
        by_cases h : b = want
        · subst h
          rw [if_pos rfl, if_pos rfl, upd_same hs]
        · rw [if_neg h, if_neg h, upd_same (by rw [hs]; cases b <;> cases want <;> simp_all)]
  · rfl
theorem runOps'_eq {R : Type} (K : (Nat → AV) → List (List Nat × List Nat) → Option R) : ∀ (rest : List Oper) (i : Nat) (σ : Nat → AV) (tr : List (List Nat × List Nat)), runOps' P T N nh ops rest i σ tr K = runOps P T N nh ops rest i σ tr K
  | [], _, _, _ => rfl
  | o :: rest, i, σ, tr => by
    simp only [runOps', runOps, oneOp'_eq]
    congr 1
    funext e
    exact runOps'_eq K rest (i + 1) _ _
theorem know_eq {s : State} {c : Operand} {b : Bool} (h : ev s.σ c = .bool b) : know s c b = s := by
  cases c <;> simp only [know]
  rw [upd_same h]
theorem loopN_congr {R : Type} {f g : State → (Ex → State → Option R) → Option R} (h : ∀ s K, f s K = g s K) (K : Ex → State → Option R) : ∀ (n : Nat) (s : State), loopN f n s K = loopN g n s K
  | 0, _ => rfl
  | n + 1, s => by
    simp only [loopN, h]
    congr 1
    funext e s'
    cases e <;> simp only
    exact loopN_congr h K n s'
theorem run'_eq : ∀ (c : Code) {R : Type} (s : State) (K : Ex → State → Option R), run' P T N fuel c s K = run P T N fuel c s K := by
  intro c
  induction c with
  | region id ops draw => intro R s K; simp only [run', run, runOps'_eq]
  | seq x y ihx ihy =>
    intro R s K
    simp only [run', run, ihx]
    congr 1
    funext e s'
    cases e <;> simp only [ihy]
  | cond c x y ihx ihy =>
    intro R s K
    simp only [run', run]
    cases hc : ev s.σ c <;> simp only [ihx, ihy]
    rename_i t
    cases t with
    | true => rw [if_pos rfl, if_pos rfl, know_eq hc]
    | false => rw [if_neg (by decide), if_neg (by decide), know_eq hc]
  | block id b ih =>
    intro R s K
    simp only [run', run, ih]
    try congr 1
  | loop b ih => intro R s K; simp only [run', run]; exact loopN_congr (fun s K => ih s K) K fuel s
  | _ => intro R s K; rfl
theorem execFn'_eq (fn : Func) : execFn' P T fuel fn = execFn P T fuel fn := by
  funext R args K
  unfold execFn' execFn
  cases fn.body with
  | none => rfl
  | some c =>
    dsimp only
    split
    · rw [run'_eq]
      try congr 1
    · rfl
theorem execFn'_ok (hT : TOk P T) (hm : P.follows .mixedOrders = true) {f : Nat} {fn : Func} (hf : P.funcs[f]? = some fn) (hc : callable P f = true) : FunOk P f (execFn' P T fuel fn) := by
  rw [execFn'_eq]
  exact execFn_ok hT hm hf hc
end
abbrev CF (A B : Type) := (R : Type) → A → (B → Option R) → Option R
structure Cd (A : Type) where
  dec : AV → Option A
  enc : A → AV
  ok : ∀ {φ : Nat → Option Nat} {W : World} {o : Nat → Prop} {x : AV} {v : Value} {a : A}, Rep φ W o x v → dec x = some a → Rep φ W o (enc a) v
structure Cds (A : Type) where
  dec : List AV → Option A
  enc : A → List AV
  ok : ∀ {φ : Nat → Option Nat} {W : World} {o : Nat → Prop} {x : List AV} {v : List Value} {a : A}, Reps φ W o x v → dec x = some a → Reps φ W o (enc a) v
def cb : Cd Bool where
  dec x := match x with | .bool b => some b | _ => none
  enc := .bool
  ok := fun {φ W o x v a} h e => by cases x <;> simp only [] at e <;> first | (cases e; done) | (injection e with e; subst e; exact h)
def cs : Cd ByteArray where
  dec x := match x with | .str b => some b | _ => none
  enc := .str
  ok := fun {φ W o x v a} h e => by cases x <;> simp only [] at e <;> first | (cases e; done) | (injection e with e; subst e; exact h)
def ci (k : IntKind) : Cd Int where
  dec x := match x with | .int k' n => if k' = k then some n else none | _ => none
  enc := .int k
  ok := fun {φ W o x v a} h e => by
    cases x <;> simp only [] at e <;> try (cases e; done)
    split at e
    · rename_i hk
      injection e with e
      subst e hk
      exact h
    · cases e
def cr (k : IntKind) : Cd (List Int) where
  dec x := match x with | .nil => some [] | .row k' l => if k' = k then some l else none | _ => none
  enc := .row k
  ok := fun {φ W o x v a} h e => by
    cases x <;> simp only [] at e <;> try (cases e; done)
    · injection e with e
      subst e
      simp only [Rep] at h ⊢
      subst h
      exact ⟨none, 0, rfl, Nat.le_refl _, fun W' _ => Kd.C_nil _ _⟩
    · split at e
      · rename_i hk
        injection e with e
        subst e hk
        exact h
      · cases e
def agg {A : Type} (c : Cds A) : Cd A where
  dec x := match x with | .agg l => c.dec l | _ => none
  enc a := .agg (c.enc a)
  ok := fun {φ W o x v a} h e => by
    cases x <;> simp only [] at e <;> try (cases e; done)
    simp only [Rep] at h ⊢
    obtain ⟨cs, h1, h2⟩ := h
    exact ⟨cs, h1, c.ok h2 e⟩
def tup {A : Type} (c : Cds A) : Cd A where
  dec x := match x with | .tup l => c.dec l | _ => none
  enc a := .tup (c.enc a)
  ok := fun {φ W o x v a} h e => by
    cases x <;> simp only [] at e <;> try (cases e; done)
    simp only [Rep] at h ⊢
    obtain ⟨cs, h1, h2⟩ := h
    exact ⟨cs, h1, c.ok h2 e⟩
def one {A : Type} (c : Cd A) : Cds A where
  dec l := match l with | [x] => c.dec x | _ => none
  enc a := [c.enc a]
  ok := fun {φ W o x v a} h e => by
    split at e
    · simp only [Reps] at h ⊢
      obtain ⟨v, vs', h1, h2, h3⟩ := h
      exact ⟨v, vs', h1, c.ok h2 e, h3⟩
    · cases e
def more {A B : Type} (c : Cd A) (cs : Cds B) : Cds (A × B) where
  dec l := match l with | x :: l => (match c.dec x with | some a => (match cs.dec l with | some b => some (a, b) | none => none) | none => none) | [] => none
  enc a := c.enc a.1 :: cs.enc a.2
  ok := fun {φ W o x v a} h e => by
    split at e
    · split at e
      · rename_i a1 h1
        split at e
        · rename_i b1 h2
          injection e with e
          subst e
          simp only [Reps] at h ⊢
          obtain ⟨v, vs', k1, k2, k3⟩ := h
          exact ⟨v, vs', k1, c.ok k2 h1, cs.ok k3 h2⟩
        · cases e
      · cases e
    · cases e
def arr {A : Type} (n : Nat) (c : Cds A) : Cd A where
  dec x := match x with | .arr m l => if m = n ∧ (c.dec l).isSome ∧ ((c.dec l).map fun a => (c.enc a).length) = some l.length then c.dec l else none | _ => none
  enc a := .arr n (c.enc a)
  ok := fun {φ W o x v a} h e => by
    cases x <;> simp only [] at e <;> try (cases e; done)
    split at e
    · rename_i hk
      obtain ⟨rfl, h1, h2⟩ := hk
      simp only [Rep] at h ⊢
      rw [e] at h2
      injection h2 with h2
      obtain ⟨p, n, cc, vs, k1, k2, k3, k4, k5, k6⟩ := h
      exact ⟨p, n, cc, vs, k1, k2, by rw [k3]; exact h2.symm, k4, k5, c.ok k6 e⟩
    · cases e
abbrev Nm := Bool × List Int × List Int
def rU := cr .u32
def rI := cr .i64
def iI := ci .i64
def kN : Cd Nm := agg (more cb (more rU (one rU)))
def kQ : Cd Nm := agg (more cb (more rI (one rI)))
def kE : Cd (Nm × Int) := tup (more kN (one iI))
def mk {A B : Type} (ca : Cds A) (cb : Cd B) (c : (R : Type) → A → (B → Option R) → Option R) : Fun := fun R ys K => match ca.dec ys with | some a => c R a fun b => K (cb.enc b) | none => none
theorem mk_ok {P : Program} {f : Nat} {A B : Type} {ca : Cds A} {cb : Cd B} {c : (R : Type) → A → (B → Option R) → Option R} (hc : callable P f = true) (hn : ∀ (R : Type) a (K : B → Option R), c R a K = (c B a some).bind K) (h : ∀ a b, c B a some = some b → PureC P f (ca.enc a) (cb.enc b)) : FunOk P f (mk ca cb c) := by
  refine ⟨hc, fun R xs K => ?_, fun xs x hx => ?_⟩
  · unfold mk
    split
    · rename_i a ha
      rw [hn R, hn AV, Option.bind_assoc]
      rfl
    · rfl
  · unfold mk at hx
    split at hx
    · rename_i a ha
      rw [hn] at hx
      obtain ⟨b, h1, h2⟩ := Option.bind_eq_some_iff.1 hx
      injection h2 with h2
      subst h2
      exact fun w P0 vs hr => h a b h1 w P0 vs (ca.ok hr ha)
    · cases hx
def dk {B R : Type} (c : Cd B) (K : B → Option R) (x : AV) : Option R := match c.dec x with | some b => K b | none => none
theorem exec_nat {P : Program} {T : Tab} {fuel f : Nat} {fn : Func} {A B : Type} {enc : A → List AV} {cb : Cd B} {c : (R : Type) → A → (B → Option R) → Option R} (hT : TOk P T) (hm : P.follows .mixedOrders = true) (hf : P.funcs[f]? = some fn) (hc : callable P f = true)
    (h : ∀ (R : Type) a (K : B → Option R), execFn' P T fuel fn R (enc a) (dk cb K) = c R a K) (R : Type) (a : A) (K : B → Option R) : c R a K = (c B a some).bind K := by
  have hF := execFn'_ok (fuel := fuel) hT hm hf hc
  rw [← h, ← h, hF.2.1 R, hF.2.1 B, Option.bind_assoc]
  congr 1
  funext x
  unfold dk
  cases cb.dec x <;> rfl
theorem exec_pure {P : Program} {T : Tab} {fuel f : Nat} {fn : Func} {A B : Type} {enc : A → List AV} {cb : Cd B} {c : (R : Type) → A → (B → Option R) → Option R} (hT : TOk P T) (hm : P.follows .mixedOrders = true) (hf : P.funcs[f]? = some fn) (hc : callable P f = true)
    (h : ∀ (R : Type) a (K : B → Option R), execFn' P T fuel fn R (enc a) (dk cb K) = c R a K) (a : A) (b : B) (hb : c B a some = some b) : PureC P f (enc a) (cb.enc b) := by
  have hF := execFn'_ok (fuel := fuel) hT hm hf hc
  rw [← h, hF.2.1 B] at hb
  obtain ⟨x, h1, h2⟩ := Option.bind_eq_some_iff.1 hb
  unfold dk at h2
  split at h2
  · rename_i b' hb'
    injection h2 with h2
    subst h2
    intro w P0 vs hr
    refine Calls.mono (hF.2.2 _ _ h1 w P0 vs hr) fun e w' he => ?_
    obtain ⟨v, e1, e2, e3⟩ := he
    exact ⟨v, e1, e2, cb.ok e3 hb'⟩
  · cases h2
def Shown (P : Program) (f : Nat) {A B : Type} (enc : A → List AV) (cb : Cd B) (c : CF A B) : Prop := (∀ (R : Type) a (K : B → Option R), c R a K = (c B a some).bind K) ∧ ∀ a b, c B a some = some b → PureC P f (enc a) (cb.enc b)
theorem exec_shown {P : Program} {T : Tab} {fuel f : Nat} {fn : Func} {A B : Type} {enc : A → List AV} {cb : Cd B} {c : CF A B} (hT : TOk P T) (hm : P.follows .mixedOrders = true) (hf : P.funcs[f]? = some fn) (hc : callable P f = true)
    (h : ∀ (R : Type) a (K : B → Option R), execFn' P T fuel fn R (enc a) (dk cb K) = c R a K) : Shown P f enc cb c := ⟨exec_nat hT hm hf hc h, exec_pure hT hm hf hc h⟩
theorem Shown.ok {P : Program} {f : Nat} {A B : Type} {ca : Cds A} {cb : Cd B} {c : CF A B} (h : Shown P f ca.enc cb c) (hc : callable P f = true) : FunOk P f (mk ca cb c) := mk_ok hc h.1 h.2
def Evt {A : Type} (g : Nat → Option A) (a : A) : Prop := ∃ k0, ∀ k, k0 ≤ k → g k = some a
open Classical in
noncomputable def lim {A : Type} (g : Nat → Option A) : Option A := if h : ∃ a, Evt g a then some h.choose else none
theorem Evt.unique {A : Type} {g : Nat → Option A} {a b : A} (h : Evt g a) (h' : Evt g b) : a = b := by
  obtain ⟨n, h1⟩ := h
  obtain ⟨m, h2⟩ := h'
  have e1 := h1 (max n m) (Nat.le_max_left _ _)
  have e2 := h2 (max n m) (Nat.le_max_right _ _)
  rw [e1] at e2
  injection e2
theorem lim_ev {A : Type} {g : Nat → Option A} {a : A} (h : Evt g a) : lim g = some a := by
  have hx : ∃ a, Evt g a := ⟨a, h⟩
  unfold lim
  rw [dif_pos hx]
  exact congrArg some (hx.choose_spec.unique h)
theorem lim_some {A : Type} {g : Nat → Option A} {a : A} (h : lim g = some a) : ∃ k, g k = some a := by
  unfold lim at h
  split at h
  · rename_i hx
    injection h with h
    obtain ⟨k, hk⟩ := hx.choose_spec
    exact ⟨k, by rw [← h]; exact hk k (Nat.le_refl k)⟩
  · cases h
noncomputable def lm {A B : Type} (g : A → Nat → Option B) (R : Type) (a : A) (K : B → Option R) : Option R := (lim (g a)).bind K
def at' {A B : Type} (g : A → Option B) (R : Type) (a : A) (K : B → Option R) : Option R := (g a).bind K
theorem lm_ok {P : Program} {f : Nat} {A B : Type} {ca : Cds A} {cb : Cd B} {g : A → Nat → Option B} (hc : callable P f = true) (h : ∀ a b k, g a k = some b → PureC P f (ca.enc a) (cb.enc b)) : FunOk P f (mk ca cb (lm g)) := by
  refine mk_ok hc (fun R a K => by unfold lm; cases lim (g a) <;> rfl) fun a b hb => ?_
  unfold lm at hb
  obtain ⟨x, h1, h2⟩ := Option.bind_eq_some_iff.1 hb
  injection h2 with h2
  subst h2
  obtain ⟨k, hk⟩ := lim_some h1
  exact h a x k hk
theorem at_ok {P : Program} {f : Nat} {A B : Type} {ca : Cds A} {cb : Cd B} {g : A → Option B} (hc : callable P f = true) (h : ∀ a b, g a = some b → PureC P f (ca.enc a) (cb.enc b)) : FunOk P f (mk ca cb (at' g)) := by
  refine mk_ok hc (fun R a K => by unfold at'; cases g a <;> rfl) fun a b hb => ?_
  unfold at' at hb
  obtain ⟨x, h1, h2⟩ := Option.bind_eq_some_iff.1 hb
  injection h2 with h2
  subst h2
  exact h a x h1
theorem lm_ev {A B R : Type} {g : A → Nat → Option B} {a : A} {b : B} (h : Evt (g a) b) (K : B → Option R) : lm g R a K = K b := by unfold lm; rw [lim_ev h]; rfl
theorem at_eq {A B R : Type} {g : A → Option B} {a : A} {b : B} (h : g a = some b) (K : B → Option R) : at' g R a K = K b := by unfold at'; rw [h]; rfl
def tb : List (Nat × Fun) → Tab
  | [], _ => none
  | (n, F) :: l, g => bif Nat.beq n g then some F else tb l g
theorem tb_nil {P : Program} : TOk P (tb []) := fun g F h => by cases h
theorem tb_cons {P : Program} {n : Nat} {F : Fun} {l : List (Nat × Fun)} (h : FunOk P n F) (hl : TOk P (tb l)) : TOk P (tb ((n, F) :: l)) := fun g G hg => by
  simp only [tb] at hg
  cases hb : Nat.beq n g with
  | true =>
    rw [hb] at hg
    injection hg with hg
    have := Nat.eq_of_beq_eq_true hb
    subst this hg
    exact h
  | false =>
    rw [hb] at hg
    exact hl g G hg
section
variable {φ : Nat → Option Nat} {w W : World} {o ok' : Nat → Prop} {xs : List AV} {vs : List Value} {v : Value} {k : IntKind} {l : List Int}
theorem at_row (h : Reps φ w o (.row k l :: xs) vs) : ∃ A c vs', vs = .slice A l.length c :: vs' ∧ l.length ≤ c ∧ Kd.F (Kd.int k) w o A l.length l ∧ Reps φ w o xs vs' := by
  simp only [Reps, Rep] at h
  obtain ⟨v, vs', h1, ⟨A, c, rfl, h2, h3⟩, h4⟩ := h
  exact ⟨A, c, vs', h1, h2, h3, h4⟩
theorem at_int {n : Int} (h : Reps φ w o (.int k n :: xs) vs) : ∃ vs', vs = .int k n :: vs' ∧ Reps φ w o xs vs' := by
  simp only [Reps, Rep] at h
  obtain ⟨v, vs', h1, rfl, h4⟩ := h
  exact ⟨vs', h1, h4⟩
theorem at_bool {b : Bool} (h : Reps φ w o (.bool b :: xs) vs) : ∃ vs', vs = .bool b :: vs' ∧ Reps φ w o xs vs' := by
  simp only [Reps, Rep] at h
  obtain ⟨v, vs', h1, rfl, h4⟩ := h
  exact ⟨vs', h1, h4⟩
theorem at_str {b : ByteArray} (h : Reps φ w o (.str b :: xs) vs) : ∃ vs', vs = .string b :: vs' ∧ Reps φ w o xs vs' := by
  simp only [Reps, Rep] at h
  obtain ⟨v, vs', h1, rfl, h4⟩ := h
  exact ⟨vs', h1, h4⟩
theorem at_nil (h : Reps φ w o [] vs) : vs = [] := by simpa only [Reps] using h
theorem at_agg {m : List AV} (h : Reps φ w o (.agg m :: xs) vs) : ∃ cs vs', vs = .agg cs :: vs' ∧ Reps φ w o m cs.toList ∧ Reps φ w o xs vs' := by
  simp only [Reps, Rep] at h
  obtain ⟨v, vs', h1, ⟨cs, rfl, h2⟩, h4⟩ := h
  exact ⟨cs, vs', h1, h2, h4⟩
theorem V_row {e b : Nat} (h : Kd.V (Kd.int k) e W b o v l) (hok : ∀ n, o n → ok' n) : Rep φ W ok' (.row k l) v := by
  obtain ⟨A, c, h1, h2, h3⟩ := h
  simp only [Rep]
  exact ⟨A, c, h1, h2, Kd.F_mono h3 hok⟩
theorem R_new {e b : Nat} (h : (Kd.int k).R e W b o v l) (hok : ∀ n, b ≤ n → ok' n) : Rep φ W ok' (.row k l) v := V_row (Kd.V_mono (Kd.R_V (base' := b) (Kd.R_bound h)) fun k hk => hok k hk.2.1) fun _ h => h
theorem now {A : Option Addr} {n : Nat} (h : Kd.F (Kd.int k) w o A n l) : Kd.C (Kd.int k) w A n l := Foot.now h
theorem rowV {A : Option Addr} {c e b : Nat} (h : Kd.F (Kd.int k) w o A l.length l) (hl : l.length ≤ c) : Kd.V (Kd.int k) e w b (fun n => o n) (.slice A l.length c) l := Kd.V_mk hl h
theorem rep_tup2 {x y : AV} {u : Value} (h : Rep φ W o x v) (h' : Rep φ W o y u) : Rep φ W o (.tup [x, y]) (.tuple #[v, u]) := by
  simp only [Rep, Reps]
  exact ⟨_, rfl, v, [u], rfl, h, u, [], rfl, h', rfl⟩
theorem rep_tup3 {x y z : AV} {u t : Value} (h : Rep φ W o x v) (h' : Rep φ W o y u) (h'' : Rep φ W o z t) : Rep φ W o (.tup [x, y, z]) (.tuple #[v, u, t]) := by
  simp only [Rep, Reps]
  exact ⟨_, rfl, v, [u, t], rfl, h, u, [t], rfl, h', t, [], rfl, h'', rfl⟩
theorem rep_agg3 {x y z : AV} {u t : Value} (h : Rep φ W o x v) (h' : Rep φ W o y u) (h'' : Rep φ W o z t) : Rep φ W o (.agg [x, y, z]) (.agg #[v, u, t]) := by
  simp only [Rep, Reps]
  exact ⟨_, rfl, v, [u, t], rfl, h, u, [t], rfl, h', t, [], rfl, h'', rfl⟩
theorem row_C {A : Option Addr} {c : Nat} (h : l.length ≤ c) (hc : Kd.C (Kd.int k) w A l.length l) : Rep φ w (fun n => n < w.heap.size) (.row k l) (.slice A l.length c) := by
  simp only [Rep]
  exact ⟨A, c, rfl, h, Kd.C_F (Kd.heap_int k) hc⟩
theorem rep_num {A A' : Option Addr} {c c' : Nat} {l' : List Int} (b : Bool) (h : l.length ≤ c) (hc : Kd.C (Kd.int k) w A l.length l) (h' : l'.length ≤ c') (hc' : Kd.C (Kd.int k) w A' l'.length l') : Rep φ w (fun n => n < w.heap.size) (.agg [.bool b, .row k l, .row k l']) (.agg #[.bool b, .slice A l.length c, .slice A' l'.length c']) :=
  rep_agg3 (by simp only [Rep]) (row_C h hc) (row_C h' hc')
theorem rep_int3 (n : Int) : Rep φ w o (.int k n) (.int k n) := by simp only [Rep]
theorem reps_cons {x : AV} (h : Rep φ w o x v) (h' : Reps φ w o xs vs) : Reps φ w o (x :: xs) (v :: vs) := by
  simp only [Reps]
  exact ⟨v, vs, rfl, h, h'⟩
theorem reps_nil : Reps φ w o [] [] := by simp only [Reps]
end
def none0 : Cds Unit where
  dec l := match l with | [] => some () | _ => none
  enc _ := []
  ok := fun {φ W o x v a} h e => by
    split at e
    · exact h
    · cases e
end Go.Proofs.YtemnjgkicndmjaaDoor.E
namespace Go.Proofs.YtemnjgkicndmjaaDoor.Q
open Go.RowKit Go.Proofs.YtemnjgkicndmjaaDoor.E Go.Proofs.YtemnjgkicndmjaaDoorW.PrintWords Go.Proofs.YtemnjgkicndmjaaDoorW.PrintLast Go.Proofs.YtemnjgkicndmjaaDoorW.PrintMore
set_option linter.unusedVariables false
theorem mixed : Tryd.prog.follows .mixedOrders = true := by kernel_rfl
noncomputable def number_Check.c : (R : Type) → (Nm) → ((Int) → Option R) → Option R := fun R a => lm (fun (a : Nm) k => number_Check.f k a.1 a.2.1 a.2.2) R a
theorem number_Check.pc (a : Nm) (b : Int) (k : Nat) (h : number_Check.f k a.1 a.2.1 a.2.2 = some b) : PureC Tryd.prog 14 ((one kN).enc a) (iI.enc b) := by
  intro w P0 vs hr
  obtain ⟨x0, x1, x2⟩ := a
  obtain ⟨d0, u0, e0, hg0, hr⟩ := at_agg hr
  obtain ⟨u1, e1, hg0⟩ := at_bool hg0
  obtain ⟨A2, c2, u2, e2, hc2, hf2, hg0⟩ := at_row hg0
  obtain ⟨A3, c3, u3, e3, hc3, hf3, hg0⟩ := at_row hg0
  have z := at_nil hg0
  subst z
  subst e3
  subst e2
  have q4 := e1
  obtain rfl : d0 = #[.bool x0, .slice A2 x1.length c2, .slice A3 x2.length c3] := Array.toList_inj.1 (by simpa using q4)
  have z := at_nil hr
  subst z
  have q5 := e0
  obtain rfl : vs = #[.agg #[.bool x0, .slice A2 x1.length c2, .slice A3 x2.length c3]] := Array.toList_inj.1 (by simpa using q5)
  refine Calls.mono (number_Check.calls k x0 A2 c2 x1 A3 c3 x2 b w (now hf2) hc2 (now hf3) hc3 h) fun e w' he => ?_
  obtain ⟨rfl, hb⟩ := he
  exact ⟨_, rfl, hb, (show E.Rep _ _ _ _ _ from by simp only [iI, ci, E.Rep])⟩
theorem number_Check.ok : FunOk Tryd.prog 14 (mk (one kN) iI number_Check.c) := lm_ok (by kernel_rfl) number_Check.pc
theorem number_Check.eq {x0 : Bool} {x1 : List Int} {x2 : List Int} {b : Int} (h : Ev (fun k => number_Check.f k x0 x1 x2) b) {R : Type} (K : (Int) → Option R) : number_Check.c R (x0, x1, x2) K = K b := lm_ev (g := fun (a : Nm) k => number_Check.f k a.1 a.2.1 a.2.2) (a := (x0, x1, x2)) h K
noncomputable def nat_Mul.c : (R : Type) → (List Int × List Int) → ((List Int) → Option R) → Option R := fun R a => lm (fun (a : List Int × List Int) k => nat_Mul.f k a.1 a.2) R a
theorem nat_Mul.pc (a : List Int × List Int) (b : List Int) (k : Nat) (h : nat_Mul.f k a.1 a.2 = some b) : PureC Tryd.prog 77 ((more rU (one rU)).enc a) (rU.enc b) := by
  intro w P0 vs hr
  obtain ⟨x0, x1⟩ := a
  obtain ⟨A0, c0, u0, e0, hc0, hf0, hr⟩ := at_row hr
  obtain ⟨A1, c1, u1, e1, hc1, hf1, hr⟩ := at_row hr
  have z := at_nil hr
  subst z
  subst e1
  have q2 := e0
  obtain rfl : vs = #[.slice A0 x0.length c0, .slice A1 x1.length c1] := Array.toList_inj.1 (by simpa using q2)
  refine Calls.mono (nat_Mul.calls k A0 c0 x0 A1 c1 x1 b w (now hf0) hc0 (now hf1) hc1 h) fun e w' he => ?_
  obtain ⟨v0_, rfl, hv0, hb⟩ := he
  exact ⟨_, rfl, hb, (V_row hv0 fun n hn => .inr hn)⟩
theorem nat_Mul.ok : FunOk Tryd.prog 77 (mk (more rU (one rU)) rU nat_Mul.c) := lm_ok (by kernel_rfl) nat_Mul.pc
theorem nat_Mul.eq {x0 : List Int} {x1 : List Int} {b : List Int} (h : Ev (fun k => nat_Mul.f k x0 x1) b) {R : Type} (K : (List Int) → Option R) : nat_Mul.c R (x0, x1) K = K b := lm_ev (g := fun (a : List Int × List Int) k => nat_Mul.f k a.1 a.2) (a := (x0, x1)) h K
noncomputable def nat_plus.c : (R : Type) → (List Int × List Int) → ((List Int) → Option R) → Option R := fun R a => lm (fun (a : List Int × List Int) k => nat_plus.f k a.1 a.2) R a
theorem nat_plus.pc (a : List Int × List Int) (b : List Int) (k : Nat) (h : nat_plus.f k a.1 a.2 = some b) : PureC Tryd.prog 105 ((more rU (one rU)).enc a) (rU.enc b) := by
  intro w P0 vs hr
  obtain ⟨x0, x1⟩ := a
  obtain ⟨A0, c0, u0, e0, hc0, hf0, hr⟩ := at_row hr
  obtain ⟨A1, c1, u1, e1, hc1, hf1, hr⟩ := at_row hr
  have z := at_nil hr
  subst z
  subst e1
  have q2 := e0
  obtain rfl : vs = #[.slice A0 x0.length c0, .slice A1 x1.length c1] := Array.toList_inj.1 (by simpa using q2)
  refine Calls.mono (nat_plus.calls k A0 c0 x0 A1 c1 x1 b w (now hf0) hc0 (now hf1) hc1 h) fun e w' he => ?_
  obtain ⟨v0_, rfl, hv0, hb⟩ := he
  exact ⟨_, rfl, hb, (V_row hv0 fun n hn => .inr hn)⟩
theorem nat_plus.ok : FunOk Tryd.prog 105 (mk (more rU (one rU)) rU nat_plus.c) := lm_ok (by kernel_rfl) nat_plus.pc
theorem nat_plus.eq {x0 : List Int} {x1 : List Int} {b : List Int} (h : Ev (fun k => nat_plus.f k x0 x1) b) {R : Type} (K : (List Int) → Option R) : nat_plus.c R (x0, x1) K = K b := lm_ev (g := fun (a : List Int × List Int) k => nat_plus.f k a.1 a.2) (a := (x0, x1)) h K
noncomputable def nat_Compare.c : (R : Type) → (List Int × List Int) → ((Int) → Option R) → Option R := fun R a => lm (fun (a : List Int × List Int) k => nat_Compare.f k a.1 a.2) R a
theorem nat_Compare.pc (a : List Int × List Int) (b : Int) (k : Nat) (h : nat_Compare.f k a.1 a.2 = some b) : PureC Tryd.prog 109 ((more rU (one rU)).enc a) (iI.enc b) := by
  intro w P0 vs hr
  obtain ⟨x0, x1⟩ := a
  obtain ⟨A0, c0, u0, e0, hc0, hf0, hr⟩ := at_row hr
  obtain ⟨A1, c1, u1, e1, hc1, hf1, hr⟩ := at_row hr
  have z := at_nil hr
  subst z
  subst e1
  have q2 := e0
  obtain rfl : vs = #[.slice A0 x0.length c0, .slice A1 x1.length c1] := Array.toList_inj.1 (by simpa using q2)
  refine Calls.mono (nat_Compare.calls k A0 c0 x0 A1 c1 x1 b w (now hf0) hc0 (now hf1) hc1 h) fun e w' he => ?_
  obtain ⟨rfl, hb⟩ := he
  exact ⟨_, rfl, hb.below, (show E.Rep _ _ _ _ _ from by simp only [iI, ci, E.Rep])⟩
theorem nat_Compare.ok : FunOk Tryd.prog 109 (mk (more rU (one rU)) iI nat_Compare.c) := lm_ok (by kernel_rfl) nat_Compare.pc
theorem nat_Compare.eq {x0 : List Int} {x1 : List Int} {b : Int} (h : Ev (fun k => nat_Compare.f k x0 x1) b) {R : Type} (K : (Int) → Option R) : nat_Compare.c R (x0, x1) K = K b := lm_ev (g := fun (a : List Int × List Int) k => nat_Compare.f k a.1 a.2) (a := (x0, x1)) h K
noncomputable def nat_Sub.c : (R : Type) → (List Int × List Int) → ((List Int) → Option R) → Option R := fun R a => lm (fun (a : List Int × List Int) k => nat_Sub.f k a.1 a.2) R a
theorem nat_Sub.pc (a : List Int × List Int) (b : List Int) (k : Nat) (h : nat_Sub.f k a.1 a.2 = some b) : PureC Tryd.prog 132 ((more rU (one rU)).enc a) (rU.enc b) := by
  intro w P0 vs hr
  obtain ⟨x0, x1⟩ := a
  obtain ⟨A0, c0, u0, e0, hc0, hf0, hr⟩ := at_row hr
  obtain ⟨A1, c1, u1, e1, hc1, hf1, hr⟩ := at_row hr
  have z := at_nil hr
  subst z
  subst e1
  have q2 := e0
  obtain rfl : vs = #[.slice A0 x0.length c0, .slice A1 x1.length c1] := Array.toList_inj.1 (by simpa using q2)
  refine Calls.mono (nat_Sub.calls k A0 c0 x0 A1 c1 x1 b w (now hf0) hc0 (now hf1) hc1 h) fun e w' he => ?_
  obtain ⟨v0_, rfl, hv0, hb⟩ := he
  exact ⟨_, rfl, hb, (V_row hv0 fun n hn => .inr hn)⟩
theorem nat_Sub.ok : FunOk Tryd.prog 132 (mk (more rU (one rU)) rU nat_Sub.c) := lm_ok (by kernel_rfl) nat_Sub.pc
theorem nat_Sub.eq {x0 : List Int} {x1 : List Int} {b : List Int} (h : Ev (fun k => nat_Sub.f k x0 x1) b) {R : Type} (K : (List Int) → Option R) : nat_Sub.c R (x0, x1) K = K b := lm_ev (g := fun (a : List Int × List Int) k => nat_Sub.f k a.1 a.2) (a := (x0, x1)) h K
noncomputable def nat_Gcd.c : (R : Type) → (List Int × List Int) → ((List Int) → Option R) → Option R := fun R a => lm (fun (a : List Int × List Int) k => nat_Gcd.f k a.1 a.2) R a
theorem nat_Gcd.pc (a : List Int × List Int) (b : List Int) (k : Nat) (h : nat_Gcd.f k a.1 a.2 = some b) : PureC Tryd.prog 44 ((more rU (one rU)).enc a) (rU.enc b) := by
  intro w P0 vs hr
  obtain ⟨x0, x1⟩ := a
  obtain ⟨A0, c0, u0, e0, hc0, hf0, hr⟩ := at_row hr
  obtain ⟨A1, c1, u1, e1, hc1, hf1, hr⟩ := at_row hr
  have z := at_nil hr
  subst z
  subst e1
  have q2 := e0
  obtain rfl : vs = #[.slice A0 x0.length c0, .slice A1 x1.length c1] := Array.toList_inj.1 (by simpa using q2)
  refine Calls.mono (nat_Gcd.calls k P0 A0 c0 x0 P0 A1 c1 x1 b w (rowV hf0 hc0) (rowV hf1 hc1) h) fun e w' he => ?_
  obtain ⟨v0_, rfl, hv0, hb⟩ := he
  exact ⟨_, rfl, hb, (R_new hv0 fun n hn => .inr hn)⟩
theorem nat_Gcd.ok : FunOk Tryd.prog 44 (mk (more rU (one rU)) rU nat_Gcd.c) := lm_ok (by kernel_rfl) nat_Gcd.pc
theorem nat_Gcd.eq {x0 : List Int} {x1 : List Int} {b : List Int} (h : Ev (fun k => nat_Gcd.f k x0 x1) b) {R : Type} (K : (List Int) → Option R) : nat_Gcd.c R (x0, x1) K = K b := lm_ev (g := fun (a : List Int × List Int) k => nat_Gcd.f k a.1 a.2) (a := (x0, x1)) h K
noncomputable def nat_DivMod.c : (R : Type) → (List Int × List Int) → (((List Int × List Int)) → Option R) → Option R := fun R a => lm (fun (a : List Int × List Int) k => nat_DivMod.f k a.1 a.2) R a
theorem nat_DivMod.pc (a : List Int × List Int) (b : (List Int × List Int)) (k : Nat) (h : nat_DivMod.f k a.1 a.2 = some b) : PureC Tryd.prog 94 ((more rU (one rU)).enc a) ((tup (more rU (one rU))).enc b) := by
  intro w P0 vs hr
  obtain ⟨x0, x1⟩ := a
  obtain ⟨r0, r1⟩ := b
  obtain ⟨A0, c0, u0, e0, hc0, hf0, hr⟩ := at_row hr
  obtain ⟨A1, c1, u1, e1, hc1, hf1, hr⟩ := at_row hr
  have z := at_nil hr
  subst z
  subst e1
  have q2 := e0
  obtain rfl : vs = #[.slice A0 x0.length c0, .slice A1 x1.length c1] := Array.toList_inj.1 (by simpa using q2)
  refine Calls.mono (nat_DivMod.calls k A0 c0 x0 A1 c1 x1 r0 r1 w (now hf0) hc0 (now hf1) hc1 h) fun e w' he => ?_
  obtain ⟨v0_, v1_, rfl, hv0, hv1, hb⟩ := he
  exact ⟨_, rfl, hb, (rep_tup2 (V_row hv0 fun n hn => .inr hn) (V_row hv1 fun n hn => .inr hn))⟩
theorem nat_DivMod.ok : FunOk Tryd.prog 94 (mk (more rU (one rU)) (tup (more rU (one rU))) nat_DivMod.c) := lm_ok (by kernel_rfl) nat_DivMod.pc
theorem nat_DivMod.eq {x0 : List Int} {x1 : List Int} {b : (List Int × List Int)} (h : Ev (fun k => nat_DivMod.f k x0 x1) b) {R : Type} (K : ((List Int × List Int)) → Option R) : nat_DivMod.c R (x0, x1) K = K b := lm_ev (g := fun (a : List Int × List Int) k => nat_DivMod.f k a.1 a.2) (a := (x0, x1)) h K
def nat_IsOne.c : (R : Type) → (List Int) → ((Bool) → Option R) → Option R := fun R a => at' (fun (a : List Int) => nat_IsOne.f a) R a
theorem nat_IsOne.pc (a : List Int) (b : Bool) (h : nat_IsOne.f a = some b) : PureC Tryd.prog 43 ((one rU).enc a) (cb.enc b) := by
  intro w P0 vs hr
  obtain ⟨A0, c0, u0, e0, hc0, hf0, hr⟩ := at_row hr
  have z := at_nil hr
  subst z
  have q1 := e0
  obtain rfl : vs = #[.slice A0 a.length c0] := Array.toList_inj.1 (by simpa using q1)
  refine Calls.mono (nat_IsOne.calls A0 c0 a b w (now hf0) hc0 h) fun e w' he => ?_
  obtain ⟨rfl, hb⟩ := he
  exact ⟨_, rfl, hb.below, (show E.Rep _ _ _ _ _ from by simp only [cb, E.Rep])⟩
theorem nat_IsOne.ok : FunOk Tryd.prog 43 (mk (one rU) cb nat_IsOne.c) := at_ok (by kernel_rfl) nat_IsOne.pc
theorem nat_IsOne.eq {x0 : List Int} {b : Bool} (h : nat_IsOne.f x0 = some b) {R : Type} (K : (Bool) → Option R) : nat_IsOne.c R x0 K = K b := at_eq (g := fun (a : List Int) => nat_IsOne.f a) (a := x0) h K
def slices_Clone_uint32_uint32.c : (R : Type) → (List Int) → ((List Int) → Option R) → Option R := fun R a => at' (fun (a : List Int) => slices_Clone_uint32_uint32.f a) R a
theorem slices_Clone_uint32_uint32.pc (a : List Int) (b : List Int) (h : slices_Clone_uint32_uint32.f a = some b) : PureC Tryd.prog 95 ((one rU).enc a) (rU.enc b) := by
  intro w P0 vs hr
  obtain ⟨A0, c0, u0, e0, hc0, hf0, hr⟩ := at_row hr
  have z := at_nil hr
  subst z
  have q1 := e0
  obtain rfl : vs = #[.slice A0 a.length c0] := Array.toList_inj.1 (by simpa using q1)
  refine Calls.mono (slices_Clone_uint32_uint32.calls A0 c0 a b w (now hf0) hc0 h) fun e w' he => ?_
  obtain ⟨v0_, rfl, hv0, hb⟩ := he
  exact ⟨_, rfl, hb, (R_new hv0 fun n hn => .inr hn)⟩
theorem slices_Clone_uint32_uint32.ok : FunOk Tryd.prog 95 (mk (one rU) rU slices_Clone_uint32_uint32.c) := at_ok (by kernel_rfl) slices_Clone_uint32_uint32.pc
theorem slices_Clone_uint32_uint32.eq {x0 : List Int} {b : List Int} (h : slices_Clone_uint32_uint32.f x0 = some b) {R : Type} (K : (List Int) → Option R) : slices_Clone_uint32_uint32.c R x0 K = K b := at_eq (g := fun (a : List Int) => slices_Clone_uint32_uint32.f a) (a := x0) h K
noncomputable def number_check2.c (R : Type) (a : (Bool × List Int × List Int × Bool × List Int × List Int)) (K : (Int) → Option R) : Option R :=
  (number_Check.c _ (a.1, a.2.1, a.2.2.1) fun t1 => (if (t1 != (0 : Int)) = true then K t1 else (number_Check.c _ (a.2.2.2.1, a.2.2.2.2.1, a.2.2.2.2.2) fun t2 => (if (t2 != (0 : Int)) = true then K t2 else K (0 : Int)))))
noncomputable def number_check2.T (g14 : CF (Nm) (Int)) : List (Nat × Fun) := [(14, mk (one kN) iI g14)]
theorem number_check2.tok : TOk Tryd.prog (tb (number_check2.T number_Check.c)) := (tb_cons number_Check.ok tb_nil)
set_option maxRecDepth 100000 in
theorem number_check2.ex0 (g14 : CF (Nm) (Int)) (R : Type) (a : (Bool × List Int × List Int × Bool × List Int × List Int)) (K : (Int) → Option R) : execFn' Tryd.prog (tb (number_check2.T g14)) 60 Tryd.f61 R ((one (arr 3 (more cb (more rU (more rU (more cb (more rU (one rU)))))))).enc a) (dk iI K) = (g14 _ (a.1, a.2.1, a.2.2.1) fun t1 => (if (t1 != (0 : Int)) = true then K t1 else (g14 _ (a.2.2.2.1, a.2.2.2.2.1, a.2.2.2.2.2) fun t2 => (if (t2 != (0 : Int)) = true then K t2 else K (0 : Int))))) := by kernel_rfl
theorem number_check2.sh : Shown Tryd.prog 61 (one (arr 3 (more cb (more rU (more rU (more cb (more rU (one rU)))))))).enc iI number_check2.c := exec_shown number_check2.tok mixed Tryd.func61 (by kernel_rfl) (number_check2.ex0 number_Check.c)
theorem number_check2.ok : FunOk Tryd.prog 61 (mk (one (arr 3 (more cb (more rU (more rU (more cb (more rU (one rU)))))))) iI number_check2.c) := number_check2.sh.ok (by kernel_rfl)
noncomputable def number_fits.c (R : Type) (a : Nm) (K : ((Nm × Int)) → Option R) : Option R :=
  (if (decide ((a.2.1.length : Int) > (128 : Int))) = false then (if (decide ((a.2.2.length : Int) > (128 : Int))) = true then K ((false, ([] : List Int), ([] : List Int)), (3 : Int)) else K ((a.1, a.2.1, a.2.2), (0 : Int))) else K ((false, ([] : List Int), ([] : List Int)), (3 : Int)))
noncomputable def number_fits.T : List (Nat × Fun) := []
theorem number_fits.tok : TOk Tryd.prog (tb (number_fits.T)) := tb_nil
set_option maxRecDepth 100000 in
theorem number_fits.ex0 (R : Type) (a : Nm) (K : ((Nm × Int)) → Option R) : execFn' Tryd.prog (tb (number_fits.T)) 60 Tryd.f106 R ((one kN).enc a) (dk kE K) = (if (decide ((a.2.1.length : Int) > (128 : Int))) = false then (if (decide ((a.2.2.length : Int) > (128 : Int))) = true then K ((false, ([] : List Int), ([] : List Int)), (3 : Int)) else K ((a.1, a.2.1, a.2.2), (0 : Int))) else K ((false, ([] : List Int), ([] : List Int)), (3 : Int))) := by kernel_rfl
theorem number_fits.sh : Shown Tryd.prog 106 (one kN).enc kE number_fits.c := exec_shown number_fits.tok mixed Tryd.func106 (by kernel_rfl) (number_fits.ex0)
theorem number_fits.ok : FunOk Tryd.prog 106 (mk (one kN) kE number_fits.c) := number_fits.sh.ok (by kernel_rfl)
noncomputable def number_raw.c (R : Type) (a : Bool × List Int × List Int) (K : (Nm) → Option R) : Option R :=
  (if ((a.2.1.length : Int) == (0 : Int)) = true then K (false, ([] : List Int), ([(1 : Int)] : List Int)) else (nat_IsOne.c _ a.2.2 fun t1 => (if (!t1) = true then (nat_Gcd.c _ (a.2.1, a.2.2) fun t2 => (nat_IsOne.c _ t2 fun t3 => (if (!t3) = true then (nat_DivMod.c _ (a.2.1, t2) fun t4 => (nat_DivMod.c _ (a.2.2, t2) fun t5 => (slices_Clone_uint32_uint32.c _ t4.1 fun t6 => (slices_Clone_uint32_uint32.c _ t5.1 fun t7 => K (a.1, t6, t7))))) else (slices_Clone_uint32_uint32.c _ a.2.1 fun t8 => (slices_Clone_uint32_uint32.c _ a.2.2 fun t9 => K (a.1, t8, t9)))))) else (slices_Clone_uint32_uint32.c _ a.2.1 fun t10 => (slices_Clone_uint32_uint32.c _ a.2.2 fun t11 => K (a.1, t10, t11))))))
noncomputable def number_raw.T (g43 : CF (List Int) (Bool)) (g44 : CF (List Int × List Int) (List Int)) (g94 : CF (List Int × List Int) ((List Int × List Int))) (g95 : CF (List Int) (List Int)) : List (Nat × Fun) := [(43, mk (one rU) cb g43), (44, mk (more rU (one rU)) rU g44), (94, mk (more rU (one rU)) (tup (more rU (one rU))) g94), (95, mk (one rU) rU g95)]
theorem number_raw.tok : TOk Tryd.prog (tb (number_raw.T nat_IsOne.c nat_Gcd.c nat_DivMod.c slices_Clone_uint32_uint32.c)) := (tb_cons nat_IsOne.ok (tb_cons nat_Gcd.ok (tb_cons nat_DivMod.ok (tb_cons slices_Clone_uint32_uint32.ok tb_nil))))
set_option maxRecDepth 100000 in
theorem number_raw.ex0 (g43 : CF (List Int) (Bool)) (g44 : CF (List Int × List Int) (List Int)) (g94 : CF (List Int × List Int) ((List Int × List Int))) (g95 : CF (List Int) (List Int)) (R : Type) (a : Bool × List Int × List Int) (K : (Nm) → Option R) : execFn' Tryd.prog (tb (number_raw.T g43 g44 g94 g95)) 60 Tryd.f78 R ((more cb (more rU (one rU))).enc a) (dk kN K) = (if ((a.2.1.length : Int) == (0 : Int)) = true then K (false, ([] : List Int), ([(1 : Int)] : List Int)) else (g43 _ a.2.2 fun t1 => (if (!t1) = true then (g44 _ (a.2.1, a.2.2) fun t2 => (g43 _ t2 fun t3 => (if (!t3) = true then (g94 _ (a.2.1, t2) fun t4 => (g94 _ (a.2.2, t2) fun t5 => (g95 _ t4.1 fun t6 => (g95 _ t5.1 fun t7 => K (a.1, t6, t7))))) else (g95 _ a.2.1 fun t8 => (g95 _ a.2.2 fun t9 => K (a.1, t8, t9)))))) else (g95 _ a.2.1 fun t10 => (g95 _ a.2.2 fun t11 => K (a.1, t10, t11)))))) := by kernel_rfl
theorem number_raw.sh : Shown Tryd.prog 78 (more cb (more rU (one rU))).enc kN number_raw.c := exec_shown number_raw.tok mixed Tryd.func78 (by kernel_rfl) (number_raw.ex0 nat_IsOne.c nat_Gcd.c nat_DivMod.c slices_Clone_uint32_uint32.c)
theorem number_raw.ok : FunOk Tryd.prog 78 (mk (more cb (more rU (one rU))) kN number_raw.c) := number_raw.sh.ok (by kernel_rfl)
noncomputable def number_made.c (R : Type) (a : Bool × List Int × List Int) (K : ((Nm × Int)) → Option R) : Option R :=
  (number_raw.c _ (a.1, a.2.1, a.2.2) fun t1 => (number_fits.c _ (t1.1, t1.2.1, t1.2.2) fun t2 => K ((t2.1.1, t2.1.2.1, t2.1.2.2), t2.2)))
noncomputable def number_made.T (g78 : CF (Bool × List Int × List Int) (Nm)) (g106 : CF (Nm) ((Nm × Int))) : List (Nat × Fun) := [(78, mk (more cb (more rU (one rU))) kN g78), (106, mk (one kN) kE g106)]
theorem number_made.tok : TOk Tryd.prog (tb (number_made.T number_raw.c number_fits.c)) := (tb_cons number_raw.ok (tb_cons number_fits.ok tb_nil))
set_option maxRecDepth 100000 in
theorem number_made.ex0 (g78 : CF (Bool × List Int × List Int) (Nm)) (g106 : CF (Nm) ((Nm × Int))) (R : Type) (a : Bool × List Int × List Int) (K : ((Nm × Int)) → Option R) : execFn' Tryd.prog (tb (number_made.T g78 g106)) 60 Tryd.f54 R ((more cb (more rU (one rU))).enc a) (dk kE K) = (g78 _ (a.1, a.2.1, a.2.2) fun t1 => (g106 _ (t1.1, t1.2.1, t1.2.2) fun t2 => K ((t2.1.1, t2.1.2.1, t2.1.2.2), t2.2))) := by kernel_rfl
theorem number_made.sh : Shown Tryd.prog 54 (more cb (more rU (one rU))).enc kE number_made.c := exec_shown number_made.tok mixed Tryd.func54 (by kernel_rfl) (number_made.ex0 number_raw.c number_fits.c)
theorem number_made.ok : FunOk Tryd.prog 54 (mk (more cb (more rU (one rU))) kE number_made.c) := number_made.sh.ok (by kernel_rfl)
noncomputable def number_sum.c (R : Type) (a : Bool × List Int × Bool × List Int) (K : ((Bool × List Int)) → Option R) : Option R :=
  (if (a.1 == a.2.2.1) = true then (nat_plus.c _ (([] : List Int), a.2.1) fun t1 => (nat_plus.c _ (t1, a.2.2.2) fun t2 => K (a.1, t2))) else (nat_Compare.c _ (a.2.1, a.2.2.2) fun t3 => (if (decide (t3 ≥ (0 : Int))) = true then (nat_Sub.c _ (a.2.1, a.2.2.2) fun t4 => K (a.1, t4)) else (nat_Sub.c _ (a.2.2.2, a.2.1) fun t5 => K (a.2.2.1, t5)))))
noncomputable def number_sum.T93 (g105 : CF (List Int × List Int) (List Int)) (g109 : CF (List Int × List Int) (Int)) (g132 : CF (List Int × List Int) (List Int)) : List (Nat × Fun) := [(105, mk (more rU (one rU)) rU g105)]
theorem number_sum.tok93 : TOk Tryd.prog (tb (number_sum.T93 nat_plus.c nat_Compare.c nat_Sub.c)) := (tb_cons nat_plus.ok tb_nil)
noncomputable def number_sum.T (g105 : CF (List Int × List Int) (List Int)) (g109 : CF (List Int × List Int) (Int)) (g132 : CF (List Int × List Int) (List Int)) : List (Nat × Fun) := [(93, execFn' Tryd.prog (tb (number_sum.T93 g105 g109 g132)) 60 Tryd.f93), (109, mk (more rU (one rU)) iI g109), (132, mk (more rU (one rU)) rU g132)]
theorem number_sum.tok : TOk Tryd.prog (tb (number_sum.T nat_plus.c nat_Compare.c nat_Sub.c)) := (tb_cons (execFn'_ok number_sum.tok93 mixed Tryd.func93 (by kernel_rfl)) (tb_cons nat_Compare.ok (tb_cons nat_Sub.ok tb_nil)))
set_option maxRecDepth 100000 in
theorem number_sum.ex0 (g105 : CF (List Int × List Int) (List Int)) (g109 : CF (List Int × List Int) (Int)) (g132 : CF (List Int × List Int) (List Int)) (R : Type) (a : Bool × List Int × Bool × List Int) (K : ((Bool × List Int)) → Option R) : execFn' Tryd.prog (tb (number_sum.T g105 g109 g132)) 60 Tryd.f110 R ((more cb (more rU (more cb (one rU)))).enc a) (dk (tup (more cb (one rU))) K) = (if (a.1 == a.2.2.1) = true then (g105 _ (([] : List Int), a.2.1) fun t1 => (g105 _ (t1, a.2.2.2) fun t2 => K (a.1, t2))) else (g109 _ (a.2.1, a.2.2.2) fun t3 => (if (decide (t3 ≥ (0 : Int))) = true then (g132 _ (a.2.1, a.2.2.2) fun t4 => K (a.1, t4)) else (g132 _ (a.2.2.2, a.2.1) fun t5 => K (a.2.2.1, t5))))) := by kernel_rfl
theorem number_sum.sh : Shown Tryd.prog 110 (more cb (more rU (more cb (one rU)))).enc (tup (more cb (one rU))) number_sum.c := exec_shown number_sum.tok mixed Tryd.func110 (by kernel_rfl) (number_sum.ex0 nat_plus.c nat_Compare.c nat_Sub.c)
theorem number_sum.ok : FunOk Tryd.prog 110 (mk (more cb (more rU (more cb (one rU)))) (tup (more cb (one rU))) number_sum.c) := number_sum.sh.ok (by kernel_rfl)
noncomputable def number_add.c (R : Type) (a : Nm × Nm × Bool) (K : ((Nm × Int)) → Option R) : Option R :=
  (nat_Mul.c _ (a.1.2.1, a.2.1.2.2) fun t1 => (nat_Mul.c _ (a.2.1.2.1, a.1.2.2) fun t2 => (number_sum.c _ (a.1.1, t1, (!(a.2.1.1 == a.2.2)), t2) fun t3 => (nat_Mul.c _ (a.1.2.2, a.2.1.2.2) fun t4 => (number_made.c _ (t3.1, t3.2, t4) fun t5 => K ((t5.1.1, t5.1.2.1, t5.1.2.2), t5.2))))))
noncomputable def number_add.T (g77 : CF (List Int × List Int) (List Int)) (g110 : CF (Bool × List Int × Bool × List Int) ((Bool × List Int))) (g54 : CF (Bool × List Int × List Int) ((Nm × Int))) : List (Nat × Fun) := [(54, mk (more cb (more rU (one rU))) kE g54), (77, mk (more rU (one rU)) rU g77), (110, mk (more cb (more rU (more cb (one rU)))) (tup (more cb (one rU))) g110)]
theorem number_add.tok : TOk Tryd.prog (tb (number_add.T nat_Mul.c number_sum.c number_made.c)) := (tb_cons number_made.ok (tb_cons nat_Mul.ok (tb_cons number_sum.ok tb_nil)))
set_option maxRecDepth 100000 in
theorem number_add.ex0 (g77 : CF (List Int × List Int) (List Int)) (g110 : CF (Bool × List Int × Bool × List Int) ((Bool × List Int))) (g54 : CF (Bool × List Int × List Int) ((Nm × Int))) (R : Type) (a : Nm × Nm × Bool) (K : ((Nm × Int)) → Option R) : execFn' Tryd.prog (tb (number_add.T g77 g110 g54)) 60 Tryd.f64 R ((more kN (more kN (one cb))).enc a) (dk kE K) = (g77 _ (a.1.2.1, a.2.1.2.2) fun t1 => (g77 _ (a.2.1.2.1, a.1.2.2) fun t2 => (g110 _ (a.1.1, t1, (!(a.2.1.1 == a.2.2)), t2) fun t3 => (g77 _ (a.1.2.2, a.2.1.2.2) fun t4 => (g54 _ (t3.1, t3.2, t4) fun t5 => K ((t5.1.1, t5.1.2.1, t5.1.2.2), t5.2)))))) := by kernel_rfl
theorem number_add.sh : Shown Tryd.prog 64 (more kN (more kN (one cb))).enc kE number_add.c := exec_shown number_add.tok mixed Tryd.func64 (by kernel_rfl) (number_add.ex0 nat_Mul.c number_sum.c number_made.c)
theorem number_add.ok : FunOk Tryd.prog 64 (mk (more kN (more kN (one cb))) kE number_add.c) := number_add.sh.ok (by kernel_rfl)
noncomputable def number_Add.c (R : Type) (a : Nm × Nm) (K : ((Nm × Int)) → Option R) : Option R :=
  (number_check2.c _ (a.1.1, a.1.2.1, a.1.2.2, a.2.1, a.2.2.1, a.2.2.2) fun t1 => (if (t1 != (0 : Int)) = true then K ((false, ([] : List Int), ([] : List Int)), t1) else (number_add.c _ ((a.1.1, a.1.2.1, a.1.2.2), (a.2.1, a.2.2.1, a.2.2.2), false) fun t2 => K ((t2.1.1, t2.1.2.1, t2.1.2.2), t2.2))))
noncomputable def number_Add.T (g61 : CF ((Bool × List Int × List Int × Bool × List Int × List Int)) (Int)) (g64 : CF (Nm × Nm × Bool) ((Nm × Int))) : List (Nat × Fun) := [(61, mk (one (arr 3 (more cb (more rU (more rU (more cb (more rU (one rU)))))))) iI g61), (64, mk (more kN (more kN (one cb))) kE g64)]
theorem number_Add.tok : TOk Tryd.prog (tb (number_Add.T number_check2.c number_add.c)) := (tb_cons number_check2.ok (tb_cons number_add.ok tb_nil))
set_option maxRecDepth 100000 in
theorem number_Add.ex0 (g61 : CF ((Bool × List Int × List Int × Bool × List Int × List Int)) (Int)) (g64 : CF (Nm × Nm × Bool) ((Nm × Int))) (R : Type) (a : Nm × Nm) (K : ((Nm × Int)) → Option R) : execFn' Tryd.prog (tb (number_Add.T g61 g64)) 60 Tryd.f25 R ((more kN (one kN)).enc a) (dk kE K) = (g61 _ (a.1.1, a.1.2.1, a.1.2.2, a.2.1, a.2.2.1, a.2.2.2) fun t1 => (if (t1 != (0 : Int)) = true then K ((false, ([] : List Int), ([] : List Int)), t1) else (g64 _ ((a.1.1, a.1.2.1, a.1.2.2), (a.2.1, a.2.2.1, a.2.2.2), false) fun t2 => K ((t2.1.1, t2.1.2.1, t2.1.2.2), t2.2)))) := by kernel_rfl
theorem number_Add.sh : Shown Tryd.prog 25 (more kN (one kN)).enc kE number_Add.c := exec_shown number_Add.tok mixed Tryd.func25 (by kernel_rfl) (number_Add.ex0 number_check2.c number_add.c)
theorem number_Add.ok : FunOk Tryd.prog 25 (mk (more kN (one kN)) kE number_Add.c) := number_Add.sh.ok (by kernel_rfl)
noncomputable def number_Sub.c (R : Type) (a : Nm × Nm) (K : ((Nm × Int)) → Option R) : Option R :=
  (number_check2.c _ (a.1.1, a.1.2.1, a.1.2.2, a.2.1, a.2.2.1, a.2.2.2) fun t1 => (if (t1 != (0 : Int)) = true then K ((false, ([] : List Int), ([] : List Int)), t1) else (number_add.c _ ((a.1.1, a.1.2.1, a.1.2.2), (a.2.1, a.2.2.1, a.2.2.2), true) fun t2 => K ((t2.1.1, t2.1.2.1, t2.1.2.2), t2.2))))
noncomputable def number_Sub.T (g61 : CF ((Bool × List Int × List Int × Bool × List Int × List Int)) (Int)) (g64 : CF (Nm × Nm × Bool) ((Nm × Int))) : List (Nat × Fun) := [(61, mk (one (arr 3 (more cb (more rU (more rU (more cb (more rU (one rU)))))))) iI g61), (64, mk (more kN (more kN (one cb))) kE g64)]
theorem number_Sub.tok : TOk Tryd.prog (tb (number_Sub.T number_check2.c number_add.c)) := (tb_cons number_check2.ok (tb_cons number_add.ok tb_nil))
set_option maxRecDepth 100000 in
theorem number_Sub.ex0 (g61 : CF ((Bool × List Int × List Int × Bool × List Int × List Int)) (Int)) (g64 : CF (Nm × Nm × Bool) ((Nm × Int))) (R : Type) (a : Nm × Nm) (K : ((Nm × Int)) → Option R) : execFn' Tryd.prog (tb (number_Sub.T g61 g64)) 60 Tryd.f27 R ((more kN (one kN)).enc a) (dk kE K) = (g61 _ (a.1.1, a.1.2.1, a.1.2.2, a.2.1, a.2.2.1, a.2.2.2) fun t1 => (if (t1 != (0 : Int)) = true then K ((false, ([] : List Int), ([] : List Int)), t1) else (g64 _ ((a.1.1, a.1.2.1, a.1.2.2), (a.2.1, a.2.2.1, a.2.2.2), true) fun t2 => K ((t2.1.1, t2.1.2.1, t2.1.2.2), t2.2)))) := by kernel_rfl
theorem number_Sub.sh : Shown Tryd.prog 27 (more kN (one kN)).enc kE number_Sub.c := exec_shown number_Sub.tok mixed Tryd.func27 (by kernel_rfl) (number_Sub.ex0 number_check2.c number_add.c)
theorem number_Sub.ok : FunOk Tryd.prog 27 (mk (more kN (one kN)) kE number_Sub.c) := number_Sub.sh.ok (by kernel_rfl)
noncomputable def number_Mul.c (R : Type) (a : Nm × Nm) (K : ((Nm × Int)) → Option R) : Option R :=
  (number_check2.c _ (a.1.1, a.1.2.1, a.1.2.2, a.2.1, a.2.2.1, a.2.2.2) fun t1 => (if (t1 != (0 : Int)) = true then K ((false, ([] : List Int), ([] : List Int)), t1) else (nat_Mul.c _ (a.1.2.1, a.2.2.1) fun t2 => (nat_Mul.c _ (a.1.2.2, a.2.2.2) fun t3 => (number_made.c _ ((!(a.1.1 == a.2.1)), t2, t3) fun t4 => K ((t4.1.1, t4.1.2.1, t4.1.2.2), t4.2))))))
noncomputable def number_Mul.T (g61 : CF ((Bool × List Int × List Int × Bool × List Int × List Int)) (Int)) (g77 : CF (List Int × List Int) (List Int)) (g54 : CF (Bool × List Int × List Int) ((Nm × Int))) : List (Nat × Fun) := [(54, mk (more cb (more rU (one rU))) kE g54), (61, mk (one (arr 3 (more cb (more rU (more rU (more cb (more rU (one rU)))))))) iI g61), (77, mk (more rU (one rU)) rU g77)]
theorem number_Mul.tok : TOk Tryd.prog (tb (number_Mul.T number_check2.c nat_Mul.c number_made.c)) := (tb_cons number_made.ok (tb_cons number_check2.ok (tb_cons nat_Mul.ok tb_nil)))
set_option maxRecDepth 100000 in
theorem number_Mul.ex0 (g61 : CF ((Bool × List Int × List Int × Bool × List Int × List Int)) (Int)) (g77 : CF (List Int × List Int) (List Int)) (g54 : CF (Bool × List Int × List Int) ((Nm × Int))) (R : Type) (a : Nm × Nm) (K : ((Nm × Int)) → Option R) : execFn' Tryd.prog (tb (number_Mul.T g61 g77 g54)) 60 Tryd.f28 R ((more kN (one kN)).enc a) (dk kE K) = (g61 _ (a.1.1, a.1.2.1, a.1.2.2, a.2.1, a.2.2.1, a.2.2.2) fun t1 => (if (t1 != (0 : Int)) = true then K ((false, ([] : List Int), ([] : List Int)), t1) else (g77 _ (a.1.2.1, a.2.2.1) fun t2 => (g77 _ (a.1.2.2, a.2.2.2) fun t3 => (g54 _ ((!(a.1.1 == a.2.1)), t2, t3) fun t4 => K ((t4.1.1, t4.1.2.1, t4.1.2.2), t4.2)))))) := by kernel_rfl
theorem number_Mul.sh : Shown Tryd.prog 28 (more kN (one kN)).enc kE number_Mul.c := exec_shown number_Mul.tok mixed Tryd.func28 (by kernel_rfl) (number_Mul.ex0 number_check2.c nat_Mul.c number_made.c)
theorem number_Mul.ok : FunOk Tryd.prog 28 (mk (more kN (one kN)) kE number_Mul.c) := number_Mul.sh.ok (by kernel_rfl)
noncomputable def number_Div.c (R : Type) (a : Nm × Nm) (K : ((Nm × Int)) → Option R) : Option R :=
  (number_check2.c _ (a.1.1, a.1.2.1, a.1.2.2, a.2.1, a.2.2.1, a.2.2.2) fun t1 => (if (t1 != (0 : Int)) = true then K ((false, ([] : List Int), ([] : List Int)), t1) else (if ((a.2.2.1.length : Int) == (0 : Int)) = true then K ((false, ([] : List Int), ([] : List Int)), (10 : Int)) else (nat_Mul.c _ (a.1.2.1, a.2.2.2) fun t2 => (nat_Mul.c _ (a.1.2.2, a.2.2.1) fun t3 => (number_made.c _ ((!(a.1.1 == a.2.1)), t2, t3) fun t4 => K ((t4.1.1, t4.1.2.1, t4.1.2.2), t4.2)))))))
noncomputable def number_Div.T (g61 : CF ((Bool × List Int × List Int × Bool × List Int × List Int)) (Int)) (g77 : CF (List Int × List Int) (List Int)) (g54 : CF (Bool × List Int × List Int) ((Nm × Int))) : List (Nat × Fun) := [(54, mk (more cb (more rU (one rU))) kE g54), (61, mk (one (arr 3 (more cb (more rU (more rU (more cb (more rU (one rU)))))))) iI g61), (77, mk (more rU (one rU)) rU g77)]
theorem number_Div.tok : TOk Tryd.prog (tb (number_Div.T number_check2.c nat_Mul.c number_made.c)) := (tb_cons number_made.ok (tb_cons number_check2.ok (tb_cons nat_Mul.ok tb_nil)))
set_option maxRecDepth 100000 in
theorem number_Div.ex0 (g61 : CF ((Bool × List Int × List Int × Bool × List Int × List Int)) (Int)) (g77 : CF (List Int × List Int) (List Int)) (g54 : CF (Bool × List Int × List Int) ((Nm × Int))) (R : Type) (a : Nm × Nm) (K : ((Nm × Int)) → Option R) : execFn' Tryd.prog (tb (number_Div.T g61 g77 g54)) 60 Tryd.f29 R ((more kN (one kN)).enc a) (dk kE K) = (g61 _ (a.1.1, a.1.2.1, a.1.2.2, a.2.1, a.2.2.1, a.2.2.2) fun t1 => (if (t1 != (0 : Int)) = true then K ((false, ([] : List Int), ([] : List Int)), t1) else (if ((a.2.2.1.length : Int) == (0 : Int)) = true then K ((false, ([] : List Int), ([] : List Int)), (10 : Int)) else (g77 _ (a.1.2.1, a.2.2.2) fun t2 => (g77 _ (a.1.2.2, a.2.2.1) fun t3 => (g54 _ ((!(a.1.1 == a.2.1)), t2, t3) fun t4 => K ((t4.1.1, t4.1.2.1, t4.1.2.2), t4.2))))))) := by kernel_rfl
theorem number_Div.sh : Shown Tryd.prog 29 (more kN (one kN)).enc kE number_Div.c := exec_shown number_Div.tok mixed Tryd.func29 (by kernel_rfl) (number_Div.ex0 number_check2.c nat_Mul.c number_made.c)
theorem number_Div.ok : FunOk Tryd.prog 29 (mk (more kN (one kN)) kE number_Div.c) := number_Div.sh.ok (by kernel_rfl)
end Go.Proofs.YtemnjgkicndmjaaDoor.Q
namespace Go.Proofs.YtemnjgkicndmjaaDoor.Q
open Go.RowKit Go.Proofs.YtemnjgkicndmjaaDoorW.PrintWords Go.Proofs.YtemnjgkicndmjaaDoorW.PrintLast Go.Proofs.YtemnjgkicndmjaaDoorW.PrintMore
set_option linter.unusedVariables false
theorem can_of_fault' {neg : Bool} {num den : List Int} (h : fault neg num den = 0) : Can neg num den := by
  unfold fault at h
  by_cases c : num.length > 128 ∨ den.length > 128
  · rw [if_pos c] at h; omega
  · rw [if_neg c] at h
    by_cases d : Can neg num den
    · exact d
    · rw [if_neg d] at h; omega
def sgn (n : Bool) (v : Int) : Int := if n = true then -v else v
theorem Can.pos {neg : Bool} {num den : List Int} (h : Can neg num den) (hd : Lim 4294967296 den) : 0 < val 4294967296 den := val_pos (by decide) hd h.nd h.d0
theorem nat_frac {p q r s : Nat} (h1 : Nat.gcd p q = 1) (h2 : Nat.gcd r s = 1) (hq : 0 < q) (hs : 0 < s) (h : p * s = r * q) : p = r ∧ q = s := by
  have d1 : q ∣ s := (Nat.Coprime.dvd_of_dvd_mul_left (show Nat.Coprime q p by rw [Nat.Coprime, Nat.gcd_comm]; exact h1) ⟨r, by rw [h, Nat.mul_comm]⟩)
  have d2 : s ∣ q := (Nat.Coprime.dvd_of_dvd_mul_left (show Nat.Coprime s r by rw [Nat.Coprime, Nat.gcd_comm]; exact h2) ⟨p, by rw [← h, Nat.mul_comm]⟩)
  have e : q = s := Nat.dvd_antisymm d1 d2
  subst e
  exact ⟨Nat.eq_of_mul_eq_mul_right hq h, rfl⟩
end Go.Proofs.YtemnjgkicndmjaaDoor.Q

namespace Go.Proofs.YtemnjgkicndmjaaDoor.Q
open Go.RowKit Go.Proofs.YtemnjgkicndmjaaDoorW.PrintWords Go.Proofs.YtemnjgkicndmjaaDoorW.PrintLast Go.Proofs.YtemnjgkicndmjaaDoorW.PrintMore
set_option linter.unusedVariables false
structure Rp (B : Int) (neg : Bool) (p q : List Int) (N D : Int) : Prop where
  lp : Lim B p
  np : Nrm p
  lq : Lim B q
  nq : Nrm q
  q0 : q ≠ []
  gc : Nat.gcd (val B p).toNat (val B q).toNat = 1
  ng : p = [] → neg = false
  eq : sgn neg (val B p) * D = N * val B q
theorem Rp.pos {B : Int} (hB : 0 < B) {neg : Bool} {p q : List Int} {N D : Int} (h : Rp B neg p q N D) : 0 < val B q := val_pos hB h.lq h.nq h.q0
theorem Rp.negpos {B : Int} (hB : 0 < B) {neg : Bool} {p q : List Int} {N D : Int} (h : Rp B neg p q N D) (e : neg = true) : 0 < val B p :=
  val_pos hB h.lp h.np (fun h0 => by rw [h.ng h0] at e; cases e)
theorem Rp.turn {B : Int} {neg : Bool} {p q : List Int} {N D N' D' : Int} (h : Rp B neg p q N D) (hD : D ≠ 0) (e : N * D' = N' * D) : Rp B neg p q N' D' := by
  refine ⟨h.lp, h.np, h.lq, h.nq, h.q0, h.gc, h.ng, ?_⟩
  have h1 := h.eq
  refine Int.eq_of_mul_eq_mul_right hD ?_
  generalize sgn neg (val B p) = s at *
  generalize val B q = v at *
  have h2 : s * D * D' = N * v * D' := by rw [h1]
  have h3 : N * D' * v = N' * D * v := by rw [e]
  grind
theorem Rp.unique {B : Int} (hB : 0 < B) {neg neg' : Bool} {p q p' q' : List Int} {N D : Int} (h : Rp B neg p q N D) (h' : Rp B neg' p' q' N D) (hD : D ≠ 0) : neg = neg' ∧ p = p' ∧ q = q' := by
  have v0 := val_nonneg hB h.lp
  have v0' := val_nonneg hB h'.lp
  have w0 := (h.pos hB)
  have w0' := (h'.pos hB)
  have e : sgn neg (val B p) * val B q' = sgn neg' (val B p') * val B q := by
    have h1 := h.eq
    have h2 := h'.eq
    refine Int.eq_of_mul_eq_mul_right hD ?_
    generalize sgn neg (val B p) = s at *
    generalize sgn neg' (val B p') = s' at *
    generalize val B q = v at *
    generalize val B q' = v' at *
    have h3 : s * D * v' = N * v * v' := by rw [h1]
    have h4 : s' * D * v = N * v' * v := by rw [h2]
    grind
  have hn : neg = neg' := by
    cases hn : neg with
    | true =>
      cases hn' : neg' with
      | true => rfl
      | false =>
        have a1 := h.negpos hB hn
        rw [hn, hn'] at e
        unfold sgn at e
        rw [if_pos rfl, if_neg (by decide), Int.neg_mul] at e
        have a2 : 0 < val B p * val B q' := Int.mul_pos a1 w0'
        have a3 : 0 ≤ val B p' * val B q := Int.mul_nonneg v0' (by omega)
        omega
    | false =>
      cases hn' : neg' with
      | false => rfl
      | true =>
        have a1 := h'.negpos hB hn'
        rw [hn, hn'] at e
        unfold sgn at e
        rw [if_pos rfl, if_neg (by decide), Int.neg_mul] at e
        have a2 : 0 < val B p' * val B q := Int.mul_pos a1 w0
        have a3 : 0 ≤ val B p * val B q' := Int.mul_nonneg v0 (by omega)
        omega
  subst hn
  have e2 : val B p * val B q' = val B p' * val B q := by
    unfold sgn at e
    cases neg with
    | true => rw [if_pos rfl, if_pos rfl, Int.neg_mul, Int.neg_mul] at e; omega
    | false => rw [if_neg (by decide), if_neg (by decide)] at e; exact e
  have e3 : (val B p).toNat * (val B q').toNat = (val B p').toNat * (val B q).toNat := by
    rw [← Int.toNat_mul v0 (by omega), ← Int.toNat_mul v0' (by omega), e2]
  obtain ⟨e4, e5⟩ := nat_frac h.gc h'.gc (by omega) (by omega) e3
  exact ⟨rfl, val_inj hB h.lp h'.lp h.np h'.np (by omega), val_inj hB h.lq h'.lq h.nq h'.nq (by omega)⟩
theorem toNat_div {x : Int} (h : 0 ≤ x) (g : Nat) : (x / (g : Int)).toNat = x.toNat / g := by
  obtain ⟨A, rfl⟩ := Int.eq_ofNat_of_zero_le h
  rw [← Int.natCast_ediv, Int.toNat_natCast, Int.toNat_natCast]
theorem Rp.made {B : Int} (hB : 0 < B) {neg : Bool} {a b p q : List Int} {g : Nat} (ha : Lim B a) (hb : Lim B b) (nb : Nrm b) (b0 : b ≠ []) (p1 : Lim B p) (p2 : Nrm p) (q1 : Lim B q) (q2 : Nrm q)
    (hg : g = Nat.gcd (val B a).toNat (val B b).toNat) (p3 : val B p = val B a / (g : Int)) (q3 : val B q = val B b / (g : Int)) : Rp B (neg && decide (p ≠ [])) p q (sgn neg (val B a)) (val B b) := by
  have va := val_nonneg hB ha
  have vb := val_pos hB hb nb b0
  have g0 : 0 < g := by rw [hg]; exact Nat.gcd_pos_of_pos_right _ (by omega)
  have d1 : (g : Int) ∣ val B a := by
    have : g ∣ (val B a).toNat := by rw [hg]; exact Nat.gcd_dvd_left _ _
    have := Int.ofNat_dvd.2 this
    rwa [Int.toNat_of_nonneg va] at this
  have d2 : (g : Int) ∣ val B b := by
    have : g ∣ (val B b).toNat := by rw [hg]; exact Nat.gcd_dvd_right _ _
    have := Int.ofNat_dvd.2 this
    rwa [Int.toNat_of_nonneg (by omega)] at this
  have ea : val B p * g = val B a := by rw [p3]; exact Int.ediv_mul_cancel d1
  have eb : val B q * g = val B b := by rw [q3]; exact Int.ediv_mul_cancel d2
  have hq0 : q ≠ [] := by
    rintro rfl
    have : val B [] = 0 := rfl
    rw [this, Int.zero_mul] at eb
    omega
  refine ⟨p1, p2, q1, q2, hq0, ?_, fun h => by simp [h], ?_⟩
  · have hp : (val B p).toNat = (val B a).toNat / g := by rw [p3]; exact toNat_div va g
    have hq : (val B q).toNat = (val B b).toNat / g := by rw [q3]; exact toNat_div (by omega) g
    rw [hp, hq, hg]
    exact Nat.coprime_div_gcd_div_gcd (by rw [← hg]; exact g0)
  · have hs : sgn (neg && decide (p ≠ [])) (val B p) = sgn neg (val B p) := by
      by_cases c : p = []
      · subst c
        have : val B [] = 0 := rfl
        rw [this]
        unfold sgn
        cases neg <;> simp
      · simp [c]
    rw [hs, ← ea, ← eb]
    unfold sgn
    cases neg with
    | true => rw [if_pos rfl, if_pos rfl]; generalize val B p = x; generalize val B q = y; grind
    | false => rw [if_neg (by decide), if_neg (by decide)]; generalize val B p = x; generalize val B q = y; grind
theorem sgn_mul (m n : Bool) (x y : Int) : sgn (m != n) (x * y) = sgn m x * sgn n y := by
  unfold sgn
  cases m <;> cases n <;> simp [Int.neg_mul, Int.mul_neg]
theorem sgn_mul_r (m : Bool) (x y : Int) : sgn m (x * y) = sgn m x * y := by
  unfold sgn
  cases m <;> simp [Int.neg_mul]
def outM (neg : Bool) (p q : List Int) : (Bool × List Int × List Int) × Int := if p.length > 128 ∨ q.length > 128 then ((false, [], []), 3) else ((neg, p, q), 0)
abbrev Rep := Rp 4294967296
theorem Rp.can {neg : Bool} {p q : List Int} {N D : Int} (h : Rep neg p q N D) (l1 : p.length ≤ 128) (l2 : q.length ≤ 128) : Can neg p q := ⟨l1, l2, h.np, h.nq, h.q0, h.ng, h.gc⟩
end Go.Proofs.YtemnjgkicndmjaaDoor.Q
namespace Go.Proofs.YtemnjgkicndmjaaDoor.Q
open Go.RowKit Go.Proofs.YtemnjgkicndmjaaDoor.E Go.Proofs.YtemnjgkicndmjaaDoorW.PrintWords Go.Proofs.YtemnjgkicndmjaaDoorW.PrintLast Go.Proofs.YtemnjgkicndmjaaDoorW.PrintMore
set_option linter.unusedVariables false
theorem clone_c (a : List Int) (h : a.length ≤ 1099511627776) {R : Type} (K : List Int → Option R) : slices_Clone_uint32_uint32.c R a K = K a :=
  slices_Clone_uint32_uint32.eq (by unfold slices_Clone_uint32_uint32.f; rw [if_pos (by omega)]) K
theorem isone_c (a : List Int) {R : Type} (K : Bool → Option R) : nat_IsOne.c R a K = K (decide (a = [1])) := nat_IsOne.eq (IsOne_eq a) K
theorem raw_c (neg : Bool) (a b : List Int) (ha : Lim 4294967296 a) (na : Nrm a) (hb : Lim 4294967296 b) (nb : Nrm b) (b0 : b ≠ []) (la : a.length ≤ 1048575) (lb : b.length ≤ 1048575) :
    ∃ p q, (∀ (R : Type) (K : (Bool × List Int × List Int) → Option R), number_raw.c R (neg, a, b) K = K (neg && decide (p ≠ []), p, q)) ∧ Lim 4294967296 p ∧ Nrm p ∧ Lim 4294967296 q ∧ Nrm q ∧
      val 4294967296 p = val 4294967296 a / (Nat.gcd (val 4294967296 a).toNat (val 4294967296 b).toNat : Nat) ∧ val 4294967296 q = val 4294967296 b / (Nat.gcd (val 4294967296 a).toNat (val 4294967296 b).toNat : Nat) := by
  have hB : (0 : Int) < 4294967296 := by decide
  have pb := val_pos hB hb nb b0
  have pa := val_nonneg hB ha
  by_cases h0 : a = []
  · subst h0
    refine ⟨[], [1], fun R K => ?_, lim_nil _, nrm_nil, one_lim (by decide), one_nrm, ?_, ?_⟩
    · unfold number_raw.c; simp
    · rw [show val 4294967296 [] = 0 from rfl, Int.zero_ediv]
    · have h2 : (val 4294967296 []).toNat = 0 := rfl
      rw [h2, Nat.gcd_zero_left, val_one, Int.toNat_of_nonneg (by omega), Int.ediv_self (by omega)]
  · have hl : ¬ ((a.length : Int) == 0) = true := by
      have : a.length ≠ 0 := fun h' => h0 (List.length_eq_zero_iff.1 h')
      simp; exact h0
    have hn : (neg && decide (a ≠ [])) = neg := by simp [h0]
    by_cases c : b = [1]
    · refine ⟨a, b, fun R K => ?_, ha, na, hb, nb, ?_, ?_⟩
      · rw [hn]
        unfold number_raw.c
        refine (if_neg hl).trans ((isone_c b _).trans ((if_neg (by simp [c])).trans ((clone_c a (by omega) _).trans (clone_c b (by omega) _))))
      · rw [c, val_one]
        have h2 : (1 : Int).toNat = 1 := rfl
        rw [h2, Nat.gcd_one_right]; simp
      · rw [c, val_one]
        have h2 : (1 : Int).toNat = 1 := rfl
        rw [h2, Nat.gcd_one_right]; simp
    · obtain ⟨g, g1, g2, g3, g4⟩ := Gcd_ev a b ha hb na nb (by omega) (by omega)
      by_cases c2 : g = [1]
      · subst c2
        rw [val_one] at g4
        refine ⟨a, b, fun R K => ?_, ha, na, hb, nb, by rw [← g4, Int.ediv_one], by rw [← g4, Int.ediv_one]⟩
        rw [hn]
        unfold number_raw.c
        refine (if_neg hl).trans ((isone_c b _).trans ((if_pos (by simp [c])).trans ((nat_Gcd.eq g1 _).trans ((isone_c _ _).trans ((if_neg (by simp)).trans ((clone_c a (by omega) _).trans (clone_c b (by omega) _)))))))
      · have hg0 : g ≠ [] := by
          rintro rfl
          have h2 : Nat.gcd (val 4294967296 a).toNat (val 4294967296 b).toNat ≠ 0 := by
            intro h3
            have := (Nat.gcd_eq_zero_iff.1 h3).2
            omega
          simp [val] at g4
          omega
        have hgl : g.length ≤ b.length := by
          rcases Nat.lt_or_ge b.length g.length with h | h
          · have h1 := len_lt_val hB hb g2 g3 h
            have h2 : Nat.gcd (val 4294967296 a).toNat (val 4294967296 b).toNat ≤ (val 4294967296 b).toNat := Nat.gcd_le_right _ (by omega)
            omega
          · exact h
        obtain ⟨p, r1, p1, p2, p3, p4, p5, p6, p7, p8⟩ := DivMod_ev a g ha g2 na g3 hg0 (by omega) (by omega)
        obtain ⟨q, r2, q1, q2, q3, q4, q5, q6, q7, q8⟩ := DivMod_ev b g hb g2 nb g3 hg0 (by omega) (by omega)
        have hp0 : p ≠ [] := by
          rintro rfl
          have h1 : 0 < val 4294967296 a := val_pos hB ha na h0
          have h2 : Nat.gcd (val 4294967296 a).toNat (val 4294967296 b).toNat ≤ (val 4294967296 a).toNat := Nat.gcd_le_left _ (by omega)
          have h3 : 0 < val 4294967296 g := val_pos hB g2 g3 hg0
          have h4 : val 4294967296 a / val 4294967296 g = 0 := by rw [← p6]; rfl
          have h5 : 1 ≤ val 4294967296 a / val 4294967296 g := Int.le_ediv_of_mul_le h3 (by rw [Int.one_mul]; omega)
          omega
        refine ⟨p, q, fun R K => ?_, p2, p3, q2, q3, by rw [p6, g4], by rw [q6, g4]⟩
        rw [show (neg && decide (p ≠ [])) = neg by simp [hp0]]
        unfold number_raw.c
        refine (if_neg hl).trans ((isone_c b _).trans ((if_pos (by simp [c])).trans ((nat_Gcd.eq g1 _).trans ((isone_c _ _).trans ((if_pos (by simp [c2])).trans ((nat_DivMod.eq p1 _).trans ((nat_DivMod.eq q1 _).trans ((clone_c p (by omega) _).trans (clone_c q (by omega) _)))))))))
theorem fits_c (neg : Bool) (p q : List Int) {R : Type} (K : ((Bool × List Int × List Int) × Int) → Option R) : number_fits.c R (neg, p, q) K = K (outM neg p q) := by
  unfold number_fits.c outM
  by_cases c1 : p.length > 128
  · rw [if_neg (by simp; omega), if_pos (Or.inl c1)]
  · by_cases c2 : q.length > 128
    · rw [if_pos (by simp; omega), if_pos (by simp; omega), if_pos (Or.inr c2)]
    · rw [if_pos (by simp; omega), if_neg (by simp; omega), if_neg (by omega)]
theorem made_c (neg : Bool) (a b : List Int) (ha : Lim 4294967296 a) (na : Nrm a) (hb : Lim 4294967296 b) (nb : Nrm b) (b0 : b ≠ []) (la : a.length ≤ 1048575) (lb : b.length ≤ 1048575) :
    ∃ neg' p q, (∀ (R : Type) (K : ((Bool × List Int × List Int) × Int) → Option R), number_made.c R (neg, a, b) K = K (outM neg' p q)) ∧ Rep neg' p q (sgn neg (val 4294967296 a)) (val 4294967296 b) := by
  obtain ⟨p, q, h1, p1, p2, q1, q2, p3, q3⟩ := raw_c neg a b ha na hb nb b0 la lb
  exact ⟨neg && decide (p ≠ []), p, q, fun R K => (h1 R _).trans (fits_c _ _ _ _), Rp.made (by decide) ha hb nb b0 p1 p2 q1 q2 rfl p3 q3⟩
theorem check_c (neg : Bool) (num den : List Int) (hn : Lim 4294967296 num) (hd : Lim 4294967296 den) {R : Type} (K : Int → Option R) : number_Check.c R (neg, num, den) K = K (fault neg num den) := number_Check.eq (Check_ev neg num den hn hd) K
theorem check2_c (na : Bool) (a da : List Int) (nb : Bool) (b db : List Int) (ha : Lim 4294967296 a) (hda : Lim 4294967296 da) (hb : Lim 4294967296 b) (hdb : Lim 4294967296 db) {R : Type} (K : Int → Option R) :
    number_check2.c R (na, a, da, nb, b, db) K = K (if fault na a da = 0 then fault nb b db else fault na a da) := by
  unfold number_check2.c
  refine (check_c na a da ha hda _).trans ?_
  by_cases h : fault na a da = 0
  · rw [if_pos h]
    refine (if_neg (by simp [h])).trans ((check_c nb b db hb hdb _).trans ?_)
    by_cases h2 : fault nb b db = 0
    · rw [h2]; rfl
    · exact if_pos (by simp [h2])
  · rw [if_neg h]
    exact if_pos (by simp [h])
def bad (e : Int) : (Bool × List Int × List Int) × Int := ((false, [], []), e)
theorem ok2 {na : Bool} {a da : List Int} {nb : Bool} {b db : List Int} (ca : Can na a da) (cb : Can nb b db) : (if fault na a da = 0 then fault nb b db else fault na a da) = 0 := by rw [fault_can ca, fault_can cb, if_pos rfl]
theorem check2_ok {na : Bool} {a da : List Int} {nb : Bool} {b db : List Int} (ha : Lim 4294967296 a) (hda : Lim 4294967296 da) (hb : Lim 4294967296 b) (hdb : Lim 4294967296 db) (ca : Can na a da) (cb : Can nb b db) {R : Type} (K : Int → Option R) : number_check2.c R (na, a, da, nb, b, db) K = K 0 := by
  rw [check2_c na a da nb b db ha hda hb hdb, ok2 ca cb]
theorem Mul_c (na : Bool) (a da : List Int) (nb : Bool) (b db : List Int) (ha : Lim 4294967296 a) (hda : Lim 4294967296 da) (hb : Lim 4294967296 b) (hdb : Lim 4294967296 db) (ca : Can na a da) (cb : Can nb b db) :
    ∃ neg p q, (∀ (R : Type) (K : ((Bool × List Int × List Int) × Int) → Option R), number_Mul.c R ((na, a, da), (nb, b, db)) K = K (outM neg p q)) ∧ Rep neg p q (sgn na (val 4294967296 a) * sgn nb (val 4294967296 b)) (val 4294967296 da * val 4294967296 db) := by
  have l1 := ca.ln
  have l2 := ca.ld
  have l3 := cb.ln
  have l4 := cb.ld
  obtain ⟨x, x1, x2, x3, x4, x5⟩ := Mul_ev a b ha hb (by omega)
  obtain ⟨d, d1, d2, d3, d4, d5⟩ := Mul_ev da db hda hdb (by omega)
  have dp : 0 < val 4294967296 d := by rw [d4]; exact Int.mul_pos (ca.pos hda) (cb.pos hdb)
  have d0 : d ≠ [] := by rintro rfl; exact absurd dp (by decide)
  obtain ⟨neg', p, q, m1, m2⟩ := made_c (na != nb) x d x2 x3 d2 d3 d0 (by omega) (by omega)
  rw [x4, sgn_mul, d4] at m2
  exact ⟨neg', p, q, fun R K => (check2_ok ha hda hb hdb ca cb _).trans ((if_neg (by decide)).trans ((nat_Mul.eq x1 _).trans ((nat_Mul.eq d1 _).trans (m1 R _)))), m2⟩
noncomputable def nat_Of.c : (R : Type) → (Int) → ((List Int) → Option R) → Option R := fun R a => lm (fun (a : Int) k => nat_Of.f k a) R a
theorem nat_Of.pc (a : Int) (b : List Int) (k : Nat) (h : nat_Of.f k a = some b) : PureC Tryd.prog 79 ((one (ci .u64)).enc a) (rU.enc b) := by
  intro w P0 vs hr
  obtain ⟨u0, e0, hr⟩ := at_int hr
  have z := at_nil hr
  subst z
  have q1 := e0
  obtain rfl : vs = #[.int .u64 a] := Array.toList_inj.1 (by simpa using q1)
  refine Calls.mono (nat_Of.calls k a b w h) fun e w' he => ?_
  obtain ⟨v0_, rfl, hv0, hb⟩ := he
  exact ⟨_, rfl, hb, (V_row hv0 fun n hn => .inr hn)⟩
theorem nat_Of.ok : FunOk Tryd.prog 79 (mk (one (ci .u64)) rU nat_Of.c) := lm_ok (by kernel_rfl) nat_Of.pc
theorem nat_Of.eq {x0 : Int} {b : List Int} (h : Ev (fun k => nat_Of.f k x0) b) {R : Type} (K : (List Int) → Option R) : nat_Of.c R x0 K = K b := lm_ev (g := fun (a : Int) k => nat_Of.f k a) (a := x0) h K
noncomputable def number_integers2.c (R : Type) (a : (Bool × List Int × List Int × Bool × List Int × List Int)) (K : (Int) → Option R) : Option R :=
  (number_check2.c _ (a.1, a.2.1, a.2.2.1, a.2.2.2.1, a.2.2.2.2.1, a.2.2.2.2.2) fun t1 => (if (t1 != (0 : Int)) = true then K t1 else (nat_IsOne.c _ a.2.2.1 fun t2 => (if (!t2) = true then K (7 : Int) else (nat_IsOne.c _ a.2.2.2.2.2 fun t3 => (if (!t3) = true then K (7 : Int) else K (0 : Int)))))))
noncomputable def number_integers2.T (g61 : CF ((Bool × List Int × List Int × Bool × List Int × List Int)) (Int)) (g43 : CF (List Int) (Bool)) : List (Nat × Fun) := [(43, mk (one rU) cb g43), (61, mk (one (arr 3 (more cb (more rU (more rU (more cb (more rU (one rU)))))))) iI g61)]
theorem number_integers2.tok : TOk Tryd.prog (tb (number_integers2.T number_check2.c nat_IsOne.c)) := (tb_cons nat_IsOne.ok (tb_cons number_check2.ok tb_nil))
set_option maxRecDepth 100000 in
theorem number_integers2.ex0 (g61 : CF ((Bool × List Int × List Int × Bool × List Int × List Int)) (Int)) (g43 : CF (List Int) (Bool)) (R : Type) (a : (Bool × List Int × List Int × Bool × List Int × List Int)) (K : (Int) → Option R) : execFn' Tryd.prog (tb (number_integers2.T g61 g43)) 60 Tryd.f80 R ((one (arr 3 (more cb (more rU (more rU (more cb (more rU (one rU)))))))).enc a) (dk iI K) = (g61 _ (a.1, a.2.1, a.2.2.1, a.2.2.2.1, a.2.2.2.2.1, a.2.2.2.2.2) fun t1 => (if (t1 != (0 : Int)) = true then K t1 else (g43 _ a.2.2.1 fun t2 => (if (!t2) = true then K (7 : Int) else (g43 _ a.2.2.2.2.2 fun t3 => (if (!t3) = true then K (7 : Int) else K (0 : Int))))))) := by kernel_rfl
theorem number_integers2.sh : Shown Tryd.prog 80 (one (arr 3 (more cb (more rU (more rU (more cb (more rU (one rU)))))))).enc iI number_integers2.c := exec_shown number_integers2.tok mixed Tryd.func80 (by kernel_rfl) (number_integers2.ex0 number_check2.c nat_IsOne.c)
theorem number_integers2.ok : FunOk Tryd.prog 80 (mk (one (arr 3 (more cb (more rU (more rU (more cb (more rU (one rU)))))))) iI number_integers2.c) := number_integers2.sh.ok (by kernel_rfl)
noncomputable def number_whole.c (R : Type) (a : Bool × List Int) (K : ((Nm × Int)) → Option R) : Option R :=
  (number_made.c _ (a.1, a.2, ([(1 : Int)] : List Int)) fun t1 => K ((t1.1.1, t1.1.2.1, t1.1.2.2), t1.2))
noncomputable def number_whole.T (g54 : CF (Bool × List Int × List Int) ((Nm × Int))) : List (Nat × Fun) := [(54, mk (more cb (more rU (one rU))) kE g54)]
theorem number_whole.tok : TOk Tryd.prog (tb (number_whole.T number_made.c)) := (tb_cons number_made.ok tb_nil)
set_option maxRecDepth 100000 in
theorem number_whole.ex0 (g54 : CF (Bool × List Int × List Int) ((Nm × Int))) (R : Type) (a : Bool × List Int) (K : ((Nm × Int)) → Option R) : execFn' Tryd.prog (tb (number_whole.T g54)) 60 Tryd.f85 R ((more cb (one rU)).enc a) (dk kE K) = (g54 _ (a.1, a.2, ([(1 : Int)] : List Int)) fun t1 => K ((t1.1.1, t1.1.2.1, t1.1.2.2), t1.2)) := by kernel_rfl
theorem number_whole.sh : Shown Tryd.prog 85 (more cb (one rU)).enc kE number_whole.c := exec_shown number_whole.tok mixed Tryd.func85 (by kernel_rfl) (number_whole.ex0 number_made.c)
theorem number_whole.ok : FunOk Tryd.prog 85 (mk (more cb (one rU)) kE number_whole.c) := number_whole.sh.ok (by kernel_rfl)
noncomputable def number_Sign.c (R : Type) (a : Nm) (K : ((Int × Int)) → Option R) : Option R :=
  (number_Check.c _ (a.1, a.2.1, a.2.2) fun t1 => (if (t1 != (0 : Int)) = false then (if ((a.2.1.length : Int) == (0 : Int)) = true then K ((0 : Int), t1) else (if a.1 = true then K ((-1 : Int), (0 : Int)) else K ((1 : Int), (0 : Int)))) else K ((0 : Int), t1)))
noncomputable def number_Sign.T (g14 : CF (Nm) (Int)) : List (Nat × Fun) := [(14, mk (one kN) iI g14)]
theorem number_Sign.tok : TOk Tryd.prog (tb (number_Sign.T number_Check.c)) := (tb_cons number_Check.ok tb_nil)
set_option maxRecDepth 100000 in
theorem number_Sign.ex0 (g14 : CF (Nm) (Int)) (R : Type) (a : Nm) (K : ((Int × Int)) → Option R) : execFn' Tryd.prog (tb (number_Sign.T g14)) 60 Tryd.f30 R ((one kN).enc a) (dk (tup (more iI (one iI))) K) = (g14 _ (a.1, a.2.1, a.2.2) fun t1 => (if (t1 != (0 : Int)) = false then (if ((a.2.1.length : Int) == (0 : Int)) = true then K ((0 : Int), t1) else (if a.1 = true then K ((-1 : Int), (0 : Int)) else K ((1 : Int), (0 : Int)))) else K ((0 : Int), t1))) := by kernel_rfl
theorem number_Sign.sh : Shown Tryd.prog 30 (one kN).enc (tup (more iI (one iI))) number_Sign.c := exec_shown number_Sign.tok mixed Tryd.func30 (by kernel_rfl) (number_Sign.ex0 number_Check.c)
theorem number_Sign.ok : FunOk Tryd.prog 30 (mk (one kN) (tup (more iI (one iI))) number_Sign.c) := number_Sign.sh.ok (by kernel_rfl)
noncomputable def number_FromInt.c (R : Type) (a : Int) (K : (Nm) → Option R) : Option R :=
  (if (decide (a < (0 : Int))) = true then (nat_Of.c _ (IntKind.u64.wrap (0 - (IntKind.u64.wrap a))) fun t1 => (number_raw.c _ ((decide (a < (0 : Int))), t1, ([(1 : Int)] : List Int)) fun t2 => K (t2.1, t2.2.1, t2.2.2))) else (nat_Of.c _ (IntKind.u64.wrap a) fun t3 => (number_raw.c _ ((decide (a < (0 : Int))), t3, ([(1 : Int)] : List Int)) fun t4 => K (t4.1, t4.2.1, t4.2.2))))
noncomputable def number_FromInt.T (g79 : CF (Int) (List Int)) (g78 : CF (Bool × List Int × List Int) (Nm)) : List (Nat × Fun) := [(78, mk (more cb (more rU (one rU))) kN g78), (79, mk (one (ci .u64)) rU g79)]
theorem number_FromInt.tok : TOk Tryd.prog (tb (number_FromInt.T nat_Of.c number_raw.c)) := (tb_cons number_raw.ok (tb_cons nat_Of.ok tb_nil))
set_option maxRecDepth 100000 in
theorem number_FromInt.ex0 (g79 : CF (Int) (List Int)) (g78 : CF (Bool × List Int × List Int) (Nm)) (R : Type) (a : Int) (K : (Nm) → Option R) : execFn' Tryd.prog (tb (number_FromInt.T g79 g78)) 60 Tryd.f31 R ((one iI).enc a) (dk kN K) = (if (decide (a < (0 : Int))) = true then (g79 _ (IntKind.u64.wrap (0 - (IntKind.u64.wrap a))) fun t1 => (g78 _ ((decide (a < (0 : Int))), t1, ([(1 : Int)] : List Int)) fun t2 => K (t2.1, t2.2.1, t2.2.2))) else (g79 _ (IntKind.u64.wrap a) fun t3 => (g78 _ ((decide (a < (0 : Int))), t3, ([(1 : Int)] : List Int)) fun t4 => K (t4.1, t4.2.1, t4.2.2)))) := by kernel_rfl
theorem number_FromInt.sh : Shown Tryd.prog 31 (one iI).enc kN number_FromInt.c := exec_shown number_FromInt.tok mixed Tryd.func31 (by kernel_rfl) (number_FromInt.ex0 nat_Of.c number_raw.c)
theorem number_FromInt.ok : FunOk Tryd.prog 31 (mk (one iI) kN number_FromInt.c) := number_FromInt.sh.ok (by kernel_rfl)
noncomputable def number_floored.c (R : Type) (a : Bool × List Int × List Int × Bool) (K : (List Int) → Option R) : Option R :=
  (nat_DivMod.c _ (a.2.1, a.2.2.1) fun t1 => (if a.1 = true then (if a.2.2.2 = true then (if (decide ((t1.2.length : Int) > (0 : Int))) = true then (nat_plus.c _ (([] : List Int), t1.1) fun t2 => (nat_plus.c _ (t2, ([(1 : Int)] : List Int)) fun t3 => K t3)) else K t1.1) else K t1.1) else K t1.1))
noncomputable def number_floored.T93 (g94 : CF (List Int × List Int) ((List Int × List Int))) (g105 : CF (List Int × List Int) (List Int)) : List (Nat × Fun) := [(105, mk (more rU (one rU)) rU g105)]
theorem number_floored.tok93 : TOk Tryd.prog (tb (number_floored.T93 nat_DivMod.c nat_plus.c)) := (tb_cons nat_plus.ok tb_nil)
noncomputable def number_floored.T (g94 : CF (List Int × List Int) ((List Int × List Int))) (g105 : CF (List Int × List Int) (List Int)) : List (Nat × Fun) := [(93, execFn' Tryd.prog (tb (number_floored.T93 g94 g105)) 60 Tryd.f93), (94, mk (more rU (one rU)) (tup (more rU (one rU))) g94)]
theorem number_floored.tok : TOk Tryd.prog (tb (number_floored.T nat_DivMod.c nat_plus.c)) := (tb_cons (execFn'_ok number_floored.tok93 mixed Tryd.func93 (by kernel_rfl)) (tb_cons nat_DivMod.ok tb_nil))
set_option maxRecDepth 100000 in
theorem number_floored.ex0 (g94 : CF (List Int × List Int) ((List Int × List Int))) (g105 : CF (List Int × List Int) (List Int)) (R : Type) (a : Bool × List Int × List Int × Bool) (K : (List Int) → Option R) : execFn' Tryd.prog (tb (number_floored.T g94 g105)) 60 Tryd.f92 R ((more cb (more rU (more rU (one cb)))).enc a) (dk rU K) = (g94 _ (a.2.1, a.2.2.1) fun t1 => (if a.1 = true then (if a.2.2.2 = true then (if (decide ((t1.2.length : Int) > (0 : Int))) = true then (g105 _ (([] : List Int), t1.1) fun t2 => (g105 _ (t2, ([(1 : Int)] : List Int)) fun t3 => K t3)) else K t1.1) else K t1.1) else K t1.1)) := by kernel_rfl
theorem number_floored.sh : Shown Tryd.prog 92 (more cb (more rU (more rU (one cb)))).enc rU number_floored.c := exec_shown number_floored.tok mixed Tryd.func92 (by kernel_rfl) (number_floored.ex0 nat_DivMod.c nat_plus.c)
theorem number_floored.ok : FunOk Tryd.prog 92 (mk (more cb (more rU (more rU (one cb)))) rU number_floored.c) := number_floored.sh.ok (by kernel_rfl)
theorem one_rep : Lim 4294967296 [1] ∧ Nrm [1] ∧ val 4294967296 [1] = 1 := ⟨one_lim (by decide), one_nrm, val_one _⟩
theorem rep_int {neg : Bool} {n : List Int} (hn : Lim 4294967296 n) (nn : Nrm n) (h0 : n = [] → neg = false) : Rep neg n [1] (sgn neg (val 4294967296 n)) 1 :=
  ⟨hn, nn, one_rep.1, one_rep.2.1, by decide, by rw [one_rep.2.2]; exact Nat.gcd_one_right _, h0, by rw [one_rep.2.2]⟩
theorem outM_int {neg neg' : Bool} {n p q : List Int} {N : Int} (h : Rep neg' p q N 1) (hn : Lim 4294967296 n) (nn : Nrm n) (h0 : n = [] → neg = false) (hv : sgn neg (val 4294967296 n) = N) (l : n.length ≤ 128) : outM neg' p q = ((neg, n, [1]), 0) := by
  subst hv
  obtain ⟨rfl, rfl, rfl⟩ := h.unique (by decide) (rep_int hn nn h0) (by decide)
  unfold outM
  rw [if_neg]
  rintro (h | h)
  · omega
  · exact absurd h (by decide)
theorem FromInt_one {R : Type} (K : (Bool × List Int × List Int) → Option R) : number_FromInt.c R 1 K = K (false, [1], [1]) := by
  have hw : IntKind.u64.wrap 1 = 1 := by decide
  obtain ⟨r, r1, r2, r3, r4, r5⟩ := Of_ev 1 (by decide) (by decide)
  have hr : r = [1] := (eq_one (by decide) r2 r3).1 (by rw [r4])
  subst hr
  unfold number_FromInt.c
  rw [hw]
  refine (if_neg (by decide)).trans ?_
  refine (nat_Of.eq r1 _).trans ?_
  obtain ⟨p, q, h1, p1, p2, q1, q2, p3, q3⟩ := raw_c false [1] [1] one_rep.1 one_rep.2.1 one_rep.1 one_rep.2.1 (by decide) (by decide) (by decide)
  rw [one_rep.2.2] at p3 q3
  have ep : p = [1] := (eq_one (by decide) p1 p2).1 (by rw [p3]; rfl)
  have eq : q = [1] := (eq_one (by decide) q1 q2).1 (by rw [q3]; rfl)
  subst ep eq
  exact h1 R _
end Go.Proofs.YtemnjgkicndmjaaDoor.Q
namespace Go.Proofs.YtemnjgkicndmjaaDoor.Q
open Go.RowKit Go.Proofs.YtemnjgkicndmjaaDoorW.PrintWords Go.Proofs.YtemnjgkicndmjaaDoorW.PrintLast Go.Proofs.YtemnjgkicndmjaaDoorW.PrintMore
attribute [local go_sem] max2_int min2_int max_two min_two max_three min_three max_four min_four
set_option linter.unusedVariables false
set_option linter.unusedSimpArgs false
def rf_trim.l0 : Nat → List Int → Option (List Int)
 | 0, _ => none
 | k + 1, x0 => if (x0.length : Int) > 0 then (if 0 ≤ (wrap64 ((x0.length : Int) - 1)) then (if (wrap64 ((x0.length : Int) - 1)) < (x0.length : Int) then (if (rd x0 (wrap64 ((x0.length : Int) - 1))) = 0 then (if (wrap64 ((x0.length : Int) - 1)) ≤ (x0.length : Int) then (rf_trim.l0 k (x0.take ((wrap64 ((x0.length : Int) - 1)) : Int).toNat)) else (none)) else (some x0)) else (none)) else (none)) else (some x0)
def rf_trim.f (k : Nat) (l0 : List Int) : Option (List Int) := rf_trim.l0 k l0
theorem rf_trim.mono_l : ∀ k, (∀ y0, LeO (rf_trim.l0 k y0) (rf_trim.l0 (k + 1) y0))
 | 0 => fun _ r h => by simp [rf_trim.l0] at h
 | k + 1 => by
  have ih0 := rf_trim.mono_l k
  ·intro y0
   unfold rf_trim.l0
   have m0 := ih0
   exact zm
theorem rf_trim.mono : ∀ a0 k, LeO (rf_trim.f k a0) (rf_trim.f (k + 1) a0) := by
 intro a0 k
 have ih0 := rf_trim.mono_l k
 unfold rf_trim.f
 have m0 := ih0
 exact zm
set_option maxHeartbeats 8000000 in
set_option maxRecDepth 100000 in
theorem rf_trim.calls (k : Nat) (P0_ : Nat → Prop) (A0 : Option Addr) (c0 : Nat) (l0 : List Int) (r : List Int) (w : World) (hs0 : Kd.V (Kd.int .i64) 3 w w.heap.size (fun k_ => P0_ k_) (.slice A0 l0.length c0) l0) (h : rf_trim.f k l0 = some r) :
  Calls Tryd.prog 96 #[.slice A0 l0.length c0] w fun e w' => ∃ v0_ : Value, e = .returned (v0_) ∧ Kd.V (Kd.int .i64) 3 w' w.heap.size (fun k_ => (P0_ k_ ∨ w.heap.size ≤ k_)) v0_ r ∧ Below w.heap.size w w' := by
 have HO0 := am (show Kd.V (Kd.int .i64) 3 w w.heap.size (fun k_ => (P0_ k_ ∨ w.heap.size ≤ k_)) (.slice A0 l0.length c0) l0 from Kd.V_mono hs0 (fun k_ hk => .inl hk))
 have HB := am (Below.refl w.heap.size w)
 have H := h
 unfold rf_trim.f at H
 clear h
 have H' := am H
 clear H
 go_enter Tryd.func96, Tryd.ntmps96
 go_wp2
 go_loopg [0] k (fun kq v0 w' => ∃ (x0_1 : List Int), Aside0 (rf_trim.l0 kq x0_1 = some r) ∧ Aside0 (kq ≤ k) ∧ Aside0 (Kd.V (Kd.int .i64) 3 w' w.heap.size (fun k_ => (P0_ k_ ∨ w.heap.size ≤ k_)) v0 x0_1) ∧ Aside0 (Below w.heap.size w w'))
 case atStart => exact ⟨(l0), H', ⟨Nat.le_refl _⟩, ⟨zq3 HO0.out⟩, ⟨zq1⟩⟩
 case round =>
  clear H'
  obtain ⟨x0_1, HA, HK1, HO_0, HB⟩ := hrel
  cases gk with
  | zero => exact absurd HA.out (by simp [rf_trim.l0])
  | succ k1 =>
   have H := HA.out
   clear HA
   simp only [rf_trim.l0] at H
   by_cases c2 : (x0_1.length : Int) > 0
   ·rw [if_pos c2] at H
    have c2b0 : decide (0 < (x0_1.length : Int)) = true := decide_eq_true c2
    have c2b1 : decide (0 < x0_1.length) = true := decide_eq_true (by omega)
    clear c2
    obtain ⟨ji3, hji3⟩ : ∃ j_ : Int, (wrap64 ((x0_1.length : Int) - 1)) = j_ := ⟨_, rfl⟩
    replace H : (if 0 ≤ (ji3) then (if (ji3) < (x0_1.length : Int) then (if (rd x0_1 (ji3)) = 0 then (if (ji3) ≤ (x0_1.length : Int) then (rf_trim.l0 k1 (x0_1.take ((ji3) : Int).toNat)) else (none)) else (some x0_1)) else (none)) else (none)) = some r := by first | (rw [hji3] at H; exact H) | (simp only [hji3] at H ⊢; exact H)
    have hji3w : (IntKind.i64.wrap ((x0_1.length : Int) - 1)) = ji3 := (i64_w _).trans hji3
    replace H := zn H
    obtain ⟨c4, H⟩ := H
    have c4b0 := decide_eq_true c4
    clear c4
    replace H := zn H
    obtain ⟨c5, H⟩ := H
    have c5b0 := decide_eq_true c5
    clear c5
    by_cases c6 : (rd x0_1 (ji3)) = 0
    ·rw [if_pos c6] at H
     have c6b0 : ((rd x0_1 (ji3)) == 0) = true := beq_iff_eq.mpr c6
     have c6b1 : ((rd x0_1 (ji3)) != 0) = false := bne_eq_false_iff_eq.mpr c6
     clear c6
     have c7b0 := eq_true (zq6 : 0 ≤ (ji3))
     replace H := zn H
     obtain ⟨c8, H⟩ := H
     have c8b0 := eq_true c8
     have c8b1 := decide_eq_true c8
     clear c8
     obtain ⟨y521, hy521⟩ : ∃ y_ : List Int, y_ = (x0_1.take ((ji3) : Int).toNat) := ⟨_, rfl⟩
     try rw [← hy521] at H
     have Ny521 := am hy521
     clear hy521
     have H' := am H
     clear H
     obtain ⟨Ao9, co9, eo9⟩ := Kd.V_slice HO_0.out
     subst eo9
     have p520 : 0 ≤ ((ji3) : Int) := zq6
     have q520 : (ji3) < (x0_1.length : Int) := zq6
     obtain ⟨ad520, e520, hx520_0⟩ := Kd.at_int (Kd.V_reads' HO_0.out).2.2 (ji3) p520 q520
     cases e520
     replace p520 := eq_true p520
     replace q520 := eq_true q520
     have q10 : ((ji3) : Int) ≤ ((x0_1.length : Int) : Int) := zq6
     obtain ⟨i010, hi010, _, hsz10, _⟩ := info_parts info3
     have hroom10 : x0_1.length ≤ co9 := (Kd.V_reads' HO_0.out).2.1
     have hC10 : Kd.F (Kd.int .i64) _ _ (some ad520) x0_1.length x0_1 := (Kd.V_at (base := w.heap.size) HO_0.out).2.2
     have hcut10 := cut_to (P := Tryd.prog) 39 3 .i64 Tryd.underlying39 hi010 (some ad520) x0_1.length co9 (ji3) zq6 q10 hroom10
     have hr10 := Kd.F_take (m := ((ji3) : Int).toNat) hC10 (by omega)
     have hy10 : y521.length = ((ji3) : Int).toNat := (by rw [Ny521.out, List.length_take]; omega)
     rw [← Ny521.out] at hr10
     rw [← hy10] at hcut10
     have HO525 := am (show Kd.V (Kd.int .i64) 3 _ w.heap.size _ (.slice (some ad520) y521.length co9) y521 from Kd.V_mk (by omega) hr10)
     have HC525 := am (show y521.length ≤ co9 from by omega)
     clear hr10 hC10 hroom10 hi010 hsz10
     have KY10 := am hy10
     clear hy10
     replace q10 := eq_true q10
     go_wp2
     go_roundg k1
     case measure => have := HK1.out; omega
     case rel => exact ⟨(y521), (by first | exact H' | (rw [hji3]; exact H')), ⟨by have := HK1.out; omega⟩, ⟨zq3 HO525.out⟩, ⟨zq1⟩⟩
    ·rw [if_neg c6] at H
     have c6b0 : ((rd x0_1 (ji3)) == 0) = false := beq_eq_false_iff_ne.mpr c6
     have c6b1 : ((rd x0_1 (ji3)) != 0) = true := bne_iff_ne.mpr c6
     obtain rfl := Option.some.inj H
     obtain ⟨Ao11, co11, eo11⟩ := Kd.V_slice HO_0.out
     subst eo11
     have p520 : 0 ≤ ((ji3) : Int) := zq6
     have q520 : (ji3) < (x0_1.length : Int) := zq6
     obtain ⟨ad520, e520, hx520_0⟩ := Kd.at_int (Kd.V_reads' HO_0.out).2.2 (ji3) p520 q520
     cases e520
     replace p520 := eq_true p520
     replace q520 := eq_true q520
     go_wp2
     go_ret
     exact ⟨_, by first | rfl | (simp [errW_none, errW_some] <;> rfl) | (simp only [← hji3]; first | rfl | (simp [errW_none, errW_some] <;> rfl)) | (simp [*, errW_none, errW_some] <;> rfl), zq3 HO_0.out, zq1⟩
   ·rw [if_neg c2] at H
    have c2b0 : decide (0 < (x0_1.length : Int)) = false := decide_eq_false c2
    have c2b1 : decide (0 < x0_1.length) = false := decide_eq_false (by omega)
    clear c2
    obtain rfl := Option.some.inj H
    obtain ⟨Ao12, co12, eo12⟩ := Kd.V_slice HO_0.out
    subst eo12
    go_wp2
    go_ret
    exact ⟨_, zq9, zq3 HO_0.out, zq1⟩
def rf_digit.f (l0 : List Int) (a1 : Int) : Option (Int) := if a1 < (l0.length : Int) then (if 0 ≤ a1 then (some (rd l0 a1)) else (none)) else (some 0)
set_option maxHeartbeats 8000000 in
set_option maxRecDepth 100000 in
theorem rf_digit.calls (A0 : Option Addr) (c0 : Nat) (l0 : List Int) (a1 : Int) (r : Int) (w : World) (hr0 : Kd.C (Kd.int .i64) w A0 l0.length l0) (hc0 : l0.length ≤ c0) (h : rf_digit.f l0 a1 = some r) :
  Calls Tryd.prog 97 #[.slice A0 l0.length c0, .int .i64 a1] w fun e w' => e = .returned (.int .i64 r) ∧ Drawn0 w w' := by
 have HR0 := am hr0
 have HC0 := am hc0
 clear hr0 hc0
 have H := h
 unfold rf_digit.f at H
 clear h
 by_cases c3 : a1 < (l0.length : Int)
 ·rw [if_pos c3] at H
  have c3b0 := decide_eq_true c3
  clear c3
  replace H := zn H
  obtain ⟨c4, H⟩ := H
  have c4b0 := decide_eq_true c4
  clear c4
  obtain rfl := Option.some.inj H
  have p536 : 0 ≤ (a1 : Int) := zq6
  have q536 : a1 < (l0.length : Int) := zq6
  obtain ⟨ad536, e536, hx536_0⟩ := Kd.at_int HR0.out a1 p536 q536
  cases e536
  replace p536 := eq_true p536
  replace q536 := eq_true q536
  go_enter Tryd.func97, Tryd.ntmps97
  go_wp2
  go_ret
  exact ⟨by first | rfl | (simp; done) | (simp [*]; done), by repeat (first | exact Drawn0.refl _ | apply Drawn0.step)⟩
 ·rw [if_neg c3] at H
  have c3b0 := decide_eq_false c3
  clear c3
  obtain rfl := Option.some.inj H
  go_enter Tryd.func97, Tryd.ntmps97
  go_wp2
  go_ret
  exact ⟨by first | rfl | (simp; done) | (simp [*]; done), by repeat (first | exact Drawn0.refl _ | apply Drawn0.step)⟩
end Go.Proofs.YtemnjgkicndmjaaDoor.Q
namespace Go.Proofs.YtemnjgkicndmjaaDoor.Q
open Go.RowKit Go.Proofs.YtemnjgkicndmjaaDoorW.PrintWords Go.Proofs.YtemnjgkicndmjaaDoorW.PrintLast Go.Proofs.YtemnjgkicndmjaaDoorW.PrintMore
set_option linter.unusedVariables false
theorem ofInt_64 (a : Nat) (ha : a < 18446744073709551616) : (BitVec.ofInt 64 (a : Int)).toNat = a := by
  rw [BitVec.ofInt_natCast, BitVec.toNat_ofNat]; exact Nat.mod_eq_of_lt (by omega)
theorem i64w (n : Int) (h0 : 0 ≤ n) (h1 : n < 9223372036854775808) : IntKind.i64.wrap n = n := by
  simp [IntKind.wrap, IntKind.bits, IntKind.signed]; omega
theorem i64_and (a b : Int) (h1 : 0 ≤ a) (h2 : a < 9223372036854775808) (h3 : 0 ≤ b) (h4 : b < 9223372036854775808) : Go.bits .and .i64 a b = ((a.toNat &&& b.toNat : Nat) : Int) := by
  obtain ⟨A, rfl⟩ := Int.eq_ofNat_of_zero_le h1
  obtain ⟨B, rfl⟩ := Int.eq_ofNat_of_zero_le h3
  have hx : A &&& B < 2 ^ 63 := Nat.and_lt_two_pow _ (by omega)
  show IntKind.i64.wrap ((BitVec.ofInt 64 (A : Int) &&& BitVec.ofInt 64 (B : Int)).toNat : Int) = _
  rw [BitVec.toNat_and, ofInt_64 A (by omega), ofInt_64 B (by omega), i64w _ (by omega) (by omega)]
  rfl
theorem i64_and1 {x : Int} (h0 : 0 ≤ x) (h1 : x < 9223372036854775808) : Go.bits .and .i64 x 1 = x % 2 := by
  rw [i64_and _ _ h0 h1 (by omega) (by omega)]
  have : (1 : Int).toNat = 1 := rfl
  rw [this, Nat.and_one_is_mod]; omega
theorem small_len {B : Int} (hB : 1 < B) {xs : List Int} (h : Lim B xs) (hn : Nrm xs) {n : Nat} (hv : val B xs < B ^ n) : xs.length ≤ n := by
  rcases Nat.lt_or_ge n xs.length with c | c
  · have h0 : xs ≠ [] := by rintro rfl; simp at c
    have h1 := val_ge (by omega) h hn h0
    have h2 := pow_mono' (show 0 < B by omega) (show n ≤ xs.length - 1 by omega)
    omega
  · exact c
end Go.Proofs.YtemnjgkicndmjaaDoor.Q
namespace Go.Proofs.YtemnjgkicndmjaaDoor.Q
open Go.RowKit Go.Proofs.YtemnjgkicndmjaaDoor.E Go.Proofs.YtemnjgkicndmjaaDoorW.PrintWords Go.Proofs.YtemnjgkicndmjaaDoorW.PrintLast Go.Proofs.YtemnjgkicndmjaaDoorW.PrintMore
set_option linter.unusedVariables false
noncomputable def nat_Power.c : (R : Type) → (List Int × Int × Int) → (((List Int × Bool)) → Option R) → Option R := fun R a => lm (fun (a : List Int × Int × Int) k => nat_Power.f k a.1 a.2.1 a.2.2) R a
theorem nat_Power.pc (a : List Int × Int × Int) (b : (List Int × Bool)) (k : Nat) (h : nat_Power.f k a.1 a.2.1 a.2.2 = some b) : PureC Tryd.prog 88 ((more rU (more iI (one iI))).enc a) ((tup (more rU (one cb))).enc b) := by
  intro w P0 vs hr
  obtain ⟨x0, x1, x2⟩ := a
  obtain ⟨r0, r1⟩ := b
  obtain ⟨A0, c0, u0, e0, hc0, hf0, hr⟩ := at_row hr
  obtain ⟨u1, e1, hr⟩ := at_int hr
  obtain ⟨u2, e2, hr⟩ := at_int hr
  have z := at_nil hr
  subst z
  subst e2
  subst e1
  have q3 := e0
  obtain rfl : vs = #[.slice A0 x0.length c0, .int .i64 x1, .int .i64 x2] := Array.toList_inj.1 (by simpa using q3)
  refine Calls.mono (nat_Power.calls k A0 c0 x0 x1 x2 r0 r1 w (now hf0) hc0 h) fun e w' he => ?_
  obtain ⟨v0_, rfl, hv0, hb⟩ := he
  exact ⟨_, rfl, hb, (rep_tup2 (V_row hv0 fun n hn => .inr hn) (show E.Rep _ _ _ _ _ from by simp only [cb, E.Rep]))⟩
theorem nat_Power.ok : FunOk Tryd.prog 88 (mk (more rU (more iI (one iI))) (tup (more rU (one cb))) nat_Power.c) := lm_ok (by kernel_rfl) nat_Power.pc
theorem nat_Power.eq {x0 : List Int} {x1 : Int} {x2 : Int} {b : (List Int × Bool)} (h : Ev (fun k => nat_Power.f k x0 x1 x2) b) {R : Type} (K : ((List Int × Bool)) → Option R) : nat_Power.c R (x0, x1, x2) K = K b := lm_ev (g := fun (a : List Int × Int × Int) k => nat_Power.f k a.1 a.2.1 a.2.2) (a := (x0, x1, x2)) h K
set_option maxRecDepth 100000 in
theorem Len64_small (a : Int) (h0 : 0 ≤ a) (h1 : a < 65536) : ∃ n : Nat, Ev (fun k => bits_Len.f k a) (n : Int) ∧ n ≤ 16 ∧ a < 2 ^ n := by
  have key : ∀ n : Nat, Ev (fun k => bits_Len64.j0 k a 0) (n : Int) → Ev (fun k => bits_Len.f k a) (n : Int) := fun n h =>
    Ev.bind (f := fun _ t => some t) (Ev.congr (f := fun k => bits_Len64.j0 k a 0) (fun k => if_neg (by omega)) h) (Ev.now _)
  by_cases c : a ≥ 256
  · obtain ⟨n, e, hn, hu, hl⟩ := len_part (a := a) (x := a / 256 % 256) (j := 8) (by omega) (by omega) (by omega) (by omega)
    refine ⟨n + 8, key _ (Ev.step (f := fun _ => some (((n + 8 : Nat) : Int))) (fun k => ?_) (Ev.now _)), by omega, hu⟩
    simp only [bits_Len64.j0]
    rw [if_neg (by omega), if_pos c, if_pos (by omega), if_pos (by omega)]
    refine (show _ = some (wrap64 ((wrap64 (0 + 8)) + (wrap64 (bt len8 (a / 256 % 256))))) from rfl).trans ?_
    rw [e, w64 (x := (n : Int)) (by omega) (by omega), w64 (x := 0 + 8) (by omega) (by omega), w64 (by omega) (by omega)]
    congr 1
    omega
  · obtain ⟨n, e, hn, hu, hl⟩ := len_part (a := a) (x := a % 256) (j := 0) (by omega) (by omega) (by omega) (by omega)
    refine ⟨n, key _ (Ev.step (f := fun _ => some ((n : Nat) : Int)) (fun k => ?_) (Ev.now _)), by omega, hu⟩
    simp only [bits_Len64.j0]
    rw [if_neg (by omega), if_neg c, if_pos (by omega), if_pos (by omega)]
    refine (show _ = some (wrap64 (0 + (wrap64 (bt len8 (a % 256))))) from rfl).trans ?_
    rw [e, w64 (x := (n : Int)) (by omega) (by omega), w64 (by omega) (by omega)]
    congr 1
    omega
theorem limit128 {x : List Int} (hx : Lim 4294967296 x) (nx : Nrm x) : x.length ≤ 128 ↔ val 4294967296 x < 2 ^ 4096 := by
  have e : (4294967296 : Int) ^ 128 = 2 ^ 4096 := by rw [show (4294967296 : Int) = 2 ^ 32 from rfl, ← Int.pow_mul]
  constructor
  · intro h
    rw [← e]
    exact Int.lt_of_lt_of_le (val_lt (by decide) hx) (pow_mono' (by decide) h)
  · intro h
    rw [← e] at h
    exact small_len (by decide) hx nx h
theorem npow_loop (a : List Int) (ha : Lim 4294967296 a) (na : Nrm a) (a0 : a ≠ []) (la : a.length ≤ 128) (n : Nat) (hn : n < 65536) : ∀ (j : Nat) (out : List Int), j ≤ 17 → Lim 4294967296 out → Nrm out → out.length ≤ 128 → val 4294967296 out = val 4294967296 a ^ (n / 2 ^ j) →
    (∃ r, Ev (fun k => nat_Power.l0 k a (n : Int) 128 out ((j : Int) - 1)) (r, true) ∧ Lim 4294967296 r ∧ Nrm r ∧ r.length ≤ 128 ∧ val 4294967296 r = val 4294967296 a ^ n) ∨ (Ev (fun k => nat_Power.l0 k a (n : Int) 128 out ((j : Int) - 1)) ([], false) ∧ 2 ^ 4096 ≤ val 4294967296 a ^ n) := by
  have hB : (0 : Int) < 4294967296 := by decide
  have va : 1 ≤ val 4294967296 a := val_pos hB ha na a0
  intro j
  induction j with
  | zero =>
    intro out _ ho no lo hv
    refine .inl ⟨out, Ev.step (f := fun _ => some (out, true)) (fun k => ?_) (Ev.now _), ho, no, lo, by simpa using hv⟩
    simp only [nat_Power.l0]
    rw [if_neg (by omega)]
  | succ j ih =>
    intro out hj ho no lo hv
    have e1 : ((j + 1 : Nat) : Int) - 1 = (j : Int) := by omega
    have ew : wrap64 ((j : Int) - 1) = (j : Int) - 1 := w64 (by omega) (by omega)
    obtain ⟨t, t1, t2, t3, t4, t5⟩ := Mul_ev out out ho ho (by omega)
    obtain ⟨s, s1, s2, s3, s4, s5⟩ := Mul_ev t a t2 ha (by omega)
    have hq : n / 2 ^ (j + 1) = n / 2 ^ j / 2 := by rw [Nat.pow_succ, Nat.div_div_eq_div_mul]
    have hp2 : (2 : Nat) ^ j ≠ 0 := Nat.pos_iff_ne_zero.1 (Nat.pow_pos (by decide))
    have hbit : Go.bits .and .i64 (shr .i64 (n : Int) (j : Int)) 1 = ((n / 2 ^ j % 2 : Nat) : Int) := by
      have h1 : shr .i64 (n : Int) (j : Int) = ((n / 2 ^ j : Nat) : Int) := by
        unfold shr
        rw [Int.toNat_natCast, Nat.min_eq_left (by simp [IntKind.bits]; omega)]
        norm_cast
      have h2 : n / 2 ^ j ≤ n := Nat.div_le_self _ _
      rw [h1]
      generalize n / 2 ^ j = w at h2 ⊢
      rw [i64_and1 (by omega) (by omega)]
      omega
    have digit : ∀ (y : List Int), Lim 4294967296 y → Nrm y → val 4294967296 y = val 4294967296 a ^ (n / 2 ^ j) →
        (∀ R : List Int × Bool, Ev (fun k => if (y.length : Int) > 128 then (some (([] : List Int), false)) else (nat_Power.l0 k a (n : Int) 128 y ((j : Int) - 1))) R → Ev (fun k => nat_Power.l0 k a (n : Int) 128 out (((j + 1 : Nat) : Int) - 1)) R) →
        (∃ r, Ev (fun k => nat_Power.l0 k a (n : Int) 128 out (((j + 1 : Nat) : Int) - 1)) (r, true) ∧ Lim 4294967296 r ∧ Nrm r ∧ r.length ≤ 128 ∧ val 4294967296 r = val 4294967296 a ^ n) ∨ (Ev (fun k => nat_Power.l0 k a (n : Int) 128 out (((j + 1 : Nat) : Int) - 1)) ([], false) ∧ 2 ^ 4096 ≤ val 4294967296 a ^ n) := by
      intro y y1 y2 y3 hstep
      by_cases c : y.length ≤ 128
      · rcases ih y (by omega) y1 y2 c y3 with ⟨r, r1, r2⟩ | ⟨r1, r2⟩
        · exact .inl ⟨r, hstep _ (Ev.congr (fun k => if_neg (by omega)) r1), r2⟩
        · exact .inr ⟨hstep _ (Ev.congr (fun k => if_neg (by omega)) r1), r2⟩
      · refine .inr ⟨hstep _ (Ev.ret fun k => if_pos (by omega)), ?_⟩
        have h1 : ¬ val 4294967296 y < 2 ^ 4096 := fun h => c ((limit128 y1 y2).2 h)
        rw [y3] at h1
        have h2 : val 4294967296 a ^ (n / 2 ^ j) ≤ val 4294967296 a ^ n := pow_mono' (by omega) (Nat.div_le_self _ _)
        exact Int.le_trans (Int.not_lt.1 h1) h2
    have hvt : val 4294967296 t = val 4294967296 a ^ (2 * (n / 2 ^ j / 2)) := by rw [t4, hv, hq, ← Int.pow_add]; congr 1; omega
    by_cases c : n / 2 ^ j % 2 = 1
    · refine digit s s2 s3 ?_ fun R hR => ?_
      · rw [s4, hvt, ← Int.pow_succ]
        congr 1
        omega
      · rw [e1]
        refine Ev.step (f := fun k => (nat_Mul.f k out out).bind fun t1951 => ((nat_Mul.f k t1951 a).bind fun t1954 => (if (t1954.length : Int) > 128 then (some (([] : List Int), false)) else (nat_Power.l0 k a (n : Int) 128 t1954 ((j : Int) - 1))))) (fun k => ?_) ?_
        · simp only [nat_Power.l0]
          rw [if_pos (by omega), ew, hbit, c]
          refine congrArg ((nat_Mul.f k out out).bind) (funext fun t1951 => ?_)
          rw [if_pos (by omega)]
          exact if_pos rfl
        · refine Ev.bind (f := fun k t1951 => ((nat_Mul.f k t1951 a).bind fun t1954 => (if (t1954.length : Int) > 128 then (some (([] : List Int), false)) else (nat_Power.l0 k a (n : Int) 128 t1954 ((j : Int) - 1))))) t1 ?_
          exact Ev.bind (f := fun k t1954 => (if (t1954.length : Int) > 128 then (some (([] : List Int), false)) else (nat_Power.l0 k a (n : Int) 128 t1954 ((j : Int) - 1)))) s1 hR
    · refine digit t t2 t3 ?_ fun R hR => ?_
      · rw [hvt]
        congr 1
        omega
      · rw [e1]
        refine Ev.step (f := fun k => (nat_Mul.f k out out).bind fun t1951 => (if (t1951.length : Int) > 128 then (some (([] : List Int), false)) else (nat_Power.l0 k a (n : Int) 128 t1951 ((j : Int) - 1)))) (fun k => ?_) ?_
        · simp only [nat_Power.l0]
          rw [if_pos (by omega), ew, hbit]
          refine congrArg ((nat_Mul.f k out out).bind) (funext fun t1951 => ?_)
          rw [if_pos (by omega)]
          exact if_neg (by omega)
        · exact Ev.bind (f := fun k t1951 => (if (t1951.length : Int) > 128 then (some (([] : List Int), false)) else (nat_Power.l0 k a (n : Int) 128 t1951 ((j : Int) - 1)))) t1 hR
theorem npow_c {a : List Int} (ha : Lim 4294967296 a) (na : Nrm a) (a0 : a ≠ []) (la : a.length ≤ 128) (n : Nat) (hn : n ≤ 4096) :
    (∃ r, (∀ (R : Type) (K : List Int × Bool → Option R), nat_Power.c R (a, (n : Int), 128) K = K (r, true)) ∧ Lim 4294967296 r ∧ Nrm r ∧ r.length ≤ 128 ∧ val 4294967296 r = val 4294967296 a ^ n) ∨ ((∀ (R : Type) (K : List Int × Bool → Option R), nat_Power.c R (a, (n : Int), 128) K = K ([], false)) ∧ 2 ^ 4096 ≤ val 4294967296 a ^ n) := by
  obtain ⟨L, l1, l2, l3⟩ := Len64_small (n : Int) (by omega) (by omega)
  have hw : IntKind.u64.wrap (n : Int) = (n : Int) := by rw [u64w]; omega
  have hL : n / 2 ^ L = 0 := by
    refine Nat.div_eq_of_lt ?_
    have : ((n : Nat) : Int) < ((2 ^ L : Nat) : Int) := by rw [Int.natCast_pow]; exact l3
    omega
  have ew : wrap64 ((L : Int) - 1) = (L : Int) - 1 := w64 (by omega) (by omega)
  have hf : ∀ res : List Int × Bool, Ev (fun k => nat_Power.l0 k a (n : Int) 128 [1] ((L : Int) - 1)) res → Ev (fun k => nat_Power.f k a (n : Int) 128) res := by
    intro res h
    refine Ev.congr (f := fun k => (bits_Len.f k (n : Int)).bind fun t1950 => (nat_Power.l0 k a (n : Int) 128 (([1] : List Int)) (wrap64 (t1950 - 1)))) (fun k => by unfold nat_Power.f; rw [hw]) ?_
    refine Ev.bind (f := fun k t1950 => (nat_Power.l0 k a (n : Int) 128 (([1] : List Int)) (wrap64 (t1950 - 1)))) l1 ?_
    rw [ew]
    exact h
  rcases npow_loop a ha na a0 la n (by omega) L [1] (by omega) one_rep.1 one_rep.2.1 (by decide) (by rw [hL, Int.pow_zero]; exact one_rep.2.2) with ⟨r, r1, r2⟩ | ⟨r1, r2⟩
  · exact .inl ⟨r, fun R K => nat_Power.eq (hf _ r1) K, r2⟩
  · exact .inr ⟨fun R K => nat_Power.eq (hf _ r1) K, r2⟩
noncomputable def number_Power.c (R : Type) (a : Nm × Nm) (K : ((Nm × Int)) → Option R) : Option R :=
  (number_check2.c _ (a.1.1, a.1.2.1, a.1.2.2, a.2.1, a.2.2.1, a.2.2.2) fun t1 => (if (t1 != (0 : Int)) = true then K ((false, ([] : List Int), ([] : List Int)), t1) else (nat_IsOne.c _ a.2.2.2 fun t2 => (if (!t2) = true then K ((false, ([] : List Int), ([] : List Int)), (7 : Int)) else (if (decide ((a.2.2.1.length : Int) > (0 : Int))) = true then (if 0 ≤ (0 : Int) ∧ (0 : Int) < (a.2.2.1.length : Int) then (if ((a.2.2.1.length : Int) == (0 : Int)) = true then (number_FromInt.c _ (1 : Int) fun t3 => K ((t3.1, t3.2.1, t3.2.2), (0 : Int))) else (if ((a.1.2.1.length : Int) == (0 : Int)) = true then (if a.2.1 = true then K ((false, ([] : List Int), ([] : List Int)), (10 : Int)) else (if ((a.1.2.1.length : Int) == (0 : Int)) = false then (nat_IsOne.c _ a.1.2.1 fun t4 => (if t4 = true then (nat_IsOne.c _ a.1.2.2 fun t5 => (if t5 = true then (if a.1.1 = true then (number_made.c _ (((IntKind.u32.wrap (((BitVec.ofInt 32 (a.2.2.1.getD 0 0)) &&& (BitVec.ofInt 32 (1 : Int))).toNat : Int)) == (1 : Int)), a.1.2.1, a.1.2.2) fun t6 => K ((t6.1.1, t6.1.2.1, t6.1.2.2), t6.2)) else (number_made.c _ (false, a.1.2.1, a.1.2.2) fun t7 => K ((t7.1.1, t7.1.2.1, t7.1.2.2), t7.2))) else (if (decide ((a.2.2.1.length : Int) > (1 : Int))) = false then (if 0 ≤ (0 : Int) ∧ (0 : Int) < (a.2.2.1.length : Int) then (if (decide ((a.2.2.1.getD 0 0) > (4096 : Int))) = true then K ((false, ([] : List Int), ([] : List Int)), (3 : Int)) else (if 0 ≤ (0 : Int) ∧ (0 : Int) < (a.2.2.1.length : Int) then (nat_Power.c _ (a.1.2.1, (IntKind.i64.wrap (a.2.2.1.getD 0 0)), (128 : Int)) fun t8 => (if 0 ≤ (0 : Int) ∧ (0 : Int) < (a.2.2.1.length : Int) then (nat_Power.c _ (a.1.2.2, (IntKind.i64.wrap (a.2.2.1.getD 0 0)), (128 : Int)) fun t9 => (if (!t8.2) = false then (if (!t9.2) = true then K ((false, ([] : List Int), ([] : List Int)), (3 : Int)) else (if a.2.1 = true then (if a.1.1 = true then (number_made.c _ (((IntKind.u32.wrap (((BitVec.ofInt 32 (a.2.2.1.getD 0 0)) &&& (BitVec.ofInt 32 (1 : Int))).toNat : Int)) == (1 : Int)), t9.1, t8.1) fun t10 => K ((t10.1.1, t10.1.2.1, t10.1.2.2), t10.2)) else (number_made.c _ (false, t9.1, t8.1) fun t11 => K ((t11.1.1, t11.1.2.1, t11.1.2.2), t11.2))) else (if a.1.1 = true then (number_made.c _ (((IntKind.u32.wrap (((BitVec.ofInt 32 (a.2.2.1.getD 0 0)) &&& (BitVec.ofInt 32 (1 : Int))).toNat : Int)) == (1 : Int)), t8.1, t9.1) fun t12 => K ((t12.1.1, t12.1.2.1, t12.1.2.2), t12.2)) else (number_made.c _ (false, t8.1, t9.1) fun t13 => K ((t13.1.1, t13.1.2.1, t13.1.2.2), t13.2))))) else K ((false, ([] : List Int), ([] : List Int)), (3 : Int)))) else none)) else none)) else none) else K ((false, ([] : List Int), ([] : List Int)), (3 : Int))))) else (if (decide ((a.2.2.1.length : Int) > (1 : Int))) = false then (if 0 ≤ (0 : Int) ∧ (0 : Int) < (a.2.2.1.length : Int) then (if (decide ((a.2.2.1.getD 0 0) > (4096 : Int))) = true then K ((false, ([] : List Int), ([] : List Int)), (3 : Int)) else (if 0 ≤ (0 : Int) ∧ (0 : Int) < (a.2.2.1.length : Int) then (nat_Power.c _ (a.1.2.1, (IntKind.i64.wrap (a.2.2.1.getD 0 0)), (128 : Int)) fun t14 => (if 0 ≤ (0 : Int) ∧ (0 : Int) < (a.2.2.1.length : Int) then (nat_Power.c _ (a.1.2.2, (IntKind.i64.wrap (a.2.2.1.getD 0 0)), (128 : Int)) fun t15 => (if (!t14.2) = false then (if (!t15.2) = true then K ((false, ([] : List Int), ([] : List Int)), (3 : Int)) else (if a.2.1 = true then (if a.1.1 = true then (number_made.c _ (((IntKind.u32.wrap (((BitVec.ofInt 32 (a.2.2.1.getD 0 0)) &&& (BitVec.ofInt 32 (1 : Int))).toNat : Int)) == (1 : Int)), t15.1, t14.1) fun t16 => K ((t16.1.1, t16.1.2.1, t16.1.2.2), t16.2)) else (number_made.c _ (false, t15.1, t14.1) fun t17 => K ((t17.1.1, t17.1.2.1, t17.1.2.2), t17.2))) else (if a.1.1 = true then (number_made.c _ (((IntKind.u32.wrap (((BitVec.ofInt 32 (a.2.2.1.getD 0 0)) &&& (BitVec.ofInt 32 (1 : Int))).toNat : Int)) == (1 : Int)), t14.1, t15.1) fun t18 => K ((t18.1.1, t18.1.2.1, t18.1.2.2), t18.2)) else (number_made.c _ (false, t14.1, t15.1) fun t19 => K ((t19.1.1, t19.1.2.1, t19.1.2.2), t19.2))))) else K ((false, ([] : List Int), ([] : List Int)), (3 : Int)))) else none)) else none)) else none) else K ((false, ([] : List Int), ([] : List Int)), (3 : Int))))) else (if a.1.1 = true then (number_made.c _ (((IntKind.u32.wrap (((BitVec.ofInt 32 (a.2.2.1.getD 0 0)) &&& (BitVec.ofInt 32 (1 : Int))).toNat : Int)) == (1 : Int)), a.1.2.1, a.1.2.2) fun t20 => K ((t20.1.1, t20.1.2.1, t20.1.2.2), t20.2)) else (number_made.c _ (false, a.1.2.1, a.1.2.2) fun t21 => K ((t21.1.1, t21.1.2.1, t21.1.2.2), t21.2))))) else (if ((a.1.2.1.length : Int) == (0 : Int)) = false then (nat_IsOne.c _ a.1.2.1 fun t22 => (if t22 = true then (nat_IsOne.c _ a.1.2.2 fun t23 => (if t23 = true then (if a.1.1 = true then (number_made.c _ (((IntKind.u32.wrap (((BitVec.ofInt 32 (a.2.2.1.getD 0 0)) &&& (BitVec.ofInt 32 (1 : Int))).toNat : Int)) == (1 : Int)), a.1.2.1, a.1.2.2) fun t24 => K ((t24.1.1, t24.1.2.1, t24.1.2.2), t24.2)) else (number_made.c _ (false, a.1.2.1, a.1.2.2) fun t25 => K ((t25.1.1, t25.1.2.1, t25.1.2.2), t25.2))) else (if (decide ((a.2.2.1.length : Int) > (1 : Int))) = false then (if 0 ≤ (0 : Int) ∧ (0 : Int) < (a.2.2.1.length : Int) then (if (decide ((a.2.2.1.getD 0 0) > (4096 : Int))) = true then K ((false, ([] : List Int), ([] : List Int)), (3 : Int)) else (if 0 ≤ (0 : Int) ∧ (0 : Int) < (a.2.2.1.length : Int) then (nat_Power.c _ (a.1.2.1, (IntKind.i64.wrap (a.2.2.1.getD 0 0)), (128 : Int)) fun t26 => (if 0 ≤ (0 : Int) ∧ (0 : Int) < (a.2.2.1.length : Int) then (nat_Power.c _ (a.1.2.2, (IntKind.i64.wrap (a.2.2.1.getD 0 0)), (128 : Int)) fun t27 => (if (!t26.2) = false then (if (!t27.2) = true then K ((false, ([] : List Int), ([] : List Int)), (3 : Int)) else (if a.2.1 = true then (if a.1.1 = true then (number_made.c _ (((IntKind.u32.wrap (((BitVec.ofInt 32 (a.2.2.1.getD 0 0)) &&& (BitVec.ofInt 32 (1 : Int))).toNat : Int)) == (1 : Int)), t27.1, t26.1) fun t28 => K ((t28.1.1, t28.1.2.1, t28.1.2.2), t28.2)) else (number_made.c _ (false, t27.1, t26.1) fun t29 => K ((t29.1.1, t29.1.2.1, t29.1.2.2), t29.2))) else (if a.1.1 = true then (number_made.c _ (((IntKind.u32.wrap (((BitVec.ofInt 32 (a.2.2.1.getD 0 0)) &&& (BitVec.ofInt 32 (1 : Int))).toNat : Int)) == (1 : Int)), t26.1, t27.1) fun t30 => K ((t30.1.1, t30.1.2.1, t30.1.2.2), t30.2)) else (number_made.c _ (false, t26.1, t27.1) fun t31 => K ((t31.1.1, t31.1.2.1, t31.1.2.2), t31.2))))) else K ((false, ([] : List Int), ([] : List Int)), (3 : Int)))) else none)) else none)) else none) else K ((false, ([] : List Int), ([] : List Int)), (3 : Int))))) else (if (decide ((a.2.2.1.length : Int) > (1 : Int))) = false then (if 0 ≤ (0 : Int) ∧ (0 : Int) < (a.2.2.1.length : Int) then (if (decide ((a.2.2.1.getD 0 0) > (4096 : Int))) = true then K ((false, ([] : List Int), ([] : List Int)), (3 : Int)) else (if 0 ≤ (0 : Int) ∧ (0 : Int) < (a.2.2.1.length : Int) then (nat_Power.c _ (a.1.2.1, (IntKind.i64.wrap (a.2.2.1.getD 0 0)), (128 : Int)) fun t32 => (if 0 ≤ (0 : Int) ∧ (0 : Int) < (a.2.2.1.length : Int) then (nat_Power.c _ (a.1.2.2, (IntKind.i64.wrap (a.2.2.1.getD 0 0)), (128 : Int)) fun t33 => (if (!t32.2) = false then (if (!t33.2) = true then K ((false, ([] : List Int), ([] : List Int)), (3 : Int)) else (if a.2.1 = true then (if a.1.1 = true then (number_made.c _ (((IntKind.u32.wrap (((BitVec.ofInt 32 (a.2.2.1.getD 0 0)) &&& (BitVec.ofInt 32 (1 : Int))).toNat : Int)) == (1 : Int)), t33.1, t32.1) fun t34 => K ((t34.1.1, t34.1.2.1, t34.1.2.2), t34.2)) else (number_made.c _ (false, t33.1, t32.1) fun t35 => K ((t35.1.1, t35.1.2.1, t35.1.2.2), t35.2))) else (if a.1.1 = true then (number_made.c _ (((IntKind.u32.wrap (((BitVec.ofInt 32 (a.2.2.1.getD 0 0)) &&& (BitVec.ofInt 32 (1 : Int))).toNat : Int)) == (1 : Int)), t32.1, t33.1) fun t36 => K ((t36.1.1, t36.1.2.1, t36.1.2.2), t36.2)) else (number_made.c _ (false, t32.1, t33.1) fun t37 => K ((t37.1.1, t37.1.2.1, t37.1.2.2), t37.2))))) else K ((false, ([] : List Int), ([] : List Int)), (3 : Int)))) else none)) else none)) else none) else K ((false, ([] : List Int), ([] : List Int)), (3 : Int))))) else (if a.1.1 = true then (number_made.c _ (((IntKind.u32.wrap (((BitVec.ofInt 32 (a.2.2.1.getD 0 0)) &&& (BitVec.ofInt 32 (1 : Int))).toNat : Int)) == (1 : Int)), a.1.2.1, a.1.2.2) fun t38 => K ((t38.1.1, t38.1.2.1, t38.1.2.2), t38.2)) else (number_made.c _ (false, a.1.2.1, a.1.2.2) fun t39 => K ((t39.1.1, t39.1.2.1, t39.1.2.2), t39.2)))))) else none) else (if ((a.2.2.1.length : Int) == (0 : Int)) = true then (number_FromInt.c _ (1 : Int) fun t40 => K ((t40.1, t40.2.1, t40.2.2), (0 : Int))) else (if ((a.1.2.1.length : Int) == (0 : Int)) = true then (if a.2.1 = true then K ((false, ([] : List Int), ([] : List Int)), (10 : Int)) else (if ((a.1.2.1.length : Int) == (0 : Int)) = false then (nat_IsOne.c _ a.1.2.1 fun t41 => (if t41 = true then (nat_IsOne.c _ a.1.2.2 fun t42 => (if t42 = true then (if a.1.1 = true then (number_made.c _ (false, a.1.2.1, a.1.2.2) fun t43 => K ((t43.1.1, t43.1.2.1, t43.1.2.2), t43.2)) else (number_made.c _ (false, a.1.2.1, a.1.2.2) fun t44 => K ((t44.1.1, t44.1.2.1, t44.1.2.2), t44.2))) else (if (decide ((a.2.2.1.length : Int) > (1 : Int))) = false then (if 0 ≤ (0 : Int) ∧ (0 : Int) < (a.2.2.1.length : Int) then (if (decide ((a.2.2.1.getD 0 0) > (4096 : Int))) = true then K ((false, ([] : List Int), ([] : List Int)), (3 : Int)) else (if 0 ≤ (0 : Int) ∧ (0 : Int) < (a.2.2.1.length : Int) then (nat_Power.c _ (a.1.2.1, (IntKind.i64.wrap (a.2.2.1.getD 0 0)), (128 : Int)) fun t45 => (if 0 ≤ (0 : Int) ∧ (0 : Int) < (a.2.2.1.length : Int) then (nat_Power.c _ (a.1.2.2, (IntKind.i64.wrap (a.2.2.1.getD 0 0)), (128 : Int)) fun t46 => (if (!t45.2) = false then (if (!t46.2) = true then K ((false, ([] : List Int), ([] : List Int)), (3 : Int)) else (if a.2.1 = true then (if a.1.1 = true then (number_made.c _ (false, t46.1, t45.1) fun t47 => K ((t47.1.1, t47.1.2.1, t47.1.2.2), t47.2)) else (number_made.c _ (false, t46.1, t45.1) fun t48 => K ((t48.1.1, t48.1.2.1, t48.1.2.2), t48.2))) else (if a.1.1 = true then (number_made.c _ (false, t45.1, t46.1) fun t49 => K ((t49.1.1, t49.1.2.1, t49.1.2.2), t49.2)) else (number_made.c _ (false, t45.1, t46.1) fun t50 => K ((t50.1.1, t50.1.2.1, t50.1.2.2), t50.2))))) else K ((false, ([] : List Int), ([] : List Int)), (3 : Int)))) else none)) else none)) else none) else K ((false, ([] : List Int), ([] : List Int)), (3 : Int))))) else (if (decide ((a.2.2.1.length : Int) > (1 : Int))) = false then (if 0 ≤ (0 : Int) ∧ (0 : Int) < (a.2.2.1.length : Int) then (if (decide ((a.2.2.1.getD 0 0) > (4096 : Int))) = true then K ((false, ([] : List Int), ([] : List Int)), (3 : Int)) else (if 0 ≤ (0 : Int) ∧ (0 : Int) < (a.2.2.1.length : Int) then (nat_Power.c _ (a.1.2.1, (IntKind.i64.wrap (a.2.2.1.getD 0 0)), (128 : Int)) fun t51 => (if 0 ≤ (0 : Int) ∧ (0 : Int) < (a.2.2.1.length : Int) then (nat_Power.c _ (a.1.2.2, (IntKind.i64.wrap (a.2.2.1.getD 0 0)), (128 : Int)) fun t52 => (if (!t51.2) = false then (if (!t52.2) = true then K ((false, ([] : List Int), ([] : List Int)), (3 : Int)) else (if a.2.1 = true then (if a.1.1 = true then (number_made.c _ (false, t52.1, t51.1) fun t53 => K ((t53.1.1, t53.1.2.1, t53.1.2.2), t53.2)) else (number_made.c _ (false, t52.1, t51.1) fun t54 => K ((t54.1.1, t54.1.2.1, t54.1.2.2), t54.2))) else (if a.1.1 = true then (number_made.c _ (false, t51.1, t52.1) fun t55 => K ((t55.1.1, t55.1.2.1, t55.1.2.2), t55.2)) else (number_made.c _ (false, t51.1, t52.1) fun t56 => K ((t56.1.1, t56.1.2.1, t56.1.2.2), t56.2))))) else K ((false, ([] : List Int), ([] : List Int)), (3 : Int)))) else none)) else none)) else none) else K ((false, ([] : List Int), ([] : List Int)), (3 : Int))))) else (if a.1.1 = true then (number_made.c _ (false, a.1.2.1, a.1.2.2) fun t57 => K ((t57.1.1, t57.1.2.1, t57.1.2.2), t57.2)) else (number_made.c _ (false, a.1.2.1, a.1.2.2) fun t58 => K ((t58.1.1, t58.1.2.1, t58.1.2.2), t58.2))))) else (if ((a.1.2.1.length : Int) == (0 : Int)) = false then (nat_IsOne.c _ a.1.2.1 fun t59 => (if t59 = true then (nat_IsOne.c _ a.1.2.2 fun t60 => (if t60 = true then (if a.1.1 = true then (number_made.c _ (false, a.1.2.1, a.1.2.2) fun t61 => K ((t61.1.1, t61.1.2.1, t61.1.2.2), t61.2)) else (number_made.c _ (false, a.1.2.1, a.1.2.2) fun t62 => K ((t62.1.1, t62.1.2.1, t62.1.2.2), t62.2))) else (if (decide ((a.2.2.1.length : Int) > (1 : Int))) = false then (if 0 ≤ (0 : Int) ∧ (0 : Int) < (a.2.2.1.length : Int) then (if (decide ((a.2.2.1.getD 0 0) > (4096 : Int))) = true then K ((false, ([] : List Int), ([] : List Int)), (3 : Int)) else (if 0 ≤ (0 : Int) ∧ (0 : Int) < (a.2.2.1.length : Int) then (nat_Power.c _ (a.1.2.1, (IntKind.i64.wrap (a.2.2.1.getD 0 0)), (128 : Int)) fun t63 => (if 0 ≤ (0 : Int) ∧ (0 : Int) < (a.2.2.1.length : Int) then (nat_Power.c _ (a.1.2.2, (IntKind.i64.wrap (a.2.2.1.getD 0 0)), (128 : Int)) fun t64 => (if (!t63.2) = false then (if (!t64.2) = true then K ((false, ([] : List Int), ([] : List Int)), (3 : Int)) else (if a.2.1 = true then (if a.1.1 = true then (number_made.c _ (false, t64.1, t63.1) fun t65 => K ((t65.1.1, t65.1.2.1, t65.1.2.2), t65.2)) else (number_made.c _ (false, t64.1, t63.1) fun t66 => K ((t66.1.1, t66.1.2.1, t66.1.2.2), t66.2))) else (if a.1.1 = true then (number_made.c _ (false, t63.1, t64.1) fun t67 => K ((t67.1.1, t67.1.2.1, t67.1.2.2), t67.2)) else (number_made.c _ (false, t63.1, t64.1) fun t68 => K ((t68.1.1, t68.1.2.1, t68.1.2.2), t68.2))))) else K ((false, ([] : List Int), ([] : List Int)), (3 : Int)))) else none)) else none)) else none) else K ((false, ([] : List Int), ([] : List Int)), (3 : Int))))) else (if (decide ((a.2.2.1.length : Int) > (1 : Int))) = false then (if 0 ≤ (0 : Int) ∧ (0 : Int) < (a.2.2.1.length : Int) then (if (decide ((a.2.2.1.getD 0 0) > (4096 : Int))) = true then K ((false, ([] : List Int), ([] : List Int)), (3 : Int)) else (if 0 ≤ (0 : Int) ∧ (0 : Int) < (a.2.2.1.length : Int) then (nat_Power.c _ (a.1.2.1, (IntKind.i64.wrap (a.2.2.1.getD 0 0)), (128 : Int)) fun t69 => (if 0 ≤ (0 : Int) ∧ (0 : Int) < (a.2.2.1.length : Int) then (nat_Power.c _ (a.1.2.2, (IntKind.i64.wrap (a.2.2.1.getD 0 0)), (128 : Int)) fun t70 => (if (!t69.2) = false then (if (!t70.2) = true then K ((false, ([] : List Int), ([] : List Int)), (3 : Int)) else (if a.2.1 = true then (if a.1.1 = true then (number_made.c _ (false, t70.1, t69.1) fun t71 => K ((t71.1.1, t71.1.2.1, t71.1.2.2), t71.2)) else (number_made.c _ (false, t70.1, t69.1) fun t72 => K ((t72.1.1, t72.1.2.1, t72.1.2.2), t72.2))) else (if a.1.1 = true then (number_made.c _ (false, t69.1, t70.1) fun t73 => K ((t73.1.1, t73.1.2.1, t73.1.2.2), t73.2)) else (number_made.c _ (false, t69.1, t70.1) fun t74 => K ((t74.1.1, t74.1.2.1, t74.1.2.2), t74.2))))) else K ((false, ([] : List Int), ([] : List Int)), (3 : Int)))) else none)) else none)) else none) else K ((false, ([] : List Int), ([] : List Int)), (3 : Int))))) else (if a.1.1 = true then (number_made.c _ (false, a.1.2.1, a.1.2.2) fun t75 => K ((t75.1.1, t75.1.2.1, t75.1.2.2), t75.2)) else (number_made.c _ (false, a.1.2.1, a.1.2.2) fun t76 => K ((t76.1.1, t76.1.2.1, t76.1.2.2), t76.2)))))))))))
noncomputable def number_Power.T (g61 : CF ((Bool × List Int × List Int × Bool × List Int × List Int)) (Int)) (g43 : CF (List Int) (Bool)) (g31 : CF (Int) (Nm)) (g54 : CF (Bool × List Int × List Int) ((Nm × Int))) (g88 : CF (List Int × Int × Int) ((List Int × Bool))) : List (Nat × Fun) := [(31, mk (one iI) kN g31), (43, mk (one rU) cb g43), (54, mk (more cb (more rU (one rU))) kE g54), (61, mk (one (arr 3 (more cb (more rU (more rU (more cb (more rU (one rU)))))))) iI g61), (88, mk (more rU (more iI (one iI))) (tup (more rU (one cb))) g88)]
theorem number_Power.tok : TOk Tryd.prog (tb (number_Power.T number_check2.c nat_IsOne.c number_FromInt.c number_made.c nat_Power.c)) := (tb_cons number_FromInt.ok (tb_cons nat_IsOne.ok (tb_cons number_made.ok (tb_cons number_check2.ok (tb_cons nat_Power.ok tb_nil)))))
set_option maxRecDepth 100000 in
theorem number_Power.ex0 (g61 : CF ((Bool × List Int × List Int × Bool × List Int × List Int)) (Int)) (g43 : CF (List Int) (Bool)) (g31 : CF (Int) (Nm)) (g54 : CF (Bool × List Int × List Int) ((Nm × Int))) (g88 : CF (List Int × Int × Int) ((List Int × Bool))) (R : Type) (a : Nm × Nm) (K : ((Nm × Int)) → Option R) : execFn' Tryd.prog (tb (number_Power.T g61 g43 g31 g54 g88)) 60 Tryd.f36 R ((more kN (one kN)).enc a) (dk kE K) = (g61 _ (a.1.1, a.1.2.1, a.1.2.2, a.2.1, a.2.2.1, a.2.2.2) fun t1 => (if (t1 != (0 : Int)) = true then K ((false, ([] : List Int), ([] : List Int)), t1) else (g43 _ a.2.2.2 fun t2 => (if (!t2) = true then K ((false, ([] : List Int), ([] : List Int)), (7 : Int)) else (if (decide ((a.2.2.1.length : Int) > (0 : Int))) = true then (if 0 ≤ (0 : Int) ∧ (0 : Int) < (a.2.2.1.length : Int) then (if ((a.2.2.1.length : Int) == (0 : Int)) = true then (g31 _ (1 : Int) fun t3 => K ((t3.1, t3.2.1, t3.2.2), (0 : Int))) else (if ((a.1.2.1.length : Int) == (0 : Int)) = true then (if a.2.1 = true then K ((false, ([] : List Int), ([] : List Int)), (10 : Int)) else (if ((a.1.2.1.length : Int) == (0 : Int)) = false then (g43 _ a.1.2.1 fun t4 => (if t4 = true then (g43 _ a.1.2.2 fun t5 => (if t5 = true then (if a.1.1 = true then (g54 _ (((IntKind.u32.wrap (((BitVec.ofInt 32 (a.2.2.1.getD 0 0)) &&& (BitVec.ofInt 32 (1 : Int))).toNat : Int)) == (1 : Int)), a.1.2.1, a.1.2.2) fun t6 => K ((t6.1.1, t6.1.2.1, t6.1.2.2), t6.2)) else (g54 _ (false, a.1.2.1, a.1.2.2) fun t7 => K ((t7.1.1, t7.1.2.1, t7.1.2.2), t7.2))) else (if (decide ((a.2.2.1.length : Int) > (1 : Int))) = false then (if 0 ≤ (0 : Int) ∧ (0 : Int) < (a.2.2.1.length : Int) then (if (decide ((a.2.2.1.getD 0 0) > (4096 : Int))) = true then K ((false, ([] : List Int), ([] : List Int)), (3 : Int)) else (if 0 ≤ (0 : Int) ∧ (0 : Int) < (a.2.2.1.length : Int) then (g88 _ (a.1.2.1, (IntKind.i64.wrap (a.2.2.1.getD 0 0)), (128 : Int)) fun t8 => (if 0 ≤ (0 : Int) ∧ (0 : Int) < (a.2.2.1.length : Int) then (g88 _ (a.1.2.2, (IntKind.i64.wrap (a.2.2.1.getD 0 0)), (128 : Int)) fun t9 => (if (!t8.2) = false then (if (!t9.2) = true then K ((false, ([] : List Int), ([] : List Int)), (3 : Int)) else (if a.2.1 = true then (if a.1.1 = true then (g54 _ (((IntKind.u32.wrap (((BitVec.ofInt 32 (a.2.2.1.getD 0 0)) &&& (BitVec.ofInt 32 (1 : Int))).toNat : Int)) == (1 : Int)), t9.1, t8.1) fun t10 => K ((t10.1.1, t10.1.2.1, t10.1.2.2), t10.2)) else (g54 _ (false, t9.1, t8.1) fun t11 => K ((t11.1.1, t11.1.2.1, t11.1.2.2), t11.2))) else (if a.1.1 = true then (g54 _ (((IntKind.u32.wrap (((BitVec.ofInt 32 (a.2.2.1.getD 0 0)) &&& (BitVec.ofInt 32 (1 : Int))).toNat : Int)) == (1 : Int)), t8.1, t9.1) fun t12 => K ((t12.1.1, t12.1.2.1, t12.1.2.2), t12.2)) else (g54 _ (false, t8.1, t9.1) fun t13 => K ((t13.1.1, t13.1.2.1, t13.1.2.2), t13.2))))) else K ((false, ([] : List Int), ([] : List Int)), (3 : Int)))) else none)) else none)) else none) else K ((false, ([] : List Int), ([] : List Int)), (3 : Int))))) else (if (decide ((a.2.2.1.length : Int) > (1 : Int))) = false then (if 0 ≤ (0 : Int) ∧ (0 : Int) < (a.2.2.1.length : Int) then (if (decide ((a.2.2.1.getD 0 0) > (4096 : Int))) = true then K ((false, ([] : List Int), ([] : List Int)), (3 : Int)) else (if 0 ≤ (0 : Int) ∧ (0 : Int) < (a.2.2.1.length : Int) then (g88 _ (a.1.2.1, (IntKind.i64.wrap (a.2.2.1.getD 0 0)), (128 : Int)) fun t14 => (if 0 ≤ (0 : Int) ∧ (0 : Int) < (a.2.2.1.length : Int) then (g88 _ (a.1.2.2, (IntKind.i64.wrap (a.2.2.1.getD 0 0)), (128 : Int)) fun t15 => (if (!t14.2) = false then (if (!t15.2) = true then K ((false, ([] : List Int), ([] : List Int)), (3 : Int)) else (if a.2.1 = true then (if a.1.1 = true then (g54 _ (((IntKind.u32.wrap (((BitVec.ofInt 32 (a.2.2.1.getD 0 0)) &&& (BitVec.ofInt 32 (1 : Int))).toNat : Int)) == (1 : Int)), t15.1, t14.1) fun t16 => K ((t16.1.1, t16.1.2.1, t16.1.2.2), t16.2)) else (g54 _ (false, t15.1, t14.1) fun t17 => K ((t17.1.1, t17.1.2.1, t17.1.2.2), t17.2))) else (if a.1.1 = true then (g54 _ (((IntKind.u32.wrap (((BitVec.ofInt 32 (a.2.2.1.getD 0 0)) &&& (BitVec.ofInt 32 (1 : Int))).toNat : Int)) == (1 : Int)), t14.1, t15.1) fun t18 => K ((t18.1.1, t18.1.2.1, t18.1.2.2), t18.2)) else (g54 _ (false, t14.1, t15.1) fun t19 => K ((t19.1.1, t19.1.2.1, t19.1.2.2), t19.2))))) else K ((false, ([] : List Int), ([] : List Int)), (3 : Int)))) else none)) else none)) else none) else K ((false, ([] : List Int), ([] : List Int)), (3 : Int))))) else (if a.1.1 = true then (g54 _ (((IntKind.u32.wrap (((BitVec.ofInt 32 (a.2.2.1.getD 0 0)) &&& (BitVec.ofInt 32 (1 : Int))).toNat : Int)) == (1 : Int)), a.1.2.1, a.1.2.2) fun t20 => K ((t20.1.1, t20.1.2.1, t20.1.2.2), t20.2)) else (g54 _ (false, a.1.2.1, a.1.2.2) fun t21 => K ((t21.1.1, t21.1.2.1, t21.1.2.2), t21.2))))) else (if ((a.1.2.1.length : Int) == (0 : Int)) = false then (g43 _ a.1.2.1 fun t22 => (if t22 = true then (g43 _ a.1.2.2 fun t23 => (if t23 = true then (if a.1.1 = true then (g54 _ (((IntKind.u32.wrap (((BitVec.ofInt 32 (a.2.2.1.getD 0 0)) &&& (BitVec.ofInt 32 (1 : Int))).toNat : Int)) == (1 : Int)), a.1.2.1, a.1.2.2) fun t24 => K ((t24.1.1, t24.1.2.1, t24.1.2.2), t24.2)) else (g54 _ (false, a.1.2.1, a.1.2.2) fun t25 => K ((t25.1.1, t25.1.2.1, t25.1.2.2), t25.2))) else (if (decide ((a.2.2.1.length : Int) > (1 : Int))) = false then (if 0 ≤ (0 : Int) ∧ (0 : Int) < (a.2.2.1.length : Int) then (if (decide ((a.2.2.1.getD 0 0) > (4096 : Int))) = true then K ((false, ([] : List Int), ([] : List Int)), (3 : Int)) else (if 0 ≤ (0 : Int) ∧ (0 : Int) < (a.2.2.1.length : Int) then (g88 _ (a.1.2.1, (IntKind.i64.wrap (a.2.2.1.getD 0 0)), (128 : Int)) fun t26 => (if 0 ≤ (0 : Int) ∧ (0 : Int) < (a.2.2.1.length : Int) then (g88 _ (a.1.2.2, (IntKind.i64.wrap (a.2.2.1.getD 0 0)), (128 : Int)) fun t27 => (if (!t26.2) = false then (if (!t27.2) = true then K ((false, ([] : List Int), ([] : List Int)), (3 : Int)) else (if a.2.1 = true then (if a.1.1 = true then (g54 _ (((IntKind.u32.wrap (((BitVec.ofInt 32 (a.2.2.1.getD 0 0)) &&& (BitVec.ofInt 32 (1 : Int))).toNat : Int)) == (1 : Int)), t27.1, t26.1) fun t28 => K ((t28.1.1, t28.1.2.1, t28.1.2.2), t28.2)) else (g54 _ (false, t27.1, t26.1) fun t29 => K ((t29.1.1, t29.1.2.1, t29.1.2.2), t29.2))) else (if a.1.1 = true then (g54 _ (((IntKind.u32.wrap (((BitVec.ofInt 32 (a.2.2.1.getD 0 0)) &&& (BitVec.ofInt 32 (1 : Int))).toNat : Int)) == (1 : Int)), t26.1, t27.1) fun t30 => K ((t30.1.1, t30.1.2.1, t30.1.2.2), t30.2)) else (g54 _ (false, t26.1, t27.1) fun t31 => K ((t31.1.1, t31.1.2.1, t31.1.2.2), t31.2))))) else K ((false, ([] : List Int), ([] : List Int)), (3 : Int)))) else none)) else none)) else none) else K ((false, ([] : List Int), ([] : List Int)), (3 : Int))))) else (if (decide ((a.2.2.1.length : Int) > (1 : Int))) = false then (if 0 ≤ (0 : Int) ∧ (0 : Int) < (a.2.2.1.length : Int) then (if (decide ((a.2.2.1.getD 0 0) > (4096 : Int))) = true then K ((false, ([] : List Int), ([] : List Int)), (3 : Int)) else (if 0 ≤ (0 : Int) ∧ (0 : Int) < (a.2.2.1.length : Int) then (g88 _ (a.1.2.1, (IntKind.i64.wrap (a.2.2.1.getD 0 0)), (128 : Int)) fun t32 => (if 0 ≤ (0 : Int) ∧ (0 : Int) < (a.2.2.1.length : Int) then (g88 _ (a.1.2.2, (IntKind.i64.wrap (a.2.2.1.getD 0 0)), (128 : Int)) fun t33 => (if (!t32.2) = false then (if (!t33.2) = true then K ((false, ([] : List Int), ([] : List Int)), (3 : Int)) else (if a.2.1 = true then (if a.1.1 = true then (g54 _ (((IntKind.u32.wrap (((BitVec.ofInt 32 (a.2.2.1.getD 0 0)) &&& (BitVec.ofInt 32 (1 : Int))).toNat : Int)) == (1 : Int)), t33.1, t32.1) fun t34 => K ((t34.1.1, t34.1.2.1, t34.1.2.2), t34.2)) else (g54 _ (false, t33.1, t32.1) fun t35 => K ((t35.1.1, t35.1.2.1, t35.1.2.2), t35.2))) else (if a.1.1 = true then (g54 _ (((IntKind.u32.wrap (((BitVec.ofInt 32 (a.2.2.1.getD 0 0)) &&& (BitVec.ofInt 32 (1 : Int))).toNat : Int)) == (1 : Int)), t32.1, t33.1) fun t36 => K ((t36.1.1, t36.1.2.1, t36.1.2.2), t36.2)) else (g54 _ (false, t32.1, t33.1) fun t37 => K ((t37.1.1, t37.1.2.1, t37.1.2.2), t37.2))))) else K ((false, ([] : List Int), ([] : List Int)), (3 : Int)))) else none)) else none)) else none) else K ((false, ([] : List Int), ([] : List Int)), (3 : Int))))) else (if a.1.1 = true then (g54 _ (((IntKind.u32.wrap (((BitVec.ofInt 32 (a.2.2.1.getD 0 0)) &&& (BitVec.ofInt 32 (1 : Int))).toNat : Int)) == (1 : Int)), a.1.2.1, a.1.2.2) fun t38 => K ((t38.1.1, t38.1.2.1, t38.1.2.2), t38.2)) else (g54 _ (false, a.1.2.1, a.1.2.2) fun t39 => K ((t39.1.1, t39.1.2.1, t39.1.2.2), t39.2)))))) else none) else (if ((a.2.2.1.length : Int) == (0 : Int)) = true then (g31 _ (1 : Int) fun t40 => K ((t40.1, t40.2.1, t40.2.2), (0 : Int))) else (if ((a.1.2.1.length : Int) == (0 : Int)) = true then (if a.2.1 = true then K ((false, ([] : List Int), ([] : List Int)), (10 : Int)) else (if ((a.1.2.1.length : Int) == (0 : Int)) = false then (g43 _ a.1.2.1 fun t41 => (if t41 = true then (g43 _ a.1.2.2 fun t42 => (if t42 = true then (if a.1.1 = true then (g54 _ (false, a.1.2.1, a.1.2.2) fun t43 => K ((t43.1.1, t43.1.2.1, t43.1.2.2), t43.2)) else (g54 _ (false, a.1.2.1, a.1.2.2) fun t44 => K ((t44.1.1, t44.1.2.1, t44.1.2.2), t44.2))) else (if (decide ((a.2.2.1.length : Int) > (1 : Int))) = false then (if 0 ≤ (0 : Int) ∧ (0 : Int) < (a.2.2.1.length : Int) then (if (decide ((a.2.2.1.getD 0 0) > (4096 : Int))) = true then K ((false, ([] : List Int), ([] : List Int)), (3 : Int)) else (if 0 ≤ (0 : Int) ∧ (0 : Int) < (a.2.2.1.length : Int) then (g88 _ (a.1.2.1, (IntKind.i64.wrap (a.2.2.1.getD 0 0)), (128 : Int)) fun t45 => (if 0 ≤ (0 : Int) ∧ (0 : Int) < (a.2.2.1.length : Int) then (g88 _ (a.1.2.2, (IntKind.i64.wrap (a.2.2.1.getD 0 0)), (128 : Int)) fun t46 => (if (!t45.2) = false then (if (!t46.2) = true then K ((false, ([] : List Int), ([] : List Int)), (3 : Int)) else (if a.2.1 = true then (if a.1.1 = true then (g54 _ (false, t46.1, t45.1) fun t47 => K ((t47.1.1, t47.1.2.1, t47.1.2.2), t47.2)) else (g54 _ (false, t46.1, t45.1) fun t48 => K ((t48.1.1, t48.1.2.1, t48.1.2.2), t48.2))) else (if a.1.1 = true then (g54 _ (false, t45.1, t46.1) fun t49 => K ((t49.1.1, t49.1.2.1, t49.1.2.2), t49.2)) else (g54 _ (false, t45.1, t46.1) fun t50 => K ((t50.1.1, t50.1.2.1, t50.1.2.2), t50.2))))) else K ((false, ([] : List Int), ([] : List Int)), (3 : Int)))) else none)) else none)) else none) else K ((false, ([] : List Int), ([] : List Int)), (3 : Int))))) else (if (decide ((a.2.2.1.length : Int) > (1 : Int))) = false then (if 0 ≤ (0 : Int) ∧ (0 : Int) < (a.2.2.1.length : Int) then (if (decide ((a.2.2.1.getD 0 0) > (4096 : Int))) = true then K ((false, ([] : List Int), ([] : List Int)), (3 : Int)) else (if 0 ≤ (0 : Int) ∧ (0 : Int) < (a.2.2.1.length : Int) then (g88 _ (a.1.2.1, (IntKind.i64.wrap (a.2.2.1.getD 0 0)), (128 : Int)) fun t51 => (if 0 ≤ (0 : Int) ∧ (0 : Int) < (a.2.2.1.length : Int) then (g88 _ (a.1.2.2, (IntKind.i64.wrap (a.2.2.1.getD 0 0)), (128 : Int)) fun t52 => (if (!t51.2) = false then (if (!t52.2) = true then K ((false, ([] : List Int), ([] : List Int)), (3 : Int)) else (if a.2.1 = true then (if a.1.1 = true then (g54 _ (false, t52.1, t51.1) fun t53 => K ((t53.1.1, t53.1.2.1, t53.1.2.2), t53.2)) else (g54 _ (false, t52.1, t51.1) fun t54 => K ((t54.1.1, t54.1.2.1, t54.1.2.2), t54.2))) else (if a.1.1 = true then (g54 _ (false, t51.1, t52.1) fun t55 => K ((t55.1.1, t55.1.2.1, t55.1.2.2), t55.2)) else (g54 _ (false, t51.1, t52.1) fun t56 => K ((t56.1.1, t56.1.2.1, t56.1.2.2), t56.2))))) else K ((false, ([] : List Int), ([] : List Int)), (3 : Int)))) else none)) else none)) else none) else K ((false, ([] : List Int), ([] : List Int)), (3 : Int))))) else (if a.1.1 = true then (g54 _ (false, a.1.2.1, a.1.2.2) fun t57 => K ((t57.1.1, t57.1.2.1, t57.1.2.2), t57.2)) else (g54 _ (false, a.1.2.1, a.1.2.2) fun t58 => K ((t58.1.1, t58.1.2.1, t58.1.2.2), t58.2))))) else (if ((a.1.2.1.length : Int) == (0 : Int)) = false then (g43 _ a.1.2.1 fun t59 => (if t59 = true then (g43 _ a.1.2.2 fun t60 => (if t60 = true then (if a.1.1 = true then (g54 _ (false, a.1.2.1, a.1.2.2) fun t61 => K ((t61.1.1, t61.1.2.1, t61.1.2.2), t61.2)) else (g54 _ (false, a.1.2.1, a.1.2.2) fun t62 => K ((t62.1.1, t62.1.2.1, t62.1.2.2), t62.2))) else (if (decide ((a.2.2.1.length : Int) > (1 : Int))) = false then (if 0 ≤ (0 : Int) ∧ (0 : Int) < (a.2.2.1.length : Int) then (if (decide ((a.2.2.1.getD 0 0) > (4096 : Int))) = true then K ((false, ([] : List Int), ([] : List Int)), (3 : Int)) else (if 0 ≤ (0 : Int) ∧ (0 : Int) < (a.2.2.1.length : Int) then (g88 _ (a.1.2.1, (IntKind.i64.wrap (a.2.2.1.getD 0 0)), (128 : Int)) fun t63 => (if 0 ≤ (0 : Int) ∧ (0 : Int) < (a.2.2.1.length : Int) then (g88 _ (a.1.2.2, (IntKind.i64.wrap (a.2.2.1.getD 0 0)), (128 : Int)) fun t64 => (if (!t63.2) = false then (if (!t64.2) = true then K ((false, ([] : List Int), ([] : List Int)), (3 : Int)) else (if a.2.1 = true then (if a.1.1 = true then (g54 _ (false, t64.1, t63.1) fun t65 => K ((t65.1.1, t65.1.2.1, t65.1.2.2), t65.2)) else (g54 _ (false, t64.1, t63.1) fun t66 => K ((t66.1.1, t66.1.2.1, t66.1.2.2), t66.2))) else (if a.1.1 = true then (g54 _ (false, t63.1, t64.1) fun t67 => K ((t67.1.1, t67.1.2.1, t67.1.2.2), t67.2)) else (g54 _ (false, t63.1, t64.1) fun t68 => K ((t68.1.1, t68.1.2.1, t68.1.2.2), t68.2))))) else K ((false, ([] : List Int), ([] : List Int)), (3 : Int)))) else none)) else none)) else none) else K ((false, ([] : List Int), ([] : List Int)), (3 : Int))))) else (if (decide ((a.2.2.1.length : Int) > (1 : Int))) = false then (if 0 ≤ (0 : Int) ∧ (0 : Int) < (a.2.2.1.length : Int) then (if (decide ((a.2.2.1.getD 0 0) > (4096 : Int))) = true then K ((false, ([] : List Int), ([] : List Int)), (3 : Int)) else (if 0 ≤ (0 : Int) ∧ (0 : Int) < (a.2.2.1.length : Int) then (g88 _ (a.1.2.1, (IntKind.i64.wrap (a.2.2.1.getD 0 0)), (128 : Int)) fun t69 => (if 0 ≤ (0 : Int) ∧ (0 : Int) < (a.2.2.1.length : Int) then (g88 _ (a.1.2.2, (IntKind.i64.wrap (a.2.2.1.getD 0 0)), (128 : Int)) fun t70 => (if (!t69.2) = false then (if (!t70.2) = true then K ((false, ([] : List Int), ([] : List Int)), (3 : Int)) else (if a.2.1 = true then (if a.1.1 = true then (g54 _ (false, t70.1, t69.1) fun t71 => K ((t71.1.1, t71.1.2.1, t71.1.2.2), t71.2)) else (g54 _ (false, t70.1, t69.1) fun t72 => K ((t72.1.1, t72.1.2.1, t72.1.2.2), t72.2))) else (if a.1.1 = true then (g54 _ (false, t69.1, t70.1) fun t73 => K ((t73.1.1, t73.1.2.1, t73.1.2.2), t73.2)) else (g54 _ (false, t69.1, t70.1) fun t74 => K ((t74.1.1, t74.1.2.1, t74.1.2.2), t74.2))))) else K ((false, ([] : List Int), ([] : List Int)), (3 : Int)))) else none)) else none)) else none) else K ((false, ([] : List Int), ([] : List Int)), (3 : Int))))) else (if a.1.1 = true then (g54 _ (false, a.1.2.1, a.1.2.2) fun t75 => K ((t75.1.1, t75.1.2.1, t75.1.2.2), t75.2)) else (g54 _ (false, a.1.2.1, a.1.2.2) fun t76 => K ((t76.1.1, t76.1.2.1, t76.1.2.2), t76.2))))))))))) := by kernel_rfl
theorem number_Power.sh : Shown Tryd.prog 36 (more kN (one kN)).enc kE number_Power.c := exec_shown number_Power.tok mixed Tryd.func36 (by kernel_rfl) (number_Power.ex0 number_check2.c nat_IsOne.c number_FromInt.c number_made.c nat_Power.c)
theorem number_Power.ok : FunOk Tryd.prog 36 (mk (more kN (one kN)) kE number_Power.c) := number_Power.sh.ok (by kernel_rfl)
theorem FromInt_c (k : Int) (h0 : -100 ≤ k) (h1 : k ≤ 100) : ∃ l, (∀ (R : Type) (K : Nm → Option R), number_FromInt.c R k K = K (decide (k < 0), l, [1])) ∧ Lim 4294967296 l ∧ (k = 0 → l = []) ∧ (k ≠ 0 → l = [(k.natAbs : Int)]) := by
  obtain ⟨r, r1, r2, r3, r4, r5⟩ := Of_ev (k.natAbs : Int) (by omega) (by omega)
  obtain ⟨p, q, e1, p1, p2, q1, q2, p3, q3⟩ := raw_c (decide (k < 0)) r [1] r2 r3 one_rep.1 one_rep.2.1 (by decide) (by omega) (by decide)
  have g1 : Nat.gcd (val 4294967296 r).toNat (val 4294967296 [1]).toNat = 1 := by rw [one_rep.2.2]; exact Nat.gcd_one_right _
  rw [g1] at p3 q3
  have c1 : ((1 : Nat) : Int) = 1 := rfl
  rw [c1, Int.ediv_one] at p3 q3
  have ep : p = r := val_inj (by decide) p1 r2 p2 r3 p3
  have eq : q = [1] := (eq_one (show (1 : Int) < 4294967296 by decide) q1 q2).1 (by rw [q3]; exact one_rep.2.2)
  subst ep eq
  have hz : k = 0 → p = [] := fun h => (val_eq_zero (show (0 : Int) < 4294967296 by decide) p1 p2).1 (by rw [r4, h]; rfl)
  have hn : k ≠ 0 → p = [(k.natAbs : Int)] := by
    intro h
    refine val_inj (show (0 : Int) < 4294967296 by decide) p1 (fun x hx => by rw [List.mem_singleton] at hx; omega) p2 ?_ (by rw [r4]; simp [val])
    have : ([(k.natAbs : Int)] : List Int) = [] ++ [(k.natAbs : Int)] := rfl
    rw [this, nrm_snoc]
    omega
  refine ⟨p, fun R K => ?_, p1, hz, hn⟩
  have hs : (decide (k < 0) && decide (p ≠ [])) = decide (k < 0) := by
    by_cases c : k < 0
    · rw [hn (by omega)]; simp
    · simp [c]
  rw [hs] at e1
  unfold number_FromInt.c
  by_cases c : k < 0
  · refine (if_pos (decide_eq_true c)).trans ?_
    have hw : IntKind.u64.wrap (0 - IntKind.u64.wrap k) = (k.natAbs : Int) := by rw [u64w, u64w]; omega
    rw [hw]
    refine (nat_Of.eq r1 _).trans ?_
    exact e1 R K
  · refine (if_neg (by simpa using c)).trans ?_
    have hw : IntKind.u64.wrap k = (k.natAbs : Int) := by rw [u64w]; omega
    rw [hw]
    refine (nat_Of.eq r1 _).trans ?_
    exact e1 R K
def pN (A B : Int) (k : Int) : Int := if k < 0 then B ^ k.natAbs else A ^ k.natAbs
def pD (A B : Int) (k : Int) : Int := if k < 0 then A ^ k.natAbs else B ^ k.natAbs
def pS (na : Bool) (k : Int) : Bool := na && decide (k.natAbs % 2 = 1)
theorem u32w' (n : Int) : IntKind.u32.wrap n = n % 4294967296 := by simp [IntKind.wrap, IntKind.bits, IntKind.signed]
theorem odd_bit (e : Nat) (he : e < 4294967296) : (IntKind.u32.wrap (((BitVec.ofInt 32 (e : Int)) &&& (BitVec.ofInt 32 (1 : Int))).toNat : Int) == (1 : Int)) = decide (e % 2 = 1) := by
  have h1 : (BitVec.ofInt 32 (e : Int)).toNat = e := by
    rw [BitVec.toNat_ofInt]
    omega
  have h2 : ((BitVec.ofInt 32 (e : Int)) &&& (BitVec.ofInt 32 (1 : Int))).toNat = e % 2 := by
    rw [BitVec.toNat_and, h1]
    exact Nat.and_one_is_mod e
  rw [h2]
  have h3 : IntKind.u32.wrap ((e % 2 : Nat) : Int) = ((e % 2 : Nat) : Int) := by
    rw [u32w']
    omega
  rw [h3]
  rcases Nat.mod_two_eq_zero_or_one e with h | h <;> rw [h] <;> rfl
theorem gcd_pow1 {A B : Int} (hA : 0 ≤ A) (hB : 0 ≤ B) (h : Nat.gcd A.toNat B.toNat = 1) (e : Nat) : Nat.gcd (A ^ e).toNat (B ^ e).toNat = 1 := by
  obtain ⟨a, rfl⟩ := Int.eq_ofNat_of_zero_le hA
  obtain ⟨b, rfl⟩ := Int.eq_ofNat_of_zero_le hB
  rw [Int.toNat_natCast, Int.toNat_natCast] at h
  rw [← Int.natCast_pow, ← Int.natCast_pow, Int.toNat_natCast, Int.toNat_natCast]
  exact Nat.Coprime.pow e e h
theorem made_exact {s : Bool} {x y : List Int} (hx : Lim 4294967296 x) (nx : Nrm x) (hy : Lim 4294967296 y) (ny : Nrm y) (y0 : y ≠ []) (x0 : x ≠ []) (lx : x.length ≤ 128) (ly : y.length ≤ 128) (g : Nat.gcd (val 4294967296 x).toNat (val 4294967296 y).toNat = 1) :
    (∀ (R : Type) (K : (Nm × Int) → Option R), number_made.c R (s, x, y) K = K ((s, x, y), 0)) ∧ Rep s x y (sgn s (val 4294967296 x)) (val 4294967296 y) := by
  have hr : Rep s x y (sgn s (val 4294967296 x)) (val 4294967296 y) := ⟨hx, nx, hy, ny, y0, g, fun h => absurd h x0, rfl⟩
  obtain ⟨m, p, q, m1, m2⟩ := made_c s x y hx nx hy ny y0 (by omega) (by omega)
  obtain ⟨rfl, rfl, rfl⟩ := m2.unique (by decide) hr (by have := hr.pos (by decide); omega)
  refine ⟨fun R K => ?_, hr⟩
  rw [m1]
  unfold outM
  rw [if_neg (by omega)]
noncomputable def PTail0 (R : Type) (na : Bool) (a da : List Int) (nb : Bool) (b : List Int) (K : (Nm × Int) → Option R) : Option R :=
  (if (decide ((b.length : Int) > (1 : Int))) = false then (if 0 ≤ (0 : Int) ∧ (0 : Int) < (b.length : Int) then (if (decide ((b.getD 0 0) > (4096 : Int))) = true then K ((false, ([] : List Int), ([] : List Int)), (3 : Int)) else (if 0 ≤ (0 : Int) ∧ (0 : Int) < (b.length : Int) then (nat_Power.c R (a, (IntKind.i64.wrap (b.getD 0 0)), (128 : Int)) fun t32 => (if 0 ≤ (0 : Int) ∧ (0 : Int) < (b.length : Int) then (nat_Power.c R (da, (IntKind.i64.wrap (b.getD 0 0)), (128 : Int)) fun t33 => (if (!t32.2) = false then (if (!t33.2) = true then K ((false, ([] : List Int), ([] : List Int)), (3 : Int)) else (if nb = true then (if na = true then (number_made.c R (((IntKind.u32.wrap (((BitVec.ofInt 32 (b.getD 0 0)) &&& (BitVec.ofInt 32 (1 : Int))).toNat : Int)) == (1 : Int)), t33.1, t32.1) fun t34 => K ((t34.1.1, t34.1.2.1, t34.1.2.2), t34.2)) else (number_made.c R (false, t33.1, t32.1) fun t35 => K ((t35.1.1, t35.1.2.1, t35.1.2.2), t35.2))) else (if na = true then (number_made.c R (((IntKind.u32.wrap (((BitVec.ofInt 32 (b.getD 0 0)) &&& (BitVec.ofInt 32 (1 : Int))).toNat : Int)) == (1 : Int)), t32.1, t33.1) fun t36 => K ((t36.1.1, t36.1.2.1, t36.1.2.2), t36.2)) else (number_made.c R (false, t32.1, t33.1) fun t37 => K ((t37.1.1, t37.1.2.1, t37.1.2.2), t37.2))))) else K ((false, ([] : List Int), ([] : List Int)), (3 : Int)))) else none)) else none)) else none) else K ((false, ([] : List Int), ([] : List Int)), (3 : Int)))
theorem Power_bad (na : Bool) (a da : List Int) (nb : Bool) (b : List Int) (ha : Lim 4294967296 a) (hda : Lim 4294967296 da) (hb : Lim 4294967296 b) (cb : Can nb b [1]) (h : fault na a da ≠ 0) {R : Type} (K : (Nm × Int) → Option R) : number_Power.c R ((na, a, da), (nb, b, [1])) K = K (bad (fault na a da)) := by
  unfold number_Power.c
  refine (check2_c na a da nb b [1] ha hda hb one_rep.1 _).trans ?_
  rw [if_neg h]
  exact if_pos (by simpa using h)
theorem exp_can (k : Int) (h0 : -100 ≤ k) (h1 : k ≤ 100) (l : List Int) (l2 : k = 0 → l = []) (l3 : k ≠ 0 → l = [(k.natAbs : Int)]) : Can (decide (k < 0)) l [1] := by
  by_cases c : k = 0
  · rw [l2 c]
    exact ⟨by decide, by decide, nrm_nil, one_nrm, by decide, fun _ => by simp [c], by rw [one_rep.2.2]; exact Nat.gcd_one_right _⟩
  · rw [l3 c]
    have hn : Nrm [(k.natAbs : Int)] := by
      have : ([(k.natAbs : Int)] : List Int) = [] ++ [(k.natAbs : Int)] := rfl
      rw [this, nrm_snoc]
      omega
    exact ⟨by simp, by decide, hn, one_nrm, by decide, fun h => by simp at h, by rw [one_rep.2.2]; exact Nat.gcd_one_right _⟩
theorem Power_c {na : Bool} {a da : List Int} (ha : Lim 4294967296 a) (hda : Lim 4294967296 da) (ca : Can na a da) (a0 : a ≠ []) (k : Int) (h0 : -100 ≤ k) (h1 : k ≤ 100) (l : List Int) (hl : Lim 4294967296 l) (l2 : k = 0 → l = []) (l3 : k ≠ 0 → l = [(k.natAbs : Int)]) :
    (∃ p q, (∀ (R : Type) (K : (Nm × Int) → Option R), number_Power.c R ((na, a, da), (decide (k < 0), l, [1])) K = K ((pS na k, p, q), 0)) ∧ Rep (pS na k) p q (sgn (pS na k) (pN (val 4294967296 a) (val 4294967296 da) k)) (pD (val 4294967296 a) (val 4294967296 da) k) ∧ p.length ≤ 128 ∧ q.length ≤ 128) ∨
    ((∀ (R : Type) (K : (Nm × Int) → Option R), number_Power.c R ((na, a, da), (decide (k < 0), l, [1])) K = K (bad 3)) ∧ ¬ (pN (val 4294967296 a) (val 4294967296 da) k < 2 ^ 4096 ∧ pD (val 4294967296 a) (val 4294967296 da) k < 2 ^ 4096)) := by
  have hB : (0 : Int) < 4294967296 := by decide
  have la := ca.ln
  have lda := ca.ld
  have va := val_pos hB ha ca.nn a0
  have vd := ca.pos hda
  have cb := exp_can k h0 h1 l l2 l3
  have hchk : ∀ {R : Type} (K : Int → Option R), number_check2.c R (na, a, da, decide (k < 0), l, [1]) K = K 0 := fun K => check2_ok ha hda hl one_rep.1 ca cb K
  by_cases hk : k = 0
  · subst hk
    rw [l2 rfl] at *
    refine .inl ⟨[1], [1], fun R K => ?_, ?_, by decide, by decide⟩
    · unfold number_Power.c
      refine (hchk _).trans ?_
      refine (if_neg (by decide)).trans ?_
      refine (isone_c [1] _).trans ?_
      refine (if_neg (by decide)).trans ?_
      refine (if_neg (by simp)).trans ?_
      refine (if_pos rfl).trans ?_
      refine (FromInt_one _).trans ?_
      have : pS na 0 = false := by unfold pS; simp
      rw [this]
    · have e1 : pS na 0 = false := by unfold pS; simp
      have e2 : pN (val 4294967296 a) (val 4294967296 da) 0 = 1 := by unfold pN; simp
      have e3 : pD (val 4294967296 a) (val 4294967296 da) 0 = 1 := by unfold pD; simp
      rw [e1, e2, e3]
      have := rep_int (neg := false) one_rep.1 one_rep.2.1 (fun _ => rfl)
      rwa [one_rep.2.2] at this
  · rw [l3 hk] at *
    obtain ⟨e, he⟩ : ∃ e : Nat, e = k.natAbs := ⟨_, rfl⟩
    have hw : IntKind.i64.wrap (([(k.natAbs : Int)] : List Int).getD 0 0) = (e : Int) := by
      have : ([(k.natAbs : Int)] : List Int).getD 0 0 = (k.natAbs : Int) := rfl
      rw [this, i64_w, w64 (by omega) (by omega), he]
    have hodd : (IntKind.u32.wrap (((BitVec.ofInt 32 (([(k.natAbs : Int)] : List Int).getD 0 0)) &&& (BitVec.ofInt 32 (1 : Int))).toNat : Int) == (1 : Int)) = decide (e % 2 = 1) := by
      have : ([(k.natAbs : Int)] : List Int).getD 0 0 = ((k.natAbs : Nat) : Int) := rfl
      rw [this, odd_bit _ (by omega), he]
    have hS : pS na k = (na && decide (e % 2 = 1)) := by unfold pS; rw [he]
    have gA := gcd_pow1 (Int.le_of_lt va) (Int.le_of_lt vd) ca.gc e
    have hmade : ∀ (x y : List Int) {R : Type} (K : (Nm × Int) → Option R) (s : (Nm × Int)), (∀ b : Bool, b = pS na k → number_made.c R (b, x, y) K = K s) →
        (if na = true then (number_made.c R ((IntKind.u32.wrap (((BitVec.ofInt 32 (([(k.natAbs : Int)] : List Int).getD 0 0)) &&& (BitVec.ofInt 32 (1 : Int))).toNat : Int) == (1 : Int)), x, y) K) else (number_made.c R (false, x, y) K)) = K s := by
      intro x y R K s hm
      rw [hodd]
      cases na with
      | true => exact (if_pos rfl).trans (hm _ (by rw [hS]; rfl))
      | false => exact (if_neg (by decide)).trans (hm _ (by rw [hS]; rfl))
    have hgo : ∀ (s : Nm × Int), (∀ (R : Type) (K : (Nm × Int) → Option R), PTail0 R na a da (decide (k < 0)) [(k.natAbs : Int)] K = K s) → ¬ (a = [1] ∧ da = [1]) → ∀ (R : Type) (K : (Nm × Int) → Option R), number_Power.c R ((na, a, da), (decide (k < 0), [(k.natAbs : Int)], [1])) K = K s := by
      intro s ht hone R K
      unfold number_Power.c
      refine (hchk _).trans ?_
      refine (if_neg (by decide)).trans ?_
      refine (isone_c [1] _).trans ?_
      refine (if_neg (by decide)).trans ?_
      refine (if_pos (by simp)).trans ?_
      refine (if_pos (by simp)).trans ?_
      refine (if_neg (by simp)).trans ?_
      refine (if_neg (by simpa using a0)).trans ?_
      refine (if_pos (by simpa using a0)).trans ?_
      refine (isone_c a _).trans ?_
      by_cases c1 : a = [1]
      · refine (if_pos (decide_eq_true c1)).trans ?_
        refine (isone_c da _).trans ?_
        refine (if_neg (by simpa using fun h => hone ⟨c1, h⟩)).trans ?_
        exact ht R K
      · refine (if_neg (by simpa using c1)).trans ?_
        exact ht R K
    by_cases hone : a = [1] ∧ da = [1]
    · obtain ⟨rfl, rfl⟩ := hone
      have e2 : pN (val 4294967296 [1]) (val 4294967296 [1]) k = 1 := by unfold pN; rw [one_rep.2.2, Int.one_pow, ite_self]
      have e3 : pD (val 4294967296 [1]) (val 4294967296 [1]) k = 1 := by unfold pD; rw [one_rep.2.2, Int.one_pow, ite_self]
      obtain ⟨m1, m2⟩ := made_exact (s := pS na k) one_rep.1 one_rep.2.1 one_rep.1 one_rep.2.1 (by decide) (by decide) (by decide) (by decide) (by rw [one_rep.2.2]; rfl)
      refine .inl ⟨[1], [1], fun R K => ?_, ?_, by decide, by decide⟩
      · unfold number_Power.c
        refine (hchk _).trans ?_
        refine (if_neg (by decide)).trans ?_
        refine (isone_c [1] _).trans ?_
        refine (if_neg (by decide)).trans ?_
        refine (if_pos (by simp)).trans ?_
        refine (if_pos (by simp)).trans ?_
        refine (if_neg (by simp)).trans ?_
        refine (if_neg (by simp)).trans ?_
        refine (if_pos (by simp)).trans ?_
        refine (isone_c [1] _).trans ?_
        refine (if_pos (by decide)).trans ?_
        refine (isone_c [1] _).trans ?_
        refine (if_pos (by decide)).trans ?_
        exact hmade [1] [1] K _ (fun b hb => by rw [hb]; exact m1 R K)
      · rw [e2, e3]
        rwa [one_rep.2.2] at m2
    · rcases npow_c ha ca.nn a0 la e (by omega) with ⟨x, x1, x2, x3, x4, x5⟩ | ⟨x1, x2⟩
      · rcases npow_c hda ca.nd ca.d0 lda e (by omega) with ⟨y, y1, y2, y3, y4, y5⟩ | ⟨y1, y2⟩
        · have x0 : x ≠ [] := by rintro rfl; have : 0 < val 4294967296 a ^ e := Int.pow_pos va; rw [← x5] at this; exact absurd this (by decide)
          have y0 : y ≠ [] := by rintro rfl; have : 0 < val 4294967296 da ^ e := Int.pow_pos vd; rw [← y5] at this; exact absurd this (by decide)
          have g1 : Nat.gcd (val 4294967296 x).toNat (val 4294967296 y).toNat = 1 := by rw [x5, y5]; exact gA
          have g2 : Nat.gcd (val 4294967296 y).toNat (val 4294967296 x).toNat = 1 := by rw [Nat.gcd_comm]; exact g1
          by_cases c : k < 0
          · obtain ⟨m1, m2⟩ := made_exact (s := pS na k) y2 y3 x2 x3 x0 y0 y4 x4 g2
            refine .inl ⟨y, x, hgo _ (fun R K => ?_) hone, ?_, y4, x4⟩
            · unfold PTail0
              rw [hw]
              refine (if_pos (by simp)).trans ?_
              refine (if_pos (by simp)).trans ?_
              refine (if_neg (by simp; omega)).trans ?_
              refine (if_pos (by simp)).trans ?_
              refine (x1 R _).trans ?_
              refine (if_pos (by simp)).trans ?_
              refine (y1 R _).trans ?_
              refine (if_pos (by simp)).trans ?_
              refine (if_neg (by simp)).trans ?_
              refine (if_pos (by simpa using c)).trans ?_
              exact hmade y x K _ (fun b hb => by rw [hb]; exact m1 R K)
            · unfold pN pD
              rw [if_pos c, if_pos c, ← he, ← x5, ← y5]
              exact m2
          · obtain ⟨m1, m2⟩ := made_exact (s := pS na k) x2 x3 y2 y3 y0 x0 x4 y4 g1
            refine .inl ⟨x, y, hgo _ (fun R K => ?_) hone, ?_, x4, y4⟩
            · unfold PTail0
              rw [hw]
              refine (if_pos (by simp)).trans ?_
              refine (if_pos (by simp)).trans ?_
              refine (if_neg (by simp; omega)).trans ?_
              refine (if_pos (by simp)).trans ?_
              refine (x1 R _).trans ?_
              refine (if_pos (by simp)).trans ?_
              refine (y1 R _).trans ?_
              refine (if_pos (by simp)).trans ?_
              refine (if_neg (by simp)).trans ?_
              refine (if_neg (by simpa using c)).trans ?_
              exact hmade x y K _ (fun b hb => by rw [hb]; exact m1 R K)
            · unfold pN pD
              rw [if_neg c, if_neg c, ← he, ← x5, ← y5]
              exact m2
        · refine .inr ⟨hgo _ (fun R K => ?_) hone, ?_⟩
          · unfold PTail0
            rw [hw]
            refine (if_pos (by simp)).trans ?_
            refine (if_pos (by simp)).trans ?_
            refine (if_neg (by simp; omega)).trans ?_
            refine (if_pos (by simp)).trans ?_
            refine (x1 R _).trans ?_
            refine (if_pos (by simp)).trans ?_
            refine (y1 R _).trans ?_
            refine (if_pos (by simp)).trans ?_
            exact if_pos (by simp)
          · unfold pN pD
            rw [← he]
            rintro ⟨h1, h2⟩
            split at h1 <;> omega
      · have hy := npow_c hda ca.nd ca.d0 lda e (by omega)
        refine .inr ⟨hgo _ (fun R K => ?_) hone, ?_⟩
        · unfold PTail0
          rw [hw]
          refine (if_pos (by simp)).trans ?_
          refine (if_pos (by simp)).trans ?_
          refine (if_neg (by simp; omega)).trans ?_
          refine (if_pos (by simp)).trans ?_
          refine (x1 R _).trans ?_
          refine (if_pos (by simp)).trans ?_
          rcases hy with ⟨y, y1, _⟩ | ⟨y1, _⟩
          · refine (y1 R _).trans ?_
            exact if_neg (by simp)
          · refine (y1 R _).trans ?_
            exact if_neg (by simp)
        · unfold pN pD
          rw [← he]
          rintro ⟨h1, h2⟩
          split at h1 <;> omega
end Go.Proofs.YtemnjgkicndmjaaDoor.Q
namespace Go.Proofs.YtemnjgkicndmjaaDoor.Q
open Go.RowKit Go.Proofs.YtemnjgkicndmjaaDoorW.PrintWords Go.Proofs.YtemnjgkicndmjaaDoorW.PrintLast Go.Proofs.YtemnjgkicndmjaaDoorW.PrintMore
attribute [local go_sem] max2_int min2_int max_two min_two max_three min_three max_four min_four
set_option linter.unusedVariables false
set_option linter.unusedSimpArgs false
mutual
def nat_FromDecimal.l0 : Nat → ByteArray → List Int → Option (List Int)
 | 0, _, _ => none
 | k + 1, x0, x3 => if (x0.size : Int) > 0 then (nat_FromDecimal.l1 k x0 x3 (wrap64 ((Int.tmod (wrap64 ((x0.size : Int) - 1)) 9) + 1)) 0 1 (wrap64 ((Int.tmod (wrap64 ((x0.size : Int) - 1)) 9) + 1)) 0) else (some x3)
def nat_FromDecimal.l1 : Nat → ByteArray → List Int → Int → Int → Int → Int → Int → Option (List Int)
 | 0, _, _, _, _, _, _, _ => none
 | k + 1, x0, x3, x4, x5, x6, x16, x17 => if x17 < x16 then (if 0 ≤ x17 then (if x17 < (x0.size : Int) then (nat_FromDecimal.l1 k x0 x3 x4 (IntKind.u64.wrap ((IntKind.u64.wrap (x5 * 10)) + (((bt x0 x17) - 48) % 256))) (IntKind.u64.wrap (x6 * 10)) x16 (wrap64 (x17 + 1))) else (none)) else (none)) else ((nat_Of.f k x6).bind fun t311 => ((nat_Mul.f k x3 t311).bind fun t314 => ((nat_Of.f k x5).bind fun t317 => ((nat_plus.f k t314 t317).bind fun t320 => (if 0 ≤ x4 then (if x4 ≤ (x0.size : Int) then (nat_FromDecimal.l0 k (x0.extract (x4 : Int).toNat x0.size) t320) else (none)) else (none))))))
end
def nat_FromDecimal.f (k : Nat) (a0 : ByteArray) : Option (List Int) := nat_FromDecimal.l0 k a0 ([] : List Int)
theorem nat_FromDecimal.mono_l : ∀ k, (∀ y0 y1, LeO (nat_FromDecimal.l0 k y0 y1) (nat_FromDecimal.l0 (k + 1) y0 y1)) ∧ (∀ y0 y1 y2 y3 y4 y5 y6, LeO (nat_FromDecimal.l1 k y0 y1 y2 y3 y4 y5 y6) (nat_FromDecimal.l1 (k + 1) y0 y1 y2 y3 y4 y5 y6))
 | 0 => ⟨fun _ _ r h => by simp [nat_FromDecimal.l0] at h, fun _ _ _ _ _ _ _ r h => by simp [nat_FromDecimal.l1] at h⟩
 | k + 1 => by
  obtain ⟨ih0, ih1⟩ := nat_FromDecimal.mono_l k
  refine ⟨?_, ?_⟩
  ·intro y0 y1
   unfold nat_FromDecimal.l0
   have m0 := ih0
   have m1 := ih1
   have m2 := @nat_Mul.mono
   have m3 := @nat_Of.mono
   have m4 := @nat_plus.mono
   exact zm
  ·intro y0 y1 y2 y3 y4 y5 y6
   unfold nat_FromDecimal.l1
   have m0 := ih0
   have m1 := ih1
   have m2 := @nat_Mul.mono
   have m3 := @nat_Of.mono
   have m4 := @nat_plus.mono
   exact zm
theorem nat_FromDecimal.mono : ∀ a0 k, LeO (nat_FromDecimal.f k a0) (nat_FromDecimal.f (k + 1) a0) := by
 intro a0 k
 obtain ⟨ih0, ih1⟩ := nat_FromDecimal.mono_l k
 unfold nat_FromDecimal.f
 have m0 := ih0
 have m1 := ih1
 have m2 := @nat_Mul.mono
 have m3 := @nat_Of.mono
 have m4 := @nat_plus.mono
 exact zm
set_option maxHeartbeats 8000000 in
set_option maxRecDepth 100000 in
theorem nat_FromDecimal.calls (k : Nat) (a0 : ByteArray) (r : List Int) (w : World) (h : nat_FromDecimal.f k a0 = some r) :
  Calls Tryd.prog 53 #[.string a0] w fun e w' => ∃ v0_ : Value, e = .returned (v0_) ∧ Kd.V (Kd.int .u32) 55 w' w.heap.size (fun k_ => (w.heap.size ≤ k_)) v0_ r ∧ Below w.heap.size w w' := by
 have HB := am (Below.refl w.heap.size w)
 have H := h
 unfold nat_FromDecimal.f at H
 clear h
 have H' := am H
 clear H
 go_enter Tryd.func53, Tryd.ntmps53
 go_wp2
 go_loopg [0, 3] k (fun kq v0 v3 w' => ∃ (x0_1 : ByteArray) (x3_1 : List Int), v0 = .string x0_1 ∧ Aside0 (nat_FromDecimal.l0 kq x0_1 x3_1 = some r) ∧ Aside0 (kq ≤ k) ∧ Aside0 (Kd.V (Kd.int .u32) 55 w' w.heap.size (fun k_ => (w.heap.size ≤ k_)) v3 x3_1) ∧ Aside0 (Below w.heap.size w w'))
 case atStart => exact ⟨(a0), (([] : List Int)), zq8, H', ⟨Nat.le_refl _⟩, ⟨Kd.V_nil _ _ _ _ _⟩, ⟨zq1⟩⟩
 case round =>
  clear H'
  obtain ⟨x0_1, x3_1, rfl, HA, HK1, HO_3, HB⟩ := hrel
  cases gk with
  | zero => exact absurd HA.out (by simp [nat_FromDecimal.l0])
  | succ k1 =>
   have H := HA.out
   clear HA
   simp only [nat_FromDecimal.l0] at H
   by_cases c2 : (x0_1.size : Int) > 0
   ·rw [if_pos c2] at H
    have c2b0 : decide (0 < (x0_1.size : Int)) = true := decide_eq_true c2
    have c2b1 : decide (0 < x0_1.size) = true := decide_eq_true (by omega)
    clear c2
    have H' := am H
    clear H
    go_wp2
    go_loopg [5, 6, 17] k1 (fun kq v5 v6 v17 w' => ∃ (x5_2 : Int) (x6_2 : Int) (x17_2 : Int), v5 = .int .u64 x5_2 ∧ v6 = .int .u64 x6_2 ∧ v17 = .int .i64 x17_2 ∧ Aside0 (nat_FromDecimal.l1 kq x0_1 x3_1 (wrap64 ((Int.tmod (wrap64 ((x0_1.size : Int) - 1)) 9) + 1)) x5_2 x6_2 (wrap64 ((Int.tmod (wrap64 ((x0_1.size : Int) - 1)) 9) + 1)) x17_2 = some r) ∧ Aside0 (kq ≤ k1) ∧ Aside0 (Kd.V (Kd.int .u32) 55 w' w.heap.size (fun k_ => (w.heap.size ≤ k_)) u3 x3_1) ∧ Aside0 (Below w.heap.size w w'))
    case atStart => exact ⟨(0), (1), (0), zq8, zq8, zq8, H', ⟨Nat.le_refl _⟩, ⟨zq3 HO_3.out⟩, ⟨zq1⟩⟩
    case round =>
     clear H'
     obtain ⟨x5_2, x6_2, x17_2, rfl, rfl, rfl, HA, HK2, HO_3, HB⟩ := hrel
     cases gk with
     | zero => exact absurd HA.out (by simp [nat_FromDecimal.l1])
     | succ k2 =>
      have H := HA.out
      clear HA
      simp only [nat_FromDecimal.l1] at H
      by_cases c3 : x17_2 < (wrap64 ((Int.tmod (wrap64 ((x0_1.size : Int) - 1)) 9) + 1))
      ·rw [if_pos c3] at H
       have c3b0 := decide_eq_true c3
       clear c3
       replace H := zn H
       obtain ⟨c4, H⟩ := H
       have c4b0 := decide_eq_true c4
       clear c4
       replace H := zn H
       obtain ⟨c5, H⟩ := H
       have c5b0 := decide_eq_true c5
       clear c5
       have H' := am H
       clear H
       have p6 : 0 ≤ (x17_2 : Int) := zq6
       have q6 : x17_2 < (x0_1.size : Int) := zq6
       have hx6 := bt_at x0_1 x17_2
       replace p6 := eq_true p6
       replace q6 := eq_true q6
       go_wp2
       go_roundg k2
       case measure => have := HK1.out; have := HK2.out; omega
       case rel => exact ⟨(IntKind.u64.wrap ((IntKind.u64.wrap (x5_2 * 10)) + (((bt x0_1 x17_2) - 48) % 256))), (IntKind.u64.wrap (x6_2 * 10)), (wrap64 (x17_2 + 1)), zq8, zq8, zq8, H', ⟨by have := HK1.out; have := HK2.out; omega⟩, ⟨zq3 HO_3.out⟩, ⟨zq1⟩⟩
      ·rw [if_neg c3] at H
       have c3b0 := decide_eq_false c3
       clear c3
       replace H := zj H
       obtain ⟨t311, A7, H⟩ := H
       replace H := zj H
       obtain ⟨t314, A8, H⟩ := H
       replace H := zj H
       obtain ⟨t317, A9, H⟩ := H
       replace H := zj H
       obtain ⟨t320, A10, H⟩ := H
       obtain ⟨ji11, hji11⟩ : ∃ j_ : Int, (wrap64 ((Int.tmod (wrap64 ((x0_1.size : Int) - 1)) 9) + 1)) = j_ := ⟨_, rfl⟩
       replace H : (if 0 ≤ (ji11) then (if (ji11) ≤ (x0_1.size : Int) then (nat_FromDecimal.l0 k2 (x0_1.extract ((ji11) : Int).toNat x0_1.size) t320) else (none)) else (none)) = some r := by first | (rw [hji11] at H; exact H) | (simp only [hji11] at H ⊢; exact H)
       (try rw [hji11] at c3b0)
       (try rw [hji11] at A7)
       (try rw [hji11] at A8)
       (try rw [hji11] at A9)
       (try rw [hji11] at A10)
       have hji11w : (IntKind.i64.wrap ((Int.tmod (wrap64 ((x0_1.size : Int) - 1)) 9) + 1)) = ji11 := (i64_w _).trans hji11
       replace H := zn H
       obtain ⟨c12, H⟩ := H
       have c12b0 := eq_true c12
       have c12b1 := decide_eq_true c12
       clear c12
       replace H := zn H
       obtain ⟨c13, H⟩ := H
       have c13b0 := eq_true c13
       have c13b1 := decide_eq_true c13
       clear c13
       have H' := am H
       clear H
       go_wp2_with (first | ((with_reducible refine gate_callee (f := 79) rfl ?_); refine goesL_ (some 33) rfl rfl Tryd.func79 (by kernel_rfl) rfl #[.int .u64 x6_2] rfl zq5 ?_; (with_reducible refine (nat_Of.calls k2 x6_2 t311 _ A7.out).mono ?_); rintro e w14 ⟨v312, rfl, ho0, hb⟩; refine ⟨_, rfl, ?_⟩; refine zt3 (vb HO_3 hb) (Kd.V_lower (Kd.V_mono (ok' := fun k_ => (w.heap.size ≤ k_)) ho0 (fun k_ hk_ => (Nat.le_trans (below_size zq1) hk_))) (below_size zq1)) (below_step zq1 hb) ?_; clear HO_3 HB; intro HO_3 HO313 HB; obtain ⟨Ao15, co15, eo15⟩ := Kd.V_slice HO_3.out; subst eo15; obtain ⟨Ao16, co16, eo16⟩ := Kd.V_slice HO313.out; subst eo16) | ((with_reducible refine gate_callee (f := 77) rfl ?_); refine goesL_ (some 34) rfl rfl Tryd.func77 (by kernel_rfl) rfl #[.slice Ao15 x3_1.length co15, .slice Ao16 t311.length co16] rfl zq5 ?_; (with_reducible refine (nat_Mul.calls k2 _ _ x3_1 _ _ t311 t314 _ ?side1 ?side2 ?side3 ?side4 A8.out).mono ?_); (case side1 => exact zc ((Kd.V_reads' HO_3.out).2.2)); (case side2 => exact (Kd.V_reads' HO_3.out).2.1); (case side3 => exact zc ((Kd.V_reads' HO313.out).2.2)); (case side4 => exact (Kd.V_reads' HO313.out).2.1); rintro e w17 ⟨v315, rfl, ho0, hb⟩; refine ⟨_, rfl, ?_⟩; refine zt4 (vb HO_3 hb) (vb HO313 hb) (Kd.V_lower (Kd.V_mono (ok' := fun k_ => (w.heap.size ≤ k_)) ho0 (fun k_ hk_ => (Nat.le_trans (below_size zq1) hk_))) (below_size zq1)) (below_step zq1 hb) ?_; clear HO_3 HO313 HB; intro HO_3 HO313 HO316 HB) | ((with_reducible refine gate_callee (f := 79) rfl ?_); refine goesL_ (some 36) rfl rfl Tryd.func79 (by kernel_rfl) rfl #[.int .u64 x5_2] rfl zq5 ?_; (with_reducible refine (nat_Of.calls k2 x5_2 t317 _ A9.out).mono ?_); rintro e w18 ⟨v318, rfl, ho0, hb⟩; refine ⟨_, rfl, ?_⟩; refine zt5 (vb HO_3 hb) (vb HO313 hb) (vb HO316 hb) (Kd.V_lower (Kd.V_mono (ok' := fun k_ => (w.heap.size ≤ k_)) ho0 (fun k_ hk_ => (Nat.le_trans (below_size zq1) hk_))) (below_size zq1)) (below_step zq1 hb) ?_; clear HO_3 HO313 HO316 HB; intro HO_3 HO313 HO316 HO319 HB; obtain ⟨Ao19, co19, eo19⟩ := Kd.V_slice HO316.out; subst eo19; obtain ⟨Ao20, co20, eo20⟩ := Kd.V_slice HO319.out; subst eo20) | ((with_reducible refine gate_callee (f := 105) rfl ?_); refine goesL_ (some 37) rfl rfl Tryd.func105 (by kernel_rfl) rfl #[.slice Ao19 t314.length co19, .slice Ao20 t317.length co20] rfl zq5 ?_; (with_reducible refine (nat_plus.calls k2 _ _ t314 _ _ t317 t320 _ ?side1 ?side2 ?side3 ?side4 A10.out).mono ?_); (case side1 => exact zc ((Kd.V_reads' HO316.out).2.2)); (case side2 => exact (Kd.V_reads' HO316.out).2.1); (case side3 => exact zc ((Kd.V_reads' HO319.out).2.2)); (case side4 => exact (Kd.V_reads' HO319.out).2.1); rintro e w21 ⟨v321, rfl, ho0, hb⟩; refine ⟨_, rfl, ?_⟩; refine zt6 (vb HO_3 hb) (vb HO313 hb) (vb HO316 hb) (vb HO319 hb) (Kd.V_lower (Kd.V_mono (ok' := fun k_ => (w.heap.size ≤ k_)) ho0 (fun k_ hk_ => (Nat.le_trans (below_size zq1) hk_))) (below_size zq1)) (below_step zq1 hb) ?_; clear HO_3 HO313 HO316 HO319 HB; intro HO_3 HO313 HO316 HO319 HO322 HB))
       go_roundg k2
       case measure => have := HK1.out; have := HK2.out; omega
       case rel => exact ⟨(x0_1.extract ((ji11) : Int).toNat x0_1.size), (t320), (by first | rfl | (simp; done) | (simp only [← hji11] <;> (first | rfl | simp)) | (simp [*]; done)), (by first | exact H' | (rw [hji11]; exact H')), ⟨by have := HK1.out; have := HK2.out; omega⟩, ⟨zq3 HO322.out⟩, ⟨zq1⟩⟩
   ·rw [if_neg c2] at H
    have c2b0 : decide (0 < (x0_1.size : Int)) = false := decide_eq_false c2
    have c2b1 : decide (0 < x0_1.size) = false := decide_eq_false (by omega)
    clear c2
    obtain rfl := Option.some.inj H
    go_wp2
    go_ret
    exact ⟨_, zq9, zq3 HO_3.out, zq1⟩
end Go.Proofs.YtemnjgkicndmjaaDoor.Q
