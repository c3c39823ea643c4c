/- The functions of dike's layer in abstract form: made by a program of ours. -/
import GoSem.Dispatch
import GoSem.Machine.Frame
set_option linter.unusedSimpArgs false
set_option linter.unusedVariables false
set_option linter.unusedSectionVars false
namespace Go.Ab
inductive Opd where
  | t (n : Nat)
  | k (v : Value)
inductive AOp where
  | move (x : Opd)
  | pick (c a b : Opd)
  | nilCheck (x : Opd)
  | bin (op : BinOp) (x y : Opd)
  | beq (neg : Bool) (x y : Opd)
  | eqv (neg : Bool) (sh : List Bool) (x y : Opd)
  | eqNil (kind : Nat) (neg : Bool) (x : Opd)
  | neg (x : Opd)
  | not (x : Opd)
  | toInt (k : IntKind) (x : Opd)
  | toF64 (x : Opd)
  | makeFunc (f : Nat) (first captured : List Opd)
  | build (z : List Value) (parts : List (Nat × Nat × Opd))
  | fieldAddr (x : Opd) (off : Nat)
  | field (x : Opd) (off : Nat) (size : Option Nat)
  | idxS (x i : Opd) (esz : Nat)
  | idxA (x i : Opd) (len esz : Nat)
  | index (x i : Opd) (len esz : Nat) (agg : Bool)
  | reslice (x : Opd) (lo hi : Option Opd) (esz : Nat)
  | extract (x : Opd) (i : Nat)
  | len (x : Opd)
  | lenT (x : Opd)
  | min (xs : List Opd)
  | max (xs : List Opd)
  | alloc (z : List Value)
  | box (x : Opd)
  | slit (n esz : Nat) (z : List Value) (parts : List (Nat × Opd))
  | makeS (l c : Opd) (esz bytes : Nat) (z : List Value)
  | load (x : Opd) (size : Option Nat)
  | store (x v : Opd) (size : Nat)
  | append (s x : Opd) (esz bytes : Nat)
  | copy (d s : Opd) (esz : Nat)
  | call (f : Opd) (args : List Opd) (ro : Bool)
  | callC (c f : Opd) (args : List Opd)
  | strOp (op : BinOp) (x y : Opd)
  | strIdx (x i : Opd)
  | toBytes (x : Opd)
  | toStr (x : Opd)
  | makeM
  | lookup (x k : Opd) (kt : Nat) (z : Value) (ok : Bool)
  | mapSet (x k v : Opd) (kt : Nat)
  | lenM (x : Opd)
  | clearM (x : Opd)
  | rangeI (x : Opd)
  | nextI (x : Opd)
  | entryI (x : Opd)
  | fail
structure AOper where
  dst : Option Nat
  guard : Option (Nat × Bool)
  apart : List (Opd × Nat × Opd × Nat)
  op : AOp
inductive ACode where
  | skip
  | ops (l : List AOper)
  | seq (a b : ACode)
  | cond (c : Opd) (a b : ACode)
  | block (id : Nat) (c : ACode)
  | loop (c : ACode)
  | exit (id : Nat)
  | ret
  | rangeF (f : Opd) (ps : List Nat) (assign body : ACode)
inductive ARes where
  | tmp (t : Nat)
  | cell (t : Nat) (size : Option Nat)
inductive AFunc where
  | fn (nt : Nat) (res : List ARes) (body : ACode)
  | sqrt
abbrev oM (d x : Nat) : AOper := ⟨some d, none, [], .move (.t x)⟩
abbrev oP (d : Nat) (x : AOp) : AOper := ⟨some d, none, [], x⟩
abbrev oQ (d g : Nat) (b : Bool) (x : AOp) : AOper := ⟨some d, some (g, b), [], x⟩
abbrev oN (d g : Nat) (b : Bool) (x : Nat) : AOper := ⟨some d, some (g, b), [], .move (.t x)⟩
abbrev oL (d x : Nat) : AOper := ⟨some d, none, [], .load (.t x) none⟩
abbrev oD (d x s : Nat) : AOper := ⟨some d, none, [], .load (.t x) (some s)⟩
abbrev oF (d x o : Nat) : AOper := ⟨some d, none, [], .fieldAddr (.t x) o⟩
abbrev oI (d x i s : Nat) : AOper := ⟨some d, none, [], .idxS (.t x) (.t i) s⟩
abbrev oB (d : Nat) (o : BinOp) (x y : Nat) : AOper := ⟨some d, none, [], .bin o (.t x) (.t y)⟩
abbrev oC (d : Nat) (o : BinOp) (x : Nat) (n : Int) : AOper := ⟨some d, none, [], .bin o (.t x) (.k (.int .i64 n))⟩
abbrev oX (d x i : Nat) : AOper := ⟨some d, none, [], .extract (.t x) i⟩
abbrev oA (d f : Nat) (l : List Opd) (r : Bool) : AOper := ⟨some d, none, [], .call (.k (.func (.func f) ⟨[]⟩ ⟨[]⟩)) l r⟩
abbrev oT (x v s : Nat) : AOper := ⟨none, none, [], .store (.t x) (.t v) s⟩
abbrev oK (n : Int) : Opd := .k (.int .i64 n)
def simple : Value → Bool
  | .bool _ => true | .int _ _ => true | .float _ _ => true | .string _ => true | .pointer none => true
  | .slice none 0 0 => true | .nilFunc => true | .nilIface => true | .map none => true
  | _ => false
def flat (v : Value) : Bool :=
  match v with
  | .agg cs => cs.toList.all simple
  | .tuple cs => cs.toList.all simple
  | v => simple v
def AOp.opds : AOp → List Opd
  | .move x => [x] | .pick c a b => [c, a, b] | .nilCheck x => [x] | .bin _ x y => [x, y] | .beq _ x y => [x, y] | .eqv _ _ x y => [x, y] | .eqNil _ _ x => [x]
  | .neg x => [x] | .not x => [x] | .toInt _ x => [x] | .toF64 x => [x] | .makeFunc _ a b => a ++ b | .build _ ps => ps.map fun p => p.2.2
  | .fieldAddr x _ => [x] | .field x _ _ => [x] | .idxS x i _ => [x, i] | .idxA x i _ _ => [x, i] | .index x i _ _ _ => [x, i]
  | .reslice x lo hi _ => x :: (lo.toList ++ hi.toList) | .extract x _ => [x] | .len x => [x] | .lenT x => [x] | .min l => l | .max l => l
  | .alloc _ => [] | .box x => [x] | .slit _ _ _ ps => ps.map fun p => p.2 | .makeS l c _ _ _ => [l, c] | .load x _ => [x] | .store x v _ => [x, v]
  | .append s x _ _ => [s, x] | .copy d s _ => [d, s] | .call f l _ => f :: l | .callC c f l => c :: f :: l | .strOp _ x y => [x, y] | .strIdx x i => [x, i] | .toBytes x => [x] | .toStr x => [x] | .makeM => [] | .lookup x k _ _ _ => [x, k] | .mapSet x k v _ => [x, k, v] | .lenM x => [x] | .clearM x => [x] | .rangeI x => [x] | .nextI x => [x] | .entryI x => [x] | .fail => []
def AOp.mem : AOp → Nat
  | .load _ _ => 1 | .alloc _ => 2 | .box _ => 2 | .slit _ _ _ _ => 2 | .makeS _ _ _ _ _ => 2 | .toBytes _ => 2 | .makeM => 2 | .store _ _ _ => 3 | .append _ _ _ _ => 4 | .copy _ _ _ => 4
  | .call _ _ ro => if ro then 6 else 5
  | .callC _ _ _ => 7
  | .toStr _ => 6
  | .lookup _ _ _ _ _ => 6 | .lenM _ => 6 | .mapSet _ _ _ _ => 5 | .clearM _ => 5
  | _ => 0
def tmpsOf (l : List Opd) : List Nat := l.filterMap fun x => match x with | .t n => some n | .k _ => none
def AOper.looks (o : AOper) : List Nat :=
  tmpsOf o.op.opds ++ (match o.guard with | some (d, _) => [d] | none => [])
def befStep (acc : List Nat) (l : List Nat) : Nat := l.foldl (fun s e => s ||| 2 ^ e ||| acc.getD e 0) 0
def befA (aft : List (List Nat)) : List Nat := aft.foldl (fun acc l => acc ++ [befStep acc l]) []
def ordered (bef : List Nat) (i j : Nat) : Bool := (bef.getD j 0).testBit i || (bef.getD i 0).testBit j
def memOf (al : List AOper) (i : Nat) : Nat := (al[i]?.map fun o => o.op.mem).getD 0
def addrA (al : List AOper) (i : Nat) : Option (Nat × Nat) :=
  match al[i]? with
  | some o => match o.op with
    | .load (.t x) n => some (x, n.getD 1)
    | .store (.t x) _ n => some (x, n)
    | _ => none
  | none => none
def stable (al : List AOper) (i x : Nat) : Bool := (List.range al.length).all fun m => decide (m < i) || ((al[m]?).bind (·.dst)) != some x
def Opd.isT (x : Opd) (n : Nat) : Bool :=
  match x with
  | .t m => m == n
  | .k _ => false
def heldApart (al : List AOper) (i j : Nat) : Bool :=
  match addrA al i, addrA al j with
  | some (x, n), some (y, m) => stable al i x && stable al j y && match al[Max.max i j]? with
    | some o => o.apart.any fun p => (p.1.isT x && p.2.1 == n && p.2.2.1.isT y && p.2.2.2 == m) || (p.1.isT y && p.2.1 == m && p.2.2.1.isT x && p.2.2.2 == n)
    | none => false
  | _, _ => false
def AOp.cap : AOp → Option Nat
  | .callC (.t y) _ _ => some y | .append (.t y) _ _ _ => some y | .copy (.t y) _ _ => some y
  | _ => none
def capAt (al : List AOper) (i : Nat) : Option Nat :=
  match al[i]? with
  | some o => o.op.cap
  | none => none
def capOk (al : List AOper) (i : Nat) : Bool :=
  match capAt al i with
  | some y => stable al i y
  | none => false
def heldC (al : List AOper) (i j : Nat) : Bool :=
  match capAt al i, addrA al j with
  | some y, some (x, _) => stable al i y && stable al j x && match al[Max.max i j]? with
    | some o => o.apart.any fun p => p.1.isT y && p.2.2.1.isT x
    | none => false
  | _, _ => false
def pairOk (al : List AOper) (bef : List Nat) (i j : Nat) : Bool :=
  i == j || ordered bef i j ||
    (match memOf al i with
     | 3 => memOf al j == 0 || (memOf al j == 1 && heldApart al i j)
     | 4 => memOf al j == 0 || (capOk al i && memOf al j == 2) || (memOf al j == 1 && heldC al i j)
     | 5 => memOf al j == 0
     | 7 => memOf al j == 0 || (capOk al i && memOf al j == 2) || (memOf al j == 1 && heldC al i j)
     | _ => true)
def dstOk (al : List AOper) (bef : List Nat) (i j : Nat) : Bool :=
  i == j || match al[i]?, al[j]? with
    | some o, some p => match o.dst with
      | some d => p.dst != some d && (!p.looks.contains d || ordered bef i j)
      | none => true
    | _, _ => true
def loadT (o : AOper) : Bool :=
  match o.op with
  | .load (.k _) _ => false
  | _ => true
def drawOk (al : List AOper) (aft : List (List Nat)) : Bool :=
  let bef := befA aft
  al.all loadT && (List.range al.length).all fun j => (aft.getD j []).all (fun e => decide (e < j)) &&
    (List.range al.length).all fun i => pairOk al bef i j && dstOk al bef i j
noncomputable section
def tget (T : List Value) : Nat → Value :=
  List.rec (motive := fun _ => Nat → Value) (fun _ => undef) (fun v _ ih => fun n => Nat.casesOn (motive := fun _ => Value) n v ih) T
def tset : List Value → Nat → Value → List Value := fun T d v =>
  Nat.rec (motive := fun _ => List Value → List Value) (fun T => List.casesOn (motive := fun _ => List Value) T [v] (fun _ l => v :: l))
    (fun _ ih => fun T => List.casesOn (motive := fun _ => List Value) T (undef :: ih []) (fun x l => x :: ih l)) d T
@[simp] theorem tget_nil (n : Nat) : tget [] n = undef := rfl
@[simp] theorem tget_zero (v : Value) (l : List Value) : tget (v :: l) 0 = v := rfl
@[simp] theorem tget_succ (v : Value) (l : List Value) (n : Nat) : tget (v :: l) (n + 1) = tget l n := rfl
@[simp] theorem tget_tset (T : List Value) (d : Nat) (v : Value) (t : Nat) : tget (tset T d v) t = if t = d then v else tget T t := by
  induction d generalizing T t with
  | zero =>
    have e : ∀ x l, tset (x :: l) 0 v = v :: l := fun _ _ => rfl
    have e' : tset [] 0 v = [v] := rfl
    cases T <;> cases t <;> simp [e, e']
  | succ d ih =>
    have e : ∀ x l, tset (x :: l) (d + 1) v = x :: tset l d v := fun _ _ => rfl
    have e' : tset [] (d + 1) v = undef :: tset [] d v := rfl
    cases T with
    | nil => rw [e']; cases t with
      | zero => simp
      | succ t => simp [ih]
    | cons x T => rw [e]; cases t with
      | zero => simp
      | succ t => simp [ih]
structure ALoop where
  state : LoopState
  pending : Option (Option Nat)
  tmps : List Value
  params : List Nat
  assign : ACode
  body : ACode
inductive ABlk where
  | cells (cs : List Value) (ro : Bool)
  | loop (r : ALoop)
  | marks
  | map (l : List (Value × Value)) (lk : Option (Array MapEntry × Nat))
  | iter (gh : Option Nat × Nat × Array Nat × Nat)
structure Hp where
  n : Nat
  l : List (Option ABlk)
def Hp.get (A : Hp) (x : Nat) : Option ABlk := if x < A.n then (A.l[A.n - 1 - x]?).join else none
def Hp.push (A : Hp) (b : ABlk) : Hp := ⟨A.n + 1, some b :: A.l⟩
def Hp.set (A : Hp) (x : Nat) (b : Option ABlk) : Hp := ⟨A.n, A.l.set (A.n - 1 - x) b⟩
@[simp] theorem Hp.n_push (A : Hp) (b : ABlk) : (A.push b).n = A.n + 1 := rfl
@[simp] theorem Hp.n_set (A : Hp) (x : Nat) (b : Option ABlk) : (A.set x b).n = A.n := rfl
theorem Hp.lt_of_get {A : Hp} {x : Nat} {b : ABlk} (h : A.get x = some b) : x < A.n := by
  unfold Hp.get at h; split at h
  · assumption
  · cases h
theorem Hp.get_push (A : Hp) (b : ABlk) (x : Nat) : (A.push b).get x = if x = A.n then some b else A.get x := by
  unfold Hp.get Hp.push
  by_cases h : x = A.n
  · subst h; simp
  · by_cases h' : x < A.n
    · have e : A.n + 1 - 1 - x = (A.n - 1 - x) + 1 := by omega
      simp [h, h', Nat.lt_succ_of_lt h', show A.n - x = (A.n - 1 - x) + 1 by omega]
    · simp [h, h', show ¬ x < A.n + 1 by omega]
theorem Hp.get_set {A : Hp} {x : Nat} {b0 : ABlk} (h : A.get x = some b0) (b : Option ABlk) (y : Nat) : (A.set x b).get y = if y = x then b else A.get y := by
  have hx := Hp.lt_of_get h
  have hl : A.n - 1 - x < A.l.length := by
    unfold Hp.get at h
    rw [if_pos hx] at h
    rcases Nat.lt_or_ge (A.n - 1 - x) A.l.length with h' | h'
    · exact h'
    · rw [List.getElem?_eq_none h'] at h; cases h
  unfold Hp.get Hp.set
  by_cases hy : y = x
  · subst hy; simp [hx, hl]
  · simp only [if_neg hy]
    by_cases hy' : y < A.n
    · simp only [hy', if_true]
      rw [List.getElem?_set_ne (by omega)]
    · simp [hy']
def ev (T : List Value) : Opd → Value
  | .t n => tget T n
  | .k v => v
def isCell : Value → Bool
  | .agg _ => false | .tuple _ => false
  | _ => true
def wr (k : IntKind) (n : Int) : Int :=
  match k, n with
  | .i64, .ofNat m => if Nat.blt m 9223372036854775808 then .ofNat m else k.wrap n
  | .i64, .negSucc m => if Nat.blt m 9223372036854775808 then .negSucc m else k.wrap n
  | _, _ => k.wrap n
theorem wrap_i64 (n : Int) (h0 : -9223372036854775808 ≤ n) (h1 : n < 9223372036854775808) : IntKind.i64.wrap n = n := by
  have e1 : (2 ^ IntKind.i64.bits : Int) = 18446744073709551616 := by decide
  have e2 : (2 ^ (IntKind.i64.bits - 1) : Int) = 9223372036854775808 := by decide
  have e3 : IntKind.i64.signed = true := rfl
  unfold IntKind.wrap
  simp only [e1, e2, e3, Bool.true_and, ge_iff_le, decide_eq_true_eq]
  split <;> omega
theorem wr_eq (k : IntKind) (n : Int) : wr k n = k.wrap n := by
  unfold wr
  split
  · rename_i m
    split
    · rename_i h
      rw [Nat.blt_eq] at h
      exact (wrap_i64 _ (by simp) (by simp; omega)).symm
    · rfl
  · rename_i m
    split
    · rename_i h
      rw [Nat.blt_eq] at h
      exact (wrap_i64 _ (by omega) (by omega)).symm
    · rfl
  · rfl
def kEq (k k' : IntKind) : Bool :=
  match k, k' with
  | .i64, .i64 => true
  | k, k' => decide (k = k')
theorem kEq_iff {k k' : IntKind} : kEq k k' = true ↔ k = k' := by
  unfold kEq; split <;> simp
def intA (op : BinOp) (k : IntKind) (a b : Int) : Option Value :=
  match op with
  | .add => some (.int k (wr k (a + b)))
  | .sub => some (.int k (wr k (a - b)))
  | .mul => some (.int k (wr k (a * b)))
  | .quo => if b = 0 then none else some (.int k (wr k (a.tdiv b)))
  | .rem => if b = 0 then none else some (.int k (a.tmod b))
  | .eql => some (.bool (a == b))
  | .neq => some (.bool (a != b))
  | .lss => some (.bool (a < b))
  | .leq => some (.bool (a ≤ b))
  | .gtr => some (.bool (a > b))
  | .geq => some (.bool (a ≥ b))
  | .and => some (.int k (k.wrap (BitVec.ofInt k.bits a &&& BitVec.ofInt k.bits b).toNat))
  | .or => some (.int k (k.wrap (BitVec.ofInt k.bits a ||| BitVec.ofInt k.bits b).toNat))
  | .xor => some (.int k (k.wrap (BitVec.ofInt k.bits a ^^^ BitVec.ofInt k.bits b).toNat))
  | .andNot => some (.int k (k.wrap (BitVec.ofInt k.bits a &&& ~~~ BitVec.ofInt k.bits b).toNat))
  | _ => none
def shA (left : Bool) (k : IntKind) (a b : Int) : Option Value :=
  if b < 0 then none else
  some (.int k (if left then k.wrap (a * 2 ^ (Min.min b.toNat k.bits)) else a.fdiv (2 ^ (Min.min b.toNat k.bits))))
def binA (op : BinOp) (x y : Value) : Option Value :=
  match x, y with
  | .int k a, .int k' b =>
    match op with
    | .shl => shA true k a b
    | .shr => shA false k a b
    | op => if kEq k k' then intA op k a b else none
  | _, _ => none
def cellEq (b : Bool) (x y : Value) : Option Bool :=
  match b, x, y with
  | false, .int k a, .int k' b => if kEq k k' then some (a == b) else none
  | true, .bool a, .bool b => some (a == b)
  | _, _, _ => none
def eqCells : List Bool → List Value → List Value → Option Bool
  | [], [], [] => some true
  | b :: sh, x :: xs, y :: ys => match cellEq b x y, eqCells sh xs ys with
    | some e, some r => some (e && r)
    | _, _ => none
  | _, _, _ => none
def isNil (kind : Nat) (v : Value) : Option Bool :=
  match v with
  | .pointer none => if kind = 0 then some true else none
  | .pointer (some _) => if kind = 0 then some false else none
  | .slice none 0 0 => if kind = 1 then some true else none
  | .slice (some _) _ _ => if kind = 1 then some false else none
  | .nilFunc => if kind = 2 then some true else none
  | .func _ _ _ => if kind = 2 then some false else none
  | .map none => if kind = 3 then some true else none
  | .map (some _) => if kind = 3 then some false else none
  | _ => none
def foldInt (pick : Int → Int → Bool) : Value → List Value → Option Value
  | v, [] => some v
  | .int k x, .int _ y :: rest => foldInt pick (.int k (if pick y x then y else x)) rest
  | _, _ => none
def setRange (cs : List Value) (o : Nat) (vs : List Value) : List Value := cs.take o ++ vs ++ cs.drop (o + vs.length)
def fillA (cells : List Value) : List (Nat × Nat × Value) → Option (List Value)
  | [] => some cells
  | (off, size, v) :: rest => if v.cells.toList.length = size ∧ off + size ≤ cells.length then fillA (setRange cells off v.cells.toList) rest else none
def partA (cs : List Value) (off : Nat) : Option Nat → Option Value
  | none => cs[off]?
  | some s => if off + s ≤ cs.length then some (.agg ((cs.drop off).take s).toArray) else none
def loadA (A : Hp) (addr : Value) (size : Option Nat) : Option Value :=
  match addr with
  | .pointer (some ⟨x, o, none⟩) =>
    match A.get x with
    | some (.cells cs _) => partA cs o size
    | _ => none
  | _ => none
def writeA (g : Nat) (A : Hp) (x o : Nat) (vs : List Value) : Option Hp :=
  if g ≤ x then
    match A.get x with
    | some (.cells cs false) => if o + vs.length ≤ cs.length ∧ vs.all isCell = true then some (A.set x (some (.cells (setRange cs o vs) false))) else none
    | _ => none
  else none
def storeA (g : Nat) (A : Hp) (addr v : Value) (size : Nat) : Option Hp :=
  match addr with
  | .pointer (some ⟨x, o, none⟩) => if v.cells.toList.length = size then writeA g A x o v.cells.toList else none
  | _ => none
def zeros (n : Nat) (z : List Value) : List Value := (List.range (n * z.length)).map fun i => z.getD (i % z.length) undef
def cellsAt (A : Hp) (k : Nat) : Value → Option (List Value)
  | .slice (some ⟨x, o, some _⟩) _ _ => match A.get x with
    | some (.cells cs _) => if o + k ≤ cs.length then some ((cs.drop o).take k) else none
    | _ => none
  | .slice none 0 0 => if k = 0 then some [] else none
  | _ => none
def room : Nat := 70368744177664
def appendA (g : Nat) (A : Hp) (esz bytes : Nat) (s x : Value) : Option (Value × Hp) :=
  match x with
  | .slice xb n xc =>
    match cellsAt A (n * esz) (.slice xb n xc) with
    | some new =>
      if new.all isCell = true ∧ 0 < esz then
        match s with
        | .slice none 0 0 => if n = 0 then some (.slice none 0 0, A) else if n * bytes ≤ room ∧ n ≤ room then
            some (.slice (some ⟨A.n, 0, some esz⟩) n n, A.push (.cells new false)) else none
        | .slice (some ⟨b, off, some es⟩) m c =>
          if n = 0 then some (.slice (some ⟨b, off, some es⟩) m c, A) else
          match A.get b with
          | some (.cells cs false) =>
            if g ≤ b ∧ (m + n) * bytes ≤ room ∧ m + n ≤ room ∧ es = esz then
              if off + m * esz = cs.length then
                some (.slice (some ⟨A.n, 0, some esz⟩) (m + n) (m + n), (A.set b none).push (.cells (cs.drop off ++ new) false))
              else if m + n ≤ c then
                (writeA g A b (off + m * esz) new).map fun A' => (.slice (some ⟨b, off, some es⟩) (m + n) c, A')
              else none
            else none
          | _ => none
        | _ => none
      else none
    | none => none
  | _ => none
def copyA (g : Nat) (A : Hp) (esz : Nat) (d s : Value) : Option (Value × Hp) :=
  match d, s with
  | .slice base m _, .slice sb n sc =>
    match cellsAt A (Min.min n m * esz) (.slice sb n sc) with
    | some new => match base with
      | some ⟨x, o, some _⟩ => (writeA g A x o new).map fun A' => (goInt (Min.min n m : Nat), A')
      | some _ => none
      | none => some (goInt (Min.min n m : Nat), A)
    | none => none
  | _, _ => none
inductive Ex where
  | normal
  | exit (id : Nat)
  | ret
structure St where
  T : List Value
  D : List Nat
  A : Hp
abbrev Spec := Nat → List Value → Hp → Option (Value × Hp)
abbrev CallFn := Nat → Value → List Value → Hp → Option (Value × Hp)
abbrev OpFn := CallFn → Nat → List Value → Hp → Option (Value × Hp)
def pureV (r : Option Value) (A : Hp) : Option (Value × Hp) := r.map fun v => (v, A)
def pickA (c a b : Value) : Option Value :=
  match c with
  | .bool t => some (if t then a else b)
  | _ => none
def nilCheckA (x : Value) : Option Value :=
  match x with
  | .pointer (some a) => some (.pointer (some a))
  | .func (.func f) a b => some (.func (.func f) a b)
  | .func (.yield f) a b => some (.func (.yield f) a b)
  | _ => none
def beqA (neg : Bool) (x y : Value) : Option Value :=
  match x, y with
  | .bool a, .bool b => some (.bool (if neg then !(a == b) else a == b))
  | _, _ => none
def eqvA (neg : Bool) (sh : List Bool) (x y : Value) : Option Value :=
  match x, y with
  | .agg a, .agg b => (eqCells sh a.toList b.toList).map fun r => .bool (if neg then !r else r)
  | _, _ => none
def eqNilA (kind : Nat) (neg : Bool) (x : Value) : Option Value := (isNil kind x).map fun r => .bool (if neg then !r else r)
def negA (x : Value) : Option Value :=
  match x with
  | .int k n => some (.int k (wr k (0 - n)))
  | _ => none
def notA (x : Value) : Option Value :=
  match x with
  | .bool b => some (.bool (!b))
  | _ => none
def toIntA (k : IntKind) (x : Value) : Option Value :=
  match x with
  | .int _ n => some (.int k (wr k n))
  | .float s b => match (s.decode b).toInt .zero with
    | some n => if k.min ≤ n ∧ n ≤ k.max then some (.int k n) else none
    | none => none
  | _ => none
def toF64A (x : Value) : Option Value :=
  match x with
  | .int _ n => some (.float .f64 (FloatKind.f64.nearest n))
  | _ => none
def fieldAddrA (off : Nat) (x : Value) : Option Value :=
  match x with
  | .pointer (some ⟨b, o, none⟩) => some (.pointer (some ⟨b, o + off, none⟩))
  | _ => none
def fieldA (off : Nat) (size : Option Nat) (x : Value) : Option Value :=
  match x with
  | .agg cs => partA cs.toList off size
  | _ => none
def idxSA (esz : Nat) (x i : Value) : Option Value :=
  match x, i with
  | .slice (some ⟨b, o, some _⟩) n _, .int _ i => if 0 ≤ i ∧ i < n then some (.pointer (some ⟨b, o + i.toNat * esz, none⟩)) else none
  | _, _ => none
def idxAA (len esz : Nat) (x i : Value) : Option Value :=
  match x, i with
  | .pointer (some ⟨b, o, none⟩), .int _ i => if 0 ≤ i ∧ i < len then some (.pointer (some ⟨b, o + i.toNat * esz, none⟩)) else none
  | _, _ => none
def indexA (len esz : Nat) (agg : Bool) (x i : Value) : Option Value :=
  match x, i with
  | .agg cs, .int _ i => if 0 ≤ i ∧ i < len then partA cs.toList (i.toNat * esz) (if agg then some esz else none) else none
  | _, _ => none
def intOfA (v : Value) : Option Int :=
  match v with
  | .int _ i => some i
  | _ => none
def boundA (T : List Value) (d : Nat) : Option Opd → Option Int
  | none => some d
  | some x => intOfA (ev T x)
def resliceA (esz : Nat) (x : Value) (lo : Option Int) (hi : Nat → Option Int) : Option Value :=
  match x with
  | .slice (some ⟨b, o, some s⟩) n c => match lo, hi n with
    | some l, some h => if s = esz ∧ 0 ≤ l ∧ l ≤ h ∧ h ≤ Max.max n c then some (.slice (some ⟨b, o + l.toNat * esz, some s⟩) (h - l).toNat (Max.max n c - l.toNat)) else none
    | _, _ => none
  | .slice none 0 0 => match lo, hi 0 with
    | some l, some h => if l = 0 ∧ h = 0 then some (.slice none 0 0) else none
    | _, _ => none
  | _ => none
def extractA (i : Nat) (x : Value) : Option Value :=
  match x with
  | .tuple vs => vs.toList[i]?
  | _ => none
def lenV (x : Value) : Option Value :=
  match x with
  | .slice _ n _ => some (goInt n)
  | _ => none
def lenTV (x : Value) : Option Value :=
  match x with
  | .string s => some (goInt s.size)
  | _ => none
def minA (l : List Value) : Option Value :=
  match l with
  | x :: rest => foldInt (fun y x => y < x) x rest
  | [] => none
def maxA (l : List Value) : Option Value :=
  match l with
  | x :: rest => foldInt (fun y x => y > x) x rest
  | [] => none
def allocA (cs : List Value) (A : Hp) : Option (Value × Hp) := some (.pointer (some ⟨A.n, 0, none⟩), A.push (.cells cs false))
def slitA (n esz : Nat) (cs : Option (List Value)) (A : Hp) : Option (Value × Hp) :=
  match cs with
  | some cs => some (.slice (some ⟨A.n, 0, some esz⟩) n n, A.push (.cells cs false))
  | none => none
def makeSA (esz bytes : Nat) (z : List Value) (l c : Value) (A : Hp) : Option (Value × Hp) :=
  match l, c with
  | .int .i64 n, .int .i64 m => if 0 ≤ n ∧ n ≤ m ∧ m.toNat * bytes ≤ room ∧ m ≤ room then
      some (.slice (some ⟨A.n, 0, some esz⟩) n.toNat m.toNat, A.push (.cells (zeros m.toNat z) false)) else none
  | _, _ => none
def lessB : List UInt8 → List UInt8 → Bool
  | _, [] => false
  | [], _ :: _ => true
  | a :: x, b :: y => a < b || (a == b && lessB x y)
def strEq (x y : ByteArray) : Bool := x.data.toList == y.data.toList
def strLt (x y : ByteArray) : Bool := lessB x.data.toList y.data.toList
def strA (op : BinOp) (x y : ByteArray) : Option Value :=
  match op with
  | .add => if ((x.size + y.size : Nat) : Int) > 9223372036854775807 then none else some (.string (x ++ y))
  | .eql => some (.bool (strEq x y))
  | .neq => some (.bool (!strEq x y))
  | .lss => some (.bool (strLt x y))
  | .leq => some (.bool (strLt x y || strEq x y))
  | .gtr => some (.bool (!(strLt x y || strEq x y)))
  | .geq => some (.bool (!strLt x y))
  | _ => none
def strOpA (op : BinOp) (x y : Value) : Option Value :=
  match x, y with
  | .string a, .string b => strA op a b
  | _, _ => none
def strIdxA (x i : Value) : Option Value :=
  match x, i with
  | .string s, .int _ i => if 0 ≤ i then (s.data.toList[i.toNat]?).map fun b => .int .u8 b.toNat else none
  | _, _ => none
def bytesOf (s : ByteArray) : List Value := s.data.toList.map fun b => .int .u8 b.toNat
def toBytesA (x : Value) (A : Hp) : Option (Value × Hp) :=
  match x with
  | .string s => some (.slice (some ⟨A.n, 0, some 1⟩) s.size s.size, A.push (.cells (bytesOf s) true))
  | _ => none
def u8sOf : List Value → Option (List UInt8)
  | [] => some []
  | .int .u8 n :: l => if 0 ≤ n ∧ n < 256 then (u8sOf l).map fun r => UInt8.ofNat n.toNat :: r else none
  | _ => none
def toStrA (x : Value) (A : Hp) : Option Value :=
  match x with
  | .slice none 0 0 => some (.string ⟨#[]⟩)
  | .slice (some ⟨b, o, some 1⟩) n c => match cellsAt A n (.slice (some ⟨b, o, some 1⟩) n c) with
    | some vs => (u8sOf vs).map fun l => .string ⟨l.toArray⟩
    | none => none
  | _ => none
def keyFits (kt : Nat) : Value → Bool
  | .int _ _ => kt == 0
  | .string _ => kt == 1
  | .bool _ => kt == 2
  | _ => false
def keyEq : Value → Value → Option Bool
  | .int a n, .int b m => if kEq a b then some (n == m) else none
  | .string a, .string b => some (strEq a b)
  | .bool a, .bool b => some (a == b)
  | _, _ => none
def findM (k : Value) : List (Value × Value) → Option (Option Value)
  | [] => some none
  | (k', v) :: l => match keyEq k k' with
    | some true => some (some v)
    | some false => findM k l
    | none => none
def setM (k v : Value) : List (Value × Value) → Option (List (Value × Value))
  | [] => some [(k, v)]
  | (k', v') :: l => match keyEq k k' with
    | some true => some ((k, v) :: l)
    | some false => (setM k v l).map fun r => (k', v') :: r
    | none => none
def mapOf (A : Hp) : Value → Option (List (Value × Value))
  | .map none => some []
  | .map (some x) => match A.get x with
    | some (.map l _) => some l
    | _ => none
  | _ => none
def lookupA (A : Hp) (kt : Nat) (z : Value) (ok : Bool) (x k : Value) : Option Value :=
  match mapOf A x with
  | some l => if keyFits kt k = true then (findM k l).map fun r => if ok then .tuple ⟨[r.getD z, .bool r.isSome]⟩ else r.getD z else none
  | none => none
def lenMA (A : Hp) (x : Value) : Option Value := (mapOf A x).map fun l => goInt l.length
def mapSetA (g : Nat) (A : Hp) (kt : Nat) (x k v : Value) : Option Hp :=
  match x with
  | .map (some r) => match A.get r with
    | some (.map l none) => if g ≤ r ∧ keyFits kt k = true then (setM k v l).map fun l' => A.set r (some (.map l' none)) else none
    | _ => none
  | _ => none
def clearMA (g : Nat) (A : Hp) (x : Value) : Option Hp :=
  match x with
  | .map none => some A
  | .map (some r) => match A.get r with
    | some (.map _ none) => if g ≤ r then some (A.set r (some (.map [] none))) else none
    | _ => none
  | _ => none
def capsOf : Value → List Nat
  | .func (.func _) a b => (a.toList ++ b.toList).filterMap fun v => match v with
    | .pointer (some ⟨x, _, _⟩) => some x
    | _ => none
  | .slice (some ⟨x, _, _⟩) _ _ => [x]
  | _ => []
def OnlyC (A : Hp) (f : Value) (A' : Hp) : Prop := ∀ x, x < A.n → x ∉ capsOf f → A'.get x = A.get x
open Classical in
def stillBut (A : Hp) (f : Value) : Option (Value × Hp) → Option (Value × Hp)
  | some (v, A') => if OnlyC A f A' then some (v, A') else none
  | none => none
def storeV (r : Option Hp) : Option (Value × Hp) := r.map fun A' => (undef, A')
def opA : AOp → OpFn
  | .move x => fun _ _ T A => some (ev T x, A)
  | .pick c a b => fun _ _ T A => pureV (pickA (ev T c) (ev T a) (ev T b)) A
  | .nilCheck x => fun _ _ T A => pureV (nilCheckA (ev T x)) A
  | .bin op x y => fun _ _ T A => pureV (binA op (ev T x) (ev T y)) A
  | .beq neg x y => fun _ _ T A => pureV (beqA neg (ev T x) (ev T y)) A
  | .eqv neg sh x y => fun _ _ T A => pureV (eqvA neg sh (ev T x) (ev T y)) A
  | .eqNil kind neg x => fun _ _ T A => pureV (eqNilA kind neg (ev T x)) A
  | .neg x => fun _ _ T A => pureV (negA (ev T x)) A
  | .not x => fun _ _ T A => pureV (notA (ev T x)) A
  | .toInt k x => fun _ _ T A => pureV (toIntA k (ev T x)) A
  | .toF64 x => fun _ _ T A => pureV (toF64A (ev T x)) A
  | .makeFunc f first captured => fun _ _ T A => some (.func (.func f) (first.map (ev T)).toArray (captured.map (ev T)).toArray, A)
  | .build z parts => fun _ _ T A => pureV ((fillA z (parts.map fun p => (p.1, p.2.1, ev T p.2.2))).map fun cs => .agg cs.toArray) A
  | .fieldAddr x off => fun _ _ T A => pureV (fieldAddrA off (ev T x)) A
  | .field x off size => fun _ _ T A => pureV (fieldA off size (ev T x)) A
  | .idxS x i esz => fun _ _ T A => pureV (idxSA esz (ev T x) (ev T i)) A
  | .idxA x i len esz => fun _ _ T A => pureV (idxAA len esz (ev T x) (ev T i)) A
  | .index x i len esz agg => fun _ _ T A => pureV (indexA len esz agg (ev T x) (ev T i)) A
  | .reslice x lo hi esz => fun _ _ T A => pureV (resliceA esz (ev T x) (boundA T 0 lo) (fun n => boundA T n hi)) A
  | .extract x i => fun _ _ T A => pureV (extractA i (ev T x)) A
  | .len x => fun _ _ T A => pureV (lenV (ev T x)) A
  | .lenT x => fun _ _ T A => pureV (lenTV (ev T x)) A
  | .min xs => fun _ _ T A => pureV (minA (xs.map (ev T))) A
  | .max xs => fun _ _ T A => pureV (maxA (xs.map (ev T))) A
  | .alloc z => fun _ _ _ A => allocA z A
  | .box x => fun _ _ T A => allocA (ev T x).cells.toList A
  | .slit n esz z parts => fun _ _ T A => slitA n esz (fillA (zeros n z) (parts.map fun p => (p.1 * esz, esz, ev T p.2))) A
  | .makeS l c esz bytes z => fun _ _ T A => makeSA esz bytes z (ev T l) (ev T c) A
  | .load x size => fun _ _ T A => pureV (loadA A (ev T x) size) A
  | .store x v size => fun _ g T A => storeV (storeA g A (ev T x) (ev T v) size)
  | .append s x esz bytes => fun _ g T A => appendA g A esz bytes (ev T s) (ev T x)
  | .copy d s esz => fun _ g T A => copyA g A esz (ev T d) (ev T s)
  | .call f args ro => fun cv g T A => cv (if ro then A.n else g) (ev T f) (args.map (ev T)) A
  | .callC c f args => fun cv g T A => stillBut A (ev T c) (cv g (ev T f) (args.map (ev T)) A)
  | .strOp op x y => fun _ _ T A => pureV (strOpA op (ev T x) (ev T y)) A
  | .strIdx x i => fun _ _ T A => pureV (strIdxA (ev T x) (ev T i)) A
  | .toBytes x => fun _ _ T A => toBytesA (ev T x) A
  | .toStr x => fun _ _ T A => pureV (toStrA (ev T x) A) A
  | .makeM => fun _ _ _ A => some (.map (some A.n), A.push (.map [] none))
  | .lookup x k kt z ok => fun _ _ T A => pureV (lookupA A kt z ok (ev T x) (ev T k)) A
  | .mapSet x k v kt => fun _ g T A => storeV (mapSetA g A kt (ev T x) (ev T k) (ev T v))
  | .lenM x => fun _ _ T A => pureV (lenMA A (ev T x)) A
  | .clearM x => fun _ g T A => (clearMA g A (ev T x)).map fun A' => (.tuple ⟨[]⟩, A')
  | .rangeI _ => fun _ _ _ _ => none
  | .nextI _ => fun _ _ _ _ => none
  | .entryI _ => fun _ _ _ _ => none
  | .fail => fun _ _ _ _ => none
def putA : Option Nat → List Value → Value → List Value
  | some d => fun T v => tset T d v
  | none => fun T _ => T
def wantedA : Option (Nat × Bool) → List Value → Bool
  | none => fun _ => true
  | some (d, b) => fun T => match tget T d with
    | .bool b' => b' == b
    | _ => false
def apartA (T : List Value) (p : Opd × Nat × Opd × Nat) : Bool :=
  match ev T p.1, ev T p.2.2.1 with
  | .pointer (some ⟨b, o, none⟩), .pointer (some ⟨b', o', none⟩) => decide (b ≠ b' ∨ o + p.2.1 ≤ o' ∨ o' + p.2.2.2 ≤ o)
  | .func f a b, .pointer (some ⟨x, _, _⟩) => !(capsOf (.func f a b)).contains x
  | .slice (some ⟨y, _, _⟩) _ _, .pointer (some ⟨x, _, _⟩) => decide (x ≠ y)
  | _, _ => true
def forceN {α : Sort _} (n : Nat) (k : Nat → α) : α := Nat.casesOn (motive := fun _ => α) n (k 0) (fun m => k (m + 1))
def forceV {α : Sort _} (v : Value) (k : Value → α) : α :=
  match v with
  | .int kd (.ofNat m) => forceN m fun m => k (.int kd (.ofNat m))
  | .int kd (.negSucc m) => forceN m fun m => k (.int kd (.negSucc m))
  | .bool true => k (.bool true)
  | .bool false => k (.bool false)
  | v => k v
@[simp] theorem forceN_eq {α : Sort _} (n : Nat) (k : Nat → α) : forceN n k = k n := by cases n <;> rfl
@[simp] theorem forceV_eq {α : Sort _} (v : Value) (k : Value → α) : forceV v k = k v := by
  unfold forceV; split <;> simp
def operA (o : AOper) (next : List Value → Hp → Option (List Value × Hp)) : CallFn → Nat → List Value → Hp → Option (List Value × Hp) := fun cv g T A =>
  if wantedA o.guard T = true then
    if o.apart.all (apartA T) = true then
      match opA o.op cv g T A with
      | some (v, A') => forceV v fun v => next (putA o.dst T v) A'
      | none => none
    else none
  else next (putA o.dst T undef) A
def opsA (cv : CallFn) (g : Nat) : List AOper → List Value → Hp → Option (List Value × Hp) :=
  List.rec (motive := fun _ => List Value → Hp → Option (List Value × Hp)) (fun T A => some (T, A)) (fun o _ ih => fun T A => operA o ih cv g T A)
@[simp] theorem opsA_nil (cv : CallFn) (g : Nat) (T : List Value) (A : Hp) : opsA cv g [] T A = some (T, A) := rfl
theorem opsA_cons (cv : CallFn) (g : Nat) (o : AOper) (l : List AOper) (T : List Value) (A : Hp) : opsA cv g (o :: l) T A = operA o (opsA cv g l) cv g T A := rfl
def zipArgs (T : List Value) : List Nat → List Value → List Value
  | t :: ts, v :: vs => zipArgs (tset T t v) ts vs
  | _, _ => T
def takeMarks (A : Hp) : List Nat → Option Hp
  | [] => some A
  | x :: xs => match A.get x with
    | some .marks => takeMarks (A.set x none) xs
    | _ => none
def resOne (T : List Value) (A : Hp) : ARes → Option Value
  | .tmp t => some (tget T t)
  | .cell a size => loadA A (tget T a) size
def resAll (T : List Value) (A : Hp) : List ARes → Option (List Value)
  | [] => some []
  | r :: rs => match resOne T A r with
    | some v => (resAll T A rs).map fun vs => v :: vs
    | none => none
def resA (res : List ARes) (T : List Value) (A : Hp) : Option Value :=
  match resAll T A res with
  | some [v] => some v
  | some vs => some (.tuple vs.toArray)
  | none => none
def sqrtA : List Value → Option Value
  | [.float .f64 x] => (FloatKind.f64.format.sqrt x).map fun r => .float .f64 r
  | _ => none
abbrev RunFn := Nat → Option Nat → St → Option (Ex × St)
def Ex.pend : Ex → Option (Option Nat)
  | .normal => none
  | .ret => some none
  | .exit id => some (some id)
def finishA (res : List ARes) : Option (Ex × St) → Option (Value × Hp)
  | some (.exit _, _) => none
  | some (_, st') => match takeMarks st'.A st'.D with
    | some A' => (resA res st'.T A').map fun v => (v, A')
    | none => none
  | none => none
def enterA (run : ACode → RunFn) (g : Nat) (args : List Value) (A : Hp) : Option AFunc → Option (Value × Hp)
  | some (.fn _ res body) => finishA res (run body g none ⟨args, [], A⟩)
  | some .sqrt => pureV (sqrtA args) A
  | none => none
def callF (AP : Nat → Option AFunc) (K : Nat → Option Spec) (run : ACode → RunFn) (g : Nat) (f : Nat) (args : List Value) (A : Hp) : Option (Value × Hp) :=
  match K f with
  | some S => S g args A
  | none => enterA run g args A (AP f)
def endRoundA (l : Nat) : Option (Ex × St) → Option (Value × Hp)
  | some (e, st2) => match st2.A.get l with
    | some (.loop r2) => some (.bool e.pend.isNone, st2.A.set l (some (.loop { r2 with state := if e.pend.isNone then .ready else .done, pending := e.pend })))
    | _ => none
  | none => none
def beginRoundA (run : ACode → RunFn) (g l : Nat) (body : ACode) : Option (Ex × St) → Option (Value × Hp)
  | some (.normal, st1) => match st1.A.get l with
    | some (.loop r1) => match r1.state with
      | .ready => endRoundA l (run body g (some l) ⟨st1.T, st1.D, st1.A.set l (some (.loop { r1 with state := .busy }))⟩)
      | _ => none
    | _ => none
  | _ => none
def yieldA (run : ACode → RunFn) (g l : Nat) (args : List Value) (A : Hp) : Option (Value × Hp) :=
  match A.get l with
  | some (.loop r) =>
    if args.length = r.params.length ∧ g ≤ l then
      beginRoundA run g l r.body (run r.assign g (some l) ⟨zipArgs r.tmps r.params args, [], A⟩)
    else none
  | _ => none
def callV (AP : Nat → Option AFunc) (K : Nat → Option Spec) (run : ACode → RunFn) : CallFn := fun g f args A =>
  match f with
  | .func (.func h) first captured => callF AP K run g h (first.toList ++ args ++ captured.toList) A
  | .func (.yield l) ⟨[]⟩ ⟨[]⟩ => yieldA run g l args A
  | _ => none
def inBlk (id : Nat) : Option (Ex × St) → Option (Ex × St)
  | some (.exit i, st) => if i = id then some (.normal, st) else some (.exit i, st)
  | r => r
def seqA (b : RunFn) (g : Nat) (rd : Option Nat) : Option (Ex × St) → Option (Ex × St)
  | some (.normal, st1) => b g rd st1
  | r => r
def condA (a b : RunFn) (g : Nat) (rd : Option Nat) (st : St) : Value → Option (Ex × St)
  | .bool true => a g rd st
  | .bool false => b g rd st
  | _ => none
def iterA (body : RunFn) (m : Nat) : RunFn :=
  Nat.rec (motive := fun _ => RunFn) (fun _ _ _ => none) (fun _ ih => fun g rd st => seqA ih g rd (body g rd st)) m
def endLoopA (l : Nat) (T : List Value) (D : List Nat) : Option (Value × Hp) → Option (Ex × St)
  | some (_, A3) => match A3.get l with
    | some (.loop r) => match r.state with
      | .busy => none
      | _ => match r.pending with
        | none => some (.normal, ⟨T, D, A3.set l (some (.loop { r with state := .exhausted }))⟩)
        | some none => some (.ret, ⟨T, D, A3.set l (some (.loop { r with state := .exhausted }))⟩)
        | some (some id) => some (.exit id, ⟨T, D, A3.set l (some (.loop { r with state := .exhausted }))⟩)
    | _ => none
  | none => none
def rangeA (cf : Nat → Nat → List Value → Hp → Option (Value × Hp)) (ps : List Nat) (assign body : ACode) (g : Nat) (rd : Option Nat) (st : St) : Value → Option (Ex × St)
  | .func (.func h) first captured =>
    match rd with
    | none => endLoopA (st.A.n + 1) st.T (st.A.n :: st.D) (cf g h (first.toList ++ [.func (.yield (st.A.n + 1)) #[] #[]] ++ captured.toList)
        ((st.A.push .marks).push (.loop { state := .ready, pending := none, tmps := st.T, params := ps, assign, body })))
    | some l => match st.A.get l with
      | some (.loop _) => endLoopA st.A.n st.T st.D (cf g h (first.toList ++ [.func (.yield st.A.n) #[] #[]] ++ captured.toList)
          (st.A.push (.loop { state := .ready, pending := none, tmps := st.T, params := ps, assign, body })))
      | _ => none
  | _ => none
def opsSt (cv : CallFn) (g : Nat) (l : List AOper) (st : St) : Option (Ex × St) := (opsA cv g l st.T st.A).map fun r => (.normal, ⟨r.1, st.D, r.2⟩)
def codeA (cv : CallFn) (cf : Nat → Nat → List Value → Hp → Option (Value × Hp)) (m : Nat) : ACode → RunFn :=
  ACode.rec (motive := fun _ => RunFn)
    (fun _ _ st => some (.normal, st))
    (fun l g _ st => opsSt cv g l st)
    (fun _ _ a b g rd st => seqA b g rd (a g rd st))
    (fun c _ _ a b g rd st => condA a b g rd st (ev st.T c))
    (fun id _ c g rd st => inBlk id (c g rd st))
    (fun _ c => iterA c m)
    (fun id _ _ st => some (.exit id, st))
    (fun _ _ st => some (.ret, st))
    (fun f ps assign body _ _ g rd st => rangeA cf ps assign body g rd st (ev st.T f))
def exec (AP : Nat → Option AFunc) (K : Nat → Option Spec) (m d : Nat) : ACode → RunFn :=
  Nat.rec (motive := fun _ => ACode → RunFn) (fun _ _ _ _ => none) (fun _ ih => codeA (callV AP K ih) (callF AP K ih) m) d
end
end Go.Ab
set_option maxRecDepth 100000
namespace Go.Ab.Dike
open Go.Ab
def F37 : AFunc :=
 .fn 34 [.tmp 2]
 (.seq
 (.ops [
oP 1 (.box (.t 0)),
oP 2 (.move (oK 0))])
 (.seq
 (.block 0
 (.seq
 (.ops [
oF 4 1 0,
oL 5 4,
oA 6 55 [.t 5, .k (.int .i64 1), .k (.int .i64 24)] false,
oP 7 (.not (.t 6)),
oM 8 7,
oQ 9 8 false (.fieldAddr (.t 1) 1),
oQ 10 8 false (.load (.t 9) none),
oQ 11 8 false (.call (.k (.func (.func 55) ⟨[]⟩ ⟨[]⟩)) [.t 10, .k (.int .i64 1), .k (.int .i64 24)] false),
oQ 12 8 false (.not (.t 11)),
oP 13 (.pick (.t 8) (.k (.bool true)) (.t 12)),
oM 14 13,
oQ 15 14 false (.fieldAddr (.t 1) 2),
oQ 16 14 false (.load (.t 15) none),
oQ 17 14 false (.call (.k (.func (.func 55) ⟨[]⟩ ⟨[]⟩)) [.t 16, .k (.int .i64 1), .k (.int .i64 10000)] false),
oQ 18 14 false (.not (.t 17)),
oP 19 (.pick (.t 14) (.k (.bool true)) (.t 18)),
oM 3 19])
 (.cond (.t 3)
 (.seq
 (.ops [
oP 2 (.move (oK 3))])
 .ret)
 (.seq
 (.ops [
oF 21 1 3,
oL 22 21,
oP 23 (.len (.t 22)),
oF 24 1 0,
oL 25 24,
oF 26 1 1,
oL 27 26,
oB 28 .mul 25 27,
oB 29 .neq 23 28,
oM 20 29])
 (.cond (.t 20)
 (.seq
 (.ops [
oP 2 (.move (oK 11))])
 .ret)
 (.seq
 (.ops [
oF 31 1 3,
oL 32 31,
oP 33 (.call (.k (.func (.func 56) ⟨[]⟩ ⟨[]⟩)) [.t 32, .k (.func (.func 57) ⟨[]⟩ ⟨[]⟩)] false),
oM 30 33])
 (.cond (.t 30)
 (.seq
 (.ops [
oP 2 (.move (oK 3))])
 .ret)
 .skip)))))))
 (.seq
 (.ops [
oP 2 (.move (oK 0))])
 .ret)))
def F55 : AFunc :=
 .fn 15 [.tmp 6]
 (.seq
 (.ops [
oP 6 (.move (.k (.bool false)))])
 (.seq
 (.ops [
oM 7 0,
oM 8 1,
oB 9 .geq 7 8,
oM 10 9,
oN 11 10 true 0,
oN 12 10 true 2,
oQ 13 10 true (.bin .leq (.t 11) (.t 12)),
oP 14 (.pick (.t 10) (.t 13) (.k (.bool false))),
oM 6 14])
 .ret))
def F56 : AFunc :=
 .fn 9 [.tmp 4]
 (.seq
 (.ops [
oP 4 (.move (.k (.bool false)))])
 (.seq
 (.ops [
oM 5 0,
oM 6 1,
oA 7 82 [.t 5, .t 6] false,
oC 8 .geq 7 0,
oM 4 8])
 .ret))
def F57 : AFunc :=
 .fn 6 [.tmp 2]
 (.seq
 (.ops [
oP 1 (.box (.t 0)),
oP 2 (.move (.k (.bool false)))])
 (.seq
 (.ops [
oD 3 1 2,
oA 4 58 [.t 3, .k (.int .i64 1200000)] false,
oP 5 (.not (.t 4)),
oM 2 5])
 .ret))
def F58 : AFunc :=
 .fn 23 [.tmp 4]
 (.seq
 (.ops [
oP 2 (.box (.t 0)),
oP 4 (.move (.k (.bool false)))])
 (.seq
 (.ops [
oF 5 2 0,
oL 6 5,
oF 7 2 1,
oL 8 7,
oB 9 .leq 6 8,
oM 10 9,
oQ 11 10 true (.fieldAddr (.t 2) 0),
oQ 12 10 true (.load (.t 11) none),
oN 13 10 true 1,
oQ 14 10 true (.neg (.t 13)),
oQ 15 10 true (.bin .geq (.t 12) (.t 14)),
oP 16 (.pick (.t 10) (.t 15) (.k (.bool false))),
oM 17 16,
oQ 18 17 true (.fieldAddr (.t 2) 1),
oQ 19 17 true (.load (.t 18) none),
oN 20 17 true 1,
oQ 21 17 true (.bin .leq (.t 19) (.t 20)),
oP 22 (.pick (.t 17) (.t 21) (.k (.bool false))),
oM 4 22])
 .ret))
def body82 : ACode := (.seq
 (.ops [
oB 9 .lss 8 7])
 (.seq
 (.cond (.t 9)
 .skip
 (.exit 0))
 (.seq
 (.block 1
 (.seq
 (.ops [
oM 10 8,
oM 5 10])
 (.seq
 (.ops [
oM 11 1,
oM 12 0,
oM 13 5,
oI 14 12 13 2,
oD 15 14 2,
oP 16 (.call (.t 11) [.t 15] false)])
 (.cond (.t 16)
 (.seq
 (.ops [
oM 17 5,
oM 4 17])
 .ret)
 .skip))))
 (.ops [
oC 18 .add 8 1,
oM 8 18]))))
def F82 : AFunc :=
 .fn 19 [.tmp 4]
 (.seq
 (.ops [
oP 4 (.move (oK 0))])
 (.seq
 (.seq
 (.ops [
oM 6 0,
oP 7 (.len (.t 6)),
oP 8 (.move (oK 0))])
 (.block 0
 (.loop body82)))
 (.seq
 (.ops [
oP 4 (.move (oK (-1)))])
 .ret)))
def body83 : ACode := (.seq
 (.seq
 (.ops [
oM 34 8,
oM 35 7,
oP 36 (.len (.t 35)),
oB 37 .lss 34 36])
 (.cond (.t 37)
 .skip
 (.exit 0)))
 (.block 1
 (.ops [
oM 38 8,
oM 39 7,
oM 40 8,
oP 41 (.reslice (.t 39) (some (.t 40)) none 1),
oM 42 7,
oM 43 8,
oP 44 (.reslice (.t 42) none (some (.t 43)) 1),
oP 45 (.copy (.t 41) (.t 44) 1),
oB 46 .add 38 45,
oM 8 46])))
def F83 : AFunc :=
 .fn 48 [.tmp 4]
 (.seq
 (.ops [
oP 4 (.move (.k (.slice none 0 0)))])
 (.seq
 (.seq
 (.ops [
oM 9 1,
oC 10 .lss 9 0])
 (.cond (.t 10)
 (.ops [
oP 11 (.fail),
⟨none, none, [], .fail⟩])
 .skip))
 (.seq
 (.ops [
oM 13 0,
oP 14 (.len (.t 13)),
oP 15 (.toInt .u64 (.t 14)),
oM 16 1,
oP 17 (.toInt .u64 (.t 16)),
oA 18 93 [.t 15, .t 17] false,
oM 12 18,
oX 19 12 0,
oX 20 12 1,
oM 5 19,
oM 6 20])
 (.seq
 (.seq
 (.ops [
oM 21 5,
oP 22 (.bin .gtr (.t 21) (.k (.int .u64 0))),
oM 23 22,
oN 24 23 false 6,
oQ 25 23 false (.bin .gtr (.t 24) (.k (.int .u64 9223372036854775807))),
oP 26 (.pick (.t 23) (.k (.bool true)) (.t 25))])
 (.cond (.t 26)
 (.ops [
oP 27 (.fail),
⟨none, none, [], .fail⟩])
 .skip))
 (.seq
 (.ops [
oM 28 6,
oP 29 (.toInt .i64 (.t 28)),
oP 30 (.makeS (.t 29) (.t 29) 1 8 [.int .i64 0]),
oM 7 30])
 (.seq
 (.ops [
oM 31 7,
oM 32 0,
oP 33 (.copy (.t 31) (.t 32) 1),
oM 8 33])
 (.seq
 (.block 0
 (.loop body83))
 (.seq
 (.ops [
oM 47 7,
oM 4 47])
 .ret))))))))
def F93 : AFunc :=
 .fn 30 [.tmp 4, .tmp 5]
 (.seq
 (.ops [
oP 4 (.move (.k (.int .u64 0))),
oP 5 (.move (.k (.int .u64 0)))])
 (.seq
 (.cond (.k (.bool false))
 (.seq
 (.ops [
oM 11 0,
oP 12 (.toInt .u32 (.t 11)),
oM 13 1,
oP 14 (.toInt .u32 (.t 13)),
oA 15 107 [.t 12, .t 14] false,
oM 10 15,
oX 16 10 0,
oX 17 10 1,
oM 6 16,
oM 7 17])
 (.seq
 (.ops [
oM 18 6,
oP 19 (.toInt .u64 (.t 18)),
oM 20 7,
oP 21 (.toInt .u64 (.t 20)),
oM 4 19,
oM 5 21])
 .ret))
 .skip)
 (.seq
 (.ops [
oM 23 0,
oM 24 1,
oA 25 108 [.t 23, .t 24] false,
oM 22 25,
oX 26 22 0,
oX 27 22 1,
oM 8 26,
oM 9 27])
 (.seq
 (.ops [
oM 28 8,
oM 29 9,
oM 4 28,
oM 5 29])
 .ret))))
def F107 : AFunc :=
 .fn 17 [.tmp 4, .tmp 5]
 (.seq
 (.ops [
oP 4 (.move (.k (.int .u32 0))),
oP 5 (.move (.k (.int .u32 0)))])
 (.seq
 (.ops [
oM 7 0,
oP 8 (.toInt .u64 (.t 7)),
oM 9 1,
oP 10 (.toInt .u64 (.t 9)),
oB 11 .mul 8 10,
oM 6 11])
 (.seq
 (.ops [
oM 12 6,
oP 13 (.bin .shr (.t 12) (.k (.int .u64 32))),
oP 14 (.toInt .u32 (.t 13)),
oM 15 6,
oP 16 (.toInt .u32 (.t 15)),
oM 4 14,
oM 5 16])
 .ret)))
def F108 : AFunc :=
 .fn 51 [.tmp 4, .tmp 5]
 (.seq
 (.ops [
oP 4 (.move (.k (.int .u64 0))),
oP 5 (.move (.k (.int .u64 0)))])
 (.seq
 (.ops [
oM 14 0,
oP 15 (.bin .and (.t 14) (.k (.int .u64 4294967295))),
oM 6 15])
 (.seq
 (.ops [
oM 16 0,
oP 17 (.bin .shr (.t 16) (.k (.int .u64 32))),
oM 7 17])
 (.seq
 (.ops [
oM 18 1,
oP 19 (.bin .and (.t 18) (.k (.int .u64 4294967295))),
oM 8 19])
 (.seq
 (.ops [
oM 20 1,
oP 21 (.bin .shr (.t 20) (.k (.int .u64 32))),
oM 9 21])
 (.seq
 (.ops [
oM 22 6,
oM 23 8,
oB 24 .mul 22 23,
oM 10 24])
 (.seq
 (.ops [
oM 25 7,
oM 26 8,
oB 27 .mul 25 26,
oM 28 10,
oP 29 (.bin .shr (.t 28) (.k (.int .u64 32))),
oB 30 .add 27 29,
oM 11 30])
 (.seq
 (.ops [
oM 31 11,
oP 32 (.bin .and (.t 31) (.k (.int .u64 4294967295))),
oM 12 32])
 (.seq
 (.ops [
oM 33 11,
oP 34 (.bin .shr (.t 33) (.k (.int .u64 32))),
oM 13 34])
 (.seq
 (.ops [
oM 35 12,
oM 36 6,
oM 37 9,
oB 38 .mul 36 37,
oB 39 .add 35 38,
oM 12 39])
 (.seq
 (.ops [
oM 40 7,
oM 41 9,
oB 42 .mul 40 41,
oM 43 13,
oB 44 .add 42 43,
oM 45 12,
oP 46 (.bin .shr (.t 45) (.k (.int .u64 32))),
oB 47 .add 44 46,
oM 4 47])
 (.seq
 (.ops [
oM 48 0,
oM 49 1,
oB 50 .mul 48 49,
oM 5 50])
 .ret))))))))))))
def F112 : AFunc :=
 .fn 6 [.tmp 4]
 (.seq
 (.ops [
oP 2 (.box (.t 0)),
oP 3 (.box (.t 1)),
oP 4 (.move (.k (.nilFunc)))])
 (.seq
 (.ops [
oP 5 (.makeFunc 114 [] [.t 3, .t 2]),
oM 4 5])
 .ret))
def body114 : ACode := (.seq
 (.ops [
oB 25 .lss 24 23])
 (.seq
 (.cond (.t 25)
 .skip
 (.exit 0))
 (.seq
 (.block 1
 (.seq
 (.ops [
oI 26 22 24 2,
oD 27 26 2,
oP 7 (.alloc [.int .i64 0, .int .i64 0]),
oT 7 27 2])
 (.seq
 (.ops [
oM 28 4,
oP 29 (.idxA (.t 7) (oK 0) 2 1),
oL 30 29,
oB 31 .add 28 30,
oM 32 5,
oP 33 (.idxA (.t 7) (oK 1) 2 1),
oL 34 33,
oB 35 .add 32 34,
oM 8 31,
oM 9 35])
 (.seq
 (.ops [
oM 36 8,
oF 37 2 0,
oL 38 37,
oC 39 .sub 38 1,
oA 40 55 [.t 36, .k (.int .i64 0), .t 39] false,
oM 41 40,
oN 42 41 true 9,
oQ 43 41 true (.fieldAddr (.t 2) 1),
oQ 44 41 true (.load (.t 43) none),
oQ 45 41 true (.bin .sub (.t 44) (oK 1)),
oQ 46 41 true (.call (.k (.func (.func 55) ⟨[]⟩ ⟨[]⟩)) [.t 42, .k (.int .i64 0), .t 45] false),
oP 47 (.pick (.t 41) (.t 46) (.k (.bool false))),
oM 48 47,
oN 49 48 true 0,
oN 50 48 true 9,
oQ 51 48 true (.fieldAddr (.t 2) 0),
oQ 52 48 true (.load (.t 51) none),
oQ 53 48 true (.bin .mul (.t 50) (.t 52)),
oN 54 48 true 8,
oQ 55 48 true (.bin .add (.t 53) (.t 54)),
oQ 56 48 true (.call (.t 49) [.t 55] false),
oQ 57 48 true (.not (.t 56)),
oP 58 (.pick (.t 48) (.t 57) (.k (.bool false)))])
 (.cond (.t 58)
 .ret
 .skip)))))
 (.ops [
oC 59 .add 24 1,
oM 24 59]))))
def F114 : AFunc :=
 .fn 60 []
 (.seq
 (.ops [
oL 10 1,
oF 11 2 0,
oL 12 11,
oB 13 .rem 10 12,
oL 14 1,
oF 15 2 0,
oL 16 15,
oB 17 .quo 14 16,
oM 4 13,
oM 5 17])
 (.seq
 (.ops [
oP 18 (.build [.int .i64 0, .int .i64 0] [(0, 1, .k (.int .i64 1)), (1, 1, .k (.int .i64 0))]),
oP 19 (.build [.int .i64 0, .int .i64 0] [(0, 1, .k (.int .i64 0)), (1, 1, .k (.int .i64 1))]),
oP 20 (.build [.int .i64 0, .int .i64 0] [(0, 1, .k (.int .i64 (-1))), (1, 1, .k (.int .i64 0))]),
oP 21 (.build [.int .i64 0, .int .i64 0] [(0, 1, .k (.int .i64 0)), (1, 1, .k (.int .i64 (-1)))]),
oP 22 (.slit 4 2 [.int .i64 0, .int .i64 0] [(0, .t 18), (1, .t 19), (2, .t 20), (3, .t 21)]),
oP 23 (.len (.t 22)),
oP 24 (.move (oK 0))])
 (.block 0
 (.loop body114))))
def F121 : AFunc :=
 .fn 231 [.tmp 0]
 (.seq
 (.ops [
oP 0 (.move (.k (.bool false)))])
 (.seq
 (.ops [
oA 21 141 [.k (.int .i64 300), .k (.int .i64 300)] false,
oA 22 141 [.k (.int .i64 200), .k (.int .i64 250)] false,
oA 23 141 [.k (.int .i64 0), .k (.int .i64 10)] false,
oP 24 (.build [.int .i64 0, .int .i64 0, .int .i64 0, .int .i64 0, .int .i64 0, .int .i64 0, .int .i64 0, .int .i64 0] [(0, 1, .k (.int .i64 1)), (1, 2, .t 21), (3, 2, .t 22), (5, 1, .k (.int .i64 100)), (6, 2, .t 23)]),
oP 1 (.alloc [.int .i64 0, .int .i64 0, .int .i64 0, .int .i64 0, .int .i64 0, .int .i64 0, .int .i64 0, .int .i64 0]),
oT 1 24 8])
 (.seq
 (.ops [
oD 26 1 8,
oA 27 141 [.k (.int .i64 90), .k (.int .i64 120)] true,
oA 28 141 [.k (.int .i64 150), .k (.int .i64 190)] true,
oA 29 141 [.k (.int .i64 180), .k (.int .i64 185)] true,
oA 30 141 [.k (.int .i64 260), .k (.int .i64 270)] true,
oP 31 (.slit 4 2 [.int .i64 0, .int .i64 0] [(0, .t 27), (1, .t 28), (2, .t 29), (3, .t 30)]),
oA 32 122 [.t 26, .t 31] true,
oM 25 32,
oX 33 25 0,
oX 34 25 1,
oP 2 (.alloc [.slice none 0 0, .slice none 0 0, .int .i64 0, .int .i64 0]),
oT 2 33 4,
oM 3 34])
 (.seq
 (.seq
 (.ops [
oM 35 3,
oC 36 .neq 35 0,
oM 37 36,
oQ 38 37 false (.fieldAddr (.t 2) 2),
oQ 39 37 false (.load (.t 38) none),
oQ 40 37 false (.bin .neq (.t 39) (oK 2)),
oP 41 (.pick (.t 37) (.k (.bool true)) (.t 40)),
oM 42 41,
oQ 43 42 false (.fieldAddr (.t 2) 3),
oQ 44 42 false (.load (.t 43) none),
oQ 45 42 false (.bin .neq (.t 44) (oK 3)),
oP 46 (.pick (.t 42) (.k (.bool true)) (.t 45)),
oM 47 46,
oQ 48 47 false (.fieldAddr (.t 2) 1),
oQ 49 47 false (.load (.t 48) none),
oQ 50 47 false (.call (.k (.func (.func 141) ⟨[]⟩ ⟨[]⟩)) [.k (.int .i64 200), .k (.int .i64 250)] true),
oQ 51 47 false (.call (.k (.func (.func 141) ⟨[]⟩ ⟨[]⟩)) [.k (.int .i64 190), .k (.int .i64 250)] true),
oQ 52 47 false (.call (.k (.func (.func 141) ⟨[]⟩ ⟨[]⟩)) [.k (.int .i64 180), .k (.int .i64 250)] true),
oQ 53 47 false (.call (.k (.func (.func 141) ⟨[]⟩ ⟨[]⟩)) [.k (.int .i64 170), .k (.int .i64 250)] true),
oQ 54 47 false (.call (.k (.func (.func 141) ⟨[]⟩ ⟨[]⟩)) [.k (.int .i64 160), .k (.int .i64 250)] true),
oQ 55 47 false (.slit 5 2 [.int .i64 0, .int .i64 0] [(0, .t 50), (1, .t 51), (2, .t 52), (3, .t 53), (4, .t 54)]),
oQ 56 47 false (.call (.k (.func (.func 125) ⟨[]⟩ ⟨[]⟩)) [.t 49, .t 55] false),
oQ 57 47 false (.not (.t 56)),
oP 58 (.pick (.t 47) (.k (.bool true)) (.t 57)),
oM 59 58,
oQ 60 59 false (.fieldAddr (.t 2) 0),
oQ 61 59 false (.load (.t 60) none),
oQ 62 59 false (.len (.t 61)),
oQ 63 59 false (.bin .neq (.t 62) (oK 5)),
oP 64 (.pick (.t 59) (.k (.bool true)) (.t 63)),
oM 65 64,
oQ 66 65 false (.fieldAddr (.t 2) 0),
oQ 67 65 false (.load (.t 66) none),
oQ 68 65 false (.idxS (.t 67) (oK 3) 2),
oQ 69 65 false (.load (.t 68) (some 2)),
oQ 70 65 false (.call (.k (.func (.func 141) ⟨[]⟩ ⟨[]⟩)) [.k (.int .i64 270), .k (.int .i64 300)] true),
oQ 71 65 false (.eqv true [false, false] (.t 69) (.t 70)),
oP 72 (.pick (.t 65) (.k (.bool true)) (.t 71))])
 (.cond (.t 72)
 (.seq
 (.ops [
oP 0 (.move (.k (.bool false)))])
 .ret)
 .skip))
 (.seq
 (.ops [
oA 73 141 [.k (.int .i64 (-500)), .k (.int .i64 (-500))] false,
oA 74 141 [.k (.int .i64 10), .k (.int .i64 20)] false,
oA 75 141 [.k (.int .i64 (-30)), .k (.int .i64 (-30))] false,
oP 76 (.slit 3 2 [.int .i64 0, .int .i64 0] [(0, .t 73), (1, .t 74), (2, .t 75)]),
oP 77 (.build [.int .i64 0, .int .i64 0, .int .i64 0, .slice none 0 0] [(0, 1, .k (.int .i64 3)), (1, 1, .k (.int .i64 1)), (2, 1, .k (.int .i64 100)), (3, 1, .t 76)]),
oP 4 (.alloc [.int .i64 0, .int .i64 0, .int .i64 0, .slice none 0 0]),
oT 4 77 4])
 (.seq
 (.ops [
oD 79 4 4,
oD 80 1 8,
oP 81 (.slit 1 8 [.int .i64 0, .int .i64 0, .int .i64 0, .int .i64 0, .int .i64 0, .int .i64 0, .int .i64 0, .int .i64 0] [(0, .t 80)]),
oD 82 2 4,
oP 83 (.slit 1 4 [.slice none 0 0, .slice none 0 0, .int .i64 0, .int .i64 0] [(0, .t 82)]),
oA 84 126 [.t 79, .t 81, .t 83, .k (.int .i64 3)] false,
oM 78 84,
oX 85 78 0,
oX 86 78 1,
oP 5 (.alloc [.int .i64 0, .int .i64 0, .int .i64 0, .slice none 0 0]),
oT 5 85 4,
oM 3 86])
 (.seq
 (.ops [
oA 88 141 [.k (.int .i64 10), .k (.int .i64 20)] false,
oA 89 141 [.k (.int .i64 5), .k (.int .i64 8)] false,
oA 90 141 [.k (.int .i64 0), .k (.int .i64 0)] false,
oP 91 (.slit 2 2 [.int .i64 0, .int .i64 0] [(0, .t 89), (1, .t 90)]),
oA 92 141 [.k (.int .i64 0), .k (.int .i64 0)] false,
oA 93 141 [.k (.int .i64 12), .k (.int .i64 30)] false,
oP 94 (.slit 2 2 [.int .i64 0, .int .i64 0] [(0, .t 92), (1, .t 93)]),
oA 95 130 [.t 88, .t 91, .t 94] false,
oM 87 95,
oX 96 87 0,
oX 97 87 1,
oM 6 96,
oM 7 97])
 (.seq
 (.seq
 (.ops [
oM 98 3,
oC 99 .neq 98 0,
oM 100 99,
oN 101 100 false 7,
oQ 102 100 false (.bin .neq (.t 101) (oK 0)),
oP 103 (.pick (.t 100) (.k (.bool true)) (.t 102)),
oM 104 103,
oQ 105 104 false (.fieldAddr (.t 5) 3),
oQ 106 104 false (.load (.t 105) none),
oQ 107 104 false (.len (.t 106)),
oQ 108 104 false (.bin .neq (.t 107) (oK 3)),
oP 109 (.pick (.t 104) (.k (.bool true)) (.t 108)),
oM 110 109,
oQ 111 110 false (.fieldAddr (.t 5) 3),
oQ 112 110 false (.load (.t 111) none),
oQ 113 110 false (.idxS (.t 112) (oK 1) 2),
oQ 114 110 false (.load (.t 113) (some 2)),
oQ 115 110 false (.call (.k (.func (.func 141) ⟨[]⟩ ⟨[]⟩)) [.k (.int .i64 10), .k (.int .i64 300)] true),
oQ 116 110 false (.eqv true [false, false] (.t 114) (.t 115)),
oP 117 (.pick (.t 110) (.k (.bool true)) (.t 116)),
oM 118 117,
oN 119 118 false 6,
oQ 120 118 false (.call (.k (.func (.func 141) ⟨[]⟩ ⟨[]⟩)) [.k (.int .i64 15), .k (.int .i64 28)] false),
oQ 121 118 false (.call (.k (.func (.func 141) ⟨[]⟩ ⟨[]⟩)) [.k (.int .i64 0), .k (.int .i64 16)] false),
oQ 122 118 false (.slit 2 2 [.int .i64 0, .int .i64 0] [(0, .t 120), (1, .t 121)]),
oQ 123 118 false (.call (.k (.func (.func 125) ⟨[]⟩ ⟨[]⟩)) [.t 119, .t 122] false),
oQ 124 118 false (.not (.t 123)),
oP 125 (.pick (.t 118) (.k (.bool true)) (.t 124))])
 (.cond (.t 125)
 (.seq
 (.ops [
oP 0 (.move (.k (.bool false)))])
 .ret)
 .skip))
 (.seq
 (.ops [
oA 127 145 [] false,
oA 128 141 [.k (.int .i64 0), .k (.int .i64 10)] false,
oA 129 141 [.k (.int .i64 0), .k (.int .i64 12)] false,
oA 130 141 [.k (.int .i64 40), .k (.int .i64 80)] false,
oP 131 (.slit 2 2 [.int .i64 0, .int .i64 0] [(0, .t 129), (1, .t 130)]),
oA 132 133 [.t 127, .t 128, .t 131] false,
oM 126 132,
oX 133 126 0,
oX 134 126 1,
oX 135 126 2,
oP 9 (.alloc [.int .i64 0, .int .i64 0]),
oM 8 133,
oT 9 134 2,
oM 3 135])
 (.seq
 (.seq
 (.ops [
oM 136 3,
oC 137 .neq 136 0,
oM 138 137,
oQ 139 138 false (.load (.t 9) (some 2)),
oQ 140 138 false (.call (.k (.func (.func 141) ⟨[]⟩ ⟨[]⟩)) [.k (.int .i64 45), .k (.int .i64 70)] true),
oQ 141 138 false (.eqv true [false, false] (.t 139) (.t 140)),
oP 142 (.pick (.t 138) (.k (.bool true)) (.t 141)),
oM 143 142,
oN 144 143 false 8,
oQ 145 143 false (.call (.k (.func (.func 141) ⟨[]⟩ ⟨[]⟩)) [.k (.int .i64 10), .k (.int .i64 30)] false),
oQ 146 143 false (.call (.k (.func (.func 141) ⟨[]⟩ ⟨[]⟩)) [.k (.int .i64 45), .k (.int .i64 70)] false),
oQ 147 143 false (.slit 2 2 [.int .i64 0, .int .i64 0] [(0, .t 145), (1, .t 146)]),
oQ 148 143 false (.call (.k (.func (.func 125) ⟨[]⟩ ⟨[]⟩)) [.t 144, .t 147] false),
oQ 149 143 false (.not (.t 148)),
oP 150 (.pick (.t 143) (.k (.bool true)) (.t 149))])
 (.cond (.t 150)
 (.seq
 (.ops [
oP 0 (.move (.k (.bool false)))])
 .ret)
 .skip))
 (.seq
 (.ops [
oA 152 145 [] false,
oA 153 146 [.t 152, .k (.int .i64 0)] false,
oM 151 153,
oX 154 151 0,
oX 155 151 1,
oM 10 154,
oM 3 155])
 (.seq
 (.seq
 (.ops [
oM 156 3,
oC 157 .neq 156 0,
oM 158 157,
oN 159 158 false 10,
oQ 160 158 false (.call (.k (.func (.func 147) ⟨[]⟩ ⟨[]⟩)) [.t 159, .k (.int .i64 1), .k (.int .i64 0)] false),
oQ 161 158 false (.bin .neq (.t 160) (oK 6)),
oP 162 (.pick (.t 158) (.k (.bool true)) (.t 161)),
oM 163 162,
oN 164 163 false 10,
oQ 165 163 false (.call (.k (.func (.func 147) ⟨[]⟩ ⟨[]⟩)) [.t 164, .k (.int .i64 0), .k (.int .i64 0)] false),
oQ 166 163 false (.bin .neq (.t 165) (oK 0)),
oP 167 (.pick (.t 163) (.k (.bool true)) (.t 166)),
oM 168 167,
oN 169 168 false 10,
oQ 170 168 false (.call (.k (.func (.func 147) ⟨[]⟩ ⟨[]⟩)) [.t 169, .k (.int .i64 1), .k (.int .i64 0)] false),
oQ 171 168 false (.bin .neq (.t 170) (oK 0)),
oP 172 (.pick (.t 168) (.k (.bool true)) (.t 171)),
oM 173 172,
oN 174 173 false 10,
⟨some 175, (some (173, false)), [], .call (.k (.func (.func 148) ⟨[]⟩ ⟨[]⟩)) [.t 174, .k (.string ⟨⟨[97, 110, 110]⟩⟩), .k (.string ⟨⟨[120]⟩⟩), .k (.bool true), .k (.int .i64 0)] false⟩,
oQ 176 173 false (.bin .neq (.t 175) (oK 0)),
oP 177 (.pick (.t 173) (.k (.bool true)) (.t 176)),
oM 178 177,
oN 179 178 false 10,
⟨some 180, (some (178, false)), [], .call (.k (.func (.func 148) ⟨[]⟩ ⟨[]⟩)) [.t 179, .k (.string ⟨⟨[98, 111, 98]⟩⟩), .k (.string ⟨⟨[120]⟩⟩), .k (.bool true), .k (.int .i64 0)] false⟩,
oQ 181 178 false (.bin .neq (.t 180) (oK 0)),
oP 182 (.pick (.t 178) (.k (.bool true)) (.t 181))])
 (.cond (.t 182)
 (.seq
 (.ops [
oP 0 (.move (.k (.bool false)))])
 .ret)
 .skip))
 (.seq
 (.ops [
oM 184 10,
oA 185 149 [.t 184] false,
oM 183 185,
oX 186 183 0,
oX 187 183 1,
oX 188 183 2,
oM 11 186,
oM 12 187,
oM 13 188])
 (.seq
 (.ops [
oM 189 10,
⟨some 190, none, [], .call (.k (.func (.func 148) ⟨[]⟩ ⟨[]⟩)) [.t 189, .k (.string ⟨⟨[99, 105, 100]⟩⟩), .k (.string ⟨⟨[121]⟩⟩), .k (.bool true), .k (.int .i64 1)] false⟩,
oM 3 190])
 (.seq
 (.ops [
oM 192 10,
oA 193 149 [.t 192] false,
oM 191 193,
oX 194 191 0,
oX 195 191 1,
oX 196 191 2,
oM 14 194,
oM 15 195,
oM 16 196])
 (.seq
 (.ops [
oM 197 10,
oA 198 150 [.t 197, .k (.bool true), .k (.int .i64 1)] false,
oM 17 198])
 (.seq
 (.ops [
oM 200 10,
oA 201 149 [.t 200] false,
oM 199 201,
oX 202 199 0,
oX 203 199 1,
oX 204 199 2,
oM 18 202,
oM 19 203,
oM 20 204])
 (.seq
 (.ops [
oM 205 3,
oC 206 .eql 205 0,
oM 207 206,
oN 208 207 true 16,
oQ 209 207 true (.bin .eql (.t 208) (oK 0)),
oP 210 (.pick (.t 207) (.t 209) (.k (.bool false))),
oM 211 210,
oN 212 211 true 17,
oQ 213 211 true (.bin .eql (.t 212) (oK 0)),
oP 214 (.pick (.t 211) (.t 213) (.k (.bool false))),
oM 215 214,
oN 216 215 true 11,
oQ 217 215 true (.not (.t 216)),
oP 218 (.pick (.t 215) (.t 217) (.k (.bool false))),
oM 219 218,
oN 220 219 true 14,
oP 221 (.pick (.t 219) (.t 220) (.k (.bool false))),
oM 222 221,
oN 223 222 true 18,
oQ 224 222 true (.not (.t 223)),
oP 225 (.pick (.t 222) (.t 224) (.k (.bool false))),
oM 226 225,
oN 227 226 true 15,
⟨some 228, (some (226, true)), [], .slit 3 1 [.string ⟨⟨[]⟩⟩] [(0, .k (.string ⟨⟨[97, 110, 110]⟩⟩)), (1, .k (.string ⟨⟨[98, 111, 98]⟩⟩)), (2, .k (.string ⟨⟨[99, 105, 100]⟩⟩))]⟩,
oQ 229 226 true (.call (.k (.func (.func 151) ⟨[]⟩ ⟨[]⟩)) [.t 227, .t 228] false),
oP 230 (.pick (.t 226) (.t 229) (.k (.bool false))),
oM 0 230])
 .ret))))))))))))))))))
def body122 : ACode := (.seq
 (.ops [
oB 45 .lss 44 43])
 (.seq
 (.cond (.t 45)
 .skip
 (.exit 1))
 (.seq
 (.block 2
 (.seq
 (.ops [
oM 46 44,
oI 47 42 44 2,
oD 48 47 2,
oP 10 (.alloc [.int .i64 0, .int .i64 0]),
oM 9 46,
oT 10 48 2])
 (.seq
 (.ops [
oM 49 8,
oP 50 (.call (.t 49) [] false)])
 (.seq
 (.seq
 (.ops [
oF 51 6 2,
oL 52 51,
oC 53 .lss 52 0,
oM 54 53,
oQ 55 54 true (.fieldAddr (.t 7) 0),
oQ 56 54 true (.load (.t 55) (some 2)),
oQ 57 54 true (.fieldAddr (.t 10) 1),
oQ 58 54 true (.load (.t 57) none),
oQ 59 54 true (.call (.k (.func (.func 156) ⟨[]⟩ ⟨[]⟩)) [.t 56, .t 58] false),
oP 60 (.pick (.t 54) (.t 59) (.k (.bool false)))])
 (.cond (.t 60)
 (.ops [
oM 61 9,
oF 62 6 2,
oT 62 61 1])
 .skip))
 (.seq
 (.seq
 (.ops [
oF 63 6 3,
oL 64 63,
oC 65 .lss 64 0,
oM 66 65,
oQ 67 66 true (.fieldAddr (.t 7) 2),
oQ 68 66 true (.load (.t 67) (some 2)),
oQ 69 66 true (.fieldAddr (.t 10) 0),
oQ 70 66 true (.load (.t 69) none),
oQ 71 66 true (.call (.k (.func (.func 156) ⟨[]⟩ ⟨[]⟩)) [.t 68, .t 70] false),
oP 72 (.pick (.t 66) (.t 71) (.k (.bool false)))])
 (.cond (.t 72)
 (.ops [
oM 73 9,
oF 74 6 3,
oT 74 73 1])
 .skip))
 (.seq
 (.seq
 (.ops [
oF 75 10 1,
oL 76 75,
oF 77 2 5,
oL 78 77,
oB 79 .gtr 76 78])
 (.cond (.t 79)
 (.ops [
oF 80 7 0,
oD 81 80 2,
oF 82 2 6,
oF 83 82 1,
oL 84 83,
oA 85 157 [.t 81, .t 84] false,
oF 86 7 0,
oT 86 85 2])
 .skip))
 (.seq
 (.ops [
oF 87 10 0,
oL 88 87,
oF 89 2 5,
oL 90 89,
oB 91 .gtr 88 90])
 (.cond (.t 91)
 (.ops [
oF 92 7 2,
oD 93 92 2,
oF 94 2 6,
oF 95 94 0,
oL 96 95,
oA 97 157 [.t 93, .t 96] false,
oF 98 7 2,
oT 98 97 2])
 .skip))))))))
 (.ops [
oC 99 .add 44 1,
oM 44 99]))))
def F122 : AFunc :=
 .fn 103 [.cell 4 (some 4), .tmp 5]
 (.seq
 (.ops [
oP 2 (.box (.t 0)),
oP 4 (.alloc [.slice none 0 0, .slice none 0 0, .int .i64 0, .int .i64 0]),
oP 5 (.move (oK 0))])
 (.seq
 (.block 0
 (.seq
 (.ops [
oD 12 2 8,
oA 13 152 [.t 12] false,
oP 14 (.not (.t 13)),
oM 11 14])
 (.cond (.t 11)
 (.seq
 (.ops [
oP 15 (.build [.slice none 0 0, .slice none 0 0, .int .i64 0, .int .i64 0] []),
oT 4 15 4,
oP 5 (.move (oK 3))])
 .ret)
 (.seq
 (.ops [
oM 17 1,
oP 18 (.len (.t 17)),
oC 19 .gtr 18 1000,
oM 16 19])
 (.cond (.t 16)
 (.seq
 (.ops [
oP 20 (.build [.slice none 0 0, .slice none 0 0, .int .i64 0, .int .i64 0] []),
oT 4 20 4,
oP 5 (.move (oK 9))])
 .ret)
 (.seq
 (.ops [
oM 22 1,
oP 23 (.call (.k (.func (.func 56) ⟨[]⟩ ⟨[]⟩)) [.t 22, .k (.func (.func 153) ⟨[]⟩ ⟨[]⟩)] false),
oM 21 23])
 (.cond (.t 21)
 (.seq
 (.ops [
oP 24 (.build [.slice none 0 0, .slice none 0 0, .int .i64 0, .int .i64 0] []),
oT 4 24 4,
oP 5 (.move (oK 3))])
 .ret)
 .skip)))))))
 (.seq
 (.ops [
oP 25 (.build [.slice none 0 0, .slice none 0 0, .int .i64 0, .int .i64 0] [(2, 1, .k (.int .i64 (-1))), (3, 1, .k (.int .i64 (-1)))]),
oP 6 (.alloc [.slice none 0 0, .slice none 0 0, .int .i64 0, .int .i64 0]),
oT 6 25 4])
 (.seq
 (.ops [
oF 26 2 1,
oF 27 26 0,
oL 28 27,
oF 29 2 3,
oF 30 29 0,
oL 31 30,
oP 32 (.build [.int .i64 0, .int .i64 0] [(0, 1, .t 28), (1, 1, .t 31)]),
oF 33 2 1,
oF 34 33 1,
oL 35 34,
oF 36 2 3,
oF 37 36 1,
oL 38 37,
oP 39 (.build [.int .i64 0, .int .i64 0] [(0, 1, .t 35), (1, 1, .t 38)]),
oP 40 (.build [.int .i64 0, .int .i64 0, .int .i64 0, .int .i64 0] [(0, 2, .t 32), (2, 2, .t 39)]),
oP 7 (.alloc [.int .i64 0, .int .i64 0, .int .i64 0, .int .i64 0]),
oT 7 40 4])
 (.seq
 (.ops [
oP 41 (.makeFunc 155 [] [.t 6, .t 7]),
oM 8 41])
 (.seq
 (.seq
 (.ops [
oM 42 1,
oP 43 (.len (.t 42)),
oP 44 (.move (oK 0))])
 (.block 1
 (.loop body122)))
 (.seq
 (.ops [
oM 100 8,
oP 101 (.call (.t 100) [] false)])
 (.seq
 (.ops [
oD 102 6 4,
oT 4 102 4,
oP 5 (.move (oK 0))])
 .ret))))))))
def body125 : ACode := (.seq
 (.seq
 (.ops [
oM 11 5,
oM 12 0,
oP 13 (.len (.t 12)),
oB 14 .lss 11 13])
 (.cond (.t 14)
 .skip
 (.exit 0)))
 (.seq
 (.block 1
 (.seq
 (.ops [
oM 17 0,
oM 18 5,
oI 19 17 18 2,
oD 20 19 2,
oM 21 1,
oM 22 5,
oI 23 21 22 2,
oD 24 23 2,
oP 25 (.eqv true [false, false] (.t 20) (.t 24))])
 (.cond (.t 25)
 (.seq
 (.ops [
oP 4 (.move (.k (.bool false)))])
 .ret)
 .skip)))
 (.ops [
oM 15 5,
oC 16 .add 15 1,
oM 5 16])))
def F125 : AFunc :=
 .fn 26 [.tmp 4]
 (.seq
 (.ops [
oP 4 (.move (.k (.bool false)))])
 (.seq
 (.seq
 (.ops [
oM 6 0,
oP 7 (.len (.t 6)),
oM 8 1,
oP 9 (.len (.t 8)),
oB 10 .neq 7 9])
 (.cond (.t 10)
 (.seq
 (.ops [
oP 4 (.move (.k (.bool false)))])
 .ret)
 .skip))
 (.seq
 (.seq
 (.ops [
oP 5 (.move (oK 0))])
 (.block 0
 (.loop body125)))
 (.seq
 (.ops [
oP 4 (.move (.k (.bool true)))])
 .ret))))
def body126a : ACode := (.seq
 (.ops [
oB 40 .lss 39 38])
 (.seq
 (.cond (.t 40)
 .skip
 (.exit 1))
 (.seq
 (.block 2
 (.seq
 (.ops [
oI 41 37 39 4,
oD 42 41 4,
oP 12 (.alloc [.slice none 0 0, .slice none 0 0, .int .i64 0, .int .i64 0]),
oT 12 42 4])
 (.block 3
 (.seq
 (.ops [
oF 44 12 0,
oL 45 44,
oP 46 (.len (.t 45)),
oM 47 3,
oB 48 .leq 46 47,
oM 43 48])
 (.cond (.t 43)
 (.seq
 (.ops [
oP 49 (.build [.int .i64 0, .int .i64 0, .int .i64 0, .slice none 0 0] []),
oT 8 49 4,
oP 9 (.move (oK 11))])
 .ret)
 (.seq
 (.ops [
oF 51 12 0,
oL 52 51,
oM 53 3,
oI 54 52 53 2,
oD 55 54 2,
oA 56 160 [.t 55, .k (.int .i64 (-1200000)), .k (.int .i64 1200000)] false,
oP 57 (.not (.t 56)),
oM 50 57])
 (.cond (.t 50)
 (.seq
 (.ops [
oP 58 (.build [.int .i64 0, .int .i64 0, .int .i64 0, .slice none 0 0] []),
oT 8 58 4,
oP 9 (.move (oK 3))])
 .ret)
 .skip)))))))
 (.ops [
oC 59 .add 39 1,
oM 39 59]))))
def body126 : ACode := (.seq
 (.ops [
oB 67 .lss 66 65])
 (.seq
 (.cond (.t 67)
 .skip
 (.exit 4))
 (.seq
 (.block 5
 (.seq
 (.ops [
oM 68 66,
oI 69 64 66 8,
oD 70 69 8,
oP 14 (.alloc [.int .i64 0, .int .i64 0, .int .i64 0, .int .i64 0, .int .i64 0, .int .i64 0, .int .i64 0, .int .i64 0]),
oM 13 68,
oT 14 70 8])
 (.seq
 (.ops [
oF 71 4 3,
oL 72 71,
oF 73 14 0,
oL 74 73,
oI 75 72 74 2,
oM 76 2,
oM 77 13,
oI 78 76 77 4,
oF 79 78 0,
oL 80 79,
oM 81 3,
oI 82 80 81 2,
oD 83 82 2,
oP 16 (.alloc [.int .i64 0, .int .i64 0]),
oM 15 75,
oT 16 83 2])
 (.seq
 (.ops [
oM 84 2,
oM 85 13,
oI 86 84 85 4,
oF 87 86 2,
oL 88 87,
oC 89 .eql 88 (-1),
oM 90 89,
oN 91 90 false 2,
oN 92 90 false 13,
oQ 93 90 false (.idxS (.t 91) (.t 92) 4),
oQ 94 90 false (.fieldAddr (.t 93) 2),
oQ 95 90 false (.load (.t 94) none),
oN 96 90 false 3,
oQ 97 90 false (.bin .geq (.t 95) (.t 96)),
oP 98 (.pick (.t 90) (.k (.bool true)) (.t 97)),
oM 17 98])
 (.seq
 (.seq
 (.ops [
oM 99 17])
 (.cond (.t 99)
 (.ops [
oM 100 15,
oM 101 15,
oP 102 (.nilCheck (.t 101)),
oF 103 102 0,
oL 104 103,
oF 105 16 0,
oL 106 105,
oP 107 (.max [.t 104, .t 106]),
oP 108 (.nilCheck (.t 100)),
oF 109 108 0,
oT 109 107 1])
 .skip))
 (.seq
 (.ops [
oM 110 2,
oM 111 13,
oI 112 110 111 4,
oF 113 112 3,
oL 114 113,
oC 115 .geq 114 0,
oM 116 115,
oN 117 116 true 2,
oN 118 116 true 13,
oQ 119 116 true (.idxS (.t 117) (.t 118) 4),
oQ 120 116 true (.fieldAddr (.t 119) 3),
oQ 121 116 true (.load (.t 120) none),
oN 122 116 true 3,
oQ 123 116 true (.bin .lss (.t 121) (.t 122)),
oP 124 (.pick (.t 116) (.t 123) (.k (.bool false))),
oM 18 124])
 (.seq
 (.ops [
oM 125 17,
oM 126 125,
oN 127 126 false 18,
oQ 128 126 false (.not (.t 127)),
oP 129 (.pick (.t 126) (.k (.bool true)) (.t 128))])
 (.cond (.t 129)
 (.ops [
oM 130 15,
oM 131 15,
oP 132 (.nilCheck (.t 131)),
oF 133 132 1,
oL 134 133,
oF 135 16 1,
oL 136 135,
oP 137 (.max [.t 134, .t 136]),
oP 138 (.nilCheck (.t 130)),
oF 139 138 1,
oT 139 137 1])
 .skip))))))))
 (.ops [
oC 140 .add 66 1,
oM 66 140]))))
def F126 : AFunc :=
 .fn 142 [.cell 8 (some 4), .tmp 9]
 (.seq
 (.ops [
oP 4 (.box (.t 0)),
oP 8 (.alloc [.int .i64 0, .int .i64 0, .int .i64 0, .slice none 0 0]),
oP 9 (.move (oK 0))])
 (.seq
 (.seq
 (.ops [
oD 19 4 4,
oM 20 1,
oA 21 128 [.t 19, .t 20] false,
oM 10 21])
 (.seq
 (.ops [
oM 22 10,
oC 23 .neq 22 0])
 (.cond (.t 23)
 (.seq
 (.ops [
oP 24 (.build [.int .i64 0, .int .i64 0, .int .i64 0, .slice none 0 0] []),
oM 25 10,
oT 8 24 4,
oM 9 25])
 .ret)
 .skip)))
 (.seq
 (.block 0
 (.seq
 (.ops [
oM 27 2,
oP 28 (.len (.t 27)),
oM 29 1,
oP 30 (.len (.t 29)),
oB 31 .neq 28 30,
oM 26 31])
 (.cond (.t 26)
 (.seq
 (.ops [
oP 32 (.build [.int .i64 0, .int .i64 0, .int .i64 0, .slice none 0 0] []),
oT 8 32 4,
oP 9 (.move (oK 11))])
 .ret)
 (.seq
 (.ops [
oM 34 3,
oC 35 .lss 34 0,
oM 33 35])
 (.cond (.t 33)
 (.seq
 (.ops [
oP 36 (.build [.int .i64 0, .int .i64 0, .int .i64 0, .slice none 0 0] []),
oT 8 36 4,
oP 9 (.move (oK 3))])
 .ret)
 .skip)))))
 (.seq
 (.seq
 (.ops [
oM 37 2,
oP 38 (.len (.t 37)),
oP 39 (.move (oK 0))])
 (.block 1
 (.loop body126a)))
 (.seq
 (.ops [
oF 60 4 3,
oL 61 60,
oA 62 161 [.t 61] false,
oF 63 4 3,
oT 63 62 1])
 (.seq
 (.seq
 (.ops [
oM 64 1,
oP 65 (.len (.t 64)),
oP 66 (.move (oK 0))])
 (.block 4
 (.loop body126)))
 (.seq
 (.ops [
oD 141 4 4,
oT 8 141 4,
oP 9 (.move (oK 0))])
 .ret)))))))
def body128 : ACode := (.seq
 (.ops [
oB 21 .lss 20 19])
 (.seq
 (.cond (.t 21)
 .skip
 (.exit 0))
 (.seq
 (.block 1
 (.seq
 (.ops [
oI 22 18 20 8,
oD 23 22 8,
oP 8 (.alloc [.int .i64 0, .int .i64 0, .int .i64 0, .int .i64 0, .int .i64 0, .int .i64 0, .int .i64 0, .int .i64 0]),
oT 8 23 8])
 (.seq
 (.block 2
 (.seq
 (.ops [
oF 25 8 0,
oL 26 25,
oC 27 .lss 26 0,
oM 28 27,
oQ 29 28 false (.fieldAddr (.t 8) 0),
oQ 30 28 false (.load (.t 29) none),
oQ 31 28 false (.fieldAddr (.t 2) 3),
oQ 32 28 false (.load (.t 31) none),
oQ 33 28 false (.len (.t 32)),
oQ 34 28 false (.bin .geq (.t 30) (.t 33)),
oP 35 (.pick (.t 28) (.k (.bool true)) (.t 34)),
oM 24 35])
 (.cond (.t 24)
 (.seq
 (.ops [
oP 4 (.move (oK 4))])
 .ret)
 (.seq
 (.ops [
oM 37 6,
oF 38 8 0,
oL 39 38,
oP 40 (.lookup (.t 37) (.t 39) 0 (.bool false) false),
oM 36 40])
 (.cond (.t 36)
 (.seq
 (.ops [
oP 4 (.move (oK 5))])
 .ret)
 (.seq
 (.ops [
oD 42 8 8,
oA 43 152 [.t 42] false,
oP 44 (.not (.t 43)),
oM 41 44])
 (.cond (.t 41)
 (.seq
 (.ops [
oP 4 (.move (oK 3))])
 .ret)
 .skip)))))))
 (.ops [
oM 45 6,
oF 46 8 0,
oL 47 46,
⟨none, none, [], .mapSet (.t 45) (.t 47) (.k (.bool true)) 0⟩]))))
 (.ops [
oC 48 .add 20 1,
oM 20 48]))))
def F128 : AFunc :=
 .fn 49 [.tmp 4]
 (.seq
 (.ops [
oP 2 (.box (.t 0)),
oP 4 (.move (oK 0))])
 (.seq
 (.seq
 (.ops [
oD 9 2 4,
oA 10 37 [.t 9] false,
oM 5 10])
 (.seq
 (.ops [
oM 11 5,
oC 12 .neq 11 0])
 (.cond (.t 12)
 (.seq
 (.ops [
oM 13 5,
oM 4 13])
 .ret)
 .skip)))
 (.seq
 (.seq
 (.ops [
oM 14 1,
oP 15 (.len (.t 14)),
oC 16 .gtr 15 256])
 (.cond (.t 16)
 (.seq
 (.ops [
oP 4 (.move (oK 9))])
 .ret)
 .skip))
 (.seq
 (.ops [
oP 17 (.makeM),
oM 6 17])
 (.seq
 (.seq
 (.ops [
oM 18 1,
oP 19 (.len (.t 18)),
oP 20 (.move (oK 0))])
 (.block 0
 (.loop body128)))
 (.seq
 (.ops [
oP 4 (.move (oK 0))])
 .ret))))))
def F130 : AFunc :=
 .fn 84 [.tmp 6, .tmp 7]
 (.seq
 (.ops [
oP 3 (.box (.t 0)),
oP 6 (.move (.k (.slice none 0 0))),
oP 7 (.move (oK 0))])
 (.seq
 (.ops [
oP 8 (.move (.k (.func (.func 162) ⟨[]⟩ ⟨[]⟩)))])
 (.seq
 (.block 0
 (.seq
 (.ops [
oM 12 8,
oD 13 3 2,
oP 14 (.call (.t 12) [.t 13] false),
oP 15 (.not (.t 14)),
oM 11 15])
 (.cond (.t 11)
 (.seq
 (.ops [
oP 6 (.move (.k (.slice none 0 0))),
oP 7 (.move (oK 3))])
 .ret)
 (.seq
 (.ops [
oM 17 1,
oP 18 (.len (.t 17)),
oM 19 2,
oP 20 (.len (.t 19)),
oB 21 .neq 18 20,
oM 16 21])
 (.cond (.t 16)
 (.seq
 (.ops [
oP 6 (.move (.k (.slice none 0 0))),
oP 7 (.move (oK 11))])
 .ret)
 (.seq
 (.ops [
oM 23 1,
oP 24 (.len (.t 23)),
oC 25 .gtr 24 1000,
oM 22 25])
 (.cond (.t 22)
 (.seq
 (.ops [
oP 6 (.move (.k (.slice none 0 0))),
oP 7 (.move (oK 9))])
 .ret)
 .skip)))))))
 (.seq
 (.ops [
oP 9 (.move (.k (.slice none 0 0)))])
 (.seq
 (.seq
 (.ops [
oM 26 1,
oP 27 (.len (.t 26)),
oP 28 (.move (oK 0))])
 (.block 1
 (.loop
 (.seq
 (.ops [
oB 29 .lss 28 27])
 (.seq
 (.cond (.t 29)
 .skip
 (.exit 1))
 (.seq
 (.block 2
 (.seq
 (.ops [
oM 30 28,
oM 10 30])
 (.seq
 (.seq
 (.ops [
oM 31 8,
oM 32 1,
oM 33 10,
oI 34 32 33 2,
oD 35 34 2,
oP 36 (.call (.t 31) [.t 35] false),
oP 37 (.not (.t 36)),
oM 38 37,
oN 39 38 false 8,
oN 40 38 false 2,
oN 41 38 false 10,
oQ 42 38 false (.idxS (.t 40) (.t 41) 2),
oQ 43 38 false (.load (.t 42) (some 2)),
oQ 44 38 false (.call (.t 39) [.t 43] false),
oQ 45 38 false (.not (.t 44)),
oP 46 (.pick (.t 38) (.k (.bool true)) (.t 45))])
 (.cond (.t 46)
 (.seq
 (.ops [
oP 6 (.move (.k (.slice none 0 0))),
oP 7 (.move (oK 3))])
 .ret)
 .skip))
 (.seq
 (.ops [
oF 47 3 0,
oL 48 47,
oM 49 1,
oM 50 10,
oI 51 49 50 2,
oF 52 51 0,
oL 53 52,
oB 54 .add 48 53,
oM 55 2,
oM 56 10,
oI 57 55 56 2,
oF 58 57 1,
oL 59 58,
oB 60 .sub 54 59,
oP 61 (.max [.k (.int .i64 0), .t 60]),
oF 62 3 1,
oL 63 62,
oM 64 1,
oM 65 10,
oI 66 64 65 2,
oF 67 66 1,
oL 68 67,
oB 69 .add 63 68,
oM 70 2,
oM 71 10,
oI 72 70 71 2,
oF 73 72 0,
oL 74 73,
oB 75 .sub 69 74,
oP 76 (.max [.k (.int .i64 0), .t 75]),
oP 77 (.build [.int .i64 0, .int .i64 0] [(0, 1, .t 61), (1, 1, .t 76)]),
oT 3 77 2])
 (.ops [
oM 78 9,
oD 79 3 2,
oP 80 (.slit 1 2 [.int .i64 0, .int .i64 0] [(0, .t 79)]),
oP 81 (.append (.t 78) (.t 80) 2 16),
oM 9 81])))))
 (.ops [
oC 82 .add 28 1,
oM 28 82])))))))
 (.seq
 (.ops [
oM 83 9,
oM 6 83,
oP 7 (.move (oK 0))])
 .ret))))))
def body133a : ACode := (.seq
 (.ops [
oB 76 .lss 75 74])
 (.seq
 (.cond (.t 76)
 .skip
 (.exit 6))
 (.seq
 (.block 7
 (.seq
 (.ops [
oM 77 75,
oI 78 73 75 1,
oL 79 78,
oM 17 77,
oM 18 79])
 (.seq
 (.seq
 (.ops [
oM 80 17,
oC 81 .eql 80 0])
 (.cond (.t 81)
 (.ops [
oM 82 12,
oM 83 18,
oI 84 82 83 2,
oD 85 84 2,
oT 16 85 2])
 .skip))
 (.ops [
oD 86 16 2,
oM 87 12,
oM 88 18,
oI 89 87 88 2,
oD 90 89 2,
oA 91 163 [.t 86, .t 90] false,
oT 16 91 2]))))
 (.ops [
oC 92 .add 75 1,
oM 75 92]))))
def body133w : ACode := (.seq
 (.ops [
oB 39 .lss 38 37])
 (.seq
 (.cond (.t 39)
 .skip
 (.exit 1))
 (.seq
 (.block 2
 (.seq
 (.ops [
oM 40 38,
oI 41 36 38 2,
oD 42 41 2,
oP 11 (.alloc [.int .i64 0, .int .i64 0]),
oM 10 40,
oT 11 42 2])
 (.block 3
 (.seq
 (.ops [
oD 44 11 2,
oA 45 160 [.t 44, .k (.int .i64 0), .k (.int .i64 1000000000)] false,
oP 46 (.not (.t 45)),
oM 43 46])
 (.cond (.t 43)
 (.seq
 (.ops [
oP 47 (.build [.int .i64 0, .int .i64 0] []),
oP 6 (.move (.k (.slice none 0 0))),
oT 7 47 2,
oP 8 (.move (oK 3))])
 .ret)
 (.seq
 (.ops [
oM 49 10,
oC 50 .gtr 49 0,
oM 51 50,
oQ 52 51 true (.fieldAddr (.t 11) 0),
oQ 53 51 true (.load (.t 52) none),
oN 54 51 true 2,
oN 55 51 true 10,
oQ 56 51 true (.bin .sub (.t 55) (oK 1)),
oQ 57 51 true (.idxS (.t 54) (.t 56) 2),
oQ 58 51 true (.fieldAddr (.t 57) 1),
oQ 59 51 true (.load (.t 58) none),
oQ 60 51 true (.bin .leq (.t 53) (.t 59)),
oP 61 (.pick (.t 51) (.t 60) (.k (.bool false))),
oM 48 61])
 (.cond (.t 48)
 (.seq
 (.ops [
oP 62 (.build [.int .i64 0, .int .i64 0] []),
oP 6 (.move (.k (.slice none 0 0))),
oT 7 62 2,
oP 8 (.move (oK 2))])
 .ret)
 .skip)))))))
 (.ops [
oC 63 .add 38 1,
oM 38 63]))))
def F133 : AFunc :=
 .fn 120 [.tmp 6, .cell 7 (some 2), .tmp 8]
 (.seq
 (.ops [
oP 4 (.box (.t 1)),
oP 6 (.move (.k (.slice none 0 0))),
oP 7 (.alloc [.int .i64 0, .int .i64 0]),
oP 8 (.move (oK 0))])
 (.seq
 (.seq
 (.ops [
oM 20 0,
oA 21 135 [.t 20] false,
oM 9 21])
 (.seq
 (.ops [
oM 22 9,
oC 23 .neq 22 0])
 (.cond (.t 23)
 (.seq
 (.ops [
oP 24 (.build [.int .i64 0, .int .i64 0] []),
oM 25 9,
oP 6 (.move (.k (.slice none 0 0))),
oT 7 24 2,
oM 8 25])
 .ret)
 .skip)))
 (.seq
 (.block 0
 (.seq
 (.ops [
oD 27 4 2,
oA 28 160 [.t 27, .k (.int .i64 0), .k (.int .i64 1000000000)] false,
oP 29 (.not (.t 28)),
oM 26 29])
 (.cond (.t 26)
 (.seq
 (.ops [
oP 30 (.build [.int .i64 0, .int .i64 0] []),
oP 6 (.move (.k (.slice none 0 0))),
oT 7 30 2,
oP 8 (.move (oK 3))])
 .ret)
 (.seq
 (.ops [
oM 32 2,
oP 33 (.len (.t 32)),
oC 34 .gtr 33 1000,
oM 31 34])
 (.cond (.t 31)
 (.seq
 (.ops [
oP 35 (.build [.int .i64 0, .int .i64 0] []),
oP 6 (.move (.k (.slice none 0 0))),
oT 7 35 2,
oP 8 (.move (oK 9))])
 .ret)
 .skip)))))
 (.seq
 (.seq
 (.ops [
oM 36 2,
oP 37 (.len (.t 36)),
oP 38 (.move (oK 0))])
 (.block 1
 (.loop body133w)))
 (.seq
 (.ops [
oP 12 (.move (.k (.slice none 0 0)))])
 (.seq
 (.ops [
oD 64 4 2,
oP 13 (.alloc [.int .i64 0, .int .i64 0]),
oT 13 64 2])
 (.seq
 (.seq
 (.ops [
oM 65 0,
oP 66 (.len (.t 65)),
oP 67 (.move (oK 0))])
 (.block 4
 (.loop
 (.seq
 (.ops [
oB 68 .lss 67 66])
 (.seq
 (.cond (.t 68)
 .skip
 (.exit 4))
 (.seq
 (.block 5
 (.seq
 (.ops [
oI 69 65 67 7,
oD 70 69 7,
⟨some 15, none, [], .alloc [.string ⟨⟨[]⟩⟩, .slice none 0 0, .int .i64 0, .int .i64 0, .bool false, .bool false, .int .i64 0]⟩,
oT 15 70 7])
 (.seq
 (.ops [
oD 71 4 2,
oP 16 (.alloc [.int .i64 0, .int .i64 0]),
oT 16 71 2])
 (.seq
 (.seq
 (.ops [
oF 72 15 1,
oL 73 72,
oP 74 (.len (.t 73)),
oP 75 (.move (oK 0))])
 (.block 6
 (.loop body133a)))
 (.seq
 (.ops [
oD 93 15 7,
oF 94 16 0,
oL 95 94,
oF 96 15 2,
oF 97 96 0,
oL 98 97,
oM 99 2,
oA 100 164 [.t 93, .t 95, .t 98, .t 99] true,
oD 101 15 7,
oF 102 16 1,
oL 103 102,
oF 104 15 2,
oF 105 104 1,
oL 106 105,
oM 107 2,
oA 108 164 [.t 101, .t 103, .t 106, .t 107] true,
oP 109 (.build [.int .i64 0, .int .i64 0] [(0, 1, .t 100), (1, 1, .t 108)]),
oP 19 (.alloc [.int .i64 0, .int .i64 0]),
oT 19 109 2])
 (.ops [
oM 110 12,
oD 111 19 2,
oP 112 (.slit 1 2 [.int .i64 0, .int .i64 0] [(0, .t 111)]),
oP 113 (.append (.t 110) (.t 112) 2 16),
⟨some 114, none, [(.t 110, 0, .t 13, 2)], .load (.t 13) (some 2)⟩,
⟨some 115, none, [(.t 110, 0, .t 19, 2)], .load (.t 19) (some 2)⟩,
oA 116 163 [.t 114, .t 115] false,
oM 12 113,
oT 13 116 2]))))))
 (.ops [
oC 117 .add 67 1,
oM 67 117])))))))
 (.seq
 (.ops [
oM 118 12,
oD 119 13 2,
oM 6 118,
oT 7 119 2,
oP 8 (.move (oK 0))])
 .ret))))))))
end Go.Ab.Dike
