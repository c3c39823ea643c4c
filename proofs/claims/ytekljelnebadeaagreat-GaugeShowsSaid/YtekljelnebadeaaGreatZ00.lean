/- The abstract form of a program: types resolved to sizes and offsets, functions named by labels, drawn orders made plain; and its executor on values whose addresses are names. -/
import GoSem.Dispatch
import GoSem.Machine.Frame
set_option linter.unusedSimpArgs false
set_option linter.unusedVariables false
set_option linter.unusedSectionVars false
namespace Go.Ab
inductive Opd where
  | t (n : Nat)
  | k (v : Value)
inductive AOp where
  | move (x : Opd)
  | pick (c a b : Opd)
  | nilCheck (x : Opd)
  | bin (op : BinOp) (x y : Opd)
  | beq (neg : Bool) (x y : Opd)
  | eqv (neg : Bool) (sh : List Nat) (x y : Opd)
  | eqNil (kind : Nat) (neg : Bool) (x : Opd)
  | neg (x : Opd)
  | not (x : Opd)
  | toInt (k : IntKind) (x : Opd)
  | toF64 (x : Opd)
  | makeFunc (f : Nat) (first captured : List Opd)
  | build (z : List Value) (parts : List (Nat × Nat × Opd))
  | fieldAddr (x : Opd) (off : Nat)
  | field (x : Opd) (off : Nat) (size : Option Nat)
  | idxS (x i : Opd) (esz : Nat)
  | idxA (x i : Opd) (len esz : Nat)
  | index (x i : Opd) (len esz : Nat) (agg : Bool)
  | reslice (x : Opd) (lo hi : Option Opd) (esz : Nat)
  | reslice3 (x lo hi mx : Opd) (esz : Nat)
  | extract (x : Opd) (i : Nat)
  | len (x : Opd)
  | lenT (x : Opd)
  | min (xs : List Opd)
  | max (xs : List Opd)
  | alloc (z : List Value)
  | box (x : Opd)
  | slit (n esz : Nat) (z : List Value) (parts : List (Nat × Opd))
  | makeS (l c : Opd) (esz bytes : Nat) (z : List Value)
  | load (x : Opd) (size : Option Nat)
  | store (x v : Opd) (size : Nat)
  | append (s x : Opd) (esz bytes : Nat)
  | copy (d s : Opd) (esz : Nat)
  | call (f : Opd) (args : List Opd) (ro : Bool)
  | callC (c f : Opd) (args : List Opd)
  | strOp (op : BinOp) (x y : Opd)
  | strIdx (x i : Opd)
  | toBytes (x : Opd)
  | toStr (x : Opd)
  | makeM
  | lookup (x k : Opd) (kt : Nat) (z : Value) (ok : Bool)
  | mapSet (x k v : Opd) (kt : Nat)
  | lenM (x : Opd)
  | clearM (x : Opd)
  | clearS (x : Opd) (z : List Value)
  | rangeI (x : Opd)
  | nextI (x : Opd)
  | entryI (x : Opd)
  | strSl (x : Opd) (lo hi : Option Opd)
  | sliceData (x : Opd)
  | appendT (s x : Opd)
  | mkStr (p n : Opd)
  | allocB
  | fail
structure AOper where
  dst : Option Nat
  guard : Option (Nat × Bool)
  apart : List (Opd × Nat × Opd × Nat)
  op : AOp
inductive ACode where
  | skip
  | ops (l : List AOper)
  | seq (a b : ACode)
  | cond (c : Opd) (a b : ACode)
  | block (id : Nat) (c : ACode)
  | loop (c : ACode)
  | exit (id : Nat)
  | ret
  | rangeF (f : Opd) (ps : List Nat) (assign body : ACode)
inductive ARes where
  | tmp (t : Nat)
  | cell (t : Nat) (size : Option Nat)
inductive AFunc where
  | fn (nt : Nat) (res : List ARes) (body : ACode)
  | sqrt
  | lib
def AFunc.ent : AFunc → Bool
  | .sqrt => false
  | _ => true
abbrev oM (d x : Nat) : AOper := ⟨some d, none, [], .move (.t x)⟩
abbrev oP (d : Nat) (x : AOp) : AOper := ⟨some d, none, [], x⟩
abbrev oQ (d g : Nat) (b : Bool) (x : AOp) : AOper := ⟨some d, some (g, b), [], x⟩
abbrev oN (d g : Nat) (b : Bool) (x : Nat) : AOper := ⟨some d, some (g, b), [], .move (.t x)⟩
abbrev oL (d x : Nat) : AOper := ⟨some d, none, [], .load (.t x) none⟩
abbrev oD (d x s : Nat) : AOper := ⟨some d, none, [], .load (.t x) (some s)⟩
abbrev oF (d x o : Nat) : AOper := ⟨some d, none, [], .fieldAddr (.t x) o⟩
abbrev oI (d x i s : Nat) : AOper := ⟨some d, none, [], .idxS (.t x) (.t i) s⟩
abbrev oB (d : Nat) (o : BinOp) (x y : Nat) : AOper := ⟨some d, none, [], .bin o (.t x) (.t y)⟩
abbrev oC (d : Nat) (o : BinOp) (x : Nat) (n : Int) : AOper := ⟨some d, none, [], .bin o (.t x) (.k (.int .i64 n))⟩
abbrev oX (d x i : Nat) : AOper := ⟨some d, none, [], .extract (.t x) i⟩
abbrev oA (d f : Nat) (l : List Opd) (r : Bool) : AOper := ⟨some d, none, [], .call (.k (.func (.func f) ⟨[]⟩ ⟨[]⟩)) l r⟩
abbrev oT (x v s : Nat) : AOper := ⟨none, none, [], .store (.t x) (.t v) s⟩
abbrev oK (n : Int) : Opd := .k (.int .i64 n)
def simple : Value → Bool
  | .bool _ => true | .int _ _ => true | .float _ _ => true | .string _ => true | .pointer none => true
  | .slice none 0 0 => true | .nilFunc => true | .nilIface => true | .map none => true
  | _ => false
def flat (v : Value) : Bool :=
  match v with
  | .agg cs => cs.toList.all simple
  | .tuple cs => cs.toList.all simple
  | v => simple v
def AOp.opds : AOp → List Opd
  | .move x => [x] | .pick c a b => [c, a, b] | .nilCheck x => [x] | .bin _ x y => [x, y] | .beq _ x y => [x, y] | .eqv _ _ x y => [x, y] | .eqNil _ _ x => [x]
  | .neg x => [x] | .not x => [x] | .toInt _ x => [x] | .toF64 x => [x] | .makeFunc _ a b => a ++ b | .build _ ps => ps.map fun p => p.2.2
  | .fieldAddr x _ => [x] | .field x _ _ => [x] | .idxS x i _ => [x, i] | .idxA x i _ _ => [x, i] | .index x i _ _ _ => [x, i]
  | .reslice x lo hi _ => x :: (lo.toList ++ hi.toList) | .reslice3 x lo hi mx _ => [x, lo, hi, mx] | .extract x _ => [x] | .len x => [x] | .lenT x => [x] | .min l => l | .max l => l
  | .alloc _ => [] | .box x => [x] | .slit _ _ _ ps => ps.map fun p => p.2 | .makeS l c _ _ _ => [l, c] | .load x _ => [x] | .store x v _ => [x, v]
  | .append s x _ _ => [s, x] | .copy d s _ => [d, s] | .call f l _ => f :: l | .callC c f l => c :: f :: l | .strOp _ x y => [x, y] | .strIdx x i => [x, i] | .toBytes x => [x] | .toStr x => [x] | .makeM => [] | .lookup x k _ _ _ => [x, k] | .mapSet x k v _ => [x, k, v] | .lenM x => [x] | .clearM x => [x] | .clearS x _ => [x] | .rangeI x => [x] | .nextI x => [x] | .entryI x => [x] | .strSl x lo hi => x :: (lo.toList ++ hi.toList) | .sliceData x => [x] | .appendT s x => [s, x] | .mkStr p n => [p, n] | .allocB => [] | .fail => []
def AOp.mem : AOp → Nat
  | .load _ _ => 1 | .alloc _ => 2 | .box _ => 2 | .slit _ _ _ _ => 2 | .makeS _ _ _ _ _ => 2 | .toBytes _ => 2 | .makeM => 2 | .allocB => 2 | .store _ _ _ => 3 | .append _ _ _ _ => 4 | .copy _ _ _ => 4
  | .call _ _ ro => if ro then 6 else 5
  | .callC _ _ _ => 7
  | .toStr _ => 6
  | .lookup _ _ _ _ _ => 6 | .lenM _ => 6 | .mapSet _ _ _ _ => 5 | .clearM _ => 5 | .clearS _ _ => 5
  | .appendT _ _ => 5 | .mkStr _ _ => 5
  | _ => 0
def tmpsOf (l : List Opd) : List Nat := l.filterMap fun x => match x with | .t n => some n | .k _ => none
def AOper.looks (o : AOper) : List Nat :=
  tmpsOf o.op.opds ++ (match o.guard with | some (d, _) => [d] | none => [])
def befStep (acc : List Nat) (l : List Nat) : Nat := l.foldl (fun s e => s ||| 2 ^ e ||| acc.getD e 0) 0
def befA (aft : List (List Nat)) : List Nat := aft.foldl (fun acc l => acc ++ [befStep acc l]) []
def ordered (bef : List Nat) (i j : Nat) : Bool := (bef.getD j 0).testBit i || (bef.getD i 0).testBit j
def memOf (al : List AOper) (i : Nat) : Nat := (al[i]?.map fun o => o.op.mem).getD 0
def addrA (al : List AOper) (i : Nat) : Option (Nat × Nat) :=
  match al[i]? with
  | some o => match o.op with
    | .load (.t x) n => some (x, n.getD 1)
    | .store (.t x) _ n => some (x, n)
    | _ => none
  | none => none
def stable (al : List AOper) (i x : Nat) : Bool := (List.range al.length).all fun m => decide (m < i) || ((al[m]?).bind (·.dst)) != some x
def Opd.isT (x : Opd) (n : Nat) : Bool :=
  match x with
  | .t m => m == n
  | .k _ => false
def heldApart (al : List AOper) (i j : Nat) : Bool :=
  match addrA al i, addrA al j with
  | some (x, n), some (y, m) => stable al i x && stable al j y && match al[Max.max i j]? with
    | some o => o.apart.any fun p => (p.1.isT x && p.2.1 == n && p.2.2.1.isT y && p.2.2.2 == m) || (p.1.isT y && p.2.1 == m && p.2.2.1.isT x && p.2.2.2 == n)
    | none => false
  | _, _ => false
def AOp.cap : AOp → Option Nat
  | .callC (.t y) _ _ => some y | .append (.t y) _ _ _ => some y | .copy (.t y) _ _ => some y
  | _ => none
def capAt (al : List AOper) (i : Nat) : Option Nat :=
  match al[i]? with
  | some o => o.op.cap
  | none => none
def capOk (al : List AOper) (i : Nat) : Bool :=
  match capAt al i with
  | some y => stable al i y
  | none => false
def heldC (al : List AOper) (i j : Nat) : Bool :=
  match capAt al i, addrA al j with
  | some y, some (x, _) => stable al i y && stable al j x && match al[Max.max i j]? with
    | some o => o.apart.any fun p => p.1.isT y && p.2.2.1.isT x
    | none => false
  | _, _ => false
def pairOk (al : List AOper) (bef : List Nat) (i j : Nat) : Bool :=
  i == j || ordered bef i j ||
    (match memOf al i with
     | 3 => memOf al j == 0 || (memOf al j == 1 && heldApart al i j)
     | 4 => memOf al j == 0 || (capOk al i && memOf al j == 2) || (memOf al j == 1 && heldC al i j)
     | 5 => memOf al j == 0
     | 7 => memOf al j == 0 || (capOk al i && memOf al j == 2) || (memOf al j == 1 && heldC al i j)
     | _ => true)
def dstOk (al : List AOper) (bef : List Nat) (i j : Nat) : Bool :=
  i == j || match al[i]?, al[j]? with
    | some o, some p => match o.dst with
      | some d => p.dst != some d && (!p.looks.contains d || ordered bef i j)
      | none => true
    | _, _ => true
def loadT (o : AOper) : Bool :=
  match o.op with
  | .load (.k _) _ => false
  | _ => true
def drawOk (al : List AOper) (aft : List (List Nat)) : Bool :=
  let bef := befA aft
  al.all loadT && (List.range al.length).all fun j => (aft.getD j []).all (fun e => decide (e < j)) &&
    (List.range al.length).all fun i => pairOk al bef i j && dstOk al bef i j
noncomputable section
def tget (T : List Value) : Nat → Value :=
  List.rec (motive := fun _ => Nat → Value) (fun _ => undef) (fun v _ ih => fun n => Nat.casesOn (motive := fun _ => Value) n v ih) T
def tset : List Value → Nat → Value → List Value := fun T d v =>
  Nat.rec (motive := fun _ => List Value → List Value) (fun T => List.casesOn (motive := fun _ => List Value) T [v] (fun _ l => v :: l))
    (fun _ ih => fun T => List.casesOn (motive := fun _ => List Value) T (undef :: ih []) (fun x l => x :: ih l)) d T
@[simp] theorem tget_nil (n : Nat) : tget [] n = undef := rfl
@[simp] theorem tget_zero (v : Value) (l : List Value) : tget (v :: l) 0 = v := rfl
@[simp] theorem tget_succ (v : Value) (l : List Value) (n : Nat) : tget (v :: l) (n + 1) = tget l n := rfl
@[simp] theorem tget_tset (T : List Value) (d : Nat) (v : Value) (t : Nat) : tget (tset T d v) t = if t = d then v else tget T t := by
  induction d generalizing T t with
  | zero =>
    have e : ∀ x l, tset (x :: l) 0 v = v :: l := fun _ _ => rfl
    have e' : tset [] 0 v = [v] := rfl
    cases T <;> cases t <;> simp [e, e']
  | succ d ih =>
    have e : ∀ x l, tset (x :: l) (d + 1) v = x :: tset l d v := fun _ _ => rfl
    have e' : tset [] (d + 1) v = undef :: tset [] d v := rfl
    cases T with
    | nil => rw [e']; cases t with
      | zero => simp
      | succ t => simp [ih]
    | cons x T => rw [e]; cases t with
      | zero => simp
      | succ t => simp [ih]
structure ALoop where
  state : LoopState
  pending : Option (Option Nat)
  tmps : List Value
  params : List Nat
  assign : ACode
  body : ACode
inductive ABlk where
  | cells (cs : List Value) (ro : Bool)
  | loop (r : ALoop)
  | marks
  | map (l : List (Value × Value)) (lk : Option (Array MapEntry × Nat))
  | iter (gh : Option Nat × Nat × Array Nat × Nat)
  | bytes (l : List UInt8)
  | bld (p v : Value)
structure Hp where
  n : Nat
  l : List (Option ABlk)
def Hp.get (A : Hp) (x : Nat) : Option ABlk := if x < A.n then (A.l[A.n - 1 - x]?).join else none
def Hp.push (A : Hp) (b : ABlk) : Hp := ⟨A.n + 1, some b :: A.l⟩
def Hp.set (A : Hp) (x : Nat) (b : Option ABlk) : Hp := ⟨A.n, A.l.set (A.n - 1 - x) b⟩
@[simp] theorem Hp.n_push (A : Hp) (b : ABlk) : (A.push b).n = A.n + 1 := rfl
@[simp] theorem Hp.n_set (A : Hp) (x : Nat) (b : Option ABlk) : (A.set x b).n = A.n := rfl
theorem Hp.lt_of_get {A : Hp} {x : Nat} {b : ABlk} (h : A.get x = some b) : x < A.n := by
  unfold Hp.get at h; split at h
  · assumption
  · cases h
theorem Hp.get_push (A : Hp) (b : ABlk) (x : Nat) : (A.push b).get x = if x = A.n then some b else A.get x := by
  unfold Hp.get Hp.push
  by_cases h : x = A.n
  · subst h; simp
  · by_cases h' : x < A.n
    · have e : A.n + 1 - 1 - x = (A.n - 1 - x) + 1 := by omega
      simp [h, h', Nat.lt_succ_of_lt h', show A.n - x = (A.n - 1 - x) + 1 by omega]
    · simp [h, h', show ¬ x < A.n + 1 by omega]
theorem Hp.get_set {A : Hp} {x : Nat} {b0 : ABlk} (h : A.get x = some b0) (b : Option ABlk) (y : Nat) : (A.set x b).get y = if y = x then b else A.get y := by
  have hx := Hp.lt_of_get h
  have hl : A.n - 1 - x < A.l.length := by
    unfold Hp.get at h
    rw [if_pos hx] at h
    rcases Nat.lt_or_ge (A.n - 1 - x) A.l.length with h' | h'
    · exact h'
    · rw [List.getElem?_eq_none h'] at h; cases h
  unfold Hp.get Hp.set
  by_cases hy : y = x
  · subst hy; simp [hx, hl]
  · simp only [if_neg hy]
    by_cases hy' : y < A.n
    · simp only [hy', if_true]
      rw [List.getElem?_set_ne (by omega)]
    · simp [hy']
def ev (T : List Value) : Opd → Value
  | .t n => tget T n
  | .k v => v
def isCell : Value → Bool
  | .agg _ => false | .tuple _ => false
  | _ => true
def wr (k : IntKind) (n : Int) : Int :=
  match k, n with
  | .i64, .ofNat m => if Nat.blt m 9223372036854775808 then .ofNat m else k.wrap n
  | .i64, .negSucc m => if Nat.blt m 9223372036854775808 then .negSucc m else k.wrap n
  | _, _ => k.wrap n
theorem wrap_i64 (n : Int) (h0 : -9223372036854775808 ≤ n) (h1 : n < 9223372036854775808) : IntKind.i64.wrap n = n := by
  have e1 : (2 ^ IntKind.i64.bits : Int) = 18446744073709551616 := by decide
  have e2 : (2 ^ (IntKind.i64.bits - 1) : Int) = 9223372036854775808 := by decide
  have e3 : IntKind.i64.signed = true := rfl
  unfold IntKind.wrap
  simp only [e1, e2, e3, Bool.true_and, ge_iff_le, decide_eq_true_eq]
  split <;> omega
theorem wr_eq (k : IntKind) (n : Int) : wr k n = k.wrap n := by
  unfold wr
  split
  · rename_i m
    split
    · rename_i h
      rw [Nat.blt_eq] at h
      exact (wrap_i64 _ (by simp) (by simp; omega)).symm
    · rfl
  · rename_i m
    split
    · rename_i h
      rw [Nat.blt_eq] at h
      exact (wrap_i64 _ (by omega) (by omega)).symm
    · rfl
  · rfl
def kEq (k k' : IntKind) : Bool :=
  match k, k' with
  | .i64, .i64 => true
  | k, k' => decide (k = k')
theorem kEq_iff {k k' : IntKind} : kEq k k' = true ↔ k = k' := by
  unfold kEq; split <;> simp
def intA (op : BinOp) (k : IntKind) (a b : Int) : Option Value :=
  match op with
  | .add => some (.int k (wr k (a + b)))
  | .sub => some (.int k (wr k (a - b)))
  | .mul => some (.int k (wr k (a * b)))
  | .quo => if b = 0 then none else some (.int k (wr k (a.tdiv b)))
  | .rem => if b = 0 then none else some (.int k (a.tmod b))
  | .eql => some (.bool (a == b))
  | .neq => some (.bool (a != b))
  | .lss => some (.bool (a < b))
  | .leq => some (.bool (a ≤ b))
  | .gtr => some (.bool (a > b))
  | .geq => some (.bool (a ≥ b))
  | .and => some (.int k (k.wrap (BitVec.ofInt k.bits a &&& BitVec.ofInt k.bits b).toNat))
  | .or => some (.int k (k.wrap (BitVec.ofInt k.bits a ||| BitVec.ofInt k.bits b).toNat))
  | .xor => some (.int k (k.wrap (BitVec.ofInt k.bits a ^^^ BitVec.ofInt k.bits b).toNat))
  | .andNot => some (.int k (k.wrap (BitVec.ofInt k.bits a &&& ~~~ BitVec.ofInt k.bits b).toNat))
  | _ => none
def shA (left : Bool) (k : IntKind) (a b : Int) : Option Value :=
  if b < 0 then none else
  some (.int k (if left then k.wrap (a * 2 ^ (Min.min b.toNat k.bits)) else a.fdiv (2 ^ (Min.min b.toNat k.bits))))
def binA (op : BinOp) (x y : Value) : Option Value :=
  match x, y with
  | .int k a, .int k' b =>
    match op with
    | .shl => shA true k a b
    | .shr => shA false k a b
    | op => if kEq k k' then intA op k a b else none
  | _, _ => none
def strEq (x y : ByteArray) : Bool := x.data.toList == y.data.toList
def cellEq (b : Nat) (x y : Value) : Option Bool :=
  match b, x, y with
  | 0, .int k a, .int k' b => if kEq k k' then some (a == b) else none
  | 1, .bool a, .bool b => some (a == b)
  | 2, .string a, .string b => some (strEq a b)
  | _, _, _ => none
def eqCells : List Nat → List Value → List Value → Option Bool
  | [], [], [] => some true
  | b :: sh, x :: xs, y :: ys => match cellEq b x y, eqCells sh xs ys with
    | some e, some r => some (e && r)
    | _, _ => none
  | _, _, _ => none
def errV : Value := .iface 0 (.tuple ⟨[]⟩)
def isNil (kind : Nat) (v : Value) : Option Bool :=
  match v with
  | .pointer none => if kind = 0 then some true else none
  | .pointer (some _) => if kind = 0 then some false else none
  | .slice none 0 0 => if kind = 1 then some true else none
  | .slice (some _) _ _ => if kind = 1 then some false else none
  | .nilFunc => if kind = 2 then some true else none
  | .func _ _ _ => if kind = 2 then some false else none
  | .map none => if kind = 3 then some true else none
  | .map (some _) => if kind = 3 then some false else none
  | .nilIface => if kind = 4 then some true else none
  | .iface _ _ => if kind = 4 then some false else none
  | _ => none
def foldInt (pick : Int → Int → Bool) : Value → List Value → Option Value
  | v, [] => some v
  | .int k x, .int _ y :: rest => foldInt pick (.int k (if pick y x then y else x)) rest
  | _, _ => none
def setRange (cs : List Value) (o : Nat) (vs : List Value) : List Value := cs.take o ++ vs ++ cs.drop (o + vs.length)
def fillA (cells : List Value) : List (Nat × Nat × Value) → Option (List Value)
  | [] => some cells
  | (off, size, v) :: rest => if v.cells.toList.length = size ∧ off + size ≤ cells.length then fillA (setRange cells off v.cells.toList) rest else none
def partA (cs : List Value) (off : Nat) : Option Nat → Option Value
  | none => cs[off]?
  | some s => if off + s ≤ cs.length then some (.agg ((cs.drop off).take s).toArray) else none
def loadA (A : Hp) (addr : Value) (size : Option Nat) : Option Value :=
  match addr with
  | .pointer (some ⟨x, o, none⟩) =>
    match A.get x with
    | some (.cells cs _) => partA cs o size
    | _ => none
  | _ => none
def writeA (g : Nat) (A : Hp) (x o : Nat) (vs : List Value) : Option Hp :=
  if g ≤ x then
    match A.get x with
    | some (.cells cs false) => if o + vs.length ≤ cs.length ∧ vs.all isCell = true then some (A.set x (some (.cells (setRange cs o vs) false))) else none
    | _ => none
  else none
def storeA (g : Nat) (A : Hp) (addr v : Value) (size : Nat) : Option Hp :=
  match addr with
  | .pointer (some ⟨x, o, none⟩) => if v.cells.toList.length = size then writeA g A x o v.cells.toList else none
  | _ => none
def zeros (n : Nat) (z : List Value) : List Value := (List.range (n * z.length)).map fun i => z.getD (i % z.length) undef
def cellsAt (A : Hp) (k : Nat) : Value → Option (List Value)
  | .slice (some ⟨x, o, some _⟩) _ _ => match A.get x with
    | some (.cells cs _) => if o + k ≤ cs.length then some ((cs.drop o).take k) else none
    | _ => none
  | .slice none 0 0 => if k = 0 then some [] else none
  | _ => none
def room : Nat := 70368744177664
def appendA (g : Nat) (A : Hp) (esz bytes : Nat) (s x : Value) : Option (Value × Hp) :=
  match x with
  | .slice xb n xc =>
    match cellsAt A (n * esz) (.slice xb n xc) with
    | some new =>
      if new.all isCell = true ∧ 0 < esz then
        match s with
        | .slice none 0 0 => if n = 0 then some (.slice none 0 0, A) else if n * bytes ≤ room ∧ n ≤ room then
            some (.slice (some ⟨A.n, 0, some esz⟩) n n, A.push (.cells new false)) else none
        | .slice (some ⟨b, off, some es⟩) m c =>
          if n = 0 then some (.slice (some ⟨b, off, some es⟩) m c, A) else
          match A.get b with
          | some (.cells cs false) =>
            if g ≤ b ∧ (m + n) * bytes ≤ room ∧ m + n ≤ room ∧ es = esz then
              if off + m * esz = cs.length then
                some (.slice (some ⟨A.n, 0, some esz⟩) (m + n) (m + n), (A.set b none).push (.cells (cs.drop off ++ new) false))
              else if m + n ≤ c then
                (writeA g A b (off + m * esz) new).map fun A' => (.slice (some ⟨b, off, some es⟩) (m + n) c, A')
              else none
            else none
          | _ => none
        | _ => none
      else none
    | none => none
  | _ => none
def copyA (g : Nat) (A : Hp) (esz : Nat) (d s : Value) : Option (Value × Hp) :=
  match d, s with
  | .slice base m _, .slice sb n sc =>
    match cellsAt A (Min.min n m * esz) (.slice sb n sc) with
    | some new => match base with
      | some ⟨x, o, some _⟩ => (writeA g A x o new).map fun A' => (goInt (Min.min n m : Nat), A')
      | some _ => none
      | none => some (goInt (Min.min n m : Nat), A)
    | none => none
  | _, _ => none
def clearSA (g : Nat) (A : Hp) (z : List Value) (d : Value) : Option (Value × Hp) :=
  match d with
  | .slice none 0 0 => some (.tuple ⟨[]⟩, A)
  | .slice (some ⟨x, o, some _⟩) m _ => if m = 0 then some (.tuple ⟨[]⟩, A) else (writeA g A x o (zeros m z)).map fun A' => (.tuple ⟨[]⟩, A')
  | _ => none
inductive Ex where
  | normal
  | exit (id : Nat)
  | ret
structure St where
  T : List Value
  D : List Nat
  A : Hp
abbrev Spec := Nat → List Value → Hp → Option (Value × Hp)
abbrev CallFn := Nat → Value → List Value → Hp → Option (Value × Hp)
abbrev OpFn := CallFn → Nat → List Value → Hp → Option (Value × Hp)
def pureV (r : Option Value) (A : Hp) : Option (Value × Hp) := r.map fun v => (v, A)
def pickA (c a b : Value) : Option Value :=
  match c with
  | .bool t => some (if t then a else b)
  | _ => none
def nilCheckA (x : Value) : Option Value :=
  match x with
  | .pointer (some a) => some (.pointer (some a))
  | .func (.func f) a b => some (.func (.func f) a b)
  | .func (.yield f) a b => some (.func (.yield f) a b)
  | _ => none
def beqA (neg : Bool) (x y : Value) : Option Value :=
  match x, y with
  | .bool a, .bool b => some (.bool (if neg then !(a == b) else a == b))
  | _, _ => none
def eqvA (neg : Bool) (sh : List Nat) (x y : Value) : Option Value :=
  match x, y with
  | .agg a, .agg b => (eqCells sh a.toList b.toList).map fun r => .bool (if neg then !r else r)
  | _, _ => none
def eqNilA (kind : Nat) (neg : Bool) (x : Value) : Option Value := (isNil kind x).map fun r => .bool (if neg then !r else r)
def negA (x : Value) : Option Value :=
  match x with
  | .int k n => some (.int k (wr k (0 - n)))
  | _ => none
def notA (x : Value) : Option Value :=
  match x with
  | .bool b => some (.bool (!b))
  | _ => none
def toIntA (k : IntKind) (x : Value) : Option Value :=
  match x with
  | .int _ n => some (.int k (wr k n))
  | .float s b => match (s.decode b).toInt .zero with
    | some n => if k.min ≤ n ∧ n ≤ k.max then some (.int k n) else none
    | none => none
  | _ => none
def toF64A (x : Value) : Option Value :=
  match x with
  | .int _ n => some (.float .f64 (FloatKind.f64.nearest n))
  | _ => none
def fieldAddrA (off : Nat) (x : Value) : Option Value :=
  match x with
  | .pointer (some ⟨b, o, none⟩) => some (.pointer (some ⟨b, o + off, none⟩))
  | _ => none
def fieldA (off : Nat) (size : Option Nat) (x : Value) : Option Value :=
  match x with
  | .agg cs => partA cs.toList off size
  | _ => none
def idxSA (esz : Nat) (x i : Value) : Option Value :=
  match x, i with
  | .slice (some ⟨b, o, some _⟩) n _, .int _ i => if 0 ≤ i ∧ i < n then some (.pointer (some ⟨b, o + i.toNat * esz, none⟩)) else none
  | _, _ => none
def idxAA (len esz : Nat) (x i : Value) : Option Value :=
  match x, i with
  | .pointer (some ⟨b, o, none⟩), .int _ i => if 0 ≤ i ∧ i < len then some (.pointer (some ⟨b, o + i.toNat * esz, none⟩)) else none
  | _, _ => none
def indexA (len esz : Nat) (agg : Bool) (x i : Value) : Option Value :=
  match x, i with
  | .agg cs, .int _ i => if 0 ≤ i ∧ i < len then partA cs.toList (i.toNat * esz) (if agg then some esz else none) else none
  | _, _ => none
def intOfA (v : Value) : Option Int :=
  match v with
  | .int _ i => some i
  | _ => none
def boundA (T : List Value) (d : Nat) : Option Opd → Option Int
  | none => some d
  | some x => intOfA (ev T x)
def resliceA (esz : Nat) (x : Value) (lo : Option Int) (hi : Nat → Option Int) : Option Value :=
  match x with
  | .slice (some ⟨b, o, some s⟩) n c => match lo, hi n with
    | some l, some h => if s = esz ∧ 0 ≤ l ∧ l ≤ h ∧ h ≤ Max.max n c then some (.slice (some ⟨b, o + l.toNat * esz, some s⟩) (h - l).toNat (Max.max n c - l.toNat)) else none
    | _, _ => none
  | .slice none 0 0 => match lo, hi 0 with
    | some l, some h => if l = 0 ∧ h = 0 then some (.slice none 0 0) else none
    | _, _ => none
  | _ => none
def reslice3A (esz : Nat) (x lo hi mx : Value) : Option Value :=
  match x, lo, hi, mx with
  | .slice (some ⟨b, o, some s⟩) n c, .int _ l, .int _ h, .int _ m => if s = esz ∧ 0 ≤ l ∧ l ≤ h ∧ h ≤ m ∧ m ≤ Max.max n c then some (.slice (some ⟨b, o + l.toNat * esz, some s⟩) (h - l).toNat (m - l).toNat) else none
  | .slice none 0 0, .int _ l, .int _ h, .int _ m => if l = 0 ∧ h = 0 ∧ m = 0 then some (.slice none 0 0) else none
  | _, _, _, _ => none
def extractA (i : Nat) (x : Value) : Option Value :=
  match x with
  | .tuple vs => vs.toList[i]?
  | _ => none
def lenV (x : Value) : Option Value :=
  match x with
  | .slice _ n _ => some (goInt n)
  | _ => none
def lenTV (x : Value) : Option Value :=
  match x with
  | .string s => some (goInt s.size)
  | _ => none
def minA (l : List Value) : Option Value :=
  match l with
  | x :: rest => foldInt (fun y x => y < x) x rest
  | [] => none
def maxA (l : List Value) : Option Value :=
  match l with
  | x :: rest => foldInt (fun y x => y > x) x rest
  | [] => none
def allocA (cs : List Value) (A : Hp) : Option (Value × Hp) := some (.pointer (some ⟨A.n, 0, none⟩), A.push (.cells cs false))
def slitA (n esz : Nat) (cs : Option (List Value)) (A : Hp) : Option (Value × Hp) :=
  match cs with
  | some cs => some (.slice (some ⟨A.n, 0, some esz⟩) n n, A.push (.cells cs false))
  | none => none
def makeSA (esz bytes : Nat) (z : List Value) (l c : Value) (A : Hp) : Option (Value × Hp) :=
  match l, c with
  | .int .i64 n, .int .i64 m => if 0 ≤ n ∧ n ≤ m ∧ m.toNat * bytes ≤ room ∧ m ≤ room then
      some (.slice (some ⟨A.n, 0, some esz⟩) n.toNat m.toNat, A.push (.cells (zeros m.toNat z) false)) else none
  | _, _ => none
def lessB : List UInt8 → List UInt8 → Bool
  | _, [] => false
  | [], _ :: _ => true
  | a :: x, b :: y => a < b || (a == b && lessB x y)
def strLt (x y : ByteArray) : Bool := lessB x.data.toList y.data.toList
def strA (op : BinOp) (x y : ByteArray) : Option Value :=
  match op with
  | .add => if ((x.size + y.size : Nat) : Int) > 9223372036854775807 then none else some (.string (x ++ y))
  | .eql => some (.bool (strEq x y))
  | .neq => some (.bool (!strEq x y))
  | .lss => some (.bool (strLt x y))
  | .leq => some (.bool (strLt x y || strEq x y))
  | .gtr => some (.bool (!(strLt x y || strEq x y)))
  | .geq => some (.bool (!strLt x y))
  | _ => none
def strOpA (op : BinOp) (x y : Value) : Option Value :=
  match x, y with
  | .string a, .string b => strA op a b
  | _, _ => none
def strIdxA (x i : Value) : Option Value :=
  match x, i with
  | .string s, .int _ i => if 0 ≤ i then (s.data.toList[i.toNat]?).map fun b => .int .u8 b.toNat else none
  | _, _ => none
def bytesOf (s : ByteArray) : List Value := s.data.toList.map fun b => .int .u8 b.toNat
def toBytesA (x : Value) (A : Hp) : Option (Value × Hp) :=
  match x with
  | .string s => some (.slice (some ⟨A.n, 0, some 1⟩) s.size s.size, A.push (.cells (bytesOf s) true))
  | _ => none
def u8sOf : List Value → Option (List UInt8)
  | [] => some []
  | .int .u8 n :: l => if 0 ≤ n ∧ n < 256 then (u8sOf l).map fun r => UInt8.ofNat n.toNat :: r else none
  | _ => none
def toStrA (x : Value) (A : Hp) : Option Value :=
  match x with
  | .slice none 0 0 => some (.string ⟨#[]⟩)
  | .slice (some ⟨b, o, some 1⟩) n c => match cellsAt A n (.slice (some ⟨b, o, some 1⟩) n c) with
    | some vs => (u8sOf vs).map fun l => .string ⟨l.toArray⟩
    | none => none
  | _ => none
def strSlA (x : Value) (lo : Option Int) (hi : Nat → Option Int) : Option Value :=
  match x with
  | .string s => match lo, hi s.size with
    | some l, some h => if 0 ≤ l ∧ l ≤ h ∧ h ≤ s.size then some (.string ⟨⟨(s.data.toList.drop l.toNat).take (h - l).toNat⟩⟩) else none
    | _, _ => none
  | _ => none
def sliceDataA (x : Value) : Option Value :=
  match x with
  | .slice none 0 0 => some (.pointer none)
  | .slice (some ⟨b, o, some _⟩) n _ => if 0 < n then some (.pointer (some ⟨b, o, none⟩)) else none
  | _ => none
def appendTA (g : Nat) (A : Hp) (s x : Value) : Option (Value × Hp) :=
  match x with
  | .string u => match s with
    | .slice none 0 0 => if u.size = 0 then some (.slice none 0 0, A) else if u.size ≤ room then
        some (.slice (some ⟨A.n, 0, some 1⟩) u.size u.size, A.push (.bytes u.data.toList)) else none
    | .slice (some ⟨b, 0, some 1⟩) m c => match A.get b with
      | some (.bytes l) => if g ≤ b ∧ m + u.size ≤ room ∧ l.length = m then
          if u.size = 0 then some (.slice (some ⟨b, 0, some 1⟩) m c, A) else
          some (.slice (some ⟨A.n, 0, some 1⟩) (m + u.size) (m + u.size), (A.set b none).push (.bytes (l ++ u.data.toList))) else none
      | _ => none
    | _ => none
  | _ => none
def mkStrA (g : Nat) (A : Hp) (p n : Value) : Option (Value × Hp) :=
  match p, n with
  | .pointer none, .int .i64 0 => some (.string ⟨⟨[]⟩⟩, A)
  | .pointer (some ⟨b, 0, none⟩), .int .i64 n => match A.get b with
    | some (.bytes l) => if g ≤ b ∧ n = l.length ∧ 0 < n ∧ n ≤ room then some (.string ⟨⟨l⟩⟩, A.set b none) else none
    | _ => none
  | _, _ => none
def cellKind : Value → Nat
  | .int _ _ => 0
  | .bool _ => 1
  | .string _ => 2
  | _ => 3
def shapeNat : List Nat → Nat
  | [] => 3
  | c :: s => shapeNat s * 4 + c
def keyFits (kt : Nat) : Value → Bool
  | .int _ _ => kt == 0
  | .string _ => kt == 1
  | .bool _ => kt == 2
  | .agg cs => kt == shapeNat (cs.toList.map cellKind) && cs.toList.all fun v => cellKind v != 3
  | _ => false
def keyEq : Value → Value → Option Bool
  | .int a n, .int b m => if kEq a b then some (n == m) else none
  | .string a, .string b => some (strEq a b)
  | .bool a, .bool b => some (a == b)
  | .agg xs, .agg ys => eqCells (xs.toList.map cellKind) xs.toList ys.toList
  | _, _ => none
def findM (k : Value) : List (Value × Value) → Option (Option Value)
  | [] => some none
  | (k', v) :: l => match keyEq k k' with
    | some true => some (some v)
    | some false => findM k l
    | none => none
def setM (k v : Value) : List (Value × Value) → Option (List (Value × Value))
  | [] => some [(k, v)]
  | (k', v') :: l => match keyEq k k' with
    | some true => some ((k, v) :: l)
    | some false => (setM k v l).map fun r => (k', v') :: r
    | none => none
def mapOf (A : Hp) : Value → Option (List (Value × Value))
  | .map none => some []
  | .map (some x) => match A.get x with
    | some (.map l _) => some l
    | _ => none
  | _ => none
def lookupA (A : Hp) (kt : Nat) (z : Value) (ok : Bool) (x k : Value) : Option Value :=
  match mapOf A x with
  | some l => if keyFits kt k = true then (findM k l).map fun r => if ok then .tuple ⟨[r.getD z, .bool r.isSome]⟩ else r.getD z else none
  | none => none
def lenMA (A : Hp) (x : Value) : Option Value := (mapOf A x).map fun l => goInt l.length
def mapSetA (g : Nat) (A : Hp) (kt : Nat) (x k v : Value) : Option Hp :=
  match x with
  | .map (some r) => match A.get r with
    | some (.map l none) => if g ≤ r ∧ keyFits kt k = true then (setM k v l).map fun l' => A.set r (some (.map l' none)) else none
    | _ => none
  | _ => none
def clearMA (g : Nat) (A : Hp) (x : Value) : Option Hp :=
  match x with
  | .map none => some A
  | .map (some r) => match A.get r with
    | some (.map _ none) => if g ≤ r then some (A.set r (some (.map [] none))) else none
    | _ => none
  | _ => none
def capsOf : Value → List Nat
  | .func (.func _) a b => (a.toList ++ b.toList).filterMap fun v => match v with
    | .pointer (some ⟨x, _, _⟩) => some x
    | _ => none
  | .slice (some ⟨x, _, _⟩) _ _ => [x]
  | _ => []
def OnlyC (A : Hp) (f : Value) (A' : Hp) : Prop := ∀ x, x < A.n → x ∉ capsOf f → A'.get x = A.get x
open Classical in
def stillBut (A : Hp) (f : Value) : Option (Value × Hp) → Option (Value × Hp)
  | some (v, A') => if OnlyC A f A' then some (v, A') else none
  | none => none
def storeV (r : Option Hp) : Option (Value × Hp) := r.map fun A' => (undef, A')
def opA : AOp → OpFn
  | .move x => fun _ _ T A => some (ev T x, A)
  | .pick c a b => fun _ _ T A => pureV (pickA (ev T c) (ev T a) (ev T b)) A
  | .nilCheck x => fun _ _ T A => pureV (nilCheckA (ev T x)) A
  | .bin op x y => fun _ _ T A => pureV (binA op (ev T x) (ev T y)) A
  | .beq neg x y => fun _ _ T A => pureV (beqA neg (ev T x) (ev T y)) A
  | .eqv neg sh x y => fun _ _ T A => pureV (eqvA neg sh (ev T x) (ev T y)) A
  | .eqNil kind neg x => fun _ _ T A => pureV (eqNilA kind neg (ev T x)) A
  | .neg x => fun _ _ T A => pureV (negA (ev T x)) A
  | .not x => fun _ _ T A => pureV (notA (ev T x)) A
  | .toInt k x => fun _ _ T A => pureV (toIntA k (ev T x)) A
  | .toF64 x => fun _ _ T A => pureV (toF64A (ev T x)) A
  | .makeFunc f first captured => fun _ _ T A => some (.func (.func f) (first.map (ev T)).toArray (captured.map (ev T)).toArray, A)
  | .build z parts => fun _ _ T A => pureV ((fillA z (parts.map fun p => (p.1, p.2.1, ev T p.2.2))).map fun cs => .agg cs.toArray) A
  | .fieldAddr x off => fun _ _ T A => pureV (fieldAddrA off (ev T x)) A
  | .field x off size => fun _ _ T A => pureV (fieldA off size (ev T x)) A
  | .idxS x i esz => fun _ _ T A => pureV (idxSA esz (ev T x) (ev T i)) A
  | .idxA x i len esz => fun _ _ T A => pureV (idxAA len esz (ev T x) (ev T i)) A
  | .index x i len esz agg => fun _ _ T A => pureV (indexA len esz agg (ev T x) (ev T i)) A
  | .reslice3 x lo hi mx esz => fun _ _ T A => pureV (reslice3A esz (ev T x) (ev T lo) (ev T hi) (ev T mx)) A
  | .reslice x lo hi esz => fun _ _ T A => pureV (resliceA esz (ev T x) (boundA T 0 lo) (fun n => boundA T n hi)) A
  | .extract x i => fun _ _ T A => pureV (extractA i (ev T x)) A
  | .len x => fun _ _ T A => pureV (lenV (ev T x)) A
  | .lenT x => fun _ _ T A => pureV (lenTV (ev T x)) A
  | .min xs => fun _ _ T A => pureV (minA (xs.map (ev T))) A
  | .max xs => fun _ _ T A => pureV (maxA (xs.map (ev T))) A
  | .alloc z => fun _ _ _ A => allocA z A
  | .box x => fun _ _ T A => allocA (ev T x).cells.toList A
  | .slit n esz z parts => fun _ _ T A => slitA n esz (fillA (zeros n z) (parts.map fun p => (p.1 * esz, esz, ev T p.2))) A
  | .makeS l c esz bytes z => fun _ _ T A => makeSA esz bytes z (ev T l) (ev T c) A
  | .load x size => fun _ _ T A => pureV (loadA A (ev T x) size) A
  | .store x v size => fun _ g T A => storeV (storeA g A (ev T x) (ev T v) size)
  | .append s x esz bytes => fun _ g T A => appendA g A esz bytes (ev T s) (ev T x)
  | .copy d s esz => fun _ g T A => copyA g A esz (ev T d) (ev T s)
  | .call f args ro => fun cv g T A => cv (if ro then A.n else g) (ev T f) (args.map (ev T)) A
  | .callC c f args => fun cv g T A => stillBut A (ev T c) (cv g (ev T f) (args.map (ev T)) A)
  | .strOp op x y => fun _ _ T A => pureV (strOpA op (ev T x) (ev T y)) A
  | .strIdx x i => fun _ _ T A => pureV (strIdxA (ev T x) (ev T i)) A
  | .toBytes x => fun _ _ T A => toBytesA (ev T x) A
  | .toStr x => fun _ _ T A => pureV (toStrA (ev T x) A) A
  | .makeM => fun _ _ _ A => some (.map (some A.n), A.push (.map [] none))
  | .lookup x k kt z ok => fun _ _ T A => pureV (lookupA A kt z ok (ev T x) (ev T k)) A
  | .mapSet x k v kt => fun _ g T A => storeV (mapSetA g A kt (ev T x) (ev T k) (ev T v))
  | .lenM x => fun _ _ T A => pureV (lenMA A (ev T x)) A
  | .clearM x => fun _ g T A => (clearMA g A (ev T x)).map fun A' => (.tuple ⟨[]⟩, A')
  | .clearS x z => fun _ g T A => clearSA g A z (ev T x)
  | .rangeI _ => fun _ _ _ _ => none
  | .nextI _ => fun _ _ _ _ => none
  | .entryI _ => fun _ _ _ _ => none
  | .strSl x lo hi => fun _ _ T A => pureV (strSlA (ev T x) (boundA T 0 lo) (fun n => boundA T n hi)) A
  | .sliceData x => fun _ _ T A => pureV (sliceDataA (ev T x)) A
  | .appendT s x => fun _ g T A => appendTA g A (ev T s) (ev T x)
  | .mkStr p n => fun _ g T A => mkStrA g A (ev T p) (ev T n)
  | .allocB => fun _ _ _ A => some (.pointer (some ⟨A.n, 0, none⟩), A.push (.bld (.pointer none) (.slice none 0 0)))
  | .fail => fun _ _ _ _ => none
def putA : Option Nat → List Value → Value → List Value
  | some d => fun T v => tset T d v
  | none => fun T _ => T
def wantedA : Option (Nat × Bool) → List Value → Bool
  | none => fun _ => true
  | some (d, b) => fun T => match tget T d with
    | .bool b' => b' == b
    | _ => false
def apartA (T : List Value) (p : Opd × Nat × Opd × Nat) : Bool :=
  match ev T p.1, ev T p.2.2.1 with
  | .pointer (some ⟨b, o, none⟩), .pointer (some ⟨b', o', none⟩) => decide (b ≠ b' ∨ o + p.2.1 ≤ o' ∨ o' + p.2.2.2 ≤ o)
  | .func f a b, .pointer (some ⟨x, _, _⟩) => !(capsOf (.func f a b)).contains x
  | .slice (some ⟨y, _, _⟩) _ _, .pointer (some ⟨x, _, _⟩) => decide (x ≠ y)
  | _, _ => true
def forceN {α : Sort _} (n : Nat) (k : Nat → α) : α := Nat.casesOn (motive := fun _ => α) n (k 0) (fun m => k (m + 1))
def forceV {α : Sort _} (v : Value) (k : Value → α) : α :=
  match v with
  | .int kd (.ofNat m) => forceN m fun m => k (.int kd (.ofNat m))
  | .int kd (.negSucc m) => forceN m fun m => k (.int kd (.negSucc m))
  | .bool true => k (.bool true)
  | .bool false => k (.bool false)
  | v => k v
@[simp] theorem forceN_eq {α : Sort _} (n : Nat) (k : Nat → α) : forceN n k = k n := by cases n <;> rfl
@[simp] theorem forceV_eq {α : Sort _} (v : Value) (k : Value → α) : forceV v k = k v := by
  unfold forceV; split <;> simp
def operA (o : AOper) (next : List Value → Hp → Option (List Value × Hp)) : CallFn → Nat → List Value → Hp → Option (List Value × Hp) := fun cv g T A =>
  if wantedA o.guard T = true then
    if o.apart.all (apartA T) = true then
      match opA o.op cv g T A with
      | some (v, A') => forceV v fun v => next (putA o.dst T v) A'
      | none => none
    else none
  else next (putA o.dst T undef) A
def opsA (cv : CallFn) (g : Nat) : List AOper → List Value → Hp → Option (List Value × Hp) :=
  List.rec (motive := fun _ => List Value → Hp → Option (List Value × Hp)) (fun T A => some (T, A)) (fun o _ ih => fun T A => operA o ih cv g T A)
@[simp] theorem opsA_nil (cv : CallFn) (g : Nat) (T : List Value) (A : Hp) : opsA cv g [] T A = some (T, A) := rfl
theorem opsA_cons (cv : CallFn) (g : Nat) (o : AOper) (l : List AOper) (T : List Value) (A : Hp) : opsA cv g (o :: l) T A = operA o (opsA cv g l) cv g T A := rfl
def zipArgs (T : List Value) : List Nat → List Value → List Value
  | t :: ts, v :: vs => zipArgs (tset T t v) ts vs
  | _, _ => T
def takeMarks (A : Hp) : List Nat → Option Hp
  | [] => some A
  | x :: xs => match A.get x with
    | some .marks => takeMarks (A.set x none) xs
    | _ => none
def resOne (T : List Value) (A : Hp) : ARes → Option Value
  | .tmp t => some (tget T t)
  | .cell a size => loadA A (tget T a) size
def resAll (T : List Value) (A : Hp) : List ARes → Option (List Value)
  | [] => some []
  | r :: rs => match resOne T A r with
    | some v => (resAll T A rs).map fun vs => v :: vs
    | none => none
def resA (res : List ARes) (T : List Value) (A : Hp) : Option Value :=
  match resAll T A res with
  | some [v] => some v
  | some vs => some (.tuple vs.toArray)
  | none => none
def sqrtA : List Value → Option Value
  | [.float .f64 x] => (FloatKind.f64.format.sqrt x).map fun r => .float .f64 r
  | _ => none
abbrev RunFn := Nat → Option Nat → St → Option (Ex × St)
def Ex.pend : Ex → Option (Option Nat)
  | .normal => none
  | .ret => some none
  | .exit id => some (some id)
def finishA (res : List ARes) : Option (Ex × St) → Option (Value × Hp)
  | some (.exit _, _) => none
  | some (_, st') => match takeMarks st'.A st'.D with
    | some A' => (resA res st'.T A').map fun v => (v, A')
    | none => none
  | none => none
def enterA (run : ACode → RunFn) (g : Nat) (args : List Value) (A : Hp) : Option AFunc → Option (Value × Hp)
  | some (.fn _ res body) => finishA res (run body g none ⟨args, [], A⟩)
  | some .sqrt => pureV (sqrtA args) A
  | some .lib => none
  | none => none
def callF (AP : Nat → Option AFunc) (K : Nat → Option Spec) (run : ACode → RunFn) (g : Nat) (f : Nat) (args : List Value) (A : Hp) : Option (Value × Hp) :=
  match K f with
  | some S => S g args A
  | none => enterA run g args A (AP f)
def endRoundA (l : Nat) : Option (Ex × St) → Option (Value × Hp)
  | some (e, st2) => match st2.A.get l with
    | some (.loop r2) => some (.bool e.pend.isNone, st2.A.set l (some (.loop { r2 with state := if e.pend.isNone then .ready else .done, pending := e.pend })))
    | _ => none
  | none => none
def beginRoundA (run : ACode → RunFn) (g l : Nat) (body : ACode) : Option (Ex × St) → Option (Value × Hp)
  | some (.normal, st1) => match st1.A.get l with
    | some (.loop r1) => match r1.state with
      | .ready => endRoundA l (run body g (some l) ⟨st1.T, st1.D, st1.A.set l (some (.loop { r1 with state := .busy }))⟩)
      | _ => none
    | _ => none
  | _ => none
def yieldA (run : ACode → RunFn) (g l : Nat) (args : List Value) (A : Hp) : Option (Value × Hp) :=
  match A.get l with
  | some (.loop r) =>
    if args.length = r.params.length ∧ g ≤ l then
      beginRoundA run g l r.body (run r.assign g (some l) ⟨zipArgs r.tmps r.params args, [], A⟩)
    else none
  | _ => none
def callV (AP : Nat → Option AFunc) (K : Nat → Option Spec) (run : ACode → RunFn) : CallFn := fun g f args A =>
  match f with
  | .func (.func h) first captured => callF AP K run g h (first.toList ++ args ++ captured.toList) A
  | .func (.yield l) ⟨[]⟩ ⟨[]⟩ => yieldA run g l args A
  | _ => none
def inBlk (id : Nat) : Option (Ex × St) → Option (Ex × St)
  | some (.exit i, st) => if i = id then some (.normal, st) else some (.exit i, st)
  | r => r
def seqA (b : RunFn) (g : Nat) (rd : Option Nat) : Option (Ex × St) → Option (Ex × St)
  | some (.normal, st1) => b g rd st1
  | r => r
def condA (a b : RunFn) (g : Nat) (rd : Option Nat) (st : St) : Value → Option (Ex × St)
  | .bool true => a g rd st
  | .bool false => b g rd st
  | _ => none
def iterA (body : RunFn) (m : Nat) : RunFn :=
  Nat.rec (motive := fun _ => RunFn) (fun _ _ _ => none) (fun _ ih => fun g rd st => seqA ih g rd (body g rd st)) m
def endLoopA (l : Nat) (T : List Value) (D : List Nat) : Option (Value × Hp) → Option (Ex × St)
  | some (_, A3) => match A3.get l with
    | some (.loop r) => match r.state with
      | .busy => none
      | _ => match r.pending with
        | none => some (.normal, ⟨T, D, A3.set l (some (.loop { r with state := .exhausted }))⟩)
        | some none => some (.ret, ⟨T, D, A3.set l (some (.loop { r with state := .exhausted }))⟩)
        | some (some id) => some (.exit id, ⟨T, D, A3.set l (some (.loop { r with state := .exhausted }))⟩)
    | _ => none
  | none => none
def rangeA (cf : Nat → Nat → List Value → Hp → Option (Value × Hp)) (ps : List Nat) (assign body : ACode) (g : Nat) (rd : Option Nat) (st : St) : Value → Option (Ex × St)
  | .func (.func h) first captured =>
    match rd with
    | none => endLoopA (st.A.n + 1) st.T (st.A.n :: st.D) (cf g h (first.toList ++ [.func (.yield (st.A.n + 1)) #[] #[]] ++ captured.toList)
        ((st.A.push .marks).push (.loop { state := .ready, pending := none, tmps := st.T, params := ps, assign, body })))
    | some l => match st.A.get l with
      | some (.loop _) => endLoopA st.A.n st.T st.D (cf g h (first.toList ++ [.func (.yield st.A.n) #[] #[]] ++ captured.toList)
          (st.A.push (.loop { state := .ready, pending := none, tmps := st.T, params := ps, assign, body })))
      | _ => none
  | _ => none
def opsSt (cv : CallFn) (g : Nat) (l : List AOper) (st : St) : Option (Ex × St) := (opsA cv g l st.T st.A).map fun r => (.normal, ⟨r.1, st.D, r.2⟩)
def codeA (cv : CallFn) (cf : Nat → Nat → List Value → Hp → Option (Value × Hp)) (m : Nat) : ACode → RunFn :=
  ACode.rec (motive := fun _ => RunFn)
    (fun _ _ st => some (.normal, st))
    (fun l g _ st => opsSt cv g l st)
    (fun _ _ a b g rd st => seqA b g rd (a g rd st))
    (fun c _ _ a b g rd st => condA a b g rd st (ev st.T c))
    (fun id _ c g rd st => inBlk id (c g rd st))
    (fun _ c => iterA c m)
    (fun id _ _ st => some (.exit id, st))
    (fun _ _ st => some (.ret, st))
    (fun f ps assign body _ _ g rd st => rangeA cf ps assign body g rd st (ev st.T f))
def exec (AP : Nat → Option AFunc) (K : Nat → Option Spec) (m d : Nat) : ACode → RunFn :=
  Nat.rec (motive := fun _ => ACode → RunFn) (fun _ _ _ _ => none) (fun _ ih => codeA (callV AP K ih) (callF AP K ih) m) d
end
end Go.Ab
