/- The program's functions in abstract form: made by a program of ours. -/
import GoSem.Dispatch
import GoSem.Machine.Frame
set_option linter.unusedSimpArgs false
set_option linter.unusedVariables false
set_option linter.unusedSectionVars false
namespace Go.Ab
inductive Opd where
  | t (n : Nat)
  | k (v : Value)
inductive AOp where
  | move (x : Opd)
  | pick (c a b : Opd)
  | nilCheck (x : Opd)
  | bin (op : BinOp) (x y : Opd)
  | beq (neg : Bool) (x y : Opd)
  | eqv (neg : Bool) (sh : List Nat) (x y : Opd)
  | eqNil (kind : Nat) (neg : Bool) (x : Opd)
  | neg (x : Opd)
  | not (x : Opd)
  | toInt (k : IntKind) (x : Opd)
  | toF64 (x : Opd)
  | makeFunc (f : Nat) (first captured : List Opd)
  | build (z : List Value) (parts : List (Nat × Nat × Opd))
  | fieldAddr (x : Opd) (off : Nat)
  | field (x : Opd) (off : Nat) (size : Option Nat)
  | idxS (x i : Opd) (esz : Nat)
  | idxA (x i : Opd) (len esz : Nat)
  | index (x i : Opd) (len esz : Nat) (agg : Bool)
  | reslice (x : Opd) (lo hi : Option Opd) (esz : Nat)
  | reslice3 (x lo hi mx : Opd) (esz : Nat)
  | extract (x : Opd) (i : Nat)
  | len (x : Opd)
  | lenT (x : Opd)
  | min (xs : List Opd)
  | max (xs : List Opd)
  | alloc (z : List Value)
  | box (x : Opd)
  | slit (n esz : Nat) (z : List Value) (parts : List (Nat × Opd))
  | makeS (l c : Opd) (esz bytes : Nat) (z : List Value)
  | load (x : Opd) (size : Option Nat)
  | store (x v : Opd) (size : Nat)
  | append (s x : Opd) (esz bytes : Nat)
  | copy (d s : Opd) (esz : Nat)
  | call (f : Opd) (args : List Opd) (ro : Bool)
  | callC (c f : Opd) (args : List Opd)
  | strOp (op : BinOp) (x y : Opd)
  | strIdx (x i : Opd)
  | toBytes (x : Opd)
  | toStr (x : Opd)
  | makeM
  | lookup (x k : Opd) (kt : Nat) (z : Value) (ok : Bool)
  | mapSet (x k v : Opd) (kt : Nat)
  | lenM (x : Opd)
  | clearM (x : Opd)
  | clearS (x : Opd) (z : List Value)
  | rangeI (x : Opd)
  | nextI (x : Opd)
  | entryI (x : Opd)
  | strSl (x : Opd) (lo hi : Option Opd)
  | sliceData (x : Opd)
  | appendT (s x : Opd)
  | mkStr (p n : Opd)
  | allocB
  | fail
structure AOper where
  dst : Option Nat
  guard : Option (Nat × Bool)
  apart : List (Opd × Nat × Opd × Nat)
  op : AOp
inductive ACode where
  | skip
  | ops (l : List AOper)
  | seq (a b : ACode)
  | cond (c : Opd) (a b : ACode)
  | block (id : Nat) (c : ACode)
  | loop (c : ACode)
  | exit (id : Nat)
  | ret
  | rangeF (f : Opd) (ps : List Nat) (assign body : ACode)
inductive ARes where
  | tmp (t : Nat)
  | cell (t : Nat) (size : Option Nat)
inductive AFunc where
  | fn (nt : Nat) (res : List ARes) (body : ACode)
  | sqrt
  | lib
def AFunc.ent : AFunc → Bool
  | .sqrt => false
  | _ => true
abbrev oM (d x : Nat) : AOper := ⟨some d, none, [], .move (.t x)⟩
abbrev oP (d : Nat) (x : AOp) : AOper := ⟨some d, none, [], x⟩
abbrev oQ (d g : Nat) (b : Bool) (x : AOp) : AOper := ⟨some d, some (g, b), [], x⟩
abbrev oN (d g : Nat) (b : Bool) (x : Nat) : AOper := ⟨some d, some (g, b), [], .move (.t x)⟩
abbrev oL (d x : Nat) : AOper := ⟨some d, none, [], .load (.t x) none⟩
abbrev oD (d x s : Nat) : AOper := ⟨some d, none, [], .load (.t x) (some s)⟩
abbrev oF (d x o : Nat) : AOper := ⟨some d, none, [], .fieldAddr (.t x) o⟩
abbrev oI (d x i s : Nat) : AOper := ⟨some d, none, [], .idxS (.t x) (.t i) s⟩
abbrev oB (d : Nat) (o : BinOp) (x y : Nat) : AOper := ⟨some d, none, [], .bin o (.t x) (.t y)⟩
abbrev oC (d : Nat) (o : BinOp) (x : Nat) (n : Int) : AOper := ⟨some d, none, [], .bin o (.t x) (.k (.int .i64 n))⟩
abbrev oX (d x i : Nat) : AOper := ⟨some d, none, [], .extract (.t x) i⟩
abbrev oA (d f : Nat) (l : List Opd) (r : Bool) : AOper := ⟨some d, none, [], .call (.k (.func (.func f) ⟨[]⟩ ⟨[]⟩)) l r⟩
abbrev oT (x v s : Nat) : AOper := ⟨none, none, [], .store (.t x) (.t v) s⟩
abbrev oK (n : Int) : Opd := .k (.int .i64 n)
def simple : Value → Bool
  | .bool _ => true | .int _ _ => true | .float _ _ => true | .string _ => true | .pointer none => true
  | .slice none 0 0 => true | .nilFunc => true | .nilIface => true | .map none => true
  | _ => false
def flat (v : Value) : Bool :=
  match v with
  | .agg cs => cs.toList.all simple
  | .tuple cs => cs.toList.all simple
  | v => simple v
def AOp.opds : AOp → List Opd
  | .move x => [x] | .pick c a b => [c, a, b] | .nilCheck x => [x] | .bin _ x y => [x, y] | .beq _ x y => [x, y] | .eqv _ _ x y => [x, y] | .eqNil _ _ x => [x]
  | .neg x => [x] | .not x => [x] | .toInt _ x => [x] | .toF64 x => [x] | .makeFunc _ a b => a ++ b | .build _ ps => ps.map fun p => p.2.2
  | .fieldAddr x _ => [x] | .field x _ _ => [x] | .idxS x i _ => [x, i] | .idxA x i _ _ => [x, i] | .index x i _ _ _ => [x, i]
  | .reslice x lo hi _ => x :: (lo.toList ++ hi.toList) | .reslice3 x lo hi mx _ => [x, lo, hi, mx] | .extract x _ => [x] | .len x => [x] | .lenT x => [x] | .min l => l | .max l => l
  | .alloc _ => [] | .box x => [x] | .slit _ _ _ ps => ps.map fun p => p.2 | .makeS l c _ _ _ => [l, c] | .load x _ => [x] | .store x v _ => [x, v]
  | .append s x _ _ => [s, x] | .copy d s _ => [d, s] | .call f l _ => f :: l | .callC c f l => c :: f :: l | .strOp _ x y => [x, y] | .strIdx x i => [x, i] | .toBytes x => [x] | .toStr x => [x] | .makeM => [] | .lookup x k _ _ _ => [x, k] | .mapSet x k v _ => [x, k, v] | .lenM x => [x] | .clearM x => [x] | .clearS x _ => [x] | .rangeI x => [x] | .nextI x => [x] | .entryI x => [x] | .strSl x lo hi => x :: (lo.toList ++ hi.toList) | .sliceData x => [x] | .appendT s x => [s, x] | .mkStr p n => [p, n] | .allocB => [] | .fail => []
def AOp.mem : AOp → Nat
  | .load _ _ => 1 | .alloc _ => 2 | .box _ => 2 | .slit _ _ _ _ => 2 | .makeS _ _ _ _ _ => 2 | .toBytes _ => 2 | .makeM => 2 | .allocB => 2 | .store _ _ _ => 3 | .append _ _ _ _ => 4 | .copy _ _ _ => 4
  | .call _ _ ro => if ro then 6 else 5
  | .callC _ _ _ => 7
  | .toStr _ => 6
  | .lookup _ _ _ _ _ => 6 | .lenM _ => 6 | .mapSet _ _ _ _ => 5 | .clearM _ => 5 | .clearS _ _ => 5
  | .appendT _ _ => 5 | .mkStr _ _ => 5
  | _ => 0
def tmpsOf (l : List Opd) : List Nat := l.filterMap fun x => match x with | .t n => some n | .k _ => none
def AOper.looks (o : AOper) : List Nat :=
  tmpsOf o.op.opds ++ (match o.guard with | some (d, _) => [d] | none => [])
def befStep (acc : List Nat) (l : List Nat) : Nat := l.foldl (fun s e => s ||| 2 ^ e ||| acc.getD e 0) 0
def befA (aft : List (List Nat)) : List Nat := aft.foldl (fun acc l => acc ++ [befStep acc l]) []
def ordered (bef : List Nat) (i j : Nat) : Bool := (bef.getD j 0).testBit i || (bef.getD i 0).testBit j
def memOf (al : List AOper) (i : Nat) : Nat := (al[i]?.map fun o => o.op.mem).getD 0
def addrA (al : List AOper) (i : Nat) : Option (Nat × Nat) :=
  match al[i]? with
  | some o => match o.op with
    | .load (.t x) n => some (x, n.getD 1)
    | .store (.t x) _ n => some (x, n)
    | _ => none
  | none => none
def stable (al : List AOper) (i x : Nat) : Bool := (List.range al.length).all fun m => decide (m < i) || ((al[m]?).bind (·.dst)) != some x
def Opd.isT (x : Opd) (n : Nat) : Bool :=
  match x with
  | .t m => m == n
  | .k _ => false
def heldApart (al : List AOper) (i j : Nat) : Bool :=
  match addrA al i, addrA al j with
  | some (x, n), some (y, m) => stable al i x && stable al j y && match al[Max.max i j]? with
    | some o => o.apart.any fun p => (p.1.isT x && p.2.1 == n && p.2.2.1.isT y && p.2.2.2 == m) || (p.1.isT y && p.2.1 == m && p.2.2.1.isT x && p.2.2.2 == n)
    | none => false
  | _, _ => false
def AOp.cap : AOp → Option Nat
  | .callC (.t y) _ _ => some y | .append (.t y) _ _ _ => some y | .copy (.t y) _ _ => some y
  | _ => none
def capAt (al : List AOper) (i : Nat) : Option Nat :=
  match al[i]? with
  | some o => o.op.cap
  | none => none
def capOk (al : List AOper) (i : Nat) : Bool :=
  match capAt al i with
  | some y => stable al i y
  | none => false
def heldC (al : List AOper) (i j : Nat) : Bool :=
  match capAt al i, addrA al j with
  | some y, some (x, _) => stable al i y && stable al j x && match al[Max.max i j]? with
    | some o => o.apart.any fun p => p.1.isT y && p.2.2.1.isT x
    | none => false
  | _, _ => false
def pairOk (al : List AOper) (bef : List Nat) (i j : Nat) : Bool :=
  i == j || ordered bef i j ||
    (match memOf al i with
     | 3 => memOf al j == 0 || (memOf al j == 1 && heldApart al i j)
     | 4 => memOf al j == 0 || (capOk al i && memOf al j == 2) || (memOf al j == 1 && heldC al i j)
     | 5 => memOf al j == 0
     | 7 => memOf al j == 0 || (capOk al i && memOf al j == 2) || (memOf al j == 1 && heldC al i j)
     | _ => true)
def dstOk (al : List AOper) (bef : List Nat) (i j : Nat) : Bool :=
  i == j || match al[i]?, al[j]? with
    | some o, some p => match o.dst with
      | some d => p.dst != some d && (!p.looks.contains d || ordered bef i j)
      | none => true
    | _, _ => true
def loadT (o : AOper) : Bool :=
  match o.op with
  | .load (.k _) _ => false
  | _ => true
def drawOk (al : List AOper) (aft : List (List Nat)) : Bool :=
  let bef := befA aft
  al.all loadT && (List.range al.length).all fun j => (aft.getD j []).all (fun e => decide (e < j)) &&
    (List.range al.length).all fun i => pairOk al bef i j && dstOk al bef i j
noncomputable section
def tget (T : List Value) : Nat → Value :=
  List.rec (motive := fun _ => Nat → Value) (fun _ => undef) (fun v _ ih => fun n => Nat.casesOn (motive := fun _ => Value) n v ih) T
def tset : List Value → Nat → Value → List Value := fun T d v =>
  Nat.rec (motive := fun _ => List Value → List Value) (fun T => List.casesOn (motive := fun _ => List Value) T [v] (fun _ l => v :: l))
    (fun _ ih => fun T => List.casesOn (motive := fun _ => List Value) T (undef :: ih []) (fun x l => x :: ih l)) d T
@[simp] theorem tget_nil (n : Nat) : tget [] n = undef := rfl
@[simp] theorem tget_zero (v : Value) (l : List Value) : tget (v :: l) 0 = v := rfl
@[simp] theorem tget_succ (v : Value) (l : List Value) (n : Nat) : tget (v :: l) (n + 1) = tget l n := rfl
@[simp] theorem tget_tset (T : List Value) (d : Nat) (v : Value) (t : Nat) : tget (tset T d v) t = if t = d then v else tget T t := by
  induction d generalizing T t with
  | zero =>
    have e : ∀ x l, tset (x :: l) 0 v = v :: l := fun _ _ => rfl
    have e' : tset [] 0 v = [v] := rfl
    cases T <;> cases t <;> simp [e, e']
  | succ d ih =>
    have e : ∀ x l, tset (x :: l) (d + 1) v = x :: tset l d v := fun _ _ => rfl
    have e' : tset [] (d + 1) v = undef :: tset [] d v := rfl
    cases T with
    | nil => rw [e']; cases t with
      | zero => simp
      | succ t => simp [ih]
    | cons x T => rw [e]; cases t with
      | zero => simp
      | succ t => simp [ih]
structure ALoop where
  state : LoopState
  pending : Option (Option Nat)
  tmps : List Value
  params : List Nat
  assign : ACode
  body : ACode
inductive ABlk where
  | cells (cs : List Value) (ro : Bool)
  | loop (r : ALoop)
  | marks
  | map (l : List (Value × Value)) (lk : Option (Array MapEntry × Nat))
  | iter (gh : Option Nat × Nat × Array Nat × Nat)
  | bytes (l : List UInt8)
  | bld (p v : Value)
structure Hp where
  n : Nat
  l : List (Option ABlk)
def Hp.get (A : Hp) (x : Nat) : Option ABlk := if x < A.n then (A.l[A.n - 1 - x]?).join else none
def Hp.push (A : Hp) (b : ABlk) : Hp := ⟨A.n + 1, some b :: A.l⟩
def Hp.set (A : Hp) (x : Nat) (b : Option ABlk) : Hp := ⟨A.n, A.l.set (A.n - 1 - x) b⟩
@[simp] theorem Hp.n_push (A : Hp) (b : ABlk) : (A.push b).n = A.n + 1 := rfl
@[simp] theorem Hp.n_set (A : Hp) (x : Nat) (b : Option ABlk) : (A.set x b).n = A.n := rfl
theorem Hp.lt_of_get {A : Hp} {x : Nat} {b : ABlk} (h : A.get x = some b) : x < A.n := by
  unfold Hp.get at h; split at h
  · assumption
  · cases h
theorem Hp.get_push (A : Hp) (b : ABlk) (x : Nat) : (A.push b).get x = if x = A.n then some b else A.get x := by
  unfold Hp.get Hp.push
  by_cases h : x = A.n
  · subst h; simp
  · by_cases h' : x < A.n
    · have e : A.n + 1 - 1 - x = (A.n - 1 - x) + 1 := by omega
      simp [h, h', Nat.lt_succ_of_lt h', show A.n - x = (A.n - 1 - x) + 1 by omega]
    · simp [h, h', show ¬ x < A.n + 1 by omega]
theorem Hp.get_set {A : Hp} {x : Nat} {b0 : ABlk} (h : A.get x = some b0) (b : Option ABlk) (y : Nat) : (A.set x b).get y = if y = x then b else A.get y := by
  have hx := Hp.lt_of_get h
  have hl : A.n - 1 - x < A.l.length := by
    unfold Hp.get at h
    rw [if_pos hx] at h
    rcases Nat.lt_or_ge (A.n - 1 - x) A.l.length with h' | h'
    · exact h'
    · rw [List.getElem?_eq_none h'] at h; cases h
  unfold Hp.get Hp.set
  by_cases hy : y = x
  · subst hy; simp [hx, hl]
  · simp only [if_neg hy]
    by_cases hy' : y < A.n
    · simp only [hy', if_true]
      rw [List.getElem?_set_ne (by omega)]
    · simp [hy']
def ev (T : List Value) : Opd → Value
  | .t n => tget T n
  | .k v => v
def isCell : Value → Bool
  | .agg _ => false | .tuple _ => false
  | _ => true
def wr (k : IntKind) (n : Int) : Int :=
  match k, n with
  | .i64, .ofNat m => if Nat.blt m 9223372036854775808 then .ofNat m else k.wrap n
  | .i64, .negSucc m => if Nat.blt m 9223372036854775808 then .negSucc m else k.wrap n
  | _, _ => k.wrap n
theorem wrap_i64 (n : Int) (h0 : -9223372036854775808 ≤ n) (h1 : n < 9223372036854775808) : IntKind.i64.wrap n = n := by
  have e1 : (2 ^ IntKind.i64.bits : Int) = 18446744073709551616 := by decide
  have e2 : (2 ^ (IntKind.i64.bits - 1) : Int) = 9223372036854775808 := by decide
  have e3 : IntKind.i64.signed = true := rfl
  unfold IntKind.wrap
  simp only [e1, e2, e3, Bool.true_and, ge_iff_le, decide_eq_true_eq]
  split <;> omega
theorem wr_eq (k : IntKind) (n : Int) : wr k n = k.wrap n := by
  unfold wr
  split
  · rename_i m
    split
    · rename_i h
      rw [Nat.blt_eq] at h
      exact (wrap_i64 _ (by simp) (by simp; omega)).symm
    · rfl
  · rename_i m
    split
    · rename_i h
      rw [Nat.blt_eq] at h
      exact (wrap_i64 _ (by omega) (by omega)).symm
    · rfl
  · rfl
def kEq (k k' : IntKind) : Bool :=
  match k, k' with
  | .i64, .i64 => true
  | k, k' => decide (k = k')
theorem kEq_iff {k k' : IntKind} : kEq k k' = true ↔ k = k' := by
  unfold kEq; split <;> simp
def intA (op : BinOp) (k : IntKind) (a b : Int) : Option Value :=
  match op with
  | .add => some (.int k (wr k (a + b)))
  | .sub => some (.int k (wr k (a - b)))
  | .mul => some (.int k (wr k (a * b)))
  | .quo => if b = 0 then none else some (.int k (wr k (a.tdiv b)))
  | .rem => if b = 0 then none else some (.int k (a.tmod b))
  | .eql => some (.bool (a == b))
  | .neq => some (.bool (a != b))
  | .lss => some (.bool (a < b))
  | .leq => some (.bool (a ≤ b))
  | .gtr => some (.bool (a > b))
  | .geq => some (.bool (a ≥ b))
  | .and => some (.int k (k.wrap (BitVec.ofInt k.bits a &&& BitVec.ofInt k.bits b).toNat))
  | .or => some (.int k (k.wrap (BitVec.ofInt k.bits a ||| BitVec.ofInt k.bits b).toNat))
  | .xor => some (.int k (k.wrap (BitVec.ofInt k.bits a ^^^ BitVec.ofInt k.bits b).toNat))
  | .andNot => some (.int k (k.wrap (BitVec.ofInt k.bits a &&& ~~~ BitVec.ofInt k.bits b).toNat))
  | _ => none
def shA (left : Bool) (k : IntKind) (a b : Int) : Option Value :=
  if b < 0 then none else
  some (.int k (if left then k.wrap (a * 2 ^ (Min.min b.toNat k.bits)) else a.fdiv (2 ^ (Min.min b.toNat k.bits))))
def binA (op : BinOp) (x y : Value) : Option Value :=
  match x, y with
  | .int k a, .int k' b =>
    match op with
    | .shl => shA true k a b
    | .shr => shA false k a b
    | op => if kEq k k' then intA op k a b else none
  | _, _ => none
def strEq (x y : ByteArray) : Bool := x.data.toList == y.data.toList
def cellEq (b : Nat) (x y : Value) : Option Bool :=
  match b, x, y with
  | 0, .int k a, .int k' b => if kEq k k' then some (a == b) else none
  | 1, .bool a, .bool b => some (a == b)
  | 2, .string a, .string b => some (strEq a b)
  | _, _, _ => none
def eqCells : List Nat → List Value → List Value → Option Bool
  | [], [], [] => some true
  | b :: sh, x :: xs, y :: ys => match cellEq b x y, eqCells sh xs ys with
    | some e, some r => some (e && r)
    | _, _ => none
  | _, _, _ => none
def errV : Value := .iface 0 (.tuple ⟨[]⟩)
def isNil (kind : Nat) (v : Value) : Option Bool :=
  match v with
  | .pointer none => if kind = 0 then some true else none
  | .pointer (some _) => if kind = 0 then some false else none
  | .slice none 0 0 => if kind = 1 then some true else none
  | .slice (some _) _ _ => if kind = 1 then some false else none
  | .nilFunc => if kind = 2 then some true else none
  | .func _ _ _ => if kind = 2 then some false else none
  | .map none => if kind = 3 then some true else none
  | .map (some _) => if kind = 3 then some false else none
  | .nilIface => if kind = 4 then some true else none
  | .iface _ _ => if kind = 4 then some false else none
  | _ => none
def foldInt (pick : Int → Int → Bool) : Value → List Value → Option Value
  | v, [] => some v
  | .int k x, .int _ y :: rest => foldInt pick (.int k (if pick y x then y else x)) rest
  | _, _ => none
def setRange (cs : List Value) (o : Nat) (vs : List Value) : List Value := cs.take o ++ vs ++ cs.drop (o + vs.length)
def fillA (cells : List Value) : List (Nat × Nat × Value) → Option (List Value)
  | [] => some cells
  | (off, size, v) :: rest => if v.cells.toList.length = size ∧ off + size ≤ cells.length then fillA (setRange cells off v.cells.toList) rest else none
def partA (cs : List Value) (off : Nat) : Option Nat → Option Value
  | none => cs[off]?
  | some s => if off + s ≤ cs.length then some (.agg ((cs.drop off).take s).toArray) else none
def loadA (A : Hp) (addr : Value) (size : Option Nat) : Option Value :=
  match addr with
  | .pointer (some ⟨x, o, none⟩) =>
    match A.get x with
    | some (.cells cs _) => partA cs o size
    | _ => none
  | _ => none
def writeA (g : Nat) (A : Hp) (x o : Nat) (vs : List Value) : Option Hp :=
  if g ≤ x then
    match A.get x with
    | some (.cells cs false) => if o + vs.length ≤ cs.length ∧ vs.all isCell = true then some (A.set x (some (.cells (setRange cs o vs) false))) else none
    | _ => none
  else none
def storeA (g : Nat) (A : Hp) (addr v : Value) (size : Nat) : Option Hp :=
  match addr with
  | .pointer (some ⟨x, o, none⟩) => if v.cells.toList.length = size then writeA g A x o v.cells.toList else none
  | _ => none
def zeros (n : Nat) (z : List Value) : List Value := (List.range (n * z.length)).map fun i => z.getD (i % z.length) undef
def cellsAt (A : Hp) (k : Nat) : Value → Option (List Value)
  | .slice (some ⟨x, o, some _⟩) _ _ => match A.get x with
    | some (.cells cs _) => if o + k ≤ cs.length then some ((cs.drop o).take k) else none
    | _ => none
  | .slice none 0 0 => if k = 0 then some [] else none
  | _ => none
def room : Nat := 70368744177664
def appendA (g : Nat) (A : Hp) (esz bytes : Nat) (s x : Value) : Option (Value × Hp) :=
  match x with
  | .slice xb n xc =>
    match cellsAt A (n * esz) (.slice xb n xc) with
    | some new =>
      if new.all isCell = true ∧ 0 < esz then
        match s with
        | .slice none 0 0 => if n = 0 then some (.slice none 0 0, A) else if n * bytes ≤ room ∧ n ≤ room then
            some (.slice (some ⟨A.n, 0, some esz⟩) n n, A.push (.cells new false)) else none
        | .slice (some ⟨b, off, some es⟩) m c =>
          if n = 0 then some (.slice (some ⟨b, off, some es⟩) m c, A) else
          match A.get b with
          | some (.cells cs false) =>
            if g ≤ b ∧ (m + n) * bytes ≤ room ∧ m + n ≤ room ∧ es = esz then
              if off + m * esz = cs.length then
                some (.slice (some ⟨A.n, 0, some esz⟩) (m + n) (m + n), (A.set b none).push (.cells (cs.drop off ++ new) false))
              else if m + n ≤ c then
                (writeA g A b (off + m * esz) new).map fun A' => (.slice (some ⟨b, off, some es⟩) (m + n) c, A')
              else none
            else none
          | _ => none
        | _ => none
      else none
    | none => none
  | _ => none
def copyA (g : Nat) (A : Hp) (esz : Nat) (d s : Value) : Option (Value × Hp) :=
  match d, s with
  | .slice base m _, .slice sb n sc =>
    match cellsAt A (Min.min n m * esz) (.slice sb n sc) with
    | some new => match base with
      | some ⟨x, o, some _⟩ => (writeA g A x o new).map fun A' => (goInt (Min.min n m : Nat), A')
      | some _ => none
      | none => some (goInt (Min.min n m : Nat), A)
    | none => none
  | _, _ => none
def clearSA (g : Nat) (A : Hp) (z : List Value) (d : Value) : Option (Value × Hp) :=
  match d with
  | .slice none 0 0 => some (.tuple ⟨[]⟩, A)
  | .slice (some ⟨x, o, some _⟩) m _ => if m = 0 then some (.tuple ⟨[]⟩, A) else (writeA g A x o (zeros m z)).map fun A' => (.tuple ⟨[]⟩, A')
  | _ => none
inductive Ex where
  | normal
  | exit (id : Nat)
  | ret
structure St where
  T : List Value
  D : List Nat
  A : Hp
abbrev Spec := Nat → List Value → Hp → Option (Value × Hp)
abbrev CallFn := Nat → Value → List Value → Hp → Option (Value × Hp)
abbrev OpFn := CallFn → Nat → List Value → Hp → Option (Value × Hp)
def pureV (r : Option Value) (A : Hp) : Option (Value × Hp) := r.map fun v => (v, A)
def pickA (c a b : Value) : Option Value :=
  match c with
  | .bool t => some (if t then a else b)
  | _ => none
def nilCheckA (x : Value) : Option Value :=
  match x with
  | .pointer (some a) => some (.pointer (some a))
  | .func (.func f) a b => some (.func (.func f) a b)
  | .func (.yield f) a b => some (.func (.yield f) a b)
  | _ => none
def beqA (neg : Bool) (x y : Value) : Option Value :=
  match x, y with
  | .bool a, .bool b => some (.bool (if neg then !(a == b) else a == b))
  | _, _ => none
def eqvA (neg : Bool) (sh : List Nat) (x y : Value) : Option Value :=
  match x, y with
  | .agg a, .agg b => (eqCells sh a.toList b.toList).map fun r => .bool (if neg then !r else r)
  | _, _ => none
def eqNilA (kind : Nat) (neg : Bool) (x : Value) : Option Value := (isNil kind x).map fun r => .bool (if neg then !r else r)
def negA (x : Value) : Option Value :=
  match x with
  | .int k n => some (.int k (wr k (0 - n)))
  | _ => none
def notA (x : Value) : Option Value :=
  match x with
  | .bool b => some (.bool (!b))
  | _ => none
def toIntA (k : IntKind) (x : Value) : Option Value :=
  match x with
  | .int _ n => some (.int k (wr k n))
  | .float s b => match (s.decode b).toInt .zero with
    | some n => if k.min ≤ n ∧ n ≤ k.max then some (.int k n) else none
    | none => none
  | _ => none
def toF64A (x : Value) : Option Value :=
  match x with
  | .int _ n => some (.float .f64 (FloatKind.f64.nearest n))
  | _ => none
def fieldAddrA (off : Nat) (x : Value) : Option Value :=
  match x with
  | .pointer (some ⟨b, o, none⟩) => some (.pointer (some ⟨b, o + off, none⟩))
  | _ => none
def fieldA (off : Nat) (size : Option Nat) (x : Value) : Option Value :=
  match x with
  | .agg cs => partA cs.toList off size
  | _ => none
def idxSA (esz : Nat) (x i : Value) : Option Value :=
  match x, i with
  | .slice (some ⟨b, o, some _⟩) n _, .int _ i => if 0 ≤ i ∧ i < n then some (.pointer (some ⟨b, o + i.toNat * esz, none⟩)) else none
  | _, _ => none
def idxAA (len esz : Nat) (x i : Value) : Option Value :=
  match x, i with
  | .pointer (some ⟨b, o, none⟩), .int _ i => if 0 ≤ i ∧ i < len then some (.pointer (some ⟨b, o + i.toNat * esz, none⟩)) else none
  | _, _ => none
def indexA (len esz : Nat) (agg : Bool) (x i : Value) : Option Value :=
  match x, i with
  | .agg cs, .int _ i => if 0 ≤ i ∧ i < len then partA cs.toList (i.toNat * esz) (if agg then some esz else none) else none
  | _, _ => none
def intOfA (v : Value) : Option Int :=
  match v with
  | .int _ i => some i
  | _ => none
def boundA (T : List Value) (d : Nat) : Option Opd → Option Int
  | none => some d
  | some x => intOfA (ev T x)
def resliceA (esz : Nat) (x : Value) (lo : Option Int) (hi : Nat → Option Int) : Option Value :=
  match x with
  | .slice (some ⟨b, o, some s⟩) n c => match lo, hi n with
    | some l, some h => if s = esz ∧ 0 ≤ l ∧ l ≤ h ∧ h ≤ Max.max n c then some (.slice (some ⟨b, o + l.toNat * esz, some s⟩) (h - l).toNat (Max.max n c - l.toNat)) else none
    | _, _ => none
  | .slice none 0 0 => match lo, hi 0 with
    | some l, some h => if l = 0 ∧ h = 0 then some (.slice none 0 0) else none
    | _, _ => none
  | _ => none
def reslice3A (esz : Nat) (x lo hi mx : Value) : Option Value :=
  match x, lo, hi, mx with
  | .slice (some ⟨b, o, some s⟩) n c, .int _ l, .int _ h, .int _ m => if s = esz ∧ 0 ≤ l ∧ l ≤ h ∧ h ≤ m ∧ m ≤ Max.max n c then some (.slice (some ⟨b, o + l.toNat * esz, some s⟩) (h - l).toNat (m - l).toNat) else none
  | .slice none 0 0, .int _ l, .int _ h, .int _ m => if l = 0 ∧ h = 0 ∧ m = 0 then some (.slice none 0 0) else none
  | _, _, _, _ => none
def extractA (i : Nat) (x : Value) : Option Value :=
  match x with
  | .tuple vs => vs.toList[i]?
  | _ => none
def lenV (x : Value) : Option Value :=
  match x with
  | .slice _ n _ => some (goInt n)
  | _ => none
def lenTV (x : Value) : Option Value :=
  match x with
  | .string s => some (goInt s.size)
  | _ => none
def minA (l : List Value) : Option Value :=
  match l with
  | x :: rest => foldInt (fun y x => y < x) x rest
  | [] => none
def maxA (l : List Value) : Option Value :=
  match l with
  | x :: rest => foldInt (fun y x => y > x) x rest
  | [] => none
def allocA (cs : List Value) (A : Hp) : Option (Value × Hp) := some (.pointer (some ⟨A.n, 0, none⟩), A.push (.cells cs false))
def slitA (n esz : Nat) (cs : Option (List Value)) (A : Hp) : Option (Value × Hp) :=
  match cs with
  | some cs => some (.slice (some ⟨A.n, 0, some esz⟩) n n, A.push (.cells cs false))
  | none => none
def makeSA (esz bytes : Nat) (z : List Value) (l c : Value) (A : Hp) : Option (Value × Hp) :=
  match l, c with
  | .int .i64 n, .int .i64 m => if 0 ≤ n ∧ n ≤ m ∧ m.toNat * bytes ≤ room ∧ m ≤ room then
      some (.slice (some ⟨A.n, 0, some esz⟩) n.toNat m.toNat, A.push (.cells (zeros m.toNat z) false)) else none
  | _, _ => none
def lessB : List UInt8 → List UInt8 → Bool
  | _, [] => false
  | [], _ :: _ => true
  | a :: x, b :: y => a < b || (a == b && lessB x y)
def strLt (x y : ByteArray) : Bool := lessB x.data.toList y.data.toList
def strA (op : BinOp) (x y : ByteArray) : Option Value :=
  match op with
  | .add => if ((x.size + y.size : Nat) : Int) > 9223372036854775807 then none else some (.string (x ++ y))
  | .eql => some (.bool (strEq x y))
  | .neq => some (.bool (!strEq x y))
  | .lss => some (.bool (strLt x y))
  | .leq => some (.bool (strLt x y || strEq x y))
  | .gtr => some (.bool (!(strLt x y || strEq x y)))
  | .geq => some (.bool (!strLt x y))
  | _ => none
def strOpA (op : BinOp) (x y : Value) : Option Value :=
  match x, y with
  | .string a, .string b => strA op a b
  | _, _ => none
def strIdxA (x i : Value) : Option Value :=
  match x, i with
  | .string s, .int _ i => if 0 ≤ i then (s.data.toList[i.toNat]?).map fun b => .int .u8 b.toNat else none
  | _, _ => none
def bytesOf (s : ByteArray) : List Value := s.data.toList.map fun b => .int .u8 b.toNat
def toBytesA (x : Value) (A : Hp) : Option (Value × Hp) :=
  match x with
  | .string s => some (.slice (some ⟨A.n, 0, some 1⟩) s.size s.size, A.push (.cells (bytesOf s) true))
  | _ => none
def u8sOf : List Value → Option (List UInt8)
  | [] => some []
  | .int .u8 n :: l => if 0 ≤ n ∧ n < 256 then (u8sOf l).map fun r => UInt8.ofNat n.toNat :: r else none
  | _ => none
def toStrA (x : Value) (A : Hp) : Option Value :=
  match x with
  | .slice none 0 0 => some (.string ⟨#[]⟩)
  | .slice (some ⟨b, o, some 1⟩) n c => match cellsAt A n (.slice (some ⟨b, o, some 1⟩) n c) with
    | some vs => (u8sOf vs).map fun l => .string ⟨l.toArray⟩
    | none => none
  | _ => none
def strSlA (x : Value) (lo : Option Int) (hi : Nat → Option Int) : Option Value :=
  match x with
  | .string s => match lo, hi s.size with
    | some l, some h => if 0 ≤ l ∧ l ≤ h ∧ h ≤ s.size then some (.string ⟨⟨(s.data.toList.drop l.toNat).take (h - l).toNat⟩⟩) else none
    | _, _ => none
  | _ => none
def sliceDataA (x : Value) : Option Value :=
  match x with
  | .slice none 0 0 => some (.pointer none)
  | .slice (some ⟨b, o, some _⟩) n _ => if 0 < n then some (.pointer (some ⟨b, o, none⟩)) else none
  | _ => none
def appendTA (g : Nat) (A : Hp) (s x : Value) : Option (Value × Hp) :=
  match x with
  | .string u => match s with
    | .slice none 0 0 => if u.size = 0 then some (.slice none 0 0, A) else if u.size ≤ room then
        some (.slice (some ⟨A.n, 0, some 1⟩) u.size u.size, A.push (.bytes u.data.toList)) else none
    | .slice (some ⟨b, 0, some 1⟩) m c => match A.get b with
      | some (.bytes l) => if g ≤ b ∧ m + u.size ≤ room ∧ l.length = m then
          if u.size = 0 then some (.slice (some ⟨b, 0, some 1⟩) m c, A) else
          some (.slice (some ⟨A.n, 0, some 1⟩) (m + u.size) (m + u.size), (A.set b none).push (.bytes (l ++ u.data.toList))) else none
      | _ => none
    | _ => none
  | _ => none
def mkStrA (g : Nat) (A : Hp) (p n : Value) : Option (Value × Hp) :=
  match p, n with
  | .pointer none, .int .i64 0 => some (.string ⟨⟨[]⟩⟩, A)
  | .pointer (some ⟨b, 0, none⟩), .int .i64 n => match A.get b with
    | some (.bytes l) => if g ≤ b ∧ n = l.length ∧ 0 < n ∧ n ≤ room then some (.string ⟨⟨l⟩⟩, A.set b none) else none
    | _ => none
  | _, _ => none
def cellKind : Value → Nat
  | .int _ _ => 0
  | .bool _ => 1
  | .string _ => 2
  | _ => 3
def shapeNat : List Nat → Nat
  | [] => 3
  | c :: s => shapeNat s * 4 + c
def keyFits (kt : Nat) : Value → Bool
  | .int _ _ => kt == 0
  | .string _ => kt == 1
  | .bool _ => kt == 2
  | .agg cs => kt == shapeNat (cs.toList.map cellKind) && cs.toList.all fun v => cellKind v != 3
  | _ => false
def keyEq : Value → Value → Option Bool
  | .int a n, .int b m => if kEq a b then some (n == m) else none
  | .string a, .string b => some (strEq a b)
  | .bool a, .bool b => some (a == b)
  | .agg xs, .agg ys => eqCells (xs.toList.map cellKind) xs.toList ys.toList
  | _, _ => none
def findM (k : Value) : List (Value × Value) → Option (Option Value)
  | [] => some none
  | (k', v) :: l => match keyEq k k' with
    | some true => some (some v)
    | some false => findM k l
    | none => none
def setM (k v : Value) : List (Value × Value) → Option (List (Value × Value))
  | [] => some [(k, v)]
  | (k', v') :: l => match keyEq k k' with
    | some true => some ((k, v) :: l)
    | some false => (setM k v l).map fun r => (k', v') :: r
    | none => none
def mapOf (A : Hp) : Value → Option (List (Value × Value))
  | .map none => some []
  | .map (some x) => match A.get x with
    | some (.map l _) => some l
    | _ => none
  | _ => none
def lookupA (A : Hp) (kt : Nat) (z : Value) (ok : Bool) (x k : Value) : Option Value :=
  match mapOf A x with
  | some l => if keyFits kt k = true then (findM k l).map fun r => if ok then .tuple ⟨[r.getD z, .bool r.isSome]⟩ else r.getD z else none
  | none => none
def lenMA (A : Hp) (x : Value) : Option Value := (mapOf A x).map fun l => goInt l.length
def mapSetA (g : Nat) (A : Hp) (kt : Nat) (x k v : Value) : Option Hp :=
  match x with
  | .map (some r) => match A.get r with
    | some (.map l none) => if g ≤ r ∧ keyFits kt k = true then (setM k v l).map fun l' => A.set r (some (.map l' none)) else none
    | _ => none
  | _ => none
def clearMA (g : Nat) (A : Hp) (x : Value) : Option Hp :=
  match x with
  | .map none => some A
  | .map (some r) => match A.get r with
    | some (.map _ none) => if g ≤ r then some (A.set r (some (.map [] none))) else none
    | _ => none
  | _ => none
def capsOf : Value → List Nat
  | .func (.func _) a b => (a.toList ++ b.toList).filterMap fun v => match v with
    | .pointer (some ⟨x, _, _⟩) => some x
    | _ => none
  | .slice (some ⟨x, _, _⟩) _ _ => [x]
  | _ => []
def OnlyC (A : Hp) (f : Value) (A' : Hp) : Prop := ∀ x, x < A.n → x ∉ capsOf f → A'.get x = A.get x
open Classical in
def stillBut (A : Hp) (f : Value) : Option (Value × Hp) → Option (Value × Hp)
  | some (v, A') => if OnlyC A f A' then some (v, A') else none
  | none => none
def storeV (r : Option Hp) : Option (Value × Hp) := r.map fun A' => (undef, A')
def opA : AOp → OpFn
  | .move x => fun _ _ T A => some (ev T x, A)
  | .pick c a b => fun _ _ T A => pureV (pickA (ev T c) (ev T a) (ev T b)) A
  | .nilCheck x => fun _ _ T A => pureV (nilCheckA (ev T x)) A
  | .bin op x y => fun _ _ T A => pureV (binA op (ev T x) (ev T y)) A
  | .beq neg x y => fun _ _ T A => pureV (beqA neg (ev T x) (ev T y)) A
  | .eqv neg sh x y => fun _ _ T A => pureV (eqvA neg sh (ev T x) (ev T y)) A
  | .eqNil kind neg x => fun _ _ T A => pureV (eqNilA kind neg (ev T x)) A
  | .neg x => fun _ _ T A => pureV (negA (ev T x)) A
  | .not x => fun _ _ T A => pureV (notA (ev T x)) A
  | .toInt k x => fun _ _ T A => pureV (toIntA k (ev T x)) A
  | .toF64 x => fun _ _ T A => pureV (toF64A (ev T x)) A
  | .makeFunc f first captured => fun _ _ T A => some (.func (.func f) (first.map (ev T)).toArray (captured.map (ev T)).toArray, A)
  | .build z parts => fun _ _ T A => pureV ((fillA z (parts.map fun p => (p.1, p.2.1, ev T p.2.2))).map fun cs => .agg cs.toArray) A
  | .fieldAddr x off => fun _ _ T A => pureV (fieldAddrA off (ev T x)) A
  | .field x off size => fun _ _ T A => pureV (fieldA off size (ev T x)) A
  | .idxS x i esz => fun _ _ T A => pureV (idxSA esz (ev T x) (ev T i)) A
  | .idxA x i len esz => fun _ _ T A => pureV (idxAA len esz (ev T x) (ev T i)) A
  | .index x i len esz agg => fun _ _ T A => pureV (indexA len esz agg (ev T x) (ev T i)) A
  | .reslice3 x lo hi mx esz => fun _ _ T A => pureV (reslice3A esz (ev T x) (ev T lo) (ev T hi) (ev T mx)) A
  | .reslice x lo hi esz => fun _ _ T A => pureV (resliceA esz (ev T x) (boundA T 0 lo) (fun n => boundA T n hi)) A
  | .extract x i => fun _ _ T A => pureV (extractA i (ev T x)) A
  | .len x => fun _ _ T A => pureV (lenV (ev T x)) A
  | .lenT x => fun _ _ T A => pureV (lenTV (ev T x)) A
  | .min xs => fun _ _ T A => pureV (minA (xs.map (ev T))) A
  | .max xs => fun _ _ T A => pureV (maxA (xs.map (ev T))) A
  | .alloc z => fun _ _ _ A => allocA z A
  | .box x => fun _ _ T A => allocA (ev T x).cells.toList A
  | .slit n esz z parts => fun _ _ T A => slitA n esz (fillA (zeros n z) (parts.map fun p => (p.1 * esz, esz, ev T p.2))) A
  | .makeS l c esz bytes z => fun _ _ T A => makeSA esz bytes z (ev T l) (ev T c) A
  | .load x size => fun _ _ T A => pureV (loadA A (ev T x) size) A
  | .store x v size => fun _ g T A => storeV (storeA g A (ev T x) (ev T v) size)
  | .append s x esz bytes => fun _ g T A => appendA g A esz bytes (ev T s) (ev T x)
  | .copy d s esz => fun _ g T A => copyA g A esz (ev T d) (ev T s)
  | .call f args ro => fun cv g T A => cv (if ro then A.n else g) (ev T f) (args.map (ev T)) A
  | .callC c f args => fun cv g T A => stillBut A (ev T c) (cv g (ev T f) (args.map (ev T)) A)
  | .strOp op x y => fun _ _ T A => pureV (strOpA op (ev T x) (ev T y)) A
  | .strIdx x i => fun _ _ T A => pureV (strIdxA (ev T x) (ev T i)) A
  | .toBytes x => fun _ _ T A => toBytesA (ev T x) A
  | .toStr x => fun _ _ T A => pureV (toStrA (ev T x) A) A
  | .makeM => fun _ _ _ A => some (.map (some A.n), A.push (.map [] none))
  | .lookup x k kt z ok => fun _ _ T A => pureV (lookupA A kt z ok (ev T x) (ev T k)) A
  | .mapSet x k v kt => fun _ g T A => storeV (mapSetA g A kt (ev T x) (ev T k) (ev T v))
  | .lenM x => fun _ _ T A => pureV (lenMA A (ev T x)) A
  | .clearM x => fun _ g T A => (clearMA g A (ev T x)).map fun A' => (.tuple ⟨[]⟩, A')
  | .clearS x z => fun _ g T A => clearSA g A z (ev T x)
  | .rangeI _ => fun _ _ _ _ => none
  | .nextI _ => fun _ _ _ _ => none
  | .entryI _ => fun _ _ _ _ => none
  | .strSl x lo hi => fun _ _ T A => pureV (strSlA (ev T x) (boundA T 0 lo) (fun n => boundA T n hi)) A
  | .sliceData x => fun _ _ T A => pureV (sliceDataA (ev T x)) A
  | .appendT s x => fun _ g T A => appendTA g A (ev T s) (ev T x)
  | .mkStr p n => fun _ g T A => mkStrA g A (ev T p) (ev T n)
  | .allocB => fun _ _ _ A => some (.pointer (some ⟨A.n, 0, none⟩), A.push (.bld (.pointer none) (.slice none 0 0)))
  | .fail => fun _ _ _ _ => none
def putA : Option Nat → List Value → Value → List Value
  | some d => fun T v => tset T d v
  | none => fun T _ => T
def wantedA : Option (Nat × Bool) → List Value → Bool
  | none => fun _ => true
  | some (d, b) => fun T => match tget T d with
    | .bool b' => b' == b
    | _ => false
def apartA (T : List Value) (p : Opd × Nat × Opd × Nat) : Bool :=
  match ev T p.1, ev T p.2.2.1 with
  | .pointer (some ⟨b, o, none⟩), .pointer (some ⟨b', o', none⟩) => decide (b ≠ b' ∨ o + p.2.1 ≤ o' ∨ o' + p.2.2.2 ≤ o)
  | .func f a b, .pointer (some ⟨x, _, _⟩) => !(capsOf (.func f a b)).contains x
  | .slice (some ⟨y, _, _⟩) _ _, .pointer (some ⟨x, _, _⟩) => decide (x ≠ y)
  | _, _ => true
def forceN {α : Sort _} (n : Nat) (k : Nat → α) : α := Nat.casesOn (motive := fun _ => α) n (k 0) (fun m => k (m + 1))
def forceV {α : Sort _} (v : Value) (k : Value → α) : α :=
  match v with
  | .int kd (.ofNat m) => forceN m fun m => k (.int kd (.ofNat m))
  | .int kd (.negSucc m) => forceN m fun m => k (.int kd (.negSucc m))
  | .bool true => k (.bool true)
  | .bool false => k (.bool false)
  | v => k v
@[simp] theorem forceN_eq {α : Sort _} (n : Nat) (k : Nat → α) : forceN n k = k n := by cases n <;> rfl
@[simp] theorem forceV_eq {α : Sort _} (v : Value) (k : Value → α) : forceV v k = k v := by
  unfold forceV; split <;> simp
def operA (o : AOper) (next : List Value → Hp → Option (List Value × Hp)) : CallFn → Nat → List Value → Hp → Option (List Value × Hp) := fun cv g T A =>
  if wantedA o.guard T = true then
    if o.apart.all (apartA T) = true then
      match opA o.op cv g T A with
      | some (v, A') => forceV v fun v => next (putA o.dst T v) A'
      | none => none
    else none
  else next (putA o.dst T undef) A
def opsA (cv : CallFn) (g : Nat) : List AOper → List Value → Hp → Option (List Value × Hp) :=
  List.rec (motive := fun _ => List Value → Hp → Option (List Value × Hp)) (fun T A => some (T, A)) (fun o _ ih => fun T A => operA o ih cv g T A)
@[simp] theorem opsA_nil (cv : CallFn) (g : Nat) (T : List Value) (A : Hp) : opsA cv g [] T A = some (T, A) := rfl
theorem opsA_cons (cv : CallFn) (g : Nat) (o : AOper) (l : List AOper) (T : List Value) (A : Hp) : opsA cv g (o :: l) T A = operA o (opsA cv g l) cv g T A := rfl
def zipArgs (T : List Value) : List Nat → List Value → List Value
  | t :: ts, v :: vs => zipArgs (tset T t v) ts vs
  | _, _ => T
def takeMarks (A : Hp) : List Nat → Option Hp
  | [] => some A
  | x :: xs => match A.get x with
    | some .marks => takeMarks (A.set x none) xs
    | _ => none
def resOne (T : List Value) (A : Hp) : ARes → Option Value
  | .tmp t => some (tget T t)
  | .cell a size => loadA A (tget T a) size
def resAll (T : List Value) (A : Hp) : List ARes → Option (List Value)
  | [] => some []
  | r :: rs => match resOne T A r with
    | some v => (resAll T A rs).map fun vs => v :: vs
    | none => none
def resA (res : List ARes) (T : List Value) (A : Hp) : Option Value :=
  match resAll T A res with
  | some [v] => some v
  | some vs => some (.tuple vs.toArray)
  | none => none
def sqrtA : List Value → Option Value
  | [.float .f64 x] => (FloatKind.f64.format.sqrt x).map fun r => .float .f64 r
  | _ => none
abbrev RunFn := Nat → Option Nat → St → Option (Ex × St)
def Ex.pend : Ex → Option (Option Nat)
  | .normal => none
  | .ret => some none
  | .exit id => some (some id)
def finishA (res : List ARes) : Option (Ex × St) → Option (Value × Hp)
  | some (.exit _, _) => none
  | some (_, st') => match takeMarks st'.A st'.D with
    | some A' => (resA res st'.T A').map fun v => (v, A')
    | none => none
  | none => none
def enterA (run : ACode → RunFn) (g : Nat) (args : List Value) (A : Hp) : Option AFunc → Option (Value × Hp)
  | some (.fn _ res body) => finishA res (run body g none ⟨args, [], A⟩)
  | some .sqrt => pureV (sqrtA args) A
  | some .lib => none
  | none => none
def callF (AP : Nat → Option AFunc) (K : Nat → Option Spec) (run : ACode → RunFn) (g : Nat) (f : Nat) (args : List Value) (A : Hp) : Option (Value × Hp) :=
  match K f with
  | some S => S g args A
  | none => enterA run g args A (AP f)
def endRoundA (l : Nat) : Option (Ex × St) → Option (Value × Hp)
  | some (e, st2) => match st2.A.get l with
    | some (.loop r2) => some (.bool e.pend.isNone, st2.A.set l (some (.loop { r2 with state := if e.pend.isNone then .ready else .done, pending := e.pend })))
    | _ => none
  | none => none
def beginRoundA (run : ACode → RunFn) (g l : Nat) (body : ACode) : Option (Ex × St) → Option (Value × Hp)
  | some (.normal, st1) => match st1.A.get l with
    | some (.loop r1) => match r1.state with
      | .ready => endRoundA l (run body g (some l) ⟨st1.T, st1.D, st1.A.set l (some (.loop { r1 with state := .busy }))⟩)
      | _ => none
    | _ => none
  | _ => none
def yieldA (run : ACode → RunFn) (g l : Nat) (args : List Value) (A : Hp) : Option (Value × Hp) :=
  match A.get l with
  | some (.loop r) =>
    if args.length = r.params.length ∧ g ≤ l then
      beginRoundA run g l r.body (run r.assign g (some l) ⟨zipArgs r.tmps r.params args, [], A⟩)
    else none
  | _ => none
def callV (AP : Nat → Option AFunc) (K : Nat → Option Spec) (run : ACode → RunFn) : CallFn := fun g f args A =>
  match f with
  | .func (.func h) first captured => callF AP K run g h (first.toList ++ args ++ captured.toList) A
  | .func (.yield l) ⟨[]⟩ ⟨[]⟩ => yieldA run g l args A
  | _ => none
def inBlk (id : Nat) : Option (Ex × St) → Option (Ex × St)
  | some (.exit i, st) => if i = id then some (.normal, st) else some (.exit i, st)
  | r => r
def seqA (b : RunFn) (g : Nat) (rd : Option Nat) : Option (Ex × St) → Option (Ex × St)
  | some (.normal, st1) => b g rd st1
  | r => r
def condA (a b : RunFn) (g : Nat) (rd : Option Nat) (st : St) : Value → Option (Ex × St)
  | .bool true => a g rd st
  | .bool false => b g rd st
  | _ => none
def iterA (body : RunFn) (m : Nat) : RunFn :=
  Nat.rec (motive := fun _ => RunFn) (fun _ _ _ => none) (fun _ ih => fun g rd st => seqA ih g rd (body g rd st)) m
def endLoopA (l : Nat) (T : List Value) (D : List Nat) : Option (Value × Hp) → Option (Ex × St)
  | some (_, A3) => match A3.get l with
    | some (.loop r) => match r.state with
      | .busy => none
      | _ => match r.pending with
        | none => some (.normal, ⟨T, D, A3.set l (some (.loop { r with state := .exhausted }))⟩)
        | some none => some (.ret, ⟨T, D, A3.set l (some (.loop { r with state := .exhausted }))⟩)
        | some (some id) => some (.exit id, ⟨T, D, A3.set l (some (.loop { r with state := .exhausted }))⟩)
    | _ => none
  | none => none
def rangeA (cf : Nat → Nat → List Value → Hp → Option (Value × Hp)) (ps : List Nat) (assign body : ACode) (g : Nat) (rd : Option Nat) (st : St) : Value → Option (Ex × St)
  | .func (.func h) first captured =>
    match rd with
    | none => endLoopA (st.A.n + 1) st.T (st.A.n :: st.D) (cf g h (first.toList ++ [.func (.yield (st.A.n + 1)) #[] #[]] ++ captured.toList)
        ((st.A.push .marks).push (.loop { state := .ready, pending := none, tmps := st.T, params := ps, assign, body })))
    | some l => match st.A.get l with
      | some (.loop _) => endLoopA st.A.n st.T st.D (cf g h (first.toList ++ [.func (.yield st.A.n) #[] #[]] ++ captured.toList)
          (st.A.push (.loop { state := .ready, pending := none, tmps := st.T, params := ps, assign, body })))
      | _ => none
  | _ => none
def opsSt (cv : CallFn) (g : Nat) (l : List AOper) (st : St) : Option (Ex × St) := (opsA cv g l st.T st.A).map fun r => (.normal, ⟨r.1, st.D, r.2⟩)
def codeA (cv : CallFn) (cf : Nat → Nat → List Value → Hp → Option (Value × Hp)) (m : Nat) : ACode → RunFn :=
  ACode.rec (motive := fun _ => RunFn)
    (fun _ _ st => some (.normal, st))
    (fun l g _ st => opsSt cv g l st)
    (fun _ _ a b g rd st => seqA b g rd (a g rd st))
    (fun c _ _ a b g rd st => condA a b g rd st (ev st.T c))
    (fun id _ c g rd st => inBlk id (c g rd st))
    (fun _ c => iterA c m)
    (fun id _ _ st => some (.exit id, st))
    (fun _ _ st => some (.ret, st))
    (fun f ps assign body _ _ g rd st => rangeA cf ps assign body g rd st (ev st.T f))
def exec (AP : Nat → Option AFunc) (K : Nat → Option Spec) (m d : Nat) : ACode → RunFn :=
  Nat.rec (motive := fun _ => ACode → RunFn) (fun _ _ _ _ => none) (fun _ ih => codeA (callV AP K ih) (callF AP K ih) m) d
end
end Go.Ab
set_option maxRecDepth 100000
namespace Go.Ab.Gauge
open Go.Ab
def F395 : AFunc :=
 .fn 136 [.tmp 0]
 (.seq
 (.ops [
oP 0 (.move (.k (.bool false)))])
 (.seq
 (.ops [
oA 20 418 [.k (.int .i64 3), .k (.int .i64 0), .k (.int .i64 20000), .k (.int .i64 20000), .k (.int .i64 0)] false,
oP 1 (.alloc [.int .i64 0, .int .i64 0, .int .i64 0, .int .i64 0, .int .i64 0, .int .i64 0]),
oT 1 20 6])
 (.seq
 (.ops [
oD 22 1 6,
oA 23 420 [.t 22] false,
oA 24 419 [.k (.bool false), .k (.int .i64 0), .t 23] false,
oM 21 24,
oX 25 21 0,
oX 26 21 1,
oM 2 25,
oM 3 26])
 (.seq
 (.ops [
oA 28 418 [.k (.int .i64 3), .k (.int .i64 0), .k (.int .i64 20000), .k (.int .i64 30000), .k (.int .i64 0)] false,
oA 29 418 [.k (.int .i64 4), .k (.int .i64 1), .k (.int .i64 130000), .k (.int .i64 130000), .k (.int .i64 0)] false,
oA 30 421 [.t 28, .t 29] false,
oA 31 419 [.k (.bool false), .k (.int .i64 0), .t 30] false,
oM 27 31,
oX 32 27 0,
oX 33 27 1,
oM 4 32,
oM 5 33])
 (.seq
 (.ops [
oA 35 418 [.k (.int .i64 1), .k (.int .i64 0), .k (.int .i64 20000), .k (.int .i64 20000), .k (.int .i64 100)] false,
oA 36 420 [.t 35] false,
oA 37 419 [.k (.bool false), .k (.int .i64 0), .t 36] false,
oM 34 37,
oX 38 34 0,
oX 39 34 1,
oM 6 38,
oM 7 39])
 (.seq
 (.ops [
oA 41 418 [.k (.int .i64 1), .k (.int .i64 0), .k (.int .i64 20000), .k (.int .i64 20000), .k (.int .i64 300)] false,
oA 42 420 [.t 41] false,
oA 43 419 [.k (.bool false), .k (.int .i64 0), .t 42] false,
oM 40 43,
oX 44 40 0,
oX 45 40 1,
oM 8 44,
oM 9 45])
 (.seq
 (.ops [
oA 47 418 [.k (.int .i64 2), .k (.int .i64 0), .k (.int .i64 10000), .k (.int .i64 40000), .k (.int .i64 50)] false,
oA 48 420 [.t 47] false,
oA 49 419 [.k (.bool false), .k (.int .i64 0), .t 48] false,
oM 46 49,
oX 50 46 0,
oX 51 46 1,
oM 10 50,
oM 11 51])
 (.seq
 (.ops [
oA 53 418 [.k (.int .i64 2), .k (.int .i64 0), .k (.int .i64 0), .k (.int .i64 40000), .k (.int .i64 0)] false,
oA 54 420 [.t 53] false,
oA 55 419 [.k (.bool true), .k (.int .i64 0), .t 54] false,
oM 52 55,
oX 56 52 0,
oX 57 52 1,
oM 12 56,
oM 13 57])
 (.seq
 (.ops [
oD 59 1 6,
oA 60 418 [.k (.int .i64 3), .k (.int .i64 1), .k (.int .i64 20000), .k (.int .i64 20000), .k (.int .i64 0)] true,
oA 61 421 [.t 59, .t 60] false,
oA 62 419 [.k (.bool false), .k (.int .i64 0), .t 61] false,
oM 58 62,
oX 63 58 0,
oX 64 58 1,
oM 14 63,
oM 15 64])
 (.seq
 (.ops [
oD 66 1 6,
oA 67 418 [.k (.int .i64 3), .k (.int .i64 1), .k (.int .i64 20000), .k (.int .i64 20000), .k (.int .i64 0)] true,
oA 68 421 [.t 66, .t 67] false,
oA 69 419 [.k (.bool false), .k (.int .i64 1), .t 68] false,
oM 65 69,
oX 70 65 0,
oX 71 65 1,
oM 16 70,
oM 17 71])
 (.seq
 (.ops [
oA 73 422 [] false,
oA 74 423 [] false,
oA 75 416 [.t 73, .t 74] false,
oM 72 75,
oX 76 72 0,
oX 77 72 1,
oM 18 76,
oM 19 77])
 (.seq
 (.ops [
oM 78 2,
oA 79 424 [.k (.int .i64 4036), .k (.int .i64 4037)] false,
oP 80 (.slit 1 5 [.int .i64 0, .int .i64 0, .int .i64 0, .int .i64 0, .int .i64 0] [(0, .t 79)]),
oA 81 405 [.t 78, .t 80] false,
oM 82 81,
oN 83 82 true 4,
oQ 84 82 true (.call (.k (.func (.func 424) ⟨[]⟩ ⟨[]⟩)) [.k (.int .i64 13073), .k (.int .i64 14037)] false),
oQ 85 82 true (.slit 1 5 [.int .i64 0, .int .i64 0, .int .i64 0, .int .i64 0, .int .i64 0] [(0, .t 84)]),
oQ 86 82 true (.call (.k (.func (.func 405) ⟨[]⟩ ⟨[]⟩)) [.t 83, .t 85] false),
oP 87 (.pick (.t 82) (.t 86) (.k (.bool false))),
oM 88 87,
oN 89 88 true 6,
oQ 90 88 true (.call (.k (.func (.func 424) ⟨[]⟩ ⟨[]⟩)) [.k (.int .i64 0), .k (.int .i64 4037)] false),
oQ 91 88 true (.slit 1 5 [.int .i64 0, .int .i64 0, .int .i64 0, .int .i64 0, .int .i64 0] [(0, .t 90)]),
oQ 92 88 true (.call (.k (.func (.func 405) ⟨[]⟩ ⟨[]⟩)) [.t 89, .t 91] false),
oP 93 (.pick (.t 88) (.t 92) (.k (.bool false))),
oM 94 93,
oN 95 94 true 8,
oQ 96 94 true (.len (.t 95)),
oQ 97 94 true (.bin .eql (.t 96) (oK 0)),
oP 98 (.pick (.t 94) (.t 97) (.k (.bool false))),
oM 99 98,
oN 100 99 true 10,
oQ 101 99 true (.call (.k (.func (.func 424) ⟨[]⟩ ⟨[]⟩)) [.k (.int .i64 24037), .k (.int .i64 24037)] false),
oQ 102 99 true (.slit 1 5 [.int .i64 0, .int .i64 0, .int .i64 0, .int .i64 0, .int .i64 0] [(0, .t 101)]),
oQ 103 99 true (.call (.k (.func (.func 405) ⟨[]⟩ ⟨[]⟩)) [.t 100, .t 102] false),
oP 104 (.pick (.t 99) (.t 103) (.k (.bool false))),
oM 105 104,
oN 106 105 true 12,
oQ 107 105 true (.call (.k (.func (.func 424) ⟨[]⟩ ⟨[]⟩)) [.k (.int .i64 24037), .k (.int .i64 100000)] false),
oQ 108 105 true (.slit 1 5 [.int .i64 0, .int .i64 0, .int .i64 0, .int .i64 0, .int .i64 0] [(0, .t 107)]),
oQ 109 105 true (.call (.k (.func (.func 405) ⟨[]⟩ ⟨[]⟩)) [.t 106, .t 108] false),
oP 110 (.pick (.t 105) (.t 109) (.k (.bool false))),
oM 111 110,
oN 112 111 true 13,
oP 113 (.pick (.t 111) (.t 112) (.k (.bool false))),
oM 114 113,
oN 115 114 true 14,
oQ 116 114 true (.len (.t 115)),
oQ 117 114 true (.bin .eql (.t 116) (oK 0)),
oP 118 (.pick (.t 114) (.t 117) (.k (.bool false))),
oM 119 118,
oN 120 119 true 16,
oQ 121 119 true (.call (.k (.func (.func 424) ⟨[]⟩ ⟨[]⟩)) [.k (.int .i64 4036), .k (.int .i64 4037)] false),
oQ 122 119 true (.slit 1 5 [.int .i64 0, .int .i64 0, .int .i64 0, .int .i64 0, .int .i64 0] [(0, .t 121)]),
oQ 123 119 true (.call (.k (.func (.func 405) ⟨[]⟩ ⟨[]⟩)) [.t 120, .t 122] false),
oP 124 (.pick (.t 119) (.t 123) (.k (.bool false))),
oM 125 124,
oN 126 125 true 19,
oQ 127 125 true (.bin .eql (.t 126) (oK 0)),
oP 128 (.pick (.t 125) (.t 127) (.k (.bool false))),
oM 129 128,
oN 130 129 true 18,
oQ 131 129 true (.bin .eql (.t 130) (oK 1)),
oP 132 (.pick (.t 129) (.t 131) (.k (.bool false))),
oM 133 132,
oQ 134 133 true (.call (.k (.func (.func 401) ⟨[]⟩ ⟨[]⟩)) [] false),
oP 135 (.pick (.t 133) (.t 134) (.k (.bool false))),
oM 0 135])
 .ret))))))))))))
def F401 : AFunc :=
 .fn 62 [.tmp 0]
 (.seq
 (.ops [
oP 0 (.move (.k (.bool false)))])
 (.seq
 (.ops [
oA 10 422 [] false,
oA 11 423 [] false,
oA 12 402 [.t 10, .t 11] false,
oM 9 12,
oX 13 9 0,
oX 14 9 1,
oX 15 9 2,
oM 1 13,
oM 2 14,
oM 3 15])
 (.seq
 (.ops [
oA 17 422 [] false,
oA 18 423 [] false,
oA 19 403 [.t 17, .t 18] false,
oM 16 19,
oX 20 16 0,
oX 21 16 1,
oM 4 20,
oM 5 21])
 (.seq
 (.ops [
oA 23 422 [] false,
oA 24 423 [] false,
oA 25 428 [.t 23, .t 24, .k (.int .i64 1)] false,
oM 22 25,
oX 26 22 0,
oX 27 22 1,
oX 28 22 2,
oM 6 26,
oM 7 27,
oM 8 28])
 (.seq
 (.ops [
oM 29 3,
oC 30 .eql 29 0,
oM 31 30,
oN 32 31 true 5,
oQ 33 31 true (.bin .eql (.t 32) (oK 0)),
oP 34 (.pick (.t 31) (.t 33) (.k (.bool false))),
oM 35 34,
oN 36 35 true 8,
oQ 37 35 true (.bin .eql (.t 36) (oK 0)),
oP 38 (.pick (.t 35) (.t 37) (.k (.bool false))),
oM 39 38,
oN 40 39 true 7,
oP 41 (.pick (.t 39) (.t 40) (.k (.bool false))),
oM 42 41,
oN 43 42 true 2,
oQ 44 42 true (.not (.t 43)),
oP 45 (.pick (.t 42) (.t 44) (.k (.bool false))),
oM 46 45,
oN 47 46 true 1,
oQ 48 46 true (.call (.k (.func (.func 424) ⟨[]⟩ ⟨[]⟩)) [.k (.int .i64 4036), .k (.int .i64 4037)] false),
oQ 49 46 true (.slit 1 5 [.int .i64 0, .int .i64 0, .int .i64 0, .int .i64 0, .int .i64 0] [(0, .t 48)]),
oQ 50 46 true (.call (.k (.func (.func 405) ⟨[]⟩ ⟨[]⟩)) [.t 47, .t 49] false),
oP 51 (.pick (.t 46) (.t 50) (.k (.bool false))),
oM 52 51,
oN 53 52 true 4,
oQ 54 52 true (.slit 3 1 [.int .i64 0] [(0, .k (.int .i64 1)), (1, .k (.int .i64 3)), (2, .k (.int .i64 1))]),
oQ 55 52 true (.call (.k (.func (.func 430) ⟨[]⟩ ⟨[]⟩)) [.t 53, .t 54] false),
oP 56 (.pick (.t 52) (.t 55) (.k (.bool false))),
oM 57 56,
oN 58 57 true 6,
oQ 59 57 true (.slit 2 1 [.int .i64 0] [(0, .k (.int .i64 0)), (1, .k (.int .i64 2))]),
oQ 60 57 true (.call (.k (.func (.func 430) ⟨[]⟩ ⟨[]⟩)) [.t 58, .t 59] false),
oP 61 (.pick (.t 57) (.t 60) (.k (.bool false))),
oM 0 61])
 .ret)))))
def F402 : AFunc :=
 .fn 59 [.tmp 4, .tmp 5, .tmp 6]
 (.seq
 (.ops [
oP 2 (.box (.t 0)),
oP 3 (.box (.t 1)),
oP 4 (.move (.k (.slice none 0 0))),
oP 5 (.move (.k (.bool false))),
oP 6 (.move (oK 0))])
 (.seq
 (.ops [
oD 15 2 13,
oD 16 3 4,
oA 17 437 [.t 15, .t 16] false,
oM 14 17,
oX 18 14 0,
oX 19 14 1,
oM 7 18,
oM 8 19])
 (.seq
 (.seq
 (.ops [
oM 20 8,
oC 21 .neq 20 0])
 (.cond (.t 21)
 (.seq
 (.ops [
oM 22 8,
oP 4 (.move (.k (.slice none 0 0))),
oP 5 (.move (.k (.bool false))),
oM 6 22])
 .ret)
 .skip))
 (.seq
 (.ops [
oP 9 (.alloc [.slice none 0 0])])
 (.seq
 (.ops [
oP 10 (.alloc [.bool false]),
oP 11 (.alloc [.int .i64 0]),
⟨none, none, [], .store (.t 10) (.k (.bool false)) 1⟩,
⟨none, none, [], .store (.t 11) (.k (.int .i64 (-1))) 1⟩])
 (.seq
 (.seq
 (.ops [
oM 23 7,
oA 24 438 [.t 23] false])
 (.block 0
 (.rangeF (.t 24) [25]
 (.ops [
oP 12 (.alloc [.int .i64 0, .int .i64 0, .int .i64 0, .slice none 0 0]),
oT 12 25 4])
 (.block 1
 (.seq
 (.ops [
oF 26 12 0,
oL 27 26])
 (.block 2
 (.seq
 (.ops [
oC 43 .eql 27 (-1),
oM 42 43])
 (.cond (.t 42)
 (.ops [
⟨none, none, [], .store (.t 10) (.k (.bool true)) 1⟩])
 (.seq
 (.ops [
oL 45 11,
oB 46 .eql 27 45,
oM 44 46])
 (.cond (.t 44)
 (.ops [
oL 47 9,
oL 48 9,
oP 49 (.len (.t 48)),
oC 50 .sub 49 1,
oF 51 12 1,
oF 52 51 1,
oL 53 52,
oI 54 47 50 5,
oF 55 54 3,
oF 56 55 1,
oT 56 53 1])
 (.seq
 (.ops [
oF 28 12 0,
oL 29 28,
oT 11 29 1])
 (.seq
 (.ops [
oF 30 3 0,
oL 31 30,
oL 32 11,
oI 33 31 32 5,
oD 34 33 5,
oP 13 (.alloc [.int .i64 0, .int .i64 0, .int .i64 0, .int .i64 0, .int .i64 0]),
oT 13 34 5])
 (.seq
 (.ops [
oF 35 12 1,
oD 36 35 2,
oF 37 13 3,
oT 37 36 2])
 (.ops [
oL 38 9,
oD 39 13 5,
oP 40 (.slit 1 5 [.int .i64 0, .int .i64 0, .int .i64 0, .int .i64 0, .int .i64 0] [(0, .t 39)]),
oP 41 (.append (.t 38) (.t 40) 5 40),
oT 9 41 1]))))))))))))))
 (.seq
 (.ops [
oL 57 9,
oL 58 10,
oM 4 57,
oM 5 58,
oP 6 (.move (oK 0))])
 .ret)))))))
def F403 : AFunc :=
 .fn 58 [.tmp 4, .tmp 5]
 (.seq
 (.ops [
oP 2 (.box (.t 0)),
oP 3 (.box (.t 1)),
oP 4 (.move (.k (.slice none 0 0))),
oP 5 (.move (oK 0))])
 (.seq
 (.ops [
oD 15 2 13,
oD 16 3 4,
oA 17 437 [.t 15, .t 16] false,
oM 14 17,
oX 18 14 0,
oX 19 14 1,
oM 6 18,
oM 7 19])
 (.seq
 (.seq
 (.ops [
oM 20 7,
oC 21 .neq 20 0])
 (.cond (.t 21)
 (.seq
 (.ops [
oM 22 7,
oP 4 (.move (.k (.slice none 0 0))),
oM 5 22])
 .ret)
 .skip))
 (.seq
 (.ops [
oM 23 6,
oA 24 438 [.t 23] false,
oA 25 439 [.t 24] false,
oM 8 25])
 (.seq
 (.ops [
oP 9 (.move (.k (.slice none 0 0)))])
 (.seq
 (.seq
 (.ops [
oM 26 6,
oP 27 (.nilCheck (.t 26)),
oF 28 27 4,
oL 29 28,
oP 30 (.len (.t 29)),
oP 31 (.move (oK 0))])
 (.block 0
 (.loop
 (.seq
 (.ops [
oB 32 .lss 31 30])
 (.seq
 (.cond (.t 32)
 .skip
 (.exit 0))
 (.seq
 (.block 1
 (.seq
 (.ops [
oI 33 29 31 1,
oL 34 33,
oP 11 (.alloc [.int .i64 0]),
oT 11 34 1])
 (.seq
 (.ops [
oP 35 (.makeFunc 440 [] [.t 11]),
oM 12 35])
 (.seq
 (.ops [
oP 36 (.makeFunc 441 [] [.t 11]),
oM 13 36])
 (.block 2
 (.seq
 (.ops [
oM 41 8,
oM 42 12,
oA 43 442 [.t 41, .t 42] false,
oP 44 (.not (.t 43)),
oM 40 44])
 (.cond (.t 40)
 (.ops [
oM 45 9,
oP 46 (.slit 1 1 [.int .i64 0] [(0, .k (.int .i64 3))]),
oP 47 (.append (.t 45) (.t 46) 1 8),
oM 9 47])
 (.seq
 (.ops [
oM 49 8,
oM 50 13,
oA 51 442 [.t 49, .t 50] false,
oP 52 (.not (.t 51)),
oM 48 52])
 (.cond (.t 48)
 (.ops [
oM 53 9,
oP 54 (.slit 1 1 [.int .i64 0] [(0, .k (.int .i64 1))]),
oP 55 (.append (.t 53) (.t 54) 1 8),
oM 9 55])
 (.ops [
oM 37 9,
oP 38 (.slit 1 1 [.int .i64 0] [(0, .k (.int .i64 2))]),
oP 39 (.append (.t 37) (.t 38) 1 8),
oM 9 39]))))))))))
 (.ops [
oC 56 .add 31 1,
oM 31 56])))))))
 (.seq
 (.ops [
oM 57 9,
oM 4 57,
oP 5 (.move (oK 0))])
 .ret)))))))
def F405 : AFunc :=
 .fn 26 [.tmp 4]
 (.seq
 (.ops [
oP 4 (.move (.k (.bool false)))])
 (.seq
 (.seq
 (.ops [
oM 6 0,
oP 7 (.len (.t 6)),
oM 8 1,
oP 9 (.len (.t 8)),
oB 10 .neq 7 9])
 (.cond (.t 10)
 (.seq
 (.ops [
oP 4 (.move (.k (.bool false)))])
 .ret)
 .skip))
 (.seq
 (.seq
 (.ops [
oP 5 (.move (oK 0))])
 (.block 0
 (.loop
 (.seq
 (.seq
 (.ops [
oM 11 5,
oM 12 0,
oP 13 (.len (.t 12)),
oB 14 .lss 11 13])
 (.cond (.t 14)
 .skip
 (.exit 0)))
 (.seq
 (.block 1
 (.seq
 (.ops [
oM 17 0,
oM 18 5,
oI 19 17 18 5,
oD 20 19 5,
oM 21 1,
oM 22 5,
oI 23 21 22 5,
oD 24 23 5,
oP 25 (.eqv true [0, 0, 0, 0, 0] (.t 20) (.t 24))])
 (.cond (.t 25)
 (.seq
 (.ops [
oP 4 (.move (.k (.bool false)))])
 .ret)
 .skip)))
 (.ops [
oM 15 5,
oC 16 .add 15 1,
oM 5 16]))))))
 (.seq
 (.ops [
oP 4 (.move (.k (.bool true)))])
 .ret))))
def F416 : AFunc :=
 .fn 49 [.tmp 4, .tmp 5]
 (.seq
 (.ops [
oP 2 (.box (.t 0)),
oP 3 (.box (.t 1)),
oP 4 (.move (oK 0)),
oP 5 (.move (oK 0))])
 (.seq
 (.ops [
oD 13 2 13,
oD 14 3 4,
oA 15 437 [.t 13, .t 14] false,
oM 12 15,
oX 16 12 0,
oX 17 12 1,
oM 6 16,
oM 7 17])
 (.seq
 (.seq
 (.ops [
oM 18 7,
oC 19 .neq 18 0])
 (.cond (.t 19)
 (.seq
 (.ops [
oM 20 7,
oP 4 (.move (oK 0)),
oM 5 20])
 .ret)
 .skip))
 (.seq
 (.seq
 (.ops [
oM 21 6,
oP 22 (.nilCheck (.t 21)),
oF 23 22 5,
oL 24 23,
oP 25 (.len (.t 24)),
oC 26 .eql 25 0])
 (.cond (.t 26)
 (.seq
 (.ops [
oP 4 (.move (oK (-1))),
oP 5 (.move (oK 0))])
 .ret)
 .skip))
 (.seq
 (.ops [
oM 27 6,
oP 28 (.nilCheck (.t 27)),
oF 29 28 4,
oL 30 29,
oM 8 30])
 (.seq
 (.ops [
oM 31 8,
oP 32 (.len (.t 31)),
oM 9 32])
 (.seq
 (.seq
 (.ops [
oM 33 6,
oP 34 (.nilCheck (.t 33)),
oF 35 34 5,
oL 36 35,
oP 37 (.len (.t 36)),
oP 38 (.move (oK 0))])
 (.block 0
 (.loop
 (.seq
 (.ops [
oB 39 .lss 38 37])
 (.seq
 (.cond (.t 39)
 .skip
 (.exit 0))
 (.seq
 (.block 1
 (.seq
 (.ops [
oI 40 36 38 4,
oD 41 40 4,
oP 11 (.alloc [.int .i64 0, .int .i64 0, .int .i64 0, .slice none 0 0]),
oT 11 41 4])
 (.ops [
oM 42 9,
oD 43 11 4,
oM 44 8,
oA 45 455 [.t 43, .t 44] false,
oP 46 (.min [.t 42, .t 45]),
oM 9 46])))
 (.ops [
oC 47 .add 38 1,
oM 38 47])))))))
 (.seq
 (.ops [
oM 48 9,
oM 4 48,
oP 5 (.move (oK 0))])
 .ret))))))))
def F418 : AFunc :=
 .fn 19 [.cell 10 (some 6)]
 (.seq
 (.ops [
oP 10 (.alloc [.int .i64 0, .int .i64 0, .int .i64 0, .int .i64 0, .int .i64 0, .int .i64 0])])
 (.seq
 (.ops [
oM 11 0,
oM 12 1,
oM 13 2,
oM 14 3,
oP 15 (.build [.int .i64 0, .int .i64 0] [(0, 1, .t 13), (1, 1, .t 14)]),
oM 16 4,
oA 17 456 [.t 16] false,
oP 18 (.build [.int .i64 0, .int .i64 0, .int .i64 0, .int .i64 0, .int .i64 0, .int .i64 0] [(0, 1, .t 11), (1, 1, .t 12), (2, 2, .t 15), (4, 2, .t 17)]),
oT 10 18 6])
 .ret))
def F419 : AFunc :=
 .fn 29 [.tmp 6, .tmp 7]
 (.seq
 (.ops [
oP 6 (.move (.k (.slice none 0 0))),
oP 7 (.move (.k (.bool false)))])
 (.seq
 (.ops [
oA 12 422 [] false,
oA 13 424 [.k (.int .i64 0), .k (.int .i64 100000)] false,
oP 14 (.slit 1 5 [.int .i64 0, .int .i64 0, .int .i64 0, .int .i64 0, .int .i64 0] [(0, .t 13)]),
oM 15 0,
oM 16 2,
oM 17 1,
oP 18 (.build [.slice none 0 0, .bool false, .slice none 0 0, .int .i64 0] [(0, 1, .t 14), (1, 1, .t 15), (2, 1, .t 16), (3, 1, .t 17)]),
oA 19 402 [.t 12, .t 18] false,
oM 11 19,
oX 20 11 0,
oX 21 11 1,
oX 22 11 2,
oM 8 20,
oM 9 21,
oM 10 22])
 (.seq
 (.ops [
oM 23 8,
oM 24 9,
oM 25 24,
oN 26 25 true 10,
oQ 27 25 true (.bin .eql (.t 26) (oK 0)),
oP 28 (.pick (.t 25) (.t 27) (.k (.bool false))),
oM 6 23,
oM 7 28])
 .ret)))
def F420 : AFunc :=
 .fn 5 [.tmp 2]
 (.seq
 (.ops [
oP 1 (.box (.t 0)),
oP 2 (.move (.k (.slice none 0 0)))])
 (.seq
 (.ops [
oD 3 1 6,
oP 4 (.slit 1 6 [.int .i64 0, .int .i64 0, .int .i64 0, .int .i64 0, .int .i64 0, .int .i64 0] [(0, .t 3)]),
oM 2 4])
 .ret))
def F421 : AFunc :=
 .fn 8 [.tmp 4]
 (.seq
 (.ops [
oP 2 (.box (.t 0)),
oP 3 (.box (.t 1)),
oP 4 (.move (.k (.slice none 0 0)))])
 (.seq
 (.ops [
oD 5 2 6,
oD 6 3 6,
oP 7 (.slit 2 6 [.int .i64 0, .int .i64 0, .int .i64 0, .int .i64 0, .int .i64 0, .int .i64 0] [(0, .t 5), (1, .t 6)]),
oM 4 7])
 .ret))
def F422 : AFunc :=
 .fn 15 [.cell 0 (some 13)]
 (.seq
 (.ops [
oP 0 (.alloc [.int .i64 0, .int .i64 0, .int .i64 0, .slice none 0 0, .int .i64 0, .slice none 0 0, .int .i64 0, .int .i64 0, .int .i64 0, .int .i64 0, .int .i64 0, .int .i64 0, .slice none 0 0])])
 (.seq
 (.ops [
oA 1 456 [.k (.int .i64 (-40000))] false,
oA 2 456 [.k (.int .i64 (-40000))] false,
oA 3 456 [.k (.int .i64 (-1000))] false,
oA 4 456 [.k (.int .i64 300)] false,
oP 5 (.slit 4 2 [.int .i64 0, .int .i64 0] [(0, .t 1), (1, .t 2), (2, .t 3), (3, .t 4)]),
oP 6 (.build [.int .i64 0, .int .i64 0, .int .i64 0, .slice none 0 0] [(0, 1, .k (.int .i64 4)), (1, 1, .k (.int .i64 1)), (2, 1, .k (.int .i64 1000)), (3, 1, .t 5)]),
oA 7 456 [.k (.int .i64 1024)] false,
oA 8 456 [.k (.int .i64 100)] false,
oA 9 456 [.k (.int .i64 10)] false,
oP 10 (.build [.int .i64 0, .int .i64 0, .int .i64 0, .int .i64 0, .int .i64 0, .int .i64 0] [(0, 2, .t 7), (2, 2, .t 8), (4, 2, .t 9)]),
oP 11 (.build [.int .i64 0, .int .i64 0, .int .i64 0, .int .i64 0, .int .i64 0, .int .i64 0, .int .i64 0, .int .i64 0, .int .i64 0] [(0, 1, .k (.int .i64 1)), (8, 1, .k (.int .i64 20))]),
oP 12 (.build [.int .i64 0, .int .i64 0, .int .i64 0, .int .i64 0, .int .i64 0, .int .i64 0, .int .i64 0, .int .i64 0, .int .i64 0] [(0, 1, .k (.int .i64 2)), (8, 1, .k (.int .i64 20))]),
oP 13 (.slit 2 9 [.int .i64 0, .int .i64 0, .int .i64 0, .int .i64 0, .int .i64 0, .int .i64 0, .int .i64 0, .int .i64 0, .int .i64 0] [(0, .t 11), (1, .t 12)]),
oP 14 (.build [.int .i64 0, .int .i64 0, .int .i64 0, .slice none 0 0, .int .i64 0, .slice none 0 0, .int .i64 0, .int .i64 0, .int .i64 0, .int .i64 0, .int .i64 0, .int .i64 0, .slice none 0 0] [(0, 4, .t 6), (6, 6, .t 10), (12, 1, .t 13)]),
oT 0 14 13])
 .ret))
def F423 : AFunc :=
 .fn 8 [.cell 0 (some 4)]
 (.seq
 (.ops [
oP 0 (.alloc [.slice none 0 0, .bool false, .slice none 0 0, .int .i64 0])])
 (.seq
 (.ops [
oA 1 424 [.k (.int .i64 0), .k (.int .i64 100000)] false,
oP 2 (.slit 1 5 [.int .i64 0, .int .i64 0, .int .i64 0, .int .i64 0, .int .i64 0] [(0, .t 1)]),
oA 3 418 [.k (.int .i64 3), .k (.int .i64 0), .k (.int .i64 20000), .k (.int .i64 20000), .k (.int .i64 0)] false,
oA 4 418 [.k (.int .i64 3), .k (.int .i64 1), .k (.int .i64 200000), .k (.int .i64 200000), .k (.int .i64 0)] false,
oA 5 418 [.k (.int .i64 3), .k (.int .i64 1), .k (.int .i64 120963), .k (.int .i64 120963), .k (.int .i64 0)] false,
oP 6 (.slit 3 6 [.int .i64 0, .int .i64 0, .int .i64 0, .int .i64 0, .int .i64 0, .int .i64 0] [(0, .t 3), (1, .t 4), (2, .t 5)]),
oP 7 (.build [.slice none 0 0, .bool false, .slice none 0 0, .int .i64 0] [(0, 1, .t 2), (2, 1, .t 6), (3, 1, .k (.int .i64 1))]),
oT 0 7 4])
 .ret))
def F424 : AFunc :=
 .fn 9 [.cell 4 (some 5)]
 (.seq
 (.ops [
oP 4 (.alloc [.int .i64 0, .int .i64 0, .int .i64 0, .int .i64 0, .int .i64 0])])
 (.seq
 (.ops [
oM 5 0,
oM 6 1,
oP 7 (.build [.int .i64 0, .int .i64 0] [(0, 1, .t 5), (1, 1, .t 6)]),
oP 8 (.build [.int .i64 0, .int .i64 0, .int .i64 0, .int .i64 0, .int .i64 0] [(0, 1, .k (.int .i64 2)), (2, 1, .k (.int .i64 7)), (3, 2, .t 7)]),
oT 4 8 5])
 .ret))
def F428 : AFunc :=
 .fn 39 [.tmp 6, .tmp 7, .tmp 8]
 (.seq
 (.ops [
oP 3 (.box (.t 0)),
oP 4 (.box (.t 1)),
oP 5 (.box (.t 2)),
oP 6 (.move (.k (.slice none 0 0))),
oP 7 (.move (.k (.bool false))),
oP 8 (.move (oK 0))])
 (.seq
 (.ops [
oD 13 3 13,
oD 14 4 4,
oL 15 5,
oA 16 462 [.t 13, .t 14, .t 15] false,
oM 12 16,
oX 17 12 0,
oX 18 12 1,
oP 9 (.alloc [.pointer none]),
oT 9 17 1,
oM 10 18])
 (.seq
 (.seq
 (.ops [
oM 19 10,
oC 20 .neq 19 0])
 (.cond (.t 20)
 (.seq
 (.ops [
oM 21 10,
oP 6 (.move (.k (.slice none 0 0))),
oP 7 (.move (.k (.bool false))),
oM 8 21])
 .ret)
 .skip))
 (.seq
 (.ops [
oL 22 9,
oP 23 (.nilCheck (.t 22)),
oF 24 23 4,
oL 25 24,
oA 26 174 [.t 25] true,
oL 27 5,
oL 28 5,
oC 29 .add 28 1,
oA 30 463 [.t 26, .t 27, .t 29] false,
oM 11 30])
 (.seq
 (.seq
 (.ops [
oL 31 9,
oL 32 5,
oM 33 11,
oA 34 464 [.t 31, .t 32, .t 33] false,
oP 35 (.not (.t 34))])
 (.cond (.t 35)
 (.seq
 (.ops [
oP 6 (.move (.k (.slice none 0 0))),
oP 7 (.move (.k (.bool false))),
oP 8 (.move (oK 0))])
 .ret)
 .skip))
 (.seq
 (.ops [
oM 36 11,
oP 37 (.makeFunc 466 [] [.t 9, .t 5]),
oA 38 465 [.t 36, .t 37] false,
oM 6 38,
oP 7 (.move (.k (.bool true))),
oP 8 (.move (oK 0))])
 .ret))))))
def F430 : AFunc :=
 .fn 26 [.tmp 4]
 (.seq
 (.ops [
oP 4 (.move (.k (.bool false)))])
 (.seq
 (.seq
 (.ops [
oM 6 0,
oP 7 (.len (.t 6)),
oM 8 1,
oP 9 (.len (.t 8)),
oB 10 .neq 7 9])
 (.cond (.t 10)
 (.seq
 (.ops [
oP 4 (.move (.k (.bool false)))])
 .ret)
 .skip))
 (.seq
 (.seq
 (.ops [
oP 5 (.move (oK 0))])
 (.block 0
 (.loop
 (.seq
 (.seq
 (.ops [
oM 11 5,
oM 12 0,
oP 13 (.len (.t 12)),
oB 14 .lss 11 13])
 (.cond (.t 14)
 .skip
 (.exit 0)))
 (.seq
 (.block 1
 (.seq
 (.ops [
oM 17 0,
oM 18 5,
oI 19 17 18 1,
oL 20 19,
oM 21 1,
oM 22 5,
oI 23 21 22 1,
oL 24 23,
oB 25 .neq 20 24])
 (.cond (.t 25)
 (.seq
 (.ops [
oP 4 (.move (.k (.bool false)))])
 .ret)
 .skip)))
 (.ops [
oM 15 5,
oC 16 .add 15 1,
oM 5 16]))))))
 (.seq
 (.ops [
oP 4 (.move (.k (.bool true)))])
 .ret))))
def F437 : AFunc :=
 .fn 184 [.tmp 4, .tmp 5]
 (.seq
 (.ops [
oP 2 (.box (.t 0)),
oP 3 (.box (.t 1)),
oP 4 (.move (.k (.pointer none))),
oP 5 (.move (oK 0))])
 (.seq
 (.ops [
oD 30 2 13,
oA 31 444 [.t 30] false,
oM 29 31,
oX 32 29 0,
oX 33 29 1,
oM 6 32,
oM 7 33])
 (.seq
 (.seq
 (.ops [
oM 34 7,
oC 35 .neq 34 0])
 (.cond (.t 35)
 (.seq
 (.ops [
oM 36 7,
oP 4 (.move (.k (.pointer none))),
oM 5 36])
 .ret)
 .skip))
 (.seq
 (.seq
 (.ops [
oF 37 3 0,
oL 38 37,
oP 39 (.len (.t 38)),
oC 40 .gtr 39 256])
 (.cond (.t 40)
 (.seq
 (.ops [
oP 4 (.move (.k (.pointer none))),
oP 5 (.move (oK 9))])
 .ret)
 .skip))
 (.seq
 (.seq
 (.ops [
oF 41 3 0,
oL 42 41,
oP 43 (.len (.t 42)),
oP 44 (.move (oK 0))])
 (.block 0
 (.loop
 (.seq
 (.ops [
oB 45 .lss 44 43])
 (.seq
 (.cond (.t 45)
 .skip
 (.exit 0))
 (.seq
 (.block 1
 (.seq
 (.ops [
oI 46 42 44 5,
oD 47 46 5,
oP 9 (.alloc [.int .i64 0, .int .i64 0, .int .i64 0, .int .i64 0, .int .i64 0]),
oT 9 47 5])
 (.seq
 (.ops [
oM 49 6,
oD 50 9 5,
oA 51 457 [.t 49, .t 50] false,
oM 48 51,
oX 52 48 0,
oX 53 48 1,
oM 10 52,
oM 11 53])
 (.seq
 (.ops [
oM 54 11,
oC 55 .neq 54 0])
 (.cond (.t 55)
 (.seq
 (.ops [
oM 56 11,
oP 4 (.move (.k (.pointer none))),
oM 5 56])
 .ret)
 .skip)))))
 (.ops [
oC 57 .add 44 1,
oM 44 57])))))))
 (.seq
 (.seq
 (.ops [
oF 58 3 2,
oL 59 58,
oP 60 (.len (.t 59)),
oC 61 .gtr 60 40])
 (.cond (.t 61)
 (.seq
 (.ops [
oP 4 (.move (.k (.pointer none))),
oP 5 (.move (oK 9))])
 .ret)
 .skip))
 (.seq
 (.ops [
oD 62 3 4,
oP 63 (.build [.slice none 0 0, .bool false, .slice none 0 0, .int .i64 0, .slice none 0 0, .slice none 0 0] [(0, 4, .t 62)]),
oP 64 (.box (.t 63)),
oP 12 (.alloc [.pointer none]),
oT 12 64 1])
 (.seq
 (.ops [
oP 13 (.alloc [.slice none 0 0])])
 (.seq
 (.seq
 (.ops [
oF 65 3 2,
oL 66 65,
oP 67 (.len (.t 66)),
oP 68 (.move (oK 0))])
 (.block 2
 (.loop
 (.seq
 (.ops [
oB 69 .lss 68 67])
 (.seq
 (.cond (.t 69)
 .skip
 (.exit 2))
 (.seq
 (.block 3
 (.seq
 (.ops [
oM 70 68,
oI 71 66 68 6,
oD 72 71 6,
oP 15 (.alloc [.int .i64 0, .int .i64 0, .int .i64 0, .int .i64 0, .int .i64 0, .int .i64 0]),
oM 14 70,
oT 15 72 6])
 (.seq
 (.ops [
oM 74 6,
oD 75 15 6,
oA 76 445 [.t 74, .t 75] false,
oM 73 76,
oX 77 73 0,
oX 78 73 1,
oP 16 (.alloc [.int .i64 0, .int .i64 0, .int .i64 0, .int .i64 0, .int .i64 0, .int .i64 0, .int .i64 0, .int .i64 0, .int .i64 0, .int .i64 0, .int .i64 0, .int .i64 0, .int .i64 0, .int .i64 0, .int .i64 0, .int .i64 0, .int .i64 0, .int .i64 0, .int .i64 0, .int .i64 0, .int .i64 0, .int .i64 0, .int .i64 0]),
oT 16 77 23,
oM 17 78])
 (.seq
 (.seq
 (.ops [
oM 79 17,
oC 80 .neq 79 0])
 (.cond (.t 80)
 (.seq
 (.ops [
oM 81 17,
oP 4 (.move (.k (.pointer none))),
oM 5 81])
 .ret)
 .skip))
 (.ops [
oL 82 12,
oL 83 13,
oD 84 16 23,
oP 85 (.slit 1 23 [.int .i64 0, .int .i64 0, .int .i64 0, .int .i64 0, .int .i64 0, .int .i64 0, .int .i64 0, .int .i64 0, .int .i64 0, .int .i64 0, .int .i64 0, .int .i64 0, .int .i64 0, .int .i64 0, .int .i64 0, .int .i64 0, .int .i64 0, .int .i64 0, .int .i64 0, .int .i64 0, .int .i64 0, .int .i64 0, .int .i64 0] [(0, .t 84)]),
⟨some 86, none, [(.t 83, 0, .t 12, 1)], .append (.t 83) (.t 85) 23 184⟩,
⟨some 87, none, [(.t 83, 0, .t 12, 1)], .load (.t 12) none⟩,
oP 88 (.nilCheck (.t 87)),
oF 89 88 4,
⟨some 90, none, [(.t 83, 0, .t 89, 1)], .load (.t 89) none⟩,
oM 91 14,
oP 92 (.slit 1 1 [.int .i64 0] [(0, .t 91)]),
⟨some 93, none, [(.t 90, 0, .t 12, 1)], .append (.t 90) (.t 92) 1 8⟩,
⟨none, none, [(.t 13, 1, .t 12, 1)], .store (.t 13) (.t 86) 1⟩,
oP 94 (.nilCheck (.t 82)),
oF 95 94 4,
oT 95 93 1])))))
 (.ops [
oC 96 .add 68 1,
oM 68 96])))))))
 (.seq
 (.seq
 (.ops [
oF 97 3 3,
oL 98 97,
oA 99 458 [.t 98, .k (.int .i64 0), .k (.int .i64 8)] false,
oP 100 (.not (.t 99))])
 (.cond (.t 100)
 (.seq
 (.ops [
oP 4 (.move (.k (.pointer none))),
oP 5 (.move (oK 3))])
 .ret)
 .skip))
 (.seq
 (.seq
 (.ops [
oF 101 3 0,
oL 102 101,
oP 103 (.len (.t 102)),
oP 104 (.move (oK 0))])
 (.block 4
 (.loop
 (.seq
 (.ops [
oB 105 .lss 104 103])
 (.seq
 (.cond (.t 105)
 .skip
 (.exit 4))
 (.seq
 (.block 5
 (.seq
 (.ops [
oM 106 104,
oI 107 102 104 5,
oD 108 107 5,
oP 18 (.alloc [.int .i64 0]),
oP 19 (.alloc [.int .i64 0, .int .i64 0, .int .i64 0, .int .i64 0, .int .i64 0]),
oT 18 106 1,
oT 19 108 5])
 (.seq
 (.ops [
oM 110 6,
oD 111 19 5,
oA 112 457 [.t 110, .t 111] false,
oM 109 112,
oX 113 109 0,
oX 114 109 1,
oP 20 (.alloc [.slice none 0 0]),
oT 20 113 1,
oM 21 114])
 (.seq
 (.ops [
oD 115 19 5,
oL 116 20,
oL 117 13,
oA 118 470 [.t 115, .t 116, .t 117] false])
 (.block 6
 (.rangeF (.t 118) [119]
 (.ops [
oP 22 (.alloc [.int .i64 0, .int .i64 0]),
oT 22 119 2])
 (.block 7
 (.seq
 (.ops [
oL 120 18,
oD 121 22 2,
oP 122 (.build [.int .i64 0, .int .i64 0, .int .i64 0, .slice none 0 0] [(0, 1, .t 120), (1, 2, .t 121)]),
oP 23 (.alloc [.int .i64 0, .int .i64 0, .int .i64 0, .slice none 0 0]),
oT 23 122 4])
 (.seq
 (.seq
 (.ops [
oL 123 13,
oP 124 (.len (.t 123)),
oP 125 (.move (oK 0))])
 (.block 8
 (.loop
 (.seq
 (.ops [
oB 126 .lss 125 124])
 (.seq
 (.cond (.t 126)
 .skip
 (.exit 8))
 (.seq
 (.block 9
 (.seq
 (.ops [
oI 127 123 125 23,
oD 128 127 23,
oP 25 (.alloc [.int .i64 0, .int .i64 0, .int .i64 0, .int .i64 0, .int .i64 0, .int .i64 0, .int .i64 0, .int .i64 0, .int .i64 0, .int .i64 0, .int .i64 0, .int .i64 0, .int .i64 0, .int .i64 0, .int .i64 0, .int .i64 0, .int .i64 0, .int .i64 0, .int .i64 0, .int .i64 0, .int .i64 0, .int .i64 0, .int .i64 0]),
oT 25 128 23])
 (.ops [
oF 129 23 3,
oL 130 129,
oD 131 25 23,
oL 132 20,
oF 133 25 6,
oF 134 133 0,
oL 135 134,
oI 136 132 135 8,
oD 137 136 8,
oF 138 22 0,
oL 139 138,
oA 140 459 [.t 131, .t 137, .t 139] true,
oP 141 (.slit 1 1 [.bool false] [(0, .t 140)]),
oP 142 (.append (.t 130) (.t 141) 1 1),
oF 143 23 3,
oT 143 142 1])))
 (.ops [
oC 144 .add 125 1,
oM 125 144])))))))
 (.ops [
oL 145 12,
oL 146 12,
oP 147 (.nilCheck (.t 146)),
oF 148 147 5,
oL 149 148,
oD 150 23 4,
oP 151 (.slit 1 4 [.int .i64 0, .int .i64 0, .int .i64 0, .slice none 0 0] [(0, .t 150)]),
⟨some 152, none, [(.t 149, 0, .t 12, 1)], .append (.t 149) (.t 151) 4 48⟩,
oP 153 (.nilCheck (.t 145)),
oF 154 153 5,
oT 154 152 1]))))))))))
 (.ops [
oC 155 .add 104 1,
oM 104 155])))))))
 (.seq
 (.seq
 (.ops [
oF 156 3 1,
oL 157 156])
 (.cond (.t 157)
 (.seq
 (.ops [
oP 158 (.build [.int .i64 0, .int .i64 0, .int .i64 0, .slice none 0 0] [(0, 1, .k (.int .i64 (-1)))]),
oP 26 (.alloc [.int .i64 0, .int .i64 0, .int .i64 0, .slice none 0 0]),
oT 26 158 4])
 (.seq
 (.seq
 (.ops [
oL 159 13,
oP 160 (.len (.t 159)),
oP 161 (.move (oK 0))])
 (.block 10
 (.loop
 (.seq
 (.ops [
oB 162 .lss 161 160])
 (.seq
 (.cond (.t 162)
 .skip
 (.exit 10))
 (.seq
 (.block 11
 (.seq
 (.ops [
oI 163 159 161 23,
oD 164 163 23,
oP 28 (.alloc [.int .i64 0, .int .i64 0, .int .i64 0, .int .i64 0, .int .i64 0, .int .i64 0, .int .i64 0, .int .i64 0, .int .i64 0, .int .i64 0, .int .i64 0, .int .i64 0, .int .i64 0, .int .i64 0, .int .i64 0, .int .i64 0, .int .i64 0, .int .i64 0, .int .i64 0, .int .i64 0, .int .i64 0, .int .i64 0, .int .i64 0]),
oT 28 164 23])
 (.ops [
oF 165 26 3,
oL 166 165,
oD 167 28 23,
oA 168 471 [.t 167] true,
oP 169 (.slit 1 1 [.bool false] [(0, .t 168)]),
oP 170 (.append (.t 166) (.t 169) 1 1),
oF 171 26 3,
oT 171 170 1])))
 (.ops [
oC 172 .add 161 1,
oM 161 172])))))))
 (.ops [
oL 173 12,
oL 174 12,
oP 175 (.nilCheck (.t 174)),
oF 176 175 5,
oL 177 176,
oD 178 26 4,
oP 179 (.slit 1 4 [.int .i64 0, .int .i64 0, .int .i64 0, .slice none 0 0] [(0, .t 178)]),
⟨some 180, none, [(.t 177, 0, .t 12, 1)], .append (.t 177) (.t 179) 4 48⟩,
oP 181 (.nilCheck (.t 173)),
oF 182 181 5,
oT 182 180 1])))
 .skip))
 (.seq
 (.ops [
oL 183 12,
oM 4 183,
oP 5 (.move (oK 0))])
 .ret)))))))))))))
def F438 : AFunc :=
 .fn 4 [.tmp 2]
 (.seq
 (.ops [
oP 1 (.box (.t 0)),
oP 2 (.move (.k (.nilFunc)))])
 (.seq
 (.ops [
oP 3 (.makeFunc 472 [] [.t 1]),
oM 2 3])
 .ret))
def F439 : AFunc :=
 .fn 5 [.tmp 2]
 (.seq
 (.ops [
oP 2 (.move (.k (.slice none 0 0)))])
 (.seq
 (.ops [
oM 3 0,
oA 4 474 [.k (.slice none 0 0), .t 3] false,
oM 2 4])
 .ret))
def F440 : AFunc :=
 .fn 9 [.tmp 3]
 (.seq
 (.ops [
oP 2 (.box (.t 0)),
oP 3 (.move (.k (.bool false)))])
 (.seq
 (.ops [
oF 4 2 3,
oL 5 4,
oL 6 1,
oI 7 5 6 1,
oL 8 7,
oM 3 8])
 .ret))
def F441 : AFunc :=
 .fn 10 [.tmp 3]
 (.seq
 (.ops [
oP 2 (.box (.t 0)),
oP 3 (.move (.k (.bool false)))])
 (.seq
 (.ops [
oF 4 2 3,
oL 5 4,
oL 6 1,
oI 7 5 6 1,
oL 8 7,
oP 9 (.not (.t 8)),
oM 3 9])
 .ret))
def F442 : AFunc :=
 .fn 9 [.tmp 4]
 (.seq
 (.ops [
oP 4 (.move (.k (.bool false)))])
 (.seq
 (.ops [
oM 5 0,
oM 6 1,
oA 7 475 [.t 5, .t 6] false,
oC 8 .geq 7 0,
oM 4 8])
 .ret))
def F444 : AFunc :=
 .fn 60 [.tmp 2, .tmp 3]
 (.seq
 (.ops [
oP 1 (.box (.t 0)),
oP 2 (.move (.k (.pointer none))),
oP 3 (.move (oK 0))])
 (.seq
 (.seq
 (.ops [
oF 12 1 0,
oD 13 12 4,
oA 14 37 [.t 13] false,
oM 4 14])
 (.seq
 (.ops [
oM 15 4,
oC 16 .neq 15 0])
 (.cond (.t 16)
 (.seq
 (.ops [
oM 17 4,
oP 2 (.move (.k (.pointer none))),
oM 3 17])
 .ret)
 .skip)))
 (.seq
 (.ops [
oF 19 1 4,
oD 20 19 2,
oA 21 468 [.t 20] false,
oM 18 21,
oX 22 18 0,
oX 23 18 1,
oP 5 (.alloc [.int .i64 0, .int .i64 0]),
oT 5 22 2,
oM 6 23])
 (.seq
 (.seq
 (.ops [
oM 24 6,
oC 25 .neq 24 0])
 (.cond (.t 25)
 (.seq
 (.ops [
oM 26 6,
oP 2 (.move (.k (.pointer none))),
oM 3 26])
 .ret)
 .skip))
 (.seq
 (.seq
 (.ops [
oD 27 5 2,
oA 28 476 [.t 27, .k (.int .i64 (-20000)), .k (.int .i64 20000)] false,
oP 29 (.not (.t 28))])
 (.cond (.t 29)
 (.seq
 (.ops [
oP 2 (.move (.k (.pointer none))),
oP 3 (.move (oK 3))])
 .ret)
 .skip))
 (.seq
 (.seq
 (.ops [
oF 30 1 6,
oD 31 30 6,
oA 32 13 [.t 31] false,
oM 7 32])
 (.seq
 (.ops [
oM 33 7,
oC 34 .neq 33 0])
 (.cond (.t 34)
 (.seq
 (.ops [
oM 35 7,
oP 2 (.move (.k (.pointer none))),
oM 3 35])
 .ret)
 .skip)))
 (.seq
 (.seq
 (.ops [
oF 36 1 12,
oL 37 36,
oP 38 (.len (.t 37)),
oC 39 .gtr 38 32])
 (.cond (.t 39)
 (.seq
 (.ops [
oP 2 (.move (.k (.pointer none))),
oP 3 (.move (oK 9))])
 .ret)
 .skip))
 (.seq
 (.ops [
oD 40 1 13,
oD 41 5 2,
oP 42 (.makeM),
oP 43 (.build [.int .i64 0, .int .i64 0, .int .i64 0, .slice none 0 0, .int .i64 0, .slice none 0 0, .int .i64 0, .int .i64 0, .int .i64 0, .int .i64 0, .int .i64 0, .int .i64 0, .slice none 0 0, .int .i64 0, .int .i64 0, .map none] [(0, 13, .t 40), (13, 2, .t 41), (15, 1, .t 42)]),
oP 44 (.box (.t 43)),
oM 8 44])
 (.seq
 (.seq
 (.ops [
oF 45 1 12,
oL 46 45,
oP 47 (.len (.t 46)),
oP 48 (.move (oK 0))])
 (.block 0
 (.loop
 (.seq
 (.ops [
oB 49 .lss 48 47])
 (.seq
 (.cond (.t 49)
 .skip
 (.exit 0))
 (.seq
 (.block 1
 (.seq
 (.ops [
oI 50 46 48 9,
oD 51 50 9,
oP 10 (.alloc [.int .i64 0, .int .i64 0, .int .i64 0, .int .i64 0, .int .i64 0, .int .i64 0, .int .i64 0, .int .i64 0, .int .i64 0]),
oT 10 51 9])
 (.seq
 (.ops [
oM 52 8,
oD 53 10 9,
oA 54 477 [.t 52, .t 53] false,
oM 11 54])
 (.seq
 (.ops [
oM 55 11,
oC 56 .neq 55 0])
 (.cond (.t 56)
 (.seq
 (.ops [
oM 57 11,
oP 2 (.move (.k (.pointer none))),
oM 3 57])
 .ret)
 .skip)))))
 (.ops [
oC 58 .add 48 1,
oM 48 58])))))))
 (.seq
 (.ops [
oM 59 8,
oM 2 59,
oP 3 (.move (oK 0))])
 .ret))))))))))
def F445 : AFunc :=
 .fn 132 [.cell 4 (some 23), .tmp 5]
 (.seq
 (.ops [
oP 3 (.box (.t 1)),
oP 4 (.alloc [.int .i64 0, .int .i64 0, .int .i64 0, .int .i64 0, .int .i64 0, .int .i64 0, .int .i64 0, .int .i64 0, .int .i64 0, .int .i64 0, .int .i64 0, .int .i64 0, .int .i64 0, .int .i64 0, .int .i64 0, .int .i64 0, .int .i64 0, .int .i64 0, .int .i64 0, .int .i64 0, .int .i64 0, .int .i64 0, .int .i64 0]),
oP 5 (.move (oK 0))])
 (.seq
 (.block 0
 (.seq
 (.ops [
oF 12 3 0,
oL 13 12,
oA 14 458 [.t 13, .k (.int .i64 1), .k (.int .i64 4)] false,
oP 15 (.not (.t 14)),
oM 11 15])
 (.cond (.t 11)
 (.seq
 (.ops [
oP 16 (.build [.int .i64 0, .int .i64 0, .int .i64 0, .int .i64 0, .int .i64 0, .int .i64 0, .int .i64 0, .int .i64 0, .int .i64 0, .int .i64 0, .int .i64 0, .int .i64 0, .int .i64 0, .int .i64 0, .int .i64 0, .int .i64 0, .int .i64 0, .int .i64 0, .int .i64 0, .int .i64 0, .int .i64 0, .int .i64 0, .int .i64 0] []),
oT 4 16 23,
oP 5 (.move (oK 2))])
 .ret)
 (.seq
 (.ops [
oF 18 3 1,
oL 19 18,
oM 20 0,
oP 21 (.nilCheck (.t 20)),
oF 22 21 0,
oF 23 22 12,
oL 24 23,
oP 25 (.len (.t 24)),
oC 26 .sub 25 1,
oA 27 458 [.t 19, .k (.int .i64 0), .t 26] false,
oP 28 (.not (.t 27)),
oM 17 28])
 (.cond (.t 17)
 (.seq
 (.ops [
oP 29 (.build [.int .i64 0, .int .i64 0, .int .i64 0, .int .i64 0, .int .i64 0, .int .i64 0, .int .i64 0, .int .i64 0, .int .i64 0, .int .i64 0, .int .i64 0, .int .i64 0, .int .i64 0, .int .i64 0, .int .i64 0, .int .i64 0, .int .i64 0, .int .i64 0, .int .i64 0, .int .i64 0, .int .i64 0, .int .i64 0, .int .i64 0] []),
oT 4 29 23,
oP 5 (.move (oK 4))])
 .ret)
 (.seq
 (.ops [
oF 31 3 2,
oD 32 31 2,
oA 33 476 [.t 32, .k (.int .i64 (-100000000)), .k (.int .i64 1100000000)] false,
oP 34 (.not (.t 33)),
oM 35 34,
oQ 36 35 false (.fieldAddr (.t 3) 4),
oQ 37 35 false (.load (.t 36) (some 2)),
oQ 38 35 false (.call (.k (.func (.func 476) ⟨[]⟩ ⟨[]⟩)) [.t 37, .k (.int .i64 (-20000)), .k (.int .i64 20000)] false),
oQ 39 35 false (.not (.t 38)),
oP 40 (.pick (.t 35) (.k (.bool true)) (.t 39)),
oM 30 40])
 (.cond (.t 30)
 (.seq
 (.ops [
oP 41 (.build [.int .i64 0, .int .i64 0, .int .i64 0, .int .i64 0, .int .i64 0, .int .i64 0, .int .i64 0, .int .i64 0, .int .i64 0, .int .i64 0, .int .i64 0, .int .i64 0, .int .i64 0, .int .i64 0, .int .i64 0, .int .i64 0, .int .i64 0, .int .i64 0, .int .i64 0, .int .i64 0, .int .i64 0, .int .i64 0, .int .i64 0] []),
oT 4 41 23,
oP 5 (.move (oK 3))])
 .ret)
 .skip)))))))
 (.seq
 (.ops [
oM 42 0,
oP 43 (.nilCheck (.t 42)),
oF 44 43 0,
oF 45 44 12,
oL 46 45,
oF 47 3 1,
oL 48 47,
oI 49 46 48 9,
oD 50 49 9,
oP 6 (.alloc [.int .i64 0, .int .i64 0, .int .i64 0, .int .i64 0, .int .i64 0, .int .i64 0, .int .i64 0, .int .i64 0, .int .i64 0]),
oT 6 50 9])
 (.seq
 (.ops [
oD 51 3 6,
oD 52 6 9,
oP 53 (.build [.int .i64 0, .int .i64 0, .int .i64 0, .int .i64 0, .int .i64 0, .int .i64 0, .int .i64 0, .int .i64 0, .int .i64 0, .int .i64 0, .int .i64 0, .int .i64 0, .int .i64 0, .int .i64 0, .int .i64 0, .int .i64 0, .int .i64 0, .int .i64 0, .int .i64 0, .int .i64 0, .int .i64 0, .int .i64 0, .int .i64 0] [(0, 6, .t 51), (6, 9, .t 52)]),
oP 7 (.alloc [.int .i64 0, .int .i64 0, .int .i64 0, .int .i64 0, .int .i64 0, .int .i64 0, .int .i64 0, .int .i64 0, .int .i64 0, .int .i64 0, .int .i64 0, .int .i64 0, .int .i64 0, .int .i64 0, .int .i64 0, .int .i64 0, .int .i64 0, .int .i64 0, .int .i64 0, .int .i64 0, .int .i64 0, .int .i64 0, .int .i64 0]),
oT 7 53 23])
 (.seq
 (.ops [
oF 54 3 2,
oF 55 54 0,
oL 56 55,
oF 57 6 1,
oF 58 57 0,
oL 59 58,
oB 60 .add 56 59,
oF 61 3 2,
oF 62 61 1,
oL 63 62,
oF 64 6 1,
oF 65 64 1,
oL 66 65,
oB 67 .add 63 66,
oP 68 (.build [.int .i64 0, .int .i64 0] [(0, 1, .t 60), (1, 1, .t 67)]),
oF 69 7 15,
oT 69 68 2])
 (.seq
 (.ops [
oF 70 3 2,
oF 71 70 0,
oL 72 71,
oF 73 6 1,
oF 74 73 1,
oL 75 74,
oB 76 .add 72 75,
oF 77 3 2,
oF 78 77 1,
oL 79 78,
oF 80 6 1,
oF 81 80 0,
oL 82 81,
oB 83 .add 79 82,
oP 84 (.build [.int .i64 0, .int .i64 0] [(0, 1, .t 76), (1, 1, .t 83)]),
oF 85 7 17,
oT 85 84 2])
 (.seq
 (.seq
 (.ops [
oF 86 7 15,
oD 87 86 2,
oA 88 476 [.t 87, .k (.int .i64 0), .k (.int .i64 1000000000)] false,
oP 89 (.not (.t 88))])
 (.cond (.t 89)
 (.seq
 (.ops [
oP 90 (.build [.int .i64 0, .int .i64 0, .int .i64 0, .int .i64 0, .int .i64 0, .int .i64 0, .int .i64 0, .int .i64 0, .int .i64 0, .int .i64 0, .int .i64 0, .int .i64 0, .int .i64 0, .int .i64 0, .int .i64 0, .int .i64 0, .int .i64 0, .int .i64 0, .int .i64 0, .int .i64 0, .int .i64 0, .int .i64 0, .int .i64 0] []),
oT 4 90 23,
oP 5 (.move (oK 3))])
 .ret)
 .skip))
 (.seq
 (.ops [
oD 91 6 9,
oF 92 7 15,
oD 93 92 2,
oA 94 478 [.t 91, .t 93] false,
oP 8 (.alloc [.int .i64 0, .int .i64 0]),
oT 8 94 2])
 (.seq
 (.ops [
oF 95 3 4,
oF 96 95 0,
oL 97 96,
oF 98 6 3,
oF 99 98 0,
oL 100 99,
oB 101 .add 97 100,
oF 102 8 0,
oL 103 102,
oB 104 .add 101 103,
oF 105 3 4,
oF 106 105 1,
oL 107 106,
oF 108 6 3,
oF 109 108 1,
oL 110 109,
oB 111 .add 107 110,
oF 112 8 1,
oL 113 112,
oB 114 .add 111 113,
oP 115 (.build [.int .i64 0, .int .i64 0] [(0, 1, .t 104), (1, 1, .t 114)]),
oF 116 7 19,
oT 116 115 2])
 (.seq
 (.ops [
oM 118 0,
oP 119 (.nilCheck (.t 118)),
oF 120 119 0,
oF 121 120 4,
oD 122 121 2,
oF 123 7 15,
oD 124 123 2,
oA 125 479 [.t 122, .t 124] true,
oM 117 125,
oX 126 117 0,
oX 127 117 1,
oP 9 (.alloc [.int .i64 0, .int .i64 0]),
oT 9 126 2,
oM 10 127])
 (.seq
 (.ops [
oD 128 9 2,
oF 129 7 21,
oT 129 128 2])
 (.seq
 (.ops [
oD 130 7 23,
oM 131 10,
oT 4 130 23,
oM 5 131])
 .ret))))))))))))
end Go.Ab.Gauge
