/- The program's functions in abstract form: made by a program of ours. -/
import GoSem.Dispatch
import GoSem.Machine.Frame
set_option linter.unusedSimpArgs false
set_option linter.unusedVariables false
set_option linter.unusedSectionVars false
namespace Go.Ab
inductive Opd where
  | t (n : Nat)
  | k (v : Value)
inductive AOp where
  | move (x : Opd)
  | pick (c a b : Opd)
  | nilCheck (x : Opd)
  | bin (op : BinOp) (x y : Opd)
  | beq (neg : Bool) (x y : Opd)
  | eqv (neg : Bool) (sh : List Bool) (x y : Opd)
  | eqNil (kind : Nat) (neg : Bool) (x : Opd)
  | neg (x : Opd)
  | not (x : Opd)
  | toInt (k : IntKind) (x : Opd)
  | toF64 (x : Opd)
  | makeFunc (f : Nat) (first captured : List Opd)
  | build (z : List Value) (parts : List (Nat × Nat × Opd))
  | fieldAddr (x : Opd) (off : Nat)
  | field (x : Opd) (off : Nat) (size : Option Nat)
  | idxS (x i : Opd) (esz : Nat)
  | idxA (x i : Opd) (len esz : Nat)
  | index (x i : Opd) (len esz : Nat) (agg : Bool)
  | reslice (x : Opd) (lo hi : Option Opd) (esz : Nat)
  | extract (x : Opd) (i : Nat)
  | len (x : Opd)
  | lenT (x : Opd)
  | min (xs : List Opd)
  | max (xs : List Opd)
  | alloc (z : List Value)
  | box (x : Opd)
  | slit (n esz : Nat) (z : List Value) (parts : List (Nat × Opd))
  | makeS (l c : Opd) (esz bytes : Nat) (z : List Value)
  | load (x : Opd) (size : Option Nat)
  | store (x v : Opd) (size : Nat)
  | append (s x : Opd) (esz bytes : Nat)
  | copy (d s : Opd) (esz : Nat)
  | call (f : Opd) (args : List Opd) (ro : Bool)
  | callC (c f : Opd) (args : List Opd)
  | strOp (op : BinOp) (x y : Opd)
  | strIdx (x i : Opd)
  | toBytes (x : Opd)
  | toStr (x : Opd)
  | makeM
  | lookup (x k : Opd) (kt : Nat) (z : Value) (ok : Bool)
  | mapSet (x k v : Opd) (kt : Nat)
  | lenM (x : Opd)
  | clearM (x : Opd)
  | rangeI (x : Opd)
  | nextI (x : Opd)
  | entryI (x : Opd)
  | strSl (x : Opd) (lo hi : Option Opd)
  | sliceData (x : Opd)
  | appendT (s x : Opd)
  | mkStr (p n : Opd)
  | allocB
  | fail
structure AOper where
  dst : Option Nat
  guard : Option (Nat × Bool)
  apart : List (Opd × Nat × Opd × Nat)
  op : AOp
inductive ACode where
  | skip
  | ops (l : List AOper)
  | seq (a b : ACode)
  | cond (c : Opd) (a b : ACode)
  | block (id : Nat) (c : ACode)
  | loop (c : ACode)
  | exit (id : Nat)
  | ret
  | rangeF (f : Opd) (ps : List Nat) (assign body : ACode)
inductive ARes where
  | tmp (t : Nat)
  | cell (t : Nat) (size : Option Nat)
inductive AFunc where
  | fn (nt : Nat) (res : List ARes) (body : ACode)
  | sqrt
  | lib
def AFunc.ent : AFunc → Bool
  | .sqrt => false
  | _ => true
abbrev oM (d x : Nat) : AOper := ⟨some d, none, [], .move (.t x)⟩
abbrev oP (d : Nat) (x : AOp) : AOper := ⟨some d, none, [], x⟩
abbrev oQ (d g : Nat) (b : Bool) (x : AOp) : AOper := ⟨some d, some (g, b), [], x⟩
abbrev oN (d g : Nat) (b : Bool) (x : Nat) : AOper := ⟨some d, some (g, b), [], .move (.t x)⟩
abbrev oL (d x : Nat) : AOper := ⟨some d, none, [], .load (.t x) none⟩
abbrev oD (d x s : Nat) : AOper := ⟨some d, none, [], .load (.t x) (some s)⟩
abbrev oF (d x o : Nat) : AOper := ⟨some d, none, [], .fieldAddr (.t x) o⟩
abbrev oI (d x i s : Nat) : AOper := ⟨some d, none, [], .idxS (.t x) (.t i) s⟩
abbrev oB (d : Nat) (o : BinOp) (x y : Nat) : AOper := ⟨some d, none, [], .bin o (.t x) (.t y)⟩
abbrev oC (d : Nat) (o : BinOp) (x : Nat) (n : Int) : AOper := ⟨some d, none, [], .bin o (.t x) (.k (.int .i64 n))⟩
abbrev oX (d x i : Nat) : AOper := ⟨some d, none, [], .extract (.t x) i⟩
abbrev oA (d f : Nat) (l : List Opd) (r : Bool) : AOper := ⟨some d, none, [], .call (.k (.func (.func f) ⟨[]⟩ ⟨[]⟩)) l r⟩
abbrev oT (x v s : Nat) : AOper := ⟨none, none, [], .store (.t x) (.t v) s⟩
abbrev oK (n : Int) : Opd := .k (.int .i64 n)
def simple : Value → Bool
  | .bool _ => true | .int _ _ => true | .float _ _ => true | .string _ => true | .pointer none => true
  | .slice none 0 0 => true | .nilFunc => true | .nilIface => true | .map none => true
  | _ => false
def flat (v : Value) : Bool :=
  match v with
  | .agg cs => cs.toList.all simple
  | .tuple cs => cs.toList.all simple
  | v => simple v
def AOp.opds : AOp → List Opd
  | .move x => [x] | .pick c a b => [c, a, b] | .nilCheck x => [x] | .bin _ x y => [x, y] | .beq _ x y => [x, y] | .eqv _ _ x y => [x, y] | .eqNil _ _ x => [x]
  | .neg x => [x] | .not x => [x] | .toInt _ x => [x] | .toF64 x => [x] | .makeFunc _ a b => a ++ b | .build _ ps => ps.map fun p => p.2.2
  | .fieldAddr x _ => [x] | .field x _ _ => [x] | .idxS x i _ => [x, i] | .idxA x i _ _ => [x, i] | .index x i _ _ _ => [x, i]
  | .reslice x lo hi _ => x :: (lo.toList ++ hi.toList) | .extract x _ => [x] | .len x => [x] | .lenT x => [x] | .min l => l | .max l => l
  | .alloc _ => [] | .box x => [x] | .slit _ _ _ ps => ps.map fun p => p.2 | .makeS l c _ _ _ => [l, c] | .load x _ => [x] | .store x v _ => [x, v]
  | .append s x _ _ => [s, x] | .copy d s _ => [d, s] | .call f l _ => f :: l | .callC c f l => c :: f :: l | .strOp _ x y => [x, y] | .strIdx x i => [x, i] | .toBytes x => [x] | .toStr x => [x] | .makeM => [] | .lookup x k _ _ _ => [x, k] | .mapSet x k v _ => [x, k, v] | .lenM x => [x] | .clearM x => [x] | .rangeI x => [x] | .nextI x => [x] | .entryI x => [x] | .strSl x lo hi => x :: (lo.toList ++ hi.toList) | .sliceData x => [x] | .appendT s x => [s, x] | .mkStr p n => [p, n] | .allocB => [] | .fail => []
def AOp.mem : AOp → Nat
  | .load _ _ => 1 | .alloc _ => 2 | .box _ => 2 | .slit _ _ _ _ => 2 | .makeS _ _ _ _ _ => 2 | .toBytes _ => 2 | .makeM => 2 | .allocB => 2 | .store _ _ _ => 3 | .append _ _ _ _ => 4 | .copy _ _ _ => 4
  | .call _ _ ro => if ro then 6 else 5
  | .callC _ _ _ => 7
  | .toStr _ => 6
  | .lookup _ _ _ _ _ => 6 | .lenM _ => 6 | .mapSet _ _ _ _ => 5 | .clearM _ => 5
  | .appendT _ _ => 5 | .mkStr _ _ => 5
  | _ => 0
def tmpsOf (l : List Opd) : List Nat := l.filterMap fun x => match x with | .t n => some n | .k _ => none
def AOper.looks (o : AOper) : List Nat :=
  tmpsOf o.op.opds ++ (match o.guard with | some (d, _) => [d] | none => [])
def befStep (acc : List Nat) (l : List Nat) : Nat := l.foldl (fun s e => s ||| 2 ^ e ||| acc.getD e 0) 0
def befA (aft : List (List Nat)) : List Nat := aft.foldl (fun acc l => acc ++ [befStep acc l]) []
def ordered (bef : List Nat) (i j : Nat) : Bool := (bef.getD j 0).testBit i || (bef.getD i 0).testBit j
def memOf (al : List AOper) (i : Nat) : Nat := (al[i]?.map fun o => o.op.mem).getD 0
def addrA (al : List AOper) (i : Nat) : Option (Nat × Nat) :=
  match al[i]? with
  | some o => match o.op with
    | .load (.t x) n => some (x, n.getD 1)
    | .store (.t x) _ n => some (x, n)
    | _ => none
  | none => none
def stable (al : List AOper) (i x : Nat) : Bool := (List.range al.length).all fun m => decide (m < i) || ((al[m]?).bind (·.dst)) != some x
def Opd.isT (x : Opd) (n : Nat) : Bool :=
  match x with
  | .t m => m == n
  | .k _ => false
def heldApart (al : List AOper) (i j : Nat) : Bool :=
  match addrA al i, addrA al j with
  | some (x, n), some (y, m) => stable al i x && stable al j y && match al[Max.max i j]? with
    | some o => o.apart.any fun p => (p.1.isT x && p.2.1 == n && p.2.2.1.isT y && p.2.2.2 == m) || (p.1.isT y && p.2.1 == m && p.2.2.1.isT x && p.2.2.2 == n)
    | none => false
  | _, _ => false
def AOp.cap : AOp → Option Nat
  | .callC (.t y) _ _ => some y | .append (.t y) _ _ _ => some y | .copy (.t y) _ _ => some y
  | _ => none
def capAt (al : List AOper) (i : Nat) : Option Nat :=
  match al[i]? with
  | some o => o.op.cap
  | none => none
def capOk (al : List AOper) (i : Nat) : Bool :=
  match capAt al i with
  | some y => stable al i y
  | none => false
def heldC (al : List AOper) (i j : Nat) : Bool :=
  match capAt al i, addrA al j with
  | some y, some (x, _) => stable al i y && stable al j x && match al[Max.max i j]? with
    | some o => o.apart.any fun p => p.1.isT y && p.2.2.1.isT x
    | none => false
  | _, _ => false
def pairOk (al : List AOper) (bef : List Nat) (i j : Nat) : Bool :=
  i == j || ordered bef i j ||
    (match memOf al i with
     | 3 => memOf al j == 0 || (memOf al j == 1 && heldApart al i j)
     | 4 => memOf al j == 0 || (capOk al i && memOf al j == 2) || (memOf al j == 1 && heldC al i j)
     | 5 => memOf al j == 0
     | 7 => memOf al j == 0 || (capOk al i && memOf al j == 2) || (memOf al j == 1 && heldC al i j)
     | _ => true)
def dstOk (al : List AOper) (bef : List Nat) (i j : Nat) : Bool :=
  i == j || match al[i]?, al[j]? with
    | some o, some p => match o.dst with
      | some d => p.dst != some d && (!p.looks.contains d || ordered bef i j)
      | none => true
    | _, _ => true
def loadT (o : AOper) : Bool :=
  match o.op with
  | .load (.k _) _ => false
  | _ => true
def drawOk (al : List AOper) (aft : List (List Nat)) : Bool :=
  let bef := befA aft
  al.all loadT && (List.range al.length).all fun j => (aft.getD j []).all (fun e => decide (e < j)) &&
    (List.range al.length).all fun i => pairOk al bef i j && dstOk al bef i j
noncomputable section
def tget (T : List Value) : Nat → Value :=
  List.rec (motive := fun _ => Nat → Value) (fun _ => undef) (fun v _ ih => fun n => Nat.casesOn (motive := fun _ => Value) n v ih) T
def tset : List Value → Nat → Value → List Value := fun T d v =>
  Nat.rec (motive := fun _ => List Value → List Value) (fun T => List.casesOn (motive := fun _ => List Value) T [v] (fun _ l => v :: l))
    (fun _ ih => fun T => List.casesOn (motive := fun _ => List Value) T (undef :: ih []) (fun x l => x :: ih l)) d T
@[simp] theorem tget_nil (n : Nat) : tget [] n = undef := rfl
@[simp] theorem tget_zero (v : Value) (l : List Value) : tget (v :: l) 0 = v := rfl
@[simp] theorem tget_succ (v : Value) (l : List Value) (n : Nat) : tget (v :: l) (n + 1) = tget l n := rfl
@[simp] theorem tget_tset (T : List Value) (d : Nat) (v : Value) (t : Nat) : tget (tset T d v) t = if t = d then v else tget T t := by
  induction d generalizing T t with
  | zero =>
    have e : ∀ x l, tset (x :: l) 0 v = v :: l := fun _ _ => rfl
    have e' : tset [] 0 v = [v] := rfl
    cases T <;> cases t <;> simp [e, e']
  | succ d ih =>
    have e : ∀ x l, tset (x :: l) (d + 1) v = x :: tset l d v := fun _ _ => rfl
    have e' : tset [] (d + 1) v = undef :: tset [] d v := rfl
    cases T with
    | nil => rw [e']; cases t with
      | zero => simp
      | succ t => simp [ih]
    | cons x T => rw [e]; cases t with
      | zero => simp
      | succ t => simp [ih]
structure ALoop where
  state : LoopState
  pending : Option (Option Nat)
  tmps : List Value
  params : List Nat
  assign : ACode
  body : ACode
inductive ABlk where
  | cells (cs : List Value) (ro : Bool)
  | loop (r : ALoop)
  | marks
  | map (l : List (Value × Value)) (lk : Option (Array MapEntry × Nat))
  | iter (gh : Option Nat × Nat × Array Nat × Nat)
  | bytes (l : List UInt8)
  | bld (p v : Value)
structure Hp where
  n : Nat
  l : List (Option ABlk)
def Hp.get (A : Hp) (x : Nat) : Option ABlk := if x < A.n then (A.l[A.n - 1 - x]?).join else none
def Hp.push (A : Hp) (b : ABlk) : Hp := ⟨A.n + 1, some b :: A.l⟩
def Hp.set (A : Hp) (x : Nat) (b : Option ABlk) : Hp := ⟨A.n, A.l.set (A.n - 1 - x) b⟩
@[simp] theorem Hp.n_push (A : Hp) (b : ABlk) : (A.push b).n = A.n + 1 := rfl
@[simp] theorem Hp.n_set (A : Hp) (x : Nat) (b : Option ABlk) : (A.set x b).n = A.n := rfl
theorem Hp.lt_of_get {A : Hp} {x : Nat} {b : ABlk} (h : A.get x = some b) : x < A.n := by
  unfold Hp.get at h; split at h
  · assumption
  · cases h
theorem Hp.get_push (A : Hp) (b : ABlk) (x : Nat) : (A.push b).get x = if x = A.n then some b else A.get x := by
  unfold Hp.get Hp.push
  by_cases h : x = A.n
  · subst h; simp
  · by_cases h' : x < A.n
    · have e : A.n + 1 - 1 - x = (A.n - 1 - x) + 1 := by omega
      simp [h, h', Nat.lt_succ_of_lt h', show A.n - x = (A.n - 1 - x) + 1 by omega]
    · simp [h, h', show ¬ x < A.n + 1 by omega]
theorem Hp.get_set {A : Hp} {x : Nat} {b0 : ABlk} (h : A.get x = some b0) (b : Option ABlk) (y : Nat) : (A.set x b).get y = if y = x then b else A.get y := by
  have hx := Hp.lt_of_get h
  have hl : A.n - 1 - x < A.l.length := by
    unfold Hp.get at h
    rw [if_pos hx] at h
    rcases Nat.lt_or_ge (A.n - 1 - x) A.l.length with h' | h'
    · exact h'
    · rw [List.getElem?_eq_none h'] at h; cases h
  unfold Hp.get Hp.set
  by_cases hy : y = x
  · subst hy; simp [hx, hl]
  · simp only [if_neg hy]
    by_cases hy' : y < A.n
    · simp only [hy', if_true]
      rw [List.getElem?_set_ne (by omega)]
    · simp [hy']
def ev (T : List Value) : Opd → Value
  | .t n => tget T n
  | .k v => v
def isCell : Value → Bool
  | .agg _ => false | .tuple _ => false
  | _ => true
def wr (k : IntKind) (n : Int) : Int :=
  match k, n with
  | .i64, .ofNat m => if Nat.blt m 9223372036854775808 then .ofNat m else k.wrap n
  | .i64, .negSucc m => if Nat.blt m 9223372036854775808 then .negSucc m else k.wrap n
  | _, _ => k.wrap n
theorem wrap_i64 (n : Int) (h0 : -9223372036854775808 ≤ n) (h1 : n < 9223372036854775808) : IntKind.i64.wrap n = n := by
  have e1 : (2 ^ IntKind.i64.bits : Int) = 18446744073709551616 := by decide
  have e2 : (2 ^ (IntKind.i64.bits - 1) : Int) = 9223372036854775808 := by decide
  have e3 : IntKind.i64.signed = true := rfl
  unfold IntKind.wrap
  simp only [e1, e2, e3, Bool.true_and, ge_iff_le, decide_eq_true_eq]
  split <;> omega
theorem wr_eq (k : IntKind) (n : Int) : wr k n = k.wrap n := by
  unfold wr
  split
  · rename_i m
    split
    · rename_i h
      rw [Nat.blt_eq] at h
      exact (wrap_i64 _ (by simp) (by simp; omega)).symm
    · rfl
  · rename_i m
    split
    · rename_i h
      rw [Nat.blt_eq] at h
      exact (wrap_i64 _ (by omega) (by omega)).symm
    · rfl
  · rfl
def kEq (k k' : IntKind) : Bool :=
  match k, k' with
  | .i64, .i64 => true
  | k, k' => decide (k = k')
theorem kEq_iff {k k' : IntKind} : kEq k k' = true ↔ k = k' := by
  unfold kEq; split <;> simp
def intA (op : BinOp) (k : IntKind) (a b : Int) : Option Value :=
  match op with
  | .add => some (.int k (wr k (a + b)))
  | .sub => some (.int k (wr k (a - b)))
  | .mul => some (.int k (wr k (a * b)))
  | .quo => if b = 0 then none else some (.int k (wr k (a.tdiv b)))
  | .rem => if b = 0 then none else some (.int k (a.tmod b))
  | .eql => some (.bool (a == b))
  | .neq => some (.bool (a != b))
  | .lss => some (.bool (a < b))
  | .leq => some (.bool (a ≤ b))
  | .gtr => some (.bool (a > b))
  | .geq => some (.bool (a ≥ b))
  | .and => some (.int k (k.wrap (BitVec.ofInt k.bits a &&& BitVec.ofInt k.bits b).toNat))
  | .or => some (.int k (k.wrap (BitVec.ofInt k.bits a ||| BitVec.ofInt k.bits b).toNat))
  | .xor => some (.int k (k.wrap (BitVec.ofInt k.bits a ^^^ BitVec.ofInt k.bits b).toNat))
  | .andNot => some (.int k (k.wrap (BitVec.ofInt k.bits a &&& ~~~ BitVec.ofInt k.bits b).toNat))
  | _ => none
def shA (left : Bool) (k : IntKind) (a b : Int) : Option Value :=
  if b < 0 then none else
  some (.int k (if left then k.wrap (a * 2 ^ (Min.min b.toNat k.bits)) else a.fdiv (2 ^ (Min.min b.toNat k.bits))))
def binA (op : BinOp) (x y : Value) : Option Value :=
  match x, y with
  | .int k a, .int k' b =>
    match op with
    | .shl => shA true k a b
    | .shr => shA false k a b
    | op => if kEq k k' then intA op k a b else none
  | _, _ => none
def cellEq (b : Bool) (x y : Value) : Option Bool :=
  match b, x, y with
  | false, .int k a, .int k' b => if kEq k k' then some (a == b) else none
  | true, .bool a, .bool b => some (a == b)
  | _, _, _ => none
def eqCells : List Bool → List Value → List Value → Option Bool
  | [], [], [] => some true
  | b :: sh, x :: xs, y :: ys => match cellEq b x y, eqCells sh xs ys with
    | some e, some r => some (e && r)
    | _, _ => none
  | _, _, _ => none
def errV : Value := .iface 0 (.tuple ⟨[]⟩)
def isNil (kind : Nat) (v : Value) : Option Bool :=
  match v with
  | .pointer none => if kind = 0 then some true else none
  | .pointer (some _) => if kind = 0 then some false else none
  | .slice none 0 0 => if kind = 1 then some true else none
  | .slice (some _) _ _ => if kind = 1 then some false else none
  | .nilFunc => if kind = 2 then some true else none
  | .func _ _ _ => if kind = 2 then some false else none
  | .map none => if kind = 3 then some true else none
  | .map (some _) => if kind = 3 then some false else none
  | .nilIface => if kind = 4 then some true else none
  | .iface _ _ => if kind = 4 then some false else none
  | _ => none
def foldInt (pick : Int → Int → Bool) : Value → List Value → Option Value
  | v, [] => some v
  | .int k x, .int _ y :: rest => foldInt pick (.int k (if pick y x then y else x)) rest
  | _, _ => none
def setRange (cs : List Value) (o : Nat) (vs : List Value) : List Value := cs.take o ++ vs ++ cs.drop (o + vs.length)
def fillA (cells : List Value) : List (Nat × Nat × Value) → Option (List Value)
  | [] => some cells
  | (off, size, v) :: rest => if v.cells.toList.length = size ∧ off + size ≤ cells.length then fillA (setRange cells off v.cells.toList) rest else none
def partA (cs : List Value) (off : Nat) : Option Nat → Option Value
  | none => cs[off]?
  | some s => if off + s ≤ cs.length then some (.agg ((cs.drop off).take s).toArray) else none
def loadA (A : Hp) (addr : Value) (size : Option Nat) : Option Value :=
  match addr with
  | .pointer (some ⟨x, o, none⟩) =>
    match A.get x with
    | some (.cells cs _) => partA cs o size
    | _ => none
  | _ => none
def writeA (g : Nat) (A : Hp) (x o : Nat) (vs : List Value) : Option Hp :=
  if g ≤ x then
    match A.get x with
    | some (.cells cs false) => if o + vs.length ≤ cs.length ∧ vs.all isCell = true then some (A.set x (some (.cells (setRange cs o vs) false))) else none
    | _ => none
  else none
def storeA (g : Nat) (A : Hp) (addr v : Value) (size : Nat) : Option Hp :=
  match addr with
  | .pointer (some ⟨x, o, none⟩) => if v.cells.toList.length = size then writeA g A x o v.cells.toList else none
  | _ => none
def zeros (n : Nat) (z : List Value) : List Value := (List.range (n * z.length)).map fun i => z.getD (i % z.length) undef
def cellsAt (A : Hp) (k : Nat) : Value → Option (List Value)
  | .slice (some ⟨x, o, some _⟩) _ _ => match A.get x with
    | some (.cells cs _) => if o + k ≤ cs.length then some ((cs.drop o).take k) else none
    | _ => none
  | .slice none 0 0 => if k = 0 then some [] else none
  | _ => none
def room : Nat := 70368744177664
def appendA (g : Nat) (A : Hp) (esz bytes : Nat) (s x : Value) : Option (Value × Hp) :=
  match x with
  | .slice xb n xc =>
    match cellsAt A (n * esz) (.slice xb n xc) with
    | some new =>
      if new.all isCell = true ∧ 0 < esz then
        match s with
        | .slice none 0 0 => if n = 0 then some (.slice none 0 0, A) else if n * bytes ≤ room ∧ n ≤ room then
            some (.slice (some ⟨A.n, 0, some esz⟩) n n, A.push (.cells new false)) else none
        | .slice (some ⟨b, off, some es⟩) m c =>
          if n = 0 then some (.slice (some ⟨b, off, some es⟩) m c, A) else
          match A.get b with
          | some (.cells cs false) =>
            if g ≤ b ∧ (m + n) * bytes ≤ room ∧ m + n ≤ room ∧ es = esz then
              if off + m * esz = cs.length then
                some (.slice (some ⟨A.n, 0, some esz⟩) (m + n) (m + n), (A.set b none).push (.cells (cs.drop off ++ new) false))
              else if m + n ≤ c then
                (writeA g A b (off + m * esz) new).map fun A' => (.slice (some ⟨b, off, some es⟩) (m + n) c, A')
              else none
            else none
          | _ => none
        | _ => none
      else none
    | none => none
  | _ => none
def copyA (g : Nat) (A : Hp) (esz : Nat) (d s : Value) : Option (Value × Hp) :=
  match d, s with
  | .slice base m _, .slice sb n sc =>
    match cellsAt A (Min.min n m * esz) (.slice sb n sc) with
    | some new => match base with
      | some ⟨x, o, some _⟩ => (writeA g A x o new).map fun A' => (goInt (Min.min n m : Nat), A')
      | some _ => none
      | none => some (goInt (Min.min n m : Nat), A)
    | none => none
  | _, _ => none
inductive Ex where
  | normal
  | exit (id : Nat)
  | ret
structure St where
  T : List Value
  D : List Nat
  A : Hp
abbrev Spec := Nat → List Value → Hp → Option (Value × Hp)
abbrev CallFn := Nat → Value → List Value → Hp → Option (Value × Hp)
abbrev OpFn := CallFn → Nat → List Value → Hp → Option (Value × Hp)
def pureV (r : Option Value) (A : Hp) : Option (Value × Hp) := r.map fun v => (v, A)
def pickA (c a b : Value) : Option Value :=
  match c with
  | .bool t => some (if t then a else b)
  | _ => none
def nilCheckA (x : Value) : Option Value :=
  match x with
  | .pointer (some a) => some (.pointer (some a))
  | .func (.func f) a b => some (.func (.func f) a b)
  | .func (.yield f) a b => some (.func (.yield f) a b)
  | _ => none
def beqA (neg : Bool) (x y : Value) : Option Value :=
  match x, y with
  | .bool a, .bool b => some (.bool (if neg then !(a == b) else a == b))
  | _, _ => none
def eqvA (neg : Bool) (sh : List Bool) (x y : Value) : Option Value :=
  match x, y with
  | .agg a, .agg b => (eqCells sh a.toList b.toList).map fun r => .bool (if neg then !r else r)
  | _, _ => none
def eqNilA (kind : Nat) (neg : Bool) (x : Value) : Option Value := (isNil kind x).map fun r => .bool (if neg then !r else r)
def negA (x : Value) : Option Value :=
  match x with
  | .int k n => some (.int k (wr k (0 - n)))
  | _ => none
def notA (x : Value) : Option Value :=
  match x with
  | .bool b => some (.bool (!b))
  | _ => none
def toIntA (k : IntKind) (x : Value) : Option Value :=
  match x with
  | .int _ n => some (.int k (wr k n))
  | .float s b => match (s.decode b).toInt .zero with
    | some n => if k.min ≤ n ∧ n ≤ k.max then some (.int k n) else none
    | none => none
  | _ => none
def toF64A (x : Value) : Option Value :=
  match x with
  | .int _ n => some (.float .f64 (FloatKind.f64.nearest n))
  | _ => none
def fieldAddrA (off : Nat) (x : Value) : Option Value :=
  match x with
  | .pointer (some ⟨b, o, none⟩) => some (.pointer (some ⟨b, o + off, none⟩))
  | _ => none
def fieldA (off : Nat) (size : Option Nat) (x : Value) : Option Value :=
  match x with
  | .agg cs => partA cs.toList off size
  | _ => none
def idxSA (esz : Nat) (x i : Value) : Option Value :=
  match x, i with
  | .slice (some ⟨b, o, some _⟩) n _, .int _ i => if 0 ≤ i ∧ i < n then some (.pointer (some ⟨b, o + i.toNat * esz, none⟩)) else none
  | _, _ => none
def idxAA (len esz : Nat) (x i : Value) : Option Value :=
  match x, i with
  | .pointer (some ⟨b, o, none⟩), .int _ i => if 0 ≤ i ∧ i < len then some (.pointer (some ⟨b, o + i.toNat * esz, none⟩)) else none
  | _, _ => none
def indexA (len esz : Nat) (agg : Bool) (x i : Value) : Option Value :=
  match x, i with
  | .agg cs, .int _ i => if 0 ≤ i ∧ i < len then partA cs.toList (i.toNat * esz) (if agg then some esz else none) else none
  | _, _ => none
def intOfA (v : Value) : Option Int :=
  match v with
  | .int _ i => some i
  | _ => none
def boundA (T : List Value) (d : Nat) : Option Opd → Option Int
  | none => some d
  | some x => intOfA (ev T x)
def resliceA (esz : Nat) (x : Value) (lo : Option Int) (hi : Nat → Option Int) : Option Value :=
  match x with
  | .slice (some ⟨b, o, some s⟩) n c => match lo, hi n with
    | some l, some h => if s = esz ∧ 0 ≤ l ∧ l ≤ h ∧ h ≤ Max.max n c then some (.slice (some ⟨b, o + l.toNat * esz, some s⟩) (h - l).toNat (Max.max n c - l.toNat)) else none
    | _, _ => none
  | .slice none 0 0 => match lo, hi 0 with
    | some l, some h => if l = 0 ∧ h = 0 then some (.slice none 0 0) else none
    | _, _ => none
  | _ => none
def extractA (i : Nat) (x : Value) : Option Value :=
  match x with
  | .tuple vs => vs.toList[i]?
  | _ => none
def lenV (x : Value) : Option Value :=
  match x with
  | .slice _ n _ => some (goInt n)
  | _ => none
def lenTV (x : Value) : Option Value :=
  match x with
  | .string s => some (goInt s.size)
  | _ => none
def minA (l : List Value) : Option Value :=
  match l with
  | x :: rest => foldInt (fun y x => y < x) x rest
  | [] => none
def maxA (l : List Value) : Option Value :=
  match l with
  | x :: rest => foldInt (fun y x => y > x) x rest
  | [] => none
def allocA (cs : List Value) (A : Hp) : Option (Value × Hp) := some (.pointer (some ⟨A.n, 0, none⟩), A.push (.cells cs false))
def slitA (n esz : Nat) (cs : Option (List Value)) (A : Hp) : Option (Value × Hp) :=
  match cs with
  | some cs => some (.slice (some ⟨A.n, 0, some esz⟩) n n, A.push (.cells cs false))
  | none => none
def makeSA (esz bytes : Nat) (z : List Value) (l c : Value) (A : Hp) : Option (Value × Hp) :=
  match l, c with
  | .int .i64 n, .int .i64 m => if 0 ≤ n ∧ n ≤ m ∧ m.toNat * bytes ≤ room ∧ m ≤ room then
      some (.slice (some ⟨A.n, 0, some esz⟩) n.toNat m.toNat, A.push (.cells (zeros m.toNat z) false)) else none
  | _, _ => none
def lessB : List UInt8 → List UInt8 → Bool
  | _, [] => false
  | [], _ :: _ => true
  | a :: x, b :: y => a < b || (a == b && lessB x y)
def strEq (x y : ByteArray) : Bool := x.data.toList == y.data.toList
def strLt (x y : ByteArray) : Bool := lessB x.data.toList y.data.toList
def strA (op : BinOp) (x y : ByteArray) : Option Value :=
  match op with
  | .add => if ((x.size + y.size : Nat) : Int) > 9223372036854775807 then none else some (.string (x ++ y))
  | .eql => some (.bool (strEq x y))
  | .neq => some (.bool (!strEq x y))
  | .lss => some (.bool (strLt x y))
  | .leq => some (.bool (strLt x y || strEq x y))
  | .gtr => some (.bool (!(strLt x y || strEq x y)))
  | .geq => some (.bool (!strLt x y))
  | _ => none
def strOpA (op : BinOp) (x y : Value) : Option Value :=
  match x, y with
  | .string a, .string b => strA op a b
  | _, _ => none
def strIdxA (x i : Value) : Option Value :=
  match x, i with
  | .string s, .int _ i => if 0 ≤ i then (s.data.toList[i.toNat]?).map fun b => .int .u8 b.toNat else none
  | _, _ => none
def bytesOf (s : ByteArray) : List Value := s.data.toList.map fun b => .int .u8 b.toNat
def toBytesA (x : Value) (A : Hp) : Option (Value × Hp) :=
  match x with
  | .string s => some (.slice (some ⟨A.n, 0, some 1⟩) s.size s.size, A.push (.cells (bytesOf s) true))
  | _ => none
def u8sOf : List Value → Option (List UInt8)
  | [] => some []
  | .int .u8 n :: l => if 0 ≤ n ∧ n < 256 then (u8sOf l).map fun r => UInt8.ofNat n.toNat :: r else none
  | _ => none
def toStrA (x : Value) (A : Hp) : Option Value :=
  match x with
  | .slice none 0 0 => some (.string ⟨#[]⟩)
  | .slice (some ⟨b, o, some 1⟩) n c => match cellsAt A n (.slice (some ⟨b, o, some 1⟩) n c) with
    | some vs => (u8sOf vs).map fun l => .string ⟨l.toArray⟩
    | none => none
  | _ => none
def strSlA (x : Value) (lo : Option Int) (hi : Nat → Option Int) : Option Value :=
  match x with
  | .string s => match lo, hi s.size with
    | some l, some h => if 0 ≤ l ∧ l ≤ h ∧ h ≤ s.size then some (.string ⟨⟨(s.data.toList.drop l.toNat).take (h - l).toNat⟩⟩) else none
    | _, _ => none
  | _ => none
def sliceDataA (x : Value) : Option Value :=
  match x with
  | .slice none 0 0 => some (.pointer none)
  | .slice (some ⟨b, o, some _⟩) n _ => if 0 < n then some (.pointer (some ⟨b, o, none⟩)) else none
  | _ => none
def appendTA (g : Nat) (A : Hp) (s x : Value) : Option (Value × Hp) :=
  match x with
  | .string u => match s with
    | .slice none 0 0 => if u.size = 0 then some (.slice none 0 0, A) else if u.size ≤ room then
        some (.slice (some ⟨A.n, 0, some 1⟩) u.size u.size, A.push (.bytes u.data.toList)) else none
    | .slice (some ⟨b, 0, some 1⟩) m c => match A.get b with
      | some (.bytes l) => if g ≤ b ∧ m + u.size ≤ room ∧ l.length = m then
          if u.size = 0 then some (.slice (some ⟨b, 0, some 1⟩) m c, A) else
          some (.slice (some ⟨A.n, 0, some 1⟩) (m + u.size) (m + u.size), (A.set b none).push (.bytes (l ++ u.data.toList))) else none
      | _ => none
    | _ => none
  | _ => none
def mkStrA (g : Nat) (A : Hp) (p n : Value) : Option (Value × Hp) :=
  match p, n with
  | .pointer none, .int .i64 0 => some (.string ⟨⟨[]⟩⟩, A)
  | .pointer (some ⟨b, 0, none⟩), .int .i64 n => match A.get b with
    | some (.bytes l) => if g ≤ b ∧ n = l.length ∧ 0 < n ∧ n ≤ room then some (.string ⟨⟨l⟩⟩, A.set b none) else none
    | _ => none
  | _, _ => none
def keyFits (kt : Nat) : Value → Bool
  | .int _ _ => kt == 0
  | .string _ => kt == 1
  | .bool _ => kt == 2
  | _ => false
def keyEq : Value → Value → Option Bool
  | .int a n, .int b m => if kEq a b then some (n == m) else none
  | .string a, .string b => some (strEq a b)
  | .bool a, .bool b => some (a == b)
  | _, _ => none
def findM (k : Value) : List (Value × Value) → Option (Option Value)
  | [] => some none
  | (k', v) :: l => match keyEq k k' with
    | some true => some (some v)
    | some false => findM k l
    | none => none
def setM (k v : Value) : List (Value × Value) → Option (List (Value × Value))
  | [] => some [(k, v)]
  | (k', v') :: l => match keyEq k k' with
    | some true => some ((k, v) :: l)
    | some false => (setM k v l).map fun r => (k', v') :: r
    | none => none
def mapOf (A : Hp) : Value → Option (List (Value × Value))
  | .map none => some []
  | .map (some x) => match A.get x with
    | some (.map l _) => some l
    | _ => none
  | _ => none
def lookupA (A : Hp) (kt : Nat) (z : Value) (ok : Bool) (x k : Value) : Option Value :=
  match mapOf A x with
  | some l => if keyFits kt k = true then (findM k l).map fun r => if ok then .tuple ⟨[r.getD z, .bool r.isSome]⟩ else r.getD z else none
  | none => none
def lenMA (A : Hp) (x : Value) : Option Value := (mapOf A x).map fun l => goInt l.length
def mapSetA (g : Nat) (A : Hp) (kt : Nat) (x k v : Value) : Option Hp :=
  match x with
  | .map (some r) => match A.get r with
    | some (.map l none) => if g ≤ r ∧ keyFits kt k = true then (setM k v l).map fun l' => A.set r (some (.map l' none)) else none
    | _ => none
  | _ => none
def clearMA (g : Nat) (A : Hp) (x : Value) : Option Hp :=
  match x with
  | .map none => some A
  | .map (some r) => match A.get r with
    | some (.map _ none) => if g ≤ r then some (A.set r (some (.map [] none))) else none
    | _ => none
  | _ => none
def capsOf : Value → List Nat
  | .func (.func _) a b => (a.toList ++ b.toList).filterMap fun v => match v with
    | .pointer (some ⟨x, _, _⟩) => some x
    | _ => none
  | .slice (some ⟨x, _, _⟩) _ _ => [x]
  | _ => []
def OnlyC (A : Hp) (f : Value) (A' : Hp) : Prop := ∀ x, x < A.n → x ∉ capsOf f → A'.get x = A.get x
open Classical in
def stillBut (A : Hp) (f : Value) : Option (Value × Hp) → Option (Value × Hp)
  | some (v, A') => if OnlyC A f A' then some (v, A') else none
  | none => none
def storeV (r : Option Hp) : Option (Value × Hp) := r.map fun A' => (undef, A')
def opA : AOp → OpFn
  | .move x => fun _ _ T A => some (ev T x, A)
  | .pick c a b => fun _ _ T A => pureV (pickA (ev T c) (ev T a) (ev T b)) A
  | .nilCheck x => fun _ _ T A => pureV (nilCheckA (ev T x)) A
  | .bin op x y => fun _ _ T A => pureV (binA op (ev T x) (ev T y)) A
  | .beq neg x y => fun _ _ T A => pureV (beqA neg (ev T x) (ev T y)) A
  | .eqv neg sh x y => fun _ _ T A => pureV (eqvA neg sh (ev T x) (ev T y)) A
  | .eqNil kind neg x => fun _ _ T A => pureV (eqNilA kind neg (ev T x)) A
  | .neg x => fun _ _ T A => pureV (negA (ev T x)) A
  | .not x => fun _ _ T A => pureV (notA (ev T x)) A
  | .toInt k x => fun _ _ T A => pureV (toIntA k (ev T x)) A
  | .toF64 x => fun _ _ T A => pureV (toF64A (ev T x)) A
  | .makeFunc f first captured => fun _ _ T A => some (.func (.func f) (first.map (ev T)).toArray (captured.map (ev T)).toArray, A)
  | .build z parts => fun _ _ T A => pureV ((fillA z (parts.map fun p => (p.1, p.2.1, ev T p.2.2))).map fun cs => .agg cs.toArray) A
  | .fieldAddr x off => fun _ _ T A => pureV (fieldAddrA off (ev T x)) A
  | .field x off size => fun _ _ T A => pureV (fieldA off size (ev T x)) A
  | .idxS x i esz => fun _ _ T A => pureV (idxSA esz (ev T x) (ev T i)) A
  | .idxA x i len esz => fun _ _ T A => pureV (idxAA len esz (ev T x) (ev T i)) A
  | .index x i len esz agg => fun _ _ T A => pureV (indexA len esz agg (ev T x) (ev T i)) A
  | .reslice x lo hi esz => fun _ _ T A => pureV (resliceA esz (ev T x) (boundA T 0 lo) (fun n => boundA T n hi)) A
  | .extract x i => fun _ _ T A => pureV (extractA i (ev T x)) A
  | .len x => fun _ _ T A => pureV (lenV (ev T x)) A
  | .lenT x => fun _ _ T A => pureV (lenTV (ev T x)) A
  | .min xs => fun _ _ T A => pureV (minA (xs.map (ev T))) A
  | .max xs => fun _ _ T A => pureV (maxA (xs.map (ev T))) A
  | .alloc z => fun _ _ _ A => allocA z A
  | .box x => fun _ _ T A => allocA (ev T x).cells.toList A
  | .slit n esz z parts => fun _ _ T A => slitA n esz (fillA (zeros n z) (parts.map fun p => (p.1 * esz, esz, ev T p.2))) A
  | .makeS l c esz bytes z => fun _ _ T A => makeSA esz bytes z (ev T l) (ev T c) A
  | .load x size => fun _ _ T A => pureV (loadA A (ev T x) size) A
  | .store x v size => fun _ g T A => storeV (storeA g A (ev T x) (ev T v) size)
  | .append s x esz bytes => fun _ g T A => appendA g A esz bytes (ev T s) (ev T x)
  | .copy d s esz => fun _ g T A => copyA g A esz (ev T d) (ev T s)
  | .call f args ro => fun cv g T A => cv (if ro then A.n else g) (ev T f) (args.map (ev T)) A
  | .callC c f args => fun cv g T A => stillBut A (ev T c) (cv g (ev T f) (args.map (ev T)) A)
  | .strOp op x y => fun _ _ T A => pureV (strOpA op (ev T x) (ev T y)) A
  | .strIdx x i => fun _ _ T A => pureV (strIdxA (ev T x) (ev T i)) A
  | .toBytes x => fun _ _ T A => toBytesA (ev T x) A
  | .toStr x => fun _ _ T A => pureV (toStrA (ev T x) A) A
  | .makeM => fun _ _ _ A => some (.map (some A.n), A.push (.map [] none))
  | .lookup x k kt z ok => fun _ _ T A => pureV (lookupA A kt z ok (ev T x) (ev T k)) A
  | .mapSet x k v kt => fun _ g T A => storeV (mapSetA g A kt (ev T x) (ev T k) (ev T v))
  | .lenM x => fun _ _ T A => pureV (lenMA A (ev T x)) A
  | .clearM x => fun _ g T A => (clearMA g A (ev T x)).map fun A' => (.tuple ⟨[]⟩, A')
  | .rangeI _ => fun _ _ _ _ => none
  | .nextI _ => fun _ _ _ _ => none
  | .entryI _ => fun _ _ _ _ => none
  | .strSl x lo hi => fun _ _ T A => pureV (strSlA (ev T x) (boundA T 0 lo) (fun n => boundA T n hi)) A
  | .sliceData x => fun _ _ T A => pureV (sliceDataA (ev T x)) A
  | .appendT s x => fun _ g T A => appendTA g A (ev T s) (ev T x)
  | .mkStr p n => fun _ g T A => mkStrA g A (ev T p) (ev T n)
  | .allocB => fun _ _ _ A => some (.pointer (some ⟨A.n, 0, none⟩), A.push (.bld (.pointer none) (.slice none 0 0)))
  | .fail => fun _ _ _ _ => none
def putA : Option Nat → List Value → Value → List Value
  | some d => fun T v => tset T d v
  | none => fun T _ => T
def wantedA : Option (Nat × Bool) → List Value → Bool
  | none => fun _ => true
  | some (d, b) => fun T => match tget T d with
    | .bool b' => b' == b
    | _ => false
def apartA (T : List Value) (p : Opd × Nat × Opd × Nat) : Bool :=
  match ev T p.1, ev T p.2.2.1 with
  | .pointer (some ⟨b, o, none⟩), .pointer (some ⟨b', o', none⟩) => decide (b ≠ b' ∨ o + p.2.1 ≤ o' ∨ o' + p.2.2.2 ≤ o)
  | .func f a b, .pointer (some ⟨x, _, _⟩) => !(capsOf (.func f a b)).contains x
  | .slice (some ⟨y, _, _⟩) _ _, .pointer (some ⟨x, _, _⟩) => decide (x ≠ y)
  | _, _ => true
def forceN {α : Sort _} (n : Nat) (k : Nat → α) : α := Nat.casesOn (motive := fun _ => α) n (k 0) (fun m => k (m + 1))
def forceV {α : Sort _} (v : Value) (k : Value → α) : α :=
  match v with
  | .int kd (.ofNat m) => forceN m fun m => k (.int kd (.ofNat m))
  | .int kd (.negSucc m) => forceN m fun m => k (.int kd (.negSucc m))
  | .bool true => k (.bool true)
  | .bool false => k (.bool false)
  | v => k v
@[simp] theorem forceN_eq {α : Sort _} (n : Nat) (k : Nat → α) : forceN n k = k n := by cases n <;> rfl
@[simp] theorem forceV_eq {α : Sort _} (v : Value) (k : Value → α) : forceV v k = k v := by
  unfold forceV; split <;> simp
def operA (o : AOper) (next : List Value → Hp → Option (List Value × Hp)) : CallFn → Nat → List Value → Hp → Option (List Value × Hp) := fun cv g T A =>
  if wantedA o.guard T = true then
    if o.apart.all (apartA T) = true then
      match opA o.op cv g T A with
      | some (v, A') => forceV v fun v => next (putA o.dst T v) A'
      | none => none
    else none
  else next (putA o.dst T undef) A
def opsA (cv : CallFn) (g : Nat) : List AOper → List Value → Hp → Option (List Value × Hp) :=
  List.rec (motive := fun _ => List Value → Hp → Option (List Value × Hp)) (fun T A => some (T, A)) (fun o _ ih => fun T A => operA o ih cv g T A)
@[simp] theorem opsA_nil (cv : CallFn) (g : Nat) (T : List Value) (A : Hp) : opsA cv g [] T A = some (T, A) := rfl
theorem opsA_cons (cv : CallFn) (g : Nat) (o : AOper) (l : List AOper) (T : List Value) (A : Hp) : opsA cv g (o :: l) T A = operA o (opsA cv g l) cv g T A := rfl
def zipArgs (T : List Value) : List Nat → List Value → List Value
  | t :: ts, v :: vs => zipArgs (tset T t v) ts vs
  | _, _ => T
def takeMarks (A : Hp) : List Nat → Option Hp
  | [] => some A
  | x :: xs => match A.get x with
    | some .marks => takeMarks (A.set x none) xs
    | _ => none
def resOne (T : List Value) (A : Hp) : ARes → Option Value
  | .tmp t => some (tget T t)
  | .cell a size => loadA A (tget T a) size
def resAll (T : List Value) (A : Hp) : List ARes → Option (List Value)
  | [] => some []
  | r :: rs => match resOne T A r with
    | some v => (resAll T A rs).map fun vs => v :: vs
    | none => none
def resA (res : List ARes) (T : List Value) (A : Hp) : Option Value :=
  match resAll T A res with
  | some [v] => some v
  | some vs => some (.tuple vs.toArray)
  | none => none
def sqrtA : List Value → Option Value
  | [.float .f64 x] => (FloatKind.f64.format.sqrt x).map fun r => .float .f64 r
  | _ => none
abbrev RunFn := Nat → Option Nat → St → Option (Ex × St)
def Ex.pend : Ex → Option (Option Nat)
  | .normal => none
  | .ret => some none
  | .exit id => some (some id)
def finishA (res : List ARes) : Option (Ex × St) → Option (Value × Hp)
  | some (.exit _, _) => none
  | some (_, st') => match takeMarks st'.A st'.D with
    | some A' => (resA res st'.T A').map fun v => (v, A')
    | none => none
  | none => none
def enterA (run : ACode → RunFn) (g : Nat) (args : List Value) (A : Hp) : Option AFunc → Option (Value × Hp)
  | some (.fn _ res body) => finishA res (run body g none ⟨args, [], A⟩)
  | some .sqrt => pureV (sqrtA args) A
  | some .lib => none
  | none => none
def callF (AP : Nat → Option AFunc) (K : Nat → Option Spec) (run : ACode → RunFn) (g : Nat) (f : Nat) (args : List Value) (A : Hp) : Option (Value × Hp) :=
  match K f with
  | some S => S g args A
  | none => enterA run g args A (AP f)
def endRoundA (l : Nat) : Option (Ex × St) → Option (Value × Hp)
  | some (e, st2) => match st2.A.get l with
    | some (.loop r2) => some (.bool e.pend.isNone, st2.A.set l (some (.loop { r2 with state := if e.pend.isNone then .ready else .done, pending := e.pend })))
    | _ => none
  | none => none
def beginRoundA (run : ACode → RunFn) (g l : Nat) (body : ACode) : Option (Ex × St) → Option (Value × Hp)
  | some (.normal, st1) => match st1.A.get l with
    | some (.loop r1) => match r1.state with
      | .ready => endRoundA l (run body g (some l) ⟨st1.T, st1.D, st1.A.set l (some (.loop { r1 with state := .busy }))⟩)
      | _ => none
    | _ => none
  | _ => none
def yieldA (run : ACode → RunFn) (g l : Nat) (args : List Value) (A : Hp) : Option (Value × Hp) :=
  match A.get l with
  | some (.loop r) =>
    if args.length = r.params.length ∧ g ≤ l then
      beginRoundA run g l r.body (run r.assign g (some l) ⟨zipArgs r.tmps r.params args, [], A⟩)
    else none
  | _ => none
def callV (AP : Nat → Option AFunc) (K : Nat → Option Spec) (run : ACode → RunFn) : CallFn := fun g f args A =>
  match f with
  | .func (.func h) first captured => callF AP K run g h (first.toList ++ args ++ captured.toList) A
  | .func (.yield l) ⟨[]⟩ ⟨[]⟩ => yieldA run g l args A
  | _ => none
def inBlk (id : Nat) : Option (Ex × St) → Option (Ex × St)
  | some (.exit i, st) => if i = id then some (.normal, st) else some (.exit i, st)
  | r => r
def seqA (b : RunFn) (g : Nat) (rd : Option Nat) : Option (Ex × St) → Option (Ex × St)
  | some (.normal, st1) => b g rd st1
  | r => r
def condA (a b : RunFn) (g : Nat) (rd : Option Nat) (st : St) : Value → Option (Ex × St)
  | .bool true => a g rd st
  | .bool false => b g rd st
  | _ => none
def iterA (body : RunFn) (m : Nat) : RunFn :=
  Nat.rec (motive := fun _ => RunFn) (fun _ _ _ => none) (fun _ ih => fun g rd st => seqA ih g rd (body g rd st)) m
def endLoopA (l : Nat) (T : List Value) (D : List Nat) : Option (Value × Hp) → Option (Ex × St)
  | some (_, A3) => match A3.get l with
    | some (.loop r) => match r.state with
      | .busy => none
      | _ => match r.pending with
        | none => some (.normal, ⟨T, D, A3.set l (some (.loop { r with state := .exhausted }))⟩)
        | some none => some (.ret, ⟨T, D, A3.set l (some (.loop { r with state := .exhausted }))⟩)
        | some (some id) => some (.exit id, ⟨T, D, A3.set l (some (.loop { r with state := .exhausted }))⟩)
    | _ => none
  | none => none
def rangeA (cf : Nat → Nat → List Value → Hp → Option (Value × Hp)) (ps : List Nat) (assign body : ACode) (g : Nat) (rd : Option Nat) (st : St) : Value → Option (Ex × St)
  | .func (.func h) first captured =>
    match rd with
    | none => endLoopA (st.A.n + 1) st.T (st.A.n :: st.D) (cf g h (first.toList ++ [.func (.yield (st.A.n + 1)) #[] #[]] ++ captured.toList)
        ((st.A.push .marks).push (.loop { state := .ready, pending := none, tmps := st.T, params := ps, assign, body })))
    | some l => match st.A.get l with
      | some (.loop _) => endLoopA st.A.n st.T st.D (cf g h (first.toList ++ [.func (.yield st.A.n) #[] #[]] ++ captured.toList)
          (st.A.push (.loop { state := .ready, pending := none, tmps := st.T, params := ps, assign, body })))
      | _ => none
  | _ => none
def opsSt (cv : CallFn) (g : Nat) (l : List AOper) (st : St) : Option (Ex × St) := (opsA cv g l st.T st.A).map fun r => (.normal, ⟨r.1, st.D, r.2⟩)
def codeA (cv : CallFn) (cf : Nat → Nat → List Value → Hp → Option (Value × Hp)) (m : Nat) : ACode → RunFn :=
  ACode.rec (motive := fun _ => RunFn)
    (fun _ _ st => some (.normal, st))
    (fun l g _ st => opsSt cv g l st)
    (fun _ _ a b g rd st => seqA b g rd (a g rd st))
    (fun c _ _ a b g rd st => condA a b g rd st (ev st.T c))
    (fun id _ c g rd st => inBlk id (c g rd st))
    (fun _ c => iterA c m)
    (fun id _ _ st => some (.exit id, st))
    (fun _ _ st => some (.ret, st))
    (fun f ps assign body _ _ g rd st => rangeA cf ps assign body g rd st (ev st.T f))
def exec (AP : Nat → Option AFunc) (K : Nat → Option Spec) (m d : Nat) : ACode → RunFn :=
  Nat.rec (motive := fun _ => ACode → RunFn) (fun _ _ _ _ => none) (fun _ ih => codeA (callV AP K ih) (callF AP K ih) m) d
end
end Go.Ab
set_option maxRecDepth 100000
namespace Go.Ab.Grid
open Go.Ab
def F288 : AFunc :=
 .fn 72 [.tmp 4]
 (.seq
 (.ops [
oP 2 (.box (.t 0)),
oP 4 (.move (.k (.bool false)))])
 (.seq
 (.seq
 (.ops [
oF 11 2 3,
oL 12 11,
oP 13 (.len (.t 12)),
oC 14 .gtr 13 600,
oM 15 14,
oN 16 15 false 1,
oQ 17 15 false (.lenT (.t 16)),
oQ 18 15 false (.bin .gtr (.t 17) (oK 3000)),
oP 19 (.pick (.t 15) (.k (.bool true)) (.t 18))])
 (.cond (.t 19)
 (.seq
 (.ops [
oA 20 289 [] false,
oM 4 20])
 .ret)
 .skip))
 (.seq
 (.ops [
oD 22 2 4,
oA 23 306 [.t 22] false,
oM 21 23,
oX 24 21 0,
oX 25 21 1,
oM 5 24,
oM 6 25])
 (.seq
 (.seq
 (.ops [
oM 26 6,
oD 27 2 4,
oA 28 37 [.t 27] false,
oB 29 .neq 26 28])
 (.cond (.t 29)
 (.seq
 (.ops [
oP 4 (.move (.k (.bool false)))])
 .ret)
 .skip))
 (.seq
 (.seq
 (.ops [
oM 30 6,
oC 31 .eql 30 0])
 (.cond (.t 31)
 (.seq
 (.ops [
oM 33 5,
oA 34 308 [.t 33] false,
oM 32 34,
oX 35 32 0,
oX 36 32 1,
oP 7 (.alloc [.int .i64 0, .int .i64 0, .int .i64 0, .slice none 0 0]),
oT 7 35 4,
oM 8 36])
 (.seq
 (.ops [
oM 37 8,
oC 38 .neq 37 0,
oM 39 38,
oQ 40 39 false (.load (.t 7) (some 4)),
oQ 41 39 false (.load (.t 2) (some 4)),
oQ 42 39 false (.call (.k (.func (.func 301) ⟨[]⟩ ⟨[]⟩)) [.t 40, .t 41] false),
oQ 43 39 false (.not (.t 42)),
oP 44 (.pick (.t 39) (.k (.bool true)) (.t 43))])
 (.cond (.t 44)
 (.seq
 (.ops [
oP 4 (.move (.k (.bool false)))])
 .ret)
 .skip)))
 .skip))
 (.seq
 (.ops [
oM 46 1,
oA 47 308 [.t 46] false,
oM 45 47,
oX 48 45 0,
oX 49 45 1,
oP 9 (.alloc [.int .i64 0, .int .i64 0, .int .i64 0, .slice none 0 0]),
oT 9 48 4,
oM 6 49])
 (.seq
 (.seq
 (.ops [
oM 50 6,
oC 51 .neq 50 0])
 (.cond (.t 51)
 (.seq
 (.ops [
oM 52 6,
oC 53 .eql 52 7,
oM 54 53,
oQ 55 54 true (.call (.k (.func (.func 289) ⟨[]⟩ ⟨[]⟩)) [] false),
oP 56 (.pick (.t 54) (.t 55) (.k (.bool false))),
oM 4 56])
 .ret)
 .skip))
 (.seq
 (.ops [
oD 58 9 4,
oA 59 306 [.t 58] false,
oM 57 59,
oX 60 57 0,
oX 61 57 1,
oM 5 60,
oM 10 61])
 (.seq
 (.ops [
oM 62 10,
oC 63 .eql 62 0,
oM 64 63,
oN 65 64 true 5,
oN 66 64 true 1,
oQ 67 64 true (.strOp .eql (.t 65) (.t 66)),
oP 68 (.pick (.t 64) (.t 67) (.k (.bool false))),
oM 69 68,
oQ 70 69 true (.call (.k (.func (.func 289) ⟨[]⟩ ⟨[]⟩)) [] false),
oP 71 (.pick (.t 69) (.t 70) (.k (.bool false))),
oM 4 71])
 .ret)))))))))
def F289 : AFunc :=
 .fn 189 [.tmp 0]
 (.seq
 (.ops [
oP 0 (.move (.k (.bool false)))])
 (.seq
 (.ops [
oA 16 320 [] false,
oP 1 (.alloc [.int .i64 0, .int .i64 0, .int .i64 0, .slice none 0 0]),
oT 1 16 4])
 (.seq
 (.ops [
oD 18 1 4,
oA 19 110 [.t 18, .k (.int .i64 1)] false,
oM 17 19,
oX 20 17 0,
oX 21 17 1,
oM 2 20,
oM 3 21])
 (.seq
 (.ops [
oD 23 1 4,
oP 24 (.slit 1 1 [.int .i64 0] [(0, .k (.int .i64 0))]),
oA 25 265 [.t 23, .t 24] false,
oM 22 25,
oX 26 22 0,
oX 27 22 1,
oM 4 26,
oM 5 27])
 (.seq
 (.ops [
oD 29 1 4,
oP 30 (.slit 1 1 [.int .i64 0] [(0, .k (.int .i64 0))]),
oP 31 (.build [.int .i64 0, .int .i64 0] [(0, 1, .k (.int .i64 15)), (1, 1, .k (.int .i64 25))]),
oA 32 253 [.t 29, .t 30, .t 31] false,
oM 28 32,
oX 33 28 0,
oX 34 28 1,
oX 35 28 2,
oM 6 33,
oM 7 34,
oM 8 35])
 (.seq
 (.seq
 (.ops [
oM 36 3,
oC 37 .neq 36 0,
oM 38 37,
oN 39 38 false 5,
oQ 40 38 false (.bin .neq (.t 39) (oK 0)),
oP 41 (.pick (.t 38) (.k (.bool true)) (.t 40)),
oM 42 41,
oN 43 42 false 8,
oQ 44 42 false (.bin .neq (.t 43) (oK 0)),
oP 45 (.pick (.t 42) (.k (.bool true)) (.t 44)),
oM 46 45,
oN 47 46 false 2,
oQ 48 46 false (.slit 2 1 [.int .i64 0] [(0, .k (.int .i64 2)), (1, .k (.int .i64 0))]),
oQ 49 46 false (.call (.k (.func (.func 291) ⟨[]⟩ ⟨[]⟩)) [.t 47, .t 48] false),
oQ 50 46 false (.not (.t 49)),
oP 51 (.pick (.t 46) (.k (.bool true)) (.t 50)),
oM 52 51,
oN 53 52 false 4,
oQ 54 52 false (.build [.int .i64 0, .int .i64 0] [(0, 1, .k (.int .i64 (-500))), (1, 1, .k (.int .i64 (-500)))]),
oQ 55 52 false (.build [.int .i64 0, .int .i64 0] [(0, 1, .k (.int .i64 10)), (1, 1, .k (.int .i64 20))]),
oQ 56 52 false (.build [.int .i64 0, .int .i64 0] [(0, 1, .k (.int .i64 10)), (1, 1, .k (.int .i64 20))]),
oQ 57 52 false (.build [.int .i64 0, .int .i64 0] [(0, 1, .k (.int .i64 10)), (1, 1, .k (.int .i64 40))]),
oQ 58 52 false (.slit 4 2 [.int .i64 0, .int .i64 0] [(0, .t 54), (1, .t 55), (2, .t 56), (3, .t 57)]),
oQ 59 52 false (.call (.k (.func (.func 294) ⟨[]⟩ ⟨[]⟩)) [.t 53, .t 58] false),
oQ 60 52 false (.not (.t 59)),
oP 61 (.pick (.t 52) (.k (.bool true)) (.t 60)),
oM 62 61,
oN 63 62 false 6,
oQ 64 62 false (.slit 4 1 [.bool false] [(0, .k (.bool true)), (1, .k (.bool false)), (2, .k (.bool false)), (3, .k (.bool false))]),
oQ 65 62 false (.call (.k (.func (.func 296) ⟨[]⟩ ⟨[]⟩)) [.t 63, .t 64] false),
oQ 66 62 false (.not (.t 65)),
oP 67 (.pick (.t 62) (.k (.bool true)) (.t 66)),
oM 68 67,
oN 69 68 false 7,
oQ 70 68 false (.slit 4 1 [.bool false] [(0, .k (.bool true)), (1, .k (.bool true)), (2, .k (.bool true)), (3, .k (.bool true))]),
oQ 71 68 false (.call (.k (.func (.func 296) ⟨[]⟩ ⟨[]⟩)) [.t 69, .t 70] false),
oQ 72 68 false (.not (.t 71)),
oP 73 (.pick (.t 68) (.k (.bool true)) (.t 72))])
 (.cond (.t 73)
 (.seq
 (.ops [
oP 0 (.move (.k (.bool false)))])
 .ret)
 .skip))
 (.seq
 (.ops [
oD 75 1 4,
oP 76 (.slit 1 1 [.int .i64 0] [(0, .k (.int .i64 0))]),
oA 77 297 [.t 75, .t 76] false,
oM 74 77,
oX 78 74 0,
oX 79 74 1,
oM 9 78,
oM 3 79])
 (.seq
 (.ops [
oD 81 1 4,
oA 82 304 [.t 81, .k (.int .i64 515)] false,
oM 80 82,
oX 83 80 0,
oX 84 80 1,
oP 10 (.alloc [.int .i64 0, .int .i64 0, .int .i64 0, .slice none 0 0]),
oT 10 83 4,
oM 5 84])
 (.seq
 (.ops [
oD 86 1 4,
oA 87 304 [.t 86, .k (.int .i64 500)] false,
oM 85 87,
oX 88 85 0,
oX 89 85 1,
oM 8 89])
 (.seq
 (.seq
 (.ops [
oM 90 3,
oC 91 .neq 90 0,
oM 92 91,
oN 93 92 false 5,
oQ 94 92 false (.bin .neq (.t 93) (oK 0)),
oP 95 (.pick (.t 92) (.k (.bool true)) (.t 94)),
oM 96 95,
oN 97 96 false 8,
oQ 98 96 false (.bin .neq (.t 97) (oK 14)),
oP 99 (.pick (.t 96) (.k (.bool true)) (.t 98)),
oM 100 99,
oN 101 100 false 9,
oQ 102 100 false (.build [.int .i64 0, .int .i64 0] []),
oQ 103 100 false (.build [.int .i64 0, .int .i64 0] []),
oQ 104 100 false (.build [.int .i64 0, .int .i64 0] [(0, 1, .k (.int .i64 20)), (1, 1, .k (.int .i64 50))]),
oQ 105 100 false (.build [.int .i64 0, .int .i64 0] [(0, 1, .k (.int .i64 0)), (1, 1, .k (.int .i64 15))]),
oQ 106 100 false (.slit 4 2 [.int .i64 0, .int .i64 0] [(0, .t 102), (1, .t 103), (2, .t 104), (3, .t 105)]),
oQ 107 100 false (.call (.k (.func (.func 294) ⟨[]⟩ ⟨[]⟩)) [.t 101, .t 106] false),
oQ 108 100 false (.not (.t 107)),
oP 109 (.pick (.t 100) (.k (.bool true)) (.t 108)),
oM 110 109,
oQ 111 110 false (.fieldAddr (.t 10) 3),
oQ 112 110 false (.load (.t 111) none),
oQ 113 110 false (.len (.t 112)),
oQ 114 110 false (.bin .neq (.t 113) (oK 4)),
oP 115 (.pick (.t 110) (.k (.bool true)) (.t 114)),
oM 116 115,
oQ 117 116 false (.fieldAddr (.t 10) 3),
oQ 118 116 false (.load (.t 117) none),
oQ 119 116 false (.idxS (.t 118) (oK 1) 2),
oQ 120 116 false (.load (.t 119) (some 2)),
oQ 121 116 false (.build [.int .i64 0, .int .i64 0] [(0, 1, .k (.int .i64 10)), (1, 1, .k (.int .i64 15))]),
oQ 122 116 false (.eqv true [false, false] (.t 120) (.t 121)),
oP 123 (.pick (.t 116) (.k (.bool true)) (.t 122))])
 (.cond (.t 123)
 (.seq
 (.ops [
oP 0 (.move (.k (.bool false)))])
 .ret)
 .skip))
 (.seq
 (.ops [
oD 125 1 4,
oP 126 (.build [.int .i64 0, .int .i64 0, .int .i64 0] [(0, 1, .k (.int .i64 1)), (1, 1, .k (.int .i64 5)), (2, 1, .k (.int .i64 10))]),
oP 127 (.build [.int .i64 0, .int .i64 0, .int .i64 0] [(0, 1, .k (.int .i64 2)), (1, 1, .k (.int .i64 (-40))), (2, 1, .k (.int .i64 5))]),
oP 128 (.slit 2 3 [.int .i64 0, .int .i64 0, .int .i64 0] [(0, .t 126), (1, .t 127)]),
oA 129 302 [.t 125, .t 128] false,
oM 124 129,
oX 130 124 0,
oX 131 124 1,
oX 132 124 2,
oP 11 (.alloc [.int .i64 0, .int .i64 0, .int .i64 0, .slice none 0 0]),
oT 11 130 4,
oM 12 131,
oM 3 132])
 (.seq
 (.seq
 (.ops [
oM 133 3,
oC 134 .neq 133 14,
oM 135 134,
oN 136 135 false 12,
oQ 137 135 false (.bin .neq (.t 136) (oK 1)),
oP 138 (.pick (.t 135) (.k (.bool true)) (.t 137)),
oM 139 138,
oQ 140 139 false (.fieldAddr (.t 11) 3),
oQ 141 139 false (.load (.t 140) none),
oQ 142 139 false (.len (.t 141)),
oQ 143 139 false (.bin .neq (.t 142) (oK 0)),
oP 144 (.pick (.t 139) (.k (.bool true)) (.t 143))])
 (.cond (.t 144)
 (.seq
 (.ops [
oP 0 (.move (.k (.bool false)))])
 .ret)
 .skip))
 (.seq
 (.ops [
oD 146 1 4,
oD 147 10 4,
oA 148 299 [.t 146, .t 147] false,
oM 145 148,
oX 149 145 0,
oX 150 145 1,
oX 151 145 2,
oP 13 (.alloc [.int .i64 0, .int .i64 0, .int .i64 0, .slice none 0 0]),
oT 13 149 4,
oM 12 150,
oM 3 151])
 (.seq
 (.ops [
oD 153 1 4,
oA 154 306 [.t 153] false,
oM 152 154,
oX 155 152 0,
oX 156 152 1,
oM 14 155,
oM 5 156])
 (.seq
 (.ops [
⟨some 158, none, [], .call (.k (.func (.func 308) ⟨[]⟩ ⟨[]⟩)) [.k (.string ⟨⟨[103, 114, 105, 100, 32, 52, 32, 49, 32, 49, 48, 48, 10, 45, 53, 48, 48, 32, 49, 48, 46, 46, 50, 48, 32, 45, 51, 48, 46, 46, 45, 49, 48, 32, 53, 46, 46, 52, 48, 10]⟩⟩)] false⟩,
oM 157 158,
oX 159 157 0,
oX 160 157 1,
oP 15 (.alloc [.int .i64 0, .int .i64 0, .int .i64 0, .slice none 0 0]),
oT 15 159 4,
oM 8 160])
 (.seq
 (.ops [
oM 161 3,
oC 162 .eql 161 0,
oM 163 162,
oN 164 163 true 5,
oQ 165 163 true (.bin .eql (.t 164) (oK 0)),
oP 166 (.pick (.t 163) (.t 165) (.k (.bool false))),
oM 167 166,
oN 168 167 true 8,
oQ 169 167 true (.bin .eql (.t 168) (oK 0)),
oP 170 (.pick (.t 167) (.t 169) (.k (.bool false))),
oM 171 170,
oN 172 171 true 12,
oQ 173 171 true (.bin .eql (.t 172) (oK 0)),
oP 174 (.pick (.t 171) (.t 173) (.k (.bool false))),
oM 175 174,
oQ 176 175 true (.load (.t 13) (some 4)),
oQ 177 175 true (.load (.t 10) (some 4)),
oQ 178 175 true (.call (.k (.func (.func 301) ⟨[]⟩ ⟨[]⟩)) [.t 176, .t 177] false),
oP 179 (.pick (.t 175) (.t 178) (.k (.bool false))),
oM 180 179,
oN 181 180 true 14,
⟨some 182, (some (180, true)), [], .strOp .eql (.t 181) (.k (.string ⟨⟨[103, 114, 105, 100, 32, 52, 32, 49, 32, 49, 48, 48, 10, 45, 53, 48, 48, 32, 49, 48, 46, 46, 50, 48, 32, 45, 51, 48, 46, 46, 45, 49, 48, 32, 53, 46, 46, 52, 48, 10]⟩⟩))⟩,
oP 183 (.pick (.t 180) (.t 182) (.k (.bool false))),
oM 184 183,
oQ 185 184 true (.load (.t 15) (some 4)),
oQ 186 184 true (.load (.t 1) (some 4)),
oQ 187 184 true (.call (.k (.func (.func 301) ⟨[]⟩ ⟨[]⟩)) [.t 185, .t 186] false),
oP 188 (.pick (.t 184) (.t 187) (.k (.bool false))),
oM 0 188])
 .ret))))))))))))))))
def F110 : AFunc :=
 .fn 23 [.tmp 4, .tmp 5]
 (.seq
 (.ops [
oP 2 (.box (.t 0)),
oP 4 (.move (.k (.slice none 0 0))),
oP 5 (.move (oK 0))])
 (.seq
 (.seq
 (.ops [
oD 7 2 4,
oA 8 37 [.t 7] false,
oM 6 8])
 (.seq
 (.ops [
oM 9 6,
oC 10 .neq 9 0])
 (.cond (.t 10)
 (.seq
 (.ops [
oM 11 6,
oP 4 (.move (.k (.slice none 0 0))),
oM 5 11])
 .ret)
 .skip)))
 (.seq
 (.seq
 (.ops [
oM 12 1,
oF 13 2 3,
oL 14 13,
oP 15 (.len (.t 14)),
oC 16 .sub 15 1,
oA 17 55 [.t 12, .k (.int .i64 0), .t 16] false,
oP 18 (.not (.t 17))])
 (.cond (.t 18)
 (.seq
 (.ops [
oP 4 (.move (.k (.slice none 0 0))),
oP 5 (.move (oK 4))])
 .ret)
 .skip))
 (.seq
 (.ops [
oD 19 2 4,
oM 20 1,
oA 21 112 [.t 19, .t 20] false,
oA 22 111 [.t 21] false,
oM 4 22,
oP 5 (.move (oK 0))])
 .ret))))
def F37 : AFunc :=
 .fn 34 [.tmp 2]
 (.seq
 (.ops [
oP 1 (.box (.t 0)),
oP 2 (.move (oK 0))])
 (.seq
 (.block 0
 (.seq
 (.ops [
oF 4 1 0,
oL 5 4,
oA 6 55 [.t 5, .k (.int .i64 1), .k (.int .i64 24)] false,
oP 7 (.not (.t 6)),
oM 8 7,
oQ 9 8 false (.fieldAddr (.t 1) 1),
oQ 10 8 false (.load (.t 9) none),
oQ 11 8 false (.call (.k (.func (.func 55) ⟨[]⟩ ⟨[]⟩)) [.t 10, .k (.int .i64 1), .k (.int .i64 24)] false),
oQ 12 8 false (.not (.t 11)),
oP 13 (.pick (.t 8) (.k (.bool true)) (.t 12)),
oM 14 13,
oQ 15 14 false (.fieldAddr (.t 1) 2),
oQ 16 14 false (.load (.t 15) none),
oQ 17 14 false (.call (.k (.func (.func 55) ⟨[]⟩ ⟨[]⟩)) [.t 16, .k (.int .i64 1), .k (.int .i64 10000)] false),
oQ 18 14 false (.not (.t 17)),
oP 19 (.pick (.t 14) (.k (.bool true)) (.t 18)),
oM 3 19])
 (.cond (.t 3)
 (.seq
 (.ops [
oP 2 (.move (oK 3))])
 .ret)
 (.seq
 (.ops [
oF 21 1 3,
oL 22 21,
oP 23 (.len (.t 22)),
oF 24 1 0,
oL 25 24,
oF 26 1 1,
oL 27 26,
oB 28 .mul 25 27,
oB 29 .neq 23 28,
oM 20 29])
 (.cond (.t 20)
 (.seq
 (.ops [
oP 2 (.move (oK 11))])
 .ret)
 (.seq
 (.ops [
oF 31 1 3,
oL 32 31,
oP 33 (.call (.k (.func (.func 56) ⟨[]⟩ ⟨[]⟩)) [.t 32, .k (.func (.func 57) ⟨[]⟩ ⟨[]⟩)] false),
oM 30 33])
 (.cond (.t 30)
 (.seq
 (.ops [
oP 2 (.move (oK 3))])
 .ret)
 .skip)))))))
 (.seq
 (.ops [
oP 2 (.move (oK 0))])
 .ret)))
def body291 : ACode := (.seq
 (.seq
 (.ops [
oM 11 5,
oM 12 0,
oP 13 (.len (.t 12)),
oB 14 .lss 11 13])
 (.cond (.t 14)
 .skip
 (.exit 0)))
 (.seq
 (.block 1
 (.seq
 (.ops [
oM 17 0,
oM 18 5,
oI 19 17 18 1,
oL 20 19,
oM 21 1,
oM 22 5,
oI 23 21 22 1,
oL 24 23,
oB 25 .neq 20 24])
 (.cond (.t 25)
 (.seq
 (.ops [
oP 4 (.move (.k (.bool false)))])
 .ret)
 .skip)))
 (.ops [
oM 15 5,
oC 16 .add 15 1,
oM 5 16])))
def F291 : AFunc :=
 .fn 26 [.tmp 4]
 (.seq
 (.ops [
oP 4 (.move (.k (.bool false)))])
 (.seq
 (.seq
 (.ops [
oM 6 0,
oP 7 (.len (.t 6)),
oM 8 1,
oP 9 (.len (.t 8)),
oB 10 .neq 7 9])
 (.cond (.t 10)
 (.seq
 (.ops [
oP 4 (.move (.k (.bool false)))])
 .ret)
 .skip))
 (.seq
 (.seq
 (.ops [
oP 5 (.move (oK 0))])
 (.block 0
 (.loop body291)))
 (.seq
 (.ops [
oP 4 (.move (.k (.bool true)))])
 .ret))))
def F265 : AFunc :=
 .fn 15 [.tmp 4, .tmp 5]
 (.seq
 (.ops [
oP 2 (.box (.t 0)),
oP 3 (.box (.t 1)),
oP 4 (.move (.k (.slice none 0 0))),
oP 5 (.move (oK 0))])
 (.seq
 (.seq
 (.ops [
oD 7 2 4,
oL 8 3,
oA 9 266 [.t 7, .t 8] false,
oM 6 9])
 (.seq
 (.ops [
oM 10 6,
oC 11 .neq 10 0])
 (.cond (.t 11)
 (.seq
 (.ops [
oM 12 6,
oP 4 (.move (.k (.slice none 0 0))),
oM 5 12])
 .ret)
 .skip)))
 (.seq
 (.ops [
oP 13 (.makeFunc 268 [] [.t 2, .t 3]),
oP 14 (.call (.k (.func (.func 267) ⟨[]⟩ ⟨[]⟩)) [.t 13, .k (.func (.func 271) ⟨[]⟩ ⟨[]⟩)] false),
oM 4 14,
oP 5 (.move (oK 0))])
 .ret)))
def body294 : ACode := (.seq
 (.seq
 (.ops [
oM 11 5,
oM 12 0,
oP 13 (.len (.t 12)),
oB 14 .lss 11 13])
 (.cond (.t 14)
 .skip
 (.exit 0)))
 (.seq
 (.block 1
 (.seq
 (.ops [
oM 17 0,
oM 18 5,
oI 19 17 18 2,
oD 20 19 2,
oM 21 1,
oM 22 5,
oI 23 21 22 2,
oD 24 23 2,
oP 25 (.eqv true [false, false] (.t 20) (.t 24))])
 (.cond (.t 25)
 (.seq
 (.ops [
oP 4 (.move (.k (.bool false)))])
 .ret)
 .skip)))
 (.ops [
oM 15 5,
oC 16 .add 15 1,
oM 5 16])))
def F294 : AFunc :=
 .fn 26 [.tmp 4]
 (.seq
 (.ops [
oP 4 (.move (.k (.bool false)))])
 (.seq
 (.seq
 (.ops [
oM 6 0,
oP 7 (.len (.t 6)),
oM 8 1,
oP 9 (.len (.t 8)),
oB 10 .neq 7 9])
 (.cond (.t 10)
 (.seq
 (.ops [
oP 4 (.move (.k (.bool false)))])
 .ret)
 .skip))
 (.seq
 (.seq
 (.ops [
oP 5 (.move (oK 0))])
 (.block 0
 (.loop body294)))
 (.seq
 (.ops [
oP 4 (.move (.k (.bool true)))])
 .ret))))
def F253 : AFunc :=
 .fn 51 [.tmp 6, .tmp 7, .tmp 8]
 (.seq
 (.ops [
oP 3 (.box (.t 0)),
oP 5 (.box (.t 2)),
oP 6 (.move (.k (.slice none 0 0))),
oP 7 (.move (.k (.slice none 0 0))),
oP 8 (.move (oK 0))])
 (.seq
 (.ops [
oD 13 3 4,
oM 14 1,
oA 15 265 [.t 13, .t 14] false,
oM 12 15,
oX 16 12 0,
oX 17 12 1,
oM 9 16,
oM 8 17])
 (.seq
 (.block 0
 (.seq
 (.ops [
oM 19 8,
oC 20 .neq 19 0,
oM 18 20])
 (.cond (.t 18)
 (.seq
 (.ops [
oM 21 8,
oP 6 (.move (.k (.slice none 0 0))),
oP 7 (.move (.k (.slice none 0 0))),
oM 8 21])
 .ret)
 (.seq
 (.ops [
oD 23 5 2,
oA 24 58 [.t 23, .k (.int .i64 20000)] false,
oP 25 (.not (.t 24)),
oM 22 25])
 (.cond (.t 22)
 (.seq
 (.ops [
oP 6 (.move (.k (.slice none 0 0))),
oP 7 (.move (.k (.slice none 0 0))),
oP 8 (.move (oK 3))])
 .ret)
 .skip)))))
 (.seq
 (.seq
 (.ops [
oM 26 9,
oP 27 (.len (.t 26)),
oP 28 (.move (oK 0))])
 (.block 1
 (.loop
 (.seq
 (.ops [
oB 29 .lss 28 27])
 (.seq
 (.cond (.t 29)
 .skip
 (.exit 1))
 (.seq
 (.block 2
 (.seq
 (.ops [
oI 30 26 28 2,
oD 31 30 2,
oP 11 (.alloc [.int .i64 0, .int .i64 0]),
oT 11 31 2])
 (.ops [
oM 32 6,
oF 33 5 0,
oL 34 33,
oF 35 11 1,
oL 36 35,
oB 37 .gtr 34 36,
oP 38 (.slit 1 1 [.bool false] [(0, .t 37)]),
oP 39 (.append (.t 32) (.t 38) 1 1),
oM 40 7,
oF 41 5 1,
⟨some 42, none, [(.t 32, 0, .t 41, 1)], .load (.t 41) none⟩,
oF 43 11 0,
⟨some 44, none, [(.t 32, 0, .t 43, 1)], .load (.t 43) none⟩,
oB 45 .gtr 42 44,
oP 46 (.slit 1 1 [.bool false] [(0, .t 45)]),
oP 47 (.append (.t 40) (.t 46) 1 1),
oM 6 39,
oM 7 47])))
 (.ops [
oC 48 .add 28 1,
oM 28 48])))))))
 (.seq
 (.ops [
oM 49 6,
oM 50 7,
oM 6 49,
oM 7 50,
oP 8 (.move (oK 0))])
 .ret)))))
def F296 : AFunc :=
 .fn 26 [.tmp 4]
 (.seq
 (.ops [
oP 4 (.move (.k (.bool false)))])
 (.seq
 (.seq
 (.ops [
oM 6 0,
oP 7 (.len (.t 6)),
oM 8 1,
oP 9 (.len (.t 8)),
oB 10 .neq 7 9])
 (.cond (.t 10)
 (.seq
 (.ops [
oP 4 (.move (.k (.bool false)))])
 .ret)
 .skip))
 (.seq
 (.seq
 (.ops [
oP 5 (.move (oK 0))])
 (.block 0
 (.loop
 (.seq
 (.seq
 (.ops [
oM 11 5,
oM 12 0,
oP 13 (.len (.t 12)),
oB 14 .lss 11 13])
 (.cond (.t 14)
 .skip
 (.exit 0)))
 (.seq
 (.block 1
 (.seq
 (.ops [
oM 17 0,
oM 18 5,
oI 19 17 18 1,
oL 20 19,
oM 21 1,
oM 22 5,
oI 23 21 22 1,
oL 24 23,
oP 25 (.beq true (.t 20) (.t 24))])
 (.cond (.t 25)
 (.seq
 (.ops [
oP 4 (.move (.k (.bool false)))])
 .ret)
 .skip)))
 (.ops [
oM 15 5,
oC 16 .add 15 1,
oM 5 16]))))))
 (.seq
 (.ops [
oP 4 (.move (.k (.bool true)))])
 .ret))))
def F297 : AFunc :=
 .fn 63 [.tmp 4, .tmp 5]
 (.seq
 (.ops [
oP 2 (.box (.t 0)),
oP 4 (.move (.k (.slice none 0 0))),
oP 5 (.move (oK 0))])
 (.seq
 (.seq
 (.ops [
oD 14 2 4,
oM 15 1,
oA 16 266 [.t 14, .t 15] false,
oM 6 16])
 (.seq
 (.ops [
oM 17 6,
oC 18 .neq 17 0])
 (.cond (.t 18)
 (.seq
 (.ops [
oM 19 6,
oP 4 (.move (.k (.slice none 0 0))),
oM 5 19])
 .ret)
 .skip)))
 (.seq
 (.ops [
oF 20 2 3,
oL 21 20,
oP 22 (.len (.t 21)),
oP 23 (.makeS (.t 22) (.t 22) 2 16 [.int .i64 0, .int .i64 0]),
oM 7 23])
 (.seq
 (.seq
 (.ops [
oF 24 2 3,
oL 25 24,
oP 26 (.len (.t 25)),
oP 27 (.move (oK 0))])
 (.block 0
 (.loop
 (.seq
 (.ops [
oB 28 .lss 27 26])
 (.seq
 (.cond (.t 28)
 .skip
 (.exit 0))
 (.seq
 (.block 1
 (.seq
 (.ops [
oM 29 27,
oI 30 25 27 2,
oD 31 30 2,
oP 9 (.alloc [.int .i64 0, .int .i64 0]),
oM 8 29,
oT 9 31 2])
 (.seq
 (.ops [
oD 33 2 4,
oM 34 1,
oM 35 8,
oP 36 (.call (.k (.func (.func 324) ⟨[]⟩ ⟨[]⟩)) [.t 33, .t 34, .t 35, .k (.func (.func 273) ⟨[]⟩ ⟨[]⟩)] false),
oM 32 36,
oX 37 32 0,
oX 38 32 1,
oM 10 37,
oM 11 38])
 (.seq
 (.ops [
oD 40 2 4,
oM 41 1,
oM 42 8,
oP 43 (.call (.k (.func (.func 324) ⟨[]⟩ ⟨[]⟩)) [.t 40, .t 41, .t 42, .k (.func (.func 274) ⟨[]⟩ ⟨[]⟩)] false),
oM 39 43,
oX 44 39 0,
oX 45 39 1,
oM 12 44,
oM 13 45])
 (.seq
 (.ops [
oM 46 11])
 (.cond (.t 46)
 (.ops [
oM 47 7,
oM 48 8,
oM 49 10,
oF 50 9 1,
oL 51 50,
oB 52 .sub 49 51,
oP 53 (.max [.k (.int .i64 0), .t 52]),
oM 54 12,
oF 55 9 0,
oL 56 55,
oB 57 .sub 54 56,
oP 58 (.max [.k (.int .i64 0), .t 57]),
oP 59 (.build [.int .i64 0, .int .i64 0] [(0, 1, .t 53), (1, 1, .t 58)]),
oI 60 47 48 2,
oT 60 59 2])
 .skip))))))
 (.ops [
oC 61 .add 27 1,
oM 27 61])))))))
 (.seq
 (.ops [
oM 62 7,
oM 4 62,
oP 5 (.move (oK 0))])
 .ret)))))
def body299a : ACode := (.seq
 (.ops [
oB 20 .lss 19 18])
 (.seq
 (.cond (.t 20)
 .skip
 (.exit 0))
 (.seq
 (.block 1
 (.seq
 (.ops [
oI 21 17 19 4,
oD 22 21 4,
oP 8 (.alloc [.int .i64 0, .int .i64 0, .int .i64 0, .slice none 0 0]),
oT 8 22 4])
 (.seq
 (.ops [
oD 23 8 4,
oA 24 37 [.t 23] false,
oM 9 24])
 (.seq
 (.ops [
oM 25 9,
oC 26 .neq 25 0])
 (.cond (.t 26)
 (.seq
 (.ops [
oP 27 (.build [.int .i64 0, .int .i64 0, .int .i64 0, .slice none 0 0] []),
oM 28 9,
oT 4 27 4,
oP 5 (.move (oK 0)),
oM 6 28])
 .ret)
 .skip)))))
 (.ops [
oC 29 .add 19 1,
oM 19 29]))))
def body299 : ACode := (.seq
 (.ops [
oB 56 .lss 55 54])
 (.seq
 (.cond (.t 56)
 .skip
 (.exit 2))
 (.seq
 (.block 3
 (.seq
 (.ops [
oM 57 55,
oI 58 53 55 2,
oD 59 58 2,
oP 12 (.alloc [.int .i64 0, .int .i64 0]),
oM 11 57,
oT 12 59 2])
 (.seq
 (.ops [
oF 61 10 3,
oL 62 61,
oM 63 11,
oI 64 62 63 2,
oD 65 64 2,
oD 66 12 2,
oA 67 327 [.t 65, .t 66] true,
oM 60 67,
oX 68 60 0,
oX 69 60 1,
oP 13 (.alloc [.int .i64 0, .int .i64 0]),
oT 13 68 2,
oM 14 69])
 (.seq
 (.seq
 (.ops [
oM 70 14,
oP 71 (.not (.t 70))])
 (.cond (.t 71)
 (.seq
 (.ops [
oP 72 (.build [.int .i64 0, .int .i64 0, .int .i64 0, .slice none 0 0] []),
oM 73 11,
oT 4 72 4,
oM 5 73,
oP 6 (.move (oK 14))])
 .ret)
 .skip))
 (.ops [
oF 74 10 3,
oL 75 74,
oM 76 11,
oD 77 13 2,
oI 78 75 76 2,
oT 78 77 2])))))
 (.ops [
oC 79 .add 55 1,
oM 55 79]))))
def F299 : AFunc :=
 .fn 81 [.cell 4 (some 4), .tmp 5, .tmp 6]
 (.seq
 (.ops [
oP 2 (.box (.t 0)),
oP 3 (.box (.t 1)),
oP 4 (.alloc [.int .i64 0, .int .i64 0, .int .i64 0, .slice none 0 0]),
oP 5 (.move (oK 0)),
oP 6 (.move (oK 0))])
 (.seq
 (.seq
 (.ops [
oD 15 2 4,
oD 16 3 4,
oP 17 (.slit 2 4 [.int .i64 0, .int .i64 0, .int .i64 0, .slice none 0 0] [(0, .t 15), (1, .t 16)]),
oP 18 (.len (.t 17)),
oP 19 (.move (oK 0))])
 (.block 0
 (.loop body299a)))
 (.seq
 (.seq
 (.ops [
oF 30 2 0,
oL 31 30,
oF 32 3 0,
oL 33 32,
oB 34 .neq 31 33,
oM 35 34,
oQ 36 35 false (.fieldAddr (.t 2) 1),
oQ 37 35 false (.load (.t 36) none),
oQ 38 35 false (.fieldAddr (.t 3) 1),
oQ 39 35 false (.load (.t 38) none),
oQ 40 35 false (.bin .neq (.t 37) (.t 39)),
oP 41 (.pick (.t 35) (.k (.bool true)) (.t 40)),
oM 42 41,
oQ 43 42 false (.fieldAddr (.t 2) 2),
oQ 44 42 false (.load (.t 43) none),
oQ 45 42 false (.fieldAddr (.t 3) 2),
oQ 46 42 false (.load (.t 45) none),
oQ 47 42 false (.bin .neq (.t 44) (.t 46)),
oP 48 (.pick (.t 42) (.k (.bool true)) (.t 47))])
 (.cond (.t 48)
 (.seq
 (.ops [
oP 49 (.build [.int .i64 0, .int .i64 0, .int .i64 0, .slice none 0 0] []),
oT 4 49 4,
oP 5 (.move (oK 0)),
oP 6 (.move (oK 11))])
 .ret)
 .skip))
 (.seq
 (.ops [
oD 50 2 4,
oA 51 326 [.t 50] false,
oP 10 (.alloc [.int .i64 0, .int .i64 0, .int .i64 0, .slice none 0 0]),
oT 10 51 4])
 (.seq
 (.seq
 (.ops [
oF 52 3 3,
oL 53 52,
oP 54 (.len (.t 53)),
oP 55 (.move (oK 0))])
 (.block 2
 (.loop body299)))
 (.seq
 (.ops [
oD 80 10 4,
oT 4 80 4,
oP 5 (.move (oK 0)),
oP 6 (.move (oK 0))])
 .ret))))))
def F301 : AFunc :=
 .fn 31 [.tmp 4]
 (.seq
 (.ops [
oP 2 (.box (.t 0)),
oP 3 (.box (.t 1)),
oP 4 (.move (.k (.bool false)))])
 (.seq
 (.ops [
oF 5 2 0,
oL 6 5,
oF 7 3 0,
oL 8 7,
oB 9 .eql 6 8,
oM 10 9,
oQ 11 10 true (.fieldAddr (.t 2) 1),
oQ 12 10 true (.load (.t 11) none),
oQ 13 10 true (.fieldAddr (.t 3) 1),
oQ 14 10 true (.load (.t 13) none),
oQ 15 10 true (.bin .eql (.t 12) (.t 14)),
oP 16 (.pick (.t 10) (.t 15) (.k (.bool false))),
oM 17 16,
oQ 18 17 true (.fieldAddr (.t 2) 2),
oQ 19 17 true (.load (.t 18) none),
oQ 20 17 true (.fieldAddr (.t 3) 2),
oQ 21 17 true (.load (.t 20) none),
oQ 22 17 true (.bin .eql (.t 19) (.t 21)),
oP 23 (.pick (.t 17) (.t 22) (.k (.bool false))),
oM 24 23,
oQ 25 24 true (.fieldAddr (.t 2) 3),
oQ 26 24 true (.load (.t 25) none),
oQ 27 24 true (.fieldAddr (.t 3) 3),
oQ 28 24 true (.load (.t 27) none),
oQ 29 24 true (.call (.k (.func (.func 294) ⟨[]⟩ ⟨[]⟩)) [.t 26, .t 28] false),
oP 30 (.pick (.t 24) (.t 29) (.k (.bool false))),
oM 4 30])
 .ret))
def body302a : ACode := (.seq
 (.ops [
oB 28 .lss 27 26])
 (.seq
 (.cond (.t 28)
 .skip
 (.exit 0))
 (.seq
 (.block 1
 (.seq
 (.ops [
oI 29 25 27 3,
oD 30 29 3,
oP 9 (.alloc [.int .i64 0, .int .i64 0, .int .i64 0]),
oT 9 30 3])
 (.block 2
 (.seq
 (.ops [
oF 32 9 0,
oL 33 32,
oF 34 2 3,
oL 35 34,
oP 36 (.len (.t 35)),
oC 37 .sub 36 1,
oA 38 55 [.t 33, .k (.int .i64 0), .t 37] false,
oP 39 (.not (.t 38)),
oM 31 39])
 (.cond (.t 31)
 (.seq
 (.ops [
oP 40 (.build [.int .i64 0, .int .i64 0, .int .i64 0, .slice none 0 0] []),
oT 4 40 4,
oP 5 (.move (oK 0)),
oP 6 (.move (oK 4))])
 .ret)
 (.seq
 (.ops [
oF 42 9 1,
oL 43 42,
oA 44 55 [.t 43, .k (.int .i64 (-1200000)), .k (.int .i64 1200000)] false,
oP 45 (.not (.t 44)),
oM 46 45,
oQ 47 46 false (.fieldAddr (.t 9) 2),
oQ 48 46 false (.load (.t 47) none),
oQ 49 46 false (.call (.k (.func (.func 55) ⟨[]⟩ ⟨[]⟩)) [.t 48, .k (.int .i64 0), .k (.int .i64 100000)] false),
oQ 50 46 false (.not (.t 49)),
oP 51 (.pick (.t 46) (.k (.bool true)) (.t 50)),
oM 41 51])
 (.cond (.t 41)
 (.seq
 (.ops [
oP 52 (.build [.int .i64 0, .int .i64 0, .int .i64 0, .slice none 0 0] []),
oT 4 52 4,
oP 5 (.move (oK 0)),
oP 6 (.move (oK 3))])
 .ret)
 .skip)))))))
 (.ops [
oC 53 .add 27 1,
oM 27 53]))))
def body302 : ACode := (.seq
 (.ops [
oB 59 .lss 58 57])
 (.seq
 (.cond (.t 59)
 .skip
 (.exit 3))
 (.seq
 (.block 4
 (.seq
 (.ops [
oM 60 58,
oI 61 56 58 3,
oD 62 61 3,
oP 12 (.alloc [.int .i64 0, .int .i64 0, .int .i64 0]),
oM 11 60,
oT 12 62 3])
 (.seq
 (.ops [
oF 64 10 3,
oL 65 64,
oF 66 12 0,
oL 67 66,
oI 68 65 67 2,
oD 69 68 2,
oF 70 12 1,
oL 71 70,
oF 72 12 2,
oL 73 72,
oB 74 .sub 71 73,
oF 75 12 1,
oL 76 75,
oF 77 12 2,
oL 78 77,
oB 79 .add 76 78,
oP 80 (.build [.int .i64 0, .int .i64 0] [(0, 1, .t 74), (1, 1, .t 79)]),
oA 81 327 [.t 69, .t 80] true,
oM 63 81,
oX 82 63 0,
oX 83 63 1,
oP 13 (.alloc [.int .i64 0, .int .i64 0]),
oT 13 82 2,
oM 14 83])
 (.seq
 (.seq
 (.ops [
oM 84 14,
oP 85 (.not (.t 84))])
 (.cond (.t 85)
 (.seq
 (.ops [
oP 86 (.build [.int .i64 0, .int .i64 0, .int .i64 0, .slice none 0 0] []),
oM 87 11,
oT 4 86 4,
oM 5 87,
oP 6 (.move (oK 14))])
 .ret)
 .skip))
 (.ops [
oF 88 10 3,
oL 89 88,
oF 90 12 0,
oL 91 90,
oD 92 13 2,
oI 93 89 91 2,
oT 93 92 2])))))
 (.ops [
oC 94 .add 58 1,
oM 58 94]))))
def F302 : AFunc :=
 .fn 96 [.cell 4 (some 4), .tmp 5, .tmp 6]
 (.seq
 (.ops [
oP 2 (.box (.t 0)),
oP 4 (.alloc [.int .i64 0, .int .i64 0, .int .i64 0, .slice none 0 0]),
oP 5 (.move (oK 0)),
oP 6 (.move (oK 0))])
 (.seq
 (.seq
 (.ops [
oD 15 2 4,
oA 16 37 [.t 15] false,
oM 7 16])
 (.seq
 (.ops [
oM 17 7,
oC 18 .neq 17 0])
 (.cond (.t 18)
 (.seq
 (.ops [
oP 19 (.build [.int .i64 0, .int .i64 0, .int .i64 0, .slice none 0 0] []),
oM 20 7,
oT 4 19 4,
oP 5 (.move (oK 0)),
oM 6 20])
 .ret)
 .skip)))
 (.seq
 (.seq
 (.ops [
oM 21 1,
oP 22 (.len (.t 21)),
oC 23 .gtr 22 4096])
 (.cond (.t 23)
 (.seq
 (.ops [
oP 24 (.build [.int .i64 0, .int .i64 0, .int .i64 0, .slice none 0 0] []),
oT 4 24 4,
oP 5 (.move (oK 0)),
oP 6 (.move (oK 9))])
 .ret)
 .skip))
 (.seq
 (.seq
 (.ops [
oM 25 1,
oP 26 (.len (.t 25)),
oP 27 (.move (oK 0))])
 (.block 0
 (.loop body302a)))
 (.seq
 (.ops [
oD 54 2 4,
oA 55 326 [.t 54] false,
oP 10 (.alloc [.int .i64 0, .int .i64 0, .int .i64 0, .slice none 0 0]),
oT 10 55 4])
 (.seq
 (.seq
 (.ops [
oM 56 1,
oP 57 (.len (.t 56)),
oP 58 (.move (oK 0))])
 (.block 3
 (.loop body302)))
 (.seq
 (.ops [
oD 95 10 4,
oT 4 95 4,
oP 5 (.move (oK 0)),
oP 6 (.move (oK 0))])
 .ret)))))))
def F304 : AFunc :=
 .fn 33 [.cell 4 (some 4), .tmp 5]
 (.seq
 (.ops [
oP 2 (.box (.t 0)),
oP 3 (.box (.t 1)),
oP 4 (.alloc [.int .i64 0, .int .i64 0, .int .i64 0, .slice none 0 0]),
oP 5 (.move (oK 0))])
 (.seq
 (.seq
 (.ops [
oD 9 2 4,
oA 10 37 [.t 9] false,
oM 6 10])
 (.seq
 (.ops [
oM 11 6,
oC 12 .neq 11 0])
 (.cond (.t 12)
 (.seq
 (.ops [
oP 13 (.build [.int .i64 0, .int .i64 0, .int .i64 0, .slice none 0 0] []),
oM 14 6,
oT 4 13 4,
oM 5 14])
 .ret)
 .skip)))
 (.seq
 (.seq
 (.ops [
oL 15 3,
oA 16 55 [.t 15, .k (.int .i64 0), .k (.int .i64 2400000)] false,
oP 17 (.not (.t 16))])
 (.cond (.t 17)
 (.seq
 (.ops [
oP 18 (.build [.int .i64 0, .int .i64 0, .int .i64 0, .slice none 0 0] []),
oT 4 18 4,
oP 5 (.move (oK 3))])
 .ret)
 .skip))
 (.seq
 (.ops [
oD 19 2 4,
oA 20 326 [.t 19] false,
oP 7 (.alloc [.int .i64 0, .int .i64 0, .int .i64 0, .slice none 0 0]),
oT 7 20 4])
 (.seq
 (.ops [
oP 21 (.makeFunc 329 [] [.t 2, .t 3]),
oM 8 21])
 (.seq
 (.ops [
oM 22 8,
oP 23 (.makeFunc 331 [] [.t 7]),
oP 24 (.call (.t 22) [.k (.func (.func 274) ⟨[]⟩ ⟨[]⟩), .t 23] false)])
 (.seq
 (.ops [
oM 25 8,
oP 26 (.makeFunc 333 [] [.t 7]),
oP 27 (.call (.t 25) [.k (.func (.func 332) ⟨[]⟩ ⟨[]⟩), .t 26] false)])
 (.seq
 (.seq
 (.ops [
oF 28 7 3,
oL 29 28,
oP 30 (.call (.k (.func (.func 56) ⟨[]⟩ ⟨[]⟩)) [.t 29, .k (.func (.func 334) ⟨[]⟩ ⟨[]⟩)] false)])
 (.cond (.t 30)
 (.seq
 (.ops [
oP 31 (.build [.int .i64 0, .int .i64 0, .int .i64 0, .slice none 0 0] []),
oT 4 31 4,
oP 5 (.move (oK 14))])
 .ret)
 .skip))
 (.seq
 (.ops [
oD 32 7 4,
oT 4 32 4,
oP 5 (.move (oK 0))])
 .ret)))))))))
def body306b : ACode := (.seq
 (.ops [
oB 48 .lss 47 46])
 (.seq
 (.cond (.t 48)
 .skip
 (.exit 2))
 (.seq
 (.block 3
 (.seq
 (.ops [
oI 49 45 47 2,
oD 50 49 2,
oP 10 (.alloc [.int .i64 0, .int .i64 0]),
oT 10 50 2])
 (.ops [
oM 51 8,
oD 52 10 2,
oA 53 339 [.t 52] false,
⟨some 54, none, [], .slit 1 1 [.string ⟨⟨[]⟩⟩] [(0, .t 53)]⟩,
oP 55 (.append (.t 51) (.t 54) 1 16),
oM 8 55])))
 (.ops [
oC 56 .add 47 1,
oM 47 56]))))
def F306 : AFunc :=
 .fn 62 [.tmp 2, .tmp 3]
 (.seq
 (.ops [
oP 1 (.box (.t 0)),
⟨some 2, none, [], .move (.k (.string ⟨⟨[]⟩⟩))⟩,
oP 3 (.move (oK 0))])
 (.seq
 (.seq
 (.ops [
oD 11 1 4,
oA 12 37 [.t 11] false,
oM 4 12])
 (.seq
 (.ops [
oM 13 4,
oC 14 .neq 13 0])
 (.cond (.t 14)
 (.seq
 (.ops [
oM 15 4,
⟨some 2, none, [], .move (.k (.string ⟨⟨[]⟩⟩))⟩,
oM 3 15])
 .ret)
 .skip)))
 (.seq
 (.ops [
oP 5 (.allocB)])
 (.seq
 (.ops [
oP 16 (.makeFunc 335 [] [.t 5]),
oM 6 16])
 (.seq
 (.ops [
oM 17 6,
oF 18 1 0,
oL 19 18,
oA 20 338 [.t 19] true,
oF 21 1 1,
oL 22 21,
oA 23 338 [.t 22] true,
oF 24 1 2,
oL 25 24,
oA 26 338 [.t 25] false,
⟨some 27, none, [], .slit 4 1 [.string ⟨⟨[]⟩⟩] [(0, .k (.string ⟨⟨[103, 114, 105, 100]⟩⟩)), (1, .t 20), (2, .t 23), (3, .t 26)]⟩,
oP 28 (.call (.t 17) [.t 27] false)])
 (.seq
 (.seq
 (.ops [
oF 29 1 1,
oL 30 29,
oP 31 (.move (oK 0))])
 (.block 0
 (.loop
 (.seq
 (.ops [
oB 32 .lss 31 30])
 (.seq
 (.cond (.t 32)
 .skip
 (.exit 0))
 (.seq
 (.block 1
 (.seq
 (.ops [
oM 33 31,
oM 7 33])
 (.seq
 (.ops [
oP 8 (.move (.k (.slice none 0 0)))])
 (.seq
 (.seq
 (.ops [
oF 34 1 3,
oL 35 34,
oM 36 7,
oF 37 1 0,
oL 38 37,
oB 39 .mul 36 38,
oM 40 7,
oC 41 .add 40 1,
oF 42 1 0,
oL 43 42,
oB 44 .mul 41 43,
oP 45 (.reslice (.t 35) (some (.t 39)) (some (.t 44)) 2),
oP 46 (.len (.t 45)),
oP 47 (.move (oK 0))])
 (.block 2
 (.loop body306b)))
 (.ops [
oM 57 6,
oM 58 8,
oP 59 (.call (.t 57) [.t 58] false)])))))
 (.ops [
oC 60 .add 31 1,
oM 31 60])))))))
 (.seq
 (.ops [
oA 61 340 [.t 5] false,
oM 2 61,
oP 3 (.move (oK 0))])
 .ret)))))))
def body308 : ACode := (.seq
 (.ops [
oB 29 .lss 28 27])
 (.seq
 (.cond (.t 29)
 .skip
 (.exit 2))
 (.seq
 (.block 3
 (.seq
 (.ops [
oM 30 28,
oI 31 26 28 1,
oL 32 31,
oM 7 30,
oM 8 32])
 (.seq
 (.ops [
oM 34 8,
⟨some 35, none, [], .call (.k (.func (.func 344) ⟨[]⟩ ⟨[]⟩)) [.t 34, .k (.string ⟨⟨[46, 46]⟩⟩)] false⟩,
oM 33 35,
oX 36 33 0,
oX 37 33 1,
oX 38 33 2,
oM 9 36,
oM 10 37,
oM 11 38])
 (.seq
 (.seq
 (.ops [
oM 39 11,
oP 40 (.not (.t 39))])
 (.cond (.t 40)
 (.ops [
oM 41 9,
oM 10 41])
 .skip))
 (.seq
 (.ops [
oM 43 9,
oA 44 345 [.t 43] false,
oM 42 44,
oX 45 42 0,
oX 46 42 1,
oM 12 45,
oM 13 46])
 (.seq
 (.ops [
oM 48 10,
oA 49 345 [.t 48] false,
oM 47 49,
oX 50 47 0,
oX 51 47 1,
oM 14 50,
oM 15 51])
 (.block 4
 (.seq
 (.ops [
oL 54 5,
oM 55 54,
oN 56 55 true 7,
oQ 57 55 true (.bin .eql (.t 56) (oK 0)),
oP 58 (.pick (.t 55) (.t 57) (.k (.bool false))),
oM 59 58,
oN 60 59 true 8,
⟨some 61, (some (59, true)), [], .strOp .eql (.t 60) (.k (.string ⟨⟨[103, 114, 105, 100]⟩⟩))⟩,
oP 62 (.pick (.t 59) (.t 61) (.k (.bool false))),
oM 53 62])
 (.cond (.t 53)
 .skip
 (.seq
 (.ops [
oM 64 13,
oP 65 (.eqNil 4 true (.t 64)),
oM 66 65,
oN 67 66 false 15,
oQ 68 66 false (.eqNil 4 true (.t 67)),
oP 69 (.pick (.t 66) (.k (.bool true)) (.t 68)),
oM 63 69])
 (.cond (.t 63)
 (.seq
 (.ops [
oP 70 (.build [.int .i64 0, .int .i64 0, .int .i64 0, .slice none 0 0] []),
oT 2 70 4,
⟨none, none, [], .store (.t 3) (.k (.int .i64 7)) 1⟩])
 .ret)
 (.seq
 (.ops [
oL 72 5,
oM 73 72,
oN 74 73 true 7,
oQ 75 73 true (.bin .eql (.t 74) (oK 1)),
oP 76 (.pick (.t 73) (.t 75) (.k (.bool false))),
oM 71 76])
 (.cond (.t 71)
 (.ops [
oM 77 12,
oF 78 4 0,
oT 78 77 1])
 (.seq
 (.ops [
oL 80 5,
oM 81 80,
oN 82 81 true 7,
oQ 83 81 true (.bin .eql (.t 82) (oK 2)),
oP 84 (.pick (.t 81) (.t 83) (.k (.bool false))),
oM 79 84])
 (.cond (.t 79)
 (.ops [
oM 85 12,
oF 86 4 1,
oT 86 85 1])
 (.seq
 (.ops [
oL 88 5,
oM 89 88,
oN 90 89 true 7,
oQ 91 89 true (.bin .eql (.t 90) (oK 3)),
oP 92 (.pick (.t 89) (.t 91) (.k (.bool false))),
oM 87 92])
 (.cond (.t 87)
 (.ops [
oM 93 12,
oF 94 4 2,
oT 94 93 1])
 (.seq
 (.ops [
oL 96 5,
oP 97 (.not (.t 96)),
oM 95 97])
 (.cond (.t 95)
 (.ops [
oF 98 4 3,
oL 99 98,
oM 100 12,
oM 101 14,
oP 102 (.build [.int .i64 0, .int .i64 0] [(0, 1, .t 100), (1, 1, .t 101)]),
oP 103 (.slit 1 2 [.int .i64 0, .int .i64 0] [(0, .t 102)]),
oP 104 (.append (.t 99) (.t 103) 2 16),
oF 105 4 3,
oT 105 104 1])
 (.seq
 (.ops [
oP 52 (.build [.int .i64 0, .int .i64 0, .int .i64 0, .slice none 0 0] []),
oT 2 52 4,
⟨none, none, [], .store (.t 3) (.k (.int .i64 7)) 1⟩])
 .ret))))))))))))))))))))
 (.ops [
oC 106 .add 28 1,
oM 28 106]))))
def F308 : AFunc :=
 .fn 121 [.cell 2 (some 4), .cell 3 none]
 (.seq
 (.ops [
oP 2 (.alloc [.int .i64 0, .int .i64 0, .int .i64 0, .slice none 0 0]),
oP 3 (.alloc [.int .i64 0])])
 (.seq
 (.seq
 (.ops [
oM 18 0,
oP 19 (.lenT (.t 18)),
oC 20 .gtr 19 65536])
 (.cond (.t 20)
 (.seq
 (.ops [
oP 21 (.build [.int .i64 0, .int .i64 0, .int .i64 0, .slice none 0 0] []),
oT 2 21 4,
⟨none, none, [], .store (.t 3) (.k (.int .i64 8)) 1⟩])
 .ret)
 .skip))
 (.seq
 (.ops [
oP 4 (.alloc [.int .i64 0, .int .i64 0, .int .i64 0, .slice none 0 0])])
 (.seq
 (.ops [
oP 5 (.alloc [.bool false]),
⟨none, none, [], .store (.t 5) (.k (.bool true)) 1⟩])
 (.seq
 (.seq
 (.ops [
oM 22 0,
oA 23 342 [.t 22] false])
 (.block 0
 (.rangeF (.t 23) [24]
 (.ops [
oM 6 24])
 (.block 1
 (.seq
 (.seq
 (.ops [
oM 25 6,
oA 26 343 [.t 25] false,
oP 27 (.len (.t 26)),
oP 28 (.move (oK 0))])
 (.block 2
 (.loop body308)))
 (.ops [
⟨none, none, [], .store (.t 5) (.k (.bool false)) 1⟩]))))))
 (.seq
 (.seq
 (.ops [
oD 108 4 4,
oA 109 306 [.t 108] false,
oM 107 109,
oX 110 107 0,
oX 111 107 1,
oM 16 110,
oM 17 111])
 (.seq
 (.ops [
oM 112 17,
oC 113 .neq 112 0,
oM 114 113,
oN 115 114 false 16,
oN 116 114 false 0,
oQ 117 114 false (.strOp .neq (.t 115) (.t 116)),
oP 118 (.pick (.t 114) (.k (.bool true)) (.t 117))])
 (.cond (.t 118)
 (.seq
 (.ops [
oP 119 (.build [.int .i64 0, .int .i64 0, .int .i64 0, .slice none 0 0] []),
oT 2 119 4,
⟨none, none, [], .store (.t 3) (.k (.int .i64 7)) 1⟩])
 .ret)
 .skip)))
 (.seq
 (.ops [
oD 120 4 4,
oT 2 120 4,
⟨none, none, [], .store (.t 3) (.k (.int .i64 0)) 1⟩])
 .ret)))))))
def F320 : AFunc :=
 .fn 7 [.cell 0 (some 4)]
 (.seq
 (.ops [
oP 0 (.alloc [.int .i64 0, .int .i64 0, .int .i64 0, .slice none 0 0])])
 (.seq
 (.ops [
oP 1 (.build [.int .i64 0, .int .i64 0] [(0, 1, .k (.int .i64 (-500))), (1, 1, .k (.int .i64 (-500)))]),
oP 2 (.build [.int .i64 0, .int .i64 0] [(0, 1, .k (.int .i64 10)), (1, 1, .k (.int .i64 20))]),
oP 3 (.build [.int .i64 0, .int .i64 0] [(0, 1, .k (.int .i64 (-30))), (1, 1, .k (.int .i64 (-10)))]),
oP 4 (.build [.int .i64 0, .int .i64 0] [(0, 1, .k (.int .i64 5)), (1, 1, .k (.int .i64 40))]),
oP 5 (.slit 4 2 [.int .i64 0, .int .i64 0] [(0, .t 1), (1, .t 2), (2, .t 3), (3, .t 4)]),
oP 6 (.build [.int .i64 0, .int .i64 0, .int .i64 0, .slice none 0 0] [(0, 1, .k (.int .i64 4)), (1, 1, .k (.int .i64 1)), (2, 1, .k (.int .i64 100)), (3, 1, .t 5)]),
oT 0 6 4])
 .ret))
def F55 : AFunc :=
 .fn 15 [.tmp 6]
 (.seq
 (.ops [
oP 6 (.move (.k (.bool false)))])
 (.seq
 (.ops [
oM 7 0,
oM 8 1,
oB 9 .geq 7 8,
oM 10 9,
oN 11 10 true 0,
oN 12 10 true 2,
oQ 13 10 true (.bin .leq (.t 11) (.t 12)),
oP 14 (.pick (.t 10) (.t 13) (.k (.bool false))),
oM 6 14])
 .ret))
def F111 : AFunc :=
 .fn 5 [.tmp 2]
 (.seq
 (.ops [
oP 2 (.move (.k (.slice none 0 0)))])
 (.seq
 (.ops [
oM 3 0,
oA 4 113 [.k (.slice none 0 0), .t 3] false,
oM 2 4])
 .ret))
def F112 : AFunc :=
 .fn 6 [.tmp 4]
 (.seq
 (.ops [
oP 2 (.box (.t 0)),
oP 3 (.box (.t 1)),
oP 4 (.move (.k (.nilFunc)))])
 (.seq
 (.ops [
oP 5 (.makeFunc 114 [] [.t 3, .t 2]),
oM 4 5])
 .ret))
def F56 : AFunc :=
 .fn 9 [.tmp 4]
 (.seq
 (.ops [
oP 4 (.move (.k (.bool false)))])
 (.seq
 (.ops [
oM 5 0,
oM 6 1,
oA 7 82 [.t 5, .t 6] false,
oC 8 .geq 7 0,
oM 4 8])
 .ret))
def F57 : AFunc :=
 .fn 6 [.tmp 2]
 (.seq
 (.ops [
oP 1 (.box (.t 0)),
oP 2 (.move (.k (.bool false)))])
 (.seq
 (.ops [
oD 3 1 2,
oA 4 58 [.t 3, .k (.int .i64 1200000)] false,
oP 5 (.not (.t 4)),
oM 2 5])
 .ret))
def F58 : AFunc :=
 .fn 23 [.tmp 4]
 (.seq
 (.ops [
oP 2 (.box (.t 0)),
oP 4 (.move (.k (.bool false)))])
 (.seq
 (.ops [
oF 5 2 0,
oL 6 5,
oF 7 2 1,
oL 8 7,
oB 9 .leq 6 8,
oM 10 9,
oQ 11 10 true (.fieldAddr (.t 2) 0),
oQ 12 10 true (.load (.t 11) none),
oN 13 10 true 1,
oQ 14 10 true (.neg (.t 13)),
oQ 15 10 true (.bin .geq (.t 12) (.t 14)),
oP 16 (.pick (.t 10) (.t 15) (.k (.bool false))),
oM 17 16,
oQ 18 17 true (.fieldAddr (.t 2) 1),
oQ 19 17 true (.load (.t 18) none),
oN 20 17 true 1,
oQ 21 17 true (.bin .leq (.t 19) (.t 20)),
oP 22 (.pick (.t 17) (.t 21) (.k (.bool false))),
oM 4 22])
 .ret))
def F266 : AFunc :=
 .fn 20 [.tmp 4]
 (.seq
 (.ops [
oP 2 (.box (.t 0)),
oP 4 (.move (oK 0))])
 (.seq
 (.ops [
oD 6 2 4,
oA 7 37 [.t 6] false,
oM 5 7])
 (.seq
 (.block 0
 (.seq
 (.ops [
oM 9 5,
oC 10 .neq 9 0,
oM 8 10])
 (.cond (.t 8)
 (.seq
 (.ops [
oM 11 5,
oM 4 11])
 .ret)
 (.seq
 (.ops [
oM 13 1,
oP 14 (.len (.t 13)),
oC 15 .eql 14 0,
oM 12 15])
 (.cond (.t 12)
 (.seq
 (.ops [
oP 4 (.move (oK 18))])
 .ret)
 (.seq
 (.ops [
oM 17 1,
oP 18 (.makeFunc 272 [] [.t 2]),
oA 19 180 [.t 17, .t 18] false,
oM 16 19])
 (.cond (.t 16)
 (.seq
 (.ops [
oP 4 (.move (oK 4))])
 .ret)
 .skip)))))))
 (.seq
 (.ops [
oP 4 (.move (oK 0))])
 .ret))))
def F267 : AFunc :=
 .fn 33 [.tmp 4]
 (.seq
 (.ops [
oP 4 (.move (.k (.slice none 0 0)))])
 (.seq
 (.ops [
oP 5 (.move (.k (.slice none 0 0)))])
 (.seq
 (.ops [
oM 9 0,
oP 10 (.call (.t 9) [.k (.func (.func 273) ⟨[]⟩ ⟨[]⟩)] false),
oM 11 0,
oP 12 (.call (.t 11) [.k (.func (.func 274) ⟨[]⟩ ⟨[]⟩)] false),
oM 6 10,
oM 7 12])
 (.seq
 (.seq
 (.ops [
oM 13 6,
oP 14 (.len (.t 13)),
oP 15 (.move (oK 0))])
 (.block 0
 (.loop
 (.seq
 (.ops [
oB 16 .lss 15 14])
 (.seq
 (.cond (.t 16)
 .skip
 (.exit 0))
 (.seq
 (.block 1
 (.seq
 (.ops [
oM 17 15,
oM 8 17])
 (.ops [
oM 18 5,
oM 19 1,
oM 20 6,
oM 21 8,
oI 22 20 21 1,
oL 23 22,
oM 24 7,
oM 25 8,
oI 26 24 25 1,
oL 27 26,
oP 28 (.call (.t 19) [.t 23, .t 27] false),
oP 29 (.slit 1 2 [.int .i64 0, .int .i64 0] [(0, .t 28)]),
oP 30 (.append (.t 18) (.t 29) 2 16),
oM 5 30])))
 (.ops [
oC 31 .add 15 1,
oM 15 31])))))))
 (.seq
 (.ops [
oM 32 5,
oM 4 32])
 .ret)))))
def F268 : AFunc :=
 .fn 9 [.tmp 4]
 (.seq
 (.ops [
oP 3 (.box (.t 0)),
oP 4 (.move (.k (.slice none 0 0)))])
 (.seq
 (.ops [
oD 5 1 4,
oL 6 2,
oP 7 (.makeFunc 270 [] [.t 3, .t 1]),
oA 8 269 [.t 5, .t 6, .t 7] false,
oM 4 8])
 .ret))
def F269 : AFunc :=
 .fn 47 [.tmp 6]
 (.seq
 (.ops [
oP 3 (.box (.t 0)),
oP 5 (.box (.t 2)),
oP 6 (.move (.k (.slice none 0 0)))])
 (.seq
 (.ops [
oP 14 (.slit 1 1 [.int .i64 0] [(0, .k (.int .i64 1073741824))]),
oF 15 3 3,
oL 16 15,
oP 17 (.len (.t 16)),
oA 18 83 [.t 14, .t 17] false,
oP 7 (.alloc [.slice none 0 0]),
oT 7 18 1])
 (.seq
 (.ops [
oP 19 (.build [.slice none 0 0, .nilFunc] [(1, 1, .k (.func (.func 275) ⟨[]⟩ ⟨[]⟩))]),
oP 8 (.alloc [.slice none 0 0, .nilFunc]),
oT 8 19 2])
 (.seq
 (.ops [
oP 20 (.makeFunc 276 [] [.t 5, .t 7, .t 8]),
oP 9 (.alloc [.nilFunc]),
oT 9 20 1])
 (.seq
 (.seq
 (.ops [
oM 21 1,
oP 22 (.len (.t 21)),
oP 23 (.move (oK 0))])
 (.block 0
 (.loop
 (.seq
 (.ops [
oB 24 .lss 23 22])
 (.seq
 (.cond (.t 24)
 .skip
 (.exit 0))
 (.seq
 (.block 1
 (.seq
 (.ops [
oI 25 21 23 1,
oL 26 25,
oM 11 26])
 (.ops [
oL 27 9,
oM 28 11,
oP 29 (.call (.t 27) [.t 28, .k (.int .i64 (-1073741824))] false)])))
 (.ops [
oC 30 .add 23 1,
oM 23 30])))))))
 (.seq
 (.block 2
 (.loop
 (.seq
 (.seq
 (.ops [
oF 31 8 0,
oL 32 31,
oP 33 (.len (.t 32)),
oC 34 .gtr 33 0])
 (.cond (.t 34)
 .skip
 (.exit 2)))
 (.block 3
 (.seq
 (.ops [
oA 35 278 [.t 8] false,
oP 12 (.alloc [.int .i64 0, .int .i64 0]),
oT 12 35 2])
 (.seq
 (.ops [
oD 36 3 4,
oF 37 12 0,
oL 38 37,
oA 39 112 [.t 36, .t 38] false])
 (.block 4
 (.rangeF (.t 39) [40]
 (.ops [
oM 13 40])
 (.block 5
 (.ops [
oL 41 9,
oM 42 13,
oF 43 12 1,
oL 44 43,
oP 45 (.call (.t 41) [.t 42, .t 44] false)]))))))))))
 (.seq
 (.ops [
oL 46 7,
oM 6 46])
 .ret)))))))
def F270 : AFunc :=
 .fn 13 [.tmp 4, .tmp 5]
 (.seq
 (.ops [
oP 4 (.move (oK 0)),
oP 5 (.move (.k (.bool false)))])
 (.seq
 (.ops [
oL 6 1,
oF 7 2 3,
oL 8 7,
oM 9 0,
oI 10 8 9 2,
oD 11 10 2,
oP 12 (.call (.t 6) [.t 11] false),
oM 4 12,
oP 5 (.move (.k (.bool true)))])
 .ret))
def F271 : AFunc :=
 .fn 8 [.cell 4 (some 2)]
 (.seq
 (.ops [
oP 4 (.alloc [.int .i64 0, .int .i64 0])])
 (.seq
 (.ops [
oM 5 0,
oM 6 1,
oP 7 (.build [.int .i64 0, .int .i64 0] [(0, 1, .t 5), (1, 1, .t 6)]),
oT 4 7 2])
 .ret))
def F324 : AFunc :=
 .fn 31 [.tmp 8, .tmp 9]
 (.seq
 (.ops [
oP 4 (.box (.t 0)),
oP 6 (.box (.t 2)),
oP 7 (.box (.t 3)),
oP 8 (.move (oK 0)),
oP 9 (.move (.k (.bool false)))])
 (.seq
 (.seq
 (.ops [
oM 13 1,
oL 14 6,
oA 15 169 [.t 13, .t 14] false])
 (.cond (.t 15)
 (.seq
 (.ops [
oP 8 (.move (oK 0)),
oP 9 (.move (.k (.bool false)))])
 .ret)
 .skip))
 (.seq
 (.ops [
oD 16 4 4,
oM 17 1,
oP 18 (.makeFunc 349 [] [.t 7, .t 4, .t 6]),
oA 19 269 [.t 16, .t 17, .t 18] false,
oP 10 (.alloc [.slice none 0 0]),
oT 10 19 1])
 (.seq
 (.ops [
oP 11 (.alloc [.int .i64 0]),
⟨none, none, [], .store (.t 11) (.k (.int .i64 1073741824)) 1⟩])
 (.seq
 (.seq
 (.ops [
oD 20 4 4,
oL 21 6,
oA 22 112 [.t 20, .t 21] false])
 (.block 0
 (.rangeF (.t 22) [23]
 (.ops [
oM 12 23])
 (.block 1
 (.ops [
oL 24 11,
oL 25 10,
oM 26 12,
oI 27 25 26 1,
oL 28 27,
oP 29 (.min [.t 24, .t 28]),
oT 11 29 1])))))
 (.seq
 (.ops [
oL 30 11,
oM 8 30,
oP 9 (.move (.k (.bool true)))])
 .ret))))))
def F273 : AFunc :=
 .fn 5 [.tmp 2]
 (.seq
 (.ops [
oP 1 (.box (.t 0)),
oP 2 (.move (oK 0))])
 (.seq
 (.ops [
oF 3 1 0,
oL 4 3,
oM 2 4])
 .ret))
def F274 : AFunc :=
 .fn 5 [.tmp 2]
 (.seq
 (.ops [
oP 1 (.box (.t 0)),
oP 2 (.move (oK 0))])
 (.seq
 (.ops [
oF 3 1 1,
oL 4 3,
oM 2 4])
 .ret))
end Go.Ab.Grid
