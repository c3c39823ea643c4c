/- Structs and arrays of integers and bools, compared. -/
import Derived.Test.YtekljelnebadeaaGreatZ03
import Derived.Test.YtekljelnebadeaaGreatZ00
import Derived.OrdersIn
import Derived.RangeFuncNested
import Derived.Laws.AppendOwn
import Derived.Laws.MakeOwn
import Derived.Laws.StructEq
import Derived.Laws.CopyOwn
import Derived.MapKept
import Derived.ChangeKeysEq
set_option linter.unusedSimpArgs false
set_option linter.unusedVariables false
set_option linter.unusedSectionVars false
namespace Go.Ab
def HK (g : Nat) (A A' : Hp) : Prop := A.n ≤ A'.n ∧ ∀ x, x < A.n → x < g → A'.get x = A.get x
theorem HK.refl (g : Nat) (A : Hp) : HK g A A := ⟨Nat.le_refl _, fun _ _ _ => rfl⟩
theorem HK.trans {g : Nat} {A A1 A2 : Hp} (h1 : HK g A A1) (h2 : HK g A1 A2) : HK g A A2 :=
  ⟨Nat.le_trans h1.1 h2.1, fun x hx hg => by rw [h2.2 x (Nat.lt_of_lt_of_le hx h1.1) hg, h1.2 x hx hg]⟩
theorem HK.push (g : Nat) (A : Hp) (b : ABlk) : HK g A (A.push b) := ⟨by simp, fun x hx _ => by rw [Hp.get_push, if_neg (by omega)]⟩
theorem HK.set {g : Nat} {A A1 : Hp} (h : HK g A A1) {x : Nat} {b0 : ABlk} (hx : A1.get x = some b0) (hg : g ≤ x ∨ A.n ≤ x) (b : Option ABlk) : HK g A (A1.set x b) :=
  ⟨h.1, fun y hy hyg => by rw [Hp.get_set hx, if_neg (by omega)]; exact h.2 y hy hyg⟩
def SK (g : Nat) (st st' : St) : Prop := HK g st.A st'.A ∧ ∃ ns, st'.D = ns ++ st.D ∧ ∀ x ∈ ns, st.A.n ≤ x
theorem SK.refl (g : Nat) (st : St) : SK g st st := ⟨HK.refl _ _, [], rfl, by simp⟩
theorem SK.trans {g : Nat} {s s1 s2 : St} (h1 : SK g s s1) (h2 : SK g s1 s2) : SK g s s2 := by
  obtain ⟨k1, n1, e1, m1⟩ := h1
  obtain ⟨k2, n2, e2, m2⟩ := h2
  refine ⟨k1.trans k2, n2 ++ n1, by rw [e2, e1, List.append_assoc], fun x hx => ?_⟩
  rcases List.mem_append.1 hx with h | h
  · exact Nat.le_trans k1.1 (m2 x h)
  · exact m1 x h
def RunKeeps (run : RunFn) : Prop := ∀ (g : Nat) (rd : Option Nat) (st : St) (ex : Ex) (st' : St), run g rd st = some (ex, st') → SK g st st'
def FnKeeps (cf : Nat → Nat → List Value → Hp → Option (Value × Hp)) : Prop := ∀ (g f : Nat) (args : List Value) (A : Hp) (v : Value) (A' : Hp), cf g f args A = some (v, A') → HK g A A'
theorem takeMarks_keeps {g : Nat} {A : Hp} : ∀ {D : List Nat} {A1 A' : Hp}, HK g A A1 → (∀ x ∈ D, A.n ≤ x) → takeMarks A1 D = some A' → HK g A A' := by
  intro D
  induction D with
  | nil => intro A1 A' h _ ht; simp [takeMarks] at ht; rw [← ht]; exact h
  | cons x D ih =>
    intro A1 A' h hD ht
    simp only [takeMarks] at ht
    split at ht
    · rename_i hx
      exact ih (h.set hx (.inr (hD x (by simp))) none) (fun y hy => hD y (by simp [hy])) ht
    · cases ht
theorem enterA_keeps {run : ACode → RunFn} (hr : ∀ c, RunKeeps (run c)) {g : Nat} {args : List Value} {A A' : Hp} {v : Value} {af : Option AFunc} (h : enterA run g args A af = some (v, A')) : HK g A A' := by
  unfold enterA at h
  split at h
  · unfold finishA at h
    split at h
    · cases h
    · rename_i ex st' _ heq
      split at h
      · rename_i A1 hA1
        simp only [Option.map_eq_some_iff] at h
        obtain ⟨u, _, he⟩ := h
        cases he
        obtain ⟨k, ns, e, m⟩ := hr _ _ _ _ _ _ heq
        refine takeMarks_keeps k (fun x hx => m x ?_) hA1
        rw [e] at hx; simpa using hx
      · cases h
    · cases h
  · rw [(pureV_heap h).2]; exact HK.refl _ _
  · cases h
  · cases h
theorem callF_keeps {AP : Nat → Option AFunc} {K : Nat → Option Spec} {run : ACode → RunFn} (hK : ∀ h S, K h = some S → ∀ g args A v A', S g args A = some (v, A') → HK g A A') (hr : ∀ c, RunKeeps (run c)) : FnKeeps (callF AP K run) := by
  intro g f args A v A' h
  unfold callF at h
  split at h
  · rename_i S hS
    exact hK f S hS g args A v A' h
  · exact enterA_keeps hr h
theorem yieldA_keeps {run : ACode → RunFn} (hr : ∀ c, RunKeeps (run c)) {g l : Nat} {args : List Value} {A A' : Hp} {v : Value} (h : yieldA run g l args A = some (v, A')) : HK g A A' := by
  unfold yieldA at h
  split at h
  · rename_i r hl
    split at h
    · rename_i hg
      unfold beginRoundA at h
      split at h
      · rename_i st1 heq
        have k1 := (hr _ _ _ _ _ _ heq).1
        split at h
        · rename_i r1 hl1
          split at h
          · unfold endRoundA at h
            split at h
            · rename_i ex st2 heq2
              have k2 := (hr _ _ _ _ _ _ heq2).1
              split at h
              · rename_i r2 hl2
                cases h
                exact ((k1.set hl1 (.inl hg.2) _).trans k2).set hl2 (.inl hg.2) _
              · cases h
            · cases h
          · cases h
        · cases h
      · cases h
    · cases h
  · cases h
theorem callV_keeps {AP : Nat → Option AFunc} {K : Nat → Option Spec} {run : ACode → RunFn} (hK : ∀ h S, K h = some S → ∀ g args A v A', S g args A = some (v, A') → HK g A A') (hr : ∀ c, RunKeeps (run c)) : CallKeeps (callV AP K run) := by
  intro g f args A v A' h
  unfold callV at h
  split at h
  · exact callF_keeps hK hr _ _ _ _ _ _ h
  · exact yieldA_keeps hr h
  · cases h
theorem operA_keeps {cv : CallFn} (hcv : CallKeeps cv) {o : AOper} {next : List Value → Hp → Option (List Value × Hp)} {g : Nat} {T T' : List Value} {A A' : Hp}
    (hn : ∀ T1 A1, next T1 A1 = some (T', A') → HK g A1 A') (h : operA o next cv g T A = some (T', A')) : HK g A A' := by
  unfold operA at h
  split at h
  · split at h
    · split at h
      · rename_i v A1 hv
        rw [forceV_eq] at h
        exact HK.trans ⟨opA_len hcv hv, opA_keeps hcv hv⟩ (hn _ _ h)
      · cases h
    · cases h
  · exact hn _ _ h
theorem opsA_keeps {cv : CallFn} (hcv : CallKeeps cv) {g : Nat} : ∀ {l : List AOper} {T T' : List Value} {A A' : Hp}, opsA cv g l T A = some (T', A') → HK g A A' := by
  intro l
  induction l with
  | nil => intro T T' A A' h; simp at h; rw [← h.2]; exact HK.refl _ _
  | cons o l ih =>
    intro T T' A A' h
    rw [opsA_cons] at h
    exact operA_keeps hcv (fun _ _ h => ih h) h
theorem seqA_keeps {b : RunFn} (hb : RunKeeps b) {g : Nat} {rd : Option Nat} {st : St} {r : Option (Ex × St)} (hr : ∀ ex st', r = some (ex, st') → SK g st st') {ex : Ex} {st' : St} (h : seqA b g rd r = some (ex, st')) : SK g st st' := by
  unfold seqA at h
  split at h
  · exact (hr _ _ rfl).trans (hb _ _ _ _ _ h)
  · exact hr _ _ h
theorem iterA_keeps {body : RunFn} (hb : RunKeeps body) : ∀ m, RunKeeps (iterA body m) := by
  intro m
  induction m with
  | zero => intro g rd st ex st' h; cases h
  | succ m ih =>
    intro g rd st ex st' h
    exact seqA_keeps ih (fun ex st' h => hb _ _ _ _ _ h) (show seqA (iterA body m) g rd (body g rd st) = some (ex, st') from h)
theorem endLoopA_keeps {g l : Nat} {T : List Value} {D : List Nat} {st : St} {r : Option (Value × Hp)} (hr : ∀ v A3, r = some (v, A3) → HK g st.A A3) (hl : st.A.n ≤ l) (hD : ∃ ns, D = ns ++ st.D ∧ ∀ x ∈ ns, st.A.n ≤ x) {ex : Ex} {st' : St}
    (h : endLoopA l T D r = some (ex, st')) : SK g st st' := by
  unfold endLoopA at h
  split at h
  · rename_i v A3
    split at h
    · rename_i r' hl'
      have k := (hr _ _ rfl).set hl' (.inr hl) (some (.loop { r' with state := .exhausted }))
      split at h
      · cases h
      · split at h <;> cases h <;> exact ⟨k, hD⟩
    · cases h
  · cases h
theorem codeA_keeps {cv : CallFn} {cf : Nat → Nat → List Value → Hp → Option (Value × Hp)} (hcv : CallKeeps cv) (hcf : FnKeeps cf) (m : Nat) : ∀ c, RunKeeps (codeA cv cf m c) := by
  intro c
  induction c with
  | skip => intro g rd st ex st' h; cases h; exact SK.refl _ _
  | ops l =>
    intro g rd st ex st' h
    replace h : opsSt cv g l st = some (ex, st') := h
    simp only [opsSt, Option.map_eq_some_iff] at h
    obtain ⟨⟨T', A'⟩, h, he⟩ := h
    cases he
    exact ⟨opsA_keeps hcv h, [], rfl, by simp⟩
  | seq a b iha ihb =>
    intro g rd st ex st' h
    exact seqA_keeps ihb (fun ex st' h => iha _ _ _ _ _ h) (show seqA (codeA cv cf m b) g rd (codeA cv cf m a g rd st) = some (ex, st') from h)
  | cond c a b iha ihb =>
    intro g rd st ex st' h
    replace h : condA (codeA cv cf m a) (codeA cv cf m b) g rd st (ev st.T c) = some (ex, st') := h
    unfold condA at h
    split at h
    · exact iha _ _ _ _ _ h
    · exact ihb _ _ _ _ _ h
    · cases h
  | block id c ih =>
    intro g rd st ex st' h
    replace h : inBlk id (codeA cv cf m c g rd st) = some (ex, st') := h
    unfold inBlk at h
    split at h
    · rename_i i st1 heq
      have k := ih _ _ _ _ _ heq
      split at h <;> (cases h; exact k)
    · exact ih _ _ _ _ _ h
  | loop c ih => exact iterA_keeps ih m
  | exit id => intro g rd st ex st' h; cases h; exact SK.refl _ _
  | ret => intro g rd st ex st' h; cases h; exact SK.refl _ _
  | rangeF f ps assign body _ _ =>
    intro g rd st ex st' h
    replace h : rangeA cf ps assign body g rd st (ev st.T f) = some (ex, st') := h
    unfold rangeA at h
    split at h
    · split at h
      · refine endLoopA_keeps (fun v A3 h3 => ?_) (Nat.le_succ _) ⟨[st.A.n], rfl, by simp⟩ h
        exact ((HK.push g st.A _).trans (HK.push g _ _)).trans (hcf _ _ _ _ _ _ h3)
      · split at h
        · refine endLoopA_keeps (fun v A3 h3 => ?_) (Nat.le_refl _) ⟨[], rfl, by simp⟩ h
          exact (HK.push g st.A _).trans (hcf _ _ _ _ _ _ h3)
        · cases h
    · cases h
theorem exec_keeps {AP : Nat → Option AFunc} {K : Nat → Option Spec} (hK : ∀ h S, K h = some S → ∀ g args A v A', S g args A = some (v, A') → HK g A A') (m : Nat) : ∀ d c, RunKeeps (exec AP K m d c) := by
  intro d
  induction d with
  | zero => intro c g rd st ex st' h; cases h
  | succ d ih => exact codeA_keeps (callV_keeps hK ih) (callF_keeps hK ih) m
end Go.Ab
namespace Go.Ab
def sz (P : Program) (t : TypeId) : Option Nat := (P.info? t).map (·.size)
def zeroOf (P : Program) (t : TypeId) : Option (List Value) := (P.info? t).bind fun i => i.zero.bind fun z => if z.cells.toList.all simple = true ∧ z.cells.toList.length = i.size then some z.cells.toList else none
def zeroV (P : Program) (t : TypeId) : Option Value := (P.info? t).bind fun i => i.zero.bind fun z => if flat z = true then some z else none
def keyKind : TypeDesc → Option Nat
  | .int _ => some 0
  | .string => some 1
  | .bool => some 2
  | _ => none
def isAggA (P : Program) (t : TypeId) : Option Bool :=
  match P.underlying t with
  | some (.struct _) => some true
  | some (.array _ _) => some true
  | some _ => some false
  | none => none
def cellsA (P : Program) (t : TypeId) : Option (Option Nat) :=
  match isAggA P t with
  | some true => (sz P t).map some
  | some false => some none
  | none => none
def intT (P : Program) : Nat → TypeId → Option (List Nat)
  | 0, _ => none
  | d + 1, t =>
    match P.underlying t with
    | some (.int _) => some [0]
    | some .bool => some [1]
    | some .string => some [2]
    | some (.array n e) => match intT P d e with
      | some s => if sz P e = some s.length then some (List.replicate n s).flatten else none
      | none => none
    | some (.struct fs) =>
      if fs.toList.all (fun f => f.name != "_") = true ∧ P.stoodInHeld t = false then
        fs.toList.foldlM (fun acc f => if f.offset = acc.length then (intT P d f.type).bind fun s => if sz P f.type = some s.length then some (acc ++ s) else none else none) []
      else none
    | _ => none
def keyT (P : Program) (t : TypeId) : Option Nat := match isAggA P t with
  | some true => (intT P 20 t).bind fun s => if s.all (fun c => decide (c < 4)) = true then some (shapeNat s) else none
  | _ => (P.underlying t).bind keyKind
def u8Id (P : Program) : TypeId := ((List.range 40).find? fun t => match P.underlying t with
  | some (.int .u8) => true
  | _ => false).getD 0
def u8Ok (P : Program) (e : TypeId) : Bool := e == u8Id P && (match P.underlying e with
  | some (.int .u8) => true
  | _ => false) && P.cellsOf e == 1 && (match P.info? e with
  | some i => i.size == 1 && i.bytes == 1 && (match i.zero with
    | some (.int .u8 0) => true
    | _ => false)
  | none => false)
section
variable (P : Program) (lab : Nat → Nat) (nt : Nat)
def compOpd : Operand → Option Opd
  | .tmp t => if t < nt then some (.t t) else none
  | .const v => if flat v then some (.k v) else none
  | .global _ => none
  | .func f => some (.k (.func (.func (lab f)) #[] #[]))
def compOpds (l : List Operand) : Option (List Opd) := l.mapM (compOpd lab nt)
def compOptOpd : Option Operand → Option (Option Opd)
  | none => some none
  | some x => (compOpd lab nt x).map some
def isNilC (kind : Nat) : Operand → Bool
  | .const (.pointer none) => kind == 0
  | .const (.slice none 0 0) => kind == 1
  | .const .nilFunc => kind == 2
  | .const (.map none) => kind == 3
  | .const .nilIface => kind == 4
  | _ => false
def compNil (kind : Nat) (op : BinOp) (x y : Operand) : Option AOp :=
  if isNilC kind y then
    match op with
    | .eql => (compOpd lab nt x).map fun a => .eqNil kind false a
    | .neq => (compOpd lab nt x).map fun a => .eqNil kind true a
    | _ => none
  else none
def compBin (op : BinOp) (t : TypeId) (x y : Operand) : Option AOp :=
  match P.underlying t with
  | some (.int _) => (compOpd lab nt x).bind fun a => (compOpd lab nt y).map fun b => .bin op a b
  | some .bool => match op with
    | .eql => (compOpd lab nt x).bind fun a => (compOpd lab nt y).map fun b => .beq false a b
    | .neq => (compOpd lab nt x).bind fun a => (compOpd lab nt y).map fun b => .beq true a b
    | _ => none
  | some (.struct _) | some (.array _ _) =>
    match intT P 20 t with
    | some sh =>
      if P.eqGuardType P.depth t = false then
        match op with
        | .eql => (compOpd lab nt x).bind fun a => (compOpd lab nt y).map fun b => .eqv false sh a b
        | .neq => (compOpd lab nt x).bind fun a => (compOpd lab nt y).map fun b => .eqv true sh a b
        | _ => none
      else none
    | none => none
  | some .string => (compOpd lab nt x).bind fun a => (compOpd lab nt y).map fun b => .strOp op a b
  | some (.pointer _) => compNil lab nt 0 op x y
  | some (.slice _) => compNil lab nt 1 op x y
  | some (.func _ _ _) => compNil lab nt 2 op x y
  | some (.map _ _) => compNil lab nt 3 op x y
  | some (.interface _) => compNil lab nt 4 op x y
  | _ => none
def partPlace (t : TypeId) (i : Nat) : Option (Nat × Nat) :=
  match P.underlying t with
  | some (.struct fs) => match fs[i]? with
    | some f => (sz P f.type).map fun s => (f.offset, s)
    | none => none
  | some (.array _ e) => (sz P e).map fun s => (i * s, s)
  | _ => none
def allSized (t : TypeId) : Bool :=
  match P.underlying t with
  | some (.struct fs) => fs.toList.all fun f => (sz P f.type).isSome
  | some (.array _ e) => (sz P e).isSome
  | _ => false
def compParts (t : TypeId) : List (Nat × Operand) → Option (List (Nat × Nat × Opd))
  | [] => some []
  | (i, x) :: rest => match partPlace P t i, compOpd lab nt x, compParts t rest with
    | some (o, s), some a, some r => some ((o, s, a) :: r)
    | _, _, _ => none
def compParts1 : List (Nat × Operand) → Option (List (Nat × Opd))
  | [] => some []
  | (i, x) :: rest => match compOpd lab nt x, compParts1 rest with
    | some a, some r => some ((i, a) :: r)
    | _, _ => none
def elemOf (t : TypeId) : Option TypeId :=
  match P.underlying t with
  | some (.slice e) => some e
  | _ => none
def isBld (t : TypeId) : Bool := t == lab 3000000 && t != 0 && (match zeroOf P t with
  | some [.pointer none, .slice none 0 0] => true
  | _ => false)
def cwOf : Bool := Nat.beq (lab (1000000 + nt)) 99999
def heldOf (f : Opd) : Opd := if Nat.blt (lab (2000000 + nt)) 100000 then f else .t (lab (2000000 + nt) - 100000)
def Opd.isTmp : Opd → Bool
  | .t _ => true
  | .k _ => false
def compCall (c : Call) (ro : Bool) : Option AOp :=
  match c.callee with
  | .builtin .len => match c.args.toList, c.argTypes.toList with
    | [x], [t] => match P.underlying t with
      | some (.slice _) => (compOpd lab nt x).map fun a => .len a
      | some .string => (compOpd lab nt x).map fun a => .lenT a
      | some (.map _ _) => (compOpd lab nt x).map fun a => .lenM a
      | _ => none
    | _, _ => none
  | .builtin .clear => match c.args.toList, c.argTypes.toList with
    | [x], [t] => match P.underlying t with
      | some (.map _ _) => (compOpd lab nt x).map fun a => .clearM a
      | some (.slice e) => match zeroOf P e, compOpd lab nt x with
        | some z, some a => some (.clearS a z)
        | _, _ => none
      | _ => none
    | _, _ => none
  | .builtin .min => (compOpds lab nt c.args.toList).map fun l => .min l
  | .builtin .max => (compOpds lab nt c.args.toList).map fun l => .max l
  | .builtin .append => match c.args.toList, c.argTypes.toList with
    | [s, x], [t, t'] =>
      if t = t' then
        match elemOf P t with
        | some e => match P.info? e, zeroOf P e, compOpd lab nt s, compOpd lab nt x with
          | some i, some _, some a, some b => some (.append a b i.size i.bytes)
          | _, _, _, _ => none
        | none => none
      else match P.underlying t' with
        | some .string => match elemOf P t with
          | some e => if u8Ok P e then match compOpd lab nt s, compOpd lab nt x with
            | some a, some b => some (.appendT a b)
            | _, _ => none else none
          | none => none
        | _ => none
    | _, _ => none
  | .builtin .unsafeSliceData => match c.args.toList with
    | [x] => (compOpd lab nt x).map fun a => .sliceData a
    | _ => none
  | .builtin .unsafeString => match c.args.toList, c.argTypes.toList with
    | [p, n], [t, _] => match P.underlying t with
      | some (.pointer e) => if u8Ok P e then match compOpd lab nt p, compOpd lab nt n with
        | some a, some b => some (.mkStr a b)
        | _, _ => none else none
      | _ => none
    | _, _ => none
  | .builtin .copy => match c.args.toList, c.argTypes.toList with
    | [d, s], t :: _ => match elemOf P t with
      | some e => match sz P e, compOpd lab nt d, compOpd lab nt s with
        | some n, some a, some b => some (.copy a b n)
        | _, _, _ => none
      | none => none
    | _, _ => none
  | .value f => match compOpd lab nt f, compOpds lab nt c.args.toList with
    | some a, some l => some (if ro && cwOf lab nt && a.isTmp then .callC (heldOf lab nt a) a l else .call a l ro)
    | _, _ => none
  | _ => none
def compOp (ro : Bool) : Op → Option AOp
  | .move x => (compOpd lab nt x).map fun a => .move a
  | .assign x => (compOpd lab nt x).map fun a => .move a
  | .pick c a b => match compOpd lab nt c, compOpd lab nt a, compOpd lab nt b with
    | some c, some a, some b => some (.pick c a b)
    | _, _, _ => none
  | .nilCheck x => (compOpd lab nt x).map fun a => .nilCheck a
  | .binOp op t x y _ => compBin P lab nt op t x y
  | .unOp op _ x => match op with
    | .neg => (compOpd lab nt x).map fun a => .neg a
    | .not => (compOpd lab nt x).map fun a => .not a
    | _ => none
  | .convert src dst x => match P.underlying src, P.underlying dst with
    | some _, some (.int k) => (compOpd lab nt x).map fun a => .toInt k a
    | some _, some (.float .f64) => (compOpd lab nt x).map fun a => .toF64 a
    | some .string, some (.slice e) => match P.underlying e with
      | some (.int .u8) => (compOpd lab nt x).map fun a => .toBytes a
      | _ => none
    | some (.slice e), some .string => match P.underlying e with
      | some (.int .u8) => (compOpd lab nt x).map fun a => .toStr a
      | _ => none
    | _, _ => none
  | .makeFunc (.func f) first captured => match compOpds lab nt first.toList, compOpds lab nt captured.toList with
    | some a, some b => some (.makeFunc (lab f) a b)
    | _, _ => none
  | .build t parts => match zeroOf P t, compParts P lab nt t parts.toList with
    | some z, some l => if allSized P t then some (.build z l) else none
    | _, _ => none
  | .fieldAddr s x f => match P.underlying s with
    | some (.struct fs) => match fs[f]? with
      | some fd => match sz P fd.type, compOpd lab nt x with
        | some n, some a => if n = 0 then none else some (.fieldAddr a fd.offset)
        | _, _ => none
      | none => none
    | _ => none
  | .field s x f => match P.underlying s with
    | some (.struct fs) => match fs[f]? with
      | some fd => match cellsA P fd.type, compOpd lab nt x with
        | some n, some a => some (.field a fd.offset n)
        | _, _ => none
      | none => none
    | _ => none
  | .indexAddr t x i => match P.underlying t with
    | some (.slice e) => match sz P e, compOpd lab nt x, compOpd lab nt i with
      | some s, some a, some b => some (.idxS a b s)
      | _, _, _ => none
    | some (.array n e) => match sz P e, compOpd lab nt x, compOpd lab nt i with
      | some s, some a, some b => some (.idxA a b n s)
      | _, _, _ => none
    | _ => none
  | .index t x i => match P.underlying t with
    | some (.array n e) => match sz P e, isAggA P e, compOpd lab nt x, compOpd lab nt i with
      | some s, some ag, some a, some b => some (.index a b n s ag)
      | _, _, _, _ => none
    | some .string => match compOpd lab nt x, compOpd lab nt i with
      | some a, some b => some (.strIdx a b)
      | _, _ => none
    | _ => none
  | .slice t x lo hi none => match P.underlying t with
    | some .string => match compOpd lab nt x, compOptOpd lab nt lo, compOptOpd lab nt hi with
      | some a, some l, some h => some (.strSl a l h)
      | _, _, _ => none
    | _ => match elemOf P t with
    | some e => match sz P e, compOpd lab nt x, compOptOpd lab nt lo, compOptOpd lab nt hi with
      | some s, some a, some l, some h => some (.reslice a l h s)
      | _, _, _, _ => none
    | none => none
  | .slice t x (some l) (some h) (some m) => match elemOf P t with
    | some e => match sz P e, compOpd lab nt x, compOpd lab nt l, compOpd lab nt h, compOpd lab nt m with
      | some s, some a, some b, some c, some d => some (.reslice3 a b c d s)
      | _, _, _, _, _ => none
    | none => none
  | .extract x i => (compOpd lab nt x).map fun a => .extract a i
  | .alloc t => if isBld P lab t = true then some .allocB else (zeroOf P t).map fun z => .alloc z
  | .box _ x => (compOpd lab nt x).map fun a => .box a
  | .buildSlice t n parts => match elemOf P t with
    | some e => match sz P e, zeroOf P e, compParts1 lab nt parts.toList with
      | some s, some z, some l => if n * s ≤ 16777216 then some (.slit n s z l) else none
      | _, _, _ => none
    | none => none
  | .makeSlice t l c => match elemOf P t with
    | some e => match P.info? e, zeroOf P e, compOpd lab nt l, compOpd lab nt c with
      | some i, some z, some a, some b => some (.makeS a b i.size i.bytes z)
      | _, _, _, _ => none
    | none => none
  | .load t x => match cellsA P t, compOpd lab nt x with
    | some n, some a => some (.load a n)
    | _, _ => some .fail
  | .store t x v => match sz P t, compOpd lab nt x, compOpd lab nt v with
    | some n, some a, some b => some (.store a b n)
    | _, _, _ => none
  | .makeMap _ none => some .makeM
  | .lookup t x k ok => match P.underlying t with
    | some (.map kt el) => match keyT P kt, zeroV P el, compOpd lab nt x, compOpd lab nt k with
      | some n, some z, some a, some b => some (.lookup a b n z ok)
      | _, _, _, _ => none
    | _ => none
  | .mapUpdate t m k x => match P.underlying t with
    | some (.map kt _) => match keyT P kt, compOpd lab nt m, compOpd lab nt k, compOpd lab nt x with
      | some n, some a, some b, some c => some (.mapSet a b c n)
      | _, _, _, _ => none
    | _ => none
  | .insert t m k x => match P.underlying t with
    | some (.map kt _) => match keyT P kt, compOpd lab nt m, compOpd lab nt k, compOpd lab nt x with
      | some n, some a, some b, some c => some (.mapSet a b c n)
      | _, _, _, _ => none
    | _ => none
  | .call c => compCall P lab nt c ro
  | .range t x => match P.underlying t with
    | some (.map _ _) => (compOpd lab nt x).map fun a => .rangeI a
    | _ => some .fail
  | .next x false => (compOpd lab nt x).map fun a => .nextI a
  | .entry x => (compOpd lab nt x).map fun a => .entryI a
  | _ => some .fail
def isIter : Op → Bool
  | .range .. => true | .next .. => true | .entry .. => true
  | _ => false
def isCall : Op → Bool
  | .call { callee := .value _, .. } => true
  | _ => false
def dstOf (ops : List Oper) (i : Nat) : Option Nat := (ops[i]?).bind (·.dst)
def edgesOf (o : Oper) : List Nat := (o.after.toList.filter fun e => Region.binds .any e).map (·.on)
def addrOf (ops : List Oper) (i : Nat) : Option (Bool × Opd × Nat) :=
  match ops[i]? with
  | some o => match o.op with
    | .load t (.tmp x) => (cellsA P t).map fun n => (false, .t x, n.getD 1)
    | .store t (.tmp x) _ => (sz P t).map fun n => (true, .t x, n)
    | _ => none
  | none => none
def calleeT (ops : List Oper) (i : Nat) : Option Nat :=
  match ops[i]? with
  | some o => match o.op with
    | .call { callee := .value (.tmp f), .. } => some f
    | _ => none
  | none => none
def sliceT (ops : List Oper) (i : Nat) : Option Nat :=
  match ops[i]? with
  | some o => match o.op with
    | .call { callee := .builtin .append, args := ⟨.tmp x :: _⟩, .. } => some x
    | .call { callee := .builtin .copy, args := ⟨.tmp x :: _⟩, .. } => some x
    | _ => none
  | none => none
def slicePair (ops : List Oper) (i j : Nat) : List (Opd × Nat × Opd × Nat) :=
  match sliceT ops i, addrOf P ops j with
  | some f, some (false, a, n) => [(.t f, 0, a, n)]
  | _, _ => []
def slicePairs (ops : List Oper) (bef : List Nat) (i : Nat) : List Nat → List (Opd × Nat × Opd × Nat)
  | [] => []
  | j :: rest => (if ordered bef i j then [] else slicePair P ops i j ++ slicePair P ops j i) ++ slicePairs ops bef i rest
def heldPair (ops : List Oper) (i j : Nat) : List (Opd × Nat × Opd × Nat) :=
  match calleeT ops i, addrOf P ops j with
  | some f, some (false, a, n) => [(heldOf lab nt (.t f), 0, a, n)]
  | _, _ => []
def heldPairs (ops : List Oper) (bef : List Nat) (i : Nat) : List Nat → List (Opd × Nat × Opd × Nat)
  | [] => []
  | j :: rest => (if ordered bef i j then [] else heldPair P lab nt ops i j ++ heldPair P lab nt ops j i) ++ heldPairs ops bef i rest
def apartPairs (ops : List Oper) (bef : List Nat) (i : Nat) : List Nat → List (Opd × Nat × Opd × Nat)
  | [] => []
  | j :: rest =>
    match addrOf P ops i, addrOf P ops j with
    | some (s, a, n), some (s', b, m) => if !ordered bef i j && s != s' then (a, n, b, m) :: apartPairs ops bef i rest else apartPairs ops bef i rest
    | _, _ => apartPairs ops bef i rest
def aloneCall (ops : List Oper) (bef : List Nat) (i : Nat) : Bool :=
  (List.range ops.length).all fun j => j == i || ordered bef i j || match ops[j]? with
    | some o => match o.op with
      | .load .. => false
      | .store .. => false
      | .alloc .. => false
      | .box .. => false
      | .buildSlice .. => false
      | .makeSlice .. => false
      | .call { callee := .value _, .. } => false
      | .call { callee := .builtin .append, .. } => false
      | .call { callee := .builtin .copy, .. } => false
      | _ => true
    | none => true
def compGuard (ops : List Oper) : Option (Nat × Bool) → Option (Option (Nat × Bool))
  | none => some none
  | some (j, b) => match dstOf ops j with
    | some d => if d < nt then some (some (d, b)) else none
    | none => none
def compDst : Option Nat → Bool
  | none => true
  | some d => d < nt
def compOper (ops : List Oper) (ro : Bool) (ap : List (Opd × Nat × Opd × Nat)) (o : Oper) : Option AOper :=
  match compOp P lab nt ro o.op, compGuard nt ops o.guard with
  | some a, some g => if compDst nt o.dst then some ⟨o.dst, g, ap, a⟩ else none
  | _, _ => none
def compOpers (ops : List Oper) (draw : Bool) (bef : List Nat) : Nat → List Oper → Option (List AOper)
  | _, [] => some []
  | i, o :: rest => if (draw && isIter o.op) = true then none else match compOper P lab nt ops (draw && isCall o.op && !aloneCall ops bef i) (if draw then apartPairs P ops bef i (List.range i) ++ slicePairs P ops bef i (List.range i) ++ (if cwOf lab nt then heldPairs P lab nt ops bef i (List.range i) else []) else []) o, compOpers ops draw bef (i + 1) rest with
    | some a, some r => some (a :: r)
    | _, _ => none
def compCode : Code → Option ACode
  | .skip => some .skip
  | .region _ ops draw =>
    match compOpers P lab nt ops.toList draw (befA (ops.toList.map edgesOf)) 0 ops.toList with
    | some l => if !draw || drawOk l (ops.toList.map edgesOf) then some (.ops l) else none
    | none => none
  | .seq a b => match compCode a, compCode b with
    | some x, some y => some (.seq x y)
    | _, _ => none
  | .cond c a b => match compOpd lab nt c, compCode a, compCode b with
    | some z, some x, some y => some (.cond z x y)
    | _, _, _ => none
  | .block id c => (compCode c).map fun x => .block id x
  | .loop c => (compCode c).map fun x => .loop x
  | .exit id => some (.exit id)
  | .ret => some .ret
  | .label _ => some .skip
  | .rangeFunc f ps a b => match compOpd lab nt f, compCode a, compCode b with
    | some z, some x, some y => if ps.toList.all (fun p => decide (p < nt)) then some (.rangeF z ps.toList x y) else none
    | _, _, _ => none
  | _ => none
end
def compRes (P : Program) (nt : Nat) : ResultVar → Option ARes
  | .tmp t => if t < nt then some (.tmp t) else none
  | .cell a t => match cellsA P t with
    | some n => if a < nt then some (.cell a n) else none
    | none => none
def compFunc (P : Program) (lab : Nat → Nat) (fn : Func) : Option AFunc :=
  if fn.name == "runtime.NumGoroutine" then none else
  match fn.body with
  | some c => match compCode P lab fn.ntmps c, fn.results.toList.mapM (compRes P fn.ntmps) with
    | some x, some r => some (.fn fn.ntmps r x)
    | _, _ => some .lib
  | none => if fn.name == "math.sqrt" then some .sqrt else none
end Go.Ab
namespace Go.Ab
structure Env where
  P : Program
  lab : Nat → Nat
  AP : Nat → Option AFunc
  ok : ∀ f af, AP (lab f) = some af → ∃ fn, P.funcs[f]? = some fn ∧ compFunc P lab fn = some af
  sqrt : ∀ f, AP (lab f) = some .sqrt → ∃ fn, P.funcs[f]? = some fn ∧ (fn.name == "runtime.NumGoroutine") = false ∧ fn.body = none ∧ Extern.findNext fn = none ∧ Extern.find fn = some Extern.MathSqrt.sqrt
  mixed : P.follows .mixedOrders = true
  W0 : Array Obj := #[]
def Entered (E : Env) (h : Nat) : Prop := ∃ af, E.AP h = some af ∧ af.ent = true
theorem Entered.of {E : Env} {h : Nat} (hh : ∃ nt rs body, E.AP h = some (.fn nt rs body)) : Entered E h := by
  obtain ⟨nt, rs, body, h1⟩ := hh
  exact ⟨_, h1, rfl⟩
theorem ent_body {P : Program} {lab : Nat → Nat} {fn : Func} {af : AFunc} (h : compFunc P lab fn = some af) (he : af.ent = true) : ∃ c, fn.body = some c ∧ ¬ fn.name = "runtime.NumGoroutine" := by
  unfold compFunc at h
  split at h
  · cases h
  · rename_i hne
    split at h
    · rename_i c hb
      exact ⟨c, hb, by simpa using hne⟩
    · split at h <;> cases h
      cases he
structure Ent where
  blk : Nat
  off : Nat
  size : Nat
abbrev NM := Nat → Option Ent
inductive RelV (lab : Nat → Nat) (φ : NM) : Value → Value → Prop
  | bool (b : Bool) : RelV lab φ (.bool b) (.bool b)
  | int (k : IntKind) (n : Int) : RelV lab φ (.int k n) (.int k n)
  | float (k : FloatKind) (n : Nat) : RelV lab φ (.float k n) (.float k n)
  | string (s : ByteArray) : RelV lab φ (.string s) (.string s)
  | nilPtr : RelV lab φ (.pointer none) (.pointer none)
  | ptr {x o : Nat} {e : Ent} (h : φ x = some e) : RelV lab φ (.pointer (some ⟨x, o, none⟩)) (.pointer (some ⟨e.blk, e.off + o, none⟩))
  | nilSlice : RelV lab φ (.slice none 0 0) (.slice none 0 0)
  | slice {x o s n c q : Nat} {e : Ent} {a : Addr} (h : φ x = some e) (hn : n ≤ q) (hc : c ≤ q) (hq : q = 0 ∨ (a = ⟨e.blk, e.off + o, none⟩ ∧ e.off + o + q * s ≤ e.size)) :
      RelV lab φ (.slice (some ⟨x, o, some s⟩) n c) (.slice (some a) n q)
  | func {f f' : FuncId} {xs ys zs ws : Array Value} (hf : lab f' = f) (hs : xs.size = ys.size) (h : ∀ (i : Nat) v v', xs[i]? = some v → ys[i]? = some v' → RelV lab φ v v')
      (hs' : zs.size = ws.size) (h' : ∀ (i : Nat) v v', zs[i]? = some v → ws[i]? = some v' → RelV lab φ v v') : RelV lab φ (.func (.func f) xs zs) (.func (.func f') ys ws)
  | yield {x : Nat} {e : Ent} (h : φ x = some e) : RelV lab φ (.func (.yield x) #[] #[]) (.func (.yield e.blk) #[] #[])
  | nilFunc : RelV lab φ .nilFunc .nilFunc
  | nilIface : RelV lab φ .nilIface .nilIface
  | iface (t : TypeId) (v : Value) : RelV lab φ errV (.iface t v)
  | nilMap : RelV lab φ (.map none) (.map none)
  | map {x : Nat} {e : Ent} (h : φ x = some e) : RelV lab φ (.map (some x)) (.map (some e.blk))
  | agg {xs ys : Array Value} (hs : xs.size = ys.size) (h : ∀ (i : Nat) v v', xs[i]? = some v → ys[i]? = some v' → RelV lab φ v v') : RelV lab φ (.agg xs) (.agg ys)
  | tuple {xs ys : Array Value} (hs : xs.size = ys.size) (h : ∀ (i : Nat) v v', xs[i]? = some v → ys[i]? = some v' → RelV lab φ v v') : RelV lab φ (.tuple xs) (.tuple ys)
def Ext (φ φ' : NM) : Prop := ∀ x e, φ x = some e → φ' x = some e
theorem Ext.refl (φ : NM) : Ext φ φ := fun _ _ h => h
theorem Ext.trans {φ φ' φ'' : NM} (h : Ext φ φ') (h' : Ext φ' φ'') : Ext φ φ'' := fun x e hx => h' x e (h x e hx)
section
variable {lab : Nat → Nat}
theorem RelV.mono {φ φ' : NM} (hφ : Ext φ φ') {v v' : Value} (h : RelV lab φ v v') : RelV lab φ' v v' := by
  induction h with
  | bool b => exact .bool b
  | int k n => exact .int k n
  | float k n => exact .float k n
  | string s => exact .string s
  | nilPtr => exact .nilPtr
  | ptr h => exact .ptr (hφ _ _ h)
  | nilSlice => exact .nilSlice
  | slice h hn hc hq => exact .slice (hφ _ _ h) hn hc hq
  | func hf hs _ hs' _ ih ih' => exact .func hf hs ih hs' ih'
  | yield h => exact .yield (hφ _ _ h)
  | nilFunc => exact .nilFunc
  | nilIface => exact .nilIface
  | iface t v => exact .iface t v
  | nilMap => exact .nilMap
  | map h => exact .map (hφ _ _ h)
  | agg hs _ ih => exact .agg hs ih
  | tuple hs _ ih => exact .tuple hs ih
def RelL (lab : Nat → Nat) (φ : NM) (xs ys : List Value) : Prop := xs.length = ys.length ∧ ∀ (i : Nat) v v', xs[i]? = some v → ys[i]? = some v' → RelV lab φ v v'
theorem RelL.mono {φ φ' : NM} (hφ : Ext φ φ') {xs ys : List Value} (h : RelL lab φ xs ys) : RelL lab φ' xs ys := ⟨h.1, fun i v v' a b => (h.2 i v v' a b).mono hφ⟩
theorem RelL.get {φ : NM} {xs ys : List Value} (h : RelL lab φ xs ys) {i : Nat} {v : Value} (hv : xs[i]? = some v) : ∃ v', ys[i]? = some v' ∧ RelV lab φ v v' := by
  have hi : i < ys.length := by rw [← h.1]; exact (List.getElem?_eq_some_iff.1 hv).1
  exact ⟨ys[i], List.getElem?_eq_getElem hi, h.2 i _ _ hv (List.getElem?_eq_getElem hi)⟩
theorem RelL.nil {φ : NM} : RelL lab φ [] [] := ⟨rfl, fun i v v' h => by simp at h⟩
theorem RelL.cons {φ : NM} {x y : Value} {xs ys : List Value} (hx : RelV lab φ x y) (h : RelL lab φ xs ys) : RelL lab φ (x :: xs) (y :: ys) := by
  refine ⟨by simp [h.1], fun i v v' a b => ?_⟩
  cases i with
  | zero => simp at a b; subst a; subst b; exact hx
  | succ i => simp at a b; exact h.2 i v v' a b
theorem RelL.inv_cons {φ : NM} {x : Value} {xs ys : List Value} (h : RelL lab φ (x :: xs) ys) : ∃ y ys', ys = y :: ys' ∧ RelV lab φ x y ∧ RelL lab φ xs ys' := by
  cases ys with
  | nil => have := h.1; simp at this
  | cons y ys' => exact ⟨y, ys', rfl, h.2 0 x y rfl rfl, by have := h.1; simpa using this, fun i v v' a b => h.2 (i + 1) v v' (by simpa using a) (by simpa using b)⟩
theorem RelL.inv_nil {φ : NM} {ys : List Value} (h : RelL lab φ [] ys) : ys = [] := by
  have := h.1; simp at this; exact List.eq_nil_of_length_eq_zero this.symm
theorem RelL.append {φ : NM} {xs ys zs ws : List Value} (h : RelL lab φ xs ys) (h' : RelL lab φ zs ws) : RelL lab φ (xs ++ zs) (ys ++ ws) := by
  refine ⟨by simp [h.1, h'.1], fun i v v' a b => ?_⟩
  by_cases hi : i < xs.length
  · rw [List.getElem?_append_left hi] at a
    rw [List.getElem?_append_left (h.1 ▸ hi)] at b
    exact h.2 i v v' a b
  · rw [List.getElem?_append_right (by omega)] at a
    rw [List.getElem?_append_right (by have := h.1; omega)] at b
    rw [← h.1] at b
    exact h'.2 _ v v' a b
theorem RelL.drop {φ : NM} {xs ys : List Value} (h : RelL lab φ xs ys) (k : Nat) : RelL lab φ (xs.drop k) (ys.drop k) :=
  ⟨by simp [h.1], fun i v v' a b => by simp at a b; exact h.2 _ v v' a b⟩
theorem RelL.take {φ : NM} {xs ys : List Value} (h : RelL lab φ xs ys) (k : Nat) : RelL lab φ (xs.take k) (ys.take k) :=
  ⟨by simp [h.1], fun i v v' a b => by
    rw [List.getElem?_take] at a b
    split at a
    · rename_i hi; simp only [hi, if_true] at b; exact h.2 _ v v' a b
    · cases a⟩
theorem RelL.of_arrays {φ : NM} {xs ys : Array Value} (hs : xs.size = ys.size) (h : ∀ (i : Nat) v v', xs[i]? = some v → ys[i]? = some v' → RelV lab φ v v') : RelL lab φ xs.toList ys.toList :=
  ⟨by simpa using hs, fun i v v' a b => h i v v' (by simpa using a) (by simpa using b)⟩
theorem RelL.agg {φ : NM} {xs ys : Array Value} (h : RelL lab φ xs.toList ys.toList) : RelV lab φ (.agg xs) (.agg ys) :=
  .agg (by simpa using h.1) fun i v v' a b => h.2 i v v' (by simpa using a) (by simpa using b)
theorem RelL.tuple {φ : NM} {xs ys : Array Value} (h : RelL lab φ xs.toList ys.toList) : RelV lab φ (.tuple xs) (.tuple ys) :=
  .tuple (by simpa using h.1) fun i v v' a b => h.2 i v v' (by simpa using a) (by simpa using b)
theorem RelL.map {φ : NM} {α : Type} {f g : α → Value} {l : List α} (h : ∀ x ∈ l, RelV lab φ (f x) (g x)) : RelL lab φ (l.map f) (l.map g) :=
  ⟨by simp, fun i v v' a b => by
    simp only [List.getElem?_map, Option.map_eq_some_iff] at a b
    obtain ⟨x, hx, rfl⟩ := a
    obtain ⟨y, hy, rfl⟩ := b
    rw [hx] at hy; cases hy
    exact h x (List.mem_of_getElem? hx)⟩
theorem relV_simple {φ : NM} {v : Value} (h : simple v = true) : RelV lab φ v v := by
  cases v <;> simp [simple] at h
  case bool b => exact .bool b
  case int k n => exact .int k n
  case float k n => exact .float k n
  case string s => exact .string s
  case pointer a => cases a <;> simp at h; exact .nilPtr
  case slice a n c =>
    cases a with
    | some _ => simp at h
    | none => cases n <;> cases c <;> simp at h; exact .nilSlice
  case nilFunc => exact .nilFunc
  case nilIface => exact .nilIface
  case map r => cases r <;> simp at h; exact .nilMap
theorem relL_simple {φ : NM} {xs : List Value} (h : xs.all simple = true) : RelL lab φ xs xs :=
  ⟨rfl, fun i v v' a b => by
    rw [a] at b; cases b
    exact relV_simple (List.all_eq_true.1 h v (List.mem_of_getElem? a))⟩
theorem relV_flat {φ : NM} {v : Value} (h : flat v = true) : RelV lab φ v v := by
  unfold flat at h
  split at h
  · exact RelL.agg (relL_simple h)
  · exact RelL.tuple (relL_simple h)
  · exact relV_simple h
theorem RelV.cells {φ : NM} {v v' : Value} (h : RelV lab φ v v') : RelL lab φ v.cells.toList v'.cells.toList := by
  cases h with
  | agg hs hh => exact RelL.of_arrays hs hh
  | bool b => exact RelL.cons (.bool _) RelL.nil
  | int k n => exact RelL.cons (.int _ _) RelL.nil
  | float k n => exact RelL.cons (.float _ _) RelL.nil
  | string s => exact RelL.cons (.string _) RelL.nil
  | nilPtr => exact RelL.cons .nilPtr RelL.nil
  | ptr h => exact RelL.cons (.ptr h) RelL.nil
  | nilSlice => exact RelL.cons .nilSlice RelL.nil
  | slice h hn hc hq => exact RelL.cons (.slice h hn hc hq) RelL.nil
  | func hf hs h hs' h' => exact RelL.cons (.func hf hs h hs' h') RelL.nil
  | yield h => exact RelL.cons (.yield h) RelL.nil
  | nilFunc => exact RelL.cons .nilFunc RelL.nil
  | nilIface => exact RelL.cons .nilIface RelL.nil
  | iface t v => exact RelL.cons (.iface t v) RelL.nil
  | nilMap => exact RelL.cons .nilMap RelL.nil
  | map h => exact RelL.cons (.map h) RelL.nil
  | tuple hs hh => exact RelL.cons (.tuple hs hh) RelL.nil
theorem isCell_one {φ : NM} {v v' : Value} (h : RelV lab φ v v') (hc : isCell v = true) : v'.oneCell' = true := by
  cases h <;> simp [isCell, Value.oneCell'] at hc ⊢
theorem relV_undef {φ : NM} : RelV lab φ undef undef := .tuple rfl fun i v v' a => by simp at a
def RelT (lab : Nat → Nat) (φ : NM) (nt : Nat) (T : List Value) (tmps : Array Value) : Prop := nt ≤ tmps.size ∧ ∀ i, RelV lab φ (tget T i) (tmps.getD i undef)
theorem RelT.mono {φ φ' : NM} (hφ : Ext φ φ') {nt : Nat} {T : List Value} {tmps : Array Value} (h : RelT lab φ nt T tmps) : RelT lab φ' nt T tmps := ⟨h.1, fun i => (h.2 i).mono hφ⟩
theorem RelT.set {φ : NM} {nt d : Nat} {T : List Value} {tmps : Array Value} {v v' : Value} (h : RelT lab φ nt T tmps) (hd : d < nt) (hv : RelV lab φ v v') :
    RelT lab φ nt (tset T d v) (tmps.setIfInBounds d v') := by
  refine ⟨by simpa using h.1, fun i => ?_⟩
  have := h.1
  simp only [tget_tset, Array.getD_eq_getD_getElem?, Array.getElem?_setIfInBounds]
  by_cases hi : i = d
  · subst hi
    simp [show i < tmps.size by omega]; exact hv
  · simp only [if_neg hi, if_neg (Ne.symm hi)]
    have := h.2 i
    rwa [Array.getD_eq_getD_getElem?] at this
theorem RelT.put {φ : NM} {nt : Nat} {T : List Value} {a : Act} {v v' : Value} {dst : Option Nat} (h : RelT lab φ nt T a.tmps) (hd : compDst nt dst = true) (hv : RelV lab φ v v') :
    RelT lab φ nt (putA dst T v) (a.put dst v').tmps := by
  cases dst with
  | none => exact h
  | some d => exact h.set (by simpa [compDst] using hd) hv
theorem RelT.eval {φ : NM} {nt : Nat} {T : List Value} {a : Act} (h : RelT lab φ nt T a.tmps) {x : Operand} {y : Opd} (hc : compOpd lab nt x = some y) : RelV lab φ (ev T y) (a.eval x) := by
  cases x with
  | tmp t =>
    simp only [compOpd] at hc
    split at hc
    · cases hc; exact h.2 t
    · cases hc
  | const v =>
    simp only [compOpd] at hc
    split at hc
    · cases hc; exact relV_flat (by assumption)
    · cases hc
  | global g => simp [compOpd] at hc
  | func f =>
    simp only [compOpd] at hc
    cases hc
    exact .func rfl rfl (fun i v v' a => by simp at a) rfl (fun i v v' a => by simp at a)
theorem RelT.evals {φ : NM} {nt : Nat} {T : List Value} {a : Act} (h : RelT lab φ nt T a.tmps) {l : List Operand} {l' : List Opd} (hc : compOpds lab nt l = some l') :
    RelL lab φ (l'.map (ev T)) (l.map a.eval) := by
  induction l generalizing l' with
  | nil => simp [compOpds] at hc; subst hc; exact RelL.nil
  | cons x l ih =>
    simp only [compOpds, List.mapM_cons, Option.bind_eq_bind, Option.bind_eq_some_iff] at hc
    obtain ⟨y, hy, ys, hys, he⟩ := hc
    cases he
    exact RelL.cons (h.eval hy) (ih hys)
end
def ABlk.rw : ABlk → Bool
  | .cells _ ro => !ro
  | _ => true
def ABlk.own : ABlk → Bool
  | .cells _ ro => !ro
  | _ => true
theorem ABlk.own_of_rw {b : ABlk} (h : b.rw = true) : b.own = true := by
  cases b <;> simp_all [ABlk.rw, ABlk.own]
def roAt (A : Hp) (x : Nat) : Prop := ∃ b, A.get x = some b ∧ b.rw = false
theorem not_ro {A : Hp} {x : Nat} {b : ABlk} (h : A.get x = some b) (hb : b.rw = true) : ¬ roAt A x := fun ⟨b', h1, h2⟩ => by rw [h] at h1; cases h1; rw [hb] at h2; cases h2
inductive RelM (lab : Nat → Nat) (φ : NM) : List (Value × Value) → List MapEntry → Prop
  | nil : RelM lab φ [] []
  | cons {k v : Value} {l : List (Value × Value)} {en : MapEntry} {es : List MapEntry} : en.key = k → flat k = true → RelV lab φ v en.val → RelM lab φ l es → RelM lab φ ((k, v) :: l) (en :: es)
theorem RelM.mono {lab : Nat → Nat} {φ φ' : NM} (hφ : Ext φ φ') {l : List (Value × Value)} {es : List MapEntry} (h : RelM lab φ l es) : RelM lab φ' l es := by
  induction h with
  | nil => exact .nil
  | cons h1 h0 h2 _ ih => exact .cons h1 h0 (h2.mono hφ) ih
def KeysAp (l : List (Value × Value)) : Prop := l.Pairwise fun a b => keyEq a.1 b.1 = some false
def CRel (lab : Nat → Nat) (φ : NM) (cs : List Value) (c : Array Value) (off : Nat) : Prop := ∀ (i : Nat) v, cs[i]? = some v → ∃ v', c[off + i]? = some v' ∧ RelV lab φ v v'
def pendCode : Option Nat → Code
  | none => .ret
  | some id => .exit id
section
variable (E : Env)
def RelB (φ : NM) (w : World) (b : ABlk) (e : Ent) : Prop :=
  match b with
  | .cells cs ro => ∃ c el fr, w.heap[e.blk]? = some (.cells c el fr) ∧ c.size = e.size ∧ e.off + cs.length ≤ e.size ∧ (ro = false → fr = (0, 0)) ∧ CRel E.lab φ cs c e.off
  | .loop r => ∃ r' nt, w.heap[e.blk]? = some (.loop r') ∧ r'.state = r.state ∧ r'.pending = r.pending.map pendCode ∧ r'.params.toList = r.params ∧ (∀ p ∈ r.params, p < nt) ∧
      compCode E.P E.lab nt r'.assign = some r.assign ∧ compCode E.P E.lab nt r'.body = some r.body ∧ RelT E.lab φ nt r.tmps r'.tmps
  | .marks => w.heap[e.blk]? = some (.deferred (some []))
  | .map l lk => ∃ es clock l', w.heap[e.blk]? = some (.map es clock) ∧ Go.MapKept.Stamped es clock ∧ l'.Perm l ∧ KeysAp l ∧ RelM E.lab φ l' es.toList ∧ ∀ gh, lk = some gh → gh = (es, clock)
  | .iter gh => w.heap[e.blk]? = some (.mapIter gh.1 gh.2.1 gh.2.2.1 gh.2.2.2)
  | .bld p v => ∃ p' v', w.heap[e.blk]? = some (.cells #[p', v'] (E.lab 3000000) (0, 0)) ∧ e.off = 0 ∧ e.size = 2 ∧ RelV E.lab φ p p' ∧ RelV E.lab φ v v'
  | .bytes l => ∃ c, w.heap[e.blk]? = some (.cells c (u8Id E.P) (0, 0)) ∧ c.size = e.size ∧ e.off = 0 ∧ l.length ≤ e.size ∧ ∀ (i : Nat) b, l[i]? = some b → c[i]? = some (.int .u8 b.toNat)
structure Fix (φ : NM) (A : Hp) (w : World) : Prop where
  same : ∀ b, b < E.W0.size → w.heap[b]? = E.W0[b]?
  ro : ∀ x e, φ x = some e → e.blk < E.W0.size → roAt A x
structure Rel (lim : Nat) (φ : NM) (A : Hp) (w : World) : Prop where
  dom : ∀ x e, φ x = some e → x < A.n ∨ lim ≤ x
  wf : ∀ x e, φ x = some e → e.blk < w.heap.size
  blk : ∀ x b e, A.get x = some b → φ x = some e → RelB E φ w b e
  sep : ∀ x y b c ex ey, x ≠ y → A.get x = some b → A.get y = some c → φ x = some ex → φ y = some ey → b.own = true → ex.blk ≠ ey.blk
  fix : Fix E φ A w
structure Post (lim : Nat) (φ : NM) (A : Hp) (w : World) (lo : Nat) (φ' : NM) (A' : Hp) (w' : World) : Prop where
  ext : Ext φ φ'
  dom : ∀ x e, φ' x = some e → φ x = some e ∨ (A.n ≤ x ∧ x < A'.n)
  len : A.n ≤ A'.n
  rel : Rel E lim φ' A' w'
  size : w.heap.size ≤ w'.heap.size
  frame : ∀ b, b < w.heap.size → (∀ x e, φ x = some e → e.blk = b → x < lo ∨ lim ≤ x ∨ roAt A x) → w'.heap[b]? = w.heap[b]?
  fresh : ∀ x e, φ' x = some e → φ x = none → w.heap.size ≤ e.blk ∨ ∃ y ey, φ y = some ey ∧ lo ≤ y ∧ y < lim ∧ ¬ roAt A y ∧ ey.blk = e.blk
  ro : ∀ x, roAt A x → roAt A' x
  env : w'.os = w.os ∧ w'.output = w.output ∧ w'.tape = w.tape
end
section
variable {E : Env}
theorem CRel.mono {lab : Nat → Nat} {φ φ' : NM} (hφ : Ext φ φ') {cs : List Value} {c : Array Value} {off : Nat} (h : CRel lab φ cs c off) : CRel lab φ' cs c off :=
  fun i v hv => let ⟨v', a, b⟩ := h i v hv; ⟨v', a, b.mono hφ⟩
theorem RelB.mono {φ φ' : NM} (hφ : Ext φ φ') {w w' : World} {b : ABlk} {e : Ent} (hw : w'.heap[e.blk]? = w.heap[e.blk]?) (h : RelB E φ w b e) : RelB E φ' w' b e := by
  cases b with
  | cells cs ro => obtain ⟨c, el, fr, h1, h2, h4, h5, h6⟩ := h; exact ⟨c, el, fr, hw.trans h1, h2, h4, h5, h6.mono hφ⟩
  | loop r => obtain ⟨r', nt, h1, h2, h3, h4, h5, h6, h7, h8⟩ := h; exact ⟨r', nt, hw.trans h1, h2, h3, h4, h5, h6, h7, h8.mono hφ⟩
  | marks => exact hw.trans h
  | map l lk => obtain ⟨es, clock, l', h1, h2, h3, h4, h5, h6⟩ := h; exact ⟨es, clock, l', hw.trans h1, h2, h3, h4, h5.mono hφ, h6⟩
  | iter gh => exact hw.trans h
  | bytes l => obtain ⟨c, h1, h2⟩ := h; exact ⟨c, hw.trans h1, h2⟩
  | bld p v => obtain ⟨p', v', h1, h2, h3, h4, h5⟩ := h; exact ⟨p', v', hw.trans h1, h2, h3, h4.mono hφ, h5.mono hφ⟩
theorem Fix.le {φ : NM} {A : Hp} {w : World} (h : Fix E φ A w) : E.W0.size ≤ w.heap.size := by
  rcases Nat.lt_or_ge w.heap.size E.W0.size with h1 | h1
  · have := h.same w.heap.size h1
    simp [Array.getElem?_eq_getElem h1] at this
  · exact h1
theorem Fix.out {φ : NM} {A : Hp} {w : World} (h : Fix E φ A w) {x : Nat} {e : Ent} (hx : φ x = some e) (hr : ¬ roAt A x) : E.W0.size ≤ e.blk :=
  Nat.le_of_not_lt fun hl => hr (h.ro x e hx hl)
theorem Fix.of {φ φ' : NM} {A A' : Hp} {w w' : World} (h : Fix E φ A w) (hw : ∀ b, b < E.W0.size → w'.heap[b]? = w.heap[b]?) (hro : ∀ x e, φ x = some e → roAt A x → roAt A' x)
    (hn : ∀ x e, φ' x = some e → φ x = some e ∨ E.W0.size ≤ e.blk) : Fix E φ' A' w' :=
  ⟨fun b hb => (hw b hb).trans (h.same b hb), fun x e hx hb => (hn x e hx).elim (fun h1 => hro x e h1 (h.ro x e h1 hb)) fun h1 => by omega⟩
theorem Fix.ro_mono {φ : NM} {A A' : Hp} {w w' : World} (h : Fix E φ A w) (hw : ∀ b, b < E.W0.size → w'.heap[b]? = w.heap[b]?) (hro : ∀ x, roAt A x → roAt A' x) : Fix E φ A' w' :=
  ⟨fun b hb => (hw b hb).trans (h.same b hb), fun x e hx hb => hro x (h.ro x e hx hb)⟩
theorem Post.refl {lim : Nat} {φ : NM} {A : Hp} {w : World} {lo : Nat} (h : Rel E lim φ A w) : Post E lim φ A w lo φ A w :=
  ⟨Ext.refl φ, fun _ _ h => .inl h, Nat.le_refl _, h, Nat.le_refl _, fun _ _ _ => rfl, fun x e h h' => (by rw [h] at h'; cases h'), fun _ h => h, rfl, rfl, rfl⟩
theorem Post.trans {lim : Nat} {φ φ1 φ2 : NM} {A A1 A2 : Hp} {w w1 w2 : World} {lo : Nat}
    (h1 : Post E lim φ A w lo φ1 A1 w1) (h2 : Post E lim φ1 A1 w1 lo φ2 A2 w2) : Post E lim φ A w lo φ2 A2 w2 := by
  refine ⟨h1.ext.trans h2.ext, ?_, Nat.le_trans h1.len h2.len, h2.rel, Nat.le_trans h1.size h2.size, ?_, ?_, ?_, ?_⟩
  · intro x e h
    have hl1 := h1.len
    have hl2 := h2.len
    rcases h2.dom x e h with h | h
    · rcases h1.dom x e h with h | h
      · exact .inl h
      · exact .inr (by omega)
    · exact .inr (by omega)
  · intro b hb H
    rw [h2.frame b (Nat.lt_of_lt_of_le hb h1.size) ?_, h1.frame b hb H]
    intro x e hx he
    cases hx0 : φ x with
    | some e0 =>
      have := h1.ext x e0 hx0
      rw [hx] at this; cases this
      exact (H x e hx0 he).imp id (Or.imp id (h1.ro x))
    | none =>
      rcases h1.fresh x e hx hx0 with h | ⟨y, ey, hy, hlo, hlim, hnro, hb'⟩
      · omega
      · rcases H y ey hy (hb'.trans he) with h | h | h
        · omega
        · omega
        · exact absurd h hnro
  · intro x e hx hn
    cases hx1 : φ1 x with
    | some e1 =>
      have := h2.ext x e1 hx1
      rw [hx] at this; cases this
      exact h1.fresh x e hx1 hn
    | none =>
      rcases h2.fresh x e hx hx1 with h | ⟨y, ey, hy, hlo, hlim, hnro, hb'⟩
      · exact .inl (Nat.le_trans h1.size h)
      · cases hy0 : φ y with
        | some e0 =>
          have := h1.ext y e0 hy0
          rw [hy] at this; cases this
          exact .inr ⟨y, ey, hy0, hlo, hlim, fun h => hnro (h1.ro y h), hb'⟩
        | none =>
          rcases h1.fresh y ey hy hy0 with h | ⟨z, ez, hz, hloz, hlimz, hnroz, hbz⟩
          · exact .inl (hb' ▸ h)
          · exact .inr ⟨z, ez, hz, hloz, hlimz, hnroz, hbz.trans hb'⟩
  · exact fun x h => h2.ro x (h1.ro x h)
  · exact ⟨h2.env.1.trans h1.env.1, h2.env.2.1.trans h1.env.2.1, h2.env.2.2.trans h1.env.2.2⟩
theorem Post.of_still {lim : Nat} {φ φ' : NM} {A A' : Hp} {w w' : World} (hR : Rel E lim φ A w) (h : Post E lim φ A w A.n φ' A' w') (g : Nat) : Post E lim φ A w g φ' A' w' :=
  ⟨h.ext, h.dom, h.len, h.rel, h.size, fun b hb _ => h.frame b hb fun x e hx _ => (hR.dom x e hx).imp id .inl,
   fun x e hx hn => .inl ((h.fresh x e hx hn).resolve_right fun ⟨y, ey, hy, hlo, hlim, _⟩ => by have := hR.dom y ey hy; omega), h.ro, h.env⟩
end
end Go.Ab
namespace Go.Ab
section
variable {E : Env} {lim : Nat}
def OpOk (E : Env) (lim : Nat) (o : Oper) (φ : NM) (A : Hp) (w : World) (a : Act) (g : Nat) (v : Value) (A' : Hp) : Prop :=
  ∃ v' w' φ', ((execOp a.eval o).run E.P w = .ok (.value v') w' ∨ ((execOp a.eval o).run E.P w = .ok .skip w' ∧ v' = undef)) ∧ RelV E.lab φ' v v' ∧ Post E lim φ A w g φ' A' w'
theorem OpOk.of_pure {o : Oper} {φ : NM} {A A' : Hp} {w : World} {a : Act} {g : Nat} {v v' : Value} (hA : A = A') (hR : Rel E lim φ A w)
    (h : (execOp a.eval o).run E.P w = .ok (.value v') w) (hv : RelV E.lab φ v v') : OpOk E lim o φ A w a g v A' :=
  ⟨v', w, φ, .inl h, hv, hA ▸ Post.refl hR⟩
theorem pureV_some {r : Option Value} {A A' : Hp} {v : Value} (h : pureV r A = some (v, A')) : r = some v ∧ A = A' := by
  cases r with
  | none => simp [pureV] at h
  | some u => simp [pureV] at h; exact ⟨by rw [h.1], h.2⟩
variable {φ : NM}
theorem int_inv {k : IntKind} {n : Int} {v : Value} (h : RelV E.lab φ (.int k n) v) : v = .int k n := by cases h; rfl
theorem bool_inv {b : Bool} {v : Value} (h : RelV E.lab φ (.bool b) v) : v = .bool b := by cases h; rfl
theorem float_inv {k : FloatKind} {b : Nat} {v : Value} (h : RelV E.lab φ (.float k b) v) : v = .float k b := by cases h; rfl
theorem string_inv {s : ByteArray} {v : Value} (h : RelV E.lab φ (.string s) v) : v = .string s := by cases h; rfl
theorem ptr_inv {x o : Nat} {v : Value} (h : RelV E.lab φ (.pointer (some ⟨x, o, none⟩)) v) : ∃ e, φ x = some e ∧ v = .pointer (some ⟨e.blk, e.off + o, none⟩) := by
  cases h with | ptr h => exact ⟨_, h, rfl⟩
theorem slice_inv {x o s n c : Nat} {v : Value} (h : RelV E.lab φ (.slice (some ⟨x, o, some s⟩) n c) v) :
    ∃ e ad q, φ x = some e ∧ n ≤ q ∧ c ≤ q ∧ (q = 0 ∨ (ad = ⟨e.blk, e.off + o, none⟩ ∧ e.off + o + q * s ≤ e.size)) ∧ v = .slice (some ad) n q := by
  cases h with | slice h hn hc hq => exact ⟨_, _, _, h, hn, hc, hq, rfl⟩
theorem nilSlice_inv {n c : Nat} {v : Value} (h : RelV E.lab φ (.slice none n c) v) : n = 0 ∧ c = 0 ∧ v = .slice none 0 0 := by cases h; exact ⟨rfl, rfl, rfl⟩
theorem agg_inv {xs : Array Value} {v : Value} (h : RelV E.lab φ (.agg xs) v) : ∃ ys, v = .agg ys ∧ RelL E.lab φ xs.toList ys.toList := by
  cases h with | agg hs hh => exact ⟨_, rfl, RelL.of_arrays hs hh⟩
theorem tuple_inv {xs : Array Value} {v : Value} (h : RelV E.lab φ (.tuple xs) v) : ∃ ys, v = .tuple ys ∧ RelL E.lab φ xs.toList ys.toList := by
  cases h with | tuple hs hh => exact ⟨_, rfl, RelL.of_arrays hs hh⟩
theorem sizeOf_run {P : Program} {t : TypeId} {n : Nat} (h : sz P t = some n) (w : World) : (sizeOf t).run P w = .ok n w := by
  unfold sz at h
  cases hi : P.info? t with
  | none => simp [hi] at h
  | some i => simp [hi] at h; simp [sizeOf, typeInfo, hi, h]
theorem isAgg_run {P : Program} {t : TypeId} {b : Bool} (h : isAggA P t = some b) (w : World) : (isAgg t).run P w = .ok b w := by
  unfold isAggA at h
  cases hu : P.underlying t with
  | none => simp [hu] at h
  | some d => cases d <;> simp [hu] at h <;> subst h <;> simp [isAgg, run_underlying hu]
theorem zeroOf_inv {P : Program} {t : TypeId} {z : List Value} (h : zeroOf P t = some z) :
    ∃ i u, P.info? t = some i ∧ i.zero = some u ∧ u.cells.toList = z ∧ z.all simple = true ∧ z.length = i.size := by
  unfold zeroOf at h
  cases hi : P.info? t with
  | none => simp [hi] at h
  | some i =>
    cases hz : i.zero with
    | none => simp [hi, hz] at h
    | some u =>
      simp only [hi, hz, Option.bind_some] at h
      split at h
      · rename_i hc
        cases h
        exact ⟨i, u, rfl, hz, rfl, hc.1, hc.2⟩
      · cases h
theorem zeroValue_run {P : Program} {t : TypeId} {i : TypeInfo} {u : Value} (hi : P.info? t = some i) (hz : i.zero = some u) (w : World) : (zeroValue t).run P w = .ok u w := by
  simp [zeroValue, typeInfo, hi, hz]
theorem cellsA_none {P : Program} {t : TypeId} (h : cellsA P t = some none) : isAggA P t = some false := by
  unfold cellsA at h
  split at h
  · cases hs : sz P t <;> simp [hs] at h
  · assumption
  · cases h
theorem cellsA_some {P : Program} {t : TypeId} {n : Nat} (h : cellsA P t = some (some n)) : isAggA P t = some true ∧ sz P t = some n := by
  unfold cellsA at h
  split at h
  · cases hs : sz P t with
    | none => simp [hs] at h
    | some m => simp [hs] at h; exact ⟨by assumption, by rw [h]⟩
  · cases h
  · cases h
theorem part_run {P : Program} {t : TypeId} {cs : List Value} {ys : Array Value} {off : Nat} {n : Option Nat} {v : Value} (hc : cellsA P t = some n)
    (h : partA cs off n = some v) (hr : RelL E.lab φ cs ys.toList) (w : World) : ∃ v', (part t ys off).run P w = .ok v' w ∧ RelV E.lab φ v v' := by
  cases n with
  | none =>
    simp only [partA] at h
    obtain ⟨v', hv', hrel⟩ := hr.get h
    refine ⟨v', ?_, hrel⟩
    simp only [part, Sem.run_bind, isAgg_run (cellsA_none hc), Result.andThen_ok]
    simp at hv'
    simp [hv']
  | some s =>
    obtain ⟨h1, h2⟩ := cellsA_some hc
    simp only [partA] at h
    split at h
    · rename_i hle
      cases h
      refine ⟨.agg (ys.extract off (off + s)), ?_, ?_⟩
      · simp [part, isAgg_run h1, sizeOf_run h2]
      · apply RelL.agg
        have : (ys.extract off (off + s)).toList = (ys.toList.drop off).take s := by
          simp [Array.toList_extract, List.extract]
        rw [this]
        exact (hr.drop off).take s
    · cases h
theorem intA_run {P : Program} {op : BinOp} {k : IntKind} {x y : Int} {r : Value} (h : intA op k x y = some r) (t : TypeId) (w : World) :
    (binOp op t (.int k x) (.int k y)).run P w = .ok r w := by
  unfold intA at h
  cases op <;> simp only [wr_eq] at h
  case add => cases h; simp [binOp, Op.intArith]
  case sub => cases h; simp [binOp, Op.intArith]
  case mul => cases h; simp [binOp, Op.intArith]
  case quo =>
    split at h
    · cases h
    · cases h; simp [binOp, Op.intDiv, *]
  case rem =>
    split at h
    · cases h
    · cases h; simp [binOp, Op.intDiv, *]
  case and => cases h; simp [binOp, Op.intBits]
  case or => cases h; simp [binOp, Op.intBits]
  case xor => cases h; simp [binOp, Op.intBits]
  case andNot => cases h; simp [binOp, Op.intBits]
  case eql => cases h; simp [binOp, Op.intCmp]
  case neq => cases h; simp [binOp, Op.intCmp]
  case lss => cases h; simp [binOp, Op.intCmp]
  case leq => cases h; simp [binOp, Op.intCmp]
  case gtr => cases h; simp [binOp, Op.intCmp]
  case geq => cases h; simp [binOp, Op.intCmp]
  all_goals cases h
theorem shA_run {P : Program} {left : Bool} {k k' : IntKind} {x y : Int} {r : Value} (h : shA left k x y = some r) (t : TypeId) (w : World) :
    (binOp (if left then .shl else .shr) t (.int k x) (.int k' y)).run P w = .ok r w := by
  unfold shA at h
  split at h
  · cases h
  · rename_i hy
    cases h
    cases left <;> simp [binOp, Op.shift, hy]
theorem binA_ints {op : BinOp} {u v r : Value} (h : binA op u v = some r) : ∃ k k' x y, u = .int k x ∧ v = .int k' y := by
  unfold binA at h
  split at h
  · exact ⟨_, _, _, _, rfl, rfl⟩
  · cases h
theorem binA_run {P : Program} {op : BinOp} {u v r : Value} (h : binA op u v = some r) (t : TypeId) (w : World) : (binOp op t u v).run P w = .ok r w := by
  obtain ⟨k, k', x, y, rfl, rfl⟩ := binA_ints h
  unfold binA at h
  simp only at h
  split at h
  · exact shA_run (left := true) h t w
  · exact shA_run (left := false) h t w
  · split at h
    · rename_i hk
      rw [kEq_iff] at hk
      subst hk
      exact intA_run h t w
    · cases h
theorem intA_flat {op : BinOp} {k : IntKind} {x y : Int} {r : Value} (h : intA op k x y = some r) : simple r = true := by
  unfold intA at h
  cases op <;> simp only at h
  case quo => split at h <;> cases h; rfl
  case rem => split at h <;> cases h; rfl
  all_goals (cases h; try rfl)
theorem binA_flat {op : BinOp} {u v r : Value} (h : binA op u v = some r) : simple r = true := by
  obtain ⟨k, k', x, y, rfl, rfl⟩ := binA_ints h
  unfold binA at h
  simp only at h
  split at h
  · unfold shA at h; split at h <;> cases h; rfl
  · unfold shA at h; split at h <;> cases h; rfl
  · split at h
    · exact intA_flat h
    · cases h
theorem eqGuard_int (op : BinOp) (t : TypeId) (x y : Operand) (k : IntKind) (n : Int) (v : Value) : eqGuard op t x y (.int k n) v = pure () := eqGuard_at_int op t x y v k n
end
end Go.Ab
namespace Go.Ab
def isAggV : Value → Bool
  | .agg _ => true
  | _ => false
theorem eqCells_nil {xs ys : List Value} {r : Bool} (h : eqCells [] xs ys = some r) : xs = [] ∧ ys = [] ∧ r = true := by
  cases xs <;> cases ys <;> simp [eqCells] at h ⊢
  exact h
theorem eqCells_cons {b : Nat} {s : List Nat} {xs ys : List Value} {r : Bool} (h : eqCells (b :: s) xs ys = some r) :
    ∃ x xs' y ys' e r', xs = x :: xs' ∧ ys = y :: ys' ∧ cellEq b x y = some e ∧ eqCells s xs' ys' = some r' ∧ r = (e && r') := by
  cases xs with
  | nil => simp [eqCells] at h
  | cons x xs' =>
    cases ys with
    | nil => simp [eqCells] at h
    | cons y ys' =>
      simp only [eqCells] at h
      split at h
      · rename_i e r' h1 h2
        cases h
        exact ⟨x, xs', y, ys', e, r', rfl, rfl, h1, h2, rfl⟩
      · cases h
theorem eqCells_append {s1 s2 : List Nat} : ∀ {xs ys : List Value} {r : Bool}, eqCells (s1 ++ s2) xs ys = some r →
    ∃ r1 r2, eqCells s1 (xs.take s1.length) (ys.take s1.length) = some r1 ∧ eqCells s2 (xs.drop s1.length) (ys.drop s1.length) = some r2 ∧ r = (r1 && r2) := by
  induction s1 with
  | nil => intro xs ys r h; exact ⟨true, r, by simp [eqCells], by simpa using h, by simp⟩
  | cons b s1 ih =>
    intro xs ys r h
    obtain ⟨x, xs', y, ys', e, r', rfl, rfl, h1, h2, rfl⟩ := eqCells_cons h
    obtain ⟨r1, r2, h3, h4, rfl⟩ := ih h2
    exact ⟨e && r1, r2, by simp [eqCells, h1, h3], by simpa using h4, by simp [Bool.and_assoc]⟩
theorem eqCells_length {s : List Nat} : ∀ {xs ys : List Value} {r : Bool}, eqCells s xs ys = some r → xs.length = s.length ∧ ys.length = s.length := by
  induction s with
  | nil => intro xs ys r h; obtain ⟨rfl, rfl, _⟩ := eqCells_nil h; exact ⟨rfl, rfl⟩
  | cons b s ih =>
    intro xs ys r h
    obtain ⟨x, xs', y, ys', e, r', rfl, rfl, h1, h2, rfl⟩ := eqCells_cons h
    have := ih h2
    exact ⟨by simp [this.1], by simp [this.2]⟩
theorem strEq_iff {a b : ByteArray} : strEq a b = true ↔ a = b := by
  unfold strEq
  constructor
  · intro h
    have h1 : a.data.toList = b.data.toList := by simpa using h
    obtain ⟨x⟩ := a
    obtain ⟨y⟩ := b
    have : x = y := Array.toList_inj.1 h1
    rw [this]
  · rintro rfl; simp
theorem cellEq_int {x y : Value} {r : Bool} (h : cellEq 0 x y = some r) : ∃ k a b, x = .int k a ∧ y = .int k b ∧ r = (a == b) := by
  unfold cellEq at h
  split at h
  · split at h
    · rename_i hk; rw [kEq_iff] at hk; subst hk; cases h; exact ⟨_, _, _, rfl, rfl, rfl⟩
    · cases h
  · rename_i heq; cases heq
  · rename_i heq; cases heq
  · cases h
theorem cellEq_bool {x y : Value} {r : Bool} (h : cellEq 1 x y = some r) : ∃ a b, x = .bool a ∧ y = .bool b ∧ r = (a == b) := by
  unfold cellEq at h
  split at h
  · rename_i heq; cases heq
  · cases h; exact ⟨_, _, rfl, rfl, rfl⟩
  · rename_i heq; cases heq
  · cases h
theorem cellEq_str {x y : Value} {r : Bool} (h : cellEq 2 x y = some r) : ∃ a b, x = .string a ∧ y = .string b ∧ r = strEq a b := by
  unfold cellEq at h
  split at h
  · rename_i heq; cases heq
  · rename_i heq; cases heq
  · cases h; exact ⟨_, _, rfl, rfl, rfl⟩
  · cases h
theorem cellEq_kind {c : Nat} {x y : Value} {r : Bool} (h : cellEq c x y = some r) : c = 0 ∨ c = 1 ∨ c = 2 := by
  unfold cellEq at h
  split at h
  · exact .inl rfl
  · exact .inr (.inl rfl)
  · exact .inr (.inr rfl)
  · cases h
theorem run_equalIn_str {P : Program} (w : World) (d : Nat) (t : TypeId) (a b : ByteArray) (h : P.underlying t = some .string) : (Op.equalIn (d + 1) t (.string a) (.string b)).run P w = .ok (strEq a b) w := by
  have e : (a == b) = strEq a b := by rw [Bool.eq_iff_iff, Go.MapKept.bytes_beq, strEq_iff]
  rw [← e]
  simp [Op.equalIn, run_underlying h]
def Formed (P : Program) (t : TypeId) (v : Value) : Prop := isAggA P t = some (isAggV v)
theorem part_at {P : Program} {t : TypeId} {ag : Bool} {n : Nat} (ha : isAggA P t = some ag) (hs : sz P t = some n) (h1 : ag = false → n = 1) (xs : Array Value) (off : Nat) (hb : off + n ≤ xs.size)
    (hx : ∀ v, v ∈ xs → isAggV v = false) (w : World) : ∃ v, (part t xs off).run P w = .ok v w ∧ Formed P t v ∧ v.cells.toList = (xs.toList.drop off).take n := by
  cases ag with
  | true => exact ⟨.agg (xs.extract off (off + n)), by simp [part, isAgg_run ha, sizeOf_run hs], ha, by simp [Value.cells, Array.toList_extract, List.extract]⟩
  | false =>
    have := h1 rfl
    subst this
    have hlt : off < xs.size := by omega
    refine ⟨xs[off], by simp [part, isAgg_run ha, hlt], ?_, ?_⟩
    · unfold Formed; rw [hx xs[off] (Array.getElem_mem _)]; exact ha
    · have hv := hx xs[off] (Array.getElem_mem _)
      have hc : xs[off].cells = #[xs[off]] := by
        generalize xs[off] = v at hv
        cases v <;> first | rfl | simp [isAggV] at hv
      rw [hc, List.drop_eq_getElem_cons (by simpa using hlt)]
      simp
theorem intT_leaf {P : Program} {d : Nat} {t : TypeId} {s : List Nat} (h : intT P d t = some s) : ∃ ag, isAggA P t = some ag ∧ (ag = false → s.length = 1) := by
  cases d with
  | zero => simp [intT] at h
  | succ d =>
    unfold intT at h
    unfold isAggA
    split at h
    · rename_i hu; rw [hu]; cases h; exact ⟨false, rfl, fun _ => rfl⟩
    · rename_i hu; rw [hu]; cases h; exact ⟨false, rfl, fun _ => rfl⟩
    · rename_i hu; rw [hu]; cases h; exact ⟨false, rfl, fun _ => rfl⟩
    · rename_i hu; rw [hu]; exact ⟨true, rfl, fun h => by cases h⟩
    · rename_i hu; rw [hu]; exact ⟨true, rfl, fun h => by cases h⟩
    · cases h
theorem eqCells_noagg {s : List Nat} : ∀ {xs ys : List Value} {r : Bool}, eqCells s xs ys = some r → (∀ v ∈ xs, isAggV v = false) ∧ (∀ v ∈ ys, isAggV v = false) := by
  induction s with
  | nil => intro xs ys r h; obtain ⟨rfl, rfl, _⟩ := eqCells_nil h; simp
  | cons b s ih =>
    intro xs ys r h
    obtain ⟨x, xs', y, ys', e, r', rfl, rfl, h1, h2, rfl⟩ := eqCells_cons h
    obtain ⟨h3, h4⟩ := ih h2
    have : isAggV x = false ∧ isAggV y = false := by
      rcases cellEq_kind h1 with rfl | rfl | rfl
      · obtain ⟨_, _, _, rfl, rfl, _⟩ := cellEq_int h1; exact ⟨rfl, rfl⟩
      · obtain ⟨_, _, rfl, rfl, _⟩ := cellEq_bool h1; exact ⟨rfl, rfl⟩
      · obtain ⟨_, _, rfl, rfl, _⟩ := cellEq_str h1; exact ⟨rfl, rfl⟩
    simp only [List.mem_cons, forall_eq_or_imp]
    exact ⟨⟨this.1, h3⟩, this.2, h4⟩
theorem equalIn_run {P : Program} : ∀ (d : Nat) (t : TypeId) (s : List Nat), intT P d t = some s → ∀ (x y : Value), Formed P t x → Formed P t y →
    ∀ r, eqCells s x.cells.toList y.cells.toList = some r → ∀ (m : Nat) (w : World), (Op.equalIn (d + m) t x y).run P w = .ok r w := by
  intro d
  induction d with
  | zero => intro t s h; simp [intT] at h
  | succ d ih =>
    intro t s h x y fx fy r he m w
    rw [show d + 1 + m = (d + m) + 1 by omega]
    have single : ∀ v : Value, isAggV v = false → v.cells = #[v] := fun v hv => by cases v <;> first | rfl | simp [isAggV] at hv
    have hagg : ∀ v : Value, isAggV v = true → ∃ xs, v = .agg xs := fun v hv => by cases v <;> simp [isAggV] at hv; exact ⟨_, rfl⟩
    unfold intT at h
    unfold Formed at fx fy
    split at h
    · rename_i k hu
      cases h
      have fx' : isAggV x = false := by have := fx; simp [isAggA, hu] at this; exact this
      have fy' : isAggV y = false := by have := fy; simp [isAggA, hu] at this; exact this
      rw [single x fx', single y fy'] at he
      obtain ⟨_, _, _, _, e, r', h1, h2, h3, h4, rfl⟩ := eqCells_cons he
      simp at h1 h2
      obtain ⟨rfl, rfl⟩ := h1
      obtain ⟨rfl, rfl⟩ := h2
      obtain ⟨_, _, rfl⟩ := eqCells_nil h4
      obtain ⟨k', a, b, rfl, rfl, rfl⟩ := cellEq_int h3
      rw [run_equalIn_int w (d + m) t k' k a b hu]; simp
    · rename_i hu
      cases h
      have fx' : isAggV x = false := by have := fx; simp [isAggA, hu] at this; exact this
      have fy' : isAggV y = false := by have := fy; simp [isAggA, hu] at this; exact this
      rw [single x fx', single y fy'] at he
      obtain ⟨_, _, _, _, e, r', h1, h2, h3, h4, rfl⟩ := eqCells_cons he
      simp at h1 h2
      obtain ⟨rfl, rfl⟩ := h1
      obtain ⟨rfl, rfl⟩ := h2
      obtain ⟨_, _, rfl⟩ := eqCells_nil h4
      obtain ⟨a, b, rfl, rfl, rfl⟩ := cellEq_bool h3
      rw [run_equalIn_bool' w (d + m) t a b hu]; simp
    · rename_i hu
      cases h
      have fx' : isAggV x = false := by have := fx; simp [isAggA, hu] at this; exact this
      have fy' : isAggV y = false := by have := fy; simp [isAggA, hu] at this; exact this
      rw [single x fx', single y fy'] at he
      obtain ⟨_, _, _, _, e, r', h1, h2, h3, h4, rfl⟩ := eqCells_cons he
      simp at h1 h2
      obtain ⟨rfl, rfl⟩ := h1
      obtain ⟨rfl, rfl⟩ := h2
      obtain ⟨_, _, rfl⟩ := eqCells_nil h4
      obtain ⟨a, b, rfl, rfl, rfl⟩ := cellEq_str h3
      rw [run_equalIn_str w (d + m) t a b hu]; simp
    · rename_i n e hu
      split at h
      · rename_i se hse
        split at h
        · rename_i hsz
          cases h
          obtain ⟨xs, rfl⟩ := hagg x (by have := fx; simp [isAggA, hu] at this; exact this)
          obtain ⟨ys, rfl⟩ := hagg y (by have := fy; simp [isAggA, hu] at this; exact this)
          obtain ⟨i, hi⟩ : ∃ i, P.info? e = some i := by
            unfold sz at hsz; cases hi : P.info? e with
            | none => simp [hi] at hsz
            | some i => exact ⟨i, rfl⟩
          rw [run_equalIn_array w (d + m) xs ys hu hi]
          have hcell : P.cellsOf e = se.length := by unfold sz at hsz; simp [Program.cellsOf, hsz]
          rw [hcell]
          obtain ⟨ag, hag, hag1⟩ := intT_leaf hse
          simp only [Value.cells] at he
          have hlen := eqCells_length he
          have hno := eqCells_noagg he
          simp only [Array.length_toList, List.length_flatten, List.map_replicate, List.sum_replicate_nat] at hlen
          have key : ∀ (k j : Nat) (r : Bool), j + k = n → eqCells (List.replicate k se).flatten (xs.toList.drop (j * se.length)) (ys.toList.drop (j * se.length)) = some r →
              (Op.eqItems (d + m) e se.length xs ys (List.range' j k)).run P w = .ok r w := by
            intro k
            induction k with
            | zero =>
              intro j r _ h
              simp only [List.replicate_zero, List.flatten_nil] at h
              obtain ⟨_, _, rfl⟩ := eqCells_nil h
              simp [Op.eqItems]
            | succ k ihk =>
              intro j r hj h
              rw [List.replicate_succ, List.flatten_cons] at h
              obtain ⟨r1, r2, h1, h2, rfl⟩ := eqCells_append h
              have hjb : j * se.length + se.length ≤ n * se.length := by
                have : (j + 1) * se.length ≤ n * se.length := Nat.mul_le_mul_right _ (by omega)
                rwa [Nat.add_mul, Nat.one_mul] at this
              obtain ⟨a, pa, fa, ca⟩ := part_at hag hsz hag1 xs (j * se.length) (by omega) (fun v hv => hno.1 v (by simpa using hv)) w
              obtain ⟨b, pb, fb, cb⟩ := part_at hag hsz hag1 ys (j * se.length) (by omega) (fun v hv => hno.2 v (by simpa using hv)) w
              have hr := ih e se hse a b fa fb r1 (by rw [ca, cb]; exact h1) m w
              rw [List.range'_succ]
              simp only [Op.eqItems, Sem.run_bind, pa, pb, hr, Result.andThen_ok]
              cases r1 with
              | false => simp
              | true =>
                have := ihk (j + 1) r2 (by omega) (by
                  rw [List.drop_drop, List.drop_drop] at h2
                  rw [show (j + 1) * se.length = j * se.length + se.length by rw [Nat.add_mul, Nat.one_mul]]
                  exact h2)
                simpa using this
          have := key n 0 r (by omega) (by simpa using he)
          rwa [← List.range_eq_range'] at this
        · cases h
      · cases h
    · rename_i fs hu
      split at h
      · rename_i hc
        obtain ⟨hnames, hst⟩ := hc
        obtain ⟨xs, rfl⟩ := hagg x (by have := fx; simp [isAggA, hu] at this; exact this)
        obtain ⟨ys, rfl⟩ := hagg y (by have := fy; simp [isAggA, hu] at this; exact this)
        have hfs : P.fieldsOf t = fs := by simp [Program.fieldsOf, hu]
        rw [run_equalIn_struct w (d + m) t xs ys (by rw [hfs]; exact hu) hst, hfs]
        simp only [Value.cells] at he
        have hlen := eqCells_length he
        have hno := eqCells_noagg he
        simp only [Array.length_toList] at hlen
        have key : ∀ (l : List Field) (acc : List Nat) (r : Bool), (∀ f ∈ l, f.name ≠ "_") →
            l.foldlM (fun acc f => if f.offset = acc.length then (intT P d f.type).bind fun s => if sz P f.type = some s.length then some (acc ++ s) else none else none) acc = some s →
            (∀ rest, s = acc ++ rest → eqCells rest (xs.toList.drop acc.length) (ys.toList.drop acc.length) = some r → (Op.eqFields (d + m) xs ys l).run P w = .ok r w) ∧ ∃ rest, s = acc ++ rest := by
          intro l
          induction l with
          | nil =>
            intro acc r _ h
            simp at h
            subst h
            refine ⟨fun rest hrest h => ?_, [], by simp⟩
            have : rest = [] := by simpa using hrest
            subst this
            obtain ⟨_, _, rfl⟩ := eqCells_nil h
            simp [Op.eqFields]
          | cons f l ihl =>
            intro acc r hn h
            rw [List.foldlM_cons] at h
            simp only [Option.bind_eq_bind, Option.bind_eq_some_iff] at h
            obtain ⟨acc', ha, h⟩ := h
            split at ha
            · rename_i hoff
              simp only [Option.bind_eq_some_iff] at ha
              obtain ⟨sf, hsf, ha⟩ := ha
              split at ha
              · rename_i hszf
                cases ha
                have hrec := fun r => ihl (acc ++ sf) r (fun g hg => hn g (by simp [hg])) h
                obtain ⟨rest', hrest'⟩ := (hrec r).2
                refine ⟨fun rest hrest he => ?_, sf ++ rest', by rw [hrest', List.append_assoc]⟩
                have hre : rest = sf ++ rest' := by
                  rw [hrest', List.append_assoc] at hrest
                  exact (List.append_cancel_left hrest).symm
                subst hre
                obtain ⟨r1, r2, h1, h2, rfl⟩ := eqCells_append he
                obtain ⟨ag, hag, hag1⟩ := intT_leaf hsf
                have hb : acc.length + sf.length ≤ s.length := by rw [hrest]; simp
                obtain ⟨a, pa, fa, ca⟩ := part_at hag hszf hag1 xs acc.length (by omega) (fun v hv => hno.1 v (by simpa using hv)) w
                obtain ⟨b, pb, fb, cb⟩ := part_at hag hszf hag1 ys acc.length (by omega) (fun v hv => hno.2 v (by simpa using hv)) w
                have hr := ih f.type sf hsf a b fa fb r1 (by rw [ca, cb]; exact h1) m w
                simp only [Op.eqFields, hn f (by simp), ne_eq, not_false_eq_true, if_true, Sem.run_bind, hoff, pa, pb, hr, Result.andThen_ok]
                cases r1 with
                | false => simp
                | true =>
                  have := (hrec r2).1 rest' hrest' (by
                    rw [List.drop_drop, List.drop_drop] at h2
                    rw [List.length_append]
                    exact h2)
                  simpa using this
              · cases ha
            · cases ha
        exact (key fs.toList [] r (fun f hf => by have := List.all_eq_true.1 hnames f hf; simpa using this) h).1 s rfl (by simpa using he)
      · cases h
    · cases h
end Go.Ab
