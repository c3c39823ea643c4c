/- Rows of small numbers among a law's arguments. -/
import Derived.Test.YtmppgcknmmmioaaGreatDoorZ07
import Derived.Test.YtmppgcknmmmioaaGreatDoorZ10
import Derived.Test.YtmppgcknmmmioaaGreatDoorZ11
import Derived.Test.YtmppgcknmmmioaaGreatDoorZ12
import Derived.ProofKit
import Derived.OpenShut
import Derived.Below
import Derived.Deep.Slices
import Derived.DataShut
set_option linter.unusedSimpArgs false
set_option linter.unusedVariables false
set_option linter.unusedSectionVars false
namespace Go.Ab
def OLe {α : Type} (x y : Option α) : Prop := ∀ r, x = some r → y = some r
theorem OLe.refl {α : Type} (x : Option α) : OLe x x := fun _ h => h
theorem OLe.none {α : Type} (y : Option α) : OLe none y := fun _ h => by cases h
def RLe (a b : RunFn) : Prop := ∀ g rd st, OLe (a g rd st) (b g rd st)
def CLe (a b : CallFn) : Prop := ∀ g f args A, OLe (a g f args A) (b g f args A)
def FLe (a b : Nat → Nat → List Value → Hp → Option (Value × Hp)) : Prop := ∀ g f args A, OLe (a g f args A) (b g f args A)
theorem opA_mono {cv cv' : CallFn} (h : CLe cv cv') (op : AOp) (g : Nat) (T : List Value) (A : Hp) : OLe (opA op cv g T A) (opA op cv' g T A) := by
  cases op <;> first | exact OLe.refl _ | exact h _ _ _ _ | skip
  case callC c f args =>
    intro r hr
    obtain ⟨v, A'⟩ := r
    obtain ⟨h1, h2⟩ := stillBut_some hr
    exact stillBut_of (h _ _ _ _ _ h1) h2
theorem operA_mono {cv cv' : CallFn} (h : CLe cv cv') {n n' : List Value → Hp → Option (List Value × Hp)} (hn : ∀ T A, OLe (n T A) (n' T A)) (o : AOper) (g : Nat) (T : List Value) (A : Hp) :
    OLe (operA o n cv g T A) (operA o n' cv' g T A) := by
  intro r hr
  unfold operA at hr ⊢
  split at hr
  · rename_i h1
    rw [if_pos h1]
    split at hr
    · rename_i h2
      rw [if_pos h2]
      split at hr
      · rename_i v A' hv
        rw [opA_mono h _ _ _ _ _ hv]
        rw [forceV_eq] at hr
        simp only [forceV_eq]
        exact hn _ _ _ hr
      · cases hr
    · cases hr
  · rename_i h1
    rw [if_neg h1]
    exact hn _ _ _ hr
theorem opsA_mono {cv cv' : CallFn} (h : CLe cv cv') (g : Nat) : ∀ (l : List AOper) (T : List Value) (A : Hp), OLe (opsA cv g l T A) (opsA cv' g l T A) := by
  intro l
  induction l with
  | nil => intro T A; exact OLe.refl _
  | cons o l ih => intro T A; rw [opsA_cons, opsA_cons]; exact operA_mono h ih o g T A
theorem finishA_mono {rs : List ARes} {x y : Option (Ex × St)} (h : OLe x y) : OLe (finishA rs x) (finishA rs y) := by
  intro r hr
  cases x with
  | none => cases hr
  | some p => rw [h p rfl]; exact hr
theorem enterA_mono {a b : ACode → RunFn} (h : ∀ c, RLe (a c) (b c)) (g : Nat) (args : List Value) (A : Hp) (f : Option AFunc) : OLe (enterA a g args A f) (enterA b g args A f) := by
  intro r hr
  unfold enterA at hr ⊢
  split at hr
  · exact finishA_mono (h _ _ _ _) _ hr
  · exact hr
  · cases hr
  · cases hr
section
variable {AP : Nat → Option AFunc} {K : Nat → Option Spec} {a b : ACode → RunFn}
theorem callF_mono (h : ∀ c, RLe (a c) (b c)) : FLe (callF AP K a) (callF AP K b) := by
  intro g f args A r hr
  unfold callF at hr ⊢
  split at hr
  · exact hr
  · exact enterA_mono h _ _ _ _ _ hr
theorem endRound_mono {l : Nat} {x y : Option (Ex × St)} (h : OLe x y) : OLe (endRoundA l x) (endRoundA l y) := by
  intro r hr
  cases x with
  | none => cases hr
  | some p => rw [h p rfl]; exact hr
theorem beginRound_mono (h : ∀ c, RLe (a c) (b c)) {g l : Nat} {body : ACode} {x y : Option (Ex × St)} (hx : OLe x y) : OLe (beginRoundA a g l body x) (beginRoundA b g l body y) := by
  intro r hr
  cases x with
  | none => cases hr
  | some p =>
    rw [hx p rfl]
    unfold beginRoundA at hr ⊢
    split at hr
    · rename_i st1 he
      cases he
      split at hr
      · rename_i r1 h1
        split at hr
        · rename_i h2
          exact endRound_mono (h _ _ _ _) _ hr
        · cases hr
      · cases hr
    · cases hr
theorem yieldA_mono (h : ∀ c, RLe (a c) (b c)) (g l : Nat) (args : List Value) (A : Hp) : OLe (yieldA a g l args A) (yieldA b g l args A) := by
  intro r hr
  unfold yieldA at hr ⊢
  split at hr
  · rename_i r1 h1
    split at hr
    · rename_i h2
      rw [if_pos h2]
      exact beginRound_mono h (h _ _ _ _) _ hr
    · cases hr
  · cases hr
theorem callV_mono (h : ∀ c, RLe (a c) (b c)) : CLe (callV AP K a) (callV AP K b) := by
  intro g f args A r hr
  unfold callV at hr ⊢
  split at hr
  · exact callF_mono h _ _ _ _ _ hr
  · exact yieldA_mono h _ _ _ _ _ hr
  · cases hr
end
theorem seqA_mono {a b : RunFn} (h : RLe a b) {g : Nat} {rd : Option Nat} {x y : Option (Ex × St)} (hx : OLe x y) : OLe (seqA a g rd x) (seqA b g rd y) := by
  intro r hr
  cases x with
  | none => cases hr
  | some p =>
    rw [hx p rfl]
    obtain ⟨ex, st⟩ := p
    cases ex with
    | normal => exact h _ _ _ _ hr
    | exit i => exact hr
    | ret => exact hr
theorem condA_mono {a a' b b' : RunFn} (h : RLe a a') (h' : RLe b b') (g : Nat) (rd : Option Nat) (st : St) (v : Value) : OLe (condA a b g rd st v) (condA a' b' g rd st v) := by
  intro r hr
  unfold condA at hr ⊢
  split at hr
  · exact h _ _ _ _ hr
  · exact h' _ _ _ _ hr
  · cases hr
theorem inBlk_mono {id : Nat} {x y : Option (Ex × St)} (h : OLe x y) : OLe (inBlk id x) (inBlk id y) := by
  intro r hr
  cases x with
  | none => cases hr
  | some p => rw [h p rfl]; exact hr
theorem iterA_mono {a b : RunFn} (h : RLe a b) : ∀ {m m' : Nat}, m ≤ m' → RLe (iterA a m) (iterA b m') := by
  intro m
  induction m with
  | zero => intro m' _ g rd st r hr; cases hr
  | succ m ih =>
    intro m' hm g rd st r hr
    obtain ⟨k, rfl⟩ : ∃ k, m' = k + 1 := ⟨m' - 1, by omega⟩
    exact seqA_mono (ih (by omega)) (h _ _ _) _ hr
theorem endLoopA_mono {l : Nat} {T : List Value} {D : List Nat} {x y : Option (Value × Hp)} (h : OLe x y) : OLe (endLoopA l T D x) (endLoopA l T D y) := by
  intro r hr
  cases x with
  | none => cases hr
  | some p => rw [h p rfl]; exact hr
theorem rangeA_mono {cf cf' : Nat → Nat → List Value → Hp → Option (Value × Hp)} (h : FLe cf cf') (ps : List Nat) (asg body : ACode) (g : Nat) (rd : Option Nat) (st : St) (v : Value) :
    OLe (rangeA cf ps asg body g rd st v) (rangeA cf' ps asg body g rd st v) := by
  intro r hr
  unfold rangeA at hr ⊢
  split at hr
  · split at hr
    · exact endLoopA_mono (h _ _ _ _) _ hr
    · split at hr
      · exact endLoopA_mono (h _ _ _ _) _ hr
      · cases hr
  · cases hr
theorem codeA_mono {cv cv' : CallFn} {cf cf' : Nat → Nat → List Value → Hp → Option (Value × Hp)} (hv : CLe cv cv') (hf : FLe cf cf') {m m' : Nat} (hm : m ≤ m') : ∀ c, RLe (codeA cv cf m c) (codeA cv' cf' m' c) := by
  intro c
  induction c with
  | skip => intro g rd st; exact OLe.refl _
  | ops l =>
    intro g rd st r hr
    change (opsA cv g l st.T st.A).map _ = _ at hr
    change (opsA cv' g l st.T st.A).map _ = _
    rw [Option.map_eq_some_iff] at hr ⊢
    obtain ⟨p, hp, he⟩ := hr
    exact ⟨p, opsA_mono hv _ _ _ _ _ hp, he⟩
  | seq a b iha ihb => intro g rd st; exact seqA_mono ihb (iha _ _ _)
  | cond c a b iha ihb => intro g rd st; exact condA_mono iha ihb _ _ _ _
  | block id c ih => intro g rd st; exact inBlk_mono (ih _ _ _)
  | loop c ih => exact iterA_mono ih hm
  | exit id => intro g rd st; exact OLe.refl _
  | ret => intro g rd st; exact OLe.refl _
  | rangeF f ps a b iha ihb => intro g rd st; exact rangeA_mono hf _ _ _ _ _ _ _
theorem exec_mono {AP : Nat → Option AFunc} {K : Nat → Option Spec} {m m' : Nat} (hm : m ≤ m') : ∀ {d d' : Nat}, d ≤ d' → ∀ c, RLe (exec AP K m d c) (exec AP K m' d' c) := by
  intro d
  induction d with
  | zero => intro d' _ c g rd st r hr; cases hr
  | succ d ih =>
    intro d' hd c
    obtain ⟨k, rfl⟩ : ∃ k, d' = k + 1 := ⟨d' - 1, by omega⟩
    exact codeA_mono (callV_mono (ih (by omega))) (callF_mono (ih (by omega))) hm c
end Go.Ab
namespace Go.Ab
section
variable {E : Env} {K : Nat → Option Spec}
end
end Go.Ab
namespace Go.Ab
def AccS (N : Nat) (A : Hp) (esz : Nat) (cs : List Value) (sv : Value) : Prop :=
  (sv = .slice none 0 0 ∧ cs = []) ∨ ∃ b n, sv = .slice (some ⟨b, 0, some esz⟩) n n ∧ A.get b = some (.cells cs false) ∧ N ≤ b ∧ cs.length = n * esz ∧ 0 < n
theorem AccS.nil {N : Nat} {A : Hp} {esz : Nat} : AccS N A esz [] (.slice none 0 0) := .inl ⟨rfl, rfl⟩
theorem AccS.mono {N : Nat} {A A' : Hp} {esz : Nat} {cs : List Value} {sv : Value} (h : AccS N A esz cs sv) (hA : ∀ x, x < A.n → A'.get x = A.get x) : AccS N A' esz cs sv := by
  rcases h with h | ⟨b, n, h1, h2, h3, h4, h5⟩
  · exact .inl h
  · exact .inr ⟨b, n, h1, by rw [hA b (Hp.lt_of_get h2)]; exact h2, h3, h4, h5⟩
theorem AccS.len {N : Nat} {A : Hp} {esz : Nat} {cs : List Value} {sv : Value} (h : AccS N A esz cs sv) : ∃ n : Nat, lenV sv = some (.int .i64 n) ∧ cs.length = n * esz := by
  rcases h with ⟨rfl, rfl⟩ | ⟨b, n, rfl, _, _, h4, _⟩
  · exact ⟨0, rfl, by simp⟩
  · exact ⟨n, rfl, h4⟩
theorem append_acc {N g : Nat} {A : Hp} {esz bytes y n : Nat} {cs new : List Value} {ro : Bool} {sv : Value} (h : AccS N A esz cs sv) (hg : g ≤ N) (hN : N ≤ A.n) (hy : A.get y = some (.cells new ro)) (hnew : new.length = esz) (hesz : 0 < esz)
    (hcell : new.all isCell = true) (hl : cs.length = n * esz) (hroom : (n + 1) * bytes ≤ room ∧ n + 1 ≤ room) :
    ∃ sv' A', appendA g A esz bytes sv (.slice (some ⟨y, 0, some esz⟩) 1 1) = some (sv', A') ∧ AccS N A' esz (cs ++ new) sv' ∧ (∀ z, z < N → A'.get z = A.get z) ∧ A'.n = A.n + 1 := by
  have hcells : cellsAt A (1 * esz) (.slice (some ⟨y, 0, some esz⟩) 1 1) = some new := by
    simp only [cellsAt, hy, Nat.one_mul]
    rw [if_pos (by omega)]
    subst hnew
    simp
  rcases h with ⟨rfl, rfl⟩ | ⟨b, k, rfl, hb, hNb, hk, hk0⟩
  · have hn : n = 0 := by
      rcases Nat.eq_zero_or_pos n with h | h
      · exact h
      · have := Nat.mul_pos h hesz
        simp only [List.length_nil] at hl
        omega
    subst hn
    refine ⟨.slice (some ⟨A.n, 0, some esz⟩) 1 1, A.push (.cells new false), ?_, .inr ⟨A.n, 1, rfl, by rw [Hp.get_push, if_pos rfl]; simp, hN, by simp [hnew], by omega⟩, fun z hz => by rw [Hp.get_push, if_neg (by omega)], rfl⟩
    have hr : 1 * bytes ≤ room ∧ 1 ≤ room := by simpa using hroom
    unfold appendA
    simp only [hcells]
    rw [if_pos ⟨hcell, hesz⟩]
    simp only [if_neg (show ¬ (1 = 0) by decide)]
    rw [if_pos hr]
  · have hkn : k = n := Nat.eq_of_mul_eq_mul_right hesz (hk.symm.trans hl)
    subst hkn
    refine ⟨.slice (some ⟨A.n, 0, some esz⟩) (k + 1) (k + 1), (A.set b none).push (.cells (cs ++ new) false), ?_, .inr ⟨A.n, k + 1, rfl, by rw [Hp.get_push, Hp.n_set, if_pos rfl], hN, by simp [hnew, hk, Nat.add_mul], by omega⟩,
      fun z hz => by rw [Hp.get_push, Hp.n_set, if_neg (by omega), Hp.get_set hb, if_neg (by omega)], rfl⟩
    unfold appendA
    simp only [hcells]
    rw [if_pos ⟨hcell, hesz⟩]
    simp only [if_neg (show ¬ (1 = 0) by decide), hb]
    rw [if_pos ⟨by omega, hroom.1, hroom.2, trivial⟩, if_pos (by omega)]
    simp
end Go.Ab
namespace Go.Ab
section
variable (AP : Nat → Option AFunc) (K : Nat → Option Spec)
def W (g : Nat) (rd : Option Nat) (c : ACode) (st : St) (Q : Ex → St → Prop) : Prop := ∃ m d ex st', exec AP K m d c g rd st = some (ex, st') ∧ Q ex st'
def WF (g f : Nat) (args : List Value) (A : Hp) (Q : Value → Hp → Prop) : Prop := ∃ m d v A', callF AP K (exec AP K m d) g f args A = some (v, A') ∧ Q v A'
def WV (g : Nat) (f : Value) (args : List Value) (A : Hp) (Q : Value → Hp → Prop) : Prop := ∃ m d v A', callV AP K (exec AP K m d) g f args A = some (v, A') ∧ Q v A'
def WO (g : Nat) (l : List AOper) (T : List Value) (A : Hp) (R : List Value → Hp → Prop) : Prop := ∃ m d T' A', opsA (callV AP K (exec AP K m d)) g l T A = some (T', A') ∧ R T' A'
def WP (g : Nat) (op : AOp) (T : List Value) (A : Hp) (Q : Value → Hp → Prop) : Prop := ∃ m d v A', opA op (callV AP K (exec AP K m d)) g T A = some (v, A') ∧ Q v A'
def SeqQ (g : Nat) (rd : Option Nat) (b : ACode) (Q : Ex → St → Prop) : Ex → St → Prop
  | .normal, st => W AP K g rd b st Q
  | .ret, st => Q .ret st
  | .exit i, st => Q (.exit i) st
def PutQ (g : Nat) (dst : Option Nat) (l : List AOper) (T : List Value) (R : List Value → Hp → Prop) (v : Value) (A : Hp) : Prop := WO AP K g l (putA dst T v) A R
def CondW (g : Nat) (rd : Option Nat) (a b : ACode) (st : St) (Q : Ex → St → Prop) : Value → Prop
  | .bool true => W AP K g rd a st Q
  | .bool false => W AP K g rd b st Q
  | _ => False
def GuardW (g : Nat) (dst : Option Nat) (op : AOp) (l : List AOper) (T : List Value) (A : Hp) (R : List Value → Hp → Prop) (b : Bool) : Value → Prop
  | .bool b' => if b' = b then WP AP K g op T A (PutQ AP K g dst l T R) else WO AP K g l (putA dst T undef) A R
  | _ => WO AP K g l (putA dst T undef) A R
def ApartW (g : Nat) (o : AOper) (l : List AOper) (T : List Value) (A : Hp) (R : List Value → Hp → Prop) : Bool → Prop
  | true => WO AP K g ({ o with apart := [] } :: l) T A R
  | false => False
end
def BlkQ (id : Nat) (Q : Ex → St → Prop) : Ex → St → Prop
  | .normal, st => Q .normal st
  | .ret, st => Q .ret st
  | .exit i, st => if i = id then Q .normal st else Q (.exit i) st
def OpsQ (D : List Nat) (Q : Ex → St → Prop) (T : List Value) (A : Hp) : Prop := Q .normal ⟨T, D, A⟩
def PureQ (A : Hp) (Q : Value → Hp → Prop) : Option Value → Prop
  | some v => Q v A
  | none => False
def HeapQ (Q : Value → Hp → Prop) : Option (Value × Hp) → Prop
  | some (v, A) => Q v A
  | none => False
def FinQ (rs : List ARes) (Q : Value → Hp → Prop) : Ex → St → Prop
  | .exit _, _ => False
  | .normal, st => match takeMarks st.A st.D with
    | some A' => PureQ A' Q (resA rs st.T A')
    | none => False
  | .ret, st => match takeMarks st.A st.D with
    | some A' => PureQ A' Q (resA rs st.T A')
    | none => False
section
variable {AP : Nat → Option AFunc} {K : Nat → Option Spec} {g : Nat} {rd : Option Nat} {st : St} {T : List Value} {D : List Nat} {A : Hp} {Q : Ex → St → Prop} {R : List Value → Hp → Prop} {V : Value → Hp → Prop}
@[simp] theorem SeqQ_normal {b : ACode} : SeqQ AP K g rd b Q .normal st = W AP K g rd b st Q := rfl
@[simp] theorem SeqQ_ret {b : ACode} : SeqQ AP K g rd b Q .ret st = Q .ret st := rfl
@[simp] theorem SeqQ_exit {b : ACode} {i : Nat} : SeqQ AP K g rd b Q (.exit i) st = Q (.exit i) st := rfl
@[simp] theorem BlkQ_normal {id : Nat} : BlkQ id Q .normal st = Q .normal st := rfl
@[simp] theorem BlkQ_ret {id : Nat} : BlkQ id Q .ret st = Q .ret st := rfl
@[simp] theorem BlkQ_exit {id i : Nat} : BlkQ id Q (.exit i) st = if i = id then Q .normal st else Q (.exit i) st := rfl
@[simp] theorem OpsQ_eq : OpsQ D Q T A = Q .normal ⟨T, D, A⟩ := rfl
@[simp] theorem PutQ_eq {dst : Option Nat} {l : List AOper} {v : Value} : PutQ AP K g dst l T R v A = WO AP K g l (putA dst T v) A R := rfl
@[simp] theorem PureQ_some {v : Value} : PureQ A V (some v) = V v A := rfl
@[simp] theorem HeapQ_some {v : Value} : HeapQ V (some (v, A)) = V v A := rfl
@[simp] theorem CondW_true {a b : ACode} : CondW AP K g rd a b st Q (.bool true) = W AP K g rd a st Q := rfl
@[simp] theorem CondW_false {a b : ACode} : CondW AP K g rd a b st Q (.bool false) = W AP K g rd b st Q := rfl
@[simp] theorem ApartW_true {o : AOper} {l : List AOper} : ApartW AP K g o l T A R true = WO AP K g ({ o with apart := [] } :: l) T A R := rfl
@[simp] theorem GuardW_tt {dst : Option Nat} {op : AOp} {l : List AOper} : GuardW AP K g dst op l T A R true (.bool true) = WP AP K g op T A (PutQ AP K g dst l T R) := rfl
@[simp] theorem GuardW_ff {dst : Option Nat} {op : AOp} {l : List AOper} : GuardW AP K g dst op l T A R false (.bool false) = WP AP K g op T A (PutQ AP K g dst l T R) := rfl
@[simp] theorem GuardW_tf {dst : Option Nat} {op : AOp} {l : List AOper} : GuardW AP K g dst op l T A R true (.bool false) = WO AP K g l (putA dst T undef) A R := rfl
@[simp] theorem GuardW_ft {dst : Option Nat} {op : AOp} {l : List AOper} : GuardW AP K g dst op l T A R false (.bool true) = WO AP K g l (putA dst T undef) A R := rfl
private theorem lift {m m' d d' : Nat} (hm : m ≤ m') (hd : d ≤ d') {c : ACode} {r : Ex × St} (h : exec AP K m d c g rd st = some r) : exec AP K m' d' c g rd st = some r := exec_mono hm hd c g rd st r h
@[simp] theorem W_skip : W AP K g rd .skip st Q ↔ Q .normal st :=
  ⟨fun ⟨m, d, ex, st', h, q⟩ => by cases d with
    | zero => cases h
    | succ d => cases h; exact q, fun h => ⟨0, 1, _, _, rfl, h⟩⟩
@[simp] theorem W_exit {id : Nat} : W AP K g rd (.exit id) st Q ↔ Q (.exit id) st :=
  ⟨fun ⟨m, d, ex, st', h, q⟩ => by cases d with
    | zero => cases h
    | succ d => cases h; exact q, fun h => ⟨0, 1, _, _, rfl, h⟩⟩
@[simp] theorem W_ret : W AP K g rd .ret st Q ↔ Q .ret st :=
  ⟨fun ⟨m, d, ex, st', h, q⟩ => by cases d with
    | zero => cases h
    | succ d => cases h; exact q, fun h => ⟨0, 1, _, _, rfl, h⟩⟩
@[simp] theorem W_ops {l : List AOper} : W AP K g rd (.ops l) ⟨T, D, A⟩ Q ↔ WO AP K g l T A (OpsQ D Q) := by
  constructor
  · rintro ⟨m, d, ex, st', h, q⟩
    cases d with
    | zero => cases h
    | succ d =>
      change (opsA (callV AP K (exec AP K m d)) g l T A).map _ = _ at h
      rw [Option.map_eq_some_iff] at h
      obtain ⟨⟨T', A'⟩, h1, h2⟩ := h
      cases h2
      exact ⟨m, d, T', A', h1, q⟩
  · rintro ⟨m, d, T', A', h, q⟩
    exact ⟨m, d + 1, _, _, by change (opsA (callV AP K (exec AP K m d)) g l T A).map _ = _; rw [h]; rfl, q⟩
@[simp] theorem W_seq {a b : ACode} : W AP K g rd (.seq a b) st Q ↔ W AP K g rd a st (SeqQ AP K g rd b Q) := by
  constructor
  · rintro ⟨m, d, ex, st', h, q⟩
    cases d with
    | zero => cases h
    | succ d =>
      change seqA (exec AP K m (d + 1) b) g rd (exec AP K m (d + 1) a g rd st) = _ at h
      cases ha : exec AP K m (d + 1) a g rd st with
      | none => rw [ha] at h; cases h
      | some p =>
        obtain ⟨ex1, st1⟩ := p
        rw [ha] at h
        cases ex1 with
        | normal => exact ⟨m, d + 1, _, _, ha, m, d + 1, ex, st', h, q⟩
        | ret => cases h; exact ⟨m, d + 1, _, _, ha, q⟩
        | exit i => cases h; exact ⟨m, d + 1, _, _, ha, q⟩
  · rintro ⟨m, d, ex, st1, h, q⟩
    cases ex with
    | normal =>
      obtain ⟨m2, d2, ex2, st2, h2, q2⟩ := q
      refine ⟨Max.max m m2, Max.max d d2 + 1, ex2, st2, ?_, q2⟩
      change seqA (exec AP K _ (Max.max d d2 + 1) b) g rd (exec AP K _ (Max.max d d2 + 1) a g rd st) = _
      rw [lift (Nat.le_max_left m m2) (Nat.le_trans (Nat.le_max_left d d2) (Nat.le_succ _)) h]
      exact lift (Nat.le_max_right m m2) (Nat.le_trans (Nat.le_max_right d d2) (Nat.le_succ _)) h2
    | ret =>
      refine ⟨m, d + 1, .ret, st1, ?_, q⟩
      change seqA (exec AP K _ (d + 1) b) g rd (exec AP K _ (d + 1) a g rd st) = _
      rw [lift (Nat.le_refl m) (Nat.le_succ d) h]
      rfl
    | exit i =>
      refine ⟨m, d + 1, .exit i, st1, ?_, q⟩
      change seqA (exec AP K _ (d + 1) b) g rd (exec AP K _ (d + 1) a g rd st) = _
      rw [lift (Nat.le_refl m) (Nat.le_succ d) h]
      rfl
@[simp] theorem W_cond {c : Opd} {a b : ACode} : W AP K g rd (.cond c a b) ⟨T, D, A⟩ Q ↔ CondW AP K g rd a b ⟨T, D, A⟩ Q (ev T c) := by
  constructor
  · rintro ⟨m, d, ex, st', h, q⟩
    cases d with
    | zero => cases h
    | succ d =>
      change condA (exec AP K m (d + 1) a) (exec AP K m (d + 1) b) g rd ⟨T, D, A⟩ (ev T c) = _ at h
      unfold condA at h
      split at h
      · rename_i he; rw [he]; exact ⟨m, d + 1, _, _, h, q⟩
      · rename_i he; rw [he]; exact ⟨m, d + 1, _, _, h, q⟩
      · cases h
  · intro h
    unfold CondW at h
    split at h
    · rename_i he
      obtain ⟨m, d, ex, st', h, q⟩ := h
      refine ⟨m, d + 1, ex, st', ?_, q⟩
      change condA (exec AP K m (d + 1) a) (exec AP K m (d + 1) b) g rd ⟨T, D, A⟩ (ev T c) = _
      rw [he]
      exact lift (Nat.le_refl m) (Nat.le_succ d) h
    · rename_i he
      obtain ⟨m, d, ex, st', h, q⟩ := h
      refine ⟨m, d + 1, ex, st', ?_, q⟩
      change condA (exec AP K m (d + 1) a) (exec AP K m (d + 1) b) g rd ⟨T, D, A⟩ (ev T c) = _
      rw [he]
      exact lift (Nat.le_refl m) (Nat.le_succ d) h
    · cases h
@[simp] theorem W_block {id : Nat} {c : ACode} : W AP K g rd (.block id c) st Q ↔ W AP K g rd c st (BlkQ id Q) := by
  constructor
  · rintro ⟨m, d, ex, st', h, q⟩
    cases d with
    | zero => cases h
    | succ d =>
      change inBlk id (exec AP K m (d + 1) c g rd st) = _ at h
      cases hc : exec AP K m (d + 1) c g rd st with
      | none => rw [hc] at h; cases h
      | some p =>
        obtain ⟨ex1, st1⟩ := p
        rw [hc] at h
        cases ex1 with
        | normal => cases h; exact ⟨m, d + 1, _, _, hc, q⟩
        | ret => cases h; exact ⟨m, d + 1, _, _, hc, q⟩
        | exit i =>
          simp only [inBlk] at h
          refine ⟨m, d + 1, _, _, hc, ?_⟩
          simp only [BlkQ]
          split at h
          · rename_i hi; cases h; rw [if_pos hi]; exact q
          · rename_i hi; cases h; rw [if_neg hi]; exact q
  · rintro ⟨m, d, ex, st1, h, q⟩
    have h' := lift (Nat.le_refl m) (Nat.le_succ d) h
    cases ex with
    | normal => exact ⟨m, d + 1, .normal, st1, by change inBlk id (exec AP K m (d + 1) c g rd st) = _; rw [h']; rfl, q⟩
    | ret => exact ⟨m, d + 1, .ret, st1, by change inBlk id (exec AP K m (d + 1) c g rd st) = _; rw [h']; rfl, q⟩
    | exit i =>
      simp only [BlkQ] at q
      split at q
      · rename_i hi
        exact ⟨m, d + 1, .normal, st1, by change inBlk id (exec AP K m (d + 1) c g rd st) = _; rw [h']; simp [inBlk, hi], q⟩
      · rename_i hi
        exact ⟨m, d + 1, .exit i, st1, by change inBlk id (exec AP K m (d + 1) c g rd st) = _; rw [h']; simp [inBlk, hi], q⟩
theorem W_loop {c : ACode} : W AP K g rd (.loop c) st Q ↔ W AP K g rd c st (SeqQ AP K g rd (.loop c) Q) := by
  constructor
  · rintro ⟨m, d, ex, st', h, q⟩
    cases d with
    | zero => cases h
    | succ d =>
      change iterA (exec AP K m (d + 1) c) m g rd st = _ at h
      cases m with
      | zero => cases h
      | succ m =>
        change seqA (iterA (exec AP K (m + 1) (d + 1) c) m) g rd (exec AP K (m + 1) (d + 1) c g rd st) = _ at h
        cases hc : exec AP K (m + 1) (d + 1) c g rd st with
        | none => rw [hc] at h; cases h
        | some p =>
          obtain ⟨ex1, st1⟩ := p
          rw [hc] at h
          cases ex1 with
          | normal =>
            refine ⟨_, _, _, _, hc, m + 1, d + 1, ex, st', ?_, q⟩
            change iterA (exec AP K (m + 1) (d + 1) c) (m + 1) g rd st1 = _
            exact iterA_mono (fun _ _ _ => OLe.refl _) (Nat.le_succ m) _ _ _ _ h
          | ret => cases h; exact ⟨_, _, _, _, hc, q⟩
          | exit i => cases h; exact ⟨_, _, _, _, hc, q⟩
  · rintro ⟨m, d, ex, st1, h, q⟩
    cases ex with
    | normal =>
      obtain ⟨m2, d2, ex2, st2, h2, q2⟩ := q
      refine ⟨Max.max m m2 + 1, Max.max d d2 + 1, ex2, st2, ?_, q2⟩
      change seqA (iterA (exec AP K (Max.max m m2 + 1) (Max.max d d2 + 1) c) (Max.max m m2)) g rd (exec AP K (Max.max m m2 + 1) (Max.max d d2 + 1) c g rd st) = _
      rw [lift (Nat.le_trans (Nat.le_max_left m m2) (Nat.le_succ _)) (Nat.le_trans (Nat.le_max_left d d2) (Nat.le_succ _)) h]
      cases d2 with
      | zero => cases h2
      | succ d2 =>
        change iterA (exec AP K m2 (d2 + 1) c) m2 g rd st1 = _ at h2
        refine iterA_mono ?_ (Nat.le_max_right m m2) _ _ _ _ h2
        exact exec_mono (Nat.le_trans (Nat.le_max_right m m2) (Nat.le_succ _)) (Nat.le_trans (Nat.le_max_right d (d2 + 1)) (Nat.le_succ _)) c
    | ret =>
      refine ⟨m + 1, d + 1, .ret, st1, ?_, q⟩
      change seqA (iterA (exec AP K (m + 1) (d + 1) c) m) g rd (exec AP K (m + 1) (d + 1) c g rd st) = _
      rw [lift (Nat.le_succ m) (Nat.le_succ d) h]
      rfl
    | exit i =>
      refine ⟨m + 1, d + 1, .exit i, st1, ?_, q⟩
      change seqA (iterA (exec AP K (m + 1) (d + 1) c) m) g rd (exec AP K (m + 1) (d + 1) c g rd st) = _
      rw [lift (Nat.le_succ m) (Nat.le_succ d) h]
      rfl
@[simp] theorem WO_nil : WO AP K g [] T A R ↔ R T A :=
  ⟨fun ⟨m, d, T', A', h, q⟩ => by simp at h; obtain ⟨rfl, rfl⟩ := h; exact q, fun h => ⟨0, 0, T, A, rfl, h⟩⟩
private theorem liftV {m m' d d' : Nat} (hm : m ≤ m') (hd : d ≤ d') : CLe (callV AP K (exec AP K m d)) (callV AP K (exec AP K m' d')) := callV_mono (exec_mono hm hd)
@[simp] theorem WO_cons {dst : Option Nat} {op : AOp} {l : List AOper} : WO AP K g (⟨dst, none, [], op⟩ :: l) T A R ↔ WP AP K g op T A (PutQ AP K g dst l T R) := by
  constructor
  · rintro ⟨m, d, T', A', h, q⟩
    rw [opsA_cons, operA_plain] at h
    cases ho : opA op (callV AP K (exec AP K m d)) g T A with
    | none => rw [ho] at h; cases h
    | some p =>
      obtain ⟨v, A1⟩ := p
      rw [ho, thenPut_some] at h
      exact ⟨m, d, v, A1, ho, m, d, T', A', h, q⟩
  · rintro ⟨m, d, v, A1, ho, m2, d2, T', A', h, q⟩
    refine ⟨Max.max m m2, Max.max d d2, T', A', ?_, q⟩
    rw [opsA_cons, operA_plain, opA_mono (liftV (Nat.le_max_left m m2) (Nat.le_max_left d d2)) _ _ _ _ _ ho, thenPut_some]
    exact opsA_mono (liftV (Nat.le_max_right m m2) (Nat.le_max_right d d2)) _ _ _ _ _ h
@[simp] theorem WO_guard {dst : Option Nat} {op : AOp} {x : Nat} {b : Bool} {l : List AOper} : WO AP K g (⟨dst, some (x, b), [], op⟩ :: l) T A R ↔ GuardW AP K g dst op l T A R b (tget T x) := by
  have yes : tget T x = .bool b → (WO AP K g (⟨dst, some (x, b), [], op⟩ :: l) T A R ↔ WP AP K g op T A (PutQ AP K g dst l T R)) := fun hx => by
    rw [← WO_cons]
    unfold WO
    simp only [opsA_cons, operA_guard, operA_plain, wantedA_some, hx, beq_self_eq_true, if_true]
  have no : wantedA (some (x, b)) T ≠ true → (WO AP K g (⟨dst, some (x, b), [], op⟩ :: l) T A R ↔ WO AP K g l (putA dst T undef) A R) := fun hx => by
    unfold WO
    simp only [opsA_cons, operA_guard, if_neg hx]
  unfold GuardW
  split
  · rename_i b' he
    by_cases hb : b' = b
    · subst hb; rw [if_pos rfl]; exact yes he
    · rw [if_neg hb]
      refine no ?_
      rw [wantedA_some, he]
      simpa using hb
  · rename_i he
    refine no ?_
    rw [wantedA_some]
    split
    · rename_i b' h'; exact absurd h' (he b')
    · simp
@[simp] theorem WO_apart {dst : Option Nat} {op : AOp} {p : Opd × Nat × Opd × Nat} {ps : List (Opd × Nat × Opd × Nat)} {l : List AOper} :
    WO AP K g (⟨dst, none, p :: ps, op⟩ :: l) T A R ↔ ApartW AP K g ⟨dst, none, p :: ps, op⟩ l T A R ((p :: ps).all (apartA T)) := by
  unfold ApartW
  split
  · rename_i h
    unfold WO
    simp only [opsA_cons, operA, wantedA, if_true, h, List.all_nil]
  · rename_i h
    unfold WO
    simp [opsA_cons, operA, wantedA, h]
theorem exHeap {r : Option (Value × Hp)} : (∃ (_ _ : Nat) (v : Value) (A' : Hp), r = some (v, A') ∧ V v A') ↔ HeapQ V r := by
  constructor
  · rintro ⟨_, _, v, A', rfl, h⟩; exact h
  · intro h
    cases r with
    | none => cases h
    | some p => exact ⟨0, 0, p.1, p.2, rfl, h⟩
theorem WP_of {op : AOp} {r : Option (Value × Hp)} (h : ∀ cv, opA op cv g T A = r) : WP AP K g op T A V ↔ HeapQ V r := by
  unfold WP
  simp only [h]
  exact exHeap
theorem WP_some {op : AOp} {v : Value} {A1 : Hp} (h : ∀ cv, opA op cv g T A = some (v, A1)) : WP AP K g op T A V ↔ V v A1 := WP_of h
theorem WP_pure {op : AOp} {r : Option Value} (h : ∀ cv, opA op cv g T A = pureV r A) : WP AP K g op T A V ↔ PureQ A V r := by
  rw [WP_of h]
  cases r <;> simp [pureV, HeapQ, PureQ]
@[simp] theorem WP_move {x : Opd} : WP AP K g (.move x) T A V ↔ V (ev T x) A := WP_some fun _ => rfl
@[simp] theorem WP_pick {c a b : Opd} : WP AP K g (.pick c a b) T A V ↔ PureQ A V (pickA (ev T c) (ev T a) (ev T b)) := WP_pure fun _ => rfl
@[simp] theorem WP_nilCheck {x : Opd} : WP AP K g (.nilCheck x) T A V ↔ PureQ A V (nilCheckA (ev T x)) := WP_pure fun _ => rfl
@[simp] theorem WP_bin {op : BinOp} {x y : Opd} : WP AP K g (.bin op x y) T A V ↔ PureQ A V (binA op (ev T x) (ev T y)) := WP_pure fun _ => rfl
@[simp] theorem WP_beq {n : Bool} {x y : Opd} : WP AP K g (.beq n x y) T A V ↔ PureQ A V (beqA n (ev T x) (ev T y)) := WP_pure fun _ => rfl
@[simp] theorem WP_eqv {n : Bool} {sh : List Bool} {x y : Opd} : WP AP K g (.eqv n sh x y) T A V ↔ PureQ A V (eqvA n sh (ev T x) (ev T y)) := WP_pure fun _ => rfl
@[simp] theorem WP_eqNil {k : Nat} {n : Bool} {x : Opd} : WP AP K g (.eqNil k n x) T A V ↔ PureQ A V (eqNilA k n (ev T x)) := WP_pure fun _ => rfl
@[simp] theorem WP_neg {x : Opd} : WP AP K g (.neg x) T A V ↔ PureQ A V (negA (ev T x)) := WP_pure fun _ => rfl
@[simp] theorem WP_not {x : Opd} : WP AP K g (.not x) T A V ↔ PureQ A V (notA (ev T x)) := WP_pure fun _ => rfl
@[simp] theorem WP_toInt {k : IntKind} {x : Opd} : WP AP K g (.toInt k x) T A V ↔ PureQ A V (toIntA k (ev T x)) := WP_pure fun _ => rfl
@[simp] theorem WP_toF64 {x : Opd} : WP AP K g (.toF64 x) T A V ↔ PureQ A V (toF64A (ev T x)) := WP_pure fun _ => rfl
@[simp] theorem WP_makeFunc {f : Nat} {a b : List Opd} : WP AP K g (.makeFunc f a b) T A V ↔ V (.func (.func f) (a.map (ev T)).toArray (b.map (ev T)).toArray) A := WP_some fun _ => rfl
@[simp] theorem WP_build {z : List Value} {ps : List (Nat × Nat × Opd)} : WP AP K g (.build z ps) T A V ↔ PureQ A V ((fillA z (ps.map fun p => (p.1, p.2.1, ev T p.2.2))).map fun cs => .agg cs.toArray) := WP_pure fun _ => rfl
@[simp] theorem WP_fieldAddr {x : Opd} {off : Nat} : WP AP K g (.fieldAddr x off) T A V ↔ PureQ A V (fieldAddrA off (ev T x)) := WP_pure fun _ => rfl
@[simp] theorem WP_field {x : Opd} {off : Nat} {s : Option Nat} : WP AP K g (.field x off s) T A V ↔ PureQ A V (fieldA off s (ev T x)) := WP_pure fun _ => rfl
@[simp] theorem WP_idxS {x i : Opd} {e : Nat} : WP AP K g (.idxS x i e) T A V ↔ PureQ A V (idxSA e (ev T x) (ev T i)) := WP_pure fun _ => rfl
@[simp] theorem WP_idxA {x i : Opd} {n e : Nat} : WP AP K g (.idxA x i n e) T A V ↔ PureQ A V (idxAA n e (ev T x) (ev T i)) := WP_pure fun _ => rfl
@[simp] theorem WP_index {x i : Opd} {n e : Nat} {a : Bool} : WP AP K g (.index x i n e a) T A V ↔ PureQ A V (indexA n e a (ev T x) (ev T i)) := WP_pure fun _ => rfl
@[simp] theorem WP_reslice {x : Opd} {lo hi : Option Opd} {e : Nat} : WP AP K g (.reslice x lo hi e) T A V ↔ PureQ A V (resliceA e (ev T x) (boundA T 0 lo) (fun n => boundA T n hi)) := WP_pure fun _ => rfl
@[simp] theorem WP_extract {x : Opd} {i : Nat} : WP AP K g (.extract x i) T A V ↔ PureQ A V (extractA i (ev T x)) := WP_pure fun _ => rfl
@[simp] theorem WP_len {x : Opd} : WP AP K g (.len x) T A V ↔ PureQ A V (lenV (ev T x)) := WP_pure fun _ => rfl
@[simp] theorem WP_lenT {x : Opd} : WP AP K g (.lenT x) T A V ↔ PureQ A V (lenTV (ev T x)) := WP_pure fun _ => rfl
@[simp] theorem WP_strOp {op : BinOp} {x y : Opd} : WP AP K g (.strOp op x y) T A V ↔ PureQ A V (strOpA op (ev T x) (ev T y)) := WP_pure fun _ => rfl
@[simp] theorem WP_strIdx {x i : Opd} : WP AP K g (.strIdx x i) T A V ↔ PureQ A V (strIdxA (ev T x) (ev T i)) := WP_pure fun _ => rfl
@[simp] theorem WP_toBytes {x : Opd} : WP AP K g (.toBytes x) T A V ↔ HeapQ V (toBytesA (ev T x) A) := WP_of fun _ => rfl
@[simp] theorem WP_toStr {x : Opd} : WP AP K g (.toStr x) T A V ↔ PureQ A V (toStrA (ev T x) A) := WP_pure fun _ => rfl
@[simp] theorem WP_makeM : WP AP K g .makeM T A V ↔ V (.map (some A.n)) (A.push (.map [] none)) := WP_some fun _ => rfl
@[simp] theorem WP_lookup {x k : Opd} {kt : Nat} {z : Value} {ok : Bool} : WP AP K g (.lookup x k kt z ok) T A V ↔ PureQ A V (lookupA A kt z ok (ev T x) (ev T k)) := WP_pure fun _ => rfl
@[simp] theorem WP_lenM {x : Opd} : WP AP K g (.lenM x) T A V ↔ PureQ A V (lenMA A (ev T x)) := WP_pure fun _ => rfl
@[simp] theorem WP_mapSet {x k v : Opd} {kt : Nat} : WP AP K g (.mapSet x k v kt) T A V ↔ HeapQ V (storeV (mapSetA g A kt (ev T x) (ev T k) (ev T v))) := WP_of fun _ => rfl
@[simp] theorem WP_clearM {x : Opd} : WP AP K g (.clearM x) T A V ↔ HeapQ V ((clearMA g A (ev T x)).map fun A' => (.tuple ⟨[]⟩, A')) := WP_of fun _ => rfl
@[simp] theorem WP_strSl {x : Opd} {lo hi : Option Opd} : WP AP K g (.strSl x lo hi) T A V ↔ PureQ A V (strSlA (ev T x) (boundA T 0 lo) (fun n => boundA T n hi)) := WP_pure fun _ => rfl
@[simp] theorem WP_sliceData {x : Opd} : WP AP K g (.sliceData x) T A V ↔ PureQ A V (sliceDataA (ev T x)) := WP_pure fun _ => rfl
@[simp] theorem WP_appendT {s x : Opd} : WP AP K g (.appendT s x) T A V ↔ HeapQ V (appendTA g A (ev T s) (ev T x)) := WP_of fun _ => rfl
@[simp] theorem WP_mkStr {p n : Opd} : WP AP K g (.mkStr p n) T A V ↔ HeapQ V (mkStrA g A (ev T p) (ev T n)) := WP_of fun _ => rfl
@[simp] theorem WP_min {l : List Opd} : WP AP K g (.min l) T A V ↔ PureQ A V (minA (l.map (ev T))) := WP_pure fun _ => rfl
@[simp] theorem WP_max {l : List Opd} : WP AP K g (.max l) T A V ↔ PureQ A V (maxA (l.map (ev T))) := WP_pure fun _ => rfl
@[simp] theorem WP_alloc {z : List Value} : WP AP K g (.alloc z) T A V ↔ V (.pointer (some ⟨A.n, 0, none⟩)) (A.push (.cells z false)) := WP_some fun _ => rfl
@[simp] theorem WP_allocB : WP AP K g .allocB T A V ↔ V (.pointer (some ⟨A.n, 0, none⟩)) (A.push (.bld (.pointer none) (.slice none 0 0))) := WP_some fun _ => rfl
@[simp] theorem WP_box {x : Opd} : WP AP K g (.box x) T A V ↔ V (.pointer (some ⟨A.n, 0, none⟩)) (A.push (.cells (ev T x).cells.toList false)) := WP_some fun _ => rfl
@[simp] theorem WP_slit {n e : Nat} {z : List Value} {ps : List (Nat × Opd)} : WP AP K g (.slit n e z ps) T A V ↔ HeapQ V (slitA n e (fillA (zeros n z) (ps.map fun p => (p.1 * e, e, ev T p.2))) A) := WP_of fun _ => rfl
@[simp] theorem WP_makeS {l c : Opd} {e b : Nat} {z : List Value} : WP AP K g (.makeS l c e b z) T A V ↔ HeapQ V (makeSA e b z (ev T l) (ev T c) A) := WP_of fun _ => rfl
@[simp] theorem WP_load {x : Opd} {s : Option Nat} : WP AP K g (.load x s) T A V ↔ PureQ A V (loadA A (ev T x) s) := WP_pure fun _ => rfl
@[simp] theorem WP_store {x v : Opd} {s : Nat} : WP AP K g (.store x v s) T A V ↔ HeapQ V (storeV (storeA g A (ev T x) (ev T v) s)) := WP_of fun _ => rfl
@[simp] theorem WP_append {s x : Opd} {e b : Nat} : WP AP K g (.append s x e b) T A V ↔ HeapQ V (appendA g A e b (ev T s) (ev T x)) := WP_of fun _ => rfl
@[simp] theorem WP_copy {d s : Opd} {e : Nat} : WP AP K g (.copy d s e) T A V ↔ HeapQ V (copyA g A e (ev T d) (ev T s)) := WP_of fun _ => rfl
@[simp] theorem WP_call {f : Opd} {args : List Opd} {ro : Bool} : WP AP K g (.call f args ro) T A V ↔ WV AP K (if ro then A.n else g) (ev T f) (args.map (ev T)) A V := Iff.rfl
@[simp] theorem WP_callC {c f : Opd} {args : List Opd} : WP AP K g (.callC c f args) T A V ↔ WV AP K g (ev T f) (args.map (ev T)) A (fun v A' => OnlyC A (ev T c) A' ∧ V v A') := by
  constructor
  · rintro ⟨m, d, v, A', h, q⟩
    obtain ⟨h1, h2⟩ := stillBut_some h
    exact ⟨m, d, v, A', h1, h2, q⟩
  · rintro ⟨m, d, v, A', h, h2, q⟩
    exact ⟨m, d, v, A', stillBut_of h h2, q⟩
@[simp] theorem WV_func {h : Nat} {first captured : Array Value} {args : List Value} : WV AP K g (.func (.func h) first captured) args A V ↔ WF AP K g h (first.toList ++ args ++ captured.toList) A V := Iff.rfl
theorem WF_spec {f : Nat} {args : List Value} {S : Spec} (h : K f = some S) : WF AP K g f args A V ↔ HeapQ V (S g args A) := by
  unfold WF
  simp only [callF, h]
  exact exHeap
theorem WF_body {f nt : Nat} {rs : List ARes} {c : ACode} {args : List Value} (h : K f = none) (h' : AP f = some (.fn nt rs c)) : WF AP K g f args A V ↔ W AP K g none c ⟨args, [], A⟩ (FinQ rs V) := by
  unfold WF W
  simp only [callF, h, enterA, h']
  constructor
  · rintro ⟨m, d, v, A', hr, q⟩
    cases he : exec AP K m d c g none ⟨args, [], A⟩ with
    | none => rw [he] at hr; cases hr
    | some p =>
      obtain ⟨ex, st'⟩ := p
      rw [he] at hr
      refine ⟨m, d, ex, st', he, ?_⟩
      cases ex with
      | exit i => cases hr
      | normal =>
        simp only [finishA] at hr
        simp only [FinQ]
        split at hr
        · rename_i A1 hm
          rw [Option.map_eq_some_iff] at hr
          obtain ⟨u, hu, e⟩ := hr
          cases e
          simp only [hm, hu]; exact q
        · cases hr
      | ret =>
        simp only [finishA] at hr
        simp only [FinQ]
        split at hr
        · rename_i A1 hm
          rw [Option.map_eq_some_iff] at hr
          obtain ⟨u, hu, e⟩ := hr
          cases e
          simp only [hm, hu]; exact q
        · cases hr
  · rintro ⟨m, d, ex, st', he, q⟩
    cases ex with
    | exit i => cases q
    | normal =>
      simp only [FinQ] at q
      split at q
      · rename_i A1 hm
        cases hu : resA rs st'.T A1 with
        | none => simp only [hu] at q; cases q
        | some v => simp only [hu] at q; exact ⟨m, d, v, A1, by rw [he]; simp [finishA, hm, hu], q⟩
      · cases q
    | ret =>
      simp only [FinQ] at q
      split at q
      · rename_i A1 hm
        cases hu : resA rs st'.T A1 with
        | none => simp only [hu] at q; cases q
        | some v => simp only [hu] at q; exact ⟨m, d, v, A1, by rw [he]; simp [finishA, hm, hu], q⟩
      · cases q
@[simp] theorem FinQ_ret {rs : List ARes} : FinQ rs V .ret st = match takeMarks st.A st.D with
    | some A' => PureQ A' V (resA rs st.T A')
    | none => False := rfl
@[simp] theorem FinQ_normal {rs : List ARes} : FinQ rs V .normal st = match takeMarks st.A st.D with
    | some A' => PureQ A' V (resA rs st.T A')
    | none => False := rfl
end
theorem get_push_old {A : Hp} {b : ABlk} {x : Nat} (h : x < A.n) : (A.push b).get x = A.get x := by rw [Hp.get_push, if_neg (by omega)]
@[simp] theorem get_push_new {A : Hp} {b : ABlk} : (A.push b).get A.n = some b := by rw [Hp.get_push, if_pos rfl]
theorem get_set_ne {A : Hp} {x y : Nat} {b : Option ABlk} (hx : x < A.n) (h : y ≠ x) : (A.set x b).get y = A.get y := by
  unfold Hp.get Hp.set
  by_cases hy : y < A.n
  · simp only [hy, if_true]
    rw [List.getElem?_set_ne (by omega)]
  · simp [hy]
theorem get_set_same {A : Hp} {x : Nat} {b : Option ABlk} {b0 : ABlk} (h : A.get x = some b0) : (A.set x b).get x = b := by rw [Hp.get_set h, if_pos rfl]
end Go.Ab
namespace Go.Ab
theorem wrId {n : Int} (h0 : -9223372036854775808 ≤ n) (h1 : n < 9223372036854775808) : wr .i64 n = n := by rw [wr_eq]; exact wrap_i64 n h0 h1
section
variable {T : List Value} {A : Hp} {a b : Int} {v x y : Value} {n : Nat}
@[simp] theorem ev_t' : ev T (.t n) = tget T n := rfl
@[simp] theorem ev_k' : ev T (.k v) = v := rfl
@[simp] theorem putA_some' : putA (some n) T v = tset T n v := rfl
@[simp] theorem putA_none' : putA none T v = T := rfl
@[simp] theorem binA_add : binA .add (.int .i64 a) (.int .i64 b) = some (.int .i64 (wr .i64 (a + b))) := rfl
@[simp] theorem binA_sub : binA .sub (.int .i64 a) (.int .i64 b) = some (.int .i64 (wr .i64 (a - b))) := rfl
@[simp] theorem binA_mul : binA .mul (.int .i64 a) (.int .i64 b) = some (.int .i64 (wr .i64 (a * b))) := rfl
theorem binA_quo (h : b ≠ 0) : binA .quo (.int .i64 a) (.int .i64 b) = some (.int .i64 (wr .i64 (a.tdiv b))) := by simp [binA, intA, kEq, h]
theorem binA_rem (h : b ≠ 0) : binA .rem (.int .i64 a) (.int .i64 b) = some (.int .i64 (a.tmod b)) := by simp [binA, intA, kEq, h]
@[simp] theorem binA_eql : binA .eql (.int .i64 a) (.int .i64 b) = some (.bool (decide (a = b))) := rfl
@[simp] theorem binA_neq : binA .neq (.int .i64 a) (.int .i64 b) = some (.bool (!decide (a = b))) := rfl
@[simp] theorem binA_lss : binA .lss (.int .i64 a) (.int .i64 b) = some (.bool (decide (a < b))) := rfl
@[simp] theorem binA_leq : binA .leq (.int .i64 a) (.int .i64 b) = some (.bool (decide (a ≤ b))) := rfl
@[simp] theorem binA_gtr : binA .gtr (.int .i64 a) (.int .i64 b) = some (.bool (decide (b < a))) := rfl
@[simp] theorem binA_geq : binA .geq (.int .i64 a) (.int .i64 b) = some (.bool (decide (b ≤ a))) := rfl
@[simp] theorem binA_shl : binA .shl (.int .i64 a) (.int .i64 b) = shA true .i64 a b := rfl
@[simp] theorem binA_shr : binA .shr (.int .i64 a) (.int .i64 b) = shA false .i64 a b := rfl
@[simp] theorem pickA_true : pickA (.bool true) x y = some x := rfl
@[simp] theorem pickA_false : pickA (.bool false) x y = some y := rfl
@[simp] theorem negA_int : negA (.int .i64 a) = some (.int .i64 (wr .i64 (0 - a))) := rfl
@[simp] theorem notA_bool {c : Bool} : notA (.bool c) = some (.bool (!c)) := rfl
@[simp] theorem beqA_bool {c p q : Bool} : beqA c (.bool p) (.bool q) = some (.bool (if c then !(p == q) else p == q)) := rfl
@[simp] theorem extractA_tuple {l : List Value} : extractA n (.tuple ⟨l⟩) = l[n]? := by simp [extractA]
@[simp] theorem lenV_slice {p : _} {c : Nat} : lenV (.slice p n c) = some (.int .i64 n) := rfl
@[simp] theorem fieldAddrA_ptr {k o : Nat} : fieldAddrA n (.pointer (some ⟨k, o, none⟩)) = some (.pointer (some ⟨k, o + n, none⟩)) := rfl
@[simp] theorem fieldA_agg {l : List Value} {s : Option Nat} : fieldA n s (.agg ⟨l⟩) = partA l n s := rfl
@[simp] theorem nilCheckA_ptr {p : _} : nilCheckA (.pointer (some p)) = some (.pointer (some p)) := rfl
theorem idxSA_ok {esz k o c : Nat} {s : Nat} {i : Int} {kd : IntKind} (h0 : 0 ≤ i) (h1 : i < n) : idxSA esz (.slice (some ⟨k, o, some s⟩) n c) (.int kd i) = some (.pointer (some ⟨k, o + i.toNat * esz, none⟩)) := by simp [idxSA, h0, h1]
def mn2 (a b : Int) : Int := if b < a then b else a
def mx2 (a b : Int) : Int := if b > a then b else a
theorem mn2_eq : mn2 a b = min a b := by unfold mn2; split <;> omega
theorem mx2_eq : mx2 a b = max a b := by unfold mx2; split <;> omega
@[simp] theorem minA_two : minA [.int .i64 a, .int .i64 b] = some (.int .i64 (min a b)) := by rw [← mn2_eq]; simp [minA, foldInt, mn2]
@[simp] theorem maxA_two' : maxA [.int .i64 a, .int .i64 b] = some (.int .i64 (max a b)) := by rw [← mx2_eq]; simp [maxA, foldInt, mx2]
def loadB (b : Option ABlk) (o : Nat) (s : Option Nat) : Option Value :=
  match b with
  | some (.cells cs _) => partA cs o s
  | _ => none
@[simp] theorem loadA_ptr {k o : Nat} {s : Option Nat} : loadA A (.pointer (some ⟨k, o, none⟩)) s = loadB (A.get k) o s := by
  unfold loadA loadB
  rfl
@[simp] theorem loadB_cells {cs : List Value} {ro : Bool} {o : Nat} {s : Option Nat} : loadB (some (.cells cs ro)) o s = partA cs o s := rfl
def cellAt (cs : List Value) (o : Nat) : Option Value := cs[o]?
@[simp] theorem partA_none {cs : List Value} {o : Nat} : partA cs o none = cellAt cs o := rfl
@[simp] theorem cellAt_zero {cs : List Value} : cellAt (v :: cs) 0 = some v := rfl
@[simp] theorem cellAt_succ {cs : List Value} {o : Nat} : cellAt (v :: cs) (o + 1) = cellAt cs o := rfl
theorem partA_all {cs : List Value} {s : Nat} (h : cs.length = s) : partA cs 0 (some s) = some (.agg ⟨cs⟩) := by subst h; simp [partA]
theorem partA_some {cs : List Value} {o s : Nat} (h : o + s ≤ cs.length) : partA cs o (some s) = some (.agg ⟨(cs.drop o).take s⟩) := by simp [partA, h]
theorem partA_cons {cs : List Value} {o s : Nat} (h : o + s ≤ (v :: cs).length) : partA (v :: cs) o (some s) = some (.agg ⟨((v :: cs).drop o).take s⟩) := partA_some h
def storeB (b : Option ABlk) (g : Nat) (A : Hp) (x o : Nat) (vs : List Value) (size : Nat) : Option (Value × Hp) :=
  match b with
  | some (.cells cs false) => if vs.length = size ∧ g ≤ x ∧ o + vs.length ≤ cs.length ∧ vs.all isCell = true then some (undef, A.set x (some (.cells (setRange cs o vs) false))) else none
  | _ => none
@[simp] theorem storeA_ptr {g k o size : Nat} : storeV (storeA g A (.pointer (some ⟨k, o, none⟩)) v size) = storeB (A.get k) g A k o v.cells.toList size := by
  unfold storeA storeB writeA storeV
  simp only
  by_cases h1 : v.cells.toList.length = size
  · rw [if_pos h1]
    by_cases h2 : g ≤ k
    · rw [if_pos h2]
      split
      · rename_i cs hc
        simp only [hc, h1, h2, true_and]
        split <;> rfl
      · rename_i hc
        split
        · rename_i cs hc'; exact absurd hc' (hc cs)
        · rfl
    · rw [if_neg h2]
      split
      · simp [h2]
      · rfl
  · rw [if_neg h1]
    split
    · rw [if_neg (fun h => h1 h.1)]; rfl
    · rfl
theorem storeB_cells {g k o size : Nat} {cs vs : List Value} (h1 : vs.length = size) (h2 : g ≤ k) (h3 : o + size ≤ cs.length) (h4 : vs.all isCell = true) :
    storeB (some (.cells cs false)) g A k o vs size = some (undef, A.set k (some (.cells (setRange cs o vs) false))) := by
  subst h1; simp only [storeB]; rw [if_pos ⟨trivial, h2, h3, h4⟩]
@[simp] theorem zeros_one {z : List Value} : zeros 1 z = z := by
  unfold zeros
  rw [Nat.one_mul]
  apply List.ext_getElem?
  intro i
  by_cases h : i < z.length
  · simp [h, Nat.mod_eq_of_lt h]
  · simp [h]
def ints (l : List Int) : List Value := l.map (.int .i64)
@[simp] theorem ints_length (l : List Int) : (ints l).length = l.length := List.length_map ..
def gi (l : List Int) (o : Nat) : Int := l.getD o 0
theorem gi_eq {l : List Int} {o : Nat} (h : o < l.length) : gi l o = l[o] := by simp [gi, h]
theorem ints_two {l : List Int} {o : Nat} (h : o + 2 ≤ l.length) : partA (ints l) o (some 2) = some (.agg ⟨[.int .i64 (gi l o), .int .i64 (gi l (o + 1))]⟩) := by
  have h0 : o < l.length := by omega
  have h1 : o + 1 < l.length := by omega
  rw [partA_some (by rw [ints_length]; exact h)]
  have e : (ints l).drop o = .int .i64 l[o] :: .int .i64 l[o + 1] :: (ints l).drop (o + 2) := by
    simp only [ints, ← List.map_drop]
    rw [List.drop_eq_getElem_cons h0, List.drop_eq_getElem_cons h1]
    rfl
  rw [e]
  simp [gi_eq h0, gi_eq h1]
theorem ints_append (a b : List Int) : ints (a ++ b) = ints a ++ ints b := List.map_append ..
theorem setRange_all {cs vs : List Value} (h : cs.length = vs.length) : setRange cs 0 vs = vs := by simp [setRange, h]
theorem eqv2 {c : Bool} {a' b' : Int} : eqvA c [false, false] (.agg ⟨[.int .i64 a, .int .i64 b]⟩) (.agg ⟨[.int .i64 a', .int .i64 b']⟩) = some (.bool (if c then !(decide (a = a') && decide (b = b')) else decide (a = a') && decide (b = b'))) := by
  cases c <;> simp [eqvA, eqCells, cellEq, kEq] <;> rfl
end
theorem AccS.someOf {A : Hp} {N k i n : Nat} {cs : List Value} {sv : Value} (h : AccS N A k cs sv) (hl : cs.length = n * k) (hi : i < n) (hk : 0 < k) : ∃ b, sv = .slice (some ⟨b, 0, some k⟩) n n ∧ A.get b = some (.cells cs false) := by
  rcases h with ⟨h1, h2⟩ | ⟨b, m, h1, h2, h3, h4, h5⟩
  · subst h2
    have := Nat.mul_pos (show 0 < n by omega) hk
    simp at hl; omega
  · have : m = n := Nat.eq_of_mul_eq_mul_right hk (h4.symm.trans hl)
    subst this
    exact ⟨b, h1, h2⟩
theorem AccS.isSlice {A : Hp} {N k : Nat} {cs : List Value} {sv : Value} (h : AccS N A k cs sv) : ∃ p n c, sv = .slice p n c := by
  rcases h with ⟨rfl, _⟩ | ⟨b, n, rfl, _⟩
  · exact ⟨_, _, _, rfl⟩
  · exact ⟨_, _, _, rfl⟩
def RdS (A : Hp) (k n : Nat) (cs : List Value) (sv : Value) : Prop :=
  cs.length = n * k ∧ ((sv = .slice none 0 0 ∧ n = 0) ∨ ∃ b c ro, sv = .slice (some ⟨b, 0, some k⟩) n c ∧ A.get b = some (.cells cs ro))
theorem RdS.mono {A A' : Hp} {k n : Nat} {cs : List Value} {sv : Value} (h : RdS A k n cs sv) (hA : ∀ x, x < A.n → A'.get x = A.get x) : RdS A' k n cs sv := by
  obtain ⟨h0, h | ⟨b, c, ro, h1, h2⟩⟩ := h
  · exact ⟨h0, .inl h⟩
  · exact ⟨h0, .inr ⟨b, c, ro, h1, by rw [hA b (Hp.lt_of_get h2)]; exact h2⟩⟩
theorem RdS.push {A : Hp} {k n : Nat} {cs : List Value} {sv : Value} {x : ABlk} (h : RdS A k n cs sv) : RdS (A.push x) k n cs sv := h.mono fun x hx => by rw [Hp.get_push, if_neg (by omega)]
theorem RdS.len {A : Hp} {k n : Nat} {cs : List Value} {sv : Value} (h : RdS A k n cs sv) : lenV sv = some (.int .i64 n) := by
  obtain ⟨_, ⟨rfl, rfl⟩ | ⟨b, c, ro, rfl, _⟩⟩ := h <;> rfl
theorem RdS.at {A : Hp} {k n i : Nat} {cs : List Value} {sv : Value} (h : RdS A k n cs sv) (hi : i < n) : ∃ b c ro, sv = .slice (some ⟨b, 0, some k⟩) n c ∧ A.get b = some (.cells cs ro) := by
  obtain ⟨_, ⟨_, h0⟩ | h⟩ := h
  · omega
  · exact h
theorem AccS.rd {A : Hp} {N k n : Nat} {cs : List Value} {sv : Value} (h : AccS N A k cs sv) (hl : cs.length = n * k) (hk : 0 < k) : RdS A k n cs sv := by
  refine ⟨hl, ?_⟩
  rcases Nat.eq_zero_or_pos n with h0 | h0
  · subst h0
    rcases h with ⟨h1, _⟩ | ⟨b, m, h1, h2, h3, h4, h5⟩
    · exact .inl ⟨h1, rfl⟩
    · have := Nat.mul_pos h5 hk
      omega
  · obtain ⟨b, h1, h2⟩ := h.someOf hl h0 hk
    exact .inr ⟨b, n, false, h1, h2⟩
theorem AccS.add {N g : Nat} {A : Hp} {esz bytes n : Nat} {cs new : List Value} {ro : Bool} {sv : Value} (h : AccS N A esz cs sv) (hg : g ≤ N) (hN : N ≤ A.n) (hnew : new.length = esz) (hesz : 0 < esz) (hcell : new.all isCell = true) (hl : cs.length = n * esz)
    (hroom : (n + 1) * bytes ≤ room ∧ n + 1 ≤ room) : ∃ sv' A', appendA g (A.push (.cells new ro)) esz bytes sv (.slice (some ⟨A.n, 0, some esz⟩) 1 1) = some (sv', A') ∧ AccS N A' esz (cs ++ new) sv' ∧ (∀ z, z < N → A'.get z = A.get z) ∧ A.n ≤ A'.n := by
  obtain ⟨sv', A', h1, h2, h3, h4⟩ := append_acc (A := A.push (.cells new ro)) (y := A.n) (h.mono fun x hx => by rw [Hp.get_push, if_neg (by omega)]) hg (by simp; omega) (by rw [Hp.get_push, if_pos rfl]) hnew hesz hcell hl hroom
  exact ⟨sv', A', h1, h2, fun z hz => by rw [h3 z hz, Hp.get_push, if_neg (by omega)], by rw [h4]; simp; omega⟩
section
variable {A : Hp} {b c : ABlk} {x y : Nat}
theorem get_push_eq (h : x ≤ A.n ∧ A.n ≤ x) : (A.push b).get x = some b := by rw [show x = A.n by omega]; exact get_push_new
@[simp] theorem set_push_new {b' : ABlk} : (A.push b).set A.n (some b') = A.push b' := by
  unfold Hp.push Hp.set; simp
theorem set_push_old {b' : Option ABlk} (h : x < A.n) : (A.push b).set x b' = (A.set x b').push b := by
  unfold Hp.push Hp.set
  simp only [Nat.add_sub_cancel]
  rw [show A.n - x = (A.n - 1 - x) + 1 by omega, List.set_cons_succ]
end
theorem hDs : (∀ (A : Hp) (b : ABlk), (A.push b).n = A.n + 1) ∧ (∀ (A : Hp) (x : Nat) (b : Option ABlk), (A.set x b).n = A.n) ∧ (∀ (a : Value) (l : List Value), (a :: l).length = l.length + 1) ∧ (([] : List Value).length = 0) ∧ (∀ l : List Int, (ints l).length = l.length) ∧ (∀ (l m : List Value), (l ++ m).length = l.length + m.length) ∧ (∀ (a : Int) (l : List Int), (a :: l).length = l.length + 1) ∧ (([] : List Int).length = 0) ∧ (∀ (l m : List Int), (l ++ m).length = l.length + m.length) := by
  refine ⟨fun _ _ => rfl, fun _ _ _ => rfl, fun _ _ => rfl, rfl, ints_length, fun _ _ => List.length_append, fun _ _ => rfl, rfl, fun _ _ => List.length_append⟩
theorem hRs : (∀ {A : Hp} {b : ABlk} {x : Nat}, (x ≤ A.n ∧ A.n ≤ x) → (A.push b).get x = some b) ∧ (∀ {A : Hp} {b : ABlk} {x : Nat}, x < A.n → (A.push b).get x = A.get x) ∧ (∀ {A : Hp} {b : ABlk} {x : Nat} {b' : Option ABlk}, x < A.n → (A.push b).set x b' = (A.set x b').push b) ∧
    (∀ {cs : List Value} {s : Nat}, cs.length = s → partA cs 0 (some s) = some (.agg ⟨cs⟩)) ∧ (∀ {v : Value} {cs : List Value} {o s : Nat}, o + s ≤ (v :: cs).length → partA (v :: cs) o (some s) = some (.agg ⟨((v :: cs).drop o).take s⟩)) :=
  ⟨get_push_eq, get_push_old, set_push_old, partA_all, partA_cons⟩
end Go.Ab
set_option maxRecDepth 100000
namespace Go.Ab.Grid
open Go Go.Ab
def S289 : Spec := fun _ args A => match args with
  | [] => some (.bool true, A)
  | _ => none
noncomputable def KL (n : Nat) : Option Spec := cond (Nat.beq n 289) (some S289) (K1 n)
section
variable {W0 : Array Obj}
theorem K2_ok (hL : LaidIn W0) : SpecsOk (E W0) K2 := by
  intro h S hS
  unfold K2 at hS
  have step : ∀ (k : Nat) (S' : Spec) (rest : Option Spec), cond (Nat.beq h k) (some S') rest = some S → (h = k ∧ S = S') ∨ rest = some S := by
    intro k S' rest hc
    cases hk : Nat.beq h k with
    | true => rw [hk] at hc; cases hc; exact .inl ⟨Nat.eq_of_beq_eq_true hk, rfl⟩
    | false => rw [hk] at hc; exact .inr hc
  rcases step _ _ _ hS with ⟨rfl, rfl⟩ | hS
  · refine ⟨ent (by kernel_rfl), fun g args A v A' hr => memoSpec_sound (fun M hM => ?_) hr⟩
    simp only [List.mem_cons, List.not_mem_nil, or_false] at hM
    rcases hM with rfl | rfl
    · exact Memo.ok_of_check (K1_ok hL) (isFn 37 (by kernel_rfl)) (by kernel_rfl) mCheckG_run
    · exact Memo.ok_of_check (K1_ok hL) (isFn 37 (by kernel_rfl)) (by kernel_rfl) mCheckT_run
  rcases step _ _ _ hS with ⟨rfl, rfl⟩ | hS
  · refine ⟨ent (by kernel_rfl), fun g args A v A' hr => memoSpec_sound (fun M hM => ?_) hr⟩
    simp only [List.mem_singleton] at hM
    subst hM
    exact Memo.ok_of_check (K1_ok hL) (isFn 265 (by kernel_rfl)) (by kernel_rfl) mSills_run
  rcases step _ _ _ hS with ⟨rfl, rfl⟩ | hS
  · refine ⟨ent (by kernel_rfl), fun g args A v A' hr => memoSpec_sound (fun M hM => ?_) hr⟩
    simp only [List.mem_singleton] at hM
    subst hM
    exact Memo.ok_of_check (K1_ok hL) (isFn 297 (by kernel_rfl)) (by kernel_rfl) mPonds_run
  exact K1_ok hL h S hS
theorem S289_ok (hL : LaidIn W0) {g : Nat} {args : List Value} {A : Hp} {v : Value} {A' : Hp} (h : S289 g args A = some (v, A')) : FnSound (E W0) g 289 args A v A' ∧ HK g A A' := by
  have hw : mWorks.Ok (E W0) 289 := Memo.ok_of_check (K2_ok hL) (isFn 289 (by kernel_rfl)) (by kernel_rfl) mWorks_run
  unfold S289 at h
  split at h
  · cases h
    exact Memo.try_sound hw rfl
  · cases h
theorem KL_ok (hL : LaidIn W0) : SpecsOk (E W0) KL := by
  intro h S hS
  unfold KL at hS
  cases hb : Nat.beq h 289 with
  | true =>
    rw [hb] at hS
    cases hS
    have := Nat.eq_of_beq_eq_true hb
    subst this
    exact ⟨ent (by kernel_rfl), fun g args A v A' hr => S289_ok hL hr⟩
  | false => rw [hb] at hS; exact K1_ok hL h S hS
end
section
variable {g : Nat} {A : Hp} {V : Value → Hp → Prop}
@[simp] theorem w289 : WF AP KL g 289 [] A V ↔ V (.bool true) A := by
  rw [WF_spec (show KL 289 = some S289 from rfl)]
  rfl
end
end Go.Ab.Grid
namespace Go.Ab
def EndQ (l : Nat) (T : List Value) (D : List Nat) (Q : Ex → St → Prop) (_ : Value) (A3 : Hp) : Prop :=
  match A3.get l with
  | some (.loop r) => match r.state with
    | .busy => False
    | _ => match r.pending with
      | none => Q .normal ⟨T, D, A3.set l (some (.loop { r with state := .exhausted }))⟩
      | some none => Q .ret ⟨T, D, A3.set l (some (.loop { r with state := .exhausted }))⟩
      | some (some id) => Q (.exit id) ⟨T, D, A3.set l (some (.loop { r with state := .exhausted }))⟩
  | _ => False
def recL (T : List Value) (ps : List Nat) (asg body : ACode) : ABlk := .loop { state := .ready, pending := none, tmps := T, params := ps, assign := asg, body := body }
section
variable {AP : Nat → Option AFunc} {K : Nat → Option Spec} {g : Nat} {T : List Value} {D : List Nat} {A : Hp} {Q : Ex → St → Prop} {V : Value → Hp → Prop}
theorem endLoop_of {l : Nat} {v : Value} {A3 : Hp} (h : EndQ l T D Q v A3) : ∃ ex st', endLoopA l T D (some (v, A3)) = some (ex, st') ∧ Q ex st' := by
  unfold EndQ at h
  unfold endLoopA
  split at h
  · rename_i r hr
    simp only [hr]
    split at h
    · cases h
    · rename_i hs
      split at h
      · rename_i hp
        refine ⟨_, _, ?_, h⟩
        simp [hp]
      · rename_i hp
        refine ⟨_, _, ?_, h⟩
        simp [hp]
      · rename_i id hp
        refine ⟨_, _, ?_, h⟩
        simp [hp]
  · cases h
theorem W_range {f : Opd} {ps : List Nat} {asg body : ACode} {h : Nat} {first captured : List Value} (hf : ev T f = .func (.func h) ⟨first⟩ ⟨captured⟩)
    (hw : WF AP K g h (first ++ [.func (.yield (A.n + 1)) #[] #[]] ++ captured) ((A.push .marks).push (recL T ps asg body)) (EndQ (A.n + 1) T (A.n :: D) Q)) :
    W AP K g none (.rangeF f ps asg body) ⟨T, D, A⟩ Q := by
  obtain ⟨m, d, v, A3, hr, hq⟩ := hw
  obtain ⟨ex, st', he, hQ⟩ := endLoop_of hq
  refine ⟨m, d + 1, ex, st', ?_, hQ⟩
  change rangeA (callF AP K (exec AP K m d)) ps asg body g none ⟨T, D, A⟩ (ev T f) = _
  rw [hf]
  simp only [rangeA]
  rw [← he]
  exact congrArg _ hr
def Keep (P : Nat → Prop) (A A' : Hp) : Prop := A.n ≤ A'.n ∧ ∀ x, x < A.n → ¬ P x → A'.get x = A.get x
theorem Keep.refl (P : Nat → Prop) (A : Hp) : Keep P A A := ⟨Nat.le_refl _, fun _ _ _ => rfl⟩
theorem Keep.trans {P : Nat → Prop} {A B C : Hp} (h : Keep P A B) (h' : Keep P B C) : Keep P A C := ⟨Nat.le_trans h.1 h'.1, fun x hx hp => by rw [h'.2 x (Nat.lt_of_lt_of_le hx h.1) hp, h.2 x hx hp]⟩
theorem Keep.push (P : Nat → Prop) (A : Hp) (b : ABlk) : Keep P A (A.push b) := ⟨Nat.le_succ _, fun x hx _ => get_push_old hx⟩
theorem Keep.mono {P P' : Nat → Prop} {A B : Hp} (h : Keep P A B) (hp : ∀ x, P x → P' x) : Keep P' A B := ⟨h.1, fun x hx hn => h.2 x hx fun hP => hn (hp x hP)⟩
def Ext' (A A' : Hp) : Prop := A.n ≤ A'.n ∧ ∀ x, x < A.n → A'.get x = A.get x
theorem Ext'.refl (A : Hp) : Ext' A A := ⟨Nat.le_refl _, fun _ _ => rfl⟩
theorem Ext'.trans {A B C : Hp} (h : Ext' A B) (h' : Ext' B C) : Ext' A C := ⟨Nat.le_trans h.1 h'.1, fun x hx => by rw [h'.2 x (Nat.lt_of_lt_of_le hx h.1), h.2 x hx]⟩
theorem Ext'.push (A : Hp) (b : ABlk) : Ext' A (A.push b) := ⟨Nat.le_succ _, fun x hx => get_push_old hx⟩
theorem Ext'.get {A A' : Hp} (h : Ext' A A') {x : Nat} {b : ABlk} (hx : A.get x = some b) : A'.get x = some b := by rw [h.2 x (Hp.lt_of_get hx)]; exact hx
theorem Ext'.keep {A A' : Hp} (h : Ext' A A') (P : Nat → Prop) : Keep P A A' := ⟨h.1, fun x hx _ => h.2 x hx⟩
end
end Go.Ab
namespace Go.Ab
theorem AccS.cases {N k : Nat} {A : Hp} {cs : List Value} {sv : Value} (hk : 0 < k) (h : AccS N A k cs sv) : (cs = [] ∧ sv = .slice none 0 0) ∨ ∃ b, cs ≠ [] ∧ sv = .slice (some ⟨b, 0, some k⟩) (cs.length / k) (cs.length / k) ∧ A.get b = some (.cells cs false) ∧ N ≤ b := by
  rcases h with ⟨h1, h2⟩ | ⟨b, n, h1, h2, h3, h4, h5⟩
  · exact .inl ⟨h2, h1⟩
  · refine .inr ⟨b, ?_, ?_, h2, h3⟩
    · intro h; rw [h] at h4
      have := Nat.mul_pos h5 hk
      simp at h4; omega
    · rw [h4, Nat.mul_div_cancel _ hk]; exact h1
section
variable {E : Env} {K : Nat → Option Spec}
end
end Go.Ab
namespace Go.Ab
open Go
inductive Ty where
  | int (k : IntKind)
  | bool
  | str
  | unit
  | pair (a b : Ty)
  | slice (e : Ty)
def Ty.size : Ty → Nat
  | .unit => 0
  | .pair a b => a.size + b.size
  | _ => 1
def Ty.plain : Ty → Bool
  | .slice _ => false
  | .pair a b => a.plain && b.plain
  | _ => true
def Ty.rep : Nat → Ty → Ty
  | 0, _ => .unit
  | n + 1, e => .pair e (rep n e)
def fieldsTy (rec : TypeId → Option Ty) (P : Program) : Nat → List Field → Option Ty
  | _, [] => some .unit
  | off, f :: fs => match rec f.type with
    | some tf => if f.offset = off ∧ tf.size = P.cellsOf f.type then (fieldsTy rec P (off + tf.size) fs).map fun r => .pair tf r else none
    | none => none
def tyOf (P : Program) : Nat → TypeId → Option Ty
  | 0, _ => none
  | fuel + 1, t => match P.underlying t with
    | some .bool => some .bool
    | some (.int k) => some (.int k)
    | some .string => some .str
    | some (.slice e) => match tyOf P fuel e with
      | some te => if te.size = P.cellsOf e ∧ 0 < te.size then some (.slice te) else none
      | none => none
    | some (.struct fs) => match fieldsTy (tyOf P fuel) P 0 fs.toList with
      | some ty => if ty.size = P.cellsOf t then some ty else none
      | none => none
    | some (.array n e) => match tyOf P fuel e with
      | some te => if te.size = P.cellsOf e ∧ n * te.size = P.cellsOf t then some (.rep n te) else none
      | none => none
    | _ => none
def Sh (rows : List (List Value)) : Ty → List Value → Prop
  | .int k, cs => ∃ n, cs = [.int k n] ∧ (Lit.int k n).wf = true
  | .bool, cs => ∃ b, cs = [.bool b]
  | .str, cs => ∃ s : ByteArray, cs = [.string s] ∧ s.size ≤ maxLen
  | .unit, cs => cs = []
  | .pair a b, cs => ∃ l r, cs = l ++ r ∧ Sh rows a l ∧ Sh rows b r
  | .slice e, cs => cs = [.slice none 0 0] ∨ ∃ x n c row, cs = [.slice (some ⟨x, 0, some e.size⟩) n c] ∧ n ≤ maxLen ∧ rows[x]? = some row ∧ row.length = n * e.size ∧ (e.plain = true → row.all simple = true) ∧
      ∃ f : Nat → List Value, row = (List.range n).flatMap f ∧ ∀ i, i < n → Sh rows e (f i) ∧ (f i).length = e.size
theorem Sh.mono {rows rows' : List (List Value)} (h : ∀ (i : Nat) r, rows[i]? = some r → rows'[i]? = some r) : ∀ {t : Ty} {cs : List Value}, Sh rows t cs → Sh rows' t cs
  | .int _, _, hs => hs
  | .bool, _, hs => hs
  | .str, _, hs => hs
  | .unit, _, hs => hs
  | .pair a b, cs, ⟨l, r, h1, h2, h3⟩ => ⟨l, r, h1, Sh.mono h h2, Sh.mono h h3⟩
  | .slice e, cs, hs => by
    rcases hs with hs | ⟨x, n, c, row, h1, h2, h3, h4, h5, f, h6, h7⟩
    · exact .inl hs
    · exact .inr ⟨x, n, c, row, h1, h2, h _ _ h3, h4, h5, f, h6, fun i hi => ⟨Sh.mono h (h7 i hi).1, (h7 i hi).2⟩⟩
theorem Sh.length {rows : List (List Value)} : ∀ {t : Ty} {cs : List Value}, Sh rows t cs → cs.length = t.size
  | .int _, _, ⟨_, h, _⟩ => by rw [h]; rfl
  | .bool, _, ⟨_, h⟩ => by rw [h]; rfl
  | .str, _, ⟨_, h, _⟩ => by rw [h]; rfl
  | .unit, _, h => by rw [show _ = [] from h]; rfl
  | .pair a b, _, ⟨l, r, h1, h2, h3⟩ => by rw [h1, List.length_append, Sh.length h2, Sh.length h3]; rfl
  | .slice e, _, hs => by
    rcases hs with hs | ⟨x, n, c, row, h1, _⟩
    · rw [hs]; rfl
    · rw [h1]; rfl
theorem Sh.simple {rows : List (List Value)} : ∀ {t : Ty} {cs : List Value}, t.plain = true → Sh rows t cs → cs.all simple = true
  | .int _, _, _, ⟨_, h, _⟩ => by rw [h]; rfl
  | .bool, _, _, ⟨_, h⟩ => by rw [h]; rfl
  | .str, _, _, ⟨_, h, _⟩ => by rw [h]; rfl
  | .unit, _, _, h => by rw [show _ = [] from h]; rfl
  | .pair a b, _, hp, ⟨l, r, h1, h2, h3⟩ => by
    simp only [Ty.plain, Bool.and_eq_true] at hp
    rw [h1, List.all_append, Sh.simple hp.1 h2, Sh.simple hp.2 h3]; rfl
  | .slice e, _, hp, _ => by simp [Ty.plain] at hp
section
variable {H : Type} {enc : TypeId × Value → H} {E : Env} {w : World}
def Leads (w : World) (v : Value) : Prop := ∀ a n q, v = .slice (some a) n q → ∃ (b : Nat) (c : Array Value) (el : TypeId) (fr : Nat × Nat), w.heap[b]? = some (.cells c el fr)
structure Good (E : Env) (w : World) (rows : List (List Value)) (φ : NM) : Prop where
  dom : ∀ x, rows.length ≤ x → φ x = none
  row : ∀ i r, rows[i]? = some r → ∃ e, φ i = some e ∧ e.blk < w.heap.size ∧ RelB E φ w (.cells r true) e
def More (rows rows' : List (List Value)) : Prop := ∀ (i : Nat) r, rows[i]? = some r → rows'[i]? = some r
theorem More.refl (rows : List (List Value)) : More rows rows := fun _ _ h => h
theorem More.trans {a b c : List (List Value)} (h : More a b) (h' : More b c) : More a c := fun i r hr => h' i r (h i r hr)
theorem flat_at {n k : Nat} {f : Nat → List Value} (hf : ∀ q, q < n → (f q).length = k) : ∀ {i : Nat} {v : Value}, ((List.range n).flatMap f)[i]? = some v → ∃ q r, q < n ∧ r < k ∧ i = q * k + r ∧ (f q)[r]? = some v := by
  induction n with
  | zero => intro i v h; simp at h
  | succ n ih =>
    intro i v h
    have hlen : ((List.range n).flatMap f).length = n * k := by
      have : ∀ m, m ≤ n → ((List.range m).flatMap f).length = m * k := by
        intro m
        induction m with
        | zero => intro _; simp
        | succ m ihm => intro hm; rw [List.range_succ, List.flatMap_append, List.length_append, ihm (by omega), Nat.succ_mul]; simp [hf m (by omega)]
      exact this n (Nat.le_refl _)
    rw [List.range_succ, List.flatMap_append] at h
    by_cases hi : i < n * k
    · rw [List.getElem?_append_left (by rw [hlen]; exact hi)] at h
      obtain ⟨q, r, h1, h2, h3, h4⟩ := ih (fun q hq => hf q (by omega)) h
      exact ⟨q, r, by omega, h2, h3, h4⟩
    · rw [List.getElem?_append_right (by rw [hlen]; omega), hlen] at h
      have h' : (f n)[i - n * k]? = some v := by simpa using h
      have hlt := (List.getElem?_eq_some_iff.1 h').1
      rw [hf n (by omega)] at hlt
      exact ⟨n, i - n * k, by omega, hlt, by omega, h'⟩
theorem flat_len {n k : Nat} {f : Nat → List Value} (hf : ∀ q, q < n → (f q).length = k) : ((List.range n).flatMap f).length = n * k := by
  induction n with
  | zero => simp
  | succ n ih => rw [List.range_succ, List.flatMap_append, List.length_append, ih fun q hq => hf q (by omega), Nat.succ_mul]; simp [hf n (by omega)]
theorem cell_add {a : Addr} {c : Array Value} {el : TypeId} {fr : Nat × Nat} (hs : a.spot = none) (hb : w.heap[a.block]? = some (.cells c el fr)) (j : Nat) : w.cell? (a.add j) = c[a.off + j]? := by
  obtain ⟨b, off, spot⟩ := a
  subst hs
  unfold Addr.add World.cell?
  by_cases hj : j = 0
  · subst hj; simp at hb ⊢; simp [hb]
  · simp [hj] at hb ⊢; simp [hb]
theorem Good.push {rows : List (List Value)} {φ : NM} (h : Good E w rows φ) {r : List Value} {e : Ent} (hb : e.blk < w.heap.size) (hB : RelB E φ w (.cells r true) e) :
    Good E w (rows ++ [r]) (fun x => if x = rows.length then some e else φ x) ∧ Ext φ (fun x => if x = rows.length then some e else φ x) ∧ More rows (rows ++ [r]) := by
  have hext : Ext φ (fun x => if x = rows.length then some e else φ x) := fun x ex hx => by
    by_cases h' : x = rows.length
    · subst h'; rw [h.dom _ (Nat.le_refl _)] at hx; cases hx
    · simp only [if_neg h']; exact hx
  refine ⟨⟨fun x hx => ?_, fun i r' hr' => ?_⟩, hext, fun i r' hr' => ?_⟩
  · simp at hx
    simp only [if_neg (show ¬ x = rows.length by omega)]
    exact h.dom x (by omega)
  · by_cases hi : i < rows.length
    · rw [List.getElem?_append_left hi] at hr'
      obtain ⟨ex, h1, h2, h3⟩ := h.row i r' hr'
      exact ⟨ex, hext i ex h1, h2, h3.mono hext rfl⟩
    · rw [List.getElem?_append_right (by omega)] at hr'
      have : i = rows.length := by
        rcases Nat.eq_or_lt_of_le (Nat.le_of_not_lt hi) with h' | h'
        · exact h'.symm
        · rw [List.getElem?_eq_none (by simp; omega)] at hr'; cases hr'
      subst this
      simp at hr'
      subst hr'
      exact ⟨e, by simp, hb, hB.mono hext rfl⟩
  · have := (List.getElem?_eq_some_iff.1 hr').1
    rw [List.getElem?_append_left this]; exact hr'
theorem elems_abs {te : Ty} {e : TypeId} {n : Nat}
    (ih : ∀ (cs : List Value) (x : DataW H × List MemPlace), DataW.trod enc E.P w 0 (fun _ => true) true n e cs = some x → (∀ v ∈ cs, Leads w v) → ∀ (rows : List (List Value)) (φ : NM), Good E w rows φ →
      ∃ rows' φ' ac, More rows rows' ∧ Ext φ φ' ∧ Good E w rows' φ' ∧ RelL E.lab φ' ac cs ∧ Sh rows' te ac) {g : Nat → List Value} :
    ∀ (m : Nat), (∀ i, i < m → ∃ x, DataW.trod enc E.P w 0 (fun _ => true) true n e (g i) = some x) → (∀ i, i < m → ∀ v ∈ g i, Leads w v) → ∀ (rows : List (List Value)) (φ : NM), Good E w rows φ →
      ∃ rows' φ', ∃ f : Nat → List Value, More rows rows' ∧ Ext φ φ' ∧ Good E w rows' φ' ∧ ∀ i, i < m → RelL E.lab φ' (f i) (g i) ∧ Sh rows' te (f i)
  | 0, _, _, rows, φ, hg => ⟨rows, φ, fun _ => [], More.refl _, Ext.refl _, hg, fun i hi => absurd hi (by omega)⟩
  | m + 1, hx, hl, rows, φ, hg => by
    obtain ⟨rows1, φ1, f1, a1, a2, a3, a4⟩ := elems_abs ih m (fun i hi => hx i (by omega)) (fun i hi => hl i (by omega)) rows φ hg
    obtain ⟨x, hx'⟩ := hx m (by omega)
    obtain ⟨rows2, φ2, ac, b1, b2, b3, b4, b5⟩ := ih (g m) x hx' (hl m (by omega)) rows1 φ1 a3
    refine ⟨rows2, φ2, fun i => if i = m then ac else f1 i, a1.trans b1, a2.trans b2, b3, fun i hi => ?_⟩
    by_cases h : i = m
    · subst h; simp only [if_true]; exact ⟨b4, b5⟩
    · simp only [if_neg h]
      obtain ⟨c1, c2⟩ := a4 i (by omega)
      exact ⟨c1.mono b2, c2.mono b1⟩
theorem slice_cells {te : Ty} {t e : TypeId} {cs : List Value} {fuel : Nat} {x : DataW H × List MemPlace} (ht : E.P.underlying t = some (.slice e)) (hsz : te.size = E.P.cellsOf e) (h0 : 0 < te.size)
    (ih : ∀ (fuel : Nat) (cs : List Value) (x : DataW H × List MemPlace), DataW.trod enc E.P w 0 (fun _ => true) true fuel e cs = some x → (∀ v ∈ cs, Leads w v) → ∀ (rows : List (List Value)) (φ : NM), Good E w rows φ →
      ∃ rows' φ' ac, More rows rows' ∧ Ext φ φ' ∧ Good E w rows' φ' ∧ RelL E.lab φ' ac cs ∧ Sh rows' te ac)
    (hx : DataW.trod enc E.P w 0 (fun _ => true) true fuel t cs = some x) (hl : ∀ v ∈ cs, Leads w v) {rows : List (List Value)} {φ : NM} (hg : Good E w rows φ) :
    ∃ rows' φ' ac, More rows rows' ∧ Ext φ φ' ∧ Good E w rows' φ' ∧ RelL E.lab φ' ac cs ∧ Sh rows' (.slice te) ac := by
  rcases Go.Deep.open_slice ht hx with ⟨rfl, _⟩ | ⟨a, len, cap, m, n, D, Pl, rfl, _, hlen, hcap, hm, _, hel⟩
  · exact ⟨rows, φ, [.slice none 0 0], More.refl _, Ext.refl _, hg, RelL.cons .nilSlice RelL.nil, .inl rfl⟩
  · simp only [if_true] at hm
    subst hm
    obtain ⟨b0, c0, el0, fr0, hb0⟩ := hl _ (List.mem_singleton.2 rfl) a len m rfl
    have hlead : ∀ v, Leads w v := fun v _ _ _ _ => ⟨b0, c0, el0, fr0, hb0⟩
    obtain ⟨b, c, el, fr, hb, hbase⟩ : ∃ (b : Nat) (c : Array Value) (el : TypeId) (fr : Nat × Nat), w.heap[b]? = some (.cells c el fr) ∧ (0 < m → a = ⟨b, a.off, none⟩) := by
      rcases Nat.eq_zero_or_pos m with h | h
      · exact ⟨b0, c0, el0, fr0, hb0, fun h' => by omega⟩
      · obtain ⟨cs', h1, h2⟩ := hel 0 h
        obtain ⟨_, h4, h5⟩ := World.cells?_some h1
        obtain ⟨v, hv⟩ : ∃ v, cs'[0]? = some v := ⟨cs'[0]'(by omega), List.getElem?_eq_getElem (by omega)⟩
        have h6 := h5 0 (by omega)
        rw [Nat.zero_mul, hv] at h6
        have e0 : (a.add 0).add 0 = a := by simp [Addr.add]
        rw [e0] at h6
        unfold World.cell? at h6
        split at h6
        · rename_i c el fr hc
          split at h6
          · cases h6
          · rename_i hs
            refine ⟨a.block, c, el, fr, hc, fun _ => ?_⟩
            obtain ⟨b, o, s⟩ := a
            cases s with
            | none => rfl
            | some s => exact absurd rfl hs
        · cases h6
    obtain ⟨gc, hgc⟩ := Go.Deep.choose_lt (α := List Value) (p := fun i cs' => cs'.length = te.size ∧ (∀ j, j < cs'.length → c[a.off + (i * te.size + j)]? = cs'[j]?) ∧ ∃ x, DataW.trod enc E.P w 0 (fun _ => true) true n e cs' = some x) (n := m) fun i hi => by
      obtain ⟨cs', h1, h2⟩ := hel i hi
      obtain ⟨_, h4, h5⟩ := World.cells?_some h1
      refine ⟨cs', by rw [h4, hsz], fun j hj => ?_, _, h2⟩
      have ha := hbase (by omega)
      rw [← h5 j (by omega), Go.Deep.add_add, ← hsz]
      rw [ha]
      rw [cell_add rfl hb]
    obtain ⟨rows1, φ1, f, m1, x1, g1, hf⟩ := elems_abs (ih n) m (fun i hi => (hgc i hi).2.2) (fun i hi v _ => hlead v) rows φ hg
    have hfl : ∀ q, q < len → (f q).length = te.size := fun q hq => by rw [(hf q (by omega)).1.1, (hgc q (by omega)).1]
    have hrl : ((List.range len).flatMap f).length = len * te.size := flat_len hfl
    have hsimple : te.plain = true → ((List.range len).flatMap f).all simple = true := by
      intro hp
      rw [List.all_eq_true]
      intro v hv
      obtain ⟨q, hq, hv⟩ := List.mem_flatMap.1 hv
      exact List.all_eq_true.1 (Sh.simple hp (hf q (by simp at hq; omega)).2) v hv
    have hsize : m = 0 ∨ a.off + m * te.size ≤ c.size := by
      rcases Nat.eq_zero_or_pos m with h | h
      · exact .inl h
      · right
        obtain ⟨h1, h2, h3⟩ := hgc (m - 1) (by omega)
        have h4 := h2 (te.size - 1) (by omega)
        rw [List.getElem?_eq_getElem (by omega)] at h4
        have := (Array.getElem?_eq_some_iff.1 h4).1
        have e1 : (m - 1) * te.size + te.size = m * te.size := by rw [← Nat.succ_mul]; congr 1; omega
        omega
    have hlt : len * te.size ≤ m * te.size := Nat.mul_le_mul_right _ hlen
    have hbl : b < w.heap.size := (Array.getElem?_eq_some_iff.1 hb).1
    obtain ⟨g2, x2, m2⟩ := g1.push (r := (List.range len).flatMap f) (e := ⟨b, if m = 0 then 0 else a.off, c.size⟩) hbl (by
      refine ⟨c, el, fr, hb, rfl, ?_, fun h => (by cases h), ?_⟩
      · by_cases hz : m = 0
        · subst hz; simp [show len = 0 by omega]
        · simp only [if_neg hz]; rw [hrl]; rcases hsize with h | h
          · exact absurd h hz
          · omega
      · intro i v hv
        obtain ⟨q, r, h1, h2, h3, h4⟩ := flat_at hfl hv
        by_cases hz : m = 0
        · omega
        · simp only [if_neg hz]
          obtain ⟨k1, k2, _⟩ := hgc q (by omega)
          obtain ⟨v', hv', hr⟩ := (hf q (by omega)).1.get h4
          refine ⟨v', ?_, hr⟩
          rw [h3, k2 r (by omega), hv'])
    refine ⟨_, _, [.slice (some ⟨rows1.length, 0, some te.size⟩) len len], m1.trans m2, x1.trans x2, g2, RelL.cons ?_ RelL.nil, .inr ⟨rows1.length, len, len, (List.range len).flatMap f, rfl, by omega, by simp, hrl, hsimple, f, rfl, fun i hi => ⟨Sh.mono m2 (hf i (by omega)).2, hfl i hi⟩⟩⟩
    refine RelV.slice (e := ⟨b, if m = 0 then 0 else a.off, c.size⟩) (by simp) hlen hlen ?_
    by_cases hz : m = 0
    · exact .inl hz
    · simp only [if_neg hz]
      rcases hsize with h | h
      · exact absurd h hz
      · exact .inr ⟨hbase (by omega), by simpa using h⟩
theorem abs_cells : ∀ (F : Nat) (ty : Ty) (t : TypeId) (cs : List Value) (fuel : Nat) (x : DataW H × List MemPlace), tyOf E.P F t = some ty → DataW.trod enc E.P w 0 (fun _ => true) true fuel t cs = some x → (∀ v ∈ cs, Leads w v) →
    ∀ (rows : List (List Value)) (φ : NM), Good E w rows φ → ∃ rows' φ' ac, More rows rows' ∧ Ext φ φ' ∧ Good E w rows' φ' ∧ RelL E.lab φ' ac cs ∧ Sh rows' ty ac := by
  intro F
  induction F with
  | zero => intro ty t cs fuel x h; cases h
  | succ F ih =>
    have hf : ∀ (fs : List Field) (off : Nat) (ty : Ty) (cs : List Value) (n : Nat), fieldsTy (tyOf E.P F) E.P off fs = some ty → cs.length = off + ty.size → (∀ v ∈ cs, Leads w v) →
        (∀ (i : Nat) (f : Field), fs[i]? = some f → ∃ y, DataW.trod enc E.P w 0 (fun _ => true) true n f.type ((cs.drop f.offset).take (E.P.cellsOf f.type)) = some y) →
        ∀ (rows : List (List Value)) (φ : NM), Good E w rows φ → ∃ rows' φ' ac, More rows rows' ∧ Ext φ φ' ∧ Good E w rows' φ' ∧ RelL E.lab φ' ac (cs.drop off) ∧ Sh rows' ty ac := by
      intro fs
      induction fs with
      | nil =>
        intro off ty cs n h1 h3 hl h4 rows φ hg
        cases h1
        refine ⟨rows, φ, [], More.refl _, Ext.refl _, hg, ?_, rfl⟩
        rw [List.drop_eq_nil_of_le (by simp [Ty.size] at h3; omega)]
        exact RelL.nil
      | cons f fs ihf =>
        intro off ty cs n h1 h3 hl h4 rows φ hg
        simp only [fieldsTy] at h1
        split at h1
        · rename_i tf htf
          split at h1
          · rename_i hc
            rw [Option.map_eq_some_iff] at h1
            obtain ⟨r, hr, rfl⟩ := h1
            obtain ⟨y, hy⟩ := h4 0 f rfl
            obtain ⟨rows1, φ1, ac1, a1, a2, a3, a4, a5⟩ := ih tf f.type _ n y htf hy (fun v hv => hl v (List.mem_of_mem_drop (List.mem_of_mem_take hv))) rows φ hg
            obtain ⟨rows2, φ2, ac2, b1, b2, b3, b4, b5⟩ := ihf (off + tf.size) r cs n hr (by simp only [Ty.size] at h3; omega) hl (fun i g hg => h4 (i + 1) g (by simpa using hg)) rows1 φ1 a3
            refine ⟨rows2, φ2, ac1 ++ ac2, a1.trans b1, a2.trans b2, b3, ?_, ac1, ac2, rfl, a5.mono b1, b5⟩
            have := (a4.mono b2).append b4
            rwa [hc.1, ← hc.2, ← List.drop_drop, List.take_append_drop] at this
          · cases h1
        · cases h1
    have ha : ∀ (te : Ty) (e : TypeId) (fuel : Nat), tyOf E.P F e = some te → ∀ (n : Nat) (cs : List Value), cs.length = n * te.size → (∀ v ∈ cs, Leads w v) →
        (∀ i, i < n → ∃ y, DataW.trod enc E.P w 0 (fun _ => true) true fuel e ((cs.drop (i * te.size)).take te.size) = some y) →
        ∀ (rows : List (List Value)) (φ : NM), Good E w rows φ → ∃ rows' φ' ac, More rows rows' ∧ Ext φ φ' ∧ Good E w rows' φ' ∧ RelL E.lab φ' ac cs ∧ Sh rows' (.rep n te) ac := by
      intro te e fuel hte n
      induction n with
      | zero =>
        intro cs hl _ _ rows φ hg
        rw [show cs = [] from List.eq_nil_of_length_eq_zero (by simpa using hl)]
        exact ⟨rows, φ, [], More.refl _, Ext.refl _, hg, RelL.nil, rfl⟩
      | succ n ihn =>
        intro cs hl hld h4 rows φ hg
        have hm : (n + 1) * te.size = n * te.size + te.size := Nat.succ_mul n te.size
        obtain ⟨y, hy⟩ := h4 0 (by omega)
        simp only [Nat.zero_mul, List.drop_zero] at hy
        obtain ⟨rows1, φ1, ac1, a1, a2, a3, a4, a5⟩ := ih te e _ fuel y hte hy (fun v hv => hld v (List.mem_of_mem_take hv)) rows φ hg
        obtain ⟨rows2, φ2, ac2, b1, b2, b3, b4, b5⟩ := ihn (cs.drop te.size) (by rw [List.length_drop]; omega) (fun v hv => hld v (List.mem_of_mem_drop hv)) (fun i hi => by
          obtain ⟨z, hz⟩ := h4 (i + 1) (by omega)
          rw [Nat.succ_mul, Nat.add_comm (i * te.size), ← List.drop_drop] at hz
          exact ⟨z, hz⟩) rows1 φ1 a3
        refine ⟨rows2, φ2, ac1 ++ ac2, a1.trans b1, a2.trans b2, b3, ?_, ac1, ac2, rfl, a5.mono b1, b5⟩
        have := (a4.mono b2).append b4
        rwa [List.take_append_drop] at this
    intro ty t cs fuel x h hx hl rows φ hg
    have plain : ∀ {s : Ty}, s.plain = true → Sh rows s cs → ∃ rows' φ' ac, More rows rows' ∧ Ext φ φ' ∧ Good E w rows' φ' ∧ RelL E.lab φ' ac cs ∧ Sh rows' s ac :=
      fun hp hs => ⟨rows, φ, cs, More.refl _, Ext.refl _, hg, relL_simple (Sh.simple hp hs), hs⟩
    simp only [tyOf] at h
    split at h
    · rename_i ht; cases h; obtain ⟨b, rfl, _⟩ := DataW.trod_bool ht hx; exact plain rfl ⟨b, rfl⟩
    · rename_i k ht; cases h; obtain ⟨n, rfl, _, hw⟩ := DataW.trod_int ht hx; exact plain rfl ⟨n, rfl, hw⟩
    · rename_i ht; cases h; obtain ⟨s, rfl, _, hs⟩ := DataW.trod_string ht hx; exact plain rfl ⟨s, rfl, hs⟩
    · rename_i e ht
      split at h
      · rename_i te hte
        split at h
        · rename_i hc
          cases h
          exact slice_cells ht hc.1 hc.2 (fun fuel cs x => ih te e cs fuel x hte) hx hl hg
        · cases h
      · cases h
    · rename_i fs ht
      split at h
      · rename_i ty' hty
        split at h
        · rename_i hsz
          cases h
          obtain ⟨xs, n, _, _, hln, hxl, hget⟩ := DataW.trod_struct ht hx
          have := hf fs.toList 0 ty cs n hty (by rw [hln, hsz, Nat.zero_add]) hl (fun i f hi => by
            have hi' : fs[i]? = some f := by simpa using hi
            have hlt : i < xs.length := by rw [hxl]; exact (Array.getElem?_eq_some_iff.1 hi').1
            exact ⟨xs[i], by rw [hget i f hi', List.getElem?_eq_getElem hlt]⟩) rows φ hg
          simpa using this
        · cases h
      · cases h
    · rename_i n e ht
      split at h
      · rename_i te hte
        split at h
        · rename_i hsz
          cases h
          obtain ⟨xs, m, _, _, hln, hxl, hget⟩ := DataW.trod_array ht hx
          exact ha te e m hte n cs (by rw [hln, hsz.2]) hl (fun i hi => ⟨xs[i], by rw [hsz.1, hget i hi, List.getElem?_eq_getElem]⟩) rows φ hg
        · cases h
      · cases h
    · cases h
def Ty.one : Ty → Bool
  | .unit => false
  | .pair _ _ => false
  | _ => true
def mkV (t : Ty) (ac : List Value) : Value := if t.one then ac.headD undef else .agg ac.toArray
theorem leads_of_cell {P : Program} {r : Reach} {base : Nat} {u : TypeId} {v : Value} (h : Cell.okWide P w r base u v) : Leads w v := by
  intro a n q hv
  subst hv
  have h2 : Cell.ok P w r base u (.slice (some a) n q) := by
    unfold Cell.okWide at h
    split at h <;> simp_all
  unfold Cell.ok at h2
  generalize P.underlying u = o at h2
  cases o with
  | none => exact h2.elim
  | some d =>
    cases d with
    | slice e =>
      obtain ⟨_, _, _, hs, row, cells, hsh, _⟩ := h2
      unfold World.shape? at hsh
      split at hsh
      · rename_i c el fr hc; exact ⟨_, c, el, fr, hc⟩
      · cases hsh
    | _ => exact h2.elim
theorem fieldsTy_one {rec : TypeId → Option Ty} {P : Program} : ∀ {off : Nat} {fs : List Field} {ty : Ty}, fieldsTy rec P off fs = some ty → ty.one = false
  | _, [], _, h => by cases h; rfl
  | off, f :: fs, ty, h => by
    simp only [fieldsTy] at h
    split at h
    · split at h
      · rw [Option.map_eq_some_iff] at h
        obtain ⟨r, _, rfl⟩ := h
        rfl
      · cases h
    · cases h
theorem rep_one {e : Ty} : ∀ {n : Nat}, (Ty.rep n e).one = false
  | 0 => rfl
  | _ + 1 => rfl
theorem one_of_ty {P : Program} {F : Nat} {ty : Ty} {t : TypeId} {v : Value} {r : Reach} {base : Nat} (hty : tyOf P F t = some ty) (hval : Value.okWide P w r base t v) : (ty.one = false ∧ ∃ cs, v = .agg cs ∧ Row.okWide P w r base t cs) ∨ (ty.one = true ∧ v.cells = #[v] ∧ Cell.okWide P w r base t v) := by
  cases F with
  | zero => cases hty
  | succ F =>
    unfold Value.okWide at hval
    simp only [tyOf] at hty
    split at hty
    · rename_i ht; cases hty; rw [ht] at hval; right
      refine ⟨rfl, ?_, hval⟩
      cases v <;> simp [Cell.okWide, Cell.ok, ht, Value.cells] at hval ⊢
    · rename_i ht; cases hty; rw [ht] at hval; right
      refine ⟨rfl, ?_, hval⟩
      cases v <;> simp [Cell.okWide, Cell.ok, ht, Value.cells] at hval ⊢
    · rename_i ht; cases hty; rw [ht] at hval; right
      refine ⟨rfl, ?_, hval⟩
      cases v <;> simp [Cell.okWide, Cell.ok, ht, Value.cells] at hval ⊢
    · rename_i ht
      rw [ht] at hval
      split at hty
      · split at hty
        · cases hty; right
          refine ⟨rfl, ?_, hval⟩
          cases v <;> simp [Cell.okWide, Cell.ok, ht, Value.cells] at hval ⊢
        · cases hty
      · cases hty
    · rename_i ht
      rw [ht] at hval
      obtain ⟨cs, rfl, _, hr⟩ := hval
      split at hty
      · rename_i ty' hty'
        split at hty
        · cases hty; exact .inl ⟨fieldsTy_one hty', cs, rfl, hr⟩
        · cases hty
      · cases hty
    · rename_i ht
      rw [ht] at hval
      obtain ⟨cs, rfl, _, hr⟩ := hval
      split at hty
      · split at hty
        · cases hty; exact .inl ⟨rep_one, cs, rfl, hr⟩
        · cases hty
      · cases hty
    · cases hty
theorem abs_arg {F : Nat} {ty : Ty} {t : TypeId} {v : Value} {d : DataW H} {ps : List MemPlace} {r : Reach} {base : Nat} (hty : tyOf E.P F t = some ty) (hval : Value.okWide E.P w r base t v) (h : DataW.Trod enc E.P w 0 (fun _ => true) true t v d ps)
    {rows : List (List Value)} {φ : NM} (hg : Good E w rows φ) : ∃ rows' φ' ac, More rows rows' ∧ Ext φ φ' ∧ Good E w rows' φ' ∧ RelV E.lab φ' (mkV ty ac) v ∧ Sh rows' ty ac := by
  obtain ⟨fuel, hx⟩ := h
  have hone := one_of_ty hty hval
  have hl : ∀ u ∈ v.cells.toList, Leads w u := by
    rcases hone with ⟨_, cs, rfl, ts, _, _, hr⟩ | ⟨_, hc, hv⟩
    · intro u hu
      obtain ⟨i, hi⟩ := List.mem_iff_getElem?.1 hu
      obtain ⟨u', _, hu'⟩ := hr i u (by simpa [Value.cells] using hi)
      exact leads_of_cell hu'
    · intro u hu
      rw [hc] at hu
      simp at hu
      subst hu
      exact leads_of_cell hv
  obtain ⟨rows', φ', ac, h1, h2, h3, h4, h5⟩ := abs_cells F ty t _ fuel _ hty hx hl rows φ hg
  refine ⟨rows', φ', ac, h1, h2, h3, ?_, h5⟩
  unfold mkV
  rcases hone with ⟨ho, cs, rfl, _⟩ | ⟨ho, hc, _⟩
  · rw [if_neg (by simp [ho])]
    exact RelL.agg (by simpa [Value.cells] using h4)
  · rw [if_pos ho]
    rw [hc] at h4
    cases ac with
    | nil => have := h4.1; simp at this
    | cons u us => exact h4.2 0 u v rfl rfl
theorem Good.start : Good E w [] fun _ => none := ⟨fun _ _ => rfl, fun i r h => by simp at h⟩
theorem Good.rel {rows : List (List Value)} {φ : NM} (h : Good E w rows φ) (hW : ∀ b, b < E.W0.size → w.heap[b]? = E.W0[b]?) (lim : Nat) : Rel E lim φ (roHp rows) w := by
  refine ⟨fun x e hx => ?_, fun x e hx => ?_, fun x b e hb hx => ?_, fun x y b c ex ey _ hb _ _ _ hrw => ?_, hW, fun x e hx _ => ?_⟩
  · rcases Nat.lt_or_ge x rows.length with h' | h'
    · exact .inl h'
    · rw [h.dom x h'] at hx; cases hx
  · rcases Nat.lt_or_ge x rows.length with h' | h'
    · obtain ⟨e', he', hlt, _⟩ := h.row x rows[x] (List.getElem?_eq_getElem h')
      rw [hx] at he'; cases he'; exact hlt
    · rw [h.dom x h'] at hx; cases hx
  · rw [roHp_get, Option.map_eq_some_iff] at hb
    obtain ⟨r, hr, rfl⟩ := hb
    obtain ⟨e', he', _, hB⟩ := h.row x r hr
    rw [hx] at he'; cases he'; exact hB
  · rw [roHp_get, Option.map_eq_some_iff] at hb
    obtain ⟨r, hr, rfl⟩ := hb
    cases hrw
  · rcases Nat.lt_or_ge x rows.length with h' | h'
    · exact ⟨.cells rows[x] true, by rw [roHp_get, List.getElem?_eq_getElem h']; rfl, rfl⟩
    · rw [h.dom x h'] at hx; cases hx
theorem law_calls {K : Nat → Option Spec} (hK : SpecsOk E K) {rows : List (List Value)} {φ : NM} {f : Nat} {f' : FuncId} {args args' : List Value} (hg : Good E w rows φ) (hlab : E.lab f' = f) (hfn : ∃ nt rs body, E.AP f = some (.fn nt rs body)) (hrel : RelL E.lab φ args args')
    (h : WF E.AP K rows.length f args (roHp rows) fun v _ => v = .bool true) (hW : ∀ b, b < E.W0.size → w.heap[b]? = E.W0[b]? := by exact fun b hb => absurd hb (Nat.not_lt_zero b)) : Calls E.P f' args'.toArray w fun e w' => e = .returned (.bool true) ∧ Go.RowKit.Below w.heap.size w w' := by
  obtain ⟨m, d, v, A', hr, rfl⟩ := h
  have hs := callA_sound hK hr hfn A'.n φ w f' args' (Nat.le_refl _) hlab hrel (hg.rel hW _)
  refine (hs.mono ?_).calls (fun k => ?_)
  · rintro e w' ⟨v', φ', rfl, hv, hP⟩
    cases hv
    refine ⟨rfl, hP.env.1, hP.env.2.2, hP.env.2.1, hP.size, fun b hb => hP.frame b hb fun x e hx _ => ?_⟩
    rcases Nat.lt_or_ge x rows.length with h' | h'
    · exact .inl h'
    · rw [hg.dom x h'] at hx; cases hx
  · intro d hd; cases hd
end
end Go.Ab
namespace Go.Ab
open Go
theorem RdS.more {rows rows' : List (List Value)} {k n : Nat} {cs : List Value} {sl : Value} (h : RdS (roHp rows) k n cs sl) (hm : More rows rows') : RdS (roHp rows') k n cs sl := by
  obtain ⟨h0, h | ⟨b, c, ro, h1, h2⟩⟩ := h
  · exact ⟨h0, .inl h⟩
  · refine ⟨h0, .inr ⟨b, c, ro, h1, ?_⟩⟩
    rw [roHp_get, Option.map_eq_some_iff] at h2
    obtain ⟨r, hr, e⟩ := h2
    rw [roHp_get, hm b r hr]
    exact congrArg some e
end Go.Ab
namespace Go.Ab
open Go
def kints (k : IntKind) (l : List Int) : List Value := l.map (.int k)
@[simp] theorem kints_length (k : IntKind) (l : List Int) : (kints k l).length = l.length := List.length_map ..
def allK (k : IntKind) : Ty → Bool
  | .int k' => decide (k' = k)
  | .unit => true
  | .pair a b => allK k a && allK k b
  | _ => false
theorem kints_append {k : IntKind} (a b : List Int) : kints k (a ++ b) = kints k a ++ kints k b := List.map_append ..
theorem sh_k {rows : List (List Value)} {k : IntKind} : ∀ {t : Ty} {cs : List Value}, allK k t = true → Sh rows t cs → ∃ zs : List Int, cs = kints k zs ∧ ∀ z ∈ zs, k.min ≤ z ∧ z ≤ k.max
  | .int k', cs, h, ⟨n, hn, hw⟩ => by
    have e : k' = k := by simpa [allK] using h
    subst e
    exact ⟨[n], hn, fun z hz => by rw [List.mem_singleton] at hz; subst hz; exact (Lit.wf_int_iff k' z).1 hw⟩
  | .unit, cs, _, h => ⟨[], h, fun z hz => by cases hz⟩
  | .pair a b, cs, h, ⟨l, r, h1, h2, h3⟩ => by
    simp only [allK, Bool.and_eq_true] at h
    obtain ⟨za, ea, ba⟩ := sh_k h.1 h2
    obtain ⟨zb, eb, bb⟩ := sh_k h.2 h3
    refine ⟨za ++ zb, by rw [h1, ea, eb, kints_append], fun z hz => ?_⟩
    rcases List.mem_append.1 hz with h' | h'
    · exact ba z h'
    · exact bb z h'
  | .bool, _, h, _ => by simp [allK] at h
  | .str, _, h, _ => by simp [allK] at h
  | .slice _, _, h, _ => by simp [allK] at h
theorem kints_flatMap {k : IntKind} {f : Nat → List Int} {n : Nat} : (List.range n).flatMap (fun i => kints k (f i)) = kints k ((List.range n).flatMap f) := by
  simp only [kints, List.map_flatMap]
theorem sh_slice_k {rows : List (List Value)} {k : IntKind} {e : Ty} {cs : List Value} (he : allK k e = true) (h : Sh rows (.slice e) cs) :
    ∃ (n : Nat) (zs : List Int) (sl : Value), cs = [sl] ∧ RdS (roHp rows) e.size n (kints k zs) sl ∧ n ≤ maxLen ∧ ∀ z ∈ zs, k.min ≤ z ∧ z ≤ k.max := by
  rcases h with rfl | ⟨x, n, q, row, rfl, hn, hrow, hlen, hs, f, rfl, hf⟩
  · exact ⟨0, [], _, rfl, ⟨by simp [kints], .inl ⟨rfl, rfl⟩⟩, Nat.zero_le _, fun z hz => by cases hz⟩
  · obtain ⟨p, hp⟩ := Go.Deep.choose_lt (α := List Int) (p := fun i p => f i = kints k p ∧ ∀ z ∈ p, k.min ≤ z ∧ z ≤ k.max) fun i hi => sh_k he (hf i hi).1
    have e1 : (List.range n).flatMap f = kints k ((List.range n).flatMap p) := by
      rw [← kints_flatMap]
      exact Go.Deep.flatMap_congr_range fun i hi => (hp i hi).1
    refine ⟨n, (List.range n).flatMap p, _, rfl, ⟨by rw [← e1, hlen], .inr ⟨x, q, true, rfl, by rw [roHp_get, hrow, ← e1]; rfl⟩⟩, hn, fun z hz => ?_⟩
    obtain ⟨i, hi, hz⟩ := List.mem_flatMap.1 hz
    exact (hp i (by simpa using hi)).2 z hz
theorem sh_int {rows : List (List Value)} {k : IntKind} {cs : List Value} (h : Sh rows (.int k) cs) : ∃ n, cs = [.int k n] ∧ k.min ≤ n ∧ n ≤ k.max := by
  obtain ⟨n, h1, h2⟩ := h
  exact ⟨n, h1, (Lit.wf_int_iff k n).1 h2⟩
end Go.Ab
