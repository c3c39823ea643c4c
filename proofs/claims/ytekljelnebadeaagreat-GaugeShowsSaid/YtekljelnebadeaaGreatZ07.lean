/- One operation of a region whose order is drawn; the whole region. -/
import Derived.Test.YtekljelnebadeaaGreatZ06
import Derived.Test.YtekljelnebadeaaGreatZ03
set_option linter.unusedSimpArgs false
set_option linter.unusedVariables false
set_option linter.unusedSectionVars false
namespace Go.Ab
section
variable {E : Env} {nt lim : Nat} {T : List Value} {A A' : Hp} {φ : NM} {w : World} {a : Act} {g : Nat} {v : Value} {o : Oper} {cv : CallFn} {ro : Bool}
theorem binOp_sound {op : BinOp} {t t' : TypeId} {x y : Operand} {ao : AOp} (ho : o.op = .binOp op t x y t') (hc : compBin E.P E.lab nt op t x y = some ao) (hT : RelT E.lab φ nt T a.tmps) (hR : Rel E lim φ A w)
    (h : opA ao cv g T A = some (v, A')) : OpOk E lim o φ A w a g v A' := by
  unfold compBin at hc
  split at hc
  · simp only [Option.bind_eq_some_iff, Option.map_eq_some_iff] at hc
    obtain ⟨x', hx, y', hy, rfl⟩ := hc
    exact bin_ok ho hT hR hx hy h
  · rename_i hu
    split at hc
    · simp only [Option.bind_eq_some_iff, Option.map_eq_some_iff] at hc
      obtain ⟨x', hx, y', hy, rfl⟩ := hc
      exact beq_ok (neg := false) ho rfl hu hT hR hx hy h
    · simp only [Option.bind_eq_some_iff, Option.map_eq_some_iff] at hc
      obtain ⟨x', hx, y', hy, rfl⟩ := hc
      exact beq_ok (neg := true) ho rfl hu hT hR hx hy h
    · cases hc
  · rename_i fs hu
    have hag : isAggA E.P t = some true := by simp [isAggA, hu]
    split at hc
    · rename_i sh hsh
      split at hc
      · rename_i hg
        split at hc
        · simp only [Option.bind_eq_some_iff, Option.map_eq_some_iff] at hc
          obtain ⟨x', hx, y', hy, rfl⟩ := hc
          exact eqv_ok (neg := false) ho rfl hag hsh hg hT hR hx hy h
        · simp only [Option.bind_eq_some_iff, Option.map_eq_some_iff] at hc
          obtain ⟨x', hx, y', hy, rfl⟩ := hc
          exact eqv_ok (neg := true) ho rfl hag hsh hg hT hR hx hy h
        · cases hc
      · cases hc
    · cases hc
  · rename_i n e hu
    have hag : isAggA E.P t = some true := by simp [isAggA, hu]
    split at hc
    · rename_i sh hsh
      split at hc
      · rename_i hg
        split at hc
        · simp only [Option.bind_eq_some_iff, Option.map_eq_some_iff] at hc
          obtain ⟨x', hx, y', hy, rfl⟩ := hc
          exact eqv_ok (neg := false) ho rfl hag hsh hg hT hR hx hy h
        · simp only [Option.bind_eq_some_iff, Option.map_eq_some_iff] at hc
          obtain ⟨x', hx, y', hy, rfl⟩ := hc
          exact eqv_ok (neg := true) ho rfl hag hsh hg hT hR hx hy h
        · cases hc
      · cases hc
    · cases hc
  · rename_i hu
    simp only [Option.bind_eq_some_iff, Option.map_eq_some_iff] at hc
    obtain ⟨x', hx, y', hy, rfl⟩ := hc
    exact strOp_ok ho hu hT hR hx hy h
  · rename_i e hu
    unfold compNil at hc
    split at hc
    · rename_i hn
      have hy : y = .const (.pointer none) := by
        unfold isNilC at hn; split at hn <;> simp at hn <;> rfl
      subst hy
      split at hc
      · simp only [Option.map_eq_some_iff] at hc
        obtain ⟨x', hx, rfl⟩ := hc
        exact eqNil_ok0 (neg := false) ho rfl hu hT hR hx h
      · simp only [Option.map_eq_some_iff] at hc
        obtain ⟨x', hx, rfl⟩ := hc
        exact eqNil_ok0 (neg := true) ho rfl hu hT hR hx h
      · cases hc
    · cases hc
  · rename_i e hu
    unfold compNil at hc
    split at hc
    · rename_i hn
      have hy : y = .const (.slice none 0 0) := by
        unfold isNilC at hn; split at hn <;> simp at hn <;> rfl
      subst hy
      split at hc
      · simp only [Option.map_eq_some_iff] at hc
        obtain ⟨x', hx, rfl⟩ := hc
        exact eqNil_ok1 (neg := false) ho rfl hu hT hR hx h
      · simp only [Option.map_eq_some_iff] at hc
        obtain ⟨x', hx, rfl⟩ := hc
        exact eqNil_ok1 (neg := true) ho rfl hu hT hR hx h
      · cases hc
    · cases hc
  · rename_i p q r hu
    unfold compNil at hc
    split at hc
    · rename_i hn
      have hy : y = .const .nilFunc := by
        unfold isNilC at hn; split at hn <;> simp at hn <;> rfl
      subst hy
      split at hc
      · simp only [Option.map_eq_some_iff] at hc
        obtain ⟨x', hx, rfl⟩ := hc
        exact eqNil_ok2 (neg := false) ho rfl hu hT hR hx h
      · simp only [Option.map_eq_some_iff] at hc
        obtain ⟨x', hx, rfl⟩ := hc
        exact eqNil_ok2 (neg := true) ho rfl hu hT hR hx h
      · cases hc
    · cases hc
  · rename_i p q hu
    unfold compNil at hc
    split at hc
    · rename_i hn
      have hy : y = .const (.map none) := by
        unfold isNilC at hn; split at hn <;> simp at hn <;> rfl
      subst hy
      split at hc
      · simp only [Option.map_eq_some_iff] at hc
        obtain ⟨x', hx, rfl⟩ := hc
        exact eqNil_ok3 (neg := false) ho rfl hu hT hR hx h
      · simp only [Option.map_eq_some_iff] at hc
        obtain ⟨x', hx, rfl⟩ := hc
        exact eqNil_ok3 (neg := true) ho rfl hu hT hR hx h
      · cases hc
    · cases hc
  · rename_i ms hu
    unfold compNil at hc
    split at hc
    · rename_i hn
      have hy : y = .const .nilIface := by
        unfold isNilC at hn; split at hn <;> simp at hn <;> rfl
      subst hy
      split at hc
      · simp only [Option.map_eq_some_iff] at hc
        obtain ⟨x', hx, rfl⟩ := hc
        exact eqNil_ok4 (neg := false) ho rfl hu hT hR hx h
      · simp only [Option.map_eq_some_iff] at hc
        obtain ⟨x', hx, rfl⟩ := hc
        exact eqNil_ok4 (neg := true) ho rfl hu hT hR hx h
      · cases hc
    · cases hc
  · cases hc
theorem elemOf_some {P : Program} {t e : TypeId} (h : elemOf P t = some e) : P.underlying t = some (.slice e) := by
  unfold elemOf at h
  split at h
  · cases h; assumption
  · cases h
theorem builtin_sound (hlim : A'.n ≤ lim) {c : Call} {ao : AOp} {b : Builtin} (ho : o.op = .call c) (hb : c.callee = .builtin b) (hc : compCall E.P E.lab nt c ro = some ao) (hT : RelT E.lab φ nt T a.tmps) (hR : Rel E lim φ A w)
    (h : opA ao cv g T A = some (v, A')) : OpOk E lim o φ A w a g v A' := by
  unfold compCall at hc
  rw [hb] at hc
  cases b <;> simp only at hc <;> try (cases hc; done)
  ·
    split at hc
    · rename_i s x t t' hargs hts
      split at hc
      · rename_i htt
        subst htt
        split at hc
        · rename_i e he
          split at hc
          · rename_i i z s' x' hi hz hs hx
            cases hc
            exact append_ok hlim ho hb hargs hts (elemOf_some he) hi hz hT hR hs hx h
          · cases hc
        · cases hc
      · split at hc
        · rename_i hu'
          split at hc
          · rename_i e he
            split at hc
            · rename_i hu8
              split at hc
              · rename_i s' x' hs hx
                cases hc
                exact appendT_ok hlim ho hb hargs hts (elemOf_some he) hu' hu8 hT hR hs hx h
              · cases hc
            · cases hc
          · cases hc
        · cases hc
    · cases hc
  ·
    split at hc
    · rename_i x t hargs hts
      split at hc
      · rename_i hu
        simp only [Option.map_eq_some_iff] at hc
        obtain ⟨x', hx, rfl⟩ := hc
        exact clearM_ok hlim ho hb hargs hts hu hT hR hx h
      · rename_i e hu
        split at hc
        · rename_i z x' hz hx
          cases hc
          exact clearS_ok hlim ho hb hargs hts hu hz hT hR hx h
        · cases hc
      · cases hc
    · cases hc
  ·
    split at hc
    · rename_i d s t ts hargs hts
      split at hc
      · rename_i e he
        split at hc
        · rename_i n d' s' hn hd hs
          cases hc
          exact copy_ok hlim ho hb hargs hts (elemOf_some he) hn hT hR hd hs h
        · cases hc
      · cases hc
    · cases hc
  ·
    split at hc
    · rename_i x t hargs hts
      split at hc
      · rename_i e hu
        simp only [Option.map_eq_some_iff] at hc
        obtain ⟨x', hx, rfl⟩ := hc
        exact len_ok ho hb hargs hts hu hT hR hx h
      · rename_i hu
        simp only [Option.map_eq_some_iff] at hc
        obtain ⟨x', hx, rfl⟩ := hc
        exact lenT_ok ho hb hargs hts hu hT hR hx h
      · rename_i hu
        simp only [Option.map_eq_some_iff] at hc
        obtain ⟨x', hx, rfl⟩ := hc
        exact lenM_ok ho hb hargs hts hu hT hR hx h
      · cases hc
    · cases hc
  ·
    simp only [Option.map_eq_some_iff] at hc
    obtain ⟨l', hl, rfl⟩ := hc
    exact minmax_ok (mx := true) ho hb hT hR hl h
  ·
    simp only [Option.map_eq_some_iff] at hc
    obtain ⟨l', hl, rfl⟩ := hc
    exact minmax_ok (mx := false) ho hb hT hR hl h
  ·
    split at hc
    · rename_i x hargs
      simp only [Option.map_eq_some_iff] at hc
      obtain ⟨x', hx, rfl⟩ := hc
      exact sliceData_ok ho hb hargs hT hR hx h
    · cases hc
  ·
    split at hc
    · rename_i p n t t' hargs hts
      split at hc
      · rename_i e hu
        split at hc
        · rename_i hu8
          split at hc
          · rename_i p' n' hp hn
            cases hc
            exact mkStr_ok hlim ho hb hargs hts hu hu8 hT hR hp hn h
          · cases hc
        · cases hc
      · cases hc
    · cases hc
theorem op_sound (hlim : A'.n ≤ lim) {ao : AOp} (hc : compOp E.P E.lab nt ro o.op = some ao) (hm : isCall o.op = false) (hT : RelT E.lab φ nt T a.tmps) (hR : Rel E lim φ A w)
    (h : opA ao cv g T A = some (v, A')) : OpOk E lim o φ A w a g v A' := by
  have failed : ∀ {ao : AOp}, some AOp.fail = some ao → opA ao cv g T A = some (v, A') → OpOk E lim o φ A w a g v A' := fun h1 h2 => by cases h1; cases h2
  cases ho : o.op <;> rw [ho] at hc <;> simp only [compOp] at hc
  case move x =>
    simp only [Option.map_eq_some_iff] at hc
    obtain ⟨x', hx, rfl⟩ := hc
    cases h
    exact OpOk.of_pure rfl hR (v' := a.eval x) (by simp [execOp, ho]) (hT.eval hx)
  case assign x =>
    simp only [Option.map_eq_some_iff] at hc
    obtain ⟨x', hx, rfl⟩ := hc
    cases h
    exact OpOk.of_pure rfl hR (v' := a.eval x) (by simp [execOp, ho]) (hT.eval hx)
  case pick c x y =>
    split at hc
    · rename_i c' x' y' h1 h2 h3
      cases hc
      exact pick_ok ho hT hR h1 h2 h3 h
    · cases hc
  case alloc t =>
    split at hc
    · rename_i hb
      cases hc
      exact allocB_ok hlim ho hb hR h
    · simp only [Option.map_eq_some_iff] at hc
      obtain ⟨z, hz, rfl⟩ := hc
      exact alloc_ok hlim ho hz hR h
  case box t x =>
    simp only [Option.map_eq_some_iff] at hc
    obtain ⟨x', hx, rfl⟩ := hc
    exact box_ok hlim ho hT hx hR h
  case build t parts =>
    split at hc
    · rename_i z l hz hl
      split at hc
      · rename_i hs
        cases hc
        exact build_ok ho hz hl hs hT hR h
      · cases hc
    · cases hc
  case buildSlice t n parts =>
    split at hc
    · rename_i e he
      split at hc
      · rename_i s z l hs hz hl
        split at hc
        · rename_i hb
          cases hc
          exact slit_ok hlim ho (elemOf_some he) hs hz hl hb hT hR h
        · cases hc
      · cases hc
    · cases hc
  case load t x =>
    split at hc
    · rename_i n x' hn hx
      cases hc
      exact load_ok ho hn hT hx hR h
    · exact failed hc h
  case store t x y =>
    split at hc
    · rename_i n x' y' hn hx hy
      cases hc
      exact store_ok hlim ho hn hT hx hy hR h
    · cases hc
  case nilCheck x =>
    simp only [Option.map_eq_some_iff] at hc
    obtain ⟨x', hx, rfl⟩ := hc
    exact nilCheck_ok ho hT hR hx h
  case binOp op t x y t' => exact binOp_sound ho hc hT hR h
  case unOp op t x =>
    cases op <;> simp only at hc
    · simp only [Option.map_eq_some_iff] at hc
      obtain ⟨x', hx, rfl⟩ := hc
      exact neg_ok ho hT hR hx h
    · cases hc
    · simp only [Option.map_eq_some_iff] at hc
      obtain ⟨x', hx, rfl⟩ := hc
      exact not_ok ho hT hR hx h
    · cases hc
  case convert s d x =>
    split at hc
    · rename_i k hs hd
      simp only [Option.map_eq_some_iff] at hc
      obtain ⟨x', hx, rfl⟩ := hc
      exact toInt_ok ho hs hd hT hR hx h
    · rename_i hs hd
      simp only [Option.map_eq_some_iff] at hc
      obtain ⟨x', hx, rfl⟩ := hc
      exact toF64_ok ho hs hd hT hR hx h
    · rename_i e hs hd
      split at hc
      · rename_i he
        simp only [Option.map_eq_some_iff] at hc
        obtain ⟨x', hx, rfl⟩ := hc
        exact toBytes_ok hlim ho hs hd he hT hR hx h
      · cases hc
    · rename_i e hs hd
      split at hc
      · rename_i he
        simp only [Option.map_eq_some_iff] at hc
        obtain ⟨x', hx, rfl⟩ := hc
        exact toStr_ok ho hs hd he hT hR hx h
      · cases hc
    · cases hc
  case makeFunc fn first captured =>
    cases fn <;> simp only at hc
    case func f =>
      split at hc
      · rename_i p q hp hq
        cases hc
        exact makeFunc_ok ho hT hR hp hq h
      · cases hc
    all_goals exact failed hc h
  case makeSlice t l c =>
    split at hc
    · rename_i e he
      split at hc
      · rename_i i z l' c' hi hz hl hc'
        cases hc
        exact makeS_ok hlim ho (elemOf_some he) hi hz hT hR hl hc' h
      · cases hc
    · cases hc
  case slice t x lo hi mx =>
    cases mx with
    | some m =>
      cases lo with
      | none => simp only at hc; exact failed hc h
      | some lo => cases hi with
        | none => simp only at hc; exact failed hc h
        | some hi =>
          simp only at hc
          split at hc
          · rename_i e he
            split at hc
            · rename_i s x' l' h' m' hs hx hl hh hm
              cases hc
              exact reslice3_ok ho (elemOf_some he) hs hT hR hx hl hh hm h
            · cases hc
          · cases hc
    | none =>
      simp only at hc
      split at hc
      · rename_i hu
        split at hc
        · rename_i x' lo' hi' hx hlo hhi
          cases hc
          exact strSl_ok ho hu hT hR hx hlo hhi h
        · cases hc
      · split at hc
        · rename_i e he
          split at hc
          · rename_i s x' lo' hi' hs hx hlo hhi
            cases hc
            exact reslice_ok ho (elemOf_some he) hs hT hR hx hlo hhi h
          · cases hc
        · cases hc
  case fieldAddr s x f =>
    split at hc
    · rename_i fs hu
      split at hc
      · rename_i fd hf
        split at hc
        · rename_i n x' hn hx
          split at hc
          · cases hc
          · rename_i h0
            cases hc
            exact fieldAddr_ok ho hu hf hn h0 hT hR hx h
        · cases hc
      · cases hc
    · cases hc
  case field s x f =>
    split at hc
    · rename_i fs hu
      split at hc
      · rename_i fd hf
        split at hc
        · rename_i n x' hn hx
          cases hc
          exact field_ok ho hu hf hn hT hR hx h
        · cases hc
      · cases hc
    · cases hc
  case indexAddr t x i =>
    split at hc
    · rename_i e hu
      split at hc
      · rename_i s x' i' hs hx hi
        cases hc
        exact idxS_ok ho hu hs hT hR hx hi h
      · cases hc
    · rename_i n e hu
      split at hc
      · rename_i s x' i' hs hx hi
        cases hc
        exact idxA_ok ho hu hs hT hR hx hi h
      · cases hc
    · cases hc
  case index t x i =>
    split at hc
    · rename_i n e hu
      split at hc
      · rename_i s ag x' i' hs hag hx hi
        cases hc
        exact index_ok ho hu hs hag hT hR hx hi h
      · cases hc
    · rename_i hu
      split at hc
      · rename_i x' i' hx hi
        cases hc
        exact strIdx_ok ho hu hT hR hx hi h
      · cases hc
    · cases hc
  case extract x i =>
    simp only [Option.map_eq_some_iff] at hc
    obtain ⟨x', hx, rfl⟩ := hc
    exact extract_ok ho hT hR hx h
  case makeMap t r =>
    cases r with
    | some r => exact failed hc h
    | none => cases hc; exact makeM_ok hlim ho hR h
  case lookup t x k ok =>
    split at hc
    · rename_i kt el hu
      split at hc
      · rename_i n z x' k' hn hz hx hk
        cases hc
        exact lookup_ok ho hu hn hz hT hR hx hk h
      · cases hc
    · cases hc
  case mapUpdate t m k x =>
    split at hc
    · rename_i kt el hu
      split at hc
      · rename_i n m' k' x' hn hm hk hx
        cases hc
        exact mapSet_ok hlim (.inl ho) hu hn hT hR hm hk hx h
      · cases hc
    · cases hc
  case insert t m k x =>
    split at hc
    · rename_i kt el hu
      split at hc
      · rename_i n m' k' x' hn hm hk hx
        cases hc
        exact mapSet_ok hlim (.inr ho) hu hn hT hR hm hk hx h
      · cases hc
    · cases hc
  case range t x =>
    split at hc
    · simp only [Option.map_eq_some_iff] at hc
      obtain ⟨_, _, rfl⟩ := hc
      cases h
    · exact failed hc h
  case next x b =>
    cases b <;> simp only at hc
    · simp only [Option.map_eq_some_iff] at hc
      obtain ⟨_, _, rfl⟩ := hc
      cases h
    · exact failed hc h
  case entry x =>
    simp only [Option.map_eq_some_iff] at hc
    obtain ⟨_, _, rfl⟩ := hc
    cases h
  case call c =>
    obtain ⟨callee, args, ats⟩ := c
    cases callee with
    | value f => rw [ho] at hm; cases hm
    | invoke r n => simp [compCall] at hc
    | builtin b => exact builtin_sound hlim ho rfl hc hT hR h
  all_goals exact failed hc h
end
end Go.Ab
namespace Go.Ab
def fence (ro : Option Nat) : Fence := { Fence.wide with round := ro }
@[simp] theorem fence_fn (ro : Option Nat) (f : FuncId) : (fence ro).fn f = True := rfl
@[simp] theorem fence_depth (ro : Option Nat) : (fence ro).depth = none := rfl
@[simp] theorem fence_round (ro : Option Nat) : (fence ro).round = ro := rfl
theorem callsIn_fence {ro ro' : Option Nat} {P : Program} {f : FuncId} {args : Array Value} {w : World} {R : Ending → World → Prop} (h : CallsIn (fence ro) 0 P f args w R) : CallsIn (fence ro') 0 P f args w R := h
section
variable {E : Env} {nt lim : Nat} {T : List Value} {A A' : Hp} {φ : NM} {w : World} {a : Act} {g : Nat} {v : Value} {o : Oper}
def FnSound (E : Env) (g f : Nat) (args : List Value) (A : Hp) (v : Value) (A' : Hp) : Prop :=
  ∀ (lim : Nat) (φ : NM) (w : World) (f' : FuncId) (args' : List Value), A'.n ≤ lim → E.lab f' = f → RelL E.lab φ args args' → Rel E lim φ A w →
    CallsIn (fence none) 0 E.P f' args'.toArray w fun e w' => ∃ v' φ', e = .returned v' ∧ RelV E.lab φ' v v' ∧ Post E lim φ A w g φ' A' w'
def RoundSound (E : Env) (g l : Nat) (args : List Value) (A : Hp) (v : Value) (A' : Hp) : Prop :=
  ∀ (lim : Nat) (φ : NM) (w : World) (e : Ent) (args' : List Value), A'.n ≤ lim → φ l = some e → RelL E.lab φ args args' → Rel E lim φ A w →
    ∃ f' tmps' as' bo', (Instr.yield e.blk args'.toArray).run E.P w = .ok (.round e.blk f' tmps' as' bo') w ∧
      RoundIn (fence none) 0 E.P e.blk f' tmps' as' bo' w fun en w' => ∃ v' φ', en = .returned v' ∧ RelV E.lab φ' v v' ∧ Post E lim φ A w g φ' A' w'
def CallSound (E : Env) (cv : CallFn) : Prop :=
  ∀ (g : Nat) (f : Value) (args : List Value) (A : Hp) (v : Value) (A' : Hp), cv g f args A = some (v, A') →
    (∃ h first captured, f = .func (.func h) first captured ∧ Entered E h ∧ FnSound E g h (first.toList ++ args ++ captured.toList) A v A') ∨
    (∃ h first captured, f = .func (.func h) first captured ∧ E.AP h = some .sqrt ∧ sqrtA (first.toList ++ args ++ captured.toList) = some v ∧ A' = A) ∨
    (∃ l, f = .func (.yield l) #[] #[] ∧ RoundSound E g l args A v A')
def OperSound (E : Env) (lim : Nat) (o : Oper) (φ : NM) (A : Hp) (w : World) (a : Act) (g : Nat) (v : Value) (A' : Hp) : Prop :=
  ∀ (ro : Option Nat) (next : Act → World → Prop) (Q : Exit → Act → World → Prop), (∀ v' w' φ', RelV E.lab φ' v v' → Post E lim φ A w g φ' A' w' → next (a.put o.dst v') w') → o.wpIn (fence ro) 0 E.P a w next Q
theorem OpOk.sound (hno : ∀ c, o.op ≠ .defer c) (h : OpOk E lim o φ A w a g v A') : OperSound E lim o φ A w a g v A' := by
  intro ro next Q hn
  refine ⟨fun f _ => trivial, ?_⟩
  rw [fence_round, Oper.semAt_eq ro a.eval o hno]
  obtain ⟨v', w', φ', hr, hv, hp⟩ := h
  rcases hr with hr | ⟨hr, rfl⟩
  · rw [hr]; exact hn v' w' φ' hv hp
  · rw [hr]; exact hn undef w' φ' hv hp
theorem func_inv {h : Nat} {first captured : Array Value} {u : Value} (hr : RelV E.lab φ (.func (.func h) first captured) u) :
    ∃ f' first' captured', u = .func (.func f') first' captured' ∧ E.lab f' = h ∧ RelL E.lab φ first.toList first'.toList ∧ RelL E.lab φ captured.toList captured'.toList := by
  cases hr with
  | func hf hs hh hs' hh' => exact ⟨_, _, _, rfl, hf, RelL.of_arrays hs hh, RelL.of_arrays hs' hh'⟩
theorem yield_inv {l : Nat} {u : Value} (hr : RelV E.lab φ (.func (.yield l) #[] #[]) u) : ∃ e, φ l = some e ∧ u = .func (.yield e.blk) #[] #[] := by
  cases hr with
  | yield h => exact ⟨_, h, rfl⟩
def guardA (o : AOp) (A : Hp) (g : Nat) : Nat :=
  match o with
  | .call _ _ true => A.n
  | _ => g
theorem call_sound (hlim : A'.n ≤ lim) {cv : CallFn} {c : Call} {ro : Bool} {ao : AOp} (hcv : CallSound E cv) (ho : o.op = .call c) {f : Operand} (hcal : c.callee = .value f) (hc : compCall E.P E.lab nt c ro = some ao)
    (hT : RelT E.lab φ nt T a.tmps) (hR : Rel E lim φ A w) (h : opA ao cv g T A = some (v, A')) : OperSound E lim o φ A w a (guardA ao A g) v A' := by
  unfold compCall at hc
  rw [hcal] at hc
  simp only at hc
  split at hc
  · rename_i f' l' hf hl
    have rf := hT.eval hf
    have rl := hT.evals hl
    obtain ⟨g', hg', h⟩ : ∃ g', guardA ao A g = g' ∧ cv g' (ev T f') (l'.map (ev T)) A = some (v, A') := by
      simp only [Option.some.injEq] at hc
      subst hc
      cases hcw : (ro && cwOf E.lab nt && f'.isTmp) with
      | true =>
        rw [hcw] at h
        refine ⟨g, by simp [guardA], ?_⟩
        exact (stillBut_some h).1
      | false =>
        rw [hcw] at h
        replace h : cv (if ro then A.n else g) (ev T f') (l'.map (ev T)) A = some (v, A') := h
        refine ⟨_, rfl, ?_⟩
        simp only [Bool.false_eq_true, if_false]
        cases ro <;> exact h
    rw [hg']
    intro rd next Q hn
    refine ⟨fun f _ => trivial, ?_⟩
    rw [fence_round, Oper.semAt_eq rd a.eval o (by rw [ho]; intro c hc; cases hc)]
    have hargs : (c.args.map a.eval).toList = c.args.toList.map a.eval := by simp
    have hres : ∀ {first captured : Array Value} {fn : Fn}, a.eval f = .func fn first captured → execOp a.eval o = invoke (.fn fn captured) (first ++ c.args.map a.eval) := by
      intro first captured fn he
      simp [execOp, ho, resolve, hcal, he, Deferred.ofValue]
    rcases hcv _ _ _ _ _ _ h with ⟨k, first, captured, hk, ⟨af, hap, hent⟩, hs⟩ | ⟨k, first, captured, hk, hap, hs, rfl⟩ | ⟨l, hk, hs⟩
    · rw [hk] at rf
      obtain ⟨fi, first', captured', hu, hlab, r1, r2⟩ := func_inv rf
      obtain ⟨fn, hfn, hcf⟩ := E.ok fi _ (by rw [hlab]; exact hap)
      obtain ⟨cb, hcb, hnm⟩ := ent_body hcf hent
      have hrun : (execOp a.eval o).run E.P w = .ok (.enter fi (first' ++ c.args.map a.eval ++ captured')) w := by
        rw [hres hu]
        simp [invoke, callFunc, hfn, hnm, hcb]
      rw [hrun]
      refine ⟨fun h => (by cases h), ?_⟩
      have := hs lim φ w fi (first'.toList ++ c.args.toList.map a.eval ++ captured'.toList) hlim hlab ((r1.append rl).append r2) hR
      have harr : (first'.toList ++ c.args.toList.map a.eval ++ captured'.toList).toArray = first' ++ c.args.map a.eval ++ captured' := by
        apply Array.toList_inj.1; simp
      rw [harr] at this
      refine CallsIn.mono (callsIn_fence this) ?_
      rintro e w' ⟨v', φ', rfl, hv, hp⟩
      exact hn v' w' φ' hv hp
    · rw [hk] at rf
      obtain ⟨fi, first', captured', hu, hlab, r1, r2⟩ := func_inv rf
      obtain ⟨fn, hfn, hne, hb, hnx, hfd⟩ := E.sqrt fi (by rw [hlab]; exact hap)
      have rall := (r1.append rl).append r2
      unfold sqrtA at hs
      split at hs
      · rename_i x heq
        rw [heq] at rall
        simp only [Option.map_eq_some_iff] at hs
        obtain ⟨r, hr, rfl⟩ := hs
        obtain ⟨y, ys, hys, hy, hnil⟩ := rall.inv_cons
        obtain rfl := hnil.inv_nil
        have hy' := float_inv hy
        subst hy'
        have harr : first' ++ c.args.map a.eval ++ captured' = #[.float .f64 x] := by
          apply Array.toList_inj.1; simpa using hys
        have hrun : (execOp a.eval o).run E.P w = .ok (.value (.float .f64 r)) w := by
          rw [hres hu]
          have hb1 : ¬ fn.name = "runtime.NumGoroutine" := by simpa using hne
          have hsq : Extern.MathSqrt.sqrt #[.float .f64 x] = pure (.float .f64 r) := by
            show (match FloatKind.f64.format.sqrt x with
              | some r => pure (.float .f64 r)
              | none => do pure (.float .f64 (← choose (.nanBits .f64 x x))) : Sem Value) = _
            rw [hr]
          simp only [invoke, callFunc, Sem.run_bind, run_program, Result.andThen_ok, hfn, hne, hb, hnx, hfd, harr, hsq]
          simp
        rw [hrun]
        exact hn _ _ _ (.float _ _) (Post.refl hR)
      · cases hs
    · rw [hk] at rf
      obtain ⟨e, he, hu⟩ := yield_inv rf
      obtain ⟨f1, t1, a1, b1, hy, hround⟩ := hs lim φ w e (c.args.toList.map a.eval) hlim he rl hR
      have hrun : (execOp a.eval o).run E.P w = .ok (.round e.blk f1 t1 a1 b1) w := by
        rw [hres hu]
        have : (c.args.toList.map a.eval).toArray = c.args.map a.eval := by apply Array.toList_inj.1; simp
        rw [this] at hy
        simp [invoke, hy]
      rw [hrun]
      refine ⟨fun h => (by cases h), RoundIn.mono (F := fence rd) hround ?_⟩
      rintro en w' ⟨v', φ', rfl, hv, hp⟩
      exact hn v' w' φ' hv hp
  · cases hc
theorem guardA_other {c : Op} {ro : Bool} {ao : AOp} (hc : compOp E.P E.lab nt ro c = some ao) (hm : isCall c = false) : guardA ao A g = g := by
  unfold guardA
  split
  · exfalso
    cases c <;> simp only [compOp] at hc
    case call c =>
      obtain ⟨callee, args, ats⟩ := c
      cases callee with
      | value f => cases hm
      | invoke r n => simp [compCall] at hc
      | builtin b =>
        unfold compCall at hc
        cases b <;> simp only at hc
        all_goals (repeat' (split at hc))
        all_goals first
          | (cases hc; done)
          | (obtain ⟨_, _, hc⟩ := Option.map_eq_some_iff.1 hc; cases hc; done)
    case binOp op t x y t' =>
      unfold compBin at hc
      repeat' (split at hc)
      all_goals first
        | (cases hc; done)
        | (simp only [Option.bind_eq_some_iff, Option.map_eq_some_iff] at hc; obtain ⟨_, _, _, _, hc⟩ := hc; cases hc; done)
        | (unfold compNil at hc; repeat' (split at hc)) <;> first | (cases hc; done) | (obtain ⟨_, _, hc⟩ := Option.map_eq_some_iff.1 hc; cases hc; done)
    all_goals first
      | (cases hc; done)
      | (obtain ⟨_, _, hc⟩ := Option.map_eq_some_iff.1 hc; cases hc; done)
      | ((repeat' (split at hc)) <;> first | (cases hc; done) | (rename_i heq _; cases heq; done) | (rename_i heq; cases heq; done) | (obtain ⟨_, _, hc⟩ := Option.map_eq_some_iff.1 hc; cases hc; done))
  · rfl
theorem oper_sound (hlim : A'.n ≤ lim) {cv : CallFn} {ro : Bool} {ao : AOp} (hcv : CallSound E cv) (hc : compOp E.P E.lab nt ro o.op = some ao) (hT : RelT E.lab φ nt T a.tmps) (hR : Rel E lim φ A w)
    (h : opA ao cv g T A = some (v, A')) : OperSound E lim o φ A w a (guardA ao A g) v A' := by
  by_cases hm : isCall o.op = true
  · have hop : ∃ c f, o.op = .call c ∧ c.callee = .value f := by
      unfold isCall at hm
      split at hm
      · rename_i heq; exact ⟨_, _, heq, rfl⟩
      · cases hm
    obtain ⟨c, f, ho, hcal⟩ := hop
    rw [ho] at hc
    exact call_sound hlim hcv ho hcal hc hT hR h
  · have hm : isCall o.op = false := by simpa using hm
    have hdef : ∀ c, o.op ≠ .defer c := by
      intro c hd
      rw [hd] at hc
      simp only [compOp] at hc
      cases hc
      cases h
    rw [guardA_other hc hm]
    exact (op_sound hlim hc hm hT hR h).sound hdef
end
end Go.Ab
namespace Go.Ab
section
variable {E : Env} {nt lim : Nat}
def Formed' (E : Env) (nt : Nat) (ops : Array Oper) (al : List AOper) : Prop :=
  al.length = ops.size ∧ ∀ (k : Nat) (o : Oper) (ao : AOper), ops[k]? = some o → al[k]? = some ao →
    ∃ ro, compOp E.P E.lab nt ro o.op = some ao.op ∧ compGuard nt ops.toList o.guard = some ao.guard ∧ compDst nt o.dst = true ∧ ao.dst = o.dst
theorem compOpers_spec {ops : List Oper} {draw : Bool} {bef : List Nat} : ∀ {l : List Oper} {i : Nat} {al : List AOper}, compOpers E.P E.lab nt ops draw bef i l = some al →
    al.length = l.length ∧ ∀ (k : Nat) (o : Oper) (ao : AOper), l[k]? = some o → al[k]? = some ao →
      ∃ ro, compOp E.P E.lab nt ro o.op = some ao.op ∧ compGuard nt ops o.guard = some ao.guard ∧ compDst nt o.dst = true ∧ ao.dst = o.dst := by
  intro l
  induction l with
  | nil => intro i al h; simp [compOpers] at h; subst h; simp
  | cons o l ih =>
    intro i al h
    simp only [compOpers] at h
    split at h
    · cases h
    split at h
    · rename_i a r ha hr
      cases h
      obtain ⟨h1, h2⟩ := ih hr
      refine ⟨by simp [h1], fun k o' ao hk hak => ?_⟩
      cases k with
      | zero =>
        simp at hk hak
        subst hk; subst hak
        unfold compOper at ha
        split at ha
        · rename_i x y hx hy
          split at ha
          · rename_i hd
            cases ha
            exact ⟨_, hx, hy, hd, rfl⟩
          · cases ha
        · cases ha
      | succ k => exact h2 k o' ao (by simpa using hk) (by simpa using hak)
    · cases h
theorem formed_of {ops : Array Oper} {draw : Bool} {bef : List Nat} {al : List AOper} (h : compOpers E.P E.lab nt ops.toList draw bef 0 ops.toList = some al) : Formed' E nt ops al := by
  obtain ⟨h1, h2⟩ := compOpers_spec h
  exact ⟨by simpa using h1, fun k o ao hk ha => h2 k o ao (by simpa using hk) ha⟩
theorem wanted_eq {φ : NM} {T : List Value} {tmps : Array Value} {ops : Array Oper} {o : Oper} {gd : Option (Nat × Bool)} (hc : compGuard nt ops.toList o.guard = some gd) (hT : RelT E.lab φ nt T tmps) :
    Region.wanted o (yielded ops tmps) = wantedA gd T := by
  unfold Region.wanted
  unfold compGuard at hc
  split at hc
  · rename_i hg; rw [hg]; cases hc; rfl
  · rename_i j b hg
    rw [hg]
    split at hc
    · rename_i d hd
      split at hc
      · rename_i hlt
        cases hc
        have hd' : (ops[j]?).bind (·.dst) = some d := by simpa [dstOf] using hd
        have hsz := hT.1
        have hv : tmps[d]? = some (tmps.getD d undef) := by simp [show d < tmps.size by omega]
        simp only [wantedA, yielded, hd', Option.bind_some, hv]
        have hr := hT.2 d
        generalize tget T d = u at hr
        generalize tmps.getD d undef = u' at hr
        cases hr <;> first | rfl | simp
      · cases hc
    · cases hc
theorem Post.of_guard {φ φ' : NM} {A A' : Hp} {w w' : World} {o : AOp} {g : Nat} (hR : Rel E lim φ A w) (h : Post E lim φ A w (guardA o A g) φ' A' w') : Post E lim φ A w g φ' A' w' := by
  unfold guardA at h
  split at h
  · exact Post.of_still hR h g
  · exact h
variable {cv : CallFn} {g : Nat} {ops : Array Oper} {al : List AOper} {st : Nat → List Value × Hp}
theorem text_sound (hcv : CallSound E cv) (hk : CallKeeps cv) (hlim : (st ops.size).2.n ≤ lim) (hf : Formed' E nt ops al) (hst : ∀ i o, al[i]? = some o → Step cv g o (st i) (st (i + 1))) :
    ∀ (k i : Nat), i + k = ops.size → ∀ (φ : NM) (a : Act) (w : World), RelT E.lab φ nt (st i).1 a.tmps → Rel E lim φ (st i).2 w → ∀ (ro : Option Nat) (Q : Exit → Act → World → Prop),
      (∀ φ' a' w', RelT E.lab φ' nt (st ops.size).1 a'.tmps → Post E lim φ (st i).2 w g φ' (st ops.size).2 w' → a'.defers = a.defers → Q .normal a' w') →
      wpOpsIn (fence ro) 0 E.P ops Q (List.range' i k) a w := by
  have hlen : ∀ i, i ≤ ops.size → (st i).2.n ≤ (st ops.size).2.n := by
    have key : ∀ k i, i + k = ops.size → (st i).2.n ≤ (st ops.size).2.n := by
      intro k
      induction k with
      | zero => intro i hi; have : i = ops.size := by omega
                subst this; exact Nat.le_refl _
      | succ k ih =>
        intro i hi
        refine Nat.le_trans ?_ (ih (i + 1) (by omega))
        have hlt : i < al.length := by rw [hf.1]; omega
        rcases hst i al[i] (by simp [hlt]) with ⟨_, _, v, h, _⟩ | ⟨_, h, _⟩
        · exact opA_len hk h
        · rw [h]; exact Nat.le_refl _
    exact fun i hi => key (ops.size - i) i (by omega)
  intro k
  induction k with
  | zero =>
    intro i hi φ a w hT hR ro Q hQ
    have : i = ops.size := by omega
    subst this
    exact hQ φ a w hT (Post.refl hR) rfl
  | succ k ih =>
    intro i hi φ a w hT hR ro Q hQ
    rw [List.range'_succ]
    have hlt : i < ops.size := by omega
    obtain ⟨o, ho⟩ : ∃ o, ops[i]? = some o := ⟨ops[i], by simp [hlt]⟩
    obtain ⟨ao, hao⟩ : ∃ ao, al[i]? = some ao := ⟨al[i]'(by rw [hf.1]; exact hlt), by simp⟩
    obtain ⟨rof, hop, hgd, hds, hdst⟩ := hf.2 i o ao ho hao
    have hstep := hst i ao hao
    simp only [wpOpsIn, ho]
    have hw := wanted_eq (ops := ops) (o := o) hgd hT
    rw [hw]
    rcases hstep with ⟨h1, _, v, h2, h3⟩ | ⟨h1, h2, h3⟩
    · rw [if_pos h1]
      have hl : (st (i + 1)).2.n ≤ lim := Nat.le_trans (hlen (i + 1) (by omega)) hlim
      refine oper_sound hl hcv hop hT hR h2 ro _ _ fun v' w' φ' hv hp => ?_
      have hp' := Post.of_guard hR hp
      refine ih (i + 1) (by omega) φ' _ w' ?_ hp'.rel ro Q fun φ2 a2 w2 hT2 hp2 hd2 => hQ φ2 a2 w2 hT2 (hp'.trans hp2) ?_
      · rw [h3, hdst]; exact (hT.mono hp.ext).put hds hv
      · rw [hd2]; cases o.dst <;> rfl
    · rw [if_neg (by simp [h1])]
      refine ⟨fun f _ => trivial, ?_⟩
      rw [← h2] at hR
      refine ih (i + 1) (by omega) φ _ w ?_ hR ro Q fun φ2 a2 w2 hT2 hp2 hd2 => hQ φ2 a2 w2 hT2 (h2 ▸ hp2) ?_
      · rw [h3, hdst]; exact hT.put hds relV_undef
      · rw [hd2]; cases o.dst <;> rfl
end
end Go.Ab
namespace Go.Ab
section
variable {E : Env} {nt lim : Nat} {cv : CallFn} {g : Nat} {ops : Array Oper} {al : List AOper} {st : Nat → List Value × Hp}
def writes (al : List AOper) (i : Nat) : Prop := memOf al i = 3 ∨ memOf al i = 4 ∨ memOf al i = 5 ∨ memOf al i = 7
instance (al : List AOper) (i : Nat) : Decidable (writes al i) := by unfold writes; exact inferInstance
theorem mem_at {al : List AOper} {i : Nat} {ao : AOper} (h : al[i]? = some ao) : memOf al i = ao.op.mem := by simp [memOf, h]
theorem nextWriter {al : List AOper} {n p : Nat} (hp : p ≤ n) : ∃ q, p ≤ q ∧ q ≤ n ∧ (∀ j, p ≤ j → j < q → ¬ writes al j) ∧ (q < n → writes al q) := by
  have key : ∀ k p, p + k = n → ∃ q, p ≤ q ∧ q ≤ n ∧ (∀ j, p ≤ j → j < q → ¬ writes al j) ∧ (q < n → writes al q) := by
    intro k
    induction k with
    | zero => intro p hp; exact ⟨p, Nat.le_refl _, by omega, fun j h1 h2 => by omega, fun h => by omega⟩
    | succ k ih =>
      intro p hp
      by_cases hw : writes al p
      · exact ⟨p, Nat.le_refl _, by omega, fun j h1 h2 => by omega, fun _ => hw⟩
      · obtain ⟨q, h1, h2, h3, h4⟩ := ih (p + 1) (by omega)
        refine ⟨q, by omega, h2, fun j hj1 hj2 => ?_, h4⟩
        by_cases h : j = p
        · subst h; exact hw
        · exact h3 j (by omega) hj2
  exact key (n - p) p (by omega)
structure Draw (E : Env) (nt lim : Nat) (cv : CallFn) (g : Nat) (ops : Array Oper) (al : List AOper) (st : Nat → List Value × Hp) : Prop where
  call : CallSound E cv
  keeps : CallKeeps cv
  formed : Formed' E nt ops al
  step : ∀ i o, al[i]? = some o → Step cv g o (st i) (st (i + 1))
  ok : drawOk al (ops.toList.map edgesOf) = true
  hlim : (st ops.size).2.n ≤ lim
namespace Draw
variable (D : Draw E nt lim cv g ops al st)
include D
theorem size : al.length = ops.size := D.formed.1
theorem loadT_at {i : Nat} {ao : AOper} (h : al[i]? = some ao) : loadT ao = true := by
  have hk := D.ok
  unfold drawOk at hk
  simp only [Bool.and_eq_true] at hk
  exact List.all_eq_true.1 hk.1 ao (List.mem_of_getElem? h)
theorem pair {i j : Nat} (hi : i < ops.size) (hj : j < ops.size) : pairOk al (befA (ops.toList.map edgesOf)) i j = true ∧ dstOk al (befA (ops.toList.map edgesOf)) i j = true := by
  have h := D.ok
  unfold drawOk at h
  simp only [Bool.and_eq_true] at h
  have h1 := List.all_eq_true.1 h.2 j (List.mem_range.2 (by rw [D.size]; exact hj))
  simp only [Bool.and_eq_true] at h1
  have h2 := List.all_eq_true.1 h1.2 i (List.mem_range.2 (by rw [D.size]; exact hi))
  simpa using h2
theorem back {j : Nat} (hj : j < ops.size) : ∀ e ∈ (ops.toList.map edgesOf).getD j [], e < j := by
  have h := D.ok
  unfold drawOk at h
  simp only [Bool.and_eq_true] at h
  have h1 := List.all_eq_true.1 h.2 j (List.mem_range.2 (by rw [D.size]; exact hj))
  simp only [Bool.and_eq_true] at h1
  intro e he
  have := List.all_eq_true.1 h1.1 e he
  simpa using this
theorem at_ {i : Nat} (hi : i < ops.size) : ∃ o ao, ops[i]? = some o ∧ al[i]? = some ao := ⟨ops[i], al[i]'(by rw [D.size]; exact hi), by simp [hi], by simp⟩
theorem len_step {i : Nat} (hi : i < ops.size) : (st i).2.n ≤ (st (i + 1)).2.n := by
  obtain ⟨o, ao, _, hao⟩ := D.at_ hi
  rcases D.step i ao hao with ⟨_, _, v, h, _⟩ | ⟨_, h, _⟩
  · exact opA_len D.keeps h
  · rw [h]; exact Nat.le_refl _
theorem len_le {i j : Nat} (hij : i ≤ j) (hj : j ≤ ops.size) : (st i).2.n ≤ (st j).2.n := by
  induction j with
  | zero => have : i = 0 := by omega
            subst this; exact Nat.le_refl _
  | succ j ih =>
    by_cases h : i = j + 1
    · subst h; exact Nat.le_refl _
    · exact Nat.le_trans (ih (by omega) (by omega)) (D.len_step (by omega))
theorem still_step {i : Nat} (hi : i < ops.size) (hw : ¬ writes al i) : ∀ x, x < (st i).2.n → (st (i + 1)).2.get x = (st i).2.get x := by
  obtain ⟨o, ao, _, hao⟩ := D.at_ hi
  intro x hx
  rcases D.step i ao hao with ⟨_, _, v, h, _⟩ | ⟨_, h, _⟩
  · refine opA_still D.keeps ?_ h x hx
    unfold writes at hw
    rw [mem_at hao] at hw
    omega
  · rw [h]
theorem still {i j : Nat} (hij : i ≤ j) (hj : j ≤ ops.size) (hw : ∀ k, i ≤ k → k < j → ¬ writes al k) : ∀ x, x < (st i).2.n → (st j).2.get x = (st i).2.get x := by
  induction j with
  | zero => intro x _; have : i = 0 := by omega
            subst this; rfl
  | succ j ih =>
    intro x hx
    by_cases h : i = j + 1
    · subst h; rfl
    · rw [D.still_step (by omega) (hw j (by omega) (by omega)) x (Nat.lt_of_lt_of_le hx (D.len_le (by omega) (by omega)))]
      exact ih (by omega) (by omega) (fun k h1 h2 => hw k h1 (by omega)) x hx
def _root_.Go.Ab.dstAt (al : List AOper) (i d : Nat) : Prop := ∃ ao, al[i]? = some ao ∧ ao.dst = some d
theorem dst_lt {i d : Nat} (h : dstAt al i d) : i < ops.size := by
  obtain ⟨ao, h1, _⟩ := h
  have := (List.getElem?_eq_some_iff.1 h1).1
  rw [D.size] at this; exact this
theorem dst_unique {i j d : Nat} (hi : dstAt al i d) (hj : dstAt al j d) : i = j := by
  have hil := D.dst_lt hi
  have hjl := D.dst_lt hj
  obtain ⟨o1, h1, h2⟩ := hi
  obtain ⟨o2, h3, h4⟩ := hj
  have := (D.pair hil hjl).2
  unfold dstOk at this
  rw [h1, h3] at this
  simp only [h2, h4, Bool.or_eq_true, beq_iff_eq] at this
  rcases this with h | h
  · exact h
  · simp at h
theorem tmp_step {i d : Nat} (hi : i < ops.size) (hd : ¬ dstAt al i d) : tget (st (i + 1)).1 d = tget (st i).1 d := by
  obtain ⟨o, ao, _, hao⟩ := D.at_ hi
  have : ∀ v, tget (putA ao.dst (st i).1 v) d = tget (st i).1 d := fun v => by
    cases hdd : ao.dst with
    | none => rfl
    | some d' =>
      simp only [putA, tget_tset]
      rw [if_neg]
      intro h; subst h; exact hd ⟨ao, hao, hdd⟩
  rcases D.step i ao hao with ⟨_, _, v, _, h⟩ | ⟨_, _, h⟩ <;> rw [h] <;> exact this _
theorem tmp_same {i j d : Nat} (hij : i ≤ j) (hj : j ≤ ops.size) (h : ∀ k, i ≤ k → k < j → ¬ dstAt al k d) : tget (st j).1 d = tget (st i).1 d := by
  induction j with
  | zero => have : i = 0 := by omega
            subst this; rfl
  | succ j ih =>
    by_cases h' : i = j + 1
    · subst h'; rfl
    · rw [D.tmp_step (by omega) (h j (by omega) (by omega))]
      exact ih (by omega) (by omega) (fun k h1 h2 => h k h1 (by omega))
end Draw
def _root_.Go.Ab.Hp.re (A : Hp) (n : Nat) : Hp := ⟨n, (List.range n).map fun k => A.get (n - 1 - k)⟩
theorem _root_.Go.Ab.Hp.get_re (A : Hp) (n x : Nat) : (A.re n).get x = if x < n then A.get x else none := by
  by_cases h : x < n
  · have e : n - 1 - (n - 1 - x) = x := by omega
    simp [Hp.get, Hp.re, h, show n - 1 - x < n by omega, e]
  · simp [Hp.get, Hp.re, h]
structure Hold (E : Env) (lim : Nat) (ops : Array Oper) (al : List AOper) (st : Nat → List Value × Hp) (S : Nat → Prop) (φ : NM) (w : World) (t : Nat) : Prop where
  wf : ∀ x e, φ x = some e → e.blk < w.heap.size
  blk : ∀ x b e, (st t).2.get x = some b → φ x = some e → RelB E φ w b e
  sep : ∀ x y b c ex ey, x ≠ y → (st t).2.get x = some b → (st t).2.get y = some c → φ x = some ex → φ y = some ey → b.own = true → ex.blk ≠ ey.blk
  far : ∀ x e, φ x = some e → (st t).2.n ≤ x → x < lim → ∃ i b, S i ∧ t ≤ i ∧ i < ops.size ∧ memOf al i = 2 ∧ x = (st i).2.n ∧ (st (i + 1)).2.get x = some b ∧ RelB E φ w b e ∧
    ∀ y ey, φ y = some ey → ey.blk = e.blk → y = x
theorem Hold.rel {S : Nat → Prop} {φ : NM} {w : World} {t lim' : Nat} {B : Hp} (H : Hold E lim ops al st S φ w t) (hget : ∀ y b, B.get y = some b → (st t).2.get y = some b)
    (hdom : ∀ x e, φ x = some e → x < B.n ∨ lim' ≤ x) (hfix : Fix E φ B w) : Rel E lim' φ B w :=
  ⟨hdom, H.wf, fun x b e hb he => H.blk x b e (hget x b hb) he, fun x y b c ex ey hxy hb hc => H.sep x y b c ex ey hxy (hget x b hb) (hget y c hc), hfix⟩
structure Inv (E : Env) (nt lim : Nat) (g : Nat) (ops : Array Oper) (al : List AOper) (st : Nat → List Value × Hp) (φ0 : NM) (w0 : World) (ds : List Deferred) (S : Nat → Prop) (φ : NM) (a : Act) (w : World) (t : Nat) (TS : List Value) : Prop where
  tle : t ≤ ops.size
  before : ∀ j, j < t → writes al j → S j
  behind : ∀ j, t ≤ j → j < ops.size → writes al j → ¬ S j
  tw : t < ops.size → writes al t
  bound : ∀ j, S j → j < ops.size
  closed : ∀ j, j < ops.size → S j → ∀ e ∈ (ops.toList.map edgesOf).getD j [], S e
  done : ∀ i d, S i → dstAt al i d → tget TS d = tget (st ops.size).1 d
  undone : ∀ d, (∀ i, S i → ¬ dstAt al i d) → tget TS d = tget (st 0).1 d
  rel : RelT E.lab φ nt TS a.tmps
  defers : a.defers = ds
  ext : Ext φ0 φ
  new : ∀ x e, φ x = some e → φ0 x = some e ∨ ∃ i, S i ∧ (st i).2.n ≤ x ∧ x < (st (i + 1)).2.n
  heap : Hold E lim ops al st S φ w t
  size : w0.heap.size ≤ w.heap.size
  frame : ∀ b, b < w0.heap.size → (∀ x e, φ0 x = some e → e.blk = b → x < g ∨ lim ≤ x ∨ roAt (st 0).2 x) → w.heap[b]? = w0.heap[b]?
  fresh : ∀ x e, φ x = some e → φ0 x = none → w0.heap.size ≤ e.blk ∨ ∃ y ey, φ0 y = some ey ∧ g ≤ y ∧ y < lim ∧ ¬ roAt (st 0).2 y ∧ ey.blk = e.blk
  ro : ∀ x, roAt (st 0).2 x → roAt (st t).2 x
  fix0 : Fix E φ0 (st 0).2 w0
  env : w.os = w0.os ∧ w.output = w0.output ∧ w.tape = w0.tape
theorem Inv.fix {g : Nat} {φ0 : NM} {w0 : World} {ds : List Deferred} {S : Nat → Prop} {φ : NM} {a : Act} {w : World} {t : Nat} {TS : List Value} (I : Inv E nt lim g ops al st φ0 w0 ds S φ a w t TS) {B : Hp} (hro : ∀ x, roAt (st 0).2 x → roAt B x) : Fix E φ B w := by
  have hle := I.fix0.le
  refine ⟨fun b hb => ?_, fun x e hx hb => hro x ?_⟩
  · rw [I.frame b (by omega) fun x e hx he => .inr (.inr (I.fix0.ro x e hx (by omega)))]
    exact I.fix0.same b hb
  · cases h0 : φ0 x with
    | some e0 =>
      have := I.ext x e0 h0
      rw [hx] at this; cases this
      exact I.fix0.ro x e h0 hb
    | none =>
      rcases I.fresh x e hx h0 with h | ⟨y, ey, hy, _, _, hr, he⟩
      · omega
      · exact absurd (I.fix0.ro y ey hy (by omega)) hr
theorem Rel.heap_mono {φ : NM} {A B : Hp} {w : World} (hR : Rel E lim φ A w) (hn : A.n ≤ B.n) (hl : B.n ≤ lim) (hg : ∀ x, x < A.n → B.get x = A.get x) : Rel E lim φ B w := by
  have key : ∀ {x : Nat} {b : ABlk} {e : Ent}, B.get x = some b → φ x = some e → A.get x = some b := fun {x b e} hb he => by
    have := Hp.lt_of_get hb
    rcases hR.dom x e he with h | h
    · rw [← hg x h]; exact hb
    · omega
  exact ⟨fun x e h => (hR.dom x e h).imp (fun h => Nat.lt_of_lt_of_le h hn) id, hR.wf, fun x b e hb he => hR.blk x b e (key hb he) he,
    fun x y b c ex ey hxy hb hc hx hy hrw => hR.sep x y b c ex ey hxy (key hb hx) (key hc hy) hx hy hrw, hR.fix.ro_mono (fun _ _ => rfl) fun x ⟨b, h1, h2⟩ => ⟨b, by rw [hg x (Hp.lt_of_get h1)]; exact h1, h2⟩⟩
namespace Draw
variable (D : Draw E nt lim cv g ops al st)
section
variable {φ0 : NM} {w0 : World} {ds : List Deferred} {S : Nat → Prop} {φ : NM} {a : Act} {w : World} {t : Nat} {TS : List Value}
include D
theorem ahead (I : Inv E nt lim g ops al st φ0 w0 ds S φ a w t TS) {i j : Nat} (hj : j < ops.size) (h : ((befA (ops.toList.map edgesOf)).getD j 0).testBit i = true) (hS : S j) : S i :=
  bef_closed (aft := ops.toList.map edgesOf) (fun j hj => D.back (by simpa using hj)) (S := S) (fun j hj hs => I.closed j (by simpa using hj) hs) j (by simpa using hj) hS i h
theorem ahead_ready (I : Inv E nt lim g ops al st φ0 w0 ds S φ a w t TS) {i j : Nat} (hj : j < ops.size) (hready : ∀ e ∈ (ops.toList.map edgesOf).getD j [], S e) (h : ((befA (ops.toList.map edgesOf)).getD j 0).testBit i = true) : S i := by
  have hlt := bef_lt (aft := ops.toList.map edgesOf) (fun j hj => D.back (by simpa using hj)) j (by simpa using hj) i h
  have := bef_closed (aft := ops.toList.map edgesOf) (fun j hj => D.back (by simpa using hj)) (S := fun k => S k ∨ k = j) (fun k hk hs e he => by
    rcases hs with hs | hs
    · exact .inl (I.closed k (by simpa using hk) hs e he)
    · subst hs; exact .inl (hready e he)) j (by simpa using hj) (.inr rfl) i h
  rcases this with h | h
  · exact h
  · omega
theorem looks_same (I : Inv E nt lim g ops al st φ0 w0 ds S φ a w t TS) {i d : Nat} {ao : AOper} (hao : al[i]? = some ao) (hi : i < ops.size) (hS : ¬ S i) (hready : ∀ e ∈ (ops.toList.map edgesOf).getD i [], S e)
    (hd : d ∈ ao.looks) : tget TS d = tget (st i).1 d := by
  by_cases hex : ∃ j, dstAt al j d
  · obtain ⟨j, hj⟩ := hex
    have hjl := D.dst_lt hj
    by_cases hji : j = i
    · subst hji
      rw [I.undone d (fun k hk hkd => by have := D.dst_unique hkd hj; subst this; exact hS hk)]
      exact (D.tmp_same (Nat.zero_le _) (by omega) fun k _ hk hkd => by have := D.dst_unique hkd hj; omega).symm
    · have hpair := (D.pair hjl hi).2
      obtain ⟨oj, hoj, hdj⟩ := hj
      unfold dstOk at hpair
      rw [hoj, hao] at hpair
      simp only [hdj, Bool.or_eq_true, beq_iff_eq, hji, false_or, Bool.and_eq_true, Bool.not_eq_true', bne_iff_ne, ne_eq] at hpair
      have hord : ordered (befA (ops.toList.map edgesOf)) j i = true := by
        rcases hpair.2 with h | h
        · rw [List.contains_eq_mem] at h; simp [hd] at h
        · exact h
      have hj' : dstAt al j d := ⟨oj, hoj, hdj⟩
      unfold ordered at hord
      rw [Bool.or_eq_true] at hord
      rcases hord with h | h
      ·
        have hSj := D.ahead_ready I hi hready h
        have hlt := bef_lt (aft := ops.toList.map edgesOf) (fun j hj => D.back (by simpa using hj)) i (by simpa using hi) j h
        rw [I.done j d hSj hj']
        exact D.tmp_same (by omega) (Nat.le_refl _) fun k hk _ hkd => by have := D.dst_unique hkd hj'; omega
      ·
        have hlt := bef_lt (aft := ops.toList.map edgesOf) (fun j hj => D.back (by simpa using hj)) j (by simpa using hjl) i h
        have hSj : ¬ S j := fun hs => hS (D.ahead I hjl h hs)
        rw [I.undone d (fun k hk hkd => by have := D.dst_unique hkd hj'; subst this; exact hSj hk)]
        exact (D.tmp_same (Nat.zero_le _) (by omega) fun k _ hk hkd => by have := D.dst_unique hkd hj'; omega).symm
  · rw [I.undone d (fun k _ hkd => hex ⟨k, hkd⟩)]
    exact (D.tmp_same (Nat.zero_le _) (by omega) fun k _ _ hkd => hex ⟨k, hkd⟩).symm
theorem ev_same (I : Inv E nt lim g ops al st φ0 w0 ds S φ a w t TS) {i : Nat} {ao : AOper} (hao : al[i]? = some ao) (hi : i < ops.size) (hS : ¬ S i) (hready : ∀ e ∈ (ops.toList.map edgesOf).getD i [], S e) :
    ∀ x ∈ ao.op.opds, ev TS x = ev (st i).1 x := by
  intro x hx
  cases x with
  | k v => rfl
  | t n =>
    refine D.looks_same I hao hi hS hready ?_
    unfold AOper.looks tmpsOf
    exact List.mem_append_left _ (List.mem_filterMap.2 ⟨.t n, hx, rfl⟩)
theorem wanted_same (I : Inv E nt lim g ops al st φ0 w0 ds S φ a w t TS) {i : Nat} {ao : AOper} (hao : al[i]? = some ao) (hi : i < ops.size) (hS : ¬ S i) (hready : ∀ e ∈ (ops.toList.map edgesOf).getD i [], S e) :
    wantedA ao.guard TS = wantedA ao.guard (st i).1 := by
  cases hg : ao.guard with
  | none => rfl
  | some p =>
    obtain ⟨d, b⟩ := p
    have := D.looks_same I hao hi hS hready (d := d) (by unfold AOper.looks; rw [hg]; simp)
    simp only [wantedA, this]
theorem put_done (I : Inv E nt lim g ops al st φ0 w0 ds S φ a w t TS) {i : Nat} {ao : AOper} {v : Value} (hao : al[i]? = some ao) (hi : i < ops.size) (hv : (st (i + 1)).1 = putA ao.dst (st i).1 v) :
    (∀ k d, (S k ∨ k = i) → dstAt al k d → tget (putA ao.dst TS v) d = tget (st ops.size).1 d) ∧ (∀ d, (∀ k, (S k ∨ k = i) → ¬ dstAt al k d) → tget (putA ao.dst TS v) d = tget (st 0).1 d) := by
  have hself : ∀ d, ao.dst = some d → tget (putA ao.dst TS v) d = tget (st ops.size).1 d := by
    intro d hd
    have hdi : dstAt al i d := ⟨ao, hao, hd⟩
    have e1 := D.tmp_same (i := i + 1) (j := ops.size) (d := d) (by omega) (Nat.le_refl _) fun k hk _ hkd => by have := D.dst_unique hkd hdi; omega
    rw [e1, hv, hd]
    simp [putA]
  have hother : ∀ d, ¬ dstAt al i d → tget (putA ao.dst TS v) d = tget TS d := by
    intro d hd
    cases hdd : ao.dst with
    | none => rfl
    | some d' =>
      simp only [putA, tget_tset]
      rw [if_neg]
      intro h; subst h; exact hd ⟨ao, hao, hdd⟩
  constructor
  · intro k d hk hkd
    by_cases hki : k = i
    · subst hki
      obtain ⟨ao', h1, h2⟩ := hkd
      rw [hao] at h1; cases h1
      exact hself d h2
    · have hSk : S k := hk.resolve_right hki
      rw [hother d (fun h => hki (D.dst_unique hkd h))]
      exact I.done k d hSk hkd
  · intro d hd
    rw [hother d (hd i (.inr rfl))]
    exact I.undone d fun k hk => hd k (.inl hk)
theorem load_same {i j : Nat} {b o : Nat} {s : Option Nat} {p q : Nat} (hpq : p ≤ q) (hq : q ≤ ops.size) (hb : b < (st p).2.n)
    (hstep : ∀ k, p ≤ k → k < q → ¬ writes al k ∨ (∀ (B B' : Hp), (st k).2 = B → (st (k + 1)).2 = B' → loadA B' (.pointer (some ⟨b, o, none⟩)) s = loadA B (.pointer (some ⟨b, o, none⟩)) s)) :
    loadA (st q).2 (.pointer (some ⟨b, o, none⟩)) s = loadA (st p).2 (.pointer (some ⟨b, o, none⟩)) s := by
  have _ := i; have _ := j
  induction q with
  | zero => have : p = 0 := by omega
            subst this; rfl
  | succ q ih =>
    by_cases h : p = q + 1
    · subst h; rfl
    · rw [← ih (by omega) (by omega) fun k h1 h2 => hstep k h1 (by omega)]
      rcases hstep q (by omega) (by omega) with hw | hl
      · have := D.still_step (by omega) hw b (Nat.lt_of_lt_of_le hb (D.len_le (by omega) (by omega)))
        simp only [loadA, this]
      · exact hl _ _ rfl rfl
end
end Draw
theorem setRange_part {cs vs : List Value} {o o' : Nat} {s : Option Nat} (hle : o + vs.length ≤ cs.length) (h : o + vs.length ≤ o' ∨ o' + s.getD 1 ≤ o) : partA (setRange cs o vs) o' s = partA cs o' s := by
  cases s with
  | none =>
    simp only [Option.getD_none] at h
    simp only [partA]
    rw [setRange_get hle, if_neg (by omega)]
  | some s =>
    simp only [Option.getD_some] at h
    simp only [partA, setRange_length hle]
    split
    · congr 2
      apply congrArg
      apply List.ext_getElem?
      intro k
      rw [List.getElem?_take, List.getElem?_take]
      split
      · rw [List.getElem?_drop, List.getElem?_drop, setRange_get hle]
        rw [if_neg (by omega)]
      · rfl
    · rfl
theorem store_apart {g b o n b' o' : Nat} {s : Option Nat} {vs : List Value} {A A' : Hp} (hw : writeA g A b o vs = some A') (hl : vs.length = n) (h : b ≠ b' ∨ o + n ≤ o' ∨ o' + s.getD 1 ≤ o) :
    loadA A' (.pointer (some ⟨b', o', none⟩)) s = loadA A (.pointer (some ⟨b', o', none⟩)) s := by
  obtain ⟨_, cs, hcs, hle, rfl⟩ := writeA_some hw
  simp only [loadA, Hp.get_set hcs]
  by_cases hb : b' = b
  · subst hb
    rw [if_pos rfl, hcs]
    exact setRange_part hle (by rcases h with h | h | h <;> omega)
  · rw [if_neg hb]
theorem stable_spec {al : List AOper} {n m xx : Nat} (hn : al.length = n) (hs : stable al m xx = true) : ∀ q, m ≤ q → q < n → ¬ dstAt al q xx := by
  intro q hmq hq ⟨aq, haq, hdq⟩
  unfold stable at hs
  have := List.all_eq_true.1 hs q (List.mem_range.2 (by rw [hn]; exact hq))
  simp [haq, hdq] at this
  omega
theorem cap_only {o : AOp} {y : Nat} {cv : CallFn} {g : Nat} {T : List Value} {A A' : Hp} {v : Value} (hc : o.cap = some y) (h : opA o cv g T A = some (v, A')) : OnlyC A (tget T y) A' := by
  have wr : ∀ {b off : Nat} {vs : List Value} {B : Hp} {x : Nat}, writeA g A b off vs = some B → x ≠ b → B.get x = A.get x := fun hw hx => by
    obtain ⟨hgb, cs, hcs, _, rfl⟩ := writeA_some hw
    rw [Hp.get_set hcs, if_neg hx]
  cases o <;> simp only [AOp.cap] at hc <;> try (cases hc; done)
  case callC c f l =>
    cases c with
    | k u => cases hc
    | t z => cases hc; exact (stillBut_some h).2
  case append s x e by_ =>
    cases s with
    | k u => cases hc
    | t z =>
      cases hc
      intro q hq hn
      simp only [opA, ev] at h
      generalize tget T y = sv at h hn
      simp only [appendA] at h
      repeat' (split at h)
      all_goals try (cases h; done)
      all_goals try (cases h; rfl)
      · cases h; rw [Hp.get_push, if_neg (by omega)]
      · cases h
        rename_i hcs _ _
        simp only [capsOf, List.mem_singleton] at hn
        rw [Hp.get_push, if_neg (by simp; omega), Hp.get_set hcs, if_neg hn]
      · simp only [Option.map_eq_some_iff] at h
        obtain ⟨A1, hw, he⟩ := h
        cases he
        exact wr hw (by simpa [capsOf] using hn)
  case copy d s e =>
    cases d with
    | k u => cases hc
    | t z =>
      cases hc
      intro q hq hn
      simp only [opA, ev] at h
      generalize tget T y = sv at h hn
      simp only [copyA] at h
      repeat' (split at h)
      all_goals try (cases h; done)
      · simp only [Option.map_eq_some_iff] at h
        obtain ⟨A1, hw, he⟩ := h
        cases he
        exact wr hw (by simpa [capsOf] using hn)
      · cases h; rfl
theorem apartA_caps {T : List Value} {p : Opd × Nat × Opd × Nat} {b o : Nat} (h : apartA T p = true) (h2 : ev T p.2.2.1 = .pointer (some ⟨b, o, none⟩)) : b ∉ capsOf (ev T p.1) := by
  unfold apartA at h
  rw [h2] at h
  cases hF : ev T p.1 with
  | func f x y => rw [hF] at h; simpa using h
  | slice p n c =>
    cases p with
    | none => simp [capsOf]
    | some a => obtain ⟨x, y, z⟩ := a; rw [hF] at h; simpa [capsOf] using h
  | _ => simp [capsOf]
end
end Go.Ab
namespace Go.Ab
section
variable {E : Env} {nt lim : Nat} {cv : CallFn} {g : Nat} {ops : Array Oper} {al : List AOper} {st : Nat → List Value × Hp}
namespace Draw
variable (D : Draw E nt lim cv g ops al st)
variable {φ0 : NM} {w0 : World} {ds : List Deferred} {S : Nat → Prop} {φ : NM} {a : Act} {w : World} {t : Nat} {TS : List Value}
include D
theorem writer_ordered {i j : Nat} (hi : i < ops.size) (hj : j < ops.size) (hij : i ≠ j) (hw : writes al i) (hm : memOf al j ≠ 0 ∧ memOf al j ≠ 1 ∧ memOf al j ≠ 2) :
    ((befA (ops.toList.map edgesOf)).getD j 0).testBit i = true ∨ ((befA (ops.toList.map edgesOf)).getD i 0).testBit j = true := by
  have h := (D.pair hi hj).1
  unfold pairOk at h
  have h1 : (i == j) = false := by simpa using hij
  have h2 : (memOf al j == 0) = false := by simpa using hm.1
  have h3 : (memOf al j == 1) = false := by simpa using hm.2.1
  have hm2 := hm.2.2
  have hord : ordered (befA (ops.toList.map edgesOf)) i j = true := by
    rcases hw with h' | h' | h' | h' <;> rw [h'] at h <;> simp [h1, h2, h3, hm2] at h <;> exact h
  simpa [ordered] using hord
theorem lt_of_bit {i j : Nat} (hj : j < ops.size) (h : ((befA (ops.toList.map edgesOf)).getD j 0).testBit i = true) : i < j :=
  bef_lt (aft := ops.toList.map edgesOf) (fun j hj => D.back (by simpa using hj)) j (by simpa using hj) i h
theorem writer_is (I : Inv E nt lim g ops al st φ0 w0 ds S φ a w t TS) {i : Nat} (hi : i < ops.size) (hS : ¬ S i) (hready : ∀ e ∈ (ops.toList.map edgesOf).getD i [], S e) (hw : writes al i) : i = t := by
  rcases Nat.lt_trichotomy i t with h | h | h
  · exact absurd (I.before i h hw) hS
  · exact h
  · have htl : t < ops.size := by omega
    have hwt := I.tw htl
    have hSt := I.behind t (Nat.le_refl _) htl hwt
    have hm : memOf al i ≠ 0 ∧ memOf al i ≠ 1 ∧ memOf al i ≠ 2 := by unfold writes at hw; omega
    rcases D.writer_ordered htl hi (by omega) hwt hm with hb | hb
    · exact absurd (D.ahead_ready I hi hready hb) hSt
    · have := D.lt_of_bit htl hb; omega
theorem caller_lt (I : Inv E nt lim g ops al st φ0 w0 ds S φ a w t TS) {i : Nat} (hi : i < ops.size) (hS : ¬ S i) (hready : ∀ e ∈ (ops.toList.map edgesOf).getD i [], S e) (hm : memOf al i = 6) :
    i < t ∧ ∀ j, i ≤ j → j < t → ¬ writes al j := by
  have hm' : memOf al i ≠ 0 ∧ memOf al i ≠ 1 ∧ memOf al i ≠ 2 := by omega
  have hwi : ¬ writes al i := by unfold writes; omega
  constructor
  · rcases Nat.lt_or_ge i t with h | h
    · exact h
    · exfalso
      have htl : t < ops.size := by omega
      have hwt := I.tw htl
      have hne : t ≠ i := fun h => hwi (h ▸ hwt)
      have hSt := I.behind t (Nat.le_refl _) htl hwt
      rcases D.writer_ordered htl hi hne hwt hm' with hb | hb
      · exact hSt (D.ahead_ready I hi hready hb)
      · have := D.lt_of_bit htl hb; omega
  · intro j hij hjt hwj
    have hne : j ≠ i := fun h => hwi (h ▸ hwj)
    have hjl : j < ops.size := Nat.lt_of_lt_of_le hjt I.tle
    have hSj := I.before j hjt hwj
    rcases D.writer_ordered hjl hi hne hwj hm' with hb | hb
    · have := D.lt_of_bit hi hb; omega
    · exact hS (D.ahead I hjl hb hSj)
theorem load_now (I : Inv E nt lim g ops al st φ0 w0 ds S φ a w t TS) {i : Nat} {ao : AOper} {x : Opd} {s : Option Nat} {v : Value} (hao : al[i]? = some ao) (hi : i < ops.size) (hS : ¬ S i)
    (hready : ∀ e ∈ (ops.toList.map edgesOf).getD i [], S e) (hop : ao.op = .load x s) (hwant : wantedA ao.guard (st i).1 = true) (hap : ao.apart.all (apartA (st i).1) = true)
    (hl : loadA (st i).2 (ev (st i).1 x) s = some v) : ∃ B : Hp, Rel E B.n φ B w ∧ loadA B (ev (st i).1 x) s = some v := by
  have hmi : memOf al i = 1 := by rw [mem_at hao, hop]; rfl
  obtain ⟨b, o, haddr⟩ : ∃ b o, ev (st i).1 x = .pointer (some ⟨b, o, none⟩) := by
    unfold loadA at hl
    split at hl
    · rename_i b o heq; exact ⟨b, o, heq⟩
    · cases hl
  rw [haddr] at hl ⊢
  have hbi : b < (st i).2.n := by
    unfold loadA at hl
    simp only at hl
    split at hl
    · rename_i hget; exact Hp.lt_of_get hget
    · cases hl
  have hilim : (st i).2.n ≤ lim := Nat.le_trans (D.len_le (i := i) (j := ops.size) (by omega) (Nat.le_refl _)) D.hlim
  obtain ⟨e, he⟩ : ∃ e, φ b = some e := by
    have hev := D.ev_same I hao hi hS hready x (by rw [hop]; simp [AOp.opds])
    cases x with
    | k u => exfalso; have := D.loadT_at hao; rw [loadT, hop] at this; cases this
    | t n =>
      have hr := I.rel.2 n
      have : tget TS n = .pointer (some ⟨b, o, none⟩) := by have := hev; simp only [ev] at this haddr; rw [this]; exact haddr
      rw [this] at hr
      obtain ⟨e, he, _⟩ := ptr_inv (E := E) hr
      exact ⟨e, he⟩
  have hsteps : ∀ k, k < ops.size → (i < k → S k) → (k < i → ¬ S k) → k ≠ i → b < (st k).2.n → ¬ writes al k ∨ (∀ (B B' : Hp), (st k).2 = B → (st (k + 1)).2 = B' → loadA B' (.pointer (some ⟨b, o, none⟩)) s = loadA B (.pointer (some ⟨b, o, none⟩)) s) := by
    intro k hk hk1 hk2 hki hbk
    by_cases hwk : writes al k
    · right
      have hno : ordered (befA (ops.toList.map edgesOf)) k i = false := by
        rw [Bool.eq_false_iff]
        intro hord
        rw [ordered, Bool.or_eq_true] at hord
        rcases hord with hb | hb
        · have hlt := D.lt_of_bit hi hb
          exact hk2 hlt (D.ahead_ready I hi hready hb)
        · have hlt := D.lt_of_bit hk hb
          exact hS (D.ahead I hk hb (hk1 hlt))
      have hp := (D.pair hk hi).1
      unfold pairOk at hp
      have e1 : (k == i) = false := by simpa using hki
      rw [e1, hno, hmi] at hp
      have hcase : (memOf al k = 3 ∧ heldApart al k i = true) ∨ heldC al k i = true := by
        rcases hwk with h | h | h | h <;> rw [h] at hp <;> simp at hp
        · exact .inl ⟨h, hp⟩
        · exact .inr hp
        · exact .inr hp
      obtain ⟨ok, aok, hok, haok⟩ := D.at_ hk
      intro B B' hB hB'
      subst hB; subst hB'
      rcases hcase with ⟨hk3, hheld⟩ | hheld
      case inr =>
        rcases D.step k aok haok with ⟨hw1, hap1, v1, hop1, _⟩ | ⟨_, heq, _⟩
        · unfold heldC at hheld
          have hca : capAt al k = aok.op.cap := by simp [capAt, haok]
          rw [hca] at hheld
          cases hcy : aok.op.cap with
          | none => rw [hcy] at hheld; simp at hheld
          | some y =>
            rw [hcy] at hheld
            have hbut := cap_only hcy hop1
            cases hx : x with
            | k u => rw [hx] at hop; simp [addrA, hao, hop] at hheld
            | t xt =>
              rw [hx] at hop haddr
              have ha2 : addrA al i = some (xt, s.getD 1) := by simp [addrA, hao, hop]
              rw [ha2] at hheld
              simp only [Bool.and_eq_true] at hheld
              obtain ⟨⟨hst1, hst2⟩, hany⟩ := hheld
              simp only [ev] at haddr
              have isT : ∀ {q : Opd} {n : Nat}, q.isT n = true → q = .t n := fun {q n} h => by
                cases q with
                | k v => cases h
                | t m => simp [Opd.isT] at h; rw [h]
              have hcap : b ∉ capsOf (tget (st k).1 y) := by
                rcases Nat.lt_or_ge k i with hlt | hge
                · rw [show Max.max k i = i by omega, hao] at hany
                  simp only [List.any_eq_true, Bool.and_eq_true] at hany
                  obtain ⟨p, hp1, hp2, hp3⟩ := hany
                  have e := D.tmp_same (i := k) (j := i) (d := y) (by omega) (by omega) fun q h1 h2 => stable_spec D.size hst1 q h1 (by omega)
                  have h1 := isT hp2
                  have h2 := isT hp3
                  have := apartA_caps (b := b) (o := o) (List.all_eq_true.1 hap p hp1) (by rw [h2]; exact haddr)
                  rw [h1] at this
                  simp only [ev] at this
                  rw [← e]; exact this
                · rw [show Max.max k i = k by omega, haok] at hany
                  simp only [List.any_eq_true, Bool.and_eq_true] at hany
                  obtain ⟨p, hp1, hp2, hp3⟩ := hany
                  have e := D.tmp_same (i := i) (j := k) (d := xt) (by omega) (by omega) fun q h1 h2 => stable_spec D.size hst2 q h1 (by omega)
                  have h1 := isT hp2
                  have h2 := isT hp3
                  have := apartA_caps (b := b) (o := o) (List.all_eq_true.1 hap1 p hp1) (by rw [h2]; exact e.trans haddr)
                  rw [h1] at this
                  exact this
              simp only [loadA, hbut b hbk hcap]
        · rw [heq]
      rcases D.step k aok haok with ⟨hw1, hap1, v1, hop1, _⟩ | ⟨_, heq, _⟩
      ·
        rw [mem_at haok] at hk3
        obtain ⟨y, z, n, hopk⟩ : ∃ y z n, aok.op = .store y z n := by
          cases hq : aok.op <;> rw [hq] at hk3 <;> simp only [AOp.mem] at hk3 <;> try (cases hk3; done)
          · exact ⟨_, _, _, rfl⟩
          · split at hk3 <;> cases hk3
        rw [hopk] at hop1
        obtain ⟨b1, o1, vs, haddr1, hvl, hwr⟩ := opA_store hop1
        refine store_apart hwr hvl ?_
        unfold heldApart at hheld
        have ha1 : ∀ y', aok.op = .store (.t y') z n → addrA al k = some (y', n) := fun y' h => by simp [addrA, haok, h]
        have ha2 : ∀ x', ao.op = .load (.t x') s → addrA al i = some (x', s.getD 1) := fun x' h => by simp [addrA, hao, h]
        cases hy : y with
        | k u => rw [hy] at hopk; simp [addrA, haok, hopk] at hheld
        | t yt =>
          cases hx : x with
          | k u => rw [hx] at hop; rw [ha1 yt (hy ▸ hopk)] at hheld; simp [addrA, hao, hop] at hheld
          | t xt =>
            rw [hx] at hop haddr
            rw [hy] at hopk haddr1
            rw [ha1 yt hopk, ha2 xt hop] at hheld
            simp only [Bool.and_eq_true] at hheld
            obtain ⟨⟨hst1, hst2⟩, hany⟩ := hheld
            simp only [ev] at haddr haddr1
            have conv : ∀ {p : Opd × Nat × Opd × Nat} {m : Nat}, tget (st m).1 yt = .pointer (some ⟨b1, o1, none⟩) → tget (st m).1 xt = .pointer (some ⟨b, o, none⟩) → apartA (st m).1 p = true →
                ((p.1.isT yt && p.2.1 == n && p.2.2.1.isT xt && p.2.2.2 == s.getD 1) || (p.1.isT xt && p.2.1 == s.getD 1 && p.2.2.1.isT yt && p.2.2.2 == n)) = true → b1 ≠ b ∨ o1 + n ≤ o ∨ o + s.getD 1 ≤ o1 := by
              intro p m h1 h2 h3 h4
              obtain ⟨p1, p2, p3, p4⟩ := p
              have isT : ∀ {q : Opd} {n : Nat}, q.isT n = true → q = .t n := fun {q n} h => by
                cases q with
                | k v => cases h
                | t m => simp [Opd.isT] at h; rw [h]
              rw [Bool.or_eq_true] at h4
              simp only [Bool.and_eq_true, beq_iff_eq] at h4
              rcases h4 with ⟨⟨⟨e1, e2⟩, e3⟩, e4⟩ | ⟨⟨⟨e1, e2⟩, e3⟩, e4⟩
              · obtain rfl := isT e1; obtain rfl := isT e3
                simp only [apartA, ev, h1, h2, decide_eq_true_eq] at h3
                omega
              · obtain rfl := isT e1; obtain rfl := isT e3
                simp only [apartA, ev, h1, h2, decide_eq_true_eq] at h3
                omega
            rcases Nat.lt_or_ge k i with hlt | hge
            ·
              rw [show Max.max k i = i by omega, hao] at hany
              simp only [List.any_eq_true] at hany
              obtain ⟨p, hp1, hp2⟩ := hany
              have e := D.tmp_same (i := k) (j := i) (d := yt) (by omega) (by omega) fun q h1 h2 => stable_spec D.size hst1 q h1 (by omega)
              exact conv (m := i) (by rw [e]; exact haddr1) haddr (List.all_eq_true.1 hap p hp1) hp2
            · rw [show Max.max k i = k by omega, haok] at hany
              simp only [List.any_eq_true] at hany
              obtain ⟨p, hp1, hp2⟩ := hany
              have e := D.tmp_same (i := i) (j := k) (d := xt) (by omega) (by omega) fun q h1 h2 => stable_spec D.size hst2 q h1 (by omega)
              exact conv (m := k) haddr1 (by rw [e]; exact haddr) (List.all_eq_true.1 hap1 p hp1) hp2
      · rw [heq]
    · exact .inl hwk
  have htl := I.tle
  rcases Nat.lt_or_ge b (st t).2.n with hbt | hbt
  ·
    refine ⟨(st t).2, I.heap.rel (fun _ _ h => h) (fun x _ _ => Nat.lt_or_ge x _) (I.fix I.ro), ?_⟩
    rcases Nat.lt_or_ge t i with hti | hit
    ·
      rw [← hl]
      symm
      refine D.load_same (i := 0) (j := 0) (p := t) (q := i) (by omega) (by omega) hbt fun k h1 h2 => ?_
      by_cases hwk : writes al k
      · refine hsteps k (by omega) (fun h => by omega) (fun _ => I.behind k h1 (by omega) hwk) (by omega) (Nat.lt_of_lt_of_le hbt (D.len_le h1 (by omega)))
      · exact .inl hwk
    · rw [← hl]
      refine D.load_same (i := 0) (j := 0) (p := i) (q := t) hit I.tle hbi fun k h1 h2 => ?_
      by_cases hwk : writes al k
      · have hne : k ≠ i := fun h => by subst h; rcases hwk with h | h | h | h <;> omega
        refine hsteps k (by omega) (fun _ => I.before k h2 hwk) (fun h => by omega) hne (Nat.lt_of_lt_of_le hbi (D.len_le h1 (by omega)))
      · exact .inl hwk
  ·
    obtain ⟨k, c, hSk, htk, hk, _, hbk, hget, hrel, huniq⟩ := I.heap.far b e he hbt (by omega)
    have hki : k + 1 ≤ i := by
      rcases Nat.lt_or_ge k i with h | h
      · omega
      · have := D.len_le (i := i) (j := k) h (by omega); omega
    have hsame := D.load_same (i := 0) (j := 0) (s := s) (o := o) (p := k + 1) (q := i) hki (by omega) (Hp.lt_of_get hget) fun j h1 h2 => by
      by_cases hwj : writes al j
      · exact hsteps j (by omega) (fun h => by omega) (fun _ => I.behind j (by omega) (by omega) hwj) (by omega) (Nat.lt_of_lt_of_le (Hp.lt_of_get hget) (D.len_le h1 (by omega)))
      · exact .inl hwj
    have hB : ∀ y d, (((st t).2.re b).push c).get y = some d → (y = b ∧ d = c) ∨ (st t).2.get y = some d := by
      intro y d hy
      rw [Hp.get_push, Hp.get_re] at hy
      have e : ((st t).2.re b).n = b := rfl
      rw [e] at hy
      split at hy
      · rename_i h; cases hy; exact .inl ⟨h, rfl⟩
      · split at hy
        · exact .inr hy
        · cases hy
    refine ⟨((st t).2.re b).push c, ⟨fun x _ _ => Nat.lt_or_ge x _, I.heap.wf, ?_, ?_, I.fix fun x hx => ?_⟩, ?_⟩
    · intro y d ey hd hy
      rcases hB y d hd with ⟨rfl, rfl⟩ | h
      · rw [he] at hy; cases hy; exact hrel
      · exact I.heap.blk y d ey h hy
    · intro y z d d' ey ez hyz hd hd' hy hz hrw
      rcases hB y d hd with ⟨rfl, rfl⟩ | h
      · rw [he] at hy; cases hy
        exact fun hh => hyz (huniq z ez hz hh.symm).symm
      · rcases hB z d' hd' with ⟨rfl, rfl⟩ | h'
        · rw [he] at hz; cases hz
          exact fun hh => hyz (huniq y ey hy hh)
        · exact I.heap.sep y z d d' ey ez hyz h h' hy hz hrw
    · obtain ⟨d, h1, h2⟩ := I.ro x hx
      have := Hp.lt_of_get h1
      exact ⟨d, by rw [Hp.get_push, if_neg (show ¬ x = ((st t).2.re b).n from (show ¬ x = b by omega)), Hp.get_re, if_pos (by omega)]; exact h1, h2⟩
    · rw [hsame] at hl
      have : (((st t).2.re b).push c).get b = (st (k + 1)).2.get b := by rw [hget, Hp.get_push]; exact if_pos rfl
      simp only [loadA, this]
      exact hl
end Draw
end
end Go.Ab
