/- The executor is borne out: code by code, call by call. -/
import Derived.Test.YtlihoghjchbjlaaGreatZ02
import Derived.Test.YtlihoghjchbjlaaGreatZ05
import Derived.LoopNIn
set_option linter.unusedSimpArgs false
set_option linter.unusedVariables false
set_option linter.unusedSectionVars false
namespace Go.Ab
section
variable {E : Env} {lim nt : Nat} {φ φ1 : NM} {A A1 : Hp} {w w1 : World} {lo g : Nat}
theorem Post.obj (h : Post E lim φ A w lo φ1 A1 w1) {x : Nat} {e : Ent} {b0 : ABlk} (hx : φ1 x = some e) (hA : A1.get x = some b0) (hrw : b0.rw = true)
    (hnew : φ x = none ∨ (lo ≤ x ∧ x < lim)) {o : Obj} {b : Option ABlk} (hb : ∀ b', b = some b' → b'.rw = true ∧ RelB E φ1 (w1.putObj e.blk o) b' e) :
    Post E lim φ A w lo φ1 (A1.set x b) (w1.putObj e.blk o) := by
  have hset := Hp.get_set hA b
  have hother : ∀ k, k ≠ e.blk → (w1.putObj e.blk o).heap[k]? = w1.heap[k]? := fun k hk => World.putObj_heap_other hk
  have hsep : ∀ y b' ey, y ≠ x → A1.get y = some b' → φ1 y = some ey → ey.blk ≠ e.blk := fun y b' ey hy hb' hey => Ne.symm (h.rel.sep x y _ b' e ey (Ne.symm hy) hA hb' hx hey (ABlk.own_of_rw hrw))
  have nro : ¬ roAt A1 x := not_ro hA hrw
  refine ⟨h.ext, h.dom, h.len, ?_, by simpa using h.size, ?_, h.fresh, ?_, h.env⟩
  · refine ⟨h.rel.dom, fun y ey hy => by simpa using h.rel.wf y ey hy, ?_, ?_⟩
    · intro y b' ey hb' hy
      rw [hset] at hb'
      by_cases hyx : y = x
      · subst hyx
        rw [hx] at hy; cases hy
        rw [if_pos rfl] at hb'
        exact (hb b' hb').2
      · rw [if_neg hyx] at hb'
        exact (h.rel.blk y b' ey hb' hy).mono (Ext.refl _) (hother _ (hsep y b' ey hyx hb' hy))
    · intro y z b1 b2 ey ez hyz h1 h2 hy hz hrw'
      rw [hset] at h1 h2
      by_cases hyx : y = x
      · subst hyx
        rw [if_neg (Ne.symm hyz)] at h2
        rw [hx] at hy; cases hy
        exact Ne.symm (hsep z b2 ez (Ne.symm hyz) h2 hz)
      · rw [if_neg hyx] at h1
        by_cases hzx : z = x
        · subst hzx
          rw [hx] at hz; cases hz
          exact hsep y b1 ey hyx h1 hy
        · rw [if_neg hzx] at h2
          exact h.rel.sep y z b1 b2 ey ez hyz h1 h2 hy hz hrw'
  · intro b1 hb1 H
    rw [hother b1 ?_]
    · exact h.frame b1 hb1 H
    · rintro rfl
      cases hx0 : φ x with
      | some e0 =>
        have := h.ext x e0 hx0
        rw [hx] at this; cases this
        rcases hnew with hn | hn
        · rw [hx0] at hn; cases hn
        · rcases H x e hx0 rfl with h1 | h1 | h1
          · omega
          · omega
          · exact nro (h.ro x h1)
      | none =>
        rcases h.fresh x e hx hx0 with h1 | ⟨y, ey, hy, hlo, hlim, hnro, hbe⟩
        · omega
        · rcases H y ey hy hbe with h1 | h1 | h1
          · omega
          · omega
          · exact hnro h1
  · intro y hy
    obtain ⟨cs, hcs, hc1⟩ := h.ro y hy
    refine ⟨cs, ?_, hc1⟩
    rw [hset, if_neg (fun hyx : y = x => nro (by rw [← hyx]; exact ⟨cs, hcs, hc1⟩))]
    exact hcs
inductive RelD (φ : NM) : List Nat → List Deferred → Prop
  | nil : RelD φ [] []
  | cons {x : Nat} {e : Ent} {D : List Nat} {ds : List Deferred} : φ x = some e → RelD φ D ds → RelD φ (x :: D) ({ target := .collected e.blk, args := #[] } :: ds)
theorem RelD.mono (hφ : Ext φ φ1) {D : List Nat} {ds : List Deferred} (h : RelD φ D ds) : RelD φ1 D ds := by
  induction h with
  | nil => exact .nil
  | cons h _ ih => exact .cons (hφ _ _ h) ih
inductive RdOk (φ : NM) : Option Nat → Option Nat → Prop
  | none : RdOk φ none none
  | some {l : Nat} {e : Ent} : φ l = some e → RdOk φ (some l) (some e.blk)
theorem RdOk.mono (hφ : Ext φ φ1) {rd ro : Option Nat} (h : RdOk φ rd ro) : RdOk φ1 rd ro := by
  cases h with
  | none => exact .none
  | some h => exact .some (hφ _ _ h)
def exitOf : Ex → Exit
  | .normal => .normal
  | .exit id => .exit id
  | .ret => .ret
def Sound (E : Env) (nt : Nat) (run : RunFn) (wp : Option Nat → (Exit → Act → World → Prop) → Act → World → Prop) : Prop :=
  ∀ (g : Nat) (rd : Option Nat) (st : St) (ex : Ex) (st' : St), run g rd st = some (ex, st') →
    ∀ (lim : Nat) (φ : NM) (a : Act) (w : World) (ro : Option Nat), st'.A.n ≤ lim → RelT E.lab φ nt st.T a.tmps → RelD φ st.D a.defers → Rel E lim φ st.A w → RdOk φ rd ro →
      ∀ Q : Exit → Act → World → Prop, (∀ φ' a' w', RelT E.lab φ' nt st'.T a'.tmps → RelD φ' st'.D a'.defers → Post E lim φ st.A w g φ' st'.A w' → Q (exitOf ex) a' w') → wp ro Q a w
def wpc (E : Env) (c : Code) : Option Nat → (Exit → Act → World → Prop) → Act → World → Prop := fun ro Q a w => c.wpIn (fence ro) 0 E.P Q a w
def RunSound (E : Env) (run : ACode → RunFn) : Prop := ∀ (nt : Nat) (c : Code) (ac : ACode), compCode E.P E.lab nt c = some ac → Sound E nt (run ac) (wpc E c)
theorem then_sound {ra rb : RunFn} {x : Code} {next : Option Nat → (Exit → Act → World → Prop) → Act → World → Prop} (hx : Sound E nt ra (wpc E x)) (hb : Sound E nt rb next) (hk : RunKeeps rb) :
    Sound E nt (fun g rd st => seqA rb g rd (ra g rd st)) (fun ro Q a w => x.wpIn (fence ro) 0 E.P (Exit.then (next ro Q) Q) a w) := by
  intro g rd st ex st' h lim φ a w ro hlim hT hD hR hrd Q hQ
  replace h : seqA rb g rd (ra g rd st) = some (ex, st') := h
  show x.wpIn (fence ro) 0 E.P (Exit.then (next ro Q) Q) a w
  cases hr : ra g rd st with
  | none => rw [hr] at h; cases h
  | some r =>
    obtain ⟨ex1, st1⟩ := r
    rw [hr] at h
    cases ex1 with
    | normal =>
      replace h : rb g rd st1 = some (ex, st') := h
      have k := (hk _ _ _ _ _ h).1.1
      refine hx g rd st _ st1 hr lim φ a w ro (by omega) hT hD hR hrd _ fun φ1 a1 w1 hT1 hD1 hP1 => ?_
      exact hb g rd st1 ex st' h lim φ1 a1 w1 ro hlim hT1 hD1 hP1.rel (hrd.mono hP1.ext) Q fun φ2 a2 w2 hT2 hD2 hP2 => hQ φ2 a2 w2 hT2 hD2 (hP1.trans hP2)
    | exit id => cases h; exact hx g rd st _ _ hr lim φ a w ro hlim hT hD hR hrd _ hQ
    | ret => cases h; exact hx g rd st _ _ hr lim φ a w ro hlim hT hD hR hrd _ hQ
theorem iter_sound {ra : RunFn} {x : Code} (hx : Sound E nt ra (wpc E x)) (hk : RunKeeps ra) : ∀ m, Sound E nt (iterA ra m) (fun ro Q a w => Code.roundsIn (fence ro) 0 E.P x Q m a w) := by
  intro m
  induction m with
  | zero => intro g rd st ex st' h; cases h
  | succ m ih => exact then_sound hx ih (iterA_keeps hk m)
theorem loadVar_run {t : TypeId} {n : Option Nat} {u u' v : Value} (hn : cellsA E.P t = some n) (hu : RelV E.lab φ u u') (hR : Rel E lim φ A w) (h : loadA A u n = some v) :
    ∃ v', (do loadVar t (← asAddr u') : Sem Value).run E.P w = .ok v' w ∧ RelV E.lab φ v v' := by
  unfold loadA at h
  split at h
  · rename_i y off
    split at h
    · rename_i cs ro hy
      obtain ⟨e, he, rfl⟩ := ptr_inv hu
      cases n with
      | none =>
        have hag := cellsA_none hn
        simp only [partA] at h
        have hlt : off < cs.length := (List.getElem?_eq_some_iff.1 h).1
        obtain ⟨vs, hvl, hr, hcell⟩ := cells_of (o := off) hR he hy (n := 1) (by omega)
        obtain ⟨v', hv', hrel⟩ := hr.get (i := 0) (v := v) (by rw [List.getElem?_take]; simp [h])
        have := hcell 0 v' hv'
        rw [Addr.add_lit] at this
        simp only [Nat.add_zero] at this
        exact ⟨v', by simp [loadVar, asAddr, isAgg_run hag, this], hrel⟩
      | some s =>
        obtain ⟨hag, hs⟩ := cellsA_some hn
        simp only [partA] at h
        split at h
        · rename_i hle
          cases h
          obtain ⟨vs, hvl, hr, hcell⟩ := cells_of (o := off) hR he hy hle
          have hload := run_loadCells_list (P := E.P) w ⟨e.blk, e.off + off, none⟩ vs hcell
          rw [hvl] at hload
          exact ⟨.agg vs.toArray, by simp [loadVar, asAddr, isAgg_run hag, sizeOf_run hs, hload], RelL.agg (by simpa using hr)⟩
        · cases h
    · cases h
  · cases h
def resOf (tmps : Array Value) : ResultVar → Sem Value
  | .tmp t => pure (tmps.getD t undef)
  | .cell a t => do loadVar t (← asAddr (tmps.getD a undef))
theorem results_eq (fn : Func) (tmps : Array Value) : results fn tmps = (do
  let vs ← fn.results.mapM (resOf tmps)
  pure (if h : vs.size = 1 then vs[0] else .tuple vs)) := by
  unfold results
  congr 1
theorem resAll_run {T : List Value} {tmps : Array Value} (hT : RelT E.lab φ nt T tmps) (hR : Rel E lim φ A w) : ∀ {l : List ResultVar} {rs : List ARes} {vs : List Value}, l.mapM (compRes E.P nt) = some rs → resAll T A rs = some vs →
    ∃ vs', (l.mapM (resOf tmps)).run E.P w = .ok vs' w ∧ RelL E.lab φ vs vs' := by
  intro l
  induction l with
  | nil => intro rs vs h h'; simp at h; subst h; cases h'; exact ⟨[], by simp, RelL.nil⟩
  | cons x l ih =>
    intro rs vs h h'
    simp only [List.mapM_cons, Option.bind_eq_bind, Option.bind_eq_some_iff] at h
    obtain ⟨r, hr, rs', hrs, he⟩ := h
    cases he
    simp only [resAll] at h'
    split at h'
    · rename_i v hv
      simp only [Option.map_eq_some_iff] at h'
      obtain ⟨vs1, hvs1, rfl⟩ := h'
      obtain ⟨vs', hrun, hrel⟩ := ih hrs hvs1
      cases x with
      | tmp t =>
        simp only [compRes] at hr
        split at hr
        · cases hr
          cases hv
          refine ⟨tmps.getD t undef :: vs', ?_, RelL.cons (hT.2 t) hrel⟩
          rw [List.mapM_cons, Sem.run_bind, resOf]
          simp only [Sem.run_pure, Result.andThen_ok, Sem.run_bind, hrun]
        · cases hr
      | cell a t =>
        simp only [compRes] at hr
        split at hr
        · rename_i n hn
          split at hr
          · cases hr
            obtain ⟨v', hrun', hrel'⟩ := loadVar_run hn (hT.2 a) hR hv
            refine ⟨v' :: vs', ?_, RelL.cons hrel' hrel⟩
            rw [List.mapM_cons, Sem.run_bind, resOf, hrun']
            simp only [Sem.run_pure, Result.andThen_ok, Sem.run_bind, hrun]
          · cases hr
        · cases hr
    · cases h'
theorem results_run {fn : Func} {T : List Value} {tmps : Array Value} {rs : List ARes} {v : Value} (hT : RelT E.lab φ nt T tmps) (hR : Rel E lim φ A w) (hc : fn.results.toList.mapM (compRes E.P nt) = some rs) (h : resA rs T A = some v) :
    ∃ v', (results fn tmps).run E.P w = .ok v' w ∧ RelV E.lab φ v v' := by
  unfold resA at h
  have key : ∀ vs, resAll T A rs = some vs → ∃ vs', (results fn tmps).run E.P w = .ok (if h : vs'.toArray.size = 1 then vs'.toArray[0] else .tuple vs'.toArray) w ∧ RelL E.lab φ vs vs' := by
    intro vs hvs
    obtain ⟨vs', hrun, hrel⟩ := resAll_run hT hR hc hvs
    refine ⟨vs', ?_, hrel⟩
    rw [results_eq, Array.mapM_eq_mapM_toList, Sem.run_bind, map_eq_pure_bind, Sem.run_bind, hrun]
    simp only [Sem.run_pure, Result.andThen_ok]
  split at h
  · rename_i u hu
    cases h
    obtain ⟨vs', hrun, hrel⟩ := key _ hu
    obtain ⟨y, ys, rfl, hy, hnil⟩ := hrel.inv_cons
    obtain rfl := hnil.inv_nil
    exact ⟨y, by simpa using hrun, hy⟩
  · rename_i vs hne hvs
    cases h
    obtain ⟨vs', hrun, hrel⟩ := key _ hvs
    refine ⟨.tuple vs'.toArray, ?_, RelL.tuple (by simpa using hrel)⟩
    have : vs'.toArray.size ≠ 1 := by
      intro h1
      have hl := hrel.1
      simp at h1
      rw [h1] at hl
      obtain ⟨u, rfl⟩ := List.length_eq_one_iff.1 hl
      exact hne u rfl
    rw [dif_neg this] at hrun
    exact hrun
  · cases h
theorem takeMarks_n : ∀ {D : List Nat} {A1 A' : Hp}, takeMarks A1 D = some A' → A'.n = A1.n := by
  intro D
  induction D with
  | nil => intro A1 A' h; simp [takeMarks] at h; rw [h]
  | cons x D ih =>
    intro A1 A' h
    simp only [takeMarks] at h
    split at h
    · rw [ih h]; simp
    · cases h
theorem leaves {fn : Func} {tmps : Array Value} {R : Ending → World → Prop} (hR : Rel E lim φ A w) {A' : Hp} : ∀ {D : List Nat} {ds : List Deferred} {A1 : Hp} {w1 : World}, RelD φ1 D ds → Post E lim φ A w g φ1 A1 w1 → takeMarks A1 D = some A' →
    A1.n ≤ lim → (∀ x ∈ D, A.n ≤ x) → (∀ w2, Post E lim φ A w g φ1 A' w2 → LeavesInM (fence none) 0 E.P fn tmps R [] .returning w2) → LeavesInM (fence none) 0 E.P fn tmps R ds .returning w1 := by
  intro D
  induction D with
  | nil => intro ds A1 w1 hD hP ht _ _ hK; cases hD; simp [takeMarks] at ht; subst ht; exact hK w1 hP
  | cons x D ih =>
    intro ds A1 w1 hD hP ht hlim hge hK
    cases hD with
    | cons hx hD =>
      rename_i e ds
      simp only [takeMarks] at ht
      split at ht
      · rename_i hm
        have hb : w1.heap[e.blk]? = some (.deferred (some [])) := hP.rel.blk x _ e hm hx
        refine ⟨by simp, .inl ⟨e.blk, _, rfl, run_takeDeferred hb, ?_⟩⟩
        have hxl := Hp.lt_of_get hm
        refine ih hD (hP.obj hx hm rfl (.inl ?_) (fun b' h => by cases h)) ht (by simpa using hlim) (fun y hy => hge y (by simp [hy])) hK
        cases hx0 : φ x with
        | none => rfl
        | some e0 =>
          have := hR.dom x e0 hx0
          have := hge x (by simp)
          omega
      · cases ht
theorem compFunc_inv {fn : Func} {rs : List ARes} {body : ACode} (h : compFunc E.P E.lab fn = some (.fn nt rs body)) :
    ∃ c, fn.body = some c ∧ fn.ntmps = nt ∧ compCode E.P E.lab nt c = some body ∧ fn.results.toList.mapM (compRes E.P nt) = some rs ∧ ¬ fn.name = "runtime.NumGoroutine" := by
  unfold compFunc at h
  split at h
  · cases h
  · rename_i hne
    split at h
    · rename_i c hb
      split at h
      · rename_i x r hx hr
        cases h
        exact ⟨c, hb, rfl, hx, hr, by simpa using hne⟩
      · cases h
    · split at h <;> cases h
theorem tget_getD (T : List Value) (i : Nat) : tget T i = T.getD i undef := by
  induction T generalizing i with
  | nil => simp
  | cons x T ih => cases i with
    | zero => simp
    | succ i => simpa using ih i
theorem relT_args {args args' : List Value} (h : RelL E.lab φ args args') : RelT E.lab φ nt args (args'.toArray ++ Array.replicate (nt - args'.toArray.size) undef) := by
  refine ⟨by simp; omega, fun i => ?_⟩
  rw [tget_getD, List.getD_eq_getElem?_getD, Array.getD_eq_getD_getElem?, Array.getElem?_append]
  have hl := h.1
  by_cases hi : i < args.length
  · rw [if_pos (by simpa using hl ▸ hi)]
    have e1 : args[i]? = some args[i] := List.getElem?_eq_getElem hi
    obtain ⟨v', hv', hr⟩ := h.get e1
    simp [e1, hv', hr]
  · rw [if_neg (by simp; omega), List.getElem?_eq_none (by omega)]
    simp only [Option.getD_none, Array.getElem?_replicate]
    split <;> exact relV_undef
theorem enter_sound {run : ACode → RunFn} (hrun : RunSound E run) (hk : ∀ c, RunKeeps (run c)) {f : Nat} {rs : List ARes} {body : ACode} {args : List Value} {v : Value} {A' : Hp} (hap : E.AP f = some (.fn nt rs body))
    (h : enterA run g args A (some (.fn nt rs body)) = some (v, A')) : FnSound E g f args A v A' := by
  have h' : ∃ ex st', run body g none ⟨args, [], A⟩ = some (ex, st') ∧ (ex = .normal ∨ ex = .ret) ∧ takeMarks st'.A st'.D = some A' ∧ resA rs st'.T A' = some v := by
    simp only [enterA, finishA] at h
    split at h
    · cases h
    · rename_i ex st' hne heq
      split at h
      · rename_i A1 hA1
        simp only [Option.map_eq_some_iff] at h
        obtain ⟨u, hu, he⟩ := h
        cases he
        refine ⟨ex, st', heq, ?_, hA1, hu⟩
        cases ex with
        | normal => exact .inl rfl
        | ret => exact .inr rfl
        | exit id => exact absurd rfl (hne id)
      · cases h
    · cases h
  obtain ⟨ex, st', heq, hex, hmarks, hres⟩ := h'
  intro lim φ w f' args' hlim hlab hargs hR
  obtain ⟨fn, hfn, hcf⟩ := E.ok f' _ (by rw [hlab]; exact hap)
  obtain ⟨c, hb, hnt, hc, hrs, _⟩ := compFunc_inv hcf
  obtain ⟨hK, ns, hns, hmk⟩ := hk _ _ _ _ _ _ heq
  have hn := takeMarks_n hmarks
  refine callsIn_of_wp_marks hfn hb trivial ?_
  refine hrun nt c body hc g none ⟨args, [], A⟩ ex st' heq lim φ _ w none (by omega) (by rw [hnt]; exact relT_args hargs) .nil hR .none _ fun φ' a' w' hT hD hP => ?_
  have fin : LeavesInM (fence none) 0 E.P fn a'.tmps (fun e w' => ∃ v' φ', e = .returned v' ∧ RelV E.lab φ' v v' ∧ Post E lim φ A w g φ' A' w') a'.defers .returning w' := by
    refine leaves hR hD hP hmarks (by omega) (fun x hx => hmk x (by rw [hns] at hx; simpa using hx)) fun w2 hP2 => ?_
    obtain ⟨v', hv', hrel⟩ := results_run hT hP2.rel hrs hres
    exact ⟨v', hv', v', φ', rfl, hrel, hP2⟩
  rcases hex with rfl | rfl <;> exact fin
end
end Go.Ab
namespace Go.Ab
section
variable {E : Env} {lim nt : Nat} {φ φ3 : NM} {A A3 : Hp} {w w3 : World} {g : Nat}
def SpecsOk (E : Env) (K : Nat → Option Spec) : Prop :=
  ∀ h S, K h = some S → (∃ nt rs body, E.AP h = some (.fn nt rs body)) ∧ ∀ g args A v A', S g args A = some (v, A') → FnSound E g h args A v A' ∧ HK g A A'
theorem SpecsOk.keeps {K : Nat → Option Spec} (hK : SpecsOk E K) : ∀ h S, K h = some S → ∀ g args A v A', S g args A = some (v, A') → HK g A A' :=
  fun h S hS g args A v A' hr => ((hK h S hS).2 g args A v A' hr).2
variable {K : Nat → Option Spec} {run : ACode → RunFn}
theorem callF_sound (hK : SpecsOk E K) (hrun : RunSound E run) (hk : ∀ c, RunKeeps (run c)) {f : Nat} {args : List Value} {v : Value} {A' : Hp} (h : callF E.AP K run g f args A = some (v, A')) :
    (∃ nt rs body, E.AP f = some (.fn nt rs body) ∧ FnSound E g f args A v A') ∨ (E.AP f = some .sqrt ∧ sqrtA args = some v ∧ A' = A) := by
  unfold callF at h
  split at h
  · rename_i S hS
    obtain ⟨⟨nt, rs, body, hap⟩, hS'⟩ := hK f S hS
    exact .inl ⟨nt, rs, body, hap, (hS' _ _ _ _ _ h).1⟩
  · cases hap : E.AP f with
    | none => rw [hap] at h; cases h
    | some af =>
      rw [hap] at h
      cases af with
      | fn nt rs body => exact .inl ⟨nt, rs, body, rfl, enter_sound hrun hk hap h⟩
      | sqrt =>
        obtain ⟨h1, h2⟩ := pureV_heap h
        exact .inr ⟨rfl, h1, h2⟩
theorem zip_args {nt : Nat} : ∀ {ps : List Nat} {args args' : List Value} {T : List Value} {tmps : Array Value}, args.length = ps.length → (∀ p ∈ ps, p < nt) → RelL E.lab φ args args' → RelT E.lab φ nt T tmps →
    RelT E.lab φ nt (zipArgs T ps args) ((ps.zip args').foldl (fun tmps p => tmps.setIfInBounds p.1 p.2) tmps) := by
  intro ps
  induction ps with
  | nil => intro args args' T tmps _ _ _ hT; cases args <;> simpa [zipArgs] using hT
  | cons p ps ih =>
    intro args args' T tmps hl hp hr hT
    cases args with
    | nil => simp at hl
    | cons x args =>
      obtain ⟨y, ys, rfl, hxy, hrest⟩ := hr.inv_cons
      exact ih (by simpa using hl) (fun q hq => hp q (by simp [hq])) hrest (hT.set (hp p (by simp)) hxy)
theorem round_sound (hrun : RunSound E run) (hk : ∀ c, RunKeeps (run c)) {l : Nat} {args : List Value} {v : Value} {A' : Hp} (h : yieldA run g l args A = some (v, A')) : RoundSound E g l args A v A' := by
  unfold yieldA at h
  split at h
  case h_2 => cases h
  rename_i r hl
  split at h
  case isFalse => cases h
  rename_i hg
  unfold beginRoundA at h
  split at h
  case h_2 => cases h
  rename_i st1 heq
  split at h
  case h_2 => cases h
  rename_i r1 hl1
  split at h
  case h_2 => cases h
  rename_i hready
  unfold endRoundA at h
  split at h
  case h_2 => cases h
  rename_i ex st2 heq2
  split at h
  case h_2 => cases h
  rename_i r2 hl2
  cases h
  intro lim φ w e args' hlim hφ hargs hR
  have k1 := (hk _ _ _ _ _ _ heq).1
  have k2 := (hk _ _ _ _ _ _ heq2).1
  have n1 := k1.1
  have n2 := k2.1
  simp only [Hp.n_set] at hlim n1 n2
  obtain ⟨r', nt, hw, hst, hpend, hps, hpn, hca, hcb, hTr⟩ := hR.blk l _ e hl hφ
  have hlen : args'.toArray.size = r'.params.size := by
    have h1 := hargs.1
    have h2 : r'.params.size = r.params.length := by rw [← hps]; simp
    simp; omega
  refine ⟨_, _, _, _, run_yield hw hlen, roundIn_of_wpIn trivial ?_⟩
  have hT0 := zip_args (E := E) hg.1 hpn hargs hTr
  have hfold : (r'.params.zip args'.toArray).foldl (fun tmps p => tmps.setIfInBounds p.1 p.2) r'.tmps = (r.params.zip args').foldl (fun tmps p => tmps.setIfInBounds p.1 p.2) r'.tmps := by
    rw [← hps, ← Array.foldl_toList, Array.toList_zip]
  refine hrun nt _ _ hca g (some l) ⟨zipArgs r.tmps r.params args, [], A⟩ _ st1 heq lim φ _ w (some e.blk) (by omega) ?_ .nil hR (.some hφ) _ fun φ1 a1 w1 hT1 hD1 hP1 => ?_
  · show RelT E.lab φ nt (zipArgs r.tmps r.params args) ((r'.params.zip args'.toArray).foldl (fun tmps p => tmps.setIfInBounds p.1 p.2) r'.tmps)
    rw [hfold]; exact hT0
  · have hφ1 := hP1.ext l e hφ
    obtain ⟨r1', nt1, hw1, hst1, hpend1, hps1, hpn1, hca1, hcb1, hTr1⟩ := hP1.rel.blk l _ e hl1 hφ1
    have hll : l < lim := by have := Hp.lt_of_get hl2; omega
    refine ⟨_, run_beginRound hw1 (by rw [hst1]; exact hready), ?_⟩
    have hwl := hP1.rel.wf l e hφ1
    have hP2 : Post E lim φ A w g φ1 (st1.A.set l (some (.loop { r1 with state := .busy }))) (w1.putObj e.blk (.loop { r1' with state := .busy })) := by
      refine hP1.obj hφ1 hl1 rfl (.inr ⟨hg.2, hll⟩) fun b' hb' => ?_
      cases hb'
      exact ⟨rfl, _, nt1, World.putObj_heap_same hwl, rfl, hpend1, hps1, hpn1, hca1, hcb1, hTr1⟩
    refine hrun nt _ _ hcb g (some l) ⟨st1.T, st1.D, _⟩ ex st2 heq2 lim φ1 a1 _ (some e.blk) (by omega) hT1 hD1 hP2.rel (.some hφ1) _ fun φ3 a3 w3 hT3 hD3 hP3 => ?_
    · have hφ3 := hP3.ext l e hφ1
      obtain ⟨r2', nt2, hw3, hst3, hpend3, hps3, hpn3, hca3, hcb3, hTr3⟩ := hP3.rel.blk l _ e hl2 hφ3
      have hwl3 := hP3.rel.wf l e hφ3
      have fin : ∀ (jump : Option Code), jump = ex.pend.map pendCode → ∃ v w', (Instr.endRound e.blk jump).run E.P w3 = .ok v w' ∧ ∃ v' φ', Ending.returned v = .returned v' ∧ RelV E.lab φ' (.bool ex.pend.isNone) v' ∧
          Post E lim φ A w g φ' (st2.A.set l (some (.loop { r2 with state := if ex.pend.isNone then .ready else .done, pending := ex.pend }))) w' := by
        intro jump hj
        have hjn : jump.isNone = ex.pend.isNone := by rw [hj]; simp
        refine ⟨_, _, run_endRound jump hw3, _, φ3, rfl, ?_, ?_⟩
        · rw [hjn]; exact .bool _
        · rw [hjn]
          refine (hP2.trans hP3).obj hφ3 hl2 rfl (.inr ⟨hg.2, hll⟩) fun b' hb' => ?_
          cases hb'
          exact ⟨rfl, _, nt2, World.putObj_heap_same hwl3, rfl, hj, hps3, hpn3, hca3, hcb3, hTr3⟩
      cases ex with
      | normal => exact fin none rfl
      | ret => exact fin (some .ret) rfl
      | exit id => exact fin (some (.exit id)) rfl
theorem endLoop_sound (hP : Post E lim φ A w g φ3 A3 w3) {l : Nat} {e : Ent} (hl : φ3 l = some e) (hn : φ l = none) {T : List Value} {D : List Nat} {v : Value} {ex : Ex} {st' : St} (h : endLoopA l T D (some (v, A3)) = some (ex, st')) :
    st'.T = T ∧ st'.D = D ∧ st'.A.n = A3.n ∧ ∃ w4, (Instr.endLoop e.blk).run E.P w3 = .ok (ex.pend.map pendCode) w4 ∧ Post E lim φ A w g φ3 st'.A w4 := by
  unfold endLoopA at h
  split at h
  case h_2 => rename_i hne; cases hne
  rename_i v' A3' heq
  cases heq
  split at h
  case h_2 => cases h
  rename_i r hr
  obtain ⟨r', nt, hw, hst, hpend, hps, hpn, hca, hcb, hTr⟩ := hP.rel.blk l _ e hr hl
  have hwl := hP.rel.wf l e hl
  have hP4 : Post E lim φ A w g φ3 (A3.set l (some (.loop { r with state := .exhausted }))) (w3.putObj e.blk (.loop { r' with state := .exhausted })) := by
    refine hP.obj hl hr rfl (.inl hn) fun b' hb' => ?_
    cases hb'
    exact ⟨rfl, _, nt, World.putObj_heap_same hwl, rfl, hpend, hps, hpn, hca, hcb, hTr⟩
  have hrun : r.state ≠ .busy → (Instr.endLoop e.blk).run E.P w3 = .ok (r.pending.map pendCode) (w3.putObj e.blk (.loop { r' with state := .exhausted })) := fun hb => by
    rw [← hpend]
    exact run_endLoop hw (by rw [hst]; exact hb)
  split at h
  · cases h
  · rename_i hbusy
    have hb : r.state ≠ .busy := fun hb => hbusy hb
    split at h <;> rename_i hp <;> cases h <;> refine ⟨rfl, rfl, rfl, _, ?_, hP4⟩ <;> rw [hrun hb, hp] <;> rfl
def CfSound (E : Env) (cf : Nat → Nat → List Value → Hp → Option (Value × Hp)) : Prop :=
  ∀ g f args A v A', cf g f args A = some (v, A') → (∃ nt rs body, E.AP f = some (.fn nt rs body) ∧ FnSound E g f args A v A') ∨ (E.AP f = some .sqrt ∧ sqrtA args = some v ∧ A' = A)
theorem range_core {cf : Nat → Nat → List Value → Hp → Option (Value × Hp)} (hcf : CfSound E cf) {nt h l fn gf : Nat} {first captured first' captured' : Array Value} {a : Act} {f : Operand} {ps : Array Tmp} {ca cb : Code} {ro : Option Nat}
    {φ2 : NM} {A2 : Hp} {w2 : World} {e : Ent} {mark : List Deferred} {T : List Value} {D : List Nat} {v : Value} {ex : Ex} {st' : St} {Q : Exit → Act → World → Prop}
    (hu : a.eval f = .func (.func gf) first' captured') (hlab : E.lab gf = h) (r1 : RelL E.lab φ first.toList first'.toList) (r2 : RelL E.lab φ captured.toList captured'.toList)
    (hcall : cf g h (first.toList ++ [.func (.yield l) #[] #[]] ++ captured.toList) A2 = some (v, A3)) (hlim : A3.n ≤ lim)
    (henter : (Instr.enterLoop fn a.tmps ps ca cb (fence ro).round).run E.P w = .ok (e.blk, mark) w2)
    (hP2 : Post E lim φ A w g φ2 A2 w2) (hl : φ2 l = some e) (hn : φ l = none) (h4 : endLoopA l T D (some (v, A3)) = some (ex, st'))
    (hT : RelT E.lab φ nt T a.tmps) (hD : RelD φ2 D (mark ++ a.defers))
    (hQ : ∀ φ' a' w', RelT E.lab φ' nt st'.T a'.tmps → RelD φ' st'.D a'.defers → Post E lim φ A w g φ' st'.A w' → Q (exitOf ex) a' w') :
    ∃ (l' : Nat) (mark : List Deferred) (w₁ : World) (d : Deferred) (w₁' : World) (f' : FuncId) (args : Array Value) (w₂ : World),
      (Instr.enterLoop fn a.tmps ps ca cb (fence ro).round).run E.P w = .ok (l', mark) w₁ ∧
      (resolve a.eval (rangeCall f l') 0).run E.P w₁ = .ok d w₁' ∧
      (∀ f', Target.leads E.P w₁' d.target d.args = some f' → (fence ro).fn f') ∧
      (invoke d.target d.args).run E.P w₁' = .ok (.enter f' args) w₂ ∧
      ((fence ro).depth.isSome = true → 1 ≤ 0) ∧
      CallsIn (fence ro) (0 - 1) E.P f' args w₂ (rangePost (fence ro) 0 E.P l' Q { a with defers := mark ++ a.defers }) := by
  have hfn : ∃ nt rs body, E.AP h = some (.fn nt rs body) ∧ FnSound E g h (first.toList ++ [.func (.yield l) #[] #[]] ++ captured.toList) A2 v A3 := by
    rcases hcf _ _ _ _ _ _ hcall with h1 | ⟨_, h1, _⟩
    · exact h1
    · exfalso
      unfold sqrtA at h1
      split at h1
      · rename_i x heq
        have := congrArg List.length heq
        have hmem : Value.func (.yield l) #[] #[] ∈ [Value.float .f64 x] := by rw [← heq]; simp
        simp at hmem
      · cases h1
  obtain ⟨nt', rs, body, hap, hs⟩ := hfn
  obtain ⟨fun_, hfun, hcomp⟩ := E.ok gf _ (by rw [hlab]; exact hap)
  obtain ⟨c, hb, _, _, _, hname⟩ := compFunc_inv hcomp
  have hargs : RelL E.lab φ2 (first.toList ++ [.func (.yield l) #[] #[]] ++ captured.toList) (first'.toList ++ [.func (.yield e.blk) #[] #[]] ++ captured'.toList) :=
    ((r1.mono hP2.ext).append (RelL.cons (.yield hl) RelL.nil)).append (r2.mono hP2.ext)
  have hc := hs lim φ2 w2 gf _ hlim hlab hargs hP2.rel
  have harr : (first'.toList ++ [Value.func (.yield e.blk) #[] #[]] ++ captured'.toList).toArray = first' ++ #[Value.func (.yield e.blk) #[] #[]] ++ captured' := by
    apply Array.toList_inj.1; simp
  rw [harr] at hc
  refine ⟨e.blk, mark, w2, { target := .fn (.func gf) captured', args := first' ++ #[Value.func (.yield e.blk) #[] #[]] }, w2, gf, _, w2, henter, ?_, fun _ _ => trivial, ?_, fun h => (by cases h), CallsIn.mono (callsIn_fence hc) ?_⟩
  · have hconst : a.eval (.const (.func (.yield e.blk) #[] #[])) = .func (.yield e.blk) #[] #[] := rfl
    simp [resolve, hu, hconst, Deferred.ofValue]
  · simp [invoke, callFunc, hfun, hb, hname]
  · rintro en w3 ⟨v', φ3, rfl, hv, hP3⟩
    obtain ⟨e1, e2, e3, w4, hend, hP4⟩ := endLoop_sound (hP2.trans hP3) (hP3.ext l e hl) hn h4
    refine ⟨_, w4, hend, ?_⟩
    have fin := hQ φ3 { a with defers := mark ++ a.defers } w4 (by rw [e1]; exact hT.mono (hP2.ext.trans hP3.ext)) (by rw [e2]; exact hD.mono hP3.ext) hP4
    cases ex with
    | normal => exact fin
    | ret => exact wpIn_ret fin
    | exit id => exact wpIn_exit fin
theorem endLoopA_some {l : Nat} {T : List Value} {D : List Nat} {r : Option (Value × Hp)} {ex : Ex} {st' : St} (h : endLoopA l T D r = some (ex, st')) : ∃ v A3, r = some (v, A3) ∧ st'.A.n = A3.n := by
  cases r with
  | none => cases h
  | some p =>
    obtain ⟨v, A3⟩ := p
    refine ⟨v, A3, rfl, ?_⟩
    simp only [endLoopA] at h
    split at h
    · split at h
      · cases h
      · split at h <;> cases h <;> rfl
    · cases h
theorem range_sound {cf : Nat → Nat → List Value → Hp → Option (Value × Hp)} (hcf : CfSound E cf) (hck : FnKeeps cf) {f : Operand} {z : Opd} {ps : Array Tmp} {ca cb : Code} {xa xb : ACode} (hz : compOpd E.lab nt f = some z)
    (ha : compCode E.P E.lab nt ca = some xa) (hb : compCode E.P E.lab nt cb = some xb) (hps : ∀ p ∈ ps.toList, p < nt) : Sound E nt (fun g rd st => rangeA cf ps.toList xa xb g rd st (ev st.T z)) (wpc E (.rangeFunc f ps ca cb)) := by
  intro g rd st ex st' h lim φ a w ro hlim hT hD hR hrd Q hQ
  have rf := hT.eval hz
  replace h : rangeA cf ps.toList xa xb g rd st (ev st.T z) = some (ex, st') := h
  unfold rangeA at h
  split at h
  case h_2 => cases h
  rename_i u hh first captured hev
  rw [hev] at rf
  obtain ⟨gf, first', captured', hu, hlab, r1, r2⟩ := func_inv rf
  refine wpIn_rangeFunc fun fn _ => ?_
  cases hrd with
  | none =>
    simp only at h
    obtain ⟨v, A3, hcall, hn3⟩ := endLoopA_some h
    have hk := (hck _ _ _ _ _ _ hcall).1
    simp only [Hp.n_push] at hk
    rw [hcall] at h
    have hP1 : Post E lim φ st.A w g (ins φ st.A.n ⟨w.heap.size, 0, 0⟩) (st.A.push .marks) (w.alloc (.deferred (some []))) :=
      post_push hR (by omega) rfl ⟨rfl, rfl, rfl⟩ (World.alloc_heap_new w _)
    have hP2 := post_push (lo := g) (b := .loop { state := .ready, pending := none, tmps := st.T, params := ps.toList, assign := xa, body := xb })
      (obj := .loop { state := .ready, pending := none, fn, tmps := a.tmps, params := ps, assign := ca, body := cb, defers := w.heap.size }) (size := 0) hP1.rel (by simp; omega)
      (w1 := (w.alloc (.deferred (some []))).alloc (.loop { state := .ready, pending := none, fn, tmps := a.tmps, params := ps, assign := ca, body := cb, defers := w.heap.size })) rfl ⟨rfl, rfl, rfl⟩
      ⟨_, nt, World.alloc_heap_new _ _, rfl, rfl, rfl, hps, ha, hb, hT.mono (hP1.ext.trans (ext_ins (hP1.rel.fresh (by simp; omega))))⟩
    have hP := hP1.trans hP2
    simp only [Hp.n_push, World.size_alloc] at hP
    refine range_core (l := st.A.n + 1) (e := ⟨w.heap.size + 1, 0, 0⟩) (nt := nt) hcf hu hlab r1 r2 hcall (by omega) (run_enterLoop_outer _ _ _ _ _) hP (ins_same _ _ _) ?_ h hT ?_ hQ
    · cases hx : φ (st.A.n + 1) with
      | none => rfl
      | some e => have := hR.dom _ _ hx; omega
    · refine .cons (e := ⟨w.heap.size, 0, 0⟩) ?_ (hD.mono hP.ext)
      rw [ins_other (by omega)]; exact ins_same _ _ _
  | @some l0 e0 hφ =>
    simp only at h
    split at h
    case h_2 => cases h
    rename_i r0 hl0
    obtain ⟨r0', nt0, hw0, _⟩ := hR.blk l0 _ e0 hl0 hφ
    obtain ⟨v, A3, hcall, hn3⟩ := endLoopA_some h
    have hk := (hck _ _ _ _ _ _ hcall).1
    simp only [Hp.n_push] at hk
    rw [hcall] at h
    have hP := post_push (lo := g) (b := .loop { state := .ready, pending := none, tmps := st.T, params := ps.toList, assign := xa, body := xb })
      (obj := .loop { state := .ready, pending := none, fn, tmps := a.tmps, params := ps, assign := ca, body := cb, defers := r0'.defers }) (size := 0) hR (by omega)
      (w1 := w.alloc (.loop { state := .ready, pending := none, fn, tmps := a.tmps, params := ps, assign := ca, body := cb, defers := r0'.defers })) rfl ⟨rfl, rfl, rfl⟩
      ⟨_, nt, World.alloc_heap_new _ _, rfl, rfl, rfl, hps, ha, hb, hT.mono (ext_ins (hR.fresh (by omega)))⟩
    exact range_core (l := st.A.n) (e := ⟨w.heap.size, 0, 0⟩) (nt := nt) (mark := []) hcf hu hlab r1 r2 hcall (by omega) (run_enterLoop_inner hw0 _ _ _ _ _) hP (ins_same _ _ _) (hR.fresh (by omega)) h hT (hD.mono hP.ext) hQ
end
end Go.Ab
namespace Go.Ab
def AllFrom (p : Nat → Prop) : Nat → Nat → Prop
  | _, 0 => True
  | i, n + 1 => p i ∧ AllFrom p (i + 1) n
theorem AllFrom.at {p : Nat → Prop} : ∀ {n i : Nat}, AllFrom p i n → ∀ k, i ≤ k → k < i + n → p k := by
  intro n
  induction n with
  | zero => intro i _ k h1 h2; omega
  | succ n ih =>
    intro i h k h1 h2
    rcases Nat.lt_or_ge i k with h3 | h3
    · exact ih h.2 k h3 (by omega)
    · have : k = i := by omega
      exact this ▸ h.1
section
variable {E : Env} {nt : Nat} {cv : CallFn} {cf : Nat → Nat → List Value → Hp → Option (Value × Hp)}
theorem region_sound (hcv : CallSound E cv) (hck : CallKeeps cv) {id : Nat} {ops : Array Oper} {draw : Bool} {al : List AOper}
    (hc : compOpers E.P E.lab nt ops.toList draw (befA (ops.toList.map edgesOf)) 0 ops.toList = some al) (hd : (!draw || drawOk al (ops.toList.map edgesOf)) = true) :
    Sound E nt (fun g _ st => opsSt cv g al st) (wpc E (.region id ops draw)) := by
  intro g rd st ex st' h lim φ a w ro hlim hT hD hR hrd Q hQ
  replace h : opsSt cv g al st = some (ex, st') := h
  simp only [opsSt, Option.map_eq_some_iff] at h
  obtain ⟨⟨T', A'⟩, h, he⟩ := h
  cases he
  have hf := formed_of hc
  have fin : ∀ φ' a' w', RelT E.lab φ' nt T' a'.tmps → Post E lim φ st.A w g φ' A' w' → a'.defers = a.defers → Q .normal a' w' :=
    fun φ' a' w' k1 k2 k3 => hQ φ' a' w' k1 (by rw [k3]; exact hD.mono k2.ext) k2
  cases draw with
  | true => exact drawn_sound hcv hck hf (by simpa using hd) h hlim hT hR ro fin
  | false =>
    obtain ⟨s, h0, h1, h2⟩ := opsA_states h
    rw [hf.1] at h1
    refine wpIn_region ?_
    rw [List.range_eq_range']
    refine text_sound (lim := lim) (st := s) hcv hck (by rw [h1]; exact hlim) hf h2 ops.size 0 (by omega) φ a w (by rw [h0]; exact hT) (by rw [h0]; exact hR) ro Q fun φ' a' w' k1 k2 k3 => ?_
    rw [h1] at k1 k2
    rw [h0] at k2
    exact fin φ' a' w' k1 k2 k3
theorem code_sound (hcv : CallSound E cv) (hck : CallKeeps cv) (hcf : CfSound E cf) (hfk : FnKeeps cf) (m : Nat) : RunSound E (codeA cv cf m) := by
  intro nt c
  have hk := codeA_keeps hck hfk m
  induction c with
  | skip =>
    intro ac hc; cases hc
    intro g rd st ex st' h lim φ a w ro hlim hT hD hR hrd Q hQ
    cases h
    exact wpIn_skip (hQ φ a w hT hD (Post.refl hR))
  | label l =>
    intro ac hc; cases hc
    intro g rd st ex st' h lim φ a w ro hlim hT hD hR hrd Q hQ
    cases h
    exact wpIn_label (hQ φ a w hT hD (Post.refl hR))
  | exit id =>
    intro ac hc; cases hc
    intro g rd st ex st' h lim φ a w ro hlim hT hD hR hrd Q hQ
    cases h
    exact wpIn_exit (hQ φ a w hT hD (Post.refl hR))
  | ret =>
    intro ac hc; cases hc
    intro g rd st ex st' h lim φ a w ro hlim hT hD hR hrd Q hQ
    cases h
    exact wpIn_ret (hQ φ a w hT hD (Post.refl hR))
  | region id ops draw =>
    intro ac hc
    simp only [compCode] at hc
    split at hc
    · rename_i al hal
      split at hc
      · rename_i hd
        cases hc
        exact region_sound hcv hck hal hd
      · cases hc
    · cases hc
  | seq x y ihx ihy =>
    intro ac hc
    simp only [compCode] at hc
    split at hc
    · rename_i ax ay hx hy
      cases hc
      intro g rd st ex st' h lim φ a w ro hlim hT hD hR hrd Q hQ
      exact wpIn_seq (then_sound (ihx ax hx) (ihy ay hy) (hk ay) g rd st ex st' h lim φ a w ro hlim hT hD hR hrd Q hQ)
    · cases hc
  | cond c x y ihx ihy =>
    intro ac hc
    simp only [compCode] at hc
    split at hc
    · rename_i z ax ay hz hx hy
      cases hc
      intro g rd st ex st' h lim φ a w ro hlim hT hD hR hrd Q hQ
      replace h : condA (codeA cv cf m ax) (codeA cv cf m ay) g rd st (ev st.T z) = some (ex, st') := h
      have hz' := hT.eval hz
      unfold condA at h
      split at h
      · rename_i hev
        rw [hev] at hz'
        exact wpIn_cond_true (bool_inv hz') (ihx ax hx g rd st ex st' h lim φ a w ro hlim hT hD hR hrd Q hQ)
      · rename_i hev
        rw [hev] at hz'
        exact wpIn_cond_false (bool_inv hz') (ihy ay hy g rd st ex st' h lim φ a w ro hlim hT hD hR hrd Q hQ)
      · cases h
    · cases hc
  | block id c ih =>
    intro ac hc
    simp only [compCode, Option.map_eq_some_iff] at hc
    obtain ⟨x, hx, rfl⟩ := hc
    intro g rd st ex st' h lim φ a w ro hlim hT hD hR hrd Q hQ
    replace h : inBlk id (codeA cv cf m x g rd st) = some (ex, st') := h
    refine wpIn_block ?_
    cases hr : codeA cv cf m x g rd st with
    | none => rw [hr] at h; cases h
    | some r =>
      obtain ⟨ex1, st1⟩ := r
      rw [hr] at h
      cases ex1 with
      | normal => cases h; exact ih x hx g rd st _ _ hr lim φ a w ro hlim hT hD hR hrd _ hQ
      | ret => cases h; exact ih x hx g rd st _ _ hr lim φ a w ro hlim hT hD hR hrd _ hQ
      | exit i =>
        simp only [inBlk] at h
        split at h
        · rename_i hi
          cases h
          refine ih x hx g rd st _ _ hr lim φ a w ro hlim hT hD hR hrd _ fun φ' a' w' k1 k2 k3 => ?_
          show (if i = id then Q .normal a' w' else Q (.exit i) a' w')
          rw [if_pos hi]; exact hQ φ' a' w' k1 k2 k3
        · rename_i hi
          cases h
          refine ih x hx g rd st _ _ hr lim φ a w ro hlim hT hD hR hrd _ fun φ' a' w' k1 k2 k3 => ?_
          show (if i = id then Q .normal a' w' else Q (.exit i) a' w')
          rw [if_neg hi]; exact hQ φ' a' w' k1 k2 k3
  | loop c ih =>
    intro ac hc
    simp only [compCode, Option.map_eq_some_iff] at hc
    obtain ⟨x, hx, rfl⟩ := hc
    intro g rd st ex st' h lim φ a w ro hlim hT hD hR hrd Q hQ
    exact wpIn_loop_rounds m (iter_sound (ih x hx) (hk x) m g rd st ex st' h lim φ a w ro hlim hT hD hR hrd Q hQ)
  | rangeFunc f ps x y ihx ihy =>
    intro ac hc
    simp only [compCode] at hc
    split at hc
    · rename_i z ax ay hz hx hy
      split at hc
      · rename_i hps
        cases hc
        intro g rd st ex st' h
        exact range_sound hcf hfk hz hx hy (fun p hp => by simpa using List.all_eq_true.1 hps p hp) g rd st ex st' h
      · cases hc
    · cases hc
  | _ => intro ac hc; simp only [compCode] at hc; cases hc
theorem callV_sound {K : Nat → Option Spec} {run : ACode → RunFn} (hK : SpecsOk E K) (hrun : RunSound E run) (hk : ∀ c, RunKeeps (run c)) : CallSound E (callV E.AP K run) := by
  intro g f args A v A' h
  unfold callV at h
  split at h
  · rename_i hh first captured
    rcases callF_sound hK hrun hk h with ⟨nt, rs, body, hap, hs⟩ | ⟨hap, hs, hA⟩
    · exact .inl ⟨hh, first, captured, nt, rs, body, rfl, hap, hs⟩
    · exact .inr (.inl ⟨hh, first, captured, rfl, hap, hs, hA⟩)
  · exact .inr (.inr ⟨_, rfl, round_sound hrun hk h⟩)
  · cases h
theorem exec_sound {K : Nat → Option Spec} (hK : SpecsOk E K) (m : Nat) : ∀ d, RunSound E (exec E.AP K m d) := by
  intro d
  induction d with
  | zero => intro nt c ac _ g rd st ex st' h; cases h
  | succ d ih =>
    have hk := exec_keeps (AP := E.AP) hK.keeps m d
    exact code_sound (callV_sound hK ih hk) (callV_keeps hK.keeps hk) (fun _ _ _ _ _ _ h => callF_sound hK ih hk h) (callF_keeps hK.keeps hk) m
noncomputable def callA (AP : Nat → Option AFunc) (K : Nat → Option Spec) (m d : Nat) : Nat → Nat → List Value → Hp → Option (Value × Hp) := callF AP K (exec AP K m d)
theorem callA_sound {K : Nat → Option Spec} (hK : SpecsOk E K) {m d f g : Nat} {args : List Value} {A : Hp} {v : Value} {A' : Hp} (h : callA E.AP K m d g f args A = some (v, A')) (hf : ∃ nt rs body, E.AP f = some (.fn nt rs body)) :
    FnSound E g f args A v A' := by
  rcases callF_sound hK (exec_sound hK m d) (exec_keeps hK.keeps m d) h with ⟨_, _, _, _, hs⟩ | ⟨hap, _⟩
  · exact hs
  · obtain ⟨nt, rs, body, hfn⟩ := hf
    rw [hfn] at hap; cases hap
end
end Go.Ab
